import PyProof.Rows.All
import HandS.ForMost
import HandS.Zip
import HandS.TupAny
import HandS.Deep
import HandS.Walk
import HandS.SetFor
import HandS.TupSets
import KE.SortData
import KE.OsSortAny
import KE.KDictItemsList
import HandS.More
import HandS.Conv
import HandS.DictTup
import HandS.Defaults
import HandS.TupMul
import PyProof.TupleOfStr
import PyProof.ListStr
import KE.DataMinMax
import HandS.TupLe
import HandS.IsInst
import KE.GoesEnum
import KE.GoesMore
import HandS.ForDict
import KE.KUnpack
import KE.GoesZip
import KE.KDictZip
import HandS.Head0
import HandS.Head1
import HandS.Head2
import HandS.HeadEnd
import HandS.HeadHook1
import HandS.HeadHook2
import Wide.All
import OpenK.AllK
import Wide.FinOn
import KE.KStateDown
import PySem.Challenge.RW_footlines_k23_whole_how_far
-- FoA.lean
set_option Elab.async false
set_option linter.all false
set_option maxRecDepth 100000
set_option maxHeartbeats 1000000
namespace Fo
open PySem L2

/-! ### data, without addresses -/
abbrev Tx := List Nat
def tx (l : Tx) : Str := ⟨l.toArray⟩
inductive D where
  | non | bl (b : Bool) | int (i : Int) | str (x : Tx)
  | tup (xs : List D) | lst (xs : List D)
  | dct (ks : List (D × D))
  | scr (ns : List Int)
  | raw (v : V)
abbrev Cx := L2.Cx
abbrev St := L2.St

theorem tx_inj {a b : Tx} (h : tx a = tx b) : a = b := by
  have := congrArg (fun s : Str => s.cps.toList) h
  simpa [tx] using this
theorem tx_len (a : Tx) : (tx a).length = a.length := by simp [tx, Str.length]
theorem tx_app (a b : Tx) : tx a ++ tx b = tx (a ++ b) := by
  show Str.append (tx a) (tx b) = _
  simp [Str.append, tx]
theorem tx_cps (a : Tx) : (tx a).cps.toList = a := by simp [tx]
theorem tx_of (x : Str) : tx x.cps.toList = x := by cases x; simp [tx]

def keyOf : D → Option Key
  | .int i => some (.inl i)
  | .str x => some (.inr (tx x))
  | _ => none

mutual
inductive Rp (K : PySem.W.Frag) (S : Hp) : V → D → Prop
  | non : Rp K S .non .non
  | bl (b : Bool) : Rp K S (.bl b) (.bl b)
  | int (i : Int) : Rp K S (.int i) (.int i)
  | str (x : Tx) : Rp K S (.str (tx x)) (.str x)
  | tup {a : Addr} {vs : List V} {ds : List D} : S a = some (.tup vs) → RpL K S vs ds → Rp K S (.ref a) (.tup ds)
  | lst {a : Addr} {vs : List V} {ds : List D} : S a = some (.lst vs) → RpL K S vs ds → Rp K S (.ref a) (.lst ds)
  | dct {a : Addr} {kvs : List (Key × V)} {ks : List (D × D)} : S a = some (.dK kvs) → RpK K S kvs ks → Rp K S (.ref a) (.dct ks)
  | scr {a : Addr} {ns : List Int} : SqL K S a (ns.map V.int) → Rp K S (.ref a) (.scr ns)
  | raw (v : V) : Rp K S v (.raw v)
inductive RpL (K : PySem.W.Frag) (S : Hp) : List V → List D → Prop
  | nil : RpL K S [] []
  | cons {v : V} {vs : List V} {d : D} {ds : List D} : Rp K S v d → RpL K S vs ds → RpL K S (v :: vs) (d :: ds)
inductive RpK (K : PySem.W.Frag) (S : Hp) : List (Key × V) → List (D × D) → Prop
  | nil : RpK K S [] []
  | cons {k : Key} {v : V} {kvs : List (Key × V)} {kd d : D} {ks : List (D × D)} : keyOf kd = some k → Rp K S v d → RpK K S kvs ks → RpK K S ((k, v) :: kvs) ((kd, d) :: ks)
end

def Ext (S S' : Hp) : Prop := ∀ a u, S a = some u → S' a = some u
theorem Ext.refl (S : Hp) : Ext S S := fun _ _ h => h
theorem Ext.trans {S S1 S2 : Hp} (a : Ext S S1) (b : Ext S1 S2) : Ext S S2 := fun c u h => b c u (a c u h)
theorem Ext.rd {S S' : Hp} (e : Ext S S') {a : Addr} {u : HO} (h : Rd S a u) : Rd S' a u := by
  rcases h with h | ⟨o, h⟩
  · exact .inl (e _ _ h)
  · exact .inr ⟨o, e _ _ h⟩
theorem Ext.sqL {K : PySem.W.Frag} {S S' : Hp} (e : Ext S S') {a : Addr} {xs : List V} (h : SqL K S a xs) : SqL K S' a xs := by
  rcases h with h | h
  · exact .inl (e.rd h)
  · exact .inr h

section
variable {K : PySem.W.Frag} {S S' H H' : Hp}
mutual
theorem Rp.ext (e : Ext S S') : ∀ (d : D) (v : V), Rp K S v d → Rp K S' v d
  | .non, _, h => by cases h; exact .non
  | .bl b, _, h => by cases h; exact .bl b
  | .int i, _, h => by cases h; exact .int i
  | .str x, _, h => by cases h; exact .str x
  | .tup ds, _, h => by cases h with | tup h1 h2 => exact .tup (e _ _ h1) (RpL.ext e ds _ h2)
  | .lst ds, _, h => by cases h with | lst h1 h2 => exact .lst (e _ _ h1) (RpL.ext e ds _ h2)
  | .dct ks, _, h => by cases h with | dct h1 h2 => exact .dct (e _ _ h1) (RpK.ext e ks _ h2)
  | .scr ns, _, h => by cases h with | scr h1 => exact .scr (e.sqL h1)
  | .raw v, _, h => by cases h; exact .raw v
theorem RpL.ext (e : Ext S S') : ∀ (ds : List D) (vs : List V), RpL K S vs ds → RpL K S' vs ds
  | [], _, h => by cases h; exact .nil
  | d :: ds, _, h => by cases h with | cons h1 h2 => exact .cons (Rp.ext e d _ h1) (RpL.ext e ds _ h2)
theorem RpK.ext (e : Ext S S') : ∀ (ks : List (D × D)) (kvs : List (Key × V)), RpK K S kvs ks → RpK K S' kvs ks
  | [], _, h => by cases h; exact .nil
  | (kd, d) :: ks, _, h => by cases h with | cons h0 h1 h2 => exact .cons h0 (Rp.ext e d _ h1) (RpK.ext e ks _ h2)
end
theorem Rp.mono (e : Ext S S') {d : D} {v : V} (h : Rp K S v d) : Rp K S' v d := Rp.ext e d v h
theorem RpL.mono (e : Ext S S') {d : List D} {v : List V} (h : RpL K S v d) : RpL K S' v d := RpL.ext e d v h
theorem RpK.mono (e : Ext S S') {d : List (D × D)} {v : List (Key × V)} (h : RpK K S v d) : RpK K S' v d := RpK.ext e d v h

theorem RpL.length : ∀ {vs : List V} {ds : List D}, RpL K S vs ds → vs.length = ds.length
  | _, [], h => by cases h; rfl
  | _, d :: ds, h => by cases h with | cons h1 h2 => simp [RpL.length h2]
theorem RpL.get : ∀ {vs : List V} {ds : List D} {i : Nat} {d : D}, RpL K S vs ds → ds[i]? = some d → ∃ v, vs[i]? = some v ∧ Rp K S v d
  | _, [], _, _, h, e => by simp at e
  | _, d :: ds, 0, d', h, e => by
    cases h with
    | cons h1 h2 => simp at e; subst e; exact ⟨_, rfl, h1⟩
  | _, d :: ds, i + 1, d', h, e => by
    cases h with
    | cons h1 h2 =>
      obtain ⟨v, q, r⟩ := RpL.get (i := i) (d := d') h2 (by simpa using e)
      exact ⟨v, by simpa using q, r⟩
theorem RpL.get' : ∀ {vs : List V} {ds : List D} {i : Nat} {v : V}, RpL K S vs ds → vs[i]? = some v → ∃ d, ds[i]? = some d ∧ Rp K S v d
  | [], _, _, _, h, e => by simp at e
  | _ :: _, _, 0, v', h, e => by
    cases h with
    | cons h1 h2 => simp at e; subst e; exact ⟨_, rfl, h1⟩
  | _ :: _, _, i + 1, v', h, e => by
    cases h with
    | cons h1 h2 =>
      obtain ⟨v, q, r⟩ := RpL.get' (i := i) (v := v') h2 (by simpa using e)
      exact ⟨v, by simpa using q, r⟩
theorem RpL.append : ∀ {vs ws : List V} {ds es : List D}, RpL K S vs ds → RpL K S ws es → RpL K S (vs ++ ws) (ds ++ es)
  | _, _, [], _, h, k => by cases h; exact k
  | _, _, d :: ds, _, h, k => by cases h with | cons h1 h2 => exact .cons h1 (RpL.append h2 k)
theorem RpL.one {v : V} {d : D} (h : Rp K S v d) : RpL K S [v] [d] := .cons h .nil
theorem RpL.take : ∀ {vs : List V} {ds : List D} (n : Nat), RpL K S vs ds → RpL K S (vs.take n) (ds.take n)
  | _, _, 0, _ => by simp; exact .nil
  | _, [], n + 1, h => by cases h; exact .nil
  | _, d :: ds, n + 1, h => by cases h with | cons h1 h2 => exact .cons h1 (RpL.take n h2)
theorem RpL.drop : ∀ {vs : List V} {ds : List D} (n : Nat), RpL K S vs ds → RpL K S (vs.drop n) (ds.drop n)
  | _, _, 0, h => by simpa using h
  | _, [], n + 1, h => by cases h; exact .nil
  | _, d :: ds, n + 1, h => by cases h with | cons h1 h2 => exact RpL.drop n h2
theorem RpL.set {v : V} {d : D} (r : Rp K S v d) : ∀ {vs : List V} {ds : List D} (i : Nat), RpL K S vs ds → RpL K S (vs.set i v) (ds.set i d)
  | _, [], _, h => by cases h; exact .nil
  | _, d :: ds, 0, h => by cases h with | cons h1 h2 => exact .cons r h2
  | _, d :: ds, i + 1, h => by cases h with | cons h1 h2 => exact .cons h1 (RpL.set r i h2)
theorem RpL.reverse : ∀ {vs : List V} {ds : List D}, RpL K S vs ds → RpL K S vs.reverse ds.reverse
  | _, [], h => by cases h; exact .nil
  | _, d :: ds, h => by
    cases h with
    | cons h1 h2 =>
      rw [List.reverse_cons, List.reverse_cons]
      exact RpL.append (RpL.reverse h2) (.one h1)
theorem RpL.rep {vs : List V} {ds : List D} (h : RpL K S vs ds) : ∀ n : Nat, RpL K S (List.replicate n vs).flatten (List.replicate n ds).flatten
  | 0 => .nil
  | n + 1 => by
    rw [List.replicate_succ, List.replicate_succ, List.flatten_cons, List.flatten_cons]
    exact h.append (RpL.rep h n)
theorem RpK.length : ∀ {vs : List (Key × V)} {ds : List (D × D)}, RpK K S vs ds → vs.length = ds.length
  | _, [], h => by cases h; rfl
  | _, d :: ds, h => by cases h with | cons h0 h1 h2 => simp [RpK.length h2]

/-! ### the shared part of the heap, and how both grow -/
/-- S: what is shared and never changes; lk: a dict that is locked meanwhile -/
def Sub (lk : Option Addr) (S H : Hp) : Prop := ∀ a u, S a = some u → H a = some u ∨ (lk = some a ∧ (∃ kvs, u = .dK kvs) ∧ ∃ o, H a = some (.frz o u))
def Gr (lk : Option Addr) (S H S' H' : Hp) : Prop := Sub lk S' H' ∧ ∀ a, H a ≠ none → H' a = H a ∧ S' a = S a
theorem Sub.ne {lk : Option Addr} (h : Sub lk S H) {a : Addr} {u : HO} (e : S a = some u) : H a ≠ none := by
  rcases h a u e with q | ⟨_, _, o, q⟩ <;> rw [q] <;> simp
theorem Sub.none {lk : Option Addr} (h : Sub lk S H) {a : Addr} (e : H a = none) : S a = none := by
  cases q : S a with
  | none => rfl
  | some u => exact absurd e (h.ne q)
theorem Gr.refl {lk : Option Addr} (h : Sub lk S H) : Gr lk S H S H := ⟨h, fun _ _ => ⟨rfl, rfl⟩⟩
theorem Gr.trans {lk : Option Addr} {S1 H1 S2 H2 : Hp} (a : Gr lk S H S1 H1) (b : Gr lk S1 H1 S2 H2) : Gr lk S H S2 H2 :=
  ⟨b.1, fun c hc => by
    obtain ⟨e1, e2⟩ := a.2 c hc
    obtain ⟨f1, f2⟩ := b.2 c (by rw [e1]; exact hc)
    exact ⟨f1.trans e1, f2.trans e2⟩⟩
theorem Gr.ext {lk : Option Addr} (s : Sub lk S H) (g : Gr lk S H S' H') : Ext S S' := fun a u e => by rw [(g.2 a (s.ne e)).2]; exact e
theorem Gr.hext {lk : Option Addr} (g : Gr lk S H S' H') : Ext H H' := fun a u e => by rw [(g.2 a (by rw [e]; simp)).1]; exact e
theorem Gr.fresh {lk : Option Addr} (g : Gr lk S H S' H') {a : Addr} (h : H' a = Option.none) : H a = Option.none := by
  cases q : H a with
  | none => rfl
  | some u =>
    have := (g.2 a (by rw [q]; simp)).1
    rw [h, q] at this
    cases this
/-- a new object that is shared -/
theorem Gr.new {lk : Option Addr} (s : Sub lk S H) {p : Addr} {o : HO} (h : H p = Option.none) : Gr lk S H (upd S p o) (upd H p o) := by
  refine ⟨fun a u e => ?_, fun a ha => ?_⟩
  · by_cases q : a = p
    · subst q; rw [upd_same] at e ⊢; exact .inl e
    · rw [upd_ne q] at e ⊢; exact s a u e
  · have q : a ≠ p := fun e => ha (e ▸ h)
    rw [upd_ne q, upd_ne q]; exact ⟨rfl, rfl⟩
/-- a new object that is our own -/
theorem Gr.own {lk : Option Addr} (s : Sub lk S H) {p : Addr} {o : HO} (h : H p = Option.none) : Gr lk S H S (upd H p o) := by
  refine ⟨fun a u e => ?_, fun a ha => ?_⟩
  · have q : a ≠ p := fun z => s.ne e (z ▸ h)
    rw [upd_ne q]; exact s a u e
  · have q : a ≠ p := fun e => ha (e ▸ h)
    rw [upd_ne q]; exact ⟨rfl, rfl⟩

/-! ### what may be read only: also the frame's own lists and dicts -/
inductive RpW (K : PySem.W.Frag) (S H : Hp) : V → D → Prop
  | sh {v : V} {d : D} : Rp K S v d → RpW K S H v d
  | ol {a : Addr} {vs : List V} {ds : List D} : H a = some (.lst vs) → RpL K S vs ds → RpW K S H (.ref a) (.lst ds)
  | ok {a : Addr} {kvs : List (Key × V)} {ks : List (D × D)} : H a = some (.dK kvs) → RpK K S kvs ks → RpW K S H (.ref a) (.dct ks)
theorem RpW.gr {lk : Option Addr} (s : Sub lk S H) (g : Gr lk S H S' H') {v : V} {d : D} (h : RpW K S H v d) : RpW K S' H' v d := by
  cases h with
  | sh h => exact .sh (h.mono (g.ext s))
  | ol e h => exact .ol (g.hext _ _ e) (h.mono (g.ext s))
  | ok e h => exact .ok (g.hext _ _ e) (h.mono (g.ext s))
theorem RpW.non_inv {v : V} (h : RpW K S H v .non) : v = .non := by
  cases h with | sh h => cases h; rfl
theorem RpW.bl_inv {v : V} {b : Bool} (h : RpW K S H v (.bl b)) : v = .bl b := by
  cases h with | sh h => cases h; rfl
theorem RpW.int_inv {v : V} {b : Int} (h : RpW K S H v (.int b)) : v = .int b := by
  cases h with | sh h => cases h; rfl
theorem RpW.str_inv {v : V} {b : Tx} (h : RpW K S H v (.str b)) : v = .str (tx b) := by
  cases h with | sh h => cases h; rfl
theorem RpW.raw_inv {v w : V} (h : RpW K S H v (.raw w)) : v = w := by
  cases h with | sh h => cases h; rfl
theorem RpW.tup_inv {lk : Option Addr} (s : Sub lk S H) {v : V} {ds : List D} (h : RpW K S H v (.tup ds)) : ∃ a vs, v = .ref a ∧ H a = some (.tup vs) ∧ S a = some (.tup vs) ∧ RpL K S vs ds := by
  cases h with
  | sh h =>
    cases h with
    | tup e r =>
      refine ⟨_, _, rfl, ?_, e, r⟩
      rcases s _ _ e with q | ⟨_, ⟨_, z⟩, _⟩
      · exact q
      · cases z
theorem RpW.lst_inv {lk : Option Addr} (s : Sub lk S H) {v : V} {ds : List D} (h : RpW K S H v (.lst ds)) : ∃ a vs, v = .ref a ∧ H a = some (.lst vs) ∧ RpL K S vs ds := by
  cases h with
  | sh h =>
    cases h with
    | lst e r =>
      refine ⟨_, _, rfl, ?_, r⟩
      rcases s _ _ e with q | ⟨_, ⟨_, z⟩, _⟩
      · exact q
      · cases z
  | ol e r => exact ⟨_, _, rfl, e, r⟩
theorem RpW.dct_inv {lk : Option Addr} (s : Sub lk S H) {v : V} {ks : List (D × D)} (h : RpW K S H v (.dct ks)) : ∃ a kvs, v = .ref a ∧ Rd H a (.dK kvs) ∧ (lk = none → H a = some (.dK kvs)) ∧ RpK K S kvs ks := by
  cases h with
  | sh h =>
    cases h with
    | dct e r =>
      rcases s _ _ e with q | ⟨z, _, o, q⟩
      · exact ⟨_, _, rfl, .inl q, fun _ => q, r⟩
      · exact ⟨_, _, rfl, .inr ⟨o, q⟩, (fun n => by rw [n] at z; cases z), r⟩
  | ok e r => exact ⟨_, _, rfl, .inl e, fun _ => e, r⟩
theorem RpW.scr_inv {lk : Option Addr} (s : Sub lk S H) {v : V} {ns : List Int} (h : RpW K S H v (.scr ns)) : ∃ a, v = .ref a ∧ SqL K H a (ns.map V.int) := by
  cases h with
  | sh h =>
    cases h with
    | scr h =>
      refine ⟨_, rfl, ?_⟩
      rcases h with (h | ⟨o, h⟩) | h
      · rcases s _ _ h with q | ⟨_, ⟨_, z⟩, _⟩
        · exact .inl (.inl q)
        · cases z
      · rcases s _ _ h with q | ⟨_, ⟨_, z⟩, _⟩
        · exact .inl (.inr ⟨o, q⟩)
        · cases z
      · exact .inr h
end

/-! ### the frame: slots as data -/
inductive Cell where
  | d (x : D) | l (xs : List D) | k (ks : List (D × D))
abbrev Env := List (Option Cell)
def CRep (K : PySem.W.Frag) (B S H : Hp) (v : V) : Cell → Prop
  | .d x => Rp K S v x
  | .l xs => ∃ a vs, v = .ref a ∧ H a = some (.lst vs) ∧ S a = none ∧ B a = none ∧ RpL K S vs xs
  | .k ks => ∃ a kvs, v = .ref a ∧ H a = some (.dK kvs) ∧ S a = none ∧ B a = none ∧ RpK K S kvs ks
def Cell.own : Cell → Bool
  | .d _ => false
  | _ => true
structure ER (K : PySem.W.Frag) (B S H : Hp) (σ : St) (ρ : Env) : Prop where
  len : σ.length = ρ.length
  at_ : ∀ (i : Nat) (c : Cell), ρ[i]? = some (some c) → ∃ v, σ[i]? = some (some v) ∧ CRep K B S H v c
  sep : ∀ (i j : Nat) (c c' : Cell) (v : V), ρ[i]? = some (some c) → ρ[j]? = some (some c') → c.own = true → c'.own = true → σ[i]? = some (some v) → σ[j]? = some (some v) → i = j
section
variable {K : PySem.W.Frag} {B S S' H H' : Hp} {σ : St} {ρ : Env}
theorem CRep.gr {lk : Option Addr} (s : Sub lk S H) (g : Gr lk S H S' H') {v : V} {c : Cell} (h : CRep K B S H v c) : CRep K B S' H' v c := by
  cases c with
  | d x => exact Rp.mono (g.ext s) h
  | l xs =>
    obtain ⟨a, vs, e, h1, h2, h3, h4⟩ := h
    exact ⟨a, vs, e, g.hext _ _ h1, by rw [(g.2 a (by rw [h1]; simp)).2]; exact h2, h3, h4.mono (g.ext s)⟩
  | k ks =>
    obtain ⟨a, vs, e, h1, h2, h3, h4⟩ := h
    exact ⟨a, vs, e, g.hext _ _ h1, by rw [(g.2 a (by rw [h1]; simp)).2]; exact h2, h3, h4.mono (g.ext s)⟩
theorem ER.gr {lk : Option Addr} (s : Sub lk S H) (g : Gr lk S H S' H') (h : ER K B S H σ ρ) : ER K B S' H' σ ρ :=
  ⟨h.len, fun i c e => by
    obtain ⟨v, q, r⟩ := h.at_ i c e
    exact ⟨v, q, r.gr s g⟩, h.sep⟩
/-- what is stored in a slot -/
theorem ER.set {i : Nat} {v : V} {c : Cell} (h : ER K B S H σ ρ) (hc : CRep K B S H v c) (hn : c.own = true → ∀ j c' w, j ≠ i → ρ[j]? = some (some c') → c'.own = true → σ[j]? = some (some w) → w ≠ v) : ER K B S H (σ.set i (some v)) (ρ.set i (some c)) := by
  refine ⟨by simp [h.len], fun j c' e => ?_, fun j k c1 c2 w e1 e2 o1 o2 f1 f2 => ?_⟩
  · by_cases q : i = j
    · subst q
      by_cases hi : i < ρ.length
      · rw [List.getElem?_set_self hi] at e
        have : c = c' := by simpa using e
        subst this
        exact ⟨v, by rw [List.getElem?_set_self (by rw [h.len]; exact hi)], hc⟩
      · rw [List.getElem?_eq_none (by simp; omega)] at e; cases e
    · rw [List.getElem?_set_ne q] at e
      obtain ⟨w, f, r⟩ := h.at_ j c' e
      exact ⟨w, by rw [List.getElem?_set_ne q]; exact f, r⟩
  · by_cases q1 : i = j
    · by_cases q2 : i = k
      · exact q1 ▸ q2 ▸ rfl
      · subst q1
        have hi : i < ρ.length := by
          rcases Nat.lt_or_ge i ρ.length with z | z
          · exact z
          · rw [List.getElem?_eq_none (by simp; omega)] at e1; cases e1
        rw [List.getElem?_set_self hi] at e1
        rw [List.getElem?_set_self (by rw [h.len]; exact hi)] at f1
        rw [List.getElem?_set_ne q2] at e2 f2
        have ec : c = c1 := by simpa using e1
        have ev : v = w := by simpa using f1
        subst ec ev
        exact absurd rfl (hn o1 k c2 v (Ne.symm q2) e2 o2 f2)
    · rw [List.getElem?_set_ne q1] at e1 f1
      by_cases q2 : i = k
      · subst q2
        have hi : i < ρ.length := by
          rcases Nat.lt_or_ge i ρ.length with z | z
          · exact z
          · rw [List.getElem?_eq_none (by simp; omega)] at e2; cases e2
        rw [List.getElem?_set_self hi] at e2
        rw [List.getElem?_set_self (by rw [h.len]; exact hi)] at f2
        have ec : c = c2 := by simpa using e2
        have ev : v = w := by simpa using f2
        subst ec ev
        exact absurd rfl (hn o2 j c1 v (Ne.symm q1) e1 o1 f1)
      · rw [List.getElem?_set_ne q2] at e2 f2
        exact h.sep j k c1 c2 w e1 e2 o1 o2 f1 f2
/-- what is not owned may be stored anywhere -/
theorem ER.setD {i : Nat} {v : V} {d : D} (h : ER K B S H σ ρ) (hc : Rp K S v d) : ER K B S H (σ.set i (some v)) (ρ.set i (some (.d d))) := h.set hc (fun z => by cases z)
/-- a slot that is forgotten -/
theorem ER.drop {i : Nat} (h : ER K B S H σ ρ) : ER K B S H σ (ρ.set i none) := by
  have back : ∀ j c, (ρ.set i none)[j]? = some (some c) → ρ[j]? = some (some c) := fun j c e => by
    by_cases q : i = j
    · subst q
      by_cases hi : i < ρ.length
      · rw [List.getElem?_set_self hi] at e; cases e
      · rw [List.getElem?_eq_none (by simp; omega)] at e; cases e
    · rw [List.getElem?_set_ne q] at e; exact e
  exact ⟨by simp [h.len], fun j c e => h.at_ j c (back j c e), fun j k c c' v e1 e2 => h.sep j k c c' v (back j c e1) (back k c' e2)⟩
theorem ER.wipe (h : ER K B S H σ ρ) : ∀ vs : List Nat, ER K B S H (L2.wipe σ vs) (vs.foldr (fun v r => r.set v none) ρ)
  | [] => h
  | v :: vs => by
    have ih := ER.wipe h vs
    show ER K B S H ((L2.wipe σ vs).set v none) ((vs.foldr (fun v r => r.set v none) ρ).set v none)
    have ih' := ih.drop (i := v)
    generalize hr : (vs.foldr (fun v r => r.set v none) ρ).set v none = ρ' at *
    have hn : ∀ c, ρ'[v]? ≠ some (some c) := fun c e => by
      rw [← hr] at e
      by_cases hi : v < (vs.foldr (fun v r => r.set v none) ρ).length
      · rw [List.getElem?_set_self hi] at e; cases e
      · rw [List.getElem?_eq_none (by simp; omega)] at e; cases e
    refine ⟨by simp [ih'.len], fun j c e => ?_, fun j k c c' w e1 e2 o1 o2 f1 f2 => ?_⟩
    · have q : v ≠ j := fun z => hn c (z ▸ e)
      rw [List.getElem?_set_ne q]
      exact ih'.at_ j c e
    · have q1 : v ≠ j := fun z => hn c (z ▸ e1)
      have q2 : v ≠ k := fun z => hn c' (z ▸ e2)
      rw [List.getElem?_set_ne q1] at f1
      rw [List.getElem?_set_ne q2] at f2
      exact ih'.sep j k c c' w e1 e2 o1 o2 f1 f2
end
end Fo
-- FoB.lean
set_option Elab.async false
set_option linter.all false
set_option maxRecDepth 100000
set_option maxHeartbeats 1000000
noncomputable section
namespace Fo
open PySem L2

theorem PE_imp {X : Cx} {e : Expr} {t t' : TE} (h : PE X e t) (k : ∀ σ H Q, t' σ H Q → t σ H Q) : PE X e t' := ⟨fun pins s σ H Q I q => h.run pins s σ H Q I (k _ _ _ q)⟩
theorem PT_imp {X : Cx} {e : Expr} {t t' : TT} (h : PT X e t) (k : ∀ σ H Q, t' σ H Q → t σ H Q) : PT X e t' := ⟨fun pins s σ H Q I q => h.run pins s σ H Q I (k _ _ _ q)⟩
theorem PW_imp {X : Cx} {e : Expr} {t t' : TT} (h : PW X e t) (k : ∀ σ H Q, t' σ H Q → t σ H Q) : PW X e t' := ⟨fun wh pins s σ H Q I q => h.run wh pins s σ H Q I (k _ _ _ q)⟩
theorem PA_imp {X : Cx} {es : List Expr} {t t' : TA} (h : PA X es t) (k : ∀ σ H Q, t' σ H Q → t σ H Q) : PA X es t' := ⟨fun pos pins s σ H Q I q => h.run pos pins s σ H Q I (k _ _ _ q)⟩
theorem PI_imp {X : Cx} {tg e : Expr} {t t' : TI} (h : PI X tg e t) (k : ∀ σ H R, t' σ H R → t σ H R) : PI X tg e t' := ⟨fun pins s σ H Q I q => h.run pins s σ H Q I (k _ _ _ q)⟩
theorem PS_imp {X : Cx} {e : Stmt} {t t' : TS} (h : PS X e t) (k : ∀ D σ H, t' D σ H → t D σ H) : PS X e t' := ⟨fun pins s σ H Q I q => h.run pins s σ H Q I (k _ _ _ q)⟩
theorem PSs_imp {X : Cx} {e : List Stmt} {t t' : TS} (h : PSs X e t) (k : ∀ D σ H, t' D σ H → t D σ H) : PSs X e t' := ⟨fun pins s σ H Q I q => h.run pins s σ H Q I (k _ _ _ q)⟩

/-! ### readings over data -/
def rdE (K : PySem.W.Frag) (b : Bool) (f : Env → Option D) : TE := fun σ H Q => ∃ lk B S ρ d, (b = false → lk = none) ∧ Sub lk S H ∧ ER K B S H σ ρ ∧ f ρ = some d ∧ ∀ v S' H', Gr lk S H S' H' → Rp K S' v d → Q v H'
def rdW (K : PySem.W.Frag) (b : Bool) (f : Env → Option D) : TE := fun σ H Q => ∃ lk B S ρ d, (b = false → lk = none) ∧ Sub lk S H ∧ ER K B S H σ ρ ∧ f ρ = some d ∧ ∀ v S' H', Gr lk S H S' H' → RpW K S' H' v d → Q v H'
def rdT (K : PySem.W.Frag) (b : Bool) (f : Env → Option Bool) : TT := fun σ H Q => ∃ lk B S ρ d, (b = false → lk = none) ∧ Sub lk S H ∧ ER K B S H σ ρ ∧ f ρ = some d ∧ ∀ S' H', Gr lk S H S' H' → Q d H'
def rdA (K : PySem.W.Frag) (b : Bool) (f : Env → Option (List D)) : TA := fun σ H Q => ∃ lk B S ρ ds, (b = false → lk = none) ∧ Sub lk S H ∧ ER K B S H σ ρ ∧ f ρ = some ds ∧ ∀ vs S' H', Gr lk S H S' H' → RpL K S' vs ds → Q vs H'
def rdAW (K : PySem.W.Frag) (b : Bool) (f : Env → Option (List D)) : TA := fun σ H Q => ∃ lk B S ρ ds, (b = false → lk = none) ∧ Sub lk S H ∧ ER K B S H σ ρ ∧ f ρ = some ds ∧ ∀ vs S' H', Gr lk S H S' H' → Paired (RpW K S' H') vs ds → Q vs H'
def rdO (K : PySem.W.Frag) (b : Bool) (f : Env → Option (Option Int)) : TO := fun σ H Q => ∃ lk B S ρ d, (b = false → lk = none) ∧ Sub lk S H ∧ ER K B S H σ ρ ∧ f ρ = some d ∧ ∀ S' H', Gr lk S H S' H' → Q d H'

structure JE (X : Cx) (b : Bool) (e : Expr) (f : Env → Option D) : Prop where
  pe : PE X e (rdE X.K b f)
structure JW (X : Cx) (b : Bool) (e : Expr) (f : Env → Option D) : Prop where
  pe : PE X e (rdW X.K b f)
structure JT (X : Cx) (b : Bool) (e : Expr) (f : Env → Option Bool) : Prop where
  pt : PT X e (rdT X.K b f)
structure JTW (X : Cx) (b : Bool) (e : Expr) (f : Env → Option Bool) : Prop where
  pw : PW X e (rdT X.K b f)
structure JA (X : Cx) (b : Bool) (es : List Expr) (f : Env → Option (List D)) : Prop where
  pa : PA X es (rdA X.K b f)
structure JAW (X : Cx) (b : Bool) (es : List Expr) (f : Env → Option (List D)) : Prop where
  pa : PA X es (rdAW X.K b f)
structure JO (X : Cx) (b : Bool) (e : Option Expr) (f : Env → Option (Option Int)) : Prop where
  po : PO X e (rdO X.K b f)

/-! what an operation on values must do -/
def rOf (K : PySem.W.Frag) (b : Bool) (g : D → D → Option D) : R2 := fun x y H Q => ∃ lk S d e z, (b = false → lk = none) ∧ Sub lk S H ∧ RpW K S H x d ∧ RpW K S H y e ∧ g d e = some z ∧ ∀ v S' H', Gr lk S H S' H' → Rp K S' v z → Q v H'
def rUof (K : PySem.W.Frag) (b : Bool) (g : D → Option D) : V → Hp → VK → Prop := fun x H Q => ∃ lk S d z, (b = false → lk = none) ∧ Sub lk S H ∧ RpW K S H x d ∧ g d = some z ∧ ∀ v S' H', Gr lk S H S' H' → Rp K S' v z → Q v H'
def rCof (K : PySem.W.Frag) (b : Bool) (g : List D → Option D) : List V → Hp → VK → Prop := fun xs H Q => ∃ lk S ds z, (b = false → lk = none) ∧ Sub lk S H ∧ Paired (RpW K S H) xs ds ∧ g ds = some z ∧ ∀ v S' H', Gr lk S H S' H' → Rp K S' v z → Q v H'
def rMof (K : PySem.W.Frag) (b : Bool) (g : D → List D → Option D) : V → List V → Hp → VK → Prop := fun x xs H Q => ∃ lk S d ds z, (b = false → lk = none) ∧ Sub lk S H ∧ RpW K S H x d ∧ Paired (RpW K S H) xs ds ∧ g d ds = some z ∧ ∀ v S' H', Gr lk S H S' H' → Rp K S' v z → Q v H'
def rSof (K : PySem.W.Frag) (b : Bool) (g : D → Option Int → Option Int → Option D) : V → Option Int → Option Int → Hp → VK → Prop := fun x lo hi H Q => ∃ lk S d z, (b = false → lk = none) ∧ Sub lk S H ∧ RpW K S H x d ∧ g d lo hi = some z ∧ ∀ v S' H', Gr lk S H S' H' → Rp K S' v z → Q v H'

section
variable {X : Cx} {b : Bool} {e a c : Expr} {pos : Pos} {f g : Env → Option D}
theorem JE.w (h : JE X b e f) : JW X b e f := ⟨PE_imp h.pe fun σ H Q ⟨lk, B, S, ρ, d, h1, h2, h3, h4, k⟩ => ⟨lk, B, S, ρ, d, h1, h2, h3, h4, fun v S' H' g r => k v S' H' g (.sh r)⟩⟩

/-! ### names and constants -/
def getS (i : Nat) : Env → Option D := fun ρ => match ρ[i]? with
  | some (some (.d d)) => some d
  | _ => none
def getW (i : Nat) : Env → Option D := fun ρ => match ρ[i]? with
  | some (some (.d d)) => some d
  | some (some (.l xs)) => some (.lst xs)
  | some (some (.k ks)) => some (.dct ks)
  | _ => none
theorem je_var (i : Nat) {x : PySem.Str} (hN : X.N[i]? = some x := by rfl) (hv : Vis X.env.scope x := by first | exact Or.inl rfl | exact Or.inr (Or.inl rfl) | exact Or.inr (Or.inr rfl)) (hd : (x == ("__debug__" : PySem.Str)) = false := by decide)
    (hcd : (x == ("__classdict__" : PySem.Str)) = false := by decide) : JE X b (.Name x pos) (getS i) := ⟨PE_imp (pe_var hN hv hd hcd) fun σ H Q ⟨lk, B, S, ρ, d, h1, h2, h3, h4, k⟩ => by
  unfold getS at h4
  split at h4
  · rename_i d' e'
    cases h4
    obtain ⟨v, q, r⟩ := h3.at_ i _ e'
    exact ⟨v, q, k v S H (Gr.refl h2) r⟩
  · cases h4⟩
theorem jw_var (i : Nat) {x : PySem.Str} (hN : X.N[i]? = some x := by rfl) (hv : Vis X.env.scope x := by first | exact Or.inl rfl | exact Or.inr (Or.inl rfl) | exact Or.inr (Or.inr rfl)) (hd : (x == ("__debug__" : PySem.Str)) = false := by decide)
    (hcd : (x == ("__classdict__" : PySem.Str)) = false := by decide) : JW X b (.Name x pos) (getW i) := ⟨PE_imp (pe_var hN hv hd hcd) fun σ H Q ⟨lk, B, S, ρ, d, h1, h2, h3, h4, k⟩ => by
  unfold getW at h4
  split at h4
  · rename_i d' e'
    cases h4
    obtain ⟨v, q, r⟩ := h3.at_ i _ e'
    exact ⟨v, q, k v S H (Gr.refl h2) (.sh r)⟩
  · rename_i xs e'
    cases h4
    obtain ⟨v, q, a, vs, rfl, r1, r2, r3, r4⟩ := h3.at_ i _ e'
    exact ⟨_, q, k _ S H (Gr.refl h2) (.ol r1 r4)⟩
  · rename_i xs e'
    cases h4
    obtain ⟨v, q, a, vs, rfl, r1, r2, r3, r4⟩ := h3.at_ i _ e'
    exact ⟨_, q, k _ S H (Gr.refl h2) (.ok r1 r4)⟩
  · cases h4⟩
def cst (d : D) : Env → Option D := fun _ => some d
theorem je_c {v : V} {d : D} (h : PE X e (tC v)) (r : ∀ S, Rp X.K S v d) : JE X b e (cst d) := ⟨PE_imp h fun σ H Q ⟨lk, B, S, ρ, d', h1, h2, h3, h4, k⟩ => by
  cases h4
  exact k v S H (Gr.refl h2) (r S)⟩
theorem je_int {i : Int} {j : Nat} : JE X b (.Constant (.int i) j pos) (cst (.int i)) := je_c pe_int fun _ => .int _
theorem je_bl {i : Bool} {j : Nat} : JE X b (.Constant (.bool i) j pos) (cst (.bl i)) := je_c pe_bl fun _ => .bl _
theorem je_non {j : Nat} : JE X b (.Constant .none j pos) (cst .non) := je_c pe_non fun _ => .non
theorem je_str (l : Tx) {x : PySem.Str} {j : Nat} (h : x = tx l := by decide +kernel) : JE X b (.Constant (.str x) j pos) (cst (.str l)) := by
  subst h
  exact je_c pe_str fun _ => .str _
/-- a module's constant -/
theorem je_gint {x : PySem.Str} {i : Int} {t : Tok} (hg : Gl X x) (hm : X.mg x = some (.int i t)) (hd : (x == ("__debug__" : PySem.Str)) = false := by decide) : JE X b (.Name x pos) (cst (.int i)) := je_c (pe_glob (v := .int i) hg hm ⟨_, rfl⟩ hd) fun _ => .int _
theorem je_gstr {x : PySem.Str} {l : Tx} {t : Tok} (hg : Gl X x) (hm : X.mg x = some (.str (tx l) t)) (hd : (x == ("__debug__" : PySem.Str)) = false := by decide) : JE X b (.Name x pos) (cst (.str l)) := je_c (pe_glob (v := .str (tx l)) hg hm ⟨_, rfl⟩ hd) fun _ => .str _
theorem je_graw {x : PySem.Str} {v : V} {u : Value} (hg : Gl X x) (hm : X.mg x = some u) (r : RelV v u) (hd : (x == ("__debug__" : PySem.Str)) = false := by decide) : JE X b (.Name x pos) (cst (.raw v)) := je_c (pe_glob hg hm r hd) fun _ => .raw _
theorem je_bltn {x : PySem.Str} {v : V} {u : Value} (hg : Gl X x) (hm : X.mg x = none) (hv : bootBuiltins x = some u) (r : RelV v u) (hn : x ≠ "__name__" := by decide) (hd : (x == ("__debug__" : PySem.Str)) = false := by decide) : JE X b (.Name x pos) (cst (.raw v)) := je_c (pe_bltn hg hm hv r hn hd) fun _ => .raw _

/-! ### operators -/
def bin (g : D → D → Option D) (f1 f2 : Env → Option D) : Env → Option D := fun ρ => match f1 ρ with
  | none => none
  | some x => match f2 ρ with
    | none => none
    | some y => g x y
theorem bin_some {g : D → D → Option D} {f1 f2 : Env → Option D} {ρ : Env} {z : D} (h : bin g f1 f2 ρ = some z) : ∃ x y, f1 ρ = some x ∧ f2 ρ = some y ∧ g x y = some z := by
  unfold bin at h
  split at h
  · cases h
  · rename_i x e1
    split at h
    · cases h
    · rename_i y e2
      exact ⟨x, y, e1, e2, h⟩
theorem rd_bin {K : PySem.W.Frag} {g : D → D → Option D} {f1 f2 : Env → Option D} {σ : St} {H : Hp} {Q : VK} (h : rdE K b (bin g f1 f2) σ H Q) : tOp (rOf K b g) (rdW K b f1) (rdW K b f2) σ H Q := by
  obtain ⟨lk, B, S, ρ, d, h1, h2, h3, h4, k⟩ := h
  obtain ⟨x, y, e1, e2, e3⟩ := bin_some h4
  refine ⟨lk, B, S, ρ, x, h1, h2, h3, e1, fun v1 S1 H1 g1 r1 => ⟨lk, B, S1, ρ, y, h1, g1.1, h3.gr h2 g1, e2, fun v2 S2 H2 g2 r2 => ?_⟩⟩
  exact ⟨lk, S2, x, y, d, h1, g2.1, r1.gr g1.1 g2, r2, e3, fun v S' H' g r => k v S' H' (g1.trans (g2.trans g)) r⟩
theorem je_op {op : Operator} {g : D → D → Option D} {f1 f2 : Env → Option D} (ho : OpR X (binaryOp op) (rOf X.K b g)) (h1 : JW X b a f1) (h2 : JW X b c f2) : JE X b (.BinOp a op c pos) (bin g f1 f2) :=
  ⟨PE_imp (pe_op ho h1.pe h2.pe) fun _ _ _ => rd_bin⟩
theorem je_cmp {op : CmpOp} {g : D → D → Option D} {f1 f2 : Env → Option D} (ho : OpR X (compareOp op) (rOf X.K b g)) (h1 : JW X b a f1) (h2 : JW X b c f2) (hm : behindInMarks op c = false := by first | exact nomark _ | rfl) : JE X b (.Compare a [op] [c] pos) (bin g f1 f2) :=
  ⟨PE_imp (pe_cmpR ho h1.pe h2.pe hm) fun _ _ _ => rd_bin⟩
def asB (f : Env → Option D) : Env → Option Bool := fun ρ => match f ρ with
  | some (.bl k) => some k
  | _ => none
theorem asB_some {f : Env → Option D} {ρ : Env} {k : Bool} (h : asB f ρ = some k) : f ρ = some (.bl k) := by
  unfold asB at h
  split at h
  · rename_i k' e; cases h; exact e
  · cases h
theorem rd_asB {K : PySem.W.Frag} {σ : St} {H : Hp} {Q : Bool → Hp → Prop} (h : rdT K b (asB f) σ H Q) : rdE K b f σ H fun x H' => ∃ k, x = .bl k ∧ Q k H' := by
  obtain ⟨lk, B, S, ρ, d, h1, h2, h3, h4, k⟩ := h
  refine ⟨lk, B, S, ρ, _, h1, h2, h3, asB_some h4, fun v S' H' g r => ?_⟩
  cases r
  exact ⟨_, rfl, k S' H' g⟩
theorem jt_cmp {op : CmpOp} {g : D → D → Option D} {f1 f2 : Env → Option D} (ho : OpR X (compareOp op) (rOf X.K b g)) (h1 : JW X b a f1) (h2 : JW X b c f2) (hm : behindInMarks op c = false := by first | exact nomark _ | rfl) : JT X b (.Compare a [op] [c] pos) (asB (bin g f1 f2)) :=
  ⟨PT_imp (pt_cmpR ho h1.pe h2.pe hm) fun _ _ _ h => rd_bin (rd_asB h)⟩
theorem jt_val (h : JE X b e f) (he : ∀ whole, isTrue e X.env whole = (do let v ← whole; standAt e.pos; holding [v] (truthy v)) := by intro _; rfl) : JT X b e (asB f) := ⟨PT_imp (pt_val h.pe he) fun _ _ _ => rd_asB⟩
/-- a < b < c -/
def chn (g g' : D → D → Option D) (f1 f2 f3 : Env → Option D) : Env → Option D := fun ρ => match f1 ρ with
  | none => none
  | some x => match f2 ρ with
    | none => none
    | some y => match g x y with
      | some (.bl true) => match f3 ρ with
        | none => none
        | some z => g' y z
      | some (.bl false) => some (.bl false)
      | _ => none
theorem rd_chn {K : PySem.W.Frag} {g g' : D → D → Option D} {f1 f2 f3 : Env → Option D} {σ : St} {H : Hp} {Q : VK} (h : rdE K b (chn g g' f1 f2 f3) σ H Q) : tChain (rOf K b g) (rOf K b g') (rdW K b f1) (rdW K b f2) (rdW K b f3) σ H Q := by
  obtain ⟨lk, B, S, ρ, d, h1, h2, h3, h4, k⟩ := h
  unfold chn at h4
  split at h4
  · cases h4
  rename_i x e1
  split at h4
  · cases h4
  rename_i y e2
  refine ⟨lk, B, S, ρ, x, h1, h2, h3, e1, fun v1 S1 H1 g1 r1 => ⟨lk, B, S1, ρ, y, h1, g1.1, h3.gr h2 g1, e2, fun v2 S2 H2 g2 r2 => ?_⟩⟩
  split at h4
  · rename_i e3
    split at h4
    · cases h4
    rename_i z e4
    refine ⟨lk, S2, x, y, .bl true, h1, g2.1, r1.gr g1.1 g2, r2, e3, fun v S3 H3 g3 r3 => ?_⟩
    cases r3
    refine ⟨true, rfl, ?_⟩
    (try dsimp only)
    rw [if_pos rfl]
    exact ⟨lk, B, S3, ρ, z, h1, g3.1, h3.gr h2 (g1.trans (g2.trans g3)), e4, fun v4 S4 H4 g4 r4 =>
      ⟨lk, S4, y, z, d, h1, g4.1, r2.gr g2.1 (g3.trans g4), r4, h4, fun v S' H' g r => k v S' H' (g1.trans (g2.trans (g3.trans (g4.trans g)))) r⟩⟩
  · rename_i e3
    cases h4
    refine ⟨lk, S2, x, y, .bl false, h1, g2.1, r1.gr g1.1 g2, r2, e3, fun v S3 H3 g3 r3 => ?_⟩
    cases r3
    refine ⟨false, rfl, ?_⟩
    (try dsimp only)
    rw [if_neg (by decide)]
    exact k _ S3 H3 (g1.trans (g2.trans g3)) (.bl _)
  · cases h4
theorem je_chain {op op' : CmpOp} {d : Expr} {g g' : D → D → Option D} {f1 f2 f3 : Env → Option D} (ho : OpR X (compareOp op) (rOf X.K b g)) (ho' : OpR X (compareOp op') (rOf X.K b g')) (h1 : JW X b a f1) (h2 : JW X b c f2) (h3 : JW X b d f3) (hm : lastMarks [op, op'] [c, d] = false := by with_unfolding_all rfl) :
    JE X b (.Compare a [op, op'] [c, d] pos) (chn g g' f1 f2 f3) := ⟨PE_imp (pe_chain ho ho' h1.pe h2.pe h3.pe hm) fun _ _ _ => rd_chn⟩
theorem jt_chain {op op' : CmpOp} {d : Expr} {g g' : D → D → Option D} {f1 f2 f3 : Env → Option D} (ho : OpR X (compareOp op) (rOf X.K b g)) (ho' : OpR X (compareOp op') (rOf X.K b g')) (h1 : JW X b a f1) (h2 : JW X b c f2) (h3 : JW X b d f3) (hm : lastMarks [op, op'] [c, d] = false := by with_unfolding_all rfl) :
    JT X b (.Compare a [op, op'] [c, d] pos) (asB (chn g g' f1 f2 f3)) := ⟨PT_imp (pt_chain ho ho' h1.pe h2.pe h3.pe hm) fun _ _ _ h => rd_chn (rd_asB h)⟩

/-! ### and, or, not -/
def andT (f g : Env → Option Bool) : Env → Option Bool := fun ρ => match f ρ with
  | some true => g ρ
  | some false => some false
  | none => none
def orT (f g : Env → Option Bool) : Env → Option Bool := fun ρ => match f ρ with
  | some true => some true
  | some false => g ρ
  | none => none
def notT (f : Env → Option Bool) : Env → Option Bool := fun ρ => (f ρ).map (!·)
theorem rd_andT {K : PySem.W.Frag} {f g : Env → Option Bool} {σ : St} {H : Hp} {Q : Bool → Hp → Prop} (h : rdT K b (andT f g) σ H Q) : tAnd (rdT K b f) (rdT K b g) σ H Q := by
  obtain ⟨lk, B, S, ρ, d, h1, h2, h3, h4, k⟩ := h
  unfold andT at h4
  split at h4
  · rename_i e
    exact ⟨lk, B, S, ρ, true, h1, h2, h3, e, fun S1 H1 g1 => by
      (try dsimp only)
      rw [if_pos rfl]
      exact ⟨lk, B, S1, ρ, d, h1, g1.1, h3.gr h2 g1, h4, fun S2 H2 g2 => k S2 H2 (g1.trans g2)⟩⟩
  · rename_i e
    cases h4
    exact ⟨lk, B, S, ρ, false, h1, h2, h3, e, fun S1 H1 g1 => by
      (try dsimp only)
      rw [if_neg (by decide)]
      exact k S1 H1 g1⟩
  · cases h4
theorem rd_orT {K : PySem.W.Frag} {f g : Env → Option Bool} {σ : St} {H : Hp} {Q : Bool → Hp → Prop} (h : rdT K b (orT f g) σ H Q) : tOr (rdT K b f) (rdT K b g) σ H Q := by
  obtain ⟨lk, B, S, ρ, d, h1, h2, h3, h4, k⟩ := h
  unfold orT at h4
  split at h4
  · rename_i e
    cases h4
    exact ⟨lk, B, S, ρ, true, h1, h2, h3, e, fun S1 H1 g1 => by
      (try dsimp only)
      rw [if_pos rfl]
      exact k S1 H1 g1⟩
  · rename_i e
    exact ⟨lk, B, S, ρ, false, h1, h2, h3, e, fun S1 H1 g1 => by
      (try dsimp only)
      rw [if_neg (by decide)]
      exact ⟨lk, B, S1, ρ, d, h1, g1.1, h3.gr h2 g1, h4, fun S2 H2 g2 => k S2 H2 (g1.trans g2)⟩⟩
  · cases h4
section
variable {rest : List Expr} {p q : Env → Option Bool}
theorem JTW.t (h : JTW X b e p) : JT X b e p := ⟨h.pw.pt⟩
theorem jw_and1 (h : JT X b a p) : JTW X b (.BoolOp .And [a] pos) p := ⟨pw_and1 h.pt⟩
theorem jw_or1 (h : JT X b a p) : JTW X b (.BoolOp .Or [a] pos) p := ⟨pw_or1 h.pt⟩
theorem jw_and (h : JT X b a p) (k : JTW X b (.BoolOp .And (c :: rest) pos) q) : JTW X b (.BoolOp .And (a :: c :: rest) pos) (andT p q) := ⟨PW_imp (pw_and h.pt k.pw) fun _ _ _ => rd_andT⟩
theorem jw_or (h : JT X b a p) (k : JTW X b (.BoolOp .Or (c :: rest) pos) q) : JTW X b (.BoolOp .Or (a :: c :: rest) pos) (orT p q) := ⟨PW_imp (pw_or h.pt k.pw) fun _ _ _ => rd_orT⟩
theorem jt_not (h : JT X b a p) : JT X b (.UnaryOp .Not a pos) (notT p) := ⟨PT_imp (pt_not h.pt) fun σ H Q ⟨lk, B, S, ρ, d, h1, h2, h3, h4, k⟩ => by
  unfold notT at h4
  cases e : p ρ with
  | none => rw [e] at h4; cases h4
  | some d' =>
    rw [e] at h4
    cases h4
    exact ⟨lk, B, S, ρ, d', h1, h2, h3, e, fun S1 H1 g1 => k S1 H1 g1⟩⟩
end
def andV (f g : Env → Option D) : Env → Option D := fun ρ => match f ρ with
  | some (.bl true) => g ρ
  | some (.bl false) => some (.bl false)
  | _ => none
def orV (f g : Env → Option D) : Env → Option D := fun ρ => match f ρ with
  | some (.bl true) => some (.bl true)
  | some (.bl false) => g ρ
  | _ => none
def notV (f : Env → Option D) : Env → Option D := fun ρ => match f ρ with
  | some (.bl k) => some (.bl (!k))
  | _ => none
theorem je_one {op} (h : JE X b a f) : JE X b (.BoolOp op [a] pos) f := ⟨pe_one h.pe⟩
theorem je_and {rest : List Expr} (h : JE X b a f) (k : JE X b (.BoolOp .And (c :: rest) pos) g) : JE X b (.BoolOp .And (a :: c :: rest) pos) (andV f g) := ⟨PE_imp (pe_and h.pe k.pe) fun σ H Q ⟨lk, B, S, ρ, d, h1, h2, h3, h4, k⟩ => by
  unfold andV at h4
  split at h4
  · rename_i e
    refine ⟨lk, B, S, ρ, _, h1, h2, h3, e, fun v S1 H1 g1 r1 => ?_⟩
    cases r1
    refine ⟨true, rfl, ?_⟩
    (try dsimp only)
    rw [if_pos rfl]
    exact ⟨lk, B, S1, ρ, d, h1, g1.1, h3.gr h2 g1, h4, fun v S2 H2 g2 r => k v S2 H2 (g1.trans g2) r⟩
  · rename_i e
    cases h4
    refine ⟨lk, B, S, ρ, _, h1, h2, h3, e, fun v S1 H1 g1 r1 => ?_⟩
    cases r1
    refine ⟨false, rfl, ?_⟩
    (try dsimp only)
    rw [if_neg (by decide)]
    exact k _ S1 H1 g1 (.bl _)
  · cases h4⟩
theorem je_or {rest : List Expr} (h : JE X b a f) (k : JE X b (.BoolOp .Or (c :: rest) pos) g) : JE X b (.BoolOp .Or (a :: c :: rest) pos) (orV f g) := ⟨PE_imp (pe_or h.pe k.pe) fun σ H Q ⟨lk, B, S, ρ, d, h1, h2, h3, h4, k⟩ => by
  unfold orV at h4
  split at h4
  · rename_i e
    cases h4
    refine ⟨lk, B, S, ρ, _, h1, h2, h3, e, fun v S1 H1 g1 r1 => ?_⟩
    cases r1
    refine ⟨true, rfl, ?_⟩
    (try dsimp only)
    rw [if_pos rfl]
    exact k _ S1 H1 g1 (.bl _)
  · rename_i e
    refine ⟨lk, B, S, ρ, _, h1, h2, h3, e, fun v S1 H1 g1 r1 => ?_⟩
    cases r1
    refine ⟨false, rfl, ?_⟩
    (try dsimp only)
    rw [if_neg (by decide)]
    exact ⟨lk, B, S1, ρ, d, h1, g1.1, h3.gr h2 g1, h4, fun v S2 H2 g2 r => k v S2 H2 (g1.trans g2) r⟩
  · cases h4⟩
theorem je_not (h : JE X b a f) : JE X b (.UnaryOp .Not a pos) (notV f) := ⟨PE_imp (pe_not h.pe) fun σ H Q ⟨lk, B, S, ρ, d, h1, h2, h3, h4, k⟩ => by
  unfold notV at h4
  split at h4
  · rename_i k' e
    cases h4
    refine ⟨lk, B, S, ρ, _, h1, h2, h3, e, fun v S1 H1 g1 r1 => ?_⟩
    cases r1
    exact ⟨k', rfl, k _ S1 H1 g1 (.bl _)⟩
  · cases h4⟩
def neg (f : Env → Option D) : Env → Option D := fun ρ => match f ρ with
  | some (.int k) => some (.int (-k))
  | _ => none
theorem je_neg (h : JE X b a f) : JE X b (.UnaryOp .USub a pos) (neg f) := ⟨PE_imp (pe_un un_neg h.pe) fun σ H Q ⟨lk, B, S, ρ, d, h1, h2, h3, h4, k⟩ => by
  unfold neg at h4
  split at h4
  · rename_i k' e
    cases h4
    refine ⟨lk, B, S, ρ, _, h1, h2, h3, e, fun v S1 H1 g1 r1 => ?_⟩
    cases r1
    exact ⟨k', rfl, k _ S1 H1 g1 (.int _)⟩
  · cases h4⟩

/-! ### arguments, displays -/
def nilA : Env → Option (List D) := fun _ => some []
def consA (f : Env → Option D) (g : Env → Option (List D)) : Env → Option (List D) := fun ρ => match f ρ with
  | none => none
  | some x => match g ρ with
    | none => none
    | some xs => some (x :: xs)
theorem consA_some {f : Env → Option D} {g : Env → Option (List D)} {ρ : Env} {z : List D} (h : consA f g ρ = some z) : ∃ x xs, f ρ = some x ∧ g ρ = some xs ∧ z = x :: xs := by
  unfold consA at h
  split at h
  · cases h
  rename_i x e1
  split at h
  · cases h
  rename_i xs e2
  cases h
  exact ⟨x, xs, e1, e2, rfl⟩
theorem ja_nil : JA X b [] nilA := ⟨PA_imp pa_nil fun σ H Q ⟨lk, B, S, ρ, d, h1, h2, h3, h4, k⟩ => by
  cases h4
  exact k _ S H (Gr.refl h2) .nil⟩
theorem jaw_nil : JAW X b [] nilA := ⟨PA_imp pa_nil fun σ H Q ⟨lk, B, S, ρ, d, h1, h2, h3, h4, k⟩ => by
  cases h4
  exact k _ S H (Gr.refl h2) .nil⟩
theorem PairW.gr {K : PySem.W.Frag} {lk : Option Addr} {S H S' H' : Hp} (s : Sub lk S H) (g : Gr lk S H S' H') : ∀ {vs : List V} {ds : List D}, Paired (RpW K S H) vs ds → Paired (RpW K S' H') vs ds
  | _, _, .nil => .nil
  | _, _, .cons h t => .cons (h.gr s g) (PairW.gr s g t)
theorem ja_cons {es : List Expr} {fs : Env → Option (List D)} (h : JE X b e f) (k : JA X b es fs) (hs : starEach (e :: es) X.env = (false, eval e X.env) :: starEach es X.env := by rfl) : JA X b (e :: es) (consA f fs) := ⟨PA_imp (pa_cons h.pe k.pa hs) fun σ H Q ⟨lk, B, S, ρ, d, h1, h2, h3, h4, k⟩ => by
  obtain ⟨x, xs, e1, e2, rfl⟩ := consA_some h4
  exact ⟨lk, B, S, ρ, x, h1, h2, h3, e1, fun v S1 H1 g1 r1 => ⟨lk, B, S1, ρ, xs, h1, g1.1, h3.gr h2 g1, e2, fun vs S2 H2 g2 r2 => k _ S2 H2 (g1.trans g2) (.cons (r1.mono (g2.ext g1.1)) r2)⟩⟩⟩
theorem jaw_cons {es : List Expr} {fs : Env → Option (List D)} (h : JW X b e f) (k : JAW X b es fs) (hs : starEach (e :: es) X.env = (false, eval e X.env) :: starEach es X.env := by rfl) : JAW X b (e :: es) (consA f fs) := ⟨PA_imp (pa_cons h.pe k.pa hs) fun σ H Q ⟨lk, B, S, ρ, d, h1, h2, h3, h4, k⟩ => by
  obtain ⟨x, xs, e1, e2, rfl⟩ := consA_some h4
  exact ⟨lk, B, S, ρ, x, h1, h2, h3, e1, fun v S1 H1 g1 r1 => ⟨lk, B, S1, ρ, xs, h1, g1.1, h3.gr h2 g1, e2, fun vs S2 H2 g2 r2 => k _ S2 H2 (g1.trans g2) (.cons (r1.gr g1.1 g2) r2)⟩⟩⟩
/-- short enough for one object -/
theorem lim_ex : ∃ n : Nat, n = 16777216 := ⟨_, rfl⟩
def LIM : Nat := Classical.choose lim_ex
theorem LIM_eq : LIM = 16777216 := Classical.choose_spec lim_ex
theorem lim_ok {n : Nat} (h : n ≤ LIM) : n ≤ sizeLine := by rw [LIM_eq] at h; rw [sizeLine_eq]; exact h
def guardL (n : Nat) (d : D) : Option D := if n ≤ LIM then some d else none
theorem guardL_some {n : Nat} {d z : D} (h : guardL n d = some z) : n ≤ LIM ∧ z = d := by
  unfold guardL at h
  split at h
  · cases h; exact ⟨by assumption, rfl⟩
  · cases h
def tupE (f : Env → Option (List D)) : Env → Option D := fun ρ => match f ρ with
  | none => none
  | some xs => guardL xs.length (.tup xs)
def lstE (f : Env → Option (List D)) : Env → Option D := fun ρ => match f ρ with
  | none => none
  | some xs => guardL xs.length (.lst xs)
/-- a new tuple, list, dict that is shared from the start -/
theorem new_tup {K : PySem.W.Frag} {lk : Option Addr} {S H : Hp} {vs : List V} {ds : List D} {Q : VK} {p : Addr} (h : Sub lk S H) (r : RpL K S vs ds) (k : ∀ v S' H', Gr lk S H S' H' → Rp K S' v (.tup ds) → Q v H') (hp : H p = none) : Q (.ref p) (upd H p (.tup vs)) :=
  k _ _ _ (Gr.new h hp) (.tup upd_same (r.mono ((Gr.new h hp).ext h)))
theorem new_lst {K : PySem.W.Frag} {lk : Option Addr} {S H : Hp} {vs : List V} {ds : List D} {Q : VK} {p : Addr} (h : Sub lk S H) (r : RpL K S vs ds) (k : ∀ v S' H', Gr lk S H S' H' → Rp K S' v (.lst ds) → Q v H') (hp : H p = none) : Q (.ref p) (upd H p (.lst vs)) :=
  k _ _ _ (Gr.new h hp) (.lst upd_same (r.mono ((Gr.new h hp).ext h)))
theorem je_tup {es : List Expr} {fs : Env → Option (List D)} {x1} (h : JA X b es fs) : JE X b (.Tuple es x1 pos) (tupE fs) := ⟨PE_imp (pe_tup h.pa) fun σ H Q ⟨lk, B, S, ρ, d, h1, h2, h3, h4, k⟩ => by
  unfold tupE at h4
  split at h4
  · cases h4
  rename_i xs e
  obtain ⟨hl, rfl⟩ := guardL_some h4
  exact ⟨lk, B, S, ρ, xs, h1, h2, h3, e, fun vs S1 H1 g1 r1 => ⟨by rw [r1.length]; exact lim_ok hl, fun p hp => new_tup g1.1 r1 (fun v S' H' g r => k v S' H' (g1.trans g) r) hp⟩⟩⟩
theorem je_lst {es : List Expr} {fs : Env → Option (List D)} (h : JA X b es fs) : JE X b (.List es pos) (lstE fs) := ⟨PE_imp (pe_lst h.pa) fun σ H Q ⟨lk, B, S, ρ, d, h1, h2, h3, h4, k⟩ => by
  unfold lstE at h4
  split at h4
  · cases h4
  rename_i xs e
  obtain ⟨hl, rfl⟩ := guardL_some h4
  exact ⟨lk, B, S, ρ, xs, h1, h2, h3, e, fun vs S1 H1 g1 r1 => ⟨by rw [r1.length]; exact lim_ok hl, fun p hp => new_lst g1.1 r1 (fun v S' H' g r => k v S' H' (g1.trans g) r) hp⟩⟩⟩

/-! ### subscripts, slices -/
theorem je_ix {g : D → D → Option D} {f1 f2 : Env → Option D} (hr : IxR X (rOf X.K b g)) (h1 : JW X b a f1) (h2 : JW X b c f2) (hs : PlainIx c := by exact fun _ _ => rfl) : JE X b (.Subscript a c pos) (bin g f1 f2) := ⟨PE_imp (pe_ix hr h1.pe h2.pe hs) fun _ _ _ => rd_bin⟩
def partE (f : Env → Option D) : Env → Option (Option Int) := fun ρ => match f ρ with
  | some (.int i) => some (some i)
  | _ => none
theorem jo_none : JO X b none (fun _ => some none) := ⟨⟨fun pins s σ H Q I h => (po_none (X := X)).run pins s σ H Q I (by
  obtain ⟨lk, B, S, ρ, d, h1, h2, h3, h4, k⟩ := h
  cases h4
  exact k S H (Gr.refl h2))⟩⟩
theorem jo_some (h : JW X b e f) : JO X b (some e) (partE f) := ⟨⟨fun pins s σ H Q I q => (po_some h.pe).run pins s σ H Q I (by
  obtain ⟨lk, B, S, ρ, d, h1, h2, h3, h4, k⟩ := q
  unfold partE at h4
  split at h4
  · rename_i i e
    cases h4
    refine ⟨lk, B, S, ρ, _, h1, h2, h3, e, fun v S1 H1 g1 r1 => ⟨i, r1.int_inv, k S1 H1 g1⟩⟩
  · cases h4)⟩⟩
def slcE (g : D → Option Int → Option Int → Option D) (f : Env → Option D) (l u : Env → Option (Option Int)) : Env → Option D := fun ρ => match f ρ with
  | none => none
  | some x => match l ρ with
    | none => none
    | some lo => match u ρ with
      | none => none
      | some hi => g x lo hi
theorem je_slice {lo hi : Option Expr} {p2 : Pos} {g : D → Option Int → Option Int → Option D} {fl fu : Env → Option (Option Int)} (hr : SlR X (rSof X.K b g)) (h : JW X b e f) (hl : JO X b lo fl) (hu : JO X b hi fu) : JE X b (.Subscript e (.Slice lo hi none p2) pos) (slcE g f fl fu) := ⟨PE_imp (pe_slice hr h.pe hl.po hu.po) fun σ H Q ⟨lk, B, S, ρ, d, h1, h2, h3, h4, k⟩ => by
  unfold slcE at h4
  split at h4
  · cases h4
  rename_i x e1
  split at h4
  · cases h4
  rename_i y e2
  split at h4
  · cases h4
  rename_i z e3
  exact ⟨lk, B, S, ρ, x, h1, h2, h3, e1, fun v S1 H1 g1 r1 => ⟨lk, B, S1, ρ, y, h1, g1.1, h3.gr h2 g1, e2, fun S2 H2 g2 => ⟨lk, B, S2, ρ, z, h1, g2.1, h3.gr h2 (g1.trans g2), e3, fun S3 H3 g3 =>
    ⟨lk, S3, x, d, h1, g3.1, (r1.gr g1.1 (g2.trans g3)), h4, fun v S' H' g r => k v S' H' (g1.trans (g2.trans (g3.trans g))) r⟩⟩⟩⟩⟩

/-! ### calls of built-ins, of methods of built-in types -/
def callE (g : List D → Option D) (f : Env → Option (List D)) : Env → Option D := fun ρ => match f ρ with
  | none => none
  | some xs => g xs
theorem rd_callE {K : PySem.W.Frag} {g : List D → Option D} {fs : Env → Option (List D)} {σ : St} {H : Hp} {Q : VK} (h : rdE K b (callE g fs) σ H Q) : tCB (rCof K b g) (rdAW K b fs) σ H Q := by
  obtain ⟨lk, B, S, ρ, d, h1, h2, h3, h4, k⟩ := h
  unfold callE at h4
  split at h4
  · cases h4
  rename_i xs e
  exact ⟨lk, B, S, ρ, xs, h1, h2, h3, e, fun vs S1 H1 g1 r1 => ⟨lk, S1, xs, d, h1, g1.1, r1, h4, fun v S' H' g r => k v S' H' (g1.trans g) r⟩⟩
theorem je_callB {es : List Expr} {x : PySem.Str} {id : String} {p : Pos} {g : List D → Option D} {fs : Env → Option (List D)} (hc : CallR X (.builtin id) (rCof X.K b g)) (hg : Gl X x) (hm : X.mg x = none) (hv : bootBuiltins x = some (.builtin id)) (ha : JAW X b (e :: es) fs) (hn : x ≠ "__name__" := by decide) (hdb : (x == ("__debug__" : PySem.Str)) = false := by decide)
    (he : starEach (e :: es) X.env = (false, eval e X.env) :: starEach es X.env := by rfl) (hpl : (backTo pos (starEach es X.env)).any (·.1) = false := by rfl) :
    JE X b (.Call (.Name x p) (e :: es) [] pos) (callE g fs) := ⟨PE_imp (pe_callB hc hg hm hv ha.pa hn hdb he hpl) fun _ _ _ => rd_callE⟩
theorem je_callTy {es : List Expr} {x : PySem.Str} {T : String} {p : Pos} {g : List D → Option D} {fs : Env → Option (List D)} (hc : CallR X (.type T) (rCof X.K b g)) (hg : Gl X x) (hm : X.mg x = none) (hv : bootBuiltins x = some (.type T)) (ha : JAW X b (e :: es) fs) (hn : x ≠ "__name__" := by decide) (hdb : (x == ("__debug__" : PySem.Str)) = false := by decide)
    (he : starEach (e :: es) X.env = (false, eval e X.env) :: starEach es X.env := by rfl) (hpl : (backTo pos (starEach es X.env)).any (·.1) = false := by rfl) :
    JE X b (.Call (.Name x p) (e :: es) [] pos) (callE g fs) := ⟨PE_imp (pe_callTy hc hg hm hv ha.pa hn hdb he hpl) fun _ _ _ => rd_callE⟩
end
end Fo
end
-- FoC.lean
set_option Elab.async false
set_option linter.all false
set_option maxRecDepth 100000
set_option maxHeartbeats 1000000
noncomputable section
namespace Fo
open PySem L2

section
variable {X : Cx} {b : Bool} {e a c : Expr} {pos : Pos} {f g : Env → Option D}
/-! ### methods of built-in types -/
def tyD (T : String) : D → Bool
  | .str _ => T == "str"
  | .int _ => T == "int"
  | .lst _ => T == "list"
  | .scr _ => T == "list"
  | _ => false
theorem tyD_ok {K : PySem.W.Frag} {lk : Option Addr} {S H : Hp} {T : String} {v : V} {d : D} (s : Sub lk S H) (r : RpW K S H v d) (h : tyD T d = true) : tyV K T v H := by
  cases d <;> simp only [tyD, Bool.false_eq_true, beq_iff_eq] at h
  · rw [r.int_inv]; exact h
  · rw [r.str_inv]; exact h
  · obtain ⟨a, vs, rfl, e, _⟩ := r.lst_inv s
    exact .inl ⟨h, vs, .inl (.inl e)⟩
  · obtain ⟨a, rfl, q⟩ := r.scr_inv s
    exact .inl ⟨h, _, q⟩
def methE (T : String) (g : D → List D → Option D) (f : Env → Option D) (fs : Env → Option (List D)) : Env → Option D := fun ρ => match f ρ with
  | none => none
  | some x => if tyD T x = true then (match fs ρ with
    | none => none
    | some xs => g x xs) else none
theorem rd_methE {K : PySem.W.Frag} {T : String} {g : D → List D → Option D} {fs : Env → Option (List D)} {σ : St} {H : Hp} {Q : VK} (h : rdE K b (methE T g f fs) σ H Q) : tBM K T (rMof K b g) (rdW K b f) (rdAW K b fs) σ H Q := by
  obtain ⟨lk, B, S, ρ, d, h1, h2, h3, h4, k⟩ := h
  unfold methE at h4
  split at h4
  · cases h4
  rename_i x e1
  split at h4
  · rename_i ty
    split at h4
    · cases h4
    rename_i xs e2
    exact ⟨lk, B, S, ρ, x, h1, h2, h3, e1, fun v1 S1 H1 g1 r1 => ⟨tyD_ok g1.1 r1 ty, lk, B, S1, ρ, xs, h1, g1.1, h3.gr h2 g1, e2, fun vs S2 H2 g2 r2 =>
      ⟨lk, S2, x, xs, d, h1, g2.1, r1.gr g1.1 g2, r2, h4, fun v S' H' g r => k v S' H' (g1.trans (g2.trans g)) r⟩⟩⟩
  · cases h4
theorem je_bm {o : Expr} {es : List Expr} {T id : String} {name : PySem.Str} {apos cpos : Pos} {g : D → List D → Option D} {fs : Env → Option (List D)} (pa : PlainAttrs T) (slot : Slot T name id) (hty : typeOf (.builtin id) = pure (.type "method_descriptor")) (hm : MtR X id (rMof X.K b g)) (ho : JW X b o f) (ha : JAW X b (e :: es) fs)
    (hbase : attributeBase o name X.env (eval o X.env) = eval o X.env := by rfl)
    (hfew : ((backTo cpos (starEach (e :: es) X.env)).all (fun x => !x.1) && (backToKw cpos (keywordEach [] X.env)).all (fun x => x.1.isSome)
      && decide ((e :: es).length + ([] : List Keyword).length + (if ([] : List Keyword).isEmpty then 0 else 1) < 30)) = true := by rfl)
    (hline : (apos.endLine == cpos.line) = true := by rfl) (hs : starEach (e :: es) X.env = (false, eval e X.env) :: starEach es X.env := by rfl) (hplain : (backTo cpos (starEach es X.env)).any (·.1) = false := by rfl) :
    JE X b (.Call (.Attribute o name apos) (e :: es) [] cpos) (methE T g f fs) := ⟨PE_imp (pe_bm pa slot hty hm ho.pe ha.pa hbase hfew hline hs hplain) fun _ _ _ => rd_methE⟩

/-! ### calls of defs -/
/-- a def that gives back data for data -/
def spD (K : PySem.W.Frag) (n : Nat) (G : List D → Option D) : Sp := fun vs H Q _ => ∃ S ds z, Sub none S H ∧ RpL K S vs ds ∧ ds.length = n ∧ G ds = some z ∧ ∀ v S' H', Gr none S H S' H' → Rp K S' v z → Q v H'
def callN (n : Nat) (G : List D → Option D) (fs : Env → Option (List D)) : Env → Option D := fun ρ => match fs ρ with
  | none => none
  | some xs => if xs.length = n then G xs else none
theorem rd_callN {K : PySem.W.Frag} {n : Nat} {G : List D → Option D} {fs : Env → Option (List D)} {σ : St} {H : Hp} {Q : VK} {E : XK} (h : rdE K false (callN n G fs) σ H Q) : tCall (spD K n G) [] E (rdA K false fs) σ H Q := by
  obtain ⟨lk, B, S, ρ, d, h1, h2, h3, h4, k⟩ := h
  obtain rfl := h1 rfl
  unfold callN at h4
  split at h4
  · cases h4
  rename_i xs e
  split at h4
  · rename_i hn
    refine ⟨none, B, S, ρ, xs, h1, h2, h3, e, fun vs S1 H1 g1 r1 => ⟨S1, xs, d, g1.1, ?_, hn, h4, fun v S' H' g r => k v S' H' (g1.trans g) r⟩⟩
    rw [List.append_nil]
    exact r1
  · cases h4
theorem je_call {k : Nat} {fA : Addr} {fd : FuncData} {ps : List PySem.Str} {n : Nat} {G : List D → Option D} {x : PySem.Str} {p : Pos} {es : List Expr} {fs : Env → Option (List D)} (F : FnOk X.prog X.w X.K X.mg X.base CX0 k fA fd ps (spD X.K n G)) (hr : Room k X.A) (hg : Gl X x) (hm : X.mg x = some (.ref fA)) (hk : PySem.W.keepIn X.K (.ref fA) = true) (hb : Binds X.K fd ps [])
    (ha : JA X false (e :: es) fs) (hdb : (x == ("__debug__" : PySem.Str)) = false := by decide) (he : starEach (e :: es) X.env = (false, eval e X.env) :: starEach es X.env := by rfl) (hpl : (backTo pos (starEach es X.env)).any (·.1) = false := by rfl) :
    JE X false (.Call (.Name x p) (e :: es) [] pos) (callN n G fs) := ⟨PE_imp (pe_call F hr hg hm hk hb .nil pass0 ha.pa hdb he hpl) fun _ _ _ => rd_callN⟩

/-! ### targets -/
def rdG (K : PySem.W.Frag) (b : Bool) (is : List Nat) (G : D → Env → Option Env) : TG := fun v σ H Q => ∃ lk B S ρ d ρ', (b = false → lk = none) ∧ Sub lk S H ∧ ER K B S H σ ρ ∧ Rp K S v d ∧ G d ρ = some ρ' ∧
  ∀ σ', ER K B S H σ' ρ' → (∀ j, j ∉ is → σ'[j]? = σ[j]?) → σ'.length = σ.length → Q σ' H
def rdGs (K : PySem.W.Frag) (b : Bool) (is : List Nat) (G : List D → Env → Option Env) : TGs := fun vs σ H Q => ∃ lk B S ρ ds ρ', (b = false → lk = none) ∧ Sub lk S H ∧ ER K B S H σ ρ ∧ RpL K S vs ds ∧ G ds ρ = some ρ' ∧
  ∀ σ', ER K B S H σ' ρ' → (∀ j, j ∉ is → σ'[j]? = σ[j]?) → σ'.length = σ.length → Q σ' H
theorem PG_imp {tg : Expr} {t t' : TG} (h : PG X tg t) (k : ∀ v σ H Q, t' v σ H Q → t v σ H Q) : PG X tg t' := ⟨fun pins s σ H v u Q I r q => h.run pins s σ H v u Q I r (k _ _ _ _ q)⟩
theorem PGs_imp {tg : List Expr} {t t' : TGs} (h : PGs X tg t) (k : ∀ v σ H Q, t' v σ H Q → t v σ H Q) : PGs X tg t' := ⟨fun pins s σ H v u Q I r q => h.run pins s σ H v u Q I r (k _ _ _ _ q)⟩
structure JG (X : Cx) (b : Bool) (tg : Expr) (is : List Nat) (G : D → Env → Option Env) : Prop where
  pg : PG X tg (rdG X.K b is G)
structure JGs (X : Cx) (b : Bool) (tgs : List Expr) (is : List Nat) (G : List D → Env → Option Env) : Prop where
  pgs : PGs X tgs (rdGs X.K b is G)
def toS (i : Nat) : D → Env → Option Env := fun d ρ => some (ρ.set i (some (.d d)))
def toNil : List D → Env → Option Env := fun ds ρ => match ds with
  | [] => some ρ
  | _ => none
def toCons (G : D → Env → Option Env) (Gs : List D → Env → Option Env) : List D → Env → Option Env := fun ds ρ => match ds with
  | [] => none
  | d :: ds => match G d ρ with
    | none => none
    | some ρ' => Gs ds ρ'
def toTup (n : Nat) (Gs : List D → Env → Option Env) : D → Env → Option Env := fun d ρ => match d with
  | .tup ds => if ds.length = n then Gs ds ρ else none
  | _ => none
theorem jg_name (i : Nat) {x : PySem.Str} (hN : X.N.Nodup) (hi : X.N[i]? = some x := by rfl) (hx : Loc X.env.scope x := by first | exact Or.inl rfl | exact Or.inr rfl) (hf : X.fn x = true ∨ X.env.scope.names.lookup x = some .local := by first | exact .inl rfl | exact .inr rfl) : JG X b (.Name x pos) [i] (toS i) := ⟨PG_imp (pg_name hN hi hx hf) fun v σ H Q ⟨lk, B, S, ρ, d, ρ', h1, h2, h3, h4, h5, k⟩ => by
  cases h5
  refine k _ (h3.setD h4) (fun j hj => ?_) (by simp)
  rw [List.getElem?_set_ne (fun z => hj (by simp [z]))]⟩
theorem jgs_nil : JGs X b [] [] toNil := ⟨PGs_imp pgs_nil fun v σ H Q ⟨lk, B, S, ρ, d, ρ', h1, h2, h3, h4, h5, k⟩ => by
  unfold toNil at h5
  split at h5
  · cases h5
    cases h4
    exact ⟨rfl, k σ h3 (fun _ _ => rfl) rfl⟩
  · cases h5⟩
theorem jgs_cons {tg : Expr} {tgs : List Expr} {is js : List Nat} {G : D → Env → Option Env} {Gs : List D → Env → Option Env} (h : JG X b tg is G) (k : JGs X b tgs js Gs) (hs : (assignEach (tg :: tgs) X.env).map (·.2) = assign tg X.env :: (assignEach tgs X.env).map (·.2) := by rfl) : JGs X b (tg :: tgs) (is ++ js) (toCons G Gs) := ⟨PGs_imp (pgs_cons h.pg k.pgs hs) fun v σ H Q ⟨lk, B, S, ρ, ds, ρ', h1, h2, h3, h4, h5, q⟩ => by
  unfold toCons at h5
  split at h5
  · cases h5
  rename_i d ds'
  split at h5
  · cases h5
  rename_i ρ1 e1
  cases h4 with
  | cons r rr =>
    refine ⟨_, _, rfl, lk, B, S, ρ, d, ρ1, h1, h2, h3, r, e1, fun σ1 h31 s1 l1 => ⟨lk, B, S, ρ1, ds', ρ', h1, h2, h31, rr, h5, fun σ2 h32 s2 l2 => ?_⟩⟩
    refine q σ2 h32 (fun j hj => ?_) (l2.trans l1)
    rw [List.mem_append, not_or] at hj
    rw [s2 j hj.2, s1 j hj.1]⟩
theorem jg_tup {es : List Expr} {kk : Nat} {is : List Nat} {Gs : List D → Env → Option Env} {n : Nat} (hc : X.calm = true) (h : JGs X b es is Gs) (hn : (assignEach es X.env).length = n := by rfl) (hst : (assignEach es X.env).findIdx? (·.1) = none := by rfl) : JG X b (.Tuple es kk pos) is (toTup n Gs) := ⟨PG_imp (pg_tup hc h.pgs hn hst) fun v σ H Q ⟨lk, B, S, ρ, d, ρ', h1, h2, h3, h4, h5, k⟩ => by
  unfold toTup at h5
  split at h5
  · rename_i ds
    split at h5
    · rename_i hl
      have r := RpW.sh (H := H) h4
      obtain ⟨a, vs, rfl, e, _, rr⟩ := r.tup_inv h2
      exact ⟨a, vs, rfl, .inl (.inl e), by rw [rr.length]; exact hl, lk, B, S, ρ, ds, ρ', h1, h2, h3, rr, h5, k⟩
    · cases h5
  · cases h5⟩

/-! ### what is walked -/
/-- the walk of ds, whatever comes meanwhile: w: the whole heap of the beginning must stay -/
def DWalk (K : PySem.W.Frag) (w : Bool) (lk : Option Addr) (J : It) (ds : List D) (S1 H1 : Hp) : Prop := ∀ S2 H2, Sub lk S2 H2 → Ext S1 S2 → (w = true → ∀ a, H1 a ≠ none → H2 a = H1 a) →
  (∀ i, i < ds.length → J.go i H2) ∧ J.stop ds.length H2 ∧ ∀ i x H3, i < ds.length → J.yld i H2 x H3 → ∃ S3 d, Gr lk S2 H2 S3 H3 ∧ ds[i]? = some d ∧ Rp K S3 x d
def rdI (K : PySem.W.Frag) (b w : Bool) (g : Env → Option (List D)) : TI := fun σ H R => ∃ lk B S ρ ds, (b = false → lk = none) ∧ Sub lk S H ∧ ER K B S H σ ρ ∧ g ρ = some ds ∧ ∀ J S1 H1, Gr lk S H S1 H1 → DWalk K w lk J ds S1 H1 → R J H1
structure JI (X : Cx) (b w : Bool) (tg : Expr) (e : Expr) (g : Env → Option (List D)) : Prop where
  pi : PI X tg e (rdI X.K b w g)
theorem DWalk.w {K : PySem.W.Frag} {w : Bool} {lk : Option Addr} {J : It} {ds : List D} {S1 H1 : Hp} (h : DWalk K false lk J ds S1 H1) : DWalk K w lk J ds S1 H1 := fun S2 H2 s e _ => h S2 H2 s e (fun z => by cases z)
theorem PI_or {tg : Expr} {w1 w2 : TI} (h1 : PI X tg e w1) (h2 : PI X tg e w2) : PI X tg e (fun σ H R => w1 σ H R ∨ w2 σ H R) := ⟨fun pins s σ H R I q => q.elim (h1.run pins s σ H R I) (h2.run pins s σ H R I)⟩
def sgns (x : Tx) : List D := x.map fun c => .str [c]
def itemsD : D → Option (List D)
  | .lst xs => some xs
  | .tup xs => some xs
  | .str x => some (sgns x)
  | .scr ns => some (ns.map .int)
  | _ => none
def seqI (f : Env → Option D) : Env → Option (List D) := fun ρ => match f ρ with
  | none => none
  | some x => itemsD x
theorem dw_list {K : PySem.W.Frag} {w : Bool} {lk : Option Addr} {a : Addr} {vs : List V} {ds : List D} {S1 H1 : Hp} (r : RpL K S1 vs ds) (h : ∀ S2 H2, Sub lk S2 H2 → Ext S1 S2 → (w = true → ∀ a, H1 a ≠ none → H2 a = H1 a) → SqL K H2 a vs) : DWalk K w lk (Itl K a) ds S1 H1 := fun S2 H2 s x q => by
  have sq := h S2 H2 s x q
  have hl := r.length
  refine ⟨fun i hi => ⟨vs, vs[i], sq, by simp [hl, hi]⟩, ⟨vs, sq, by omega⟩, fun i v H3 hi y => ?_⟩
  obtain ⟨rfl, y⟩ := y
  obtain ⟨d, e1, e2⟩ := r.get' (y vs sq)
  exact ⟨S2, d, Gr.refl s, e1, e2.mono x⟩
theorem dw_tup {K : PySem.W.Frag} {w : Bool} {lk : Option Addr} {a : Addr} {vs : List V} {ds : List D} {S1 H1 : Hp} (r : RpL K S1 vs ds) (h : ∀ S2 H2, Sub lk S2 H2 → Ext S1 S2 → (w = true → ∀ a, H1 a ≠ none → H2 a = H1 a) → SqT K H2 a vs) : DWalk K w lk (Itt K a) ds S1 H1 := fun S2 H2 s x q => by
  have sq := h S2 H2 s x q
  have hl := r.length
  refine ⟨fun i hi => ⟨vs, vs[i], sq, by simp [hl, hi]⟩, ⟨vs, sq, by omega⟩, fun i v H3 hi y => ?_⟩
  obtain ⟨rfl, y⟩ := y
  obtain ⟨d, e1, e2⟩ := r.get' (y vs sq)
  exact ⟨S2, d, Gr.refl s, e1, e2.mono x⟩
theorem dw_str {K : PySem.W.Frag} {w : Bool} {lk : Option Addr} {x : Tx} {S1 H1 : Hp} : DWalk K w lk (Its (tx x)) (sgns x) S1 H1 := fun S2 H2 s e q => by
  have hl : (sgns x).length = (tx x).cps.size := by simp [sgns, tx]
  refine ⟨fun i hi => by rw [hl] at hi; exact hi, by rw [hl]; exact Nat.le_refl _, fun i v H3 hi y => ?_⟩
  obtain ⟨rfl, c, h1, rfl⟩ := y
  refine ⟨S2, .str [c], Gr.refl s, ?_, .str [c]⟩
  have : x[i]? = some c := by simpa [tx] using h1
  simp [sgns, this]
theorem sqL_sub {K : PySem.W.Frag} {lk : Option Addr} {S H : Hp} {a : Addr} {vs : List V} (s : Sub lk S H) (h : SqL K S a vs) : SqL K H a vs := by
  rcases h with (h | ⟨o, h⟩) | h
  · rcases s _ _ h with q | ⟨_, ⟨_, z⟩, _⟩
    · exact .inl (.inl q)
    · cases z
  · rcases s _ _ h with q | ⟨_, ⟨_, z⟩, _⟩
    · exact .inl (.inr ⟨o, q⟩)
    · cases z
  · exact .inr h
theorem rpl_ints {K : PySem.W.Frag} {S : Hp} : ∀ ns : List Int, RpL K S (ns.map V.int) (ns.map D.int)
  | [] => .nil
  | n :: ns => .cons (.int n) (rpl_ints ns)
/-- over a list, a tuple, a text -/
theorem ji_seq {tg : Expr} (h : JE X b e f) : JI X b false tg e (seqI f) := ⟨PI_imp (PI_or (PI_or (pi_list h.pe) (pi_tup h.pe)) (pi_str h.pe)) fun σ H R ⟨lk, B, S, ρ, ds, h1, h2, h3, h4, k⟩ => by
  unfold seqI at h4
  split at h4
  · cases h4
  rename_i x e1
  cases x <;> simp only [itemsD] at h4 <;> cases h4
  · rename_i y
    refine .inr ⟨lk, B, S, ρ, _, h1, h2, h3, e1, fun v S1 H1 g1 r1 => ?_⟩
    cases r1
    exact ⟨tx y, rfl, k _ S1 H1 g1 dw_str⟩
  · refine .inl (.inr ⟨lk, B, S, ρ, _, h1, h2, h3, e1, fun v S1 H1 g1 r1 => ?_⟩)
    cases r1 with
    | tup q rr =>
      rename_i a vs
      have q1 : ∀ S2 H2, Sub lk S2 H2 → Ext S1 S2 → SqT X.K H2 a vs := fun S2 H2 s e2 => by
        rcases s _ _ (e2 _ _ q) with z | ⟨_, ⟨_, z⟩, _⟩
        · exact .inl (.inl z)
        · cases z
      exact ⟨a, rfl, ⟨vs, q1 S1 H1 g1.1 (Ext.refl _)⟩, k _ S1 H1 g1 (dw_tup rr fun S2 H2 s e2 _ => q1 S2 H2 s e2)⟩
  · refine .inl (.inl ⟨lk, B, S, ρ, _, h1, h2, h3, e1, fun v S1 H1 g1 r1 => ?_⟩)
    cases r1 with
    | lst q rr =>
      rename_i a vs
      have q1 : ∀ S2 H2, Sub lk S2 H2 → Ext S1 S2 → SqL X.K H2 a vs := fun S2 H2 s e2 => sqL_sub s (.inl (.inl (e2 _ _ q)))
      exact ⟨a, rfl, ⟨vs, q1 S1 H1 g1.1 (Ext.refl _)⟩, k _ S1 H1 g1 (dw_list rr fun S2 H2 s e2 _ => q1 S2 H2 s e2)⟩
  · rename_i ns
    refine .inl (.inl ⟨lk, B, S, ρ, _, h1, h2, h3, e1, fun v S1 H1 g1 r1 => ?_⟩)
    cases r1 with
    | scr q =>
      rename_i a
      have q1 : ∀ S2 H2, Sub lk S2 H2 → Ext S1 S2 → SqL X.K H2 a (ns.map V.int) := fun S2 H2 s e2 => sqL_sub s (e2.sqL q)
      exact ⟨a, rfl, ⟨_, q1 S1 H1 g1.1 (Ext.refl _)⟩, k _ S1 H1 g1 (dw_list (rpl_ints ns) fun S2 H2 s e2 _ => q1 S2 H2 s e2)⟩⟩
theorem ji_seqW {tg : Expr} (h : JW X b e f) : JI X b true tg e (seqI f) := ⟨PI_imp (PI_or (PI_or (pi_list h.pe) (pi_tup h.pe)) (pi_str h.pe)) fun σ H R ⟨lk, B, S, ρ, ds, h1, h2, h3, h4, k⟩ => by
  unfold seqI at h4
  split at h4
  · cases h4
  rename_i x e1
  cases x <;> simp only [itemsD] at h4 <;> cases h4
  · rename_i y
    refine .inr ⟨lk, B, S, ρ, _, h1, h2, h3, e1, fun v S1 H1 g1 r1 => ?_⟩
    exact ⟨tx y, r1.str_inv, k _ S1 H1 g1 dw_str⟩
  · refine .inl (.inr ⟨lk, B, S, ρ, _, h1, h2, h3, e1, fun v S1 H1 g1 r1 => ?_⟩)
    obtain ⟨a, vs, rfl, q, _, rr⟩ := r1.tup_inv g1.1
    exact ⟨a, rfl, ⟨vs, .inl (.inl q)⟩, k _ S1 H1 g1 (dw_tup rr fun S2 H2 s e2 z => .inl (.inl (by rw [z rfl a (by rw [q]; simp)]; exact q)))⟩
  · refine .inl (.inl ⟨lk, B, S, ρ, _, h1, h2, h3, e1, fun v S1 H1 g1 r1 => ?_⟩)
    obtain ⟨a, vs, rfl, q, rr⟩ := r1.lst_inv g1.1
    exact ⟨a, rfl, ⟨vs, .inl (.inl q)⟩, k _ S1 H1 g1 (dw_list rr fun S2 H2 s e2 z => .inl (.inl (by rw [z rfl a (by rw [q]; simp)]; exact q)))⟩
  · rename_i ns
    refine .inl (.inl ⟨lk, B, S, ρ, _, h1, h2, h3, e1, fun v S1 H1 g1 r1 => ?_⟩)
    obtain ⟨a, rfl, q⟩ := r1.scr_inv g1.1
    refine ⟨a, rfl, ⟨_, q⟩, k _ S1 H1 g1 (dw_list (rpl_ints ns) fun S2 H2 s e2 z => ?_)⟩
    rcases q with (q | ⟨o, q⟩) | q
    · exact .inl (.inl (by rw [z rfl a (by rw [q]; simp)]; exact q))
    · exact .inl (.inr ⟨o, by rw [z rfl a (by rw [q]; simp)]; exact q⟩)
    · exact .inr q⟩
theorem JI.w {tg : Expr} {g : Env → Option (List D)} (h : JI X b false tg e g) : JI X b true tg e g := ⟨PI_imp h.pi fun σ H R ⟨lk, B, S, ρ, ds, h1, h2, h3, h4, k⟩ => ⟨lk, B, S, ρ, ds, h1, h2, h3, h4, fun J S1 H1 g1 d => k J S1 H1 g1 d.w⟩⟩
/-- range -/
def rng (lo : Int) (n : Nat) : List D := (List.range n).map fun i => .int (lo + (i : Nat))
theorem big_ex : ∃ n : Int, n = 4611686018427387904 := ⟨_, rfl⟩
def BIG : Int := Classical.choose big_ex
theorem BIG_eq : BIG = 4611686018427387904 := Classical.choose_spec big_ex
def rng1 (fs : Env → Option (List D)) : Env → Option (List D) := fun ρ => match fs ρ with
  | some [.int j] => if -BIG ≤ j ∧ j < BIG then some (rng 0 j.toNat) else none
  | _ => none
def rng2 (fs : Env → Option (List D)) : Env → Option (List D) := fun ρ => match fs ρ with
  | some [.int i, .int j] => if (-BIG ≤ i ∧ i < BIG) ∧ (-BIG ≤ j ∧ j < BIG) then some (rng i (j - i).toNat) else none
  | _ => none
theorem dw_rng {K : PySem.W.Frag} {w : Bool} {lk : Option Addr} {lo : Int} {n : Nat} {S1 H1 : Hp} : DWalk K w lk (Itr lo n) (rng lo n) S1 H1 := fun S2 H2 s e q => by
  have hl : (rng lo n).length = n := by simp [rng]
  rw [hl]
  refine ⟨fun i hi => hi, Nat.le_refl _, fun i v H3 hi y => ?_⟩
  obtain ⟨rfl, rfl⟩ := y
  exact ⟨S2, .int (lo + (i : Nat)), Gr.refl s, by simp [rng, hi], .int _⟩
theorem ji_range1 {tg : Expr} {p : Pos} {fs : Env → Option (List D)} (hg : Gl X "range") (hm : X.mg "range" = none) (ha : JAW X b [a] fs) (hs : starEach [a] X.env = [(false, eval a X.env)] := by rfl) : JI X b false tg (.Call (.Name "range" p) [a] [] pos) (rng1 fs) := ⟨PI_imp (pi_range1 hg hm ha.pa hs) fun σ H R ⟨lk, B, S, ρ, ds, h1, h2, h3, h4, k⟩ => by
  unfold rng1 at h4
  split at h4
  · rename_i j e1
    split at h4
    · rename_i hj
      cases h4
      simp only [BIG_eq] at hj
      refine ⟨lk, B, S, ρ, _, h1, h2, h3, e1, fun vs S1 H1 g1 r1 => ?_⟩
      cases r1 with
      | cons r rr =>
        cases rr
        rw [r.int_inv]
        exact ⟨j, rfl, by omega, by omega, k _ S1 H1 g1 dw_rng⟩
    · cases h4
  · cases h4⟩
theorem ji_range2 {tg : Expr} {p : Pos} {fs : Env → Option (List D)} (hg : Gl X "range") (hm : X.mg "range" = none) (ha : JAW X b [a, c] fs) (hs : starEach [a, c] X.env = [(false, eval a X.env), (false, eval c X.env)] := by rfl) (hs2 : starEach [c] X.env = [(false, eval c X.env)] := by rfl) : JI X b false tg (.Call (.Name "range" p) [a, c] [] pos) (rng2 fs) := ⟨PI_imp (pi_range2 hg hm ha.pa hs hs2) fun σ H R ⟨lk, B, S, ρ, ds, h1, h2, h3, h4, k⟩ => by
  unfold rng2 at h4
  split at h4
  · rename_i i j e1
    split at h4
    · rename_i hj
      cases h4
      simp only [BIG_eq] at hj
      refine ⟨lk, B, S, ρ, _, h1, h2, h3, e1, fun vs S1 H1 g1 r1 => ?_⟩
      cases r1 with
      | cons r rr =>
        cases rr with
        | cons r' rr =>
          cases rr
          rw [r.int_inv, r'.int_inv]
          exact ⟨i, j, rfl, ⟨by omega, by omega, by omega, by omega⟩, k _ S1 H1 g1 dw_rng⟩
    · cases h4
  · cases h4⟩
end
end Fo
end
-- FoD.lean
set_option Elab.async false
set_option linter.all false
set_option maxRecDepth 100000
set_option maxHeartbeats 1000000
noncomputable section
namespace Fo
open PySem L2

/-! ### list comprehensions -/
def wipeE (vs : List Nat) (ρ : Env) : Env := vs.foldr (fun v r => r.set v none) ρ
def lcL (ρ0 : Env) (G : D → Env → Option Env) (p : Env → Option Bool) (f : Env → Option D) : List D → Option (List D)
  | [] => some []
  | d :: ds => match G d ρ0 with
    | none => none
    | some ρ1 => match p ρ1 with
      | none => none
      | some true => (match f ρ1 with
        | none => none
        | some y => match lcL ρ0 G p f ds with
          | none => none
          | some ys => some (y :: ys))
      | some false => lcL ρ0 G p f ds
def lcX (vs : List Nat) (gi : Env → Option (List D)) (G : D → Env → Option Env) (p : Env → Option Bool) (f : Env → Option D) : Env → Option (List D) := fun ρ => match gi ρ with
  | none => none
  | some ds => match lcL (wipeE vs ρ) G p f ds with
    | none => none
    | some ys => if ys.length ≤ LIM then some ys else none
def lcE (vs : List Nat) (gi : Env → Option (List D)) (G : D → Env → Option Env) (p : Env → Option Bool) (f : Env → Option D) : Env → Option D := fun ρ => (lcX vs gi G p f ρ).map .lst

theorem wipe_get {σ : St} {j : Nat} : ∀ {vs : List Nat}, j ∈ vs → j < σ.length → (L2.wipe σ vs)[j]? = some none
  | [], h, _ => by simp at h
  | v :: vs, h, hl => by
    unfold L2.wipe
    by_cases e : v = j
    · subst e
      rw [List.getElem?_set_self (by rw [L2.wipe_length]; exact hl)]
    · rw [List.getElem?_set_ne e]
      exact wipe_get (by simpa [Ne.symm e] using h) hl
theorem wipe_same {σ σ' : St} {vs : List Nat} (hl : σ'.length = σ.length) (h : ∀ j, j ∉ vs → σ'[j]? = σ[j]?) : L2.wipe σ' vs = L2.wipe σ vs := by
  refine List.ext_getElem? fun j => ?_
  by_cases hj : j ∈ vs
  · by_cases hn : j < σ.length
    · rw [wipe_get hj hn, wipe_get hj (by rw [hl]; exact hn)]
    · rw [List.getElem?_eq_none (by rw [L2.wipe_length]; omega), List.getElem?_eq_none (by rw [L2.wipe_length]; omega)]
  · rw [L2.wipe_out hj, L2.wipe_out hj]
    exact h j hj

section
variable {X : Cx} {b : Bool} {e a c : Expr} {pos : Pos} {f g : Env → Option D}
structure JTs (X : Cx) (b : Bool) (ifs : List Expr) (p : Env → Option Bool) : Prop where
  pts : PTs X ifs (rdT X.K b p)
theorem PTs_imp {X : Cx} {ifs : List Expr} {t t' : TT} (h : PTs X ifs t) (k : ∀ σ H Q, t' σ H Q → t σ H Q) : PTs X ifs t' := ⟨fun pins s σ H Q I q => h.run pins s σ H Q I (k _ _ _ q)⟩
theorem jts_nil : JTs X b [] (fun _ => some true) := ⟨PTs_imp pts_nil fun σ H Q ⟨lk, B, S, ρ, d, h1, h2, h3, h4, k⟩ => by
  cases h4
  exact k S H (Gr.refl h2)⟩
theorem jts_one {p : Env → Option Bool} (h : JT X b c p) : JTs X b [c] p := ⟨pts_one h.pt⟩

/-- what a new list is read as -/
def rdF (K : PySem.W.Frag) (b : Bool) (f : Env → Option (List D)) : TE := fun σ H Q => ∃ lk B S ρ ds, (b = false → lk = none) ∧ Sub lk S H ∧ ER K B S H σ ρ ∧ f ρ = some ds ∧
  ∀ p vs S' H', Gr lk S H S' H' → H p = none → S' p = none → H' p = some (.lst vs) → RpL K S' vs ds → Q (.ref p) H'
structure JF (X : Cx) (b : Bool) (e : Expr) (f : Env → Option (List D)) : Prop where
  pe : PE X e (rdF X.K b f)
theorem JF.toE {f : Env → Option (List D)} (h : JF X b e f) : JE X b e (fun ρ => (f ρ).map .lst) := ⟨PE_imp h.pe fun σ H Q ⟨lk, B, S, ρ, d, h1, h2, h3, h4, k⟩ => by
  replace h4 : Option.map D.lst (f ρ) = some d := h4
  cases q : f ρ with
  | none => rw [q] at h4; cases h4
  | some ds =>
    rw [q] at h4
    cases h4
    refine ⟨lk, B, S, ρ, ds, h1, h2, h3, q, fun p vs S' H' g hp sp hp' r => ?_⟩
    have x : Ext S' (upd S' p (.lst vs)) := fun a u z => by
      rw [upd_ne (fun q => by rw [q, sp] at z; cases z)]; exact z
    refine k _ (upd S' p (.lst vs)) H' ⟨fun a u z => ?_, fun a ha => ?_⟩ (.lst upd_same (r.mono x))
    · by_cases q : a = p
      · subst q; rw [upd_same] at z; cases z; exact .inl hp'
      · rw [upd_ne q] at z; exact g.1 a u z
    · have q : a ≠ p := fun q => ha (q ▸ hp)
      rw [upd_ne q]; exact g.2 a ha⟩
def lstX (f : Env → Option (List D)) : Env → Option (List D) := fun ρ => match f ρ with
  | none => none
  | some xs => if xs.length ≤ LIM then some xs else none
theorem jf_lst {es : List Expr} {fs : Env → Option (List D)} (h : JA X b es fs) : JF X b (.List es pos) (lstX fs) := ⟨PE_imp (pe_lst h.pa) fun σ H Q ⟨lk, B, S, ρ, d, h1, h2, h3, h4, k⟩ => by
  unfold lstX at h4
  split at h4
  · cases h4
  rename_i xs e
  split at h4
  · rename_i hl
    have hq := Option.some.inj h4
    subst hq
    exact ⟨lk, B, S, ρ, xs, h1, h2, h3, e, fun vs S1 H1 g1 r1 => ⟨by rw [r1.length]; exact lim_ok hl, fun p hp => by
      have g2 := Gr.own (o := .lst vs) g1.1 hp
      exact k p vs S1 _ (g1.trans g2) (g1.fresh hp) (g1.1.none hp) upd_same r1⟩⟩
  · cases h4⟩

/-- the comprehension behind its first iterator -/
theorem lc_core {K : PySem.W.Frag} {vs is : List Nat} {G : D → Env → Option Env} {p : Env → Option Bool} {σ : St} {H S B : Hp} {lk : Option Addr} {ρ : Env} {ds ys : List D} {Q : VK} (his : ∀ i ∈ is, i ∈ vs) (h1 : b = false → lk = none) (h2 : Sub lk S H) (h3 : ER K B S H σ ρ) (e2 : lcL (wipeE vs ρ) G p f ds = some ys) (hlim : ys.length ≤ LIM)
    (k : ∀ p vs S' H', Gr lk S H S' H' → H p = none → S' p = none → H' p = some (.lst vs) → RpL K S' vs ys → Q (.ref p) H') (J : It) (S1 H1 : Hp) (g1 : Gr lk S H S1 H1) (dw : DWalk K true lk J ds S1 H1) :
    tLc (fun _ _ R => R J H1) (rdG K b is G) (rdT K b p) (rdE K b f) vs σ H Q := by
  intro Dd hD
  have er1 := h3.gr h2 g1
  have hS1 : S1 Dd = none := g1.1.none hD
  refine ⟨fun i m H' => m = ds.length - i ∧ i ≤ ds.length ∧ ∃ S' acc zs rs, Gr lk S1 H1 S' H' ∧ S' Dd = none ∧ H' Dd = some (.lst acc) ∧ RpL K S' acc zs ∧ lcL (wipeE vs ρ) G p f (ds.drop i) = some rs ∧ zs ++ rs = ys,
    ⟨ds.length, rfl, Nat.zero_le _, S1, [], [], ys, Gr.own g1.1 hD, hS1, upd_same, .nil, by simpa using e2, rfl⟩, ?_⟩
  rintro i m H2 ⟨rfl, hi, S2, acc, zs, rs, g2, hS2, hD2, r2, e3, e4⟩
  have hk : true = true → ∀ a, H1 a ≠ none → H2 a = H1 a := fun _ a ha => (g2.2 a ha).1
  obtain ⟨d1, d2, d3⟩ := dw S2 H2 g2.1 (g2.ext g1.1) hk
  by_cases hlt : i < ds.length
  · refine .inr ⟨d1 i hlt, fun H' => i + 1 ≤ ds.length ∧ ∃ S' acc zs rs, Gr lk S1 H1 S' H' ∧ S' Dd = none ∧ H' Dd = some (.lst acc) ∧ RpL K S' acc zs ∧ lcL (wipeE vs ρ) G p f (ds.drop (i + 1)) = some rs ∧ zs ++ rs = ys,
      fun H' ⟨q1, q2⟩ => ⟨ds.length - (i + 1), by omega, rfl, q1, q2⟩, fun x H3 y => ?_⟩
    obtain ⟨S3, d, g3, ed, rd⟩ := d3 i x H3 hlt y
    have ed' : ds.drop i = d :: ds.drop (i + 1) := by
      rw [List.drop_eq_getElem_cons hlt]
      rw [List.getElem?_eq_getElem hlt] at ed
      cases ed
      rfl
    rw [ed'] at e3
    unfold lcL at e3
    split at e3
    · cases e3
    rename_i ρ1 eG
    have g13 := g2.trans g3
    refine ⟨lk, B, S3, wipeE vs ρ, d, ρ1, h1, g3.1, ?_, rd, eG, fun σ2 er2 so sl => ⟨?_, ?_⟩⟩
    · exact ((er1.gr g1.1 g13).wipe vs)
    · refine (wipe_same sl fun j hj => so j fun z => hj (his j z)).trans ?_
      refine wipe_same (L2.wipe_length _ _) fun j hj => L2.wipe_out hj
    · split at e3
      · cases e3
      · rename_i ep
        refine ⟨lk, B, S3, ρ1, true, h1, g3.1, er2, ep, fun S4 H4 g4 => ?_⟩
        split at e3
        · cases e3
        rename_i y' ef
        split at e3
        · cases e3
        rename_i rs' er
        cases e3
        dsimp only
        rw [if_pos rfl]
        refine ⟨lk, B, S4, ρ1, y', h1, g4.1, er2.gr g3.1 g4, ef, fun v S5 H5 g5 r5 => ?_⟩
        have g35 := g3.trans (g4.trans g5)
        have hD5 : H5 Dd = some (.lst acc) := by rw [(g35.2 Dd (by rw [hD2]; simp)).1]; exact hD2
        have hS5 : S5 Dd = none := by rw [(g35.2 Dd (by rw [hD2]; simp)).2]; exact hS2
        have la : acc.length < sizeLine := by
          have := r2.length
          have l2 : ys.length = zs.length + (rs'.length + 1) := by rw [← e4]; simp
          rw [sizeLine_eq]
          simp only [LIM_eq] at hlim
          omega
        refine ⟨acc, hD5, la, hlt, S5, acc ++ [v], zs ++ [y'], rs', ?_, hS5, upd_same, (r2.mono (g35.ext g2.1)).append (.one r5), er, by rw [← e4]; simp⟩
        have g15 := g2.trans g35
        refine ⟨fun a u z => ?_, fun a ha => ?_⟩
        · have q : a ≠ Dd := fun q => by rw [q, hS5] at z; cases z
          rw [upd_ne q]; exact g15.1 a u z
        · have q : a ≠ Dd := fun q => ha (q ▸ hD)
          rw [upd_ne q]; exact g15.2 a ha
      · rename_i ep
        refine ⟨lk, B, S3, ρ1, false, h1, g3.1, er2, ep, fun S4 H4 g4 => ?_⟩
        dsimp only
        rw [if_neg (by decide)]
        have g35 := g3.trans g4
        have hD5 : H4 Dd = some (.lst acc) := by rw [(g35.2 Dd (by rw [hD2]; simp)).1]; exact hD2
        have hS5 : S4 Dd = none := by rw [(g35.2 Dd (by rw [hD2]; simp)).2]; exact hS2
        exact ⟨hlt, S4, acc, zs, rs, g2.trans g35, hS5, hD5, r2.mono (g35.ext g2.1), e3, e4⟩
  · have hi' : i = ds.length := by omega
    subst hi'
    refine .inl ⟨d2, ?_⟩
    rw [List.drop_length] at e3
    cases e3
    rw [List.append_nil] at e4
    subst e4
    exact k Dd acc S2 H2 (g1.trans g2) (g1.fresh hD) hS2 hD2 r2
theorem lc_read {K : PySem.W.Frag} {vs is : List Nat} {gi : Env → Option (List D)} {G : D → Env → Option Env} {p : Env → Option Bool} {σ : St} {H : Hp} {Q : VK} (his : ∀ i ∈ is, i ∈ vs) (h : rdF K b (lcX vs gi G p f) σ H Q) :
    tLc (rdI K b true gi) (rdG K b is G) (rdT K b p) (rdE K b f) vs σ H Q := by
  obtain ⟨lk, B, S, ρ, out, h1, h2, h3, h4, k⟩ := h
  unfold lcX at h4
  split at h4
  · cases h4
  rename_i ds e1
  split at h4
  · cases h4
  rename_i ys e2
  by_cases hlim : ys.length ≤ LIM
  case neg => rw [if_neg hlim] at h4; cases h4
  rw [if_pos hlim] at h4
  have hq := Option.some.inj h4
  subst hq
  exact ⟨lk, B, S, ρ, ds, h1, h2, h3, e1, fun J S1 H1 g1 dw => lc_core his h1 h2 h3 e2 hlim k J S1 H1 g1 dw⟩
theorem jf_lc {elt tg iter : Expr} {ifs : List Expr} {scope : Scope} {own : List (PySem.Str × Nat)} {is : List Nat} {gi : Env → Option (List D)} {G : D → Env → Option Env} {p : Env → Option Bool} (hc : X.calm = true) (hN : X.N.Nodup) (hi : JI X b true tg iter gi) (ok : BlkOk X.N X.env.scope scope own)
    (hg : ∀ (s : Shared) (H : Hp) (C : Addr) (cl : List (PySem.Str × Addr)) (fp : List Addr), JG (X.blk s H scope (compEnvC scope cl C X.env) fp) b tg is G) (ht : ∀ (s : Shared) (H : Hp) (C : Addr) (cl : List (PySem.Str × Addr)) (fp : List Addr), JTs (X.blk s H scope (compEnvC scope cl C X.env) fp) b ifs p)
    (he : ∀ (s : Shared) (H : Hp) (C : Addr) (cl : List (PySem.Str × Addr)) (fp : List Addr), JE (X.blk s H scope (compEnvC scope cl C X.env) fp) b elt f) (his : ∀ i ∈ is, i ∈ own.map (·.2) := by decide) (hs : ∀ x, foldedSetIterable iter X.env x = pure x := by intro _; rfl) :
    JF X b (.ListComp elt [⟨tg, iter, ifs, 0⟩] scope pos) (lcX (own.map (·.2)) gi G p f) :=
  ⟨PE_imp (pe_lc hc hN hi.pi ok (fun s H C cl fp => (hg s H C cl fp).pg) (fun s H C cl fp => (ht s H C cl fp).pts) (fun s H C cl fp => (he s H C cl fp).pe) hs) fun σ H Q h => lc_read his h⟩
theorem je_lc {elt tg iter : Expr} {ifs : List Expr} {scope : Scope} {own : List (PySem.Str × Nat)} {is : List Nat} {gi : Env → Option (List D)} {G : D → Env → Option Env} {p : Env → Option Bool} (hc : X.calm = true) (hN : X.N.Nodup) (hi : JI X b true tg iter gi) (ok : BlkOk X.N X.env.scope scope own)
    (hg : ∀ (s : Shared) (H : Hp) (C : Addr) (cl : List (PySem.Str × Addr)) (fp : List Addr), JG (X.blk s H scope (compEnvC scope cl C X.env) fp) b tg is G) (ht : ∀ (s : Shared) (H : Hp) (C : Addr) (cl : List (PySem.Str × Addr)) (fp : List Addr), JTs (X.blk s H scope (compEnvC scope cl C X.env) fp) b ifs p)
    (he : ∀ (s : Shared) (H : Hp) (C : Addr) (cl : List (PySem.Str × Addr)) (fp : List Addr), JE (X.blk s H scope (compEnvC scope cl C X.env) fp) b elt f) (his : ∀ i ∈ is, i ∈ own.map (·.2) := by decide) (hs : ∀ x, foldedSetIterable iter X.env x = pure x := by intro _; rfl) :
    JE X b (.ListComp elt [⟨tg, iter, ifs, 0⟩] scope pos) (lcE (own.map (·.2)) gi G p f) := (jf_lc hc hN hi ok hg ht he his hs).toE
end
end Fo
end
-- FoE.lean
set_option Elab.async false
set_option linter.all false
set_option maxRecDepth 100000
set_option maxHeartbeats 1000000
noncomputable section
namespace Fo
open PySem L2

inductive Out where
  | nx (ρ : Env) | bk (ρ : Env) | ct (ρ : Env) | rt (d : D) | ex (n : Nat)
/-- what stands behind a statement: B, S0 at the def's entry -/
def Post (K : PySem.W.Frag) (EX : Nat → Value) (E : XK) (T : Ends) (S0 B S : Hp) : Out → Prop
  | .nx ρ => ∀ S' H' σ', Gr none S0 B S' H' → Ext S S' → ER K B S' H' σ' ρ → T.nx σ' H'
  | .bk ρ => ∀ S' H' σ', Gr none S0 B S' H' → Ext S S' → ER K B S' H' σ' ρ → T.bk σ' H'
  | .ct ρ => ∀ S' H' σ', Gr none S0 B S' H' → Ext S S' → ER K B S' H' σ' ρ → T.ct σ' H'
  | .rt d => ∀ S' H' v, Gr none S0 B S' H' → Ext S S' → Rp K S' v d → T.rt v H'
  | .ex n => ∀ S' H', Gr none S0 B S' H' → Ext S S' → E (EX n) none H'
theorem Post.mono {K : PySem.W.Frag} {EX : Nat → Value} {E : XK} {T : Ends} {S0 B S S1 : Hp} {o : Out} (x : Ext S S1) (h : Post K EX E T S0 B S o) : Post K EX E T S0 B S1 o := by
  cases o with
  | nx ρ => exact fun S' H' σ' g e => h S' H' σ' g (x.trans e)
  | bk ρ => exact fun S' H' σ' g e => h S' H' σ' g (x.trans e)
  | ct ρ => exact fun S' H' σ' g e => h S' H' σ' g (x.trans e)
  | rt ρ => exact fun S' H' σ' g e => h S' H' σ' g (x.trans e)
  | ex n => exact fun S' H' g e => h S' H' g (x.trans e)
def rdS (K : PySem.W.Frag) (EX : Nat → Value) (E : XK) (f : Env → Option Out) : TS := fun T σ H => ∃ S0 B S ρ o, Sub none S H ∧ Gr none S0 B S H ∧ ER K B S H σ ρ ∧ f ρ = some o ∧ Post K EX E T S0 B S o
structure JS (X : Cx) (EX : Nat → Value) (E : XK) (s : Stmt) (f : Env → Option Out) : Prop where
  ps : PS X s (rdS X.K EX E f)
structure JSs (X : Cx) (EX : Nat → Value) (E : XK) (s : List Stmt) (f : Env → Option Out) : Prop where
  pss : PSs X s (rdS X.K EX E f)

section
variable {X : Cx} {EX : Nat → Value} {E : XK} {e a c : Expr} {pos : Pos} {st : Stmt} {rest : List Stmt} {f g : Env → Option Out} {fe : Env → Option D}
/-! ### blocks -/
def nopS : Env → Option Out := fun ρ => some (.nx ρ)
def seqS (f g : Env → Option Out) : Env → Option Out := fun ρ => match f ρ with
  | some (.nx ρ') => g ρ'
  | o => o
theorem js_nil : JSs X EX E [] nopS := ⟨PSs_imp pss_nil fun T σ H ⟨S0, B, S, ρ, o, h1, h2, h3, h4, k⟩ => by
  cases h4
  exact k S H σ h2 (Ext.refl S) h3⟩
theorem js_one (h : JS X EX E st f) : JSs X EX E [st] f := ⟨pss_one h.ps⟩
theorem js_cons (h : JS X EX E st f) (k : JSs X EX E rest g) : JSs X EX E (st :: rest) (seqS f g) := ⟨PSs_imp (pss_cons h.ps k.pss) fun T σ H ⟨S0, B, S, ρ, o, h1, h2, h3, h4, k⟩ => by
  unfold seqS at h4
  split at h4
  · rename_i ρ' e1
    exact ⟨S0, B, S, ρ, _, h1, h2, h3, e1, fun S' H' σ' g x er => ⟨S0, B, S', ρ', o, g.1, g, er, h4, k.mono x⟩⟩
  · rename_i hn
    refine ⟨S0, B, S, ρ, o, h1, h2, h3, h4, ?_⟩
    cases o with
    | nx ρ' => exact absurd h4 (by intro z; exact hn ρ' z)
    | bk ρ' => exact k
    | ct ρ' => exact k
    | rt ρ' => exact k
    | ex ρ' => exact k⟩
theorem js_pass : JS X EX E (.Pass pos) nopS := ⟨PS_imp ps_pass fun T σ H ⟨S0, B, S, ρ, o, h1, h2, h3, h4, k⟩ => by
  cases h4
  exact k S H σ h2 (Ext.refl S) h3⟩
/-- what is never come to -/
theorem js_no : JS X EX E st (fun _ => none) := ⟨PS_imp ps_never fun T σ H ⟨S0, B, S, ρ, o, h1, h2, h3, h4, k⟩ => by cases h4⟩
theorem jss_no : JSs X EX E rest (fun _ => none) := ⟨PSs_imp pss_never fun T σ H ⟨S0, B, S, ρ, o, h1, h2, h3, h4, k⟩ => by cases h4⟩

/-! ### the frame's own things handed on -/
def relC (i : Nat) : Env → Env := fun ρ => match ρ[i]? with
  | some (some (.l xs)) => ρ.set i (some (.d (.lst xs)))
  | some (some (.k ks)) => ρ.set i (some (.d (.dct ks)))
  | _ => ρ
theorem rel_ok {K : PySem.W.Frag} {S0 B S H : Hp} {σ : St} {ρ : Env} (i : Nat) (h1 : Sub none S H) (h2 : Gr none S0 B S H) (h3 : ER K B S H σ ρ) : ∃ S', Sub none S' H ∧ Gr none S0 B S' H ∧ Ext S S' ∧ ER K B S' H σ (relC i ρ) := by
  -- one object becomes shared
  have go : ∀ (a : Addr) (u : HO) (c : Cell) (d : D), ρ[i]? = some (some c) → c.own = true → σ[i]? = some (some (.ref a)) → H a = some u → S a = none → B a = none → (∀ S', Ext S S' → S' a = some u → Rp K S' (.ref a) d) →
      ∃ S', Sub none S' H ∧ Gr none S0 B S' H ∧ Ext S S' ∧ ER K B S' H σ (ρ.set i (some (.d d))) := fun a u c d e1 eo e2 ha hs hb hr => by
    have x : Ext S (upd S a u) := fun b v z => by rw [upd_ne (fun q => by rw [q, hs] at z; cases z)]; exact z
    have sb : Sub none (upd S a u) H := fun b v z => by
      by_cases q : b = a
      · subst q; rw [upd_same] at z; cases z; exact .inl ha
      · rw [upd_ne q] at z; exact h1 b v z
    refine ⟨upd S a u, sb, ⟨sb, fun b hb' => ?_⟩, x, ?_⟩
    · have q : b ≠ a := fun q => hb' (q ▸ hb)
      rw [upd_ne q]; exact h2.2 b hb'
    · have hi : i < ρ.length := by
        rcases Nat.lt_or_ge i ρ.length with z | z
        · exact z
        · rw [List.getElem?_eq_none z] at e1; cases e1
      refine ⟨by simp [h3.len], fun j c' ej => ?_, fun j k c1 c2 w q1 q2 o1 o2 f1 f2 => ?_⟩
      · by_cases q : i = j
        · subst q
          rw [List.getElem?_set_self hi] at ej
          have : Cell.d d = c' := by simpa using ej
          subst this
          exact ⟨_, e2, hr _ x upd_same⟩
        · rw [List.getElem?_set_ne q] at ej
          obtain ⟨v, q1, q2⟩ := h3.at_ j c' ej
          refine ⟨v, q1, ?_⟩
          cases hc : c' with
          | d y => rw [hc] at q2; exact Rp.mono x q2
          | l xs =>
            rw [hc] at q2
            obtain ⟨a', vs, r0, r1, r2, r3, r4⟩ := q2
            refine ⟨a', vs, r0, r1, ?_, r3, r4.mono x⟩
            have : a' ≠ a := fun z => q (h3.sep i j c c' (.ref a) e1 ej eo (by rw [hc]; rfl) e2 (by rw [q1, r0, z]))
            rw [upd_ne this]; exact r2
          | k xs =>
            rw [hc] at q2
            obtain ⟨a', vs, r0, r1, r2, r3, r4⟩ := q2
            refine ⟨a', vs, r0, r1, ?_, r3, r4.mono x⟩
            have : a' ≠ a := fun z => q (h3.sep i j c c' (.ref a) e1 ej eo (by rw [hc]; rfl) e2 (by rw [q1, r0, z]))
            rw [upd_ne this]; exact r2
      · have n1 : i ≠ j := fun z => by
          subst z
          rw [List.getElem?_set_self hi] at q1
          have : Cell.d d = c1 := by simpa using q1
          subst this; cases o1
        have n2 : i ≠ k := fun z => by
          subst z
          rw [List.getElem?_set_self hi] at q2
          have : Cell.d d = c2 := by simpa using q2
          subst this; cases o2
        rw [List.getElem?_set_ne n1] at q1
        rw [List.getElem?_set_ne n2] at q2
        exact h3.sep j k c1 c2 w q1 q2 o1 o2 f1 f2
  unfold relC
  split
  · rename_i xs e1
    obtain ⟨v, q, a, vs, rfl, r1, r2, r3, r4⟩ := h3.at_ i _ e1
    exact go a _ _ (.lst xs) e1 rfl q r1 r2 r3 fun S' x e => .lst e (r4.mono x)
  · rename_i xs e1
    obtain ⟨v, q, a, vs, rfl, r1, r2, r3, r4⟩ := h3.at_ i _ e1
    exact go a _ _ (.dct xs) e1 rfl q r1 r2 r3 fun S' x e => .dct e (r4.mono x)
  · exact ⟨S, h1, h2, Ext.refl S, h3⟩
def relL (is : List Nat) (ρ : Env) : Env := is.foldl (fun r i => relC i r) ρ
theorem relL_ok {K : PySem.W.Frag} {S0 B H : Hp} {σ : St} : ∀ (is : List Nat) {S : Hp} {ρ : Env}, Sub none S H → Gr none S0 B S H → ER K B S H σ ρ → ∃ S', Sub none S' H ∧ Gr none S0 B S' H ∧ Ext S S' ∧ ER K B S' H σ (relL is ρ)
  | [], S, ρ, h1, h2, h3 => ⟨S, h1, h2, Ext.refl S, h3⟩
  | i :: is, S, ρ, h1, h2, h3 => by
    obtain ⟨S1, a1, a2, a3, a4⟩ := rel_ok i h1 h2 h3
    obtain ⟨S2, b1, b2, b3, b4⟩ := relL_ok is a1 a2 a4
    exact ⟨S2, b1, b2, a3.trans b3, b4⟩
/-- ahead of a statement the slots is are handed on -/
theorem js_rel (is : List Nat) (h : JS X EX E st f) : JS X EX E st (fun ρ => f (relL is ρ)) := ⟨PS_imp h.ps fun T σ H ⟨S0, B, S, ρ, o, h1, h2, h3, h4, k⟩ => by
  obtain ⟨S', a1, a2, a3, a4⟩ := relL_ok is h1 h2 h3
  exact ⟨S0, B, S', _, o, a1, a2, a4, h4, k.mono a3⟩⟩

/-! ### small statements -/
theorem gr_step {S0 B S H S' H' : Hp} (h2 : Gr none S0 B S H) (g : Gr none S H S' H') : Gr none S0 B S' H' := h2.trans g
def asgS (i : Nat) (fe : Env → Option D) : Env → Option Out := fun ρ => match fe ρ with
  | none => none
  | some d => some (.nx (ρ.set i (some (.d d))))
theorem rd_asg {K : PySem.W.Frag} {i : Nat} {T : Ends} {σ : St} {H : Hp} (h : rdS K EX E (asgS i fe) T σ H) : tAsg (rdE K false fe) (gName i) T σ H := by
  obtain ⟨S0, B, S, ρ, o, h1, h2, h3, h4, k⟩ := h
  unfold asgS at h4
  split at h4
  · cases h4
  rename_i d e1
  cases h4
  exact ⟨none, B, S, ρ, d, fun _ => rfl, h1, h3, e1, fun v S' H' g r => k S' H' _ (h2.trans g) (g.ext h1) ((h3.gr h1 g).setD r)⟩
theorem js_set (i : Nat) {x : PySem.Str} {pos' : Pos} (hN : X.N.Nodup) (he : JE X false e fe) (hi : X.N[i]? = some x := by rfl) (hx : Loc X.env.scope x := by first | exact Or.inl rfl | exact Or.inr rfl) (hs : swapsWith e (some (.Name x pos')) pos.line X.env = pure false := by rfl) (hf : X.fn x = true ∨ X.env.scope.names.lookup x = some .local := by first | exact .inl rfl | exact .inr rfl) :
    JS X EX E (.Assign [.Name x pos'] e pos) (asgS i fe) := ⟨PS_imp (ps_set hN hi hx he.pe hs hf) fun T σ H => rd_asg⟩
/-- a new list that is the frame's own -/
def ownS (i : Nat) (fe : Env → Option (List D)) : Env → Option Out := fun ρ => match fe ρ with
  | none => none
  | some ds => some (.nx (ρ.set i (some (.l ds))))
theorem ER.setOwn {K : PySem.W.Frag} {B S H : Hp} {σ : St} {ρ : Env} {i : Nat} {p : Addr} {c : Cell} {S1 H1 : Hp} (h : ER K B S H σ ρ) (h' : ER K B S1 H1 σ ρ) (hp : H p = none) (hc : CRep K B S1 H1 (.ref p) c) : ER K B S1 H1 (σ.set i (some (.ref p))) (ρ.set i (some c)) :=
  h'.set hc fun _ j c' w _ e o f z => by
    subst z
    obtain ⟨v, q, r⟩ := h.at_ j c' e
    rw [q] at f
    cases f
    cases c' with
    | d y => cases o
    | l xs => obtain ⟨a, vs, z, r1, _⟩ := r; cases z; rw [hp] at r1; cases r1
    | k xs => obtain ⟨a, vs, z, r1, _⟩ := r; cases z; rw [hp] at r1; cases r1
theorem rd_own {K : PySem.W.Frag} {i : Nat} {T : Ends} {σ : St} {H : Hp} {ff : Env → Option (List D)} (h : rdS K EX E (ownS i ff) T σ H) : tAsg (rdF K false ff) (gName i) T σ H := by
  obtain ⟨S0, B, S, ρ, o, h1, h2, h3, h4, k⟩ := h
  unfold ownS at h4
  split at h4
  · cases h4
  rename_i d e1
  cases h4
  refine ⟨none, B, S, ρ, d, fun _ => rfl, h1, h3, e1, fun p vs S' H' g hp sp hp' r => k S' H' _ (h2.trans g) (g.ext h1) ?_⟩
  have hB : B p = none := by
    cases q : B p with
    | none => rfl
    | some u =>
      have := (h2.2 p (by rw [q]; simp)).1
      rw [hp, q] at this
      cases this
  exact ER.setOwn h3 (h3.gr h1 g) hp ⟨p, vs, rfl, hp', sp, hB, r⟩
theorem js_own (i : Nat) {ff : Env → Option (List D)} {x : PySem.Str} {pos' : Pos} (hN : X.N.Nodup) (he : JF X false e ff) (hi : X.N[i]? = some x := by rfl) (hx : Loc X.env.scope x := by first | exact Or.inl rfl | exact Or.inr rfl) (hs : swapsWith e (some (.Name x pos')) pos.line X.env = pure false := by rfl) (hf : X.fn x = true ∨ X.env.scope.names.lookup x = some .local := by first | exact .inl rfl | exact .inr rfl) :
    JS X EX E (.Assign [.Name x pos'] e pos) (ownS i ff) := ⟨PS_imp (ps_set hN hi hx he.pe hs hf) fun T σ H => rd_own⟩
/-- name = [..], the name a plain local -/
theorem js_setLc {i : Nat} {y : PySem.Str} {py : Pos} {elt tg iter : Expr} {ifs : List Expr} {scope : Scope} {own : List (PySem.Str × Nat)} {spos : Pos} {is : List Nat} {gi : Env → Option (List D)} {G : D → Env → Option Env} {p : Env → Option Bool} {fe : Env → Option D} (hc : X.calm = true) (hN : X.N.Nodup) (hy : X.N[i]? = some y) (hyl : X.env.scope.names.lookup y = some .local)
    (hsw : swapsWith (.ListComp elt [⟨tg, iter, ifs, 0⟩] scope pos) (some (.Name y py)) spos.line X.env = pure true) (hi : JI X false true tg iter gi) (ok : BlkOk X.N X.env.scope scope own)
    (hg : ∀ (s : Shared) (H : Hp) (C : Addr) (cl : List (PySem.Str × Addr)) (fp : List Addr), JG (X.blk s H scope (compEnvC scope cl C X.env) fp) false tg is G) (ht : ∀ (s : Shared) (H : Hp) (C : Addr) (cl : List (PySem.Str × Addr)) (fp : List Addr), JTs (X.blk s H scope (compEnvC scope cl C X.env) fp) false ifs p)
    (he : ∀ (s : Shared) (H : Hp) (C : Addr) (cl : List (PySem.Str × Addr)) (fp : List Addr), JE (X.blk s H scope (compEnvC scope cl C X.env) fp) false elt fe) (his : ∀ i ∈ is, i ∈ own.map (·.2) := by decide) (hs : ∀ x, foldedSetIterable iter X.env x = pure x := by intro _; rfl) :
    JS X EX E (.Assign [.Name y py] (.ListComp elt [⟨tg, iter, ifs, 0⟩] scope pos) spos) (ownS i (lcX (own.map (·.2)) gi G p fe)) :=
  ⟨PS_imp (ps_setLc hc hN hy hyl hsw hi.pi ok (fun s H C cl fp => (hg s H C cl fp).pg) (fun s H C cl fp => (ht s H C cl fp).pts) (fun s H C cl fp => (he s H C cl fp).pe) hs) fun T σ H h => lc_read his (rd_own h)⟩
/-- name = name: what is owned goes over -/
def mvS (i j : Nat) : Env → Option Out := fun ρ => match ρ[j]? with
  | some (some c) => some (.nx ((if c.own then ρ.set j none else ρ).set i (some c)))
  | _ => none
theorem js_mv (i j : Nat) {x y : PySem.Str} {pos' pos2 : Pos} (hN : X.N.Nodup) (hj : X.N[j]? = some y := by rfl) (hv : Vis X.env.scope y := by first | exact Or.inl rfl | exact Or.inr (Or.inl rfl) | exact Or.inr (Or.inr rfl)) (hd : (y == ("__debug__" : PySem.Str)) = false := by decide)
    (hcd : (y == ("__classdict__" : PySem.Str)) = false := by decide) (hi : X.N[i]? = some x := by rfl) (hx : Loc X.env.scope x := by first | exact Or.inl rfl | exact Or.inr rfl) (hs : swapsWith (.Name y pos2) (some (.Name x pos')) pos.line X.env = pure false := by rfl) (hf : X.fn x = true ∨ X.env.scope.names.lookup x = some .local := by first | exact .inl rfl | exact .inr rfl) :
    JS X EX E (.Assign [.Name x pos'] (.Name y pos2) pos) (mvS i j) := ⟨PS_imp (ps_set hN hi hx (pe_var hj hv hd hcd) hs hf) fun T σ H ⟨S0, B, S, ρ, o, h1, h2, h3, h4, k⟩ => by
  unfold mvS at h4
  split at h4
  · rename_i cc e1
    cases h4
    obtain ⟨v, q, r⟩ := h3.at_ j _ e1
    refine ⟨v, q, k S H _ h2 (Ext.refl S) ?_⟩
    by_cases ho : cc.own = true
    · rw [if_pos ho]
      refine h3.drop.set r fun _ k' c' w _ e o f z => ?_
      subst z
      have nk : j ≠ k' := fun z => by
        subst z
        by_cases hl : j < ρ.length
        · rw [List.getElem?_set_self hl] at e; cases e
        · rw [List.getElem?_eq_none (by simp; omega)] at e; cases e
      rw [List.getElem?_set_ne nk] at e
      exact nk (h3.sep j k' cc c' _ e1 e ho o q f)
    · rw [if_neg ho]
      exact h3.set r fun z => absurd z ho
  · cases h4⟩
/-- targets of any form -/
def tgtS (fe : Env → Option D) (G : D → Env → Option Env) : Env → Option Out := fun ρ => match fe ρ with
  | none => none
  | some d => match G d ρ with
    | none => none
    | some ρ' => some (.nx ρ')
theorem js_asg {tg : Expr} {is : List Nat} {G : D → Env → Option Env} (he : JE X false e fe) (hg : JG X false tg is G) (hs : swapsWithSole [tg] e pos.line X.env = pure false := by rfl) (hw : swappedStores [tg] e X.env = pure none := by rfl)
    (h1 : (assignEach [tg] X.env).map (·.2) = [assign tg X.env] := by rfl) : JS X EX E (.Assign [tg] e pos) (tgtS fe G) := ⟨PS_imp (ps_asg he.pe hg.pg hs hw h1) fun T σ H ⟨S0, B, S, ρ, o, h1, h2, h3, h4, k⟩ => by
  unfold tgtS at h4
  split at h4
  · cases h4
  rename_i d e1
  split at h4
  · cases h4
  rename_i ρ' e2
  cases h4
  exact ⟨none, B, S, ρ, d, fun _ => rfl, h1, h3, e1, fun v S' H' g r => ⟨none, B, S', ρ, d, ρ', fun _ => rfl, g.1, h3.gr h1 g, r, e2, fun σ' er _ _ => k S' H' σ' (h2.trans g) (g.ext h1) er⟩⟩⟩
def retS (fe : Env → Option D) : Env → Option Out := fun ρ => match fe ρ with
  | none => none
  | some d => some (.rt d)
theorem js_ret (he : JE X false e fe) : JS X EX E (.Return (some e) pos) (retS fe) := ⟨PS_imp (ps_ret he.pe) fun T σ H ⟨S0, B, S, ρ, o, h1, h2, h3, h4, k⟩ => by
  unfold retS at h4
  split at h4
  · cases h4
  rename_i d e1
  cases h4
  exact ⟨none, B, S, ρ, d, fun _ => rfl, h1, h3, e1, fun v S' H' g r => k S' H' v (h2.trans g) (g.ext h1) r⟩⟩
def effS (fe : Env → Option D) : Env → Option Out := fun ρ => match fe ρ with
  | none => none
  | some _ => some (.nx ρ)
theorem js_eff (he : JE X false e fe) (hs : swapsWith e none pos.line X.env = pure false := by rfl) : JS X EX E (.Expr e pos) (effS fe) := ⟨PS_imp (ps_expr he.pe hs) fun T σ H ⟨S0, B, S, ρ, o, h1, h2, h3, h4, k⟩ => by
  unfold effS at h4
  split at h4
  · cases h4
  rename_i d e1
  cases h4
  exact ⟨none, B, S, ρ, d, fun _ => rfl, h1, h3, e1, fun v S' H' g r => k S' H' σ (h2.trans g) (g.ext h1) (h3.gr h1 g)⟩⟩
def ifS (p : Env → Option Bool) (f g : Env → Option Out) : Env → Option Out := fun ρ => match p ρ with
  | some true => f ρ
  | some false => g ρ
  | none => none
theorem js_if {p : Env → Option Bool} {ss rr : List Stmt} (hc : JT X false c p) (ha : JSs X EX E ss f) (hb : JSs X EX E rr g) : JS X EX E (.If c ss rr pos) (ifS p f g) := ⟨PS_imp (ps_if hc.pt ha.pss hb.pss) fun T σ H ⟨S0, B, S, ρ, o, h1, h2, h3, h4, k⟩ => by
  unfold ifS at h4
  split at h4
  · rename_i e1
    exact ⟨none, B, S, ρ, true, fun _ => rfl, h1, h3, e1, fun S' H' g => by
      dsimp only
      rw [if_pos rfl]
      exact ⟨S0, B, S', ρ, o, g.1, h2.trans g, h3.gr h1 g, h4, k.mono (g.ext h1)⟩⟩
  · rename_i e1
    exact ⟨none, B, S, ρ, false, fun _ => rfl, h1, h3, e1, fun S' H' g => by
      dsimp only
      rw [if_neg (by decide)]
      exact ⟨S0, B, S', ρ, o, g.1, h2.trans g, h3.gr h1 g, h4, k.mono (g.ext h1)⟩⟩
  · cases h4⟩

/-! ### the frame's own lists changed -/
/-- the object of an owned slot becomes another -/
theorem ER.putOwn {K : PySem.W.Frag} {S0 B S H : Hp} {σ : St} {ρ : Env} {i : Nat} {a : Addr} {c c' : Cell} {u : HO} (h1 : Sub none S H) (h2 : Gr none S0 B S H) (h3 : ER K B S H σ ρ) (e1 : ρ[i]? = some (some c)) (ho : c.own = true) (e2 : σ[i]? = some (some (.ref a))) (hs : S a = none) (hb : B a = none)
    (hc : CRep K B S (upd H a u) (.ref a) c') : Sub none S (upd H a u) ∧ Gr none S0 B S (upd H a u) ∧ ER K B S (upd H a u) σ (ρ.set i (some c')) := by
  have sb : Sub none S (upd H a u) := fun b v z => by
    have q : b ≠ a := fun q => by rw [q, hs] at z; cases z
    rw [upd_ne q]; exact h1 b v z
  have hi : i < ρ.length := by
    rcases Nat.lt_or_ge i ρ.length with z | z
    · exact z
    · rw [List.getElem?_eq_none z] at e1; cases e1
  have ow : ∀ j x, i ≠ j → ρ[j]? = some (some x) → ∃ v, σ[j]? = some (some v) ∧ CRep K B S (upd H a u) v x := fun j x q ej => by
    obtain ⟨v, q1, q2⟩ := h3.at_ j x ej
    refine ⟨v, q1, ?_⟩
    cases hx : x with
    | d y => rw [hx] at q2; exact q2
    | l xs =>
      rw [hx] at q2
      obtain ⟨a', vs, r0, r1, r2, r3, r4⟩ := q2
      have : a' ≠ a := fun z => q (h3.sep i j c x (.ref a) e1 ej ho (by rw [hx]; rfl) e2 (by rw [q1, r0, z]))
      exact ⟨a', vs, r0, by rw [upd_ne this]; exact r1, r2, r3, r4⟩
    | k xs =>
      rw [hx] at q2
      obtain ⟨a', vs, r0, r1, r2, r3, r4⟩ := q2
      have : a' ≠ a := fun z => q (h3.sep i j c x (.ref a) e1 ej ho (by rw [hx]; rfl) e2 (by rw [q1, r0, z]))
      exact ⟨a', vs, r0, by rw [upd_ne this]; exact r1, r2, r3, r4⟩
  refine ⟨sb, ⟨sb, fun b hb' => ?_⟩, by simp [h3.len], fun j x ej => ?_, fun j k x y w q1 q2 o1 o2 f1 f2 => ?_⟩
  · have q : b ≠ a := fun q => hb' (q ▸ hb)
    rw [upd_ne q]; exact h2.2 b hb'
  · by_cases q : i = j
    · subst q
      rw [List.getElem?_set_self hi] at ej
      have : c' = x := by simpa using ej
      subst this
      exact ⟨_, e2, hc⟩
    · rw [List.getElem?_set_ne q] at ej
      exact ow j x q ej
  · by_cases n1 : i = j
    · by_cases n2 : i = k
      · exact n1 ▸ n2 ▸ rfl
      · subst n1
        rw [List.getElem?_set_ne n2] at q2
        exact h3.sep i k c y w e1 q2 ho o2 f1 f2
    · rw [List.getElem?_set_ne n1] at q1
      by_cases n2 : i = k
      · subst n2
        exact h3.sep j i x c w q1 e1 o1 ho f1 f2
      · rw [List.getElem?_set_ne n2] at q2
        exact h3.sep j k x y w q1 q2 o1 o2 f1 f2
def appS (i : Nat) (fe : Env → Option D) : Env → Option Out := fun ρ => match fe ρ with
  | none => none
  | some d => match ρ[i]? with
    | some (some (.l xs)) => if xs.length < LIM then some (.nx (ρ.set i (some (.l (xs ++ [d]))))) else none
    | _ => none
theorem js_append (i : Nat) {x : PySem.Str} {ppos apos cpos : Pos} (he : JE X false e fe) (hN : X.N[i]? = some x := by rfl) (hv : Vis X.env.scope x := by first | exact Or.inl rfl | exact Or.inr (Or.inl rfl) | exact Or.inr (Or.inr rfl)) (hd : (x == ("__debug__" : PySem.Str)) = false := by decide)
    (hcd : (x == ("__classdict__" : PySem.Str)) = false := by decide)
    (hst : starEach [e] X.env = (false, eval e X.env) :: starEach [] X.env := by rfl)
    (hbase : attributeBase (.Name x ppos) "append" X.env (eval (.Name x ppos) X.env) = eval (.Name x ppos) X.env := by rfl)
    (hfew : ((backTo cpos (starEach [e] X.env)).all (fun x => !x.1) && (backToKw cpos (keywordEach [] X.env)).all (fun x => x.1.isSome)
      && decide (([e] : List Expr).length + ([] : List Keyword).length + (if ([] : List Keyword).isEmpty then 0 else 1) < 30)) = true := by rfl)
    (hline : (apos.endLine == cpos.line) = true := by rfl) (hplain : (backTo cpos (starEach ([] : List Expr) X.env)).any (·.1) = false := by rfl)
    (hs : swapsWith (.Call (.Attribute (.Name x ppos) "append" apos) [e] [] cpos) none pos.line X.env = pure false := by rfl) :
    JS X EX E (.Expr (.Call (.Attribute (.Name x ppos) "append" apos) [e] [] cpos) pos) (appS i fe) :=
  ⟨PS_imp (ps_expr (pe_bm PySem.F.plainAttrs_list PySem.F.slot_list_append PySem.F.type_list_append mt_append (pe_var hN hv hd hcd) (pa_cons he.pe pa_nil hst) hbase hfew hline hst hplain) hs) fun T σ H ⟨S0, B, S, ρ, o, h1, h2, h3, h4, k⟩ => by
  unfold appS at h4
  split at h4
  · cases h4
  rename_i d e1
  split at h4
  · rename_i xs e2
    by_cases hl : xs.length < LIM
    · rw [if_pos hl] at h4
      cases h4
      obtain ⟨v, q, a, vs, rfl, r1, r2, r3, r4⟩ := h3.at_ i _ e2
      refine ⟨_, q, .inl ⟨rfl, vs, .inl (.inl r1)⟩, none, B, S, ρ, d, fun _ => rfl, h1, h3, e1, fun w S1 H1 g1 rw1 => ?_⟩
      have er1 := h3.gr h1 g1
      have ha1 : H1 a = some (.lst vs) := g1.hext _ _ r1
      have hs1 : S1 a = none := by rw [(g1.2 a (by rw [r1]; simp)).2]; exact r2
      refine ⟨a, vs, w, rfl, rfl, ha1, by rw [r4.length, sizeLine_eq, ← LIM_eq]; exact hl, ?_⟩
      obtain ⟨p1, p2, p3⟩ := ER.putOwn (u := .lst (vs ++ [w])) (c' := .l (xs ++ [d])) g1.1 (h2.trans g1) er1 e2 rfl q hs1 r3 ⟨a, _, rfl, upd_same, hs1, r3, (r4.mono (g1.ext h1)).append (.one rw1)⟩
      exact k S1 _ σ p2 (g1.ext h1) p3
    · rw [if_neg hl] at h4; cases h4
  · cases h4⟩
def extS (i : Nat) (fe : Env → Option D) : Env → Option Out := fun ρ => match fe ρ with
  | some (.lst ds) => (match ρ[i]? with
    | some (some (.l xs)) => if xs.length + ds.length ≤ LIM then some (.nx (ρ.set i (some (.l (xs ++ ds))))) else none
    | _ => none)
  | _ => none
theorem js_extend (i : Nat) {x : PySem.Str} {ppos apos cpos : Pos} (he : JE X false e fe) (hN : X.N[i]? = some x := by rfl) (hv : Vis X.env.scope x := by first | exact Or.inl rfl | exact Or.inr (Or.inl rfl) | exact Or.inr (Or.inr rfl)) (hd : (x == ("__debug__" : PySem.Str)) = false := by decide)
    (hcd : (x == ("__classdict__" : PySem.Str)) = false := by decide)
    (hst : starEach [e] X.env = (false, eval e X.env) :: starEach [] X.env := by rfl)
    (hbase : attributeBase (.Name x ppos) "extend" X.env (eval (.Name x ppos) X.env) = eval (.Name x ppos) X.env := by rfl)
    (hfew : ((backTo cpos (starEach [e] X.env)).all (fun x => !x.1) && (backToKw cpos (keywordEach [] X.env)).all (fun x => x.1.isSome)
      && decide (([e] : List Expr).length + ([] : List Keyword).length + (if ([] : List Keyword).isEmpty then 0 else 1) < 30)) = true := by rfl)
    (hline : (apos.endLine == cpos.line) = true := by rfl) (hplain : (backTo cpos (starEach ([] : List Expr) X.env)).any (·.1) = false := by rfl)
    (hs : swapsWith (.Call (.Attribute (.Name x ppos) "extend" apos) [e] [] cpos) none pos.line X.env = pure false := by rfl) :
    JS X EX E (.Expr (.Call (.Attribute (.Name x ppos) "extend" apos) [e] [] cpos) pos) (extS i fe) :=
  ⟨PS_imp (ps_expr (pe_bm PySem.F.plainAttrs_list PySem.F.slot_list_extend PySem.F.type_list_extend mt_extend (pe_var hN hv hd hcd) (pa_cons he.pe pa_nil hst) hbase hfew hline hst hplain) hs) fun T σ H ⟨S0, B, S, ρ, o, h1, h2, h3, h4, k⟩ => by
  unfold extS at h4
  split at h4
  · rename_i ds e1
    split at h4
    · rename_i xs e2
      by_cases hl : xs.length + ds.length ≤ LIM
      · rw [if_pos hl] at h4
        cases h4
        obtain ⟨v, q, a, vs, rfl, r1, r2, r3, r4⟩ := h3.at_ i _ e2
        refine ⟨_, q, .inl ⟨rfl, vs, .inl (.inl r1)⟩, none, B, S, ρ, _, fun _ => rfl, h1, h3, e1, fun w S1 H1 g1 rw1 => ?_⟩
        have er1 := h3.gr h1 g1
        have ha1 : H1 a = some (.lst vs) := g1.hext _ _ r1
        have hs1 : S1 a = none := by rw [(g1.2 a (by rw [r1]; simp)).2]; exact r2
        obtain ⟨b', ws, rfl, hb', rr⟩ := (RpW.sh (H := H1) rw1).lst_inv g1.1
        refine ⟨a, b', vs, ws, rfl, rfl, ha1, hb', by rw [r4.length, rr.length, sizeLine_eq, ← LIM_eq]; exact hl, ?_⟩
        obtain ⟨p1, p2, p3⟩ := ER.putOwn (u := .lst (vs ++ ws)) (c' := .l (xs ++ ds)) g1.1 (h2.trans g1) er1 e2 rfl q hs1 r3 ⟨a, _, rfl, upd_same, hs1, r3, (r4.mono (g1.ext h1)).append rr⟩
        exact k S1 _ σ p2 (g1.ext h1) p3
      · rw [if_neg hl] at h4; cases h4
    · cases h4
  · cases h4⟩
end
end Fo
end
-- FoF.lean
set_option Elab.async false
set_option linter.all false
set_option maxRecDepth 100000
set_option maxHeartbeats 1000000
noncomputable section
namespace Fo
open PySem L2

def dropL (is : List Nat) (ρ : Env) : Env := is.foldl (fun r i => r.set i none) ρ
theorem ER.dropL {K : PySem.W.Frag} {B S H : Hp} {σ : St} : ∀ (is : List Nat) {ρ : Env}, ER K B S H σ ρ → ER K B S H σ (dropL is ρ)
  | [], _, h => h
  | i :: is, _, h => ER.dropL is (h.drop (i := i))
def loopL (G : D → Env → Option Env) (fb : Env → Option Out) : List D → Env → Option Out
  | [], ρ => some (.nx ρ)
  | d :: ds, ρ => match G d ρ with
    | none => none
    | some ρ1 => match fb ρ1 with
      | some (.nx ρ2) => loopL G fb ds ρ2
      | some (.ct ρ2) => loopL G fb ds ρ2
      | some (.bk ρ2) => some (.nx ρ2)
      | some (.rt d) => some (.rt d)
      | some (.ex n) => some (.ex n)
      | none => none
def Out.drop (is : List Nat) : Out → Out
  | .nx ρ => .nx (dropL is ρ)
  | o => o
def forS (is : List Nat) (gi : Env → Option (List D)) (G : D → Env → Option Env) (fb : Env → Option Out) : Env → Option Out := fun ρ => match gi ρ with
  | none => none
  | some ds => (loopL G fb ds ρ).map (Out.drop is)
theorem loopL_kind {G : D → Env → Option Env} {fb : Env → Option Out} : ∀ (ds : List D) (ρ : Env) (o : Out), loopL G fb ds ρ = some o → (∀ r, o ≠ .bk r) ∧ ∀ r, o ≠ .ct r
  | [], ρ, o, h => by cases h; exact ⟨fun r => by simp, fun r => by simp⟩
  | d :: ds, ρ, o, h => by
    unfold loopL at h
    split at h
    · cases h
    split at h
    · exact loopL_kind ds _ o h
    · exact loopL_kind ds _ o h
    · cases h; exact ⟨fun r => by simp, fun r => by simp⟩
    · cases h; exact ⟨fun r => by simp, fun r => by simp⟩
    · cases h; exact ⟨fun r => by simp, fun r => by simp⟩
    · cases h

section
variable {X : Cx} {EX : Nat → Value} {E : XK} {e a c : Expr} {pos : Pos} {st : Stmt} {rest : List Stmt} {f g : Env → Option Out} {fe : Env → Option D}
theorem js_for {tg iter : Expr} {body : List Stmt} {is : List Nat} {gi : Env → Option (List D)} {G : D → Env → Option Env} {fb : Env → Option Out} (hp : PassesOwn (model X.prog X.w) X.A X.env X.xe) (hc : X.calm = true) (hi : JI X false false tg iter gi) (hg : JG X false tg is G) (hb : JSs X EX E body fb)
    (hs : ∀ x, foldedSetIterable iter X.env x = pure x := by intro _; rfl) : JS X EX E (.For tg iter body [] pos) (forS is gi G fb) := ⟨PS_imp (ps_for hp hc hi.pi hg.pg hb.pss hs) fun T σ H ⟨S0, B, S, ρ, o, h1, h2, h3, h4, k⟩ => by
  unfold forS at h4
  split at h4
  · cases h4
  rename_i ds e1
  refine ⟨none, B, S, ρ, ds, fun _ => rfl, h1, h3, e1, fun J S1 H1 g1 dw => ?_⟩
  have x1 : Ext S S1 := g1.ext h1
  cases el : loopL G fb ds ρ with
  | none => rw [el] at h4; cases h4
  | some r =>
  rw [el] at h4
  have hq := Option.some.inj h4
  subst hq
  refine ⟨fun i m σ' H' => m = ds.length - i ∧ i ≤ ds.length ∧ ∃ S' ρ', Gr none S0 B S' H' ∧ Ext S1 S' ∧ ER X.K B S' H' σ' ρ' ∧ loopL G fb (ds.drop i) ρ' = some r,
    ⟨ds.length, rfl, Nat.zero_le _, S1, ρ, h2.trans g1, Ext.refl _, h3.gr h1 g1, by simpa using el⟩, ?_⟩
  rintro i m σ2 H2 ⟨rfl, hi, S2, ρ2, g2, x2, er2, l2⟩
  obtain ⟨d1, d2, d3⟩ := dw S2 H2 g2.1 x2 (fun z => by cases z)
  by_cases hlt : i < ds.length
  · refine .inr ⟨d1 i hlt, fun σ' H' => i + 1 ≤ ds.length ∧ ∃ S' ρ', Gr none S0 B S' H' ∧ Ext S1 S' ∧ ER X.K B S' H' σ' ρ' ∧ loopL G fb (ds.drop (i + 1)) ρ' = some r,
      fun σ' H' ⟨q1, q2⟩ => ⟨ds.length - (i + 1), by omega, rfl, q1, q2⟩, fun x H3 y => ?_⟩
    obtain ⟨S3, d, g3, ed, rd⟩ := d3 i x H3 hlt y
    have ed' : ds.drop i = d :: ds.drop (i + 1) := by
      rw [List.drop_eq_getElem_cons hlt]
      rw [List.getElem?_eq_getElem hlt] at ed
      cases ed
      rfl
    rw [ed'] at l2
    unfold loopL at l2
    split at l2
    · cases l2
    rename_i ρ3 eG
    have x3 : Ext S1 S3 := x2.trans (g3.ext g2.1)
    refine ⟨none, B, S3, ρ2, d, ρ3, fun _ => rfl, g3.1, er2.gr g2.1 g3, rd, eG, fun σ3 er3 _ _ => ?_⟩
    have g03 := g2.trans g3
    split at l2
    · rename_i ρ4 eb
      exact ⟨S0, B, S3, ρ3, _, g3.1, g03, er3, eb, fun S' H' σ' g x er => ⟨hlt, S', ρ4, g, x3.trans x, er, l2⟩⟩
    · rename_i ρ4 eb
      exact ⟨S0, B, S3, ρ3, _, g3.1, g03, er3, eb, fun S' H' σ' g x er => ⟨hlt, S', ρ4, g, x3.trans x, er, l2⟩⟩
    · rename_i ρ4 eb
      cases l2
      exact ⟨S0, B, S3, ρ3, _, g3.1, g03, er3, eb, fun S' H' σ' g x er => k S' H' σ' g (x1.trans (x3.trans x)) (er.dropL is)⟩
    · rename_i d4 eb
      cases l2
      exact ⟨S0, B, S3, ρ3, _, g3.1, g03, er3, eb, fun S' H' v g x r => k S' H' v g (x1.trans (x3.trans x)) r⟩
    · rename_i d4 eb
      cases l2
      exact ⟨S0, B, S3, ρ3, _, g3.1, g03, er3, eb, fun S' H' g x => k S' H' g (x1.trans (x3.trans x))⟩
    · cases l2
  · have hi' : i = ds.length := by omega
    subst hi'
    refine .inl ⟨d2, ?_⟩
    rw [List.drop_length] at l2
    cases l2
    exact k S2 H2 σ2 g2 (x1.trans x2) (er2.dropL is)⟩

def whL (p : Env → Option Bool) (fb : Env → Option Out) : Nat → Env → Option Out
  | 0, _ => none
  | n + 1, ρ => match p ρ with
    | none => none
    | some false => some (.nx ρ)
    | some true => match fb ρ with
      | some (.nx ρ2) => whL p fb n ρ2
      | some (.ct ρ2) => whL p fb n ρ2
      | some (.bk ρ2) => some (.nx ρ2)
      | some (.rt d) => some (.rt d)
      | some (.ex n) => some (.ex n)
      | none => none
/-- a while of at most n turns -/
def whS (n : Nat) (p : Env → Option Bool) (fb : Env → Option Out) : Env → Option Out := whL p fb (n + 1)
theorem js_while (n : Nat) {body : List Stmt} {p : Env → Option Bool} {fb : Env → Option Out} (hp : PassesOwn (model X.prog X.w) X.A X.env X.xe) (hc : JT X false c p) (hb : JSs X EX E body fb) : JS X EX E (.While c body [] pos) (whS n p fb) := ⟨PS_imp (ps_while hp hc.pt hb.pss) fun T σ H ⟨S0, B, S, ρ, o, h1, h2, h3, h4, k⟩ => by
  refine ⟨fun m σ' H' => ∃ S' ρ', Gr none S0 B S' H' ∧ Ext S S' ∧ ER X.K B S' H' σ' ρ' ∧ whL p fb m ρ' = some o, ⟨n + 1, S, ρ, h2, Ext.refl S, h3, h4⟩, ?_⟩
  rintro m σ2 H2 ⟨S2, ρ2, g2, x2, er2, l2⟩
  cases m with
  | zero => cases l2
  | succ m =>
  unfold whL at l2
  split at l2
  · cases l2
  · rename_i e1
    cases l2
    refine ⟨none, B, S2, ρ2, false, fun _ => rfl, g2.1, er2, e1, fun S3 H3 g3 => ?_⟩
    dsimp only
    rw [if_neg (by decide)]
    exact k S3 H3 σ2 (g2.trans g3) (x2.trans (g3.ext g2.1)) (er2.gr g2.1 g3)
  · rename_i e1
    refine ⟨none, B, S2, ρ2, true, fun _ => rfl, g2.1, er2, e1, fun S3 H3 g3 => ?_⟩
    dsimp only
    rw [if_pos rfl]
    have x3 : Ext S S3 := x2.trans (g3.ext g2.1)
    have g03 := g2.trans g3
    have er3 := er2.gr g2.1 g3
    refine ⟨fun σ' H' => ∃ S' ρ', Gr none S0 B S' H' ∧ Ext S S' ∧ ER X.K B S' H' σ' ρ' ∧ whL p fb m ρ' = some o, fun σ' H' q => ⟨m, Nat.lt_succ_self m, q⟩, ?_⟩
    split at l2
    · rename_i ρ4 eb
      exact ⟨S0, B, S3, ρ2, _, g3.1, g03, er3, eb, fun S' H' σ' g x er => ⟨S', ρ4, g, x3.trans x, er, l2⟩⟩
    · rename_i ρ4 eb
      exact ⟨S0, B, S3, ρ2, _, g3.1, g03, er3, eb, fun S' H' σ' g x er => ⟨S', ρ4, g, x3.trans x, er, l2⟩⟩
    · rename_i ρ4 eb
      cases l2
      exact ⟨S0, B, S3, ρ2, _, g3.1, g03, er3, eb, fun S' H' σ' g x er => k S' H' σ' g (x3.trans x) er⟩
    · rename_i d4 eb
      cases l2
      exact ⟨S0, B, S3, ρ2, _, g3.1, g03, er3, eb, fun S' H' v g x r => k S' H' v g (x3.trans x) r⟩
    · rename_i d4 eb
      cases l2
      exact ⟨S0, B, S3, ρ2, _, g3.1, g03, er3, eb, fun S' H' g x => k S' H' g (x3.trans x)⟩
    · cases l2⟩

/-- xs[i] = e, xs the frame's own list -/
def setS (i : Nat) (fi fe : Env → Option D) : Env → Option Out := fun ρ => match fe ρ with
  | none => none
  | some d => match fi ρ with
    | some (.int j) => (match ρ[i]? with
      | some (some (.l xs)) => (match ixN xs.length j with
        | some n => some (.nx (ρ.set i (some (.l (xs.set n d)))))
        | none => none)
      | _ => none)
    | _ => none
theorem js_setL (i : Nat) {x : PySem.Str} {ppos tpos : Pos} {fi : Env → Option D} (hi : JE X false a fi) (he : JE X false e fe) (hN : X.N[i]? = some x := by rfl) (hv : Vis X.env.scope x := by first | exact Or.inl rfl | exact Or.inr (Or.inl rfl) | exact Or.inr (Or.inr rfl)) (hd : (x == ("__debug__" : PySem.Str)) = false := by decide)
    (hcd : (x == ("__classdict__" : PySem.Str)) = false := by decide)
    (ha : ∀ v, assign (.Subscript (.Name x ppos) a tpos) X.env v = (do
      let ov ← holding [v] (eval (.Name x ppos) X.env)
      let iv ← holding [v, ov] (eval a X.env)
      standAt tpos
      holding [v, ov, iv] (setItem ov iv v)
      release [v, ov, iv] []) := by intro _; rfl)
    (hs : swapsWithSole [.Subscript (.Name x ppos) a tpos] e pos.line X.env = pure false := by rfl) (hw : swappedStores [.Subscript (.Name x ppos) a tpos] e X.env = pure none := by rfl)
    (h1 : (assignEach [.Subscript (.Name x ppos) a tpos] X.env).map (·.2) = [assign (.Subscript (.Name x ppos) a tpos) X.env] := by rfl) :
    JS X EX E (.Assign [.Subscript (.Name x ppos) a tpos] e pos) (setS i fi fe) := ⟨PS_imp (ps_asg he.pe (pg_sub (pe_var hN hv hd hcd) hi.pe set_list ha) hs hw h1) fun T σ H ⟨S0, B, S, ρ, o, h1, h2, h3, h4, k⟩ => by
  unfold setS at h4
  split at h4
  · cases h4
  rename_i d e1
  split at h4
  · rename_i j e2
    split at h4
    · rename_i xs e3
      split at h4
      · rename_i n e4
        cases h4
        obtain ⟨v, q, aa, vs, rfl, r1, r2, r3, r4⟩ := h3.at_ i _ e3
        refine ⟨none, B, S, ρ, d, fun _ => rfl, h1, h3, e1, fun w S1 H1 g1 rw1 => ⟨_, q, none, B, S1, ρ, _, fun _ => rfl, g1.1, h3.gr h1 g1, e2, fun iv S2 H2 g2 ri => ?_⟩⟩
        cases ri
        have g12 := g1.trans g2
        have ha2 : H2 aa = some (.lst vs) := g12.hext _ _ r1
        have hs2 : S2 aa = none := by rw [(g12.2 aa (by rw [r1]; simp)).2]; exact r2
        refine ⟨aa, vs, j, n, rfl, rfl, ha2, by rw [r4.length]; exact e4, ?_⟩
        obtain ⟨p1, p2, p3⟩ := ER.putOwn (u := .lst (vs.set n w)) (c' := .l (xs.set n d)) g2.1 (h2.trans g12) (h3.gr h1 g12) e3 rfl q hs2 r3 ⟨aa, _, rfl, upd_same, hs2, r3, RpL.set (rw1.mono (g2.ext g1.1)) n (r4.mono (g12.ext h1))⟩
        exact k S2 _ σ p2 (g12.ext h1) p3
      · cases h4
    · cases h4
  · cases h4⟩
end

/-! ### a def -/
def envOf (N : Nat) (ds : List D) : Env := ds.map (fun d => some (.d d)) ++ List.replicate (N - ds.length) none
def runF (N : Nat) (fb : Env → Option Out) (ds : List D) : Option D := match fb (envOf N ds) with
  | some (.rt d) => some d
  | some (.nx _) => some .non
  | _ => none
theorem er_start {K : PySem.W.Frag} {S H : Hp} {N : List PySem.Str} {vs : List V} {ds : List D} (r : RpL K S vs ds) : ER K H S H (L2.start N vs) (envOf N.length ds) := by
  have hl := r.length
  have no : ∀ i c, (envOf N.length ds)[i]? = some (some c) → ∃ d, ds[i]? = some d ∧ c = Cell.d d := fun i c e => by
    unfold envOf at e
    by_cases hi : i < ds.length
    · rw [List.getElem?_append_left (by simpa using hi)] at e
      rw [List.getElem?_map, List.getElem?_eq_getElem hi] at e
      simp only [Option.map_some, Option.some.injEq] at e
      exact ⟨ds[i], by rw [List.getElem?_eq_getElem hi], e.symm⟩
    · rw [List.getElem?_append_right (by simpa using hi)] at e
      rw [List.getElem?_replicate] at e
      split at e <;> simp at e
  refine ⟨by simp [L2.start, envOf, hl], fun i c e => ?_, fun i j c c' v e1 e2 o1 => ?_⟩
  · obtain ⟨d, q, rfl⟩ := no i c e
    obtain ⟨v, q2, rv⟩ := r.get q
    refine ⟨v, ?_, rv⟩
    unfold L2.start
    have hi : i < vs.length := (List.getElem?_eq_some_iff.mp q2).1
    rw [List.getElem?_append_left (by simpa using hi), List.getElem?_map, q2]
    rfl
  · obtain ⟨d, q, rfl⟩ := no i c e1
    cases o1
theorem mk_fn {P : Program} {w : World} {K : PySem.W.Frag} {mg : PySem.Str → Option Value} {base : Heap} {x qual : PySem.Str} {st : Stmt} {f : Addr} {fd : FuncData} {N ps : List PySem.Str} {k : Nat} {fb : Env → Option Out} (F : Fun K x qual st f fd) (S : FnScope N ps (defScope st))
    (body : ∀ (cdv : Value) (A : Around) (outer : List PySem.Env) (s : Shared) (H : Hp) (E : XK), Room k (A.deeper (PyProof.Rows.envOfC qual (defScope st) s.heap.objs.size f cdv)) → JSs (cxOf CX0 P w K mg base N qual (defScope st) f cdv A outer s H E).nox (fun _ => .none) (fun _ _ _ => False) (defBody st) fb) :
    FnOk P w K mg base CX0 (k + 1) f fd ps (spD K ps.length (runF N.length fb)) := by
  refine F.ok S (fun vs H Q E ⟨S', ds, z, h1, h2, h3, _⟩ => by rw [h2.length]; exact h3) (fun cdv A outer s H vs Q E hr ⟨S', ds, z, h1, h2, h3, h4, q⟩ => ⟨_, (body cdv A outer s H E hr).pss, ?_⟩)
  unfold runF at h4
  cases e : fb (envOf N.length ds) with
  | none => rw [e] at h4; cases h4
  | some o =>
  rw [e] at h4
  refine ⟨S', H, S', _, o, h1, Gr.refl h1, er_start h2, e, ?_⟩
  cases o with
  | rt d => cases h4; exact fun S1 H1 v g _ r => q v S1 H1 g r
  | nx ρ => cases h4; exact fun S1 H1 σ g _ _ => q _ S1 H1 g .non
  | bk ρ => cases h4
  | ct ρ => cases h4
  | ex n => cases h4
end Fo
end
-- FoS1.lean
set_option Elab.async false
set_option linter.all false
set_option maxRecDepth 100000
set_option maxHeartbeats 2000000
/-! sets of ints and texts: made of a list or a tuple, and sorted -/
namespace Fo.Se
open PySem PySem.Spec PyProof.Rows L2

/-- the key that a value is -/
def kv : Value → Key
  | .int i _ => .inl i
  | .str x _ => .inr x
  | _ => .inl 0
def Good (w : World) (e : Int × Value) : Prop := ∃ k, keyIs k e.2 = true ∧ e.1 = keyH w k
theorem kv_of {k : Key} {v : Value} (h : keyIs k v = true) : kv v = k := by
  rcases keyIs_shape h with ⟨i, t, rfl, rfl⟩ | ⟨x, t, rfl, rfl⟩ <;> rfl
def keysOf (es : Array (Int × Value)) : List Key := es.toList.map fun e => kv e.2
/-- the set at a has just the members of ks -/
def SR (w : World) (h : Heap) (a : Addr) (ks : List Key) : Prop :=
  ∃ o es ep t, h.get? a = some o ∧ o.ExactSet ∧ o.data = .set es ep t ∧ (∀ e ∈ es.toList, Good w e) ∧ (keysOf es).Nodup ∧ (∀ k, k ∈ ks ↔ k ∈ keysOf es) ∧
    es.size < scanBound ∧ es.size ≤ ks.length ∧ t.fits es.size = true ∧ Ris t.place.toList ∧ (w.params.followText "set-order" = true ∨ t.led = true)
section
variable {P : Program} {w : World} {h h' : Heap} {a : Addr} {ks : List Key}
theorem SR.keep (R : SR w h a ks) (k : ∀ o, h.get? a = some o → h'.get? a = some o) : SR w h' a ks := by
  obtain ⟨o, es, ep, t, ho, r⟩ := R
  exact ⟨o, es, ep, t, k o ho, r⟩
theorem good_el {l : List (Int × Value)} (g : ∀ e ∈ l, Good w e) : ElemsOf (mixKind P w) l := fun e he => by
  obtain ⟨k, h1, h2⟩ := g e he
  refine ⟨⟨k, h1, h2⟩, ?_⟩
  rcases keyIs_shape h1 with ⟨i, t, _, e2⟩ | ⟨x, t, _, e2⟩ <;> rw [e2] <;> rfl
theorem good_kv {e : Int × Value} (g : Good w e) (k : Key) : keyIs k e.2 = true ↔ kv e.2 = k := by
  obtain ⟨k0, h1, _⟩ := g
  constructor
  · exact kv_of
  · intro q
    rw [kv_of h1] at q
    exact q ▸ h1
theorem in_keys {es : Array (Int × Value)} (g : ∀ e ∈ es.toList, Good w e) (k : Key) : k ∈ keysOf es ↔ ∃ e ∈ es.toList, keyIs k e.2 = true := by
  unfold keysOf
  rw [List.mem_map]
  constructor
  · rintro ⟨e, he, q⟩; exact ⟨e, he, (good_kv (g e he) k).2 q⟩
  · rintro ⟨e, he, q⟩; exact ⟨e, he, (good_kv (g e he) k).1 q⟩
end
def fresh (w : World) : Obj := { cls := .type "set", dict := none, data := .set #[] 0 (.fresh 0 0 (!w.params.followText "set-order")) }
theorem sr_fresh {w : World} {h : Heap} {a : Addr} (ho : h.get? a = some (fresh w)) : SR w h a [] := by
  refine ⟨_, #[], 0, _, ho, ⟨rfl, rfl, rfl⟩, rfl, fun e he => by simp at he, by simp [keysOf], fun k => by simp [keysOf], by decide, by simp, rfl, List.Pairwise.nil, ?_⟩
  show _ ∨ (!w.params.followText "set-order") = true
  cases w.params.followText "set-order" <;> simp

section
variable {P : Program} {w : World} {A : Around} {E : Value → Shared → Prop} {s : Shared} {a : Addr} {ks : List Key}
/-- the table is written, and laid anew where it is too full -/
theorem add_end {g : Bool → Sem Unit} (hg : ∀ (b : Bool) (s₁ : Shared) (Q' : Unit → Shared → Prop), Q' () s₁ → wpAny (model P w) A (g b) Q' E s₁)
    {o : Obj} {es e1 : Array (Int × Value)} {ep : Nat} {t t2 : SetTable} {ks' : List Key} {wd : Bool} {R : Option Bool → Shared → Prop} (ho : s.heap.get? a = some o) (hex : o.ExactSet) (hd : o.data = .set es ep t)
    (g1 : ∀ e ∈ e1.toList, Good w e) (nd : (keysOf e1).Nodup) (mem : ∀ k, k ∈ ks' ↔ k ∈ keysOf e1) (hb : e1.size < scanBound) (hle : e1.size ≤ ks'.length) (hf : t2.fits e1.size = true) (hr : Ris t2.place.toList) (hl : w.params.followText "set-order" = true ∨ t2.led = true)
    (hR : ∀ h', Heap.SameBut a s.heap h' → SR w h' a ks' → R (some true) { s with heap := h' }) :
    wpAny (model P w) A (do
        storeSet a e1 t2
        if (!wd && t2.tooFull) = true then do
            g (relayAll t2 e1 (SetTable.grown e1.size)).2.2
            storeSet a (relayAll t2 e1 (SetTable.grown e1.size)).1 (relayAll t2 e1 (SetTable.grown e1.size)).2.1
            pure (some true)
          else pure (some true)) R E s := by
  refine wpAny_bind (wpAny_storeSet_of ho hd ?_ (fits_of_scanBound hb))
  have q1 := L2.store_at (es' := e1) (t' := t2) ho hd
  have s1 := Heap.SameBut.update s.heap a (Obj.putSet e1 t2)
  split
  case isFalse => exact wpAny_pure (hR _ s1 ⟨_, e1, _, t2, q1, hex, rfl, g1, nd, mem, hb, hle, hf, hr, hl⟩)
  case isTrue =>
    have pm := relayAll_perm t2 e1 (SetTable.grown e1.size)
    have f3 := relayAll_fits t2 e1 (SetTable.grown e1.size)
    have r3 := L2.relayAll_ris t2 e1 (SetTable.grown e1.size)
    have l3 := L2.relayAll_led t2 e1 (SetTable.grown e1.size)
    generalize relayAll t2 e1 (SetTable.grown e1.size) = Z at pm f3 r3 l3 ⊢
    obtain ⟨e2, t3, gv⟩ := Z
    simp only at pm f3 r3 l3 ⊢
    have sz : e2.size = e1.size := by simpa using pm.length_eq
    refine wpAny_bind (hg _ _ _ (wpAny_bind (wpAny_storeSet_of q1 rfl ?_ (fits_of_scanBound (by rw [sz]; exact hb)))))
    have q2 := L2.store_at (es' := e2) (t' := t3) q1 rfl
    have pk : (keysOf e2).Perm (keysOf e1) := pm.map _
    exact wpAny_pure (hR _ (s1.trans (Heap.SameBut.update _ a _)) ⟨_, e2, _, t3, q2, hex, rfl, fun e he => g1 e (pm.mem_iff.mp he), pk.nodup_iff.mpr nd, fun k => (mem k).trans pk.mem_iff.symm, by rw [sz]; exact hb, by rw [sz]; exact hle, f3, r3, hl.imp id fun z => by rw [l3]; exact z⟩)

theorem add_hashed {k : Key} {v : Value} {Q : Bool → Shared → Prop} (hv : keyIs k v = true) (R : SR w s.heap a ks) (room : ks.length + 1 < scanBound)
    (hQ : ∀ b h', Heap.SameBut a s.heap h' → SR w h' a (ks ++ [k]) → Q b { s with heap := h' }) :
    wpAny (model P w) A (setAddHashed a v (keyH w k)) Q E s := by
  obtain ⟨o, es, ep, t, ho, hex, hd, g, nd, mem, hb, hle, hf, hr, hl⟩ := R
  have hkey : (mixKind P w).is k v = true := hv
  have hsc : v.scannable = true := by rcases keyIs_shape hv with ⟨i, t, _, rfl⟩ | ⟨x, t, _, rfl⟩ <;> rfl
  have hel : ElemsOf (mixKind P w) es.toList := good_el g
  unfold setAddHashed setAddHashedIn
  refine wpAny_holding (wpAny_bind (wpAny_setState_of ho hd hf ?_))
  dsimp only
  rw [byScan_of hsc hb hel]
  simp only [↓reduceIte]
  unfold setAddByScan
  refine wpAny_bind (wpAny_bind (wpAny_rule (wpAny_bind (wpAny_setScan_of hkey ho hd hf hel ?_))))
  cases hfi : List.findIdx? (fun e => (mixKind P w).is k e.2) es.toList with
  | some j =>
    dsimp only
    obtain ⟨hj, pj, _⟩ := List.findIdx?_eq_some_iff_getElem.mp hfi
    have hin : k ∈ keysOf es := (in_keys g k).2 ⟨es.toList[j], List.getElem_mem hj, pj⟩
    refine wpAny_pure (wpAny_pure (hQ _ s.heap (Heap.SameBut.refl a s.heap) ⟨o, es, ep, t, ho, hex, hd, g, nd, fun i => ?_, hb, by simp; omega, hf, hr, hl⟩))
    rw [List.mem_append, mem i]
    exact ⟨fun z => z.elim id fun z => by rw [List.mem_singleton.mp z]; exact hin, .inl⟩
  | none =>
    dsimp only
    have hno : k ∉ keysOf es := fun z => by
      obtain ⟨e, he, q⟩ := (in_keys g k).1 z
      have c := List.findIdx?_eq_none_iff.mp hfi e he
      rw [show (mixKind P w).is k e.2 = keyIs k e.2 from rfl, q] at c
      cases c
    have pm := layNew_perm t es (keyH w k) v
    have f1 := layNew_fits t es (keyH w k) v
    have r1 := L2.layNew_ris t es (keyH w k) v hr
    have l1 := L2.layNew_led t es (keyH w k) v
    generalize layNew t es (keyH w k) v = Z at pm f1 r1 l1 ⊢
    obtain ⟨e1, t1, wd, gv⟩ := Z
    simp only at pm f1 r1 l1 ⊢
    rw [Array.toList_push] at pm
    have pc : e1.toList.Perm ((keyH w k, v) :: es.toList) := pm.trans (List.perm_append_singleton _ _)
    have pk : (keysOf e1).Perm (k :: keysOf es) := by
      have := pc.map fun e => kv e.2
      rwa [List.map_cons, kv_of hv] at this
    have g1 : ∀ e ∈ e1.toList, Good w e := fun e he => by
      rcases List.mem_cons.mp (pc.mem_iff.mp he) with z | z
      · exact z ▸ ⟨k, hv, rfl⟩
      · exact g e z
    have sz : e1.size = es.size + 1 := by simpa using pc.length_eq
    have n1 : (keysOf e1).Nodup := pk.nodup_iff.mpr (List.nodup_cons.mpr ⟨hno, nd⟩)
    have m1 : ∀ i, i ∈ ks ++ [k] ↔ i ∈ keysOf e1 := fun i => by
      rw [List.mem_append, List.mem_singleton, mem i, pk.mem_iff, List.mem_cons]
      exact Or.comm
    have b1 : e1.size < scanBound := by omega
    have z1 : e1.size ≤ (ks ++ [k]).length := by simp; omega
    have ld : w.params.followText "set-order" = true ∨ t1.led = true := hl.imp id fun z => by rw [l1]; exact z
    have hgw : ∀ (b : Bool) {s₁ : Shared} {Q' : Unit → Shared → Prop}, Q' () s₁ → wpAny (model P w) A (match b with | true => rule "set.scan.the-table-gave-way" | false => pure ()) Q' E s₁ :=
      fun b s₁ Q' q => by cases b <;> first | exact wpAny_pure q | exact wpAny_rule q
    refine wpAny_bind (hgw _ ?_)
    split
    · refine wpAny_bind ?_
      rw [hashByValue_scannable 8 hsc]
      refine wpAny_pure (add_end (fun b s₁ Q' q => by cases b <;> first | exact wpAny_pure q | exact wpAny_rule q) ho hex hd g1 n1 m1 b1 z1 ?_ ?_ ?_ fun h' sb r => wpAny_pure (hQ _ h' sb r))
      · first | (split <;> first | exact f1 | exact SetTable.fits_plain_off f1) | exact f1
      · first | (split <;> exact r1) | exact r1
      · first | (split <;> exact ld) | exact ld
    · refine wpAny_bind (wpAny_pure ?_)
      simp only [↓reduceIte]
      exact add_end (fun b s₁ Q' q => by cases b <;> first | exact wpAny_pure q | exact wpAny_rule q) ho hex hd g1 n1 m1 b1 z1 f1 r1 ld fun h' sb r => wpAny_pure (hQ _ h' sb r)
end
end Fo.Se
-- FoS2.lean
set_option Elab.async false
set_option linter.all false
set_option maxRecDepth 100000
set_option maxHeartbeats 4000000
namespace Fo.Se
open PySem PySem.Spec PyProof.Rows L2
section
variable {P : Program} {w : World} {A : Around} {E : Value → Shared → Prop} {s : Shared}
/-- the items as keys -/
def Keyed (items : List Value) (ks : List Key) : Prop := Paired (fun v k => keyIs k v = true) items ks
theorem Keyed.at_ : ∀ {items : List Value} {ks : List Key} {i : Nat} {v : Value}, Keyed items ks → items[i]? = some v → ∃ k, ks[i]? = some k ∧ keyIs k v = true
  | _, _, _, _, .nil, h => by simp at h
  | _, _, 0, _, .cons r _, h => by simp at h; subst h; exact ⟨_, rfl, r⟩
  | _, _, i + 1, v, .cons _ t, h => by
    obtain ⟨k, h1, h2⟩ := Keyed.at_ (i := i) (v := v) t (by simpa using h)
    exact ⟨k, by simpa using h1, h2⟩
theorem Keyed.len {items : List Value} {ks : List Key} (h : Keyed items ks) : items.length = ks.length := Paired.length h

theorem update_loop {I : Addr} {fp wr : List Addr} {G : Array GenState → Array GenState → Prop} {n : Nat} {Pv : Nat → Value → Prop} {St : Nat → Shared → Prop} {R : Result → Shared → Prop}
    (W : WalksS P w A.in1 I fp wr G n Pv St) (S : Addr) (hSf : S ∉ fp) (ks : List Key) (hn : n = ks.length) (hb : ks.length + 1 < scanBound) (hval : ∀ i v, Pv i v → ∃ k, ks[i]? = some k ∧ keyIs k v = true) :
    ∀ (m i : Nat) (s : Shared), n - i = m → i ≤ n → St i s → SR w s.heap S (ks.take i) →
      (∀ s', Moved (S :: wr) G s s' → SR w s'.heap S ks → R (.ok (.ret .none)) s') →
      codeAny (model P w) A (.builtin "set.update.loop" ⟨[.ref S, .ref I], []⟩) R s := by
  have hSw : S ∉ wr := fun h => hSf (W.sub _ h)
  have up : ∀ b ∈ wr, b ∈ S :: wr := fun b hb => List.mem_cons_of_mem _ hb
  intro m
  induction m with
  | zero =>
    intro i s hm hi hst hS hR
    have e : i = n := by omega
    subst e
    refine codeAny_builtin F.entry_set_update_loop ?_
    rw [Around.under_plainId F.plain_set_update_loop _]
    show wpAny _ A.in1 (pyNext (.ref I) >>= _) _ _ s
    refine wpAny_bind (W.done s _ _ hst fun s' mv => ?_)
    rw [List.take_of_length_le (by omega)] at hS
    exact wpAny_pure (hR s' (mv.mono up) (hS.keep fun o q => mv.heap S o hSw q))
  | succ m ih =>
    intro i s hm hi hst hS hR
    have lt : i < n := by omega
    refine codeAny_builtin F.entry_set_update_loop ?_
    rw [Around.under_plainId F.plain_set_update_loop _]
    show wpAny _ A.in1 (pyNext (.ref I) >>= _) _ _ s
    refine wpAny_bind (W.item i s _ _ lt hst fun v s' hP st' mv => ?_)
    obtain ⟨k, ek, kk⟩ := hval i v hP
    have hS' := hS.keep (h' := s'.heap) fun o q => mv.heap S o hSw q
    show wpAny _ A.in1 (holding [v] (setAdd S v) >>= _) _ _ s'
    refine wpAny_bind (wpAny_holding ?_)
    unfold setAdd
    refine wpAny_holding (wpAny_bind ((mixKind P w).pyHash (k := k) kk ?_))
    refine add_hashed (s := { s' with toks := s'.toks + 1 }) kk hS' (by simp; omega) fun b h' sb r => ?_
    have r' : SR w h' S (ks.take (i + 1)) := by rw [List.take_add_one, ek]; exact r
    refine wpAny_pure ⟨plainId_quiet F.plain_set_update_loop _, ih (i + 1) _ (by omega) lt (W.frame _ s' _ _ st' (Nat.le_succ _) fun c hc o q => ?_) r' fun s2 mv2 r2 => ?_⟩
    · rw [sb.2 c (fun z => hSf (z ▸ hc))]; exact q
    · refine hR s2 (Moved.trans W.gtrans ((mv.mono up).then_heap (Nat.le_succ _) fun c o hc q => ?_) mv2) r2
      rw [sb.2 c (fun z => hc (z ▸ List.mem_cons_self))]; exact q

/-- set(..) of what begins as a walk: T the type's name, IS that the object stands -/
theorem set_of {l : Addr} {T : String} {items : Array Value} {ks : List Key} {Q : Value → Shared → Prop} (hh : A.handled = none)
    (hT : T = "list" ∨ T = "tuple") {od : Option Addr} {nl : Nat} {sl : Array (Option Value)} (hl : s.heap.get? l = some { cls := .type T, dict := od, data := .seq items nl, slots := sl }) (hk : Keyed items.toList ks) (hb : ks.length + 1 < scanBound)
    (h : ∀ (h' : Heap) (tk : Nat), SR w h' s.heap.objs.size ks → (∀ b o, s.heap.get? b = some o → h'.get? b = some o) → Q (.ref s.heap.objs.size) { s with heap := h', toks := tk }) :
    wpAny (model P w) A (call (.type "set") [.ref l]) Q E s := by
  have hsz : items.size = ks.length := by have := hk.len; simpa using this
  obtain ⟨c, tl, hmro⟩ := F.called_set.mro
  have hmade := F.called_set.made
  have hsub := F.called_set.sub
  refine wpAny_call (codeAny_of_tree ?_)
  show wpAny _ _ (callAny (.type "set") _) _ _ _
  refine wpAny_pure ⟨Code.quiet_builtin _ (by decide +kernel), codeAny_builtin F.entry_type_call ?_⟩
  rw [Around.under_plain (weight_type_call_type "set" [.ref l] []) rfl]
  have h1 := F.called_set.notType
  have h2 := F.called_set.canCreate
  have hct := F.typeCall_set_1 (.ref l)
  repeat (any_goals (first | assumption | wp_step))
  refine codeAny_mono (code_set_led1 (.ref l) (E := E) (Q₁ := fun obj s₁ => obj = .ref s.heap.objs.size ∧ s₁ = { s with heap := s.heap.push (fresh w) }) ⟨rfl, rfl⟩) fun r s₁ hr => ?_
  cases r with
  | error e => exact hr
  | ok fl =>
  cases fl with
  | ret obj =>
    obtain ⟨rfl, rfl⟩ := hr
    have hS : (s.heap.push (fresh w)).get? s.heap.objs.size = some (fresh w) := Heap.get?_push_size _ rfl
    have hTy : Shared.TypeIs { s with heap := s.heap.push (fresh w) } (.ref s.heap.objs.size) "set" := ⟨_, hS, rfl⟩
    have hli := F.called_set.init.lookup
    have hbi := F.called_set.init.bind (.ref s.heap.objs.size)
    repeat (any_goals (first | assumption | wp_step))
    refine codeAny_mono (codeAny_call_builtin (R := wants (fun r s₂ => r = .none ∧ ∃ h' tk, s₂ = { s with heap := h', toks := tk } ∧ SR w h' s.heap.objs.size ks ∧ ∀ b o, s.heap.get? b = some o → h'.get? b = some o) E) F.called_set.init.plain F.entry_set_init (check_set_init_1 hTy ?_)) fun r₂ s₂ hr₂ => ?_
    · have hol := Heap.get?_push_of_some (fresh w) hl
      have lt : l < s.heap.objs.size := Heap.lt_size hl
      have z1 : (s.heap.push (fresh w)).objs.size = s.heap.objs.size + 1 := Heap.size_push ..
      have hh3 : A.in1.in1.in1.handled = none := by simp [hh]
      have val : ∀ (i : Nat) (v : Value), items[i]? = some v → ∃ k, ks[i]? = some k ∧ keyIs k v = true := fun i v q => hk.at_ (by rw [Array.getElem?_toList]; exact q)
      have fin : ∀ (it : Obj) (s' : Shared), Moved (s.heap.objs.size :: [(s.heap.push (fresh w)).objs.size]) (fun g g' => g' = g) { s with heap := (s.heap.push (fresh w)).push it } s' → SR w s'.heap s.heap.objs.size ks →
          ∃ h' tk, s' = { s with heap := h', toks := tk } ∧ SR w h' s.heap.objs.size ks ∧ ∀ b o, s.heap.get? b = some o → h'.get? b = some o := fun it s' mv r => by
        obtain ⟨h', g2, d', tk', os'⟩ := s'
        obtain rfl : g2 = s.gens := mv.gens
        obtain rfl : d' = s.drawn := mv.drawn
        obtain rfl : os' = s.os := mv.os
        refine ⟨h', tk', rfl, r, fun b o q => mv.heap b o ?_ (Heap.get?_push_of_some _ (Heap.get?_push_of_some _ q))⟩
        have lb := Heap.lt_size q
        simp only [List.mem_cons, List.not_mem_nil, or_false, not_or]
        exact ⟨Nat.ne_of_lt lb, by rw [z1]; exact Nat.ne_of_lt (Nat.lt_succ_of_lt lb)⟩
      have neI : l ≠ (s.heap.push (fresh w)).objs.size := by rw [z1]; exact Nat.ne_of_lt (Nat.lt_succ_of_lt lt)
      have nS : s.heap.objs.size ∉ [(s.heap.push (fresh w)).objs.size, l] := by
        rw [z1]
        simp only [List.mem_cons, List.not_mem_nil, or_false, not_or]
        exact ⟨Nat.ne_of_lt (Nat.lt_succ_self _), Nat.ne_of_gt lt⟩
      rcases hT with rfl | rfl
      · have hsls := F.sub_list_set
        have hslf := F.sub_list_frozenset
        have hne : (Value.type "list" == Value.type "dict") = false := by decide
        have hl1 : (s.heap.push (fresh w)).IsList l items := ⟨_, hol, rfl, nl, rfl⟩
        unfold Builtin.«set.__init__» noKeywords Builtin.Frozenset.updateFrom
        generalize hPI : pyIter = PI
        wp_walk
        subst hPI
        refine wpAny_pyIter_list hl1 (wpAny_bind (wpAny_runValue ?_))
        refine update_loop ((Walks.list hh3 _ l neI items).toS) s.heap.objs.size nS ks hsz hb val (items.size - 0) 0 _ (by omega) (Nat.zero_le _)
          ⟨⟨_, Heap.get?_push_size _ rfl, rfl, rfl⟩, hl1.push _⟩ (sr_fresh (Heap.get?_push_of_some _ hS)) fun s' mv r => ?_
        obtain ⟨h', tk, rfl, q1, q2⟩ := fin _ s' mv r
        exact wpAny_pure (wpAny_pure ⟨rfl, h', tk, rfl, q1, q2⟩)
      · have hsls := F.sub_tuple_set
        have hslf := F.sub_tuple_frozenset
        have hne : (Value.type "tuple" == Value.type "dict") = false := by decide
        have hl1 : (s.heap.push (fresh w)).IsTuple l items := ⟨_, hol, rfl, nl, rfl⟩
        unfold Builtin.«set.__init__» noKeywords Builtin.Frozenset.updateFrom
        generalize hPI : pyIter = PI
        wp_walk
        subst hPI
        refine wpAny_pyIter_tuple hl1 (wpAny_bind (wpAny_runValue ?_))
        refine update_loop ((Walks.tuple hh3 _ l neI items).toS) s.heap.objs.size nS ks hsz hb val (items.size - 0) 0 _ (by omega) (Nat.zero_le _)
          ⟨⟨_, Heap.get?_push_size _ rfl, rfl, rfl⟩, hl1.push _⟩ (sr_fresh (Heap.get?_push_of_some _ hS)) fun s' mv r => ?_
        obtain ⟨h', tk, rfl, q1, q2⟩ := fin _ s' mv r
        exact wpAny_pure (wpAny_pure ⟨rfl, h', tk, rfl, q1, q2⟩)
    · cases r₂ with
      | error e => exact hr₂
      | ok fl₂ =>
        cases fl₂ with
        | ret r =>
          obtain ⟨rfl, h', tk, rfl, q1, q2⟩ := hr₂
          repeat (any_goals (first | assumption | wp_step))
          exact h _ _ q1 q2
        | _ => exact hr₂.elim
  | _ => exact hr.elim
end
end Fo.Se
-- FoS3.lean
set_option Elab.async false
set_option linter.all false
set_option maxRecDepth 100000
set_option maxHeartbeats 2000000
namespace Fo

/-! ### strict orders, lists without repeats that rise -/
/-- a strict total order -/
structure STO {α : Type} (lt : α → α → Bool) : Prop where
  irr : ∀ a, lt a a = false
  tr : ∀ a b c, lt a b = true → lt b c = true → lt a c = true
  tot : ∀ a b, lt a b = false → lt b a = false → a = b
section
variable {α : Type} {lt : α → α → Bool}
def ins (lt : α → α → Bool) (x : α) : List α → List α
  | [] => [x]
  | y :: ys => if lt x y then x :: y :: ys else if lt y x then y :: ins lt x ys else y :: ys
/-- each once, rising -/
def usort (lt : α → α → Bool) (xs : List α) : List α := xs.foldr (ins lt) []
def Rising (lt : α → α → Bool) (xs : List α) : Prop := xs.Pairwise fun a b => lt a b = true
theorem STO.asym (h : STO lt) {a b : α} (e : lt a b = true) : lt b a = false := by
  cases q : lt b a with
  | false => rfl
  | true => have := h.tr a b a e q; rw [h.irr] at this; cases this
theorem mem_ins (h : STO lt) {x z : α} : ∀ {ys : List α}, z ∈ ins lt x ys ↔ z = x ∨ z ∈ ys
  | [] => by simp [ins]
  | y :: ys => by
    unfold ins
    split
    · simp
    · split
      · rw [List.mem_cons, mem_ins h, List.mem_cons]
        constructor
        · rintro (q | q | q) <;> simp [q]
        · rintro (q | q | q) <;> simp [q]
      · rename_i h1 h2
        have : x = y := h.tot x y (by simpa using h1) (by simpa using h2)
        subst this
        simp
theorem rising_ins (h : STO lt) {x : α} : ∀ {ys : List α}, Rising lt ys → Rising lt (ins lt x ys)
  | [], _ => by simp [ins, Rising]
  | y :: ys, r => by
    have r' := r
    unfold Rising at r'
    rw [List.pairwise_cons] at r'
    unfold ins
    split
    · rename_i h1
      refine List.pairwise_cons.mpr ⟨fun z hz => ?_, r⟩
      rcases List.mem_cons.mp hz with q | q
      · rw [q]; exact h1
      · exact h.tr _ _ _ h1 (r'.1 z q)
    · split
      · rename_i h1 h2
        refine List.pairwise_cons.mpr ⟨fun z hz => ?_, rising_ins h r'.2⟩
        rcases (mem_ins h).mp hz with q | q
        · rw [q]; exact h2
        · exact r'.1 z q
      · exact r
theorem rising_usort (h : STO lt) : ∀ xs : List α, Rising lt (usort lt xs)
  | [] => List.Pairwise.nil
  | x :: xs => rising_ins h (rising_usort h xs)
theorem mem_usort (h : STO lt) {z : α} : ∀ {xs : List α}, z ∈ usort lt xs ↔ z ∈ xs
  | [] => by simp [usort]
  | x :: xs => by
    show z ∈ ins lt x (usort lt xs) ↔ _
    rw [mem_ins h, mem_usort h, List.mem_cons]
theorem rising_nodup (h : STO lt) {xs : List α} (r : Rising lt xs) : xs.Nodup := List.Pairwise.imp (fun q z => by subst z; rw [h.irr] at q; cases q) r
/-- rising lists of the same members are one -/
theorem rising_unique (h : STO lt) : ∀ {xs ys : List α}, Rising lt xs → Rising lt ys → (∀ z, z ∈ xs ↔ z ∈ ys) → xs = ys
  | [], [], _, _, _ => rfl
  | [], y :: ys, _, _, m => by have := (m y).mpr (by simp); simp at this
  | x :: xs, [], _, _, m => by have := (m x).mp (by simp); simp at this
  | x :: xs, y :: ys, r1, r2, m => by
    unfold Rising at r1 r2
    rw [List.pairwise_cons] at r1 r2
    have exy : x = y := by
      rcases List.mem_cons.mp ((m x).mp (by simp)) with q | q
      · exact q
      · rcases List.mem_cons.mp ((m y).mpr (by simp)) with q' | q'
        · exact q'.symm
        · have a := r1.1 y q'
          rw [h.asym (r2.1 x q)] at a
          cases a
    subst exy
    refine congrArg _ (rising_unique h r1.2 r2.2 fun z => ?_)
    constructor
    · intro hz
      rcases List.mem_cons.mp ((m z).mp (List.mem_cons_of_mem _ hz)) with q | q
      · subst q; have := r1.1 z hz; rw [h.irr] at this; cases this
      · exact q
    · intro hz
      rcases List.mem_cons.mp ((m z).mpr (List.mem_cons_of_mem _ hz)) with q | q
      · subst q; have := r2.1 z hz; rw [h.irr] at this; cases this
      · exact q
theorem usort_unique (h : STO lt) {xs ys : List α} (r : Rising lt ys) (m : ∀ z, z ∈ ys ↔ z ∈ xs) : ys = usort lt xs :=
  rising_unique h r (rising_usort h xs) fun z => (m z).trans (mem_usort h).symm
theorem usort_of_rising (h : STO lt) {xs : List α} (r : Rising lt xs) : usort lt xs = xs := (usort_unique h r fun _ => Iff.rfl).symm
/-- by the order, but each as often as it comes -/
def leOf (lt : α → α → Bool) (a b : α) : Bool := !lt b a
theorem sort_nodup (h : STO lt) {xs : List α} (nd : xs.Nodup) : xs.mergeSort (leOf lt) = usort lt xs := by
  have tr : ∀ a b c : α, leOf lt a b = true → leOf lt b c = true → leOf lt a c = true := fun a b c p q => by
    unfold leOf at *
    cases e : lt c a with
    | false => rfl
    | true =>
      exfalso
      simp only [Bool.not_eq_true'] at p q
      cases e2 : lt a b with
      | true => have := h.tr c a b e e2; rw [q] at this; cases this
      | false =>
        have : a = b := h.tot a b e2 p
        subst this
        rw [q] at e; cases e
  have tot : ∀ a b : α, (leOf lt a b || leOf lt b a) = true := fun a b => by
    unfold leOf
    cases e : lt b a with
    | false => rfl
    | true => rw [h.asym e]; rfl
  have s := List.pairwise_mergeSort (le := leOf lt) tr tot xs
  have nd' : (xs.mergeSort (leOf lt)).Nodup := (List.mergeSort_perm xs _).nodup_iff.mpr nd
  refine usort_unique h ?_ fun z => (List.mergeSort_perm xs _).mem_iff
  have both : (xs.mergeSort (leOf lt)).Pairwise fun a b => leOf lt a b = true ∧ a ≠ b := List.pairwise_and_iff.mpr ⟨s, nd'⟩
  refine both.imp fun {a b} q => ?_
  cases e : lt a b with
  | true => rfl
  | false =>
    have q1 := q.1
    unfold leOf at q1
    exact absurd (h.tot a b e (by simpa using q1)) q.2
end
def ltI (a b : Int) : Bool := decide (a < b)
theorem stoI : STO ltI := ⟨fun a => by simp [ltI], fun a b c h k => by simp only [ltI, decide_eq_true_eq] at *; omega, fun a b h k => by simp only [ltI, decide_eq_false_iff_not] at *; omega⟩
/-- texts, sign by sign -/
def ltT : Tx → Tx → Bool
  | [], [] => false
  | [], _ :: _ => true
  | _ :: _, [] => false
  | a :: as, b :: bs => if a < b then true else if b < a then false else ltT as bs
theorem ltT_irr : ∀ a, ltT a a = false
  | [] => rfl
  | a :: as => by simp [ltT, ltT_irr as]
theorem ltT_tr : ∀ a b c, ltT a b = true → ltT b c = true → ltT a c = true
  | [], [], _, h, _ => by simp [ltT] at h
  | _ :: _, [], _, h, _ => by simp [ltT] at h
  | _, _ :: _, [], _, h => by simp [ltT] at h
  | [], _ :: _, _ :: _, _, _ => rfl
  | a :: as, b :: bs, c :: cs, h, k => by
    unfold ltT at h k ⊢
    by_cases h1 : a < b
    · by_cases h2 : b < c
      · rw [if_pos (by omega)]
      · rw [if_neg h2] at k
        by_cases h3 : c < b
        · rw [if_pos h3] at k; cases k
        · rw [if_pos (by omega)]
    · rw [if_neg h1] at h
      by_cases h3 : b < a
      · rw [if_pos h3] at h; cases h
      · rw [if_neg h3] at h
        have e : a = b := by omega
        subst e
        by_cases h2 : a < c
        · rw [if_pos h2]
        · rw [if_neg h2] at k ⊢
          by_cases h4 : c < a
          · rw [if_pos h4] at k; cases k
          · rw [if_neg h4] at k ⊢
            exact ltT_tr as bs cs h k
theorem ltT_tot : ∀ a b, ltT a b = false → ltT b a = false → a = b
  | [], [], _, _ => rfl
  | [], _ :: _, h, _ => by simp [ltT] at h
  | _ :: _, [], _, h => by simp [ltT] at h
  | a :: as, b :: bs, h, k => by
    unfold ltT at h k
    by_cases h1 : a < b
    · rw [if_pos h1] at h; cases h
    · by_cases h2 : b < a
      · rw [if_pos h2] at k; cases k
      · rw [if_neg h1, if_neg h2] at h
        rw [if_neg h2, if_neg h1] at k
        have e : a = b := by omega
        rw [e, ltT_tot as bs h k]
theorem stoT : STO ltT := ⟨ltT_irr, ltT_tr, ltT_tot⟩
theorem ltT_lt : ∀ a b : Tx, ltT a b = decide (a < b)
  | [], [] => by simp [ltT]
  | [], _ :: _ => by simp [ltT]
  | _ :: _, [] => by simp [ltT]
  | a :: as, b :: bs => by
    unfold ltT
    rw [ltT_lt as bs]
    by_cases h1 : a < b
    · simp [h1, List.cons_lt_cons_iff]
    · by_cases h2 : b < a
      · have : ¬ a = b := by omega
        simp [h1, h2, this, List.cons_lt_cons_iff]
      · have : a = b := by omega
        simp [this, List.cons_lt_cons_iff]
def ltP (a b : Int × Int) : Bool := decide (a.1 < b.1 ∨ a.1 = b.1 ∧ a.2 < b.2)
theorem stoP : STO ltP := ⟨fun a => by simp [ltP], fun a b c h k => by simp only [ltP, decide_eq_true_eq] at *; omega, fun a b h k => by
  simp only [ltP, decide_eq_false_iff_not] at *
  have h1 : a.1 = b.1 := by omega
  have h2 : a.2 = b.2 := by omega
  exact Prod.ext h1 h2⟩
end Fo

namespace Fo.Se
open PySem PySem.Spec PyProof.Rows PySem.W L2
def kpy : Key → PyData
  | .inl i => .int i
  | .inr x => .str x
def oneKind (ks : List Key) : Prop := (∀ k ∈ ks, k.isLeft = true) ∨ ∀ k ∈ ks, k.isRight = true
theorem kpy_alike {k k' : Key} (h : k.isLeft = true ∧ k'.isLeft = true ∨ k.isRight = true ∧ k'.isRight = true) : alike (kpy k) (kpy k') = true := by
  cases k <;> cases k' <;> simp [kpy, alike] at h ⊢
theorem kpy_depth (k : Key) : (kpy k).depth = 0 := by cases k <;> rfl
section
variable {P : Program} {w : World} {A : Around} {E : Value → Shared → Prop} {s : Shared}
theorem each_keyed : ∀ {vs : List Value} {bs : List Key}, Keyed vs bs → EachIs (fun v k => keyIs k v = true) vs bs
  | _, _, .nil => .nil
  | _, _, .cons r t => .cons r (each_keyed t)
theorem keyed_each : ∀ {vs : List Value} {bs : List Key}, EachIs (fun v k => keyIs k v = true) vs bs → Keyed vs bs
  | _, _, .nil => .nil
  | _, _, .cons r t => .cons r (keyed_each t)
theorem keyed_of : ∀ (vs : List Value), (∀ v ∈ vs, ∃ k, keyIs k v = true) → Keyed vs (vs.map kv)
  | [], _ => .nil
  | v :: vs, h => by
    obtain ⟨k, q⟩ := h v (by simp)
    rw [List.map_cons, kv_of q]
    exact .cons q (keyed_of vs fun u hu => h u (by simp [hu]))
theorem reads_key {h : Heap} {k : Key} {v : Value} (q : keyIs k v = true) : ∃ as, Reads h v (kpy k) as := by
  rcases keyIs_shape q with ⟨i, t, rfl, rfl⟩ | ⟨x, t, rfl, rfl⟩
  · exact ⟨_, Reads.int i t⟩
  · exact ⟨_, Reads.str x t⟩
/-- sorted(set) of ints, or of texts -/
theorem sorted_keys {a : Addr} {ks : List Key} {Q : Value → Shared → Prop} (R : SR w s.heap a ks) (hh : A.handled = none) (ok : oneKind ks) (hu : A.units + 3 < cLine)
    (hQ : ∀ s' p (out : List Value) (c : Nat) (bs : List Key), (∀ b o, s.heap.get? b = some o → s'.heap.get? b = some o) → s'.gens = s.gens → s'.os = s.os → s.heap.objs.size ≤ p →
      s'.heap.get? p = some (seqObj "list" out.toArray c) → Keyed out (bs.mergeSort (dataLe false kpy)) → bs.Nodup → (∀ k, k ∈ bs ↔ k ∈ ks) → bs.length ≤ ks.length → Q (.ref p) s') :
    wpAny (model P w) A (call (.builtin "sorted") [.ref a]) Q E s := by
  obtain ⟨o, es, ep, t, ho, hex, hd, g, nd, mem, hb, hle, hf, hr, hl⟩ := R
  refine Calls.call_function_entry kind_sorted plain_sorted entry_sorted (args_sorted1 _) ?_
  unfold Builtin.«sorted»
  refine wpAny_bind (m := checkCount "sorted" 1 1 _) (wpAny_pure ?_)
  refine wpAny_bind (collect_set (A := A.in1) hh ⟨o, ho, hex.1, hd⟩ hf hb hr hl fun s1 vs k1 hz g1 o1 pm => ?_)
  have kd : Keyed vs (vs.map kv) := keyed_of vs fun v hv => by
    obtain ⟨e, he, q⟩ := List.mem_map.mp (pm.mem_iff.mp hv)
    obtain ⟨k, h1, _⟩ := g e he
    exact ⟨k, q ▸ h1⟩
  have pk : (vs.map kv).Perm (keysOf es) := by
    have q := pm.map kv
    rwa [List.map_map] at q
  have hlen : vs.length = es.size := by simpa using pm.length_eq
  have hlim : vs.length ≤ sizeLine := by rw [hlen, sizeLine_eq]; unfold scanBound at hb; omega
  have mk : ∀ k, k ∈ vs.map kv ↔ k ∈ ks := fun k => by rw [pk.mem_iff, mem k]
  refine wpAny_bind (wpAny_newList ?_ hlim)
  have hoL : (s1.heap.push (seqObj "list" vs.toArray 0)).get? s1.heap.objs.size = some (seqObj "list" vs.toArray 0) := Heap.get?_push_size _ rfl
  have al : AllAlike ((vs.map kv).map kpy) := by
    intro d hd d' hd'
    obtain ⟨k, hk, rfl⟩ := List.mem_map.mp hd
    obtain ⟨k', hk', rfl⟩ := List.mem_map.mp hd'
    exact kpy_alike (ok.imp (fun q => ⟨q k ((mk k).mp hk), q k' ((mk k').mp hk')⟩) fun q => ⟨q k ((mk k).mp hk), q k' ((mk k').mp hk')⟩)
  have so : Sortable ((vs.map kv).map kpy) := .inr fun d hd => by
    obtain ⟨k, _, rfl⟩ := List.mem_map.mp hd
    cases k <;> simp [kpy]
  have er : EachIs (fun v k => ∃ as, Reads (s1.heap.push (seqObj "list" vs.toArray 0)) v (kpy k) as ∧ s1.heap.objs.size ∉ as) vs (vs.map kv) := (each_keyed kd).mono fun v k q => by
    rcases keyIs_shape q with ⟨i, t, rfl, rfl⟩ | ⟨x, t, rfl, rfl⟩
    · exact ⟨[], Reads.int i t, by simp⟩
    · exact ⟨[], Reads.str x t, by simp⟩
  refine wpAny_bind (wpAny_holding (list_sort_data (s := { s1 with heap := s1.heap.push (seqObj "list" vs.toArray 0) }) hoL (each_keyed kd) er al so (by simpa using hlim) (fun b _ => by rw [kpy_depth]; show A.in1.units + 1 + 0 < cLine; have : A.in1.units = A.units + 1 := rfl; omega) fun out ol eo => ?_))
  obtain ⟨c, hc⟩ := sortedHeap_at (vs := vs) (out := out.toArray) hoL
  refine wpAny_pure ⟨_, rfl, hQ _ s1.heap.objs.size out c _ (fun b u e => ?_) g1 o1 hz hc (keyed_each eo) (pk.nodup_iff.mpr nd) mk (by rw [List.length_map, hlen]; exact hle)⟩
  have q := k1 b u e
  have lt := Heap.lt_size q
  show (sortedHeap (s1.heap.push (seqObj "list" vs.toArray 0)) s1.heap.objs.size vs out.toArray).get? b = some u
  rw [sortedHeap_old (Nat.ne_of_lt lt) (by rw [size_push']; exact Nat.lt_succ_of_lt lt)]
  exact Heap.get?_push_of_some _ q
end
end Fo.Se
-- FoG1.lean
set_option Elab.async false
set_option linter.all false
set_option maxRecDepth 100000
set_option maxHeartbeats 2000000
noncomputable section
namespace Fo
open PySem L2

/-! ### data for the library's orders and equalities -/
mutual
def py : D → PyData
  | .non => .none
  | .bl b => .bool b
  | .int i => .int i
  | .str x => .str (tx x)
  | .tup xs => .tuple (pyL xs)
  | .lst xs => .list (pyL xs)
  | .dct _ => .none
  | .scr _ => .none
  | .raw _ => .none
def pyL : List D → List PyData
  | [] => []
  | d :: ds => py d :: pyL ds
end
def okT (x : Tx) : Bool := x.all (· < 1114112)
mutual
/-- plain data, not too deep, signs as they are -/
def okD : Nat → D → Bool
  | _, .non => true
  | _, .bl _ => true
  | _, .int _ => true
  | _, .str x => okT x
  | 0, .tup _ => false
  | 0, .lst _ => false
  | n + 1, .tup xs => okL n xs
  | n + 1, .lst xs => okL n xs
  | _, .dct _ => false
  | _, .scr _ => false
  | _, .raw _ => false
def okL : Nat → List D → Bool
  | _, [] => true
  | n, d :: ds => okD n d && okL n ds
end
theorem pyL_map : ∀ ds : List D, pyL ds = ds.map py
  | [] => rfl
  | d :: ds => by simp [pyL, pyL_map ds]
mutual
theorem okD_lay : ∀ (n : Nat) (d : D), okD n d = true → (py d).canLay0 = true ∧ (py d).depth ≤ n
  | n, .non, _ => ⟨by simp [py, PyData.canLay0], by simp [py, PyData.depth]⟩
  | n, .bl _, _ => ⟨by simp [py, PyData.canLay0], by simp [py, PyData.depth]⟩
  | n, .int _, _ => ⟨by simp [py, PyData.canLay0], by simp [py, PyData.depth]⟩
  | n, .str x, h => ⟨by
      have h' : okT x = true := by cases n <;> exact h
      simp only [py, PyData.canLay0, PyData.strOk, tx]
      simpa [okT] using h', by simp [py, PyData.depth]⟩
  | 0, .tup _, h => by simp [okD] at h
  | 0, .lst _, h => by simp [okD] at h
  | n + 1, .tup xs, h => by
    obtain ⟨h1, h2⟩ := okL_lay n xs (by simpa [okD] using h)
    exact ⟨by simpa [py, PyData.canLay0] using h1, by simp only [py, PyData.depth]; omega⟩
  | n + 1, .lst xs, h => by
    obtain ⟨h1, h2⟩ := okL_lay n xs (by simpa [okD] using h)
    exact ⟨by simpa [py, PyData.canLay0] using h1, by simp only [py, PyData.depth]; omega⟩
  | n, .dct _, h => by cases n <;> simp [okD] at h
  | n, .scr _, h => by cases n <;> simp [okD] at h
  | n, .raw _, h => by cases n <;> simp [okD] at h
theorem okL_lay : ∀ (n : Nat) (ds : List D), okL n ds = true → PyData.canLayAll0 (pyL ds) = true ∧ PyData.depthAll (pyL ds) ≤ n
  | n, [], _ => ⟨by simp [pyL, PyData.canLayAll0], by simp [pyL, PyData.depthAll]⟩
  | n, d :: ds, h => by
    have h' : okD n d = true ∧ okL n ds = true := by simpa [okL] using h
    obtain ⟨a1, a2⟩ := okD_lay n d h'.1
    obtain ⟨b1, b2⟩ := okL_lay n ds h'.2
    exact ⟨by simp [pyL, PyData.canLayAll0, a1, b1], by simp only [pyL, PyData.depthAll]; omega⟩
end
theorem okD_shaped {d : D} (h : okD 60 d = true) : SeqAt.shaped (py d) = true := by
  obtain ⟨a, c⟩ := okD_lay 60 d h
  unfold SeqAt.shaped
  rw [a]
  simp
  omega
section
variable {K : PySem.W.Frag} {lk : Option Addr} {S H : Hp}
mutual
theorem Rp.dp (s : Sub lk S H) : ∀ (n : Nat) (d : D) (v : V), okD n d = true → Rp K S v d → Dp K H v (py d)
  | _, .non, _, _, h => by cases h; exact .non
  | _, .bl _, _, _, h => by cases h; exact .bl _
  | _, .int _, _, _, h => by cases h; exact .int _
  | _, .str _, _, _, h => by cases h; exact .str _
  | 0, .tup _, _, h, _ => by simp [okD] at h
  | 0, .lst _, _, h, _ => by simp [okD] at h
  | n + 1, .tup xs, _, h, r => by
    obtain ⟨a, vs, rfl, e, _, rr⟩ := (RpW.sh (H := H) r).tup_inv s
    exact .tup (.inl (.inl e)) (RpL.dp s n xs vs (by simpa [okD] using h) rr)
  | n + 1, .lst xs, _, h, r => by
    obtain ⟨a, vs, rfl, e, rr⟩ := (RpW.sh (H := H) r).lst_inv s
    exact .lst (.inl (.inl e)) (RpL.dp s n xs vs (by simpa [okD] using h) rr)
  | n, .dct _, _, h, _ => by cases n <;> simp [okD] at h
  | n, .scr _, _, h, _ => by cases n <;> simp [okD] at h
  | n, .raw _, _, h, _ => by cases n <;> simp [okD] at h
theorem RpL.dp (s : Sub lk S H) : ∀ (n : Nat) (ds : List D) (vs : List V), okL n ds = true → RpL K S vs ds → DpAll K H vs (pyL ds)
  | _, [], _, _, h => by cases h; exact .nil
  | n, d :: ds, _, h, r => by
    have h' : okD n d = true ∧ okL n ds = true := by simpa [okL] using h
    cases r with
    | cons r1 r2 => exact .cons (Rp.dp s n d _ h'.1 r1) (RpL.dp s n ds _ h'.2 r2)
end
theorem RpW.dp (s : Sub lk S H) {n : Nat} {d : D} {v : V} (h : okD n d = true) (r : RpW K S H v d) : Dp K H v (py d) := by
  cases r with
  | sh r => exact Rp.dp s n d v h r
  | ol e r =>
    cases n with
    | zero => simp [okD] at h
    | succ n => exact .lst (.inl (.inl e)) (RpL.dp s n _ _ (by simpa [okD] using h) r)
  | ok e r => cases n <;> simp [okD] at h
end

/-! ### what the operators do with data -/
def addD : D → D → Option D
  | .int a, .int b => some (.int (a + b))
  | .str a, .str b => if a.length + b.length ≤ LIM then some (.str (a ++ b)) else none
  | .tup a, .tup b => if a.length + b.length ≤ LIM then some (.tup (a ++ b)) else none
  | .lst a, .lst b => if a.length + b.length ≤ LIM then some (.lst (a ++ b)) else none
  | _, _ => none
def subD : D → D → Option D
  | .int a, .int b => some (.int (a - b))
  | _, _ => none
theorem mb_ex : ∃ n : Int, n = 18446744073709551616 := ⟨_, rfl⟩
def MB : Int := Classical.choose mb_ex
theorem MB_eq : MB = 18446744073709551616 := Classical.choose_spec mb_ex
def mulD : D → D → Option D
  | .int a, .int b => if (-MB < a ∧ a < MB) ∨ (-MB < b ∧ b < MB) then some (.int (a * b)) else none
  | .lst xs, .int k => if -MB ≤ 2 * k ∧ 2 * k < MB ∧ xs.length * k.toNat ≤ LIM then some (.lst (List.replicate k.toNat xs).flatten) else none
  | _, _ => none
def modD : D → D → Option D
  | .int a, .int b => if 0 < b then some (.int (a % b)) else none
  | _, _ => none
def fdivD : D → D → Option D
  | .int a, .int b => if 0 < b ∧ b < 1073741824 then some (.int (a / b)) else none
  | _, _ => none
def eqV (x y : D) : Bool := PyData.eqv (py x) (py y)
def eqD (x y : D) : Option D := if okD 60 x = true ∧ okD 60 y = true then some (.bl (eqV x y)) else none
def neD (x y : D) : Option D := if okD 60 x = true ∧ okD 60 y = true then some (.bl (!eqV x y)) else none
def ltD : D → D → Option D
  | .int a, .int b => some (.bl (decide (a < b)))
  | .str a, .str b => some (.bl (ltT a b))
  | _, _ => none
def leD : D → D → Option D
  | .int a, .int b => some (.bl (decide (a ≤ b)))
  | _, _ => none
def gtD : D → D → Option D
  | .int a, .int b => some (.bl (decide (b < a)))
  | _, _ => none
def geD : D → D → Option D
  | .int a, .int b => some (.bl (decide (b ≤ a)))
  | _, _ => none
def memV (x : D) (ys : List D) : Bool := ys.any fun y => eqV y x
section
variable {X : Cx} {b : Bool}
theorem or_add : OpR X (binaryOp .Add) (rOf X.K b addD) := by
  intro pins s σ H x y v u Q I rx ry h
  obtain ⟨lk, S, d, e, z, h1, h2, h3, h4, h5, k⟩ := h
  cases d <;> cases e <;> simp only [addD, reduceCtorEq] at h5
  · rename_i i j
    cases h5
    rw [h3.int_inv] at rx
    rw [h4.int_inv] at ry
    exact op_add pins s σ H _ _ v u Q I rx ry ⟨i, j, rfl, rfl, k _ S H (Gr.refl h2) (.int _)⟩
  · rename_i i j
    by_cases hl : i.length + j.length ≤ LIM
    · rw [if_pos hl] at h5
      cases h5
      rw [h3.str_inv] at rx
      rw [h4.str_inv] at ry
      exact op_add_str pins s σ H _ _ v u Q I rx ry ⟨_, _, rfl, rfl, by rw [tx_len, tx_len]; exact lim_ok hl, by rw [tx_app]; exact k _ S H (Gr.refl h2) (.str _)⟩
    · rw [if_neg hl] at h5; cases h5
  · rename_i xs ys
    by_cases hl : xs.length + ys.length ≤ LIM
    · rw [if_pos hl] at h5
      cases h5
      obtain ⟨a, vs, rfl, e1, e1', r1⟩ := h3.tup_inv h2
      obtain ⟨a2, ws, rfl, e2, e2', r2⟩ := h4.tup_inv h2
      refine op_catA pins s σ H _ _ v u Q I rx ry ⟨a, a2, vs, ws, rfl, rfl, .inl (.inl e1), .inl (.inl e2), by rw [r1.length, r2.length]; exact lim_ok hl, fun z => ?_, fun _ z => ?_, fun _ _ p hp => ?_⟩
      · subst z
        cases r1
        exact k _ S H (Gr.refl h2) (.tup e2' r2)
      · subst z
        cases r2
        exact k _ S H (Gr.refl h2) (.tup e1' (by rw [List.append_nil]; exact r1))
      · exact new_tup h2 (r1.append r2) k hp
    · rw [if_neg hl] at h5; cases h5
  · rename_i xs ys
    by_cases hl : xs.length + ys.length ≤ LIM
    · rw [if_pos hl] at h5
      cases h5
      obtain ⟨a, vs, rfl, e1, r1⟩ := h3.lst_inv h2
      obtain ⟨a2, ws, rfl, e2, r2⟩ := h4.lst_inv h2
      exact op_cat pins s σ H _ _ v u Q I rx ry ⟨a, a2, vs, ws, rfl, rfl, e1, e2, by rw [r1.length, r2.length]; exact lim_ok hl, fun p hp => new_lst h2 (r1.append r2) k hp⟩
    · rw [if_neg hl] at h5; cases h5
theorem or_sub : OpR X (binaryOp .Sub) (rOf X.K b subD) := by
  intro pins s σ H x y v u Q I rx ry h
  obtain ⟨lk, S, d, e, z, h1, h2, h3, h4, h5, k⟩ := h
  cases d <;> cases e <;> simp only [subD, reduceCtorEq] at h5
  rename_i i j
  cases h5
  rw [h3.int_inv] at rx
  rw [h4.int_inv] at ry
  exact op_sub pins s σ H _ _ v u Q I rx ry ⟨i, j, rfl, rfl, k _ S H (Gr.refl h2) (.int _)⟩
theorem or_mul : OpR X (binaryOp .Mult) (rOf X.K b mulD) := by
  intro pins s σ H x y v u Q I rx ry h
  obtain ⟨lk, S, d, e, z, h1, h2, h3, h4, h5, k⟩ := h
  cases d <;> cases e <;> simp only [mulD, reduceCtorEq] at h5
  · rename_i i j
    by_cases hl : (-MB < i ∧ i < MB) ∨ (-MB < j ∧ j < MB)
    · rw [if_pos hl] at h5
      cases h5
      rw [h3.int_inv] at rx
      rw [h4.int_inv] at ry
      exact op_mul pins s σ H _ _ v u Q I rx ry ⟨i, j, rfl, rfl, by simp only [MB_eq] at hl; unfold CMul; omega, k _ S H (Gr.refl h2) (.int _)⟩
    · rw [if_neg hl] at h5; cases h5
  · rename_i xs j
    by_cases hl : -MB ≤ 2 * j ∧ 2 * j < MB ∧ xs.length * j.toNat ≤ LIM
    · rw [if_pos hl] at h5
      cases h5
      obtain ⟨a, vs, rfl, e1, r1⟩ := h3.lst_inv h2
      rw [h4.int_inv] at ry
      obtain ⟨q1, q2, q3⟩ := hl
      simp only [MB_eq] at q1 q2
      exact op_rep pins s σ H _ _ v u Q I rx ry ⟨a, j, vs, rfl, rfl, e1, by omega, by omega, by rw [r1.length]; exact lim_ok q3, fun p hp => new_lst h2 (r1.rep _) k hp⟩
    · rw [if_neg hl] at h5; cases h5
theorem or_mod : OpR X (binaryOp .Mod) (rOf X.K b modD) := by
  intro pins s σ H x y v u Q I rx ry h
  obtain ⟨lk, S, d, e, z, h1, h2, h3, h4, h5, k⟩ := h
  cases d <;> cases e <;> simp only [modD, reduceCtorEq] at h5
  rename_i i j
  by_cases hl : 0 < j
  · rw [if_pos hl] at h5
    cases h5
    rw [h3.int_inv] at rx
    rw [h4.int_inv] at ry
    exact op_mod pins s σ H _ _ v u Q I rx ry ⟨i, j, rfl, rfl, hl, k _ S H (Gr.refl h2) (.int _)⟩
  · rw [if_neg hl] at h5; cases h5
theorem or_fdiv : OpR X (binaryOp .FloorDiv) (rOf X.K b fdivD) := by
  intro pins s σ H x y v u Q I rx ry h
  obtain ⟨lk, S, d, e, z, h1, h2, h3, h4, h5, k⟩ := h
  cases d <;> cases e <;> simp only [fdivD, reduceCtorEq] at h5
  rename_i i j
  by_cases hl : 0 < j ∧ j < 1073741824
  · rw [if_pos hl] at h5
    cases h5
    rw [h3.int_inv] at rx
    rw [h4.int_inv] at ry
    exact op_fdiv pins s σ H _ _ v u Q I rx ry ⟨i, j, rfl, rfl, hl, k _ S H (Gr.refl h2) (.int _)⟩
  · rw [if_neg hl] at h5; cases h5
theorem or_eq (hu : X.A.units + 64 < cLine) : OpR X (compareOp .Eq) (rOf X.K b eqD) := by
  intro pins s σ H x y v u Q I rx ry h
  obtain ⟨lk, S, d, e, z, h1, h2, h3, h4, h5, k⟩ := h
  unfold eqD at h5
  split at h5
  · rename_i hk
    cases h5
    exact op_eqD hu pins s σ H _ _ v u Q I rx ry ⟨py d, py e, h3.dp h2 hk.1, h4.dp h2 hk.2, okD_shaped hk.1, okD_shaped hk.2, k _ S H (Gr.refl h2) (.bl _)⟩
  · cases h5
theorem or_ne (hu : X.A.units + 64 < cLine) : OpR X (compareOp .NotEq) (rOf X.K b neD) := by
  intro pins s σ H x y v u Q I rx ry h
  obtain ⟨lk, S, d, e, z, h1, h2, h3, h4, h5, k⟩ := h
  unfold neD at h5
  split at h5
  · rename_i hk
    cases h5
    exact op_neD hu pins s σ H _ _ v u Q I rx ry ⟨py d, py e, h3.dp h2 hk.1, h4.dp h2 hk.2, okD_shaped hk.1, okD_shaped hk.2, k _ S H (Gr.refl h2) (.bl _)⟩
  · cases h5
theorem or_lt : OpR X (compareOp .Lt) (rOf X.K b ltD) := by
  intro pins s σ H x y v u Q I rx ry h
  obtain ⟨lk, S, d, e, z, h1, h2, h3, h4, h5, k⟩ := h
  cases d <;> cases e <;> simp only [ltD, reduceCtorEq] at h5
  · rename_i i j
    cases h5
    rw [h3.int_inv] at rx
    rw [h4.int_inv] at ry
    exact op_lt pins s σ H _ _ v u Q I rx ry ⟨i, j, rfl, rfl, k _ S H (Gr.refl h2) (.bl _)⟩
  · rename_i i j
    cases h5
    rw [h3.str_inv] at rx
    rw [h4.str_inv] at ry
    refine op_lt_str pins s σ H _ _ v u Q I rx ry ⟨_, _, rfl, rfl, ?_⟩
    rw [tx_cps, tx_cps, ← ltT_lt]
    exact k _ S H (Gr.refl h2) (.bl _)
theorem or_le : OpR X (compareOp .LtE) (rOf X.K b leD) := by
  intro pins s σ H x y v u Q I rx ry h
  obtain ⟨lk, S, d, e, z, h1, h2, h3, h4, h5, k⟩ := h
  cases d <;> cases e <;> simp only [leD, reduceCtorEq] at h5
  rename_i i j
  cases h5
  rw [h3.int_inv] at rx
  rw [h4.int_inv] at ry
  exact op_le pins s σ H _ _ v u Q I rx ry ⟨i, j, rfl, rfl, k _ S H (Gr.refl h2) (.bl _)⟩
theorem or_gt : OpR X (compareOp .Gt) (rOf X.K b gtD) := by
  intro pins s σ H x y v u Q I rx ry h
  obtain ⟨lk, S, d, e, z, h1, h2, h3, h4, h5, k⟩ := h
  cases d <;> cases e <;> simp only [gtD, reduceCtorEq] at h5
  rename_i i j
  cases h5
  rw [h3.int_inv] at rx
  rw [h4.int_inv] at ry
  exact op_gt pins s σ H _ _ v u Q I rx ry ⟨i, j, rfl, rfl, k _ S H (Gr.refl h2) (.bl _)⟩
theorem or_ge : OpR X (compareOp .GtE) (rOf X.K b geD) := by
  intro pins s σ H x y v u Q I rx ry h
  obtain ⟨lk, S, d, e, z, h1, h2, h3, h4, h5, k⟩ := h
  cases d <;> cases e <;> simp only [geD, reduceCtorEq] at h5
  rename_i i j
  cases h5
  rw [h3.int_inv] at rx
  rw [h4.int_inv] at ry
  exact op_ge pins s σ H _ _ v u Q I rx ry ⟨i, j, rfl, rfl, k _ S H (Gr.refl h2) (.bl _)⟩
/-! in, not in: of a tuple, a list, one sign of a text -/
def inD (x : D) : D → Option D
  | .tup ys => if okD 60 x = true ∧ okL 59 ys = true then some (.bl (memV x ys)) else none
  | .lst ys => if okD 60 x = true ∧ okL 59 ys = true then some (.bl (memV x ys)) else none
  | .str y => (match x with
    | .str [c] => some (.bl (decide (c ∈ y)))
    | _ => none)
  | _ => none
def notD (o : Option D) : Option D := match o with
  | some (.bl b) => some (.bl (!b))
  | _ => none
def ninD (x y : D) : Option D := notD (inD x y)
theorem any_py (x : D) : ∀ ys : List D, (pyL ys).any (fun z => PyData.eqv z (py x)) = memV x ys
  | [] => rfl
  | y :: ys => by
    have := any_py x ys
    simp only [pyL, List.any_cons, this, memV, eqV]
theorem or_in0 (hu : X.A.units + 65 < cLine) (op : CmpOp) (n : Bool) (hop : op = if n then .NotIn else .In) : OpR X (compareOp op) (rOf X.K b (if n then ninD else inD)) := by
  intro pins s σ H x y v u Q I rx ry h
  obtain ⟨lk, S, d, e, z, h1, h2, h3, h4, h5, k⟩ := h
  obtain ⟨z0, hz0, hz⟩ : ∃ z0, inD d e = some (.bl z0) ∧ z = .bl (if n then !z0 else z0) := by
    cases n with
    | false =>
      simp only [Bool.false_eq_true, if_false] at h5 ⊢
      have : ∃ z0, z = D.bl z0 := by
        unfold inD at h5
        split at h5
        · split at h5 <;> cases h5; exact ⟨_, rfl⟩
        · split at h5 <;> cases h5; exact ⟨_, rfl⟩
        · split at h5 <;> cases h5; exact ⟨_, rfl⟩
        · cases h5
      obtain ⟨z0, rfl⟩ := this
      exact ⟨z0, h5, rfl⟩
    | true =>
      simp only [if_true] at h5 ⊢
      unfold ninD notD at h5
      split at h5
      · rename_i q; cases h5; exact ⟨_, q, rfl⟩
      · cases h5
  subst hz
  have fin : EP X pins σ Q (.bool (if n then !z0 else z0)) s := ⟨.bl _, H, I, rfl, k _ S H (Gr.refl h2) (.bl _)⟩
  cases e <;> simp only [inD, reduceCtorEq] at hz0
  · rename_i y'
    split at hz0
    · rename_i c
      cases hz0
      rw [h3.str_inv] at rx
      rw [h4.str_inv] at ry
      have e1 : (tx [c]) = (⟨#[c]⟩ : PySem.Str) := rfl
      rw [e1] at rx
      cases n with
      | false => subst hop; exact op_in_sign pins s σ H _ _ v u Q I rx ry ⟨c, _, rfl, rfl, by rw [tx_cps]; exact k _ S H (Gr.refl h2) (.bl _)⟩
      | true => subst hop; exact op_notIn_sign pins s σ H _ _ v u Q I rx ry ⟨c, _, rfl, rfl, by rw [tx_cps]; exact k _ S H (Gr.refl h2) (.bl _)⟩
    · cases hz0
  · rename_i ys
    split at hz0
    · rename_i hk
      cases hz0
      obtain ⟨as, q1⟩ := Dp.reads I (py d) x v (h3.dp h2 hk.1) rx
      obtain ⟨bs, q2⟩ := Dp.reads I (py (.tup ys)) y u (h4.dp (n := 60) h2 (by simpa [okD] using hk.2)) ry
      have l1 := (okL_lay 59 ys hk.2).1
      have sd := okD_shaped hk.1
      have rm : X.A.units + 1 + min (PyData.depthAll (pyL ys)) (py d).depth < cLine := PyProof.Rows.room_in_shaped sd hu
      cases n with
      | false => subst hop; exact SeqAt.in_tuple_reads q2 q1 (by simpa [PyData.canLay0] using l1) (SeqAt.canLay_of_shaped sd) rm (by rw [any_py]; exact fin)
      | true => subst hop; exact SeqAt.notIn_tuple_reads q2 q1 (by simpa [PyData.canLay0] using l1) (SeqAt.canLay_of_shaped sd) rm (by rw [any_py]; exact fin)
    · cases hz0
  · rename_i ys
    split at hz0
    · rename_i hk
      cases hz0
      obtain ⟨as, q1⟩ := Dp.reads I (py d) x v (h3.dp h2 hk.1) rx
      obtain ⟨bs, q2⟩ := Dp.reads I (py (.lst ys)) y u (h4.dp (n := 60) h2 (by simpa [okD] using hk.2)) ry
      have l1 := (okL_lay 59 ys hk.2).1
      have sd := okD_shaped hk.1
      have rm : X.A.units + 1 + min (PyData.depthAll (pyL ys)) (py d).depth < cLine := PyProof.Rows.room_in_shaped sd hu
      cases n with
      | false => subst hop; exact SeqAt.in_list_reads q2 q1 (by simpa [PyData.canLay0] using l1) (SeqAt.canLay_of_shaped sd) rm (by rw [any_py]; exact fin)
      | true => subst hop; exact SeqAt.notIn_list_reads q2 q1 (by simpa [PyData.canLay0] using l1) (SeqAt.canLay_of_shaped sd) rm (by rw [any_py]; exact fin)
    · cases hz0
theorem or_in (hu : X.A.units + 65 < cLine) : OpR X (compareOp .In) (rOf X.K b inD) := or_in0 hu .In false rfl
theorem or_nin (hu : X.A.units + 65 < cLine) : OpR X (compareOp .NotIn) (rOf X.K b ninD) := or_in0 hu .NotIn true rfl

/-! ### subscripts and slices -/
def ixD : D → D → Option D
  | .tup xs, .int i => atI xs i
  | .lst xs, .int i => atI xs i
  | .str x, .int i => if x.length ≤ LIM then (atI x i).map (fun c => .str [c]) else none
  | .scr ns, .int i => (atI ns i).map .int
  | _, _ => none
theorem atI_rp {K : PySem.W.Frag} {S : Hp} {vs : List V} {ds : List D} {i : Int} {d : D} (r : RpL K S vs ds) (h : atI ds i = some d) : ∃ v, atI vs i = some v ∧ Rp K S v d := by
  unfold atI at h ⊢
  rw [r.length]
  cases e : ixN ds.length i with
  | none => rw [e] at h; cases h
  | some j =>
    rw [e] at h
    exact r.get h
theorem or_ix : IxR X (rOf X.K b ixD) := by
  intro va sc pins s σ H x y v u Q I rx ry h hsub
  obtain ⟨lk, S, d, e, z, h1, h2, h3, h4, h5, k⟩ := h
  cases d <;> cases e <;> simp only [ixD, reduceCtorEq] at h5
  · rename_i x' i
    by_cases hl : x'.length ≤ LIM
    · rw [if_pos hl] at h5
      rw [h3.str_inv] at rx
      rw [h4.int_inv] at ry
      cases q : atI x' i with
      | none => rw [q] at h5; cases h5
      | some c =>
        rw [q] at h5
        cases h5
        exact ix_str va sc pins s σ H _ _ v u Q I rx ry ⟨_, i, c, rfl, rfl, by rw [tx_len]; exact lim_ok hl, by rw [tx_cps]; exact q, k _ S H (Gr.refl h2) (.str [c])⟩ hsub
    · rw [if_neg hl] at h5; cases h5
  · rename_i xs i
    obtain ⟨a, vs, rfl, e1, _, r1⟩ := h3.tup_inv h2
    rw [h4.int_inv] at ry
    obtain ⟨w, q1, q2⟩ := atI_rp r1 h5
    exact ix_tup va sc pins s σ H _ _ v u Q I rx ry ⟨a, vs, i, w, rfl, rfl, .inl (.inl e1), q1, k _ S H (Gr.refl h2) q2⟩ hsub
  · rename_i xs i
    obtain ⟨a, vs, rfl, e1, r1⟩ := h3.lst_inv h2
    rw [h4.int_inv] at ry
    obtain ⟨w, q1, q2⟩ := atI_rp r1 h5
    exact ix_list va sc pins s σ H _ _ v u Q I rx ry ⟨a, vs, i, w, rfl, rfl, .inl (.inl e1), q1, k _ S H (Gr.refl h2) q2⟩ hsub
  · rename_i ns i
    obtain ⟨a, rfl, e1⟩ := h3.scr_inv h2
    rw [h4.int_inv] at ry
    cases q : atI ns i with
    | none => rw [q] at h5; cases h5
    | some c =>
      rw [q] at h5
      cases h5
      have q' : atI (ns.map V.int) i = some (.int c) := by
        unfold atI at q ⊢
        rw [List.length_map]
        cases e : ixN ns.length i with
        | none => rw [e] at q; cases q
        | some j =>
          rw [e] at q
          show (ns.map V.int)[j]? = _
          rw [List.getElem?_map, show ns[j]? = some c from q]
          rfl
      exact ix_list va sc pins s σ H _ _ v u Q I rx ry ⟨a, _, i, _, rfl, rfl, e1, q', k _ S H (Gr.refl h2) (.int _)⟩ hsub

/-- xs[lo:hi] -/
def cutL {α : Type} (xs : List α) (lo hi : Option Int) : List α := (xs.drop (HT.sIx xs.length 0 lo)).take (HT.sIx xs.length xs.length hi - HT.sIx xs.length 0 lo)
def slD : D → Option Int → Option Int → Option D
  | .tup xs, lo, hi => some (.tup (cutL xs lo hi))
  | .lst xs, lo, hi => some (.lst (cutL xs lo hi))
  | .str x, lo, hi => if x.length ≤ LIM then some (.str (cutL x lo hi)) else none
  | _, _, _ => none
theorem cut_rp {K : PySem.W.Frag} {S : Hp} {vs : List V} {ds : List D} (lo hi : Option Int) (r : RpL K S vs ds) : RpL K S (cutV vs lo hi) (cutL ds lo hi) := by
  unfold cutV cutL
  rw [r.length]
  exact (r.drop _).take _
theorem cutS_tx (x : Tx) (lo hi : Option Int) : cutS (tx x) lo hi = tx (cutL x lo hi) := by
  unfold cutS cutL tx
  simp [PySem.Str.length]
theorem or_sl : SlR X (rSof X.K b slD) := by
  intro pins s σ H x v vl vu lo hi sl Q I rx hs pl pu h
  obtain ⟨lk, S, d, z, h1, h2, h3, h5, k⟩ := h
  cases d <;> simp only [slD, reduceCtorEq] at h5
  · rename_i x'
    by_cases hl : x'.length ≤ LIM
    · rw [if_pos hl] at h5
      cases h5
      rw [h3.str_inv] at rx
      exact sl_str pins s σ H _ v vl vu lo hi sl Q I rx hs pl pu ⟨_, rfl, by rw [tx_len]; exact lim_ok hl, by rw [cutS_tx]; exact k _ S H (Gr.refl h2) (.str _)⟩
    · rw [if_neg hl] at h5; cases h5
  · rename_i xs
    cases h5
    obtain ⟨a, vs, rfl, e1, e1', r1⟩ := h3.tup_inv h2
    refine sl_tupA pins s σ H _ v vl vu lo hi sl Q I rx hs pl pu ⟨a, vs, rfl, .inl (.inl e1), fun hw => ?_, fun _ p hp => new_tup h2 (cut_rp lo hi r1) k hp⟩
    have : cutV vs lo hi = vs := by
      unfold cutV
      rw [hw.1, hw.2]
      simp
    exact k _ S H (Gr.refl h2) (.tup (e1'.trans (by rw [this])) (cut_rp lo hi r1))
  · rename_i xs
    cases h5
    obtain ⟨a, vs, rfl, e1, r1⟩ := h3.lst_inv h2
    exact sl_list pins s σ H _ v vl vu lo hi sl Q I rx hs pl pu ⟨a, vs, rfl, .inl (.inl e1), fun p hp => new_lst h2 (cut_rp lo hi r1) k hp⟩
end
end Fo
end
-- FoG2.lean
set_option Elab.async false
set_option linter.all false
set_option maxRecDepth 100000
set_option maxHeartbeats 2000000
noncomputable section
namespace Fo
open PySem L2

section
variable {P : Program} {w : World} {H H' : Hp} {h h' : Heap}
/-- several new objects at once -/
theorem laid_many (ok : HOk P w H h) (k : ∀ b u, h.get? b = some u → h'.get? b = some u) (old : ∀ a, a < h.objs.size → H' a = H a) (new : ∀ a o, h.objs.size ≤ a → H' a = some o → ObjOk P w H' h' a o) : HOk P w H' h' := fun a o e => by
  rcases Nat.lt_or_ge a h.objs.size with z | z
  · have e' : H a = some o := (old a z).symm.trans e
    exact (ok a o e').stay (fun b v _ q => k b v q) (fun b q => (old b (ok.lt q)).trans q) fun b xs q => (old b (ok.lt q)).trans q
  · exact new a o z e
theorem un_many {fs ex : List Addr} (ok : HOk P w H h) (k : ∀ b u, h.get? b = some u → h'.get? b = some u) (old : ∀ a, a < h.objs.size → H' a = H a) : Un fs ex H H' h h' where
  keep := fun b o q _ _ _ => k b o q
  slot := fun b o q _ _ _ => ⟨o.slots, k b o q⟩
  free := fun b o q n _ => (old b (Heap.lt_size q)).trans n
  there := fun b o q _ => ⟨o, k b o q⟩
  tups := fun b xs q => (old b (ok.lt q)).trans q
  frzs := fun b o u q => (old b (ok.lt q)).trans q
  tbls := fun b ps q => ⟨#[], by rw [(old b (ok.lt q)).trans q]; simp⟩
end
theorem inv_many {X : Cx} {pins : List (Addr × Obj)} {σ : St} {H H' : Hp} {s s' : Shared} (I : Inv X pins σ H s) (ho : s'.os = s.os) (hg : s'.gens = s.gens) (k : ∀ b u, s.heap.get? b = some u → s'.heap.get? b = some u) (old : ∀ a, a < s.heap.objs.size → H' a = H a) (new : ∀ a o, s.heap.objs.size ≤ a → H' a = some o → ObjOk X.prog X.w H' s'.heap a o) : Inv X pins σ H' s' :=
  I.call' (ch := []) ho (un_many I.hok k old) (laid_many I.hok k old new) (by rw [hg]; exact I.bare) (fun _ z => nomatch z)
/-- a new list, whatever else came -/
theorem inv_lst {X : Cx} {pins : List (Addr × Obj)} {σ : St} {H : Hp} {s s' : Shared} {p : Addr} {vs : List V} {its : List Value} {c : Nat} (I : Inv X pins σ H s) (ho : s'.os = s.os) (hg : s'.gens = s.gens) (k : ∀ b u, s.heap.get? b = some u → s'.heap.get? b = some u) (hp : s.heap.objs.size ≤ p) (hv : Vals vs its) (hl : vs.length ≤ sizeLine)
    (e : s'.heap.get? p = some { cls := .type "list", data := .seq its.toArray c }) : Inv X pins σ (upd H p (.lst vs)) s' :=
  inv_many I ho hg k (fun a ha => upd_ne (Nat.ne_of_lt (Nat.lt_of_lt_of_le ha hp))) fun a o ha q => by
    by_cases z : a = p
    · subst z; rw [upd_same] at q; cases q; exact ⟨hl, its, c, hv, e⟩
    · rw [upd_ne z, I.hok.fresh ha] at q; cases q

section
variable {X : Cx} {b : Bool}
/-! ### len, tuple, list -/
def lenD : List D → Option D
  | [.tup xs] => some (.int xs.length)
  | [.lst xs] => some (.int xs.length)
  | [.scr xs] => some (.int xs.length)
  | [.str x] => if x.length ≤ LIM then some (.int x.length) else none
  | [.dct ks] => some (.int ks.length)
  | _ => none
theorem pair1 {R : V → D → Prop} {xs : List V} {d : D} (h : Paired R xs [d]) : ∃ v, xs = [v] ∧ R v d := by
  cases h with
  | cons r t => cases t; exact ⟨_, rfl, r⟩
theorem pair2 {R : V → D → Prop} {xs : List V} {d e : D} (h : Paired R xs [d, e]) : ∃ v u, xs = [v, u] ∧ R v d ∧ R u e := by
  cases h with
  | cons r t =>
    cases t with
    | cons r2 t => cases t; exact ⟨_, _, rfl, r, r2⟩
theorem cr_len : CallR X (.builtin "len") (rCof X.K b lenD) := by
  intro pins s σ H xs us Q I r h
  obtain ⟨lk, S, ds, z, h1, h2, h3, h4, k⟩ := h
  unfold lenD at h4
  split at h4
  · cases h4
    obtain ⟨v, rfl, rv⟩ := pair1 h3
    obtain ⟨a, vs, rfl, e1, _, r1⟩ := rv.tup_inv h2
    exact call_len_seq pins s σ H _ us Q I r ⟨a, vs, rfl, .inr (.inl (.inl e1)), by rw [r1.length]; exact k _ S H (Gr.refl h2) (.int _)⟩
  · cases h4
    obtain ⟨v, rfl, rv⟩ := pair1 h3
    obtain ⟨a, vs, rfl, e1, r1⟩ := rv.lst_inv h2
    exact call_len_seq pins s σ H _ us Q I r ⟨a, vs, rfl, .inl (.inl (.inl e1)), by rw [r1.length]; exact k _ S H (Gr.refl h2) (.int _)⟩
  · cases h4
    obtain ⟨v, rfl, rv⟩ := pair1 h3
    obtain ⟨a, rfl, e1⟩ := rv.scr_inv h2
    exact call_len_seq pins s σ H _ us Q I r ⟨a, _, rfl, .inl e1, by rw [List.length_map]; exact k _ S H (Gr.refl h2) (.int _)⟩
  · rename_i x
    split at h4
    · rename_i hl
      cases h4
      obtain ⟨v, rfl, rv⟩ := pair1 h3
      rw [rv.str_inv] at r
      exact call_len_str pins s σ H _ us Q I r ⟨tx x, rfl, by rw [tx_len]; exact lim_ok hl, by rw [tx_len]; exact k _ S H (Gr.refl h2) (.int _)⟩
    · cases h4
  · cases h4
    obtain ⟨v, rfl, rv⟩ := pair1 h3
    obtain ⟨a, kvs, rfl, e1, _, r1⟩ := rv.dct_inv h2
    obtain ⟨u, rfl, ru⟩ := vals1 r
    cases ru
    exact d_len I e1 fun t s' I' => ⟨.int kvs.length, H, I', ⟨t, rfl⟩, by rw [r1.length]; exact k _ S H (Gr.refl h2) (.int _)⟩
  · cases h4
def tupleD : List D → Option D
  | [.lst xs] => some (.tup xs)
  | [.tup xs] => some (.tup xs)
  | _ => none
theorem cr_tuple : CallR X (.type "tuple") (rCof X.K b tupleD) := by
  intro pins s σ H xs us Q I r h
  obtain ⟨lk, S, ds, z, h1, h2, h3, h4, k⟩ := h
  unfold tupleD at h4
  split at h4
  · cases h4
    obtain ⟨v, rfl, rv⟩ := pair1 h3
    obtain ⟨a, vs, rfl, e1, r1⟩ := rv.lst_inv h2
    exact call_tuple_of pins s σ H _ us Q I r ⟨a, vs, rfl, .inl ⟨.inl (.inl e1), fun l hl => new_tup h2 r1 k hl⟩⟩
  · cases h4
    obtain ⟨v, rfl, rv⟩ := pair1 h3
    obtain ⟨a, vs, rfl, e1, e1', r1⟩ := rv.tup_inv h2
    exact call_tuple_of pins s σ H _ us Q I r ⟨a, vs, rfl, .inr ⟨.inl (.inl e1), k _ S H (Gr.refl h2) (.tup e1' r1)⟩⟩
  · cases h4
def listD : List D → Option D
  | [.lst xs] => some (.lst xs)
  | [.tup xs] => some (.lst xs)
  | _ => none
theorem cr_list : CallR X (.type "list") (rCof X.K b listD) := by
  intro pins s σ H xs us Q I r h
  obtain ⟨lk, S, ds, z, h1, h2, h3, h4, k⟩ := h
  unfold listD at h4
  split at h4
  · cases h4
    obtain ⟨v, rfl, rv⟩ := pair1 h3
    obtain ⟨a, vs, rfl, e1, r1⟩ := rv.lst_inv h2
    exact call_list_of pins s σ H _ us Q I r ⟨a, vs, rfl, .inl (.inl (.inl e1)), fun l hl => new_lst h2 r1 k hl⟩
  · cases h4
    obtain ⟨v, rfl, rv⟩ := pair1 h3
    obtain ⟨a, vs, rfl, e1, _, r1⟩ := rv.tup_inv h2
    exact call_list_of pins s σ H _ us Q I r ⟨a, vs, rfl, .inr (.inl (.inl e1)), fun l hl => new_lst h2 r1 k hl⟩
  · cases h4

/-! ### join -/
def strsOf : List D → Option (List Tx)
  | [] => some []
  | .str x :: ds => (strsOf ds).map (x :: ·)
  | _ :: _ => none
theorem strsOf_some : ∀ {ds : List D} {xs : List Tx}, strsOf ds = some xs → ds = xs.map .str
  | [], xs, h => by cases h; rfl
  | d :: ds, xs, h => by
    cases d <;> simp only [strsOf, reduceCtorEq] at h
    cases e : strsOf ds with
    | none => rw [e] at h; cases h
    | some ys =>
      rw [e] at h
      cases h
      rw [strsOf_some e]; rfl
theorem strsOf_map : ∀ xs : List Tx, strsOf (xs.map .str) = some xs
  | [] => rfl
  | x :: xs => by simp [strsOf, strsOf_map xs]
def intsOf : List D → Option (List Int)
  | [] => some []
  | .int x :: ds => (intsOf ds).map (x :: ·)
  | _ :: _ => none
theorem intsOf_some : ∀ {ds : List D} {xs : List Int}, intsOf ds = some xs → ds = xs.map .int
  | [], xs, h => by cases h; rfl
  | d :: ds, xs, h => by
    cases d <;> simp only [intsOf, reduceCtorEq] at h
    cases e : intsOf ds with
    | none => rw [e] at h; cases h
    | some ys =>
      rw [e] at h
      cases h
      rw [intsOf_some e]; rfl
theorem intsOf_map : ∀ xs : List Int, intsOf (xs.map .int) = some xs
  | [] => rfl
  | x :: xs => by simp [intsOf, intsOf_map xs]
theorem rpl_str {K : PySem.W.Frag} {S : Hp} : ∀ {xs : List Tx} {vs : List V}, RpL K S vs (xs.map .str) → vs = (xs.map tx).map V.str
  | [], _, h => by cases h; rfl
  | x :: xs, _, h => by
    cases h with
    | cons h1 h2 => cases h1; rw [rpl_str h2]; rfl
theorem rpl_int {K : PySem.W.Frag} {S : Hp} : ∀ {xs : List Int} {vs : List V}, RpL K S vs (xs.map .int) → vs = xs.map V.int
  | [], _, h => by cases h; rfl
  | x :: xs, _, h => by
    cases h with
    | cons h1 h2 => cases h1; rw [rpl_int h2]; rfl
theorem rpl_str' {K : PySem.W.Frag} {S : Hp} : ∀ xs : List Tx, RpL K S ((xs.map tx).map V.str) (xs.map .str)
  | [] => .nil
  | x :: xs => .cons (.str x) (rpl_str' xs)
def joinT (sep : Tx) (xs : List Tx) : Tx := TL.joinL sep xs
def joinOk (sep : Tx) (xs : List Tx) : Bool := decide ((xs.map (·.length)).sum + xs.length * sep.length ≤ LIM)
def joinD : D → List D → Option D
  | .str a, [.lst ds] => (match strsOf ds with
    | some xs => if joinOk a xs = true then some (.str (joinT a xs)) else none
    | none => none)
  | .str a, [.tup ds] => (match strsOf ds with
    | some xs => if joinOk a xs = true then some (.str (joinT a xs)) else none
    | none => none)
  | _, _ => none
theorem join_tx (a : Tx) (xs : List Tx) : Txt.join (tx a) (xs.map tx) = tx (joinT a xs) := by
  rw [TL.join_eq]
  refine TL.ext_tl ?_
  rw [TL.tl_join]
  unfold joinT
  have e1 : TL.tl (tx a) = a := tx_cps a
  have e2 : (xs.map tx).map TL.tl = xs := by rw [List.map_map]; exact (List.map_congr_left fun x _ => tx_cps x).trans (List.map_id' xs)
  rw [e1, e2]
  exact (tx_cps _).symm
theorem join_len (xs : List Tx) : ((xs.map tx).map (·.length)).sum = (xs.map (·.length)).sum := by
  rw [List.map_map]
  exact congrArg List.sum (List.map_congr_left fun x _ => tx_len x)
theorem mt_joinD : MtR X "str.join" (rMof X.K b joinD) := by
  intro pins s σ H x xs v us Q I rx rs h
  obtain ⟨lk, S, d, ds, z, h1, h2, h3, h4, h5, k⟩ := h
  unfold joinD at h5
  split at h5
  · split at h5
    · rename_i ys e
      split at h5
      · rename_i ho
        cases h5
        obtain ⟨u, rfl, ru⟩ := pair1 h4
        obtain ⟨a, vs, rfl, e1, r1⟩ := ru.lst_inv h2
        rw [h3.str_inv] at rx
        rw [strsOf_some e] at r1
        have ho' := of_decide_eq_true ho
        rw [LIM_eq] at ho'
        have q := rpl_str r1
        exact mt_join pins s σ H _ _ v us Q I rx rs ⟨_, a, ys.map tx, rfl, rfl, .inl (.inl (.inl (by rw [e1, q]))), by rw [join_len, List.length_map, tx_len]; exact ho', by rw [join_tx]; exact k _ S H (Gr.refl h2) (.str _)⟩
      · cases h5
    · cases h5
  · split at h5
    · rename_i ys e
      split at h5
      · rename_i ho
        cases h5
        obtain ⟨u, rfl, ru⟩ := pair1 h4
        obtain ⟨a, vs, rfl, e1, _, r1⟩ := ru.tup_inv h2
        rw [h3.str_inv] at rx
        rw [strsOf_some e] at r1
        have ho' := of_decide_eq_true ho
        rw [LIM_eq] at ho'
        have q := rpl_str r1
        exact mt_join pins s σ H _ _ v us Q I rx rs ⟨_, a, ys.map tx, rfl, rfl, .inr (.inl (.inl (by rw [e1, q]))), by rw [join_len, List.length_map, tx_len]; exact ho', by rw [join_tx]; exact k _ S H (Gr.refl h2) (.str _)⟩
      · cases h5
    · cases h5
  · cases h5
theorem je_join {o e : Expr} {apos cpos : Pos} {f : Env → Option D} {fs : Env → Option (List D)} (ho : JW X b o f) (ha : JAW X b [e] fs)
    (hbase : attributeBase o "join" X.env (eval o X.env) = eval o X.env := by rfl)
    (hfew : ((backTo cpos (starEach [e] X.env)).all (fun x => !x.1) && (backToKw cpos (keywordEach [] X.env)).all (fun x => x.1.isSome)
      && decide (([e] : List Expr).length + ([] : List Keyword).length + (if ([] : List Keyword).isEmpty then 0 else 1) < 30)) = true := by rfl)
    (hline : (apos.endLine == cpos.line) = true := by rfl) (hs : starEach [e] X.env = (false, eval e X.env) :: starEach [] X.env := by rfl) (hplain : (backTo cpos (starEach ([] : List Expr) X.env)).any (·.1) = false := by rfl) :
    JE X b (.Call (.Attribute o "join" apos) [e] [] cpos) (methE "str" joinD f fs) :=
  je_bm PySem.F.plainAttrs_str PySem.F.slot_str_join PySem.F.type_str_join mt_joinD ho ha hbase hfew hline hs hplain
end
end Fo
end
-- FoG3.lean
set_option Elab.async false
set_option linter.all false
set_option maxRecDepth 100000
set_option maxHeartbeats 2000000
noncomputable section
namespace Fo
open PySem L2
open PySem.W (dataLe dataLt alike alikeAll AllAlike Sortable)

theorem PE_or {X : Cx} {e : Expr} {t1 t2 : TE} (h1 : PE X e t1) (h2 : PE X e t2) : PE X e (fun σ H Q => t1 σ H Q ∨ t2 σ H Q) := ⟨fun pins s σ H Q I q => q.elim (h1.run pins s σ H Q I) (h2.run pins s σ H Q I)⟩

/-! ### sets of ints, of texts -/
def SKO (w : World) (a : Addr) (ks : List Key) : HO := .ext fun h => Se.SR w h a ks
theorem keyed_vals {ks : List Key} : ∀ {us : List Value}, Vals (ks.map kV) us → Se.Keyed us ks := by
  induction ks with
  | nil => intro us h; cases h; exact .nil
  | cons k ks ih =>
    intro us h
    cases h with
    | cons r t =>
      refine .cons ?_ (ih t)
      cases k with
      | inl i => obtain ⟨t, rfl⟩ := r; exact keyIs_int i t
      | inr x => obtain ⟨t, rfl⟩ := r; exact keyIs_str x t
theorem vals_keyed {us : List Value} {ks : List Key} (h : Se.Keyed us ks) : Vals (ks.map kV) us := by
  induction h with
  | nil => exact .nil
  | cons r t ih =>
    refine .cons ?_ ih
    rcases keyIs_shape r with ⟨i, t, rfl, rfl⟩ | ⟨x, t, rfl, rfl⟩
    · exact ⟨t, rfl⟩
    · exact ⟨t, rfl⟩
def rSetK (K : PySem.W.Frag) (w : World) : List V → Hp → VK → Prop := fun xs H Q => ∃ (l : Addr) (ks : List Key), xs = [V.ref l] ∧ (SqL K H l (ks.map kV) ∨ SqT K H l (ks.map kV)) ∧ ks.length + 1 < scanBound ∧ ∀ p, H p = none → Q (.ref p) (upd H p (SKO w p ks))
def rSortK (w : World) : List V → Hp → VK → Prop := fun xs H Q => ∃ (a : Addr) (ks : List Key), xs = [V.ref a] ∧ H a = some (SKO w a ks) ∧ Se.oneKind ks ∧ ks.length ≤ LIM ∧
  ∀ (p : Addr) (bs : List Key), H p = none → bs.Nodup → (∀ k, k ∈ bs ↔ k ∈ ks) → Q (.ref p) (upd H p (.lst ((bs.mergeSort (dataLe false Se.kpy)).map kV)))
section
variable {X : Cx} {b : Bool}
theorem cr_setK (hc : X.calm = true) : CallR X (.type "set") (rSetK X.K X.w) := by
  intro pins s σ H xs us Q I r h
  obtain ⟨l, ks, rfl, hl, hb, q⟩ := h
  rw [Vals.ref1 r]
  have hn : H s.heap.objs.size = none := I.hok.fresh (Nat.le_refl _)
  have fin : ∀ (h' : Heap) (tk : Nat), Se.SR X.w h' s.heap.objs.size ks → (∀ b o, s.heap.get? b = some o → h'.get? b = some o) → EP X pins σ Q (.ref s.heap.objs.size) { s with heap := h', toks := tk } := fun h' tk R k => by
    refine ⟨.ref s.heap.objs.size, _, I.laid (t' := tk) k (Nat.le_refl _) (o := SKO X.w s.heap.objs.size ks) ?_, rfl, q _ hn⟩
    refine ⟨R, ?_, fun h1 h2 a1 k1 => a1.keep k1⟩
    obtain ⟨o, _, _, _, e, _⟩ := R
    exact ⟨o, e⟩
  rcases hl with hl | hl
  · obtain ⟨its, rv, ⟨⟨cls, dd, data, sl⟩, n, e, c1, c2, c3⟩, _⟩ := I.list hl
    simp only at c1 c3
    subst c1 c3
    exact Se.set_of (T := "list") (I.ok.hd hc) (.inl rfl) e (by simpa using keyed_vals rv) hb fin
  · obtain ⟨its, rv, ⟨⟨cls, dd, data, sl⟩, e, c1, n, c3⟩, _⟩ := I.tuple hl
    simp only at c1 c3
    subst c1 c3
    exact Se.set_of (T := "tuple") (I.ok.hd hc) (.inr rfl) e (by simpa using keyed_vals rv) hb fin
theorem cr_sortedK (hc : X.calm = true) (hu : X.A.units + 64 < cLine) : CallR X (.builtin "sorted") (rSortK X.w) := by
  intro pins s σ H xs us Q I r h
  obtain ⟨a, ks, rfl, ha, ok, hlim, q⟩ := h
  rw [Vals.ref1 r]
  have R : Se.SR X.w s.heap a ks := (I.hok a _ ha).1
  refine Se.sorted_keys R (I.ok.hd hc) ok (by omega) fun s' p out c bs k g o hp e kd nd mem hl => ?_
  have hlen : (bs.mergeSort (dataLe false Se.kpy)).length = bs.length := by simp
  have J := inv_lst I o g k hp (vals_keyed kd) (by rw [List.length_map, hlen]; exact lim_ok (Nat.le_trans hl hlim)) e
  exact ⟨.ref p, _, J, rfl, q p bs (I.hok.fresh hp) nd mem⟩
end
theorem le_str (x y : Tx) : dataLe false Se.kpy (.inr (tx x)) (.inr (tx y)) = leOf ltT x y := by
  rw [PySem.W.dataLe_eq]
  show (!dataLt (.str (tx y)) (.str (tx x))) = _
  rw [PySem.W.dataLt_str, tx_cps, tx_cps, ← ltT_lt]
  rfl
theorem le_int (x y : Int) : dataLe false Se.kpy (.inl x) (.inl y) = leOf ltI x y := by
  rw [PySem.W.dataLe_eq]
  show (!dataLt (.int y) (.int x)) = _
  rw [PySem.W.dataLt_int]
  rfl
theorem keys_str {bs : List Key} {xs : List Tx} (nd : bs.Nodup) (mem : ∀ k, k ∈ bs ↔ k ∈ xs.map fun x => Sum.inr (tx x)) : bs.mergeSort (dataLe false Se.kpy) = (usort ltT xs).map fun x => Sum.inr (tx x) := by
  obtain ⟨ys, rfl⟩ : ∃ ys : List Tx, bs = ys.map fun x => Sum.inr (tx x) := by
    refine ⟨bs.map fun k => match k with | .inr x => x.cps.toList | .inl _ => [], ?_⟩
    rw [List.map_map]
    refine (List.map_id' bs).symm.trans (List.map_congr_left fun k hk => ?_)
    obtain ⟨x, _, rfl⟩ := List.mem_map.mp ((mem k).mp hk)
    show (Sum.inr (tx x) : Key) = Sum.inr (tx (tx x).cps.toList)
    rw [tx_cps]
  have inj : ∀ x y : Tx, (Sum.inr (tx x) : Key) = Sum.inr (tx y) → x = y := fun x y e => tx_inj (Sum.inr.inj e)
  rw [← List.map_mergeSort (r := leOf ltT) fun x _ y _ => (le_str x y).symm]
  have nd' : ys.Nodup := List.Pairwise.of_map _ (fun x y q e => q (by rw [e])) nd
  rw [sort_nodup stoT nd']
  refine congrArg _ (rising_unique stoT (rising_usort stoT _) (rising_usort stoT _) fun z => ?_)
  rw [mem_usort stoT, mem_usort stoT]
  have := mem (Sum.inr (tx z))
  simp only [List.mem_map] at this
  constructor
  · intro hz
    obtain ⟨x, hx, e⟩ := this.mp ⟨z, hz, rfl⟩
    exact inj _ _ e ▸ hx
  · intro hz
    obtain ⟨x, hx, e⟩ := this.mpr ⟨z, hz, rfl⟩
    exact inj _ _ e ▸ hx
theorem keys_int {bs : List Key} {xs : List Int} (nd : bs.Nodup) (mem : ∀ k, k ∈ bs ↔ k ∈ xs.map fun x => Sum.inl x) : bs.mergeSort (dataLe false Se.kpy) = (usort ltI xs).map fun x => Sum.inl x := by
  obtain ⟨ys, rfl⟩ : ∃ ys : List Int, bs = ys.map fun x => Sum.inl x := by
    refine ⟨bs.map fun k => match k with | .inl x => x | .inr _ => 0, ?_⟩
    rw [List.map_map]
    refine (List.map_id' bs).symm.trans (List.map_congr_left fun k hk => ?_)
    obtain ⟨x, _, rfl⟩ := List.mem_map.mp ((mem k).mp hk)
    rfl
  have inj : ∀ x y : Int, (Sum.inl x : Key) = Sum.inl y → x = y := fun x y e => Sum.inl.inj e
  rw [← List.map_mergeSort (r := leOf ltI) fun x _ y _ => (le_int x y).symm]
  have nd' : ys.Nodup := List.Pairwise.of_map _ (fun x y q e => q (by rw [e])) nd
  rw [sort_nodup stoI nd']
  refine congrArg _ (rising_unique stoI (rising_usort stoI _) (rising_usort stoI _) fun z => ?_)
  rw [mem_usort stoI, mem_usort stoI]
  have := mem (Sum.inl z)
  simp only [List.mem_map] at this
  constructor
  · intro hz
    obtain ⟨x, hx, e⟩ := this.mp ⟨z, hz, rfl⟩
    exact inj _ _ e ▸ hx
  · intro hz
    obtain ⟨x, hx, e⟩ := this.mpr ⟨z, hz, rfl⟩
    exact inj _ _ e ▸ hx

/-! ### pairs of small ints -/
def pairsOf : List D → Option (List (Int × Int))
  | [] => some []
  | .tup [.int a, .int c] :: ds => if 0 ≤ a ∧ a < 64 ∧ 0 ≤ c ∧ c < 64 then (pairsOf ds).map ((a, c) :: ·) else none
  | _ :: _ => none
def eP (p : Int × Int) : D := .tup [.int p.1, .int p.2]
theorem pairsOf_some : ∀ {ds : List D} {xs : List (Int × Int)}, pairsOf ds = some xs → ds = xs.map eP ∧ ∀ p ∈ xs, 0 ≤ p.1 ∧ p.1 < 64 ∧ 0 ≤ p.2 ∧ p.2 < 64
  | [], xs, h => by cases h; exact ⟨rfl, fun p hp => by simp at hp⟩
  | d :: ds, xs, h => by
    unfold pairsOf at h
    split at h
    · rename_i q; cases q
    · rename_i a c ds' q
      cases q
      by_cases hr : 0 ≤ a ∧ a < 64 ∧ 0 ≤ c ∧ c < 64
      · rw [if_pos hr] at h
        cases e : pairsOf ds with
        | none => rw [e] at h; cases h
        | some ys =>
          rw [e] at h
          cases h
          obtain ⟨h1, h2⟩ := pairsOf_some e
          refine ⟨by rw [h1]; rfl, fun p hp => ?_⟩
          rcases List.mem_cons.mp hp with z | z
          · subst z; exact hr
          · exact h2 p z
      · rw [if_neg hr] at h; cases h
    · cases h
theorem pairsOf_map : ∀ xs : List (Int × Int), (∀ p ∈ xs, 0 ≤ p.1 ∧ p.1 < 64 ∧ 0 ≤ p.2 ∧ p.2 < 64) → pairsOf (xs.map eP) = some xs
  | [], _ => rfl
  | (a, c) :: xs, h => by
    have h1 := h (a, c) (by simp)
    show (if 0 ≤ a ∧ a < 64 ∧ 0 ≤ c ∧ c < 64 then (pairsOf (xs.map eP)).map ((a, c) :: ·) else none) = _
    rw [if_pos h1, pairsOf_map xs fun p hp => h p (by simp [hp])]
    rfl
/-- the addresses of the pairs -/
theorem pairs_at {K : PySem.W.Frag} {lk : Option Addr} {S H : Hp} (s : Sub lk S H) : ∀ {xs : List (Int × Int)} {vs : List V}, RpL K S vs (xs.map eP) → ∃ ks : List (Addr × List Int), vs = ks.map (fun p => V.ref p.1) ∧ (∀ p ∈ ks, S p.1 = some (.tup (p.2.map V.int)) ∧ H p.1 = some (.tup (p.2.map V.int))) ∧ ks.map (·.2) = xs.map fun p => [p.1, p.2]
  | [], _, h => by cases h; exact ⟨[], rfl, fun p hp => by simp at hp, rfl⟩
  | (a, c) :: xs, _, h => by
    cases h with
    | cons h1 h2 =>
      obtain ⟨ks, rfl, q2, q3⟩ := pairs_at s h2
      obtain ⟨ad, ws, rfl, e1, e2, rr⟩ := (RpW.sh (H := H) h1).tup_inv s
      have hw : ws = [V.int a, V.int c] := by
        cases rr with
        | cons r1 rr =>
          cases rr with
          | cons r2 rr => cases rr; cases r1; cases r2; rfl
      subst hw
      refine ⟨(ad, [a, c]) :: ks, rfl, fun p hp => ?_, by simp [q3]⟩
      rcases List.mem_cons.mp hp with z | z
      · subst z; exact ⟨e2, e1⟩
      · exact q2 p z

/-! ### sorted(set(e)) -/
def ssetD : D → Option D
  | .lst ds => (match strsOf ds with
    | some xs => if xs.length < 4000 then some (.lst ((usort ltT xs).map .str)) else none
    | none => match intsOf ds with
      | some xs => if xs.length < 4000 then some (.lst ((usort ltI xs).map .int)) else none
      | none => match pairsOf ds with
        | some xs => if xs.length < 64 then some (.lst ((usort ltP xs).map eP)) else none
        | none => none)
  | .tup ds => (match strsOf ds with
    | some xs => if xs.length < 4000 then some (.lst ((usort ltT xs).map .str)) else none
    | none => match intsOf ds with
      | some xs => if xs.length < 4000 then some (.lst ((usort ltI xs).map .int)) else none
      | none => none)
  | _ => none
def mapE (g : D → Option D) (f : Env → Option D) : Env → Option D := fun ρ => match f ρ with
  | none => none
  | some d => g d
theorem usort_len {α : Type} {lt : α → α → Bool} (h : STO lt) (xs : List α) : (usort lt xs).length ≤ xs.length := by
  induction xs with
  | nil => exact Nat.le_refl _
  | cons x xs ih =>
    have one : ∀ ys : List α, (ins lt x ys).length ≤ ys.length + 1 := by
      intro ys
      induction ys with
      | nil => simp [ins]
      | cons y ys ih =>
        unfold ins
        split
        · simp
        · split
          · simp; omega
          · simp
    show (ins lt x (usort lt xs)).length ≤ xs.length + 1
    have := one (usort lt xs)
    omega
section
variable {X : Cx} {b : Bool}
theorem keys_rp {K : PySem.W.Frag} {S : Hp} : ∀ xs : List Tx, RpL K S ((xs.map fun x => (Sum.inr (tx x) : Key)).map kV) (xs.map .str)
  | [] => .nil
  | x :: xs => .cons (.str x) (keys_rp xs)
theorem keys_rpi {K : PySem.W.Frag} {S : Hp} : ∀ xs : List Int, RpL K S ((xs.map fun x => (Sum.inl x : Key)).map kV) (xs.map .int)
  | [] => .nil
  | x :: xs => .cons (.int x) (keys_rpi xs)
theorem pairs_rp {K : PySem.W.Frag} {S : Hp} : ∀ {L : List (Addr × List Int)} {xs : List (Int × Int)}, (∀ p ∈ L, S p.1 = some (.tup (p.2.map V.int))) → L.map (·.2) = xs.map (fun p => [p.1, p.2]) → RpL K S (L.map fun q => V.ref q.1) (xs.map eP)
  | [], [], _, _ => .nil
  | [], _ :: _, _, h => by simp at h
  | _ :: _, [], _, h => by simp at h
  | (a, n) :: L, (x, y) :: xs, hs, h => by
    simp only [List.map_cons, List.cons.injEq] at h
    obtain ⟨h1, h2⟩ := h
    subst h1
    exact .cons (.tup (hs (a, [x, y]) (by simp)) (.cons (.int _) (.cons (.int _) .nil))) (pairs_rp (fun p hp => hs p (by simp [hp])) h2)
theorem je_sset {e : Expr} {f : Env → Option D} {p1 p2 pos pos2 : Pos} (hc : X.calm = true) (hu : X.A.units + 64 < cLine) (hg : Gl X "sorted") (hm : X.mg "sorted" = none) (hg2 : Gl X "set") (hm2 : X.mg "set" = none) (h : JW X b e f)
    (he : starEach [e] X.env = (false, eval e X.env) :: starEach [] X.env := by rfl) (hpl : (backTo pos2 (starEach ([] : List Expr) X.env)).any (·.1) = false := by rfl)
    (he2 : starEach [.Call (.Name "set" p2) [e] [] pos2] X.env = (false, eval (.Call (.Name "set" p2) [e] [] pos2) X.env) :: starEach [] X.env := by rfl) (hpl2 : (backTo pos (starEach ([] : List Expr) X.env)).any (·.1) = false := by rfl) :
    JE X b (.Call (.Name "sorted" p1) [.Call (.Name "set" p2) [e] [] pos2] [] pos) (mapE ssetD f) :=
  ⟨PE_imp (PE_or (pe_callB (cr_sortedK hc hu) hg hm (by decide +kernel) (pa_cons (pe_callTy (cr_setK hc) hg2 hm2 (by decide +kernel) (pa_cons h.pe pa_nil he) (by decide) (by decide) he hpl) pa_nil he2) (by decide) (by decide) he2 hpl2)
      (pe_callB (cr_sortedT hc) hg hm (by decide +kernel) (pa_cons (pe_callTy (cr_setOfT hc hu) hg2 hm2 (by decide +kernel) (pa_cons h.pe pa_nil he) (by decide) (by decide) he hpl) pa_nil he2) (by decide) (by decide) he2 hpl2))
    fun σ H Q ⟨lk, B, S, ρ, d, h1, h2, h3, h4, k⟩ => by
  -- texts and ints
  have goK : ∀ (d0 : D) (ks : List Key) (out : List D), f ρ = some d0 → ks.length < 4000 → Se.oneKind ks → (∀ v S1 H1, Gr lk S H S1 H1 → RpW X.K S1 H1 v d0 → ∃ l, v = .ref l ∧ (SqL X.K H1 l (ks.map kV) ∨ SqT X.K H1 l (ks.map kV))) →
      d = .lst out → (∀ (S' : Hp) (bs : List Key), bs.Nodup → (∀ k, k ∈ bs ↔ k ∈ ks) → RpL X.K S' ((bs.mergeSort (dataLe false Se.kpy)).map kV) out) →
      tCB (rSortK X.w) (tCons (tCB (rSetK X.K X.w) (tCons (rdW X.K b f) tNil)) tNil) σ H Q := by
    intro d0 ks out ef hl ok hv ed hr
    subst ed
    refine ⟨lk, B, S, ρ, d0, h1, h2, h3, ef, fun v S1 H1 g1 r1 => ?_⟩
    obtain ⟨l, rfl, hq⟩ := hv v S1 H1 g1 r1
    refine ⟨l, ks, rfl, hq, by unfold scanBound; omega, fun p hp => ⟨p, ks, rfl, upd_same, ok, by rw [LIM_eq]; omega, fun q bs hq2 nd mem => ?_⟩⟩
    have g2 := Gr.own (o := SKO X.w p ks) g1.1 hp
    exact new_lst g2.1 (hr _ bs nd mem) (fun v S' H' g r => k v S' H' (g1.trans (g2.trans g)) r) hq2
  have txt : ∀ (xs : List Tx), xs.length < 4000 → ∀ d0, f ρ = some d0 → (d0 = .lst (xs.map .str) ∨ d0 = .tup (xs.map .str)) → d = .lst ((usort ltT xs).map .str) → _ := fun xs hl d0 ef hd ed =>
    goK d0 (xs.map fun x => Sum.inr (tx x)) _ ef (by simpa using hl) (.inr fun k hk => by obtain ⟨x, _, rfl⟩ := List.mem_map.mp hk; rfl) (fun v S1 H1 g1 r1 => by
      have e : (xs.map fun x => (Sum.inr (tx x) : Key)).map kV = (xs.map tx).map V.str := by rw [List.map_map, List.map_map]; rfl
      rw [e]
      rcases hd with rfl | rfl
      · obtain ⟨a, vs, rfl, e1, rr⟩ := r1.lst_inv g1.1
        exact ⟨a, rfl, .inl (.inl (.inl (by rw [e1, rpl_str rr])))⟩
      · obtain ⟨a, vs, rfl, e1, _, rr⟩ := r1.tup_inv g1.1
        exact ⟨a, rfl, .inr (.inl (.inl (by rw [e1, rpl_str rr])))⟩) ed (fun S' bs nd mem => by rw [keys_str nd mem]; exact keys_rp _)
  have num : ∀ (xs : List Int), xs.length < 4000 → ∀ d0, f ρ = some d0 → (d0 = .lst (xs.map .int) ∨ d0 = .tup (xs.map .int)) → d = .lst ((usort ltI xs).map .int) → _ := fun xs hl d0 ef hd ed =>
    goK d0 (xs.map fun x => Sum.inl x) _ ef (by simpa using hl) (.inl fun k hk => by obtain ⟨x, _, rfl⟩ := List.mem_map.mp hk; rfl) (fun v S1 H1 g1 r1 => by
      have e : (xs.map fun x => (Sum.inl x : Key)).map kV = xs.map V.int := by rw [List.map_map]; rfl
      rw [e]
      rcases hd with rfl | rfl
      · obtain ⟨a, vs, rfl, e1, rr⟩ := r1.lst_inv g1.1
        exact ⟨a, rfl, .inl (.inl (.inl (by rw [e1, rpl_int rr])))⟩
      · obtain ⟨a, vs, rfl, e1, _, rr⟩ := r1.tup_inv g1.1
        exact ⟨a, rfl, .inr (.inl (.inl (by rw [e1, rpl_int rr])))⟩) ed (fun S' bs nd mem => by rw [keys_int nd mem]; exact keys_rpi _)
  unfold mapE at h4
  split at h4
  · cases h4
  rename_i d0 ef
  unfold ssetD at h4
  split at h4
  · rename_i ds
    split at h4
    · rename_i xs e1
      by_cases hl : xs.length < 4000
      · rw [if_pos hl] at h4
        have := strsOf_some e1
        subst this
        exact .inl (txt xs hl _ ef (.inl rfl) (Option.some.inj h4).symm)
      · rw [if_neg hl] at h4; cases h4
    split at h4
    · rename_i xs e1
      by_cases hl : xs.length < 4000
      · rw [if_pos hl] at h4
        have := intsOf_some e1
        subst this
        exact .inl (num xs hl _ ef (.inl rfl) (Option.some.inj h4).symm)
      · rw [if_neg hl] at h4; cases h4
    split at h4
    · rename_i xs e1
      by_cases hl : xs.length < 64
      · rw [if_pos hl] at h4
        obtain ⟨q1, q2⟩ := pairsOf_some e1
        subst q1
        have ed := (Option.some.inj h4).symm
        subst ed
        refine .inr ⟨lk, B, S, ρ, _, h1, h2, h3, ef, fun v S1 H1 g1 r1 => ?_⟩
        obtain ⟨a, vs, rfl, ea, rr⟩ := r1.lst_inv g1.1
        obtain ⟨ks, rfl, ka, ke⟩ := pairs_at g1.1 rr
        have klen : ks.length = xs.length := by have := congrArg List.length ke; simpa using this
        refine ⟨a, ks, rfl, .inl (.inl ea), fun p hp => .inl (.inl (ka p hp).2), by omega, fun t L ht hL1 hL2 => ?_⟩
        have g2 := Gr.own (o := SetTO X.prog X.w t L) g1.1 ht
        have inb : ∀ p ∈ L, ∃ x ∈ xs, p.2 = [x.1, x.2] := fun p hp => by
          have : p.2 ∈ ks.map (·.2) := List.mem_map.mpr ⟨p, hL1 p hp, rfl⟩
          rw [ke] at this
          obtain ⟨x, hx, e⟩ := List.mem_map.mp this
          exact ⟨x, hx, e.symm⟩
        have hLH : ∀ p ∈ L, (upd H1 t (SetTO X.prog X.w t L)) p.1 = some (.tup (p.2.map V.int)) := fun p hp => g2.hext _ _ (ka p (hL1 p hp)).2
        refine ⟨t, L, 2, 64, rfl, upd_same, fun p hp => .inl (.inl (hLH p hp)), by decide, fun p hp => ?_, fun L' p pm nd hl' pw hp => ?_⟩
        · obtain ⟨x, hx, e⟩ := inb p hp
          rw [e]
          obtain ⟨b1, b2, b3, b4⟩ := q2 x hx
          refine ⟨rfl, fun z hz => ?_⟩
          simp only [List.mem_cons, List.not_mem_nil, or_false] at hz
          rcases hz with z' | z' <;> subst z' <;> omega
        · have inb' : ∀ q ∈ L', ∃ x ∈ xs, q.2 = [x.1, x.2] := fun q hq => inb q (pm.mem_iff.mp hq)
          -- the pairs in their order
          obtain ⟨ys, hys⟩ : ∃ ys : List (Int × Int), L'.map (·.2) = ys.map fun p => [p.1, p.2] := by
            refine ⟨L'.map fun q => (q.2.getD 0 0, q.2.getD 1 0), ?_⟩
            rw [List.map_map]
            refine List.map_congr_left fun q hq => ?_
            obtain ⟨x, _, e⟩ := inb' q hq
            simp [e]
          have ynd : ys.Nodup := by
            rw [hys] at nd
            exact List.Pairwise.of_map _ (fun x y q e => q (by rw [e])) nd
          have yb : ∀ y ∈ ys, y ∈ xs := fun y hy => by
            have : [y.1, y.2] ∈ L'.map (·.2) := by rw [hys]; exact List.mem_map.mpr ⟨y, hy, rfl⟩
            obtain ⟨q, hq, e⟩ := List.mem_map.mp this
            obtain ⟨x, hx, e'⟩ := inb' q hq
            rw [e'] at e
            simp only [List.cons.injEq, and_true] at e
            have : x = y := Prod.ext e.1 e.2
            exact this ▸ hx
          have ypw : ys.Pairwise fun p q => TS.code 64 [p.1, p.2] ≤ TS.code 64 [q.1, q.2] := by
            have : (L'.map (·.2)).Pairwise fun p q => TS.code 64 p ≤ TS.code 64 q := List.pairwise_map.mpr pw
            rw [hys, List.pairwise_map] at this
            exact this
          have yr : Rising ltP ys := by
            have both : ys.Pairwise fun p q => (TS.code 64 [p.1, p.2] ≤ TS.code 64 [q.1, q.2] ∧ p ≠ q) := List.pairwise_and_iff.mpr ⟨ypw, ynd⟩
            refine List.Pairwise.imp_of_mem (fun {p q} hp hq z => ?_) both
            obtain ⟨a1, a2, a3, a4⟩ := q2 p (yb p hp)
            obtain ⟨c1, c2, c3, c4⟩ := q2 q (yb q hq)
            have := pair_lt z.1 (fun e => z.2 (by simp only [List.cons.injEq, and_true] at e; exact Prod.ext e.1 e.2)) ⟨a1, a2⟩ ⟨a3, a4⟩ ⟨c1, c2⟩ ⟨c3, c4⟩
            simpa [ltP] using this
          have ye : ys = usort ltP xs := usort_unique stoP yr fun z => by
            refine ⟨yb z, fun hz => ?_⟩
            have : [z.1, z.2] ∈ ks.map (·.2) := by rw [ke]; exact List.mem_map.mpr ⟨z, hz, rfl⟩
            obtain ⟨q, hq, e⟩ := List.mem_map.mp this
            have := hL2 q hq
            rw [e] at this
            have : [z.1, z.2] ∈ L'.map (·.2) := (pm.map (·.2)).mem_iff.mpr this
            rw [hys] at this
            obtain ⟨y, hy, e2⟩ := List.mem_map.mp this
            simp only [List.cons.injEq, and_true] at e2
            have : y = z := Prod.ext e2.1 e2.2
            exact this ▸ hy
          refine new_lst g2.1 (ds := (usort ltP xs).map eP) ?_ (fun v S' H' g r => k v S' H' (g1.trans (g2.trans g)) r) hp
          rw [← ye]
          exact pairs_rp (fun q hq => (ka q (hL1 q (pm.mem_iff.mp hq))).1) hys
      · rw [if_neg hl] at h4; cases h4
    · cases h4
  · rename_i ds
    split at h4
    · rename_i xs e1
      by_cases hl : xs.length < 4000
      · rw [if_pos hl] at h4
        have := strsOf_some e1
        subst this
        exact .inl (txt xs hl _ ef (.inr rfl) (Option.some.inj h4).symm)
      · rw [if_neg hl] at h4; cases h4
    split at h4
    · rename_i xs e1
      by_cases hl : xs.length < 4000
      · rw [if_pos hl] at h4
        have := intsOf_some e1
        subst this
        exact .inl (num xs hl _ ef (.inr rfl) (Option.some.inj h4).symm)
      · rw [if_neg hl] at h4; cases h4
    · cases h4
  · cases h4⟩
end
end Fo
end
-- FoG4.lean
set_option Elab.async false
set_option linter.all false
set_option maxRecDepth 100000
set_option maxHeartbeats 2000000
noncomputable section
namespace Fo
open PySem L2
open PySem.W (dataLe dataLt alike alikeAll AllAlike Sortable EachIs)

/-! ### sorted of plain data -/
def sortD (ds : List D) : List D := ds.mergeSort (dataLe false py)
def consT : D → Bool
  | .tup (_ :: _) => true
  | _ => false
def noTup : D → Bool
  | .tup _ => false
  | .non => false
  | .dct _ => false
  | .scr _ => false
  | .raw _ => false
  | _ => true
def notN : D → Bool
  | .non => false
  | .dct _ => false
  | .scr _ => false
  | .raw _ => false
  | _ => true
def alikeD (x y : D) : Bool := alike (py x) (py y)
/-- what can be sorted here -/
def srtOk (ds : List D) : Bool := okL 60 ds && ds.all (fun x => ds.all (alikeD x)) && (ds.all consT || ds.all noTup || (decide (ds.length ≤ 1) && ds.all notN)) && decide (ds.length ≤ LIM)
theorem okL_mem {n : Nat} : ∀ {ds : List D}, okL n ds = true ↔ ∀ d ∈ ds, okD n d = true
  | [] => by simp [okL]
  | d :: ds => by simp [okL, okL_mem (ds := ds)]
mutual
theorem reads_in {h : Heap} : ∀ (d : PyData) (v : Value) (as : List Addr), Reads h v d as → ∀ a ∈ as, a < h.objs.size
  | .none, _, _, r => by cases r; simp
  | .bool _, _, _, r => by cases r; simp
  | .int _, _, _, r => by cases r; simp
  | .str _, _, _, r => by cases r; simp
  | .list xs, _, _, r => by
    cases r with
    | list h1 h2 h3 h4 =>
      intro a ha
      rcases List.mem_cons.mp ha with z | z
      · rw [z]; exact Heap.lt_size h1
      · exact reads_inL xs _ _ h4 a z
  | .tuple xs, _, _, r => by
    cases r with
    | tuple h1 h2 h3 h4 => exact reads_inL xs _ _ h4
  | .dict kvs, _, _, r => by
    cases r with
    | dict h1 h2 h3 h4 h5 =>
      intro a ha
      rcases List.mem_append.mp ha with z | z
      · rcases List.mem_cons.mp z with z | z
        · rw [z]; exact Heap.lt_size h1
        · exact reads_inL1 kvs _ _ h4 a z
      · exact reads_inL2 kvs _ _ h5 a z
theorem reads_inL {h : Heap} : ∀ (ds : List PyData) (vs : List Value) (as : List Addr), ReadsAll h vs ds as → ∀ a ∈ as, a < h.objs.size
  | [], _, _, r => by cases r; simp
  | d :: ds, _, _, r => by
    cases r with
    | cons h1 h2 =>
      intro a ha
      rcases List.mem_append.mp ha with z | z
      · exact reads_in d _ _ h1 a z
      · exact reads_inL ds _ _ h2 a z
theorem reads_inL1 {h : Heap} : ∀ (ds : List (PyData × PyData)) (vs : List Value) (as : List Addr), ReadsAll h vs (ds.map (·.1)) as → ∀ a ∈ as, a < h.objs.size
  | [], _, _, r => by cases r; simp
  | (d, _) :: ds, _, _, r => by
    cases r with
    | cons h1 h2 =>
      intro a ha
      rcases List.mem_append.mp ha with z | z
      · exact reads_in d _ _ h1 a z
      · exact reads_inL1 ds _ _ h2 a z
theorem reads_inL2 {h : Heap} : ∀ (ds : List (PyData × PyData)) (vs : List Value) (as : List Addr), ReadsAll h vs (ds.map (·.2)) as → ∀ a ∈ as, a < h.objs.size
  | [], _, _, r => by cases r; simp
  | (_, d) :: ds, _, _, r => by
    cases r with
    | cons h1 h2 =>
      intro a ha
      rcases List.mem_append.mp ha with z | z
      · exact reads_in d _ _ h1 a z
      · exact reads_inL2 ds _ _ h2 a z
end
theorem srtOk_parts {ds : List D} (h : srtOk ds = true) : okL 60 ds = true ∧ AllAlike (ds.map py) ∧ (Sortable (ds.map py) ∨ ds.length ≤ 1 ∧ ∀ d ∈ ds, py d ≠ .none) ∧ ds.length ≤ LIM := by
  unfold srtOk at h
  simp only [Bool.and_eq_true, Bool.or_eq_true, decide_eq_true_eq] at h
  obtain ⟨⟨⟨h1, h2⟩, h3⟩, h4⟩ := h
  refine ⟨h1, fun d hd d' hd' => ?_, ?_, h4⟩
  · obtain ⟨x, hx, rfl⟩ := List.mem_map.mp hd
    obtain ⟨y, hy, rfl⟩ := List.mem_map.mp hd'
    exact List.all_eq_true.mp (List.all_eq_true.mp h2 x hx) y hy
  · rcases h3 with (h3 | h3) | h3
    · refine .inl (.inl fun d hd => ?_)
      obtain ⟨x, hx, rfl⟩ := List.mem_map.mp hd
      have := List.all_eq_true.mp h3 x hx
      cases x with
      | tup xs => cases xs with
        | nil => cases this
        | cons y ys => exact ⟨py y, pyL ys, by simp [py, pyL]⟩
      | _ => cases this
    · refine .inl (.inr fun d hd => ?_)
      obtain ⟨x, hx, rfl⟩ := List.mem_map.mp hd
      have := List.all_eq_true.mp h3 x hx
      cases x <;> simp [noTup, py] at this ⊢
    · refine .inr ⟨h3.1, fun x hx => ?_⟩
      have := List.all_eq_true.mp h3.2 x hx
      cases x <;> simp [notN, py] at this ⊢
section
open PySem.Calls PyProof.Rows PySem.W
variable {P : Program} {w : World} {A : Around} {E : Value → Shared → Prop} {s : Shared}
theorem sortsAt_few {vs : List Value} {ds : List PyData} (e : EachIs (fun v d => ∃ as, Reads s.heap v d as) vs ds) (hal : AllAlike ds) (h1 : ds.length ≤ 1) (hn : ∀ d ∈ ds, d ≠ .none) (hu : ∀ d, d ∈ ds → A.units + d.depth < cLine) : SortsAt P w A s (dataKind s.heap ds) vs where
  keys := fun v hv => by
    obtain ⟨d, hd, as, r⟩ := e.left v hv
    exact ⟨_, dataKind_some hal hd r⟩
  kind := ⟨general', fun E x y a b Q ha hb hq => by
    obtain ⟨d, as, hd, ra, rfl⟩ := dataKind_inv ha
    obtain ⟨d', as', hd', rb, rfl⟩ := dataKind_inv hb
    exact oneLt_alike (f := false) (fun z => by cases z) ra rb (hal d hd d' hd') (hn d hd) (Nat.lt_of_le_of_lt (Nat.add_le_add_left (Nat.min_le_left _ _) _) (hu d hd)) hq, fun h2 => by
    rw [e.length] at h2
    omega⟩
/-- the list of the items sorted, whatever the items are known to stand for -/
theorem list_sort_D {a : Addr} {n : Nat} {vs : List Value} {ds : List D} {R : Value → D → Prop} {Q : Value → Shared → Prop} (ok : srtOk ds = true) (hu : A.units + 62 < cLine) (ho : s.heap.get? a = some (seqObj "list" vs.toArray n)) (e : EachIs R vs ds)
    (er : EachIs (fun v d => ∃ as, Reads s.heap v (py d) as ∧ a ∉ as) vs ds) (h : ∀ out, EachIs R out (sortD ds) → Q .none { s with heap := sortedHeap s.heap a vs (List.toArray out) }) : wpAny (model P w) A (call (.builtin "list.sort") [.ref a]) Q E s := by
  obtain ⟨h1, h2, h3, h4⟩ := srtOk_parts ok
  have dep : ∀ d ∈ ds, (py d).depth ≤ 60 := fun d hd => (okD_lay 60 d (okL_mem.mp h1 d hd)).2
  rcases h3 with h3 | ⟨h3, h5⟩
  · exact list_sort_data ho e er h2 h3 (lim_ok h4) (fun b hb => by have := dep b hb; omega) fun out _ x => h out x
  · have er' : EachIs (fun v d => ∃ as, Reads (sortingHeap s.heap a vs) v (py d) as) vs ds := each_keepBut (fun _ _ hb q => sortingHeap_old hb q) (fun o q => by rw [ho] at q; cases q; rfl) h2 er
    have em := each_map (R := fun v d => ∃ as, Reads (sortingHeap s.heap a vs) v d as) py er'
    have so : SortsAt P w A.in1 { s with heap := sortingHeap s.heap a vs } (dataKind (sortingHeap s.heap a vs) (ds.map py)) vs :=
      sortsAt_few (s := { s with heap := sortingHeap s.heap a vs }) em h2 (by simpa using h3) (fun d hd => by obtain ⟨x, hx, rfl⟩ := List.mem_map.mp hd; exact h5 x hx)
        fun d hd => by obtain ⟨x, hx, rfl⟩ := List.mem_map.mp hd; have := dep x hx; show A.units + 1 + _ < cLine; omega
    refine wpAny_call_entry slot_list_sort ⟨_, ho, rfl⟩ entry_list_sort (list_sort_vals ho so (by rw [e.length]; exact lim_ok h4) ⟨.none, rfl, ?_⟩) (args_list_sort _)
    exact h _ (sortVals_data false e er' h2)
/-- sorted(arg): arg's items are gathered as vals, which stand for ds -/
theorem sorted_D {Γ : Type} {arg : Value} {ds : List D} {R : Γ → Value → D → Prop} {G : Γ → Shared → Prop} {Q : Value → Shared → Prop} (ok : srtOk ds = true) (hu : A.units + 64 < cLine)
    (col : ∀ E' : Value → Shared → Prop, wpAny (model P w) A.in1 (collect arg) (fun vals s1 => ∃ g, EachIs (R g) vals ds ∧ EachIs (fun v d => ∃ as, Reads s1.heap v (py d) as) vals ds ∧ G g s1) E' s)
    (hQ : ∀ g s1 s' p out c, G g s1 → (∀ b o, s1.heap.get? b = some o → s'.heap.get? b = some o) → s'.gens = s1.gens → s'.os = s1.os → s1.heap.objs.size ≤ p → s'.heap.get? p = some (seqObj "list" (List.toArray out) c) → EachIs (R g) out (sortD ds) → Q (.ref p) s') :
    wpAny (model P w) A (call (.builtin "sorted") [arg]) Q E s := by
  obtain ⟨h1, h2, h3, h4⟩ := srtOk_parts ok
  refine call_function_entry kind_sorted plain_sorted entry_sorted (args_sorted1 _) ?_
  unfold Builtin.«sorted»
  refine wpAny_bind (m := checkCount "sorted" 1 1 _) (wpAny_pure ?_)
  refine wpAny_bind (wpAny_mono (col _) (fun vals s1 x => ?_) fun _ _ e => e)
  obtain ⟨g, e, er, hg⟩ := x
  have hlen := e.length
  refine wpAny_bind (wpAny_newList ?_ (by rw [hlen]; exact lim_ok h4))
  have hoL : (s1.heap.push (seqObj "list" vals.toArray 0)).get? s1.heap.objs.size = some (seqObj "list" vals.toArray 0) := Heap.get?_push_size _ rfl
  have er' : EachIs (fun v d => ∃ as, Reads (s1.heap.push (seqObj "list" vals.toArray 0)) v (py d) as ∧ s1.heap.objs.size ∉ as) vals ds := er.mono fun v d ⟨as, r⟩ => ⟨as, PyProof.Rows.Reads.keeps (fun b o q => Heap.get?_push_of_some _ q) r, fun z => Nat.lt_irrefl _ (reads_in _ _ _ r _ z)⟩
  refine wpAny_bind (wpAny_holding (list_sort_D (A := A.in1) (s := { s1 with heap := s1.heap.push (seqObj "list" vals.toArray 0) }) ok (by show A.units + 1 + 62 < cLine; omega) hoL e er' fun out eo => ?_))
  obtain ⟨c, hc⟩ := sortedHeap_at (vs := vals) (out := out.toArray) hoL
  refine wpAny_pure ⟨_, rfl, hQ g s1 _ s1.heap.objs.size out c hg (fun b u q => ?_) rfl rfl (Nat.le_refl _) hc eo⟩
  have lt := Heap.lt_size q
  show (sortedHeap (s1.heap.push (seqObj "list" vals.toArray 0)) s1.heap.objs.size vals out.toArray).get? b = some u
  rw [sortedHeap_old (Nat.ne_of_lt lt) (by rw [size_push']; exact Nat.lt_succ_of_lt lt)]
  exact Heap.get?_push_of_some _ q
end

/-! values that stand for data -/
def RD (K : PySem.W.Frag) (S : Hp) (u : Value) (d : D) : Prop := ∃ v, RelV v u ∧ Rp K S v d
theorem each_rd {K : PySem.W.Frag} {S : Hp} : ∀ {vs : List V} {us : List Value} {ds : List D}, RpL K S vs ds → Vals vs us → EachIs (RD K S) us ds
  | _, _, [], h, r => by cases h; cases r; exact .nil
  | _, _, d :: ds, h, r => by
    cases h with
    | cons h1 h2 => cases r with
      | cons r1 r2 => exact .cons ⟨_, r1, h1⟩ (each_rd h2 r2)
theorem rd_each {K : PySem.W.Frag} {S : Hp} : ∀ {us : List Value} {ds : List D}, EachIs (RD K S) us ds → ∃ vs, Vals vs us ∧ RpL K S vs ds
  | _, _, .nil => ⟨[], .nil, .nil⟩
  | _, _, .cons ⟨v, h1, h2⟩ t => by
    obtain ⟨vs, a, b⟩ := rd_each t
    exact ⟨v :: vs, .cons h1 a, .cons h2 b⟩
section
open PySem.Calls PyProof.Rows
variable {X : Cx} {b : Bool}
theorem each_reads {pins : List (Addr × Obj)} {σ : St} {H S : Hp} {lk : Option Addr} {s : Shared} (I : Inv X pins σ H s) (sb : Sub lk S H) {n : Nat} : ∀ {us : List Value} {ds : List D}, okL n ds = true → EachIs (RD X.K S) us ds → EachIs (fun v d => ∃ as, Reads s.heap v (py d) as) us ds
  | [], ds, _, h => by cases h; exact .nil
  | u :: us, [], _, h => by cases h
  | u :: us, d :: ds, h, q => by
    have h' : okD n d = true ∧ okL n ds = true := by simpa [okL] using h
    cases q with
    | cons q1 q2 =>
      obtain ⟨v, p1, p2⟩ := q1
      exact .cons (Dp.reads I _ _ _ (Rp.dp sb n d v h'.1 p2) p1) (each_reads I sb h'.2 q2)
def keysD (ks : List (D × D)) : List D := ks.map (·.1)
def sortedD : List D → Option D
  | [.lst ds] => if srtOk ds = true then some (.lst (sortD ds)) else none
  | [.tup ds] => if srtOk ds = true then some (.lst (sortD ds)) else none
  | [.dct ks] => if srtOk (keysD ks) = true then some (.lst (sortD (keysD ks))) else none
  | _ => none
theorem keyOf_rp {K : PySem.W.Frag} {S : Hp} {kd : D} {k : Key} (h : keyOf kd = some k) : Rp K S (kV k) kd := by
  cases kd <;> simp only [keyOf, reduceCtorEq] at h
  · cases h; exact .int _
  · cases h; exact .str _
theorem rpK_keys {K : PySem.W.Frag} {S : Hp} : ∀ {ks : List (D × D)} {kvs : List (Key × V)}, RpK K S kvs ks → RpL K S (kvs.map fun kv => kV kv.1) (keysD ks)
  | [], _, h => by cases h; exact .nil
  | (kd, d) :: ks, _, h => by cases h with | cons h0 h1 h2 => exact .cons (keyOf_rp h0) (rpK_keys h2)
theorem sortD_len (ds : List D) : (sortD ds).length = ds.length := by simp [sortD]
theorem cr_sortedD (hc : X.calm = true) (hu : X.A.units + 64 < cLine) : CallR X (.builtin "sorted") (rCof X.K b sortedD) := by
  intro pins s σ H xs us Q I r h
  obtain ⟨lk, S, ds, z, h1, h2, h3, h4, k⟩ := h
  -- what is gathered stands for es
  have go : ∀ (es : List D) (u : Value), srtOk es = true → z = .lst (sortD es) → (∀ E' : Value → Shared → Prop, wpAny (model X.prog X.w) X.A.in1 (collect u) (fun vals s1 => EachIs (RD X.K S) vals es ∧ Inv X pins σ H s1) E' s) →
      wpAny (model X.prog X.w) X.A (call (.builtin "sorted") [u]) (EP X pins σ Q) X.xe s := fun es u ok hz col => by
    subst hz
    refine sorted_D (Γ := Unit) (R := fun _ => RD X.K S) (G := fun _ s1 => Inv X pins σ H s1) ok hu (fun E' => wpAny_mono (col E') (fun vals s1 ⟨x1, x2⟩ => ⟨(), x1, each_reads x2 h2 (srtOk_parts ok).1 x1, x2⟩) fun _ _ e => e) fun _ s1 s' p out c I1 kp hg ho hp e ev => ?_
    obtain ⟨ws, v1, v2⟩ := rd_each ev
    have hl : ws.length ≤ sizeLine := by rw [v2.length, sortD_len]; exact lim_ok (srtOk_parts ok).2.2.2
    have I2 := inv_lst I1 ho hg kp hp v1 hl e
    exact ⟨.ref p, _, I2, rfl, new_lst h2 v2 k (I1.hok.fresh hp)⟩
  unfold sortedD at h4
  split at h4
  · split at h4
    · rename_i xs' ok
      cases h4
      obtain ⟨v, rfl, rv⟩ := pair1 h3
      obtain ⟨a, vs, rfl, e1, r1⟩ := rv.lst_inv h2
      rw [Vals.ref1 r]
      obtain ⟨its, vv, ⟨⟨cls, dd, data, sl⟩, n, e, c1, c2, c3⟩, hz⟩ := I.list (.inl (.inl e1))
      refine go _ _ ok rfl fun E' => wpAny_collect_seq (T := "list") a (.inl rfl) e c1 (by simpa using c3) (fun h' kp => ?_) ?_
      · refine ⟨?_, I.kept (t' := s.toks) kp⟩
        simpa using each_rd r1 vv
      · have := vv.length
        have := r1.length
        have := (srtOk_parts ok).2.2.2
        simp only [List.size_toArray]
        rw [sizeLine_eq]
        simp only [LIM_eq] at this
        omega
    · cases h4
  · split at h4
    · rename_i xs' ok
      cases h4
      obtain ⟨v, rfl, rv⟩ := pair1 h3
      obtain ⟨a, vs, rfl, e1, _, r1⟩ := rv.tup_inv h2
      rw [Vals.ref1 r]
      obtain ⟨its, vv, ⟨⟨cls, dd, data, sl⟩, e, c1, n, c3⟩, hz⟩ := I.tuple (.inl (.inl e1))
      refine go _ _ ok rfl fun E' => wpAny_collect_seq (T := "tuple") a (.inr rfl) e c1 (by simpa using c3) (fun h' kp => ?_) ?_
      · refine ⟨?_, I.kept (t' := s.toks) kp⟩
        simpa using each_rd r1 vv
      · have := vv.length
        have := r1.length
        have := (srtOk_parts ok).2.2.2
        simp only [List.size_toArray]
        rw [sizeLine_eq]
        simp only [LIM_eq] at this
        omega
    · cases h4
  · split at h4
    · rename_i ks ok
      cases h4
      obtain ⟨v, rfl, rv⟩ := pair1 h3
      obtain ⟨a, kvs, rfl, e1, _, r1⟩ := rv.dct_inv h2
      rw [Vals.ref1 r]
      obtain ⟨z, lo, vs, rel, dd⟩ := dk_rd I.hok e1
      obtain ⟨ep, hat⟩ := dd.dictAt
      have hl : vs.length = kvs.length := rel.length.symm
      refine go _ _ ok rfl fun E' => PySem.W.kdu_collect (A := X.A.in1) (PySem.W.kdl_dict (knd := mixKind X.prog X.w) (kvs := vs) (ep := ep) lo) (I.ok.hd hc) hat (by rw [hl]; exact z) fun h' tk acc hk hacc => ⟨?_, I.kept hk⟩
      have hlen : (kvs.map fun kv => kV kv.1).length = acc.toList.length := by
        have q1 := hacc.1
        have q2 : acc.toList.length = acc.size := by simp
        rw [List.length_map, q2, q1, hl]
      refine each_rd (rpK_keys r1) (vals_of_at hlen fun j x u hx hu => ?_)
      obtain ⟨key, y, e1, e2⟩ := hacc.2 j u (by rw [← Array.getElem?_toList]; exact hu)
      have e3 : (vs.map (·.1))[j]? = some key := by rw [List.getElem?_map, e1]; rfl
      rw [← rel.keys, List.getElem?_map] at e3
      rw [List.getElem?_map] at hx
      cases e4 : kvs[j]? with
      | none => rw [e4] at e3; cases e3
      | some p =>
        rw [e4] at e3 hx
        cases e3
        cases hx
        exact keyIs_rel e2
    · cases h4
  · cases h4
end
end Fo
end
-- FoG5.lean
set_option Elab.async false
set_option linter.all false
set_option maxRecDepth 100000
set_option maxHeartbeats 2000000
noncomputable section
namespace Fo
open PySem L2
open PySem.W (dataLe dataLt alike alikeAll AllAlike Sortable EachIs)

/-! ### dicts: keys are ints and texts -/
def keq : D → D → Bool
  | .int i, .int j => decide (i = j)
  | .str x, .str y => decide (x = y)
  | _, _ => false
def hasD (ks : List (D × D)) (kd : D) : Bool := ks.any fun p => keq p.1 kd
def getD? (ks : List (D × D)) (kd : D) : Option D := (ks.find? fun p => keq p.1 kd).map (·.2)
def putD (ks : List (D × D)) (kd d : D) : List (D × D) := if hasD ks kd = true then ks.map (fun p => if keq p.1 kd = true then (p.1, d) else p) else ks ++ [(kd, d)]
theorem keq_ok {a b : D} {x y : Key} (h : keyOf a = some x) (k : keyOf b = some y) : keq a b = decide (x = y) := by
  cases a <;> simp only [keyOf, reduceCtorEq] at h <;> cases b <;> simp only [keyOf, reduceCtorEq] at k <;> cases h <;> cases k <;> simp only [keq, reduceCtorEq, decide_false, Sum.inl.injEq, Sum.inr.injEq]
  exact decide_eq_decide.mpr ⟨fun e => by rw [e], tx_inj⟩
section
variable {K : PySem.W.Frag} {S : Hp}
theorem rpK_has {k : Key} {kd : D} (h : keyOf kd = some k) : ∀ {ks : List (D × D)} {kvs : List (Key × V)}, RpK K S kvs ks → (kvs.any fun kv => decide (kv.1 = k)) = hasD ks kd
  | [], _, r => by cases r; rfl
  | (kd', d) :: ks, _, r => by
    cases r with
    | cons h0 h1 h2 =>
      have := rpK_has h h2
      unfold hasD at this ⊢
      rw [List.any_cons, List.any_cons, this, keq_ok h0 h]
theorem rpK_get {k : Key} {kd : D} (h : keyOf kd = some k) : ∀ {ks : List (D × D)} {kvs : List (Key × V)}, RpK K S kvs ks → (∀ d, getD? ks kd = some d → ∃ v, valV kvs k = some v ∧ Rp K S v d) ∧ (getD? ks kd = none → valV kvs k = none)
  | [], _, r => by
    cases r
    refine ⟨fun d e => ?_, fun _ => rfl⟩
    cases e
  | (kd', d) :: ks, _, r => by
    cases r with
    | @cons k' v kvs _ _ _ h0 h1 h2 =>
      have ih := rpK_get h h2
      have q := keq_ok h0 h
      by_cases e : k' = k
      · have e1 : keq kd' kd = true := by rw [q]; exact decide_eq_true e
        have e2 : getD? ((kd', d) :: ks) kd = some d := by unfold getD?; rw [List.find?_cons_of_pos (by exact e1)]; rfl
        rw [valV_pos (p := (k', v)) e, e2]
        exact ⟨fun d' z => by cases z; exact ⟨v, rfl, h1⟩, fun z => by cases z⟩
      · have e1 : ¬ keq kd' kd = true := by rw [q]; simpa using e
        have e2 : getD? ((kd', d) :: ks) kd = getD? ks kd := by unfold getD?; rw [List.find?_cons_of_neg (by exact e1)]
        rw [valV_neg (p := (k', v)) e, e2]
        exact ih
theorem rpK_map {k : Key} {kd : D} (h : keyOf kd = some k) {v : V} {d : D} (r0 : Rp K S v d) : ∀ {ks : List (D × D)} {kvs : List (Key × V)}, RpK K S kvs ks → RpK K S (kvs.map fun kv => if kv.1 = k then (kv.1, v) else kv) (ks.map fun p => if keq p.1 kd = true then (p.1, d) else p)
  | [], _, r => by cases r; exact .nil
  | (kd', d') :: ks, _, r => by
    cases r with
    | @cons k' v' kvs _ _ _ h0 h1 h2 =>
      have q := keq_ok h0 h
      have ih := rpK_map h r0 h2
      rw [List.map_cons, List.map_cons]
      by_cases e : k' = k
      · rw [if_pos e, if_pos (by rw [q]; exact decide_eq_true e)]
        exact .cons h0 r0 ih
      · rw [if_neg e, if_neg (by rw [q]; simpa using e)]
        exact .cons h0 h1 ih
theorem RpK.append : ∀ {ks ls : List (D × D)} {kvs lvs : List (Key × V)}, RpK K S kvs ks → RpK K S lvs ls → RpK K S (kvs ++ lvs) (ks ++ ls)
  | [], _, _, _, h, k => by cases h; exact k
  | (a, b) :: ks, _, _, _, h, k => by cases h with | cons h0 h1 h2 => exact .cons h0 h1 (RpK.append h2 k)
theorem rpK_put {k : Key} {kd : D} (h : keyOf kd = some k) {v : V} {d : D} (r0 : Rp K S v d) {ks : List (D × D)} {kvs : List (Key × V)} (r : RpK K S kvs ks) : RpK K S (putK kvs k v) (putD ks kd d) := by
  have q := rpK_has h r
  unfold putK putD
  by_cases e : hasD ks kd = true
  · rw [if_pos (by rw [q]; exact e), if_pos e]
    exact rpK_map h r0 r
  · rw [if_neg (by rw [q]; exact e), if_neg e]
    exact r.append (.cons h r0 .nil)
theorem putD_len (ks : List (D × D)) (kd d : D) : (putD ks kd d).length ≤ ks.length + 1 := by
  unfold putD
  split <;> simp
end
section
variable {X : Cx} {b : Bool} {EX : Nat → Value} {E : XK} {e a c : Expr} {pos : Pos} {fe fk fi : Env → Option D}
/-- name = {} -/
def newKS (i : Nat) : Env → Option Out := fun ρ => some (.nx (ρ.set i (some (.k []))))
theorem js_newK (i : Nat) {x : PySem.Str} {pos' dpos : Pos} (hN : X.N.Nodup) (hi : X.N[i]? = some x := by rfl) (hx : Loc X.env.scope x := by first | exact Or.inl rfl | exact Or.inr rfl) (hs : swapsWith (.Dict [] [] dpos) (some (.Name x pos')) pos.line X.env = pure false := by rfl) (hf : X.fn x = true ∨ X.env.scope.names.lookup x = some .local := by first | exact .inl rfl | exact .inr rfl) :
    JS X EX E (.Assign [.Name x pos'] (.Dict [] [] dpos) pos) (newKS i) := ⟨PS_imp (ps_set hN hi hx pe_dnewK hs hf) fun T σ H ⟨S0, B, S, ρ, o, h1, h2, h3, h4, k⟩ => by
  cases h4
  intro p hp
  have g := Gr.own (o := .dK []) h1 hp
  have hB : B p = none := by
    cases q : B p with
    | none => rfl
    | some u =>
      have := (h2.2 p (by rw [q]; simp)).1
      rw [hp, q] at this
      cases this
  exact k S _ _ (h2.trans g) (Ext.refl S) (ER.setOwn h3 (h3.gr h1 g) hp ⟨p, [], rfl, upd_same, h1.none hp, hB, .nil⟩)⟩
/-- name[k] = e, the name's dict the frame's own -/
def setKS (i : Nat) (fk fe : Env → Option D) : Env → Option Out := fun ρ => match fe ρ with
  | none => none
  | some d => match fk ρ with
    | none => none
    | some kd => match ρ[i]? with
      | some (some (.k ks)) => if (keyOf kd).isSome = true ∧ ks.length < LIM then some (.nx (ρ.set i (some (.k (putD ks kd d))))) else none
      | _ => none
theorem js_setK (i : Nat) {x : PySem.Str} {ppos tpos : Pos} (hu : X.A.units + 1 < cLine) (hk : JE X false a fk) (he : JE X false e fe) (hN : X.N[i]? = some x := by rfl) (hv : Vis X.env.scope x := by first | exact Or.inl rfl | exact Or.inr (Or.inl rfl) | exact Or.inr (Or.inr rfl)) (hd : (x == ("__debug__" : PySem.Str)) = false := by decide)
    (hcd : (x == ("__classdict__" : PySem.Str)) = false := by decide) (hs : swapsWith e (some (.Subscript (.Name x ppos) a tpos)) pos.line X.env = pure false := by rfl) :
    JS X EX E (.Assign [.Subscript (.Name x ppos) a tpos] e pos) (setKS i fk fe) := ⟨PS_imp (ps_dput hu (pe_var hN hv hd hcd) hk.pe he.pe hs) fun T σ H ⟨S0, B, S, ρ, o, h1, h2, h3, h4, k⟩ => by
  unfold setKS at h4
  split at h4
  · cases h4
  rename_i d e1
  split at h4
  · cases h4
  rename_i kd e2
  split at h4
  · rename_i ks e3
    split at h4
    · rename_i hok
      cases h4
      obtain ⟨hkey, hl⟩ := hok
      obtain ⟨key, ek⟩ := Option.isSome_iff_exists.mp hkey
      obtain ⟨v, q, aa, kvs, rfl, r1, r2, r3, r4⟩ := h3.at_ i _ e3
      refine ⟨none, B, S, ρ, d, fun _ => rfl, h1, h3, e1, fun w S1 H1 g1 rw1 => ⟨_, q, none, B, S1, ρ, _, fun _ => rfl, g1.1, h3.gr h1 g1, e2, fun kw S2 H2 g2 rk => ?_⟩⟩
      have g12 := g1.trans g2
      have ha2 : H2 aa = some (.dK kvs) := g12.hext _ _ r1
      have hs2 : S2 aa = none := by rw [(g12.2 aa (by rw [r1]; simp)).2]; exact r2
      have ekv : kw = kV key := by
        cases kd <;> simp only [keyOf, reduceCtorEq] at ek
        · cases ek; cases rk; rfl
        · cases ek; cases rk; rfl
      subst ekv
      refine ⟨aa, _, rfl, DPut.k ha2 (by rw [r4.length, sizeLine_eq, ← LIM_eq]; exact hl), ?_⟩
      obtain ⟨p1, p2, p3⟩ := ER.putOwn (u := .dK (putK kvs key w)) (c' := .k (putD ks kd d)) g2.1 (h2.trans g12) (h3.gr h1 g12) e3 rfl q hs2 r3 ⟨aa, _, rfl, upd_same, hs2, r3, rpK_put ek (rw1.mono (g2.ext g1.1)) (r4.mono (g12.ext h1))⟩
      exact k S2 _ σ p2 (g12.ext h1) p3
    · cases h4
  · cases h4⟩
/-! in, not in, also of dicts -/
def inX (x : D) : D → Option D
  | .dct ks => if (keyOf x).isSome = true then some (.bl (hasD ks x)) else none
  | y => inD x y
def ninX (x y : D) : Option D := notD (inX x y)
theorem dget_of {K : PySem.W.Frag} {lk : Option Addr} {S H : Hp} {x : V} {xd : D} {key : Key} {a : Addr} {kvs : List (Key × V)} (ek : keyOf xd = some key) (rx : RpW K S H x xd) (e : Rd H a (.dK kvs)) : DGet H a x (valV kvs key) := by
  have : x = kV key := by
    cases xd <;> simp only [keyOf, reduceCtorEq] at ek
    · cases ek; exact rx.int_inv
    · cases ek; exact rx.str_inv
  exact .inl ⟨kvs, key, e, this, rfl⟩
theorem valV_has {K : PySem.W.Frag} {S : Hp} {key : Key} {xd : D} {ks : List (D × D)} {kvs : List (Key × V)} (ek : keyOf xd = some key) (r : RpK K S kvs ks) : (valV kvs key).isSome = hasD ks xd := by
  rw [← rpK_has ek r, valV_any]
theorem or_inX (hu : X.A.units + 65 < cLine) : OpR X (compareOp .In) (rOf X.K b inX) := by
  intro pins s σ H x y v u Q I rx ry h
  obtain ⟨lk, S, d, e, z, h1, h2, h3, h4, h5, k⟩ := h
  have old : inD d e = some z → wpAny (model X.prog X.w) X.A (compareOp .In v u) (EP X pins σ Q) X.xe s := fun h5 => or_in hu pins s σ H x y v u Q I rx ry ⟨lk, S, d, e, z, h1, h2, h3, h4, h5, k⟩
  unfold inX at h5
  split at h5
  · rename_i ks
    split at h5
    · rename_i hk
      cases h5
      obtain ⟨key, ek⟩ := Option.isSome_iff_exists.mp hk
      obtain ⟨a, kvs, rfl, e1, _, r1⟩ := h4.dct_inv h2
      obtain rfl : u = Value.ref a := ry
      refine d_in (by omega) I (dget_of (lk := lk) ek h3 e1) rx fun s3 I3 => ⟨.bl _, H, I3, rfl, ?_⟩
      rw [valV_has ek r1]
      exact k _ S H (Gr.refl h2) (.bl _)
    · cases h5
  · exact old h5
theorem or_ninX (hu : X.A.units + 65 < cLine) : OpR X (compareOp .NotIn) (rOf X.K b ninX) := by
  intro pins s σ H x y v u Q I rx ry h
  obtain ⟨lk, S, d, e, z, h1, h2, h3, h4, h5, k⟩ := h
  have old : ninD d e = some z → wpAny (model X.prog X.w) X.A (compareOp .NotIn v u) (EP X pins σ Q) X.xe s := fun h5 => or_nin hu pins s σ H x y v u Q I rx ry ⟨lk, S, d, e, z, h1, h2, h3, h4, h5, k⟩
  unfold ninX inX at h5
  split at h5
  · rename_i ks
    split at h5
    · rename_i hk
      cases h5
      obtain ⟨key, ek⟩ := Option.isSome_iff_exists.mp hk
      obtain ⟨a, kvs, rfl, e1, _, r1⟩ := h4.dct_inv h2
      obtain rfl : u = Value.ref a := ry
      refine d_notIn (by omega) I (dget_of (lk := lk) ek h3 e1) rx fun s3 I3 => ⟨.bl _, H, I3, rfl, ?_⟩
      rw [valV_has ek r1]
      exact k _ S H (Gr.refl h2) (.bl _)
    · cases h5
  · exact old h5
/-! d[k], d.get(k, x) -/
def dgetD : D → D → Option D
  | .dct ks, x => if (keyOf x).isSome = true then getD? ks x else none
  | _, _ => none
theorem je_dget (hu : X.A.units + 1 < cLine) (h1 : JW X b a fi) (h2 : JW X b c fk) (hs : NoSl c := by exact fun _ _ => rfl) : JE X b (.Subscript a c pos) (bin dgetD fi fk) := ⟨PE_imp (pe_dget hu h1.pe h2.pe hs) fun σ H Q ⟨lk, B, S, ρ, d, q1, q2, q3, q4, k⟩ => by
  unfold bin at q4
  split at q4
  · cases q4
  rename_i x e1
  split at q4
  · cases q4
  rename_i y e2
  unfold dgetD at q4
  split at q4
  · rename_i ks
    split at q4
    · rename_i hk
      obtain ⟨key, ek⟩ := Option.isSome_iff_exists.mp hk
      refine ⟨lk, B, S, ρ, _, q1, q2, q3, e1, fun v S1 H1 g1 r1 => ⟨lk, B, S1, ρ, _, q1, g1.1, q3.gr q2 g1, e2, fun w S2 H2 g2 r2 => ?_⟩⟩
      obtain ⟨aa, kvs, rfl, e3, _, r3⟩ := (r1.gr g1.1 g2).dct_inv g2.1
      obtain ⟨y', f1, f2⟩ := (rpK_get ek r3).1 _ q4
      exact ⟨aa, y', rfl, by rw [← f1]; exact dget_of (lk := lk) ek r2 e3, k _ S2 H2 (g1.trans g2) f2⟩
    · cases q4
  · cases q4⟩
def dget2D (x y z : D) : Option D := match x with
  | .dct ks => if (keyOf y).isSome = true then some ((getD? ks y).getD z) else none
  | _ => none
def tri (g : D → D → D → Option D) (f1 f2 f3 : Env → Option D) : Env → Option D := fun ρ => match f1 ρ with
  | none => none
  | some x => match f2 ρ with
    | none => none
    | some y => match f3 ρ with
      | none => none
      | some z => g x y z
theorem je_dget2 {o : Expr} {apos cpos : Pos} {fo : Env → Option D} (hu : X.A.units + 1 < cLine) (h1 : JW X b o fo) (h2 : JW X b e fk) (h3 : JE X b a fe) (m : M2 X o "get" apos e a cpos := by exact ⟨rfl, rfl, rfl, rfl⟩) : JE X b (.Call (.Attribute o "get" apos) [e, a] [] cpos) (tri dget2D fo fk fe) := ⟨PE_imp (pe_dget2 hu h1.pe h2.pe h3.pe m) fun σ H Q ⟨lk, B, S, ρ, d, q1, q2, q3, q4, k⟩ => by
  unfold tri at q4
  split at q4
  · cases q4
  rename_i x e1
  split at q4
  · cases q4
  rename_i y e2
  split at q4
  · cases q4
  rename_i z e3
  unfold dget2D at q4
  split at q4
  · rename_i ks
    split at q4
    · rename_i hk
      cases q4
      obtain ⟨key, ek⟩ := Option.isSome_iff_exists.mp hk
      refine ⟨lk, B, S, ρ, _, q1, q2, q3, e1, fun v S1 H1 g1 r1 => ?_⟩
      obtain ⟨aa, kvs, rfl, f1, f2, f3⟩ := r1.dct_inv g1.1
      refine ⟨aa, rfl, .inl ⟨kvs, f1⟩, lk, B, S1, ρ, _, q1, g1.1, q3.gr q2 g1, e2, fun w S2 H2 g2 r2 => ⟨lk, B, S2, ρ, _, q1, g2.1, q3.gr q2 (g1.trans g2), e3, fun u S3 H3 g3 r3 => ?_⟩⟩
      obtain ⟨bb, lvs, eb, p1, p2, p3⟩ := (r1.gr g1.1 (g2.trans g3)).dct_inv g3.1
      cases eb
      have r2' := r2.gr g2.1 g3
      refine ⟨_, dget_of (lk := lk) ek r2' p1, ?_⟩
      have q := rpK_get ek p3
      have g13 := g1.trans (g2.trans g3)
      cases eg : getD? ks y with
      | none => rw [q.2 eg]; rw [eg] at k; exact k _ S3 H3 g13 r3
      | some y' =>
        obtain ⟨v', f1, f2⟩ := q.1 _ eg
        rw [f1]; rw [eg] at k
        exact k _ S3 H3 g13 f2
    · cases q4
  · cases q4⟩
end
end Fo
end
-- FoG6.lean
set_option Elab.async false
set_option linter.all false
set_option maxRecDepth 100000
set_option maxHeartbeats 2000000
noncomputable section
namespace Fo
open PySem L2 L2.DX
open PySem.W (dataLe dataLt alike alikeAll AllAlike Sortable EachIs)

/-! ### sorted(d.items()) -/
def itemsOf (ks : List (D × D)) : List D := ks.map fun p => .tup [p.1, p.2]
def sitemsD : D → Option D
  | .dct ks => if srtOk (itemsOf ks) = true then some (.lst (sortD (itemsOf ks))) else none
  | _ => none
theorem each_at {α β : Type} {R : α → β → Prop} : ∀ {as : List α} {bs : List β}, as.length = bs.length → (∀ (j : Nat) (a : α) (b : β), as[j]? = some a → bs[j]? = some b → R a b) → EachIs R as bs
  | [], [], _, _ => .nil
  | [], _ :: _, h, _ => by simp at h
  | _ :: _, [], h, _ => by simp at h
  | a :: as, b :: bs, h, f => .cons (f 0 a b rfl rfl) (each_at (by simpa using h) fun j x y h1 h2 => f (j + 1) x y (by simpa using h1) (by simpa using h2))
theorem RpK.get : ∀ {K : PySem.W.Frag} {S : Hp} {ks : List (D × D)} {kvs : List (Key × V)}, RpK K S kvs ks → ∀ {j : Nat} {p : D × D}, ks[j]? = some p → ∃ kv, kvs[j]? = some kv ∧ keyOf p.1 = some kv.1 ∧ Rp K S kv.2 p.2
  | _, _, [], _, r, _, _, h => by simp at h
  | _, _, (a, b) :: ks, _, r, 0, p, h => by
    cases r with
    | cons h0 h1 h2 => simp at h; subst h; exact ⟨_, rfl, h0, h1⟩
  | _, _, (a, b) :: ks, _, r, j + 1, p, h => by
    cases r with
    | cons h0 h1 h2 =>
      obtain ⟨kv, q1, q2⟩ := RpK.get h2 (j := j) (p := p) (by simpa using h)
      exact ⟨kv, by simpa using q1, q2⟩
abbrev Trk := List (Addr × List V)
def trk (T : Trk) (H : Hp) : Hp := fun a => match T.lookup a with
  | some ws => some (.tup ws)
  | none => H a
theorem lookup_in {T : Trk} {a : Addr} {ws : List V} (nd : (T.map (·.1)).Nodup) (h : (a, ws) ∈ T) : T.lookup a = some ws := by
  induction T with
  | nil => simp at h
  | cons p T ih =>
    obtain ⟨c, us⟩ := p
    rw [List.map_cons, List.nodup_cons] at nd
    rcases List.mem_cons.mp h with z | z
    · cases z; simp [List.lookup]
    · have : a ≠ c := fun e => nd.1 (List.mem_map.mpr ⟨_, z, e⟩)
      rw [List.lookup_cons]
      have e : (a == c) = false := by simpa using this
      rw [e]
      exact ih nd.2 z
theorem lookup_mem {T : Trk} {a : Addr} {ws : List V} (h : T.lookup a = some ws) : (a, ws) ∈ T := by
  induction T with
  | nil => simp [List.lookup] at h
  | cons p T ih =>
    obtain ⟨c, us⟩ := p
    rw [List.lookup_cons] at h
    cases e : a == c with
    | true => rw [e] at h; cases h; have : a = c := by simpa using e
              subst this; exact List.mem_cons_self ..
    | false => rw [e] at h; exact List.mem_cons_of_mem _ (ih h)
section
variable {X : Cx} {b : Bool}
def rItemsK : V → List V → Hp → VK → Prop := fun x xs H Q => ∃ (a : Addr) (kvs : List (Key × V)), x = .ref a ∧ xs = [] ∧ H a = some (.dK kvs) ∧ ∀ p, H p = none → Q (.ref p) (upd H p (itemsO p a))
theorem mt_itemsK : MtR X "dict.items" rItemsK := by
  intro pins s σ H x xs v us Q I rx rs h
  obtain ⟨a, kvs, rfl, rfl, ha, q⟩ := h
  cases rx
  cases rs
  obtain ⟨z, lo, vs, rel, dd⟩ := dk_of I.hok ha
  have hf : H s.heap.objs.size = none := I.hok.fresh (Nat.le_refl _)
  refine call_meetsIn PySem.F.slot_dict_items dd.typeIs PySem.F.entry_dict_items (PySem.F.args_dict_items_1 _) (meets_dict_items (mixKind X.prog X.w) a lo) ⟨⟨vs, dd⟩, ?_⟩
  exact ⟨.ref s.heap.objs.size, upd H s.heap.objs.size (itemsO s.heap.objs.size a), I.laid (t' := s.toks) (fun b u e => Heap.get?_push_of_some _ e) (Nat.le_refl _) (itemsO_ok (Heap.get?_push_size _ rfl)), rfl, q _ hf⟩
def rSortIK (K : PySem.W.Frag) : List V → Hp → VK → Prop := fun xs H Q => ∃ (p a : Addr) (kvs : List (Key × V)) (lk : Option Addr) (S : Hp) (ks : List (D × D)), xs = [.ref p] ∧ H p = some (itemsO p a) ∧ H a = some (.dK kvs) ∧ Sub lk S H ∧ RpK K S kvs ks ∧ srtOk (itemsOf ks) = true ∧
  ∀ v S' H', Gr lk S H S' H' → Rp K S' v (.lst (sortD (itemsOf ks))) → Q v H'
theorem cr_sortedIK (hc : X.calm = true) (hu : X.A.units + 64 < cLine) : CallR X (.builtin "sorted") (rSortIK X.K) := by
  intro pins s σ H xs us Q I r h
  obtain ⟨p, a, kvs, lk, S, ks, rfl, hp, ha, sb, rk, ok, k⟩ := h
  rw [Vals.ref1 r]
  have view : s.heap.IsItemsView p a := (show ObjOk X.prog X.w H s.heap p (itemsO p a) from I.hok p _ hp).1
  obtain ⟨z, lo, vs, rel, dd⟩ := dk_of I.hok ha
  obtain ⟨es, ep, raw, hsz, hes⟩ := dd.raw
  have hl : kvs.length = vs.length := rel.length
  have hlk := rk.length
  refine sorted_D (Γ := Trk) (R := fun T u d => ∃ c ws ds, u = .ref c ∧ (c, ws) ∈ T ∧ d = .tup ds ∧ RpL X.K S ws ds)
    (G := fun T s1 => (∀ b o, s.heap.get? b = some o → s1.heap.get? b = some o) ∧ s1.gens = s.gens ∧ s1.os = s.os ∧ (T.map (·.1)).Nodup ∧ (∀ c ∈ T.map (·.1), c < s1.heap.objs.size) ∧ s.heap.objs.size ≤ s1.heap.objs.size ∧
      ∀ c ws, (c, ws) ∈ T → s.heap.objs.size ≤ c ∧ ws.length ≤ sizeLine ∧ ∃ its : List Value, Vals ws its ∧ s1.heap.get? c = some { cls := .type "tuple", data := .seq its.toArray }) ok hu (fun E' => ?_) ?_
  · refine DT.collectI (A := X.A.in1) (I.ok.hd hc) view raw (by rw [hsz, ← hl]; exact z) fun h' tk as hk hlt hal hG => ?_
    have I1 : Inv X pins σ H { s with heap := h', toks := tk } := I.kept hk
    have lAK : as.length = kvs.length := by omega
    -- the j-th pair
    have at_ : ∀ (j : Nat) (c : Addr) (kv : Key × V), as[j]? = some c → kvs[j]? = some kv → ∃ u1 u2, RelV (kV kv.1) u1 ∧ RelV kv.2 u2 ∧ h'.get? c = some { cls := .type "tuple", data := .seq #[u1, u2] } := fun j c kv e1 e2 => by
      obtain ⟨en, e0, e3⟩ := hG.pairs j c e1
      obtain ⟨hj, e0⟩ := Array.getElem?_eq_some_iff.mp e0
      subst e0
      obtain ⟨⟨key', v'⟩, e4, e5, e6⟩ := paired_get rel e2
      obtain ⟨f1, f2⟩ := hes j hj key' v' e4
      refine ⟨es[j].key, es[j].val, ?_, ?_, e3⟩
      · rw [show kv.1 = key' from e5]; exact keyIs_rel f1
      · rw [f2]; exact e6
    refine ⟨as.zip (kvs.map fun kv => [kV kv.1, kv.2]), ?_, ?_, hk, rfl, rfl, ?_, ?_, Nat.le_of_lt hlt, ?_⟩
    · refine each_at (by simp [itemsOf]; omega) fun j u d e1 e2 => ?_
      rw [List.getElem?_map] at e1
      unfold itemsOf at e2
      rw [List.getElem?_map] at e2
      cases ea : as[j]? with
      | none => rw [ea] at e1; cases e1
      | some c =>
        cases ek : ks[j]? with
        | none => rw [ek] at e2; cases e2
        | some pp =>
          rw [ea] at e1; rw [ek] at e2
          cases e1; cases e2
          obtain ⟨kv, q1, q2, q3⟩ := rk.get ek
          refine ⟨c, [kV kv.1, kv.2], _, rfl, ?_, rfl, .cons (keyOf_rp q2) (.cons q3 .nil)⟩
          refine List.mem_of_getElem? (i := j) ?_
          rw [List.getElem?_zip_eq_some]
          exact ⟨ea, by rw [List.getElem?_map, q1]; rfl⟩
    · refine each_at (by simp [itemsOf]; omega) fun j u d e1 e2 => ?_
      have okp := (srtOk_parts ok).1
      have okd := okL_mem.mp okp d (List.mem_of_getElem? e2)
      rw [List.getElem?_map] at e1
      unfold itemsOf at e2
      rw [List.getElem?_map] at e2
      cases ea : as[j]? with
      | none => rw [ea] at e1; cases e1
      | some c =>
        cases ek : ks[j]? with
        | none => rw [ek] at e2; cases e2
        | some pp =>
          rw [ea] at e1; rw [ek] at e2
          cases e1; cases e2
          obtain ⟨kv, q1, q2, q3⟩ := rk.get ek
          obtain ⟨u1, u2, r1, r2, e3⟩ := at_ j c kv ea q1
          have ok1 : okD 59 pp.1 = true ∧ okD 59 pp.2 = true := by simpa [okD, okL] using okd
          obtain ⟨a1, x1⟩ := Dp.reads I1 _ _ _ (Rp.dp sb 59 _ _ ok1.1 (keyOf_rp q2)) r1
          obtain ⟨a2, x2⟩ := Dp.reads I1 _ _ _ (Rp.dp sb 59 _ _ ok1.2 q3) r2
          exact ⟨_, .tuple e3 rfl rfl (.cons x1 (.cons x2 .nil))⟩
    · have : (as.zip (kvs.map fun kv => [kV kv.1, kv.2])).map (·.1) = as := by
        rw [List.map_fst_zip (by simp; omega)]
      rw [this]
      exact hG.rise.imp fun h => Nat.ne_of_lt h
    · intro c hc'
      have : (as.zip (kvs.map fun kv => [kV kv.1, kv.2])).map (·.1) = as := by
        rw [List.map_fst_zip (by simp; omega)]
      rw [this] at hc'
      exact hG.there hc'
    · intro c ws hm
      obtain ⟨j, hj⟩ := List.mem_iff_getElem?.mp hm
      rw [List.getElem?_zip_eq_some, List.getElem?_map] at hj
      obtain ⟨j1, j2⟩ := hj
      cases ek : kvs[j]? with
      | none => rw [ek] at j2; cases j2
      | some kv =>
        rw [ek] at j2
        cases j2
        obtain ⟨u1, u2, r1, r2, e3⟩ := at_ j c kv j1 ek
        exact ⟨Nat.le_of_lt (hG.above c (List.mem_of_getElem? j1)), by rw [sizeLine_eq]; exact (by decide : 2 ≤ 16777216), [u1, u2], .cons r1 (.cons r2 .nil), e3⟩
  · rintro T s1 s' l out c ⟨g1, g2, g3, g4, g5, g7, g6⟩ kp hg ho hl' e ev
    have kk : ∀ b o, s.heap.get? b = some o → s'.heap.get? b = some o := fun b o q => kp b o (g1 b o q)
    have low : ∀ c, T.lookup c ≠ none → s.heap.objs.size ≤ c ∧ c < l := fun c hc' => by
      obtain ⟨ws, e⟩ := Option.ne_none_iff_exists'.mp hc'
      have m := lookup_mem e
      exact ⟨(g6 c ws m).1, Nat.lt_of_lt_of_le (g5 c (List.mem_map.mpr ⟨_, m, rfl⟩)) hl'⟩
    have old : ∀ c, c < s.heap.objs.size → T.lookup c = none := fun c hc' => by
      cases q : T.lookup c with
      | none => rfl
      | some ws => exact absurd (low c (by rw [q]; simp)).1 (by omega)
    have hsl : s.heap.objs.size ≤ l := by omega
    have hTl : T.lookup l = none := by
      cases q : T.lookup l with
      | none => rfl
      | some ws => exact absurd (low l (by rw [q]; simp)).2 (Nat.lt_irrefl _)
    -- what stands in the new list
    have outs : ∃ ws, Vals ws out ∧ RpL X.K (trk T S) ws (sortD (itemsOf ks)) := by
      have ex : Ext S (trk T S) := fun c u q => by
        have hlt : c < s.heap.objs.size := by
          rcases Nat.lt_or_ge c s.heap.objs.size with z | z
          · exact z
          · exact absurd (I.hok.fresh z) (sb.ne q)
        unfold trk; rw [old c hlt]; exact q
      have aux : ∀ {us : List Value} {ds : List D}, EachIs (fun u d => ∃ c ws ds, u = .ref c ∧ (c, ws) ∈ T ∧ d = .tup ds ∧ RpL X.K S ws ds) us ds → ∃ ws, Vals ws us ∧ RpL X.K (trk T S) ws ds := by
        intro us ds h
        induction h with
        | nil => exact ⟨[], .nil, .nil⟩
        | cons h t ih =>
          obtain ⟨c, ws, ds', rfl, hm, rfl, hr⟩ := h
          obtain ⟨vs', i1, i2⟩ := ih
          exact ⟨.ref c :: vs', .cons rfl i1, .cons (.tup (by unfold trk; rw [lookup_in g4 hm]) (hr.mono ex)) i2⟩
      exact aux ev
    obtain ⟨ws, w1, w2⟩ := outs
    have wl : ws.length ≤ sizeLine := by rw [w2.length, sortD_len]; exact lim_ok (srtOk_parts ok).2.2.2
    have I2 : Inv X pins σ (upd (trk T H) l (.lst ws)) s' := by
      refine inv_many I (ho.trans g3) (hg.trans g2) kk (fun c hc' => ?_) fun c o hc' q => ?_
      · rw [upd_ne (Nat.ne_of_lt (Nat.lt_of_lt_of_le hc' hsl))]
        unfold trk; rw [old c hc']
      · by_cases z : c = l
        · subst z; rw [upd_same] at q; cases q; exact ⟨wl, out, _, w1, e⟩
        · rw [upd_ne z] at q
          unfold trk at q
          split at q
          · rename_i us e'
            cases q
            obtain ⟨h1, h2, its, h3, h4⟩ := g6 c us (lookup_mem e')
            exact ⟨h2, its, h3, _, kp _ _ h4, rfl, 0, rfl⟩
          · rw [I.hok.fresh hc'] at q; cases q
    have gr : Gr lk S H (upd (trk T S) l (.lst ws)) (upd (trk T H) l (.lst ws)) := by
      refine ⟨fun c u q => ?_, fun c hc' => ?_⟩
      · by_cases z : c = l
        · subst z; rw [upd_same] at q ⊢; exact .inl q
        · rw [upd_ne z] at q ⊢
          unfold trk at q ⊢
          split at q
          · exact .inl q
          · exact sb c u q
      · have hlt : c < s.heap.objs.size := by
          rcases Nat.lt_or_ge c s.heap.objs.size with z | z
          · exact z
          · exact absurd (I.hok.fresh z) hc'
        have ncl := Nat.ne_of_lt (Nat.lt_of_lt_of_le hlt hsl)
        rw [upd_ne ncl, upd_ne ncl]
        unfold trk
        rw [old c hlt]
        exact ⟨rfl, rfl⟩
    refine ⟨.ref l, _, I2, rfl, k _ _ _ gr (.lst upd_same (w2.mono fun c u q => ?_))⟩
    have z : c ≠ l := fun z => by
      subst z
      unfold trk at q
      rw [hTl] at q
      exact absurd (I.hok.fresh hsl) (sb.ne q)
    rw [upd_ne z]; exact q
theorem je_sitems {o : Expr} {p1 apos ipos pos : Pos} {f : Env → Option D} (hc : X.calm = true) (hu : X.A.units + 64 < cLine) (hg : Gl X "sorted") (hm : X.mg "sorted" = none) (h : JW X false o f)
    (hbase : attributeBase o "items" X.env (eval o X.env) = eval o X.env := by rfl) (hline : (apos.endLine == ipos.line) = true := by rfl)
    (he : starEach [.Call (.Attribute o "items" apos) [] [] ipos] X.env = (false, eval (.Call (.Attribute o "items" apos) [] [] ipos) X.env) :: starEach [] X.env := by rfl) (hpl : (backTo pos (starEach [] X.env)).any (·.1) = false := by rfl) :
    JE X false (.Call (.Name "sorted" p1) [.Call (.Attribute o "items" apos) [] [] ipos] [] pos) (mapE sitemsD f) :=
  ⟨PE_imp (pe_callB (cr_sortedIK hc hu) hg hm (by decide +kernel) (pa_cons (pe_bm0 PySem.F.plainAttrs_dict PySem.F.slot_dict_items PySem.F.type_dict_items mt_itemsK h.pe hbase hline) pa_nil he) (by decide) (by decide) he hpl) fun σ H Q ⟨lk, B, S, ρ, d, q1, q2, q3, q4, k⟩ => by
  obtain rfl := q1 rfl
  unfold mapE at q4
  split at q4
  · cases q4
  rename_i x e1
  unfold sitemsD at q4
  split at q4
  · rename_i ks
    split at q4
    · rename_i ok
      cases q4
      refine ⟨none, B, S, ρ, _, fun _ => rfl, q2, q3, e1, fun v S1 H1 g1 r1 => ?_⟩
      obtain ⟨a, kvs, rfl, e2, e3, r2⟩ := r1.dct_inv g1.1
      have ha := e3 rfl
      refine ⟨.inr (.inr (.inl ⟨rfl, .inl ⟨kvs, ha⟩⟩)), a, kvs, rfl, rfl, ha, fun p hp => ?_⟩
      have g2 := Gr.own (o := itemsO p a) g1.1 hp
      have hpa : p ≠ a := fun z => by rw [← z, hp] at ha; cases ha
      refine ⟨p, a, kvs, none, S1, ks, rfl, upd_same, by rw [upd_ne (Ne.symm hpa)]; exact ha, g2.1, r2, ok, fun v S' H' g r => k v S' H' (g1.trans (g2.trans g)) r⟩
    · cases q4
  · cases q4⟩
end
end Fo
end
-- FoH1.lean
set_option Elab.async false
set_option linter.all false
set_option maxRecDepth 100000
set_option maxHeartbeats 2000000
noncomputable section
namespace Fo
open PySem L2

theorem hu_ {k n : Nat} {A : Around} (hr : Room k A) (h : n ≤ 200) : A.units + n < cLine := by
  have := hr.un
  omega
/-- the module's def x, G what it gives back -/
structure Has (P : Program) (w : World) (K : PySem.W.Frag) (mg : PySem.Str → Option Value) (base : Heap) (k : Nat) (x : PySem.Str) (ps : List PySem.Str) (G : List D → Option D) : Prop where
  ex : ∃ f fd, mg x = some (.ref f) ∧ PySem.W.keepIn K (.ref f) = true ∧ Binds K fd ps [] ∧ FnOk P w K mg base CX0 k f fd ps (spD K ps.length G)
abbrev FnP (K : PySem.W.Frag) (x : PySem.Str) (st : Stmt) (f : Addr) (fd : FuncData) : Prop := FunD K x x (defArgs st) (defBody st) (defScope st) [] [] f fd
section
variable {X : Cx} {b : Bool} {EX : Nat → Value} {E : XK} {e a c : Expr} {pos : Pos} {st : Stmt} {f g : Env → Option D}
theorem je_callH {m k n : Nat} {ps : List PySem.Str} {G : List D → Option D} {x : PySem.Str} {p : Pos} {es : List Expr} {fs : Env → Option (List D)} (h : Has X.prog X.w X.K X.mg X.base k x ps G) (hr : Room m X.A) (hk : k ≤ m) (hg : Gl X x) (ha : JA X false (e :: es) fs) (hn : ps.length = n := by rfl)
    (hdb : (x == ("__debug__" : PySem.Str)) = false := by decide) (he : starEach (e :: es) X.env = (false, eval e X.env) :: starEach es X.env := by rfl) (hpl : (backTo pos (starEach es X.env)).any (·.1) = false := by rfl) :
    JE X false (.Call (.Name x p) (e :: es) [] pos) (callN n G fs) := by
  subst hn
  obtain ⟨f, fd, hm, hkp, hb, F⟩ := h.ex
  exact je_call F (hr.mono hk) hg hm hkp hb ha hdb he hpl
/-- a def from its body -/
theorem mkFn {P : Program} {w : World} {K : PySem.W.Frag} {mg : PySem.Str → Option Value} {base : Heap} {x : PySem.Str} {st : Stmt} {f : Addr} {fd : FuncData} {N ps : List PySem.Str} {n k : Nat} {fb : Env → Option Out} (F : FnP K x st f fd) (S : FnScope N ps (defScope st)) (hn : N.length = n)
    (body : ∀ (cdv : Value) (A : Around) (outer : List PySem.Env) (s : Shared) (H : Hp) (E : XK), Room k (A.deeper (PyProof.Rows.envOfC x (defScope st) s.heap.objs.size f cdv)) → JSs (cxOf CX0 P w K mg base N x (defScope st) f cdv A outer s H E).nox (fun _ => .none) (fun _ _ _ => False) (defBody st) fb) :
    FnOk P w K mg base CX0 (k + 1) f fd ps (spD K ps.length (runF n fb)) := by
  subst hn
  refine F.ok S (fun vs H Q E ⟨S', ds, z, h1, h2, h3, _⟩ => by rw [h2.length]; exact h3) (fun cdv A outer s H vs Q E hr ⟨S', ds, z, h1, h2, h3, h4, q⟩ => ⟨_, PSs.nox (body cdv A outer s H E hr).pss, ?_⟩)
  unfold runF at h4
  cases e : fb (envOf N.length ds) with
  | none => rw [e] at h4; cases h4
  | some o =>
  rw [e] at h4
  refine ⟨S', H, S', _, o, h1, Gr.refl h1, er_start h2, e, ?_⟩
  cases o with
  | rt d => cases h4; exact fun S1 H1 v g _ r => q v S1 H1 g r
  | nx ρ => cases h4; exact fun S1 H1 σ g _ _ => q _ S1 H1 g .non
  | bk ρ => cases h4
  | ct ρ => cases h4
  | ex n => cases h4
theorem toHas {P : Program} {w : World} {K : PySem.W.Frag} {mg : PySem.Str → Option Value} {base : Heap} {x : PySem.Str} {st : Stmt} {f : Addr} {fd : FuncData} {ps : List PySem.Str} {k : Nat} {G : List D → Option D} (F : FnP K x st f fd) (hm : mg x = some (.ref f)) (ok : FnOk P w K mg base CX0 k f fd ps (spD K ps.length G))
    (hb : ∀ (kV doc pm : Value) (an : Option Addr) (cdv ct : Value) (us : List Value), us.length = ps.length → bindArgs (PySem.W.fnOf x x (defArgs st) (defBody st) (defScope st) .none kV doc pm an cdv ct) ⟨us, []⟩ = pure (ps.zip us)) : Has P w K mg base k x ps G := ⟨f, fd, hm, F.kp, F.bindsN hb, ok⟩
/-- the law's promise: the answer True -/
theorem sp_true {K : PySem.W.Frag} {G : List D → Option D} {n : Nat} (math : ∀ ns : List Int, ns.length ≤ n → G [.scr ns] = some (.bl true)) (H : Hp) (a : Addr) (ns : List Int) (hl : ns.length ≤ n) (hS : SqL K H a (ns.map V.int)) (E : XK) : spD K 1 G [.ref a] H (fun v _ => v = .bl true) E :=
  ⟨H, [.scr ns], .bl true, fun b u e => .inl e, .cons (.scr hS) .nil, rfl, math ns hl, fun v S' H' _ r => by cases r; rfl⟩
/-- a list just made, handed on at once -/
theorem js_toD {i : Nat} {ff : Env → Option (List D)} (h : JS X EX E st (ownS i ff)) : JS X EX E st (asgS i (fun ρ => (ff ρ).map .lst)) := ⟨PS_imp h.ps fun T σ H ⟨S0, B, S, ρ, o, h1, h2, h3, h4, k⟩ => by
  unfold asgS at h4
  dsimp only at h4
  cases e : ff ρ with
  | none => rw [e] at h4; cases h4
  | some ds =>
    rw [e] at h4
    cases h4
    refine ⟨S0, B, S, ρ, .nx (ρ.set i (some (.l ds))), h1, h2, h3, by unfold ownS; rw [e], fun S' H' σ' g x er => ?_⟩
    obtain ⟨S2, a1, a2, a3, a4⟩ := rel_ok i g.1 g er
    refine k S2 H' σ' a2 (x.trans a3) ?_
    have : relC i (ρ.set i (some (.l ds))) = ρ.set i (some (.d (.lst ds))) := by
      by_cases hi : i < ρ.length
      · unfold relC
        rw [List.getElem?_set_self hi]
        simp
      · have e1 : ρ.set i (some (.l ds)) = ρ := List.set_eq_of_length_le (by omega)
        have e2 : ρ.set i (some (.d (.lst ds))) = ρ := List.set_eq_of_length_le (by omega)
        rw [e1, e2]
        unfold relC
        rw [List.getElem?_eq_none (by omega)]
    rw [this] at a4
    exact a4⟩
def ifE (p : Env → Option Bool) (f g : Env → Option D) : Env → Option D := fun ρ => match p ρ with
  | some true => f ρ
  | some false => g ρ
  | none => none
theorem je_ifx {p : Env → Option Bool} (hc : JT X b c p) (ha : JE X b e f) (hb : JE X b a g) : JE X b (.IfExp c e a pos) (ifE p f g) := ⟨PE_imp (pe_ifExp hc.pt ha.pe hb.pe) fun σ H Q ⟨lk, B, S, ρ, d, h1, h2, h3, h4, k⟩ => by
  unfold ifE at h4
  split at h4
  · rename_i e1
    exact ⟨lk, B, S, ρ, true, h1, h2, h3, e1, fun S' H' g => by
      (try dsimp only)
      rw [if_pos rfl]
      exact ⟨lk, B, S', ρ, d, h1, g.1, h3.gr h2 g, h4, fun v S2 H2 g2 r => k v S2 H2 (g.trans g2) r⟩⟩
  · rename_i e1
    exact ⟨lk, B, S, ρ, false, h1, h2, h3, e1, fun S' H' g => by
      (try dsimp only)
      rw [if_neg (by decide)]
      exact ⟨lk, B, S', ρ, d, h1, g.1, h3.gr h2 g, h4, fun v S2 H2 g2 r => k v S2 H2 (g.trans g2) r⟩⟩
  · cases h4⟩
theorem js_ret0 : JS X EX E (.Return none pos) (retS (cst .non)) := ⟨PS_imp ps_retN fun T σ H ⟨S0, B, S, ρ, o, h1, h2, h3, h4, k⟩ => by
  cases h4
  exact k S H _ h2 (Ext.refl S) .non⟩
/-! tuple, list: of a text, too -/
def tupleX : List D → Option D
  | [.str x] => if x.length ≤ LIM then some (.tup (sgns x)) else none
  | ds => tupleD ds
def listX : List D → Option D
  | [.str x] => if x.length ≤ LIM then some (.lst (sgns x)) else none
  | ds => listD ds
theorem sgns_vals {x : Tx} {acc : Array Value} (h : ItemsOf (SignAt (tx x)) acc (tx x).cps.size) (K : PySem.W.Frag) (S : Hp) : ∃ vs, Vals vs acc.toList ∧ RpL K S vs (sgns x) := by
  have hx : (tx x).cps.size = x.length := by simp [tx]
  have h1 := h.1
  refine ⟨x.map fun c => .str (tx [c]), vals_of_at (by simp [h1, hx]) fun j v u e1 e2 => ?_, ?_⟩
  · rw [List.getElem?_map] at e1
    cases e : x[j]? with
    | none => rw [e] at e1; cases e1
    | some c =>
      rw [e] at e1
      cases e1
      obtain ⟨c', t, e3, rfl⟩ := h.2 j u (by rw [← Array.getElem?_toList]; exact e2)
      have e4 : x[j]? = some c' := by simpa [tx] using e3
      rw [e] at e4
      cases e4
      exact ⟨t, rfl⟩
  · clear h h1 hx
    unfold sgns
    induction x with
    | nil => exact .nil
    | cons c x ih => exact .cons (.str [c]) ih
theorem sgns_len (x : Tx) : (sgns x).length = x.length := by simp [sgns]
theorem cr_tupleX (hc : X.calm = true) : CallR X (.type "tuple") (rCof X.K b tupleX) := by
  intro pins s σ H xs us Q I r h
  obtain ⟨lk, S, ds, z, h1, h2, h3, h4, k⟩ := h
  unfold tupleX at h4
  split at h4
  · rename_i x
    split at h4
    · rename_i hl
      cases h4
      obtain ⟨v, rfl, rv⟩ := pair1 h3
      obtain rfl := rv.str_inv
      obtain ⟨u, rfl, ru⟩ := vals1 r
      obtain ⟨t, rfl⟩ := ru
      have hx : (tx x).cps.size = x.length := by simp [tx]
      refine call_tuple_str (I.ok.hd hc) (tx x) t (fun h' tk acc kp it => ?_) (by rw [hx]; exact lim_ok hl)
      obtain ⟨vs, v1, v2⟩ := sgns_vals it X.K S
      have I1 : Inv X pins σ H { s with heap := h', toks := tk } := I.kept kp
      have hn : H h'.objs.size = none := I1.hok.fresh (Nat.le_refl _)
      refine ⟨.ref h'.objs.size, upd H h'.objs.size (.tup vs), I1.laid (t' := tk) (fun c o e => Heap.get?_push_of_some _ e) (Nat.le_refl _) (show ObjOk X.prog X.w _ _ _ (.tup vs) from ⟨?_, acc.toList, v1, ?_⟩), rfl, new_tup h2 v2 k hn⟩
      · rw [v2.length, sgns_len]; exact lim_ok hl
      · rw [Array.toArray_toList]; exact ⟨_, Heap.get?_push_size _ rfl, rfl, 0, rfl⟩
    · cases h4
  · exact cr_tuple pins s σ H xs us Q I r ⟨lk, S, _, z, h1, h2, h3, h4, k⟩
theorem cr_listX (hc : X.calm = true) : CallR X (.type "list") (rCof X.K b listX) := by
  intro pins s σ H xs us Q I r h
  obtain ⟨lk, S, ds, z, h1, h2, h3, h4, k⟩ := h
  unfold listX at h4
  split at h4
  · rename_i x
    split at h4
    · rename_i hl
      cases h4
      obtain ⟨v, rfl, rv⟩ := pair1 h3
      obtain rfl := rv.str_inv
      obtain ⟨u, rfl, ru⟩ := vals1 r
      obtain ⟨t, rfl⟩ := ru
      have hx : (tx x).cps.size = x.length := by simp [tx]
      refine call_list_str (I.ok.hd hc) (tx x) t (fun h' tk acc c kp e it => ?_) (by rw [hx]; exact lim_ok hl)
      obtain ⟨vs, v1, v2⟩ := sgns_vals it X.K S
      have hn : H s.heap.objs.size = none := I.hok.fresh (Nat.le_refl _)
      refine ⟨.ref s.heap.objs.size, upd H s.heap.objs.size (.lst vs), I.laid kp (Nat.le_refl _) (show ObjOk X.prog X.w _ _ _ (.lst vs) from ⟨?_, acc.toList, c, v1, ?_⟩), rfl, new_lst h2 v2 k hn⟩
      · rw [v2.length, sgns_len]; exact lim_ok hl
      · rw [Array.toArray_toList]; exact e
    · cases h4
  · exact cr_list pins s σ H xs us Q I r ⟨lk, S, _, z, h1, h2, h3, h4, k⟩
end
section
open PySem PySem.Spec PyProof.Rows L2
theorem tuple_mul1 (l : Addr) (items : Array Value) (n : Nat) (dd : Option Addr) (sl : Array (Option Value)) (u : Tok) :
    Meets (Builtin.«tuple.__mul__» ⟨[.ref l, .int 1 u], []⟩) (fun _ R s => s.heap.get? l = some { cls := .type "tuple", dict := dd, data := .seq items n, slots := sl } ∧
      R (.ok (.ret (Value.ref l))) s) :=
  .of_wp fun prog w A R s h => by
    obtain ⟨hp, g, d, tk, os⟩ := s
    obtain ⟨hl, h⟩ := h
    have f1 := AutoSeq1.idx_int
    have c1 : (items.isEmpty || (1 : Int) == 1) = true := by simp
    wp_walk using wpAny_loadPart' hl
    repeat (first
      | (refine wpAny_ite_false (decide_eq_false (by decide)) ?_; wp_walk using wpAny_loadPart' hl)
      | (refine wpAny_ite_true (decide_eq_true c1) ?_; wp_walk using wpAny_loadPart' hl))
    exact ⟨_, rfl, h⟩
theorem tuple_mul0 (l : Addr) (items : Array Value) (n : Nat) (dd : Option Addr) (sl : Array (Option Value)) (u : Tok) (hi : items.isEmpty = false) :
    Meets (Builtin.«tuple.__mul__» ⟨[.ref l, .int 0 u], []⟩) (fun _ R s => s.heap.get? l = some { cls := .type "tuple", dict := dd, data := .seq items n, slots := sl } ∧
      R (.ok (.ret (Value.ref s.heap.objs.size))) { s with heap := s.heap.push { cls := Value.type "tuple", data := Data.seq #[] }, toks := s.toks }) :=
  .of_wp fun prog w A R s h => by
    obtain ⟨hp, g, d, tk, os⟩ := s
    obtain ⟨hl, h⟩ := h
    have f1 := AutoSeq1.idx_int
    have c1 : (items.isEmpty || (0 : Int) == 1) = false := by simp [hi]
    have c2 : (decide ((0 : Int) ≤ 0) || items.isEmpty) = true := by simp
    wp_walk using wpAny_loadPart' hl
    repeat (first
      | (refine wpAny_ite_false (decide_eq_false (by decide)) ?_; wp_walk using wpAny_loadPart' hl)
      | (refine wpAny_ite_false (decide_eq_false (by rw [c1]; exact Bool.false_ne_true)) ?_; wp_walk using wpAny_loadPart' hl)
      | (refine wpAny_ite_true (decide_eq_true c2) ?_; wp_walk using wpAny_loadPart' hl))
    exact ⟨_, rfl, h⟩

variable {X : Cx}
theorem op_repT1 : OpR X (binaryOp .Mult) (fun x y H Q => ∃ l xs, x = .ref l ∧ y = .int 1 ∧ SqT X.K H l xs ∧ Q (.ref l) H) := by
  intro pins s σ H x y v u Q I rx ry h
  obtain ⟨l, xs, rfl, rfl, hT, q⟩ := h
  cases rx
  obtain ⟨t, rfl⟩ := ry
  obtain ⟨its, r, ⟨⟨cls, dd, data, sl⟩, ho, hc, n, hd⟩, hs⟩ := I.tuple hT
  simp only at hc hd
  subst hc hd
  refine wpAny_binaryOp_repeat_ref (T := "tuple") (U := "int") (by decide) ⟨_, ho, rfl⟩ (fun s' => typeIs_int s' 1 t) noFill_tuple_mul F.fills_int_mul F.slot_int_rmul repeat_tuple F.slot_int_index.lookup
    (call_meets F.slot_int_rmul (typeIs_int s 1 t) F.entry_int_rmul (F.args_int_rmul_2 _ _) (int_rmul_tuple 1 t l its.toArray n dd sl)
      ⟨ho, rfl, ⟨_, ho, rfl⟩, call_meets F.slot_tuple_mul ⟨_, ho, rfl⟩ F.entry_tuple_mul (F.args_tuple_mul_2 _ _) (tuple_mul1 l its.toArray n dd sl t) ⟨ho, ?_⟩⟩)
  exact ⟨.ref l, H, I, rfl, q⟩
theorem op_repT0 : OpR X (binaryOp .Mult) (fun x y H Q => ∃ l xs, x = .ref l ∧ y = .int 0 ∧ SqT X.K H l xs ∧ xs ≠ [] ∧ ∀ p, H p = none → Q (.ref p) (upd H p (.tup []))) := by
  intro pins s σ H x y v u Q I rx ry h
  obtain ⟨l, xs, rfl, rfl, hT, hne, q⟩ := h
  cases rx
  obtain ⟨t, rfl⟩ := ry
  obtain ⟨its, r, ⟨⟨cls, dd, data, sl⟩, ho, hc, n, hd⟩, hs⟩ := I.tuple hT
  simp only at hc hd
  subst hc hd
  have hle : its.length = xs.length := r.length.symm
  have hi : its.toArray.isEmpty = false := by
    cases its with
    | nil => exact absurd (List.eq_nil_of_length_eq_zero hle.symm) hne
    | cons a b => rfl
  refine wpAny_binaryOp_repeat_ref (T := "tuple") (U := "int") (by decide) ⟨_, ho, rfl⟩ (fun s' => typeIs_int s' 0 t) noFill_tuple_mul F.fills_int_mul F.slot_int_rmul repeat_tuple F.slot_int_index.lookup
    (call_meets F.slot_int_rmul (typeIs_int s 0 t) F.entry_int_rmul (F.args_int_rmul_2 _ _) (int_rmul_tuple 0 t l its.toArray n dd sl)
      ⟨ho, rfl, ⟨_, ho, rfl⟩, call_meets F.slot_tuple_mul ⟨_, ho, rfl⟩ F.entry_tuple_mul (F.args_tuple_mul_2 _ _) (tuple_mul0 l its.toArray n dd sl t hi) ⟨ho, ?_⟩⟩)
  refine ⟨.ref s.heap.objs.size, _, I.laid (t' := s.toks) (o := .tup []) (fun b ob q => Heap.get?_push_of_some _ q) (Nat.le_refl _) ?_, rfl, q _ (I.hok.fresh (Nat.le_refl _))⟩
  exact ⟨by simp, _, .nil, IsTup.new _ _⟩
end
section
variable {X : Cx} {b : Bool} {e a c : Expr} {pos : Pos} {f g : Env → Option D}
/-! *: also tuples -/
def mulX : D → D → Option D
  | .tup xs, .int k => if k = 1 then some (.tup xs) else if xs ≠ [] ∧ k = 0 then some (.tup []) else if xs ≠ [] ∧ 2 ≤ k ∧ k ≤ 1000 ∧ xs.length ≤ 1000 then some (.tup (List.replicate k.toNat xs).flatten) else none
  | x, y => mulD x y
theorem or_mulX : OpR X (binaryOp .Mult) (rOf X.K b mulX) := by
  intro pins s σ H x y v u Q I rx ry h
  obtain ⟨lk, S, d, e, z, h1, h2, h3, h4, h5, k⟩ := h
  unfold mulX at h5
  split at h5
  · rename_i xs j
    split at h5
    · rename_i hj
      subst hj
      cases h5
      rw [h4.int_inv] at ry
      obtain ⟨a, vs, rfl, e1, e2, r1⟩ := h3.tup_inv h2
      exact op_repT1 pins s σ H _ _ v u Q I rx ry ⟨a, vs, rfl, rfl, .inl (.inl e1), k _ S H (Gr.refl h2) (.tup e2 r1)⟩
    split at h5
    · rename_i hj
      obtain ⟨hne, hj⟩ := hj
      subst hj
      cases h5
      rw [h4.int_inv] at ry
      obtain ⟨a, vs, rfl, e1, e2, r1⟩ := h3.tup_inv h2
      refine op_repT0 pins s σ H _ _ v u Q I rx ry ⟨a, vs, rfl, rfl, .inl (.inl e1), fun z => hne ?_, fun p hp => new_tup h2 .nil k hp⟩
      subst z
      cases r1
      rfl
    split at h5
    · rename_i hl
      cases h5
      obtain ⟨a, vs, rfl, e1, _, r1⟩ := h3.tup_inv h2
      rw [h4.int_inv] at ry
      obtain ⟨q1, q2, q3, q4⟩ := hl
      refine op_repT pins s σ H _ _ v u Q I rx ry ⟨a, j, vs, rfl, rfl, .inl (.inl e1), fun z => q1 ?_, q2, q3, by rw [r1.length]; exact q4, fun p hp => new_tup h2 (r1.rep _) k hp⟩
      subst z
      cases r1
      rfl
    · cases h5
  · exact or_mul pins s σ H x y v u Q I rx ry ⟨lk, S, _, _, z, h1, h2, h3, h4, h5, k⟩
end
end Fo
end
-- FoH2.lean
set_option Elab.async false
set_option linter.all false
set_option maxRecDepth 100000
set_option maxHeartbeats 2000000
noncomputable section
namespace Fo
open PySem L2
open PySem.W (dataLe dataLt alike alikeAll)

/-! ### is, is not: None, True, False -/
def isNonD : D → Bool
  | .non => true
  | _ => false
def isD : D → D → Option D
  | .raw _, .non => none
  | x, .non => some (.bl (isNonD x))
  | .bl a, .bl b => some (.bl (decide (a = b)))
  | _, _ => none
def isntD (x y : D) : Option D := notD (isD x y)
theorem rp_non {K : PySem.W.Frag} {S H : Hp} {v : V} {d : D} (r : RpW K S H v d) (h : ∀ w, d ≠ .raw w) : decide (v = V.non) = isNonD d := by
  cases r with
  | sh r =>
    cases r <;> first | exact absurd rfl (h _) | rfl | simp [isNonD]
  | ol => simp [isNonD]
  | ok => simp [isNonD]
section
variable {X : Cx} {b : Bool}
theorem or_is : OpR X (compareOp .Is) (rOf X.K b isD) := by
  intro pins s σ H x y v u Q I rx ry h
  obtain ⟨lk, S, d, e, z, h1, h2, h3, h4, h5, k⟩ := h
  unfold isD at h5
  split at h5
  · cases h5
  · rename_i hn
    cases h5
    have := h4.non_inv
    refine op_isN pins s σ H x y v u Q I rx ry ⟨this, ?_⟩
    rw [rp_non h3 (fun w z => hn w z)]
    exact k _ S H (Gr.refl h2) (.bl _)
  · cases h5
    exact op_is_bl pins s σ H x y v u Q I rx ry ⟨_, _, h3.bl_inv, h4.bl_inv, k _ S H (Gr.refl h2) (.bl _)⟩
  · cases h5
theorem or_isnt : OpR X (compareOp .IsNot) (rOf X.K b isntD) := by
  intro pins s σ H x y v u Q I rx ry h
  obtain ⟨lk, S, d, e, z, h1, h2, h3, h4, h5, k⟩ := h
  unfold isntD isD at h5
  split at h5
  · cases h5
  · rename_i hn
    cases h5
    have := h4.non_inv
    refine op_notN pins s σ H x y v u Q I rx ry ⟨this, ?_⟩
    rw [rp_non h3 (fun w z => hn w z)]
    exact k _ S H (Gr.refl h2) (.bl _)
  · cases h5
    exact op_isnot_bl pins s σ H x y v u Q I rx ry ⟨_, _, h3.bl_inv, h4.bl_inv, k _ S H (Gr.refl h2) (.bl _)⟩
  · cases h5
/-! ### all, any, sum, int, abs, min, max -/
def blsOf : List D → Option (List Bool)
  | [] => some []
  | .bl x :: ds => (blsOf ds).map (x :: ·)
  | _ :: _ => none
theorem blsOf_some : ∀ {ds : List D} {xs : List Bool}, blsOf ds = some xs → ds = xs.map .bl
  | [], xs, h => by cases h; rfl
  | d :: ds, xs, h => by
    cases d <;> simp only [blsOf, reduceCtorEq] at h
    cases e : blsOf ds with
    | none => rw [e] at h; cases h
    | some ys =>
      rw [e] at h
      cases h
      rw [blsOf_some e]; rfl
theorem blsOf_map : ∀ xs : List Bool, blsOf (xs.map .bl) = some xs
  | [] => rfl
  | x :: xs => by simp [blsOf, blsOf_map xs]
theorem rpl_bl {K : PySem.W.Frag} {S : Hp} : ∀ {xs : List Bool} {vs : List V}, RpL K S vs (xs.map .bl) → vs = xs.map V.bl
  | [], _, h => by cases h; rfl
  | x :: xs, _, h => by
    cases h with
    | cons h1 h2 => cases h1; rw [rpl_bl h2]; rfl
def allD : List D → Option D
  | [.lst ds] => (blsOf ds).map fun bs => .bl (bs.all id)
  | _ => none
def anyD : List D → Option D
  | [.lst ds] => (blsOf ds).map fun bs => .bl (bs.any id)
  | _ => none
def sumD : List D → Option D
  | [.lst ds] => (intsOf ds).map fun ns => .int ns.sum
  | _ => none
theorem cr_allD (hc : X.calm = true) : CallR X (.builtin "all") (rCof X.K b allD) := by
  intro pins s σ H xs us Q I r h
  obtain ⟨lk, S, ds, z, h1, h2, h3, h4, k⟩ := h
  unfold allD at h4
  split at h4
  · rename_i es
    cases e : blsOf es with
    | none => rw [e] at h4; cases h4
    | some bs =>
      rw [e] at h4
      cases h4
      obtain ⟨v, rfl, rv⟩ := pair1 h3
      obtain ⟨a, vs, rfl, e1, r1⟩ := rv.lst_inv h2
      rw [blsOf_some e] at r1
      have := rpl_bl r1
      subst this
      exact cr_all hc pins s σ H _ us Q I r ⟨a, bs, rfl, .inl (.inl e1), k _ S H (Gr.refl h2) (.bl _)⟩
  · cases h4
theorem cr_anyD (hc : X.calm = true) : CallR X (.builtin "any") (rCof X.K b anyD) := by
  intro pins s σ H xs us Q I r h
  obtain ⟨lk, S, ds, z, h1, h2, h3, h4, k⟩ := h
  unfold anyD at h4
  split at h4
  · rename_i es
    cases e : blsOf es with
    | none => rw [e] at h4; cases h4
    | some bs =>
      rw [e] at h4
      cases h4
      obtain ⟨v, rfl, rv⟩ := pair1 h3
      obtain ⟨a, vs, rfl, e1, r1⟩ := rv.lst_inv h2
      rw [blsOf_some e] at r1
      have := rpl_bl r1
      subst this
      exact cr_any hc pins s σ H _ us Q I r ⟨a, bs, rfl, .inl (.inl e1), k _ S H (Gr.refl h2) (.bl _)⟩
  · cases h4
theorem cr_sumD (hc : X.calm = true) : CallR X (.builtin "sum") (rCof X.K b sumD) := by
  intro pins s σ H xs us Q I r h
  obtain ⟨lk, S, ds, z, h1, h2, h3, h4, k⟩ := h
  unfold sumD at h4
  split at h4
  · rename_i es
    cases e : intsOf es with
    | none => rw [e] at h4; cases h4
    | some bs =>
      rw [e] at h4
      cases h4
      obtain ⟨v, rfl, rv⟩ := pair1 h3
      obtain ⟨a, vs, rfl, e1, r1⟩ := rv.lst_inv h2
      rw [intsOf_some e] at r1
      have := rpl_int r1
      subst this
      exact cr_sum hc pins s σ H _ us Q I r ⟨a, bs, rfl, .inl (.inl e1), k _ S H (Gr.refl h2) (.int _)⟩
  · cases h4
def intD : List D → Option D
  | [.int i] => some (.int i)
  | [.bl k] => some (.int (if k then 1 else 0))
  | _ => none
theorem cr_intD : CallR X (.type "int") (rCof X.K b intD) := by
  intro pins s σ H xs us Q I r h
  obtain ⟨lk, S, ds, z, h1, h2, h3, h4, k⟩ := h
  unfold intD at h4
  split at h4
  · cases h4
    obtain ⟨v, rfl, rv⟩ := pair1 h3
    obtain rfl := rv.int_inv
    exact call_int1 pins s σ H _ us Q I r (.inl ⟨_, rfl, k _ S H (Gr.refl h2) (.int _)⟩)
  · cases h4
    obtain ⟨v, rfl, rv⟩ := pair1 h3
    obtain rfl := rv.bl_inv
    exact call_int1 pins s σ H _ us Q I r (.inr ⟨_, rfl, k _ S H (Gr.refl h2) (.int _)⟩)
  · cases h4
def absD : List D → Option D
  | [.int i] => some (.int (if i < 0 then -i else i))
  | _ => none
theorem cr_absD : CallR X (.builtin "abs") (rCof X.K b absD) := by
  intro pins s σ H xs us Q I r h
  obtain ⟨lk, S, ds, z, h1, h2, h3, h4, k⟩ := h
  unfold absD at h4
  split at h4
  · cases h4
    obtain ⟨v, rfl, rv⟩ := pair1 h3
    obtain rfl := rv.int_inv
    exact call_abs pins s σ H _ us Q I r ⟨_, rfl, k _ S H (Gr.refl h2) (.int _)⟩
  · cases h4
def min2D : List D → Option D
  | [.int i, .int j] => some (.int (if j < i then j else i))
  | _ => none
def max2D : List D → Option D
  | [.int i, .int j] => some (.int (if j > i then j else i))
  | _ => none
theorem cr_min2D (hc : X.calm = true) : CallR X (.builtin "min") (rCof X.K b min2D) := by
  intro pins s σ H xs us Q I r h
  obtain ⟨lk, S, ds, z, h1, h2, h3, h4, k⟩ := h
  unfold min2D at h4
  split at h4
  · cases h4
    obtain ⟨v, u, rfl, rv, ru⟩ := pair2 h3
    obtain rfl := rv.int_inv
    obtain rfl := ru.int_inv
    exact call_min2 hc pins s σ H _ us Q I r ⟨_, _, rfl, k _ S H (Gr.refl h2) (.int _)⟩
  · cases h4
theorem cr_max2D (hc : X.calm = true) : CallR X (.builtin "max") (rCof X.K b max2D) := by
  intro pins s σ H xs us Q I r h
  obtain ⟨lk, S, ds, z, h1, h2, h3, h4, k⟩ := h
  unfold max2D at h4
  split at h4
  · cases h4
    obtain ⟨v, u, rfl, rv, ru⟩ := pair2 h3
    obtain rfl := rv.int_inv
    obtain rfl := ru.int_inv
    exact call_max2 hc pins s σ H _ us Q I r ⟨_, _, rfl, k _ S H (Gr.refl h2) (.int _)⟩
  · cases h4
def maxI (n : Int) (ns : List Int) : Int := ns.foldl (fun m x => if x > m then x else m) n
theorem maxI_ok (n : Int) (ns : List Int) : maxI n ns ∈ n :: ns ∧ ∀ y ∈ n :: ns, y ≤ maxI n ns := by
  unfold maxI
  induction ns generalizing n with
  | nil => simp
  | cons x ns ih =>
    rw [List.foldl_cons]
    by_cases hx : x > n
    · rw [if_pos hx]
      obtain ⟨h1, h2⟩ := ih x
      refine ⟨List.mem_cons_of_mem _ h1, fun y hy => ?_⟩
      have h0 := h2 _ (List.mem_cons_self ..)
      rcases List.mem_cons.mp hy with e | e
      · subst e; omega
      · exact h2 y e
    · rw [if_neg hx]
      obtain ⟨h1, h2⟩ := ih n
      have h0 := h2 _ (List.mem_cons_self ..)
      refine ⟨?_, fun y hy => ?_⟩
      · rcases List.mem_cons.mp h1 with e | e
        · rw [e]; simp
        · exact List.mem_cons_of_mem _ (List.mem_cons_of_mem _ e)
      · rcases List.mem_cons.mp hy with e | e
        · subst e; exact h0
        · rcases List.mem_cons.mp e with e | e
          · subst e; omega
          · exact h2 y (List.mem_cons_of_mem _ e)
def max1D : List D → Option D
  | [.lst ds] => (match intsOf ds with
    | some (n :: ns) => some (.int (maxI n ns))
    | _ => none)
  | _ => none
theorem cr_max1D (hc : X.calm = true) : CallR X (.builtin "max") (rCof X.K b max1D) := by
  intro pins s σ H xs us Q I r h
  obtain ⟨lk, S, ds, z, h1, h2, h3, h4, k⟩ := h
  unfold max1D at h4
  split at h4
  · split at h4
    · rename_i n ns e
      cases h4
      obtain ⟨v, rfl, rv⟩ := pair1 h3
      obtain ⟨a, vs, rfl, e1, r1⟩ := rv.lst_inv h2
      rw [intsOf_some e] at r1
      have := rpl_int r1
      subst this
      refine cr_max hc pins s σ H _ us Q I r ⟨a, n :: ns, rfl, .inl (.inl e1), by simp, fun m hm hy => ?_⟩
      obtain ⟨p1, p2⟩ := maxI_ok n ns
      have : m = maxI n ns := Int.le_antisymm (p2 m hm) (hy _ p1)
      rw [this]
      exact k _ S H (Gr.refl h2) (.int _)
    · cases h4
  · cases h4
end
/-! data of one reading -/
mutual
theorem py_inj : ∀ {n m : Nat} (a c : D), okD n a = true → okD m c = true → py a = py c → a = c
  | n, m, .non, c, h1, h2, e => by cases c <;> simp [py] at e <;> first | rfl | (cases m <;> simp [okD] at h2)
  | n, m, .bl b, c, h1, h2, e => by cases c <;> simp [py] at e; rw [e]
  | n, m, .int b, c, h1, h2, e => by cases c <;> simp [py] at e; rw [e]
  | n, m, .str b, c, h1, h2, e => by cases c <;> simp [py] at e; rw [tx_inj e]
  | n + 1, m + 1, .tup xs, .tup ys, h1, h2, e => by
    simp only [py, PyData.tuple.injEq] at e
    rw [pyL_inj xs ys (by simpa [okD] using h1) (by simpa [okD] using h2) e]
  | n + 1, m + 1, .lst xs, .lst ys, h1, h2, e => by
    simp only [py, PyData.list.injEq] at e
    rw [pyL_inj xs ys (by simpa [okD] using h1) (by simpa [okD] using h2) e]
  | 0, _, .tup _, _, h1, _, _ => by simp [okD] at h1
  | 0, _, .lst _, _, h1, _, _ => by simp [okD] at h1
  | n + 1, 0, .tup _, .tup _, _, h2, _ => by simp [okD] at h2
  | n + 1, 0, .lst _, .lst _, _, h2, _ => by simp [okD] at h2
  | n + 1, _, .tup _, .non, _, _, e => by simp [py] at e
  | n + 1, _, .tup _, .bl _, _, _, e => by simp [py] at e
  | n + 1, _, .tup _, .int _, _, _, e => by simp [py] at e
  | n + 1, _, .tup _, .str _, _, _, e => by simp [py] at e
  | n + 1, _, .tup _, .lst _, _, _, e => by simp [py] at e
  | n + 1, _, .tup _, .dct _, _, _, e => by simp [py] at e
  | n + 1, _, .tup _, .scr _, _, _, e => by simp [py] at e
  | n + 1, _, .tup _, .raw _, _, _, e => by simp [py] at e
  | n + 1, _, .lst _, .non, _, _, e => by simp [py] at e
  | n + 1, _, .lst _, .bl _, _, _, e => by simp [py] at e
  | n + 1, _, .lst _, .int _, _, _, e => by simp [py] at e
  | n + 1, _, .lst _, .str _, _, _, e => by simp [py] at e
  | n + 1, _, .lst _, .tup _, _, _, e => by simp [py] at e
  | n + 1, _, .lst _, .dct _, _, _, e => by simp [py] at e
  | n + 1, _, .lst _, .scr _, _, _, e => by simp [py] at e
  | n + 1, _, .lst _, .raw _, _, _, e => by simp [py] at e
  | n, _, .dct _, _, h, _, _ => by cases n <;> simp [okD] at h
  | n, _, .scr _, _, h, _, _ => by cases n <;> simp [okD] at h
  | n, _, .raw _, _, h, _, _ => by cases n <;> simp [okD] at h
theorem pyL_inj : ∀ {n m : Nat} (a c : List D), okL n a = true → okL m c = true → pyL a = pyL c → a = c
  | n, m, [], [], _, _, _ => rfl
  | n, m, [], _ :: _, _, _, e => by simp [pyL] at e
  | n, m, _ :: _, [], _, _, e => by simp [pyL] at e
  | n, m, a :: as, c :: cs, h1, h2, e => by
    have h1' : okD n a = true ∧ okL n as = true := by simpa [okL] using h1
    have h2' : okD m c = true ∧ okL m cs = true := by simpa [okL] using h2
    simp only [pyL, List.cons.injEq] at e
    rw [py_inj a c h1'.1 h2'.1 e.1, pyL_inj as cs h1'.2 h2'.2 e.2]
end
end Fo
end
-- FoH3.lean
set_option Elab.async false
set_option linter.all false
set_option maxRecDepth 100000
set_option maxHeartbeats 2000000
noncomputable section
namespace Fo
open PySem L2

theorem vals_get' : ∀ {xs : List V} {us : List Value} {i : Nat} {u : Value}, Vals xs us → us[i]? = some u → ∃ x, xs[i]? = some x ∧ RelV x u
  | _, [], _, _, h, e => by simp at e
  | _, u :: us, 0, _, h, e => by
    cases h with
    | cons r t => simp at e; subst e; exact ⟨_, rfl, r⟩
  | _, u :: us, i + 1, _, h, e => by
    cases h with
    | cons r t =>
      obtain ⟨x, a, b⟩ := vals_get' (i := i) t (by simpa using e)
      exact ⟨x, by simpa using a, b⟩
/-! ### what zip and enumerate draw from: a list, a tuple, a text -/
inductive Knd where
  | l (a : Addr) | t (a : Addr) | s (x : Tx) (k : Tok)
def Knd.v : Knd → V
  | .l a => .ref a
  | .t a => .ref a
  | .s x _ => .str (tx x)
def Knd.u : Knd → Value
  | .l a => .ref a
  | .t a => .ref a
  | .s x k => .str (tx x) k
def Knd.o : Knd → Obj
  | .l a => { cls := .type "list_iterator", data := .fields #[.ref a, .int 0 0] }
  | .t a => { cls := .type "tuple_iterator", data := .fields #[.ref a, .int 0 0] }
  | .s x k => { cls := .type (strIterType (tx x)), data := .fields #[.str (tx x) k, .int 0 0] }
def Knd.is (H : Hp) (vs : List V) : Knd → Prop
  | .l a => H a = some (.lst vs)
  | .t a => H a = some (.tup vs)
  | .s x _ => vs = x.map fun c => .str (tx [c])
def Knd.st (it : Addr) (i : Nat) (h : Heap) : Knd → Prop
  | .l a => h.IsListIter it a i
  | .t a => h.IsTupleIter it a i
  | .s x k => h.IsStrIter it (strIterType (tx x)) (tx x) k i
theorem Knd.st0 {k : Knd} {it : Addr} {h : Heap} (e : h.get? it = some k.o) : k.st it 0 h := by
  cases k with
  | l a => exact ⟨_, e, rfl, rfl⟩
  | t a => exact ⟨_, e, rfl, rfl⟩
  | s x k => exact ⟨_, e, rfl, rfl⟩
theorem Knd.keep {k : Knd} {it : Addr} {i : Nat} {h h' : Heap} (s : k.st it i h) (e : ∀ o, h.get? it = some o → h'.get? it = some o) : k.st it i h' := by
  cases k with
  | l a => exact s.at e
  | t a => exact s.at e
  | s x k => obtain ⟨o, ho, r⟩ := s; exact ⟨o, e o ho, r⟩
theorem Knd.obj {k : Knd} {it : Addr} {i : Nat} {h : Heap} (s : k.st it i h) : ∃ o, h.get? it = some o ∧ ∀ v, o.data ≠ .cell v := by
  cases k with
  | l a => obtain ⟨o, e, _, d⟩ := s; exact ⟨o, e, fun v z => by rw [d] at z; cases z⟩
  | t a => obtain ⟨o, e, _, d⟩ := s; exact ⟨o, e, fun v z => by rw [d] at z; cases z⟩
  | s x k => obtain ⟨o, e, _, d⟩ := s; exact ⟨o, e, fun v z => by rw [d] at z; cases z⟩
section
variable {X : Cx} {pins : List (Addr × Obj)} {σ : St} {H : Hp} {s : Shared}
/-- how it is drawn from, as things stand -/
theorem Knd.up (k : Knd) {vs : List V} (I : Inv X pins σ H s) (ak : k.is H vs) : ∃ (fpc : List Addr) (Pv : Nat → Value → Prop) (Hc : Heap → Prop), Begins k.u k.o Hc ∧ Hc s.heap ∧ (∀ b ∈ fpc, H b ≠ none) ∧
    (∀ (A : Around) (it : Addr), A.handled = none → (∀ b ∈ fpc, b ≠ it) → Draws X.prog X.w A it (it :: fpc) vs.length Pv (fun i h => k.st it i h ∧ Hc h)) ∧ ∀ i v, Pv i v → ∃ y, vs[i]? = some y ∧ RelV y v := by
  cases k with
  | l a =>
    obtain ⟨its, rv, p, hz⟩ := I.list (.inl (.inl ak))
    refine ⟨[a], fun i v => its.toArray[i]? = some v, fun h => h.IsList a its.toArray, begins_list a its.toArray, p.isList, fun b hb => ?_, fun A it hh hn => ?_, fun i v e => ?_⟩
    · have : b = a := by simpa using hb
      rw [this, show H a = _ from ak]; simp
    · have := Draws.list (prog := X.prog) (w := X.w) hh it a (hn a (by simp)) its.toArray
      rw [show vs.length = its.toArray.size by simp [rv.length]]
      exact this
    · have e' : its[i]? = some v := by simpa using e
      exact vals_get' rv e'
  | t a =>
    obtain ⟨its, rv, p, hz⟩ := I.tuple (.inl (.inl ak))
    refine ⟨[a], fun i v => its.toArray[i]? = some v, fun h => h.IsTuple a its.toArray, begins_tuple a its.toArray, p, fun b hb => ?_, fun A it hh hn => ?_, fun i v e => ?_⟩
    · have : b = a := by simpa using hb
      rw [this, show H a = _ from ak]; simp
    · have := Draws.tuple (prog := X.prog) (w := X.w) hh it a (hn a (by simp)) its.toArray
      rw [show vs.length = its.toArray.size by simp [rv.length]]
      exact this
    · have e' : its[i]? = some v := by simpa using e
      exact vals_get' rv e'
  | s x k =>
    refine ⟨[], fun i v => ∃ c u, (tx x).cps[i]? = some c ∧ v = .str ⟨#[c]⟩ u, fun _ => True, begins_text (tx x) k, trivial, fun b hb => by simp at hb, fun A it hh hn => ?_, fun i v ⟨c, u, e, ev⟩ => ?_⟩
    · have D := Draws.text (prog := X.prog) (w := X.w) hh it (tx x) k
      have e1 : vs.length = (tx x).cps.size := by rw [show vs = _ from ak]; simp [tx]
      rw [e1]
      exact ⟨fun i h st => D.live i h st.1, fun i h h' st hk => ⟨D.frame i h h' st.1 hk, trivial⟩, fun i s Q E hi st hQ => D.item i s Q E hi st.1 fun x h' tk a b c => hQ x h' tk a ⟨b, trivial⟩ c, fun s Q E st hE => D.done s Q E st.1 hE⟩
    · have e2 : x[i]? = some c := by simpa [tx] using e
      exact ⟨.str (tx [c]), by rw [show vs = _ from ak, List.getElem?_map, e2]; rfl, u, by rw [ev]; rfl⟩
end
/-- which kind it is -/
theorem knd_of {K : PySem.W.Frag} {lk : Option Addr} {S H : Hp} {v : V} {d : D} {ds : List D} {u : Value} (sb : Sub lk S H) (r : Rp K S v d) (ru : RelV v u) (hi : itemsD d = some ds) (hs : ∀ ns, d ≠ .scr ns) :
    ∃ (k : Knd) (vs : List V), k.v = v ∧ k.u = u ∧ RpL K S vs ds ∧ ∀ S2 H2, Sub lk S2 H2 → Ext S S2 → k.is H2 vs := by
  cases d <;> simp only [itemsD, reduceCtorEq] at hi
  · rename_i x
    cases hi
    cases r
    obtain ⟨t, rfl⟩ := ru
    refine ⟨.s x t, x.map fun c => .str (tx [c]), rfl, rfl, ?_, fun _ _ _ _ => rfl⟩
    unfold sgns
    induction x with
    | nil => exact .nil
    | cons c x ih => exact .cons (.str [c]) (ih (fun _ z => by cases z))
  · cases hi
    cases r with
    | tup e rr =>
      rename_i a vs
      cases ru
      refine ⟨.t a, vs, rfl, rfl, rr, fun S2 H2 s2 x => ?_⟩
      rcases s2 _ _ (x _ _ e) with q | ⟨_, ⟨_, z⟩, _⟩
      · exact q
      · cases z
  · cases hi
    cases r with
    | lst e rr =>
      rename_i a vs
      cases ru
      refine ⟨.l a, vs, rfl, rfl, rr, fun S2 H2 s2 x => ?_⟩
      rcases s2 _ _ (x _ _ e) with q | ⟨_, ⟨_, z⟩, _⟩
      · exact q
      · cases z
  · exact absurd rfl (hs _)
/-- pairs made one by one -/
def ItP (n : Nat) (C : Hp → Prop) (yv : Nat → List V → Prop) : It :=
  ⟨fun i H => i < n ∧ C H, fun i H v H' => ∃ T xs, v = .ref T ∧ H T = none ∧ H' = upd H T (.tup xs) ∧ yv i xs, fun i H => i = n ∧ C H⟩
theorem turn_walksT {P : Program} {w : World} {K : PySem.W.Frag} {elts : List Expr} {kk : Nat} {pos : Pos} {I0 : Addr} {fpI : List Addr} {n : Nat} {StI : Nat → Heap → Prop} {C : Hp → Prop} {yv : Nat → List V → Prop} (mem : I0 ∈ fpI)
    (obj : ∀ i h, StI i h → ∀ b ∈ fpI, ∃ o, h.get? b = some o ∧ ∀ v, o.data ≠ .cell v) (keep : ∀ i h h', StI i h → (∀ b ∈ fpI, ∀ o, h.get? b = some o → h'.get? b = some o) → StI i h')
    (up : ∀ (X : Cx) (pins : List (Addr × Obj)) (σ : St) (H : Hp) (s : Shared) (i : Nat), X.prog = P → X.w = w → X.K = K → X.calm = true → Inv X pins σ H s → (∀ b ∈ fpI, H b = none) → StI i s.heap → C H →
      ∃ fp wr Pt St Mid, WalksT P w X.A I0 fp wr n Pt St Mid ∧ St i s.heap ∧ (∀ b ∈ wr, b ∈ fpI) ∧ (∀ i h, St i h → StI i h) ∧ ∀ i vals, Pt i vals → ∃ xs : List V, Vals xs vals.toList ∧ yv i xs ∧ xs.length ≤ sizeLine)
    (self : ∀ (A : Around) (i : Nat) (s : Shared) (Q : Value → Shared → Prop) (E : Value → Shared → Prop), StI i s.heap → Q (.ref I0) s → wpAny (model P w) A (pyIter (.ref I0)) Q E s) : Turn P w K (.Tuple elts kk pos) (ItP n C yv) fpI I0 StI where
  mem := mem
  obj := obj
  keep := keep
  item := by
    intro X hP hw hK hc i pins s σ H E I hf st hg
    obtain ⟨fp, wr, Pt, St, Mid, W, st', sub, down, val⟩ := up X pins σ H s i hP hw hK hc I (fun b hb => (hf b hb).1) st hg.2
    refine W.item i s _ E hg.1 st' fun T vals h' tk hPt hT hTup hM hk => ⟨.ref T, rfl, W.go elts kk pos i T { s with heap := h', toks := tk } _ _ hM fun h'' st'' hk'' => ?_⟩
    obtain ⟨xs, r, hy, hl⟩ := val i vals hPt
    have hTw := W.apart i T h' hM
    obtain ⟨o, e1, e2, m, e3⟩ := hTup
    have new : ObjOk X.prog X.w (upd H T (.tup xs)) h'' T (.tup xs) := ⟨hl, vals.toList, r, o, hk'' T o hTw e1, e2, m, by rw [e3]⟩
    have I1 : Inv X pins σ (upd H T (.tup xs)) { s with heap := h'', toks := tk } := I.turnedNew (ch := fpI) (fun b ob hb q => hk'' b ob (fun z => hb (sub b z)) (hk b ob (fun z => hb (sub b z)) q)) hf hT new
    refine ⟨.ref T, _, I1, rfl, ⟨T, xs, rfl, I.hok.fresh hT, rfl, hy⟩, down _ _ st'', fun b hb => ?_⟩
    have hb' : b < s.heap.objs.size := by
      obtain ⟨ob, q, _⟩ := obj i _ st b hb
      exact Heap.lt_size q
    rw [upd_ne (Nat.ne_of_lt (Nat.lt_of_lt_of_le hb' hT))]
    exact (hf b hb).1
  done := by
    intro X hP hw hK hc i pins s σ H E I hf st hg
    obtain ⟨hi, hC⟩ := hg
    subst hi
    obtain ⟨fp, wr, Pt, St, Mid, W, st', sub, down, val⟩ := up X pins σ H s i hP hw hK hc I (fun b hb => (hf b hb).1) st hC
    exact W.done s _ E st' fun h' tk hk => ⟨rfl, I.turnedL (ch := fpI) (fun b o hb q => hk b o (fun z => hb (sub b z)) q) hf⟩
  self := self

/-! ### zip -/
def itemsZ : D → Option (List D)
  | .lst xs => some xs
  | .tup xs => some xs
  | .str x => some (sgns x)
  | _ => none
theorem itemsZ_ok {d : D} {ds : List D} (h : itemsZ d = some ds) : itemsD d = some ds ∧ ∀ ns, d ≠ .scr ns := by
  cases d <;> simp only [itemsZ, reduceCtorEq] at h <;> cases h <;> exact ⟨rfl, fun _ z => by cases z⟩
def zipD : List D → Option (List D)
  | [x, y] => (itemsZ x).bind fun xs => (itemsZ y).bind fun ys => some (List.zipWith (fun a c => D.tup [a, c]) xs ys)
  | _ => none
def zipI (f1 f2 : Env → Option D) : Env → Option (List D) := fun ρ => match consA f1 (consA f2 nilA) ρ with
  | none => none
  | some xs => zipD xs
/-- pairs that stand for data -/
theorem dw_pairs {K : PySem.W.Frag} {w : Bool} {lk : Option Addr} {S1 H1 : Hp} {n : Nat} {C : Hp → Prop} {yv : Nat → List V → Prop} {ds : List D} (hn : ds.length = n) (hC : ∀ S2 H2, Sub lk S2 H2 → Ext S1 S2 → C H2)
    (hy : ∀ i xs, yv i xs → ∃ es, ds[i]? = some (.tup es) ∧ RpL K S1 xs es) : DWalk K w lk (ItP n C yv) ds S1 H1 := fun S2 H2 s x _ => by
  subst hn
  refine ⟨fun i hi => ⟨hi, hC S2 H2 s x⟩, ⟨rfl, hC S2 H2 s x⟩, fun i v H3 hi y => ?_⟩
  obtain ⟨T, xs, rfl, hT, rfl, yy⟩ := y
  obtain ⟨es, e, r⟩ := hy i xs yy
  have g := Gr.new (o := .tup xs) s hT
  exact ⟨_, _, g, e, .tup upd_same (r.mono (x.trans (g.ext s)))⟩
section
variable {X : Cx} {b : Bool} {e e2 : Expr} {f1 f2 : Env → Option D}
theorem ji_zip {p pos tpos : Pos} {elts : List Expr} {kk : Nat} (hc : X.calm = true) (hg : Gl X "zip") (hm : X.mg "zip" = none) (h1 : JE X b e f1) (h2 : JE X b e2 f2)
    (hs : starEach [e, e2] X.env = (false, eval e X.env) :: starEach [e2] X.env := by rfl) (hs2 : starEach [e2] X.env = (false, eval e2 X.env) :: starEach [] X.env := by rfl) (hpl : (backTo pos (starEach [e2] X.env)).any (·.1) = false := by rfl) :
    JI X b false (.Tuple elts kk tpos) (.Call (.Name "zip" p) [e, e2] [] pos) (zipI f1 f2) := ⟨⟨fun pins s σ H R I ⟨lk, B, S, ρ, ds, q1, q2, q3, q4, k⟩ => by
  have ha := ja_cons h1 (ja_cons h2 ja_nil hs2) hs
  unfold zipI at q4
  split at q4
  · cases q4
  rename_i xs ex
  refine PyProof.Rows.Call_ (ld_blt I hg hm PyProof.Rows.boot_zip (PyProof.Rows.callWith_type1 (thn (ha.pa.run pos pins s σ H (fun vs H1 => ∃ S1, Gr lk S H S1 H1 ∧ RpL X.K S1 vs xs) I ⟨lk, B, S, ρ, xs, q1, q2, q3, ex, fun vs S1 H1 g r => ⟨S1, g, r⟩⟩) fun us s1 ⟨vs, H1, I1, r1, S1, g1, rr⟩ => ?_) hs hpl))
  unfold zipD at q4
  split at q4
  · rename_i x y hAP
    cases e1 : itemsZ x with
    | none => rw [e1] at q4; cases q4
    | some xs1 =>
    cases e2 : itemsZ y with
    | none => rw [e1, e2] at q4; cases q4
    | some ys1 =>
    rw [e1, e2] at q4
    have q4 := Option.some.inj q4
    subst q4
    cases rr with
    | cons rx rr => cases rr with
      | cons ry rr =>
        cases rr
        obtain ⟨u1, u2, rfl, ru1, ru2⟩ := vals2 r1
        obtain ⟨i1, n1⟩ := itemsZ_ok e1
        obtain ⟨i2, n2⟩ := itemsZ_ok e2
        obtain ⟨k1, vs1, _, rfl, p1, a1⟩ := knd_of g1.1 rx ru1 i1 n1
        obtain ⟨k2, vs2, _, rfl, p2, a2⟩ := knd_of g1.1 ry ru2 i2 n2
        obtain ⟨fpc1, Pv1, Hc1, B1, c1, _⟩ := k1.up I1 (a1 S1 H1 g1.1 (Ext.refl _))
        obtain ⟨fpc2, Pv2, Hc2, B2, c2, _⟩ := k2.up I1 (a2 S1 H1 g1.1 (Ext.refl _))
        refine zip_begins2 B1 B2 c1 c2 fun h' hz hTI hTO ho1 ho2 hsz hk => wpAny_pyIter_zip hz ?_
        have I2 : Inv X pins σ H1 { s1 with heap := h' } := I1.kept (t' := s1.toks) hk
        have l1 := p1.length
        have l2 := p2.length
        generalize hN : s1.heap.objs.size = N at *
        have fresh : ∀ j, H1 (N + j) = none := fun j => I1.hok.fresh (by rw [hN]; exact Nat.le_add_right _ _)
        have fr0 : H1 N = none := fresh 0
        refine ⟨N + 4, [N + 4, N + 2, N + 3, N, N + 1], fun i h => IsZip h (N + 4) (N + 2) (N + 3) .none ∧ IsTupOf2 h (N + 2) (.ref N) (.ref (N + 1)) ∧ (∃ a1 a2, IsTupOf2 h (N + 3) a1 a2) ∧ k1.st N i h ∧ k2.st (N + 1) i h,
          ItP (min vs1.length vs2.length) (fun H => k1.is H vs1 ∧ k2.is H vs2) (fun i xs => ∃ x y, xs = [x, y] ∧ vs1[i]? = some x ∧ vs2[i]? = some y), H1, rfl, I2, ?_, ⟨hz, hTI, ⟨_, _, hTO⟩, Knd.st0 ho1, Knd.st0 ho2⟩, fun c hcm => ?_, ?_⟩
        · refine turn_walksT (by simp) (fun i h st c hcm => ?_) (fun i h h' st kp => ?_) (fun X' pins' σ' H' s' i hP hw hK hc' I' hno st hC => ?_) (fun A i s Q E st q => wpAny_pyIter_zip st.1 q)
          · obtain ⟨z1, z2, ⟨a, c', z3⟩, z4, z5⟩ := st
            have e' : c = N + 4 ∨ c = N + 2 ∨ c = N + 3 ∨ c = N ∨ c = N + 1 := by simpa using hcm
            rcases e' with q | q | q | q | q
            · rw [q]; exact ⟨_, z1, fun v z => nomatch z⟩
            · rw [q]; exact ⟨_, z2, fun v z => nomatch z⟩
            · rw [q]; exact ⟨_, z3, fun v z => nomatch z⟩
            · rw [q]; exact Knd.obj z4
            · rw [q]; exact Knd.obj z5
          · obtain ⟨z1, z2, ⟨a, c', z3⟩, z4, z5⟩ := st
            exact ⟨kp _ (by simp) _ z1, kp _ (by simp) _ z2, ⟨a, c', kp _ (by simp) _ z3⟩, Knd.keep z4 fun o q => kp N (by simp) o q, Knd.keep z5 fun o q => kp (N + 1) (by simp) o q⟩
          · rw [← hP, ← hw]
            obtain ⟨hC1, hC2⟩ := hC
            obtain ⟨fp1, P1, Hc1, _, c1, f1, D1, v1⟩ := k1.up I' hC1
            obtain ⟨fp2, P2, Hc2, _, c2, f2, D2, v2⟩ := k2.up I' hC2
            have no1 : ∀ c, H' c = none → c ∉ fp1 := fun c hn hm' => f1 c hm' hn
            have no2 : ∀ c, H' c = none → c ∉ fp2 := fun c hn hm' => f2 c hm' hn
            have h0 := hno N (by simp)
            have h1' := hno (N + 1) (by simp)
            have h3 := hno (N + 3) (by simp)
            have h4 := hno (N + 4) (by simp)
            have ne : ∀ i j : Nat, i ≠ j → N + i ≠ N + j := fun i j h z => h (Nat.add_left_cancel z)
            have nin : ∀ (a : Nat) (f : List Addr) (c : Nat), c ≠ a → H' (N + c) = none → (∀ c, H' c = none → c ∉ f) → N + c ∉ (N + a) :: f := fun a f c hca hn no hm' => by
              rcases List.mem_cons.mp hm' with z | z
              · exact ne c a hca z
              · exact no _ hn z
            have Sep : ZipSep2 (N + 4) (N + 2) (N + 3) N (N + 1) (N :: fp1) ((N + 1) :: fp2) :=
              { TIz := ne 2 4 (by decide), TOz := ne 3 4 (by decide), TITO := ne 2 3 (by decide), TIi1 := ne 2 0 (by decide), mem1 := List.mem_cons_self .., zf1 := nin 0 fp1 4 (by decide) h4 no1, Tf1 := nin 0 fp1 3 (by decide) h3 no1,
                TIi2 := ne 2 1 (by decide), mem2 := List.mem_cons_self .., zf2 := nin 1 fp2 4 (by decide) h4 no2, Tf2 := nin 1 fp2 3 (by decide) h3 no2, sep1_2 := nin 1 fp2 0 (by decide) h0 no2, sep2_1 := nin 0 fp1 1 (by decide) h1' no1 }
            have hh := I'.ok.hd hc'
            refine ⟨_, _, _, _, _, WalksT.zipD2 Sep (D1 X'.A.in1 N hh fun c hm' z => f1 c hm' (z ▸ h0)) (D2 X'.A.in1 (N + 1) hh fun c hm' z => f2 c hm' (z ▸ h1')), ?_, ?_, ?_, ?_⟩
            · obtain ⟨z1, z2, z3, z4, z5⟩ := st
              exact ⟨z1, z2, z3, ⟨z4, c1⟩, ⟨z5, c2⟩⟩
            · intro c hm'
              have e' : c = N + 4 ∨ c = N + 3 ∨ c = N ∨ c = N + 1 := by simpa using hm'
              rcases e' with q | q | q | q <;> rw [q] <;> simp
            · rintro i h ⟨z1, z2, z3, z4, z5⟩
              exact ⟨z1, z2, z3, z4.1, z5.1⟩
            · rintro i vals ⟨x1, x2, hx1, hx2, rfl⟩
              obtain ⟨y1, w1, w2⟩ := v1 i x1 hx1
              obtain ⟨y2, w3, w4⟩ := v2 i x2 hx2
              exact ⟨[y1, y2], .cons w2 (.cons w4 .nil), ⟨y1, y2, rfl, w1, w3⟩, by rw [sizeLine_eq]; exact (by decide : 2 ≤ 16777216)⟩
        · have e' : c = N + 4 ∨ c = N + 2 ∨ c = N + 3 ∨ c = N ∨ c = N + 1 := by simpa using hcm
          have hle : N ≤ c := by rcases e' with q | q | q | q | q <;> rw [q] <;> first | exact Nat.le_refl _ | exact Nat.le_add_right _ _
          exact I1.fpOk (by rw [hN]; exact hle) (I1.hok.fresh (by rw [hN]; exact hle))
        · refine k _ S1 H1 g1 (dw_pairs (by rw [List.length_zipWith, l1, l2]) (fun S2 H2 s2 x2 => ⟨a1 S2 H2 s2 x2, a2 S2 H2 s2 x2⟩) ?_)
          rintro i xs ⟨x', y', rfl, w1, w2⟩
          obtain ⟨d1, w3, w4⟩ := p1.get' w1
          obtain ⟨d2, w5, w6⟩ := p2.get' w2
          exact ⟨[d1, d2], by rw [List.getElem?_zipWith, w3, w5], .cons w4 (.cons w6 .nil)⟩
  · cases q4⟩⟩
end
end Fo
end
-- FoH4.lean
set_option Elab.async false
set_option linter.all false
set_option maxRecDepth 100000
set_option maxHeartbeats 2000000
noncomputable section
namespace Fo
open PySem L2

/-! ### enumerate -/
abbrev enO (N : Addr) : Obj := { cls := .type "enumerate", data := .fields #[.none, .bool false, .ref N, rawInt 0, .none, .none] }
theorem meets_enum1 {v : Value} {ob : Obj} {Hc : Heap → Prop} (B : Begins v ob Hc) :
    Meets (Builtin.«enumerate.__new__» ⟨[.type "enumerate", v], []⟩) (fun _ R s => Hc s.heap ∧ R (.ok (.ret (.ref (s.heap.push ob).objs.size))) { s with heap := (s.heap.push ob).push (enO s.heap.objs.size) }) :=
  .of_wp fun P w A R s hh => by
    obtain ⟨h0, gg, dd, tt, oo⟩ := s
    obtain ⟨hc, hR⟩ := hh
    have hsub := PySem.sub_enumerate
    have it1 : ∀ {A' : Around} {E' : Value → Shared → Prop} {Q' : Value → Shared → Prop}, Q' (.ref h0.objs.size) ⟨h0.push ob, gg, dd, tt, oo⟩ → wpAny (model P w) A' (pyIter v) Q' E' ⟨h0, gg, dd, tt, oo⟩ :=
      fun q => B.iter P w _ _ ⟨h0, gg, dd, tt, oo⟩ _ hc q
    wp_walk using it1
    refine wpAny_stack_any fun st => wpAny_pure ?_
    split
    · rename_i c _ _ _ _ _
      cases (c == Value.type "enumerate") <;> (wp_walk using it1; exact ⟨_, rfl, hR⟩)
    · wp_walk using it1; exact ⟨_, rfl, hR⟩
section
variable {P : Program} {w : World} {A : Around} {E : Value → Shared → Prop} {s : Shared}
theorem enum_begins1 {v : Value} {ob : Obj} {Hc : Heap → Prop} {Q : Value → Shared → Prop} (B : Begins v ob Hc) (hc : Hc s.heap)
    (h : ∀ h', IsEnum h' (s.heap.objs.size + 1) s.heap.objs.size 0 .none → h'.get? s.heap.objs.size = some ob → (∀ c o, s.heap.get? c = some o → h'.get? c = some o) → Q (.ref (s.heap.objs.size + 1)) { s with heap := h' }) :
    wpAny (model P w) A (call (.type "enumerate") [v]) Q E s := by
  refine callType_new F.called_enumerate (by decide) (F.typeCall_enumerate_1 _) (F.newCall_enumerate_1 _) (fun obj => F.args_object_init_2 obj _) F.entry_enumerate_new (meets_enum1 B) ⟨hc, ?_⟩
  have hz : (s.heap.push ob).objs.size = s.heap.objs.size + 1 := Heap.size_push ..
  show _ ∧ _
  rw [hz]
  have he : IsEnum ((s.heap.push ob).push (enO s.heap.objs.size)) (s.heap.objs.size + 1) s.heap.objs.size 0 .none := by
    have q := Heap.get?_push_size (s.heap.push ob) (o := enO s.heap.objs.size) rfl
    rwa [hz] at q
  exact ⟨⟨_, he, rfl⟩, h _ he (Heap.get?_push_of_some _ (Heap.get?_push_size _ B.free)) fun c o e => Heap.get?_push_of_some _ (Heap.get?_push_of_some _ e)⟩
end
def enumL (ds : List D) : List D := ds.mapIdx fun i d => .tup [.int (i : Nat), d]
def seqZ (f : Env → Option D) : Env → Option (List D) := fun ρ => match f ρ with
  | none => none
  | some x => itemsZ x
def enumI (g : Env → Option (List D)) : Env → Option (List D) := fun ρ => (g ρ).map enumL
section
variable {X : Cx} {b : Bool} {e e2 : Expr} {f f1 f2 : Env → Option D}
theorem ji_enum {p pos tpos : Pos} {elts : List Expr} {kk : Nat} (hc : X.calm = true) (hg : Gl X "enumerate") (hm : X.mg "enumerate" = none) (h : JE X b e f)
    (hs : starEach [e] X.env = (false, eval e X.env) :: starEach [] X.env := by rfl) (hpl : (backTo pos (starEach [] X.env)).any (·.1) = false := by rfl) :
    JI X b false (.Tuple elts kk tpos) (.Call (.Name "enumerate" p) [e] [] pos) (enumI (seqZ f)) := ⟨⟨fun pins s σ H R I ⟨lk, B, S, ρ, ds, q1, q2, q3, q4, k⟩ => by
  have ha := ja_cons h ja_nil hs
  replace q4 : Option.map enumL (seqZ f ρ) = some ds := q4
  unfold seqZ at q4
  cases ex : f ρ with
  | none => rw [ex] at q4; cases q4
  | some x =>
  rw [ex] at q4
  have ex' : consA f nilA ρ = some [x] := by unfold consA; rw [ex]; rfl
  refine PyProof.Rows.Call_ (ld_blt I hg hm (show bootBuiltins "enumerate" = some (.type "enumerate") by decide +kernel) (PyProof.Rows.callWith_type1 (thn (ha.pa.run pos pins s σ H (fun vs H1 => ∃ S1, Gr lk S H S1 H1 ∧ RpL X.K S1 vs [x]) I ⟨lk, B, S, ρ, [x], q1, q2, q3, ex', fun vs S1 H1 g r => ⟨S1, g, r⟩⟩) fun us s1 ⟨vs, H1, I1, r1, S1, g1, rr⟩ => ?_) hs hpl))
  cases e1 : itemsZ x with
  | none =>
    replace q4 : Option.map enumL (itemsZ x) = some ds := q4
    rw [e1] at q4; cases q4
  | some xs1 =>
  replace q4 : Option.map enumL (itemsZ x) = some ds := q4
  rw [e1] at q4
  have q4 := Option.some.inj q4
  subst q4
  cases rr with
  | cons rx rr =>
    cases rr
    obtain ⟨u1, rfl, ru1⟩ := vals1 r1
    obtain ⟨i1, n1⟩ := itemsZ_ok e1
    obtain ⟨k1, vs1, _, rfl, p1, a1⟩ := knd_of g1.1 rx ru1 i1 n1
    obtain ⟨fpc1, Pv1, Hc1, B1, c1, _⟩ := k1.up I1 (a1 S1 H1 g1.1 (Ext.refl _))
    refine enum_begins1 B1 c1 fun h' hz ho1 hk => wpAny_pyIter_enum hz ?_
    have I2 : Inv X pins σ H1 { s1 with heap := h' } := I1.kept (t' := s1.toks) hk
    have l1 := p1.length
    generalize hN : s1.heap.objs.size = N at *
    have ne1 : N + 1 ≠ N := fun z => Nat.succ_ne_self N z
    refine ⟨N + 1, [N + 1, N], fun i h => (∃ old, IsEnum h (N + 1) N (0 + (i : Nat)) old) ∧ k1.st N i h,
      ItP vs1.length (fun H => k1.is H vs1) (fun i xs => ∃ y, xs = [.int (i : Nat), y] ∧ vs1[i]? = some y), H1, rfl, I2, ?_, ⟨⟨.none, by rw [show (0 : Int) + ((0 : Nat) : Int) = 0 from rfl]; exact hz⟩, Knd.st0 ho1⟩, fun c hcm => ?_, ?_⟩
    · refine turn_walksT (by simp) (fun i h st c hcm => ?_) (fun i h h' st kp => ?_) (fun X' pins' σ' H' s' i hP hw hK hc' I' hno st hC => ?_) (fun A i s Q E st q => let ⟨⟨_, z⟩, _⟩ := st; wpAny_pyIter_enum z q)
      · obtain ⟨⟨old, z1⟩, z2⟩ := st
        have e' : c = N + 1 ∨ c = N := by simpa using hcm
        rcases e' with q | q
        · rw [q]; exact ⟨_, z1, fun v z => nomatch z⟩
        · rw [q]; exact Knd.obj z2
      · obtain ⟨⟨old, z1⟩, z2⟩ := st
        exact ⟨⟨old, kp _ (by simp) _ z1⟩, Knd.keep z2 fun o q => kp N (by simp) o q⟩
      · rw [← hP, ← hw]
        obtain ⟨fp1, P1, Hc1, _, c1, f1, D1, v1⟩ := k1.up I' hC
        have h0 := hno N (by simp)
        have h1' := hno (N + 1) (by simp)
        have hh := I'.ok.hd hc'
        refine ⟨_, _, _, _, _, WalksT.enumFrom 0 (D1 X'.A.in1 N hh fun c hm' z => f1 c hm' (z ▸ h0)) (N + 1) ne1 (fun hm' => ?_) (List.mem_cons_self ..), ?_, ?_, ?_, ?_⟩
        · rcases List.mem_cons.mp hm' with z | z
          · exact ne1 z
          · exact f1 _ z h1'
        · exact ⟨st.1, st.2, c1⟩
        · intro c hm'
          have e' : c = N + 1 ∨ c = N := by simpa using hm'
          rcases e' with q | q <;> rw [q] <;> simp
        · rintro i h ⟨z1, z2⟩
          exact ⟨z1, z2.1⟩
        · rintro i vals ⟨t, x1, hx1, rfl⟩
          obtain ⟨y1, w1, w2⟩ := v1 i x1 hx1
          exact ⟨[.int (i : Nat), y1], .cons ⟨t, by simp⟩ (.cons w2 .nil), ⟨y1, rfl, w1⟩, by rw [sizeLine_eq]; exact (by decide : 2 ≤ 16777216)⟩
    · have e' : c = N + 1 ∨ c = N := by simpa using hcm
      have hle : N ≤ c := by rcases e' with q | q <;> rw [q] <;> first | exact Nat.le_refl _ | exact Nat.le_add_right _ _
      exact I1.fpOk (by rw [hN]; exact hle) (I1.hok.fresh (by rw [hN]; exact hle))
    · refine k _ S1 H1 g1 (dw_pairs (by simp [enumL, l1]) (fun S2 H2 s2 x2 => a1 S2 H2 s2 x2) ?_)
      rintro i xs ⟨y', rfl, w1⟩
      obtain ⟨d1, w3, w4⟩ := p1.get' w1
      exact ⟨[.int (i : Nat), d1], by simp [enumL, w3], .cons (.int _) (.cons w4 .nil)⟩⟩⟩
end
end Fo
end
-- FoH5.lean
set_option Elab.async false
set_option linter.all false
set_option maxRecDepth 100000
set_option maxHeartbeats 2000000
noncomputable section
namespace Fo
open PySem L2
open PySem.W (dataLe dataLt alike alikeAll)

/-! ### min of a list of data -/
def minE (d : D) (ds : List D) : D := ds.foldl (fun m e => if dataLt (py e) (py m) then e else m) d
def minOk (ds : List D) : Bool := okL 60 ds && ds.all (fun x => ds.all (alikeD x)) && ds.all notN
def min1D : List D → Option D
  | [.lst (d :: ds)] => if minOk (d :: ds) = true then some (minE d ds) else none
  | _ => none
theorem py_minE (d : D) (ds : List D) : py (minE d ds) = PySem.W.minD (py d) (pyL ds) := by
  unfold minE PySem.W.minD
  induction ds generalizing d with
  | nil => rfl
  | cons e ds ih =>
    rw [pyL, List.foldl_cons, List.foldl_cons, ih]
    split <;> rfl
theorem minE_mem (d : D) (ds : List D) : minE d ds ∈ d :: ds := by
  unfold minE
  induction ds generalizing d with
  | nil => simp
  | cons e ds ih =>
    rw [List.foldl_cons]
    have := ih (if dataLt (py e) (py d) then e else d)
    rcases List.mem_cons.mp this with h | h
    · rw [h]; split <;> simp
    · exact List.mem_cons_of_mem _ (List.mem_cons_of_mem _ h)
section
variable {X : Cx} {b : Bool} {e : Expr} {f : Env → Option D}
theorem cr_min1D (hc : X.calm = true) (hu : X.A.units + 64 < cLine) : CallR X (.builtin "min") (rCof X.K b min1D) := by
  intro pins s σ H xs us Q I r h
  obtain ⟨lk, S, ds, z, h1, h2, h3, h4, k⟩ := h
  unfold min1D at h4
  split at h4
  · rename_i d0 ds0
    split at h4
    · rename_i ok
      cases h4
      unfold minOk at ok
      simp only [Bool.and_eq_true] at ok
      obtain ⟨⟨o1, o2⟩, o3⟩ := ok
      obtain ⟨v, rfl, rv⟩ := pair1 h3
      obtain ⟨a, vs, rfl, e1, r1⟩ := rv.lst_inv h2
      obtain ⟨its, vv, p, hz⟩ := I.list (.inl (.inl e1))
      rw [Vals.ref1 r]
      have dpa := RpL.dp h2 60 _ _ o1 r1
      obtain ⟨as, rd⟩ := Dp.readsAll I _ _ _ dpa vv
      have lay := (okL_lay 60 _ o1).2
      have ak : PySem.W.AlikeAll (pyL (d0 :: ds0)) := by
        rw [pyL_map]
        refine ⟨fun x hx y hy => ?_, fun x hx => ?_⟩
        · obtain ⟨x', hx', rfl⟩ := List.mem_map.mp hx
          obtain ⟨y', hy', rfl⟩ := List.mem_map.mp hy
          exact List.all_eq_true.mp (List.all_eq_true.mp o2 x' hx') y' hy'
        · obtain ⟨x', hx', rfl⟩ := List.mem_map.mp hx
          have := List.all_eq_true.mp o3 x' hx'
          cases x' <;> simp [notN, py] at this ⊢
      refine PySem.W.min_list_data (I.ok.hd hc) p.isList (by simpa [pyL] using rd) (by simpa [pyL] using ak) (by simp only [pyL] at lay; omega) fun i u h' tk bs e2 r2 kp => ?_
      have e3 : its[i]? = some u := by simpa using e2
      obtain ⟨v', w1, w2⟩ := vals_get' vv e3
      obtain ⟨d', w3, w4⟩ := r1.get' w1
      have okd : okD 60 d' = true := okL_mem.mp o1 d' (List.mem_of_getElem? w3)
      obtain ⟨as2, r3⟩ := Dp.reads I _ _ _ (Rp.dp h2 60 d' v' okd w4) w2
      have eqp : py d' = py (minE d0 ds0) := by
        rw [py_minE]
        exact (PySem.Reads.unique (PyProof.Rows.Reads.keeps kp r3) _ _ r2).1
      have okm : okD 60 (minE d0 ds0) = true := okL_mem.mp o1 _ (minE_mem d0 ds0)
      have : d' = minE d0 ds0 := py_inj _ _ okd okm eqp
      subst this
      exact ⟨v', H, I.kept kp, w2, k v' S H (Gr.refl h2) w4⟩
    · cases h4
  · cases h4

/-! ### loops over the frame's own dict -/
variable {EX : Nat → Value} {E : XK} {pos : Pos}
def forKS (i : Nat) (is : List Nat) (G : D → Env → Option Env) (fb : Env → Option Out) : Env → Option Out := fun ρ => match ρ[i]? with
  | some (some (.k ks)) => (match loopL G fb (keysD ks) (ρ.set i none) with
    | none => none
    | some (.ex _) => none
    | some o => some (o.drop is))
  | _ => none
theorem rpK_get? {K : PySem.W.Frag} {S : Hp} {ks : List (D × D)} {kvs : List (Key × V)} (r : RpK K S kvs ks) {i : Nat} {k : Key} {v : V} (e : kvs[i]? = some (k, v)) : ∃ kd, (keysD ks)[i]? = some kd ∧ Rp K S (kV k) kd := by
  have q := rpK_keys r
  have e' : (kvs.map fun kv => kV kv.1)[i]? = some (kV k) := by rw [List.getElem?_map, e]; rfl
  exact q.get' e'
theorem js_forK (i : Nat) {x : PySem.Str} {ppos : Pos} {tg : Expr} {body : List Stmt} {is : List Nat} {G : D → Env → Option Env} {fb : Env → Option Out} (hc : X.calm = true) (hp : PassesOwn (model X.prog X.w) X.A X.env X.xe) (hg : JG X false tg is G) (hb : JSs X EX E body fb)
    (hN : X.N[i]? = some x := by rfl) (hv : Vis X.env.scope x := by first | exact Or.inl rfl | exact Or.inr (Or.inl rfl) | exact Or.inr (Or.inr rfl)) (hd : (x == ("__debug__" : PySem.Str)) = false := by decide) (hcd : (x == ("__classdict__" : PySem.Str)) = false := by decide)
    (hs : ∀ y, foldedSetIterable (.Name x ppos) X.env y = pure y := by intro _; rfl) : JS X EX E (.For tg (.Name x ppos) body [] pos) (forKS i is G fb) :=
  ⟨PS_imp (ps_lock (ps_for hp hc (pi_keys (pe_var hN hv hd hcd)) hg.pg hb.pss hs)) fun T σ H ⟨S0, B, S, ρ, o, h1, h2, h3, h4, k⟩ => by
  unfold forKS at h4
  split at h4
  · rename_i ks eslot
    obtain ⟨v, qs, d, kvs, rfl, r1, r2, r3, r4⟩ := h3.at_ i _ eslot
    cases el : loopL G fb (keysD ks) (ρ.set i none) with
    | none => rw [el] at h4; cases h4
    | some r =>
    rw [el] at h4
    have hne : ∀ n, r ≠ .ex n := fun n z => by subst z; cases h4
    have hq : r.drop is = o := by
      cases r <;> first | exact Option.some.inj h4 | exact absurd rfl (hne _)
    subst hq
    refine ⟨d, .dK kvs, r1, trivial, fun od => ?_⟩
    generalize hds : keysD ks = ds at el
    have lds : ds.length = kvs.length := by rw [← hds]; simp [keysD, r4.length]
    -- the locked heap, and the dict among what must stay
    let B' : Hp := upd B d (.frz od (.dK kvs))
    let S0' : Hp := fun a => if a = d then none else S0 a
    have sb1 : Sub none S (upd H d (.frz od (.dK kvs))) := fun a u z => by
      have q : a ≠ d := fun q => by rw [q, r2] at z; cases z
      rw [upd_ne q]; exact h1 a u z
    have g1 : Gr none S0' B' S (upd H d (.frz od (.dK kvs))) := ⟨sb1, fun a ha => by
      by_cases q : a = d
      · subst q
        exact ⟨by rw [upd_same]; exact upd_same.symm, by rw [r2]; simp [S0']⟩
      · have hB : B a ≠ none := by have := ha; simp only [B'] at this; rw [upd_ne q] at this; exact this
        obtain ⟨z1, z2⟩ := h2.2 a hB
        exact ⟨by rw [upd_ne q]; simp only [B']; rw [upd_ne q]; exact z1, by simp only [S0']; rw [if_neg q]; exact z2⟩⟩
    have er1 : ER X.K B' S (upd H d (.frz od (.dK kvs))) σ (ρ.set i none) := by
      have e0 := h3.drop (i := i)
      refine ⟨e0.len, fun j c ej => ?_, e0.sep⟩
      obtain ⟨w, q1, q2⟩ := e0.at_ j c ej
      refine ⟨w, q1, ?_⟩
      have nij : i ≠ j := fun z => by
        subst z
        by_cases hl : i < ρ.length
        · rw [List.getElem?_set_self hl] at ej; cases ej
        · rw [List.getElem?_eq_none (by simp; omega)] at ej; cases ej
      rw [List.getElem?_set_ne nij] at ej
      cases hc' : c with
      | d y => rw [hc'] at q2; exact q2
      | l xs =>
        rw [hc'] at q2
        obtain ⟨a', vs, z0, z1, z2, z3, z4⟩ := q2
        have na : a' ≠ d := fun z => nij (h3.sep i j (.k ks) c (.ref d) eslot ej rfl (by rw [hc']; rfl) qs (by rw [q1, z0, z]))
        exact ⟨a', vs, z0, by rw [upd_ne na]; exact z1, z2, by simp only [B']; rw [upd_ne na]; exact z3, z4⟩
      | k xs =>
        rw [hc'] at q2
        obtain ⟨a', vs, z0, z1, z2, z3, z4⟩ := q2
        have na : a' ≠ d := fun z => nij (h3.sep i j (.k ks) c (.ref d) eslot ej rfl (by rw [hc']; rfl) qs (by rw [q1, z0, z]))
        exact ⟨a', vs, z0, by rw [upd_ne na]; exact z1, z2, by simp only [B']; rw [upd_ne na]; exact z3, z4⟩
    -- back again
    have stay : ∀ {S' H' : Hp}, Gr none S0' B' S' H' → H' d = some (.frz od (.dK kvs)) ∧ S' d = none := fun g => by
      obtain ⟨z1, z2⟩ := g.2 d (by simp only [B']; rw [upd_same]; simp)
      exact ⟨by rw [z1]; exact upd_same, by rw [z2]; simp [S0']⟩
    have back : ∀ {S' H' : Hp}, Gr none S0' B' S' H' → Gr none S0 B S' (upd H' d (.dK kvs)) := fun {S' H'} g => by
      refine ⟨fun a u z => ?_, fun a ha => ?_⟩
      · have q : a ≠ d := fun q => by rw [q, (stay g).2] at z; cases z
        rw [upd_ne q]; exact g.1 a u z
      · have q : a ≠ d := fun q => ha (q ▸ r3)
        obtain ⟨z1, z2⟩ := g.2 a (by simp only [B']; rw [upd_ne q]; exact ha)
        refine ⟨by rw [upd_ne q, z1]; simp only [B']; rw [upd_ne q], by rw [z2]; simp only [S0']; rw [if_neg q]⟩
    have ebk : ∀ {S' H' : Hp} {σ' : St} {ρ' : Env}, Gr none S0' B' S' H' → ER X.K B' S' H' σ' ρ' → ER X.K B S' (upd H' d (.dK kvs)) σ' ρ' := fun {S' H' σ' ρ'} g er => by
      refine ⟨er.len, fun j c ej => ?_, er.sep⟩
      obtain ⟨w, q1, q2⟩ := er.at_ j c ej
      refine ⟨w, q1, ?_⟩
      have nd : ∀ a', B' a' = none → a' ≠ d ∧ B a' = none := fun a' z => by
        have q : a' ≠ d := fun q => by rw [q] at z; simp only [B'] at z; rw [upd_same] at z; cases z
        exact ⟨q, by simp only [B'] at z; rw [upd_ne q] at z; exact z⟩
      cases c with
      | d y => exact q2
      | l xs =>
        obtain ⟨a', vs, z0, z1, z2, z3, z4⟩ := q2
        exact ⟨a', vs, z0, by rw [upd_ne (nd a' z3).1]; exact z1, z2, (nd a' z3).2, z4⟩
      | k xs =>
        obtain ⟨a', vs, z0, z1, z2, z3, z4⟩ := q2
        exact ⟨a', vs, z0, by rw [upd_ne (nd a' z3).1]; exact z1, z2, (nd a' z3).2, z4⟩
    refine ⟨.ref d, qs, d, od, rfl, .inl ⟨kvs, upd_same, ?_⟩⟩
    refine ⟨fun j m σ' H' => m = ds.length - j ∧ j ≤ ds.length ∧ ∃ S' ρ', Gr none S0' B' S' H' ∧ Ext S S' ∧ ER X.K B' S' H' σ' ρ' ∧ loopL G fb (ds.drop j) ρ' = some r,
      ⟨ds.length, rfl, Nat.zero_le _, S, ρ.set i none, g1, Ext.refl S, er1, by simpa using el⟩, ?_⟩
    rintro j m σ2 H2 ⟨rfl, hj, S2, ρ2, g2, x2, er2, l2⟩
    have fz := (stay g2).1
    by_cases hlt : j < ds.length
    · refine .inr ⟨⟨fz, by omega⟩, fun σ' H' => j + 1 ≤ ds.length ∧ ∃ S' ρ', Gr none S0' B' S' H' ∧ Ext S S' ∧ ER X.K B' S' H' σ' ρ' ∧ loopL G fb (ds.drop (j + 1)) ρ' = some r,
        fun σ' H' ⟨q1, q2⟩ => ⟨ds.length - (j + 1), by omega, rfl, q1, q2⟩, fun y H3 yy => ?_⟩
      obtain ⟨rfl, key, v, ekv, rfl⟩ := yy
      obtain ⟨kd, ed, rd⟩ := rpK_get? r4 ekv
      rw [hds] at ed
      have ed' : ds.drop j = kd :: ds.drop (j + 1) := by
        rw [List.drop_eq_getElem_cons hlt]
        rw [List.getElem?_eq_getElem hlt] at ed
        cases ed
        rfl
      rw [ed'] at l2
      unfold loopL at l2
      split at l2
      · cases l2
      rename_i ρ3 eG
      refine ⟨none, B', S2, ρ2, kd, ρ3, fun _ => rfl, g2.1, er2, rd.mono x2, eG, fun σ3 er3 _ _ => ?_⟩
      split at l2
      · rename_i ρ4 eb
        exact ⟨S0', B', S2, ρ3, _, g2.1, g2, er3, eb, fun S' H' σ' g x er => ⟨hlt, S', ρ4, g, x2.trans x, er, l2⟩⟩
      · rename_i ρ4 eb
        exact ⟨S0', B', S2, ρ3, _, g2.1, g2, er3, eb, fun S' H' σ' g x er => ⟨hlt, S', ρ4, g, x2.trans x, er, l2⟩⟩
      · rename_i ρ4 eb
        cases l2
        exact ⟨S0', B', S2, ρ3, _, g2.1, g2, er3, eb, fun S' H' σ' g x er => ⟨(stay g).1, k S' _ σ' (back g) (x2.trans x) ((ebk g er).dropL is)⟩⟩
      · rename_i d4 eb
        cases l2
        exact ⟨S0', B', S2, ρ3, _, g2.1, g2, er3, eb, fun S' H' v g x r => ⟨(stay g).1, k S' _ v (back g) (x2.trans x) r⟩⟩
      · rename_i d4 eb
        cases l2
        exact absurd rfl (hne _)
      · cases l2
    · have hj' : j = ds.length := by omega
      subst hj'
      refine .inl ⟨⟨fz, by omega⟩, ?_⟩
      rw [List.drop_length] at l2
      cases l2
      exact ⟨fz, k S2 _ σ2 (back g2) x2 ((ebk g2 er2).dropL is)⟩
  · cases h4⟩
end
end Fo
end
-- FoH6.lean
set_option Elab.async false
set_option linter.all false
set_option maxRecDepth 100000
set_option maxHeartbeats 2000000
noncomputable section
namespace Fo
open PySem L2
open PySem.W (dataLe dataLt alike alikeAll)

section
variable {X : Cx} {b : Bool} {e a c : Expr} {pos : Pos} {f g fk fe : Env → Option D} {EX : Nat → Value} {E : XK}
/-! ### [.. for k in d ..], d handed on already: d is locked meanwhile -/
def lcKE (i : Nat) (vs : List Nat) (G : D → Env → Option Env) (p : Env → Option Bool) (f : Env → Option D) : Env → Option D := fun ρ => match ρ[i]? with
  | some (some (.d (.dct ks))) => (match lcL (wipeE vs ρ) G p f (keysD ks) with
    | none => none
    | some ys => if ys.length ≤ LIM then some (.lst ys) else none)
  | _ => none
theorem je_lcK (i : Nat) {elt tg : Expr} {x : PySem.Str} {ppos : Pos} {ifs : List Expr} {scope : Scope} {own : List (PySem.Str × Nat)} {is : List Nat} {G : D → Env → Option Env} {p : Env → Option Bool} (hc : X.calm = true) (hN : X.N.Nodup) (ok : BlkOk X.N X.env.scope scope own)
    (hg : ∀ (s : Shared) (H : Hp) (C : Addr) (cl : List (PySem.Str × Addr)) (fp : List Addr), JG (X.blk s H scope (compEnvC scope cl C X.env) fp) true tg is G) (ht : ∀ (s : Shared) (H : Hp) (C : Addr) (cl : List (PySem.Str × Addr)) (fp : List Addr), JTs (X.blk s H scope (compEnvC scope cl C X.env) fp) true ifs p)
    (he : ∀ (s : Shared) (H : Hp) (C : Addr) (cl : List (PySem.Str × Addr)) (fp : List Addr), JE (X.blk s H scope (compEnvC scope cl C X.env) fp) true elt f) (his : ∀ i ∈ is, i ∈ own.map (·.2) := by decide)
    (hNi : X.N[i]? = some x := by rfl) (hv : Vis X.env.scope x := by first | exact Or.inl rfl | exact Or.inr (Or.inl rfl) | exact Or.inr (Or.inr rfl)) (hd : (x == ("__debug__" : PySem.Str)) = false := by decide) (hcd : (x == ("__classdict__" : PySem.Str)) = false := by decide)
    (hs : ∀ y, foldedSetIterable (.Name x ppos) X.env y = pure y := by intro _; rfl) :
    JE X false (.ListComp elt [⟨tg, .Name x ppos, ifs, 0⟩] scope pos) (lcKE i (own.map (·.2)) G p f) :=
  ⟨PE_imp (pe_lock (pe_lc (g := rdG X.K true is G) (tt := rdT X.K true p) (te := rdE X.K true f) hc hN (pi_keys (tg := tg) (pe_var hNi hv hd hcd)) ok (fun s H C cl fp => (hg s H C cl fp).pg) (fun s H C cl fp => (ht s H C cl fp).pts) (fun s H C cl fp => (he s H C cl fp).pe) hs)) fun σ H Q ⟨lk, B, S, ρ, dd, h1, h2, h3, h4, k⟩ => by
  obtain rfl := h1 rfl
  unfold lcKE at h4
  split at h4
  · rename_i ks eslot
    split at h4
    · cases h4
    rename_i ys el
    by_cases hlim : ys.length ≤ LIM
    case neg => rw [if_neg hlim] at h4; cases h4
    rw [if_pos hlim] at h4
    have hq := Option.some.inj h4
    subst hq
    obtain ⟨v, qs, rv⟩ := h3.at_ i _ eslot
    cases rv with
    | dct eS r4 =>
      rename_i d kvs
      have hd' : H d = some (.dK kvs) := by
        rcases h2 _ _ eS with q | ⟨z, _⟩
        · exact q
        · cases z
      refine ⟨d, .dK kvs, hd', trivial, fun od => ?_⟩
      have sb1 : Sub (some d) S (upd H d (.frz od (.dK kvs))) := fun a u z => by
        by_cases q : a = d
        · subst q
          rw [eS] at z
          cases z
          exact .inr ⟨rfl, ⟨kvs, rfl⟩, od, upd_same⟩
        · rw [upd_ne q]
          rcases h2 a u z with w | ⟨w, _⟩
          · exact .inl w
          · cases w
      have er1 : ER X.K B S (upd H d (.frz od (.dK kvs))) σ ρ := by
        refine ⟨h3.len, fun j c ej => ?_, h3.sep⟩
        obtain ⟨w, q1, q2⟩ := h3.at_ j c ej
        refine ⟨w, q1, ?_⟩
        cases c with
        | d y => exact q2
        | l xs =>
          obtain ⟨a', vs, z0, z1, z2, z3, z4⟩ := q2
          have na : a' ≠ d := fun z => by rw [z, eS] at z2; cases z2
          exact ⟨a', vs, z0, by rw [upd_ne na]; exact z1, z2, z3, z4⟩
        | k xs =>
          obtain ⟨a', vs, z0, z1, z2, z3, z4⟩ := q2
          have na : a' ≠ d := fun z => by rw [z, eS] at z2; cases z2
          exact ⟨a', vs, z0, by rw [upd_ne na]; exact z1, z2, z3, z4⟩
      have dw : DWalk X.K true (some d) (Itk d od kvs) (keysD ks) S (upd H d (.frz od (.dK kvs))) := fun S2 H2 s2 x2 w2 => by
        have fz : H2 d = some (.frz od (.dK kvs)) := by rw [w2 rfl d (by rw [upd_same]; simp)]; exact upd_same
        have ll : (keysD ks).length = kvs.length := by simp [keysD, r4.length]
        refine ⟨fun j hj => ⟨fz, by omega⟩, ⟨fz, by omega⟩, fun j y H3 hj yy => ?_⟩
        obtain ⟨rfl, key, v, ekv, rfl⟩ := yy
        obtain ⟨kd, ed, rd⟩ := rpK_get? r4 ekv
        exact ⟨S2, kd, Gr.refl s2, ed, rd.mono x2⟩
      have core := lc_core (b := true) (K := X.K) (f := f) (σ := σ) (H := upd H d (.frz od (.dK kvs))) (S := S) (B := B) (lk := some d) (ρ := ρ) (Q := fun v H' => H' d = some (.frz od (.dK kvs)) ∧ Q v (upd H' d (.dK kvs))) his (fun z => by cases z) sb1 er1 el hlim
        (fun p vs S' H' g hp sp hp' rr => by
          have fz : H' d = some (.frz od (.dK kvs)) := by rw [(g.2 d (by rw [upd_same]; simp)).1]; exact upd_same
          have hpd : p ≠ d := fun z => by rw [z, upd_same] at hp; cases hp
          refine ⟨fz, ?_⟩
          have x : Ext S' (upd S' p (.lst vs)) := fun a u z => by
            rw [upd_ne (fun q => by rw [q, sp] at z; cases z)]; exact z
          have eS' : S' d = some (.dK kvs) := by rw [(g.2 d (by rw [upd_same]; simp)).2]; exact eS
          refine k _ (upd S' p (.lst vs)) _ ⟨fun a u z => ?_, fun a ha => ?_⟩ (.lst upd_same (rr.mono x))
          · by_cases q : a = p
            · subst q
              rw [upd_same] at z; cases z
              rw [upd_ne hpd]; exact .inl hp'
            · rw [upd_ne q] at z
              by_cases qd : a = d
              · subst qd
                rw [eS'] at z; cases z
                rw [upd_same]; exact .inl rfl
              · rw [upd_ne qd]
                rcases g.1 a u z with w | ⟨w, _⟩
                · exact .inl w
                · exact absurd (Option.some.inj w).symm qd
          · have q : a ≠ p := fun q => by
              subst q
              have : upd H d (.frz od (.dK kvs)) a = H a := upd_ne hpd
              rw [this] at hp
              exact ha hp
            by_cases qd : a = d
            · subst qd
              rw [upd_same, upd_ne q]
              exact ⟨hd'.symm, by rw [eS', eS]⟩
            · have hb' : upd H d (.frz od (.dK kvs)) a ≠ none := by rw [upd_ne qd]; exact ha
              obtain ⟨w1, w2⟩ := g.2 a hb'
              rw [upd_ne qd, upd_ne q]
              exact ⟨by rw [w1, upd_ne qd], w2⟩) (Itk d od kvs) S (upd H d (.frz od (.dK kvs))) (Gr.refl sb1) dw
      exact ⟨.ref d, qs, d, od, rfl, .inl ⟨kvs, upd_same, core⟩⟩
  · cases h4⟩
end
end Fo
end
-- FoH7.lean
set_option Elab.async false
set_option linter.all false
set_option maxRecDepth 100000
set_option maxHeartbeats 2000000
noncomputable section
namespace Fo
open PySem L2

/-- turns of a while, at most -/
theorem wn_ex : ∃ n : Nat, n = 1000000 := ⟨_, rfl⟩
def WN : Nat := Classical.choose wn_ex
theorem WN_eq : WN = 1000000 := Classical.choose_spec wn_ex
/-! ### isinstance -/
def tnD : D → Option String
  | .non => some "NoneType"
  | .bl _ => some "bool"
  | .int _ => some "int"
  | .str _ => some "str"
  | .tup _ => some "tuple"
  | .lst _ => some "list"
  | .dct _ => some "dict"
  | _ => none
def isiD : List D → Option D
  | [d, .raw (.ty T)] => (tnD d).bind fun tn => (kitB tn T).map .bl
  | _ => none
theorem ty_rp {K : PySem.W.Frag} {lk : Option Addr} {S H : Hp} {v : V} {d : D} {tn : String} (s : Sub lk S H) (r : RpW K S H v d) (h : tnD d = some tn) : TyX K H v (.type tn) := by
  cases d <;> simp only [tnD, reduceCtorEq, Option.some.injEq] at h <;> subst h
  · rw [r.non_inv]; exact .base .non
  · rw [r.bl_inv]; exact .base (.bl _)
  · rw [r.int_inv]; exact .base (.int _)
  · rw [r.str_inv]; exact .base (.str _)
  · obtain ⟨a, vs, rfl, e, _⟩ := r.tup_inv s
    exact .base (.tup e)
  · obtain ⟨a, vs, rfl, e, _⟩ := r.lst_inv s
    exact .base (.lst e)
  · obtain ⟨a, kvs, rfl, e, _⟩ := r.dct_inv s
    rcases e with e | ⟨o, e⟩
    · exact .base (.dK e)
    · exact .fDict e
section
variable {X : Cx} {b : Bool} {e a c : Expr} {pos : Pos} {fk fe : Env → Option D} {EX : Nat → Value} {E : XK}
theorem cr_isi : CallR X (.builtin "isinstance") (rCof X.K b isiD) := by
  intro pins s σ H xs us Q I r h
  obtain ⟨lk, S, ds, z, h1, h2, h3, h4, k⟩ := h
  unfold isiD at h4
  split at h4
  · rename_i d T
    cases e1 : tnD d with
    | none => rw [e1] at h4; cases h4
    | some tn =>
    cases e2 : kitB tn T with
    | none => simp [e1, e2] at h4
    | some q =>
    simp [e1, e2] at h4
    subst h4
    obtain ⟨v, u, rfl, rv, ru⟩ := pair2 h3
    obtain rfl := ru.raw_inv
    exact call_isi pins s σ H _ us Q I r ⟨v, .ty T, .type tn, .type T, q, rfl, .ty T, ty_rp h2 rv e1, kit_ty e2, k _ S H (Gr.refl h2) (.bl _)⟩
  · cases h4
/-! ### name = {k: v} -/
def oneKS (i : Nat) (fk fe : Env → Option D) : Env → Option Out := fun ρ => match fk ρ with
  | none => none
  | some kd => match fe ρ with
    | none => none
    | some d => if (keyOf kd).isSome = true then some (.nx (ρ.set i (some (.k [(kd, d)])))) else none
theorem js_oneK (i : Nat) {x : PySem.Str} {pos' dpos : Pos} (hN : X.N.Nodup) (hk : JE X false a fk) (he : JE X false e fe) (hi : X.N[i]? = some x := by rfl) (hx : Loc X.env.scope x := by first | exact Or.inl rfl | exact Or.inr rfl) (hs : swapsWith (.Dict [some a] [e] dpos) (some (.Name x pos')) pos.line X.env = pure false := by rfl)
    (hf : X.fn x = true ∨ X.env.scope.names.lookup x = some .local := by first | exact .inl rfl | exact .inr rfl) : JS X EX E (.Assign [.Name x pos'] (.Dict [some a] [e] dpos) pos) (oneKS i fk fe) :=
  ⟨PS_imp (ps_set hN hi hx (pe_disp (pps_cons hk.pe he.pe pps_nil) rfl rfl (by simp) (by simp)) hs hf) fun T σ H ⟨S0, B, S, ρ, o, h1, h2, h3, h4, k⟩ => by
  unfold oneKS at h4
  split at h4
  · cases h4
  rename_i kd e1
  split at h4
  · cases h4
  rename_i d e2
  split at h4
  · rename_i hkey
    cases h4
    obtain ⟨key, ek⟩ := Option.isSome_iff_exists.mp hkey
    intro p hp
    have g0 := Gr.own (o := .dK []) h1 hp
    have hB : B p = none := by
      cases q : B p with
      | none => rfl
      | some u =>
        have := (h2.2 p (by rw [q]; simp)).1
        rw [hp, q] at this
        cases this
    refine ⟨none, B, S, ρ, kd, fun _ => rfl, g0.1, h3.gr h1 g0, e1, fun kv S1 H1 g1 rk => ⟨none, B, S1, ρ, d, fun _ => rfl, g1.1, h3.gr h1 (g0.trans g1), e2, fun v S2 H2 g2 rv => ?_⟩⟩
    have g12 := g1.trans g2
    have hp2 : H2 p = some (.dK []) := by rw [(g12.2 p (by rw [upd_same]; simp)).1]; exact upd_same
    have sp2 : S2 p = none := by rw [(g12.2 p (by rw [upd_same]; simp)).2]; exact h1.none hp
    have ekv : kv = kV key := by
      cases kd <;> simp only [keyOf, reduceCtorEq] at ek
      · cases ek; cases rk; rfl
      · cases ek; cases rk; rfl
    subst ekv
    refine ⟨hp2, [(key, v)], rfl, by simp, ?_⟩
    have hm : mergeK [] [(key, v)] = [(key, v)] := rfl
    rw [hm]
    have g02 := g0.trans g12
    have g3 : Gr none S H S2 (upd H2 p (.dK [(key, v)])) := by
      refine ⟨fun b u z => ?_, fun b hb => ?_⟩
      · have q : b ≠ p := fun q => by rw [q, sp2] at z; cases z
        rw [upd_ne q]; exact g02.1 b u z
      · have q : b ≠ p := fun q => hb (q ▸ hp)
        rw [upd_ne q]; exact g02.2 b hb
    exact k S2 _ _ (h2.trans g3) (g3.ext h1) (ER.setOwn h3 (h3.gr h1 g3) hp ⟨p, _, rfl, upd_same, sp2, hB, .cons ek (rv) .nil⟩)
  · cases h4⟩
end
end Fo
end
-- FoH8.lean
set_option Elab.async false
set_option linter.all false
set_option maxRecDepth 100000
set_option maxHeartbeats 2000000
noncomputable section
namespace Fo
open PySem L2

/-! ### a, b, c = a list -/
def toTupL (n : Nat) (Gs : List D → Env → Option Env) : D → Env → Option Env := fun d ρ => match d with
  | .lst ds => if ds.length = n then Gs ds ρ else none
  | _ => none
@[simp] theorem ev_toTupL {ρ : Env} {n : Nat} {Gs : List D → Env → Option Env} {ds : List D} : toTupL n Gs (.lst ds) ρ = if ds.length = n then Gs ds ρ else none := rfl
section
variable {X : Cx} {b : Bool} {pos : Pos}
def gLst (n : Nat) (t : TGs) : TG := fun v σ H Q => ∃ a xs, v = .ref a ∧ H a = some (.lst xs) ∧ xs.length = n ∧ t xs σ H Q
theorem pg_lst {es : List Expr} {k : Nat} {t : TGs} {n : Nat} (hc : X.calm = true) (h : PGs X es t) (hn : (assignEach es X.env).length = n) (hst : (assignEach es X.env).findIdx? (·.1) = none) : PG X (.Tuple es k pos) (gLst n t) := by
  refine ⟨fun pins s σ H v u Q I r ⟨a, xs, ev, hq, hl, hw⟩ => ?_⟩
  subst ev
  cases r
  obtain ⟨its, rv, p, hz⟩ := I.list (.inl (.inl hq))
  rw [arm_assign_Tuple]
  refine wpAny_bind (wpAny_standAt ?_)
  unfold unpack
  have e : (assignEach es X.env).length = its.toArray.size := by simp [hn, ← hl, rv.length]
  rw [e, hst]
  refine wpAny_bind (wpAny_holding (PySem.W.kun_itemsOf (I.ok.hd hc) p.isList fun h' hx => ?_))
  have I1 : Inv X pins σ H { s with heap := h' } := I.kept (t' := s.toks) fun b o e => hx b o (Nat.ne_of_lt (Heap.lt_size e)) e
  exact h.run pins _ σ H xs _ Q I1 (by simpa using rv) hw
theorem jg_tupL {es : List Expr} {kk : Nat} {is : List Nat} {Gs : List D → Env → Option Env} {n : Nat} (hc : X.calm = true) (h : JGs X b es is Gs) (hn : (assignEach es X.env).length = n := by rfl) (hst : (assignEach es X.env).findIdx? (·.1) = none := by rfl) : JG X b (.Tuple es kk pos) is (toTupL n Gs) := ⟨PG_imp (pg_lst hc h.pgs hn hst) fun v σ H Q ⟨lk, B, S, ρ, d, ρ', h1, h2, h3, h4, h5, k⟩ => by
  unfold toTupL at h5
  split at h5
  · rename_i ds
    split at h5
    · rename_i hl
      cases h4 with
      | lst e' rr' =>
        rename_i a vs _
        have q : H a = some (.lst vs) := by
          rcases h2 _ _ e' with q | ⟨_, ⟨_, z⟩, _⟩
          · exact q
          · cases z
        exact ⟨a, vs, rfl, q, by rw [rr'.length]; exact hl, lk, B, S, ρ, ds, ρ', h1, h2, h3, rr', h5, k⟩
    · cases h5
  · cases h5⟩
end
end Fo
end
-- FoH9.lean
set_option Elab.async false
set_option linter.all false
set_option maxRecDepth 100000
set_option maxHeartbeats 2000000
noncomputable section
namespace Fo
open PySem L2

/-! ### enumerate over zip: the pair that zip gave out may be held or let go, both roads are walked -/
abbrev zo (g0 : Value) (q : Bool) (TI TO : Addr) : Obj := { cls := .type "zip", data := .fields #[g0, .bool q, .bool false, .ref TI, .ref TO] }
def Lost (v : Value) : Prop := v = .none ∨ ∃ T : Nat, v = rawInt (T : Int)
def ZS (h : Heap) (z TI TO i1 i2 : Addr) : Prop := (∃ g0 q, Lost g0 ∧ h.get? z = some (zo g0 q TI TO)) ∧ IsTupOf2 h TI (.ref i1) (.ref i2) ∧ ∃ a1 a2, IsTupOf2 h TO a1 a2
theorem ZS.keep {h h' : Heap} {z TI TO i1 i2 : Addr} (x : ZS h z TI TO i1 i2) (kz : ∀ o, h.get? z = some o → h'.get? z = some o) (kI : ∀ o, h.get? TI = some o → h'.get? TI = some o) (kO : ∀ o, h.get? TO = some o → h'.get? TO = some o) : ZS h' z TI TO i1 i2 := by
  obtain ⟨⟨g0, q, lo, ez⟩, eI, a1, a2, eO⟩ := x
  exact ⟨⟨g0, q, lo, kz _ ez⟩, kI _ eI, a1, a2, kO _ eO⟩
section
variable {P : Program} {w : World} {A : Around} {E : Value → Shared → Prop} {s : Shared}
theorem alive_any {a : Addr} {Q : Option Obj → Shared → Prop} (q : Q (s.heap.get? a) s) : wpAny (model P w) A (loadIfAlive a) Q E s := fun _ _ _ => q
theorem own_free {z TI TO : Addr} {g0 : Value} {q : Bool} {Q : Bool → Shared → Prop} (ez : s.heap.get? z = some (zo g0 q TI TO)) (lo : Lost g0) (k1 : Q true s)
    (k2 : ∀ h' q', h'.get? z = some (zo g0 q' TI TO) → Heap.SameBut z s.heap h' → Q false { s with heap := h' }) : wpAny (model P w) A (Builtin.SmallTypes.ownedTupleIsFree (.ref z)) Q E s := by
  unfold Builtin.SmallTypes.ownedTupleIsFree
  refine wpAny_bind (wpAny_field ez rfl (x := g0) rfl ?_)
  rcases lo with rfl | ⟨T, rfl⟩
  · exact wpAny_pure k1
  · show wpAny _ _ (loadIfAlive (Int.toNat (T : Int)) >>= _) Q E s
    rw [Int.toNat_natCast]
    refine wpAny_bind (alive_any ?_)
    cases eT : s.heap.get? T with
    | none => exact wpAny_pure k1
    | some oT =>
      simp only [Option.isNone_some, if_false, Bool.false_eq_true]
      refine wpAny_bind (wpAny_field ez rfl (x := .bool q) rfl ?_)
      cases q with
      | true =>
        rw [if_neg (by exact Bool.false_ne_true)]
        exact wpAny_pure (k2 s.heap _ ez (Heap.SameBut.refl _ _))
      | false =>
        rw [if_pos (by rfl)]
        exact wpAny_bind <| wpAny_setField_rec ez (by simp) fun h1 ez1 hs1 => wpAny_pure (k2 h1 true ez1 hs1)
theorem pair_put {T : Addr} {x a1 a2 : Value} {k : Nat} {Q : Unit → Shared → Prop} (hT : IsTupOf2 s.heap T a1 a2)
    (q : ∀ h', h'.get? T = some { cls := .type "tuple", data := .seq ((#[a1, a2] : Array Value).setIfInBounds k x) } → Heap.SameBut T s.heap h' → Q () { s with heap := h' }) :
    wpAny (model P w) A (updateSeq T (·.setIfInBounds k x)) Q E s := updateSeq_IsTupOf2 hT q
end
section
variable {P : Program} {w : World} {A : Around} {E : Value → Shared → Prop} {s : Shared} {z TI TO i1 i2 : Addr} {fp1 fp2 : List Addr} {n1 n2 i : Nat} {P1 P2 : Nat → Value → Prop} {St1 St2 : Nat → Heap → Prop}
theorem zz_item {Q : Value → Shared → Prop} (S : ZipSep2 z TI TO i1 i2 fp1 fp2) (D1 : Draws P w A i1 fp1 n1 P1 St1) (D2 : Draws P w A i2 fp2 n2 P2 St2) (zs : ZS s.heap z TI TO i1 i2) (t1 : St1 i s.heap) (t2 : St2 i s.heap) (l1 : i < n1) (l2 : i < n2)
    (kQ : ∀ x1 x2 h' tk, P1 i x1 → P2 i x2 → ZS h' z TI TO i1 i2 → St1 (i + 1) h' → St2 (i + 1) h' → IsTupOf2 h' s.heap.objs.size x1 x2 → h'.objs.size = s.heap.objs.size + 1 →
      (∀ c o, c ≠ z → c ≠ TO → c ≠ i1 → c ≠ i2 → s.heap.get? c = some o → h'.get? c = some o) → Q (.ref s.heap.objs.size) { s with heap := h', toks := tk }) :
    wpAny (model P w) A (Builtin.«zip.__next__» ⟨[.ref z], []⟩) (fun fin s' => ∃ v, fin = .done (.ret v) ∧ Q v s') E s := by
  obtain ⟨h0, gg, dd, tt, oo⟩ := s
  obtain ⟨⟨g0, q, lo, ez⟩, eI, a1, a2, eO⟩ := zs
  replace ez : h0.get? z = some (zo g0 q TI TO) := ez
  show wpAny _ _ (field (.ref z) 2 >>= _) _ _ _
  refine wpAny_bind (wpAny_field ez rfl (x := .bool false) rfl ?_)
  show wpAny _ _ (field (.ref z) 3 >>= _) _ _ _
  refine wpAny_bind (wpAny_field ez rfl (x := .ref TI) rfl ?_)
  refine wpAny_bind <| wpAny_seqItems eI rfl ?_
  refine wpAny_bind <| own_free ez lo ?_ fun h1 q1 ez1 hs1 => ?_
  · simp only [if_true]
    refine wpAny_bind <| wpAny_rule ?_
    refine wpAny_bind (wpAny_field ez rfl (x := .ref TO) rfl ?_)
    refine wpAny_bind <| wpAny_setField_rec ez (by simp) fun j0 ez0 hs0 => ?_
    replace ez0 : j0.get? z = some (zo .ellipsis q TI TO) := ez0
    replace hs0 : Heap.SameBut z h0 j0 := hs0
    refine wpAny_bind ?_
    simp only [List.zipIdx_nil, List.zipIdx_cons, List.forIn_nil, List.forIn_cons]
    refine wpAny_bind <| wpAny_bind <| wpAny_onRaise ?_
    show wpAny _ _ (Builtin.SmallTypes.nextOf (.ref i1) >>= _) _ _ ⟨j0, gg, dd, tt, oo⟩
    refine wpAny_bind <| D1.item i _ _ _ l1 (D1.over t1 hs0 S.zf1) fun x1 j1 tk1 y1 u1 hs1 => wpAny_pure ?_
    replace hs1 : Heap.SameBut i1 j0 j1 := hs1
    have eO1 : IsTupOf2 j1 TO a1 a2 := hs1.extBut _ _ S.Ti1 (hs0.extBut _ _ S.TOz eO)
    refine wpAny_bind <| wpAny_seqItems (s := ⟨j1, gg, dd, tk1, oo⟩) eO1 rfl ?_
    refine wpAny_bind <| pair_put (s := ⟨j1, gg, dd, tk1, oo⟩) eO1 fun j2 eO2 hs2 => ?_
    replace eO2 : IsTupOf2 j2 TO x1 a2 := eO2
    replace hs2 : Heap.SameBut TO j1 j2 := hs2
    refine wpAny_bind <| wpAny_letGo <| wpAny_pure ?_
    refine wpAny_bind <| wpAny_bind <| wpAny_onRaise ?_
    show wpAny _ _ (Builtin.SmallTypes.nextOf (.ref i2) >>= _) _ _ ⟨j2, gg, dd, tk1, oo⟩
    refine wpAny_bind <| D2.item i _ _ _ l2 (D2.over (D2.over (D2.over t2 hs0 S.zf2) hs1 S.sep1_2) hs2 S.Tf2) fun x2 j3 tk2 y2 u2 hs3 => wpAny_pure ?_
    replace hs3 : Heap.SameBut i2 j2 j3 := hs3
    have eO3 : IsTupOf2 j3 TO x1 a2 := hs3.extBut _ _ S.Ti2 eO2
    refine wpAny_bind <| wpAny_seqItems (s := ⟨j3, gg, dd, tk2, oo⟩) eO3 rfl ?_
    refine wpAny_bind <| pair_put (s := ⟨j3, gg, dd, tk2, oo⟩) eO3 fun j4 eO4 hs4 => ?_
    replace eO4 : IsTupOf2 j4 TO x1 x2 := eO4
    replace hs4 : Heap.SameBut TO j3 j4 := hs4
    refine wpAny_bind <| wpAny_letGo <| wpAny_pure <| wpAny_pure ?_
    refine wpAny_bind <| wpAny_seqItems (s := ⟨j4, gg, dd, tk2, oo⟩) eO4 rfl ?_
    refine wpAny_bind <| wpAny_newTuple ?_
    have sz : j4.objs.size = h0.objs.size := by rw [hs4.1, hs3.1, hs2.1, hs1.1, hs0.1]
    have ez4 : j4.get? z = some (zo .ellipsis q TI TO) := hs4.extBut _ _ S.TOz.symm (hs3.extBut _ _ S.zi2 (hs2.extBut _ _ S.TOz.symm (hs1.extBut _ _ S.zi1 ez0)))
    have kk : ∀ c o, c ≠ z → c ≠ TO → c ≠ i1 → c ≠ i2 → h0.get? c = some o → j4.get? c = some o := fun c o cz cT c1 c2 e =>
      hs4.extBut _ _ cT (hs3.extBut _ _ c2 (hs2.extBut _ _ cT (hs1.extBut _ _ c1 (hs0.extBut _ _ cz e))))
    have v1 : St1 (i + 1) j4 := D1.over (D1.over (D1.over u1 hs2 S.Tf1) hs3 S.sep2_1) hs4 S.Tf1
    have v2 : St2 (i + 1) j4 := D2.over u2 hs4 S.Tf2
    have zlt : z < j4.objs.size := Heap.lt_size ez4
    show wpAny _ _ (Builtin.SmallTypes.ownedTupleHandOut (.ref z) (.ref j4.objs.size) >>= _) _ _ ⟨j4.push { cls := .type "tuple", data := .seq #[x1, x2] }, gg, dd, tk2, oo⟩
    refine wpAny_bind ?_
    unfold Builtin.SmallTypes.ownedTupleHandOut
    have ez5 : (j4.push { cls := .type "tuple", data := .seq #[x1, x2] }).get? z = some (zo .ellipsis q TI TO) := Heap.get?_push_of_some _ ez4
    refine wpAny_bind <| wpAny_setField_rec ez5 (by simp) fun j6 ez6 hs6 => ?_
    replace ez6 : j6.get? z = some (zo (rawInt j4.objs.size) q TI TO) := ez6
    refine wpAny_setField_rec ez6 (by simp) fun j7 ez7 hs7 => ?_
    replace ez7 : j7.get? z = some (zo (rawInt j4.objs.size) false TI TO) := ez7
    replace hs6 : Heap.SameBut z (j4.push { cls := .type "tuple", data := .seq #[x1, x2] }) j6 := hs6
    replace hs7 : Heap.SameBut z j6 j7 := hs7
    have up : ∀ c o, c ≠ z → j4.get? c = some o → j7.get? c = some o := fun c o cz e => hs7.extBut _ _ cz (hs6.extBut _ _ cz (Heap.get?_push_of_some _ e))
    have eT : IsTupOf2 j7 j4.objs.size x1 x2 := hs7.extBut _ _ (Nat.ne_of_gt zlt) (hs6.extBut _ _ (Nat.ne_of_gt zlt) (Heap.get?_push_size _ rfl))
    have sz7 : j7.objs.size = j4.objs.size + 1 := by rw [hs7.1, hs6.1, Heap.size_push]
    refine wpAny_pure ⟨_, rfl, ?_⟩
    show Q (.ref j4.objs.size) ⟨j7, gg, dd, tk2, oo⟩
    rw [sz] at ez7 eT sz7 ⊢
    exact kQ x1 x2 j7 tk2 y1 y2 ⟨⟨_, _, .inr ⟨_, rfl⟩, ez7⟩, up _ _ S.TIz (kk _ _ S.TIz S.TITO S.TIi1 S.TIi2 eI), _, _, up _ _ S.TOz eO4⟩
      (D1.frame _ _ _ v1 fun b hb o e => up b o (fun y => S.zf1 (y ▸ hb)) e) (D2.frame _ _ _ v2 fun b hb o e => up b o (fun y => S.zf2 (y ▸ hb)) e) eT sz7 fun c o cz cT c1 c2 e => up c o cz (kk c o cz cT c1 c2 e)
  · replace ez1 : h1.get? z = some (zo g0 q1 TI TO) := ez1
    replace hs1 : Heap.SameBut z h0 h1 := hs1
    simp only [if_false, Bool.false_eq_true]
    refine wpAny_bind ?_
    rw [← Array.forIn_toList]
    simp only [List.forIn_nil, List.forIn_cons]
    refine wpAny_bind <| wpAny_bind <| wpAny_holding ?_
    show wpAny _ _ (Builtin.SmallTypes.nextOf (.ref i1) >>= _) _ _ ⟨h1, gg, dd, tt, oo⟩
    refine wpAny_bind <| D1.item i _ _ _ l1 (D1.over t1 hs1 S.zf1) fun x1 j1 tk1 y1 u1 hs2 => wpAny_pure <| wpAny_pure ?_
    replace hs2 : Heap.SameBut i1 h1 j1 := hs2
    refine wpAny_bind <| wpAny_bind <| wpAny_holding ?_
    show wpAny _ _ (Builtin.SmallTypes.nextOf (.ref i2) >>= _) _ _ ⟨j1, gg, dd, tk1, oo⟩
    refine wpAny_bind <| D2.item i _ _ _ l2 (D2.over (D2.over t2 hs1 S.zf2) hs2 S.sep1_2) fun x2 j2 tk2 y2 u2 hs3 => wpAny_pure <| wpAny_pure <| wpAny_pure ?_
    replace hs3 : Heap.SameBut i2 j1 j2 := hs3
    show wpAny _ _ (newTuple [x1, x2] >>= _) _ _ ⟨j2, gg, dd, tk2, oo⟩
    refine wpAny_bind <| wpAny_newTuple ?_
    have sz : j2.objs.size = h0.objs.size := by rw [hs3.1, hs2.1, hs1.1]
    have kk : ∀ c o, c ≠ z → c ≠ i1 → c ≠ i2 → h0.get? c = some o → j2.get? c = some o := fun c o cz c1 c2 e => hs3.extBut _ _ c2 (hs2.extBut _ _ c1 (hs1.extBut _ _ cz e))
    have ez2 : j2.get? z = some (zo g0 q1 TI TO) := hs3.extBut _ _ S.zi2 (hs2.extBut _ _ S.zi1 ez1)
    refine wpAny_pure ⟨_, rfl, ?_⟩
    show Q (.ref j2.objs.size) ⟨j2.push { cls := .type "tuple", data := .seq #[x1, x2] }, gg, dd, tk2, oo⟩
    have eT : IsTupOf2 (j2.push { cls := .type "tuple", data := .seq #[x1, x2] }) j2.objs.size x1 x2 := Heap.get?_push_size _ rfl
    have sz4 : (j2.push { cls := .type "tuple", data := .seq #[x1, x2] }).objs.size = j2.objs.size + 1 := Heap.size_push ..
    rw [sz] at eT sz4 ⊢
    have up : ∀ c o, j2.get? c = some o → (j2.push { cls := .type "tuple", data := .seq #[x1, x2] }).get? c = some o := fun c o e => Heap.get?_push_of_some _ e
    exact kQ x1 x2 _ tk2 y1 y2 ⟨⟨_, _, lo, up _ _ ez2⟩, up _ _ (kk _ _ S.TIz S.TIi1 S.TIi2 eI), _, _, up _ _ (kk _ _ S.TOz S.Ti1 S.Ti2 eO)⟩
      (D1.frame _ _ _ (D1.over u1 hs3 S.sep2_1) fun b _ o e => up b o e) (D2.frame _ _ _ u2 fun b _ o e => up b o e) eT sz4 fun c o cz _ c1 c2 e => up c o (kk c o cz c1 c2 e)
theorem zz_end {Q : Fin → Shared → Prop} (S : ZipSep2 z TI TO i1 i2 fp1 fp2) (D1 : Draws P w A i1 fp1 n1 P1 St1) (D2 : Draws P w A i2 fp2 n2 P2 St2) (zs : ZS s.heap z TI TO i1 i2) (t1 : St1 i s.heap) (t2 : St2 i s.heap) (l1 : i ≤ n1) (l2 : i ≤ n2) (he : i = n1 ∨ i = n2)
    (kE : ∀ h' tk e, (∀ c o, c ≠ z → c ≠ TO → c ≠ i1 → c ≠ i2 → s.heap.get? c = some o → h'.get? c = some o) → (∃ o, h'.get? e = some o ∧ o.cls = .type "StopIteration") → E (.ref e) { s with heap := h', toks := tk }) :
    wpAny (model P w) A (Builtin.«zip.__next__» ⟨[.ref z], []⟩) Q E s := by
  obtain ⟨h0, gg, dd, tt, oo⟩ := s
  obtain ⟨⟨g0, q, lo, ez⟩, eI, a1, a2, eO⟩ := zs
  replace ez : h0.get? z = some (zo g0 q TI TO) := ez
  show wpAny _ _ (field (.ref z) 2 >>= _) _ _ _
  refine wpAny_bind (wpAny_field ez rfl (x := .bool false) rfl ?_)
  show wpAny _ _ (field (.ref z) 3 >>= _) _ _ _
  refine wpAny_bind (wpAny_field ez rfl (x := .ref TI) rfl ?_)
  refine wpAny_bind <| wpAny_seqItems eI rfl ?_
  refine wpAny_bind <| own_free ez lo ?_ fun h1 q1 ez1 hs1 => ?_
  · simp only [if_true]
    refine wpAny_bind <| wpAny_rule ?_
    refine wpAny_bind (wpAny_field ez rfl (x := .ref TO) rfl ?_)
    refine wpAny_bind <| wpAny_setField_rec ez (by simp) fun j0 ez0 hs0 => ?_
    replace ez0 : j0.get? z = some (zo .ellipsis q TI TO) := ez0
    replace hs0 : Heap.SameBut z h0 j0 := hs0
    refine wpAny_bind ?_
    simp only [List.zipIdx_nil, List.zipIdx_cons, List.forIn_nil, List.forIn_cons]
    refine wpAny_bind <| wpAny_bind <| wpAny_onRaise ?_
    show wpAny _ _ (Builtin.SmallTypes.nextOf (.ref i1) >>= _) _ _ ⟨j0, gg, dd, tt, oo⟩
    by_cases m1 : i < n1
    · refine wpAny_bind <| D1.item i _ _ _ m1 (D1.over t1 hs0 S.zf1) fun x1 j1 tk1 y1 u1 hs1 => wpAny_pure ?_
      replace hs1 : Heap.SameBut i1 j0 j1 := hs1
      have eO1 : IsTupOf2 j1 TO a1 a2 := hs1.extBut _ _ S.Ti1 (hs0.extBut _ _ S.TOz eO)
      refine wpAny_bind <| wpAny_seqItems (s := ⟨j1, gg, dd, tk1, oo⟩) eO1 rfl ?_
      refine wpAny_bind <| pair_put (s := ⟨j1, gg, dd, tk1, oo⟩) eO1 fun j2 eO2 hs2 => ?_
      replace eO2 : IsTupOf2 j2 TO x1 a2 := eO2
      replace hs2 : Heap.SameBut TO j1 j2 := hs2
      refine wpAny_bind <| wpAny_letGo <| wpAny_pure ?_
      have m2 : i = n2 := by omega
      refine wpAny_bind <| wpAny_bind <| wpAny_onRaise ?_
      show wpAny _ _ (Builtin.SmallTypes.nextOf (.ref i2) >>= _) _ _ ⟨j2, gg, dd, tk1, oo⟩
      refine wpAny_bind <| D2.done ⟨j2, gg, dd, tk1, oo⟩ _ _ (m2 ▸ D2.over (D2.over (D2.over t2 hs0 S.zf2) hs1 S.sep1_2) hs2 S.Tf2) fun j3 e hx ee => ?_
      replace hx : Heap.ExtBut i2 j2 j3 := hx
      obtain ⟨oe, ee, ec⟩ := ee
      replace ee : j3.get? e = some oe := ee
      have ez3 : j3.get? z = some (zo .ellipsis q TI TO) := hx _ _ S.zi2 (hs2.extBut _ _ S.TOz.symm (hs1.extBut _ _ S.zi1 ez0))
      have nez : e ≠ z := fun y => by subst y; rw [ez3] at ee; cases ee; simp at ec
      refine wpAny_setField_rec (s := ⟨j3, gg, dd, tk1, oo⟩) ez3 (by simp) fun j4 _ hs4 => ?_
      replace hs4 : Heap.SameBut z j3 j4 := hs4
      exact kE j4 tk1 e (fun c o cz cT c1 c2 y => hs4.extBut _ _ cz (hx _ _ c2 (hs2.extBut _ _ cT (hs1.extBut _ _ c1 (hs0.extBut _ _ cz y))))) ⟨oe, hs4.extBut _ _ nez ee, ec⟩
    · have m1' : i = n1 := by omega
      refine wpAny_bind <| D1.done ⟨j0, gg, dd, tt, oo⟩ _ _ (m1' ▸ D1.over t1 hs0 S.zf1) fun j1 e hx ee => ?_
      replace hx : Heap.ExtBut i1 j0 j1 := hx
      obtain ⟨oe, ee, ec⟩ := ee
      replace ee : j1.get? e = some oe := ee
      have ez3 : j1.get? z = some (zo .ellipsis q TI TO) := hx _ _ S.zi1 ez0
      have nez : e ≠ z := fun y => by subst y; rw [ez3] at ee; cases ee; simp at ec
      refine wpAny_setField_rec (s := ⟨j1, gg, dd, tt, oo⟩) ez3 (by simp) fun j4 _ hs4 => ?_
      replace hs4 : Heap.SameBut z j1 j4 := hs4
      exact kE j4 tt e (fun c o cz cT c1 c2 y => hs4.extBut _ _ cz (hx _ _ c1 (hs0.extBut _ _ cz y))) ⟨oe, hs4.extBut _ _ nez ee, ec⟩
  · replace ez1 : h1.get? z = some (zo g0 q1 TI TO) := ez1
    replace hs1 : Heap.SameBut z h0 h1 := hs1
    simp only [if_false, Bool.false_eq_true]
    refine wpAny_bind ?_
    rw [← Array.forIn_toList]
    simp only [List.forIn_nil, List.forIn_cons]
    refine wpAny_bind <| wpAny_bind <| wpAny_holding ?_
    show wpAny _ _ (Builtin.SmallTypes.nextOf (.ref i1) >>= _) _ _ ⟨h1, gg, dd, tt, oo⟩
    by_cases m1 : i < n1
    · refine wpAny_bind <| D1.item i _ _ _ m1 (D1.over t1 hs1 S.zf1) fun x1 j1 tk1 y1 u1 hs2 => wpAny_pure <| wpAny_pure ?_
      replace hs2 : Heap.SameBut i1 h1 j1 := hs2
      have m2 : i = n2 := by omega
      refine wpAny_bind <| wpAny_bind <| wpAny_holding ?_
      show wpAny _ _ (Builtin.SmallTypes.nextOf (.ref i2) >>= _) _ _ ⟨j1, gg, dd, tk1, oo⟩
      refine wpAny_bind <| D2.done ⟨j1, gg, dd, tk1, oo⟩ _ _ (m2 ▸ D2.over (D2.over t2 hs1 S.zf2) hs2 S.sep1_2) fun j3 e hx ee => ?_
      exact kE j3 tk1 e (fun c o cz _ c1 c2 y => hx _ _ c2 (hs2.extBut _ _ c1 (hs1.extBut _ _ cz y))) ee
    · have m1' : i = n1 := by omega
      refine wpAny_bind <| D1.done ⟨h1, gg, dd, tt, oo⟩ _ _ (m1' ▸ D1.over t1 hs1 S.zf1) fun j1 e hx ee => ?_
      exact kE j1 tt e (fun c o cz _ c1 _ y => hx _ _ c1 (hs1.extBut _ _ cz y)) ee
/-- what enumerate asks of a zip -/
theorem zz_nextOf {Q : Value → Shared → Prop} (S : ZipSep2 z TI TO i1 i2 fp1 fp2) (D1 : Draws P w A.in1 i1 fp1 n1 P1 St1) (D2 : Draws P w A.in1 i2 fp2 n2 P2 St2) (zs : ZS s.heap z TI TO i1 i2) (t1 : St1 i s.heap) (t2 : St2 i s.heap) (l1 : i < n1) (l2 : i < n2)
    (kQ : ∀ x1 x2 h' tk, P1 i x1 → P2 i x2 → ZS h' z TI TO i1 i2 → St1 (i + 1) h' → St2 (i + 1) h' → IsTupOf2 h' s.heap.objs.size x1 x2 → h'.objs.size = s.heap.objs.size + 1 →
      (∀ c o, c ≠ z → c ≠ TO → c ≠ i1 → c ≠ i2 → s.heap.get? c = some o → h'.get? c = some o) → Q (.ref s.heap.objs.size) { s with heap := h', toks := tk }) :
    wpAny (model P w) A (Builtin.SmallTypes.nextOf (.ref z)) Q E s := by
  have ty : s.TypeIs (.ref z) "zip" := let ⟨⟨_, _, _, ez⟩, _⟩ := zs; ⟨_, ez, rfl⟩
  unfold Builtin.SmallTypes.nextOf
  exact wpAny_bind (wpAny_callSpecial?_slot (name := Str.ofString "__next__") ty F.slot_zip_next
    (wpAny_call_entry F.slot_zip_next ty F.entry_zip_next (zz_item S D1 D2 zs t1 t2 l1 l2 fun x1 x2 h' tk y1 y2 b1 b2 b3 b4 b5 b6 => wpAny_pure (kQ x1 x2 h' tk y1 y2 b1 b2 b3 b4 b5 b6)) (F.args_zip_next_1 _)))
theorem zz_nextEnd {Q : Value → Shared → Prop} (S : ZipSep2 z TI TO i1 i2 fp1 fp2) (D1 : Draws P w A.in1 i1 fp1 n1 P1 St1) (D2 : Draws P w A.in1 i2 fp2 n2 P2 St2) (zs : ZS s.heap z TI TO i1 i2) (t1 : St1 i s.heap) (t2 : St2 i s.heap) (l1 : i ≤ n1) (l2 : i ≤ n2) (he : i = n1 ∨ i = n2)
    (kE : ∀ h' tk e, (∀ c o, c ≠ z → c ≠ TO → c ≠ i1 → c ≠ i2 → s.heap.get? c = some o → h'.get? c = some o) → (∃ o, h'.get? e = some o ∧ o.cls = .type "StopIteration") → E (.ref e) { s with heap := h', toks := tk }) :
    wpAny (model P w) A (Builtin.SmallTypes.nextOf (.ref z)) Q E s := by
  have ty : s.TypeIs (.ref z) "zip" := let ⟨⟨_, _, _, ez⟩, _⟩ := zs; ⟨_, ez, rfl⟩
  unfold Builtin.SmallTypes.nextOf
  exact wpAny_bind (wpAny_callSpecial?_slot (name := Str.ofString "__next__") ty F.slot_zip_next
    (wpAny_call_entry F.slot_zip_next ty F.entry_zip_next (zz_end S D1 D2 zs t1 t2 l1 l2 he kE) (F.args_zip_next_1 _)))
/-- a step of enumerate, whatever it counts -/
theorem ee_next {e it : Addr} {c : Int} {old : Value} {K : Value → Heap → Prop} {Q : Value → Shared → Prop} (ee : IsEnum s.heap e it c old)
    (nx : ∀ (Q' : Value → Shared → Prop), (∀ x h' tk, K x h' → IsEnum h' e it c old → Q' x { s with heap := h', toks := tk }) → wpAny (model P w) A (Builtin.SmallTypes.nextOf (.ref it)) Q' E s)
    (kQ : ∀ x h1 tk h2, K x h1 → IsEnumOut h2 e it (c + 1) x h1.objs.size → IsTupOf2 h2 h1.objs.size (.int c tk) x → (∀ b o, b ≠ e → h1.get? b = some o → h2.get? b = some o) → Q (.ref h1.objs.size) { s with heap := h2, toks := tk + 1 }) :
    wpAny (model P w) A (Builtin.«enumerate.__next__» ⟨[.ref e], []⟩) (fun fin s' => ∃ v, fin = .done (.ret v) ∧ Q v s') E s := by
  show wpAny _ _ (field (.ref e) 2 >>= _) _ _ _
  refine wpAny_bind (wpAny_field ee rfl (x := .ref it) rfl ?_)
  refine wpAny_bind <| nx _ fun x h1 tk hK e1 => ?_
  obtain ⟨h0, gg, dd, tt, oo⟩ := s
  show wpAny _ _ (field (.ref e) 3 >>= _) _ _ ⟨h1, gg, dd, tk, oo⟩
  refine wpAny_bind (wpAny_field e1 rfl (x := rawInt c) rfl ?_)
  show wpAny _ _ (field (.ref e) 4 >>= _) _ _ ⟨h1, gg, dd, tk, oo⟩
  refine wpAny_bind (wpAny_field e1 rfl (x := .none) rfl ?_)
  show wpAny _ _ (mkInt c >>= _) _ _ ⟨h1, gg, dd, tk, oo⟩
  refine wpAny_bind <| wpAny_mkInt ?_
  show wpAny _ _ (setField (.ref e) 3 (rawInt (c + 1)) >>= _) _ _ ⟨h1, gg, dd, tk + 1, oo⟩
  refine wpAny_bind <| wpAny_setField_rec e1 (by simp) fun j2 e2 hs2 => ?_
  replace hs2 : Heap.SameBut e h1 j2 := hs2
  replace e2 : IsEnum j2 e it (c + 1) old := e2
  show wpAny _ _ (setField (.ref e) 4 .none >>= _) _ _ ⟨j2, gg, dd, tk + 1, oo⟩
  refine wpAny_bind <| wpAny_setField_rec e2 (by simp) fun j3 e3 hs3 => ?_
  replace hs3 : Heap.SameBut e j2 j3 := hs3
  replace e3 : IsEnum j3 e it (c + 1) old := e3
  show wpAny _ _ (newTuple [.int c tk, x] >>= _) _ _ ⟨j3, gg, dd, tk + 1, oo⟩
  refine wpAny_bind <| wpAny_newTuple ?_
  have sz : j3.objs.size = h1.objs.size := by rw [hs3.1, hs2.1]
  have el : e < j3.objs.size := Heap.lt_size e3
  have e4 : IsEnum (j3.push { cls := .type "tuple", data := .seq #[.int c tk, x] }) e it (c + 1) old := Heap.get?_push_of_some _ e3
  have eT : IsTupOf2 (j3.push { cls := .type "tuple", data := .seq #[.int c tk, x] }) j3.objs.size (.int c tk) x := Heap.get?_push_size _ rfl
  have up4 : ∀ b o, b ≠ e → h1.get? b = some o → (j3.push { cls := .type "tuple", data := .seq #[.int c tk, x] }).get? b = some o := fun b o hb q => Heap.get?_push_of_some _ (hs3.extBut _ _ hb (hs2.extBut _ _ hb q))
  show wpAny _ _ (Builtin.SmallTypes.ownedTupleIsFree (.ref e) >>= _) _ _ ⟨j3.push { cls := .type "tuple", data := .seq #[.int c tk, x] }, gg, dd, tk + 1, oo⟩
  generalize j3.push { cls := .type "tuple", data := .seq #[.int c tk, x] } = j4 at e4 eT up4 ⊢
  rw [sz] at eT el ⊢
  refine wpAny_bind ?_
  unfold Builtin.SmallTypes.ownedTupleIsFree
  refine wpAny_bind (wpAny_field e4 rfl (x := .none) rfl <| wpAny_pure ?_)
  simp only [if_true]
  refine wpAny_bind <| wpAny_rule ?_
  refine wpAny_bind (wpAny_field e4 rfl (x := old) rfl ?_)
  refine wpAny_bind <| wpAny_setField_rec e4 (by simp) fun j5 e5 hs5 => ?_
  replace hs5 : Heap.SameBut e j4 j5 := hs5
  replace e5 : IsEnum j5 e it (c + 1) x := e5
  show wpAny _ _ (Builtin.SmallTypes.ownedTupleHandOut (.ref e) (.ref h1.objs.size) >>= _) _ _ ⟨j5, gg, dd, tk + 1, oo⟩
  refine wpAny_bind ?_
  unfold Builtin.SmallTypes.ownedTupleHandOut
  refine wpAny_bind <| wpAny_setField_rec e5 (by simp) fun j6 e6 hs6 => ?_
  replace hs6 : Heap.SameBut e j5 j6 := hs6
  replace e6 : IsEnumOut j6 e it (c + 1) x h1.objs.size := e6
  refine wpAny_setField_rec e6 (by simp) fun j7 e7 hs7 => ?_
  replace hs7 : Heap.SameBut e j6 j7 := hs7
  replace e7 : IsEnumOut j7 e it (c + 1) x h1.objs.size := e7
  have up : ∀ b o, b ≠ e → j4.get? b = some o → j7.get? b = some o := fun b o hb q => hs7.extBut _ _ hb (hs6.extBut _ _ hb (hs5.extBut _ _ hb q))
  exact wpAny_bind <| wpAny_letGo <| wpAny_pure ⟨_, rfl, kQ x h1 tk j7 hK e7 (up _ _ (Nat.ne_of_gt el) eT) fun b o hb q => up b o hb (up4 b o hb q)⟩
theorem ee_pyNext {e it : Addr} {c : Int} {old : Value} {K : Value → Heap → Prop} {Q : Option Value → Shared → Prop} (ee : IsEnum s.heap e it c old)
    (nx : ∀ (Q' : Value → Shared → Prop) (E' : Value → Shared → Prop), (∀ x h' tk, K x h' → IsEnum h' e it c old → Q' x { s with heap := h', toks := tk }) → wpAny (model P w) A.in1 (Builtin.SmallTypes.nextOf (.ref it)) Q' E' s)
    (kQ : ∀ x h1 tk h2, K x h1 → IsEnumOut h2 e it (c + 1) x h1.objs.size → IsTupOf2 h2 h1.objs.size (.int c tk) x → (∀ b o, b ≠ e → h1.get? b = some o → h2.get? b = some o) → Q (some (.ref h1.objs.size)) { s with heap := h2, toks := tk + 1 }) :
    wpAny (model P w) A (pyNext (.ref e)) Q E s := by
  have ty : s.TypeIs (.ref e) "enumerate" := ⟨_, ee, rfl⟩
  unfold pyNext
  exact wpAny_bind <| wpAny_attempt <| wpAny_callSpecial?_slot (name := Str.ofString "__next__") ty F.slot_enumerate_next
    (wpAny_call_entry F.slot_enumerate_next ty F.entry_enumerate_next (ee_next ee (fun Q' => nx Q' _) fun x h1 tk h2 a b c d => wpAny_pure (kQ x h1 tk h2 a b c d)) (F.args_enumerate_next_1 _))
theorem ee_done {e it : Addr} {c : Int} {old : Value} {K : Heap → Prop} {Q : Option Value → Shared → Prop} (ee : IsEnum s.heap e it c old)
    (nx : ∀ (Q' : Value → Shared → Prop) (E' : Value → Shared → Prop), (∀ x h' tk, K h' → (∃ o, h'.get? x = some o ∧ o.cls = .type "StopIteration") → E' (.ref x) { s with heap := h', toks := tk }) → wpAny (model P w) A.in1 (Builtin.SmallTypes.nextOf (.ref it)) Q' E' s)
    (kQ : ∀ h1 tk, K h1 → Q none { s with heap := h1, toks := tk }) : wpAny (model P w) A (pyNext (.ref e)) Q E s := by
  have ty : s.TypeIs (.ref e) "enumerate" := ⟨_, ee, rfl⟩
  unfold pyNext
  refine wpAny_bind <| wpAny_attempt <| wpAny_callSpecial?_slot (name := Str.ofString "__next__") ty F.slot_enumerate_next
    (wpAny_call_entry F.slot_enumerate_next ty F.entry_enumerate_next ?_ (F.args_enumerate_next_1 _))
  show wpAny _ _ (field (.ref e) 2 >>= _) _ _ _
  refine wpAny_bind (wpAny_field ee rfl (x := .ref it) rfl ?_)
  refine wpAny_bind <| nx _ _ fun x h' tk hK hx => ?_
  obtain ⟨o, ho, hc⟩ := hx
  refine wpAny_bind <| wpAny_isInstance (T := "StopIteration") (b := true) ⟨o, ho, hc⟩ isSubtype_stop ?_
  exact wpAny_pure (kQ _ _ hK)
end
theorem meets_enum2 {z : Addr} {Hc : Heap → Prop} (B : ∀ {P : Program} {w : World} {A : Around} {s : Shared} {Q E : Value → Shared → Prop}, Hc s.heap → Q (.ref z) s → wpAny (model P w) A (pyIter (.ref z)) Q E s) :
    Meets (Builtin.«enumerate.__new__» ⟨[.type "enumerate", .ref z], []⟩) (fun _ R s => Hc s.heap ∧ R (.ok (.ret (.ref s.heap.objs.size))) { s with heap := s.heap.push (enO z) }) :=
  .of_wp fun P w A R s hh => by
    obtain ⟨h0, gg, dd, tt, oo⟩ := s
    obtain ⟨hc, hR⟩ := hh
    have hsub := PySem.sub_enumerate
    have it1 : ∀ {A' : Around} {E' : Value → Shared → Prop} {Q' : Value → Shared → Prop}, Q' (.ref z) ⟨h0, gg, dd, tt, oo⟩ → wpAny (model P w) A' (pyIter (.ref z)) Q' E' ⟨h0, gg, dd, tt, oo⟩ :=
      fun q => B hc q
    wp_walk using it1
    refine wpAny_stack_any fun st => wpAny_pure ?_
    split
    · rename_i c _ _ _ _ _
      cases (c == Value.type "enumerate") <;> (wp_walk using it1; exact ⟨_, rfl, hR⟩)
    · wp_walk using it1; exact ⟨_, rfl, hR⟩
section
variable {P : Program} {w : World} {A : Around} {E : Value → Shared → Prop} {s : Shared}
theorem enum_begins2 {z TI TO : Addr} {Q : Value → Shared → Prop} (hz : IsZip s.heap z TI TO .none)
    (h : ∀ h', IsEnum h' s.heap.objs.size z 0 .none → (∀ c o, s.heap.get? c = some o → h'.get? c = some o) → Q (.ref s.heap.objs.size) { s with heap := h' }) :
    wpAny (model P w) A (call (.type "enumerate") [.ref z]) Q E s := by
  refine callType_new F.called_enumerate (by decide) (F.typeCall_enumerate_1 _) (F.newCall_enumerate_1 _) (fun obj => F.args_object_init_2 obj _) F.entry_enumerate_new (meets_enum2 (Hc := fun h => IsZip h z TI TO .none) fun hz' q => wpAny_pyIter_zip hz' q) ⟨hz, ?_⟩
  have he : IsEnum (s.heap.push (enO z)) s.heap.objs.size z 0 .none := Heap.get?_push_size s.heap (o := enO z) rfl
  exact ⟨⟨_, he, rfl⟩, h _ he fun c o e => Heap.get?_push_of_some _ e⟩
end
/-- a pair in a pair -/
def ItQ (n : Nat) (C : Hp → Prop) (yv : Nat → List V → Prop) : It :=
  ⟨fun i H => i < n ∧ C H, fun i H v H' => ∃ T1 T2 xs, v = .ref T2 ∧ H T1 = none ∧ upd H T1 (.tup xs) T2 = none ∧ H' = upd (upd H T1 (.tup xs)) T2 (.tup [.int (i : Nat), .ref T1]) ∧ yv i xs, fun i H => i = n ∧ C H⟩
theorem dw_pairs2 {K : PySem.W.Frag} {w : Bool} {lk : Option Addr} {S1 H1 : Hp} {n : Nat} {C : Hp → Prop} {yv : Nat → List V → Prop} {ds : List D} (hn : ds.length = n) (hC : ∀ S2 H2, Sub lk S2 H2 → Ext S1 S2 → C H2)
    (hy : ∀ i xs, yv i xs → ∃ es, ds[i]? = some (.tup es) ∧ RpL K S1 xs es) : DWalk K w lk (ItQ n C yv) (enumL ds) S1 H1 := fun S2 H2 s x _ => by
  subst hn
  have el : (enumL ds).length = ds.length := by simp [enumL]
  refine ⟨fun i hi => ⟨el ▸ hi, hC S2 H2 s x⟩, ⟨el, hC S2 H2 s x⟩, fun i v H3 hi y => ?_⟩
  obtain ⟨T1, T2, xs, rfl, hT1, hT2, rfl, yy⟩ := y
  obtain ⟨es, e, r⟩ := hy i xs yy
  have g1 := Gr.new (o := .tup xs) s hT1
  have g2 := Gr.new (o := .tup [.int (i : Nat), .ref T1]) g1.1 hT2
  exact ⟨_, _, g1.trans g2, by simp [enumL, e], .tup upd_same (.cons (.int _) (.cons ((Rp.tup upd_same (r.mono (x.trans (g1.ext s)))).mono (g2.ext g1.1)) .nil))⟩
section
variable {X : Cx} {b : Bool} {e e2 : Expr} {f1 f2 : Env → Option D}
theorem ji_enzip {p pos tpos p2 pos2 : Pos} {elts : List Expr} {kk : Nat} (hc : X.calm = true) (hg : Gl X "zip") (hm : X.mg "zip" = none) (hg' : Gl X "enumerate") (hm' : X.mg "enumerate" = none) (h1 : JE X b e f1) (h2 : JE X b e2 f2)
    (hs : starEach [e, e2] X.env = (false, eval e X.env) :: starEach [e2] X.env := by rfl) (hs2 : starEach [e2] X.env = (false, eval e2 X.env) :: starEach [] X.env := by rfl) (hpl : (backTo pos2 (starEach [e2] X.env)).any (·.1) = false := by rfl)
    (hs' : starEach [.Call (.Name "zip" p2) [e, e2] [] pos2] X.env = (false, eval (.Call (.Name "zip" p2) [e, e2] [] pos2) X.env) :: starEach [] X.env := by rfl) (hpl' : (backTo pos (starEach [] X.env)).any (·.1) = false := by rfl) :
    JI X b false (.Tuple elts kk tpos) (.Call (.Name "enumerate" p) [.Call (.Name "zip" p2) [e, e2] [] pos2] [] pos) (enumI (zipI f1 f2)) := ⟨⟨fun pins s σ H R I ⟨lk, B, S, ρ, ds, q1, q2, q3, q4, k⟩ => by
  have ha := ja_cons h1 (ja_cons h2 ja_nil hs2) hs
  replace q4 : Option.map enumL (zipI f1 f2 ρ) = some ds := q4
  unfold zipI at q4
  split at q4
  · cases q4
  rename_i xs ex
  refine PyProof.Rows.Call_ (ld_blt I hg' hm' (show bootBuiltins "enumerate" = some (.type "enumerate") by decide +kernel) (PyProof.Rows.callWith_type1 ?_ hs' hpl'))
  rw [hs']
  show wpAny _ _ (spliced ((false, eval (.Call (.Name "zip" p2) [e, e2] [] pos2) X.env) :: backTo pos (starEach [] X.env))) _ _ s
  refine Calls.spliced_cons ?_
  refine PyProof.Rows.Call_ (ld_blt I hg hm PyProof.Rows.boot_zip (PyProof.Rows.callWith_type1 (thn (ha.pa.run pos2 pins s σ H (fun vs H1 => ∃ S1, Gr lk S H S1 H1 ∧ RpL X.K S1 vs xs) I ⟨lk, B, S, ρ, xs, q1, q2, q3, ex, fun vs S1 H1 g r => ⟨S1, g, r⟩⟩) fun us s1 ⟨vs, H1, I1, r1, S1, g1, rr⟩ => ?_) hs hpl))
  unfold zipD at q4
  split at q4
  · rename_i x y hAP
    cases e1 : itemsZ x with
    | none => rw [e1] at q4; cases q4
    | some xs1 =>
    cases e2 : itemsZ y with
    | none => rw [e1, e2] at q4; cases q4
    | some ys1 =>
    rw [e1, e2] at q4
    have q4 := Option.some.inj q4
    subst q4
    cases rr with
    | cons rx rr => cases rr with
      | cons ry rr =>
        cases rr
        obtain ⟨u1, u2, rfl, ru1, ru2⟩ := vals2 r1
        obtain ⟨i1, n1⟩ := itemsZ_ok e1
        obtain ⟨i2, n2⟩ := itemsZ_ok e2
        obtain ⟨k1, vs1, _, rfl, p1, a1⟩ := knd_of g1.1 rx ru1 i1 n1
        obtain ⟨k2, vs2, _, rfl, p2, a2⟩ := knd_of g1.1 ry ru2 i2 n2
        obtain ⟨fpc1, Pv1, Hc1, B1, c1, _⟩ := k1.up I1 (a1 S1 H1 g1.1 (Ext.refl _))
        obtain ⟨fpc2, Pv2, Hc2, B2, c2, _⟩ := k2.up I1 (a2 S1 H1 g1.1 (Ext.refl _))
        refine zip_begins2 B1 B2 c1 c2 fun h' hz hTI hTO ho1 ho2 hsz hk => ?_
        refine Calls.spliced_nil ?_
        refine enum_begins2 (s := { s1 with heap := h' }) hz fun h2 he hk2 => wpAny_pyIter_enum he ?_
        replace he : IsEnum h2 h'.objs.size (s1.heap.objs.size + 4) 0 .none := he
        replace hk2 : ∀ c o, h'.get? c = some o → h2.get? c = some o := hk2
        have I2 : Inv X pins σ H1 { s1 with heap := h2 } := I1.kept (t' := s1.toks) fun c o q => hk2 c o (hk c o q)
        have l1 := p1.length
        have l2 := p2.length
        rw [hsz] at he ⊢
        replace hz := hk2 _ _ hz
        replace hTI := hk2 _ _ hTI
        replace hTO := hk2 _ _ hTO
        replace ho1 := hk2 _ _ ho1
        replace ho2 := hk2 _ _ ho2
        generalize hN : s1.heap.objs.size = N at *
        have fresh : ∀ j, H1 (N + j) = none := fun j => I1.hok.fresh (by rw [hN]; exact Nat.le_add_right _ _)
        have fr0 : H1 N = none := fresh 0
        have ne : ∀ i j : Nat, i ≠ j → N + i ≠ N + j := fun i j h z => h (Nat.add_left_cancel z)
        have cas : ∀ {c}, c ∈ [N + 5, N + 4, N + 2, N + 3, N, N + 1] → c = N + 5 ∨ c = N + 4 ∨ c = N + 2 ∨ c = N + 3 ∨ c = N ∨ c = N + 1 := fun h => by simpa using h
        refine ⟨N + 5, [N + 5, N + 4, N + 2, N + 3, N, N + 1], fun i h => (∃ old, IsEnum h (N + 5) (N + 4) (i : Nat) old) ∧ ZS h (N + 4) (N + 2) (N + 3) N (N + 1) ∧ k1.st N i h ∧ k2.st (N + 1) i h,
          ItQ (min vs1.length vs2.length) (fun H => k1.is H vs1 ∧ k2.is H vs2) (fun i xs => ∃ x y, xs = [x, y] ∧ vs1[i]? = some x ∧ vs2[i]? = some y), H1, rfl, I2, ?_, ⟨⟨_, he⟩, ⟨⟨_, _, .inl rfl, hz⟩, hTI, _, _, hTO⟩, Knd.st0 ho1, Knd.st0 ho2⟩, fun c hcm => ?_, ?_⟩
        · have core : ∀ {X' : Cx} {pins' : List (Addr × Obj)} {σ' : St} {H' : Hp} {s' : Shared} {i : Nat}, X'.prog = X.prog → X'.w = X.w → X'.calm = true → Inv X' pins' σ' H' s' → (∀ c ∈ [N + 5, N + 4, N + 2, N + 3, N, N + 1], H' c = none) → k1.st N i s'.heap → k2.st (N + 1) i s'.heap → k1.is H' vs1 → k2.is H' vs2 →
              ∃ fp1 fp2 P1 P2 St1 St2, ZipSep2 (N + 4) (N + 2) (N + 3) N (N + 1) fp1 fp2 ∧ Draws X.prog X.w X'.A.in1.in1 N fp1 vs1.length P1 St1 ∧ Draws X.prog X.w X'.A.in1.in1 (N + 1) fp2 vs2.length P2 St2 ∧ St1 i s'.heap ∧ St2 i s'.heap ∧ (∀ i h, St1 i h → k1.st N i h) ∧ (∀ i h, St2 i h → k2.st (N + 1) i h) ∧
                (∀ i v, P1 i v → ∃ y, vs1[i]? = some y ∧ RelV y v) ∧ (∀ i v, P2 i v → ∃ y, vs2[i]? = some y ∧ RelV y v) := by
            intro X' pins' σ' H' s' i hP hw hc' I' hno z4 z5 hC1 hC2
            rw [← hP, ← hw]
            obtain ⟨fp1, P1, Hc1, _, c1, f1, D1, v1⟩ := k1.up I' hC1
            obtain ⟨fp2, P2, Hc2, _, c2, f2, D2, v2⟩ := k2.up I' hC2
            have no1 : ∀ c, H' c = none → c ∉ fp1 := fun c hn hm' => f1 c hm' hn
            have no2 : ∀ c, H' c = none → c ∉ fp2 := fun c hn hm' => f2 c hm' hn
            have g0 := hno N (by simp)
            have g1' := hno (N + 1) (by simp)
            have g3 := hno (N + 3) (by simp)
            have g4 := hno (N + 4) (by simp)
            have nin : ∀ (a : Nat) (f : List Addr) (c : Nat), c ≠ a → H' (N + c) = none → (∀ c, H' c = none → c ∉ f) → N + c ∉ (N + a) :: f := fun a f c hca hn no hm' => by
              rcases List.mem_cons.mp hm' with z | z
              · exact ne c a hca z
              · exact no _ hn z
            have Sep : ZipSep2 (N + 4) (N + 2) (N + 3) N (N + 1) (N :: fp1) ((N + 1) :: fp2) :=
              { TIz := ne 2 4 (by decide), TOz := ne 3 4 (by decide), TITO := ne 2 3 (by decide), TIi1 := ne 2 0 (by decide), mem1 := List.mem_cons_self .., zf1 := nin 0 fp1 4 (by decide) g4 no1, Tf1 := nin 0 fp1 3 (by decide) g3 no1,
                TIi2 := ne 2 1 (by decide), mem2 := List.mem_cons_self .., zf2 := nin 1 fp2 4 (by decide) g4 no2, Tf2 := nin 1 fp2 3 (by decide) g3 no2, sep1_2 := nin 1 fp2 0 (by decide) g0 no2, sep2_1 := nin 0 fp1 1 (by decide) g1' no1 }
            have hh := I'.ok.hd hc'
            exact ⟨_, _, _, _, _, _, Sep, D1 X'.A.in1.in1 N hh fun c hm' z => f1 c hm' (z ▸ g0), D2 X'.A.in1.in1 (N + 1) hh fun c hm' z => f2 c hm' (z ▸ g1'), ⟨z4, c1⟩, ⟨z5, c2⟩, fun _ _ q => q.1, fun _ _ q => q.1, v1, v2⟩
          refine ⟨by simp, fun i h st c hcm => ?_, fun i h h' st kp => ?_, ?_, ?_, fun A i s Q E st q => let ⟨⟨_, z⟩, _⟩ := st; wpAny_pyIter_enum z q⟩
          · obtain ⟨⟨old, z0⟩, ⟨⟨g0, q0, lo, z1⟩, z2, a, c', z3⟩, z4, z5⟩ := st
            rcases cas hcm with q | q | q | q | q | q
            · rw [q]; exact ⟨_, z0, fun v z => nomatch z⟩
            · rw [q]; exact ⟨_, z1, fun v z => nomatch z⟩
            · rw [q]; exact ⟨_, z2, fun v z => nomatch z⟩
            · rw [q]; exact ⟨_, z3, fun v z => nomatch z⟩
            · rw [q]; exact Knd.obj z4
            · rw [q]; exact Knd.obj z5
          · obtain ⟨⟨old, z0⟩, z1, z4, z5⟩ := st
            exact ⟨⟨old, kp _ (by simp) _ z0⟩, z1.keep (kp _ (by simp)) (kp _ (by simp)) (kp _ (by simp)), Knd.keep z4 (kp _ (by simp)), Knd.keep z5 (kp _ (by simp))⟩
          · intro X' hP hw hK hc' i pins' s' σ' H' E' I' hf st hg
            obtain ⟨⟨old, z0⟩, z1, z4, z5⟩ := st
            obtain ⟨hi, hC1, hC2⟩ := hg
            obtain ⟨fp1, fp2, P1, P2, St1, St2, Sep, D1, D2, t1, t2, w1, w2, v1, v2⟩ := core hP hw hc' I' (fun c h => (hf c h).1) z4 z5 hC1 hC2
            refine ee_pyNext (K := fun x h1 => ∃ x1 x2, x = .ref s'.heap.objs.size ∧ P1 i x1 ∧ P2 i x2 ∧ ZS h1 (N + 4) (N + 2) (N + 3) N (N + 1) ∧ St1 (i + 1) h1 ∧ St2 (i + 1) h1 ∧ IsTupOf2 h1 s'.heap.objs.size x1 x2 ∧ h1.objs.size = s'.heap.objs.size + 1 ∧ ∀ c o, c ≠ N + 4 → c ≠ N + 3 → c ≠ N → c ≠ N + 1 → s'.heap.get? c = some o → h1.get? c = some o) z0
              (fun Q1 E1 q => zz_nextOf Sep D1 D2 z1 t1 t2 (Nat.lt_of_lt_of_le hi (Nat.min_le_left _ _)) (Nat.lt_of_lt_of_le hi (Nat.min_le_right _ _)) fun x1 x2 h1 tk y1 y2 b1 b2 b3 b4 b5 b6 => q _ _ _ ⟨x1, x2, rfl, y1, y2, b1, b2, b3, b4, b5, b6⟩ (b6 _ _ (ne 5 4 (by decide)) (ne 5 3 (by decide)) (ne 5 0 (by decide)) (ne 5 1 (by decide)) z0))
              fun x h1 tk h2 ⟨x1, x2, ex, y1, y2, b1, b2, b3, b4, b5, b6⟩ eo eT kp => ⟨_, rfl, wpAny_letOwnedTupleGo_enum eo fun h3 e3 hs3 => ?_⟩
            subst ex
            replace hs3 : Heap.SameBut (N + 5) h2 h3 := hs3
            have k3 : ∀ c o, c ≠ N + 5 → h1.get? c = some o → h3.get? c = some o := fun c o hc q => hs3.extBut _ _ hc (kp _ _ hc q)
            have out : ∀ {c}, c ∉ [N + 5, N + 4, N + 2, N + 3, N, N + 1] → c ≠ N + 5 ∧ c ≠ N + 4 ∧ c ≠ N + 3 ∧ c ≠ N ∧ c ≠ N + 1 := fun h => by simp at h; exact ⟨h.1, h.2.1, h.2.2.2.1, h.2.2.2.2.1, h.2.2.2.2.2⟩
            obtain ⟨Y1, q1, r1⟩ := v1 i x1 y1
            obtain ⟨Y2, q2, r2⟩ := v2 i x2 y2
            have sl : 2 ≤ sizeLine := by rw [sizeLine_eq]; decide
            have I1 : Inv X' pins' σ' (upd H' s'.heap.objs.size (.tup [Y1, Y2])) { s' with heap := h1, toks := tk } :=
              I'.turnedNew (ch := [N + 5, N + 4, N + 2, N + 3, N, N + 1]) (fun c o hc q => b6 c o (out hc).2.1 (out hc).2.2.1 (out hc).2.2.2.1 (out hc).2.2.2.2 q) hf (Nat.le_refl _) ⟨sl, [x1, x2], .cons r1 (.cons r2 .nil), _, b4, rfl, _, rfl⟩
            have lt5 : N + 5 < s'.heap.objs.size := Heap.lt_size z0
            have lo : ∀ c, c ∈ [N + 5, N + 4, N + 2, N + 3, N, N + 1] → c < s'.heap.objs.size := fun c hc => by rcases cas hc with q | q | q | q | q | q <;> rw [q] <;> first | exact lt5 | exact Nat.lt_of_le_of_lt (Nat.add_le_add_left (by decide) N) lt5 | exact Nat.lt_of_le_of_lt (Nat.le_add_right N 5) lt5
            have hf1 : ∀ c ∈ [N + 5, N + 4, N + 2, N + 3, N, N + 1], FpOk X' pins' (upd H' s'.heap.objs.size (.tup [Y1, Y2])) c := fun c hc => ⟨by rw [upd_ne (Nat.ne_of_lt (lo c hc))]; exact (hf c hc).1, (hf c hc).2⟩
            have ne2 : h1.objs.size ≠ N + 5 := by rw [b5]; exact Nat.ne_of_gt (Nat.lt_succ_of_lt lt5)
            have I3 : Inv X' pins' σ' (upd (upd H' s'.heap.objs.size (.tup [Y1, Y2])) h1.objs.size (.tup [.int (i : Nat), .ref s'.heap.objs.size])) { s' with heap := h3, toks := tk + 1 } :=
              I1.turnedNew (ch := [N + 5, N + 4, N + 2, N + 3, N, N + 1]) (fun c o hc q => k3 c o (out hc).1 q) hf1 (Nat.le_refl _) ⟨sl, [.int (i : Nat) tk, .ref s'.heap.objs.size], .cons ⟨tk, rfl⟩ (.cons rfl .nil), _, hs3.extBut _ _ ne2 eT, rfl, _, rfl⟩
            refine ⟨.ref h1.objs.size, _, I3, rfl, ⟨s'.heap.objs.size, h1.objs.size, [Y1, Y2], rfl, I'.hok.fresh (Nat.le_refl _), I1.hok.fresh (Nat.le_refl _), rfl, Y1, Y2, rfl, q1, q2⟩, ⟨⟨_, e3⟩, b1.keep (fun o => k3 _ o (ne 4 5 (by decide))) (fun o => k3 _ o (ne 2 5 (by decide))) (fun o => k3 _ o (ne 3 5 (by decide))), Knd.keep (w1 _ _ b2) (fun o => k3 _ o (ne 0 5 (by decide))), Knd.keep (w2 _ _ b3) (fun o => k3 _ o (ne 1 5 (by decide)))⟩, fun c hc => ?_⟩
            rw [upd_ne (by rw [b5]; exact Nat.ne_of_lt (Nat.lt_succ_of_lt (lo c hc))), upd_ne (Nat.ne_of_lt (lo c hc))]
            exact (hf c hc).1
          · intro X' hP hw hK hc' i pins' s' σ' H' E' I' hf st hg
            obtain ⟨⟨old, z0⟩, z1, z4, z5⟩ := st
            obtain ⟨hi, hC1, hC2⟩ := hg
            obtain ⟨fp1, fp2, P1, P2, St1, St2, Sep, D1, D2, t1, t2, w1, w2, v1, v2⟩ := core hP hw hc' I' (fun c h => (hf c h).1) z4 z5 hC1 hC2
            have out : ∀ {c}, c ∉ [N + 5, N + 4, N + 2, N + 3, N, N + 1] → c ≠ N + 5 ∧ c ≠ N + 4 ∧ c ≠ N + 3 ∧ c ≠ N ∧ c ≠ N + 1 := fun h => by simp at h; exact ⟨h.1, h.2.1, h.2.2.2.1, h.2.2.2.2.1, h.2.2.2.2.2⟩
            refine ee_done (K := fun h1 => ∀ c o, c ≠ N + 4 → c ≠ N + 3 → c ≠ N → c ≠ N + 1 → s'.heap.get? c = some o → h1.get? c = some o) z0
              (fun Q1 E1 q => zz_nextEnd Sep D1 D2 z1 t1 t2 (by rw [hi]; exact Nat.min_le_left _ _) (by rw [hi]; exact Nat.min_le_right _ _) (by rw [hi]; rcases Nat.le_total vs1.length vs2.length with z | z; exact .inl (Nat.min_eq_left z); exact .inr (Nat.min_eq_right z)) fun h1 tk e ke ee => q _ _ _ ke ee)
              fun h1 tk ke => ⟨rfl, I'.turnedL (ch := [N + 5, N + 4, N + 2, N + 3, N, N + 1]) (fun c o hc q => ke c o (out hc).2.1 (out hc).2.2.1 (out hc).2.2.2.1 (out hc).2.2.2.2 q) hf⟩
        · have hle : N ≤ c := by rcases cas hcm with q | q | q | q | q | q <;> rw [q] <;> first | exact Nat.le_refl _ | exact Nat.le_add_right _ _
          exact I1.fpOk (by rw [hN]; exact hle) (I1.hok.fresh (by rw [hN]; exact hle))
        · refine k _ S1 H1 g1 (dw_pairs2 (by rw [List.length_zipWith, l1, l2]) (fun S2 H2 s2 x2 => ⟨a1 S2 H2 s2 x2, a2 S2 H2 s2 x2⟩) ?_)
          rintro i xs ⟨x', y', rfl, w1, w2⟩
          obtain ⟨d1, w3, w4⟩ := p1.get' w1
          obtain ⟨d2, w5, w6⟩ := p2.get' w2
          exact ⟨[d1, d2], by rw [List.getElem?_zipWith, w3, w5], .cons w4 (.cons w6 .nil)⟩
  · cases q4⟩⟩
end
end Fo
end
-- FoDen.lean
set_option Elab.async false
set_option linter.all false
set_option maxRecDepth 100000
set_option maxHeartbeats 2000000
noncomputable section
namespace Fo
open PySem L2
-- is_whole (k01)
def b_is_whole : Env → Option Out := retS (andV (callE isiD (consA (getW 0) (consA (cst (.raw (.ty "int"))) nilA))) (andV (notV (callE isiD (consA (getW 0) (consA (cst (.raw (.ty "bool"))) nilA)))) (chn leD leD (getW 1) (getW 0) (getW 2))))
def G_is_whole : List D → Option D := runF 3 b_is_whole

-- is_text (k01)
def b_is_text_c1 : Env → Option D := bin inX (getW 3) (getW 1)
def b_is_text : Env → Option Out := retS (andV (callE isiD (consA (getW 0) (consA (cst (.raw (.ty "str"))) nilA))) (andV (chn leD leD (cst (.int 1)) (callE lenD (consA (getW 0) (nilA))) (getW 2)) (callE allD (consA (lcE [3] (seqI (getW 0)) (toS 3) (fun _ => some true) b_is_text_c1) (nilA)))))
def G_is_text : List D → Option D := runF 4 b_is_text

-- are_rising (k01)
def b_are_rising_c1 : Env → Option D := bin ltD (getW 1) (getW 2)
def b_are_rising : Env → Option Out := retS (callE allD (consA (lcE [1, 2] (zipI (slcE slD (getW 0) ((fun _ => some none)) (partE (neg (cst (.int 1))))) (slcE slD (getW 0) (partE (cst (.int 1))) ((fun _ => some none)))) (toTup 2 (toCons (toS 1) (toCons (toS 2) (toNil)))) (fun _ => some true) b_are_rising_c1) (nilA)))
def G_are_rising : List D → Option D := runF 3 b_are_rising

-- is_tuple (k01)
def b_is_tuple : Env → Option Out := retS (andV (callE isiD (consA (getW 0) (consA (cst (.raw (.ty "tuple"))) nilA))) (chn leD leD (getW 1) (callE lenD (consA (getW 0) (nilA))) (getW 2)))
def G_is_tuple : List D → Option D := runF 3 b_is_tuple

-- is_foot (k01)
def b_is_foot_c1 : Env → Option D := callN 3 G_is_text (consA (getS 1) (consA (cst (.str [108, 115])) (consA (cst (.int 3)) (nilA))))
def b_is_foot : Env → Option Out := seqS (ifS (orT (notT (asB (callN 3 G_is_tuple (consA (getS 0) (consA (cst (.int 2)) (consA (cst (.int 2)) (nilA))))))) (orT (notT (asB (callN 3 G_is_text (consA (bin ixD (getW 0) (cst (.int 0))) (consA (cst (.str [97, 98, 99, 100, 101, 102, 103, 104, 105, 106, 107, 108, 109, 110, 111, 112, 113, 114, 115, 116, 117, 118, 119, 120, 121, 122])) (consA (cst (.int 3)) (nilA))))))) (notT (asB (callN 3 G_is_tuple (consA (bin ixD (getW 0) (cst (.int 1))) (consA (cst (.int 1)) (consA (cst (.int 3)) (nilA))))))))) (retS (cst (.bl false))) (nopS)) (retS (andV (callE allD (consA (lcE [1] (seqI (bin ixD (getW 0) (cst (.int 1)))) (toS 1) (fun _ => some true) b_is_foot_c1) (nilA))) (callN 1 G_are_rising (consA (bin ixD (getW 0) (cst (.int 1))) (nilA)))))
def G_is_foot : List D → Option D := runF 2 b_is_foot

-- is_tongue (k01)
def b_is_tongue_c1 : Env → Option D := callN 1 G_is_foot (consA (getS 1) (nilA))
def b_is_tongue_c2 : Env → Option D := bin ixD (getW 1) (cst (.int 0))
def b_is_tongue : Env → Option Out := seqS (ifS (orT (notT (asB (callN 3 G_is_tuple (consA (getS 0) (consA (cst (.int 1)) (consA (cst (.int 4)) (nilA))))))) (notT (asB (callE allD (consA (lcE [1] (seqI (getW 0)) (toS 1) (fun _ => some true) b_is_tongue_c1) (nilA)))))) (retS (cst (.bl false))) (nopS)) (retS (callN 1 G_are_rising (consA (lcE [1] (seqI (getW 0)) (toS 1) (fun _ => some true) b_is_tongue_c2) (nilA))))
def G_is_tongue : List D → Option D := runF 2 b_is_tongue

-- is_place (k01)
def b_is_place_c1 : Env → Option D := callE isiD (consA (getW 2) (consA (cst (.raw (.ty "str"))) nilA))
def b_is_place_c2 : Env → Option D := bin ixD (getW 3) (cst (.int 0))
def b_is_place_c3 : Env → Option D := bin inX (getW 2) (lcE [3] (seqI (getW 0)) (toS 3) (fun _ => some true) b_is_place_c2)
def b_is_place : Env → Option Out := seqS (ifS (orT (notT (asB (callN 3 G_is_tuple (consA (getS 1) (consA (cst (.int 1)) (consA (cst (.int 3)) (nilA))))))) (notT (asB (callE allD (consA (lcE [2] (seqI (getW 1)) (toS 2) (fun _ => some true) b_is_place_c1) (nilA)))))) (retS (cst (.bl false))) (nopS)) (retS (andV (callN 1 G_are_rising (consA (getS 1) (nilA))) (callE allD (consA (lcE [2] (seqI (getW 1)) (toS 2) (fun _ => some true) b_is_place_c3) (nilA)))))
def G_is_place : List D → Option D := runF 4 b_is_place

-- is_break (k01)
def b_is_break : Env → Option Out := retS (andV (callN 3 G_is_tuple (consA (getS 0) (consA (cst (.int 2)) (consA (cst (.int 2)) (nilA))))) (andV (callN 3 G_is_whole (consA (bin ixD (getW 0) (cst (.int 0))) (consA (cst (.int 0)) (consA (bin subD (getW 1) (cst (.int 1))) (nilA))))) (callN 3 G_is_whole (consA (bin ixD (getW 0) (cst (.int 1))) (consA (cst (.int 1)) (consA (cst (.int 3)) (nilA)))))))
def G_is_break : List D → Option D := runF 2 b_is_break

-- is_measure (k01)
def b_is_measure_c1 : Env → Option D := callN 2 G_is_place (consA (getS 0) (consA (getS 2) (nilA)))
def b_is_measure_c2 : Env → Option D := callN 2 G_is_break (consA (getS 3) (consA (callE lenD (consA (bin ixD (getW 1) (cst (.int 0))) (nilA))) (nilA)))
def b_is_measure : Env → Option Out := seqS (ifS (orT (notT (asB (callN 3 G_is_tuple (consA (getS 1) (consA (cst (.int 3)) (consA (cst (.int 3)) (nilA))))))) (orT (notT (asB (callN 3 G_is_tuple (consA (bin ixD (getW 1) (cst (.int 0))) (consA (cst (.int 0)) (consA (cst (.int 4)) (nilA))))))) (notT (asB (callN 3 G_is_tuple (consA (bin ixD (getW 1) (cst (.int 1))) (consA (cst (.int 0)) (consA (cst (.int 2)) (nilA))))))))) (retS (cst (.bl false))) (nopS)) (seqS (ifS (orT (notT (asB (callE allD (consA (lcE [2] (seqI (bin ixD (getW 1) (cst (.int 0)))) (toS 2) (fun _ => some true) b_is_measure_c1) (nilA))))) (notT (asB (callE isiD (consA (bin ixD (getW 1) (cst (.int 2))) (consA (cst (.raw (.ty "bool"))) nilA)))))) (retS (cst (.bl false))) (nopS)) (retS (andV (callE allD (consA (lcE [3] (seqI (bin ixD (getW 1) (cst (.int 1)))) (toS 3) (fun _ => some true) b_is_measure_c2) (nilA))) (callN 1 G_are_rising (consA (bin ixD (getW 1) (cst (.int 1))) (nilA))))))
def G_is_measure : List D → Option D := runF 4 b_is_measure

-- is_word (k01)
def b_is_word : Env → Option Out := retS (callN 3 G_is_text (consA (getS 0) (consA (cst (.str [108, 115, 101])) (consA (cst (.int 4)) (nilA)))))
def G_is_word : List D → Option D := runF 1 b_is_word

-- is_line (k01)
def b_is_line_c1 : Env → Option D := callN 1 G_is_word (consA (getS 1) (nilA))
def b_is_line : Env → Option Out := retS (andV (callN 3 G_is_tuple (consA (getS 0) (consA (cst (.int 0)) (consA (cst (.int 6)) (nilA))))) (callE allD (consA (lcE [1] (seqI (getW 0)) (toS 1) (fun _ => some true) b_is_line_c1) (nilA))))
def G_is_line : List D → Option D := runF 2 b_is_line

-- _law_cell_at (k01)
def b__law_cell_at : Env → Option Out := seqS (ifS (asB (bin ltD (getW 1) (callE lenD (consA (getW 0) (nilA))))) (retS (bin ixD (getW 0) (getW 1))) (nopS)) (retS (cst (.int 0)))
def G__law_cell_at : List D → Option D := runF 2 b__law_cell_at

-- _law_mixed (k01)
def b__law_mixed : Env → Option Out := seqS (asgS 2 (bin modD (bin mulX (bin addD (bin addD (callN 2 G__law_cell_at (consA (getS 0) (consA (getS 1) (nilA)))) (bin mulX (cst (.int 7919)) (getW 1))) (cst (.int 1))) (cst (.int 48271))) (cst (.int 2147483647)))) (retS (bin modD (bin addD (bin addD (bin mulX (getW 2) (getW 2)) (bin mulX (cst (.int 7)) (getW 2))) (getW 1)) (cst (.int 2147483629))))
def G__law_mixed : List D → Option D := runF 3 b__law_mixed

-- _law_drawn (k01)
def b__law_drawn : Env → Option Out := seqS (asgS 2 (bin modD (bin mulX (bin addD (bin addD (getW 0) (bin mulX (cst (.int 104729)) (getW 1))) (cst (.int 17))) (cst (.int 69621))) (cst (.int 2147483647)))) (retS (bin modD (bin addD (bin addD (bin mulX (getW 2) (getW 2)) (bin mulX (cst (.int 3)) (getW 2))) (getW 1)) (cst (.int 2147483629))))
def G__law_drawn : List D → Option D := runF 3 b__law_drawn

-- _law_form (k01)
def b__law_form_c1 : Env → Option D := bin ixD (cst (.str [108, 115])) (bin modD (bin fdivD (callN 2 G__law_drawn (consA (getS 0) (consA (getS 2) (nilA)))) (cst (.int 4))) (cst (.int 2)))
def b__law_form : Env → Option Out := retS (methE "str" joinD (cst (.str [])) (consA (lcE [2] (rng1 (consA (bin addD (cst (.int 1)) (bin modD (getW 0) (getW 1))) (nilA))) (toS 2) (fun _ => some true) b__law_form_c1) (nilA)))
def G__law_form : List D → Option D := runF 3 b__law_form

-- _law_tongue (k01)
def b__law_tongue_c1 : Env → Option D := bin ixD (getW 1) (bin modD (bin fdivD (getW 4) (bin ixD (tupE (consA (cst (.int 32)) (consA (cst (.int 864)) (consA (cst (.int 23328)) (nilA))))) (getW 7))) (cst (.int 26)))
def b__law_tongue_c2 : Env → Option D := callN 2 G__law_form (consA (bin fdivD (callN 2 G__law_drawn (consA (getS 4) (consA (getS 7) (nilA)))) (cst (.int 4))) (consA (cst (.int 3)) (nilA)))
def b__law_tongue_L3 : Env → Option Out := seqS (asgS 4 (bin fdivD (callN 2 G__law_drawn (consA (getS 0) (consA (bin addD (cst (.int 10)) (getW 3)) (nilA)))) (cst (.int 4)))) (seqS (asgS 5 (methE "str" joinD (cst (.str [])) (consA (lcE [7] (rng1 (consA (bin addD (cst (.int 1)) (bin modD (getW 4) (cst (.int 3)))) (nilA))) (toS 7) (fun _ => some true) b__law_tongue_c1) (nilA)))) (seqS (asgS 6 (lcE [7] (rng1 (consA (bin addD (cst (.int 1)) (bin modD (bin fdivD (getW 4) (cst (.int 8))) (cst (.int 3)))) (nilA))) (toS 7) (fun _ => some true) b__law_tongue_c2)) (setKS 2 (getS 5) (callE tupleX (consA (mapE ssetD (getW 6)) (nilA))))))
def b__law_tongue : Env → Option Out := seqS (asgS 1 (cst (.str [97, 98, 99, 100, 101, 102, 103, 104, 105, 106, 107, 108, 109, 110, 111, 112, 113, 114, 115, 116, 117, 118, 119, 120, 121, 122]))) (seqS (newKS 2) (seqS (forS [3] (rng1 (consA (bin addD (cst (.int 1)) (bin modD (getW 0) (cst (.int 4)))) (nilA))) (toS 3) b__law_tongue_L3) (retS (callE tupleX (consA (mapE sitemsD (getW 2)) (nilA))))))
def G__law_tongue : List D → Option D := runF 8 b__law_tongue

-- _law_measure (k01)
def b__law_measure_c1 : Env → Option D := bin ixD (getW 9) (cst (.int 0))
def b__law_measure_c2 : Env → Option D := bin ixD (getW 3) (bin modD (bin fdivD (callN 2 G__law_drawn (consA (getS 6) (consA (getS 10) (nilA)))) (cst (.int 4))) (callE lenD (consA (getW 3) (nilA))))
def b__law_measure_L3 : Env → Option Out := seqS (asgS 6 (bin fdivD (callN 2 G__law_drawn (consA (getS 1) (consA (bin addD (cst (.int 20)) (getW 5)) (nilA)))) (cst (.int 4)))) (seqS (asgS 7 (lcE [10] (rng1 (consA (bin addD (cst (.int 1)) (bin modD (getW 6) (cst (.int 3)))) (nilA))) (toS 10) (fun _ => some true) b__law_measure_c2)) (appS 4 (callE tupleX (consA (mapE ssetD (getW 7)) (nilA)))))
def b__law_measure_L4 : Env → Option Out := seqS (asgS 6 (bin fdivD (callN 2 G__law_drawn (consA (getS 1) (consA (bin addD (cst (.int 40)) (getW 5)) (nilA)))) (cst (.int 4)))) (ifS (asB (bin neD (getW 4) (lstE (nilA)))) (appS 8 (tupE (consA (bin modD (getW 6) (callE lenD (consA (getW 4) (nilA)))) (consA (bin addD (cst (.int 1)) (bin modD (bin fdivD (getW 6) (cst (.int 8))) (cst (.int 3)))) (nilA))))) (nopS))
def b__law_measure : Env → Option Out := seqS (asgS 3 (lcE [9] (seqI (getW 0)) (toS 9) (fun _ => some true) b__law_measure_c1)) (seqS (ownS 4 (lstX (nilA))) (seqS (forS [5] (rng1 (consA (bin modD (getW 1) (bin addD (getW 2) (cst (.int 1)))) (nilA))) (toS 5) b__law_measure_L3) (seqS (ownS 8 (lstX (nilA))) (seqS (forS [5] (rng1 (consA (bin modD (bin fdivD (getW 1) (cst (.int 8))) (cst (.int 3))) (nilA))) (toS 5) b__law_measure_L4) (retS (tupE (consA (callE tupleX (consA (getW 4) (nilA))) (consA (callE tupleX (consA (mapE ssetD (getW 8)) (nilA))) (consA (bin eqD (bin modD (bin fdivD (getW 1) (cst (.int 32))) (cst (.int 2))) (cst (.int 1))) (nilA))))))))))
def G__law_measure : List D → Option D := runF 11 b__law_measure

-- _law_rows (k01)
def b__law_rows_c1 : Env → Option D := bin addD (getW 5) (tupE (consA (tupE (consA (getS 6) (consA (getS 8) (nilA)))) (nilA)))
def b__law_rows_L2 : Env → Option Out := ifS (asB (bin inX (getW 6) (getW 3))) (asgS 4 (bin addD (getW 4) (lcE [8] (seqI (getW 7)) (toS 8) (fun _ => some true) b__law_rows_c1))) (nopS)
def b__law_rows_L3 : Env → Option Out := forS [6, 7] (seqI (getS 0)) (toTup 2 (toCons (toS 6) (toCons (toS 7) (toNil)))) b__law_rows_L2
def b__law_rows_L4 : Env → Option Out := seqS (asgS 4 (lstE (nilA))) (seqS (forS [5] (seqI (getS 2)) (toS 5) b__law_rows_L3) (asgS 2 (getS 4)))
def b__law_rows : Env → Option Out := seqS (asgS 2 (lstE (consA (tupE (nilA)) (nilA)))) (seqS (forS [3] (seqI (bin ixD (getW 1) (cst (.int 0)))) (toS 3) b__law_rows_L4) (retS (getS 2)))
def G__law_rows : List D → Option D := runF 9 b__law_rows

-- _law_shape (k01)
def b__law_shape_c1 : Env → Option D := getS 2
def b__law_shape : Env → Option Out := retS (methE "str" joinD (cst (.str [])) (consA (lcE [1, 2] (seqI (getW 0)) (toTup 2 (toCons (toS 1) (toCons (toS 2) (toNil)))) (fun _ => some true) b__law_shape_c1) (nilA)))
def G__law_shape : List D → Option D := runF 3 b__law_shape

-- _law_line (k01)
def b__law_line_c1 : Env → Option D := bin ixD (lstE (consA (getS 9) (consA (cst (.str [101])) (nilA)))) (callE intD (consA (bin eqD (bin modD (bin fdivD (callN 2 G__law_drawn (consA (getS 2) (consA (bin addD (cst (.int 70)) (getW 7)) (nilA)))) (cst (.int 4))) (cst (.int 4))) (cst (.int 0))) (nilA)))
def b__law_line_L2 : Env → Option Out := seqS (asgS 8 (bin addD (cst (.int 1)) (bin modD (bin fdivD (callN 2 G__law_drawn (consA (getS 2) (consA (bin addD (cst (.int 90)) (getW 7)) (nilA)))) (cst (.int 4))) (cst (.int 4))))) (seqS (asgS 6 (bin addD (getW 6) (tupE (consA (slcE slD (getW 4) ((fun _ => some none)) (partE (getW 8))) (nilA))))) (seqS (asgS 4 (slcE slD (getW 4) (partE (getW 8)) ((fun _ => some none)))) (asgS 7 (bin addD (getW 7) (cst (.int 1))))))
def b__law_line : Env → Option Out := seqS (asgS 3 (callN 2 G__law_rows (consA (getS 0) (consA (getS 1) (nilA))))) (seqS (asgS 4 (callN 2 G__law_form (consA (bin fdivD (getW 2) (cst (.int 16))) (consA (cst (.int 9)) (nilA))))) (seqS (ifS (andT (asB (bin gtD (bin modD (getW 2) (cst (.int 4))) (cst (.int 0)))) (asB (bin neD (getW 3) (lstE (nilA))))) (asgS 4 (callN 1 G__law_shape (consA (bin ixD (getW 3) (bin modD (bin fdivD (getW 2) (cst (.int 16))) (callE lenD (consA (getW 3) (nilA))))) (nilA)))) (nopS)) (seqS (ifS (andT (asB (bin eqD (bin modD (bin fdivD (getW 2) (cst (.int 4))) (cst (.int 4))) (cst (.int 1)))) (asB (bin neD (getW 4) (cst (.str []))))) (seqS (asgS 5 (bin modD (bin fdivD (getW 2) (cst (.int 64))) (callE lenD (consA (getW 4) (nilA))))) (asgS 4 (bin addD (bin addD (slcE slD (getW 4) ((fun _ => some none)) (partE (getW 5))) (bin ixD (cst (.str [108, 115, 101])) (bin modD (bin fdivD (getW 2) (cst (.int 1024))) (cst (.int 3))))) (slcE slD (getW 4) (partE (bin addD (getW 5) (cst (.int 1)))) ((fun _ => some none)))))) (nopS)) (seqS (ifS (asB (bin eqD (bin modD (bin fdivD (getW 2) (cst (.int 4))) (cst (.int 4))) (cst (.int 2)))) (asgS 4 (methE "str" joinD (cst (.str [])) (consA (lcE [7, 9] (enumI (seqZ (getS 4))) (toTup 2 (toCons (toS 7) (toCons (toS 9) (toNil)))) (fun _ => some true) b__law_line_c1) (nilA)))) (nopS)) (seqS (asgS 6 (tupE (nilA))) (seqS (asgS 7 (cst (.int 0))) (seqS (whS WN (andT (asB (bin neD (getW 4) (cst (.str [])))) (asB (bin ltD (callE lenD (consA (getW 6) (nilA))) (cst (.int 6))))) b__law_line_L2) (retS (getS 6)))))))))
def G__law_line : List D → Option D := runF 10 b__law_line

-- _law_is_text (k01)
def b__law_is_text_c1 : Env → Option D := getS 3
def b__law_is_text : Env → Option Out := retS (andV (callE isiD (consA (getW 0) (consA (cst (.raw (.ty "str"))) nilA))) (andV (chn leD leD (cst (.int 1)) (callE lenD (consA (getW 0) (nilA))) (getW 2)) (bin eqD (lcE [3] (seqI (getW 0)) (toS 3) (asB (bin ninX (getW 3) (getW 1))) b__law_is_text_c1) (lstE (nilA)))))
def G__law_is_text : List D → Option D := runF 4 b__law_is_text

-- _law_whole (k01)
def b__law_whole : Env → Option Out := retS (andV (callE isiD (consA (getW 0) (consA (cst (.raw (.ty "int"))) nilA))) (andV (notV (callE isiD (consA (getW 0) (consA (cst (.raw (.ty "bool"))) nilA)))) (chn leD leD (getW 1) (getW 0) (getW 2))))
def G__law_whole : List D → Option D := runF 3 b__law_whole

-- _law_is_line (k01)
def b__law_is_line_c1 : Env → Option D := getS 1
def b__law_is_line : Env → Option Out := seqS (ifS (orT (notT (asB (callE isiD (consA (getW 0) (consA (cst (.raw (.ty "tuple"))) nilA))))) (asB (bin gtD (callE lenD (consA (getW 0) (nilA))) (cst (.int 6))))) (retS (cst (.bl false))) (nopS)) (retS (bin eqD (lcE [1] (seqI (getW 0)) (toS 1) (notT (asB (callN 3 G__law_is_text (consA (getS 1) (consA (cst (.str [108, 115, 101])) (consA (cst (.int 4)) (nilA))))))) b__law_is_line_c1) (lstE (nilA))))
def G__law_is_line : List D → Option D := runF 2 b__law_is_line

-- need (k02)
def b_need : Env → Option Out := ifS (notT (asB (getS 0))) ((fun _ => none)) (nopS)
def G_need : List D → Option D := runF 1 b_need

-- tongue_text (k02)
def b_tongue_text_c1 : Env → Option D := bin addD (methE "str" joinD (cst (.str [32])) (consA (bin addD (tupE (consA (getS 1) (nilA))) (getW 2)) (nilA))) (cst (.str [10]))
def b_tongue_text : Env → Option Out := retS (methE "str" joinD (cst (.str [])) (consA (lcE [1, 2] (seqI (getW 0)) (toTup 2 (toCons (toS 1) (toCons (toS 2) (toNil)))) (fun _ => some true) b_tongue_text_c1) (nilA)))
def G_tongue_text : List D → Option D := runF 3 b_tongue_text

-- line_text (k02)
def b_line_text : Env → Option Out := seqS (ifS (asB (bin eqD (callE lenD (consA (getW 0) (nilA))) (cst (.int 0)))) (retS (bin addD (cst (.str [46])) (cst (.str [10])))) (nopS)) (retS (bin addD (methE "str" joinD (cst (.str [32])) (consA (getW 0) (nilA))) (cst (.str [10]))))
def G_line_text : List D → Option D := runF 1 b_line_text

-- _law_told (k02)
def b__law_told : Env → Option Out := seqS ((fun _ => none)) (retS (getS 2))
def G__law_told : List D → Option D := runF 6 b__law_told

-- _law_tongue_text (k02)
def b__law_tongue_text_c1 : Env → Option D := bin addD (cst (.str [32])) (getW 4)
def b__law_tongue_text_L2 : Env → Option Out := asgS 1 (bin addD (bin addD (bin addD (getW 1) (getW 2)) (methE "str" joinD (cst (.str [])) (consA (lcE [4] (seqI (getW 3)) (toS 4) (fun _ => some true) b__law_tongue_text_c1) (nilA)))) (cst (.str [10])))
def b__law_tongue_text : Env → Option Out := seqS (asgS 1 (cst (.str []))) (seqS (forS [2, 3] (seqI (getS 0)) (toTup 2 (toCons (toS 2) (toCons (toS 3) (toNil)))) b__law_tongue_text_L2) (retS (getS 1)))
def G__law_tongue_text : List D → Option D := runF 5 b__law_tongue_text

-- _law_line_text (k02)
def b__law_line_text : Env → Option Out := retS (bin addD (methE "str" joinD (cst (.str [32])) (consA (bin addD (getW 0) (bin mulX (tupE (consA (cst (.str [46])) (nilA))) (callE intD (consA (bin eqD (getW 0) (tupE (nilA))) (nilA))))) (nilA))) (cst (.str [10])))
def G__law_line_text : List D → Option D := runF 1 b__law_line_text

-- signs (k10)
def b_signs : Env → Option Out := retS (methE "str" joinD (cst (.str [])) (consA (getW 0) (nilA)))
def G_signs : List D → Option D := runF 1 b_signs

-- ends (k10)
def b_ends_L1 : Env → Option Out := seqS (asgS 2 (bin addD (getW 2) (callE lenD (consA (getW 3) (nilA))))) (appS 1 (getS 2))
def b_ends : Env → Option Out := seqS (ownS 1 (lstX (nilA))) (seqS (asgS 2 (cst (.int 0))) (seqS (forS [3] (seqI (getS 0)) (toS 3) b_ends_L1) (retS (callE tupleX (consA (getW 1) (nilA))))))
def G_ends : List D → Option D := runF 4 b_ends

-- forms_of (k10)
def b_forms_of_L1 : Env → Option Out := ifS (asB (bin eqD (bin ixD (getW 2) (cst (.int 0))) (getW 1))) (retS (bin ixD (getW 2) (cst (.int 1)))) (nopS)
def b_forms_of : Env → Option Out := seqS (forS [2] (seqI (getS 0)) (toS 2) b_forms_of_L1) ((fun _ => none))
def G_forms_of : List D → Option D := runF 3 b_forms_of

-- _law_ends (k10)
def b__law_ends_c1 : Env → Option D := callE lenD (consA (methE "str" joinD (cst (.str [])) (consA (slcE slD (getW 0) ((fun _ => some none)) (partE (bin addD (getW 1) (cst (.int 1))))) (nilA))) (nilA))
def b__law_ends : Env → Option Out := retS (lcE [1] (rng1 (consA (callE lenD (consA (getW 0) (nilA))) (nilA))) (toS 1) (fun _ => some true) b__law_ends_c1)
def G__law_ends : List D → Option D := runF 2 b__law_ends

-- pairs_of (k20)
def b_pairs_of_c1 : Env → Option D := tupE (consA (getS 3) (consA (getS 4) (nilA)))
def b_pairs_of_L2 : Env → Option Out := extS 2 (lcE [4] (seqI (callN 2 G_forms_of (consA (getS 0) (consA (getS 3) (nilA))))) (toS 4) (fun _ => some true) b_pairs_of_c1)
def b_pairs_of : Env → Option Out := seqS (ownS 2 (lstX (nilA))) (seqS (forS [3] (seqI (getS 1)) (toS 3) b_pairs_of_L2) ((fun ρ => (retS (getS 2)) (relL [2] ρ))))
def G_pairs_of : List D → Option D := runF 5 b_pairs_of

-- agree (k20)
def b_agree_c1 : Env → Option D := bin inX (getW 2) (tupE (consA (getS 3) (consA (cst (.str [101])) (nilA))))
def b_agree : Env → Option Out := retS (callE allD (consA (lcE [2, 3] (zipI (getS 0) (getS 1)) (toTup 2 (toCons (toS 2) (toCons (toS 3) (toNil)))) (fun _ => some true) b_agree_c1) (nilA)))
def G_agree : List D → Option D := runF 4 b_agree

-- agrees_at_end (k20)
def b_agrees_at_end : Env → Option Out := seqS (ifS (asB (bin neD (callE lenD (consA (getW 0) (nilA))) (callE lenD (consA (getW 1) (nilA))))) (retS (cst (.bl false))) (nopS)) (seqS (ifS (asB (getS 2)) (retS (callN 2 G_agree (consA (slcE slD (getW 0) ((fun _ => some none)) (partE (neg (cst (.int 1))))) (consA (slcE slD (getW 1) ((fun _ => some none)) (partE (neg (cst (.int 1))))) (nilA))))) (nopS)) (retS (callN 2 G_agree (consA (getS 0) (consA (getS 1) (nilA))))))
def G_agrees_at_end : List D → Option D := runF 3 b_agrees_at_end

-- keeps_breaks (k20)
def b_keeps_breaks_c1 : Env → Option D := callE lenD (consA (getW 7) (nilA))
def b_keeps_breaks_L2 : Env → Option Out := seqS (asgS 5 (callE sumD (consA (lcE [6, 7] (seqI (slcE slD (getW 1) ((fun _ => some none)) (partE (getW 3)))) (toTup 2 (toCons (toS 6) (toCons (toS 7) (toNil)))) (fun _ => some true) b_keeps_breaks_c1) (nilA)))) (ifS (orT (asB (bin ltD (callE lenD (consA (bin ixD (bin ixD (getW 1) (getW 3)) (cst (.int 1))) (nilA))) (getW 4))) (asB (bin ninX (bin addD (getW 5) (getW 4)) (getW 2)))) (retS (cst (.bl false))) (nopS))
def b_keeps_breaks : Env → Option Out := seqS (forS [3, 4] (seqI (bin ixD (getW 0) (cst (.int 1)))) (toTup 2 (toCons (toS 3) (toCons (toS 4) (toNil)))) b_keeps_breaks_L2) (retS (cst (.bl true)))
def G_keeps_breaks : List D → Option D := runF 8 b_keeps_breaks

-- rows_for (k20)
def b_rows_for_L1 : Env → Option Out := ifS (andT (asB (bin leD (bin addD (getW 8) (callE lenD (consA (bin ixD (getW 9) (cst (.int 1))) (nilA)))) (callE lenD (consA (getW 2) (nilA))))) (asB (callN 2 G_agree (consA (slcE slD (getW 2) (partE (getW 8)) ((fun _ => some none))) (consA (bin ixD (getW 9) (cst (.int 1))) (nilA)))))) (appS 6 (tupE (consA (bin addD (getW 7) (tupE (consA (getS 9) (nilA)))) (consA (bin addD (getW 8) (callE lenD (consA (bin ixD (getW 9) (cst (.int 1))) (nilA)))) (nilA))))) (nopS)
def b_rows_for_L2 : Env → Option Out := forS [9] (seqI (callN 2 G_pairs_of (consA (getS 0) (consA (getS 5) (nilA))))) (toS 9) b_rows_for_L1
def b_rows_for_L3 : Env → Option Out := seqS (ownS 6 (lstX (nilA))) (seqS ((fun ρ => (forS [7, 8] (seqI (getS 4)) (toTup 2 (toCons (toS 7) (toCons (toS 8) (toNil)))) b_rows_for_L2) (relL [4] ρ))) (mvS 4 6))
def b_rows_for_L4 : Env → Option Out := ifS (asB (callN 3 G_agrees_at_end (consA (slcE slD (getW 2) (partE (getW 8)) ((fun _ => some none))) (consA (bin ixD (getW 9) (cst (.int 1))) (consA (bin ixD (getW 1) (cst (.int 2))) (nilA)))))) (appS 10 (bin addD (getW 7) (tupE (consA (getS 9) (nilA))))) (nopS)
def b_rows_for_L5 : Env → Option Out := forS [9] (seqI (callN 2 G_pairs_of (consA (getS 0) (consA (bin ixD (getW 3) (neg (cst (.int 1)))) (nilA))))) (toS 9) b_rows_for_L4
def b_rows_for : Env → Option Out := seqS (asgS 3 (bin ixD (getW 1) (cst (.int 0)))) (seqS (ifS (asB (bin eqD (callE lenD (consA (getW 3) (nilA))) (cst (.int 0)))) (retS (bin mulX (lstE (consA (tupE (nilA)) (nilA))) (callE intD (consA (bin eqD (getW 2) (cst (.str []))) (nilA))))) (nopS)) (seqS (ownS 4 (lstX (consA (tupE (consA (tupE (nilA)) (consA (cst (.int 0)) (nilA)))) (nilA)))) (seqS (forS [5] (seqI (slcE slD (getW 3) ((fun _ => some none)) (partE (neg (cst (.int 1)))))) (toS 5) b_rows_for_L3) (seqS (ownS 10 (lstX (nilA))) (seqS ((fun ρ => (forS [7, 8] (seqI (getS 4)) (toTup 2 (toCons (toS 7) (toCons (toS 8) (toNil)))) b_rows_for_L5) (relL [4] ρ))) ((fun ρ => (retS (getS 10)) (relL [10] ρ))))))))
def G_rows_for : List D → Option D := runF 11 b_rows_for

-- ways (k20)
def b_ways_c1 : Env → Option D := getS 4
def b_ways : Env → Option Out := seqS (asgS 3 (callN 1 G_ends (consA (getS 2) (nilA)))) (retS (callE tupleX (consA (callE sortedD (consA (lcE [4] (seqI (callN 3 G_rows_for (consA (getS 0) (consA (getS 1) (consA (callN 1 G_signs (consA (getS 2) (nilA))) (nilA)))))) (toS 4) (asB (callN 3 G_keeps_breaks (consA (getS 1) (consA (getS 4) (consA (getS 3) (nilA)))))) b_ways_c1) (nilA))) (nilA))))
def G_ways : List D → Option D := runF 5 b_ways

-- many_ways (k20)
def b_many_ways : Env → Option Out := retS (callE lenD (consA (callN 3 G_ways (consA (getS 0) (consA (getS 1) (consA (getS 2) (nilA))))) (nilA)))
def G_many_ways : List D → Option D := runF 3 b_many_ways

-- way_at (k20)
def b_way_at : Env → Option Out := seqS (asgS 4 (callN 3 G_ways (consA (getS 0) (consA (getS 1) (consA (getS 2) (nilA)))))) (seqS (ifS (notT (asB (chn leD ltD (cst (.int 0)) (getW 3) (callE lenD (consA (getW 4) (nilA)))))) ((fun _ => none)) (nopS)) (retS (bin ixD (getW 4) (getW 3))))
def G_way_at : List D → Option D := runF 5 b_way_at

-- fits (k20)
def b_fits : Env → Option Out := retS (bin gtD (callN 3 G_many_ways (consA (getS 0) (consA (getS 1) (consA (getS 2) (nilA))))) (cst (.int 0)))
def G_fits : List D → Option D := runF 3 b_fits

-- is_pair (k20)
def b_is_pair_c1 : Env → Option D := callE isiD (consA (getW 1) (consA (cst (.raw (.ty "str"))) nilA))
def b_is_pair : Env → Option Out := retS (andV (callN 3 G_is_tuple (consA (getS 0) (consA (cst (.int 2)) (consA (cst (.int 2)) (nilA))))) (callE allD (consA (lcE [1] (seqI (getW 0)) (toS 1) (fun _ => some true) b_is_pair_c1) (nilA))))
def G_is_pair : List D → Option D := runF 2 b_is_pair

-- is_way (k20)
def b_is_way_c1 : Env → Option D := callN 1 G_is_pair (consA (getS 4) (nilA))
def b_is_way : Env → Option Out := seqS (ifS (orT (notT (asB (callN 3 G_is_tuple (consA (getS 3) (consA (callE lenD (consA (bin ixD (getW 1) (cst (.int 0))) (nilA))) (consA (callE lenD (consA (bin ixD (getW 1) (cst (.int 0))) (nilA))) (nilA))))))) (notT (asB (callE allD (consA (lcE [4] (seqI (getW 3)) (toS 4) (fun _ => some true) b_is_way_c1) (nilA)))))) (retS (cst (.bl false))) (nopS)) (retS (bin inX (getW 3) (callN 3 G_ways (consA (getS 0) (consA (getS 1) (consA (getS 2) (nilA)))))))
def G_is_way : List D → Option D := runF 5 b_is_way

-- _law_is_way (k20)
def b__law_is_way_L1 : Env → Option Out := ifS (andT (asB (bin ninX (bin ixD (getW 4) (getW 6)) (tupE (consA (bin ixD (getW 5) (getW 6)) (consA (cst (.str [101])) (nilA)))))) (notT (andT (asB (bin ixD (getW 1) (cst (.int 2)))) (asB (bin eqD (getW 6) (bin subD (callE lenD (consA (getW 4) (nilA))) (cst (.int 1)))))))) (retS (cst (.bl false))) (nopS)
def b__law_is_way_L2 : Env → Option Out := seqS (asgS 9 (bin addD (callE lenD (consA (callN 1 G__law_shape (consA (slcE slD (getW 3) ((fun _ => some none)) (partE (getW 7))) (nilA))) (nilA))) (getW 8))) (ifS (orT (asB (bin ltD (callE lenD (consA (bin ixD (bin ixD (getW 3) (getW 7)) (cst (.int 1))) (nilA))) (getW 8))) (asB (bin ninX (getW 9) (callN 1 G__law_ends (consA (getS 2) (nilA)))))) (retS (cst (.bl false))) (nopS))
def b__law_is_way : Env → Option Out := seqS (asgS 4 (methE "str" joinD (cst (.str [])) (consA (getW 2) (nilA)))) (seqS (asgS 5 (callN 1 G__law_shape (consA (getS 3) (nilA)))) (seqS (ifS (asB (bin neD (callE lenD (consA (getW 5) (nilA))) (callE lenD (consA (getW 4) (nilA))))) (retS (cst (.bl false))) (nopS)) (seqS (forS [6] (rng1 (consA (callE lenD (consA (getW 4) (nilA))) (nilA))) (toS 6) b__law_is_way_L1) (seqS (forS [7, 8] (seqI (bin ixD (getW 1) (cst (.int 1)))) (toTup 2 (toCons (toS 7) (toCons (toS 8) (toNil)))) b__law_is_way_L2) (retS (cst (.bl true)))))))
def G__law_is_way : List D → Option D := runF 10 b__law_is_way

-- _law_ways (k20)
def b__law_ways_c1 : Env → Option D := getS 3
def b__law_ways : Env → Option Out := retS (callE sortedD (consA (lcE [3] (seqI (callN 2 G__law_rows (consA (getS 0) (consA (getS 1) (nilA))))) (toS 3) (asB (callN 4 G__law_is_way (consA (getS 0) (consA (getS 1) (consA (getS 2) (consA (getS 3) (nilA))))))) b__law_ways_c1) (nilA)))
def G__law_ways : List D → Option D := runF 4 b__law_ways

-- laid_part (k21)
def b_laid_part_L1 : Env → Option Out := ifS (orT (asB (bin inX (getW 5) (tupE (consA (getS 6) (consA (cst (.str [101])) (nilA)))))) (andT (asB (getS 2)) (andT (asB (bin eqD (getW 4) (bin subD (callE lenD (consA (getW 1) (nilA))) (cst (.int 1))))) (asB (bin eqD (getW 4) (bin subD (callE lenD (consA (getW 0) (nilA))) (cst (.int 1)))))))) (asgS 3 (bin addD (getW 3) (cst (.int 1)))) (retS (getS 3))
def b_laid_part : Env → Option Out := seqS (asgS 3 (cst (.int 0))) (seqS (forS [4, 5, 6] (enumI (zipI (getS 0) (getS 1))) (toTup 2 (toCons (toS 4) (toCons (toTup 2 (toCons (toS 5) (toCons (toS 6) (toNil)))) (toNil)))) b_laid_part_L1) (retS (getS 3)))
def G_laid_part : List D → Option D := runF 7 b_laid_part

-- furthest (k21)
def b_furthest_L1 : Env → Option Out := seqS (asgS 13 (callN 3 G_laid_part (consA (slcE slD (getW 3) (partE (getW 10)) ((fun _ => some none))) (consA (getS 12) (consA (getS 8) (nilA)))))) (seqS (asgS 4 (callE max2D (consA (getW 4) (consA (bin addD (getW 10) (getW 13)) (nilA))))) (ifS (asB (bin eqD (getW 13) (callE lenD (consA (getW 12) (nilA))))) (setKS 9 (bin addD (getW 10) (getW 13)) (cst (.bl true))) (nopS)))
def b_furthest_L2 : Env → Option Out := forS [11, 12] (seqI (callN 2 G_pairs_of (consA (getS 0) (consA (getS 7) (nilA))))) (toTup 2 (toCons (toS 11) (toCons (toS 12) (toNil)))) b_furthest_L1
def b_furthest_L3 : Env → Option Out := seqS (asgS 8 (andV (bin ixD (getW 1) (cst (.int 2))) (bin eqD (getW 6) (bin subD (callE lenD (consA (bin ixD (getW 1) (cst (.int 0))) (nilA))) (cst (.int 1)))))) (seqS (newKS 9) (seqS (forKS 5 [10] (toS 10) b_furthest_L2) (mvS 5 9)))
def b_furthest : Env → Option Out := seqS (asgS 3 (callN 1 G_signs (consA (getS 2) (nilA)))) (seqS (asgS 4 (cst (.int 0))) (seqS (oneKS 5 (cst (.int 0)) (cst (.bl true))) (seqS (forS [6, 7] (enumI (seqZ (bin ixD (getW 1) (cst (.int 0))))) (toTup 2 (toCons (toS 6) (toCons (toS 7) (toNil)))) b_furthest_L3) (retS (getS 4)))))
def G_furthest : List D → Option D := runF 14 b_furthest

-- _law_laid (k21)
def b__law_laid_L1 : Env → Option Out := seqS (asgS 6 (andV (bin ixD (getW 0) (cst (.int 2))) (andV (getS 4) (andV (bin eqD (getW 5) (bin subD (callE lenD (consA (getW 3) (nilA))) (cst (.int 1)))) (bin eqD (getW 5) (bin subD (callE lenD (consA (getW 1) (nilA))) (cst (.int 1)))))))) (ifS (andT (asB (bin ninX (bin ixD (getW 1) (getW 5)) (tupE (consA (bin ixD (getW 3) (getW 5)) (consA (cst (.str [101])) (nilA)))))) (notT (asB (getS 6)))) (retS (getS 5)) (nopS))
def b__law_laid : Env → Option Out := seqS (asgS 3 (callN 1 G__law_shape (consA (getS 2) (nilA)))) (seqS (asgS 4 (andV (bin eqD (callE lenD (consA (getW 2) (nilA))) (callE lenD (consA (bin ixD (getW 0) (cst (.int 0))) (nilA)))) (bin gtD (callE lenD (consA (getW 2) (nilA))) (cst (.int 0))))) (seqS (forS [5] (rng1 (consA (callE min2D (consA (callE lenD (consA (getW 3) (nilA))) (consA (callE lenD (consA (getW 1) (nilA))) (nilA)))) (nilA))) (toS 5) b__law_laid_L1) (retS (callE min2D (consA (callE lenD (consA (getW 3) (nilA))) (consA (callE lenD (consA (getW 1) (nilA))) (nilA)))))))
def G__law_laid : List D → Option D := runF 7 b__law_laid

-- law (k21)
def b_law_k21_c1 : Env → Option D := callN 3 G__law_laid (consA (getS 2) (consA (getS 4) (consA (getS 6) (nilA))))
def b_law_k21 : Env → Option Out := seqS (asgS 1 (callN 1 G__law_tongue (consA (callN 2 G__law_mixed (consA (getS 0) (consA (cst (.int 0)) (nilA)))) (nilA)))) (seqS (asgS 2 (callN 3 G__law_measure (consA (getS 1) (consA (callN 2 G__law_mixed (consA (getS 0) (consA (cst (.int 1)) (nilA)))) (consA (cst (.int 4)) (nilA)))))) (seqS (asgS 3 (callN 3 G__law_line (consA (getS 1) (consA (getS 2) (consA (callN 2 G__law_mixed (consA (getS 0) (consA (cst (.int 2)) (nilA)))) (nilA)))))) (seqS (asgS 4 (methE "str" joinD (cst (.str [])) (consA (getW 3) (nilA)))) (seqS (asgS 5 (callE max1D (consA (lcE [6] (seqI (callN 2 G__law_rows (consA (getS 1) (consA (getS 2) (nilA))))) (toS 6) (fun _ => some true) b_law_k21_c1) (nilA)))) (seqS (ifS (asB (bin neD (callN 3 G_furthest (consA (getS 1) (consA (getS 2) (consA (getS 3) (nilA))))) (getW 5))) (retS (cst (.bl false))) (nopS)) (retS (orV (notV (callN 3 G_fits (consA (getS 1) (consA (getS 2) (consA (getS 3) (nilA)))))) (bin eqD (getW 5) (callE lenD (consA (getW 4) (nilA)))))))))))
def G_law_k21 : List D → Option D := runF 7 b_law_k21

-- freed (k22)
def b_freed : Env → Option Out := retS (tupE (consA (bin ixD (getW 0) (cst (.int 0))) (consA (tupE (nilA)) (consA (bin ixD (getW 0) (cst (.int 2))) (nilA)))))
def G_freed : List D → Option D := runF 1 b_freed

-- _law_right (k22)
def b__law_right_c1 : Env → Option D := getS 8
def b__law_right_c2 : Env → Option D := getS 10
def b__law_right_L3 : Env → Option Out := ifS (orT (asB (bin ninX (getW 7) (getW 9))) (asB (bin ninX (getW 8) (callN 2 G_forms_of (consA (getS 0) (consA (getS 7) (nilA))))))) (retS (cst (.bl false))) (nopS)
def b__law_right_c4 : Env → Option D := getS 8
def b__law_right_L5 : Env → Option Out := seqS (asgS 12 (callE lenD (consA (methE "str" joinD (cst (.str [])) (consA (lcE [7, 8] (seqI (slcE slD (getW 3) ((fun _ => some none)) (partE (getW 10)))) (toTup 2 (toCons (toS 7) (toCons (toS 8) (toNil)))) (fun _ => some true) b__law_right_c4) (nilA))) (nilA)))) (ifS (asB (bin ninX (bin addD (getW 12) (getW 11)) (callN 1 G_ends (consA (getS 2) (nilA))))) (retS (cst (.bl false))) (nopS))
def b__law_right : Env → Option Out := seqS (asgS 4 (callN 1 G_signs (consA (getS 2) (nilA)))) (seqS (asgS 5 (methE "str" joinD (cst (.str [])) (consA (lcE [7, 8] (seqI (getW 3)) (toTup 2 (toCons (toS 7) (toCons (toS 8) (toNil)))) (fun _ => some true) b__law_right_c1) (nilA)))) (seqS (ifS (asB (bin neD (callE lenD (consA (getW 5) (nilA))) (callE lenD (consA (getW 4) (nilA))))) (retS (cst (.bl false))) (nopS)) (seqS (asgS 6 (lcE [10] (rng1 (consA (callE lenD (consA (getW 4) (nilA))) (nilA))) (toS 10) (asB (bin ninX (bin ixD (getW 4) (getW 10)) (tupE (consA (bin ixD (getW 5) (getW 10)) (consA (cst (.str [101])) (nilA)))))) b__law_right_c2)) (seqS (ifS (andT (asB (bin neD (getW 6) (lstE (nilA)))) (orT (notT (asB (bin ixD (getW 1) (cst (.int 2))))) (asB (bin neD (getW 6) (lstE (consA (bin subD (callE lenD (consA (getW 4) (nilA))) (cst (.int 1))) (nilA))))))) (retS (cst (.bl false))) (nopS)) (seqS (forS [7, 8, 9] (zipI (getS 3) (bin ixD (getW 1) (cst (.int 0)))) (toTup 2 (toCons (toTup 2 (toCons (toS 7) (toCons (toS 8) (toNil)))) (toCons (toS 9) (toNil)))) b__law_right_L3) (seqS (forS [10, 11] (seqI (bin ixD (getW 1) (cst (.int 1)))) (toTup 2 (toCons (toS 10) (toCons (toS 11) (toNil)))) b__law_right_L5) (retS (cst (.bl true)))))))))
def G__law_right : List D → Option D := runF 13 b__law_right

-- law (k22)
def b_law_k22_L1 : Env → Option Out := seqS (ifS (orT (asB (bin neD (callN 4 G_way_at (consA (getS 1) (consA (getS 2) (consA (getS 3) (consA (getS 6) (nilA)))))) (getW 7))) (asB (bin isntD (callN 4 G_is_way (consA (getS 1) (consA (getS 2) (consA (getS 3) (consA (getS 7) (nilA)))))) (cst (.bl true))))) (retS (cst (.bl false))) (nopS)) (ifS (notT (asB (callN 4 G__law_right (consA (getS 1) (consA (getS 2) (consA (getS 3) (consA (getS 7) (nilA)))))))) (retS (cst (.bl false))) (nopS))
def b_law_k22_c2 : Env → Option D := getS 7
def b_law_k22_c3 : Env → Option D := getS 15
def b_law_k22_c4 : Env → Option D := getS 15
def b_law_k22_c5 : Env → Option D := getS 15
def b_law_k22_c6 : Env → Option D := getS 15
def b_law_k22_L7 : Env → Option Out := seqS (asgS 14 (callE tupleX (consA (bin addD (bin addD (lcE [15] (seqI (slcE slD (getW 5) ((fun _ => some none)) (partE (getW 10)))) (toS 15) (fun _ => some true) b_law_k22_c5) (lstE (consA (getS 13) (nilA)))) (lcE [15] (seqI (slcE slD (getW 5) (partE (bin addD (getW 10) (cst (.int 1)))) ((fun _ => some none)))) (toS 15) (fun _ => some true) b_law_k22_c6)) (nilA)))) (asgS 12 (bin addD (getW 12) (callE listX (consA (callN 3 G_ways (consA (getS 1) (consA (getS 2) (consA (getS 14) (nilA))))) (nilA)))))
def b_law_k22 : Env → Option Out := seqS (asgS 1 (callN 1 G__law_tongue (consA (callN 2 G__law_mixed (consA (getS 0) (consA (cst (.int 0)) (nilA)))) (nilA)))) (seqS (asgS 2 (callN 3 G__law_measure (consA (getS 1) (consA (callN 2 G__law_mixed (consA (getS 0) (consA (cst (.int 1)) (nilA)))) (consA (cst (.int 3)) (nilA)))))) (seqS (asgS 3 (callN 3 G__law_line (consA (getS 1) (consA (getS 2) (consA (callN 2 G__law_mixed (consA (getS 0) (consA (cst (.int 2)) (nilA)))) (nilA)))))) (seqS (asgS 4 (callN 3 G_ways (consA (getS 1) (consA (getS 2) (consA (getS 3) (nilA)))))) (seqS (asgS 5 (callN 1 G_signs (consA (getS 3) (nilA)))) (seqS (forS [6, 7] (enumI (seqZ (getS 4))) (toTup 2 (toCons (toS 6) (toCons (toS 7) (toNil)))) b_law_k22_L1) (seqS (asgS 8 (callN 1 G_freed (consA (getS 2) (nilA)))) (seqS (ifS (asB (bin neD (callE listX (consA (getW 4) (nilA))) (mapE ssetD (getW 4)))) (retS (cst (.bl false))) (nopS)) (seqS (ifS (asB (bin neD (lcE [7] (seqI (getW 4)) (toS 7) (asB (bin ninX (getW 7) (callN 3 G_ways (consA (getS 1) (consA (getS 8) (consA (getS 3) (nilA))))))) b_law_k22_c2) (lstE (nilA)))) (retS (cst (.bl false))) (nopS)) (seqS (asgS 9 (callE tupleX (consA (getW 5) (nilA)))) (seqS (ifS (asB (bin ltD (callN 3 G_many_ways (consA (getS 1) (consA (getS 2) (consA (getS 9) (nilA))))) (callE lenD (consA (getW 4) (nilA))))) (retS (cst (.bl false))) (nopS)) (seqS (ifS (asB (bin neD (callN 3 G_many_ways (consA (getS 1) (consA (getS 8) (consA (getS 9) (nilA))))) (callN 3 G_many_ways (consA (getS 1) (consA (getS 8) (consA (getS 3) (nilA))))))) (retS (cst (.bl false))) (nopS)) (seqS (ifS (asB (bin eqD (getW 5) (cst (.str [])))) (retS (cst (.bl true))) (nopS)) (seqS (asgS 10 (bin modD (callN 2 G__law_mixed (consA (getS 0) (consA (cst (.int 3)) (nilA)))) (callE lenD (consA (getW 5) (nilA))))) (seqS (asgS 11 (callE tupleX (consA (bin addD (bin addD (lcE [15] (seqI (slcE slD (getW 5) ((fun _ => some none)) (partE (getW 10)))) (toS 15) (fun _ => some true) b_law_k22_c3) (lstE (consA (cst (.str [101])) (nilA)))) (lcE [15] (seqI (slcE slD (getW 5) (partE (bin addD (getW 10) (cst (.int 1)))) ((fun _ => some none)))) (toS 15) (fun _ => some true) b_law_k22_c4)) (nilA)))) (seqS (asgS 12 (lstE (nilA))) (seqS (forS [13] (seqI (cst (.str [108, 115]))) (toS 13) b_law_k22_L7) (retS (andV (bin eqD (callE tupleX (consA (mapE ssetD (getW 12)) (nilA))) (callN 3 G_ways (consA (getS 1) (consA (getS 2) (consA (getS 11) (nilA)))))) (bin eqD (callN 3 G_fits (consA (getS 1) (consA (getS 2) (consA (getS 11) (nilA))))) (bin neD (getW 12) (lstE (nilA))))))))))))))))))))))
def G_law_k22 : List D → Option D := runF 16 b_law_k22

-- joined (k23)
def b_joined_c1 : Env → Option D := tupE (consA (bin addD (getW 4) (getW 2)) (consA (getS 5) (nilA)))
def b_joined : Env → Option Out := seqS (asgS 2 (callE lenD (consA (bin ixD (getW 0) (cst (.int 0))) (nilA)))) (seqS (asgS 3 (callE tupleX (consA (lcE [4, 5] (seqI (bin ixD (getW 1) (cst (.int 1)))) (toTup 2 (toCons (toS 4) (toCons (toS 5) (toNil)))) (fun _ => some true) b_joined_c1) (nilA)))) (retS (tupE (consA (bin addD (bin ixD (getW 0) (cst (.int 0))) (bin ixD (getW 1) (cst (.int 0)))) (consA (bin addD (bin ixD (getW 0) (cst (.int 1))) (getW 3)) (consA (bin ixD (getW 1) (cst (.int 2))) (nilA)))))))
def G_joined : List D → Option D := runF 6 b_joined

-- cut (k23)
def b_cut_c1 : Env → Option D := getS 2
def b_cut : Env → Option Out := retS (tupE (consA (slcE slD (bin ixD (getW 0) (cst (.int 0))) ((fun _ => some none)) (partE (getW 1))) (consA (callE tupleX (consA (lcE [2] (seqI (bin ixD (getW 0) (cst (.int 1)))) (toS 2) (asB (bin ltD (bin ixD (getW 2) (cst (.int 0))) (getW 1))) b_cut_c1) (nilA))) (consA (bin ixD (getW 0) (cst (.int 2))) (nilA)))))
def G_cut : List D → Option D := runF 3 b_cut

-- with_loose (k23)
def b_with_loose : Env → Option Out := retS (tupE (consA (bin ixD (getW 0) (cst (.int 0))) (consA (bin ixD (getW 0) (cst (.int 1))) (consA (getS 1) (nilA)))))
def G_with_loose : List D → Option D := runF 2 b_with_loose

-- all_rows (k23)
def b_all_rows_c1 : Env → Option D := bin addD (getW 5) (tupE (consA (getS 6) (nilA)))
def b_all_rows_L2 : Env → Option Out := extS 4 (lcE [6] (seqI (callN 2 G_pairs_of (consA (getS 0) (consA (getS 3) (nilA))))) (toS 6) (fun _ => some true) b_all_rows_c1)
def b_all_rows_L3 : Env → Option Out := seqS (ownS 4 (lstX (nilA))) (seqS ((fun ρ => (forS [5] (seqI (getS 2)) (toS 5) b_all_rows_L2) (relL [2] ρ))) (mvS 2 4))
def b_all_rows : Env → Option Out := seqS (ownS 2 (lstX (consA (tupE (nilA)) (nilA)))) (seqS (forS [3] (seqI (bin ixD (getW 1) (cst (.int 0)))) (toS 3) b_all_rows_L3) ((fun ρ => (retS (getS 2)) (relL [2] ρ))))
def G_all_rows : List D → Option D := runF 7 b_all_rows

-- shape_of (k23)
def b_shape_of_c1 : Env → Option D := getS 2
def b_shape_of : Env → Option Out := retS (methE "str" joinD (cst (.str [])) (consA (lcE [1, 2] (seqI (getW 0)) (toTup 2 (toCons (toS 1) (toCons (toS 2) (toNil)))) (fun _ => some true) b_shape_of_c1) (nilA)))
def G_shape_of : List D → Option D := runF 3 b_shape_of

-- loosened (k23)
def b_loosened_c1 : Env → Option D := bin addD (slcE slD (getW 0) ((fun _ => some none)) (partE (neg (cst (.int 1))))) (getW 2)
def b_loosened : Env → Option Out := seqS (ifS (orT (notT (asB (getS 1))) (asB (bin eqD (getW 0) (cst (.str []))))) (retS (lstE (consA (getS 0) (nilA)))) (nopS)) (retS (lcE [2] (seqI (cst (.str [108, 115]))) (toS 2) (fun _ => some true) b_loosened_c1))
def G_loosened : List D → Option D := runF 3 b_loosened

-- shapes (k23)
def b_shapes_L1 : Env → Option Out := setKS 2 (getS 4) (cst (.bl true))
def b_shapes_L2 : Env → Option Out := forS [4] (seqI (callN 2 G_loosened (consA (callN 1 G_shape_of (consA (getS 3) (nilA))) (consA (bin ixD (getW 1) (cst (.int 2))) (nilA))))) (toS 4) b_shapes_L1
def b_shapes : Env → Option Out := seqS (newKS 2) (seqS (forS [3] (seqI (callN 2 G_all_rows (consA (getS 0) (consA (getS 1) (nilA))))) (toS 3) b_shapes_L2) (retS (callE tupleX (consA (callE sortedD (consA (getW 2) (nilA))) (nilA)))))
def G_shapes : List D → Option D := runF 5 b_shapes

-- _law_agreed (k23)
def b__law_agreed_L1 : Env → Option Out := ifS (asB (bin ninX (bin ixD (getW 0) (getW 2)) (tupE (consA (bin ixD (getW 1) (getW 2)) (consA (cst (.str [101])) (nilA)))))) (retS (getS 2)) (nopS)
def b__law_agreed : Env → Option Out := seqS (forS [2] (rng1 (consA (callE min2D (consA (callE lenD (consA (getW 0) (nilA))) (consA (callE lenD (consA (getW 1) (nilA))) (nilA)))) (nilA))) (toS 2) b__law_agreed_L1) (retS (callE min2D (consA (callE lenD (consA (getW 0) (nilA))) (consA (callE lenD (consA (getW 1) (nilA))) (nilA)))))
def G__law_agreed : List D → Option D := runF 3 b__law_agreed

-- law (k23)
def b_law_k23_L1 : Env → Option Out := ifS (asB (bin neD (callN 3 G_furthest (consA (getS 1) (consA (getS 2) (consA (callE tupleX (consA (slcE slD (getW 4) ((fun _ => some none)) (partE (getW 6))) (nilA))) (nilA))))) (callE min2D (consA (getW 6) (consA (getW 5) (nilA)))))) (retS (cst (.bl false))) (nopS)
def b_law_k23_c2 : Env → Option D := callN 2 G__law_agreed (consA (getS 4) (consA (getS 8) (nilA)))
def b_law_k23 : Env → Option Out := seqS (asgS 1 (callN 1 G__law_tongue (consA (callN 2 G__law_mixed (consA (getS 0) (consA (cst (.int 0)) (nilA)))) (nilA)))) (seqS (asgS 2 (callN 2 G_with_loose (consA (callN 3 G__law_measure (consA (getS 1) (consA (callN 2 G__law_mixed (consA (getS 0) (consA (cst (.int 1)) (nilA)))) (consA (cst (.int 4)) (nilA))))) (consA (cst (.bl false)) (nilA))))) (seqS (asgS 3 (callN 3 G__law_line (consA (getS 1) (consA (getS 2) (consA (callN 2 G__law_mixed (consA (getS 0) (consA (cst (.int 2)) (nilA)))) (nilA)))))) (seqS (asgS 4 (methE "str" joinD (cst (.str [])) (consA (getW 3) (nilA)))) (seqS (asgS 5 (callN 3 G_furthest (consA (getS 1) (consA (getS 2) (consA (getS 3) (nilA)))))) (seqS (ifS (orT (asB (bin gtD (getW 5) (callE lenD (consA (getW 4) (nilA))))) (andT (asB (callN 3 G_fits (consA (getS 1) (consA (getS 2) (consA (getS 3) (nilA)))))) (asB (bin neD (getW 5) (callE lenD (consA (getW 4) (nilA))))))) (retS (cst (.bl false))) (nopS)) (seqS (forS [6] (rng1 (consA (bin addD (callE lenD (consA (getW 4) (nilA))) (cst (.int 1))) (nilA))) (toS 6) b_law_k23_L1) (seqS (ifS (asB (bin neD (getW 5) (callE max1D (consA (bin addD (lstE (consA (cst (.int 0)) (nilA))) (lcE [8] (seqI (callN 2 G_shapes (consA (getS 1) (consA (getS 2) (nilA))))) (toS 8) (fun _ => some true) b_law_k23_c2)) (nilA))))) (retS (cst (.bl false))) (nopS)) (seqS (asgS 7 (callN 2 G_with_loose (consA (callN 3 G__law_measure (consA (getS 1) (consA (callN 2 G__law_mixed (consA (getS 0) (consA (cst (.int 3)) (nilA)))) (consA (cst (.int 2)) (nilA))))) (consA (cst (.bl false)) (nilA))))) (seqS (ifS (orT (asB (bin ltD (callN 3 G_furthest (consA (getS 1) (consA (callN 2 G_joined (consA (getS 2) (consA (getS 7) (nilA)))) (consA (getS 3) (nilA))))) (getW 5))) (asB (bin neD (callN 3 G_furthest (consA (getS 1) (consA (callN 1 G_freed (consA (getS 2) (nilA))) (consA (getS 3) (nilA))))) (getW 5)))) (retS (cst (.bl false))) (nopS)) (retS (bin leD (callN 3 G_furthest (consA (getS 1) (consA (callN 2 G_cut (consA (getS 2) (consA (bin fdivD (callE lenD (consA (bin ixD (getW 2) (cst (.int 0))) (nilA))) (cst (.int 2))) (nilA)))) (consA (getS 3) (nilA))))) (getW 5))))))))))))
def G_law_k23 : List D → Option D := runF 9 b_law_k23

-- many_shapes (k30)
def b_many_shapes : Env → Option Out := retS (callE lenD (consA (callN 2 G_shapes (consA (getS 0) (consA (getS 1) (nilA)))) (nilA)))
def G_many_shapes : List D → Option D := runF 2 b_many_shapes

-- doubled (k30)
def b_doubled_L1 : Env → Option Out := setKS 2 (getS 4) (bin addD (tri dget2D (getW 2) (getW 4) (cst (.int 0))) (cst (.int 1)))
def b_doubled_L2 : Env → Option Out := forS [4] (seqI (callN 2 G_loosened (consA (callN 1 G_shape_of (consA (getS 3) (nilA))) (consA (bin ixD (getW 1) (cst (.int 2))) (nilA))))) (toS 4) b_doubled_L1
def b_doubled_c3 : Env → Option D := getS 4
def b_doubled : Env → Option Out := seqS (newKS 2) (seqS (forS [3] (seqI (callN 2 G_all_rows (consA (getS 0) (consA (getS 1) (nilA))))) (toS 3) b_doubled_L2) ((fun ρ => (retS (callE tupleX (consA (callE sortedD (consA (lcKE 2 [4] (toS 4) (asB (bin gtD (bin dgetD (getW 2) (getW 4)) (cst (.int 1)))) b_doubled_c3) (nilA))) (nilA)))) (relL [2] ρ))))
def G_doubled : List D → Option D := runF 5 b_doubled

-- is_clear (k30)
def b_is_clear : Env → Option Out := retS (bin eqD (callE lenD (consA (callN 2 G_doubled (consA (getS 0) (consA (getS 1) (nilA)))) (nilA))) (cst (.int 0)))
def G_is_clear : List D → Option D := runF 2 b_is_clear

-- parting (k30)
def b_parting_c1 : Env → Option D := getS 6
def b_parting : Env → Option Out := seqS (asgS 3 (callN 2 G_shapes (consA (getS 0) (consA (getS 1) (nilA))))) (seqS (asgS 4 (callN 2 G_shapes (consA (getS 0) (consA (getS 2) (nilA))))) (seqS (asgS 5 (lcE [6] (seqI (bin addD (getW 3) (getW 4))) (toS 6) (asB (bin neD (bin inX (getW 6) (getW 3)) (bin inX (getW 6) (getW 4)))) b_parting_c1)) (seqS (ifS (asB (bin eqD (callE lenD (consA (getW 5) (nilA))) (cst (.int 0)))) (retS (cst .non)) (nopS)) (retS (callE min1D (consA (getW 5) (nilA)))))))
def G_parting : List D → Option D := runF 7 b_parting

-- alike (k30)
def b_alike : Env → Option Out := retS (bin isD (callN 3 G_parting (consA (getS 0) (consA (getS 1) (consA (getS 2) (nilA))))) (cst .non))
def G_alike : List D → Option D := runF 3 b_alike

-- is_within (k30)
def b_is_within_c1 : Env → Option D := bin inX (getW 4) (getW 3)
def b_is_within : Env → Option Out := seqS (asgS 3 (callN 2 G_shapes (consA (getS 0) (consA (getS 2) (nilA))))) (retS (callE allD (consA (lcE [4] (seqI (callN 2 G_shapes (consA (getS 0) (consA (getS 1) (nilA))))) (toS 4) (fun _ => some true) b_is_within_c1) (nilA))))
def G_is_within : List D → Option D := runF 5 b_is_within

-- _law_shapes (k30)
def b__law_shapes_L1 : Env → Option Out := seqS (asgS 4 (callN 1 G__law_shape (consA (getS 3) (nilA)))) (seqS (setKS 2 (getS 4) (cst (.bl true))) (ifS (andT (asB (bin ixD (getW 1) (cst (.int 2)))) (asB (bin neD (getW 4) (cst (.str []))))) (seqS (setKS 2 (bin addD (slcE slD (getW 4) ((fun _ => some none)) (partE (neg (cst (.int 1))))) (cst (.str [108]))) (cst (.bl true))) (setKS 2 (bin addD (slcE slD (getW 4) ((fun _ => some none)) (partE (neg (cst (.int 1))))) (cst (.str [115]))) (cst (.bl true)))) (nopS)))
def b__law_shapes : Env → Option Out := seqS (newKS 2) (seqS (forS [3] (seqI (callN 2 G__law_rows (consA (getS 0) (consA (getS 1) (nilA))))) (toS 3) b__law_shapes_L1) (retS (callE sortedD (consA (getW 2) (nilA)))))
def G__law_shapes : List D → Option D := runF 5 b__law_shapes

-- _law_doubled (k30)
def b__law_doubled_L1 : Env → Option Out := seqS (asgS 7 (callN 1 G__law_shape (consA (getS 6) (nilA)))) (ifS (orT (asB (bin eqD (getW 7) (getW 4))) (andT (asB (bin ixD (getW 1) (cst (.int 2)))) (andT (asB (bin neD (getW 7) (cst (.str [])))) (andT (asB (bin eqD (callE lenD (consA (getW 7) (nilA))) (callE lenD (consA (getW 4) (nilA))))) (asB (bin eqD (slcE slD (getW 7) ((fun _ => some none)) (partE (neg (cst (.int 1))))) (slcE slD (getW 4) ((fun _ => some none)) (partE (neg (cst (.int 1))))))))))) (asgS 5 (bin addD (getW 5) (cst (.int 1)))) (nopS))
def b__law_doubled_L2 : Env → Option Out := seqS (asgS 5 (cst (.int 0))) (seqS (forS [6] (seqI (getS 2)) (toS 6) b__law_doubled_L1) (ifS (asB (bin gtD (getW 5) (cst (.int 1)))) (appS 3 (getS 4)) (nopS)))
def b__law_doubled : Env → Option Out := seqS (asgS 2 (callN 2 G__law_rows (consA (getS 0) (consA (getS 1) (nilA))))) (seqS (ownS 3 (lstX (nilA))) (seqS (forS [4] (seqI (callN 2 G__law_shapes (consA (getS 0) (consA (getS 1) (nilA))))) (toS 4) b__law_doubled_L2) ((fun ρ => (retS (getS 3)) (relL [3] ρ)))))
def G__law_doubled : List D → Option D := runF 8 b__law_doubled

-- law (k30)
def b_law_k30_c1 : Env → Option D := getS 11
def b_law_k30_c2 : Env → Option D := getS 11
def b_law_k30_c3 : Env → Option D := getS 12
def b_law_k30 : Env → Option Out := seqS (asgS 1 (callN 1 G__law_tongue (consA (callN 2 G__law_mixed (consA (getS 0) (consA (cst (.int 0)) (nilA)))) (nilA)))) (seqS (asgS 2 (callN 3 G__law_measure (consA (getS 1) (consA (callN 2 G__law_mixed (consA (getS 0) (consA (cst (.int 1)) (nilA)))) (consA (cst (.int 3)) (nilA)))))) (seqS (asgS 3 (callN 3 G__law_measure (consA (getS 1) (consA (callN 2 G__law_mixed (consA (getS 0) (consA (cst (.int 2)) (nilA)))) (consA (cst (.int 3)) (nilA)))))) (seqS (ifS (asB (bin eqD (bin modD (callN 2 G__law_mixed (consA (getS 0) (consA (cst (.int 3)) (nilA)))) (cst (.int 3))) (cst (.int 0)))) (asgS 3 (tupE (consA (bin ixD (getW 2) (cst (.int 0))) (consA (bin ixD (getW 3) (cst (.int 1))) (consA (bin ixD (getW 3) (cst (.int 2))) (nilA)))))) (nopS)) (seqS (asgS 4 (callN 2 G__law_shapes (consA (getS 1) (consA (getS 2) (nilA))))) (seqS (asgS 5 (callN 2 G__law_shapes (consA (getS 1) (consA (getS 3) (nilA))))) (seqS (ifS (orT (asB (bin neD (callN 2 G_shapes (consA (getS 1) (consA (getS 2) (nilA)))) (callE tupleX (consA (getW 4) (nilA))))) (asB (bin neD (callN 2 G_many_shapes (consA (getS 1) (consA (getS 2) (nilA)))) (callE lenD (consA (getW 4) (nilA)))))) (retS (cst (.bl false))) (nopS)) (seqS (asgS 6 (callN 2 G__law_doubled (consA (getS 1) (consA (getS 2) (nilA))))) (seqS (asgS 7 (callN 2 G_is_clear (consA (getS 1) (consA (getS 2) (nilA))))) (seqS (ifS (orT (asB (bin neD (callN 2 G_doubled (consA (getS 1) (consA (getS 2) (nilA)))) (callE tupleX (consA (getW 6) (nilA))))) (orT (notT (asB (callE isiD (consA (getW 7) (consA (cst (.raw (.ty "bool"))) nilA))))) (asB (bin neD (getW 7) (bin eqD (getW 6) (lstE (nilA))))))) (retS (cst (.bl false))) (nopS)) (seqS (asgS 8 (callE sortedD (consA (lcE [11] (seqI (bin addD (getW 4) (getW 5))) (toS 11) (asB (bin neD (bin inX (getW 11) (getW 4)) (bin inX (getW 11) (getW 5)))) b_law_k30_c1) (nilA)))) (seqS (ifS (asB (bin neD (callN 3 G_parting (consA (getS 1) (consA (getS 2) (consA (getS 3) (nilA))))) (bin ixD (bin addD (getW 8) (lstE (consA (cst .non) (nilA)))) (cst (.int 0))))) (retS (cst (.bl false))) (nopS)) (seqS (asgS 9 (lstE (consA (callN 3 G_alike (consA (getS 1) (consA (getS 2) (consA (getS 3) (nilA))))) (consA (callN 3 G_is_within (consA (getS 1) (consA (getS 2) (consA (getS 3) (nilA))))) (nilA))))) (seqS (asgS 10 (lstE (consA (bin eqD (getW 8) (lstE (nilA))) (consA (bin eqD (lcE [11] (seqI (getW 4)) (toS 11) (asB (bin ninX (getW 11) (getW 5))) b_law_k30_c2) (lstE (nilA))) (nilA))))) (retS (andV (bin eqD (getW 9) (getW 10)) (bin eqD (lcE [12] (seqI (getW 9)) (toS 12) (notT (asB (callE isiD (consA (getW 12) (consA (cst (.raw (.ty "bool"))) nilA))))) b_law_k30_c3) (lstE (nilA))))))))))))))))))
def G_law_k30 : List D → Option D := runF 13 b_law_k30

-- law (k31)
def b_law_k31_c1 : Env → Option D := callN 2 G__law_form (consA (callN 2 G__law_mixed (consA (getS 0) (consA (bin addD (cst (.int 3)) (getW 10)) (nilA)))) (consA (cst (.int 9)) (nilA)))
def b_law_k31_L2 : Env → Option Out := seqS (asgS 8 (callE tupleX (consA (getW 7) (nilA)))) (seqS (ifS (orT (asB (bin neD (callN 3 G_fits (consA (getS 1) (consA (getS 2) (consA (getS 8) (nilA))))) (bin inX (getW 7) (getW 4)))) (asB (bin neD (callN 3 G_fits (consA (getS 1) (consA (getS 3) (consA (getS 8) (nilA))))) (bin inX (getW 7) (getW 5))))) (retS (cst (.bl false))) (nopS)) (ifS (asB (bin neD (bin gtD (callN 3 G_many_ways (consA (getS 1) (consA (getS 2) (consA (getS 8) (nilA))))) (cst (.int 1))) (bin inX (getW 7) (callN 2 G_doubled (consA (getS 1) (consA (getS 2) (nilA))))))) (retS (cst (.bl false))) (nopS)))
def b_law_k31_c3 : Env → Option D := getS 11
def b_law_k31 : Env → Option Out := seqS (asgS 1 (callN 1 G__law_tongue (consA (callN 2 G__law_mixed (consA (getS 0) (consA (cst (.int 0)) (nilA)))) (nilA)))) (seqS (asgS 2 (callN 1 G_freed (consA (callN 3 G__law_measure (consA (getS 1) (consA (callN 2 G__law_mixed (consA (getS 0) (consA (cst (.int 1)) (nilA)))) (consA (cst (.int 3)) (nilA))))) (nilA)))) (seqS (asgS 3 (callN 1 G_freed (consA (callN 3 G__law_measure (consA (getS 1) (consA (callN 2 G__law_mixed (consA (getS 0) (consA (cst (.int 2)) (nilA)))) (consA (cst (.int 3)) (nilA))))) (nilA)))) (seqS (asgS 4 (callN 2 G_shapes (consA (getS 1) (consA (getS 2) (nilA))))) (seqS (asgS 5 (callN 2 G_shapes (consA (getS 1) (consA (getS 3) (nilA))))) (seqS (asgS 6 (lcE [10] (rng1 (consA (cst (.int 4)) (nilA))) (toS 10) (fun _ => some true) b_law_k31_c1)) (seqS (forS [7] (seqI (bin addD (bin addD (callE listX (consA (getW 4) (nilA))) (callE listX (consA (getW 5) (nilA)))) (getW 6))) (toS 7) b_law_k31_L2) (seqS (asgS 7 (callN 3 G_parting (consA (getS 1) (consA (getS 2) (consA (getS 3) (nilA)))))) (seqS (asgS 9 (callN 3 G_alike (consA (getS 1) (consA (getS 2) (consA (getS 3) (nilA)))))) (seqS (ifS (orT (asB (bin neD (getW 9) (bin isD (getW 7) (cst .non)))) (orT (asB (bin neD (getW 9) (bin eqD (getW 4) (getW 5)))) (asB (bin neD (callN 3 G_parting (consA (getS 1) (consA (getS 3) (consA (getS 2) (nilA))))) (getW 7))))) (retS (cst (.bl false))) (nopS)) (seqS (ifS (andT (asB (callN 3 G_is_within (consA (getS 1) (consA (getS 2) (consA (getS 3) (nilA)))))) (asB (bin neD (callN 3 G_is_within (consA (getS 1) (consA (getS 3) (consA (getS 2) (nilA))))) (getW 9)))) (retS (cst (.bl false))) (nopS)) (seqS (ifS (orT (asB (bin neD (callN 2 G_is_clear (consA (getS 1) (consA (getS 2) (nilA)))) (bin eqD (callN 2 G_doubled (consA (getS 1) (consA (getS 2) (nilA)))) (tupE (nilA))))) (asB (bin neD (callE listX (consA (getW 4) (nilA))) (mapE ssetD (getW 4))))) (retS (cst (.bl false))) (nopS)) (seqS (ifS (asB (bin isD (getW 7) (cst .non))) (retS (cst (.bl true))) (nopS)) (seqS (ifS (asB (bin neD (lcE [11] (seqI (bin addD (getW 4) (getW 5))) (toS 11) (andT (asB (bin ltD (getW 11) (getW 7))) (asB (bin neD (bin inX (getW 11) (getW 4)) (bin inX (getW 11) (getW 5))))) b_law_k31_c3) (lstE (nilA)))) (retS (cst (.bl false))) (nopS)) (retS (bin neD (callN 3 G_fits (consA (getS 1) (consA (getS 2) (consA (callE tupleX (consA (getW 7) (nilA))) (nilA))))) (callN 3 G_fits (consA (getS 1) (consA (getS 3) (consA (callE tupleX (consA (getW 7) (nilA))) (nilA))))))))))))))))))))
def G_law_k31 : List D → Option D := runF 12 b_law_k31

-- law (k32)
def b_law_k32_c1 : Env → Option D := callE lenD (consA (callN 2 G_forms_of (consA (getS 1) (consA (getS 12) (nilA)))) (nilA))
def b_law_k32_L2 : Env → Option Out := asgS 4 (bin mulX (getW 4) (callE sumD (consA (lcE [12] (seqI (getW 5)) (toS 12) (fun _ => some true) b_law_k32_c1) (nilA))))
def b_law_k32_c3 : Env → Option D := callN 3 G_many_ways (consA (getS 1) (consA (getS 2) (consA (callE tupleX (consA (getW 8) (nilA))) (nilA))))
def b_law_k32_L4 : Env → Option Out := seqS (asgS 11 (callN 3 G_many_ways (consA (getS 1) (consA (getS 2) (consA (callE tupleX (consA (slcE slD (getW 8) ((fun _ => some none)) (partE (getW 10))) (nilA))) (nilA)))))) (asgS 9 (bin addD (getW 9) (bin mulX (getW 11) (callN 3 G_many_ways (consA (getS 1) (consA (getS 3) (consA (callE tupleX (consA (slcE slD (getW 8) (partE (getW 10)) ((fun _ => some none))) (nilA))) (nilA))))))))
def b_law_k32_L5 : Env → Option Out := seqS (asgS 9 (cst (.int 0))) (seqS (forS [10] (rng1 (consA (bin addD (callE lenD (consA (getW 8) (nilA))) (cst (.int 1))) (nilA))) (toS 10) b_law_k32_L4) (ifS (asB (bin neD (callN 3 G_many_ways (consA (getS 1) (consA (getS 7) (consA (callE tupleX (consA (getW 8) (nilA))) (nilA))))) (getW 9))) (retS (cst (.bl false))) (nopS)))
def b_law_k32 : Env → Option Out := seqS (asgS 1 (callN 1 G__law_tongue (consA (callN 2 G__law_mixed (consA (getS 0) (consA (cst (.int 0)) (nilA)))) (nilA)))) (seqS (asgS 2 (callN 2 G_with_loose (consA (callN 1 G_freed (consA (callN 3 G__law_measure (consA (getS 1) (consA (callN 2 G__law_mixed (consA (getS 0) (consA (cst (.int 1)) (nilA)))) (consA (cst (.int 3)) (nilA))))) (nilA))) (consA (cst (.bl false)) (nilA))))) (seqS (asgS 3 (callN 2 G_with_loose (consA (callN 1 G_freed (consA (callN 3 G__law_measure (consA (getS 1) (consA (callN 2 G__law_mixed (consA (getS 0) (consA (cst (.int 2)) (nilA)))) (consA (cst (.int 2)) (nilA))))) (nilA))) (consA (cst (.bl false)) (nilA))))) (seqS (asgS 4 (cst (.int 1))) (seqS (forS [5] (seqI (bin ixD (getW 2) (cst (.int 0)))) (toS 5) b_law_k32_L2) (seqS (asgS 6 (callN 2 G_shapes (consA (getS 1) (consA (getS 2) (nilA))))) (seqS (ifS (orT (asB (bin neD (callE sumD (consA (lcE [8] (seqI (getW 6)) (toS 8) (fun _ => some true) b_law_k32_c3) (nilA))) (getW 4))) (asB (bin neD (callN 2 G_many_shapes (consA (getS 1) (consA (getS 2) (nilA)))) (callE lenD (consA (getW 6) (nilA)))))) (retS (cst (.bl false))) (nopS)) (seqS (ifS (orT (asB (bin neD (callN 2 G_is_clear (consA (getS 1) (consA (getS 2) (nilA)))) (bin eqD (callE lenD (consA (getW 6) (nilA))) (getW 4)))) (asB (bin neD (bin eqD (callN 2 G_doubled (consA (getS 1) (consA (getS 2) (nilA)))) (tupE (nilA))) (bin eqD (callE lenD (consA (getW 6) (nilA))) (getW 4))))) (retS (cst (.bl false))) (nopS)) (seqS (asgS 7 (callN 2 G_joined (consA (getS 2) (consA (getS 3) (nilA))))) (seqS (forS [8] (seqI (slcE slD (callN 2 G_shapes (consA (getS 1) (consA (getS 7) (nilA)))) ((fun _ => some none)) (partE (cst (.int 12))))) (toS 8) b_law_k32_L5) (retS (cst (.bl true))))))))))))
def G_law_k32 : List D → Option D := runF 13 b_law_k32

-- again (k40)
def b_again_L1 : Env → Option Out := asgS 2 (callN 2 G_joined (consA (getS 2) (consA (getS 0) (nilA))))
def b_again : Env → Option Out := seqS (asgS 2 (tupE (consA (tupE (nilA)) (consA (tupE (nilA)) (consA (bin ixD (getW 0) (cst (.int 2))) (nilA)))))) (seqS (forS [3] (rng1 (consA (getW 1) (nilA))) (toS 3) b_again_L1) (retS (getS 2)))
def G_again : List D → Option D := runF 4 b_again

-- law (k40)
def b_law_k40_L1 : Env → Option Out := asgS 5 (bin addD (getW 5) (tupE (consA (tupE (consA (bin addD (getW 6) (getW 4)) (consA (getS 7) (nilA)))) (nilA))))
def b_law_k40_c2 : Env → Option D := tupE (consA (bin addD (getW 6) (callE lenD (consA (getW 9) (nilA)))) (consA (getS 7) (nilA)))
def b_law_k40_L3 : Env → Option Out := seqS (asgS 10 (bin addD (getW 10) (callE tupleX (consA (lcE [6, 7] (seqI (bin ixD (getW 2) (cst (.int 1)))) (toTup 2 (toCons (toS 6) (toCons (toS 7) (toNil)))) (fun _ => some true) b_law_k40_c2) (nilA))))) (asgS 9 (bin addD (getW 9) (bin ixD (getW 2) (cst (.int 0)))))
def b_law_k40_L4 : Env → Option Out := seqS (asgS 9 (tupE (nilA))) (seqS (asgS 10 (tupE (nilA))) (seqS (forS [11] (rng1 (consA (getW 8) (nilA))) (toS 11) b_law_k40_L3) (ifS (asB (bin neD (callN 2 G_again (consA (getS 2) (consA (getS 8) (nilA)))) (tupE (consA (getS 9) (consA (getS 10) (consA (bin ixD (getW 2) (cst (.int 2))) (nilA))))))) (retS (cst (.bl false))) (nopS))))
def b_law_k40_c5 : Env → Option D := getS 12
def b_law_k40_L6 : Env → Option Out := seqS (asgS 10 (callE tupleX (consA (lcE [12] (seqI (bin ixD (getW 2) (cst (.int 1)))) (toS 12) (asB (bin ltD (bin ixD (getW 12) (cst (.int 0))) (getW 8))) b_law_k40_c5) (nilA)))) (ifS (asB (bin neD (callN 2 G_cut (consA (getS 2) (consA (getS 8) (nilA)))) (tupE (consA (slcE slD (bin ixD (getW 2) (cst (.int 0))) ((fun _ => some none)) (partE (getW 8))) (consA (getS 10) (consA (bin ixD (getW 2) (cst (.int 2))) (nilA))))))) (retS (cst (.bl false))) (nopS))
def b_law_k40_c7 : Env → Option D := getS 13
def b_law_k40 : Env → Option Out := seqS (asgS 1 (callN 1 G__law_tongue (consA (callN 2 G__law_mixed (consA (getS 0) (consA (cst (.int 0)) (nilA)))) (nilA)))) (seqS (asgS 2 (callN 3 G__law_measure (consA (getS 1) (consA (callN 2 G__law_mixed (consA (getS 0) (consA (cst (.int 1)) (nilA)))) (consA (cst (.int 3)) (nilA)))))) (seqS (asgS 3 (callN 3 G__law_measure (consA (getS 1) (consA (callN 2 G__law_mixed (consA (getS 0) (consA (cst (.int 2)) (nilA)))) (consA (cst (.int 3)) (nilA)))))) (seqS (asgS 4 (callE lenD (consA (bin ixD (getW 2) (cst (.int 0))) (nilA)))) (seqS (asgS 5 (tupE (nilA))) (seqS (forS [6, 7] (seqI (bin ixD (getW 3) (cst (.int 1)))) (toTup 2 (toCons (toS 6) (toCons (toS 7) (toNil)))) b_law_k40_L1) (seqS (ifS (asB (bin neD (callN 2 G_joined (consA (getS 2) (consA (getS 3) (nilA)))) (tupE (consA (bin addD (bin ixD (getW 2) (cst (.int 0))) (bin ixD (getW 3) (cst (.int 0)))) (consA (bin addD (bin ixD (getW 2) (cst (.int 1))) (getW 5)) (consA (bin ixD (getW 3) (cst (.int 2))) (nilA))))))) (retS (cst (.bl false))) (nopS)) (seqS (forS [8] (rng1 (consA (cst (.int 4)) (nilA))) (toS 8) b_law_k40_L4) (seqS (forS [8] (rng1 (consA (cst (.int 6)) (nilA))) (toS 8) b_law_k40_L6) (seqS (ifS (asB (bin neD (callN 1 G_freed (consA (getS 2) (nilA))) (tupE (consA (bin ixD (getW 2) (cst (.int 0))) (consA (tupE (nilA)) (consA (bin ixD (getW 2) (cst (.int 2))) (nilA))))))) (retS (cst (.bl false))) (nopS)) (retS (bin eqD (lcE [13] (seqI (tupE (consA (cst (.bl true)) (consA (cst (.bl false)) (nilA))))) (toS 13) (asB (bin neD (callN 2 G_with_loose (consA (getS 2) (consA (getS 13) (nilA)))) (tupE (consA (bin ixD (getW 2) (cst (.int 0))) (consA (bin ixD (getW 2) (cst (.int 1))) (consA (getS 13) (nilA))))))) b_law_k40_c7) (lstE (nilA)))))))))))))
def G_law_k40 : List D → Option D := runF 14 b_law_k40

-- _law_turned (k41)
def b__law_turned : Env → Option Out := seqS (ifS (asB (bin eqD (getW 0) (cst (.str [])))) (retS (getS 0)) (nopS)) (retS (bin addD (slcE slD (getW 0) ((fun _ => some none)) (partE (neg (cst (.int 1))))) (bin ixD (cst (.str [108, 115])) (callE intD (consA (bin eqD (bin ixD (getW 0) (neg (cst (.int 1)))) (cst (.str [108]))) (nilA))))))
def G__law_turned : List D → Option D := runF 1 b__law_turned

-- law (k41)
def b_law_k41_L1 : Env → Option Out := seqS (setKS 6 (bin addD (getW 7) (getW 8)) (cst (.bl true))) (ifS (andT (asB (bin eqD (getW 8) (cst (.str [])))) (asB (bin ixD (getW 3) (cst (.int 2))))) (setKS 6 (callN 1 G__law_turned (consA (getS 7) (nilA))) (cst (.bl true))) (nopS))
def b_law_k41_L2 : Env → Option Out := forS [8] (seqI (getS 5)) (toS 8) b_law_k41_L1
def b_law_k41_c3 : Env → Option D := callN 1 G__law_turned (consA (getS 13) (nilA))
def b_law_k41 : Env → Option Out := seqS (asgS 1 (callN 1 G__law_tongue (consA (callN 2 G__law_mixed (consA (getS 0) (consA (cst (.int 0)) (nilA)))) (nilA)))) (seqS (asgS 2 (callN 3 G__law_measure (consA (getS 1) (consA (callN 2 G__law_mixed (consA (getS 0) (consA (cst (.int 1)) (nilA)))) (consA (cst (.int 2)) (nilA)))))) (seqS (asgS 3 (callN 3 G__law_measure (consA (getS 1) (consA (callN 2 G__law_mixed (consA (getS 0) (consA (cst (.int 2)) (nilA)))) (consA (cst (.int 2)) (nilA)))))) (seqS (asgS 4 (callN 2 G_shapes (consA (getS 1) (consA (callN 2 G_with_loose (consA (getS 2) (consA (cst (.bl false)) (nilA)))) (nilA))))) (seqS (asgS 5 (callN 2 G_shapes (consA (getS 1) (consA (getS 3) (nilA))))) (seqS (newKS 6) (seqS (forS [7] (seqI (getS 4)) (toS 7) b_law_k41_L2) (seqS (ifS (asB (bin neD (callN 2 G_shapes (consA (getS 1) (consA (callN 2 G_joined (consA (getS 2) (consA (getS 3) (nilA)))) (nilA)))) (callE tupleX (consA (callE sortedD (consA (getW 6) (nilA))) (nilA))))) (retS (cst (.bl false))) (nopS)) (seqS (ifS (orT (notT (asB (callN 3 G_alike (consA (getS 1) (consA (callN 2 G_again (consA (getS 2) (consA (cst (.int 2)) (nilA)))) (consA (callN 2 G_joined (consA (callN 2 G_with_loose (consA (getS 2) (consA (cst (.bl false)) (nilA)))) (consA (getS 2) (nilA)))) (nilA))))))) (asB (bin neD (callN 2 G_shapes (consA (getS 1) (consA (callN 2 G_again (consA (getS 2) (consA (cst (.int 0)) (nilA)))) (nilA)))) (tupE (consA (cst (.str [])) (nilA)))))) (retS (cst (.bl false))) (nopS)) (seqS (ifS (asB (bin isntD (callN 3 G_alike (consA (getS 1) (consA (getS 2) (consA (callN 1 G_freed (consA (getS 2) (nilA))) (nilA))))) (cst (.bl true)))) (retS (cst (.bl false))) (nopS)) (seqS (ifS (asB (bin isntD (callN 3 G_is_within (consA (getS 1) (consA (callN 2 G_with_loose (consA (getS 2) (consA (cst (.bl false)) (nilA)))) (consA (callN 2 G_with_loose (consA (getS 2) (consA (cst (.bl true)) (nilA)))) (nilA))))) (cst (.bl true)))) (retS (cst (.bl false))) (nopS)) (seqS (asgS 9 (mapE ssetD (bin addD (getW 4) (callE tupleX (consA (lcE [13] (seqI (getW 4)) (toS 13) (fun _ => some true) b_law_k41_c3) (nilA)))))) (seqS (ifS (asB (bin neD (callN 2 G_shapes (consA (getS 1) (consA (callN 2 G_with_loose (consA (getS 2) (consA (cst (.bl true)) (nilA)))) (nilA)))) (callE tupleX (consA (getW 9) (nilA))))) (retS (cst (.bl false))) (nopS)) (seqS (ifS (asB (bin neD (callN 2 G_cut (consA (callN 2 G_joined (consA (getS 2) (consA (getS 3) (nilA)))) (consA (callE lenD (consA (bin ixD (getW 2) (cst (.int 0))) (nilA))) (nilA)))) (callN 2 G_with_loose (consA (getS 2) (consA (bin ixD (getW 3) (cst (.int 2))) (nilA)))))) (retS (cst (.bl false))) (nopS)) (seqS (asgS 10 (callN 2 G_with_loose (consA (getS 2) (consA (cst (.bl false)) (nilA))))) (seqS (asgS 11 (callN 3 G__law_line (consA (getS 1) (consA (getS 10) (consA (callN 2 G__law_mixed (consA (getS 0) (consA (cst (.int 3)) (nilA)))) (nilA)))))) (seqS (asgS 12 (callN 3 G__law_line (consA (getS 1) (consA (getS 3) (consA (callN 2 G__law_mixed (consA (getS 0) (consA (cst (.int 4)) (nilA)))) (nilA)))))) (seqS (ifS (andT (asB (callN 3 G_fits (consA (getS 1) (consA (getS 10) (consA (getS 11) (nilA)))))) (asB (callN 3 G_fits (consA (getS 1) (consA (getS 3) (consA (getS 12) (nilA))))))) (retS (bin isD (callN 3 G_fits (consA (getS 1) (consA (callN 2 G_joined (consA (getS 10) (consA (getS 3) (nilA)))) (consA (bin addD (getW 11) (getW 12)) (nilA))))) (cst (.bl true)))) (nopS)) (retS (cst (.bl true))))))))))))))))))))
def G_law_k41 : List D → Option D := runF 14 b_law_k41

-- law (k42)
def b_law_k42_c1 : Env → Option D := callN 3 G__law_measure (consA (getS 1) (consA (callN 2 G__law_mixed (consA (getS 0) (consA (bin addD (cst (.int 1)) (getW 10)) (nilA)))) (consA (cst (.int 2)) (nilA))))
def b_law_k42 : Env → Option Out := seqS (asgS 1 (callN 1 G__law_tongue (consA (callN 2 G__law_mixed (consA (getS 0) (consA (cst (.int 0)) (nilA)))) (nilA)))) (seqS (tgtS (lcE [10] (rng1 (consA (cst (.int 3)) (nilA))) (toS 10) (fun _ => some true) b_law_k42_c1) (toTupL 3 (toCons (toS 2) (toCons (toS 3) (toCons (toS 4) (toNil)))))) (seqS (ifS (asB (bin neD (callN 2 G_joined (consA (callN 2 G_joined (consA (getS 2) (consA (getS 3) (nilA)))) (consA (getS 4) (nilA)))) (callN 2 G_joined (consA (getS 2) (consA (callN 2 G_joined (consA (getS 3) (consA (getS 4) (nilA)))) (nilA)))))) (retS (cst (.bl false))) (nopS)) (seqS (asgS 5 (tupE (consA (tupE (nilA)) (consA (tupE (nilA)) (consA (bin ixD (getW 2) (cst (.int 2))) (nilA)))))) (seqS (ifS (orT (asB (bin neD (callN 2 G_joined (consA (getS 2) (consA (getS 5) (nilA)))) (getW 2))) (orT (asB (bin neD (callN 2 G_joined (consA (getS 5) (consA (getS 2) (nilA)))) (getW 2))) (asB (bin neD (callN 2 G_again (consA (getS 2) (consA (cst (.int 1)) (nilA)))) (getW 2))))) (retS (cst (.bl false))) (nopS)) (seqS (ifS (orT (asB (bin neD (callN 2 G_again (consA (getS 2) (consA (cst (.int 3)) (nilA)))) (callN 2 G_joined (consA (getS 2) (consA (callN 2 G_joined (consA (getS 2) (consA (getS 2) (nilA)))) (nilA)))))) (asB (bin neD (callN 2 G_again (consA (getS 2) (consA (cst (.int 0)) (nilA)))) (getW 5)))) (retS (cst (.bl false))) (nopS)) (seqS (ifS (asB (bin neD (callN 2 G_again (consA (getS 2) (consA (cst (.int 2)) (nilA)))) (callN 2 G_joined (consA (callN 2 G_again (consA (getS 2) (consA (cst (.int 1)) (nilA)))) (consA (getS 2) (nilA)))))) (retS (cst (.bl false))) (nopS)) (seqS (asgS 6 (callE lenD (consA (bin ixD (getW 2) (cst (.int 0))) (nilA)))) (seqS (ifS (asB (bin neD (callN 2 G_cut (consA (callN 2 G_joined (consA (getS 2) (consA (getS 3) (nilA)))) (consA (getS 6) (nilA)))) (callN 2 G_with_loose (consA (getS 2) (consA (bin ixD (getW 3) (cst (.int 2))) (nilA)))))) (retS (cst (.bl false))) (nopS)) (seqS (ifS (orT (asB (bin neD (callN 2 G_cut (consA (getS 2) (consA (getS 6) (nilA)))) (getW 2))) (asB (bin neD (callN 2 G_cut (consA (callN 2 G_cut (consA (getS 2) (consA (cst (.int 1)) (nilA)))) (consA (cst (.int 2)) (nilA)))) (callN 2 G_cut (consA (getS 2) (consA (cst (.int 1)) (nilA))))))) (retS (cst (.bl false))) (nopS)) (seqS (ifS (asB (bin neD (callN 1 G_freed (consA (callN 2 G_joined (consA (getS 2) (consA (getS 3) (nilA)))) (nilA))) (callN 2 G_joined (consA (callN 1 G_freed (consA (getS 2) (nilA))) (consA (callN 1 G_freed (consA (getS 3) (nilA))) (nilA)))))) (retS (cst (.bl false))) (nopS)) (seqS (ifS (asB (bin neD (callN 2 G_with_loose (consA (callN 2 G_joined (consA (getS 2) (consA (getS 3) (nilA)))) (consA (bin ixD (getW 2) (cst (.int 2))) (nilA)))) (callN 2 G_joined (consA (getS 2) (consA (callN 2 G_with_loose (consA (getS 3) (consA (bin ixD (getW 2) (cst (.int 2))) (nilA)))) (nilA)))))) (retS (cst (.bl false))) (nopS)) (seqS (asgS 7 (callN 2 G_with_loose (consA (getS 2) (consA (cst (.bl false)) (nilA))))) (seqS (asgS 8 (callN 2 G_with_loose (consA (getS 3) (consA (cst (.bl false)) (nilA))))) (seqS (ifS (asB (callN 3 G_is_within (consA (getS 1) (consA (getS 7) (consA (getS 8) (nilA)))))) (seqS (ifS (notT (asB (callN 3 G_is_within (consA (getS 1) (consA (callN 2 G_joined (consA (getS 7) (consA (getS 4) (nilA)))) (consA (callN 2 G_joined (consA (getS 8) (consA (getS 4) (nilA)))) (nilA))))))) (retS (cst (.bl false))) (nopS)) (ifS (notT (asB (callN 3 G_is_within (consA (getS 1) (consA (callN 2 G_joined (consA (getS 4) (consA (getS 7) (nilA)))) (consA (callN 2 G_joined (consA (getS 4) (consA (getS 8) (nilA)))) (nilA))))))) (retS (cst (.bl false))) (nopS))) (nopS)) (seqS (asgS 9 (tupE (consA (callN 2 G_shapes (consA (getS 1) (consA (callN 2 G_joined (consA (getS 7) (consA (getS 4) (nilA)))) (nilA)))) (consA (callN 2 G_shapes (consA (getS 1) (consA (callN 2 G_joined (consA (getS 8) (consA (getS 4) (nilA)))) (nilA)))) (nilA))))) (seqS (ifS (andT (asB (callN 3 G_alike (consA (getS 1) (consA (getS 7) (consA (getS 8) (nilA)))))) (asB (bin neD (bin ixD (getW 9) (cst (.int 0))) (bin ixD (getW 9) (cst (.int 1)))))) (retS (cst (.bl false))) (nopS)) (retS (bin isD (callN 3 G_alike (consA (getS 1) (consA (callN 2 G_joined (consA (callN 1 G_freed (consA (getS 2) (nilA))) (consA (getS 3) (nilA)))) (consA (callN 2 G_joined (consA (getS 2) (consA (callN 1 G_freed (consA (getS 3) (nilA))) (nilA)))) (nilA))))) (cst (.bl true))))))))))))))))))))
def G_law_k42 : List D → Option D := runF 11 b_law_k42

-- unlike_places (k50)
def b_unlike_places_c1 : Env → Option D := cst (.int 1)
def b_unlike_places : Env → Option Out := retS (callE lenD (consA (lcE [2, 3] (zipI (getS 0) (getS 1)) (toTup 2 (toCons (toS 2) (toCons (toS 3) (toNil)))) (asB (bin ninX (getW 2) (tupE (consA (getS 3) (consA (cst (.str [101])) (nilA)))))) b_unlike_places_c1) (nilA)))
def G_unlike_places : List D → Option D := runF 4 b_unlike_places

-- nearest (k50)
def b_nearest_c1 : Env → Option D := tupE (consA (callN 2 G_unlike_places (consA (getS 3) (consA (getS 5) (nilA)))) (consA (getS 5) (nilA)))
def b_nearest : Env → Option Out := seqS (asgS 3 (callN 1 G_signs (consA (getS 2) (nilA)))) (seqS (asgS 4 (lcE [5] (seqI (callN 2 G_shapes (consA (getS 0) (consA (getS 1) (nilA))))) (toS 5) (asB (bin eqD (callE lenD (consA (getW 5) (nilA))) (callE lenD (consA (getW 3) (nilA))))) b_nearest_c1)) (seqS (ifS (asB (bin eqD (callE lenD (consA (getW 4) (nilA))) (cst (.int 0)))) (retS (cst .non)) (nopS)) (retS (callE min1D (consA (getW 4) (nilA))))))
def G_nearest : List D → Option D := runF 6 b_nearest

-- changes (k50)
def b_changes : Env → Option Out := seqS (asgS 3 (callN 3 G_nearest (consA (getS 0) (consA (getS 1) (consA (getS 2) (nilA)))))) (seqS (ifS (asB (bin isD (getW 3) (cst .non))) (retS (cst .non)) (nopS)) (retS (bin ixD (getW 3) (cst (.int 0)))))
def G_changes : List D → Option D := runF 4 b_changes

-- mended (k50)
def b_mended_L1 : Env → Option Out := seqS (appS 5 (slcE slD (getW 4) ((fun _ => some none)) (partE (callE lenD (consA (getW 6) (nilA)))))) (asgS 4 (slcE slD (getW 4) (partE (callE lenD (consA (getW 6) (nilA)))) ((fun _ => some none))))
def b_mended : Env → Option Out := seqS (asgS 3 (callN 3 G_nearest (consA (getS 0) (consA (getS 1) (consA (getS 2) (nilA)))))) (seqS (ifS (asB (bin isD (getW 3) (cst .non))) (retS (cst .non)) (nopS)) (seqS (asgS 4 (bin ixD (getW 3) (cst (.int 1)))) (seqS (ownS 5 (lstX (nilA))) (seqS (forS [6] (seqI (getS 2)) (toS 6) b_mended_L1) (retS (callE tupleX (consA (getW 5) (nilA))))))))
def G_mended : List D → Option D := runF 7 b_mended

-- law (k50)
def b_law_k50_c1 : Env → Option D := getS 8
def b_law_k50_c2 : Env → Option D := getS 10
def b_law_k50_L3 : Env → Option Out := asgS 7 (callE min2D (consA (getW 7) (consA (callE lenD (consA (lcE [10] (rng1 (consA (callE lenD (consA (getW 4) (nilA))) (nilA))) (toS 10) (asB (bin ninX (bin ixD (getW 4) (getW 10)) (tupE (consA (bin ixD (getW 8) (getW 10)) (consA (cst (.str [101])) (nilA)))))) b_law_k50_c2) (nilA))) (nilA))))
def b_law_k50_c4 : Env → Option D := callE lenD (consA (getW 11) (nilA))
def b_law_k50_c5 : Env → Option D := callE lenD (consA (getW 11) (nilA))
def b_law_k50_c6 : Env → Option D := getS 10
def b_law_k50 : Env → Option Out := seqS (asgS 1 (callN 1 G__law_tongue (consA (callN 2 G__law_mixed (consA (getS 0) (consA (cst (.int 0)) (nilA)))) (nilA)))) (seqS (asgS 2 (callN 3 G__law_measure (consA (getS 1) (consA (callN 2 G__law_mixed (consA (getS 0) (consA (cst (.int 1)) (nilA)))) (consA (cst (.int 3)) (nilA)))))) (seqS (asgS 3 (callN 3 G__law_line (consA (getS 1) (consA (getS 2) (consA (callN 2 G__law_mixed (consA (getS 0) (consA (cst (.int 2)) (nilA)))) (nilA)))))) (seqS (asgS 4 (methE "str" joinD (cst (.str [])) (consA (getW 3) (nilA)))) (seqS (asgS 5 (lcE [8] (seqI (callN 2 G__law_shapes (consA (getS 1) (consA (getS 2) (nilA))))) (toS 8) (asB (bin eqD (callE lenD (consA (getW 8) (nilA))) (callE lenD (consA (getW 4) (nilA))))) b_law_k50_c1)) (seqS (asgS 6 (callN 3 G_mended (consA (getS 1) (consA (getS 2) (consA (getS 3) (nilA)))))) (seqS (ifS (asB (bin eqD (getW 5) (lstE (nilA)))) (retS (andV (bin isD (callN 3 G_changes (consA (getS 1) (consA (getS 2) (consA (getS 3) (nilA))))) (cst .non)) (bin isD (getW 6) (cst .non)))) (nopS)) (seqS (asgS 7 (callE lenD (consA (getW 4) (nilA)))) (seqS (forS [8] (seqI (getS 5)) (toS 8) b_law_k50_L3) (seqS (ifS (orT (asB (bin neD (callN 3 G_changes (consA (getS 1) (consA (getS 2) (consA (getS 3) (nilA))))) (getW 7))) (orT (notT (asB (callE isiD (consA (getW 6) (consA (cst (.raw (.ty "tuple"))) nilA))))) (asB (bin neD (callE lenD (consA (getW 6) (nilA))) (callE lenD (consA (getW 3) (nilA))))))) (retS (cst (.bl false))) (nopS)) (seqS (ifS (orT (asB (bin neD (lcE [11] (seqI (getW 6)) (toS 11) (fun _ => some true) b_law_k50_c4) (lcE [11] (seqI (getW 3)) (toS 11) (fun _ => some true) b_law_k50_c5))) (asB (bin ninX (methE "str" joinD (cst (.str [])) (consA (getW 6) (nilA))) (getW 5)))) (retS (cst (.bl false))) (nopS)) (seqS (asgS 9 (methE "str" joinD (cst (.str [])) (consA (getW 6) (nilA)))) (retS (bin eqD (callE lenD (consA (lcE [10] (rng1 (consA (callE lenD (consA (getW 4) (nilA))) (nilA))) (toS 10) (asB (bin ninX (bin ixD (getW 4) (getW 10)) (tupE (consA (bin ixD (getW 9) (getW 10)) (consA (cst (.str [101])) (nilA)))))) b_law_k50_c6) (nilA))) (getW 7))))))))))))))
def G_law_k50 : List D → Option D := runF 12 b_law_k50

-- law (k51)
def b_law_k51_L1 : Env → Option Out := seqS (ifS (asB (chn leD ltD (getW 10) (getW 7) (bin addD (getW 10) (callE lenD (consA (getW 11) (nilA)))))) (asgS 11 (bin addD (bin addD (slcE slD (getW 11) ((fun _ => some none)) (partE (bin subD (getW 7) (getW 10)))) (getW 8)) (slcE slD (getW 11) (partE (bin addD (bin subD (getW 7) (getW 10)) (cst (.int 1)))) ((fun _ => some none))))) (nopS)) (seqS (asgS 9 (bin addD (getW 9) (tupE (consA (getS 11) (nilA))))) (asgS 10 (bin addD (getW 10) (callE lenD (consA (getW 11) (nilA))))))
def b_law_k51_L2 : Env → Option Out := seqS (asgS 9 (tupE (nilA))) (seqS (asgS 10 (cst (.int 0))) (seqS (forS [11] (seqI (getS 3)) (toS 11) b_law_k51_L1) (seqS (asgS 12 (callN 3 G_changes (consA (getS 1) (consA (getS 2) (consA (getS 9) (nilA)))))) (ifS (orT (asB (bin ninX (getW 12) (tupE (consA (bin subD (getW 5) (cst (.int 1))) (consA (getS 5) (consA (bin addD (getW 5) (cst (.int 1))) (nilA))))))) (andT (asB (bin eqD (getW 8) (cst (.str [101])))) (asB (bin gtD (getW 12) (getW 5))))) (retS (cst (.bl false))) (nopS)))))
def b_law_k51_L3 : Env → Option Out := forS [8] (seqI (cst (.str [108, 115, 101]))) (toS 8) b_law_k51_L2
def b_law_k51 : Env → Option Out := seqS (asgS 1 (callN 1 G__law_tongue (consA (callN 2 G__law_mixed (consA (getS 0) (consA (cst (.int 0)) (nilA)))) (nilA)))) (seqS (asgS 2 (callN 3 G__law_measure (consA (getS 1) (consA (callN 2 G__law_mixed (consA (getS 0) (consA (cst (.int 1)) (nilA)))) (consA (cst (.int 3)) (nilA)))))) (seqS (asgS 3 (callN 3 G__law_line (consA (getS 1) (consA (getS 2) (consA (callN 2 G__law_mixed (consA (getS 0) (consA (cst (.int 2)) (nilA)))) (nilA)))))) (seqS (asgS 4 (callN 1 G_freed (consA (getS 2) (nilA)))) (seqS (asgS 5 (callN 3 G_changes (consA (getS 1) (consA (getS 2) (consA (getS 3) (nilA)))))) (seqS (asgS 6 (callN 3 G_mended (consA (getS 1) (consA (getS 2) (consA (getS 3) (nilA)))))) (seqS (ifS (orT (asB (bin isD (getW 5) (cst .non))) (asB (bin isD (getW 6) (cst .non)))) (retS (andV (bin isD (getW 5) (cst .non)) (andV (bin isD (getW 6) (cst .non)) (bin isD (callN 3 G_fits (consA (getS 1) (consA (getS 4) (consA (getS 3) (nilA))))) (cst (.bl false)))))) (nopS)) (seqS (ifS (orT (asB (bin isntD (callN 3 G_fits (consA (getS 1) (consA (getS 4) (consA (getS 6) (nilA))))) (cst (.bl true)))) (asB (bin neD (callN 3 G_changes (consA (getS 1) (consA (getS 2) (consA (getS 6) (nilA))))) (cst (.int 0))))) (retS (cst (.bl false))) (nopS)) (seqS (ifS (orT (asB (bin neD (bin eqD (getW 5) (cst (.int 0))) (callN 3 G_fits (consA (getS 1) (consA (getS 4) (consA (getS 3) (nilA))))))) (asB (bin neD (callN 3 G_changes (consA (getS 1) (consA (getS 4) (consA (getS 3) (nilA))))) (getW 5)))) (retS (cst (.bl false))) (nopS)) (seqS (ifS (andT (asB (bin eqD (getW 5) (cst (.int 0)))) (andT (asB (bin ninX (cst (.str [101])) (methE "str" joinD (cst (.str [])) (consA (getW 3) (nilA))))) (asB (bin neD (getW 6) (getW 3))))) (retS (cst (.bl false))) (nopS)) (seqS (forS [7] (rng1 (consA (callE lenD (consA (methE "str" joinD (cst (.str [])) (consA (getW 3) (nilA))) (nilA))) (nilA))) (toS 7) b_law_k51_L3) (retS (bin leD (callN 3 G_changes (consA (getS 1) (consA (callN 2 G_with_loose (consA (getS 2) (consA (cst (.bl true)) (nilA)))) (consA (getS 3) (nilA))))) (callN 3 G_changes (consA (getS 1) (consA (callN 2 G_with_loose (consA (getS 2) (consA (cst (.bl false)) (nilA)))) (consA (getS 3) (nilA)))))))))))))))))
def G_law_k51 : List D → Option D := runF 13 b_law_k51

-- break_places (k60)
def b_break_places_c1 : Env → Option D := callE lenD (consA (getW 6) (nilA))
def b_break_places_L2 : Env → Option Out := seqS (ifS (asB (bin ltD (callE lenD (consA (bin ixD (bin ixD (getW 1) (getW 3)) (cst (.int 1))) (nilA))) (getW 4))) (retS (cst .non)) (nopS)) (appS 2 (bin addD (callE sumD (consA (lcE [5, 6] (seqI (slcE slD (getW 1) ((fun _ => some none)) (partE (getW 3)))) (toTup 2 (toCons (toS 5) (toCons (toS 6) (toNil)))) (fun _ => some true) b_break_places_c1) (nilA))) (getW 4)))
def b_break_places : Env → Option Out := seqS (ownS 2 (lstX (nilA))) (seqS (forS [3, 4] (seqI (bin ixD (getW 0) (cst (.int 1)))) (toTup 2 (toCons (toS 3) (toCons (toS 4) (toNil)))) b_break_places_L2) ((fun ρ => (retS (getS 2)) (relL [2] ρ))))
def G_break_places : List D → Option D := runF 7 b_break_places

-- stands_at (k60)
def b_stands_at_c1 : Env → Option D := chn ltD ltD (getW 3) (getW 4) (bin addD (getW 3) (callE lenD (consA (getW 2) (nilA))))
def b_stands_at : Env → Option Out := seqS (ifS (orT (asB (bin gtD (bin addD (getW 3) (callE lenD (consA (getW 2) (nilA)))) (callE lenD (consA (getW 0) (nilA))))) (notT (asB (callN 2 G_agree (consA (getS 2) (consA (slcE slD (getW 0) (partE (getW 3)) ((fun _ => some none))) (nilA))))))) (retS (cst (.bl false))) (nopS)) (retS (notV (callE anyD (consA (lcE [4] (seqI (getW 1)) (toS 4) (fun _ => some true) b_stands_at_c1) (nilA)))))
def G_stands_at : List D → Option D := runF 5 b_stands_at

-- lines_by (k60)
def b_lines_by_c1 : Env → Option D := tupE (consA (getS 5) (consA (getS 4) (nilA)))
def b_lines_by_L2 : Env → Option Out := seqS (asgS 4 (callN 2 G_break_places (consA (getS 1) (consA (getS 3) (nilA))))) (ifS (asB (bin isntD (getW 4) (cst .non))) (extS 2 (lcE [5] (seqI (callN 2 G_loosened (consA (callN 1 G_shape_of (consA (getS 3) (nilA))) (consA (bin ixD (getW 1) (cst (.int 2))) (nilA))))) (toS 5) (fun _ => some true) b_lines_by_c1)) (nopS))
def b_lines_by : Env → Option Out := seqS (ownS 2 (lstX (nilA))) (seqS (forS [3] (seqI (callN 2 G_all_rows (consA (getS 0) (consA (getS 1) (nilA))))) (toS 3) b_lines_by_L2) ((fun ρ => (retS (getS 2)) (relL [2] ρ))))
def G_lines_by : List D → Option D := runF 6 b_lines_by

-- stands (k60)
def b_stands_L1 : Env → Option Out := ifS (asB (callN 4 G_stands_at (consA (getS 4) (consA (getS 5) (consA (getS 2) (consA (getS 6) (nilA))))))) (setKS 3 (getS 6) (cst (.bl true))) (nopS)
def b_stands_L2 : Env → Option Out := forS [6] (rng1 (consA (callE lenD (consA (getW 4) (nilA))) (nilA))) (toS 6) b_stands_L1
def b_stands : Env → Option Out := seqS (newKS 3) (seqS (forS [4, 5] (seqI (callN 2 G_lines_by (consA (getS 0) (consA (getS 1) (nilA))))) (toTup 2 (toCons (toS 4) (toCons (toS 5) (toNil)))) b_stands_L2) (retS (callE tupleX (consA (callE sortedD (consA (getW 3) (nilA))) (nilA)))))
def G_stands : List D → Option D := runF 7 b_stands

-- line_with (k60)
def b_line_with_L1 : Env → Option Out := ifS (asB (callN 4 G_stands_at (consA (getS 5) (consA (getS 6) (consA (getS 2) (consA (getS 3) (nilA))))))) (appS 4 (callE tupleX (consA (bin addD (bin addD (callE listX (consA (slcE slD (getW 5) ((fun _ => some none)) (partE (getW 3))) (nilA))) (lstE (consA (getS 2) (nilA)))) (callE listX (consA (slcE slD (getW 5) (partE (bin addD (getW 3) (callE lenD (consA (getW 2) (nilA))))) ((fun _ => some none))) (nilA)))) (nilA)))) (nopS)
def b_line_with : Env → Option Out := seqS (ownS 4 (lstX (nilA))) (seqS (forS [5, 6] (seqI (callN 2 G_lines_by (consA (getS 0) (consA (getS 1) (nilA))))) (toTup 2 (toCons (toS 5) (toCons (toS 6) (toNil)))) b_line_with_L1) (seqS (ifS (orT (asB (bin ltD (getW 3) (cst (.int 0)))) (asB (bin eqD (callE lenD (consA (getW 4) (nilA))) (cst (.int 0))))) ((fun _ => none)) (nopS)) (retS (callE min1D (consA (getW 4) (nilA))))))
def G_line_with : List D → Option D := runF 7 b_line_with

-- never (k60)
def b_never_c1 : Env → Option D := bin eqD (callE lenD (consA (callN 3 G_stands (consA (getS 0) (consA (getS 5) (consA (getS 4) (nilA))))) (nilA))) (cst (.int 0))
def b_never_L2 : Env → Option Out := ifS (asB (callE allD (consA (lcE [5] (seqI (getW 1)) (toS 5) (fun _ => some true) b_never_c1) (nilA)))) (appS 3 (getS 4)) (nopS)
def b_never : Env → Option Out := seqS (ownS 3 (lstX (nilA))) (seqS (forS [4] (seqI (getS 2)) (toS 4) b_never_L2) (retS (callE tupleX (consA (getW 3) (nilA)))))
def G_never : List D → Option D := runF 6 b_never

-- _law_stops (k60)
def b__law_stops_L1 : Env → Option Out := seqS (ifS (asB (bin ltD (callE lenD (consA (bin ixD (bin ixD (getW 1) (getW 3)) (cst (.int 1))) (nilA))) (getW 4))) (retS (cst .non)) (nopS)) (appS 2 (bin addD (callE lenD (consA (callN 1 G__law_shape (consA (slcE slD (getW 1) ((fun _ => some none)) (partE (getW 3))) (nilA))) (nilA))) (getW 4)))
def b__law_stops : Env → Option Out := seqS (ownS 2 (lstX (nilA))) (seqS (forS [3, 4] (seqI (bin ixD (getW 0) (cst (.int 1)))) (toTup 2 (toCons (toS 3) (toCons (toS 4) (toNil)))) b__law_stops_L1) ((fun ρ => (retS (getS 2)) (relL [2] ρ))))
def G__law_stops : List D → Option D := runF 5 b__law_stops

-- _law_laid_out (k60)
def b__law_laid_out_L1 : Env → Option Out := seqS (asgS 4 (callN 2 G__law_stops (consA (getS 1) (consA (getS 3) (nilA))))) (seqS (asgS 5 (callN 1 G__law_shape (consA (getS 3) (nilA)))) (ifS (asB (bin isntD (getW 4) (cst .non))) (seqS (appS 2 (tupE (consA (getS 5) (consA (getS 4) (nilA))))) (ifS (andT (asB (bin ixD (getW 1) (cst (.int 2)))) (asB (bin neD (getW 5) (cst (.str []))))) (appS 2 (tupE (consA (bin addD (slcE slD (getW 5) ((fun _ => some none)) (partE (neg (cst (.int 1))))) (bin ixD (cst (.str [108, 115])) (callE intD (consA (bin eqD (bin ixD (getW 5) (neg (cst (.int 1)))) (cst (.str [108]))) (nilA))))) (consA (getS 4) (nilA))))) (nopS))) (nopS)))
def b__law_laid_out : Env → Option Out := seqS (ownS 2 (lstX (nilA))) (seqS (forS [3] (seqI (callN 2 G__law_rows (consA (getS 0) (consA (getS 1) (nilA))))) (toS 3) b__law_laid_out_L1) ((fun ρ => (retS (getS 2)) (relL [2] ρ))))
def G__law_laid_out : List D → Option D := runF 6 b__law_laid_out

-- _law_may_stand (k60)
def b__law_may_stand_c1 : Env → Option D := getS 4
def b__law_may_stand_c2 : Env → Option D := getS 5
def b__law_may_stand : Env → Option Out := seqS (ifS (orT (asB (bin ltD (getW 3) (cst (.int 0)))) (asB (bin gtD (bin addD (getW 3) (callE lenD (consA (getW 2) (nilA)))) (callE lenD (consA (getW 0) (nilA)))))) (retS (cst (.bl false))) (nopS)) (seqS (ifS (asB (bin neD (lcE [4] (rng1 (consA (callE lenD (consA (getW 2) (nilA))) (nilA))) (toS 4) (asB (bin ninX (bin ixD (getW 2) (getW 4)) (tupE (consA (bin ixD (getW 0) (bin addD (getW 3) (getW 4))) (consA (cst (.str [101])) (nilA)))))) b__law_may_stand_c1) (lstE (nilA)))) (retS (cst (.bl false))) (nopS)) (retS (bin eqD (lcE [5] (seqI (getW 1)) (toS 5) (andT (asB (bin ltD (getW 3) (getW 5))) (asB (bin ltD (getW 5) (bin addD (getW 3) (callE lenD (consA (getW 2) (nilA))))))) b__law_may_stand_c2) (lstE (nilA)))))
def G__law_may_stand : List D → Option D := runF 6 b__law_may_stand

-- _law_word (k60)
def b__law_word_c1 : Env → Option D := bin ixD (cst (.str [108, 115, 101])) (bin modD (bin fdivD (callN 2 G__law_drawn (consA (getS 0) (consA (getS 1) (nilA)))) (cst (.int 4))) (cst (.int 3)))
def b__law_word : Env → Option Out := retS (methE "str" joinD (cst (.str [])) (consA (lcE [1] (rng1 (consA (bin addD (cst (.int 1)) (bin modD (getW 0) (cst (.int 4)))) (nilA))) (toS 1) (fun _ => some true) b__law_word_c1) (nilA)))
def G__law_word : List D → Option D := runF 2 b__law_word

-- law (k61)
def b_law_k61_L1 : Env → Option Out := seqS (asgS 6 (callN 4 G_line_with (consA (getS 1) (consA (getS 2) (consA (getS 3) (consA (getS 5) (nilA))))))) (ifS (orT (asB (bin isntD (callN 3 G_fits (consA (getS 1) (consA (getS 2) (consA (getS 6) (nilA))))) (cst (.bl true)))) (orT (asB (bin neD (bin ixD (getW 6) (getW 5)) (getW 3))) (asB (bin neD (callE lenD (consA (methE "str" joinD (cst (.str [])) (consA (slcE slD (getW 6) ((fun _ => some none)) (partE (getW 5))) (nilA))) (nilA))) (getW 5))))) (retS (cst (.bl false))) (nopS))
def b_law_k61_c2 : Env → Option D := getS 5
def b_law_k61_L3 : Env → Option Out := asgS 8 (bin addD (getW 8) (callE listX (consA (callN 3 G_stands (consA (getS 1) (consA (getS 2) (consA (bin addD (bin addD (slcE slD (getW 3) ((fun _ => some none)) (partE (getW 7))) (getW 9)) (slcE slD (getW 3) (partE (bin addD (getW 7) (cst (.int 1)))) ((fun _ => some none)))) (nilA))))) (nilA))))
def b_law_k61_L4 : Env → Option Out := ifS (asB (bin ninX (bin subD (getW 11) (callE lenD (consA (getW 10) (nilA)))) (callN 3 G_stands (consA (getS 1) (consA (getS 2) (consA (getS 10) (nilA))))))) (retS (cst (.bl false))) (nopS)
def b_law_k61 : Env → Option Out := seqS (asgS 1 (callN 1 G__law_tongue (consA (callN 2 G__law_mixed (consA (getS 0) (consA (cst (.int 0)) (nilA)))) (nilA)))) (seqS (asgS 2 (callN 3 G__law_measure (consA (getS 1) (consA (callN 2 G__law_mixed (consA (getS 0) (consA (cst (.int 1)) (nilA)))) (consA (cst (.int 3)) (nilA)))))) (seqS (asgS 3 (callN 1 G__law_word (consA (callN 2 G__law_mixed (consA (getS 0) (consA (cst (.int 2)) (nilA)))) (nilA)))) (seqS (asgS 4 (callN 3 G_stands (consA (getS 1) (consA (getS 2) (consA (getS 3) (nilA)))))) (seqS (forS [5] (seqI (getS 4)) (toS 5) b_law_k61_L1) (seqS (ifS (asB (bin neD (bin eqD (callN 3 G_never (consA (getS 1) (consA (tupE (consA (getS 2) (nilA))) (consA (tupE (consA (getS 3) (nilA))) (nilA))))) (tupE (consA (getS 3) (nilA)))) (bin eqD (getW 4) (tupE (nilA))))) (retS (cst (.bl false))) (nopS)) (seqS (ifS (asB (bin neD (lcE [5] (seqI (getW 4)) (toS 5) (asB (bin ninX (getW 5) (callN 3 G_stands (consA (getS 1) (consA (getS 2) (consA (slcE slD (getW 3) ((fun _ => some none)) (partE (bin addD (cst (.int 1)) (bin modD (callN 2 G__law_mixed (consA (getS 0) (consA (cst (.int 3)) (nilA)))) (callE lenD (consA (getW 3) (nilA))))))) (nilA))))))) b_law_k61_c2) (lstE (nilA)))) (retS (cst (.bl false))) (nopS)) (seqS (asgS 7 (bin modD (callN 2 G__law_mixed (consA (getS 0) (consA (cst (.int 4)) (nilA)))) (callE lenD (consA (getW 3) (nilA))))) (seqS (asgS 8 (lstE (nilA))) (seqS (forS [9] (seqI (cst (.str [108, 115]))) (toS 9) b_law_k61_L3) (seqS (ifS (asB (bin neD (callE tupleX (consA (mapE ssetD (getW 8)) (nilA))) (callN 3 G_stands (consA (getS 1) (consA (getS 2) (consA (bin addD (bin addD (slcE slD (getW 3) ((fun _ => some none)) (partE (getW 7))) (cst (.str [101]))) (slcE slD (getW 3) (partE (bin addD (getW 7) (cst (.int 1)))) ((fun _ => some none)))) (nilA))))))) (retS (cst (.bl false))) (nopS)) (seqS (asgS 6 (callN 3 G__law_line (consA (getS 1) (consA (getS 2) (consA (callN 2 G__law_mixed (consA (getS 0) (consA (cst (.int 5)) (nilA)))) (nilA)))))) (seqS (ifS (asB (callN 3 G_fits (consA (getS 1) (consA (getS 2) (consA (getS 6) (nilA)))))) (forS [10, 11] (zipI (getS 6) (callN 1 G_ends (consA (getS 6) (nilA)))) (toTup 2 (toCons (toS 10) (toCons (toS 11) (toNil)))) b_law_k61_L4) (nopS)) (retS (cst (.bl true)))))))))))))))
def G_law_k61 : List D → Option D := runF 12 b_law_k61

-- law (k62)
def b_law_k62_c1 : Env → Option D := callE lenD (consA (getW 14) (nilA))
def b_law_k62_c2 : Env → Option D := getS 15
def b_law_k62_c3 : Env → Option D := getS 15
def b_law_k62_L4 : Env → Option Out := ifS (asB (bin neD (lcE [15] (seqI (getW 9)) (toS 15) (asB (bin ninX (bin addD (getW 15) (getW 11)) (getW 8))) b_law_k62_c3) (lstE (nilA)))) (retS (cst (.bl false))) (nopS)
def b_law_k62_L5 : Env → Option Out := seqS (asgS 7 (callN 1 G__law_word (consA (callN 2 G__law_mixed (consA (getS 0) (consA (bin addD (cst (.int 3)) (getW 6)) (nilA)))) (nilA)))) (seqS (asgS 8 (callN 3 G_stands (consA (getS 1) (consA (getS 4) (consA (getS 7) (nilA)))))) (seqS (asgS 9 (callN 3 G_stands (consA (getS 1) (consA (getS 3) (consA (getS 7) (nilA)))))) (seqS (asgS 10 (callN 3 G_stands (consA (getS 1) (consA (getS 2) (consA (getS 7) (nilA)))))) (seqS (ifS (andT (asB (bin eqD (bin ixD (getW 3) (cst (.int 1))) (tupE (nilA)))) (asB (bin neD (lcE [15] (seqI (getW 10)) (toS 15) (asB (bin ninX (getW 15) (getW 8))) b_law_k62_c2) (lstE (nilA))))) (retS (cst (.bl false))) (nopS)) (seqS (forS [11] (seqI (getS 5)) (toS 11) b_law_k62_L4) (seqS (asgS 12 (bin eqD (callN 3 G_never (consA (getS 1) (consA (tupE (consA (getS 4) (nilA))) (consA (tupE (consA (getS 7) (nilA))) (nilA))))) (tupE (consA (getS 7) (nilA))))) (seqS (ifS (orT (asB (bin neD (getW 12) (bin eqD (getW 8) (tupE (nilA))))) (andT (asB (getS 12)) (asB (bin neD (getW 9) (tupE (nilA)))))) (retS (cst (.bl false))) (nopS)) (seqS (asgS 13 (andV (getS 12) (bin eqD (callN 3 G_stands (consA (getS 1) (consA (getS 2) (consA (getS 7) (nilA))))) (tupE (nilA))))) (ifS (asB (bin neD (callN 3 G_never (consA (getS 1) (consA (tupE (consA (getS 2) (consA (getS 3) (consA (getS 4) (nilA))))) (consA (tupE (consA (getS 7) (consA (getS 7) (nilA)))) (nilA))))) (bin mulX (tupE (consA (getS 7) (consA (getS 7) (nilA)))) (callE intD (consA (getW 13) (nilA)))))) (retS (cst (.bl false))) (nopS))))))))))
def b_law_k62 : Env → Option Out := seqS (asgS 1 (callN 1 G__law_tongue (consA (callN 2 G__law_mixed (consA (getS 0) (consA (cst (.int 0)) (nilA)))) (nilA)))) (seqS (asgS 2 (callN 2 G_with_loose (consA (callN 1 G_freed (consA (callN 3 G__law_measure (consA (getS 1) (consA (callN 2 G__law_mixed (consA (getS 0) (consA (cst (.int 1)) (nilA)))) (consA (cst (.int 2)) (nilA))))) (nilA))) (consA (cst (.bl false)) (nilA))))) (seqS (asgS 3 (callN 3 G__law_measure (consA (getS 1) (consA (callN 2 G__law_mixed (consA (getS 0) (consA (cst (.int 2)) (nilA)))) (consA (cst (.int 2)) (nilA)))))) (seqS (asgS 4 (callN 2 G_joined (consA (getS 2) (consA (getS 3) (nilA))))) (seqS (asgS 5 (mapE ssetD (lcE [14] (seqI (callN 2 G_shapes (consA (getS 1) (consA (getS 2) (nilA))))) (toS 14) (fun _ => some true) b_law_k62_c1))) (seqS (forS [6] (rng1 (consA (cst (.int 4)) (nilA))) (toS 6) b_law_k62_L5) (retS (cst (.bl true))))))))
def G_law_k62 : List D → Option D := runF 16 b_law_k62

-- which (k70)
def b_which_c1 : Env → Option D := getS 3
def b_which : Env → Option Out := retS (callE tupleX (consA (lcE [3, 4] (enumI (seqZ (getS 1))) (toTup 2 (toCons (toS 3) (toCons (toS 4) (toNil)))) (asB (callN 3 G_fits (consA (getS 0) (consA (getS 4) (consA (getS 2) (nilA)))))) b_which_c1) (nilA)))
def G_which : List D → Option D := runF 5 b_which

-- first_bad (k70)
def b_first_bad_L1 : Env → Option Out := ifS (notT (asB (callN 3 G_fits (consA (getS 0) (consA (bin ixD (getW 1) (bin ixD (getW 2) (bin modD (getW 4) (callE lenD (consA (getW 2) (nilA)))))) (consA (getS 5) (nilA))))))) (retS (getS 4)) (nopS)
def b_first_bad : Env → Option Out := seqS (forS [4, 5] (enumI (seqZ (getS 3))) (toTup 2 (toCons (toS 4) (toCons (toS 5) (toNil)))) b_first_bad_L1) (retS (cst .non))
def G_first_bad : List D → Option D := runF 6 b_first_bad

-- stanzas (k70)
def b_stanzas_c1 : Env → Option D := bin addD (getW 5) (tupE (consA (getS 6) (nilA)))
def b_stanzas_L2 : Env → Option Out := extS 4 (lcE [6] (rng1 (consA (getW 0) (nilA))) (toS 6) (fun _ => some true) b_stanzas_c1)
def b_stanzas_L3 : Env → Option Out := seqS (ownS 4 (lstX (nilA))) (seqS ((fun ρ => (forS [5] (seqI (getS 2)) (toS 5) b_stanzas_L2) (relL [2] ρ))) (mvS 2 4))
def b_stanzas : Env → Option Out := seqS (ownS 2 (lstX (consA (tupE (nilA)) (nilA)))) (seqS (forS [3] (rng1 (consA (getW 1) (nilA))) (toS 3) b_stanzas_L3) ((fun ρ => (retS (getS 2)) (relL [2] ρ))))
def G_stanzas : List D → Option D := runF 7 b_stanzas

-- least_stanza (k70)
def b_least_stanza_L1 : Env → Option Out := ifS (asB (bin isD (callN 4 G_first_bad (consA (getS 0) (consA (getS 1) (consA (getS 4) (consA (getS 2) (nilA)))))) (cst .non))) (retS (getS 4)) (nopS)
def b_least_stanza_L2 : Env → Option Out := forS [4] (seqI (callN 2 G_stanzas (consA (callE lenD (consA (getW 1) (nilA))) (consA (getS 3) (nilA))))) (toS 4) b_least_stanza_L1
def b_least_stanza : Env → Option Out := seqS (forS [3] (rng2 (consA (cst (.int 1)) (consA (bin addD (cst (.int 3)) (cst (.int 1))) (nilA)))) (toS 3) b_least_stanza_L2) ((fun _ => none))
def G_least_stanza : List D → Option D := runF 5 b_least_stanza

-- sorted_poem (k70)
def b_sorted_poem_c1 : Env → Option D := bin ixD (bin addD (callN 3 G_which (consA (getS 0) (consA (getS 1) (consA (getS 6) (nilA))))) (tupE (consA (callE lenD (consA (getW 1) (nilA))) (nilA)))) (cst (.int 0))
def b_sorted_poem_c2 : Env → Option D := getS 6
def b_sorted_poem_L3 : Env → Option Out := appS 4 (callE tupleX (consA (lcE [6, 7] (zipI (getS 2) (getS 3)) (toTup 2 (toCons (toS 6) (toCons (toS 7) (toNil)))) (asB (bin eqD (getW 7) (getW 5))) b_sorted_poem_c2) (nilA)))
def b_sorted_poem : Env → Option Out := seqS (asgS 3 (lcE [6] (seqI (getW 2)) (toS 6) (fun _ => some true) b_sorted_poem_c1)) (seqS (ownS 4 (lstX (nilA))) (seqS (forS [5] (rng1 (consA (bin addD (callE lenD (consA (getW 1) (nilA))) (cst (.int 1))) (nilA))) (toS 5) b_sorted_poem_L3) (retS (callE tupleX (consA (getW 4) (nilA))))))
def G_sorted_poem : List D → Option D := runF 8 b_sorted_poem

-- _law_bad (k70)
def b__law_bad_c1 : Env → Option D := getS 3
def b__law_bad : Env → Option Out := seqS (asgS 2 (lcE [3] (rng1 (consA (callE lenD (consA (getW 0) (nilA))) (nilA))) (toS 3) (asB (bin ninX (bin ixD (getW 1) (bin modD (getW 3) (callE lenD (consA (getW 1) (nilA))))) (bin ixD (getW 0) (getW 3)))) b__law_bad_c1)) (retS (bin ixD (bin addD (getW 2) (lstE (consA (cst .non) (nilA)))) (cst (.int 0))))
def G__law_bad : List D → Option D := runF 4 b__law_bad

-- _law_least (k71)
def b__law_least : Env → Option Out := seqS ((fun _ => none)) (retS (getS 3))
def G__law_least : List D → Option D := runF 4 b__law_least

-- _law_sorted_right (k71)
def b__law_sorted_right_L1 : Env → Option Out := asgS 5 (bin addD (getW 5) (getW 6))
def b__law_sorted_right_L2 : Env → Option Out := ifS (asB (bin neD (bin ixD (bin addD (callN 3 G_which (consA (getS 0) (consA (getS 1) (consA (getS 8) (nilA))))) (tupE (consA (getS 3) (nilA)))) (cst (.int 0))) (getW 7))) (retS (cst (.bl false))) (nopS)
def b__law_sorted_right_L3 : Env → Option Out := forS [8] (seqI (getS 6)) (toS 8) b__law_sorted_right_L2
def b__law_sorted_right_c4 : Env → Option D := getS 10
def b__law_sorted_right_L5 : Env → Option Out := seqS (asgS 9 (callE tupleX (consA (lcE [10] (rng1 (consA (getW 3) (nilA))) (toS 10) (asB (callN 3 G_fits (consA (getS 0) (consA (bin ixD (getW 1) (getW 10)) (consA (getS 8) (nilA)))))) b__law_sorted_right_c4) (nilA)))) (ifS (asB (bin neD (callN 3 G_which (consA (getS 0) (consA (getS 1) (consA (getS 8) (nilA))))) (getW 9))) (retS (cst (.bl false))) (nopS))
def b__law_sorted_right : Env → Option Out := seqS (asgS 3 (callE lenD (consA (getW 1) (nilA)))) (seqS (asgS 4 (callN 3 G_sorted_poem (consA (getS 0) (consA (getS 1) (consA (getS 2) (nilA)))))) (seqS (asgS 5 (tupE (nilA))) (seqS (forS [6] (seqI (getS 4)) (toS 6) b__law_sorted_right_L1) (seqS (ifS (orT (asB (bin neD (callE lenD (consA (getW 4) (nilA))) (bin addD (getW 3) (cst (.int 1))))) (asB (bin neD (callE sortedD (consA (getW 2) (nilA))) (callE sortedD (consA (getW 5) (nilA)))))) (retS (cst (.bl false))) (nopS)) (seqS (forS [7, 6] (enumI (seqZ (getS 4))) (toTup 2 (toCons (toS 7) (toCons (toS 6) (toNil)))) b__law_sorted_right_L3) (seqS (forS [8] (seqI (getS 2)) (toS 8) b__law_sorted_right_L5) (retS (cst (.bl true)))))))))
def G__law_sorted_right : List D → Option D := runF 11 b__law_sorted_right

-- law (k71)
def b_law_k71_c1 : Env → Option D := callN 3 G__law_measure (consA (getS 1) (consA (callN 2 G__law_mixed (consA (getS 0) (consA (bin addD (cst (.int 2)) (getW 15)) (nilA)))) (consA (cst (.int 2)) (nilA))))
def b_law_k71_c2 : Env → Option D := tupE (consA (bin ixD (getW 16) (cst (.int 0))) (consA (tupE (nilA)) (consA (bin ixD (getW 16) (cst (.int 2))) (nilA))))
def b_law_k71_c3 : Env → Option D := bin modD (bin fdivD (callN 2 G__law_drawn (consA (getS 4) (consA (getS 15) (nilA)))) (cst (.int 4))) (getW 2)
def b_law_k71_L4 : Env → Option Out := seqS (asgS 8 (callN 2 G_shapes (consA (getS 1) (consA (bin ixD (getW 3) (bin ixD (getW 5) (bin modD (getW 7) (callE lenD (consA (getW 5) (nilA)))))) (nilA))))) (seqS (asgS 9 (bin ixD (getW 8) (bin modD (bin fdivD (callN 2 G__law_drawn (consA (getS 4) (consA (bin addD (cst (.int 20)) (getW 7)) (nilA)))) (cst (.int 4))) (callE lenD (consA (getW 8) (nilA)))))) (asgS 6 (bin addD (getW 6) (tupE (consA (callE tupleX (consA (getW 9) (nilA))) (nilA))))))
def b_law_k71 : Env → Option Out := seqS (asgS 1 (callN 1 G__law_tongue (consA (callN 2 G__law_mixed (consA (getS 0) (consA (cst (.int 0)) (nilA)))) (nilA)))) (seqS (asgS 2 (bin addD (cst (.int 1)) (bin modD (callN 2 G__law_mixed (consA (getS 0) (consA (cst (.int 1)) (nilA)))) (cst (.int 3))))) (seqS (asgS 3 (callE tupleX (consA (lcE [15] (rng1 (consA (getW 2) (nilA))) (toS 15) (fun _ => some true) b_law_k71_c1) (nilA)))) (seqS (asgS 3 (callE tupleX (consA (lcE [16] (seqI (getW 3)) (toS 16) (fun _ => some true) b_law_k71_c2) (nilA)))) (seqS (asgS 4 (callN 2 G__law_mixed (consA (getS 0) (consA (cst (.int 5)) (nilA))))) (seqS (asgS 5 (callE tupleX (consA (lcE [15] (rng1 (consA (bin addD (cst (.int 1)) (bin modD (getW 4) (cst (.int 3)))) (nilA))) (toS 15) (fun _ => some true) b_law_k71_c3) (nilA)))) (seqS (asgS 6 (tupE (nilA))) (seqS (forS [7] (rng1 (consA (bin modD (bin fdivD (getW 4) (cst (.int 4))) (cst (.int 7))) (nilA))) (toS 7) b_law_k71_L4) (seqS (ifS (asB (bin isntD (callN 4 G_first_bad (consA (getS 1) (consA (getS 3) (consA (getS 5) (consA (getS 6) (nilA)))))) (cst .non))) (retS (cst (.bl false))) (nopS)) (seqS (asgS 10 (callN 3 G__law_least (consA (getS 1) (consA (getS 3) (consA (getS 6) (nilA)))))) (seqS (ifS (orT (asB (bin isD (getW 10) (cst .non))) (orT (asB (bin gtD (callE lenD (consA (getW 10) (nilA))) (callE lenD (consA (getW 5) (nilA))))) (asB (bin isntD (callN 4 G_first_bad (consA (getS 1) (consA (getS 3) (consA (getS 10) (consA (getS 6) (nilA)))))) (cst .non))))) (retS (cst (.bl false))) (nopS)) (seqS (ifS (andT (asB (bin eqD (callE lenD (consA (getW 10) (nilA))) (cst (.int 1)))) (asB (bin isntD (callN 4 G_first_bad (consA (getS 1) (consA (getS 3) (consA (bin mulX (getW 10) (cst (.int 3))) (consA (getS 6) (nilA)))))) (cst .non)))) (retS (cst (.bl false))) (nopS)) (seqS (ifS (asB (bin neD (getW 6) (tupE (nilA)))) (seqS (asgS 7 (bin modD (callN 2 G__law_mixed (consA (getS 0) (consA (cst (.int 6)) (nilA)))) (callE lenD (consA (getW 6) (nilA))))) (seqS (asgS 11 (callN 3 G__law_line (consA (getS 1) (consA (bin ixD (getW 3) (cst (.int 0))) (consA (callN 2 G__law_mixed (consA (getS 0) (consA (cst (.int 7)) (nilA)))) (nilA)))))) (seqS (asgS 12 (bin addD (bin addD (slcE slD (getW 6) ((fun _ => some none)) (partE (getW 7))) (tupE (consA (getS 11) (nilA)))) (slcE slD (getW 6) (partE (bin addD (getW 7) (cst (.int 1)))) ((fun _ => some none))))) (seqS (asgS 13 (callN 4 G_first_bad (consA (getS 1) (consA (getS 3) (consA (getS 5) (consA (getS 12) (nilA))))))) (seqS (asgS 14 (callN 3 G_fits (consA (getS 1) (consA (bin ixD (getW 3) (bin ixD (getW 5) (bin modD (getW 7) (callE lenD (consA (getW 5) (nilA)))))) (consA (bin ixD (getW 12) (getW 7)) (nilA)))))) (seqS (ifS (orT (asB (bin ninX (getW 13) (tupE (consA (cst .non) (consA (getS 7) (nilA)))))) (asB (bin neD (bin isD (getW 13) (cst .non)) (getW 14)))) (retS (cst (.bl false))) (nopS)) (asgS 6 (getS 12)))))))) (nopS)) (retS (callN 3 G__law_sorted_right (consA (getS 1) (consA (getS 3) (consA (getS 6) (nilA))))))))))))))))))
def G_law_k71 : List D → Option D := runF 17 b_law_k71

-- _law_rests (k80)
def b__law_rests_c1 : Env → Option D := getS 8
def b__law_rests_c2 : Env → Option D := getS 9
def b__law_rests_L3 : Env → Option Out := seqS (asgS 7 (lcE [8] (seqI (getW 6)) (toS 8) (andT (asB (bin leD (getW 8) (callE lenD (consA (getW 3) (nilA))))) (asB (bin ninX (getW 8) (callN 1 G__law_ends (consA (getS 2) (nilA)))))) b__law_rests_c1)) (ifS (andT (asB (bin geD (callE lenD (consA (getW 5) (nilA))) (callE lenD (consA (getW 3) (nilA))))) (asB (bin eqD (getW 7) (lstE (nilA))))) (ifS (asB (bin eqD (lcE [9] (rng1 (consA (callE lenD (consA (getW 3) (nilA))) (nilA))) (toS 9) (asB (bin ninX (bin ixD (getW 3) (getW 9)) (tupE (consA (bin ixD (getW 5) (getW 9)) (consA (cst (.str [101])) (nilA)))))) b__law_rests_c2) (lstE (nilA)))) (setKS 4 (slcE slD (getW 5) (partE (callE lenD (consA (getW 3) (nilA)))) ((fun _ => some none))) (cst (.bl true))) (nopS)) (nopS))
def b__law_rests : Env → Option Out := seqS (asgS 3 (methE "str" joinD (cst (.str [])) (consA (getW 2) (nilA)))) (seqS (newKS 4) (seqS (forS [5, 6] (seqI (callN 2 G__law_laid_out (consA (getS 0) (consA (getS 1) (nilA))))) (toTup 2 (toCons (toS 5) (toCons (toS 6) (toNil)))) b__law_rests_L3) (retS (callE sortedD (consA (getW 4) (nilA))))))
def G__law_rests : List D → Option D := runF 10 b__law_rests

-- _law_twice_told (k98)
def b__law_twice_told : Env → Option Out := seqS ((fun _ => none)) (retS (getS 1))
def G__law_twice_told : List D → Option D := runF 2 b__law_twice_told

end Fo
end
-- FoM0.lean
set_option Elab.async false
set_option linter.all false
set_option maxRecDepth 100000
set_option maxHeartbeats 2000000
noncomputable section
namespace Fo
open PySem L2

/-! ### evaluation by simp -/
section
variable {ρ : Env} {f f1 f2 f3 : Env → Option D} {fs : Env → Option (List D)} {g : D → D → Option D}
@[simp] theorem ev_bin : bin g f1 f2 ρ = (f1 ρ).bind fun x => (f2 ρ).bind fun y => g x y := by unfold bin; cases f1 ρ <;> simp; cases f2 ρ <;> simp
@[simp] theorem ev_cst {d : D} : cst d ρ = some d := rfl
@[simp] theorem ev_nilA : nilA ρ = some [] := rfl
@[simp] theorem ev_consA : consA f fs ρ = (f ρ).bind fun x => (fs ρ).bind fun xs => some (x :: xs) := by unfold consA; cases f ρ <;> simp; cases fs ρ <;> simp
@[simp] theorem ev_asB : asB f ρ = (f ρ).bind fun x => match x with | .bl b => some b | _ => none := by
  unfold asB
  cases f ρ with
  | none => rfl
  | some x => cases x <;> rfl
@[simp] theorem ev_tupE : tupE fs ρ = (fs ρ).bind fun xs => guardL xs.length (.tup xs) := by unfold tupE; cases fs ρ <;> rfl
@[simp] theorem ev_lstE : lstE fs ρ = (fs ρ).bind fun xs => guardL xs.length (.lst xs) := by unfold lstE; cases fs ρ <;> rfl
@[simp] theorem ev_callE {h : List D → Option D} : callE h fs ρ = (fs ρ).bind h := by unfold callE; cases fs ρ <;> rfl
@[simp] theorem ev_callN {n : Nat} {h : List D → Option D} : callN n h fs ρ = (fs ρ).bind fun xs => if xs.length = n then h xs else none := by unfold callN; cases fs ρ <;> rfl
@[simp] theorem ev_mapE {h : D → Option D} : mapE h f ρ = (f ρ).bind h := by unfold mapE; cases f ρ <;> rfl
@[simp] theorem ev_methE {T : String} {h : D → List D → Option D} : methE T h f fs ρ = (f ρ).bind fun x => if tyD T x = true then (fs ρ).bind fun xs => h x xs else none := by
  unfold methE
  cases f ρ with
  | none => rfl
  | some x =>
    simp only [Option.bind_some]
    split
    · cases fs ρ <;> rfl
    · rfl
@[simp] theorem ev_slcE {h : D → Option Int → Option Int → Option D} {l u : Env → Option (Option Int)} : slcE h f l u ρ = (f ρ).bind fun x => (l ρ).bind fun lo => (u ρ).bind fun hi => h x lo hi := by
  unfold slcE
  cases f ρ <;> simp
  cases l ρ <;> simp
  cases u ρ <;> simp
@[simp] theorem ev_partE : partE f ρ = (f ρ).bind fun x => match x with | .int i => some (some i) | _ => none := by
  unfold partE
  cases f ρ with
  | none => rfl
  | some x => cases x <;> rfl
@[simp] theorem ev_neg : neg f ρ = (f ρ).bind fun x => match x with | .int i => some (.int (-i)) | _ => none := by
  unfold neg
  cases f ρ with
  | none => rfl
  | some x => cases x <;> rfl
@[simp] theorem ev_seqI : seqI f ρ = (f ρ).bind itemsD := by unfold seqI; cases f ρ <;> rfl
@[simp] theorem ev_ifE {p : Env → Option Bool} : ifE p f1 f2 ρ = (p ρ).bind fun b => if b = true then f1 ρ else f2 ρ := by
  unfold ifE
  cases p ρ with
  | none => rfl
  | some b => cases b <;> rfl
@[simp] theorem ev_andT {p q : Env → Option Bool} : andT p q ρ = (p ρ).bind fun b => if b = true then q ρ else some false := by
  unfold andT
  cases p ρ with
  | none => rfl
  | some b => cases b <;> rfl
@[simp] theorem ev_orT {p q : Env → Option Bool} : orT p q ρ = (p ρ).bind fun b => if b = true then some true else q ρ := by
  unfold orT
  cases p ρ with
  | none => rfl
  | some b => cases b <;> rfl
@[simp] theorem ev_notT {p : Env → Option Bool} : notT p ρ = (p ρ).map (!·) := rfl
@[simp] theorem ev_andV : andV f1 f2 ρ = (f1 ρ).bind fun x => match x with | .bl true => f2 ρ | .bl false => some (.bl false) | _ => none := by
  unfold andV
  cases f1 ρ with
  | none => rfl
  | some x => cases x <;> first | rfl | (rename_i b; cases b <;> rfl)
@[simp] theorem ev_orV : orV f1 f2 ρ = (f1 ρ).bind fun x => match x with | .bl true => some (.bl true) | .bl false => f2 ρ | _ => none := by
  unfold orV
  cases f1 ρ with
  | none => rfl
  | some x => cases x <;> first | rfl | (rename_i b; cases b <;> rfl)
@[simp] theorem ev_notV : notV f ρ = (f ρ).bind fun x => match x with | .bl b => some (.bl (!b)) | _ => none := by
  unfold notV
  cases f ρ with
  | none => rfl
  | some x => cases x <;> rfl
@[simp] theorem ev_toS {i : Nat} {d : D} : toS i d ρ = some (ρ.set i (some (.d d))) := rfl
@[simp] theorem ev_toNil : toNil [] ρ = some ρ := rfl
@[simp] theorem ev_toCons {G : D → Env → Option Env} {Gs : List D → Env → Option Env} {d : D} {ds : List D} : toCons G Gs (d :: ds) ρ = (G d ρ).bind (Gs ds) := by
  unfold toCons
  simp only
  cases G d ρ <;> rfl
@[simp] theorem ev_toTup {n : Nat} {Gs : List D → Env → Option Env} {ds : List D} : toTup n Gs (.tup ds) ρ = if ds.length = n then Gs ds ρ else none := Eq.trans rfl rfl
/-! statements -/
variable {s t : Env → Option Out} {i j : Nat} {p : Env → Option Bool}
@[simp] theorem ev_nop : nopS ρ = some (.nx ρ) := rfl
@[simp] theorem ev_asg : asgS i f ρ = (f ρ).bind fun d => some (.nx (ρ.set i (some (.d d)))) := by unfold asgS; cases f ρ <;> rfl
@[simp] theorem ev_own : ownS i fs ρ = (fs ρ).bind fun ds => some (.nx (ρ.set i (some (.l ds)))) := by unfold ownS; cases fs ρ <;> rfl
@[simp] theorem ev_ret : retS f ρ = (f ρ).bind fun d => some (.rt d) := by unfold retS; cases f ρ <;> rfl
@[simp] theorem ev_if : ifS p s t ρ = (p ρ).bind fun b => if b = true then s ρ else t ρ := by
  unfold ifS
  cases p ρ with
  | none => rfl
  | some b => cases b <;> rfl
@[simp] theorem ev_newK : newKS i ρ = some (.nx (ρ.set i (some (.k [])))) := rfl
@[simp] theorem ev_lstX : lstX fs ρ = (fs ρ).bind fun xs => if xs.length ≤ LIM then some xs else none := by unfold lstX; cases fs ρ <;> rfl
@[simp] theorem ev_tgt {G : D → Env → Option Env} : tgtS f G ρ = (f ρ).bind fun d => (G d ρ).bind fun ρ' => some (.nx ρ') := by
  unfold tgtS
  cases f ρ with
  | none => rfl
  | some d => simp only [Option.bind_some]; cases G d ρ <;> rfl
theorem seq_nx {ρ' : Env} (h : s ρ = some (.nx ρ')) : seqS s t ρ = t ρ' := by unfold seqS; rw [h]
theorem seq_rt {d : D} (h : s ρ = some (.rt d)) : seqS s t ρ = some (.rt d) := by unfold seqS; rw [h]
end
/-- the first statement's outcome, then the rest -/
def thenS (o : Option Out) (t : Env → Option Out) : Option Out := match o with
  | some (.nx ρ) => t ρ
  | o => o
@[simp] theorem ev_seq {s t : Env → Option Out} {ρ : Env} : seqS s t ρ = thenS (s ρ) t := rfl
@[simp] theorem then_nx {ρ : Env} {t : Env → Option Out} : thenS (some (.nx ρ)) t = t ρ := rfl
@[simp] theorem then_rt {d : D} {t : Env → Option Out} : thenS (some (.rt d)) t = some (.rt d) := rfl
theorem then_ite {c : Prop} [Decidable c] {a b : Option Out} {t : Env → Option Out} : thenS (if c then a else b) t = if c then thenS a t else thenS b t := by split <;> rfl
@[simp] theorem ev_for {is : List Nat} {gi : Env → Option (List D)} {G : D → Env → Option Env} {fb : Env → Option Out} {ρ : Env} : forS is gi G fb ρ = (gi ρ).bind fun ds => (loopL G fb ds ρ).map (Out.drop is) := by unfold forS; cases gi ρ <;> rfl
@[simp] theorem ev_lcX {vs : List Nat} {gi : Env → Option (List D)} {G : D → Env → Option Env} {p : Env → Option Bool} {f : Env → Option D} {ρ : Env} : lcX vs gi G p f ρ = (gi ρ).bind fun ds => (lcL (wipeE vs ρ) G p f ds).bind fun ys => if ys.length ≤ LIM then some ys else none := by
  unfold lcX
  cases gi ρ with
  | none => rfl
  | some ds => simp only [Option.bind_some]; cases lcL (wipeE vs ρ) G p f ds <;> rfl
@[simp] theorem ev_lcE {vs : List Nat} {gi : Env → Option (List D)} {G : D → Env → Option Env} {p : Env → Option Bool} {f : Env → Option D} {ρ : Env} : lcE vs gi G p f ρ = (lcX vs gi G p f ρ).map .lst := rfl
def rg1 : List D → Option (List D)
  | [.int j] => if -BIG ≤ j ∧ j < BIG then some (rng 0 j.toNat) else none
  | _ => none
def rg2 : List D → Option (List D)
  | [.int i, .int j] => if (-BIG ≤ i ∧ i < BIG) ∧ (-BIG ≤ j ∧ j < BIG) then some (rng i (j - i).toNat) else none
  | _ => none
@[simp] theorem ev_rng1 {fs : Env → Option (List D)} {ρ : Env} : rng1 fs ρ = (fs ρ).bind rg1 := by
  unfold rng1
  cases fs ρ with
  | none => rfl
  | some xs =>
    show _ = rg1 xs
    rcases xs with _ | ⟨x, _ | ⟨y, _ | ⟨z, zs⟩⟩⟩ <;> first | rfl | (cases x <;> first | rfl | (cases y <;> rfl))
@[simp] theorem ev_rng2 {fs : Env → Option (List D)} {ρ : Env} : rng2 fs ρ = (fs ρ).bind rg2 := by
  unfold rng2
  cases fs ρ with
  | none => rfl
  | some xs =>
    show _ = rg2 xs
    rcases xs with _ | ⟨x, _ | ⟨y, _ | ⟨z, zs⟩⟩⟩ <;> first | rfl | (cases x <;> first | rfl | (cases y <;> rfl))
/-! slots, small functions -/
def selS : Option (Option Cell) → Option D
  | some (some (.d d)) => some d
  | _ => none
def selW : Option (Option Cell) → Option D
  | some (some (.d d)) => some d
  | some (some (.l xs)) => some (.lst xs)
  | some (some (.k ks)) => some (.dct ks)
  | _ => none
@[simp] theorem ev_getS {i : Nat} {ρ : Env} : getS i ρ = selS ρ[i]? := by
  unfold getS selS
  generalize ρ[i]? = o
  rcases o with _ | _ | c <;> first | rfl | (cases c <;> rfl)
@[simp] theorem ev_getW {i : Nat} {ρ : Env} : getW i ρ = selW ρ[i]? := by
  unfold getW selW
  generalize ρ[i]? = o
  rcases o with _ | _ | c <;> first | rfl | (cases c <;> rfl)
@[simp] theorem selS_d {d : D} : selS (some (some (.d d))) = some d := rfl
@[simp] theorem selW_d {d : D} : selW (some (some (.d d))) = some d := rfl
@[simp] theorem selW_l {d : List D} : selW (some (some (.l d))) = some (.lst d) := rfl
@[simp] theorem selW_k {d : List (D × D)} : selW (some (some (.k d))) = some (.dct d) := rfl
def outD : Option Out → Option D
  | some (.rt d) => some d
  | some (.nx _) => some .non
  | _ => none
@[simp] theorem out_rt {d : D} : outD (some (.rt d)) = some d := rfl
@[simp] theorem out_nx {ρ : Env} : outD (some (.nx ρ)) = some .non := rfl
theorem runF_eq {N : Nat} {fb : Env → Option Out} {ds : List D} : runF N fb ds = outD (fb (ds.map (fun d => some (.d d)) ++ List.replicate (N - ds.length) none)) := by
  unfold runF outD envOf
  generalize fb (ds.map (fun d => some (.d d)) ++ List.replicate (N - ds.length) none) = o
  rcases o with _ | c <;> first | rfl | (cases c <;> rfl)
@[simp] theorem guard0 {d : D} : guardL 0 d = some d := if_pos (by rw [LIM_eq]; decide)
@[simp] theorem guard1 {d : D} : guardL 1 d = some d := if_pos (by rw [LIM_eq]; decide)
@[simp] theorem guard2 {d : D} : guardL 2 d = some d := if_pos (by rw [LIM_eq]; decide)
@[simp] theorem guard3 {d : D} : guardL 3 d = some d := if_pos (by rw [LIM_eq]; decide)
@[simp] theorem guard4 {d : D} : guardL 4 d = some d := if_pos (by rw [LIM_eq]; decide)
theorem guard_ok {n : Nat} {d : D} (h : n ≤ LIM) : guardL n d = some d := if_pos h
@[simp] theorem ixD_tup {xs : List D} {i : Int} : ixD (.tup xs) (.int i) = atI xs i := rfl
@[simp] theorem ixD_lst {xs : List D} {i : Int} : ixD (.lst xs) (.int i) = atI xs i := rfl
@[simp] theorem ixD_scr {xs : List Int} {i : Int} : ixD (.scr xs) (.int i) = (atI xs i).map .int := rfl
@[simp] theorem ixD_str {x : Tx} {i : Int} : ixD (.str x) (.int i) = if x.length ≤ LIM then (atI x i).map (fun c => .str [c]) else none := Eq.trans rfl rfl
@[simp] theorem atI0 {α : Type} {x : α} {xs : List α} : atI (x :: xs) 0 = some x := by
  have : atI (x :: xs) ((0 : Nat) : Int) = some x := atI_nat rfl
  exact this
@[simp] theorem atI1 {α : Type} {x y : α} {xs : List α} : atI (x :: y :: xs) 1 = some y := by
  have : atI (x :: y :: xs) ((1 : Nat) : Int) = some y := atI_nat rfl
  exact this
@[simp] theorem atI2 {α : Type} {x y z : α} {xs : List α} : atI (x :: y :: z :: xs) 2 = some z := by
  have : atI (x :: y :: z :: xs) ((2 : Nat) : Int) = some z := atI_nat rfl
  exact this
@[simp] theorem lenD_tup {xs : List D} : lenD [.tup xs] = some (.int xs.length) := rfl
@[simp] theorem lenD_lst {xs : List D} : lenD [.lst xs] = some (.int xs.length) := rfl
@[simp] theorem lenD_scr {xs : List Int} : lenD [.scr xs] = some (.int xs.length) := rfl
@[simp] theorem lenD_dct {xs : List (D × D)} : lenD [.dct xs] = some (.int xs.length) := rfl
@[simp] theorem lenD_str {xs : Tx} : lenD [.str xs] = if xs.length ≤ LIM then some (.int xs.length) else none := Eq.trans rfl rfl
@[simp] theorem items_tup {xs : List D} : itemsD (.tup xs) = some xs := rfl
@[simp] theorem items_lst {xs : List D} : itemsD (.lst xs) = some xs := rfl
@[simp] theorem items_str {x : Tx} : itemsD (.str x) = some (sgns x) := rfl
@[simp] theorem items_scr {x : List Int} : itemsD (.scr x) = some (x.map .int) := rfl
@[simp] theorem tupleX_lst {xs : List D} : tupleX [.lst xs] = some (.tup xs) := rfl
@[simp] theorem tupleX_tup {xs : List D} : tupleX [.tup xs] = some (.tup xs) := rfl
@[simp] theorem tupleX_str {x : Tx} : tupleX [.str x] = if x.length ≤ LIM then some (.tup (sgns x)) else none := Eq.trans rfl rfl
@[simp] theorem listX_lst {xs : List D} : listX [.lst xs] = some (.lst xs) := rfl
@[simp] theorem listX_tup {xs : List D} : listX [.tup xs] = some (.lst xs) := rfl
@[simp] theorem listX_str {x : Tx} : listX [.str x] = if x.length ≤ LIM then some (.lst (sgns x)) else none := Eq.trans rfl rfl
@[simp] theorem addD_int {a b : Int} : addD (.int a) (.int b) = some (.int (a + b)) := rfl
@[simp] theorem addD_str {a b : Tx} : addD (.str a) (.str b) = if a.length + b.length ≤ LIM then some (.str (a ++ b)) else none := Eq.trans rfl rfl
@[simp] theorem addD_tup {a b : List D} : addD (.tup a) (.tup b) = if a.length + b.length ≤ LIM then some (.tup (a ++ b)) else none := Eq.trans rfl rfl
@[simp] theorem addD_lst {a b : List D} : addD (.lst a) (.lst b) = if a.length + b.length ≤ LIM then some (.lst (a ++ b)) else none := Eq.trans rfl rfl
@[simp] theorem subD_int {a b : Int} : subD (.int a) (.int b) = some (.int (a - b)) := rfl
@[simp] theorem mulX_int {a b : Int} : mulX (.int a) (.int b) = if (-MB < a ∧ a < MB) ∨ (-MB < b ∧ b < MB) then some (.int (a * b)) else none := Eq.trans rfl rfl
@[simp] theorem modD_int {a b : Int} : modD (.int a) (.int b) = if 0 < b then some (.int (a % b)) else none := Eq.trans rfl rfl
@[simp] theorem fdivD_int {a b : Int} : fdivD (.int a) (.int b) = if 0 < b ∧ b < 1073741824 then some (.int (a / b)) else none := Eq.trans rfl rfl
@[simp] theorem ltD_int {a b : Int} : ltD (.int a) (.int b) = some (.bl (decide (a < b))) := rfl
@[simp] theorem leD_int {a b : Int} : leD (.int a) (.int b) = some (.bl (decide (a ≤ b))) := rfl
@[simp] theorem gtD_int {a b : Int} : gtD (.int a) (.int b) = some (.bl (decide (b < a))) := rfl
@[simp] theorem geD_int {a b : Int} : geD (.int a) (.int b) = some (.bl (decide (b ≤ a))) := rfl
@[simp] theorem slD_tup {xs : List D} {lo hi : Option Int} : slD (.tup xs) lo hi = some (.tup (cutL xs lo hi)) := rfl
@[simp] theorem slD_lst {xs : List D} {lo hi : Option Int} : slD (.lst xs) lo hi = some (.lst (cutL xs lo hi)) := rfl
@[simp] theorem slD_str {x : Tx} {lo hi : Option Int} : slD (.str x) lo hi = if x.length ≤ LIM then some (.str (cutL x lo hi)) else none := Eq.trans rfl rfl
@[simp] theorem rg1_int {j : Int} : rg1 [.int j] = if -BIG ≤ j ∧ j < BIG then some (rng 0 j.toNat) else none := Eq.trans rfl rfl
@[simp] theorem rg2_int {i j : Int} : rg2 [.int i, .int j] = if (-BIG ≤ i ∧ i < BIG) ∧ (-BIG ≤ j ∧ j < BIG) then some (rng i (j - i).toNat) else none := Eq.trans rfl rfl
@[simp] theorem wipe_nil {ρ : Env} : wipeE [] ρ = ρ := rfl
@[simp] theorem wipe_cons {v : Nat} {vs : List Nat} {ρ : Env} : wipeE (v :: vs) ρ = (wipeE vs ρ).set v none := rfl
@[simp] theorem dropL_nil {ρ : Env} : dropL [] ρ = ρ := rfl
@[simp] theorem dropL_cons {i : Nat} {is : List Nat} {ρ : Env} : dropL (i :: is) ρ = dropL is (ρ.set i none) := rfl
@[simp] theorem drop_nx {is : List Nat} {ρ : Env} : Out.drop is (.nx ρ) = .nx (dropL is ρ) := rfl
@[simp] theorem drop_rt {is : List Nat} {d : D} : Out.drop is (.rt d) = .rt d := rfl
@[simp] theorem relL_nil {ρ : Env} : relL [] ρ = ρ := rfl
@[simp] theorem relL_cons {i : Nat} {is : List Nat} {ρ : Env} : relL (i :: is) ρ = relL is (relC i ρ) := rfl
def relK (i : Nat) (ρ : Env) : Option (Option Cell) → Env
  | some (some (.l xs)) => ρ.set i (some (.d (.lst xs)))
  | some (some (.k ks)) => ρ.set i (some (.d (.dct ks)))
  | _ => ρ
@[simp] theorem relC_eq {i : Nat} {ρ : Env} : relC i ρ = relK i ρ ρ[i]? := by
  unfold relC relK
  generalize ρ[i]? = o
  rcases o with _ | _ | c <;> first | rfl | (cases c <;> rfl)
@[simp] theorem relK_l {i : Nat} {ρ : Env} {xs : List D} : relK i ρ (some (some (.l xs))) = ρ.set i (some (.d (.lst xs))) := rfl
@[simp] theorem relK_k {i : Nat} {ρ : Env} {xs : List (D × D)} : relK i ρ (some (some (.k xs))) = ρ.set i (some (.d (.dct xs))) := rfl
@[simp] theorem relK_d {i : Nat} {ρ : Env} {d : D} : relK i ρ (some (some (.d d))) = ρ := rfl
/-! changes of owned things -/
def appC (i : Nat) (ρ : Env) (d : D) : Option (Option Cell) → Option Out
  | some (some (.l xs)) => if xs.length < LIM then some (.nx (ρ.set i (some (.l (xs ++ [d]))))) else none
  | _ => none
@[simp] theorem ev_app {i : Nat} {f : Env → Option D} {ρ : Env} : appS i f ρ = (f ρ).bind fun d => appC i ρ d ρ[i]? := by
  unfold appS
  cases f ρ with
  | none => rfl
  | some d =>
    show _ = appC i ρ d ρ[i]?
    unfold appC
    generalize ρ[i]? = o
    rcases o with _ | _ | c <;> first | rfl | (cases c <;> rfl)
@[simp] theorem appC_l {i : Nat} {ρ : Env} {d : D} {xs : List D} : appC i ρ d (some (some (.l xs))) = if xs.length < LIM then some (.nx (ρ.set i (some (.l (xs ++ [d]))))) else none := Eq.trans rfl rfl
def setC (i : Nat) (ρ : Env) (kd d : D) : Option (Option Cell) → Option Out
  | some (some (.k ks)) => if (keyOf kd).isSome = true ∧ ks.length < LIM then some (.nx (ρ.set i (some (.k (putD ks kd d))))) else none
  | _ => none
@[simp] theorem ev_setK {i : Nat} {fk fe : Env → Option D} {ρ : Env} : setKS i fk fe ρ = (fe ρ).bind fun d => (fk ρ).bind fun kd => setC i ρ kd d ρ[i]? := by
  unfold setKS
  cases fe ρ with
  | none => rfl
  | some d =>
    cases fk ρ with
    | none => rfl
    | some kd =>
      show _ = setC i ρ kd d ρ[i]?
      unfold setC
      generalize ρ[i]? = o
      rcases o with _ | _ | c <;> first | rfl | (cases c <;> rfl)
@[simp] theorem setC_k {i : Nat} {ρ : Env} {kd d : D} {ks : List (D × D)} : setC i ρ kd d (some (some (.k ks))) = if (keyOf kd).isSome = true ∧ ks.length < LIM then some (.nx (ρ.set i (some (.k (putD ks kd d))))) else none := Eq.trans rfl rfl
@[simp] theorem keyOf_int {i : Int} : keyOf (.int i) = some (.inl i) := rfl
@[simp] theorem keyOf_str {x : Tx} : keyOf (.str x) = some (.inr (tx x)) := rfl
/-! comprehensions over encoded lists -/
theorem lcL_map {α : Type} {ρ0 : Env} {G : D → Env → Option Env} {p : Env → Option Bool} {f : Env → Option D} (enc : α → D) (q : α → Bool) (h : α → D) : ∀ (xs : List α), (∀ x ∈ xs, ∃ ρ1, G (enc x) ρ0 = some ρ1 ∧ p ρ1 = some (q x) ∧ (q x = true → f ρ1 = some (h x))) → lcL ρ0 G p f (xs.map enc) = some ((xs.filter q).map h)
  | [], _ => rfl
  | x :: xs, H => by
    have ih := lcL_map enc q h xs fun y hy => H y (List.mem_cons_of_mem _ hy)
    obtain ⟨ρ1, h1, h2, h3⟩ := H x (List.mem_cons_self ..)
    rw [List.map_cons]
    unfold lcL
    rw [h1]
    simp only
    rw [h2]
    cases e : q x with
    | true => simp only; rw [h3 e, ih, List.filter_cons_of_pos e]; rfl
    | false => simp only; rw [ih, List.filter_cons_of_neg (by simp [e])]
theorem lcL_all {α : Type} {ρ0 : Env} {G : D → Env → Option Env} {f : Env → Option D} (enc : α → D) (h : α → D) (xs : List α) (H : ∀ x ∈ xs, ∃ ρ1, G (enc x) ρ0 = some ρ1 ∧ f ρ1 = some (h x)) : lcL ρ0 G (fun _ => some true) f (xs.map enc) = some (xs.map h) := by
  rw [lcL_map enc (fun _ => true) h xs fun x hx => ?_]
  · rw [List.filter_eq_self.mpr fun _ _ => rfl]
  · obtain ⟨ρ1, a, b⟩ := H x hx
    exact ⟨ρ1, a, rfl, fun _ => b⟩
/-! loops over encoded lists: what is known at each turn -/
theorem loopL_inv {α σ : Type} {G : D → Env → Option Env} {fb : Env → Option Out} (enc : α → D) (I : σ → Env → Prop) (step : σ → α → σ) : ∀ (xs : List α) (s : σ) (ρ : Env), I s ρ → (∀ s x ρ, x ∈ xs → I s ρ → ∃ ρ1 ρ2, G (enc x) ρ = some ρ1 ∧ fb ρ1 = some (.nx ρ2) ∧ I (step s x) ρ2) →
    ∃ ρ', loopL G fb (xs.map enc) ρ = some (.nx ρ') ∧ I (xs.foldl step s) ρ'
  | [], s, ρ, h, _ => ⟨ρ, rfl, h⟩
  | x :: xs, s, ρ, h, H => by
    obtain ⟨ρ1, ρ2, h1, h2, h3⟩ := H s x ρ (List.mem_cons_self ..) h
    obtain ⟨ρ', q1, q2⟩ := loopL_inv enc I step xs (step s x) ρ2 h3 fun s y ρ hy => H s y ρ (List.mem_cons_of_mem _ hy)
    refine ⟨ρ', ?_, q2⟩
    rw [List.map_cons]
    unfold loopL
    rw [h1]
    simp only
    rw [h2]
    exact q1
/-- by places -/
theorem loop_ix {G : D → Env → Option Env} {fb : Env → Option Out} (I : Nat → Env → Prop) : ∀ (ds : List D) (k : Nat) (ρ : Env), I k ρ → (∀ i d ρ, ds[i]? = some d → I (k + i) ρ → ∃ ρ1 ρ2, G d ρ = some ρ1 ∧ fb ρ1 = some (.nx ρ2) ∧ I (k + i + 1) ρ2) →
    ∃ ρ', loopL G fb ds ρ = some (.nx ρ') ∧ I (k + ds.length) ρ'
  | [], k, ρ, h, _ => ⟨ρ, rfl, h⟩
  | d :: ds, k, ρ, h, H => by
    obtain ⟨ρ1, ρ2, h1, h2, h3⟩ := H 0 d ρ rfl h
    obtain ⟨ρ', q1, q2⟩ := loop_ix I ds (k + 1) ρ2 h3 fun i d' ρ e hI => by
      have e1 : k + 1 + i = k + (i + 1) := by omega
      rw [e1] at hI ⊢
      exact H (i + 1) d' ρ (by simpa using e) hI
    refine ⟨ρ', ?_, ?_⟩
    · unfold loopL
      rw [h1]
      simp only
      rw [h2]
      exact q1
    · have e1 : k + (d :: ds).length = k + 1 + ds.length := by rw [List.length_cons]; omega
      rw [e1]
      exact q2
theorem loop_rng {G : D → Env → Option Env} {fb : Env → Option Out} (I : Nat → Env → Prop) {lo : Int} {n : Nat} {ρ : Env} (h0 : I 0 ρ) (H : ∀ i ρ, i < n → I i ρ → ∃ ρ1 ρ2, G (.int (lo + (i : Nat))) ρ = some ρ1 ∧ fb ρ1 = some (.nx ρ2) ∧ I (i + 1) ρ2) :
    ∃ ρ', loopL G fb (rng lo n) ρ = some (.nx ρ') ∧ I n ρ' := by
  obtain ⟨ρ', h1, h2⟩ := loop_ix (G := G) (fb := fb) I (rng lo n) 0 ρ h0 fun i d ρ e hI => by
    unfold rng at e
    rw [List.getElem?_map] at e
    by_cases hi : i < n
    · rw [List.getElem?_range hi] at e
      cases e
      rw [Nat.zero_add] at hI ⊢
      exact H i ρ hi hI
    · rw [List.getElem?_eq_none (by simpa using hi)] at e
      cases e
  refine ⟨ρ', h1, ?_⟩
  rw [Nat.zero_add, show (rng lo n).length = n by simp [rng]] at h2
  exact h2
/-- .. with a return on the way: step tells .inr d for return d -/
def stepL {α σ : Type} (step : σ → α → σ ⊕ D) : List α → σ → σ ⊕ D
  | [], s => .inl s
  | x :: xs, s => match step s x with
    | .inl s' => stepL step xs s'
    | .inr d => .inr d
theorem loopL_ret {α σ : Type} {G : D → Env → Option Env} {fb : Env → Option Out} (enc : α → D) (I : σ → Env → Prop) (step : σ → α → σ ⊕ D) : ∀ (xs : List α) (s : σ) (ρ : Env), I s ρ → (∀ s x ρ, x ∈ xs → I s ρ → ∃ ρ1, G (enc x) ρ = some ρ1 ∧
      (∀ s', step s x = .inl s' → ∃ ρ2, fb ρ1 = some (.nx ρ2) ∧ I s' ρ2) ∧ ∀ d, step s x = .inr d → fb ρ1 = some (.rt d)) →
    (∀ s', stepL step xs s = .inl s' → ∃ ρ', loopL G fb (xs.map enc) ρ = some (.nx ρ') ∧ I s' ρ') ∧ ∀ d, stepL step xs s = .inr d → loopL G fb (xs.map enc) ρ = some (.rt d)
  | [], s, ρ, h, _ => ⟨fun s' e => by cases e; exact ⟨ρ, rfl, h⟩, fun d e => by cases e⟩
  | x :: xs, s, ρ, h, H => by
    obtain ⟨ρ1, h1, h2, h3⟩ := H s x ρ (List.mem_cons_self ..) h
    rw [List.map_cons]
    unfold loopL stepL
    rw [h1]
    simp only
    cases e : step s x with
    | inr d =>
      rw [h3 d e]
      exact ⟨fun s' z => (by cases z), fun d' z => (by cases z; rfl)⟩
    | inl s' =>
      obtain ⟨ρ2, h4, h5⟩ := h2 s' e
      rw [h4]
      exact loopL_ret enc I step xs s' ρ2 h5 fun s y ρ hy => H s y ρ (List.mem_cons_of_mem _ hy)
end Fo
end
-- FoM1.lean
set_option Elab.async false
set_option linter.all false
set_option maxRecDepth 100000
set_option maxHeartbeats 2000000
noncomputable section
namespace Fo
open PySem L2
/-! ### things of the domain -/
structure Meas where
  pl : List (List Tx)
  br : List (Int × Int)
  lo : Bool
def eS (xs : List Tx) : D := .tup (xs.map .str)
def eM (m : Meas) : D := .tup [.tup (m.pl.map eS), .tup (m.br.map eP), .bl m.lo]
theorem cutL_map {α β : Type} (f : α → β) (xs : List α) (lo hi : Option Int) : cutL (xs.map f) lo hi = (cutL xs lo hi).map f := by
  unfold cutL
  rw [List.length_map, ← List.map_drop, ← List.map_take]
theorem cutL_take {α : Type} (xs : List α) (k : Int) (h : 0 ≤ k) : cutL xs none (some k) = xs.take k.toNat := by
  obtain ⟨n, rfl⟩ := Int.eq_ofNat_of_zero_le h
  unfold cutL
  rw [HT.sIx_none, show HT.sIx xs.length xs.length (some ((n : Nat) : Int)) = min n xs.length from HT.sIx_nat _ _ _]
  simp [List.take_eq_take_iff]
theorem lim_lit {n : Nat} (h : n ≤ 16777216) : n ≤ LIM := by rw [LIM_eq]; exact h
theorem big_ok {n : Nat} (h : n ≤ LIM) : -BIG ≤ (n : Int) ∧ (n : Int) < BIG := by
  rw [LIM_eq] at h
  rw [BIG_eq]
  omega
def joined (a b : Meas) : Meas := ⟨a.pl ++ b.pl, a.br ++ b.br.map fun p => (p.1 + (a.pl.length : Int), p.2), b.lo⟩
theorem m_joined (a b : Meas) (h1 : a.pl.length + b.pl.length ≤ LIM) (h2 : a.br.length + b.br.length ≤ LIM) : G_joined [eM a, eM b] = some (eM (joined a b)) := by
  have hl : b.br.length ≤ LIM := by omega
  simp [G_joined, runF_eq, b_joined, b_joined_c1, eM]
  rw [lcL_all eP (fun p => eP (p.1 + (a.pl.length : Int), p.2)) _ fun x hx => ⟨_, rfl, by simp [eP]⟩]
  simp [hl, h1, h2, joined]
theorem m_with_loose (a : Meas) (b : Bool) : G_with_loose [eM a, .bl b] = some (eM ⟨a.pl, a.br, b⟩) := by
  simp [G_with_loose, runF_eq, b_with_loose, eM]
theorem m_freed (a : Meas) : G_freed [eM a] = some (eM ⟨a.pl, [], a.lo⟩) := by
  simp [G_freed, runF_eq, b_freed, eM]
def cut (a : Meas) (k : Nat) : Meas := ⟨a.pl.take k, a.br.filter fun p => decide (p.1 < (k : Int)), a.lo⟩
theorem m_cut (a : Meas) (k : Nat) (h : a.br.length ≤ LIM) : G_cut [eM a, .int k] = some (eM (cut a k)) := by
  simp [G_cut, runF_eq, b_cut, b_cut_c1, eM]
  rw [lcL_map eP (fun p => decide (p.1 < (k : Int))) eP _ fun x hx => ⟨_, rfl, by simp [eP], by simp⟩]
  have := List.length_filter_le (fun p : Int × Int => decide (p.1 < (k : Int))) a.br
  simp [cutL_map, cutL_take, cut, show (a.br.filter fun p => decide (p.1 < (k : Int))).length ≤ LIM by omega]
def again (a : Meas) : Nat → Meas
  | 0 => ⟨[], [], a.lo⟩
  | n + 1 => joined (again a n) a
theorem again_len (a : Meas) : ∀ n, (again a n).pl.length = n * a.pl.length ∧ (again a n).br.length = n * a.br.length
  | 0 => by simp [again]
  | n + 1 => by
    obtain ⟨h1, h2⟩ := again_len a n
    simp [again, joined, h1, h2, Nat.succ_mul]
theorem m_again (a : Meas) (n : Nat) (hn : n ≤ LIM) (h1 : (n + 1) * a.pl.length ≤ LIM) (h2 : (n + 1) * a.br.length ≤ LIM) : G_again [eM a, .int n] = some (eM (again a n)) := by
  simp [G_again, runF_eq, b_again, eM]
  rw [if_pos (big_ok hn)]
  obtain ⟨ρ', e, c, rfl⟩ := loop_rng (G := toS 3) (fb := b_again_L1) (fun i ρ => ∃ c, ρ = [some (Cell.d (eM a)), some (.d (.int n)), some (.d (eM (again a i))), c]) (lo := 0) (n := n) ⟨none, rfl⟩ fun i ρ hi ⟨c, e⟩ => by
    subst e
    obtain ⟨q1, q2⟩ := again_len a i
    have m1 : (i + 1) * a.pl.length ≤ LIM := Nat.le_trans (Nat.mul_le_mul_right _ (by omega)) h1
    have m2 : (i + 1) * a.br.length ≤ LIM := Nat.le_trans (Nat.mul_le_mul_right _ (by omega)) h2
    rw [Nat.succ_mul] at m1 m2
    refine ⟨_, _, rfl, ?_, some (.d (.int (0 + (i : Nat)))), rfl⟩
    simp [b_again_L1, m_joined (again a i) a (by omega) (by omega), again]
  simp [eM, again] at e ⊢
  rw [e]
  simp
end Fo
end
-- FoM2.lean
set_option Elab.async false
set_option linter.all false
set_option maxRecDepth 100000
set_option maxHeartbeats 2000000
noncomputable section
namespace Fo
open PySem L2
theorem mul_okL {a b : Int} (h : -18446744073709551616 < a ∧ a < 18446744073709551616) : mulX (.int a) (.int b) = some (.int (a * b)) := by
  rw [mulX_int, if_pos (.inl (by rw [MB_eq]; exact h))]
theorem mul_okR {a b : Int} (h : -18446744073709551616 < b ∧ b < 18446744073709551616) : mulX (.int a) (.int b) = some (.int (a * b)) := by
  rw [mulX_int, if_pos (.inr (by rw [MB_eq]; exact h))]
theorem m_drawn (n k : Int) : ∃ v : Int, 0 ≤ v ∧ G__law_drawn [.int n, .int k] = some (.int v) := by
  have e0 : mulX (.int 104729) (.int k) = some (.int (104729 * k)) := mul_okL (by omega)
  have e1 : mulX (.int (n + 104729 * k + 17)) (.int 69621) = some (.int ((n + 104729 * k + 17) * 69621)) := mul_okR (by omega)
  generalize hx : (n + 104729 * k + 17) * 69621 % 2147483647 = x
  have hb : 0 ≤ x ∧ x < 2147483647 := by omega
  have e2 : mulX (.int x) (.int x) = some (.int (x * x)) := mul_okL (by omega)
  have e3 : mulX (.int 3) (.int x) = some (.int (3 * x)) := mul_okL (by omega)
  refine ⟨(x * x + 3 * x + k) % 2147483629, Int.emod_nonneg _ (by omega), ?_⟩
  simp [-mulX_int, G__law_drawn, runF_eq, b__law_drawn, e0, e1, hx, e2, e3]
theorem m_cell (ns : List Int) (k : Nat) : ∃ v : Int, G__law_cell_at [.scr ns, .int k] = some (.int v) := by
  by_cases h : k < ns.length
  · have : atI ns (k : Int) = some ns[k] := atI_nat (List.getElem?_eq_getElem h)
    exact ⟨ns[k], by simp [G__law_cell_at, runF_eq, b__law_cell_at, h, this]⟩
  · exact ⟨0, by simp [G__law_cell_at, runF_eq, b__law_cell_at, h]⟩
theorem m_mixed (ns : List Int) (k : Nat) : ∃ v : Int, 0 ≤ v ∧ G__law_mixed [.scr ns, .int k] = some (.int v) := by
  obtain ⟨c, hc⟩ := m_cell ns k
  have e0 : mulX (.int 7919) (.int k) = some (.int (7919 * k)) := mul_okL (by omega)
  have e1 : mulX (.int (c + 7919 * k + 1)) (.int 48271) = some (.int ((c + 7919 * k + 1) * 48271)) := mul_okR (by omega)
  generalize hx : (c + 7919 * k + 1) * 48271 % 2147483647 = x
  have hb : 0 ≤ x ∧ x < 2147483647 := by omega
  have e2 : mulX (.int x) (.int x) = some (.int (x * x)) := mul_okL (by omega)
  have e3 : mulX (.int 7) (.int x) = some (.int (7 * x)) := mul_okL (by omega)
  refine ⟨(x * x + 7 * x + k) % 2147483629, Int.emod_nonneg _ (by omega), ?_⟩
  simp [-mulX_int, G__law_mixed, runF_eq, b__law_mixed, hc, e0, e1, hx, e2, e3]

theorem lcL_exm {α β : Type} {ρ0 : Env} {G : D → Env → Option Env} {f : Env → Option D} (enc : α → D) (dec : β → D) (P : β → Prop) : ∀ (xs : List α), (∀ x ∈ xs, ∃ ρ1 z, G (enc x) ρ0 = some ρ1 ∧ f ρ1 = some (dec z) ∧ P z) →
    ∃ zs : List β, lcL ρ0 G (fun _ => some true) f (xs.map enc) = some (zs.map dec) ∧ zs.length = xs.length ∧ ∀ z ∈ zs, P z
  | [], _ => ⟨[], rfl, rfl, by simp⟩
  | x :: xs, H => by
    obtain ⟨ρ1, z, h1, h2, h3⟩ := H x (List.mem_cons_self ..)
    obtain ⟨zs, q1, q2, q3⟩ := lcL_exm enc dec P xs fun y hy => H y (List.mem_cons_of_mem _ hy)
    refine ⟨z :: zs, ?_, by simp [q2], fun w hw => ?_⟩
    · rw [List.map_cons]
      unfold lcL
      rw [h1]
      simp only
      rw [h2, q1]
      rfl
    · rcases List.mem_cons.mp hw with e | e
      · rw [e]; exact h3
      · exact q3 w e
theorem lcL_rng {β : Type} {ρ0 : Env} {G : D → Env → Option Env} {f : Env → Option D} (dec : β → D) (P : β → Prop) {lo : Int} {n : Nat} (H : ∀ i, i < n → ∃ ρ1 z, G (.int (lo + (i : Nat))) ρ0 = some ρ1 ∧ f ρ1 = some (dec z) ∧ P z) :
    ∃ zs : List β, lcL ρ0 G (fun _ => some true) f (rng lo n) = some (zs.map dec) ∧ zs.length = n ∧ ∀ z ∈ zs, P z := by
  obtain ⟨zs, h1, h2, h3⟩ := lcL_exm (ρ0 := ρ0) (G := G) (f := f) (fun i : Nat => D.int (lo + (i : Nat))) dec P (List.range n) fun i hi => H i (List.mem_range.mp hi)
  exact ⟨zs, h1, by rw [h2, List.length_range], h3⟩
theorem joinT_nil : ∀ xs : List Tx, joinT [] xs = xs.flatten
  | [] => rfl
  | [x] => by simp [joinT, TL.joinL]
  | x :: y :: xs => by
    have := joinT_nil (y :: xs)
    unfold joinT at this ⊢
    simp [TL.joinL, this]
theorem flat_len {xs : List Tx} {k : Nat} (h : ∀ x ∈ xs, x.length = k) : xs.flatten.length = xs.length * k ∧ (xs.map (·.length)).sum = xs.length * k := by
  induction xs with
  | nil => simp
  | cons x xs ih =>
    obtain ⟨a, b⟩ := ih fun y hy => h y (List.mem_cons_of_mem _ hy)
    have e := h x (List.mem_cons_self ..)
    constructor
    · rw [List.flatten_cons, List.length_append, a, e, List.length_cons, Nat.succ_mul]; omega
    · rw [List.map_cons, List.sum_cons, b, e, List.length_cons, Nat.succ_mul]; omega
@[simp] theorem joinD_lst {a : Tx} {xs : List Tx} : joinD (.str a) [.lst (xs.map .str)] = if joinOk a xs = true then some (.str (joinT a xs)) else none := by
  unfold joinD
  simp only [strsOf_map]
@[simp] theorem joinD_tup {a : Tx} {xs : List Tx} : joinD (.str a) [.tup (xs.map .str)] = if joinOk a xs = true then some (.str (joinT a xs)) else none := by
  unfold joinD
  simp only [strsOf_map]
theorem flat_one : ∀ zs : Tx, (zs.map fun c => [c]).flatten = zs
  | [] => rfl
  | c :: zs => by rw [List.map_cons, List.flatten_cons, flat_one zs]; rfl
/-- long and short signs -/
def lsT (x : Tx) : Prop := ∀ c ∈ x, c = 108 ∨ c = 115
theorem ls_at (v : Int) : ∃ c, atI [108, 115] (v / 4 % 2) = some c ∧ (c = 108 ∨ c = 115) := by
  have h : v / 4 % 2 = 0 ∨ v / 4 % 2 = 1 := by omega
  rcases h with h | h
  · rw [h]; exact ⟨108, rfl, .inl rfl⟩
  · rw [h]; exact ⟨115, rfl, .inr rfl⟩
theorem m_form (n : Int) (k : Nat) (h0 : 0 < k) (hk : k ≤ 1000) : ∃ x : Tx, G__law_form [.int n, .int k] = some (.str x) ∧ lsT x ∧ 1 ≤ x.length ∧ x.length ≤ k := by
  have hm : 0 ≤ n % (k : Int) ∧ n % (k : Int) < k := ⟨Int.emod_nonneg _ (by omega), Int.emod_lt_of_pos _ (by omega)⟩
  obtain ⟨j, hj⟩ := Int.eq_ofNat_of_zero_le hm.1
  have hjk : j < k := by omega
  have big : -BIG ≤ 1 + (j : Int) ∧ 1 + (j : Int) < BIG := by rw [BIG_eq]; omega
  obtain ⟨zs, h1, h2, h3⟩ := lcL_rng (ρ0 := [some (.d (.int n)), some (.d (.int k)), none]) (G := toS 2) (f := b__law_form_c1) (fun c : Nat => D.str [c]) (fun c => c = 108 ∨ c = 115) (lo := 0) (n := j + 1) fun i hi => by
    obtain ⟨v, hv, e⟩ := m_drawn n (0 + (i : Nat))
    obtain ⟨c, hc, hc'⟩ := ls_at v
    refine ⟨_, c, rfl, ?_, hc'⟩
    simp only [Int.zero_add] at e
    simp [b__law_form_c1, e, hc, lim_lit]
  have e2 : zs.map (fun c : Nat => D.str [c]) = (zs.map fun c => [c]).map D.str := by rw [List.map_map]; rfl
  rw [e2] at h1
  refine ⟨zs, ?_, h3, by omega, by omega⟩
  have fl := flat_one zs
  have jo : joinOk [] (zs.map fun c => [c]) = true := by
    unfold joinOk
    refine decide_eq_true ?_
    have := (flat_len (xs := zs.map fun c => [c]) (k := 1) (by simp)).2
    rw [this]
    refine lim_lit ?_
    simp
    omega
  have e3 : (1 + (j : Int)).toNat = j + 1 := by omega
  have hz : zs.length ≤ LIM := lim_lit (by omega)
  simp [-List.map_map, G__law_form, runF_eq, b__law_form, hj, big, e3, h1, tyD, jo, joinT_nil, fl, show 0 < k from h0, hz]
end Fo
end
-- FoM3.lean
set_option Elab.async false
set_option linter.all false
set_option maxRecDepth 100000
set_option maxHeartbeats 2000000
noncomputable section
namespace Fo
open PySem L2
open PySem.W (dataLe dataLt alike alikeAll)

/-! ### equality of encodings -/
theorem eqV_str (x y : Tx) : eqV (.str x) (.str y) = decide (x = y) := by
  simp only [eqV, py, PyData.eqv]
  by_cases h : x = y
  · subst h; simp
  · have : tx x ≠ tx y := fun e => h (tx_inj e)
    simp [h, this]
theorem eqV_int (x y : Int) : eqV (.int x) (.int y) = decide (x = y) := by
  simp only [eqV, py, PyData.eqv]
  by_cases h : x = y <;> simp [h]
theorem eqV_bl (x y : Bool) : eqV (.bl x) (.bl y) = decide (x = y) := by
  simp only [eqV, py, PyData.eqv]
  cases x <;> cases y <;> rfl
def eqVL (xs ys : List D) : Bool := PyData.eqvAll (pyL xs) (pyL ys)
theorem eqV_tup (xs ys : List D) : eqV (.tup xs) (.tup ys) = eqVL xs ys := by simp only [eqV, py, PyData.eqv, eqVL]
theorem eqV_lst (xs ys : List D) : eqV (.lst xs) (.lst ys) = eqVL xs ys := by simp only [eqV, py, PyData.eqv, eqVL]
@[simp] theorem eqVL_nil : eqVL [] [] = true := by simp [eqVL, pyL, PyData.eqvAll]
@[simp] theorem eqVL_nc {y : D} {ys : List D} : eqVL [] (y :: ys) = false := by simp [eqVL, pyL, PyData.eqvAll]
@[simp] theorem eqVL_cn {y : D} {ys : List D} : eqVL (y :: ys) [] = false := by simp [eqVL, pyL, PyData.eqvAll]
@[simp] theorem eqVL_cons {x y : D} {xs ys : List D} : eqVL (x :: xs) (y :: ys) = (eqV x y && eqVL xs ys) := by simp [eqVL, pyL, PyData.eqvAll, eqV]
/-- enc tells things apart just as they are -/
def Enc {α : Type} [DecidableEq α] (enc : α → D) : Prop := ∀ x y, eqV (enc x) (enc y) = decide (x = y)
theorem eqVL_map {α : Type} [DecidableEq α] {enc : α → D} (h : Enc enc) : ∀ xs ys : List α, eqVL (xs.map enc) (ys.map enc) = decide (xs = ys)
  | [], [] => by simp
  | [], y :: ys => by simp
  | x :: xs, [] => by simp
  | x :: xs, y :: ys => by
    rw [List.map_cons, List.map_cons, eqVL_cons, h x y, eqVL_map h xs ys]
    by_cases e : x = y <;> simp [e]
theorem Enc.tup {α : Type} [DecidableEq α] {enc : α → D} (h : Enc enc) : Enc (fun xs : List α => .tup (xs.map enc)) := fun xs ys => by rw [eqV_tup, eqVL_map h]
theorem Enc.lst {α : Type} [DecidableEq α] {enc : α → D} (h : Enc enc) : Enc (fun xs : List α => .lst (xs.map enc)) := fun xs ys => by rw [eqV_lst, eqVL_map h]
theorem enc_str : Enc (fun x : Tx => .str x) := eqV_str
theorem enc_int : Enc (fun x : Int => .int x) := eqV_int
theorem Enc.pair {α β : Type} [DecidableEq α] [DecidableEq β] {f : α → D} {g : β → D} (hf : Enc f) (hg : Enc g) : Enc (fun p : α × β => .tup [f p.1, g p.2]) := fun p q => by
  rw [eqV_tup]
  simp only [eqVL_cons, eqVL_nil, Bool.and_true, hf p.1 q.1, hg p.2 q.2]
  by_cases h1 : p.1 = q.1 <;> by_cases h2 : p.2 = q.2 <;> simp [h1, h2, Prod.ext_iff]
theorem enc_eS : Enc eS := enc_str.tup
theorem enc_eP : Enc eP := enc_int.pair enc_int
mutual
theorem eqv_refl : ∀ x : D, eqV x x = true
  | .non => by simp [eqV, py, PyData.eqv]
  | .bl b => by rw [eqV_bl]; simp
  | .int i => by rw [eqV_int]; simp
  | .str x => by rw [eqV_str]; simp
  | .tup xs => by rw [eqV_tup]; exact eqVL_refl xs
  | .lst xs => by rw [eqV_lst]; exact eqVL_refl xs
  | .dct _ => by simp [eqV, py, PyData.eqv]
  | .scr _ => by simp [eqV, py, PyData.eqv]
  | .raw _ => by simp [eqV, py, PyData.eqv]
theorem eqVL_refl : ∀ xs : List D, eqVL xs xs = true
  | [] => by simp
  | x :: xs => by rw [eqVL_cons, eqv_refl x, eqVL_refl xs]; rfl
end
theorem okL_map {α : Type} {n : Nat} {enc : α → D} {xs : List α} (h : ∀ x ∈ xs, okD n (enc x) = true) : okL n (xs.map enc) = true := okL_mem.mpr fun d hd => by
  obtain ⟨x, hx, rfl⟩ := List.mem_map.mp hd
  exact h x hx
/-! ### sorted encodings -/
theorem sortD_enc {α : Type} (enc : α → D) (lt : α → α → Bool) (xs : List α) (h : ∀ a ∈ xs, ∀ b ∈ xs, dataLt (py (enc a)) (py (enc b)) = lt a b) : sortD (xs.map enc) = (xs.mergeSort (leOf lt)).map enc := by
  unfold sortD
  refine (List.map_mergeSort fun a ha b hb => ?_).symm
  rw [PySem.W.dataLe_eq]
  show leOf lt a b = !dataLt (py (enc b)) (py (enc a))
  rw [h b hb a ha]
  rfl
abbrev Foot := Tx × List Tx
def eF (p : Foot) : D := .tup [.str p.1, eS p.2]
def eT (t : List Foot) : D := .tup (t.map eF)
def kvE (p : Foot) : D × D := (.str p.1, eS p.2)
theorem items_kv (bk : List Foot) : itemsOf (bk.map kvE) = bk.map eF := by simp [itemsOf, kvE, eF, Function.comp_def]
def putB (bk : List Foot) (x : Tx) (fs : List Tx) : List Foot := if bk.any (fun p => decide (p.1 = x)) then bk.map (fun p => if p.1 = x then (p.1, fs) else p) else bk ++ [(x, fs)]
theorem putB_ok (bk : List Foot) (x : Tx) (fs : List Tx) : putD (bk.map kvE) (.str x) (eS fs) = (putB bk x fs).map kvE := by
  have e : hasD (bk.map kvE) (.str x) = bk.any (fun p => decide (p.1 = x)) := by
    unfold hasD
    rw [List.any_map]
    rfl
  unfold putD putB
  rw [e]
  split
  · rw [List.map_map, List.map_map]
    refine List.map_congr_left fun p _ => ?_
    simp only [Function.comp_def, kvE, keq, decide_eq_true_eq]
    split <;> rfl
  · simp [kvE]
/-! ### texts, tongues as they are drawn -/
def nameOk (x : Tx) : Prop := 1 ≤ x.length ∧ x.length ≤ 3 ∧ ∀ c ∈ x, 97 ≤ c ∧ c ≤ 122
def formOk (x : Tx) : Prop := 1 ≤ x.length ∧ x.length ≤ 3 ∧ lsT x
def formsOk (fs : List Tx) : Prop := fs ≠ [] ∧ fs.length ≤ 3 ∧ Rising ltT fs ∧ ∀ f ∈ fs, formOk f
structure BookOk (bk : List Foot) : Prop where
  nd : (bk.map (·.1)).Nodup
  nm : ∀ p ∈ bk, nameOk p.1 ∧ formsOk p.2
theorem BookOk.put {bk : List Foot} (h : BookOk bk) {x : Tx} {fs : List Tx} (hx : nameOk x) (hf : formsOk fs) : BookOk (putB bk x fs) ∧ (putB bk x fs).length ≤ bk.length + 1 ∧ putB bk x fs ≠ [] := by
  unfold putB
  split
  · rename_i e
    have hne : bk ≠ [] := fun z => by rw [z] at e; simp at e
    refine ⟨⟨?_, fun p hp => ?_⟩, by simp, by simpa using hne⟩
    · have : (bk.map fun p => if p.1 = x then (p.1, fs) else p).map (·.1) = bk.map (·.1) := by
        rw [List.map_map]
        refine List.map_congr_left fun p _ => ?_
        simp only [Function.comp_def]
        split <;> rfl
      rw [this]; exact h.nd
    · obtain ⟨q, hq, rfl⟩ := List.mem_map.mp hp
      split
      · exact ⟨(h.nm q hq).1, hf⟩
      · exact h.nm q hq
  · rename_i e
    refine ⟨⟨?_, fun p hp => ?_⟩, by simp, by simp⟩
    · rw [List.map_append, List.nodup_append]
      refine ⟨h.nd, by simp, fun a ha b hb => ?_⟩
      obtain ⟨p, hp, rfl⟩ := List.mem_map.mp ha
      have eb : b = x := by simpa using hb
      subst eb
      intro z
      refine e ?_
      rw [List.any_eq_true]
      exact ⟨p, hp, decide_eq_true z⟩
    · rcases List.mem_append.mp hp with hp | hp
      · exact h.nm p hp
      · have : p = (x, fs) := by simpa using hp
        subst this
        exact ⟨hx, hf⟩
end Fo
end
-- FoM4.lean
set_option Elab.async false
set_option linter.all false
set_option maxRecDepth 100000
set_option maxHeartbeats 2000000
noncomputable section
namespace Fo
open PySem L2
open PySem.W (dataLe dataLt alike alikeAll)
theorem okT_name {x : Tx} (h : nameOk x) : okT x = true := by
  unfold okT
  rw [List.all_eq_true]
  intro c hc
  have := h.2.2 c hc
  simp; omega
theorem okT_ls {x : Tx} (h : lsT x) : okT x = true := by
  unfold okT
  rw [List.all_eq_true]
  intro c hc
  rcases h c hc with e | e <;> simp [e]
theorem okD_str {n : Nat} {x : Tx} (h : okT x = true) : okD n (.str x) = true := by cases n <;> simpa [okD] using h
theorem okD_eS {n : Nat} {xs : List Tx} (h : ∀ x ∈ xs, okT x = true) : okD (n + 1) (eS xs) = true := by
  show okL n _ = true
  exact okL_map fun x hx => okD_str (h x hx)
theorem alike_strs (xs ys : List Tx) : alikeAll (pyL (xs.map .str)) (pyL (ys.map .str)) = true := by
  induction xs generalizing ys with
  | nil => simp [pyL, alikeAll]
  | cons x xs ih => cases ys with
    | nil => simp [pyL, alikeAll]
    | cons y ys => simp [pyL, alikeAll, py, alike, ih ys]
theorem alike_foot (p q : Foot) : alike (py (eF p)) (py (eF q)) = true := by
  simp [eF, eS, py, pyL, alike, alikeAll, alike_strs]
theorem lt_foot {p q : Foot} (h : p.1 ≠ q.1) : dataLt (py (eF p)) (py (eF q)) = ltT p.1 q.1 := by
  show dataLt (.tuple [py (.str p.1), py (eS p.2)]) (.tuple [py (.str q.1), py (eS q.2)]) = _
  rw [PySem.W.dataLt_pair (by simp [py, alike]) (by simp [eS, py, alike, alike_strs])]
  have e : PyData.eqv (py (.str p.1)) (py (.str q.1)) = false := by
    have := eqV_str p.1 q.1
    unfold eqV at this
    rw [this]; exact decide_eq_false h
  rw [if_neg (by rw [e]; decide)]
  show dataLt (.str (tx p.1)) (.str (tx q.1)) = _
  rw [PySem.W.dataLt_str, tx_cps, tx_cps, ← ltT_lt]
theorem lt_self (p : Foot) : dataLt (py (eF p)) (py (eF p)) = ltT p.1 p.1 := by
  rw [ltT_irr]
  show dataLt (.tuple [py (.str p.1), py (eS p.2)]) (.tuple [py (.str p.1), py (eS p.2)]) = _
  rw [PySem.W.dataLt_pair (by simp [py, alike]) (by simp [eS, py, alike, alike_strs]), if_pos (show PyData.eqv _ _ = true from eqv_refl (.str p.1)), if_pos (show PyData.eqv _ _ = true from eqv_refl (eS p.2))]
theorem nodup_inj {α β : Type} (f : α → β) : ∀ {l : List α}, (l.map f).Nodup → ∀ a ∈ l, ∀ b ∈ l, f a = f b → a = b
  | [], _, _, h, _, _, _ => by simp at h
  | x :: l, nd, a, ha, b, hb, e => by
    rw [List.map_cons, List.nodup_cons] at nd
    rcases List.mem_cons.mp ha with ha | ha <;> rcases List.mem_cons.mp hb with hb | hb
    · rw [ha, hb]
    · exact absurd (List.mem_map.mpr ⟨b, hb, by rw [← e, ha]⟩) nd.1
    · exact absurd (List.mem_map.mpr ⟨a, ha, by rw [e, hb]⟩) nd.1
    · exact nodup_inj f nd.2 a ha b hb e
/-- a tongue as the laws draw it -/
structure TongueOk (t : List Foot) : Prop where
  ne : t ≠ []
  le : t.length ≤ 4
  up : Rising ltT (t.map (·.1))
  nm : ∀ p ∈ t, nameOk p.1 ∧ formsOk p.2
theorem book_sorted {bk : List Foot} (h : BookOk bk) (hl : bk.length ≤ 4) (hn : bk ≠ []) : ∃ t, sitemsD (.dct (bk.map kvE)) = some (.lst (t.map eF)) ∧ TongueOk t := by
  have ok : srtOk (bk.map eF) = true := by
    unfold srtOk
    simp only [Bool.and_eq_true, Bool.or_eq_true, decide_eq_true_eq]
    refine ⟨⟨⟨?_, ?_⟩, .inl (.inl ?_)⟩, ?_⟩
    · refine okL_map fun p hp => ?_
      obtain ⟨a, b⟩ := h.nm p hp
      show okL 59 _ = true
      simp only [okL, Bool.and_eq_true, Bool.and_true]
      exact ⟨okD_str (okT_name a), okD_eS fun x hx => okT_ls (b.2.2.2 x hx).2.2⟩
    · rw [List.all_eq_true]
      intro x hx
      rw [List.all_eq_true]
      intro y hy
      obtain ⟨p, _, rfl⟩ := List.mem_map.mp hx
      obtain ⟨q, _, rfl⟩ := List.mem_map.mp hy
      exact alike_foot p q
    · rw [List.all_eq_true]
      intro x hx
      obtain ⟨p, _, rfl⟩ := List.mem_map.mp hx
      rfl
    · rw [List.length_map]; exact lim_lit (by omega)
  let lt : Foot → Foot → Bool := fun a b => ltT a.1 b.1
  have inj : ∀ a ∈ bk, ∀ b ∈ bk, a.1 = b.1 → a = b := by
    intro a ha b hb e
    exact nodup_inj _ h.nd a ha b hb e
  have hs : sortD (bk.map eF) = (bk.mergeSort (leOf lt)).map eF := sortD_enc eF lt bk fun a ha b hb => by
    by_cases e : a.1 = b.1
    · have := inj a ha b hb e
      subst this
      exact lt_self a
    · exact lt_foot e
  have pm := List.mergeSort_perm bk (leOf lt)
  have srt : (bk.mergeSort (leOf lt)).Pairwise fun a b => leOf lt a b = true := by
    refine List.pairwise_mergeSort (fun a b c p q => ?_) (fun a b => ?_) bk
    · unfold leOf at *
      simp only [Bool.not_eq_true'] at *
      cases e : lt c a with
      | false => rfl
      | true =>
        exfalso
        by_cases e2 : a.1 = b.1
        · have : lt c b = true := by show ltT c.1 b.1 = true; rw [← e2]; exact e
          rw [q] at this; cases this
        · cases e3 : ltT a.1 b.1 with
          | true => have := ltT_tr c.1 a.1 b.1 e e3; have q' : ltT c.1 b.1 = false := q; rw [q'] at this; cases this
          | false => exact e2 (ltT_tot _ _ e3 p)
    · unfold leOf
      cases e : lt b a with
      | false => rfl
      | true => have : lt a b = false := stoT.asym e; simp [this]
  refine ⟨bk.mergeSort (leOf lt), ?_, ⟨fun z => hn ?_, by rw [pm.length_eq]; exact hl, ?_, fun p hp => h.nm p (pm.mem_iff.mp hp)⟩⟩
  · unfold sitemsD
    simp only
    rw [items_kv, if_pos ok, hs]
  · have := pm.length_eq
    rw [z] at this
    exact List.length_eq_zero_iff.mp this.symm
  · have nd : ((bk.mergeSort (leOf lt)).map (·.1)).Nodup := (pm.map (·.1)).nodup_iff.mpr h.nd
    unfold Rising
    rw [List.pairwise_map]
    have nd' : (bk.mergeSort (leOf lt)).Pairwise fun a b => a.1 ≠ b.1 := by
      have := nd
      unfold List.Nodup at this
      rwa [List.pairwise_map] at this
    refine (srt.and nd').imp fun {a b} q => ?_
    cases e : ltT a.1 b.1 with
    | true => rfl
    | false =>
      have q1 : ltT b.1 a.1 = false := by have := q.1; unfold leOf at this; simpa using this
      exact absurd (ltT_tot _ _ e q1) q.2

theorem usort_ne {α : Type} {lt : α → α → Bool} (h : STO lt) {xs : List α} (hn : xs ≠ []) : usort lt xs ≠ [] := by
  obtain ⟨x, l, rfl⟩ := List.exists_cons_of_ne_nil hn
  intro z
  have : x ∈ usort lt (x :: l) := (mem_usort h).mpr (by simp)
  rw [z] at this
  simp at this
theorem sset_str {xs : List Tx} (h : xs.length < 4000) : ssetD (.lst (xs.map .str)) = some (.lst ((usort ltT xs).map .str)) := by
  unfold ssetD
  simp only [strsOf_map]
  rw [if_pos h]
theorem letter_at (v : Int) : ∃ c, atI [97, 98, 99, 100, 101, 102, 103, 104, 105, 106, 107, 108, 109, 110, 111, 112, 113, 114, 115, 116, 117, 118, 119, 120, 121, 122] (v % 26) = some c ∧ 97 ≤ c ∧ c ≤ 122 := by
  have h : 0 ≤ v % 26 ∧ v % 26 < 26 := by omega
  generalize v % 26 = w at h
  obtain ⟨n, rfl⟩ := Int.eq_ofNat_of_zero_le h.1
  have hn : n < 26 := by omega
  let l : List Nat := [97, 98, 99, 100, 101, 102, 103, 104, 105, 106, 107, 108, 109, 110, 111, 112, 113, 114, 115, 116, 117, 118, 119, 120, 121, 122]
  have key : ∀ m : Fin 26, 97 ≤ l[m.val]'(by have := m.isLt; simp [l]) ∧ l[m.val]'(by have := m.isLt; simp [l]) ≤ 122 := by decide
  exact ⟨l[n]'(by simp [l]; omega), atI_nat (List.getElem?_eq_getElem _), key ⟨n, hn⟩⟩
theorem toNat1 {j : Nat} : (1 + (j : Int)).toNat = j + 1 := by omega
theorem big1 {j : Nat} (h : j ≤ 1000000) : -BIG ≤ 1 + (j : Int) ∧ 1 + (j : Int) < BIG := by rw [BIG_eq]; omega
/-- texts of n signs each made by f, joined -/
theorem join_rng {ρ0 : Env} {G : D → Env → Option Env} {f : Env → Option D} (P : Nat → Prop) {lo : Int} {n : Nat} (hn : n ≤ 1000000) (H : ∀ i, i < n → ∃ ρ1 c, G (.int (lo + (i : Nat))) ρ0 = some ρ1 ∧ f ρ1 = some (.str [c]) ∧ P c) :
    ∃ x : Tx, lcL ρ0 G (fun _ => some true) f (rng lo n) = some ((x.map fun c => [c]).map D.str) ∧ x.length = n ∧ (∀ c ∈ x, P c) ∧ joinOk [] (x.map fun c => [c]) = true ∧ joinT [] (x.map fun c => [c]) = x := by
  obtain ⟨zs, h1, h2, h3⟩ := lcL_rng (ρ0 := ρ0) (G := G) (f := f) (fun c : Nat => D.str [c]) P (lo := lo) (n := n) H
  refine ⟨zs, by rw [h1, List.map_map]; rfl, h2, h3, ?_, by rw [joinT_nil, flat_one]⟩
  unfold joinOk
  refine decide_eq_true ?_
  have := (flat_len (xs := zs.map fun c => [c]) (k := 1) (by simp)).2
  rw [this]
  refine lim_lit ?_
  simp
  omega
abbrev abcT : Tx := [97, 98, 99, 100, 101, 102, 103, 104, 105, 106, 107, 108, 109, 110, 111, 112, 113, 114, 115, 116, 117, 118, 119, 120, 121, 122]
theorem tongue_turn (n : Int) (i : Nat) (bk : List Foot) (c4 c5 c6 : Option Cell) (hb : BookOk bk) (hl : bk.length ≤ 1000) : ∃ x fs d4 d5 d6, b__law_tongue_L3 [some (.d (.int n)), some (.d (.str abcT)), some (.k (bk.map kvE)), some (.d (.int (0 + (i : Nat)))), c4, c5, c6, none] =
    some (.nx [some (.d (.int n)), some (.d (.str abcT)), some (.k ((putB bk x fs).map kvE)), some (.d (.int (0 + (i : Nat)))), d4, d5, d6, none]) ∧ nameOk x ∧ formsOk fs := by
  obtain ⟨v, hv, e1⟩ := m_drawn n (10 + (i : Nat))
  generalize hd : v / 4 = d
  have d0 : 0 ≤ d := by omega
  -- the name
  have hm : 0 ≤ d % 3 ∧ d % 3 < 3 := by omega
  obtain ⟨j, hj⟩ := Int.eq_ofNat_of_zero_le hm.1
  have hj3 : j < 3 := by omega
  let ρ1 : Env := [some (.d (.int n)), some (.d (.str abcT)), some (.k (bk.map kvE)), some (.d (.int (0 + (i : Nat)))), some (.d (.int d)), c5, c6, none]
  obtain ⟨x, h1, h2, h3, h4, h5⟩ := join_rng (ρ0 := ρ1) (G := toS 7) (f := b__law_tongue_c1) (fun c => 97 ≤ c ∧ c ≤ 122) (lo := 0) (n := j + 1) (by omega) fun m hm => by
    have hm3 : m = 0 ∨ m = 1 ∨ m = 2 := by omega
    rcases hm3 with rfl | rfl | rfl
    · obtain ⟨c, a, b⟩ := letter_at (d / 32)
      exact ⟨_, c, rfl, by simp [b__law_tongue_c1, ρ1, a, lim_lit], b⟩
    · obtain ⟨c, a, b⟩ := letter_at (d / 864)
      exact ⟨_, c, rfl, by simp [b__law_tongue_c1, ρ1, a, lim_lit], b⟩
    · obtain ⟨c, a, b⟩ := letter_at (d / 23328)
      exact ⟨_, c, rfl, by simp [b__law_tongue_c1, ρ1, a, lim_lit], b⟩
  -- the forms
  have hm' : 0 ≤ d / 8 % 3 ∧ d / 8 % 3 < 3 := by omega
  obtain ⟨j', hj'⟩ := Int.eq_ofNat_of_zero_le hm'.1
  have hj3' : j' < 3 := by omega
  let ρ2 : Env := [some (.d (.int n)), some (.d (.str abcT)), some (.k (bk.map kvE)), some (.d (.int (0 + (i : Nat)))), some (.d (.int d)), some (.d (.str x)), c6, none]
  obtain ⟨zs, f1, f2, f3⟩ := lcL_rng (ρ0 := ρ2) (G := toS 7) (f := b__law_tongue_c2) D.str formOk (lo := 0) (n := j' + 1) fun m hm => by
    obtain ⟨u, hu, e2⟩ := m_drawn d (0 + (m : Nat))
    obtain ⟨y, g1, g2, g3, g4⟩ := m_form (u / 4) 3 (by omega) (by omega)
    refine ⟨_, y, rfl, ?_, g3, g4, g2⟩
    simp only [Int.zero_add] at e2
    simp [b__law_tongue_c2, ρ2, e2]
    exact g1
  have zl : zs.length ≤ LIM := lim_lit (by omega)
  have xl : x.length ≤ LIM := lim_lit (by omega)
  have hs := sset_str (xs := zs) (by omega)
  refine ⟨x, usort ltT zs, some (.d (.int d)), some (.d (.str x)), some (.d (.lst (zs.map .str))), ?_, ⟨by omega, by omega, h3⟩, usort_ne stoT (fun z => by rw [z] at f2; simp at f2), ?_, rising_usort stoT zs, fun f hf => f3 f ((mem_usort stoT).mp hf)⟩
  · have kl : bk.length < LIM := by rw [LIM_eq]; omega
    simp only [ρ1, ρ2, Int.zero_add] at h1 f1
    simp [-List.map_map, b__law_tongue_L3, e1, hd, hj, hj', big1 (show j ≤ 1000000 by omega), big1 (show j' ≤ 1000000 by omega), toNat1, tyD, h1, f1, h4, h5, xl, zl, hs, kl]
    exact putB_ok bk x _
  · have := usort_len stoT zs
    omega
theorem m_tongue (n : Int) : ∃ t, G__law_tongue [.int n] = some (eT t) ∧ TongueOk t := by
  have hm : 0 ≤ n % 4 ∧ n % 4 < 4 := by omega
  obtain ⟨j, hj⟩ := Int.eq_ofNat_of_zero_le hm.1
  have hj3 : j < 4 := by omega
  obtain ⟨ρ', e, bk, c3, c4, c5, c6, rfl, hb, hl, hn⟩ := loop_rng (G := toS 3) (fb := b__law_tongue_L3) (fun i ρ => ∃ (bk : List Foot) (c3 c4 c5 c6 : Option Cell), ρ = [some (.d (.int n)), some (.d (.str abcT)), some (.k (bk.map kvE)), c3, c4, c5, c6, none] ∧ BookOk bk ∧ bk.length ≤ i ∧ (0 < i → bk ≠ [])) (lo := 0) (n := j + 1)
    (ρ := [some (.d (.int n)), some (.d (.str abcT)), some (.k []), none, none, none, none, none]) ⟨[], none, none, none, none, rfl, ⟨by simp, by simp⟩, by simp, by simp⟩ fun i ρ hi ⟨bk, c3, c4, c5, c6, e, hb, hl, hn⟩ => by
      subst e
      obtain ⟨x, fs, d4, d5, d6, e, hx, hf⟩ := tongue_turn n i bk c4 c5 c6 hb (by omega)
      obtain ⟨p1, p2, p3⟩ := hb.put hx hf
      exact ⟨_, _, rfl, e, putB bk x fs, _, d4, d5, d6, rfl, p1, by omega, fun _ => p3⟩
  obtain ⟨t, h1, h2⟩ := book_sorted hb (by omega) (hn (by omega))
  refine ⟨t, ?_, h2⟩
  simp [G__law_tongue, runF_eq, b__law_tongue, hj, big1 (show j ≤ 1000000 by omega), toNat1, e, h1, eT]
end Fo
end
-- FoM5.lean
set_option Elab.async false
set_option linter.all false
set_option maxRecDepth 100000
set_option maxHeartbeats 2000000
noncomputable section
namespace Fo
open PySem L2
theorem sset_pair {xs : List (Int × Int)} (h : xs.length < 64) (hr : ∀ p ∈ xs, 0 ≤ p.1 ∧ p.1 < 64 ∧ 0 ≤ p.2 ∧ p.2 < 64) : ssetD (.lst (xs.map eP)) = some (.lst ((usort ltP xs).map eP)) := by
  cases xs with
  | nil => rfl
  | cons x xs =>
    have e := pairsOf_map _ hr
    unfold ssetD
    simp only [List.map_cons, eP, strsOf, intsOf] at e ⊢
    rw [e]
    simp only
    rw [if_pos h]
theorem atI_map {α β : Type} (f : α → β) (xs : List α) (i : Int) : atI (xs.map f) i = (atI xs i).map f := by
  unfold atI
  rw [List.length_map]
  cases ixN xs.length i with
  | none => rfl
  | some j => simp
theorem at_mod {α : Type} (xs : List α) (h : xs ≠ []) (v : Int) : ∃ x, atI xs (v % (xs.length : Int)) = some x ∧ x ∈ xs := by
  have hl : 0 < xs.length := List.length_pos_iff.mpr h
  have hm : 0 ≤ v % (xs.length : Int) ∧ v % (xs.length : Int) < xs.length := ⟨Int.emod_nonneg _ (by omega), Int.emod_lt_of_pos _ (by omega)⟩
  obtain ⟨j, hj⟩ := Int.eq_ofNat_of_zero_le hm.1
  have hj2 : j < xs.length := by omega
  rw [hj]
  exact ⟨xs[j], atI_nat (List.getElem?_eq_getElem hj2), List.getElem_mem hj2⟩
def namesT (t : List Foot) : List Tx := t.map (·.1)
def placeOk (t : List Foot) (s : List Tx) : Prop := s ≠ [] ∧ s.length ≤ 3 ∧ Rising ltT s ∧ ∀ x ∈ s, x ∈ namesT t
structure MeasOk (t : List Foot) (m : Meas) : Prop where
  pl : ∀ s ∈ m.pl, placeOk t s
  bl : m.br.length ≤ 2
  up : Rising ltP m.br
  br : ∀ p ∈ m.br, 0 ≤ p.1 ∧ p.1 < m.pl.length ∧ 1 ≤ p.2 ∧ p.2 ≤ 3
theorem place_turn (t : List Foot) (ht : TongueOk t) (n : Int) (most : Nat) (i : Nat) (pl : List (List Tx)) (c6 c7 c8 c9 : Option Cell) (hl : pl.length ≤ 1000) : ∃ s d6 d7, b__law_measure_L3 [some (.d (eT t)), some (.d (.int n)), some (.d (.int most)), some (.d (.lst ((namesT t).map .str))), some (.l (pl.map eS)), some (.d (.int (0 + (i : Nat)))), c6, c7, c8, c9, none] =
    some (.nx [some (.d (eT t)), some (.d (.int n)), some (.d (.int most)), some (.d (.lst ((namesT t).map .str))), some (.l ((pl ++ [s]).map eS)), some (.d (.int (0 + (i : Nat)))), d6, d7, c8, c9, none]) ∧ placeOk t s := by
  obtain ⟨v, hv, e1⟩ := m_drawn n (20 + (i : Nat))
  generalize hd : v / 4 = d
  have hm : 0 ≤ d % 3 ∧ d % 3 < 3 := by omega
  obtain ⟨j, hj⟩ := Int.eq_ofNat_of_zero_le hm.1
  have hj3 : j < 3 := by omega
  have hne : namesT t ≠ [] := by unfold namesT; simpa using ht.ne
  have hnl : (namesT t).length = t.length := by simp [namesT]
  obtain ⟨zs, f1, f2, f3⟩ := lcL_rng (ρ0 := [some (.d (eT t)), some (.d (.int n)), some (.d (.int most)), some (.d (.lst ((namesT t).map .str))), some (.l (pl.map eS)), some (.d (.int (0 + (i : Nat)))), some (.d (.int d)), c7, c8, c9, none]) (G := toS 10) (f := b__law_measure_c2) D.str (fun x => x ∈ namesT t) (lo := 0) (n := j + 1) fun m hm => by
    obtain ⟨u, hu, e2⟩ := m_drawn d (0 + (m : Nat))
    obtain ⟨x, hx, hx'⟩ := at_mod (namesT t) hne (u / 4)
    have hp : 0 < ((namesT t).length : Int) := by have := List.length_pos_iff.mpr hne; omega
    refine ⟨_, x, rfl, ?_, hx'⟩
    simp only [Int.zero_add] at e2
    simp [b__law_measure_c2, e2, atI_map, hx, List.length_pos_iff.mpr hne]
  have zl : zs.length ≤ LIM := lim_lit (by omega)
  have pll : pl.length < LIM := by rw [LIM_eq]; omega
  have hs := sset_str (xs := zs) (by omega)
  have hul := usort_len stoT zs
  refine ⟨usort ltT zs, some (.d (.int d)), some (.d (.lst (zs.map .str))), ?_, usort_ne stoT (fun z => by rw [z] at f2; simp at f2), by omega, rising_usort stoT zs, fun x hx => f3 x ((mem_usort stoT).mp hx)⟩
  simp only [Int.zero_add] at f1
  simp [b__law_measure_L3, e1, hd, hj, big1 (show j ≤ 1000000 by omega), toNat1, f1, zl, hs, pll]
  rfl
theorem okD_pl {t : List Foot} (ht : TongueOk t) {pl : List (List Tx)} (h : ∀ s ∈ pl, placeOk t s) : okL 59 (pl.map eS) = true := okL_map fun s hs => okD_eS fun x hx => by
  obtain ⟨p, hp, e⟩ := List.mem_map.mp ((h s hs).2.2.2 x hx)
  rw [← e]
  exact okT_name (ht.nm p hp).1
theorem break_turn (t : List Foot) (ht : TongueOk t) (n : Int) (most : Nat) (i : Nat) (pl : List (List Tx)) (hpl : ∀ s ∈ pl, placeOk t s) (br : List (Int × Int)) (c6 c7 c9 : Option Cell) (hl : br.length ≤ 1000) (ok : ∀ p ∈ br, 0 ≤ p.1 ∧ p.1 < (pl.length : Int) ∧ 1 ≤ p.2 ∧ p.2 ≤ 3) :
    ∃ (br' : List (Int × Int)) (d6 : Option Cell), b__law_measure_L4 [some (.d (eT t)), some (.d (.int n)), some (.d (.int most)), some (.d (.lst ((namesT t).map .str))), some (.l (pl.map eS)), some (.d (.int (0 + (i : Nat)))), c6, c7, some (.l (br.map eP)), c9, none] =
    some (.nx [some (.d (eT t)), some (.d (.int n)), some (.d (.int most)), some (.d (.lst ((namesT t).map .str))), some (.l (pl.map eS)), some (.d (.int (0 + (i : Nat)))), d6, c7, some (.l (br'.map eP)), c9, none]) ∧ br'.length ≤ br.length + 1 ∧ ∀ p ∈ br', 0 ≤ p.1 ∧ p.1 < (pl.length : Int) ∧ 1 ≤ p.2 ∧ p.2 ≤ 3 := by
  obtain ⟨v, hv, e1⟩ := m_drawn n (40 + (i : Nat))
  generalize hd : v / 4 = d
  have ok1 : okD 60 (.lst (pl.map eS)) = true := okD_pl ht hpl
  have ok2 : okD 60 (.lst []) = true := rfl
  have ev : eqV (.lst (pl.map eS)) (.lst []) = decide (pl = []) := by
    have := (enc_eS.lst) pl []
    exact this
  have ne : neD (.lst (pl.map eS)) (.lst []) = some (.bl (!decide (pl = []))) := by
    unfold neD
    rw [if_pos ⟨ok1, ok2⟩, ev]
  by_cases hp : pl = []
  · subst hp
    refine ⟨br, some (.d (.int d)), ?_, by omega, ok⟩
    simp at ne
    simp [b__law_measure_L4, e1, hd, ne]
  · have hpos : 0 < pl.length := List.length_pos_iff.mpr hp
    have brl : br.length < LIM := by rw [LIM_eq]; omega
    refine ⟨br ++ [(d % (pl.length : Int), 1 + d / 8 % 3)], some (.d (.int d)), ?_, by simp, fun p hp' => ?_⟩
    · simp [b__law_measure_L4, e1, hd, ne, hp, hpos, brl, eP]
    · rcases List.mem_append.mp hp' with z | z
      · exact ok p z
      · have : p = (d % (pl.length : Int), 1 + d / 8 % 3) := by simpa using z
        subst this
        exact ⟨Int.emod_nonneg _ (by omega), Int.emod_lt_of_pos _ (by omega), by simp only; omega, by simp only; omega⟩
theorem m_measure (t : List Foot) (ht : TongueOk t) (n : Int) (most : Nat) (hmost : most ≤ 60) : ∃ m, G__law_measure [eT t, .int n, .int most] = some (eM m) ∧ MeasOk t m ∧ m.pl.length ≤ most := by
  have hm : 0 ≤ n % ((most : Int) + 1) ∧ n % ((most : Int) + 1) < most + 1 := ⟨Int.emod_nonneg _ (by omega), Int.emod_lt_of_pos _ (by omega)⟩
  obtain ⟨j, hj⟩ := Int.eq_ofNat_of_zero_le hm.1
  have hj2 : j ≤ most := by omega
  have hm' : 0 ≤ n / 8 % 3 ∧ n / 8 % 3 < 3 := by omega
  obtain ⟨k, hk⟩ := Int.eq_ofNat_of_zero_le hm'.1
  have hk2 : k < 3 := by omega
  have tl : t.length ≤ LIM := lim_lit (by have := ht.le; omega)
  have lc1 : lcL [some (.d (eT t)), some (.d (.int n)), some (.d (.int most)), none, none, none, none, none, none, none, none] (toS 9) (fun _ => some true) b__law_measure_c1 (t.map eF) = some (t.map fun p => .str p.1) :=
    lcL_all eF (fun p => .str p.1) t fun p hp => ⟨_, rfl, by simp [b__law_measure_c1, eF]⟩
  obtain ⟨ρ1, e1, pl, c5, c6, c7, rfl, p1, p2⟩ := loop_rng (G := toS 5) (fb := b__law_measure_L3) (fun i ρ => ∃ (pl : List (List Tx)) (c5 c6 c7 : Option Cell), ρ = [some (.d (eT t)), some (.d (.int n)), some (.d (.int most)), some (.d (.lst ((namesT t).map .str))), some (.l (pl.map eS)), c5, c6, c7, none, none, none] ∧ pl.length = i ∧ ∀ s ∈ pl, placeOk t s) (lo := 0) (n := j)
    (ρ := [some (.d (eT t)), some (.d (.int n)), some (.d (.int most)), some (.d (.lst ((namesT t).map .str))), some (.l []), none, none, none, none, none, none]) ⟨[], none, none, none, rfl, rfl, by simp⟩ fun i ρ hi ⟨pl, c5, c6, c7, e, h1, h2⟩ => by
      subst e
      obtain ⟨s, d6, d7, e, hs⟩ := place_turn t ht n most i pl c6 c7 none none (by omega)
      refine ⟨_, _, rfl, e, pl ++ [s], _, d6, d7, rfl, by simp [h1], fun x hx => ?_⟩
      rcases List.mem_append.mp hx with z | z
      · exact h2 x z
      · have : x = s := by simpa using z
        subst this; exact hs
  obtain ⟨ρ2, e2, br, c5', c6', rfl, q1, q2⟩ := loop_rng (G := toS 5) (fb := b__law_measure_L4) (fun i ρ => ∃ (br : List (Int × Int)) (c5 c6 : Option Cell), ρ = [some (.d (eT t)), some (.d (.int n)), some (.d (.int most)), some (.d (.lst ((namesT t).map .str))), some (.l (pl.map eS)), c5, c6, c7, some (.l (br.map eP)), none, none] ∧ br.length ≤ i ∧ ∀ p ∈ br, 0 ≤ p.1 ∧ p.1 < (pl.length : Int) ∧ 1 ≤ p.2 ∧ p.2 ≤ 3) (lo := 0) (n := k)
    (ρ := [some (.d (eT t)), some (.d (.int n)), some (.d (.int most)), some (.d (.lst ((namesT t).map .str))), some (.l (pl.map eS)), none, c6, c7, some (.l []), none, none]) ⟨[], none, c6, rfl, by simp, by simp⟩ fun i ρ hi ⟨br, c5, c6, e, h1, h2⟩ => by
      subst e
      obtain ⟨br', d6, e, hb1, hb2⟩ := break_turn t ht n most i pl p2 br c6 c7 none (by omega) h2
      exact ⟨_, _, rfl, e, br', _, d6, rfl, by omega, hb2⟩
  have hs := sset_pair (xs := br) (by omega) fun p hp => by have := q2 p hp; omega
  have hul := usort_len stoP br
  have lastq : eqD (.int (n / 32 % 2)) (.int 1) = some (.bl (decide (n / 32 % 2 = 1))) := by
    unfold eqD
    rw [if_pos ⟨rfl, rfl⟩, eqV_int]
  refine ⟨⟨pl, usort ltP br, decide (n / 32 % 2 = 1)⟩, ?_, ⟨p2, by show (usort ltP br).length ≤ 2; omega, rising_usort stoP br, fun p hp => q2 p ((mem_usort stoP).mp hp)⟩, by show pl.length ≤ most; omega⟩
  simp only [eT, namesT, List.map_map, Function.comp_def] at lc1 e1 e2 ⊢
  simp [G__law_measure, runF_eq, b__law_measure, lc1, tl, hj, hk, big_ok (lim_lit (show j ≤ 16777216 by omega)), big_ok (lim_lit (show k ≤ 16777216 by omega)), show (0 : Int) < most + 1 by omega, eT]
  have brl : (usort ltP br).length ≤ LIM := lim_lit (by omega)
  have pll : pl.length ≤ LIM := lim_lit (by omega)
  simp [e1, e2, hs, lastq, eM, brl, pll, hk, big_ok (lim_lit (show k ≤ 16777216 by omega))]
/-- by what is done already -/
theorem loopL_pre {α : Type} {G : D → Env → Option Env} {fb : Env → Option Out} (enc : α → D) (I : List α → Env → Prop) : ∀ (rest done : List α) (ρ : Env), I done ρ → (∀ dn x rs ρ, done ++ rest = dn ++ x :: rs → I dn ρ → ∃ ρ1 ρ2, G (enc x) ρ = some ρ1 ∧ fb ρ1 = some (.nx ρ2) ∧ I (dn ++ [x]) ρ2) →
    ∃ ρ', loopL G fb (rest.map enc) ρ = some (.nx ρ') ∧ I (done ++ rest) ρ'
  | [], done, ρ, h, _ => ⟨ρ, rfl, by simpa using h⟩
  | x :: rest, done, ρ, h, H => by
    obtain ⟨ρ1, ρ2, h1, h2, h3⟩ := H done x rest ρ rfl h
    obtain ⟨ρ', q1, q2⟩ := loopL_pre enc I rest (done ++ [x]) ρ2 h3 fun dn y rs ρ e hI => H dn y rs ρ (by rw [← e]; simp) hI
    refine ⟨ρ', ?_, by simpa using q2⟩
    rw [List.map_cons]
    unfold loopL
    rw [h1]
    simp only
    rw [h2]
    exact q1
theorem loop_pre {α : Type} {G : D → Env → Option Env} {fb : Env → Option Out} (enc : α → D) (I : List α → Env → Prop) (xs : List α) {ρ : Env} (h0 : I [] ρ) (H : ∀ dn x rs ρ, xs = dn ++ x :: rs → I dn ρ → ∃ ρ1 ρ2, G (enc x) ρ = some ρ1 ∧ fb ρ1 = some (.nx ρ2) ∧ I (dn ++ [x]) ρ2) :
    ∃ ρ', loopL G fb (xs.map enc) ρ = some (.nx ρ') ∧ I xs ρ' := loopL_pre enc I xs [] ρ h0 H
theorem neD_refl {x : D} (h : okD 60 x = true) : neD x x = some (.bl false) := by
  unfold neD
  rw [if_pos ⟨h, h⟩, eqv_refl]
  rfl
theorem eqD_refl {x : D} (h : okD 60 x = true) : eqD x x = some (.bl true) := by
  unfold eqD
  rw [if_pos ⟨h, h⟩, eqv_refl]
def txtM (m : Meas) : Prop := ∀ s ∈ m.pl, ∀ x ∈ s, okT x = true
theorem okD_eP {n : Nat} (p : Int × Int) : okD (n + 1) (eP p) = true := by
  show okL n _ = true
  cases n <;> rfl
theorem okD_M {m : Meas} (h : txtM m) : okD 60 (eM m) = true := by
  show okL 59 _ = true
  simp only [okL, Bool.and_eq_true, Bool.and_true]
  refine ⟨?_, ?_, rfl⟩
  · show okL 58 _ = true
    exact okL_map fun s hs => okD_eS (h s hs)
  · show okL 58 _ = true
    exact okL_map fun p _ => okD_eP p
theorem txt_joined {a b : Meas} (ha : txtM a) (hb : txtM b) : txtM (joined a b) := fun s hs => by
  rcases List.mem_append.mp hs with z | z
  · exact ha s z
  · exact hb s z
theorem txt_again {a : Meas} (ha : txtM a) : ∀ n, txtM (again a n)
  | 0 => fun s hs => by simp [again] at hs
  | n + 1 => txt_joined (txt_again ha n) ha
theorem txt_cut {a : Meas} (ha : txtM a) (k : Nat) : txtM (cut a k) := fun s hs => ha s (List.mem_of_mem_take hs)
theorem again_lo (a : Meas) : ∀ n, (again a n).lo = a.lo
  | 0 => rfl
  | n + 1 => rfl
theorem MeasOk.txt {t : List Foot} (ht : TongueOk t) {m : Meas} (h : MeasOk t m) : txtM m := fun s hs x hx => by
  obtain ⟨p, hp, e⟩ := List.mem_map.mp ((h.pl s hs).2.2.2 x hx)
  rw [← e]
  exact okT_name (ht.nm p hp).1
@[simp] theorem ix_eM0 {m : Meas} : ixD (eM m) (.int 0) = some (.tup (m.pl.map eS)) := by simp [eM]
@[simp] theorem ix_eM1 {m : Meas} : ixD (eM m) (.int 1) = some (.tup (m.br.map eP)) := by simp [eM]
@[simp] theorem ix_eM2 {m : Meas} : ixD (eM m) (.int 2) = some (.bl m.lo) := by simp [eM]
@[simp] theorem ix_eP0 {p : Int × Int} : ixD (eP p) (.int 0) = some (.int p.1) := by simp [eP]
@[simp] theorem ix_eP1 {p : Int × Int} : ixD (eP p) (.int 1) = some (.int p.2) := by simp [eP]
end Fo
end
-- FoM6.lean
set_option Elab.async false
set_option linter.all false
set_option maxRecDepth 100000
set_option maxHeartbeats 2000000
noncomputable section
namespace Fo
open PySem L2
open PySem.W (dataLe dataLt alike alikeAll)

/-! ### more of evaluation -/
def extC (i : Nat) (ρ : Env) : D → Option (Option Cell) → Option Out
  | .lst ds, some (some (.l xs)) => if xs.length + ds.length ≤ LIM then some (.nx (ρ.set i (some (.l (xs ++ ds))))) else none
  | _, _ => none
@[simp] theorem ev_ext {i : Nat} {f : Env → Option D} {ρ : Env} : extS i f ρ = (f ρ).bind fun d => extC i ρ d ρ[i]? := by
  unfold extS
  cases f ρ with
  | none => rfl
  | some d =>
    show _ = extC i ρ d ρ[i]?
    unfold extC
    generalize ρ[i]? = o
    cases d <;> first | rfl | (rcases o with _ | _ | c <;> first | rfl | (cases c <;> rfl))
@[simp] theorem extC_l {i : Nat} {ρ : Env} {xs ds : List D} : extC i ρ (.lst ds) (some (some (.l xs))) = if xs.length + ds.length ≤ LIM then some (.nx (ρ.set i (some (.l (xs ++ ds))))) else none := Eq.trans rfl rfl
def mvC (i j : Nat) (ρ : Env) : Option (Option Cell) → Option Out
  | some (some c) => some (.nx ((if c.own then ρ.set j none else ρ).set i (some c)))
  | _ => none
@[simp] theorem ev_mv {i j : Nat} {ρ : Env} : mvS i j ρ = mvC i j ρ ρ[j]? := by
  unfold mvS mvC
  generalize ρ[j]? = o
  rcases o with _ | _ | c <;> rfl
@[simp] theorem mvC_l {i j : Nat} {ρ : Env} {xs : List D} : mvC i j ρ (some (some (.l xs))) = some (.nx ((ρ.set j none).set i (some (.l xs)))) := rfl
@[simp] theorem mvC_d {i j : Nat} {ρ : Env} {x : D} : mvC i j ρ (some (some (.d x))) = some (.nx (ρ.set i (some (.d x)))) := rfl
@[simp] theorem ev_none {ρ : Env} : (fun _ : Env => (none : Option Out)) ρ = none := rfl
theorem eqD_str {x y : Tx} (hx : okT x = true) (hy : okT y = true) : eqD (.str x) (.str y) = some (.bl (decide (x = y))) := by
  unfold eqD
  rw [if_pos ⟨okD_str hx, okD_str hy⟩, eqV_str]
theorem eqD_int {x y : Int} : eqD (.int x) (.int y) = some (.bl (decide (x = y))) := by
  unfold eqD
  rw [if_pos ⟨rfl, rfl⟩, eqV_int]
theorem neD_int {x y : Int} : neD (.int x) (.int y) = some (.bl (!decide (x = y))) := by
  unfold neD
  rw [if_pos ⟨rfl, rfl⟩, eqV_int]
theorem neD_bl {x y : Bool} : neD (.bl x) (.bl y) = some (.bl (!decide (x = y))) := by
  unfold neD
  rw [if_pos ⟨rfl, rfl⟩, eqV_bl]
@[simp] theorem items_eS {xs : List Tx} : itemsD (eS xs) = some (xs.map .str) := rfl
@[simp] theorem len_eS {xs : List Tx} : lenD [eS xs] = some (.int xs.length) := by simp [eS]
@[simp] theorem len_eM0 {xs : List (List Tx)} : lenD [.tup (xs.map eS)] = some (.int xs.length) := by simp
@[simp] theorem items_eT {t : List Foot} : itemsD (eT t) = some (t.map eF) := rfl
/-! ### forms_of, pairs_of -/
def formsOf (t : List Foot) (x : Tx) : List Tx := ((t.find? fun p => decide (p.1 = x)).map (·.2)).getD []
theorem TongueOk.okT {t : List Foot} (ht : TongueOk t) {x : Tx} (h : x ∈ namesT t) : Fo.okT x = true := by
  obtain ⟨p, hp, e⟩ := List.mem_map.mp h
  rw [← e]; exact okT_name (ht.nm p hp).1
theorem forms_mem {t : List Foot} (ht : TongueOk t) {x : Tx} (h : x ∈ namesT t) : ∃ p ∈ t, p.1 = x ∧ formsOf t x = p.2 := by
  unfold formsOf
  cases e : t.find? fun p => decide (p.1 = x) with
  | none =>
    obtain ⟨p, hp, e'⟩ := List.mem_map.mp h
    have := List.find?_eq_none.mp e p hp
    simp [e'] at this
  | some p =>
    exact ⟨p, List.mem_of_find?_eq_some e, by simpa using List.find?_some e, rfl⟩
theorem forms_ok {t : List Foot} (ht : TongueOk t) {x : Tx} (h : x ∈ namesT t) : formsOk (formsOf t x) := by
  obtain ⟨p, hp, _, e⟩ := forms_mem ht h
  rw [e]; exact (ht.nm p hp).2
theorem m_forms_of {t : List Foot} (ht : TongueOk t) {x : Tx} (h : x ∈ namesT t) : G_forms_of [eT t, .str x] = some (eS (formsOf t x)) := by
  have okx := ht.okT h
  have key : ∀ (l : List Foot) (c : Option Cell) (d0 : Option Cell), (∀ p ∈ l, okT p.1 = true) → ∀ p, (l.find? fun p => decide (p.1 = x)) = some p → loopL (toS 2) b_forms_of_L1 (l.map eF) [d0, some (.d (.str x)), c] = some (.rt (eS p.2)) := by
    intro l
    induction l with
    | nil => intro c d0 _ p e; simp at e
    | cons q l ih =>
      intro c d0 hok p e
      have hq := hok q (List.mem_cons_self ..)
      rw [List.map_cons]
      unfold loopL
      by_cases hx : q.1 = x
      · rw [List.find?_cons_of_pos (by simpa using hx)] at e
        cases e
        have := eqD_str hq okx
        simp [b_forms_of_L1, eF, this, hx]
        simp [hx, eqD_str okx okx]
      · rw [List.find?_cons_of_neg (by simpa using hx)] at e
        have := eqD_str hq okx
        simp [b_forms_of_L1, eF, this, hx]
        exact ih _ _ (fun p hp => hok p (List.mem_cons_of_mem _ hp)) p e
  cases e : t.find? fun p => decide (p.1 = x) with
  | none =>
    obtain ⟨p, hp, e'⟩ := List.mem_map.mp h
    have := List.find?_eq_none.mp e p hp
    simp [e'] at this
  | some p =>
    have k := key t none (some (.d (eT t))) (fun p hp => okT_name (ht.nm p hp).1) p e
    have ef : formsOf t x = p.2 := by unfold formsOf; rw [e]; rfl
    simp only [eT] at k ⊢
    simp [G_forms_of, runF_eq, b_forms_of, k, ef]
abbrev Pr := Tx × Tx
def ePr (p : Pr) : D := .tup [.str p.1, .str p.2]
def prOf (t : List Foot) (x : Tx) : List Pr := (formsOf t x).map fun f => (x, f)
def pairsT (t : List Foot) (pl : List Tx) : List Pr := pl.flatMap (prOf t)
theorem pairs_len {t : List Foot} (ht : TongueOk t) {pl : List Tx} (h : ∀ x ∈ pl, x ∈ namesT t) : (pairsT t pl).length ≤ 3 * pl.length := by
  unfold pairsT
  induction pl with
  | nil => simp
  | cons x pl ih =>
    have h1 := (forms_ok ht (h x (List.mem_cons_self ..))).2.1
    have h2 := ih fun y hy => h y (List.mem_cons_of_mem _ hy)
    simp only [List.flatMap_cons, List.length_append, List.length_cons]
    have : (prOf t x).length = (formsOf t x).length := by simp [prOf]
    omega
theorem m_pairs_of {t : List Foot} (ht : TongueOk t) {pl : List Tx} (h : ∀ x ∈ pl, x ∈ namesT t) (hl : pl.length ≤ 1000) : G_pairs_of [eT t, eS pl] = some (.lst ((pairsT t pl).map ePr)) := by
  obtain ⟨ρ', e, c3, rfl⟩ := loop_pre (G := toS 3) (fb := b_pairs_of_L2) D.str (fun dn ρ => ∃ c3, ρ = [some (.d (eT t)), some (.d (eS pl)), some (.l ((pairsT t dn).map ePr)), c3, none]) pl
    (ρ := [some (.d (eT t)), some (.d (eS pl)), some (.l []), none, none]) ⟨none, rfl⟩ fun dn x rs ρ e ⟨c3, z⟩ => by
      subst z
      have hx : x ∈ namesT t := h x (by rw [e]; simp)
      have hdn : ∀ y ∈ dn, y ∈ namesT t := fun y hy => h y (by rw [e]; simp [hy])
      have l1 := pairs_len ht hdn
      have l2 := (forms_ok ht hx).2.1
      have l3 : dn.length ≤ pl.length := by rw [e]; simp
      have mf := m_forms_of ht hx
      have lim1 : (pairsT t dn).length + (formsOf t x).length ≤ LIM := lim_lit (by omega)
      have lim2 : (formsOf t x).length ≤ LIM := lim_lit (by omega)
      refine ⟨_, [some (.d (eT t)), some (.d (eS pl)), some (.l ((pairsT t (dn ++ [x])).map ePr)), some (.d (.str x)), none], rfl, ?_, _, rfl⟩
      have lc : lcL [some (.d (eT t)), some (.d (eS pl)), some (.l ((pairsT t dn).map ePr)), some (.d (.str x)), none] (toS 4) (fun _ => some true) b_pairs_of_c1 ((formsOf t x).map .str) = some ((formsOf t x).map fun f => ePr (x, f)) :=
        lcL_all D.str (fun f => ePr (x, f)) _ fun f hf => ⟨_, rfl, by simp [b_pairs_of_c1, ePr]⟩
      simp [b_pairs_of_L2, mf, lc, lim1, lim2]
      simp [pairsT, prOf]
  simp [G_pairs_of, runF_eq, b_pairs_of, e]
end Fo
end
-- FoM7.lean
set_option Elab.async false
set_option linter.all false
set_option maxRecDepth 100000
set_option maxHeartbeats 2000000
noncomputable section
namespace Fo
open PySem L2
open PySem.W (dataLe dataLt alike alikeAll)

/-! ### rows -/
abbrev Row := List Pr
def eR (r : Row) : D := .tup (r.map ePr)
def rowStep (t : List Foot) (rows : List Row) (pl : List Tx) : List Row := rows.flatMap fun r => (pairsT t pl).map fun p => r ++ [p]
def rowsT (t : List Foot) (pls : List (List Tx)) : List Row := pls.foldl (rowStep t) [[]]
def plOk (t : List Foot) (pl : List Tx) : Prop := pl.length ≤ 3 ∧ ∀ x ∈ pl, x ∈ namesT t
theorem flat_le {α β : Type} (f : α → List β) (k : Nat) : ∀ xs : List α, (∀ x ∈ xs, (f x).length ≤ k) → (xs.flatMap f).length ≤ xs.length * k
  | [], _ => by simp
  | x :: xs, h => by
    have h1 := h x (List.mem_cons_self ..)
    have h2 := flat_le f k xs fun y hy => h y (List.mem_cons_of_mem _ hy)
    rw [List.flatMap_cons, List.length_append, List.length_cons, Nat.succ_mul]
    omega
theorem step_len {t : List Foot} (ht : TongueOk t) {rows : List Row} {pl : List Tx} (h : plOk t pl) : (rowStep t rows pl).length ≤ rows.length * 9 := by
  refine flat_le _ 9 rows fun r _ => ?_
  have := pairs_len ht h.2
  have := h.1
  rw [List.length_map]; omega
theorem rows_len {t : List Foot} (ht : TongueOk t) : ∀ (pls : List (List Tx)) (rows : List Row), (∀ pl ∈ pls, plOk t pl) → (pls.foldl (rowStep t) rows).length ≤ rows.length * 9 ^ pls.length
  | [], rows, _ => by simp
  | pl :: pls, rows, h => by
    have h1 := step_len ht (rows := rows) (h pl (List.mem_cons_self ..))
    have h2 := rows_len ht pls (rowStep t rows pl) fun q hq => h q (List.mem_cons_of_mem _ hq)
    rw [List.foldl_cons, List.length_cons]
    refine Nat.le_trans h2 ?_
    rw [Nat.pow_succ, Nat.mul_comm (9 ^ pls.length) 9, ← Nat.mul_assoc]
    exact Nat.mul_le_mul_right _ h1
/-- one place more -/
theorem rows_turn {t : List Foot} (ht : TongueOk t) (m : D) (rows : List Row) (pl : List Tx) (h : plOk t pl) (hr : rows.length * 9 ≤ LIM) (hrow : ∀ r ∈ rows, r.length ≤ 1000) (c2 c4 c5 : Option Cell) (hc : c2 = some (.l (rows.map eR))) :
    ∃ d5, b_all_rows_L3 [some (.d (eT t)), some (.d m), c2, some (.d (eS pl)), c4, c5, none] = some (.nx [some (.d (eT t)), some (.d m), some (.l ((rowStep t rows pl).map eR)), some (.d (eS pl)), none, d5, none]) := by
  subst hc
  have mp := m_pairs_of ht h.2 (by have := h.1; omega)
  have pl9 : (pairsT t pl).length ≤ 9 := by have := pairs_len ht h.2; have := h.1; omega
  obtain ⟨ρ', e, d5, rfl⟩ := loop_pre (G := toS 5) (fb := b_all_rows_L2) eR (fun dn ρ => ∃ c5, ρ = [some (.d (eT t)), some (.d m), some (.d (.lst (rows.map eR))), some (.d (eS pl)), some (.l ((rowStep t dn pl).map eR)), c5, none]) rows
    (ρ := [some (.d (eT t)), some (.d m), some (.d (.lst (rows.map eR))), some (.d (eS pl)), some (.l []), c5, none]) ⟨c5, rfl⟩ fun dn r rs ρ e ⟨c5, z⟩ => by
      subst z
      have l1 := step_len ht (rows := dn) h
      have l3 : dn.length + 1 ≤ rows.length := by rw [e]; simp
      have lim2 : (pairsT t pl).length ≤ LIM := lim_lit (by omega)
      have lim1 : (rowStep t dn pl).length + (pairsT t pl).length ≤ LIM := Nat.le_trans (by omega) hr
      have rl : r.length + 1 ≤ LIM := by
        have := hrow r (by rw [e]; simp)
        exact lim_lit (by omega)
      have lc : lcL [some (.d (eT t)), some (.d m), some (.d (.lst (rows.map eR))), some (.d (eS pl)), some (.l ((rowStep t dn pl).map eR)), some (.d (eR r)), none] (toS 6) (fun _ => some true) b_all_rows_c1 ((pairsT t pl).map ePr) = some ((pairsT t pl).map fun p => eR (r ++ [p])) :=
        lcL_all ePr (fun p => eR (r ++ [p])) _ fun p _ => ⟨_, rfl, by simp [b_all_rows_c1, eR, rl]⟩
      refine ⟨_, [some (.d (eT t)), some (.d m), some (.d (.lst (rows.map eR))), some (.d (eS pl)), some (.l ((rowStep t (dn ++ [r]) pl).map eR)), some (.d (eR r)), none], rfl, ?_, _, rfl⟩
      simp [b_all_rows_L2, mp, lc, lim1, lim2]
      simp [rowStep]
  exact ⟨none, by simp [b_all_rows_L3, e, Cell.own]⟩
theorem rows_each {t : List Foot} : ∀ (pls : List (List Tx)) (rows : List Row) (k : Nat), (∀ r ∈ rows, r.length = k) → ∀ r ∈ pls.foldl (rowStep t) rows, r.length = k + pls.length
  | [], rows, k, h, r, hr => by simpa using h r hr
  | pl :: pls, rows, k, h, r, hr => by
    rw [List.foldl_cons] at hr
    have := rows_each pls (rowStep t rows pl) (k + 1) (fun q hq => ?_) r hr
    · rw [this, List.length_cons]; omega
    · unfold rowStep at hq
      obtain ⟨r0, h0, hq⟩ := List.mem_flatMap.mp hq
      obtain ⟨p, _, rfl⟩ := List.mem_map.mp hq
      rw [List.length_append, h r0 h0]; rfl
theorem pow9 {n : Nat} (h : n ≤ 7) : 9 ^ n ≤ 4782969 := Nat.le_trans (Nat.pow_le_pow_right (by decide) h) (by decide)
theorem m_all_rows {t : List Foot} (ht : TongueOk t) (m : Meas) (hp : ∀ pl ∈ m.pl, plOk t pl) (hn : m.pl.length ≤ 7) : G_all_rows [eT t, eM m] = some (.lst ((rowsT t m.pl).map eR)) := by
  obtain ⟨ρ', e, c3, c5, rfl⟩ := loop_pre (G := toS 3) (fb := b_all_rows_L3) eS (fun dn ρ => ∃ c3 c5, ρ = [some (.d (eT t)), some (.d (eM m)), some (.l ((rowsT t dn).map eR)), c3, none, c5, none]) m.pl
    (ρ := [some (.d (eT t)), some (.d (eM m)), some (.l [.tup []]), none, none, none, none]) ⟨none, none, rfl⟩ fun dn pl rs ρ e ⟨c3, c5, z⟩ => by
      subst z
      have hdn : ∀ q ∈ dn, plOk t q := fun q hq => hp q (by rw [e]; simp [hq])
      have ld : dn.length + 1 ≤ 7 := by
        have := congrArg List.length e
        simp at this; omega
      have l1 := rows_len ht dn [[]] hdn
      have l9 : (rowsT t dn).length * 9 ≤ LIM := by
        refine lim_lit ?_
        have : 9 ^ dn.length * 9 ≤ 4782969 := by rw [← Nat.pow_succ]; exact pow9 ld
        have l1' : (rowsT t dn).length ≤ 9 ^ dn.length := by simpa [rowsT] using l1
        have := Nat.mul_le_mul_right 9 l1'
        omega
      have lr : ∀ r ∈ rowsT t dn, r.length ≤ 1000 := fun r hr => by
        have := rows_each dn [[]] 0 (by simp) r hr
        omega
      obtain ⟨d5, q⟩ := rows_turn ht (eM m) (rowsT t dn) pl (hp pl (by rw [e]; simp)) l9 lr _ none c5 rfl
      refine ⟨_, _, rfl, q, some (.d (eS pl)), d5, ?_⟩
      simp [rowsT]
  simp [G_all_rows, runF_eq, b_all_rows, e, lim_lit]
/-! ### shapes -/
def shapeOf (r : Row) : Tx := (r.map (·.2)).flatten
def looseT (x : Tx) (lo : Bool) : List Tx := if !lo || decide (x = []) then [x] else [x.dropLast ++ [108], x.dropLast ++ [115]]
def shapesAll (t : List Foot) (m : Meas) : List Tx := (rowsT t m.pl).flatMap fun r => looseT (shapeOf r) m.lo
def shapesT (t : List Foot) (m : Meas) : List Tx := usort ltT (shapesAll t m)
theorem m_shape_of (r : Row) (h1 : r.length ≤ 1000) (h2 : ∀ p ∈ r, p.2.length ≤ 1000) : G_shape_of [eR r] = some (.str (shapeOf r)) := by
  have lc : lcL [some (.d (eR r)), none, none] (toTup 2 (toCons (toS 1) (toCons (toS 2) toNil))) (fun _ => some true) b_shape_of_c1 (r.map ePr) = some (r.map fun p => .str p.2) :=
    lcL_all ePr (fun p => .str p.2) _ fun p _ => ⟨_, rfl, by simp [b_shape_of_c1]⟩
  have e2 : (r.map fun p => D.str p.2) = (r.map (·.2)).map D.str := by rw [List.map_map]; rfl
  rw [e2] at lc
  have lr : r.length ≤ LIM := lim_lit (by omega)
  have jo : joinOk [] (r.map (·.2)) = true := by
    unfold joinOk
    refine decide_eq_true (lim_lit ?_)
    have key : ∀ xs : List Tx, (∀ x ∈ xs, x.length ≤ 1000) → (xs.map (·.length)).sum ≤ xs.length * 1000 := by
      intro xs
      induction xs with
      | nil => simp
      | cons x xs ih =>
        intro h
        have a := h x (List.mem_cons_self ..)
        have c := ih fun y hy => h y (List.mem_cons_of_mem _ hy)
        simp only [List.map_cons, List.sum_cons, List.length_cons, Nat.succ_mul]
        omega
    have := key (r.map (·.2)) fun x hx => by
      obtain ⟨p, hp, rfl⟩ := List.mem_map.mp hx
      exact h2 p hp
    simp only [List.length_map, List.length_nil, Nat.mul_zero, Nat.add_zero] at this ⊢
    omega
  have it : itemsD (eR r) = some (r.map ePr) := rfl
  simp [-List.map_map, G_shape_of, runF_eq, b_shape_of, it, lc, lr, tyD, jo, joinT_nil, shapeOf]
theorem cut_last (x : Tx) : cutL x none (some (-1)) = x.dropLast := by
  show (x.drop 0).take ((-1 + (x.length : Int)).toNat - 0) = _
  have e : (-1 + (x.length : Int)).toNat - 0 = x.length - 1 := by omega
  rw [List.dropLast_eq_take, e]
  rfl
theorem m_loosened (x : Tx) (lo : Bool) (ok : okT x = true) (hl : x.length ≤ 1000) : G_loosened [.str x, .bl lo] = some (.lst ((looseT x lo).map .str)) := by
  have e1 := eqD_str ok (show okT [] = true from rfl)
  have lx : x.length ≤ LIM := lim_lit (by omega)
  have ld : x.length - 1 + 1 ≤ LIM := lim_lit (by omega)
  have l2 : (2 : Nat) ≤ LIM := lim_lit (by decide)
  have lc : lcL [some (.d (.str x)), some (.d (.bl lo)), none] (toS 2) (fun _ => some true) b_loosened_c1 (sgns [108, 115]) = some [.str (x.dropLast ++ [108]), .str (x.dropLast ++ [115])] :=
    lcL_all (fun c : Nat => D.str [c]) (fun c => .str (x.dropLast ++ [c])) [108, 115] fun c _ => ⟨_, rfl, by simp [b_loosened_c1, lx, cut_last, ld]⟩
  by_cases hx : x = []
  · subst hx
    cases lo <;> simp [G_loosened, runF_eq, b_loosened, e1, looseT]
  · cases lo <;> simp [G_loosened, runF_eq, b_loosened, e1, looseT, hx, lc, l2]
end Fo
end
-- FoM8.lean
set_option Elab.async false
set_option linter.all false
set_option maxRecDepth 100000
set_option maxHeartbeats 2000000
noncomputable section
namespace Fo
open PySem L2
open PySem.W (dataLe dataLt alike alikeAll)

/-! ### texts as a dict's keys -/
def keysE (kl : List Tx) : List (D × D) := kl.map fun x => (.str x, .bl true)
def addK (kl : List Tx) (x : Tx) : List Tx := if x ∈ kl then kl else kl ++ [x]
theorem putK_keys (kl : List Tx) (x : Tx) : putD (keysE kl) (.str x) (.bl true) = keysE (addK kl x) := by
  have e : hasD (keysE kl) (.str x) = decide (x ∈ kl) := by
    unfold hasD keysE
    rw [List.any_map]
    by_cases h : x ∈ kl
    · rw [decide_eq_true h, List.any_eq_true]
      exact ⟨x, h, by simp [keq]⟩
    · rw [decide_eq_false h]
      rw [List.any_eq_false]
      intro y hy
      simp only [Function.comp_def, keq, decide_eq_true_eq]
      exact fun z => h (z ▸ hy)
  unfold putD addK
  rw [e]
  by_cases h : x ∈ kl
  · rw [if_pos (by simpa using h), if_pos h]
    unfold keysE
    rw [List.map_map]
    refine List.map_congr_left fun y _ => ?_
    simp only [Function.comp_def]
    split <;> rfl
  · rw [if_neg (by simpa using h), if_neg h]
    simp [keysE]
theorem addK_ok {kl : List Tx} (nd : kl.Nodup) (x : Tx) : (addK kl x).Nodup ∧ (∀ z, z ∈ addK kl x ↔ z ∈ kl ∨ z = x) ∧ (addK kl x).length ≤ kl.length + 1 := by
  unfold addK
  split
  · rename_i h
    exact ⟨nd, fun z => ⟨.inl, fun q => q.elim id fun e => e ▸ h⟩, by omega⟩
  · rename_i h
    refine ⟨List.nodup_append.mpr ⟨nd, by simp, fun a ha b hb => ?_⟩, fun z => by simp, by simp⟩
    have : b = x := by simpa using hb
    subst this
    exact fun z => h (z ▸ ha)
theorem sort_strs {kl : List Tx} (nd : kl.Nodup) : sortD (kl.map .str) = (usort ltT kl).map .str := by
  rw [sortD_enc D.str ltT kl fun a _ b _ => by
    show dataLt (.str (tx a)) (.str (tx b)) = _
    rw [PySem.W.dataLt_str, tx_cps, tx_cps, ← ltT_lt], sort_nodup stoT nd]
theorem srtOk_strs {kl : List Tx} (ok : ∀ x ∈ kl, okT x = true) (hl : kl.length ≤ LIM) : srtOk (kl.map .str) = true := by
  unfold srtOk
  simp only [Bool.and_eq_true, Bool.or_eq_true, decide_eq_true_eq]
  refine ⟨⟨⟨okL_map fun x hx => okD_str (ok x hx), ?_⟩, .inl (.inr ?_)⟩, by rw [List.length_map]; exact hl⟩
  · rw [List.all_eq_true]
    intro x hx
    rw [List.all_eq_true]
    intro y hy
    obtain ⟨p, _, rfl⟩ := List.mem_map.mp hx
    obtain ⟨q, _, rfl⟩ := List.mem_map.mp hy
    simp [alikeD, py, alike]
  · rw [List.all_eq_true]
    intro x hx
    obtain ⟨p, _, rfl⟩ := List.mem_map.mp hx
    rfl
theorem sorted_keysE {kl : List Tx} (nd : kl.Nodup) (ok : ∀ x ∈ kl, okT x = true) (hl : kl.length ≤ LIM) : sortedD [.dct (keysE kl)] = some (.lst ((usort ltT kl).map .str)) := by
  have e : keysD (keysE kl) = kl.map .str := by simp [keysD, keysE, Function.comp_def]
  unfold sortedD
  simp only
  rw [e, if_pos (srtOk_strs ok hl), sort_strs nd]
theorem usort_same {kl xs : List Tx} (h : ∀ z, z ∈ kl ↔ z ∈ xs) : usort ltT kl = usort ltT xs :=
  rising_unique stoT (rising_usort stoT _) (rising_usort stoT _) fun z => by rw [mem_usort stoT, mem_usort stoT]; exact h z
/-! ### what stands in rows -/
theorem rows_mem {t : List Foot} : ∀ (pls : List (List Tx)) (rows : List Row) (P : Pr → Prop), (∀ r ∈ rows, ∀ p ∈ r, P p) → (∀ pl ∈ pls, ∀ p ∈ pairsT t pl, P p) → ∀ r ∈ pls.foldl (rowStep t) rows, ∀ p ∈ r, P p
  | [], rows, P, h, _, r, hr => h r hr
  | pl :: pls, rows, P, h, h2, r, hr => by
    rw [List.foldl_cons] at hr
    refine rows_mem pls (rowStep t rows pl) P (fun q hq => ?_) (fun q hq => h2 q (List.mem_cons_of_mem _ hq)) r hr
    unfold rowStep at hq
    obtain ⟨r0, h0, hq⟩ := List.mem_flatMap.mp hq
    obtain ⟨p, hp, rfl⟩ := List.mem_map.mp hq
    intro x hx
    rcases List.mem_append.mp hx with z | z
    · exact h r0 h0 x z
    · have : x = p := by simpa using z
      subst this
      exact h2 pl (List.mem_cons_self ..) x hp
theorem pairs_form {t : List Foot} (ht : TongueOk t) {pl : List Tx} (h : ∀ x ∈ pl, x ∈ namesT t) : ∀ p ∈ pairsT t pl, p.1 ∈ namesT t ∧ p.2 ∈ formsOf t p.1 ∧ formOk p.2 := fun p hp => by
  unfold pairsT at hp
  obtain ⟨x, hx, hp⟩ := List.mem_flatMap.mp hp
  obtain ⟨f, hf, rfl⟩ := List.mem_map.mp hp
  exact ⟨h x hx, hf, (forms_ok ht (h x hx)).2.2.2 f hf⟩
theorem row_form {t : List Foot} (ht : TongueOk t) {pls : List (List Tx)} (h : ∀ pl ∈ pls, plOk t pl) {r : Row} (hr : r ∈ rowsT t pls) : (∀ p ∈ r, p.1 ∈ namesT t ∧ p.2 ∈ formsOf t p.1 ∧ formOk p.2) ∧ r.length = pls.length :=
  ⟨rows_mem pls [[]] _ (by simp) (fun pl hpl => pairs_form ht (h pl hpl).2) r hr, by simpa using rows_each pls [[]] 0 (by simp) r hr⟩
theorem shape_ls {r : Row} (h : ∀ p ∈ r, formOk p.2) : lsT (shapeOf r) ∧ (shapeOf r).length ≤ 3 * r.length := by
  unfold shapeOf
  induction r with
  | nil => exact ⟨fun c hc => by simp at hc, by simp⟩
  | cons p r ih =>
    obtain ⟨a, b⟩ := ih fun q hq => h q (List.mem_cons_of_mem _ hq)
    have hp := h p (List.mem_cons_self ..)
    refine ⟨fun c hc => ?_, ?_⟩
    · rw [List.map_cons, List.flatten_cons] at hc
      rcases List.mem_append.mp hc with z | z
      · exact hp.2.2 c z
      · exact a c z
    · rw [List.map_cons, List.flatten_cons, List.length_append, List.length_cons]
      have := hp.2.1
      omega
theorem loose_ls {x : Tx} (h : lsT x) (lo : Bool) : ∀ y ∈ looseT x lo, lsT y ∧ y.length = x.length := by
  intro y hy
  unfold looseT at hy
  split at hy
  · have : y = x := by simpa using hy
    subst this
    exact ⟨h, rfl⟩
  · rename_i hc
    have hx : x ≠ [] := fun z => hc (by simp [z])
    have hl : 0 < x.length := List.length_pos_iff.mpr hx
    have hd : ∀ c, c = 108 ∨ c = 115 → lsT (x.dropLast ++ [c]) := fun c hc k hk => by
      rcases List.mem_append.mp hk with z | z
      · exact h k (List.dropLast_subset x z)
      · have : k = c := by simpa using z
        rw [this]; exact hc
    have : y = x.dropLast ++ [108] ∨ y = x.dropLast ++ [115] := by simpa using hy
    rcases this with rfl | rfl
    · exact ⟨hd 108 (.inl rfl), by simp; omega⟩
    · exact ⟨hd 115 (.inr rfl), by simp; omega⟩
theorem loose_len (x : Tx) (lo : Bool) : (looseT x lo).length ≤ 2 := by
  unfold looseT
  split <;> simp
theorem shapes_ls {t : List Foot} (ht : TongueOk t) {m : Meas} (h : ∀ pl ∈ m.pl, plOk t pl) : ∀ x ∈ shapesAll t m, lsT x ∧ x.length ≤ 3 * m.pl.length := by
  intro x hx
  obtain ⟨r, hr, hx⟩ := List.mem_flatMap.mp hx
  obtain ⟨a, b⟩ := row_form ht h hr
  obtain ⟨c, d⟩ := shape_ls fun p hp => (a p hp).2.2
  obtain ⟨e, f⟩ := loose_ls c m.lo x hx
  exact ⟨e, by rw [f]; omega⟩
theorem shapes_len {t : List Foot} (ht : TongueOk t) {m : Meas} (h : ∀ pl ∈ m.pl, plOk t pl) (hn : m.pl.length ≤ 7) : (shapesAll t m).length ≤ 9565938 := by
  have h1 : (rowsT t m.pl).length ≤ 9 ^ m.pl.length := by simpa [rowsT] using rows_len ht m.pl [[]] h
  have h2 := flat_le (fun r => looseT (shapeOf r) m.lo) 2 (rowsT t m.pl) fun r _ => loose_len _ _
  have h3 := pow9 hn
  show ((rowsT t m.pl).flatMap fun r => looseT (shapeOf r) m.lo).length ≤ _
  omega
theorem m_shapes {t : List Foot} (ht : TongueOk t) (m : Meas) (hp : ∀ pl ∈ m.pl, plOk t pl) (hn : m.pl.length ≤ 7) : G_shapes [eT t, eM m] = some (eS (shapesT t m)) := by
  have mr := m_all_rows ht m hp hn
  have hall := shapes_len ht hp hn
  obtain ⟨ρ', e, kl, c3, c4, rfl, nd, mem, len⟩ := loop_pre (G := toS 3) (fb := b_shapes_L2) eR (fun dn ρ => ∃ kl c3 c4, ρ = [some (.d (eT t)), some (.d (eM m)), some (.k (keysE kl)), c3, c4] ∧ kl.Nodup ∧ (∀ z, z ∈ kl ↔ z ∈ dn.flatMap fun r => looseT (shapeOf r) m.lo) ∧ kl.length ≤ (dn.flatMap fun r => looseT (shapeOf r) m.lo).length) (rowsT t m.pl)
    (ρ := [some (.d (eT t)), some (.d (eM m)), some (.k []), none, none]) ⟨[], none, none, rfl, by simp, by simp, by simp⟩ fun dn r rs ρ e ⟨kl, c3, c4, z, nd, mem, len⟩ => by
      subst z
      have hr : r ∈ rowsT t m.pl := by rw [e]; simp
      obtain ⟨a, b⟩ := row_form ht hp hr
      obtain ⟨c, d⟩ := shape_ls fun p hp => (a p hp).2.2
      have ms := m_shape_of r (by omega) fun p hp => by have := (a p hp).2.2.2.1; omega
      have ml := m_loosened (shapeOf r) m.lo (okT_ls c) (by omega)
      have tot : (dn.flatMap fun r => looseT (shapeOf r) m.lo).length + (looseT (shapeOf r) m.lo).length ≤ (shapesAll t m).length := by
        unfold shapesAll
        rw [e]
        simp only [List.flatMap_append, List.flatMap_cons, List.length_append]
        omega
      obtain ⟨ρ2, e2, kl2, c42, rfl, nd2, mem2, len2⟩ := loop_pre (G := toS 4) (fb := b_shapes_L1) D.str (fun d2 ρ => ∃ kl2 c4, ρ = [some (.d (eT t)), some (.d (eM m)), some (.k (keysE kl2)), some (.d (eR r)), c4] ∧ kl2.Nodup ∧ (∀ z, z ∈ kl2 ↔ z ∈ kl ∨ z ∈ d2) ∧ kl2.length ≤ kl.length + d2.length) (looseT (shapeOf r) m.lo)
        (ρ := [some (.d (eT t)), some (.d (eM m)), some (.k (keysE kl)), some (.d (eR r)), c4]) ⟨kl, c4, rfl, nd, by simp, by simp⟩ fun d2 x rs2 ρ e2 ⟨kl2, c4, z, nd2, mem2, len2⟩ => by
          subst z
          obtain ⟨p1, p2, p3⟩ := addK_ok nd2 x
          have ll : d2.length + 1 ≤ (looseT (shapeOf r) m.lo).length := by rw [e2]; simp
          have lim : kl2.length < LIM := by rw [LIM_eq]; omega
          have lim' : (keysE kl2).length < LIM := by simpa [keysE] using lim
          refine ⟨_, [some (.d (eT t)), some (.d (eM m)), some (.k (keysE (addK kl2 x))), some (.d (eR r)), some (.d (.str x))], rfl, ?_, addK kl2 x, _, rfl, p1, fun z => ?_, ?_⟩
          · simp [b_shapes_L1, lim', putK_keys]
          · rw [p2 z, mem2 z]
            simp only [List.mem_append, List.mem_singleton, or_assoc]
          · simp only [List.length_append, List.length_singleton]; omega
      refine ⟨_, [some (.d (eT t)), some (.d (eM m)), some (.k (keysE kl2)), some (.d (eR r)), none], rfl, ?_, kl2, _, _, rfl, nd2, fun z => ?_, ?_⟩
      · simp [b_shapes_L2, ms, ml, e2]
      · rw [mem2 z, mem z]
        simp
      · simp only [List.flatMap_append, List.flatMap_cons, List.flatMap_nil, List.append_nil, List.length_append]
        omega
  have memA : ∀ z, z ∈ kl ↔ z ∈ shapesAll t m := mem
  have len' : kl.length ≤ (shapesAll t m).length := len
  have ok : ∀ x ∈ kl, okT x = true := fun x hx => okT_ls (shapes_ls ht hp x ((memA x).mp hx)).1
  have srt := sorted_keysE nd ok (lim_lit (by omega))
  have us : usort ltT kl = shapesT t m := usort_same memA
  simp [G_shapes, runF_eq, b_shapes, mr, e, srt, us, eS]
end Fo
end
-- FoM9.lean
set_option Elab.async false
set_option linter.all false
set_option maxRecDepth 100000
set_option maxHeartbeats 2000000
noncomputable section
namespace Fo
open PySem L2
open PySem.W (dataLe dataLt alike alikeAll)

theorem memV_str {x : Tx} {xs : List Tx} : memV (.str x) (xs.map .str) = decide (x ∈ xs) := by
  unfold memV
  rw [List.any_map]
  by_cases h : x ∈ xs
  · rw [decide_eq_true h, List.any_eq_true]
    exact ⟨x, h, by simp [eqV_str]⟩
  · rw [decide_eq_false h, List.any_eq_false]
    intro y hy
    simp only [Function.comp_def, eqV_str, decide_eq_true_eq]
    exact fun z => h (z ▸ hy)
theorem in_eS {x : Tx} {xs : List Tx} (hx : okT x = true) (h : ∀ y ∈ xs, okT y = true) : inX (.str x) (eS xs) = some (.bl (decide (x ∈ xs))) := by
  show (if okD 60 (.str x) = true ∧ okL 59 (xs.map .str) = true then some (D.bl (memV (.str x) (xs.map .str))) else none) = _
  rw [if_pos ⟨okD_str hx, okL_map fun y hy => okD_str (h y hy)⟩, memV_str]
theorem in_lst {x : Tx} {xs : List Tx} (hx : okT x = true) (h : ∀ y ∈ xs, okT y = true) : inX (.str x) (.lst (xs.map .str)) = some (.bl (decide (x ∈ xs))) := by
  show (if okD 60 (.str x) = true ∧ okL 59 (xs.map .str) = true then some (D.bl (memV (.str x) (xs.map .str))) else none) = _
  rw [if_pos ⟨okD_str hx, okL_map fun y hy => okD_str (h y hy)⟩, memV_str]
def minT (x : Tx) (xs : List Tx) : Tx := xs.foldl (fun m e => if ltT e m = true then e else m) x
theorem minE_str (x : Tx) (xs : List Tx) : minE (.str x) (xs.map .str) = .str (minT x xs) := by
  unfold minE minT
  induction xs generalizing x with
  | nil => rfl
  | cons y xs ih =>
    rw [List.map_cons, List.foldl_cons, List.foldl_cons]
    have e : dataLt (py (.str y)) (py (.str x)) = ltT y x := by
      show dataLt (.str (tx y)) (.str (tx x)) = _
      rw [PySem.W.dataLt_str, tx_cps, tx_cps, ← ltT_lt]
    rw [e]
    by_cases h : ltT y x = true
    · rw [if_pos h, if_pos h]; exact ih y
    · rw [if_neg h, if_neg h]; exact ih x
theorem min1_str {x : Tx} {xs : List Tx} (ok : ∀ y ∈ x :: xs, okT y = true) : min1D [.lst ((x :: xs).map .str)] = some (.str (minT x xs)) := by
  rw [List.map_cons]
  unfold min1D
  simp only
  have o : minOk (.str x :: xs.map .str) = true := by
    have e : (D.str x :: xs.map .str) = (x :: xs).map .str := rfl
    rw [e]
    unfold minOk
    simp only [Bool.and_eq_true]
    refine ⟨⟨okL_map fun y hy => okD_str (ok y hy), ?_⟩, ?_⟩
    · rw [List.all_eq_true]
      intro a ha
      rw [List.all_eq_true]
      intro c hc
      obtain ⟨p, _, rfl⟩ := List.mem_map.mp ha
      obtain ⟨q, _, rfl⟩ := List.mem_map.mp hc
      simp [alikeD, py, alike]
    · rw [List.all_eq_true]
      intro a ha
      obtain ⟨p, _, rfl⟩ := List.mem_map.mp ha
      rfl
  rw [if_pos o, minE_str]
/-! ### parting, alike, is_within -/
theorem mem_shapes {t : List Foot} {m : Meas} {x : Tx} : x ∈ shapesT t m ↔ x ∈ shapesAll t m := mem_usort stoT
theorem shapesT_ok {t : List Foot} (ht : TongueOk t) {m : Meas} (h : ∀ pl ∈ m.pl, plOk t pl) : ∀ x ∈ shapesT t m, okT x = true := fun x hx => okT_ls (shapes_ls ht h x (mem_shapes.mp hx)).1
theorem shapesT_len {t : List Foot} (ht : TongueOk t) {m : Meas} (h : ∀ pl ∈ m.pl, plOk t pl) (hn : m.pl.length ≤ 6) : (shapesT t m).length ≤ 1062882 := by
  have h1 : (rowsT t m.pl).length ≤ 9 ^ m.pl.length := by simpa [rowsT] using rows_len ht m.pl [[]] h
  have h2 := flat_le (fun r => looseT (shapeOf r) m.lo) 2 (rowsT t m.pl) fun r _ => loose_len _ _
  have h3 : 9 ^ m.pl.length ≤ 531441 := Nat.le_trans (Nat.pow_le_pow_right (by decide) hn) (by decide)
  have h4 := usort_len stoT (shapesAll t m)
  have h5 : (shapesAll t m).length ≤ (rowsT t m.pl).length * 2 := h2
  show (usort ltT (shapesAll t m)).length ≤ _
  omega
def partT (a b : List Tx) : List Tx := (a ++ b).filter fun x => !decide (decide (x ∈ a) = decide (x ∈ b))
def partingT (t : List Foot) (a b : Meas) : Option Tx := match partT (shapesT t a) (shapesT t b) with
  | [] => none
  | x :: xs => some (minT x xs)
def eO : Option Tx → D
  | none => .non
  | some x => .str x
theorem m_parting {t : List Foot} (ht : TongueOk t) (a b : Meas) (ha : ∀ pl ∈ a.pl, plOk t pl) (hb : ∀ pl ∈ b.pl, plOk t pl) (na : a.pl.length ≤ 6) (nb : b.pl.length ≤ 6) : G_parting [eT t, eM a, eM b] = some (eO (partingT t a b)) := by
  have ma := m_shapes ht a ha (by omega)
  have mb := m_shapes ht b hb (by omega)
  have la := shapesT_len ht ha na
  have lb := shapesT_len ht hb nb
  have oa := shapesT_ok ht ha
  have ob := shapesT_ok ht hb
  generalize hA : shapesT t a = A at *
  generalize hB : shapesT t b = B at *
  have lab : A.length + B.length ≤ LIM := lim_lit (by omega)
  have lf := List.length_filter_le (fun x => !decide (decide (x ∈ A) = decide (x ∈ B))) (A ++ B)
  rw [List.length_append] at lf
  have okp : ∀ x ∈ partT A B, okT x = true := fun x hx => by
    rcases List.mem_append.mp (List.mem_filter.mp hx).1 with z | z
    · exact oa x z
    · exact ob x z
  have lc : lcL [some (.d (eT t)), some (.d (eM a)), some (.d (eM b)), some (.d (eS A)), some (.d (eS B)), none, none] (toS 6) (asB (bin neD (bin inX (getW 6) (getW 3)) (bin inX (getW 6) (getW 4)))) b_parting_c1 (A.map .str ++ B.map .str) = some ((partT A B).map .str) := by
    rw [← List.map_append]
    refine lcL_map D.str (fun x => !decide (decide (x ∈ A) = decide (x ∈ B))) D.str (A ++ B) fun x hx => ?_
    have ox : okT x = true := by
      rcases List.mem_append.mp hx with z | z
      · exact oa x z
      · exact ob x z
    exact ⟨_, rfl, by simp [in_eS ox oa, in_eS ox ob, neD_bl], by simp [b_parting_c1]⟩
  have lp : (partT A B).length ≤ LIM := lim_lit (by unfold partT; omega)
  have ad : addD (eS A) (eS B) = some (.tup (A.map .str ++ B.map .str)) := by simp [eS, lab]
  unfold partingT
  rw [hA, hB]
  cases hp : partT A B with
  | nil =>
    rw [hp] at lc lp
    simp [G_parting, runF_eq, b_parting, ma, mb, ad, lc, eqD_int, eO]
  | cons x xs =>
    rw [hp] at lc lp okp
    have mn := min1_str okp
    simp only [List.map_cons] at lc mn
    simp only [List.length_cons] at lp
    have ne : ¬ ((xs.length : Int) + 1 = 0) := by omega
    simp [G_parting, runF_eq, b_parting, ma, mb, ad, lc, lp, eqD_int, eO, ne, mn]
theorem m_alike {t : List Foot} (ht : TongueOk t) (a b : Meas) (ha : ∀ pl ∈ a.pl, plOk t pl) (hb : ∀ pl ∈ b.pl, plOk t pl) (na : a.pl.length ≤ 6) (nb : b.pl.length ≤ 6) : G_alike [eT t, eM a, eM b] = some (.bl (decide (partingT t a b = none))) := by
  have mp := m_parting ht a b ha hb na nb
  cases h : partingT t a b with
  | none => rw [h] at mp; simp [G_alike, runF_eq, b_alike, mp, eO, isD, isNonD]
  | some x => rw [h] at mp; simp [G_alike, runF_eq, b_alike, mp, eO, isD, isNonD]
def withinT (t : List Foot) (a b : Meas) : Bool := (shapesT t a).all fun x => decide (x ∈ shapesT t b)
@[simp] theorem allD_map {bs : List Bool} : allD [.lst (bs.map .bl)] = some (.bl (bs.all id)) := by
  unfold allD
  simp only [blsOf_map, Option.map_some]
theorem m_is_within {t : List Foot} (ht : TongueOk t) (a b : Meas) (ha : ∀ pl ∈ a.pl, plOk t pl) (hb : ∀ pl ∈ b.pl, plOk t pl) (na : a.pl.length ≤ 6) (nb : b.pl.length ≤ 6) : G_is_within [eT t, eM a, eM b] = some (.bl (withinT t a b)) := by
  have ma := m_shapes ht a ha (by omega)
  have mb := m_shapes ht b hb (by omega)
  have la := shapesT_len ht ha na
  have oa := shapesT_ok ht ha
  have ob := shapesT_ok ht hb
  unfold withinT
  generalize hA : shapesT t a = A at *
  generalize hB : shapesT t b = B at *
  have lc : lcL [some (.d (eT t)), some (.d (eM a)), some (.d (eM b)), some (.d (eS B)), none] (toS 4) (fun _ => some true) b_is_within_c1 (A.map .str) = some (A.map fun x => .bl (decide (x ∈ B))) :=
    lcL_all D.str (fun x => D.bl (decide (x ∈ B))) A fun x hx => ⟨_, rfl, by simp [b_is_within_c1, in_eS (oa x hx) ob]⟩
  have e : (A.map fun x => D.bl (decide (x ∈ B))) = (A.map fun x => decide (x ∈ B)).map .bl := by rw [List.map_map]; rfl
  rw [e] at lc
  have lA : A.length ≤ LIM := lim_lit (by omega)
  have al : (A.map fun x => decide (x ∈ B)).all id = A.all fun x => decide (x ∈ B) := by rw [List.all_map]; rfl
  simp [-List.map_map, -List.all_map, G_is_within, runF_eq, b_is_within, ma, mb, lc, lA]
  rw [al]
end Fo
end
-- FoM10.lean
set_option Elab.async false
set_option linter.all false
set_option maxRecDepth 100000
set_option maxHeartbeats 2000000
noncomputable section
namespace Fo
open PySem L2

/-! ### rows of measures put together -/
theorem mem_step {t : List Foot} {rows : List Row} {pl : List Tx} {r : Row} : r ∈ rowStep t rows pl ↔ ∃ r0 ∈ rows, ∃ p ∈ pairsT t pl, r = r0 ++ [p] := by
  unfold rowStep
  simp only [List.mem_flatMap, List.mem_map]
  constructor
  · rintro ⟨r0, h0, p, hp, e⟩
    exact ⟨r0, h0, p, hp, e.symm⟩
  · rintro ⟨r0, h0, p, hp, e⟩
    exact ⟨r0, h0, p, hp, e.symm⟩
theorem mem_fold {t : List Foot} : ∀ (q : List (List Tx)) (rows : List Row) (r : Row), r ∈ q.foldl (rowStep t) rows ↔ ∃ r0 ∈ rows, ∃ r2 ∈ rowsT t q, r = r0 ++ r2
  | [], rows, r => by simp [rowsT]
  | pl :: q, rows, r => by
    rw [List.foldl_cons, mem_fold q]
    have e : ∀ r2, r2 ∈ rowsT t (pl :: q) ↔ ∃ p ∈ pairsT t pl, ∃ r3 ∈ rowsT t q, r2 = p :: r3 := fun r2 => by
      show r2 ∈ q.foldl (rowStep t) (rowStep t [[]] pl) ↔ _
      rw [mem_fold q]
      constructor
      · rintro ⟨x, hx, r3, h3, rfl⟩
        obtain ⟨r0, h0, p, hp, rfl⟩ := mem_step.mp hx
        have : r0 = [] := by simpa using h0
        subst this
        exact ⟨p, hp, r3, h3, rfl⟩
      · rintro ⟨p, hp, r3, h3, rfl⟩
        exact ⟨[p], mem_step.mpr ⟨[], by simp, p, hp, rfl⟩, r3, h3, rfl⟩
    constructor
    · rintro ⟨x, hx, r3, h3, rfl⟩
      obtain ⟨r0, h0, p, hp, rfl⟩ := mem_step.mp hx
      exact ⟨r0, h0, p :: r3, (e _).mpr ⟨p, hp, r3, h3, rfl⟩, by simp⟩
    · rintro ⟨r0, h0, r2, h2, rfl⟩
      obtain ⟨p, hp, r3, h3, rfl⟩ := (e _).mp h2
      exact ⟨r0 ++ [p], mem_step.mpr ⟨r0, h0, p, hp, rfl⟩, r3, h3, by simp⟩
theorem mem_rows_app {t : List Foot} {p q : List (List Tx)} {r : Row} : r ∈ rowsT t (p ++ q) ↔ ∃ r1 ∈ rowsT t p, ∃ r2 ∈ rowsT t q, r = r1 ++ r2 := by
  show r ∈ (p ++ q).foldl (rowStep t) [[]] ↔ _
  rw [List.foldl_append]
  exact mem_fold q (rowsT t p) r
theorem shape_app (a b : Row) : shapeOf (a ++ b) = shapeOf a ++ shapeOf b := by simp [shapeOf]
theorem loose_false (x : Tx) : looseT x false = [x] := by simp [looseT]
/-- shapes of one that is not loose: those of its rows -/
theorem mem_shapes_plain {t : List Foot} {m : Meas} (h : m.lo = false) {x : Tx} : x ∈ shapesT t m ↔ ∃ r ∈ rowsT t m.pl, x = shapeOf r := by
  rw [mem_shapes]
  unfold shapesAll
  rw [h]
  simp [loose_false]
theorem mem_shapes_all {t : List Foot} {m : Meas} {x : Tx} : x ∈ shapesT t m ↔ ∃ r ∈ rowsT t m.pl, x ∈ looseT (shapeOf r) m.lo := by
  rw [mem_shapes]
  unfold shapesAll
  rw [List.mem_flatMap]
/-- the shapes of joined ones, the first not loose -/
theorem mem_shapes_join {t : List Foot} {a b : Meas} (h : a.lo = false) {x : Tx} : x ∈ shapesT t (joined a b) ↔ ∃ s ∈ shapesT t a, ∃ r ∈ rowsT t b.pl, x ∈ looseT (s ++ shapeOf r) b.lo := by
  rw [mem_shapes_all]
  constructor
  · rintro ⟨r, hr, hx⟩
    obtain ⟨r1, h1, r2, h2, rfl⟩ := mem_rows_app.mp hr
    rw [shape_app] at hx
    exact ⟨shapeOf r1, (mem_shapes_plain h).mpr ⟨r1, h1, rfl⟩, r2, h2, hx⟩
  · rintro ⟨s, hs, r2, h2, hx⟩
    obtain ⟨r1, h1, rfl⟩ := (mem_shapes_plain h).mp hs
    exact ⟨r1 ++ r2, mem_rows_app.mpr ⟨r1, h1, r2, h2, rfl⟩, by rw [shape_app]; exact hx⟩
/-- .. the second not loose -/
theorem mem_shapes_join2 {t : List Foot} {a b : Meas} (h : b.lo = false) {x : Tx} : x ∈ shapesT t (joined a b) ↔ ∃ r ∈ rowsT t a.pl, ∃ s ∈ shapesT t b, x = shapeOf r ++ s := by
  rw [mem_shapes_plain (m := joined a b) h]
  constructor
  · rintro ⟨r, hr, rfl⟩
    obtain ⟨r1, h1, r2, h2, rfl⟩ := mem_rows_app.mp hr
    exact ⟨r1, h1, shapeOf r2, (mem_shapes_plain h).mpr ⟨r2, h2, rfl⟩, shape_app _ _⟩
  · rintro ⟨r1, h1, s, hs, rfl⟩
    obtain ⟨r2, h2, rfl⟩ := (mem_shapes_plain h).mp hs
    exact ⟨r1 ++ r2, mem_rows_app.mpr ⟨r1, h1, r2, h2, rfl⟩, (shape_app _ _).symm⟩
theorem within_iff {t : List Foot} {a b : Meas} : withinT t a b = true ↔ ∀ x ∈ shapesT t a, x ∈ shapesT t b := by
  unfold withinT
  rw [List.all_eq_true]
  exact forall_congr' fun x => by simp
theorem part_nil {a b : List Tx} : partT a b = [] ↔ ∀ x, x ∈ a ↔ x ∈ b := by
  unfold partT
  rw [List.filter_eq_nil_iff]
  constructor
  · intro h x
    constructor
    · intro hx
      have := h x (List.mem_append_left _ hx)
      simpa [hx] using this
    · intro hx
      have := h x (List.mem_append_right _ hx)
      simpa [hx] using this
  · intro h x _
    simp [h x]
theorem parting_none {t : List Foot} {a b : Meas} : partingT t a b = none ↔ ∀ x, x ∈ shapesT t a ↔ x ∈ shapesT t b := by
  unfold partingT
  rw [← part_nil]
  cases partT (shapesT t a) (shapesT t b) <;> simp
theorem shapes_ext {t : List Foot} {a b : Meas} (h : ∀ x, x ∈ shapesT t a ↔ x ∈ shapesT t b) : shapesT t a = shapesT t b :=
  rising_unique stoT (rising_usort stoT _) (rising_usort stoT _) h
/-! ### putting together -/
theorem joined_assoc (a b c : Meas) : joined (joined a b) c = joined a (joined b c) := by
  simp [joined, Int.add_assoc, Int.add_comm, Function.comp_def]
  intro p q _
  omega
theorem joined_nil (a : Meas) : joined a ⟨[], [], a.lo⟩ = a := by simp [joined]
theorem nil_joined (a : Meas) : joined ⟨[], [], a.lo⟩ a = a := by simp [joined]
theorem again_one (a : Meas) : again a 1 = a := nil_joined a
theorem MeasOk.plOk {t : List Foot} {m : Meas} (h : MeasOk t m) : ∀ pl ∈ m.pl, plOk t pl := fun s hs => ⟨(h.pl s hs).2.1, (h.pl s hs).2.2.2⟩
theorem cut_joined {t : List Foot} {a b : Meas} (ha : MeasOk t a) (hb : MeasOk t b) : cut (joined a b) a.pl.length = ⟨a.pl, a.br, b.lo⟩ := by
  unfold cut joined
  simp only [List.take_left', List.filter_append, Meas.mk.injEq, and_true]
  refine ⟨by simp, ?_⟩
  rw [List.filter_eq_self.mpr fun p hp => by simpa using (ha.br p hp).2.1, List.filter_eq_nil_iff.mpr fun p hp => ?_, List.append_nil]
  obtain ⟨q, hq, rfl⟩ := List.mem_map.mp hp
  have := (hb.br q hq).1
  simp only [decide_eq_true_eq]
  omega
theorem cut_all {t : List Foot} {a : Meas} (ha : MeasOk t a) : cut a a.pl.length = a := by
  unfold cut
  rw [List.take_length, List.filter_eq_self.mpr fun p hp => by simpa using (ha.br p hp).2.1]
theorem cut_cut (a : Meas) {i j : Nat} (h : i ≤ j) : cut (cut a i) j = cut a i := by
  unfold cut
  simp only [Meas.mk.injEq, and_true]
  refine ⟨by rw [List.take_take, Nat.min_eq_right h], ?_⟩
  rw [List.filter_eq_self]
  intro p hp
  have := (List.mem_filter.mp hp).2
  simp only [decide_eq_true_eq] at this ⊢
  omega
end Fo
end
-- FoM11.lean
set_option Elab.async false
set_option linter.all false
set_option maxRecDepth 100000
set_option maxHeartbeats 2000000
noncomputable section
namespace Fo
open PySem L2
open PySem.W (dataLe dataLt alike alikeAll)

/-! ### the law's own rows -/
def lawOf (pl : List Tx) (p : Foot) : List Pr := if p.1 ∈ pl then p.2.map (fun f => (p.1, f)) else []
theorem rising_filter {α : Type} {lt : α → α → Bool} {xs : List α} (q : α → Bool) (h : Rising lt xs) : Rising lt (xs.filter q) := List.Pairwise.sublist (List.filter_sublist) h
theorem forms_at {t : List Foot} (ht : TongueOk t) {p : Foot} (hp : p ∈ t) : formsOf t p.1 = p.2 := by
  obtain ⟨q, hq, e1, e2⟩ := forms_mem ht (x := p.1) (List.mem_map.mpr ⟨p, hp, rfl⟩)
  have := nodup_inj (·.1) (rising_nodup stoT ht.up) q hq p hp e1
  rw [e2, this]
theorem law_pairs {t : List Foot} (ht : TongueOk t) {pl : List Tx} (h : placeOk t pl) : t.flatMap (lawOf pl) = pairsT t pl := by
  have e : (namesT t).filter (fun x => decide (x ∈ pl)) = pl := rising_unique stoT (rising_filter _ ht.up) h.2.2.1 fun z => by
    rw [List.mem_filter]
    exact ⟨fun q => by simpa using q.2, fun q => ⟨h.2.2.2 z q, by simpa using q⟩⟩
  have key : ∀ l : List Foot, (∀ p ∈ l, p ∈ t) → l.flatMap (lawOf pl) = ((l.map (·.1)).filter fun x => decide (x ∈ pl)).flatMap (prOf t) := by
    intro l
    induction l with
    | nil => intro _; rfl
    | cons p l ih =>
      intro hl
      have hp := hl p (List.mem_cons_self ..)
      rw [List.flatMap_cons, ih fun q hq => hl q (List.mem_cons_of_mem _ hq), List.map_cons, List.filter_cons]
      unfold lawOf
      by_cases hx : p.1 ∈ pl
      · rw [if_pos hx, if_pos (by simpa using hx), List.flatMap_cons]
        unfold prOf
        rw [forms_at ht hp]
      · rw [if_neg hx, if_neg (by simpa using hx)]
        rfl
  unfold pairsT
  rw [key t fun p hp => hp]
  show ((namesT t).filter fun x => decide (x ∈ pl)).flatMap (prOf t) = _
  rw [e]
theorem lawOf_len {t : List Foot} (ht : TongueOk t) (pl : List Tx) {p : Foot} (hp : p ∈ t) : (lawOf pl p).length ≤ 3 := by
  unfold lawOf
  split
  · rw [List.length_map]; exact (ht.nm p hp).2.2.1
  · simp
theorem in_eS' {x : Tx} {xs : List Tx} (hx : okT x = true) (h : ∀ y ∈ xs, okT y = true) : inX (.str x) (eS xs) = some (.bl (decide (x ∈ xs))) := in_eS hx h
/-- one row more -/
theorem law_row_turn {t : List Foot} (ht : TongueOk t) (m rw0 : D) (base : List Row) (r : Row) (pl : List Tx) (h : placeOk t pl) (hb : base.length + 12 ≤ 16777216) (hr : r.length ≤ 1000) (c6 c7 : Option Cell) :
    b__law_rows_L3 [some (.d (eT t)), some (.d m), some (.d rw0), some (.d (eS pl)), some (.d (.lst (base.map eR))), some (.d (eR r)), c6, c7, none] =
      some (.nx [some (.d (eT t)), some (.d m), some (.d rw0), some (.d (eS pl)), some (.d (.lst ((base ++ (pairsT t pl).map fun p => r ++ [p]).map eR))), some (.d (eR r)), none, none, none]) := by
  have okpl : ∀ x ∈ pl, okT x = true := fun x hx => ht.okT (h.2.2.2 x hx)
  have rl : r.length + 1 ≤ LIM := lim_lit (by omega)
  obtain ⟨ρ', e, d6, d7, rfl⟩ := loop_pre (G := toTup 2 (toCons (toS 6) (toCons (toS 7) toNil))) (fb := b__law_rows_L2) eF (fun dn ρ => ∃ c6 c7, ρ = [some (.d (eT t)), some (.d m), some (.d rw0), some (.d (eS pl)), some (.d (.lst ((base ++ (dn.flatMap (lawOf pl)).map fun p => r ++ [p]).map eR))), some (.d (eR r)), c6, c7, none]) t
    (ρ := [some (.d (eT t)), some (.d m), some (.d rw0), some (.d (eS pl)), some (.d (.lst (base.map eR))), some (.d (eR r)), c6, c7, none]) ⟨c6, c7, by simp⟩ fun dn p rs ρ e ⟨c6, c7, z⟩ => by
      subst z
      have hp : p ∈ t := by rw [e]; simp
      have okp : okT p.1 = true := okT_name (ht.nm p hp).1
      have dl : dn.length + 1 ≤ 4 := by
        have := congrArg List.length e
        have := ht.le
        simp at *; omega
      have l3 := flat_le (lawOf pl) 3 dn fun q hq => lawOf_len ht pl (by rw [e]; simp [hq])
      have l1 := lawOf_len ht pl hp
      refine ⟨_, [some (.d (eT t)), some (.d m), some (.d rw0), some (.d (eS pl)), some (.d (.lst ((base ++ ((dn ++ [p]).flatMap (lawOf pl)).map fun p => r ++ [p]).map eR))), some (.d (eR r)), some (.d (.str p.1)), some (.d (eS p.2)), none], rfl, ?_, _, _, rfl⟩
      have hin := in_eS okp okpl
      have eW : base ++ ((dn ++ [p]).flatMap (lawOf pl)).map (fun p => r ++ [p]) = (base ++ (dn.flatMap (lawOf pl)).map fun p => r ++ [p]) ++ (lawOf pl p).map fun p => r ++ [p] := by simp
      have lW : (base ++ (dn.flatMap (lawOf pl)).map fun p => r ++ [p]).length = base.length + (dn.flatMap (lawOf pl)).length := by simp
      rw [eW]
      generalize (base ++ (dn.flatMap (lawOf pl)).map fun p => r ++ [p]) = W at lW ⊢
      by_cases hx : p.1 ∈ pl
      · have lo : lawOf pl p = p.2.map fun f => (p.1, f) := if_pos hx
        have lc : lcL [some (.d (eT t)), some (.d m), some (.d rw0), some (.d (eS pl)), some (.d (.lst (W.map eR))), some (.d (eR r)), some (.d (.str p.1)), some (.d (eS p.2)), none] (toS 8) (fun _ => some true) b__law_rows_c1 (p.2.map .str) = some (p.2.map fun f => eR (r ++ [(p.1, f)])) :=
          lcL_all D.str (fun f => eR (r ++ [(p.1, f)])) _ fun f _ => ⟨_, rfl, by simp [b__law_rows_c1, eR, ePr, rl]⟩
        have l1' : p.2.length ≤ 3 := by simpa [lo] using l1
        have lim2 : p.2.length ≤ LIM := lim_lit (by omega)
        have lim1 : W.length + p.2.length ≤ LIM := lim_lit (by omega)
        rw [decide_eq_true hx] at hin
        simp [b__law_rows_L2, hin, lc, lim1, lim2]
        simp [lo]
      · have lo : lawOf pl p = [] := if_neg hx
        rw [decide_eq_false hx] at hin
        simp [b__law_rows_L2, hin, lo]
  rw [law_pairs ht h] at e
  simp [b__law_rows_L3, e]
theorem step_len2 {t : List Foot} (ht : TongueOk t) {rows : List Row} {pl : List Tx} (h : placeOk t pl) : (rowStep t rows pl).length ≤ rows.length * 9 := step_len ht ⟨h.2.1, h.2.2.2⟩
theorem law_place_turn {t : List Foot} (ht : TongueOk t) (m : D) (rows : List Row) (pl : List Tx) (h : placeOk t pl) (hr : rows.length * 9 + 12 ≤ 16777216) (hrow : ∀ r ∈ rows, r.length ≤ 1000) (c4 c5 c6 c7 : Option Cell) :
    ∃ d4 d6 d7, b__law_rows_L4 [some (.d (eT t)), some (.d m), some (.d (.lst (rows.map eR))), some (.d (eS pl)), c4, c5, c6, c7, none] = some (.nx [some (.d (eT t)), some (.d m), some (.d (.lst ((rowStep t rows pl).map eR))), some (.d (eS pl)), d4, none, d6, d7, none]) := by
  obtain ⟨ρ', e, d5, d6, d7, rfl⟩ := loop_pre (G := toS 5) (fb := b__law_rows_L3) eR (fun dn ρ => ∃ c5 c6 c7, ρ = [some (.d (eT t)), some (.d m), some (.d (.lst (rows.map eR))), some (.d (eS pl)), some (.d (.lst ((rowStep t dn pl).map eR))), c5, c6, c7, none]) rows
    (ρ := [some (.d (eT t)), some (.d m), some (.d (.lst (rows.map eR))), some (.d (eS pl)), some (.d (.lst [])), c5, c6, c7, none]) ⟨c5, c6, c7, rfl⟩ fun dn r rs ρ e ⟨c5, c6, c7, z⟩ => by
      subst z
      have l1 := step_len2 ht (rows := dn) h
      have l3 : dn.length + 1 ≤ rows.length := by rw [e]; simp
      have q := law_row_turn ht m (.lst (rows.map eR)) (rowStep t dn pl) r pl h (by omega) (hrow r (by rw [e]; simp)) c6 c7
      have eq : (rowStep t dn pl ++ (pairsT t pl).map fun p => r ++ [p]) = rowStep t (dn ++ [r]) pl := by simp [rowStep]
      rw [eq] at q
      exact ⟨_, _, rfl, q, _, _, _, rfl⟩
  exact ⟨some (.d (.lst ((rowStep t rows pl).map eR))), d6, d7, by simp [b__law_rows_L4, e]⟩
theorem m__law_rows {t : List Foot} (ht : TongueOk t) (m : Meas) (hp : ∀ pl ∈ m.pl, placeOk t pl) (hn : m.pl.length ≤ 7) : G__law_rows [eT t, eM m] = some (.lst ((rowsT t m.pl).map eR)) := by
  obtain ⟨ρ', e, c3, c4, c6, c7, rfl⟩ := loop_pre (G := toS 3) (fb := b__law_rows_L4) eS (fun dn ρ => ∃ c3 c4 c6 c7, ρ = [some (.d (eT t)), some (.d (eM m)), some (.d (.lst ((rowsT t dn).map eR))), c3, c4, none, c6, c7, none]) m.pl
    (ρ := [some (.d (eT t)), some (.d (eM m)), some (.d (.lst [.tup []])), none, none, none, none, none, none]) ⟨none, none, none, none, rfl⟩ fun dn pl rs ρ e ⟨c3, c4, c6, c7, z⟩ => by
      subst z
      have hdn : ∀ q ∈ dn, plOk t q := fun q hq => by
        have := hp q (by rw [e]; simp [hq])
        exact ⟨this.2.1, this.2.2.2⟩
      have ld : dn.length + 1 ≤ 7 := by
        have := congrArg List.length e
        simp at this; omega
      have l1 := rows_len ht dn [[]] hdn
      have l9 : (rowsT t dn).length * 9 + 12 ≤ 16777216 := by
        have : 9 ^ dn.length * 9 ≤ 4782969 := by rw [← Nat.pow_succ]; exact pow9 ld
        have l1' : (rowsT t dn).length ≤ 9 ^ dn.length := by simpa [rowsT] using l1
        have := Nat.mul_le_mul_right 9 l1'
        omega
      have lr : ∀ r ∈ rowsT t dn, r.length ≤ 1000 := fun r hr => by
        have := rows_each dn [[]] 0 (by simp) r hr
        omega
      obtain ⟨d4, d6, d7, q⟩ := law_place_turn ht (eM m) (rowsT t dn) pl (hp pl (by rw [e]; simp)) l9 lr c4 none c6 c7
      refine ⟨_, _, rfl, q, some (.d (eS pl)), d4, d6, d7, ?_⟩
      simp [rowsT]
  simp [G__law_rows, runF_eq, b__law_rows, e, lim_lit]
theorem m__law_shape (r : Row) (h1 : r.length ≤ 1000) (h2 : ∀ p ∈ r, p.2.length ≤ 1000) : G__law_shape [eR r] = some (.str (shapeOf r)) := m_shape_of r h1 h2
end Fo
end
-- FoM12.lean
set_option Elab.async false
set_option linter.all false
set_option maxRecDepth 100000
set_option maxHeartbeats 2000000
noncomputable section
namespace Fo
open PySem L2
open PySem.W (dataLe dataLt alike alikeAll)

@[simp] theorem ev_tri {g : D → D → D → Option D} {f1 f2 f3 : Env → Option D} {ρ : Env} : tri g f1 f2 f3 ρ = (f1 ρ).bind fun x => (f2 ρ).bind fun y => (f3 ρ).bind fun z => g x y z := by
  unfold tri
  cases f1 ρ with
  | none => rfl
  | some x =>
    cases f2 ρ with
    | none => rfl
    | some y => cases f3 ρ <;> rfl
def lcKC (vs : List Nat) (ρ : Env) (G : D → Env → Option Env) (p : Env → Option Bool) (f : Env → Option D) : Option (Option Cell) → Option D
  | some (some (.d (.dct ks))) => (lcL (wipeE vs ρ) G p f (keysD ks)).bind fun ys => if ys.length ≤ LIM then some (.lst ys) else none
  | _ => none
@[simp] theorem ev_lcK {i : Nat} {vs : List Nat} {G : D → Env → Option Env} {p : Env → Option Bool} {f : Env → Option D} {ρ : Env} : lcKE i vs G p f ρ = lcKC vs ρ G p f ρ[i]? := by
  unfold lcKE lcKC
  generalize ρ[i]? = o
  rcases o with _ | _ | c
  · rfl
  · rfl
  · cases c with
    | d x => cases x <;> first | rfl | (simp only; cases lcL _ G p f _ <;> rfl)
    | l => rfl
    | k => rfl
@[simp] theorem lcKC_k {vs : List Nat} {G : D → Env → Option Env} {p : Env → Option Bool} {f : Env → Option D} {ρ : Env} {ks : List (D × D)} : lcKC vs ρ G p f (some (some (.d (.dct ks)))) = (lcL (wipeE vs ρ) G p f (keysD ks)).bind fun ys => if ys.length ≤ LIM then some (.lst ys) else none := Eq.trans rfl rfl
/-! ### counts of texts as a dict -/
def cntE (kl L : List Tx) : List (D × D) := kl.map fun x => (.str x, .int (L.count x : Nat))
theorem has_cnt (kl L : List Tx) (x : Tx) : hasD (cntE kl L) (.str x) = decide (x ∈ kl) := by
  unfold hasD cntE
  rw [List.any_map]
  by_cases h : x ∈ kl
  · rw [decide_eq_true h, List.any_eq_true]
    exact ⟨x, h, by simp [keq]⟩
  · rw [decide_eq_false h]
    rw [List.any_eq_false]
    intro y hy
    simp only [Function.comp_def, keq, decide_eq_true_eq]
    exact fun z => h (z ▸ hy)
theorem get_cnt : ∀ (kl L : List Tx) (x : Tx), x ∈ kl → getD? (cntE kl L) (.str x) = some (.int (L.count x : Nat))
  | [], L, x, h => by simp at h
  | y :: kl, L, x, h => by
    unfold getD? cntE
    rw [List.map_cons]
    by_cases hy : y = x
    · subst hy
      rw [List.find?_cons_of_pos (by simp [keq])]
      rfl
    · rw [List.find?_cons_of_neg (by simp [keq, hy])]
      exact get_cnt kl L x ((List.mem_cons.mp h).resolve_left fun z => hy z.symm)
theorem get_cnt_none {kl L : List Tx} {x : Tx} (h : x ∉ kl) : getD? (cntE kl L) (.str x) = none := by
  unfold getD?
  rw [List.find?_eq_none.mpr]
  · rfl
  · intro p hp
    obtain ⟨y, hy, rfl⟩ := List.mem_map.mp hp
    simp only [keq, decide_eq_true_eq]
    exact fun z => h (z ▸ hy)
theorem get2_cnt {kl L : List Tx} (m : ∀ z, z ∈ kl ↔ z ∈ L) (x : Tx) : dget2D (.dct (cntE kl L)) (.str x) (.int 0) = some (.int (L.count x : Nat)) := by
  unfold dget2D
  simp only [keyOf_str, Option.isSome_some, if_true]
  by_cases h : x ∈ kl
  · rw [get_cnt kl L x h]; rfl
  · rw [get_cnt_none h]
    have : L.count x = 0 := List.count_eq_zero.mpr fun z => h ((m x).mpr z)
    rw [this]; rfl
theorem put_cnt {kl L : List Tx} (m : ∀ z, z ∈ kl ↔ z ∈ L) (x : Tx) : putD (cntE kl L) (.str x) (.int ((L.count x : Nat) + 1)) = cntE (addK kl x) (L ++ [x]) := by
  unfold putD addK
  rw [has_cnt]
  by_cases h : x ∈ kl
  · rw [if_pos (by simpa using h), if_pos h]
    unfold cntE
    rw [List.map_map]
    refine List.map_congr_left fun y _ => ?_
    simp only [Function.comp_def, keq, decide_eq_true_eq]
    by_cases hy : y = x
    · subst hy; simp
    · rw [if_neg hy]
      have : [x].count y = 0 := List.count_eq_zero.mpr (by simpa using hy)
      simp [List.count_append, this]
  · rw [if_neg (by simpa using h), if_neg h]
    unfold cntE
    rw [List.map_append]
    have h0 : L.count x = 0 := List.count_eq_zero.mpr fun z => h ((m x).mpr z)
    congr 1
    · refine List.map_congr_left fun y hy => ?_
      have : [x].count y = 0 := List.count_eq_zero.mpr (by simp; exact fun z => h (z ▸ hy))
      simp [List.count_append, this]
    · simp [List.count_append, h0]
theorem keys_cnt (kl L : List Tx) : keysD (cntE kl L) = kl.map .str := by simp [keysD, cntE, Function.comp_def]
theorem sorted_strs {kl : List Tx} (nd : kl.Nodup) (ok : ∀ x ∈ kl, okT x = true) (hl : kl.length ≤ LIM) : sortedD [.lst (kl.map .str)] = some (.lst ((usort ltT kl).map .str)) := by
  unfold sortedD
  simp only
  rw [if_pos (srtOk_strs ok hl), sort_strs nd]
def dblT (t : List Foot) (m : Meas) : List Tx := usort ltT ((shapesAll t m).filter fun x => decide (1 < (shapesAll t m).count x))
theorem m_doubled {t : List Foot} (ht : TongueOk t) (m : Meas) (hp : ∀ pl ∈ m.pl, plOk t pl) (hn : m.pl.length ≤ 7) : G_doubled [eT t, eM m] = some (eS (dblT t m)) := by
  have mr := m_all_rows ht m hp hn
  have hall := shapes_len ht hp hn
  obtain ⟨ρ', e, kl, c3, c4, rfl, nd, mem, len⟩ := loop_pre (G := toS 3) (fb := b_doubled_L2) eR (fun dn ρ => ∃ kl c3 c4, ρ = [some (.d (eT t)), some (.d (eM m)), some (.k (cntE kl (dn.flatMap fun r => looseT (shapeOf r) m.lo))), c3, c4] ∧ kl.Nodup ∧ (∀ z, z ∈ kl ↔ z ∈ dn.flatMap fun r => looseT (shapeOf r) m.lo) ∧ kl.length ≤ (dn.flatMap fun r => looseT (shapeOf r) m.lo).length) (rowsT t m.pl)
    (ρ := [some (.d (eT t)), some (.d (eM m)), some (.k []), none, none]) ⟨[], none, none, rfl, by simp, by simp, by simp⟩ fun dn r rs ρ e ⟨kl, c3, c4, z, nd, mem, len⟩ => by
      subst z
      have hr : r ∈ rowsT t m.pl := by rw [e]; simp
      obtain ⟨a, b⟩ := row_form ht hp hr
      obtain ⟨c, d⟩ := shape_ls fun p hp => (a p hp).2.2
      have ms := m_shape_of r (by omega) fun p hp => by have := (a p hp).2.2.2.1; omega
      have ml := m_loosened (shapeOf r) m.lo (okT_ls c) (by omega)
      have tot : (dn.flatMap fun r => looseT (shapeOf r) m.lo).length + (looseT (shapeOf r) m.lo).length ≤ (shapesAll t m).length := by
        unfold shapesAll
        rw [e]
        simp only [List.flatMap_append, List.flatMap_cons, List.length_append]
        omega
      have ef : (dn ++ [r]).flatMap (fun r => looseT (shapeOf r) m.lo) = dn.flatMap (fun r => looseT (shapeOf r) m.lo) ++ looseT (shapeOf r) m.lo := by simp
      simp only [ef]
      generalize dn.flatMap (fun r => looseT (shapeOf r) m.lo) = L at *
      obtain ⟨ρ2, e2, kl2, c42, rfl, nd2, mem2, len2⟩ := loop_pre (G := toS 4) (fb := b_doubled_L1) D.str (fun d2 ρ => ∃ kl2 c4, ρ = [some (.d (eT t)), some (.d (eM m)), some (.k (cntE kl2 (L ++ d2))), some (.d (eR r)), c4] ∧ kl2.Nodup ∧ (∀ z, z ∈ kl2 ↔ z ∈ L ++ d2) ∧ kl2.length ≤ L.length + d2.length) (looseT (shapeOf r) m.lo)
        (ρ := [some (.d (eT t)), some (.d (eM m)), some (.k (cntE kl L)), some (.d (eR r)), c4]) ⟨kl, c4, by simp, nd, by simpa using mem, by simpa using len⟩ fun d2 x rs2 ρ e2 ⟨kl2, c4, z, nd2, mem2, len2⟩ => by
          subst z
          obtain ⟨p1, p2, p3⟩ := addK_ok nd2 x
          have ll : d2.length + 1 ≤ (looseT (shapeOf r) m.lo).length := by rw [e2]; simp
          have lim : kl2.length < LIM := by rw [LIM_eq]; omega
          have lim' : (cntE kl2 (L ++ d2)).length < LIM := by simpa [cntE] using lim
          have g2 := get2_cnt mem2 x
          have pc := put_cnt mem2 x
          rw [List.append_assoc] at pc
          refine ⟨_, [some (.d (eT t)), some (.d (eM m)), some (.k (cntE (addK kl2 x) (L ++ (d2 ++ [x])))), some (.d (eR r)), some (.d (.str x))], rfl, ?_, addK kl2 x, _, rfl, p1, fun z => ?_, ?_⟩
          · generalize (L ++ d2).count x = n at g2 pc
            simp [b_doubled_L1, lim', g2, pc]
          · rw [p2 z, mem2 z]
            simp only [List.mem_append, List.mem_singleton, or_assoc]
          · simp only [List.length_append, List.length_singleton]; omega
      refine ⟨_, [some (.d (eT t)), some (.d (eM m)), some (.k (cntE kl2 (L ++ looseT (shapeOf r) m.lo))), some (.d (eR r)), none], rfl, ?_, kl2, _, _, rfl, nd2, mem2, ?_⟩
      · simp [b_doubled_L2, ms, ml, e2]
      · simp only [List.length_append]; omega
  have memA : ∀ z, z ∈ kl ↔ z ∈ shapesAll t m := mem
  have len' : kl.length ≤ (shapesAll t m).length := len
  have ea : (rowsT t m.pl).flatMap (fun r => looseT (shapeOf r) m.lo) = shapesAll t m := rfl
  rw [ea] at e
  have okA : ∀ x ∈ kl, okT x = true := fun x hx => okT_ls (shapes_ls ht hp x ((memA x).mp hx)).1
  unfold dblT
  generalize shapesAll t m = A at *
  have lc : lcL [some (.d (eT t)), some (.d (eM m)), some (.d (.dct (cntE kl A))), none, none] (toS 4) (asB (bin gtD (bin dgetD (getW 2) (getW 4)) (cst (.int 1)))) b_doubled_c3 (kl.map .str) = some ((kl.filter fun x => decide (1 < A.count x)).map .str) :=
    lcL_map D.str (fun x => decide (1 < A.count x)) D.str kl fun x hx => ⟨_, rfl, by simp [dgetD, get_cnt kl A x hx]; omega, by simp [b_doubled_c3]⟩
  have lf := List.length_filter_le (fun x => decide (1 < A.count x)) kl
  have lfl : (kl.filter fun x => decide (1 < A.count x)).length ≤ LIM := lim_lit (by omega)
  have srt := sorted_strs (kl := kl.filter fun x => decide (1 < A.count x)) (nd.sublist List.filter_sublist) (fun x hx => okA x (List.mem_filter.mp hx).1) lfl
  have us : usort ltT (kl.filter fun x => decide (1 < A.count x)) = usort ltT (A.filter fun x => decide (1 < A.count x)) := usort_same fun z => by rw [List.mem_filter, List.mem_filter, memA]
  rw [us] at srt
  generalize kl.filter (fun x => decide (1 < A.count x)) = F at *
  simp [G_doubled, runF_eq, b_doubled, mr, e, keys_cnt, lc, lfl, srt, eS]
end Fo
end
-- FoM13.lean
set_option Elab.async false
set_option linter.all false
set_option maxRecDepth 100000
set_option maxHeartbeats 2000000
noncomputable section
namespace Fo
open PySem L2
open PySem.W (dataLe dataLt alike alikeAll)

theorem dbl_len (t : List Foot) (m : Meas) : (dblT t m).length ≤ (shapesAll t m).length := by
  have h1 := usort_len stoT ((shapesAll t m).filter fun x => decide (1 < (shapesAll t m).count x))
  have h2 := List.length_filter_le (fun x => decide (1 < (shapesAll t m).count x)) (shapesAll t m)
  unfold dblT
  omega
theorem m_is_clear {t : List Foot} (ht : TongueOk t) (m : Meas) (hp : ∀ pl ∈ m.pl, plOk t pl) (hn : m.pl.length ≤ 7) : G_is_clear [eT t, eM m] = some (.bl (decide (dblT t m = []))) := by
  have md := m_doubled ht m hp hn
  cases h : dblT t m with
  | nil => rw [h] at md; simp [G_is_clear, runF_eq, b_is_clear, md, eS, eqD_int]
  | cons x xs =>
    rw [h] at md
    have ne : ¬ ((xs.length : Int) + 1 = 0) := by omega
    simp [G_is_clear, runF_eq, b_is_clear, md, eS, eqD_int, ne]
theorem m_many_shapes {t : List Foot} (ht : TongueOk t) (m : Meas) (hp : ∀ pl ∈ m.pl, plOk t pl) (hn : m.pl.length ≤ 7) : G_many_shapes [eT t, eM m] = some (.int ((shapesT t m).length : Nat)) := by
  have ms := m_shapes ht m hp hn
  simp [G_many_shapes, runF_eq, b_many_shapes, ms, eS]
/-! ### the law's own shapes -/
theorem neD_str {x y : Tx} (hx : okT x = true) (hy : okT y = true) : neD (.str x) (.str y) = some (.bl (!decide (x = y))) := by
  have := eqD_str hx hy
  unfold neD
  unfold eqD at this
  rw [okD_str hx, okD_str hy] at *
  simpa [eqV_str] using this
theorem law_shapes_mem {x : Tx} (h : lsT x) (lo : Bool) : ∀ z, (z = x ∨ (lo = true ∧ x ≠ [] ∧ (z = x.dropLast ++ [108] ∨ z = x.dropLast ++ [115]))) ↔ z ∈ looseT x lo := by
  intro z
  unfold looseT
  by_cases hc : (!lo || decide (x = [])) = true
  · rw [if_pos hc]
    simp only [Bool.or_eq_true, Bool.not_eq_true', decide_eq_true_eq] at hc
    rw [List.mem_singleton]
    refine ⟨fun q => q.elim id fun ⟨a, b, _⟩ => ?_, .inl⟩
    rcases hc with hc | hc
    · rw [hc] at a; cases a
    · exact absurd hc b
  · rw [if_neg hc]
    simp only [Bool.or_eq_true, Bool.not_eq_true', decide_eq_true_eq, not_or] at hc
    have hx := hc.2
    have hlo : lo = true := by simpa using hc.1
    have e := List.dropLast_concat_getLast hx
    have hl := h _ (List.getLast_mem hx)
    simp only [List.mem_cons, List.not_mem_nil, or_false]
    refine ⟨fun q => ?_, fun q => .inr ⟨hlo, hx, q⟩⟩
    rcases q with rfl | ⟨_, _, q⟩
    · rcases hl with z | z
      · left; rw [z] at e; exact e.symm
      · right; rw [z] at e; exact e.symm
    · exact q
def addKs (kl : List Tx) (xs : List Tx) : List Tx := xs.foldl addK kl
theorem addKs_ok : ∀ (xs : List Tx) {kl : List Tx}, kl.Nodup → (addKs kl xs).Nodup ∧ (∀ z, z ∈ addKs kl xs ↔ z ∈ kl ∨ z ∈ xs) ∧ (addKs kl xs).length ≤ kl.length + xs.length
  | [], kl, nd => ⟨nd, by simp [addKs], by simp [addKs]⟩
  | x :: xs, kl, nd => by
    obtain ⟨p1, p2, p3⟩ := addK_ok nd x
    obtain ⟨q1, q2, q3⟩ := addKs_ok xs p1
    refine ⟨q1, fun z => ?_, ?_⟩
    · show z ∈ addKs (addK kl x) xs ↔ _
      rw [q2 z, p2 z, List.mem_cons, or_assoc]
    · show (addKs (addK kl x) xs).length ≤ _
      simp only [List.length_cons]; omega
theorem m__law_shapes {t : List Foot} (ht : TongueOk t) (m : Meas) (hp : ∀ pl ∈ m.pl, placeOk t pl) (hn : m.pl.length ≤ 6) : G__law_shapes [eT t, eM m] = some (.lst ((shapesT t m).map .str)) := by
  have hp' : ∀ pl ∈ m.pl, plOk t pl := fun pl h => ⟨(hp pl h).2.1, (hp pl h).2.2.2⟩
  have mr := m__law_rows ht m hp (by omega)
  have h1 : (rowsT t m.pl).length ≤ 9 ^ m.pl.length := by simpa [rowsT] using rows_len ht m.pl [[]] hp'
  have h3 : 9 ^ m.pl.length ≤ 531441 := Nat.le_trans (Nat.pow_le_pow_right (by decide) hn) (by decide)
  obtain ⟨ρ', e, kl, c3, c4, rfl, nd, mem, len⟩ := loop_pre (G := toS 3) (fb := b__law_shapes_L1) eR (fun dn ρ => ∃ kl c3 c4, ρ = [some (.d (eT t)), some (.d (eM m)), some (.k (keysE kl)), c3, c4] ∧ kl.Nodup ∧ (∀ z, z ∈ kl ↔ z ∈ dn.flatMap fun r => looseT (shapeOf r) m.lo) ∧ kl.length ≤ 3 * dn.length) (rowsT t m.pl)
    (ρ := [some (.d (eT t)), some (.d (eM m)), some (.k []), none, none]) ⟨[], none, none, rfl, by simp, by simp, by simp⟩ fun dn r rs ρ e ⟨kl, c3, c4, z, nd, mem, len⟩ => by
      subst z
      have hr : r ∈ rowsT t m.pl := by rw [e]; simp
      have ld : dn.length + 1 ≤ (rowsT t m.pl).length := by rw [e]; simp
      obtain ⟨a, b⟩ := row_form ht hp' hr
      obtain ⟨c, d⟩ := shape_ls fun p hp => (a p hp).2.2
      have ms := m__law_shape r (by omega) fun p hp => by have := (a p hp).2.2.2.1; omega
      have mm := law_shapes_mem c m.lo
      have ef : (dn ++ [r]).flatMap (fun r => looseT (shapeOf r) m.lo) = dn.flatMap (fun r => looseT (shapeOf r) m.lo) ++ looseT (shapeOf r) m.lo := by simp
      simp only [ef]
      generalize dn.flatMap (fun r => looseT (shapeOf r) m.lo) = L at *
      have ok := okT_ls c
      have lx : (shapeOf r).length ≤ 18 := by omega
      generalize shapeOf r = x at *
      have lx1 : x.length ≤ LIM := lim_lit (by omega)
      have lx2 : x.length - 1 + 1 ≤ LIM := lim_lit (by omega)
      have k1 : kl.length < LIM := by rw [LIM_eq]; omega
      have k1' : (keysE kl).length < LIM := by simpa [keysE] using k1
      have n1 := neD_str ok (show okT [] = true from rfl)
      by_cases hl : m.lo = true ∧ x ≠ []
      · obtain ⟨p1, p2, p3⟩ := addKs_ok [x, x.dropLast ++ [108], x.dropLast ++ [115]] nd
        obtain ⟨s1, s2, s3⟩ := addKs_ok [x] nd
        obtain ⟨r1, r2, r3⟩ := addKs_ok [x, x.dropLast ++ [108]] nd
        simp only [addKs, List.foldl_cons, List.foldl_nil, List.length_cons, List.length_nil] at p1 p2 p3 s1 s2 s3 r1 r2 r3
        have k2 : (keysE (addK kl x)).length < LIM := by rw [LIM_eq]; simp only [keysE, List.length_map]; omega
        have k3 : (keysE (addK (addK kl x) (x.dropLast ++ [108]))).length < LIM := by rw [LIM_eq]; simp only [keysE, List.length_map]; omega
        refine ⟨_, [some (.d (eT t)), some (.d (eM m)), some (.k (keysE (addK (addK (addK kl x) (x.dropLast ++ [108])) (x.dropLast ++ [115])))), some (.d (eR r)), some (.d (.str x))], rfl, ?_, _, _, _, rfl, p1, fun z => ?_, ?_⟩
        · rw [decide_eq_false hl.2] at n1
          simp [b__law_shapes_L1, ms, n1, hl.1, k1', k2, k3, putK_keys, lx1, lx2, cut_last]
        · rw [p2 z, List.mem_append, mem z, ← mm z]
          simp only [List.mem_cons, List.not_mem_nil, or_false, hl.1, true_and]
          have hne : x ≠ [] := hl.2
          exact or_congr_right (or_congr_right ⟨fun q => ⟨hne, q⟩, fun q => q.2⟩)
        · simp only [List.length_append, List.length_singleton]; omega
      · obtain ⟨p1, p2, p3⟩ := addK_ok nd x
        refine ⟨_, [some (.d (eT t)), some (.d (eM m)), some (.k (keysE (addK kl x))), some (.d (eR r)), some (.d (.str x))], rfl, ?_, _, _, _, rfl, p1, fun z => ?_, ?_⟩
        · cases hlo : m.lo with
          | false => simp [b__law_shapes_L1, ms, hlo, k1', putK_keys]
          | true =>
            have hx : x = [] := Decidable.byContradiction fun q => hl ⟨hlo, q⟩
            rw [decide_eq_true hx] at n1
            simp [b__law_shapes_L1, ms, hlo, k1', putK_keys, n1]
        · rw [p2 z, List.mem_append, mem z, ← mm z]
          have : ¬ (m.lo = true ∧ x ≠ [] ∧ (z = x.dropLast ++ [108] ∨ z = x.dropLast ++ [115])) := fun q => hl ⟨q.1, q.2.1⟩
          exact or_congr_right ⟨.inl, fun q => q.elim id fun w => absurd w this⟩
        · simp only [List.length_append, List.length_singleton]; omega
  have memA : ∀ z, z ∈ kl ↔ z ∈ shapesAll t m := mem
  have ok : ∀ x ∈ kl, okT x = true := fun x hx => okT_ls (shapes_ls ht hp' x ((memA x).mp hx)).1
  have srt := sorted_keysE nd ok (lim_lit (by omega))
  have us : usort ltT kl = shapesT t m := usort_same memA
  simp [G__law_shapes, runF_eq, b__law_shapes, mr, e, srt, us]
end Fo
end
-- FoM14.lean
set_option Elab.async false
set_option linter.all false
set_option maxRecDepth 100000
set_option maxHeartbeats 2000000
noncomputable section
namespace Fo
open PySem L2
open PySem.W (dataLe dataLt alike alikeAll)

def twinB (lo : Bool) (s x : Tx) : Bool := decide (s = x) || (lo && (!decide (s = []) && (decide (s.length = x.length) && decide (s.dropLast = x.dropLast))))
theorem twin_mem {s x : Tx} (hs : lsT s) (hx : lsT x) (lo : Bool) : twinB lo s x = decide (x ∈ looseT s lo) := by
  have key : twinB lo s x = true ↔ x ∈ looseT s lo := by
    rw [← law_shapes_mem hs lo x]
    unfold twinB
    simp only [Bool.or_eq_true, Bool.and_eq_true, decide_eq_true_eq, Bool.not_eq_true', decide_eq_false_iff_not]
    refine or_congr ⟨Eq.symm, Eq.symm⟩ (and_congr_right fun _ => and_congr_right fun hn => ⟨fun ⟨hl, hd⟩ => ?_, fun q => ?_⟩)
    · have xn : x ≠ [] := fun z => hn (List.length_eq_zero_iff.mp (by rw [hl, z]; rfl))
      have e := List.dropLast_concat_getLast xn
      rw [← hd] at e
      rcases hx _ (List.getLast_mem xn) with z | z
      · left; rw [z] at e; exact e.symm
      · right; rw [z] at e; exact e.symm
    · have hl : 0 < s.length := List.length_pos_iff.mpr hn
      rcases q with rfl | rfl
      · simp; omega
      · simp; omega
  by_cases h : x ∈ looseT s lo
  · rw [decide_eq_true h]; exact key.mpr h
  · rw [decide_eq_false h]
    cases e : twinB lo s x with
    | false => rfl
    | true => exact absurd (key.mp e) h
theorem count_loose {s x : Tx} (lo : Bool) : (looseT s lo).count x = if x ∈ looseT s lo then 1 else 0 := by
  have nd : (looseT s lo).Nodup := by
    unfold looseT
    split
    · simp
    · simp
  by_cases h : x ∈ looseT s lo
  · rw [if_pos h]
    have h1 := List.nodup_iff_count.mp nd x
    have h2 := List.count_pos_iff.mpr h
    omega
  · rw [if_neg h]
    exact List.count_eq_zero.mpr h
theorem m__law_doubled {t : List Foot} (ht : TongueOk t) (m : Meas) (hp : ∀ pl ∈ m.pl, placeOk t pl) (hn : m.pl.length ≤ 6) : G__law_doubled [eT t, eM m] = some (.lst ((dblT t m).map .str)) := by
  have hp' : ∀ pl ∈ m.pl, plOk t pl := fun pl h => ⟨(hp pl h).2.1, (hp pl h).2.2.2⟩
  have mr := m__law_rows ht m hp (by omega)
  have ms := m__law_shapes ht m hp hn
  have ls := shapes_ls ht hp'
  have ll := shapesT_len ht hp' hn
  obtain ⟨ρ', e, c4, c5, c7, rfl⟩ := loop_pre (G := toS 4) (fb := b__law_doubled_L2) D.str (fun dn ρ => ∃ c4 c5 c7, ρ = [some (.d (eT t)), some (.d (eM m)), some (.d (.lst ((rowsT t m.pl).map eR))), some (.l ((dn.filter fun x => decide (1 < (shapesAll t m).count x)).map .str)), c4, c5, none, c7]) (shapesT t m)
    (ρ := [some (.d (eT t)), some (.d (eM m)), some (.d (.lst ((rowsT t m.pl).map eR))), some (.l []), none, none, none, none]) ⟨none, none, none, rfl⟩ fun dn x rs ρ e ⟨c4, c5, c7, z⟩ => by
      subst z
      have hx := ls x (mem_shapes.mp (by rw [e]; simp))
      have okx := okT_ls hx.1
      have lx : x.length ≤ LIM := lim_lit (by omega)
      have ld : dn.length + 1 ≤ (shapesT t m).length := by rw [e]; simp
      have lf := List.length_filter_le (fun x => decide (1 < (shapesAll t m).count x)) dn
      have lfd : (dn.filter fun x => decide (1 < (shapesAll t m).count x)).length < LIM := by rw [LIM_eq]; omega
      have eF : (dn ++ [x]).filter (fun x => decide (1 < (shapesAll t m).count x)) = dn.filter (fun x => decide (1 < (shapesAll t m).count x)) ++ if 1 < (shapesAll t m).count x then [x] else [] := by
        rw [List.filter_append]
        congr 1
        rw [List.filter_cons, List.filter_nil]
        by_cases h : 1 < (shapesAll t m).count x
        · rw [if_pos (by simpa using h), if_pos h]
        · rw [if_neg (by simpa using h), if_neg h]
      rw [eF]
      generalize dn.filter (fun x => decide (1 < (shapesAll t m).count x)) = F at *
      obtain ⟨ρ2, e2, c6, c7', rfl⟩ := loop_pre (G := toS 6) (fb := b__law_doubled_L1) eR (fun dn ρ => ∃ c6 c7, ρ = [some (.d (eT t)), some (.d (eM m)), some (.d (.lst ((rowsT t m.pl).map eR))), some (.l (F.map .str)), some (.d (.str x)), some (.d (.int ((dn.flatMap fun r => looseT (shapeOf r) m.lo).count x : Nat))), c6, c7]) (rowsT t m.pl)
        (ρ := [some (.d (eT t)), some (.d (eM m)), some (.d (.lst ((rowsT t m.pl).map eR))), some (.l (F.map .str)), some (.d (.str x)), some (.d (.int 0)), none, c7]) ⟨none, c7, rfl⟩ fun dn r rs ρ e ⟨c6, c7, z⟩ => by
          subst z
          have hr : r ∈ rowsT t m.pl := by rw [e]; simp
          obtain ⟨a, b⟩ := row_form ht hp' hr
          obtain ⟨c, d⟩ := shape_ls fun p hp => (a p hp).2.2
          have ms := m__law_shape r (by omega) fun p hp => by have := (a p hp).2.2.2.1; omega
          have ec : ((dn ++ [r]).flatMap fun r => looseT (shapeOf r) m.lo).count x = (dn.flatMap fun r => looseT (shapeOf r) m.lo).count x + if twinB m.lo (shapeOf r) x = true then 1 else 0 := by
            rw [List.flatMap_append, List.count_append, List.flatMap_singleton, count_loose, twin_mem c hx.1]
            by_cases h : x ∈ looseT (shapeOf r) m.lo <;> simp [h]
          rw [ec]
          generalize (dn.flatMap fun r => looseT (shapeOf r) m.lo).count x = n
          have oks := okT_ls c
          have lsx : (shapeOf r).length ≤ LIM := lim_lit (by omega)
          have odl : okT (shapeOf r).dropLast = true := okT_ls fun k hk => c k (List.dropLast_subset _ hk)
          generalize shapeOf r = s at *
          have odx : okT x.dropLast = true := okT_ls fun k hk => hx.1 k (List.dropLast_subset _ hk)
          have q1 := eqD_str oks okx
          have q2 := neD_str oks (show okT [] = true from rfl)
          have q3 := eqD_str odl odx
          have q4 : eqD (.int (s.length : Nat)) (.int (x.length : Nat)) = some (.bl (decide (s.length = x.length))) := by rw [eqD_int]; simp; omega
          refine ⟨_, [some (.d (eT t)), some (.d (eM m)), some (.d (.lst ((rowsT t m.pl).map eR))), some (.l (F.map .str)), some (.d (.str x)), some (.d (.int ((n + if twinB m.lo s x = true then 1 else 0 : Nat)))), some (.d (eR r)), some (.d (.str s))], rfl, ?_, _, _, rfl⟩
          unfold twinB
          cases h1 : decide (s = x) <;> cases h2 : m.lo <;> cases h3 : decide (s = []) <;> cases h4 : decide (s.length = x.length) <;> cases h5 : decide (s.dropLast = x.dropLast) <;> rw [h1] at q1 <;> rw [h3] at q2 <;> rw [h4] at q4 <;> rw [h5] at q3 <;>
            simp [b__law_doubled_L1, ms, q1, q2, q3, q4, h2, lsx, lx, cut_last]
      have ea : ((rowsT t m.pl).flatMap fun r => looseT (shapeOf r) m.lo) = shapesAll t m := rfl
      rw [ea] at e2
      generalize (shapesAll t m).count x = n at *
      by_cases h : 1 < n
      · refine ⟨_, [some (.d (eT t)), some (.d (eM m)), some (.d (.lst ((rowsT t m.pl).map eR))), some (.l ((F ++ [x]).map .str)), some (.d (.str x)), some (.d (.int (n : Nat))), none, c7'], rfl, ?_, some (.d (.str x)), some (.d (.int (n : Nat))), c7', by rw [if_pos h]⟩
        have hi : (1 : Int) < (n : Int) := by omega
        simp [b__law_doubled_L2, e2, hi, lfd]
      · refine ⟨_, [some (.d (eT t)), some (.d (eM m)), some (.d (.lst ((rowsT t m.pl).map eR))), some (.l (F.map .str)), some (.d (.str x)), some (.d (.int (n : Nat))), none, c7'], rfl, ?_, some (.d (.str x)), some (.d (.int (n : Nat))), c7', by rw [if_neg h, List.append_nil]⟩
        have hi : ¬ (1 : Int) < (n : Int) := by omega
        simp [b__law_doubled_L2, e2, hi]
  have us : (shapesT t m).filter (fun x => decide (1 < (shapesAll t m).count x)) = dblT t m := usort_unique stoT (rising_filter _ (rising_usort stoT _)) fun z => by
    rw [List.mem_filter, List.mem_filter, mem_shapes]
  rw [us] at e
  simp [G__law_doubled, runF_eq, b__law_doubled, mr, ms, e]
end Fo
end
-- FoM15.lean
set_option Elab.async false
set_option linter.all false
set_option maxRecDepth 100000
set_option maxHeartbeats 2000000
noncomputable section
namespace Fo
open PySem L2
open PySem.W (dataLe dataLt alike alikeAll)

@[simp] theorem ev_zip {f1 f2 : Env → Option D} {ρ : Env} : zipI f1 f2 ρ = (f1 ρ).bind fun x => (f2 ρ).bind fun y => zipD [x, y] := by
  unfold zipI consA nilA
  cases f1 ρ with
  | none => rfl
  | some x => cases f2 ρ <;> rfl
@[simp] theorem zipD_str {x y : Tx} : zipD [.str x, .str y] = some ((x.zip y).map fun p => .tup [.str [p.1], .str [p.2]]) := by
  show some (List.zipWith (fun a c => D.tup [a, c]) (sgns x) (sgns y)) = _
  unfold sgns
  congr 1
  induction x generalizing y with
  | nil => rfl
  | cons c x ih =>
    cases y with
    | nil => rfl
    | cons d y => simp only [List.map_cons, List.zipWith_cons_cons, List.zip_cons_cons]; rw [ih]
/-! ### agree -/
def agT (x y : Tx) : Bool := (x.zip y).all fun p => decide (p.1 = p.2) || decide (p.1 = 101)
theorem in_two {c d : Nat} (hc : okT [c] = true) (hd : okT [d] = true) : inX (.str [c]) (.tup [.str [d], .str [101]]) = some (.bl (decide (c = d) || decide (c = 101))) := by
  have h := in_eS (x := [c]) (xs := [[d], [101]]) hc fun y hy => by
    rcases List.mem_cons.mp hy with rfl | hy
    · exact hd
    · have : y = [101] := by simpa using hy
      subst this; rfl
  have e : eS [[d], [101]] = .tup [.str [d], .str [101]] := rfl
  rw [e] at h
  rw [h]
  simp
theorem okT_sub {x : Tx} (h : okT x = true) {c : Nat} (hc : c ∈ x) : okT [c] = true := by
  unfold okT at *
  rw [List.all_eq_true] at h
  simpa using h c hc
theorem m_agree {x y : Tx} (hx : okT x = true) (hy : okT y = true) (lx : x.length ≤ 1000) : G_agree [.str x, .str y] = some (.bl (agT x y)) := by
  have lc : lcL [some (.d (.str x)), some (.d (.str y)), none, none] (toTup 2 (toCons (toS 2) (toCons (toS 3) toNil))) (fun _ => some true) b_agree_c1 ((x.zip y).map fun p => .tup [.str [p.1], .str [p.2]]) = some ((x.zip y).map fun p => .bl (decide (p.1 = p.2) || decide (p.1 = 101))) :=
    lcL_all (fun p : Nat × Nat => D.tup [.str [p.1], .str [p.2]]) (fun p => .bl (decide (p.1 = p.2) || decide (p.1 = 101))) _ fun p hp => by
      obtain ⟨h1, h2⟩ := List.of_mem_zip hp
      exact ⟨_, rfl, by simp [b_agree_c1, in_two (okT_sub hx h1) (okT_sub hy h2)]⟩
  have e : ((x.zip y).map fun p => D.bl (decide (p.1 = p.2) || decide (p.1 = 101))) = ((x.zip y).map fun p => decide (p.1 = p.2) || decide (p.1 = 101)).map .bl := by rw [List.map_map]; rfl
  rw [e] at lc
  have lz : (x.zip y).length ≤ LIM := lim_lit (by rw [List.length_zip]; omega)
  have al : ((x.zip y).map fun p => decide (p.1 = p.2) || decide (p.1 = 101)).all id = agT x y := by rw [List.all_map]; rfl
  simp [-List.map_map, -List.all_map, G_agree, runF_eq, b_agree, lc]
  rw [if_pos (by simpa using lz)]
  simp [-List.map_map, -List.all_map, al]
end Fo
end
-- FoM16.lean
set_option Elab.async false
set_option linter.all false
set_option maxRecDepth 100000
set_option maxHeartbeats 2000000
noncomputable section
namespace Fo
open PySem L2
open PySem.W (dataLe dataLt alike alikeAll)

theorem okT_drop {x : Tx} (h : okT x = true) : okT x.dropLast = true := by
  unfold okT at *
  rw [List.all_eq_true] at *
  exact fun c hc => h c (List.dropLast_subset x hc)
def endB (x y : Tx) (lo : Bool) : Bool := decide (x.length = y.length) && (if lo = true then agT x.dropLast y.dropLast else agT x y)
theorem m_agrees_at_end {x y : Tx} (hx : okT x = true) (hy : okT y = true) (lx : x.length ≤ 1000) (ly : y.length ≤ 1000) (lo : Bool) : G_agrees_at_end [.str x, .str y, .bl lo] = some (.bl (endB x y lo)) := by
  have q1 := m_agree hx hy lx
  have q2 := m_agree (okT_drop hx) (okT_drop hy) (by rw [List.length_dropLast]; omega)
  have l1 : x.length ≤ LIM := lim_lit (by omega)
  have l2 : y.length ≤ LIM := lim_lit (by omega)
  have q3 : neD (.int (x.length : Nat)) (.int (y.length : Nat)) = some (.bl (!decide (x.length = y.length))) := by rw [neD_int]; simp; omega
  unfold endB
  by_cases h : x.length = y.length
  · rw [decide_eq_true h] at q3 ⊢
    cases lo <;> simp [G_agrees_at_end, runF_eq, b_agrees_at_end, q1, q2, q3, l1, l2, cut_last]
  · rw [decide_eq_false h] at q3 ⊢
    simp [G_agrees_at_end, runF_eq, b_agrees_at_end, q3, l1, l2]
/-! ### lines -/
def wordOk (w : Tx) : Prop := 1 ≤ w.length ∧ w.length ≤ 1000 ∧ okT w = true
theorem sum_le (k : Nat) : ∀ xs : List Tx, (∀ x ∈ xs, x.length ≤ k) → (xs.map (·.length)).sum ≤ xs.length * k
  | [], _ => by simp
  | x :: xs, h => by
    have a := h x (List.mem_cons_self ..)
    have c := sum_le k xs fun y hy => h y (List.mem_cons_of_mem _ hy)
    simp only [List.map_cons, List.sum_cons, List.length_cons, Nat.succ_mul]
    omega
theorem m_signs {ln : List Tx} (h : ∀ w ∈ ln, w.length ≤ 1000) (hl : ln.length ≤ 1000) : G_signs [eS ln] = some (.str ln.flatten) := by
  have jo : joinOk [] ln = true := by
    unfold joinOk
    refine decide_eq_true (lim_lit ?_)
    have := sum_le 1000 ln h
    simp only [List.length_nil, Nat.mul_zero, Nat.add_zero] at this ⊢
    omega
  simp [G_signs, runF_eq, b_signs, eS, tyD, jo, joinT_nil]
end Fo
end
-- FoM17.lean
set_option Elab.async false
set_option linter.all false
set_option maxRecDepth 100000
set_option maxHeartbeats 2000000
noncomputable section
namespace Fo
open PySem L2
open PySem.W (dataLe dataLt alike alikeAll)

/-! ### ends -/
def endsFrom (k : Nat) : List Tx → List Nat
  | [] => []
  | w :: ln => (k + w.length) :: endsFrom (k + w.length) ln
def endsT (ln : List Tx) : List Nat := endsFrom 0 ln
def eN (xs : List Nat) : D := .tup (xs.map fun n => .int (n : Nat))
theorem endsFrom_app (k : Nat) : ∀ (a : List Tx) (w : Tx), endsFrom k (a ++ [w]) = endsFrom k a ++ [k + a.flatten.length + w.length]
  | [], w => by simp [endsFrom]
  | x :: a, w => by
    rw [List.cons_append, endsFrom, endsFrom_app (k + x.length) a w, endsFrom]
    simp only [List.flatten_cons, List.length_append, List.cons_append, Nat.add_assoc]
theorem m_ends {ln : List Tx} (h : ∀ w ∈ ln, w.length ≤ 1000) (hl : ln.length ≤ 1000) : G_ends [eS ln] = some (eN (endsT ln)) := by
  obtain ⟨ρ', e, c3, rfl⟩ := loop_pre (G := toS 3) (fb := b_ends_L1) D.str (fun dn ρ => ∃ c3, ρ = [some (.d (eS ln)), some (.l ((endsT dn).map fun n => .int (n : Nat))), some (.d (.int (dn.flatten.length : Nat))), c3]) ln
    (ρ := [some (.d (eS ln)), some (.l []), some (.d (.int 0)), none]) ⟨none, rfl⟩ fun dn w rs ρ e ⟨c3, z⟩ => by
      subst z
      have hw := h w (by rw [e]; simp)
      have lw : w.length ≤ LIM := lim_lit (by omega)
      have ld : (endsT dn).length < LIM := by
        have hd : dn.length ≤ ln.length := by rw [e]; simp
        have key : ∀ (k : Nat) (xs : List Tx), (endsFrom k xs).length = xs.length := by
          intro k xs
          induction xs generalizing k with
          | nil => rfl
          | cons x xs ih => simp [endsFrom, ih]
        unfold endsT
        rw [key, LIM_eq]; omega
      refine ⟨_, [some (.d (eS ln)), some (.l ((endsT (dn ++ [w])).map fun n => .int (n : Nat))), some (.d (.int ((dn ++ [w]).flatten.length : Nat))), some (.d (.str w))], rfl, ?_, _, rfl⟩
      have e1 : endsT (dn ++ [w]) = endsT dn ++ [dn.flatten.length + w.length] := by
        unfold endsT; rw [endsFrom_app]; simp
      have e2 : (dn ++ [w]).flatten.length = dn.flatten.length + w.length := by simp
      rw [e1, e2]
      generalize dn.flatten.length = n
      generalize endsT dn = E at *
      simp [b_ends_L1, lw, ld]
  simp [G_ends, runF_eq, b_ends, e, eN]
end Fo
end
-- FoM18.lean
set_option Elab.async false
set_option linter.all false
set_option maxRecDepth 100000
set_option maxHeartbeats 4000000
noncomputable section
namespace Fo
open PySem L2
open PySem.W (dataLe dataLt alike alikeAll)

/-! ### loops that return if a thing is not so -/
theorem loop_all {α : Type} {G : D → Env → Option Env} {fb : Env → Option Out} (enc : α → D) (I : Env → Prop) (q : α → Bool) (d : D) : ∀ (xs : List α) (ρ : Env), I ρ → (∀ x ∈ xs, ∀ ρ, I ρ → ∃ ρ1, G (enc x) ρ = some ρ1 ∧ (q x = true → ∃ ρ2, fb ρ1 = some (.nx ρ2) ∧ I ρ2) ∧ (q x = false → fb ρ1 = some (.rt d))) →
    (xs.all q = true → ∃ ρ', loopL G fb (xs.map enc) ρ = some (.nx ρ') ∧ I ρ') ∧ (xs.all q = false → loopL G fb (xs.map enc) ρ = some (.rt d))
  | [], ρ, h, _ => ⟨fun _ => ⟨ρ, rfl, h⟩, fun e => by simp at e⟩
  | x :: xs, ρ, h, H => by
    obtain ⟨ρ1, h1, h2, h3⟩ := H x (List.mem_cons_self ..) ρ h
    rw [List.map_cons]
    unfold loopL
    rw [h1]
    simp only [List.all_cons]
    cases e : q x with
    | false => rw [h3 e]; exact ⟨fun z => (by simp at z), fun _ => rfl⟩
    | true =>
      obtain ⟨ρ2, h4, h5⟩ := h2 e
      rw [h4]
      simpa using loop_all enc I q d xs ρ2 h5 fun y hy => H y (List.mem_cons_of_mem _ hy)
theorem in_encT {α : Type} [DecidableEq α] {enc : α → D} (he : Enc enc) {x : α} {ys : List α} (hx : okD 60 (enc x) = true) (hy : ∀ y ∈ ys, okD 59 (enc y) = true) (hd : ∀ ks, enc x ≠ .dct ks) : inX (enc x) (.tup (ys.map enc)) = some (.bl (decide (x ∈ ys))) := by
  show (if okD 60 (enc x) = true ∧ okL 59 (ys.map enc) = true then some (D.bl (memV (enc x) (ys.map enc))) else none) = _
  rw [if_pos ⟨hx, okL_map hy⟩]
  unfold memV
  rw [List.any_map]
  congr 2
  by_cases h : x ∈ ys
  · rw [decide_eq_true h, List.any_eq_true]
    exact ⟨x, h, by simp [he x x]⟩
  · rw [decide_eq_false h, List.any_eq_false]
    intro y hy
    simp only [Function.comp_def, he y x, decide_eq_true_eq]
    exact fun z => h (z ▸ hy)
theorem enc_nat : Enc (fun n : Nat => .int (n : Nat)) := fun x y => by
  rw [eqV_int]
  by_cases h : x = y
  · subst h; simp
  · rw [decide_eq_false h, decide_eq_false (by omega)]
theorem okD_int {n : Nat} {i : Int} : okD n (.int i) = true := by cases n <;> rfl
theorem in_eN {k : Nat} {xs : List Nat} : inX (.int (k : Nat)) (eN xs) = some (.bl (decide (k ∈ xs))) := in_encT enc_nat (x := k) okD_int (fun _ _ => okD_int) fun ks h => by cases h
theorem nin_of {x y : D} {b : Bool} (h : inX x y = some (.bl b)) : ninX x y = some (.bl (!b)) := by
  unfold ninX; rw [h]; rfl
theorem nin_eN {k : Nat} {xs : List Nat} : ninX (.int (k : Nat)) (eN xs) = some (.bl (!decide (k ∈ xs))) := nin_of in_eN
theorem sumD_map (xs : List Int) : sumD [.lst (xs.map .int)] = some (.int xs.sum) := by
  unfold sumD
  simp only [intsOf_map, Option.map_some]
theorem sum_shape (r : Row) : (r.map fun p => ((p.2.length : Nat) : Int)).sum = ((shapeOf r).length : Nat) := by
  unfold shapeOf
  induction r with
  | nil => rfl
  | cons p r ih =>
    rw [List.map_cons, List.sum_cons, ih, List.map_cons, List.flatten_cons, List.length_append]
    simp
theorem shape_len_le {r : Row} (h : ∀ p ∈ r, p.2.length ≤ 1000) : (shapeOf r).length ≤ r.length * 1000 := by
  unfold shapeOf
  induction r with
  | nil => simp
  | cons p r ih =>
    have a := h p (List.mem_cons_self ..)
    have b := ih fun q hq => h q (List.mem_cons_of_mem _ hq)
    rw [List.map_cons, List.flatten_cons, List.length_append, List.length_cons, Nat.succ_mul]
    omega
@[simp] theorem ix_ePr0 {p : Pr} : ixD (ePr p) (.int 0) = some (.str p.1) := by simp [ePr]
@[simp] theorem ix_ePr1 {p : Pr} : ixD (ePr p) (.int 1) = some (.str p.2) := by simp [ePr]
theorem ix_eR {r : Row} {i : Nat} (h : i < r.length) : ixD (eR r) (.int (i : Nat)) = some (ePr r[i]) := by
  unfold eR
  rw [ixD_tup]
  exact atI_nat (by rw [List.getElem?_map, List.getElem?_eq_getElem h]; rfl)
theorem sl_eR {r : Row} {i : Nat} : slD (eR r) none (some (i : Int)) = some (eR (r.take i)) := by
  unfold eR
  rw [slD_tup, cutL_map, cutL_take _ _ (by omega)]
  simp
/-! ### keeps_breaks -/
def brkB (way : Row) (stops : List Nat) (p : Int × Int) : Bool := match way[p.1.toNat]? with
  | none => false
  | some q => decide (p.2 ≤ (q.2.length : Nat)) && decide ((shapeOf (way.take p.1.toNat)).length + p.2.toNat ∈ stops)
def keepsT (br : List (Int × Int)) (way : Row) (stops : List Nat) : Bool := br.all (brkB way stops)
theorem m_keeps_breaks {m : Meas} {way : Row} {stops : List Nat} (hb : ∀ p ∈ m.br, 0 ≤ p.1 ∧ p.1 < (way.length : Nat) ∧ 1 ≤ p.2 ∧ p.2 ≤ 3) (hw : way.length ≤ 1000) (hf : ∀ p ∈ way, p.2.length ≤ 1000) : G_keeps_breaks [eM m, eR way, eN stops] = some (.bl (keepsT m.br way stops)) := by
  obtain ⟨h1, h2⟩ := loop_all (G := toTup 2 (toCons (toS 3) (toCons (toS 4) toNil))) (fb := b_keeps_breaks_L2) eP (fun ρ => ∃ c3 c4 c5, ρ = [some (.d (eM m)), some (.d (eR way)), some (.d (eN stops)), c3, c4, c5, none, none]) (brkB way stops) (.bl false) m.br
    [some (.d (eM m)), some (.d (eR way)), some (.d (eN stops)), none, none, none, none, none] ⟨none, none, none, rfl⟩ fun p hp ρ ⟨c3, c4, c5, z⟩ => by
      subst z
      have hpb := hb p hp
      obtain ⟨a, b⟩ := p
      simp only at hpb
      obtain ⟨i, rfl⟩ := Int.eq_ofNat_of_zero_le hpb.1
      obtain ⟨j, rfl⟩ := Int.eq_ofNat_of_zero_le (show 0 ≤ b by omega)
      have hi : i < way.length := by omega
      have lc : lcL [some (.d (eM m)), some (.d (eR way)), some (.d (eN stops)), some (.d (.int (i : Nat))), some (.d (.int (j : Nat))), c5, none, none] (toTup 2 (toCons (toS 6) (toCons (toS 7) toNil))) (fun _ => some true) b_keeps_breaks_c1 ((way.take i).map ePr) = some ((way.take i).map fun p => .int (p.2.length : Nat)) :=
        lcL_all ePr (fun p => .int (p.2.length : Nat)) _ fun q hq => ⟨_, rfl, by
          have := hf q (List.mem_of_mem_take hq)
          simp [b_keeps_breaks_c1, lim_lit (show q.2.length ≤ 16777216 by omega)]⟩
      have e1 : ((way.take i).map fun p => D.int (p.2.length : Nat)) = ((way.take i).map fun p => ((p.2.length : Nat) : Int)).map .int := by rw [List.map_map]; rfl
      rw [e1] at lc
      have ll : (way.take i).length ≤ LIM := lim_lit (by rw [List.length_take]; omega)
      have sm := sumD_map ((way.take i).map fun p => ((p.2.length : Nat) : Int))
      rw [sum_shape] at sm
      have it : itemsD (eR (way.take i)) = some ((way.take i).map ePr) := rfl
      have hq := hf way[i] (List.getElem_mem hi)
      have lq : way[i].2.length ≤ LIM := lim_lit (by omega)
      have ni := nin_eN (k := (shapeOf (way.take i)).length + j) (xs := stops)
      rw [show (((shapeOf (way.take i)).length + j : Nat) : Int) = ((shapeOf (way.take i)).length : Int) + (j : Int) by omega] at ni
      have bq : brkB way stops (((i : Nat) : Int), ((j : Nat) : Int)) = (decide (j ≤ way[i].2.length) && decide ((shapeOf (way.take i)).length + j ∈ stops)) := by
        unfold brkB
        simp only [Int.toNat_natCast, List.getElem?_eq_getElem hi]
        congr 1
        by_cases h : j ≤ way[i].2.length
        · rw [decide_eq_true h, decide_eq_true (by omega)]
        · rw [decide_eq_false h, decide_eq_false (by omega)]
      rw [bq]
      have lL : ((way.take i).map (fun p => ((p.2.length : Nat) : Int))).length ≤ LIM := by rw [List.length_map]; exact ll
      generalize (way.take i).map (fun p => ((p.2.length : Nat) : Int)) = L at *
      generalize (shapeOf (way.take i)).length = n at *
      refine ⟨[some (.d (eM m)), some (.d (eR way)), some (.d (eN stops)), some (.d (.int (i : Nat))), some (.d (.int (j : Nat))), c5, none, none], rfl, fun h => ⟨[some (.d (eM m)), some (.d (eR way)), some (.d (eN stops)), some (.d (.int (i : Nat))), some (.d (.int (j : Nat))), some (.d (.int (n : Nat))), none, none], ?_, _, _, _, rfl⟩, fun h => ?_⟩
      · simp only [Bool.and_eq_true, decide_eq_true_eq] at h
        have : ¬ ((way[i].2.length : Nat) : Int) < (j : Int) := by omega
        simp [-List.map_take, b_keeps_breaks_L2, sl_eR, it, lc, lL, sm, ix_eR hi, lq, this, ni, h.2]
      · by_cases hj : ((way[i].2.length : Nat) : Int) < (j : Int)
        · simp [-List.map_take, b_keeps_breaks_L2, sl_eR, it, lc, lL, sm, ix_eR hi, lq, ni, hj]
        · have hk : j ≤ way[i].2.length := by omega
          have hn : n + j ∉ stops := by simpa [hk] using h
          simp [-List.map_take, b_keeps_breaks_L2, sl_eR, it, lc, lL, sm, ix_eR hi, lq, ni, hj, hn]
  unfold keepsT
  cases h : m.br.all (brkB way stops) with
  | true =>
    obtain ⟨ρ', e, c3, c4, c5, rfl⟩ := h1 h
    simp [G_keeps_breaks, runF_eq, b_keeps_breaks, e]
  | false => simp [G_keeps_breaks, runF_eq, b_keeps_breaks, h2 h]
end Fo
end
-- FoM19.lean
set_option Elab.async false
set_option linter.all false
set_option maxRecDepth 100000
set_option maxHeartbeats 4000000
noncomputable section
namespace Fo
open PySem L2
open PySem.W (dataLe dataLt alike alikeAll)

theorem cutL_drop {α : Type} (xs : List α) (n : Nat) : cutL xs (some (n : Int)) none = xs.drop n := by
  unfold cutL
  rw [HT.sIx_none, show HT.sIx xs.length 0 (some ((n : Nat) : Int)) = min n xs.length from HT.sIx_nat _ _ _]
  rw [List.take_of_length_le (by simp)]
  by_cases h : n ≤ xs.length
  · rw [Nat.min_eq_left h]
  · rw [Nat.min_eq_right (by omega), List.drop_of_length_le (Nat.le_refl _), List.drop_of_length_le (by omega)]
theorem agT_app : ∀ (s x f : Tx), s.length ≤ x.length → agT x (s ++ f) = (agT x s && agT (x.drop s.length) f)
  | [], x, f, _ => by simp [agT]
  | c :: s, [], f, h => by simp at h
  | c :: s, d :: x, f, h => by
    have ih := agT_app s x f (by simpa using h)
    unfold agT at ih ⊢
    rw [List.cons_append, List.zip_cons_cons, List.all_cons, ih, List.zip_cons_cons, List.all_cons, List.length_cons, List.drop_succ_cons, Bool.and_assoc]
theorem agT_more : ∀ (s x y : Tx), s.length ≤ x.length → agT (x ++ y) s = agT x s
  | [], x, y, _ => by simp [agT]
  | c :: s, [], y, h => by simp at h
  | c :: s, d :: x, y, h => by
    have ih := agT_more s x y (by simpa using h)
    unfold agT at ih ⊢
    rw [List.cons_append, List.zip_cons_cons, List.all_cons, ih, List.zip_cons_cons, List.all_cons]
/-- a beginning of a row, by its shape -/
def preB (x s : Tx) : Bool := decide (s.length ≤ x.length) && agT x s
def okP (x : Tx) (n : Nat) (p : Pr) : Bool := decide (n + p.2.length ≤ x.length) && agT (x.drop n) p.2
theorem preB_app (x s : Tx) (p : Pr) : preB x (s ++ p.2) = (preB x s && okP x s.length p) := by
  unfold preB okP
  rw [List.length_append]
  by_cases h : s.length ≤ x.length
  · rw [agT_app s x p.2 h, decide_eq_true h]
    cases decide (s.length + p.2.length ≤ x.length) <;> cases agT x s <;> simp
  · rw [decide_eq_false h, decide_eq_false (by omega)]; rfl
theorem endB_app (x s : Tx) (p : Pr) (lo : Bool) (hp : p.2 ≠ []) : endB x (s ++ p.2) lo = (preB x s && endB (x.drop s.length) p.2 lo) := by
  have lp : 0 < p.2.length := List.length_pos_iff.mpr hp
  unfold endB preB
  rw [List.length_append, List.length_drop]
  by_cases h : x.length = s.length + p.2.length
  · rw [decide_eq_true h, decide_eq_true (show x.length - s.length = p.2.length by omega), decide_eq_true (show s.length ≤ x.length by omega)]
    cases lo with
    | false => simp [agT_app s x p.2 (by omega)]
    | true =>
      have e1 : (s ++ p.2).dropLast = s ++ p.2.dropLast := List.dropLast_append_of_ne_nil hp
      have hx : x ≠ [] := fun z => by rw [z] at h; simp at h; omega
      have e2 : agT x s = agT x.dropLast s := by
        have := agT_more s x.dropLast [x.getLast hx] (by rw [List.length_dropLast]; omega)
        rw [List.dropLast_concat_getLast hx] at this
        exact this
      have e3 : (x.drop s.length).dropLast = x.dropLast.drop s.length := by
        rw [List.dropLast_eq_take, List.dropLast_eq_take, List.drop_take, List.length_drop]
        congr 1; omega
      simp only [Bool.true_and, if_true]
      rw [e1, e2, e3, agT_app s x.dropLast p.2.dropLast (by rw [List.length_dropLast]; omega)]
  · rw [decide_eq_false h]
    by_cases h2 : s.length ≤ x.length
    · rw [decide_eq_false (show ¬ x.length - s.length = p.2.length by omega)]; simp
    · rw [decide_eq_false h2]; rfl
theorem step_filter {t : List Foot} {rows : List Row} {pl : List Tx} (P P2 : Row → Bool) (Q : Row → Pr → Bool) (h : ∀ r ∈ rows, ∀ p ∈ pairsT t pl, P2 (r ++ [p]) = (P r && Q r p)) : (rowStep t rows pl).filter P2 = (rows.filter P).flatMap fun r => ((pairsT t pl).filter (Q r)).map fun p => r ++ [p] := by
  unfold rowStep
  induction rows with
  | nil => rfl
  | cons r rows ih =>
    rw [List.flatMap_cons, List.filter_append, ih fun r' hr => h r' (List.mem_cons_of_mem _ hr), List.filter_cons]
    have hr := h r (List.mem_cons_self ..)
    rw [List.filter_map]
    by_cases hP : P r = true
    · rw [if_pos hP, List.flatMap_cons]
      congr 2
      refine List.filter_congr fun p hp => ?_
      simp only [Function.comp_def]
      rw [hr p hp, hP, Bool.true_and]
    · rw [if_neg hP]
      have : (pairsT t pl).filter (P2 ∘ fun p => r ++ [p]) = [] := List.filter_eq_nil_iff.mpr fun p hp => by
        simp only [Function.comp_def]
        rw [hr p hp]
        simp [hP]
      rw [this]; rfl
theorem shape_snoc (r : Row) (p : Pr) : shapeOf (r ++ [p]) = shapeOf r ++ p.2 := by simp [shapeOf]
def prefsT (t : List Foot) (x : Tx) (dn : List (List Tx)) : List Row := (rowsT t dn).filter fun r => preB x (shapeOf r)
theorem rows_snoc (t : List Foot) (dn : List (List Tx)) (pl : List Tx) : rowsT t (dn ++ [pl]) = rowStep t (rowsT t dn) pl := by simp [rowsT]
theorem prefs_snoc (t : List Foot) (x : Tx) (dn : List (List Tx)) (pl : List Tx) : prefsT t x (dn ++ [pl]) = (prefsT t x dn).flatMap fun r => ((pairsT t pl).filter (okP x (shapeOf r).length)).map fun p => r ++ [p] := by
  unfold prefsT
  rw [rows_snoc, step_filter (fun r => preB x (shapeOf r)) _ (fun r p => okP x (shapeOf r).length p) fun r _ p _ => by rw [shape_snoc, preB_app]]
def rowsFor (t : List Foot) (pls : List (List Tx)) (lo : Bool) (x : Tx) : List Row := (rowsT t pls).filter fun r => endB x (shapeOf r) lo
theorem for_snoc {t : List Foot} (ht : TongueOk t) (x : Tx) (lo : Bool) (dn : List (List Tx)) (pl : List Tx) (hp : plOk t pl) : rowsFor t (dn ++ [pl]) lo x = (prefsT t x dn).flatMap fun r => ((pairsT t pl).filter fun p => endB (x.drop (shapeOf r).length) p.2 lo).map fun p => r ++ [p] := by
  unfold rowsFor prefsT
  rw [rows_snoc, step_filter (fun r => preB x (shapeOf r)) _ (fun r p => endB (x.drop (shapeOf r).length) p.2 lo) fun r _ p hpp => ?_]
  have := (pairs_form ht hp.2 p hpp).2.2.1
  rw [shape_snoc, endB_app _ _ _ _ fun z => by rw [z] at this; simp at this]
end Fo
end
-- FoM20.lean
set_option Elab.async false
set_option linter.all false
set_option maxRecDepth 100000
set_option maxHeartbeats 4000000
noncomputable section
namespace Fo
open PySem L2
open PySem.W (dataLe dataLt alike alikeAll)

def eW (r : Row) : D := .tup [eR r, .int ((shapeOf r).length : Nat)]
theorem okT_from {x : Tx} (h : okT x = true) (n : Nat) : okT (x.drop n) = true := by
  unfold okT at *
  rw [List.all_eq_true] at *
  exact fun c hc => h c (List.mem_of_mem_drop hc)
theorem filter_snoc {α : Type} (q : α → Bool) (xs : List α) (x : α) : (xs ++ [x]).filter q = xs.filter q ++ if q x = true then [x] else [] := by
  rw [List.filter_append, List.filter_cons, List.filter_nil]
theorem lim_lt {n : Nat} (h : n < 16777216) : n < LIM := by rw [LIM_eq]; exact h
theorem add_eR {r : Row} {p : Pr} (h : r.length ≤ 1000) : addD (eR r) (.tup [ePr p]) = some (eR (r ++ [p])) := by
  have : r.length + 1 ≤ LIM := lim_lit (by omega)
  simp [eR, this]
theorem for_row_turn {t : List Foot} (ht : TongueOk t) (m c3 c4 : D) {x : Tx} (hx : okT x = true) (lx : x.length ≤ 1000) (base : List Row) (r : Row) {pl : List Tx} (h : plOk t pl) (hb : base.length + 9 < 16777216) (hr : r.length ≤ 1000) (hs : (shapeOf r).length ≤ x.length) (c9 : Option Cell) :
    b_rows_for_L2 [some (.d (eT t)), some (.d m), some (.d (.str x)), some (.d c3), some (.d c4), some (.d (eS pl)), some (.l (base.map eW)), some (.d (eR r)), some (.d (.int ((shapeOf r).length : Nat))), c9, none] =
      some (.nx [some (.d (eT t)), some (.d m), some (.d (.str x)), some (.d c3), some (.d c4), some (.d (eS pl)), some (.l ((base ++ (((pairsT t pl).filter (okP x (shapeOf r).length)).map fun p => r ++ [p])).map eW)), some (.d (eR r)), some (.d (.int ((shapeOf r).length : Nat))), none, none]) := by
  have mp := m_pairs_of ht h.2 (by have := h.1; omega)
  have pl9 : (pairsT t pl).length ≤ 9 := by have := pairs_len ht h.2; have := h.1; omega
  have sn : ∀ p : Pr, (shapeOf (r ++ [p])).length = (shapeOf r).length + p.2.length := fun p => by rw [shape_snoc, List.length_append]
  generalize hn : (shapeOf r).length = n at *
  obtain ⟨ρ', e, c9', rfl⟩ := loop_pre (G := toS 9) (fb := b_rows_for_L1) ePr (fun dn ρ => ∃ c9, ρ = [some (.d (eT t)), some (.d m), some (.d (.str x)), some (.d c3), some (.d c4), some (.d (eS pl)), some (.l ((base ++ ((dn.filter (okP x n)).map fun p => r ++ [p])).map eW)), some (.d (eR r)), some (.d (.int (n : Nat))), c9, none]) (pairsT t pl)
    (ρ := [some (.d (eT t)), some (.d m), some (.d (.str x)), some (.d c3), some (.d c4), some (.d (eS pl)), some (.l (base.map eW)), some (.d (eR r)), some (.d (.int (n : Nat))), c9, none]) ⟨c9, by simp⟩ fun dn p rs ρ e ⟨c9, z⟩ => by
      subst z
      have hp : p ∈ pairsT t pl := by rw [e]; simp
      have ld : dn.length + 1 ≤ (pairsT t pl).length := by rw [e]; simp
      have hf := (pairs_form ht h.2 p hp).2.2
      have lf := List.length_filter_le (okP x n) dn
      have lp : p.2.length ≤ LIM := lim_lit (by have := hf.2.1; omega)
      have lX : x.length ≤ LIM := lim_lit (by omega)
      have ma := m_agree (okT_from hx n) (okT_ls hf.2.2) (x := x.drop n) (by rw [List.length_drop]; omega)
      have ar := add_eR (p := p) hr
      have ew : eW (r ++ [p]) = .tup [eR (r ++ [p]), .int ((n : Nat) + (p.2.length : Nat))] := by unfold eW; rw [sn]; simp
      refine ⟨_, [some (.d (eT t)), some (.d m), some (.d (.str x)), some (.d c3), some (.d c4), some (.d (eS pl)), some (.l ((base ++ (((dn ++ [p]).filter (okP x n)).map fun p => r ++ [p])).map eW)), some (.d (eR r)), some (.d (.int (n : Nat))), some (.d (ePr p)), none], rfl, ?_, _, rfl⟩
      rw [filter_snoc]
      have lb : (base ++ ((dn.filter (okP x n)).map fun p => r ++ [p])).length < LIM := lim_lt (by rw [List.length_append, List.length_map]; omega)
      have eb : ∀ Z : List Pr, base ++ (dn.filter (okP x n) ++ Z).map (fun p => r ++ [p]) = (base ++ ((dn.filter (okP x n)).map fun p => r ++ [p])) ++ Z.map fun p => r ++ [p] := fun Z => by rw [List.map_append, List.append_assoc]
      rw [eb]
      generalize (base ++ ((dn.filter (okP x n)).map fun p => r ++ [p])) = B at *
      unfold okP
      by_cases h1 : n + p.2.length ≤ x.length
      · have i1 : (n : Int) + (p.2.length : Nat) ≤ (x.length : Nat) := by omega
        cases h2 : agT (x.drop n) p.2 with
        | true => simp [b_rows_for_L1, lp, lX, cutL_drop, ma, h1, h2, i1, ar, ew, lb]
        | false => simp [b_rows_for_L1, lp, lX, cutL_drop, ma, h1, h2, i1]
      · have i1 : ¬ (n : Int) + (p.2.length : Nat) ≤ (x.length : Nat) := by omega
        simp [b_rows_for_L1, lp, lX, h1, i1]
  simp [b_rows_for_L2, mp, e]
theorem prefs_len {t : List Foot} (ht : TongueOk t) (x : Tx) {dn : List (List Tx)} (h : ∀ pl ∈ dn, plOk t pl) (hn : dn.length ≤ 6) : (prefsT t x dn).length ≤ 531441 := by
  have h1 : (rowsT t dn).length ≤ 9 ^ dn.length := by simpa [rowsT] using rows_len ht dn [[]] h
  have h3 : 9 ^ dn.length ≤ 531441 := Nat.le_trans (Nat.pow_le_pow_right (by decide) hn) (by decide)
  have := List.length_filter_le (fun r => preB x (shapeOf r)) (rowsT t dn)
  unfold prefsT
  omega
theorem prefs_in {t : List Foot} {x : Tx} {dn : List (List Tx)} {r : Row} (h : r ∈ prefsT t x dn) : r.length = dn.length ∧ (shapeOf r).length ≤ x.length ∧ r ∈ rowsT t dn := by
  unfold prefsT at h
  obtain ⟨h1, h2⟩ := List.mem_filter.mp h
  unfold preB at h2
  simp only [Bool.and_eq_true, decide_eq_true_eq] at h2
  exact ⟨by simpa [rowsT] using rows_each dn [[]] 0 (by simp) r h1, h2.1, h1⟩
theorem for_place_turn {t : List Foot} (ht : TongueOk t) (m c3 : D) {x : Tx} (hx : okT x = true) (lx : x.length ≤ 1000) (rows : List Row) {pl : List Tx} (h : plOk t pl) (hl : rows.length * 9 + 9 < 16777216) (hr : ∀ r ∈ rows, r.length ≤ 1000 ∧ (shapeOf r).length ≤ x.length) (c6 c7 c8 : Option Cell) :
    b_rows_for_L3 [some (.d (eT t)), some (.d m), some (.d (.str x)), some (.d c3), some (.l (rows.map eW)), some (.d (eS pl)), c6, c7, c8, none, none] =
      some (.nx [some (.d (eT t)), some (.d m), some (.d (.str x)), some (.d c3), some (.l ((rows.flatMap fun r => ((pairsT t pl).filter (okP x (shapeOf r).length)).map fun p => r ++ [p]).map eW)), some (.d (eS pl)), none, none, none, none, none]) := by
  have pl9 : (pairsT t pl).length ≤ 9 := by have := pairs_len ht h.2; have := h.1; omega
  obtain ⟨ρ', e, c7', c8', rfl⟩ := loop_pre (G := toTup 2 (toCons (toS 7) (toCons (toS 8) toNil))) (fb := b_rows_for_L2) eW (fun dn ρ => ∃ c7 c8, ρ = [some (.d (eT t)), some (.d m), some (.d (.str x)), some (.d c3), some (.d (.lst (rows.map eW))), some (.d (eS pl)), some (.l ((dn.flatMap fun r => ((pairsT t pl).filter (okP x (shapeOf r).length)).map fun p => r ++ [p]).map eW)), c7, c8, none, none]) rows
    (ρ := [some (.d (eT t)), some (.d m), some (.d (.str x)), some (.d c3), some (.d (.lst (rows.map eW))), some (.d (eS pl)), some (.l []), c7, c8, none, none]) ⟨c7, c8, rfl⟩ fun dn r rs ρ e ⟨c7, c8, z⟩ => by
      subst z
      have hrr := hr r (by rw [e]; simp)
      have ld : dn.length + 1 ≤ rows.length := by rw [e]; simp
      have lf := flat_le (fun r => ((pairsT t pl).filter (okP x (shapeOf r).length)).map fun p => r ++ [p]) 9 dn fun r _ => by
        rw [List.length_map]
        have := List.length_filter_le (okP x (shapeOf r).length) (pairsT t pl)
        omega
      have q := for_row_turn ht m c3 (.lst (rows.map eW)) hx lx (dn.flatMap fun r => ((pairsT t pl).filter (okP x (shapeOf r).length)).map fun p => r ++ [p]) r h (by omega) hrr.1 hrr.2 none
      exact ⟨_, _, rfl, q, some (.d (eR r)), some (.d (.int ((shapeOf r).length : Nat))), by rw [List.flatMap_append, List.flatMap_singleton]⟩
  simp [-List.map_flatMap, b_rows_for_L3, e, Cell.own]
theorem for_last_turn {t : List Foot} (ht : TongueOk t) (m : Meas) (c4 : D) {x : Tx} (hx : okT x = true) (lx : x.length ≤ 1000) (base : List Row) (r : Row) {pl : List Tx} (h : plOk t pl) (hpl : m.pl.getLast? = some pl) (hb : base.length + 9 < 16777216) (hr : r.length ≤ 1000) (hs : (shapeOf r).length ≤ x.length) (c5 c9 : Option Cell) :
    b_rows_for_L5 [some (.d (eT t)), some (.d (eM m)), some (.d (.str x)), some (.d (.tup (m.pl.map eS))), some (.d c4), c5, none, some (.d (eR r)), some (.d (.int ((shapeOf r).length : Nat))), c9, some (.l (base.map eR))] =
      some (.nx [some (.d (eT t)), some (.d (eM m)), some (.d (.str x)), some (.d (.tup (m.pl.map eS))), some (.d c4), c5, none, some (.d (eR r)), some (.d (.int ((shapeOf r).length : Nat))), none, some (.l ((base ++ (((pairsT t pl).filter fun p => endB (x.drop (shapeOf r).length) p.2 m.lo).map fun p => r ++ [p])).map eR))]) := by
  have mp := m_pairs_of ht h.2 (by have := h.1; omega)
  have pl9 : (pairsT t pl).length ≤ 9 := by have := pairs_len ht h.2; have := h.1; omega
  have ea : atI (m.pl.map eS) (-1) = some (eS pl) := by
    rw [atI_map]
    have : atI m.pl (-1) = m.pl.getLast? := by
      unfold atI
      cases hp : m.pl with
      | nil => rfl
      | cons a b =>
        rw [List.getLast?_eq_getElem?]
        have : ixN (a :: b).length (-1) = some (b.length) := by
          unfold ixN
          simp
          omega
        rw [this]
        simp
    rw [this, hpl]; rfl
  generalize hn : (shapeOf r).length = n at *
  obtain ⟨ρ', e, c9', rfl⟩ := loop_pre (G := toS 9) (fb := b_rows_for_L4) ePr (fun dn ρ => ∃ c9, ρ = [some (.d (eT t)), some (.d (eM m)), some (.d (.str x)), some (.d (.tup (m.pl.map eS))), some (.d c4), c5, none, some (.d (eR r)), some (.d (.int (n : Nat))), c9, some (.l ((base ++ ((dn.filter fun p => endB (x.drop n) p.2 m.lo).map fun p => r ++ [p])).map eR))]) (pairsT t pl)
    (ρ := [some (.d (eT t)), some (.d (eM m)), some (.d (.str x)), some (.d (.tup (m.pl.map eS))), some (.d c4), c5, none, some (.d (eR r)), some (.d (.int (n : Nat))), c9, some (.l (base.map eR))]) ⟨c9, by simp⟩ fun dn p rs ρ e ⟨c9, z⟩ => by
      subst z
      have hp : p ∈ pairsT t pl := by rw [e]; simp
      have ld : dn.length + 1 ≤ (pairsT t pl).length := by rw [e]; simp
      have hf := (pairs_form ht h.2 p hp).2.2
      have lf := List.length_filter_le (fun p => endB (x.drop n) p.2 m.lo) dn
      have lX : x.length ≤ LIM := lim_lit (by omega)
      have ma := m_agrees_at_end (okT_from hx n) (okT_ls hf.2.2) (x := x.drop n) (by rw [List.length_drop]; omega) (by have := hf.2.1; omega) m.lo
      have ar := add_eR (p := p) hr
      refine ⟨_, [some (.d (eT t)), some (.d (eM m)), some (.d (.str x)), some (.d (.tup (m.pl.map eS))), some (.d c4), c5, none, some (.d (eR r)), some (.d (.int (n : Nat))), some (.d (ePr p)), some (.l ((base ++ (((dn ++ [p]).filter fun p => endB (x.drop n) p.2 m.lo).map fun p => r ++ [p])).map eR))], rfl, ?_, _, rfl⟩
      rw [filter_snoc]
      have lb : (base ++ ((dn.filter fun p => endB (x.drop n) p.2 m.lo).map fun p => r ++ [p])).length < LIM := lim_lt (by rw [List.length_append, List.length_map]; omega)
      have eb : ∀ Z : List Pr, base ++ (dn.filter (fun p => endB (x.drop n) p.2 m.lo) ++ Z).map (fun p => r ++ [p]) = (base ++ ((dn.filter fun p => endB (x.drop n) p.2 m.lo).map fun p => r ++ [p])) ++ Z.map fun p => r ++ [p] := fun Z => by rw [List.map_append, List.append_assoc]
      rw [eb]
      generalize (base ++ ((dn.filter fun p => endB (x.drop n) p.2 m.lo).map fun p => r ++ [p])) = B at *
      cases h2 : endB (x.drop n) p.2 m.lo with
      | true => simp [b_rows_for_L4, lX, cutL_drop, ma, h2, ar, lb]
      | false => simp [b_rows_for_L4, lX, cutL_drop, ma, h2]
  simp [b_rows_for_L5, ea, mp, e]
theorem m_rows_for {t : List Foot} (ht : TongueOk t) (m : Meas) (hp : ∀ pl ∈ m.pl, plOk t pl) (hn : m.pl.length ≤ 7) {x : Tx} (hx : okT x = true) (lx : x.length ≤ 1000) : G_rows_for [eT t, eM m, .str x] = some (.lst ((rowsFor t m.pl m.lo x).map eR)) := by
  have lX : x.length ≤ LIM := lim_lit (by omega)
  by_cases h0 : m.pl = []
  · have e1 := eqD_str hx (show okT [] = true from rfl)
    have e2 : rowsFor t m.pl m.lo x = if x = [] then [[]] else [] := by
      rw [h0]
      unfold rowsFor
      show List.filter _ [[]] = _
      rw [List.filter_cons, List.filter_nil]
      have : endB x (shapeOf []) m.lo = decide (x = []) := by
        unfold endB shapeOf
        cases x with
        | nil => cases m.lo <;> simp [agT]
        | cons a b => simp
      rw [this]
      by_cases hx : x = [] <;> simp [hx]
    rw [e2]
    have e3 : mulX (.lst [.tup []]) (.int (if decide (x = []) = true then 1 else 0)) = some (.lst ((if x = [] then [[]] else [] : List Row).map eR)) := by
      simp only [mulX, mulD]
      have l1 : (1 : Nat) ≤ LIM := lim_lit (by decide)
      rw [MB_eq]
      by_cases h : x = []
      · simp [h, l1, eR]
      · simp [h, lim_lit]
    have l1 : (1 : Nat) ≤ LIM := lim_lit (by decide)
    simp only [ite_eq_left_iff, decide_eq_true_eq] at e3
    simp [G_rows_for, runF_eq, b_rows_for, h0, eqD_int, e1, intD, l1, e3]
  · have hlast := List.dropLast_concat_getLast h0
    generalize hi : m.pl.dropLast = init at hlast
    generalize hl : m.pl.getLast h0 = last at hlast
    have hpl : m.pl.getLast? = some last := by rw [← hlast]; simp
    have il : init.length + 1 = m.pl.length := by rw [← hlast]; simp
    have hin : ∀ q ∈ init, plOk t q := fun q hq => hp q (by rw [← hlast]; simp [hq])
    have hla : plOk t last := hp last (by rw [← hlast]; simp)
    have hsl : slD (.tup (m.pl.map eS)) none (some (-1)) = some (.tup (init.map eS)) := by
      rw [slD_tup, cutL_map]
      have : cutL m.pl none (some (-1)) = init := by
        show (m.pl.drop 0).take ((-1 + (m.pl.length : Int)).toNat - 0) = _
        rw [← hi, List.dropLast_eq_take, List.drop_zero]
        congr 1; omega
      rw [this]
    obtain ⟨ρ1, e1, c5, c7, c8, rfl⟩ := loop_pre (G := toS 5) (fb := b_rows_for_L3) eS (fun dn ρ => ∃ c5 c7 c8, ρ = [some (.d (eT t)), some (.d (eM m)), some (.d (.str x)), some (.d (.tup (m.pl.map eS))), some (.l ((prefsT t x dn).map eW)), c5, none, c7, c8, none, none]) init
      (ρ := [some (.d (eT t)), some (.d (eM m)), some (.d (.str x)), some (.d (.tup (m.pl.map eS))), some (.l [.tup [.tup [], .int 0]]), none, none, none, none, none, none]) ⟨none, none, none, by
        have : prefsT t x [] = [[]] := by unfold prefsT rowsT preB; simp [shapeOf, agT]
        rw [this]; simp [eW, eR, shapeOf]⟩ fun dn pl rs ρ e ⟨c5, c7, c8, z⟩ => by
        subst z
        have hd : ∀ q ∈ dn, plOk t q := fun q hq => hin q (by rw [e]; simp [hq])
        have ld : dn.length + 1 ≤ init.length := by rw [e]; simp
        have lp := prefs_len ht x hd (by omega)
        have q := for_place_turn ht (eM m) (.tup (m.pl.map eS)) hx lx (prefsT t x dn) (hin pl (by rw [e]; simp)) (by omega) (fun r hr => by have := prefs_in hr; omega) none c7 c8
        exact ⟨_, _, rfl, q, some (.d (eS pl)), none, none, by rw [prefs_snoc]⟩
    have lpi := prefs_len ht x hin (by omega)
    obtain ⟨ρ2, e2, c7', c8', rfl⟩ := loop_pre (G := toTup 2 (toCons (toS 7) (toCons (toS 8) toNil))) (fb := b_rows_for_L5) eW (fun dn ρ => ∃ c7 c8, ρ = [some (.d (eT t)), some (.d (eM m)), some (.d (.str x)), some (.d (.tup (m.pl.map eS))), some (.d (.lst ((prefsT t x init).map eW))), none, none, c7, c8, none, some (.l ((dn.flatMap fun r => ((pairsT t last).filter fun p => endB (x.drop (shapeOf r).length) p.2 m.lo).map fun p => r ++ [p]).map eR))]) (prefsT t x init)
      (ρ := [some (.d (eT t)), some (.d (eM m)), some (.d (.str x)), some (.d (.tup (m.pl.map eS))), some (.d (.lst ((prefsT t x init).map eW))), none, none, c7, c8, none, some (.l [])]) ⟨c7, c8, rfl⟩ fun dn r rs ρ e ⟨c7, c8, z⟩ => by
        subst z
        have hr := prefs_in (show r ∈ prefsT t x init by rw [e]; simp)
        have ld : dn.length + 1 ≤ (prefsT t x init).length := by rw [e]; simp
        have pl9 : (pairsT t last).length ≤ 9 := by have := pairs_len ht hla.2; have := hla.1; omega
        have lf := flat_le (fun r => ((pairsT t last).filter fun p => endB (x.drop (shapeOf r).length) p.2 m.lo).map fun p => r ++ [p]) 9 dn fun r _ => by
          rw [List.length_map]
          have := List.length_filter_le (fun p : Pr => endB (x.drop (shapeOf r).length) p.2 m.lo) (pairsT t last)
          omega
        have q := for_last_turn ht m (.lst ((prefsT t x init).map eW)) hx lx (dn.flatMap fun r => ((pairsT t last).filter fun p => endB (x.drop (shapeOf r).length) p.2 m.lo).map fun p => r ++ [p]) r hla hpl (by omega) (by omega) hr.2.1 none none
        exact ⟨_, _, rfl, q, some (.d (eR r)), some (.d (.int ((shapeOf r).length : Nat))), by rw [List.flatMap_append, List.flatMap_singleton]⟩
    have fin := for_snoc ht x m.lo init last hla
    rw [hlast] at fin
    rw [← fin] at e2
    have ne0 : ¬ ((m.pl.length : Int) = 0) := by omega
    have l1 : (1 : Nat) ≤ LIM := lim_lit (by decide)
    simp [-slD_tup, G_rows_for, runF_eq, b_rows_for, eqD_int, h0, ne0, hsl, l1, e1, e2]
end Fo
end
-- FoM21.lean
set_option Elab.async false
set_option linter.all false
set_option maxRecDepth 100000
set_option maxHeartbeats 4000000
noncomputable section
namespace Fo
open PySem L2
open PySem.W (dataLe dataLt alike alikeAll rowLt keyToksAll dataLt_tuple)

/-! ### orders of encoded things -/
def lexP {α β : Type} [DecidableEq α] (la : α → α → Bool) (lb : β → β → Bool) (p q : α × β) : Bool := la p.1 q.1 || (decide (p.1 = q.1) && lb p.2 q.2)
def lexL {α : Type} [DecidableEq α] (lt : α → α → Bool) : List α → List α → Bool
  | [], [] => false
  | [], _ :: _ => true
  | _ :: _, [] => false
  | a :: as, b :: bs => lt a b || (decide (a = b) && lexL lt as bs)
theorem sto_pair {α β : Type} [DecidableEq α] {la : α → α → Bool} {lb : β → β → Bool} (ha : STO la) (hb : STO lb) : STO (lexP la lb) := by
  refine ⟨fun p => ?_, fun p q r h k => ?_, fun p q h k => ?_⟩
  · simp [lexP, ha.irr, hb.irr]
  · simp only [lexP, Bool.or_eq_true, Bool.and_eq_true, decide_eq_true_eq] at *
    rcases h with h | ⟨h1, h2⟩ <;> rcases k with k | ⟨k1, k2⟩
    · exact .inl (ha.tr _ _ _ h k)
    · exact .inl (by rw [← k1]; exact h)
    · exact .inl (by rw [h1]; exact k)
    · exact .inr ⟨h1.trans k1, hb.tr _ _ _ h2 k2⟩
  · simp only [lexP, Bool.or_eq_false_iff, Bool.and_eq_false_iff, decide_eq_false_iff_not] at *
    have e1 := ha.tot _ _ h.1 k.1
    have h2 := h.2.resolve_left (fun z => z e1)
    have k2 := k.2.resolve_left (fun z => z e1.symm)
    exact Prod.ext e1 (hb.tot _ _ h2 k2)
theorem sto_list {α : Type} [DecidableEq α] {lt : α → α → Bool} (hs : STO lt) : STO (lexL lt) := by
  refine ⟨fun p => ?_, fun p => ?_, fun p => ?_⟩
  · induction p with
    | nil => rfl
    | cons a p ih => simp [lexL, hs.irr, ih]
  · induction p with
    | nil => intro q r h k; cases q <;> cases r <;> simp_all [lexL]
    | cons a p ih =>
      intro q r h k
      cases q with
      | nil => simp [lexL] at h
      | cons b q =>
        cases r with
        | nil => simp [lexL] at k
        | cons c r =>
          simp only [lexL, Bool.or_eq_true, Bool.and_eq_true, decide_eq_true_eq] at *
          rcases h with h | ⟨h1, h2⟩ <;> rcases k with k | ⟨k1, k2⟩
          · exact .inl (hs.tr _ _ _ h k)
          · exact .inl (by rw [← k1]; exact h)
          · exact .inl (by rw [h1]; exact k)
          · exact .inr ⟨h1.trans k1, ih _ _ h2 k2⟩
  · induction p with
    | nil => intro q h k; cases q with | nil => rfl | cons b q => simp [lexL] at h
    | cons a p ih =>
      intro q h k
      cases q with
      | nil => simp [lexL] at k
      | cons b q =>
        simp only [lexL, Bool.or_eq_false_iff, Bool.and_eq_false_iff, decide_eq_false_iff_not] at *
        have e1 := hs.tot _ _ h.1 k.1
        have h2 := h.2.resolve_left (fun z => z e1)
        have k2 := k.2.resolve_left (fun z => z e1.symm)
        rw [e1, ih _ h2 k2]
/-- enc keeps equality and order -/
structure EO {α : Type} [DecidableEq α] (enc : α → D) (lt : α → α → Bool) : Prop where
  eq : Enc enc
  less : ∀ a b, dataLt (py (enc a)) (py (enc b)) = lt a b
  al : ∀ a b, alike (py (enc a)) (py (enc b)) = true
  sto : STO lt
theorem eo_str : EO (fun x : Tx => .str x) ltT := ⟨enc_str, fun a b => by
  show dataLt (.str (tx a)) (.str (tx b)) = _
  rw [PySem.W.dataLt_str, tx_cps, tx_cps, ← ltT_lt], fun a b => by simp [py, alike], stoT⟩
theorem eo_int : EO (fun x : Int => .int x) ltI := ⟨enc_int, fun a b => by
  show dataLt (.int a) (.int b) = _
  rw [PySem.W.dataLt_int]; rfl, fun a b => by simp [py, alike], stoI⟩
theorem EO.eqv {α : Type} [DecidableEq α] {enc : α → D} {lt : α → α → Bool} (h : EO enc lt) (a b : α) : PyData.eqv (py (enc a)) (py (enc b)) = decide (a = b) := h.eq a b
theorem lt_or {α : Type} [DecidableEq α] {lt : α → α → Bool} (h : STO lt) {a b : α} {x : Bool} : (if decide (a = b) = true then x else lt a b) = (lt a b || (decide (a = b) && x)) := by
  by_cases e : a = b
  · subst e; simp [h.irr]
  · simp [e]
theorem EO.pair {α β : Type} [DecidableEq α] [DecidableEq β] {f : α → D} {g : β → D} {la : α → α → Bool} {lb : β → β → Bool} (hf : EO f la) (hg : EO g lb) : EO (fun p : α × β => .tup [f p.1, g p.2]) (lexP la lb) :=
  ⟨hf.eq.pair hg.eq, fun p q => by
    show dataLt (.tuple [py (f p.1), py (g p.2)]) (.tuple [py (f q.1), py (g q.2)]) = _
    rw [PySem.W.dataLt_pair (hf.al _ _) (hg.al _ _), hf.eqv, hg.eqv, hf.less, hg.less]
    unfold lexP
    rw [lt_or hf.sto]
    congr 2
    by_cases e : p.2 = q.2
    · rw [e, hg.sto.irr]; simp
    · simp [e], fun p q => by
    show alike (.tuple [py (f p.1), py (g p.2)]) (.tuple [py (f q.1), py (g q.2)]) = true
    simp [alike, alikeAll, hf.al, hg.al], sto_pair hf.sto hg.sto⟩
theorem py_tup (xs : List D) : py (.tup xs) = .tuple (xs.map py) := by
  have : ∀ xs : List D, pyL xs = xs.map py := fun xs => by
    induction xs with
    | nil => simp [pyL]
    | cons x xs ih => simp [pyL, ih]
  simp [py, this]
theorem rowLt_nc (y : PyData) (ys : List PyData) : rowLt [] (y :: ys) = true := by
  unfold PySem.W.rowLt
  rw [PySem.W.toks_all_cons]
  simp only [PySem.W.keyToksAll]
  rw [PyProof.Rows.lex_diff (O := PyProof.Rows.itemOrd) (by simp)]
  rfl
theorem rowLt_cn (y : PyData) (ys : List PyData) : rowLt (y :: ys) [] = false := by
  unfold PySem.W.rowLt
  rw [PySem.W.toks_all_cons]
  simp only [PySem.W.keyToksAll]
  rw [PyProof.Rows.lex_diff (O := PyProof.Rows.itemOrd) (by simp)]
  rfl
theorem EO.tup {α : Type} [DecidableEq α] {enc : α → D} {lt : α → α → Bool} (h : EO enc lt) : EO (fun xs : List α => .tup (xs.map enc)) (lexL lt) :=
  ⟨h.eq.tup, fun xs ys => by
    show dataLt (py (.tup (xs.map enc))) (py (.tup (ys.map enc))) = _
    rw [py_tup, py_tup, dataLt_tuple]
    show rowLt _ _ = _
    induction xs generalizing ys with
    | nil =>
      cases ys with
      | nil => exact PyProof.Rows.lex_irrefl _
      | cons y ys => exact rowLt_nc _ _
    | cons x xs ih =>
      cases ys with
      | nil => exact rowLt_cn _ _
      | cons y ys =>
        have := PySem.W.dataLt_cons (h.al x y) ((xs.map enc).map py) ((ys.map enc).map py)
        show rowLt (py (enc x) :: (xs.map enc).map py) (py (enc y) :: (ys.map enc).map py) = _
        unfold PySem.W.rowLt at ih ⊢
        rw [this, ih ys, h.eqv, h.less, lt_or h.sto]
        rfl, fun xs ys => by
    show alike (py (.tup (xs.map enc))) (py (.tup (ys.map enc))) = true
    rw [py_tup, py_tup, alike]
    induction xs generalizing ys with
    | nil => simp [alikeAll]
    | cons x xs ih =>
      cases ys with
      | nil => simp [alikeAll]
      | cons y ys => simp only [List.map_cons, alikeAll, h.al x y, Bool.true_and]; exact ih ys, sto_list h.sto⟩
theorem srtOk_enc {α : Type} [DecidableEq α] {enc : α → D} {lt : α → α → Bool} (h : EO enc lt) {xs : List α} (ok : ∀ x ∈ xs, okD 60 (enc x) = true) (hl : xs.length ≤ LIM) (hs : (∀ x ∈ xs, consT (enc x) = true) ∨ (∀ x ∈ xs, noTup (enc x) = true) ∨ (xs.length ≤ 1 ∧ ∀ x ∈ xs, notN (enc x) = true)) : srtOk (xs.map enc) = true := by
  unfold srtOk
  simp only [Bool.and_eq_true, Bool.or_eq_true, decide_eq_true_eq]
  refine ⟨⟨⟨okL_map ok, ?_⟩, ?_⟩, by rw [List.length_map]; exact hl⟩
  · rw [List.all_eq_true]
    intro x hx
    rw [List.all_eq_true]
    intro y hy
    obtain ⟨p, _, rfl⟩ := List.mem_map.mp hx
    obtain ⟨q, _, rfl⟩ := List.mem_map.mp hy
    exact h.al p q
  · simp only [List.all_map, List.all_eq_true, Function.comp_def, List.length_map]
    rcases hs with hs | hs | hs
    · exact .inl (.inl hs)
    · exact .inl (.inr hs)
    · exact .inr hs
theorem sortD_eo {α : Type} [DecidableEq α] {enc : α → D} {lt : α → α → Bool} (h : EO enc lt) {xs : List α} (nd : xs.Nodup) : sortD (xs.map enc) = (usort lt xs).map enc := by
  rw [sortD_enc enc lt xs fun a _ b _ => h.less a b, sort_nodup h.sto nd]
theorem sorted_enc {α : Type} [DecidableEq α] {enc : α → D} {lt : α → α → Bool} (h : EO enc lt) {xs : List α} (nd : xs.Nodup) (ok : ∀ x ∈ xs, okD 60 (enc x) = true) (hl : xs.length ≤ LIM) (hs : (∀ x ∈ xs, consT (enc x) = true) ∨ (∀ x ∈ xs, noTup (enc x) = true) ∨ (xs.length ≤ 1 ∧ ∀ x ∈ xs, notN (enc x) = true)) : sortedD [.lst (xs.map enc)] = some (.lst ((usort lt xs).map enc)) := by
  unfold sortedD
  simp only
  rw [if_pos (srtOk_enc h ok hl hs), sortD_eo h nd]
def ltPr : Pr → Pr → Bool := lexP ltT ltT
def ltR : Row → Row → Bool := lexL ltPr
theorem eo_pr : EO ePr ltPr := eo_str.pair eo_str
theorem eo_row : EO eR ltR := eo_pr.tup
theorem stoR : STO ltR := eo_row.sto
theorem enc_row : Enc eR := eo_row.eq
end Fo
end
-- FoM22.lean
set_option Elab.async false
set_option linter.all false
set_option maxRecDepth 100000
set_option maxHeartbeats 4000000
noncomputable section
namespace Fo
open PySem L2

theorem flat_nodup {α β : Type} (f : α → List β) : ∀ {xs : List α}, xs.Nodup → (∀ x ∈ xs, (f x).Nodup) → (∀ x ∈ xs, ∀ y ∈ xs, ∀ z, z ∈ f x → z ∈ f y → x = y) → (xs.flatMap f).Nodup
  | [], _, _, _ => by simp
  | x :: xs, nd, h1, h2 => by
    rw [List.flatMap_cons, List.nodup_append]
    rw [List.nodup_cons] at nd
    refine ⟨h1 x (List.mem_cons_self ..), flat_nodup f nd.2 (fun y hy => h1 y (List.mem_cons_of_mem _ hy)) (fun a ha b hb => h2 a (List.mem_cons_of_mem _ ha) b (List.mem_cons_of_mem _ hb)), fun a ha b hb e => ?_⟩
    subst e
    obtain ⟨y, hy, hay⟩ := List.mem_flatMap.mp hb
    have := h2 x (List.mem_cons_self ..) y (List.mem_cons_of_mem _ hy) a ha hay
    subst this
    exact nd.1 hy
theorem map_nodup {α β : Type} (f : α → β) (hf : ∀ a b, f a = f b → a = b) {xs : List α} (h : xs.Nodup) : (xs.map f).Nodup := by
  unfold List.Nodup at *
  rw [List.pairwise_map]
  exact h.imp fun {a b} n e => n (hf a b e)
theorem pairs_nodup {t : List Foot} (ht : TongueOk t) {pl : List Tx} (h : placeOk t pl) : (pairsT t pl).Nodup := by
  unfold pairsT
  refine flat_nodup _ (rising_nodup stoT h.2.2.1) (fun x hx => ?_) fun x _ y _ z hz hz' => ?_
  · exact map_nodup _ (fun a b e => (Prod.ext_iff.mp e).2) (rising_nodup stoT (forms_ok ht (h.2.2.2 x hx)).2.2.1)
  · unfold prOf at hz hz'
    obtain ⟨f, _, rfl⟩ := List.mem_map.mp hz
    obtain ⟨g, _, e⟩ := List.mem_map.mp hz'
    exact (Prod.ext_iff.mp e).1.symm
theorem step_nodup {t : List Foot} (ht : TongueOk t) {pl : List Tx} (h : placeOk t pl) {rows : List Row} (nd : rows.Nodup) : (rowStep t rows pl).Nodup := by
  unfold rowStep
  refine flat_nodup _ nd (fun r _ => map_nodup _ (fun a b e => ?_) (pairs_nodup ht h)) fun r _ r' _ z hz hz' => ?_
  · simpa using e
  · obtain ⟨p, _, rfl⟩ := List.mem_map.mp hz
    obtain ⟨q, _, e⟩ := List.mem_map.mp hz'
    exact (List.append_inj' e (by simp)).1.symm
theorem rows_nodup {t : List Foot} (ht : TongueOk t) : ∀ (pls : List (List Tx)) (rows : List Row), (∀ pl ∈ pls, placeOk t pl) → rows.Nodup → (pls.foldl (rowStep t) rows).Nodup
  | [], _, _, nd => nd
  | pl :: pls, rows, h, nd => rows_nodup ht pls _ (fun q hq => h q (List.mem_cons_of_mem _ hq)) (step_nodup ht (h pl (List.mem_cons_self ..)) nd)
theorem rowsT_nodup {t : List Foot} (ht : TongueOk t) {pls : List (List Tx)} (h : ∀ pl ∈ pls, placeOk t pl) : (rowsT t pls).Nodup := rows_nodup ht pls [[]] h (by simp)
theorem placeOk.pl {t : List Foot} {s : List Tx} (h : placeOk t s) : plOk t s := ⟨h.2.1, h.2.2.2⟩
/-- a measure, drawn or put together -/
structure MP (t : List Foot) (m : Meas) : Prop where
  pl : ∀ s ∈ m.pl, placeOk t s
  br : ∀ p ∈ m.br, 0 ≤ p.1 ∧ p.1 < m.pl.length ∧ 1 ≤ p.2 ∧ p.2 ≤ 3
theorem MP.po {t : List Foot} {m : Meas} (h : MP t m) : ∀ s ∈ m.pl, plOk t s := fun s hs => (h.pl s hs).pl
theorem MeasOk.mp {t : List Foot} {m : Meas} (h : MeasOk t m) : MP t m := ⟨h.pl, h.br⟩
structure LineOk (ln : List Tx) : Prop where
  tx : ∀ w ∈ ln, okT w = true
  fl : ln.flatten.length ≤ 1000
  le : ln.length ≤ 1000
theorem LineOk.wl {ln : List Tx} (h : LineOk ln) : ∀ w ∈ ln, w.length ≤ 1000 := fun w hw => by
  have h1 := h.fl
  have : w.length ≤ ln.flatten.length := by
    clear h h1
    induction ln with
    | nil => simp at hw
    | cons a ln ih =>
      rw [List.flatten_cons, List.length_append]
      rcases List.mem_cons.mp hw with rfl | hw
      · omega
      · have := ih hw; omega
  omega
theorem LineOk.okt {ln : List Tx} (h : LineOk ln) : okT ln.flatten = true := by
  unfold okT
  rw [List.all_eq_true]
  intro c hc
  obtain ⟨w, hw, hc⟩ := List.mem_flatten.mp hc
  have := h.tx w hw
  unfold okT at this
  rw [List.all_eq_true] at this
  exact this c hc
def waysT (t : List Foot) (m : Meas) (ln : List Tx) : List Row := usort ltR ((rowsFor t m.pl m.lo ln.flatten).filter fun r => keepsT m.br r (endsT ln))
theorem mem_ways {t : List Foot} {m : Meas} {ln : List Tx} {r : Row} : r ∈ waysT t m ln ↔ r ∈ rowsT t m.pl ∧ endB ln.flatten (shapeOf r) m.lo = true ∧ keepsT m.br r (endsT ln) = true := by
  unfold waysT rowsFor
  rw [mem_usort stoR, List.mem_filter, List.mem_filter, and_assoc]
theorem rows9 {t : List Foot} (ht : TongueOk t) {m : Meas} (hm : ∀ s ∈ m.pl, plOk t s) (hn : m.pl.length ≤ 7) : (rowsT t m.pl).length ≤ 4782969 := by
  have h1 : (rowsT t m.pl).length ≤ 9 ^ m.pl.length := by simpa [rowsT] using rows_len ht m.pl [[]] hm
  have h3 := pow9 hn
  omega
theorem okD_row {t : List Foot} (ht : TongueOk t) {pls : List (List Tx)} (h : ∀ pl ∈ pls, plOk t pl) {r : Row} (hr : r ∈ rowsT t pls) {n : Nat} : okD (n + 2) (eR r) = true := by
  obtain ⟨a, b⟩ := row_form ht h hr
  show okL (n + 1) _ = true
  refine okL_map fun p hp => ?_
  show okL n _ = true
  simp only [okL, Bool.and_eq_true, Bool.and_true]
  exact ⟨okD_str (ht.okT (a p hp).1), okD_str (okT_ls (a p hp).2.2.2.2)⟩
theorem m_ways {t : List Foot} (ht : TongueOk t) {m : Meas} (hm : MP t m) (hn : m.pl.length ≤ 7) {ln : List Tx} (hl : LineOk ln) : G_ways [eT t, eM m, eS ln] = some (.tup ((waysT t m ln).map eR)) := by
  have e1 := m_ends hl.wl hl.le
  have e2 := m_signs hl.wl hl.le
  have e3 := m_rows_for ht m hm.po hn hl.okt hl.fl
  have r9 := rows9 ht hm.po hn
  have lc : lcL [some (.d (eT t)), some (.d (eM m)), some (.d (eS ln)), some (.d (eN (endsT ln))), none] (toS 4) (asB (callN 3 G_keeps_breaks (consA (getS 1) (consA (getS 4) (consA (getS 3) nilA))))) b_ways_c1 ((rowsFor t m.pl m.lo ln.flatten).map eR) = some (((rowsFor t m.pl m.lo ln.flatten).filter fun r => keepsT m.br r (endsT ln)).map eR) :=
    lcL_map eR (fun r => keepsT m.br r (endsT ln)) eR _ fun r hr => by
      obtain ⟨hr, _⟩ := List.mem_filter.mp hr
      obtain ⟨a, b⟩ := row_form ht hm.po hr
      have kb := m_keeps_breaks (m := m) (way := r) (stops := endsT ln) (by rw [b]; exact hm.br) (by omega) fun p hp => by have := (a p hp).2.2.2.1; omega
      exact ⟨_, rfl, by simp [kb], by simp [b_ways_c1]⟩
  have nd : ((rowsFor t m.pl m.lo ln.flatten).filter fun r => keepsT m.br r (endsT ln)).Nodup := ((rowsT_nodup ht hm.pl).sublist List.filter_sublist).sublist List.filter_sublist
  have lf1 := List.length_filter_le (fun r => keepsT m.br r (endsT ln)) (rowsFor t m.pl m.lo ln.flatten)
  have lf2 : (rowsFor t m.pl m.lo ln.flatten).length ≤ (rowsT t m.pl).length := List.length_filter_le _ _
  have hin : ∀ r ∈ (rowsFor t m.pl m.lo ln.flatten).filter fun r => keepsT m.br r (endsT ln), r ∈ rowsT t m.pl := fun r hr => (List.mem_filter.mp (List.mem_filter.mp hr).1).1
  have lF : ((rowsFor t m.pl m.lo ln.flatten).filter fun r => keepsT m.br r (endsT ln)).length ≤ LIM := lim_lit (by omega)
  have srt := sorted_enc eo_row nd (fun r hr => okD_row ht hm.po (hin r hr) (n := 58)) lF (by
    by_cases h0 : m.pl = []
    · right; right
      have : (rowsT t m.pl).length = 1 := by rw [h0]; rfl
      exact ⟨by omega, fun _ _ => rfl⟩
    · left
      intro r hr
      have hrl := (row_form ht hm.po (hin r hr)).2
      cases r with
      | nil => exact absurd (List.length_eq_zero_iff.mp hrl.symm) h0
      | cons p r => rfl)
  unfold waysT
  generalize (rowsFor t m.pl m.lo ln.flatten).filter (fun r => keepsT m.br r (endsT ln)) = F at *
  simp [G_ways, runF_eq, b_ways, e1, e2, e3, lc, lF, srt]
theorem ways_le {t : List Foot} {m : Meas} {ln : List Tx} : (waysT t m ln).length ≤ (rowsT t m.pl).length := by
  have h1 := usort_len stoR ((rowsFor t m.pl m.lo ln.flatten).filter fun r => keepsT m.br r (endsT ln))
  have h2 := List.length_filter_le (fun r => keepsT m.br r (endsT ln)) (rowsFor t m.pl m.lo ln.flatten)
  have h3 : (rowsFor t m.pl m.lo ln.flatten).length ≤ (rowsT t m.pl).length := List.length_filter_le _ _
  unfold waysT
  omega
theorem m_many_ways {t : List Foot} (ht : TongueOk t) {m : Meas} (hm : MP t m) (hn : m.pl.length ≤ 7) {ln : List Tx} (hl : LineOk ln) : G_many_ways [eT t, eM m, eS ln] = some (.int ((waysT t m ln).length : Nat)) := by
  have mw := m_ways ht hm hn hl
  simp [G_many_ways, runF_eq, b_many_ways, mw]
def fitsB (t : List Foot) (m : Meas) (ln : List Tx) : Bool := decide (0 < (waysT t m ln).length)
theorem m_fits {t : List Foot} (ht : TongueOk t) {m : Meas} (hm : MP t m) (hn : m.pl.length ≤ 7) {ln : List Tx} (hl : LineOk ln) : G_fits [eT t, eM m, eS ln] = some (.bl (fitsB t m ln)) := by
  have mw := m_many_ways ht hm hn hl
  unfold fitsB
  simp [G_fits, runF_eq, b_fits, mw]
theorem fits_iff {t : List Foot} {m : Meas} {ln : List Tx} : fitsB t m ln = true ↔ ∃ r ∈ rowsT t m.pl, endB ln.flatten (shapeOf r) m.lo = true ∧ keepsT m.br r (endsT ln) = true := by
  unfold fitsB
  rw [decide_eq_true_eq, List.length_pos_iff_exists_mem]
  exact exists_congr fun r => mem_ways
theorem m_way_at {t : List Foot} (ht : TongueOk t) {m : Meas} (hm : MP t m) (hn : m.pl.length ≤ 7) {ln : List Tx} (hl : LineOk ln) {k : Nat} (hk : k < (waysT t m ln).length) : G_way_at [eT t, eM m, eS ln, .int (k : Nat)] = some (eR (waysT t m ln)[k]) := by
  have mw := m_ways ht hm hn hl
  have e : atI ((waysT t m ln).map eR) (k : Int) = some (eR (waysT t m ln)[k]) := atI_nat (by rw [List.getElem?_map, List.getElem?_eq_getElem hk]; rfl)
  simp [G_way_at, runF_eq, b_way_at, mw, chn, hk, e]
end Fo
end
-- FoM23.lean
set_option Elab.async false
set_option linter.all false
set_option maxRecDepth 100000
set_option maxHeartbeats 4000000
noncomputable section
namespace Fo
open PySem L2

/-! ### parting (as in L30) -/
theorem eqD_nil {xs : List D} (h : okL 59 xs = true) : eqD (.lst xs) (.lst []) = some (.bl (decide (xs = []))) := by
  cases xs with
  | nil => exact eqD_refl (x := .lst []) rfl
  | cons x xs =>
    unfold eqD
    have e : eqV (.lst (x :: xs)) (.lst []) = false := by rw [eqV_lst]; simp [eqVL, pyL, PyData.eqvAll]
    have o1 : okD 60 (.lst (x :: xs)) = true := h
    have o2 : okD 60 (.lst []) = true := rfl
    simp [e, o1, o2]
theorem part_nodup {A B : List Tx} (ha : A.Nodup) (hb : B.Nodup) : (partT A B).Nodup := by
  unfold partT
  rw [List.filter_append, List.nodup_append]
  refine ⟨ha.sublist List.filter_sublist, hb.sublist List.filter_sublist, fun x hx y hy e => ?_⟩
  subst e
  obtain ⟨h1, h2⟩ := List.mem_filter.mp hx
  obtain ⟨h3, h4⟩ := List.mem_filter.mp hy
  simp [h1, h3] at h2
theorem min_mem (x : Tx) (xs : List Tx) : minT x xs ∈ x :: xs := by
  unfold minT
  induction xs generalizing x with
  | nil => simp
  | cons y xs ih =>
    rw [List.foldl_cons]
    have := ih (if ltT y x = true then y else x)
    rcases List.mem_cons.mp this with h | h
    · rw [h]; split <;> simp
    · exact List.mem_cons_of_mem _ (List.mem_cons_of_mem _ h)
theorem min_low (x : Tx) (xs : List Tx) : ∀ y ∈ x :: xs, ltT y (minT x xs) = false := by
  unfold minT
  induction xs generalizing x with
  | nil => intro y hy; simp at hy; subst hy; exact stoT.irr _
  | cons z xs ih =>
    rw [List.foldl_cons]
    intro y hy
    by_cases h : ltT z x = true
    · rw [if_pos h]
      rcases List.mem_cons.mp hy with rfl | hy
      · have := ih z z (List.mem_cons_self ..)
        cases e : ltT y (xs.foldl (fun m e => if ltT e m = true then e else m) z) with
        | false => rfl
        | true => rw [stoT.tr _ _ _ h e] at this; cases this
      · exact ih z y hy
    · rw [if_neg h]
      rcases List.mem_cons.mp hy with rfl | hy
      · exact ih y y (List.mem_cons_self ..)
      · rcases List.mem_cons.mp hy with rfl | hy
        · have hx := ih x x (List.mem_cons_self ..)
          cases e : ltT y (xs.foldl (fun m e => if ltT e m = true then e else m) x) with
          | false => rfl
          | true =>
            cases e2 : ltT (xs.foldl (fun m e => if ltT e m = true then e else m) x) x with
            | true => exact absurd (stoT.tr _ _ _ e e2) h
            | false =>
              have := stoT.tot _ _ e2 hx
              rw [this] at e
              exact absurd e h
        · exact ih x y (List.mem_cons_of_mem _ hy)
theorem min_head {x : Tx} {xs : List Tx} {z : Tx} {zs : List Tx} (h : usort ltT (x :: xs) = z :: zs) : minT x xs = z := by
  have hm : minT x xs ∈ z :: zs := by rw [← h, mem_usort stoT]; exact min_mem x xs
  have hz : z ∈ x :: xs := by rw [← mem_usort stoT, h]; exact List.mem_cons_self ..
  have r := rising_usort stoT (x :: xs)
  rw [h] at r
  rcases List.mem_cons.mp hm with e | e
  · exact e
  · have := (List.pairwise_cons.mp r).1 _ e
    rw [min_low x xs z hz] at this
    cases this
theorem parting_head (t : List Foot) (a b : Meas) : partingT t a b = (usort ltT (partT (shapesT t a) (shapesT t b))).head? := by
  unfold partingT
  cases h : partT (shapesT t a) (shapesT t b) with
  | nil => rfl
  | cons x xs =>
    cases h2 : usort ltT (x :: xs) with
    | nil => exact absurd h2 (usort_ne stoT (by simp))
    | cons z zs => exact congrArg some (min_head h2)
theorem okL_strs {n : Nat} {xs : List Tx} (h : ∀ x ∈ xs, okT x = true) : okL n (xs.map .str) = true := okL_map fun x hx => okD_str (h x hx)
theorem within_nil (A B : List Tx) : (A.all fun x => decide (x ∈ B)) = decide ((A.filter fun x => !decide (x ∈ B)).map D.str = []) := by
  cases h : A.all fun x => decide (x ∈ B) with
  | true =>
    rw [List.all_eq_true] at h
    have : (A.filter fun x => !decide (x ∈ B)) = [] := List.filter_eq_nil_iff.mpr fun x hx => by simpa using h x hx
    rw [this]; rfl
  | false =>
    symm
    rw [decide_eq_false_iff_not, List.map_eq_nil_iff, List.filter_eq_nil_iff]
    intro q
    have : A.all (fun x => decide (x ∈ B)) = true := List.all_eq_true.mpr fun x hx => by simpa using q x hx
    rw [this] at h; cases h
/-! ### lines of one word for each sign -/
def sng (x : Tx) : List Tx := x.map fun c => [c]
theorem sng_flat (x : Tx) : (sng x).flatten = x := flat_one x
theorem eS_sng (x : Tx) : D.tup (sgns x) = eS (sng x) := by unfold eS sng sgns; rw [List.map_map]; rfl
theorem LineOk.sng {x : Tx} (h : okT x = true) (hl : x.length ≤ 1000) : LineOk (sng x) := by
  refine ⟨fun w hw => ?_, by rw [sng_flat]; exact hl, by unfold Fo.sng; rw [List.length_map]; exact hl⟩
  obtain ⟨c, hc, rfl⟩ := List.mem_map.mp hw
  exact okT_sub h hc
theorem agT_ls : ∀ {x s : Tx}, lsT x → x.length = s.length → (agT x s = true ↔ x = s)
  | [], [], _, _ => by simp [agT]
  | [], _ :: _, _, h => by simp at h
  | _ :: _, [], _, h => by simp at h
  | c :: x, d :: s, hx, h => by
    have ih := agT_ls (x := x) (s := s) (fun k hk => hx k (List.mem_cons_of_mem _ hk)) (by simpa using h)
    have hc := hx c (List.mem_cons_self ..)
    have h1 : c ≠ 101 := by rcases hc with e | e <;> rw [e] <;> decide
    unfold agT at ih ⊢
    rw [List.zip_cons_cons, List.all_cons, Bool.and_eq_true, ih]
    simp [h1]
theorem lsT_drop {x : Tx} (h : lsT x) : lsT x.dropLast := fun k hk => h k (List.dropLast_subset _ hk)
theorem endB_ls {x s : Tx} (hx : lsT x) (hs : lsT s) (lo : Bool) : endB x s lo = decide (x ∈ looseT s lo) := by
  rw [← twin_mem hs hx]
  have key : endB x s lo = true ↔ twinB lo s x = true := by
    unfold endB twinB
    cases lo with
    | false =>
      simp only [Bool.false_eq_true, if_false, Bool.and_eq_true, decide_eq_true_eq, Bool.false_and, Bool.or_false]
      exact ⟨fun ⟨a, b⟩ => ((agT_ls hx a).mp b).symm, fun e => by subst e; exact ⟨rfl, (agT_ls hx rfl).mpr rfl⟩⟩
    | true =>
      simp only [if_true, Bool.and_eq_true, decide_eq_true_eq, Bool.true_and, Bool.or_eq_true, Bool.not_eq_true', decide_eq_false_iff_not]
      constructor
      · rintro ⟨a, b⟩
        have := (agT_ls (lsT_drop hx) (s := s.dropLast) (by simp [a])).mp b
        by_cases h0 : s = []
        · left
          subst h0
          exact (List.length_eq_zero_iff.mp (by simpa using a)).symm
        · exact .inr ⟨h0, a.symm, this.symm⟩
      · rintro (e | ⟨_, a, b⟩)
        · subst e; exact ⟨rfl, (agT_ls (lsT_drop hx) rfl).mpr rfl⟩
        · exact ⟨a.symm, (agT_ls (lsT_drop hx) (by simp [a])).mpr b.symm⟩
  cases h1 : endB x s lo <;> cases h2 : twinB lo s x
  · rfl
  · rw [h1, h2] at key; simp at key
  · rw [h1, h2] at key; simp at key
  · rfl
theorem keeps_nil (way : Row) (stops : List Nat) : keepsT [] way stops = true := rfl
theorem shape_of_row {t : List Foot} (ht : TongueOk t) {pls : List (List Tx)} (h : ∀ pl ∈ pls, plOk t pl) {r : Row} (hr : r ∈ rowsT t pls) : lsT (shapeOf r) ∧ (shapeOf r).length ≤ 3 * pls.length := by
  obtain ⟨a, b⟩ := row_form ht h hr
  obtain ⟨c, d⟩ := shape_ls fun p hp => (a p hp).2.2
  exact ⟨c, by omega⟩
theorem fits_sng {t : List Foot} (ht : TongueOk t) {m : Meas} (hm : MP t m) (hb : m.br = []) {x : Tx} (hx : lsT x) : fitsB t m (sng x) = decide (x ∈ shapesT t m) := by
  have key : fitsB t m (sng x) = true ↔ x ∈ shapesT t m := by
    rw [fits_iff, mem_shapes_all, sng_flat, hb]
    refine exists_congr fun r => and_congr_right fun hr => ?_
    rw [endB_ls hx (shape_of_row ht hm.po hr).1]
    simp [keeps_nil]
  by_cases h : x ∈ shapesT t m
  · rw [decide_eq_true h]; exact key.mpr h
  · rw [decide_eq_false h]
    cases e : fitsB t m (sng x) with
    | false => rfl
    | true => exact absurd (key.mp e) h
theorem usort_len_nd {α : Type} {lt : α → α → Bool} (h : STO lt) {xs : List α} (nd : xs.Nodup) : (usort lt xs).length = xs.length := by
  rw [← sort_nodup h nd]
  exact (List.mergeSort_perm xs (leOf lt)).length_eq
theorem ways_len {t : List Foot} (ht : TongueOk t) {m : Meas} (hm : MP t m) {ln : List Tx} : (waysT t m ln).length = ((rowsT t m.pl).filter fun r => endB ln.flatten (shapeOf r) m.lo && keepsT m.br r (endsT ln)).length := by
  have nd : ((rowsFor t m.pl m.lo ln.flatten).filter fun r => keepsT m.br r (endsT ln)).Nodup := ((rowsT_nodup ht hm.pl).sublist List.filter_sublist).sublist List.filter_sublist
  unfold waysT
  rw [usort_len_nd stoR nd]
  unfold rowsFor
  rw [List.filter_filter]
  congr 1
  refine List.filter_congr fun r _ => Bool.and_comm _ _
theorem count_flat {α : Type} (f : α → List Tx) (x : Tx) (h : ∀ a, (f a).count x = if x ∈ f a then 1 else 0) : ∀ xs : List α, (xs.flatMap f).count x = (xs.filter fun a => decide (x ∈ f a)).length
  | [] => rfl
  | a :: xs => by
    rw [List.flatMap_cons, List.count_append, count_flat f x h xs, List.filter_cons, h a]
    by_cases e : x ∈ f a <;> simp [e]
    omega
theorem ways_sng {t : List Foot} (ht : TongueOk t) {m : Meas} (hm : MP t m) (hb : m.br = []) {x : Tx} (hx : lsT x) : (waysT t m (sng x)).length = (shapesAll t m).count x := by
  rw [ways_len ht hm]
  unfold shapesAll
  rw [count_flat (fun r => looseT (shapeOf r) m.lo) x (fun r => count_loose m.lo), sng_flat, hb]
  congr 1
  refine List.filter_congr fun r hr => ?_
  rw [endB_ls hx (shape_of_row ht hm.po hr).1, keeps_nil, Bool.and_true]
theorem mem_dbl {t : List Foot} {m : Meas} {x : Tx} : x ∈ dblT t m ↔ 1 < (shapesAll t m).count x := by
  unfold dblT
  rw [mem_usort stoT, List.mem_filter, decide_eq_true_eq]
  exact ⟨fun h => h.2, fun h => ⟨List.count_pos_iff.mp (by omega), h⟩⟩
theorem part_mem {A B : List Tx} {x : Tx} : x ∈ partT A B ↔ ¬ (x ∈ A ↔ x ∈ B) := by
  unfold partT
  rw [List.mem_filter, List.mem_append]
  by_cases h1 : x ∈ A <;> by_cases h2 : x ∈ B <;> simp [h1, h2]
theorem part_us {A B A' B' : List Tx} (h : ∀ x, (x ∈ A ↔ x ∈ B) ↔ (x ∈ A' ↔ x ∈ B')) : usort ltT (partT A B) = usort ltT (partT A' B') :=
  rising_unique stoT (rising_usort stoT _) (rising_usort stoT _) fun z => by
    rw [mem_usort stoT, mem_usort stoT, part_mem, part_mem, h z]
theorem parting_symm (t : List Foot) (a b : Meas) : partingT t a b = partingT t b a := by
  rw [parting_head, parting_head, part_us fun x => Iff.comm]
theorem parting_some {t : List Foot} {a b : Meas} {p : Tx} (h : partingT t a b = some p) : ¬ (p ∈ shapesT t a ↔ p ∈ shapesT t b) ∧ ∀ y, ltT y p = true → (y ∈ shapesT t a ↔ y ∈ shapesT t b) := by
  unfold partingT at h
  cases e : partT (shapesT t a) (shapesT t b) with
  | nil => rw [e] at h; cases h
  | cons x xs =>
    rw [e] at h
    cases h
    have h1 := min_mem x xs
    rw [← e, part_mem] at h1
    refine ⟨h1, fun y hy => Decidable.byContradiction fun hn => ?_⟩
    have := min_low x xs y (by rw [← e, part_mem]; exact hn)
    rw [this] at hy; cases hy
theorem shapes_eq_iff {t : List Foot} {a b : Meas} : shapesT t a = shapesT t b ↔ ∀ x, x ∈ shapesT t a ↔ x ∈ shapesT t b := ⟨fun h x => by rw [h], shapes_ext⟩
end Fo
end
-- FoM24.lean
set_option Elab.async false
set_option linter.all false
set_option maxRecDepth 100000
set_option maxHeartbeats 4000000
noncomputable section
namespace Fo
open PySem L2

/-! ### rows counted -/
theorem beq_of_iff {p q : Prop} [Decidable p] [Decidable q] (h : p ↔ q) : decide p = decide q := by
  by_cases hp : p
  · rw [decide_eq_true hp, decide_eq_true (h.mp hp)]
  · rw [decide_eq_false hp, decide_eq_false fun z => hp (h.mpr z)]
theorem fold_rows (t : List Foot) : ∀ (q : List (List Tx)) (R : List Row), q.foldl (rowStep t) R = R.flatMap fun r => (rowsT t q).map (r ++ ·)
  | [], R => by
    show R = R.flatMap fun r => [[]].map (r ++ ·)
    simp
  | pl :: q, R => by
    have e : rowsT t (pl :: q) = (rowStep t [[]] pl).flatMap fun r => (rowsT t q).map (r ++ ·) := fold_rows t q (rowStep t [[]] pl)
    rw [e, List.foldl_cons, fold_rows t q]
    unfold rowStep
    simp [List.flatMap_assoc, List.flatMap_map, List.map_flatMap, Function.comp_def]
theorem rows_app (t : List Foot) (p q : List (List Tx)) : rowsT t (p ++ q) = (rowsT t p).flatMap fun r => (rowsT t q).map (r ++ ·) := by
  show (p ++ q).foldl (rowStep t) [[]] = _
  rw [List.foldl_append]
  exact fold_rows t q _
theorem flat_const {α β : Type} (f : α → List β) (k : Nat) : ∀ xs : List α, (∀ x ∈ xs, (f x).length = k) → (xs.flatMap f).length = xs.length * k
  | [], _ => by simp
  | x :: xs, h => by
    rw [List.flatMap_cons, List.length_append, flat_const f k xs fun y hy => h y (List.mem_cons_of_mem _ hy), h x (List.mem_cons_self ..), List.length_cons, Nat.succ_mul]
    omega
theorem step_count (t : List Foot) (R : List Row) (pl : List Tx) : (rowStep t R pl).length = R.length * (pairsT t pl).length := by
  unfold rowStep
  exact flat_const _ _ _ fun r _ => by rw [List.length_map]
theorem pairs_count (t : List Foot) (pl : List Tx) : (pairsT t pl).length = (pl.map fun x => (formsOf t x).length).sum := by
  unfold pairsT prOf
  induction pl with
  | nil => rfl
  | cons x pl ih => rw [List.flatMap_cons, List.length_append, ih, List.map_cons, List.sum_cons, List.length_map]
theorem all_plain {t : List Foot} {m : Meas} (h : m.lo = false) : shapesAll t m = (rowsT t m.pl).map shapeOf := by
  unfold shapesAll
  rw [h]
  simp only [loose_false]
  induction rowsT t m.pl with
  | nil => rfl
  | cons r R ih => rw [List.flatMap_cons, ih]; rfl
theorem sum_ite (U : List Tx) (a : Tx) : (U.map fun x => if a = x then 1 else 0).sum = U.count a := by
  induction U with
  | nil => rfl
  | cons x U ih =>
    rw [List.map_cons, List.sum_cons, ih, List.count_cons]
    by_cases h : a = x
    · subst h; simp; omega
    · have h2 : (x == a) = false := by simpa using fun z => h z.symm
      simp [h, h2]
theorem sum_add {α : Type} (U : List α) (f g : α → Nat) : (U.map fun x => f x + g x).sum = (U.map f).sum + (U.map g).sum := by
  induction U with
  | nil => rfl
  | cons x U ih => simp only [List.map_cons, List.sum_cons, ih]; omega
theorem sum_zero {α : Type} (U : List α) (f : α → Nat) (h : ∀ x ∈ U, f x = 0) : (U.map f).sum = 0 := by
  induction U with
  | nil => rfl
  | cons x U ih => rw [List.map_cons, List.sum_cons, ih fun y hy => h y (List.mem_cons_of_mem _ hy), h x (List.mem_cons_self ..)]
theorem sum_counts {U : List Tx} (nd : U.Nodup) : ∀ A : List Tx, (∀ x ∈ A, x ∈ U) → (U.map fun x => A.count x).sum = A.length
  | [], _ => by
    exact sum_zero _ _ fun x _ => by simp
  | a :: A, h => by
    have ih := sum_counts nd A fun x hx => h x (List.mem_cons_of_mem _ hx)
    have e : (U.map fun x => (a :: A).count x) = U.map fun x => A.count x + if a = x then 1 else 0 := List.map_congr_left fun x _ => by
      rw [List.count_cons]
      by_cases h : a = x <;> simp [h]
    rw [e, sum_add, ih, sum_ite]
    have h1 := List.nodup_iff_count.mp nd a
    have h2 := List.count_pos_iff.mpr (h a (List.mem_cons_self ..))
    rw [List.length_cons]
    omega
theorem sum_ones {α : Type} (f : α → Nat) : ∀ U : List α, (∀ x ∈ U, 1 ≤ f x) → U.length ≤ (U.map f).sum ∧ ((U.map f).sum = U.length → ∀ x ∈ U, f x = 1)
  | [], _ => ⟨Nat.le_refl _, fun _ x hx => by simp at hx⟩
  | x :: U, h => by
    obtain ⟨h1, h2⟩ := sum_ones f U fun y hy => h y (List.mem_cons_of_mem _ hy)
    have hx := h x (List.mem_cons_self ..)
    rw [List.map_cons, List.sum_cons, List.length_cons]
    refine ⟨by omega, fun e y hy => ?_⟩
    rcases List.mem_cons.mp hy with rfl | hy
    · omega
    · exact h2 (by omega) y hy
theorem sum_shapes (t : List Foot) (m : Meas) : ((shapesT t m).map fun x => (shapesAll t m).count x).sum = (shapesAll t m).length :=
  sum_counts (rising_nodup stoT (rising_usort stoT _)) _ fun x hx => mem_shapes.mpr hx
theorem clear_iff {t : List Foot} {m : Meas} : dblT t m = [] ↔ (shapesT t m).length = (shapesAll t m).length := by
  have hs := sum_shapes t m
  constructor
  · intro h
    have nd : (shapesAll t m).Nodup := List.nodup_iff_count.mpr fun x => by
      by_cases hx : 1 < (shapesAll t m).count x
      · have := mem_dbl.mpr hx
        rw [h] at this; simp at this
      · omega
    exact usort_len_nd stoT nd
  · intro h
    obtain ⟨_, h2⟩ := sum_ones (fun x => (shapesAll t m).count x) (shapesT t m) fun x hx => List.count_pos_iff.mpr (mem_shapes.mp hx)
    refine List.eq_nil_iff_forall_not_mem.mpr fun x hx => ?_
    have h3 := mem_dbl.mp hx
    have h4 := h2 (by rw [hs, h]) x (mem_shapes.mpr (List.count_pos_iff.mp (by omega)))
    omega
/-! ### cuts of a shape -/
theorem count_app (s x : Tx) (B : List Tx) : (B.map (s ++ ·)).count x = if s.isPrefixOf x = true then B.count (x.drop s.length) else 0 := by
  induction B with
  | nil => simp
  | cons b B ih =>
    rw [List.map_cons, List.count_cons, ih, List.count_cons]
    by_cases h : s.isPrefixOf x = true
    · obtain ⟨y, rfl⟩ := List.isPrefixOf_iff_prefix.mp h
      simp
    · have : ¬ s ++ b = x := fun z => h (List.isPrefixOf_iff_prefix.mpr ⟨b, z⟩)
      simp [h, this]
theorem sum_one_at (n k : Nat) (f : Nat → Nat) : ((List.range n).map fun i => if i = k then f i else 0).sum = if k < n then f k else 0 := by
  induction n with
  | zero => simp
  | succ n ih =>
    rw [List.range_succ, List.map_append, List.sum_append, ih]
    by_cases h : k < n
    · have : ¬ n = k := by omega
      simp [h, this, show k < n + 1 by omega]
    · by_cases h2 : n = k
      · subst h2; simp
      · simp [h, h2, show ¬ k < n + 1 by omega]
theorem cut_sum (x s : Tx) (B : List Tx) : ((List.range (x.length + 1)).map fun i => (if s = x.take i then 1 else 0) * B.count (x.drop i)).sum = if s.isPrefixOf x = true then B.count (x.drop s.length) else 0 := by
  by_cases h : s.isPrefixOf x = true
  · obtain ⟨y, rfl⟩ := List.isPrefixOf_iff_prefix.mp h
    have e : ((List.range ((s ++ y).length + 1)).map fun i => (if s = (s ++ y).take i then 1 else 0) * B.count ((s ++ y).drop i)) = (List.range ((s ++ y).length + 1)).map fun i => if i = s.length then B.count ((s ++ y).drop i) else 0 := List.map_congr_left fun i hi => by
      have hi := List.mem_range.mp hi
      by_cases hi2 : i = s.length
      · subst hi2; simp
      · have : ¬ s = (s ++ y).take i := fun z => by
          have := congrArg List.length z
          rw [List.length_take] at this
          omega
        simp [this, hi2]
    rw [e, sum_one_at, if_pos h, if_pos (by rw [List.length_append]; omega)]
  · rw [if_neg h]
    refine sum_zero _ _ fun i _ => ?_
    have : ¬ s = x.take i := fun z => h (List.isPrefixOf_iff_prefix.mpr (by rw [z]; exact List.take_prefix i x))
    simp [this]
theorem count_cuts (x : Tx) (B : List Tx) : ∀ A : List Tx, (A.flatMap fun s => B.map (s ++ ·)).count x = ((List.range (x.length + 1)).map fun i => A.count (x.take i) * B.count (x.drop i)).sum
  | [] => by
    rw [List.flatMap_nil, List.count_nil]
    exact (sum_zero _ _ fun i _ => by simp).symm
  | s :: A => by
    have e : ((List.range (x.length + 1)).map fun i => (s :: A).count (x.take i) * B.count (x.drop i)) = (List.range (x.length + 1)).map fun i => (if s = x.take i then 1 else 0) * B.count (x.drop i) + A.count (x.take i) * B.count (x.drop i) := List.map_congr_left fun i _ => by
      rw [List.count_cons, ← Nat.add_mul]
      congr 1
      by_cases h : s = x.take i
      · simp [h]; omega
      · simp [h]
    rw [e, sum_add, cut_sum, ← count_cuts x B A, List.flatMap_cons, List.count_append, count_app]
theorem all_joined {t : List Foot} {a b : Meas} (ha : a.lo = false) (hb : b.lo = false) : shapesAll t (joined a b) = (shapesAll t a).flatMap fun s => (shapesAll t b).map (s ++ ·) := by
  rw [all_plain ha, all_plain hb, all_plain (m := joined a b) hb]
  show (rowsT t (a.pl ++ b.pl)).map shapeOf = _
  rw [rows_app]
  simp [List.map_flatMap, List.flatMap_map, Function.comp_def, shape_app]
theorem MP.joined {t : List Foot} {a b : Meas} (ha : MP t a) (hb : MP t b) : MP t (joined a b) := by
  refine ⟨fun s hs => (List.mem_append.mp hs).elim (ha.pl s) (hb.pl s), fun p hp => ?_⟩
  have : (Fo.joined a b).pl.length = a.pl.length + b.pl.length := by simp [Fo.joined]
  rw [this]
  rcases List.mem_append.mp hp with h | h
  · have := ha.br p h; omega
  · obtain ⟨q, hq, rfl⟩ := List.mem_map.mp h
    have := hb.br q hq
    simp only
    omega
end Fo
end
-- FoM25.lean
set_option Elab.async false
set_option linter.all false
set_option maxRecDepth 100000
set_option maxHeartbeats 4000000
noncomputable section
namespace Fo
open PySem L2

/-! ### one statement after another; whiles -/
theorem seqE {P : Option Out → Prop} {s rest : Env → Option Out} {ρ : Env} (Q : Env → Prop) (h : ∃ ρ', s ρ = some (.nx ρ') ∧ Q ρ') (k : ∀ ρ', Q ρ' → P (rest ρ')) : P (seqS s rest ρ) := by
  obtain ⟨ρ', h1, h2⟩ := h
  rw [seq_nx h1]
  exact k ρ' h2
theorem whL_ok {p : Env → Option Bool} {fb : Env → Option Out} (I : Nat → Env → Prop) (Q : Env → Prop) (H : ∀ k ρ, I k ρ → (p ρ = some false ∧ Q ρ) ∨ (p ρ = some true ∧ ∃ ρ2 k', fb ρ = some (.nx ρ2) ∧ k' < k ∧ I k' ρ2)) : ∀ (n k : Nat) (ρ : Env), k < n → I k ρ → ∃ ρ', whL p fb n ρ = some (.nx ρ') ∧ Q ρ'
  | 0, k, ρ, h, _ => by omega
  | n + 1, k, ρ, h, hI => by
    unfold whL
    rcases H k ρ hI with ⟨h1, h2⟩ | ⟨h1, ρ2, k', h2, h3, h4⟩
    · rw [h1]; exact ⟨ρ, rfl, h2⟩
    · rw [h1, h2]
      exact whL_ok I Q H n k' ρ2 (by omega) h4
theorem whS_ok {p : Env → Option Bool} {fb : Env → Option Out} (I : Nat → Env → Prop) (Q : Env → Prop) {k : Nat} {ρ : Env} (hk : k ≤ 1000) (h0 : I k ρ) (H : ∀ k ρ, I k ρ → (p ρ = some false ∧ Q ρ) ∨ (p ρ = some true ∧ ∃ ρ2 k', fb ρ = some (.nx ρ2) ∧ k' < k ∧ I k' ρ2)) : ∃ ρ', whS WN p fb ρ = some (.nx ρ') ∧ Q ρ' := by
  unfold whS
  exact whL_ok I Q H (WN + 1) k ρ (by rw [WN_eq]; omega) h0
/-! ### drawn lines -/
def lseT (x : Tx) : Prop := ∀ c ∈ x, c = 108 ∨ c = 115 ∨ c = 101
theorem lsT.lse {x : Tx} (h : lsT x) : lseT x := fun c hc => (h c hc).elim .inl fun e => .inr (.inl e)
theorem okT_lse {x : Tx} (h : lseT x) : okT x = true := by
  unfold okT
  rw [List.all_eq_true]
  intro c hc
  rcases h c hc with e | e | e <;> simp [e]
structure LineD (ln : List Tx) : Prop where
  le : ln.length ≤ 6
  wd : ∀ w ∈ ln, lseT w ∧ 1 ≤ w.length ∧ w.length ≤ 4
theorem flat_len_le {ln : List Tx} {k : Nat} (h : ∀ w ∈ ln, w.length ≤ k) : ln.flatten.length ≤ ln.length * k := by
  induction ln with
  | nil => simp
  | cons w ln ih =>
    have a := h w (List.mem_cons_self ..)
    have b := ih fun q hq => h q (List.mem_cons_of_mem _ hq)
    rw [List.flatten_cons, List.length_append, List.length_cons, Nat.succ_mul]
    omega
theorem LineD.fl {ln : List Tx} (h : LineD ln) : ln.flatten.length ≤ 24 := by
  have := flat_len_le (ln := ln) (k := 4) fun w hw => (h.wd w hw).2.2
  have := h.le
  omega
theorem LineD.ok {ln : List Tx} (h : LineD ln) : LineOk ln := by
  refine ⟨fun w hw => okT_lse (h.wd w hw).1, ?_, ?_⟩
  · have := h.fl; omega
  · have := h.le; omega
theorem LineD.lse {ln : List Tx} (h : LineD ln) : lseT ln.flatten := fun c hc => by
  obtain ⟨w, hw, hc⟩ := List.mem_flatten.mp hc
  exact (h.wd w hw).1 c hc
theorem neD_nil {xs : List D} (h : okL 59 xs = true) : neD (.lst xs) (.lst []) = some (.bl (!decide (xs = []))) := by
  have := eqD_nil h
  unfold eqD at this
  unfold neD
  have o2 : okD 60 (.lst []) = true := rfl
  have o1 : okD 60 (.lst xs) = true := h
  rw [if_pos ⟨o1, o2⟩] at this ⊢
  simpa using this
theorem lse_at (v : Int) : ∃ c, atI [108, 115, 101] (v % 3) = some c ∧ (c = 108 ∨ c = 115 ∨ c = 101) := by
  have h : v % 3 = 0 ∨ v % 3 = 1 ∨ v % 3 = 2 := by omega
  rcases h with h | h | h
  · rw [h]; exact ⟨108, rfl, .inl rfl⟩
  · rw [h]; exact ⟨115, rfl, .inr (.inl rfl)⟩
  · rw [h]; exact ⟨101, rfl, .inr (.inr rfl)⟩
theorem enum_sgns (x : Tx) : enumL (sgns x) = (x.mapIdx fun i c => (i, c)).map fun p : Nat × Nat => D.tup [.int (p.1 : Nat), .str [p.2]] := by
  unfold enumL sgns
  apply List.ext_getElem?
  intro i
  simp only [List.getElem?_mapIdx, List.getElem?_map]
  cases x[i]? <;> rfl
theorem mem_enum {x : Tx} {p : Nat × Nat} (h : p ∈ x.mapIdx fun i c => (i, c)) : x[p.1]? = some p.2 := by
  obtain ⟨i, hi, rfl⟩ := List.mem_mapIdx.mp h
  exact List.getElem?_eq_getElem hi
/-- texts of one sign each, joined -/
theorem join_sgn {x : Tx} (h : x.length ≤ 1000000) : joinOk [] (x.map fun c => [c]) = true ∧ joinT [] (x.map fun c => [c]) = x := by
  refine ⟨?_, by rw [joinT_nil, flat_one]⟩
  unfold joinOk
  refine decide_eq_true ?_
  have := (flat_len (xs := x.map fun c => [c]) (k := 1) (by simp)).2
  rw [this]
  refine lim_lit ?_
  simp
  omega
theorem sgns_map (x : Tx) : (x.map fun c => D.str [c]) = (x.map fun c => [c]).map D.str := by rw [List.map_map]; rfl
theorem m__law_line {t : List Foot} (ht : TongueOk t) {m : Meas} (hp : ∀ pl ∈ m.pl, placeOk t pl) (hn : m.pl.length ≤ 7) (n : Int) : ∃ ln, G__law_line [eT t, eM m, .int n] = some (eS ln) ∧ LineD ln := by
  have hpo : ∀ pl ∈ m.pl, plOk t pl := fun pl h => (hp pl h).pl
  have mr := m__law_rows ht m hp hn
  obtain ⟨x0, f1, f2, f3, f4⟩ : ∃ x : Tx, G__law_form [.int (n / 16), .int 9] = some (.str x) ∧ lsT x ∧ 1 ≤ x.length ∧ x.length ≤ 9 := m_form (n / 16) 9 (by omega) (by omega)
  have okrows : okL 59 ((rowsT t m.pl).map eR) = true := okL_map fun r hr => okD_row ht hpo hr (n := 57)
  have nr := neD_nil okrows
  rw [show (decide ((rowsT t m.pl).map eR = [])) = decide (rowsT t m.pl = []) by simp] at nr
  suffices hh : ∃ ln, b__law_line [some (.d (eT t)), some (.d (eM m)), some (.d (.int n)), none, none, none, none, none, none, none] = some (.rt (eS ln)) ∧ LineD ln by
    obtain ⟨ln, e, h⟩ := hh
    refine ⟨ln, ?_, h⟩
    show runF 10 b__law_line _ = _
    rw [runF_eq]
    show outD (b__law_line [some (.d (eT t)), some (.d (eM m)), some (.d (.int n)), none, none, none, none, none, none, none]) = _
    rw [e]; rfl
  unfold b__law_line
  refine seqE (P := fun o => ∃ ln, o = some (.rt (eS ln)) ∧ LineD ln) (fun ρ => ρ = [some (.d (eT t)), some (.d (eM m)), some (.d (.int n)), some (.d (.lst ((rowsT t m.pl).map eR))), none, none, none, none, none, none]) ⟨_, by simp [mr], rfl⟩ ?_
  rintro _ rfl
  refine seqE (P := fun o => ∃ ln, o = some (.rt (eS ln)) ∧ LineD ln) (fun ρ => ρ = [some (.d (eT t)), some (.d (eM m)), some (.d (.int n)), some (.d (.lst ((rowsT t m.pl).map eR))), some (.d (.str x0)), none, none, none, none, none]) ⟨_, by simp [f1], rfl⟩ ?_
  rintro _ rfl
  refine seqE (P := fun o => ∃ ln, o = some (.rt (eS ln)) ∧ LineD ln) (fun ρ => ∃ x, ρ = [some (.d (eT t)), some (.d (eM m)), some (.d (.int n)), some (.d (.lst ((rowsT t m.pl).map eR))), some (.d (.str x)), none, none, none, none, none] ∧ lsT x ∧ x.length ≤ 21) ?_ ?_
  · by_cases h1 : 0 < n % 4
    · by_cases h2 : rowsT t m.pl = []
      · refine ⟨_, ?_, x0, rfl, f2, by omega⟩
        rw [h2]
        have nr0 : neD (.lst []) (.lst []) = some (.bl false) := neD_refl rfl
        simp [h1, nr0]
      · obtain ⟨r, a1, a2⟩ := at_mod (rowsT t m.pl) h2 (n / 16)
        have a3 : atI ((rowsT t m.pl).map eR) (n / 16 % ((rowsT t m.pl).length : Int)) = some (eR r) := by rw [atI_map, a1]; rfl
        have sh := shape_of_row ht hpo a2
        obtain ⟨ra, rb⟩ := row_form ht hpo a2
        have ms := m__law_shape r (by omega) fun p hp => by have := (ra p hp).2.2.2.1; omega
        have lp : 0 < (rowsT t m.pl).length := List.length_pos_iff.mpr h2
        refine ⟨_, ?_, shapeOf r, rfl, sh.1, by omega⟩
        simp [h1, nr, h2, lp, a3, ms]
    · refine ⟨_, ?_, x0, rfl, f2, by omega⟩
      simp [h1]
  rintro _ ⟨x1, rfl, g1, g2⟩
  have n1 := neD_str (okT_ls g1) (show okT [] = true from rfl)
  refine seqE (P := fun o => ∃ ln, o = some (.rt (eS ln)) ∧ LineD ln) (fun ρ => ∃ x c5, ρ = [some (.d (eT t)), some (.d (eM m)), some (.d (.int n)), some (.d (.lst ((rowsT t m.pl).map eR))), some (.d (.str x)), c5, none, none, none, none] ∧ lseT x ∧ x.length ≤ 24) ?_ ?_
  · by_cases h1 : n / 4 % 4 = 1
    · by_cases h2 : x1 = []
      · refine ⟨_, ?_, x1, none, rfl, g1.lse, by omega⟩
        rw [decide_eq_true h2] at n1
        simp [h1, n1, eqD_int]
      · rw [decide_eq_false h2] at n1
        have lp : 0 < x1.length := List.length_pos_iff.mpr h2
        have hm : 0 ≤ n / 64 % (x1.length : Int) ∧ n / 64 % (x1.length : Int) < x1.length := ⟨Int.emod_nonneg _ (by omega), Int.emod_lt_of_pos _ (by omega)⟩
        obtain ⟨j, hj⟩ := Int.eq_ofNat_of_zero_le hm.1
        have hj2 : j < x1.length := by omega
        obtain ⟨c, c1, c2⟩ := lse_at (n / 1024)
        have lx : x1.length ≤ LIM := lim_lit (by omega)
        have s1 : cutL x1 none (some (j : Int)) = x1.take j := by rw [cutL_take _ _ (by omega)]; rfl
        have s2 : cutL x1 (some ((j : Int) + 1)) none = x1.drop (j + 1) := cutL_drop x1 (j + 1)
        have b0 : 0 < (x1.length : Int) ∧ (x1.length : Int) < 1073741824 := by omega
        refine ⟨_, ?_, (x1.take j ++ [c]) ++ x1.drop (j + 1), some (.d (.int (j : Nat))), rfl, ?_, by simp; omega⟩
        · have l3 : (3 : Nat) ≤ LIM := lim_lit (by decide)
          have l4 : min j x1.length + 1 ≤ LIM := lim_lit (by omega)
          have l5 : min j x1.length + 1 + (x1.length - (j + 1)) ≤ LIM := lim_lit (by omega)
          simp [h1, n1, eqD_int, lx, lp, hj, s1, s2, c1, l3, l4, l5]
        · intro k hk
          rcases List.mem_append.mp hk with hk | hk
          · rcases List.mem_append.mp hk with hk | hk
            · exact g1.lse k (List.mem_of_mem_take hk)
            · have : k = c := by simpa using hk
              rw [this]; exact c2
          · exact g1.lse k (List.mem_of_mem_drop hk)
    · refine ⟨_, ?_, x1, none, rfl, g1.lse, by omega⟩
      simp [h1, eqD_int]
  rintro _ ⟨x2, c5, rfl, g3, g4⟩
  refine seqE (P := fun o => ∃ ln, o = some (.rt (eS ln)) ∧ LineD ln) (fun ρ => ∃ x, ρ = [some (.d (eT t)), some (.d (eM m)), some (.d (.int n)), some (.d (.lst ((rowsT t m.pl).map eR))), some (.d (.str x)), c5, none, none, none, none] ∧ lseT x ∧ x.length ≤ 24) ?_ ?_
  · by_cases h1 : n / 4 % 4 = 2
    · obtain ⟨zs, z1, z2, z3⟩ := lcL_exm (ρ0 := [some (.d (eT t)), some (.d (eM m)), some (.d (.int n)), some (.d (.lst ((rowsT t m.pl).map eR))), some (.d (.str x2)), c5, none, none, none, none]) (G := toTup 2 (toCons (toS 7) (toCons (toS 9) toNil))) (f := b__law_line_c1) (fun p : Nat × Nat => D.tup [.int (p.1 : Nat), .str [p.2]]) (fun c : Nat => D.str [c]) (fun c => c = 108 ∨ c = 115 ∨ c = 101) (x2.mapIdx fun i c => (i, c)) fun p hp => by
        have hx := mem_enum hp
        obtain ⟨v, v1, v2⟩ := m_drawn n (70 + (p.1 : Int))
        have hc := g3 p.2 (List.mem_of_getElem? hx)
        have q : eqD (.int (v / 4 % 4)) (.int 0) = some (.bl (decide (v / 4 % 4 = 0))) := eqD_int
        by_cases h : v / 4 % 4 = 0
        · rw [decide_eq_true h] at q
          exact ⟨_, 101, rfl, by simp [b__law_line_c1, v2, q, intD, lim_lit], .inr (.inr rfl)⟩
        · rw [decide_eq_false h] at q
          exact ⟨_, p.2, rfl, by simp [b__law_line_c1, v2, q, intD, lim_lit], hc⟩
      rw [← enum_sgns, sgns_map] at z1
      rw [List.length_mapIdx] at z2
      obtain ⟨j1, j2⟩ := join_sgn (x := zs) (by omega)
      have zl : zs.length ≤ LIM := lim_lit (by omega)
      refine ⟨_, ?_, zs, rfl, z3, by omega⟩
      simp [-List.map_map, h1, eqD_int, enumI, seqZ, itemsZ, z1, zl, tyD, j1, j2]
    · refine ⟨_, ?_, x2, rfl, g3, g4⟩
      simp [h1, eqD_int]
  rintro _ ⟨x3, rfl, g5, g6⟩
  refine seqE (P := fun o => ∃ ln, o = some (.rt (eS ln)) ∧ LineD ln) (fun ρ => ρ = [some (.d (eT t)), some (.d (eM m)), some (.d (.int n)), some (.d (.lst ((rowsT t m.pl).map eR))), some (.d (.str x3)), c5, some (.d (.tup [])), none, none, none]) ⟨_, by simp, rfl⟩ ?_
  rintro _ rfl
  refine seqE (P := fun o => ∃ ln, o = some (.rt (eS ln)) ∧ LineD ln) (fun ρ => ρ = [some (.d (eT t)), some (.d (eM m)), some (.d (.int n)), some (.d (.lst ((rowsT t m.pl).map eR))), some (.d (.str x3)), c5, some (.d (.tup [])), some (.d (.int 0)), none, none]) ⟨_, by simp, rfl⟩ ?_
  rintro _ rfl
  refine seqE (P := fun o => ∃ ln, o = some (.rt (eS ln)) ∧ LineD ln) (fun ρ => ∃ ln c4 c7 c8, ρ = [some (.d (eT t)), some (.d (eM m)), some (.d (.int n)), some (.d (.lst ((rowsT t m.pl).map eR))), c4, c5, some (.d (eS ln)), c7, c8, none] ∧ LineD ln) ?_ ?_
  · refine whS_ok (k := 6) (fun k ρ => ∃ x ln i c8, ρ = [some (.d (eT t)), some (.d (eM m)), some (.d (.int n)), some (.d (.lst ((rowsT t m.pl).map eR))), some (.d (.str x)), c5, some (.d (eS ln)), some (.d (.int i)), c8, none] ∧ LineD ln ∧ ln.length + k = 6 ∧ lseT x ∧ x.length ≤ 24) _ (by omega) ⟨x3, [], 0, none, rfl, ⟨by simp, by simp⟩, rfl, g5, g6⟩ ?_
    rintro k _ ⟨x, ln, i, c8, rfl, hl, hk, hx, lx⟩
    have q := neD_str (okT_lse hx) (show okT [] = true from rfl)
    by_cases h0 : x = []
    · subst h0
      exact .inl ⟨by simp [q], ln, _, _, _, rfl, hl⟩
    · rw [decide_eq_false h0] at q
      by_cases h6 : ln.length < 6
      · obtain ⟨v, v1, v2⟩ := m_drawn n (90 + i)
        obtain ⟨j, hj⟩ := Int.eq_ofNat_of_zero_le (show 0 ≤ 1 + v / 4 % 4 by omega)
        have hj4 : 1 ≤ j ∧ j ≤ 4 := by omega
        have s1 : cutL x none (some (j : Int)) = x.take j := by rw [cutL_take _ _ (by omega)]; rfl
        have s2 : cutL x (some (j : Int)) none = x.drop j := cutL_drop x j
        have ll : x.length ≤ LIM := lim_lit (by omega)
        have l6 : ln.length + 1 ≤ LIM := lim_lit (by omega)
        have a6 : addD (eS ln) (.tup [.str (x.take j)]) = some (eS (ln ++ [x.take j])) := by simp [-List.map_take, eS, l6]
        have pos : 0 < x.length := List.length_pos_iff.mpr h0
        refine .inr ⟨by simp [q, h6]; omega, [some (.d (eT t)), some (.d (eM m)), some (.d (.int n)), some (.d (.lst ((rowsT t m.pl).map eR))), some (.d (.str (x.drop j))), c5, some (.d (eS (ln ++ [x.take j]))), some (.d (.int (i + 1))), some (.d (.int (j : Nat))), none], k - 1, ?_, by omega, x.drop j, ln ++ [x.take j], i + 1, _, rfl, ⟨by simp; omega, fun w hw => ?_⟩, by simp; omega, fun c hc => hx c (List.mem_of_mem_drop hc), by rw [List.length_drop]; omega⟩
        · simp [b__law_line_L2, v2, hj, ll, s1, s2, a6]
        · rcases List.mem_append.mp hw with z | z
          · exact hl.wd w z
          · have : w = x.take j := by simpa using z
            subst this
            exact ⟨fun c hc => hx c (List.mem_of_mem_take hc), by rw [List.length_take]; omega, by rw [List.length_take]; omega⟩
      · exact .inl ⟨by simp [q, h6]; omega, ln, _, _, _, rfl, hl⟩
  rintro _ ⟨ln, c4, c7, c8, rfl, hl⟩
  exact ⟨ln, by simp, hl⟩
end Fo
end
-- FoM26.lean
set_option Elab.async false
set_option linter.all false
set_option maxRecDepth 100000
set_option maxHeartbeats 4000000
noncomputable section
namespace Fo
open PySem L2

/-! ### statements of a law, one behind another -/
theorem seqO {s rest : Env → Option Out} {ρ ρ' : Env} {d : Option D} (h : s ρ = some (.nx ρ')) (k : outD (rest ρ') = d) : outD (seqS s rest ρ) = d := by
  rw [seq_nx h]; exact k
theorem chkO {c : Env → Option Bool} {x rest : Env → Option Out} {ρ : Env} {d : Option D} (h : c ρ = some false) (k : outD (rest ρ) = d) : outD (seqS (ifS c x nopS) rest ρ) = d := by
  refine seqO (ρ' := ρ) ?_ k
  rw [ev_if, h]; rfl
/-! ### the last sign turned -/
def turnT (s : Tx) : Tx := if s = [] then [] else s.dropLast ++ [if s.getLast? = some 108 then 115 else 108]
theorem turn_mem {s : Tx} (hs : lsT s) (z : Tx) : z ∈ looseT s true ↔ z = s ∨ z = turnT s := by
  rw [← law_shapes_mem hs true z]
  unfold turnT
  by_cases h0 : s = []
  · simp [h0]
  · have e := List.dropLast_concat_getLast h0
    have hl := hs _ (List.getLast_mem h0)
    have hg : s.getLast? = some (s.getLast h0) := List.getLast?_eq_some_getLast h0
    simp only [if_neg h0, hg, Option.some.injEq, ne_eq, h0, not_false_iff, true_and]
    rcases hl with hl | hl
    · rw [hl] at e ⊢
      simp only [if_true]
      constructor
      · rintro (h | h | h)
        · exact .inl h
        · exact .inl (h.trans e)
        · exact .inr h
      · rintro (h | h)
        · exact .inl h
        · exact .inr (.inr h)
    · rw [hl] at e ⊢
      rw [if_neg (by decide)]
      constructor
      · rintro (h | h | h)
        · exact .inl h
        · exact .inr h
        · exact .inl (h.trans e)
      · rintro (h | h)
        · exact .inl h
        · exact .inr (.inl h)
theorem turn_ls {s : Tx} (hs : lsT s) : lsT (turnT s) ∧ (turnT s).length = s.length := loose_ls hs true _ ((turn_mem hs _).mpr (.inr rfl))
theorem m__law_turned {s : Tx} (hs : lsT s) (hl : s.length ≤ 1000) : G__law_turned [.str s] = some (.str (turnT s)) := by
  have e1 := eqD_str (okT_ls hs) (show okT [] = true from rfl)
  by_cases h0 : s = []
  · subst h0
    simp [G__law_turned, runF_eq, b__law_turned, e1, turnT]
  · have lx : s.length ≤ LIM := lim_lit (by omega)
    have l2 : (2 : Nat) ≤ LIM := lim_lit (by decide)
    have l3 : s.length - 1 + 1 ≤ LIM := lim_lit (by omega)
    have hg : s.getLast? = some (s.getLast h0) := List.getLast?_eq_some_getLast h0
    have ea : atI s (-1) = some (s.getLast h0) := by
      rw [← hg, List.getLast?_eq_getElem?]
      unfold atI
      have hp : 0 < s.length := List.length_pos_iff.mpr h0
      have : ixN s.length (-1) = some (s.length - 1) := by
        unfold ixN
        simp
        omega
      rw [this]; rfl
    have hc := hs _ (List.getLast_mem h0)
    rw [decide_eq_false h0] at e1
    unfold turnT
    rw [if_neg h0, hg]
    generalize s.getLast h0 = c at *
    have e2 := eqD_str (x := [c]) (y := [108]) (okT_ls (by intro k hk; have : k = c := by simpa using hk
                                                           rw [this]; exact hc)) rfl
    rcases hc with rfl | rfl
    · simp [G__law_turned, runF_eq, b__law_turned, e1, lx, cut_last, ea, e2, intD, l2, l3]
    · simp [G__law_turned, runF_eq, b__law_turned, e1, lx, cut_last, ea, e2, intD, l2, l3]
theorem shapes_congr {t : List Foot} {a b : Meas} (h1 : a.pl = b.pl) (h2 : a.lo = b.lo) : shapesT t a = shapesT t b := by
  unfold shapesT shapesAll
  rw [h1, h2]
theorem loose_app {s u : Tx} (hu : u ≠ []) (lo : Bool) : looseT (s ++ u) lo = (looseT u lo).map (s ++ ·) := by
  unfold looseT
  have h1 : ¬ s ++ u = [] := fun z => hu (List.append_eq_nil_iff.mp z).2
  cases lo with
  | false => simp
  | true =>
    simp only [Bool.not_true, Bool.false_or, decide_eq_true_eq, h1, hu, if_false]
    rw [List.dropLast_append_of_ne_nil hu]
    simp
/-! ### lines put together -/
theorem endsFrom_add (k : Nat) : ∀ ln : List Tx, endsFrom k ln = (endsT ln).map (k + ·)
  | [] => rfl
  | w :: ln => by
    unfold endsT
    rw [endsFrom, endsFrom, endsFrom_add (k + w.length) ln, endsFrom_add (0 + w.length) ln, List.map_cons, List.map_map]
    congr 1
    · omega
    · refine List.map_congr_left fun i _ => ?_
      simp only [Function.comp_def]; omega
theorem endsFrom_two (k : Nat) : ∀ a b : List Tx, endsFrom k (a ++ b) = endsFrom k a ++ endsFrom (k + a.flatten.length) b
  | [], b => by simp [endsFrom]
  | w :: a, b => by
    rw [List.cons_append, endsFrom, endsFrom_two (k + w.length) a b, endsFrom, List.flatten_cons, List.length_append, Nat.add_assoc]
    rfl
theorem ends_app (a b : List Tx) : endsT (a ++ b) = endsT a ++ (endsT b).map (a.flatten.length + ·) := by
  unfold endsT
  rw [endsFrom_two, Nat.zero_add, endsFrom_add a.flatten.length b]
  rfl
theorem agT_drop {x s : Tx} (h : x.length = s.length) (ha : agT x s = true) : agT x.dropLast s.dropLast = true := by
  by_cases h0 : s = []
  · subst h0; simp [agT]
  · have hx : x ≠ [] := fun z => h0 (List.length_eq_zero_iff.mp (by rw [← h, z]; rfl))
    have e1 := agT_app s.dropLast x [s.getLast h0] (by rw [List.length_dropLast]; omega)
    rw [List.dropLast_concat_getLast, ha] at e1
    have e2 := agT_more s.dropLast x.dropLast [x.getLast hx] (by rw [List.length_dropLast, List.length_dropLast]; omega)
    rw [List.dropLast_concat_getLast] at e2
    rw [← e2]
    have := e1.symm
    simp only [Bool.and_eq_true] at this
    exact this.1
theorem endB_join {x1 x2 s1 s2 : Tx} (lo : Bool) (h1 : endB x1 s1 false = true) (h2 : endB x2 s2 lo = true) : endB (x1 ++ x2) (s1 ++ s2) lo = true := by
  unfold endB at *
  simp only [Bool.and_eq_true, decide_eq_true_eq, Bool.false_eq_true, if_false] at h1
  simp only [Bool.and_eq_true, decide_eq_true_eq] at h2 ⊢
  refine ⟨by simp; omega, ?_⟩
  have key : ∀ u v, agT u v = true → agT (x1 ++ u) (s1 ++ v) = true := fun u v h => by
    rw [agT_app s1 (x1 ++ u) v (by rw [List.length_append]; omega), agT_more s1 x1 u (by omega), h1.2, ← h1.1, List.drop_left, h]
    rfl
  cases lo with
  | false => simp only [Bool.false_eq_true, if_false] at h2 ⊢; exact key _ _ h2.2
  | true =>
    simp only [if_true] at h2 ⊢
    by_cases h0 : x2 = []
    · have h0' : s2 = [] := List.length_eq_zero_iff.mp (by rw [← h2.1, h0]; rfl)
      rw [h0, h0', List.append_nil, List.append_nil]
      exact agT_drop h1.1 h1.2
    · have h0' : s2 ≠ [] := fun z => h0 (List.length_eq_zero_iff.mp (by rw [h2.1, z]; rfl))
      rw [List.dropLast_append_of_ne_nil h0, List.dropLast_append_of_ne_nil h0']
      exact key _ _ h2.2
theorem take_left {α : Type} {a b : List α} {n : Nat} (h : n ≤ a.length) : (a ++ b).take n = a.take n := List.take_append_of_le_length h
theorem brk_left {r1 r2 : Row} {S : List Nat} {p : Int × Int} (h : p.1.toNat < r1.length) : brkB (r1 ++ r2) S p = brkB r1 S p := by
  unfold brkB
  rw [List.getElem?_append_left h, take_left (by omega)]
theorem brk_right {r1 r2 : Row} {S : List Nat} {p : Int × Int} {k : Nat} (hk : r1.length = k) (h : 0 ≤ p.1) : brkB (r1 ++ r2) S (p.1 + (k : Nat), p.2) = match r2[p.1.toNat]? with
    | none => false
    | some q => decide (p.2 ≤ (q.2.length : Nat)) && decide ((shapeOf r1).length + (shapeOf (r2.take p.1.toNat)).length + p.2.toNat ∈ S) := by
  unfold brkB
  have e : (p.1 + (k : Nat) : Int).toNat = r1.length + p.1.toNat := by omega
  simp only [e]
  rw [List.getElem?_append_right (by omega), Nat.add_sub_cancel_left]
  cases r2[p.1.toNat]? with
  | none => rfl
  | some q =>
    simp only
    congr 2
    rw [List.take_append, List.take_of_length_le (by omega), Nat.add_sub_cancel_left, shape_app, List.length_append]
theorem brk_mono {r : Row} {S S' : List Nat} {p : Int × Int} (h : ∀ n ∈ S, n ∈ S') (hb : brkB r S p = true) : brkB r S' p = true := by
  unfold brkB at *
  cases e : r[p.1.toNat]? with
  | none => rw [e] at hb; cases hb
  | some q =>
    rw [e] at hb
    simp only [Bool.and_eq_true, decide_eq_true_eq] at hb ⊢
    exact ⟨hb.1, h _ hb.2⟩
theorem keeps_join {a b : Meas} {r1 r2 : Row} {l1 l2 : List Tx} (h1 : r1.length = a.pl.length) (ha : ∀ p ∈ a.br, 0 ≤ p.1 ∧ p.1 < a.pl.length ∧ 1 ≤ p.2 ∧ p.2 ≤ 3) (hb : ∀ p ∈ b.br, 0 ≤ p.1 ∧ p.1 < b.pl.length ∧ 1 ≤ p.2 ∧ p.2 ≤ 3) (hl : (shapeOf r1).length = l1.flatten.length) (k1 : keepsT a.br r1 (endsT l1) = true) (k2 : keepsT b.br r2 (endsT l2) = true) :
    keepsT (joined a b).br (r1 ++ r2) (endsT (l1 ++ l2)) = true := by
  unfold keepsT at *
  rw [List.all_eq_true] at *
  intro p hp
  rcases List.mem_append.mp hp with hp | hp
  · have := ha p hp
    rw [brk_left (by omega)]
    exact brk_mono (fun n hn => by rw [ends_app]; exact List.mem_append_left _ hn) (k1 p hp)
  · obtain ⟨q, hq, rfl⟩ := List.mem_map.mp hp
    have hb' := hb q hq
    rw [brk_right h1 hb'.1]
    have k := k2 q hq
    unfold brkB at k
    cases e : r2[q.1.toNat]? with
    | none => rw [e] at k; cases k
    | some f =>
      rw [e] at k
      simp only [Bool.and_eq_true, decide_eq_true_eq] at k ⊢
      refine ⟨k.1, ?_⟩
      rw [ends_app]
      refine List.mem_append_right _ (List.mem_map.mpr ⟨_, k.2, ?_⟩)
      rw [hl]; omega
theorem fits_join {t : List Foot} (ht : TongueOk t) {a b : Meas} (ha : MP t a) (hb : MP t b) (lo : a.lo = false) {l1 l2 : List Tx} (f1 : fitsB t a l1 = true) (f2 : fitsB t b l2 = true) : fitsB t (joined a b) (l1 ++ l2) = true := by
  rw [fits_iff] at *
  obtain ⟨r1, a1, a2, a3⟩ := f1
  obtain ⟨r2, b1, b2, b3⟩ := f2
  rw [lo] at a2
  refine ⟨r1 ++ r2, mem_rows_app.mpr ⟨r1, a1, r2, b1, rfl⟩, ?_, ?_⟩
  · rw [shape_app, List.flatten_append]
    exact endB_join b.lo a2 b2
  · have hl : (shapeOf r1).length = l1.flatten.length := by
      unfold endB at a2
      simp only [Bool.and_eq_true, decide_eq_true_eq] at a2
      exact a2.1.symm
    exact keeps_join (row_form ht ha.po a1).2 ha.br hb.br hl a3 b3
end Fo
end
-- FoM27.lean
set_option Elab.async false
set_option linter.all false
set_option maxRecDepth 100000
set_option maxHeartbeats 4000000
noncomputable section
namespace Fo
open PySem L2

/-! ### the least of a list -/
def minL {α : Type} (lt : α → α → Bool) (x : α) (xs : List α) : α := xs.foldl (fun m e => if lt e m = true then e else m) x
theorem minL_mem {α : Type} (lt : α → α → Bool) (x : α) (xs : List α) : minL lt x xs ∈ x :: xs := by
  unfold minL
  induction xs generalizing x with
  | nil => simp
  | cons y xs ih =>
    rw [List.foldl_cons]
    have := ih (if lt y x = true then y else x)
    rcases List.mem_cons.mp this with h | h
    · rw [h]; split <;> simp
    · exact List.mem_cons_of_mem _ (List.mem_cons_of_mem _ h)
theorem minL_low {α : Type} {lt : α → α → Bool} (hs : STO lt) (x : α) (xs : List α) : ∀ y ∈ x :: xs, lt y (minL lt x xs) = false := by
  unfold minL
  induction xs generalizing x with
  | nil => intro y hy; simp at hy; subst hy; exact hs.irr _
  | cons z xs ih =>
    rw [List.foldl_cons]
    intro y hy
    by_cases h : lt z x = true
    · rw [if_pos h]
      rcases List.mem_cons.mp hy with rfl | hy
      · have := ih z z (List.mem_cons_self ..)
        cases e : lt y (xs.foldl (fun m e => if lt e m = true then e else m) z) with
        | false => rfl
        | true => rw [hs.tr _ _ _ h e] at this; cases this
      · exact ih z y hy
    · rw [if_neg h]
      rcases List.mem_cons.mp hy with rfl | hy
      · exact ih y y (List.mem_cons_self ..)
      · rcases List.mem_cons.mp hy with rfl | hy
        · have hx := ih x x (List.mem_cons_self ..)
          cases e : lt y (xs.foldl (fun m e => if lt e m = true then e else m) x) with
          | false => rfl
          | true =>
            cases e2 : lt (xs.foldl (fun m e => if lt e m = true then e else m) x) x with
            | true => exact absurd (hs.tr _ _ _ e e2) h
            | false =>
              have := hs.tot _ _ e2 hx
              rw [this] at e
              exact absurd e h
        · exact ih x y (List.mem_cons_of_mem _ hy)
theorem min1_enc {α : Type} [DecidableEq α] {enc : α → D} {lt : α → α → Bool} (h : EO enc lt) {x : α} {xs : List α} (ok : ∀ y ∈ x :: xs, okD 60 (enc y) = true) (hn : ∀ y ∈ x :: xs, notN (enc y) = true) : min1D [.lst ((x :: xs).map enc)] = some (enc (minL lt x xs)) := by
  have o : minOk ((x :: xs).map enc) = true := by
    unfold minOk
    simp only [Bool.and_eq_true]
    refine ⟨⟨okL_map ok, ?_⟩, ?_⟩
    · rw [List.all_eq_true]
      intro a ha
      rw [List.all_eq_true]
      intro c hc
      obtain ⟨p, _, rfl⟩ := List.mem_map.mp ha
      obtain ⟨q, _, rfl⟩ := List.mem_map.mp hc
      exact h.al p q
    · rw [List.all_eq_true]
      intro a ha
      obtain ⟨p, hp, rfl⟩ := List.mem_map.mp ha
      exact hn p hp
  rw [List.map_cons] at o ⊢
  unfold min1D
  simp only
  rw [if_pos o]
  congr 1
  clear o ok hn
  unfold minE minL
  induction xs generalizing x with
  | nil => rfl
  | cons y xs ih =>
    rw [List.map_cons, List.foldl_cons, List.foldl_cons, h.less y x]
    by_cases hh : lt y x = true
    · rw [if_pos hh, if_pos hh]; exact ih
    · rw [if_neg hh, if_neg hh]; exact ih
def ltN (a b : Nat) : Bool := decide (a < b)
theorem eo_nat : EO (fun n : Nat => .int (n : Nat)) ltN := ⟨enc_nat, fun a b => by
  show PySem.W.dataLt (.int a) (.int b) = _
  rw [PySem.W.dataLt_int]
  unfold ltN
  by_cases h : a < b
  · rw [decide_eq_true h, decide_eq_true (by omega)]
  · rw [decide_eq_false h, decide_eq_false (by omega)], fun a b => by simp [py, PySem.W.alike], ⟨fun a => by simp [ltN], fun a b c h k => by simp only [ltN, decide_eq_true_eq] at *; omega, fun a b h k => by simp only [ltN, decide_eq_false_iff_not] at *; omega⟩⟩
/-! ### nearest -/
def unB (p : Nat × Nat) : Bool := !(decide (p.1 = p.2) || decide (p.1 = 101))
def unlike (x s : Tx) : Nat := ((x.zip s).filter unB).length
theorem m_unlike {x s : Tx} (hx : okT x = true) (hs : okT s = true) (lx : x.length ≤ 1000) : G_unlike_places [.str x, .str s] = some (.int (unlike x s : Nat)) := by
  have lc : lcL [some (.d (.str x)), some (.d (.str s)), none, none] (toTup 2 (toCons (toS 2) (toCons (toS 3) toNil))) (asB (bin ninX (getW 2) (tupE (consA (getS 3) (consA (cst (.str [101])) nilA))))) b_unlike_places_c1 ((x.zip s).map fun p => .tup [.str [p.1], .str [p.2]]) = some (((x.zip s).filter unB).map fun _ => .int 1) :=
    lcL_map (fun p : Nat × Nat => D.tup [.str [p.1], .str [p.2]]) unB (fun _ => .int 1) _ fun p hp => by
      obtain ⟨h1, h2⟩ := List.of_mem_zip hp
      exact ⟨_, rfl, by simp [nin_of (in_two (okT_sub hx h1) (okT_sub hs h2)), unB], by simp [b_unlike_places_c1]⟩
  have lf : ((x.zip s).filter unB).length ≤ LIM := by
    have := List.length_filter_le unB (x.zip s)
    rw [List.length_zip] at this
    exact lim_lit (by omega)
  unfold unlike
  generalize (x.zip s).filter unB = F at *
  simp [G_unlike_places, runF_eq, b_unlike_places, lc, lf]
theorem unlike_le (x s : Tx) : unlike x s ≤ x.length := by
  unfold unlike
  have := List.length_filter_le unB (x.zip s)
  rw [List.length_zip] at this
  omega
def eNT (p : Nat × Tx) : D := .tup [.int (p.1 : Nat), .str p.2]
def ltNT : Nat × Tx → Nat × Tx → Bool := lexP ltN ltT
theorem eo_nt : EO eNT ltNT := eo_nat.pair eo_str
def candT (t : List Foot) (m : Meas) (n : Nat) : List Tx := (shapesT t m).filter fun s => decide (s.length = n)
def nearT (t : List Foot) (m : Meas) (x : Tx) : Option (Nat × Tx) := match (candT t m x.length).map fun s => (unlike x s, s) with
  | [] => none
  | p :: ps => some (minL ltNT p ps)
def eON : Option (Nat × Tx) → D
  | none => .non
  | some p => eNT p
theorem eqD_len (a b : Nat) : eqD (.int (a : Nat)) (.int (b : Nat)) = some (.bl (decide (a = b))) := by
  rw [eqD_int]
  congr 2
  exact beq_of_iff (by omega)
theorem neD_len (a b : Nat) : neD (.int (a : Nat)) (.int (b : Nat)) = some (.bl (!decide (a = b))) := by
  rw [neD_int]
  congr 3
  exact beq_of_iff (by omega)
theorem m_nearest {t : List Foot} (ht : TongueOk t) {m : Meas} (hm : ∀ pl ∈ m.pl, plOk t pl) (hn : m.pl.length ≤ 6) {ln : List Tx} (hl : LineOk ln) : G_nearest [eT t, eM m, eS ln] = some (eON (nearT t m ln.flatten)) := by
  have e1 := m_signs hl.wl hl.le
  have ms := m_shapes ht m hm (by omega)
  have ls := shapes_ls ht hm
  have len := shapesT_len ht hm hn
  have hx := hl.okt
  have lx := hl.fl
  generalize hxx : ln.flatten = x at *
  have lX : x.length ≤ LIM := lim_lit (by omega)
  have lc : lcL [some (.d (eT t)), some (.d (eM m)), some (.d (eS ln)), some (.d (.str x)), none, none] (toS 5) (asB (bin eqD (callE lenD (consA (getW 5) nilA)) (callE lenD (consA (getW 3) nilA)))) b_nearest_c1 ((shapesT t m).map .str) = some ((candT t m x.length).map fun s => eNT (unlike x s, s)) :=
    lcL_map D.str (fun s => decide (s.length = x.length)) (fun s => eNT (unlike x s, s)) _ fun s hs => by
      obtain ⟨a, b⟩ := ls s (mem_shapes.mp hs)
      have lS : s.length ≤ LIM := lim_lit (by omega)
      have mu := m_unlike hx (okT_ls a) (by omega)
      exact ⟨_, rfl, by simp [lS, lX, eqD_len], fun _ => by simp [b_nearest_c1, mu, eNT]⟩
  have e2 : ((candT t m x.length).map fun s => eNT (unlike x s, s)) = ((candT t m x.length).map fun s => (unlike x s, s)).map eNT := by rw [List.map_map]; rfl
  rw [e2] at lc
  have lcd : ((candT t m x.length).map fun s => (unlike x s, s)).length ≤ LIM := by
    rw [List.length_map]
    have := List.length_filter_le (fun s : Tx => decide (s.length = x.length)) (shapesT t m)
    exact lim_lit (by unfold candT; omega)
  have okc : ∀ p ∈ (candT t m x.length).map fun s => (unlike x s, s), okT p.2 = true := fun p hp => by
    obtain ⟨s, hs, rfl⟩ := List.mem_map.mp hp
    exact okT_ls (ls s (mem_shapes.mp (List.mem_filter.mp hs).1)).1
  unfold nearT
  generalize (candT t m x.length).map (fun s => (unlike x s, s)) = C at *
  cases C with
  | nil => simp [G_nearest, runF_eq, b_nearest, e1, ms, lc, eqD_int, eON]
  | cons p ps =>
    have mn := min1_enc eo_nt (x := p) (xs := ps) (fun y hy => by
      show okL 59 _ = true
      simp only [okL, Bool.and_eq_true, Bool.and_true]
      exact ⟨okD_int, okD_str (okc y hy)⟩) fun _ _ => rfl
    have ne : ¬ ((ps.length : Int) + 1 = 0) := by omega
    simp only [List.map_cons, List.length_cons] at lc mn lcd
    simp [G_nearest, runF_eq, b_nearest, e1, ms, lc, lcd, eqD_int, eON, ne, mn]
def chgT (t : List Foot) (m : Meas) (x : Tx) : Option Nat := (nearT t m x).map (·.1)
def eOI : Option Nat → D
  | none => .non
  | some n => .int (n : Nat)
theorem m_changes {t : List Foot} (ht : TongueOk t) {m : Meas} (hm : ∀ pl ∈ m.pl, plOk t pl) (hn : m.pl.length ≤ 6) {ln : List Tx} (hl : LineOk ln) : G_changes [eT t, eM m, eS ln] = some (eOI (chgT t m ln.flatten)) := by
  have mn := m_nearest ht hm hn hl
  unfold chgT
  cases h : nearT t m ln.flatten with
  | none => rw [h] at mn; simp [G_changes, runF_eq, b_changes, mn, eON, isD, isNonD, eOI]
  | some p => rw [h] at mn; simp [G_changes, runF_eq, b_changes, mn, eON, eNT, isD, isNonD, eOI]
def splitT : List Tx → Tx → List Tx
  | [], _ => []
  | w :: ln, s => s.take w.length :: splitT ln (s.drop w.length)
theorem split_app (s : Tx) : ∀ (a : List Tx) (w : Tx), splitT (a ++ [w]) s = splitT a s ++ [(s.drop a.flatten.length).take w.length]
  | [], w => by simp [splitT]
  | v :: a, w => by
    rw [List.cons_append, splitT, split_app (s.drop v.length) a w, splitT, List.flatten_cons, List.length_append, List.drop_drop]
    rfl
theorem split_len : ∀ (a : List Tx) (s : Tx), (splitT a s).length = a.length
  | [], _ => rfl
  | w :: a, s => by rw [splitT, List.length_cons, split_len a, List.length_cons]
theorem split_flat : ∀ (a : List Tx) (s : Tx), s.length = a.flatten.length → (splitT a s).flatten = s
  | [], s, h => by simp at h; simp [splitT, h]
  | w :: a, s, h => by
    rw [List.flatten_cons, List.length_append] at h
    rw [splitT, List.flatten_cons, split_flat a (s.drop w.length) (by rw [List.length_drop]; omega), List.take_append_drop]
theorem split_lens : ∀ (a : List Tx) (s : Tx), s.length = a.flatten.length → (splitT a s).map (·.length) = a.map (·.length)
  | [], s, h => rfl
  | w :: a, s, h => by
    rw [List.flatten_cons, List.length_append] at h
    rw [splitT, List.map_cons, List.map_cons, split_lens a (s.drop w.length) (by rw [List.length_drop]; omega), List.length_take]
    congr 1
    omega
def eOS : Option (List Tx) → D
  | none => .non
  | some ws => eS ws
def mendT (t : List Foot) (m : Meas) (ln : List Tx) : Option (List Tx) := (nearT t m ln.flatten).map fun p => splitT ln p.2
theorem near_spec {t : List Foot} {m : Meas} {x : Tx} : match nearT t m x with
    | none => candT t m x.length = []
    | some (n, s) => s ∈ shapesT t m ∧ s.length = x.length ∧ n = unlike x s ∧ ∀ s' ∈ shapesT t m, s'.length = x.length → n ≤ unlike x s' := by
  unfold nearT
  cases h : (candT t m x.length).map fun s => (unlike x s, s) with
  | nil => exact List.map_eq_nil_iff.mp h
  | cons p ps =>
    simp only
    have h1 := minL_mem ltNT p ps
    have h2 := minL_low eo_nt.sto p ps
    rw [← h] at h1 h2
    generalize minL ltNT p ps = q at *
    obtain ⟨s, hs, rfl⟩ := List.mem_map.mp h1
    obtain ⟨a, b⟩ := List.mem_filter.mp hs
    refine ⟨a, by simpa using b, rfl, fun s' hs' hl => ?_⟩
    have := h2 (unlike x s', s') (List.mem_map.mpr ⟨s', List.mem_filter.mpr ⟨hs', by simpa using hl⟩, rfl⟩)
    unfold ltNT lexP ltN at this
    simp only [Bool.or_eq_false_iff, decide_eq_false_iff_not] at this
    omega
theorem m_mended {t : List Foot} (ht : TongueOk t) {m : Meas} (hm : ∀ pl ∈ m.pl, plOk t pl) (hn : m.pl.length ≤ 6) {ln : List Tx} (hl : LineOk ln) : G_mended [eT t, eM m, eS ln] = some (eOS (mendT t m ln)) := by
  have mn := m_nearest ht hm hn hl
  have sp := near_spec (t := t) (m := m) (x := ln.flatten)
  unfold mendT
  cases h : nearT t m ln.flatten with
  | none => rw [h] at mn; simp [G_mended, runF_eq, b_mended, mn, eON, isD, isNonD, eOS]
  | some p =>
    rw [h] at mn sp
    obtain ⟨n, s⟩ := p
    simp only at sp
    have lfl := hl.fl
    have lle := hl.le
    obtain ⟨ρ', e, c6, rfl⟩ := loop_pre (G := toS 6) (fb := b_mended_L1) D.str (fun dn ρ => ∃ c6, ρ = [some (.d (eT t)), some (.d (eM m)), some (.d (eS ln)), some (.d (eNT (n, s))), some (.d (.str (s.drop dn.flatten.length))), some (.l ((splitT dn s).map .str)), c6]) ln
      (ρ := [some (.d (eT t)), some (.d (eM m)), some (.d (eS ln)), some (.d (eNT (n, s))), some (.d (.str s)), some (.l []), none]) ⟨none, by simp [splitT]⟩ fun dn w rs ρ e ⟨c6, z⟩ => by
        subst z
        have hw := hl.wl w (by rw [e]; simp)
        have ld : dn.length + 1 ≤ ln.length := by rw [e]; simp
        have lw : w.length ≤ LIM := lim_lit (by omega)
        have lr : (s.drop dn.flatten.length).length ≤ LIM := lim_lit (by rw [List.length_drop]; omega)
        have l5 : (splitT dn s).length < LIM := lim_lt (by rw [split_len]; omega)
        have ed : s.drop (dn ++ [w]).flatten.length = (s.drop dn.flatten.length).drop w.length := by
          rw [List.drop_drop]
          congr 1
          simp
        refine ⟨_, [some (.d (eT t)), some (.d (eM m)), some (.d (eS ln)), some (.d (eNT (n, s))), some (.d (.str (s.drop (dn ++ [w]).flatten.length))), some (.l ((splitT (dn ++ [w]) s).map .str)), some (.d (.str w))], rfl, ?_, _, rfl⟩
        rw [split_app, ed]
        generalize s.drop dn.flatten.length = R at *
        generalize splitT dn s = W at *
        have c1 : cutL R none (some (w.length : Int)) = R.take w.length := by rw [cutL_take _ _ (by omega)]; rfl
        have c2 : cutL R (some (w.length : Int)) none = R.drop w.length := cutL_drop R w.length
        simp [b_mended_L1, lw, lr, l5, c1, c2]
    have ix1 : ixD (eNT (n, s)) (.int 1) = some (.str s) := by simp [eNT]
    have isn : isD (eNT (n, s)) .non = some (.bl false) := rfl
    simp [G_mended, runF_eq, b_mended, mn, eON, isn, ix1, e, eOS]
    rfl
end Fo
end
-- FoM28.lean
set_option Elab.async false
set_option linter.all false
set_option maxRecDepth 100000
set_option maxHeartbeats 4000000
noncomputable section
namespace Fo
open PySem L2

theorem join_eS {ln : List Tx} (h : ∀ w ∈ ln, w.length ≤ 1000) (hl : ln.length ≤ 1000) : joinD (.str []) [eS ln] = some (.str ln.flatten) := by
  have jo : joinOk [] ln = true := by
    unfold joinOk
    refine decide_eq_true (lim_lit ?_)
    have := sum_le 1000 ln h
    simp only [List.length_nil, Nat.mul_zero, Nat.add_zero] at this ⊢
    omega
  unfold eS
  rw [joinD_tup, if_pos jo, joinT_nil]
theorem lc_rng_filter {ρ0 : Env} {j : Nat} {p : Env → Option Bool} {f : Env → Option D} {n : Nat} (q : Nat → Bool) (h : ∀ i, i < n → p (ρ0.set j (some (.d (.int (0 + (i : Nat)))))) = some (q i)) (hf : ∀ i, i < n → f (ρ0.set j (some (.d (.int (0 + (i : Nat)))))) = some (.int (0 + (i : Nat)))) :
    lcL ρ0 (toS j) p f (rng 0 n) = some (((List.range n).filter q).map fun i => .int (0 + (i : Nat))) :=
  lcL_map (fun i : Nat => D.int (0 + (i : Nat))) q (fun i => .int (0 + (i : Nat))) (List.range n) fun i hi => ⟨_, rfl, h i (List.mem_range.mp hi), fun _ => hf i (List.mem_range.mp hi)⟩
/-- places at which signs are not those of a shape -/
def oddQ (x s : Tx) (i : Nat) : Bool := match x[i]?, s[i]? with
  | some c, some d => unB (c, d)
  | _, _ => false
theorem odd_len : ∀ (x s : Tx), x.length = s.length → ((List.range x.length).filter (oddQ x s)).length = unlike x s
  | [], [], _ => rfl
  | [], _ :: _, h => by simp at h
  | _ :: _, [], h => by simp at h
  | c :: x, d :: s, h => by
    have ih := odd_len x s (by simpa using h)
    rw [List.length_cons, List.range_succ_eq_map, List.filter_cons, List.filter_map]
    have e : (oddQ (c :: x) (d :: s)) ∘ Nat.succ = oddQ x s := by
      funext i
      simp [oddQ]
    rw [e]
    unfold unlike at ih ⊢
    rw [List.zip_cons_cons, List.filter_cons]
    have e0 : oddQ (c :: x) (d :: s) 0 = unB (c, d) := rfl
    rw [e0]
    by_cases hc : unB (c, d) = true
    · rw [if_pos hc, if_pos hc, List.length_cons, List.length_cons, List.length_map, ih]
    · rw [if_neg hc, if_neg hc, List.length_map, ih]
theorem odd_turn {x s : Tx} (hx : okT x = true) (hs : okT s = true) (lx : x.length ≤ 1000) (hl : x.length = s.length) {i : Nat} (hi : i < x.length) : ∃ a b : Nat, ixD (.str x) (.int (i : Nat)) = some (.str [a]) ∧ ixD (.str s) (.int (i : Nat)) = some (.str [b]) ∧ ninX (.str [a]) (.tup [.str [b], .str [101]]) = some (.bl (oddQ x s i)) := by
  have hi2 : i < s.length := by omega
  have lX : x.length ≤ LIM := lim_lit (by omega)
  have lS : s.length ≤ LIM := lim_lit (by omega)
  have a1 : atI x (i : Int) = some x[i] := atI_nat (List.getElem?_eq_getElem hi)
  have a2 : atI s (i : Int) = some s[i] := atI_nat (List.getElem?_eq_getElem hi2)
  refine ⟨x[i], s[i], by simp [lX, a1], by simp [lS, a2], ?_⟩
  rw [nin_of (in_two (okT_sub hx (List.getElem_mem hi)) (okT_sub hs (List.getElem_mem hi2)))]
  unfold oddQ unB
  rw [List.getElem?_eq_getElem hi, List.getElem?_eq_getElem hi2]
theorem LineOk.split {ln : List Tx} (hl : LineOk ln) {s : Tx} (hs : okT s = true) (h : s.length = ln.flatten.length) : LineOk (splitT ln s) := by
  have hf := split_flat ln s h
  refine ⟨fun w hw => ?_, by rw [hf, h]; exact hl.fl, by rw [split_len]; exact hl.le⟩
  unfold okT at hs ⊢
  rw [List.all_eq_true] at hs ⊢
  exact fun c hc => hs c (by rw [← hf]; exact List.mem_flatten.mpr ⟨w, hw, hc⟩)
/-- the least of counts, as the law takes it -/
theorem foldl_min_spec (f : Tx → Nat) (n : Nat) : ∀ (C : List Tx) (k : Nat), n ≤ k → (∀ s ∈ C, n ≤ f s) → (n = k ∨ ∃ s ∈ C, f s = n) → C.foldl (fun m s => if f s < m then f s else m) k = n
  | [], k, _, _, h => by
    rcases h with h | ⟨s, hs, _⟩
    · exact h.symm
    · simp at hs
  | s :: C, k, h1, h2, h3 => by
    rw [List.foldl_cons]
    have hs := h2 s (List.mem_cons_self ..)
    refine foldl_min_spec f n C _ (by split <;> assumption) (fun y hy => h2 y (List.mem_cons_of_mem _ hy)) ?_
    rcases h3 with h3 | ⟨y, hy, e⟩
    · left; rw [if_neg (by omega)]; exact h3
    · rcases List.mem_cons.mp hy with rfl | hy
      · left
        split <;> omega
      · exact .inr ⟨y, hy, e⟩
end Fo
end
-- FoM29.lean
set_option Elab.async false
set_option linter.all false
set_option maxRecDepth 100000
set_option maxHeartbeats 4000000
noncomputable section
namespace Fo
open PySem L2

/-! ### changes -/
theorem neD_eS {A : List Tx} (h : ∀ x ∈ A, okT x = true) : neD (eS A) (eS A) = some (.bl false) := neD_refl (okD_eS h)
theorem chg_none {t : List Foot} {m : Meas} {x : Tx} : chgT t m x = none ↔ ∀ s ∈ shapesT t m, s.length ≠ x.length := by
  have sp := near_spec (t := t) (m := m) (x := x)
  unfold chgT
  cases h : nearT t m x with
  | none =>
    rw [h] at sp
    simp only at sp
    simp only [Option.map_none, true_iff]
    intro s hs hl
    have : s ∈ candT t m x.length := List.mem_filter.mpr ⟨hs, by simpa using hl⟩
    rw [sp] at this
    simp at this
  | some p =>
    rw [h] at sp
    obtain ⟨n, s⟩ := p
    simp only at sp
    simp only [Option.map_some, reduceCtorEq, false_iff]
    exact fun z => z s sp.1 sp.2.1
theorem chg_some {t : List Foot} {m : Meas} {x : Tx} {n : Nat} : chgT t m x = some n ↔ (∃ s ∈ shapesT t m, s.length = x.length ∧ unlike x s = n) ∧ ∀ s ∈ shapesT t m, s.length = x.length → n ≤ unlike x s := by
  have sp := near_spec (t := t) (m := m) (x := x)
  unfold chgT
  cases h : nearT t m x with
  | none =>
    rw [h] at sp
    simp only at sp
    simp only [Option.map_none, reduceCtorEq, false_iff]
    rintro ⟨⟨s, hs, hl, _⟩, _⟩
    have : s ∈ candT t m x.length := List.mem_filter.mpr ⟨hs, by simpa using hl⟩
    rw [sp] at this
    simp at this
  | some p =>
    rw [h] at sp
    obtain ⟨k, s⟩ := p
    simp only at sp
    obtain ⟨a, b, c, d⟩ := sp
    simp only [Option.map_some, Option.some.injEq]
    constructor
    · intro e
      subst e
      exact ⟨⟨s, a, b, c.symm⟩, d⟩
    · rintro ⟨⟨s', h1, h2, h3⟩, h4⟩
      have := d s' h1 h2
      have := h4 s a b
      omega
theorem unlike_zero {x s : Tx} : unlike x s = 0 ↔ agT x s = true := by
  unfold unlike agT
  rw [List.length_eq_zero_iff, List.filter_eq_nil_iff, List.all_eq_true]
  refine forall_congr' fun p => forall_congr' fun _ => ?_
  unfold unB
  simp [Decidable.or_iff_not_imp_left]
theorem unlike_cons (c d : Nat) (x s : Tx) : unlike (c :: x) (d :: s) = (if unB (c, d) = true then 1 else 0) + unlike x s := by
  unfold unlike
  rw [List.zip_cons_cons, List.filter_cons]
  split
  · rw [List.length_cons]; omega
  · omega
theorem unlike_self {s : Tx} : unlike s s = 0 := by
  induction s with
  | nil => rfl
  | cons c s ih => rw [unlike_cons, ih]; simp [unB]
/-- a line fits a measure without breaks just if its signs agree with a shape -/
theorem endB_loose {x s0 : Tx} (hx : lseT x) (hs : lsT s0) (lo : Bool) : endB x s0 lo = true ↔ ∃ s ∈ looseT s0 lo, s.length = x.length ∧ agT x s = true := by
  cases lo with
  | false =>
    rw [loose_false]
    unfold endB
    simp
    intro _
    exact eq_comm
  | true =>
    by_cases h0 : s0 = []
    · subst h0
      unfold endB looseT
      simp
      constructor
      · rintro ⟨h, _⟩; subst h; simp [agT]
      · rintro ⟨h, _⟩
        have : x = [] := List.length_eq_zero_iff.mp h.symm
        subst this; simp [agT]
    · have hp : 0 < s0.length := List.length_pos_iff.mpr h0
      constructor
      · intro h
        unfold endB at h
        simp only [Bool.and_eq_true, decide_eq_true_eq, if_true] at h
        have hx0 : x ≠ [] := fun z => by rw [z] at h; simp at h; omega
        have e := List.dropLast_concat_getLast hx0
        have key : ∀ c, x.getLast hx0 = c ∨ x.getLast hx0 = 101 → agT x (s0.dropLast ++ [c]) = true := fun c hc => by
          rw [agT_app s0.dropLast x [c] (by rw [List.length_dropLast]; omega)]
          have e2 := agT_more s0.dropLast x.dropLast [x.getLast hx0] (by rw [List.length_dropLast, List.length_dropLast]; omega)
          rw [e] at e2
          rw [e2, h.2, Bool.true_and]
          have e3 : x.drop s0.dropLast.length = [x.getLast hx0] := by
            have : s0.dropLast.length = x.dropLast.length := by rw [List.length_dropLast, List.length_dropLast]; omega
            rw [this]
            conv => lhs; arg 2; rw [← e]
            rw [List.drop_left]
          rw [e3]
          unfold agT
          simp
          exact hc
        unfold looseT
        rw [if_neg (by simp [h0])]
        rcases hx _ (List.getLast_mem hx0) with z | z | z
        · exact ⟨_, List.mem_cons_self .., by simp; omega, key 108 (.inl z)⟩
        · exact ⟨_, List.mem_cons_of_mem _ (List.mem_cons_self ..), by simp; omega, key 115 (.inl z)⟩
        · exact ⟨_, List.mem_cons_self .., by simp; omega, key 108 (.inr z)⟩
      · rintro ⟨s, hs1, hl, ha⟩
        unfold endB
        simp only [Bool.and_eq_true, decide_eq_true_eq, if_true]
        have h1 := (loose_ls hs true s hs1).2
        have h2 : s.dropLast = s0.dropLast := by
          unfold looseT at hs1
          rw [if_neg (by simp [h0])] at hs1
          have : s = s0.dropLast ++ [108] ∨ s = s0.dropLast ++ [115] := by simpa using hs1
          rcases this with rfl | rfl <;> simp
        exact ⟨by omega, by rw [← h2]; exact agT_drop hl.symm ha⟩
theorem fits_bare {t : List Foot} (ht : TongueOk t) {m : Meas} (hm : MP t m) (hb : m.br = []) {ln : List Tx} (hl : lseT ln.flatten) : fitsB t m ln = decide (chgT t m ln.flatten = some 0) := by
  have key : fitsB t m ln = true ↔ chgT t m ln.flatten = some 0 := by
    rw [fits_iff, chg_some, hb]
    simp only [keeps_nil, and_true, Nat.zero_le, implies_true]
    constructor
    · rintro ⟨r, hr, he⟩
      obtain ⟨s, h1, h2, h3⟩ := (endB_loose hl (shape_of_row ht hm.po hr).1 m.lo).mp he
      exact ⟨s, mem_shapes_all.mpr ⟨r, hr, h1⟩, h2, unlike_zero.mpr h3⟩
    · rintro ⟨s, h1, h2, h3⟩
      obtain ⟨r, hr, h4⟩ := mem_shapes_all.mp h1
      exact ⟨r, hr, (endB_loose hl (shape_of_row ht hm.po hr).1 m.lo).mpr ⟨s, h4, h2, unlike_zero.mp h3⟩⟩
  by_cases h : chgT t m ln.flatten = some 0
  · rw [decide_eq_true h]; exact key.mpr h
  · rw [decide_eq_false h]
    cases e : fitsB t m ln with
    | false => rfl
    | true => exact absurd (key.mp e) h
theorem near_congr {t : List Foot} {a b : Meas} (h1 : a.pl = b.pl) (h2 : a.lo = b.lo) (x : Tx) : nearT t a x = nearT t b x := by
  unfold nearT candT
  rw [shapes_congr h1 h2]
theorem chg_congr {t : List Foot} {a b : Meas} (h1 : a.pl = b.pl) (h2 : a.lo = b.lo) (x : Tx) : chgT t a x = chgT t b x := by
  unfold chgT
  rw [near_congr h1 h2]
/-- what a mended line is -/
theorem mend_some {t : List Foot} {m : Meas} {ln ws : List Tx} (h : mendT t m ln = some ws) : ∃ s ∈ shapesT t m, s.length = ln.flatten.length ∧ ws = splitT ln s ∧ ws.flatten = s ∧ chgT t m ln.flatten = some (unlike ln.flatten s) := by
  have sp := near_spec (t := t) (m := m) (x := ln.flatten)
  unfold mendT at h
  unfold chgT
  cases e : nearT t m ln.flatten with
  | none => rw [e] at h; cases h
  | some p =>
    rw [e] at h sp
    obtain ⟨n, s⟩ := p
    simp only [Option.map_some, Option.some.injEq] at h
    simp only at sp
    subst h
    exact ⟨s, sp.1, sp.2.1, rfl, split_flat ln s sp.2.1, by rw [Option.map_some, sp.2.2.1]⟩
theorem mend_none {t : List Foot} {m : Meas} {ln : List Tx} : mendT t m ln = none ↔ chgT t m ln.flatten = none := by
  unfold mendT chgT
  cases nearT t m ln.flatten <;> simp
theorem split_self : ∀ ln : List Tx, splitT ln ln.flatten = ln
  | [] => rfl
  | w :: ln => by
    rw [splitT, List.flatten_cons, List.take_left, List.drop_left, split_self ln]
/-- one sign changed -/
theorem unlike_set : ∀ (x s : Tx) (i c : Nat), x.length = s.length → unlike (x.set i c) s ≤ unlike x s + 1 ∧ unlike x s ≤ unlike (x.set i c) s + 1 ∧ (c = 101 → unlike (x.set i c) s ≤ unlike x s)
  | [], [], _, _, _ => by simp [unlike]
  | [], _ :: _, _, _, h => by simp at h
  | _ :: _, [], _, _, h => by simp at h
  | a :: x, b :: s, 0, c, h => by
    rw [List.set_cons_zero, unlike_cons, unlike_cons]
    refine ⟨by split <;> split <;> omega, by split <;> split <;> omega, fun e => ?_⟩
    subst e
    have : unB (101, b) = false := by simp [unB]
    rw [this]
    simp
  | a :: x, b :: s, i + 1, c, h => by
    have ih := unlike_set x s i c (by simpa using h)
    rw [List.set_cons_succ, unlike_cons, unlike_cons]
    refine ⟨by omega, by omega, fun e => ?_⟩
    have := ih.2.2 e
    omega
theorem chg_set {t : List Foot} {m : Meas} {x : Tx} {n : Nat} (h : chgT t m x = some n) (i c : Nat) : ∃ k, chgT t m (x.set i c) = some k ∧ k ≤ n + 1 ∧ n ≤ k + 1 ∧ (c = 101 → k ≤ n) := by
  obtain ⟨⟨s, h1, h2, h3⟩, h4⟩ := chg_some.mp h
  cases e : chgT t m (x.set i c) with
  | none => exact absurd (h2.trans (List.length_set ..).symm) (chg_none.mp e s h1)
  | some k =>
    obtain ⟨⟨s', g1, g2, g3⟩, g4⟩ := chg_some.mp e
    rw [List.length_set] at g2 g4
    have a1 := unlike_set x s i c h2.symm
    have a2 := unlike_set x s' i c g2.symm
    have b1 := h4 s' g1 g2
    have b2 := g4 s h1 h2
    refine ⟨k, rfl, by omega, by omega, fun z => ?_⟩
    have := a1.2.2 z
    omega
end Fo
end
-- FoM30.lean
set_option Elab.async false
set_option linter.all false
set_option maxRecDepth 100000
set_option maxHeartbeats 4000000
noncomputable section
namespace Fo
open PySem L2

theorem loopL_preall {α : Type} {G : D → Env → Option Env} {fb : Env → Option Out} (enc : α → D) (I : List α → Env → Prop) (q : α → Bool) (d : D) : ∀ (rest done : List α) (ρ : Env), I done ρ → (∀ dn x rs ρ, done ++ rest = dn ++ x :: rs → I dn ρ → ∃ ρ1, G (enc x) ρ = some ρ1 ∧ (q x = true → ∃ ρ2, fb ρ1 = some (.nx ρ2) ∧ I (dn ++ [x]) ρ2) ∧ (q x = false → fb ρ1 = some (.rt d))) →
    (rest.all q = true → ∃ ρ', loopL G fb (rest.map enc) ρ = some (.nx ρ') ∧ I (done ++ rest) ρ') ∧ (rest.all q = false → loopL G fb (rest.map enc) ρ = some (.rt d))
  | [], done, ρ, h, _ => ⟨fun _ => ⟨ρ, rfl, by simpa using h⟩, fun e => by simp at e⟩
  | x :: rest, done, ρ, h, H => by
    obtain ⟨ρ1, h1, h2, h3⟩ := H done x rest ρ rfl h
    rw [List.map_cons]
    unfold loopL
    rw [h1]
    simp only [List.all_cons]
    cases e : q x with
    | false => rw [h3 e]; exact ⟨fun z => (by simp at z), fun _ => rfl⟩
    | true =>
      obtain ⟨ρ2, h4, h5⟩ := h2 e
      rw [h4]
      have := loopL_preall enc I q d rest (done ++ [x]) ρ2 h5 fun dn y rs ρ e hI => H dn y rs ρ (by rw [← e]; simp) hI
      simpa using this
theorem loop_preall {α : Type} {G : D → Env → Option Env} {fb : Env → Option Out} (enc : α → D) (I : List α → Env → Prop) (q : α → Bool) (d : D) (xs : List α) {ρ : Env} (h0 : I [] ρ) (H : ∀ dn x rs ρ, xs = dn ++ x :: rs → I dn ρ → ∃ ρ1, G (enc x) ρ = some ρ1 ∧ (q x = true → ∃ ρ2, fb ρ1 = some (.nx ρ2) ∧ I (dn ++ [x]) ρ2) ∧ (q x = false → fb ρ1 = some (.rt d))) :
    (xs.all q = true → ∃ ρ', loopL G fb (xs.map enc) ρ = some (.nx ρ') ∧ I xs ρ') ∧ (xs.all q = false → loopL G fb (xs.map enc) ρ = some (.rt d)) := loopL_preall enc I q d xs [] ρ h0 H
/-! ### break_places -/
def longQ (row : Row) (p : Int × Int) : Bool := match row[p.1.toNat]? with
  | none => false
  | some q => decide (p.2 ≤ (q.2.length : Nat))
def stopOf (row : Row) (p : Int × Int) : Nat := (shapeOf (row.take p.1.toNat)).length + p.2.toNat
def stopsT (br : List (Int × Int)) (row : Row) : Option (List Nat) := if br.all (longQ row) = true then some (br.map (stopOf row)) else none
def eNL (xs : List Nat) : D := .lst (xs.map fun n => .int (n : Nat))
def eONL : Option (List Nat) → D
  | none => .non
  | some xs => eNL xs
theorem ahead_lc {way : Row} {i : Nat} (hf : ∀ p ∈ way, p.2.length ≤ 1000) (hw : way.length ≤ 1000) {ρ0 : Env} {G : D → Env → Option Env} {f : Env → Option D} (H : ∀ q ∈ way, ∃ ρ1, G (ePr q) ρ0 = some ρ1 ∧ f ρ1 = some (.int (q.2.length : Nat))) : ∃ L : List Int, lcL ρ0 G (fun _ => some true) f ((way.take i).map ePr) = some (L.map .int) ∧ L.length ≤ LIM ∧ sumD [.lst (L.map .int)] = some (.int ((shapeOf (way.take i)).length : Nat)) := by
  refine ⟨(way.take i).map fun p => ((p.2.length : Nat) : Int), ?_, ?_, ?_⟩
  · rw [lcL_all ePr (fun p => .int (p.2.length : Nat)) _ fun q hq => H q (List.mem_of_mem_take hq), List.map_map]
    rfl
  · rw [List.length_map, List.length_take]; exact lim_lit (by omega)
  · rw [sumD_map, sum_shape]
theorem m_break_places {m : Meas} {way : Row} (hb : ∀ p ∈ m.br, 0 ≤ p.1 ∧ p.1 < (way.length : Nat) ∧ 1 ≤ p.2 ∧ p.2 ≤ 3) (hbl : m.br.length ≤ 1000) (hw : way.length ≤ 1000) (hf : ∀ p ∈ way, p.2.length ≤ 1000) : G_break_places [eM m, eR way] = some (eONL (stopsT m.br way)) := by
  obtain ⟨h1, h2⟩ := loop_preall (G := toTup 2 (toCons (toS 3) (toCons (toS 4) toNil))) (fb := b_break_places_L2) eP (fun dn ρ => ∃ c3 c4, ρ = [some (.d (eM m)), some (.d (eR way)), some (.l ((dn.map (stopOf way)).map fun n => .int (n : Nat))), c3, c4, none, none]) (longQ way) .non m.br
    (ρ := [some (.d (eM m)), some (.d (eR way)), some (.l []), none, none, none, none]) ⟨none, none, rfl⟩ fun dn p rs ρ e ⟨c3, c4, z⟩ => by
      subst z
      have hpb := hb p (by rw [e]; simp)
      have ld : dn.length + 1 ≤ m.br.length := by rw [e]; simp
      obtain ⟨a, b⟩ := p
      simp only at hpb
      obtain ⟨i, rfl⟩ := Int.eq_ofNat_of_zero_le hpb.1
      obtain ⟨j, rfl⟩ := Int.eq_ofNat_of_zero_le (show 0 ≤ b by omega)
      have hi : i < way.length := by omega
      obtain ⟨L, lc, lL, sm⟩ := ahead_lc (way := way) (i := i) hf hw (ρ0 := [some (.d (eM m)), some (.d (eR way)), some (.l ((dn.map (stopOf way)).map fun n => .int (n : Nat))), some (.d (.int (i : Nat))), some (.d (.int (j : Nat))), none, none]) (G := toTup 2 (toCons (toS 5) (toCons (toS 6) toNil))) (f := b_break_places_c1) fun q hq => ⟨_, rfl, by
        have := hf q hq
        simp [b_break_places_c1, lim_lit (show q.2.length ≤ 16777216 by omega)]⟩
      have it : itemsD (eR (way.take i)) = some ((way.take i).map ePr) := rfl
      have hq := hf way[i] (List.getElem_mem hi)
      have lq : way[i].2.length ≤ LIM := lim_lit (by omega)
      have bq : longQ way (((i : Nat) : Int), ((j : Nat) : Int)) = decide (j ≤ way[i].2.length) := by
        unfold longQ
        simp only [Int.toNat_natCast, List.getElem?_eq_getElem hi]
        exact beq_of_iff (by omega)
      have so : stopOf way (((i : Nat) : Int), ((j : Nat) : Int)) = (shapeOf (way.take i)).length + j := rfl
      have lst : (dn.map (stopOf way)).length < LIM := lim_lt (by rw [List.length_map]; omega)
      rw [bq]
      refine ⟨[some (.d (eM m)), some (.d (eR way)), some (.l ((dn.map (stopOf way)).map fun n => .int (n : Nat))), some (.d (.int (i : Nat))), some (.d (.int (j : Nat))), none, none], rfl, fun h => ⟨[some (.d (eM m)), some (.d (eR way)), some (.l (((dn ++ [(((i : Nat) : Int), ((j : Nat) : Int))]).map (stopOf way)).map fun n => .int (n : Nat))), some (.d (.int (i : Nat))), some (.d (.int (j : Nat))), none, none], ?_, _, _, rfl⟩, fun h => ?_⟩
      · rw [List.map_append, List.map_singleton, so]
        generalize dn.map (stopOf way) = S at *
        generalize (shapeOf (way.take i)).length = n at *
        have h := of_decide_eq_true h
        have : ¬ ((way[i].2.length : Nat) : Int) < (j : Int) := by omega
        simp [-List.map_take, b_break_places_L2, sl_eR, it, lc, lL, sm, ix_eR hi, lq, this, lst]
      · have h := of_decide_eq_false h
        have : ((way[i].2.length : Nat) : Int) < (j : Int) := by omega
        simp [b_break_places_L2, ix_eR hi, lq, this]
  unfold stopsT
  cases h : m.br.all (longQ way) with
  | true =>
    obtain ⟨ρ', e, c3, c4, rfl⟩ := h1 h
    simp [G_break_places, runF_eq, b_break_places, lim_lit, e, eONL, eNL]
  | false => simp [G_break_places, runF_eq, b_break_places, lim_lit, h2 h, eONL]
/-! ### stands_at -/
def standB (s : Tx) (st : List Nat) (w : Tx) (i : Nat) : Bool := decide (i + w.length ≤ s.length) && agT w (s.drop i) && !(st.any fun k => decide (i < k) && decide (k < i + w.length))
theorem anyD_map {bs : List Bool} : anyD [.lst (bs.map .bl)] = some (.bl (bs.any id)) := by
  unfold anyD
  simp only [blsOf_map, Option.map_some]
theorem m_stands_at {s w : Tx} {st : List Nat} {i : Nat} (hs : okT s = true) (hw : okT w = true) (ls : s.length ≤ 1000) (lw : w.length ≤ 1000) (lst : st.length ≤ 1000) : G_stands_at [.str s, eNL st, .str w, .int (i : Nat)] = some (.bl (standB s st w i)) := by
  have lS : s.length ≤ LIM := lim_lit (by omega)
  have lW : w.length ≤ LIM := lim_lit (by omega)
  have ma := m_agree hw (okT_from hs i) lw
  have s1 : cutL s (some (i : Int)) none = s.drop i := cutL_drop s i
  have lc : lcL [some (.d (.str s)), some (.d (eNL st)), some (.d (.str w)), some (.d (.int (i : Nat))), none] (toS 4) (fun _ => some true) b_stands_at_c1 (st.map fun n => .int (n : Nat)) = some ((st.map fun k => decide (i < k) && decide (k < i + w.length)).map .bl) := by
    rw [lcL_all (fun n : Nat => D.int (n : Nat)) (fun k => .bl (decide (i < k) && decide (k < i + w.length))) st fun k hk => ⟨_, rfl, by
      by_cases h1 : i < k
      · have : (i : Int) < (k : Int) := by omega
        by_cases h2 : k < i + w.length
        · have h2' : (k : Int) < (i : Int) + (w.length : Nat) := by omega
          simp [b_stands_at_c1, chn, lW, h1, this, h2, h2']
        · have h2' : ¬ (k : Int) < (i : Int) + (w.length : Nat) := by omega
          simp [b_stands_at_c1, chn, lW, h1, this, h2, h2']
      · have : ¬ (i : Int) < (k : Int) := by omega
        simp [b_stands_at_c1, chn, lW, h1, this]⟩, List.map_map]
    rfl
  have it : itemsD (eNL st) = some (st.map fun n => .int (n : Nat)) := rfl
  have lB : (st.map fun k => decide (i < k) && decide (k < i + w.length)).length ≤ LIM := lim_lit (by rw [List.length_map]; omega)
  have an := anyD_map (bs := st.map fun k => decide (i < k) && decide (k < i + w.length))
  rw [List.any_map] at an
  have e2 : (st.any (id ∘ fun k => decide (i < k) && decide (k < i + w.length))) = st.any fun k => decide (i < k) && decide (k < i + w.length) := rfl
  rw [e2] at an
  unfold standB
  generalize (st.map fun k => decide (i < k) && decide (k < i + w.length)) = B at *
  by_cases h1 : i + w.length ≤ s.length
  · have i1 : ¬ (s.length : Int) < (i : Int) + (w.length : Nat) := by omega
    cases h2 : agT w (s.drop i) with
    | false => rw [h2] at ma; simp [G_stands_at, runF_eq, b_stands_at, lS, lW, h1, i1, s1, ma]
    | true => rw [h2] at ma; simp [-List.any_map, G_stands_at, runF_eq, b_stands_at, lS, lW, h1, i1, s1, ma, it, lc, lB, an]
  · have i1 : (s.length : Int) < (i : Int) + (w.length : Nat) := by omega
    simp [G_stands_at, runF_eq, b_stands_at, lS, lW, h1, i1]
end Fo
end
-- FoM31.lean
set_option Elab.async false
set_option linter.all false
set_option maxRecDepth 100000
set_option maxHeartbeats 4000000
noncomputable section
namespace Fo
open PySem L2

/-! ### lines_by -/
abbrev LS := Tx × List Nat
def eLS (p : LS) : D := .tup [.str p.1, eNL p.2]
def lineOf (m : Meas) (r : Row) : List LS := match stopsT m.br r with
  | none => []
  | some st => (looseT (shapeOf r) m.lo).map fun s => (s, st)
def linesBy (t : List Foot) (m : Meas) : List LS := (rowsT t m.pl).flatMap (lineOf m)
theorem stops_len {br : List (Int × Int)} {r : Row} {st : List Nat} (h : stopsT br r = some st) : st.length = br.length := by
  unfold stopsT at h
  split at h
  · cases h; rw [List.length_map]
  · cases h
theorem lineOf_len (m : Meas) (r : Row) : (lineOf m r).length ≤ 2 := by
  unfold lineOf
  cases stopsT m.br r with
  | none => simp
  | some st => rw [List.length_map]; exact loose_len _ _
theorem m_lines_by {t : List Foot} (ht : TongueOk t) {m : Meas} (hm : MP t m) (hn : m.pl.length ≤ 7) (hbl : m.br.length ≤ 1000) : G_lines_by [eT t, eM m] = some (.lst ((linesBy t m).map eLS)) := by
  have mr := m_all_rows ht m hm.po hn
  have r9 := rows9 ht hm.po hn
  obtain ⟨ρ', e, c3, c4, rfl⟩ := loop_pre (G := toS 3) (fb := b_lines_by_L2) eR (fun dn ρ => ∃ c3 c4, ρ = [some (.d (eT t)), some (.d (eM m)), some (.l ((dn.flatMap (lineOf m)).map eLS)), c3, c4, none]) (rowsT t m.pl)
    (ρ := [some (.d (eT t)), some (.d (eM m)), some (.l []), none, none, none]) ⟨none, none, rfl⟩ fun dn r rs ρ e ⟨c3, c4, z⟩ => by
      subst z
      have hr : r ∈ rowsT t m.pl := by rw [e]; simp
      have ld : dn.length + 1 ≤ (rowsT t m.pl).length := by rw [e]; simp
      obtain ⟨ra, rb⟩ := row_form ht hm.po hr
      have hsr := shape_of_row ht hm.po hr
      have lf := flat_le (lineOf m) 2 dn fun r _ => lineOf_len m r
      have mb := m_break_places (m := m) (way := r) (by rw [rb]; exact hm.br) hbl (by omega) fun p hp => by have := (ra p hp).2.2.2.1; omega
      have ms := m_shape_of r (by omega) fun p hp => by have := (ra p hp).2.2.2.1; omega
      have ml := m_loosened (shapeOf r) m.lo (okT_ls hsr.1) (by omega)
      rw [List.flatMap_append, List.flatMap_singleton]
      generalize dn.flatMap (lineOf m) = B at *
      cases hst : stopsT m.br r with
      | none =>
        rw [hst] at mb
        have el : lineOf m r = [] := by unfold lineOf; rw [hst]
        rw [el, List.append_nil]
        refine ⟨_, [some (.d (eT t)), some (.d (eM m)), some (.l (B.map eLS)), some (.d (eR r)), some (.d .non), none], rfl, ?_, _, _, rfl⟩
        have i1 : isntD .non .non = some (.bl false) := rfl
        simp [b_lines_by_L2, mb, eONL, i1]
      | some st =>
        rw [hst] at mb
        have el : lineOf m r = (looseT (shapeOf r) m.lo).map fun s => (s, st) := by unfold lineOf; rw [hst]
        rw [el]
        refine ⟨_, [some (.d (eT t)), some (.d (eM m)), some (.l ((B ++ (looseT (shapeOf r) m.lo).map fun s => (s, st)).map eLS)), some (.d (eR r)), some (.d (eNL st)), none], rfl, ?_, _, _, rfl⟩
        have i1 : isntD (eNL st) .non = some (.bl true) := rfl
        have ll := loose_len (shapeOf r) m.lo
        generalize looseT (shapeOf r) m.lo = L at *
        have lc : lcL [some (.d (eT t)), some (.d (eM m)), some (.l (B.map eLS)), some (.d (eR r)), some (.d (eNL st)), none] (toS 5) (fun _ => some true) b_lines_by_c1 (L.map .str) = some ((L.map fun s => (s, st)).map eLS) := by
          rw [lcL_all D.str (fun s => eLS (s, st)) L fun s _ => ⟨_, rfl, by simp [b_lines_by_c1, eLS]⟩, List.map_map]
          rfl
        have l1 : L.length ≤ LIM := lim_lit (by omega)
        have l2 : B.length + L.length ≤ LIM := lim_lit (by omega)
        have l3 : ((L.map fun s => (s, st)).map eLS).length = L.length := by rw [List.length_map, List.length_map]
        generalize hZ : (L.map fun s => (s, st)).map eLS = Z at *
        rw [List.map_append, hZ]
        simp [-List.map_map, b_lines_by_L2, mb, eONL, i1, ms, ml, lc, l3, l1, l2]
  simp [G_lines_by, runF_eq, b_lines_by, lim_lit, mr, e]
  rfl
theorem line_in {t : List Foot} (ht : TongueOk t) {m : Meas} (hm : MP t m) {l : LS} (h : l ∈ linesBy t m) : lsT l.1 ∧ l.1.length ≤ 3 * m.pl.length ∧ l.2.length = m.br.length := by
  obtain ⟨r, hr, hl⟩ := List.mem_flatMap.mp h
  have hsr := shape_of_row ht hm.po hr
  unfold lineOf at hl
  cases hst : stopsT m.br r with
  | none => rw [hst] at hl; simp at hl
  | some st =>
    rw [hst] at hl
    obtain ⟨s, hs, rfl⟩ := List.mem_map.mp hl
    have := loose_ls hsr.1 m.lo s hs
    exact ⟨this.1, by rw [this.2]; exact hsr.2, stops_len hst⟩
theorem mem_lines {t : List Foot} {m : Meas} {s : Tx} {st : List Nat} : (s, st) ∈ linesBy t m ↔ ∃ r ∈ rowsT t m.pl, s ∈ looseT (shapeOf r) m.lo ∧ stopsT m.br r = some st := by
  unfold linesBy
  rw [List.mem_flatMap]
  refine exists_congr fun r => and_congr_right fun _ => ?_
  unfold lineOf
  cases hst : stopsT m.br r with
  | none => simp
  | some st' =>
    simp only [List.mem_map, Prod.mk.injEq, Option.some.injEq]
    constructor
    · rintro ⟨y, hy, rfl, rfl⟩; exact ⟨hy, rfl⟩
    · rintro ⟨hy, rfl⟩; exact ⟨s, hy, rfl, rfl⟩
theorem lines_len {t : List Foot} (ht : TongueOk t) {m : Meas} (hm : MP t m) (hn : m.pl.length ≤ 7) : (linesBy t m).length ≤ 9565938 := by
  have r9 := rows9 ht hm.po hn
  have := flat_le (lineOf m) 2 (rowsT t m.pl) fun r _ => lineOf_len m r
  unfold linesBy
  omega
/-! ### numbers as a dict's keys -/
def keysN (kl : List Nat) : List (D × D) := kl.map fun n => (.int (n : Nat), .bl true)
def addN (kl : List Nat) (x : Nat) : List Nat := if x ∈ kl then kl else kl ++ [x]
theorem putN_keys (kl : List Nat) (x : Nat) : putD (keysN kl) (.int (x : Nat)) (.bl true) = keysN (addN kl x) := by
  have e : hasD (keysN kl) (.int (x : Nat)) = decide (x ∈ kl) := by
    unfold hasD keysN
    rw [List.any_map]
    by_cases h : x ∈ kl
    · rw [decide_eq_true h, List.any_eq_true]
      exact ⟨x, h, by simp [keq]⟩
    · rw [decide_eq_false h]
      rw [List.any_eq_false]
      intro y hy
      simp only [Function.comp_def, keq, decide_eq_true_eq]
      intro z
      have : y = x := by omega
      exact h (this ▸ hy)
  unfold putD addN
  rw [e]
  by_cases h : x ∈ kl
  · rw [if_pos (by simpa using h), if_pos h]
    unfold keysN
    rw [List.map_map]
    refine List.map_congr_left fun y _ => ?_
    simp only [Function.comp_def]
    split <;> rfl
  · rw [if_neg (by simpa using h), if_neg h]
    simp [keysN]
theorem addN_ok {kl : List Nat} (nd : kl.Nodup) (x : Nat) : (addN kl x).Nodup ∧ (∀ z, z ∈ addN kl x ↔ z ∈ kl ∨ z = x) ∧ (addN kl x).length ≤ kl.length + 1 := by
  unfold addN
  split
  · rename_i h
    exact ⟨nd, fun z => ⟨.inl, fun q => q.elim id fun e => e ▸ h⟩, by omega⟩
  · rename_i h
    refine ⟨List.nodup_append.mpr ⟨nd, by simp, fun a ha b hb => ?_⟩, fun z => by simp, by simp⟩
    have : b = x := by simpa using hb
    subst this
    exact fun z => h (z ▸ ha)
theorem stoN : STO ltN := eo_nat.sto
theorem sorted_keysN {kl : List Nat} (nd : kl.Nodup) (hl : kl.length ≤ LIM) : sortedD [.dct (keysN kl)] = some (.lst ((usort ltN kl).map fun n => .int (n : Nat))) := by
  have e : keysD (keysN kl) = kl.map fun n => .int (n : Nat) := by simp [keysD, keysN, Function.comp_def]
  have h := srtOk_enc eo_nat (xs := kl) (fun _ _ => okD_int) hl (.inr (.inl fun _ _ => rfl))
  unfold sortedD
  simp only
  rw [e, if_pos h, sortD_eo eo_nat nd]
/-! ### stands -/
def standAts (l : LS) (w : Tx) : List Nat := (List.range l.1.length).filter (standB l.1 l.2 w)
def standsT (t : List Foot) (m : Meas) (w : Tx) : List Nat := usort ltN ((linesBy t m).flatMap fun l => standAts l w)
theorem mem_stands {t : List Foot} {m : Meas} {w : Tx} {i : Nat} : i ∈ standsT t m w ↔ ∃ l ∈ linesBy t m, i < l.1.length ∧ standB l.1 l.2 w i = true := by
  unfold standsT standAts
  rw [mem_usort stoN, List.mem_flatMap]
  refine exists_congr fun l => and_congr_right fun _ => ?_
  rw [List.mem_filter, List.mem_range]
theorem nodup_bound : ∀ (n : Nat) (kl : List Nat), kl.Nodup → (∀ x ∈ kl, x < n) → kl.length ≤ n
  | 0, kl, _, h => by
    cases kl with
    | nil => simp
    | cons x kl => exact absurd (h x (List.mem_cons_self ..)) (by omega)
  | n + 1, kl, nd, h => by
    by_cases hn : n ∈ kl
    · have ih := nodup_bound n (kl.erase n) (nd.erase n) fun x hx => by
        have h1 := (nd.mem_erase_iff).mp hx
        have := h x h1.2
        have := h1.1
        omega
      rw [List.length_erase_of_mem hn] at ih
      omega
    · have := nodup_bound n kl nd fun x hx => by
        have := h x hx
        have : x ≠ n := fun z => hn (z ▸ hx)
        omega
      omega
theorem m_stands {t : List Foot} (ht : TongueOk t) {m : Meas} (hm : MP t m) (hn : m.pl.length ≤ 7) (hbl : m.br.length ≤ 1000) {w : Tx} (hw : okT w = true) (lw : w.length ≤ 1000) : G_stands [eT t, eM m, .str w] = some (eN (standsT t m w)) := by
  have mlb := m_lines_by ht hm hn hbl
  have hin := fun l => line_in ht hm (l := l)
  unfold standsT
  generalize linesBy t m = Ls at *
  obtain ⟨ρ', e, kl, c4, c5, rfl, nd, mem, lt⟩ := loop_pre (G := toTup 2 (toCons (toS 4) (toCons (toS 5) toNil))) (fb := b_stands_L2) eLS (fun dn ρ => ∃ kl c4 c5, ρ = [some (.d (eT t)), some (.d (eM m)), some (.d (.str w)), some (.k (keysN kl)), c4, c5, none] ∧ kl.Nodup ∧ (∀ z, z ∈ kl ↔ z ∈ dn.flatMap fun l => standAts l w) ∧ ∀ z ∈ kl, z < 21) Ls
    (ρ := [some (.d (eT t)), some (.d (eM m)), some (.d (.str w)), some (.k []), none, none, none]) ⟨[], none, none, rfl, by simp, by simp, by simp⟩ fun dn l rs ρ e ⟨kl, c4, c5, z, nd, mem, lt⟩ => by
      subst z
      obtain ⟨h1, h2, h3⟩ := hin l (by rw [e]; simp)
      obtain ⟨s, st⟩ := l
      simp only at h1 h2 h3
      have lS : s.length ≤ LIM := lim_lit (by omega)
      have rgX : rg1 [.int (s.length : Nat)] = some (rng 0 s.length) := by
        rw [rg1_int, if_pos (big_ok lS)]
        rfl
      obtain ⟨ρ2, e2, kl2, c6, rfl, nd2, mem2, lt2⟩ := loop_rng (G := toS 6) (fb := b_stands_L1) (fun i ρ => ∃ kl2 c6, ρ = [some (.d (eT t)), some (.d (eM m)), some (.d (.str w)), some (.k (keysN kl2)), some (.d (.str s)), some (.d (eNL st)), c6] ∧ kl2.Nodup ∧ (∀ z, z ∈ kl2 ↔ z ∈ kl ∨ z ∈ (List.range i).filter (standB s st w)) ∧ ∀ z ∈ kl2, z < 21) (lo := 0) (n := s.length)
        (ρ := [some (.d (eT t)), some (.d (eM m)), some (.d (.str w)), some (.k (keysN kl)), some (.d (.str s)), some (.d (eNL st)), none]) ⟨kl, none, rfl, nd, by simp, lt⟩ fun i ρ hi ⟨kl2, c6, z, nd2, mem2, lt2⟩ => by
          subst z
          have msa := m_stands_at (i := i) (okT_ls h1) hw (by omega) lw (st := st) (by omega)
          obtain ⟨p1, p2, p3⟩ := addN_ok nd2 i
          have lk := nodup_bound 21 kl2 nd2 lt2
          have lk' : (keysN kl2).length < LIM := lim_lt (by simp [keysN]; omega)
          have pk := putN_keys kl2 i
          cases hb : standB s st w i with
          | false =>
            rw [hb] at msa
            refine ⟨_, [some (.d (eT t)), some (.d (eM m)), some (.d (.str w)), some (.k (keysN kl2)), some (.d (.str s)), some (.d (eNL st)), some (.d (.int (0 + (i : Nat))))], rfl, ?_, kl2, _, rfl, nd2, fun z => ?_, lt2⟩
            · simp [b_stands_L1, msa]
            · rw [mem2 z, List.range_succ, filter_snoc, hb]
              simp
          | true =>
            rw [hb] at msa
            refine ⟨_, [some (.d (eT t)), some (.d (eM m)), some (.d (.str w)), some (.k (keysN (addN kl2 i))), some (.d (.str s)), some (.d (eNL st)), some (.d (.int (0 + (i : Nat))))], rfl, ?_, addN kl2 i, _, rfl, p1, fun z => ?_, fun z hz => ?_⟩
            · simp [b_stands_L1, msa, lk', pk]
            · rw [p2 z, mem2 z, List.range_succ, filter_snoc, if_pos hb, List.mem_append, List.mem_singleton, or_assoc]
            · rcases (p2 z).mp hz with q | q
              · exact lt2 z q
              · omega
      refine ⟨_, [some (.d (eT t)), some (.d (eM m)), some (.d (.str w)), some (.k (keysN kl2)), some (.d (.str s)), some (.d (eNL st)), none], rfl, ?_, kl2, _, _, rfl, nd2, fun z => ?_, lt2⟩
      · simp [b_stands_L2, lS, rgX, e2]
      · rw [mem2 z, mem z, List.flatMap_append, List.flatMap_singleton, List.mem_append]
        rfl
  have lk := nodup_bound 21 kl nd lt
  have srt := sorted_keysN nd (lim_lit (by omega))
  have us : usort ltN kl = usort ltN (Ls.flatMap fun l => standAts l w) := rising_unique stoN (rising_usort stoN _) (rising_usort stoN _) fun z => by rw [mem_usort stoN, mem_usort stoN, mem z]
  rw [us] at srt
  simp [G_stands, runF_eq, b_stands, mlb, e, srt]
  rfl
end Fo
end
-- FoM32.lean
set_option Elab.async false
set_option linter.all false
set_option maxRecDepth 100000
set_option maxHeartbeats 4000000
noncomputable section
namespace Fo
open PySem L2

/-! ### line_with, never -/
def showW (s w : Tx) (i : Nat) : List Tx := sng (s.take i) ++ [w] ++ sng (s.drop (i + w.length))
def ltLn : List Tx → List Tx → Bool := lexL ltT
theorem eo_ln : EO eS ltLn := eo_str.tup
def lineWith (t : List Foot) (m : Meas) (w : Tx) (i : Nat) : Option (List Tx) := match ((linesBy t m).filter fun l => standB l.1 l.2 w i).map fun l => showW l.1 w i with
  | [] => none
  | x :: xs => some (minL ltLn x xs)
theorem sng_eq (x : Tx) : (sng x).map D.str = sgns x := by unfold sng sgns; rw [List.map_map]; rfl
theorem list_str {x : Tx} (h : x.length ≤ LIM) : listX [.str x] = some (.lst ((sng x).map .str)) := by
  rw [listX_str, if_pos h, sng_eq]
theorem show_turn {c0 c1 : Option Cell} (w s : Tx) (i : Nat) (hi : i + w.length ≤ s.length) (ls : s.length ≤ 1000) (base : List (List Tx)) (lb : base.length < LIM) (st : List Nat) (lst : st.length ≤ 1000) (hs : okT s = true) (hw : okT w = true) :
    b_line_with_L1 [c0, c1, some (.d (.str w)), some (.d (.int (i : Nat))), some (.l (base.map eS)), some (.d (.str s)), some (.d (eNL st))] = some (.nx [c0, c1, some (.d (.str w)), some (.d (.int (i : Nat))), some (.l ((base ++ if standB s st w i = true then [showW s w i] else []).map eS)), some (.d (.str s)), some (.d (eNL st))]) := by
  have msa := m_stands_at (i := i) hs hw ls (by omega) lst
  have lS : s.length ≤ LIM := lim_lit (by omega)
  have lW : w.length ≤ LIM := lim_lit (by omega)
  have s1 : slD (.str s) none (some (i : Int)) = some (.str (s.take i)) := by
    rw [slD_str, if_pos lS, cutL_take _ _ (by omega)]; rfl
  have s2 : slD (.str s) (some ((i : Int) + (w.length : Nat))) none = some (.str (s.drop (i + w.length))) := by
    rw [slD_str, if_pos lS]
    exact congrArg (fun z => some (D.str z)) (cutL_drop s (i + w.length))
  have x1 := list_str (x := s.take i) (lim_lit (by rw [List.length_take]; omega))
  have x2 := list_str (x := s.drop (i + w.length)) (lim_lit (by rw [List.length_drop]; omega))
  have l1 : ((sng (s.take i)).map D.str).length = i := by simp [sng]; omega
  have l2 : ((sng (s.drop (i + w.length))).map D.str).length = s.length - (i + w.length) := by simp [sng]
  have l3 : (1 : Nat) ≤ LIM := lim_lit (by decide)
  have l4 : i + 1 ≤ LIM := lim_lit (by omega)
  have l5 : i + 1 + (s.length - (i + w.length)) ≤ LIM := lim_lit (by omega)
  cases hb : standB s st w i with
  | false =>
    rw [hb] at msa
    simp [b_line_with_L1, msa]
  | true =>
    rw [hb] at msa
    have e : (D.tup (((sng (s.take i)).map D.str ++ [D.str w]) ++ (sng (s.drop (i + w.length))).map D.str)) = eS (showW s w i) := by
      unfold showW eS
      simp
    have a1 : addD (.lst ((sng (s.take i)).map D.str)) (.lst [.str w]) = some (.lst ((sng (s.take i)).map D.str ++ [.str w])) := by
      rw [addD_lst, l1, if_pos (by simpa using l4)]
    have a2 : addD (.lst ((sng (s.take i)).map D.str ++ [.str w])) (.lst ((sng (s.drop (i + w.length))).map D.str)) = some (.lst (((sng (s.take i)).map D.str ++ [D.str w]) ++ (sng (s.drop (i + w.length))).map D.str)) := by
      rw [addD_lst, List.length_append, l1, l2, if_pos (by simpa using l5)]
    generalize (sng (s.take i)).map D.str = X1 at *
    generalize (sng (s.drop (i + w.length))).map D.str = X2 at *
    have tz : tupleX [.lst ((X1 ++ [D.str w]) ++ X2)] = some (eS (showW s w i)) := by rw [tupleX_lst, e]
    simp [-slD_str, -addD_lst, -listX_str, -tupleX_lst, -List.append_assoc, b_line_with_L1, msa, s1, s2, x1, x2, l3, lW, a1, a2, tz, lb]
theorem show_ok {s w : Tx} {i : Nat} (hs : okT s = true) (hw : okT w = true) (hi : i + w.length ≤ s.length) (ls : s.length ≤ 900) : LineOk (showW s w i) := by
  have hf : (showW s w i).flatten = s.take i ++ w ++ s.drop (i + w.length) := by
    unfold showW
    rw [List.flatten_append, List.flatten_append, sng_flat, sng_flat]
    simp
  refine ⟨fun v hv => ?_, by rw [hf]; simp; omega, by unfold showW sng; simp; omega⟩
  unfold showW at hv
  have one : ∀ y : Tx, okT y = true → ∀ v ∈ sng y, okT v = true := fun y hy v hv => by
    obtain ⟨c, hc, rfl⟩ := List.mem_map.mp hv
    exact okT_sub hy hc
  have ht : okT (s.take i) = true := by
    unfold okT at hs ⊢
    rw [List.all_eq_true] at hs ⊢
    exact fun c hc => hs c (List.mem_of_mem_take hc)
  rcases List.mem_append.mp hv with hv | hv
  · rcases List.mem_append.mp hv with hv | hv
    · exact one _ ht v hv
    · rw [List.mem_singleton.mp hv]; exact hw
  · exact one _ (okT_from hs _) v hv
theorem stand_le {s w : Tx} {st : List Nat} {i : Nat} (h : standB s st w i = true) : i + w.length ≤ s.length := by
  unfold standB at h
  simp only [Bool.and_eq_true, decide_eq_true_eq] at h
  exact h.1.1
theorem m_line_with {t : List Foot} (ht : TongueOk t) {m : Meas} (hm : MP t m) (hn : m.pl.length ≤ 7) (hbl : m.br.length ≤ 1000) {w : Tx} (hw : okT w = true) (lw : w.length ≤ 1000) {i : Nat} {L : List Tx} (h : lineWith t m w i = some L) : G_line_with [eT t, eM m, .str w, .int (i : Nat)] = some (eS L) := by
  have mlb := m_lines_by ht hm hn hbl
  have hin := fun l => line_in ht hm (l := l)
  have hll := lines_len ht hm hn
  unfold lineWith at h
  generalize linesBy t m = Ls at *
  obtain ⟨ρ', e, c5, c6, rfl⟩ := loop_pre (G := toTup 2 (toCons (toS 5) (toCons (toS 6) toNil))) (fb := b_line_with_L1) eLS (fun dn ρ => ∃ c5 c6, ρ = [some (.d (eT t)), some (.d (eM m)), some (.d (.str w)), some (.d (.int (i : Nat))), some (.l (((dn.filter fun l => standB l.1 l.2 w i).map fun l => showW l.1 w i).map eS)), c5, c6]) Ls
    (ρ := [some (.d (eT t)), some (.d (eM m)), some (.d (.str w)), some (.d (.int (i : Nat))), some (.l []), none, none]) ⟨none, none, rfl⟩ fun dn l rs ρ e ⟨c5, c6, z⟩ => by
      subst z
      obtain ⟨h1, h2, h3⟩ := hin l (by rw [e]; simp)
      obtain ⟨s, st⟩ := l
      simp only at h1 h2 h3
      have ld : dn.length + 1 ≤ Ls.length := by rw [e]; simp
      have lf := List.length_filter_le (fun l : LS => standB l.1 l.2 w i) dn
      by_cases hi : i + w.length ≤ s.length
      · have q := show_turn (c0 := some (.d (eT t))) (c1 := some (.d (eM m))) w s i hi (by omega) ((dn.filter fun l => standB l.1 l.2 w i).map fun l => showW l.1 w i) (lim_lt (by rw [List.length_map]; omega)) st (by omega) (okT_ls h1) hw
        refine ⟨_, _, rfl, q, some (.d (.str s)), some (.d (eNL st)), ?_⟩
        rw [filter_snoc]
        simp only
        by_cases hb : standB s st w i = true
        · rw [if_pos hb, if_pos hb, List.map_append (f := fun l : LS => showW l.1 w i)]; rfl
        · rw [if_neg hb, if_neg hb, List.append_nil, List.append_nil]
      · have hb : standB s st w i = false := by
          cases hb : standB s st w i with
          | false => rfl
          | true => exact absurd (stand_le hb) hi
        have msa := m_stands_at (i := i) (okT_ls h1) hw (by omega) lw (st := st) (by omega)
        rw [hb] at msa
        refine ⟨_, [some (.d (eT t)), some (.d (eM m)), some (.d (.str w)), some (.d (.int (i : Nat))), some (.l (((dn.filter fun l => standB l.1 l.2 w i).map fun l => showW l.1 w i).map eS)), some (.d (.str s)), some (.d (eNL st))], rfl, by simp [b_line_with_L1, msa], some (.d (.str s)), some (.d (eNL st)), ?_⟩
        rw [filter_snoc]
        simp [hb]
  have lf := List.length_filter_le (fun l : LS => standB l.1 l.2 w i) Ls
  have hok : ∀ x ∈ (Ls.filter fun l => standB l.1 l.2 w i).map (fun l => showW l.1 w i), okD 60 (eS x) = true := fun x hx => by
    obtain ⟨l, hl, rfl⟩ := List.mem_map.mp hx
    obtain ⟨a, b⟩ := List.mem_filter.mp hl
    obtain ⟨h1, h2, h3⟩ := hin l a
    exact okD_eS (show_ok (okT_ls h1) hw (stand_le b) (by omega)).tx
  have lF : ((Ls.filter fun l => standB l.1 l.2 w i).map fun l => showW l.1 w i).length ≤ LIM := lim_lit (by rw [List.length_map]; omega)
  generalize (Ls.filter fun l => standB l.1 l.2 w i).map (fun l => showW l.1 w i) = F at *
  cases F with
  | nil => cases h
  | cons x xs =>
    cases h
    have mn := min1_enc eo_ln hok fun _ _ => rfl
    have ne : ¬ ((xs.length : Int) + 1 = 0) := by omega
    have ni : ¬ ((i : Int) < 0) := by omega
    simp only [List.map_cons] at e mn
    simp [G_line_with, runF_eq, b_line_with, lim_lit, mlb, e, ni, eqD_int, ne, mn]
theorem lineWith_mem {t : List Foot} {m : Meas} {w : Tx} {i : Nat} {L : List Tx} (h : lineWith t m w i = some L) : ∃ l ∈ linesBy t m, standB l.1 l.2 w i = true ∧ L = showW l.1 w i := by
  unfold lineWith at h
  cases hF : ((linesBy t m).filter fun l => standB l.1 l.2 w i).map fun l => showW l.1 w i with
  | nil => rw [hF] at h; cases h
  | cons x xs =>
    rw [hF] at h
    cases h
    have := minL_mem ltLn x xs
    rw [← hF] at this
    obtain ⟨l, hl, e⟩ := List.mem_map.mp this
    obtain ⟨a, b⟩ := List.mem_filter.mp hl
    exact ⟨l, a, b, e.symm⟩
theorem lineWith_some {t : List Foot} {m : Meas} {w : Tx} {i : Nat} (h : i ∈ standsT t m w) : ∃ L, lineWith t m w i = some L := by
  obtain ⟨l, hl, _, hb⟩ := mem_stands.mp h
  unfold lineWith
  cases hF : ((linesBy t m).filter fun l => standB l.1 l.2 w i).map fun l => showW l.1 w i with
  | nil =>
    have : l ∈ (linesBy t m).filter fun l => standB l.1 l.2 w i := List.mem_filter.mpr ⟨hl, hb⟩
    rw [List.map_eq_nil_iff.mp hF] at this
    simp at this
  | cons x xs => exact ⟨_, rfl⟩
def neverT (t : List Foot) (ms : List Meas) (ws : List Tx) : List Tx := ws.filter fun w => ms.all fun m => decide (standsT t m w = [])
theorem m_never {t : List Foot} (ht : TongueOk t) {ms : List Meas} (hm : ∀ m ∈ ms, MP t m ∧ m.pl.length ≤ 7 ∧ m.br.length ≤ 1000) (lm : ms.length ≤ 1000) {ws : List Tx} (hw : ∀ w ∈ ws, okT w = true ∧ w.length ≤ 1000) (lw : ws.length ≤ 1000) : G_never [eT t, .tup (ms.map eM), eS ws] = some (eS (neverT t ms ws)) := by
  obtain ⟨ρ', e, c4, rfl⟩ := loop_pre (G := toS 4) (fb := b_never_L2) D.str (fun dn ρ => ∃ c4, ρ = [some (.d (eT t)), some (.d (.tup (ms.map eM))), some (.d (eS ws)), some (.l ((neverT t ms dn).map .str)), c4, none]) ws
    (ρ := [some (.d (eT t)), some (.d (.tup (ms.map eM))), some (.d (eS ws)), some (.l []), none, none]) ⟨none, rfl⟩ fun dn w rs ρ e ⟨c4, z⟩ => by
      subst z
      obtain ⟨w1, w2⟩ := hw w (by rw [e]; simp)
      have ld : dn.length + 1 ≤ ws.length := by rw [e]; simp
      have lf := List.length_filter_le (fun w => ms.all fun m => decide (standsT t m w = [])) dn
      have ln : (neverT t ms dn).length < LIM := lim_lt (by unfold neverT; omega)
      have lc : lcL [some (.d (eT t)), some (.d (.tup (ms.map eM))), some (.d (eS ws)), some (.l ((neverT t ms dn).map .str)), some (.d (.str w)), none] (toS 5) (fun _ => some true) b_never_c1 (ms.map eM) = some ((ms.map fun m => decide (standsT t m w = [])).map .bl) := by
        rw [lcL_all eM (fun m => .bl (decide (standsT t m w = []))) ms fun m hmm => ⟨_, rfl, by
          obtain ⟨a, b, c⟩ := hm m hmm
          have mst := m_stands ht a b c w1 w2
          have e2 : eqD (.int ((standsT t m w).length : Nat)) (.int 0) = some (.bl (decide (standsT t m w = []))) := by
            rw [eqD_int]
            congr 2
            refine beq_of_iff ?_
            rw [← List.length_eq_zero_iff]
            omega
          have le : lenD [eN (standsT t m w)] = some (.int ((standsT t m w).length : Nat)) := by simp [eN]
          simp [b_never_c1, mst, le, e2]⟩, List.map_map]
        rfl
      have al := allD_map (bs := ms.map fun m => decide (standsT t m w = []))
      rw [List.all_map] at al
      have e3 : (ms.all (id ∘ fun m => decide (standsT t m w = []))) = ms.all fun m => decide (standsT t m w = []) := rfl
      rw [e3] at al
      have lB : (ms.map fun m => decide (standsT t m w = [])).length ≤ LIM := lim_lit (by rw [List.length_map]; omega)
      refine ⟨_, [some (.d (eT t)), some (.d (.tup (ms.map eM))), some (.d (eS ws)), some (.l ((neverT t ms (dn ++ [w])).map .str)), some (.d (.str w)), none], rfl, ?_, _, rfl⟩
      have en : neverT t ms (dn ++ [w]) = neverT t ms dn ++ if (ms.all fun m => decide (standsT t m w = [])) = true then [w] else [] := filter_snoc _ _ _
      rw [en]
      generalize neverT t ms dn = N at *
      generalize (ms.map fun m => decide (standsT t m w = [])) = B at *
      cases hq : (ms.all fun m => decide (standsT t m w = [])) with
      | true => rw [hq] at al; simp [-allD_map, b_never_L2, lc, lB, al, ln]
      | false => rw [hq] at al; simp [-allD_map, b_never_L2, lc, lB, al]
  have it : itemsD (eS ws) = some (ws.map .str) := rfl
  simp [G_never, runF_eq, b_never, lim_lit, e]
  rfl
theorem m__law_word (n : Int) : ∃ w, G__law_word [.int n] = some (.str w) ∧ lseT w ∧ 1 ≤ w.length ∧ w.length ≤ 4 := by
  have hm : 0 ≤ n % 4 ∧ n % 4 < 4 := by omega
  obtain ⟨j, hj⟩ := Int.eq_ofNat_of_zero_le hm.1
  have hj3 : j < 4 := by omega
  obtain ⟨x, h1, h2, h3, h4, h5⟩ := join_rng (ρ0 := [some (.d (.int n)), none]) (G := toS 1) (f := b__law_word_c1) (fun c => c = 108 ∨ c = 115 ∨ c = 101) (lo := 0) (n := j + 1) (by omega) fun i hi => by
    obtain ⟨v, v1, v2⟩ := m_drawn n (0 + (i : Nat))
    obtain ⟨c, c1, c2⟩ := lse_at (v / 4)
    simp only [Int.zero_add] at v2
    exact ⟨_, c, rfl, by simp [b__law_word_c1, v2, c1, lim_lit], c2⟩
  have lx : x.length ≤ LIM := lim_lit (by omega)
  refine ⟨x, ?_, h3, by omega, by omega⟩
  simp [-List.map_map, G__law_word, runF_eq, b__law_word, hj, big1 (show j ≤ 1000000 by omega), toNat1, tyD, h1, h4, h5, lx]
end Fo
end
-- FoM33.lean
set_option Elab.async false
set_option linter.all false
set_option maxRecDepth 100000
set_option maxHeartbeats 4000000
noncomputable section
namespace Fo
open PySem L2

theorem agT_iff : ∀ {x s : Tx}, agT x s = true ↔ ∀ (j c d : Nat), x[j]? = some c → s[j]? = some d → c = d ∨ c = 101
  | [], s => by simp [agT]
  | _ :: _, [] => by simp [agT]
  | a :: x, b :: s => by
    have ih := agT_iff (x := x) (s := s)
    have e : agT (a :: x) (b :: s) = ((decide (a = b) || decide (a = 101)) && agT x s) := by
      unfold agT
      rw [List.zip_cons_cons, List.all_cons]
    rw [e, Bool.and_eq_true, ih]
    simp only [Bool.or_eq_true, decide_eq_true_eq]
    constructor
    · rintro ⟨h1, h2⟩ j c d hc hd
      cases j with
      | zero =>
        simp at hc hd
        subst hc hd
        exact h1
      | succ j => exact h2 j c d (by simpa using hc) (by simpa using hd)
    · intro h
      exact ⟨h 0 a b rfl rfl, fun j c d hc hd => h (j + 1) c d (by simpa using hc) (by simpa using hd)⟩
theorem brk_eq (r : Row) (S : List Nat) (p : Int × Int) : brkB r S p = (longQ r p && decide (stopOf r p ∈ S)) := by
  unfold brkB longQ stopOf
  cases r[p.1.toNat]? <;> rfl
theorem keeps_stops {br : List (Int × Int)} {r : Row} {S : List Nat} : keepsT br r S = true ↔ ∃ st, stopsT br r = some st ∧ ∀ k ∈ st, k ∈ S := by
  unfold keepsT stopsT
  rw [List.all_eq_true]
  constructor
  · intro h
    have h1 : br.all (longQ r) = true := List.all_eq_true.mpr fun p hp => by
      have := h p hp
      rw [brk_eq, Bool.and_eq_true] at this
      exact this.1
    rw [if_pos h1]
    refine ⟨_, rfl, fun k hk => ?_⟩
    obtain ⟨p, hp, rfl⟩ := List.mem_map.mp hk
    have := h p hp
    rw [brk_eq, Bool.and_eq_true] at this
    exact of_decide_eq_true this.2
  · rintro ⟨st, h1, h2⟩ p hp
    split at h1
    · rename_i ha
      cases h1
      rw [brk_eq, Bool.and_eq_true]
      exact ⟨List.all_eq_true.mp ha p hp, decide_eq_true (h2 _ (List.mem_map.mpr ⟨p, hp, rfl⟩))⟩
    · cases h1
theorem shape_take {r : Row} {i : Nat} (h : i < r.length) : (shapeOf (r.take i)).length + (r[i]).2.length ≤ (shapeOf r).length := by
  have e : r = r.take (i + 1) ++ r.drop (i + 1) := (List.take_append_drop _ _).symm
  have e2 : r.take (i + 1) = r.take i ++ [r[i]] := by rw [List.take_append_getElem]
  have : (shapeOf r).length = (shapeOf (r.take (i + 1))).length + (shapeOf (r.drop (i + 1))).length := by
    conv => lhs; rw [e]
    rw [shape_app, List.length_append]
  rw [this, e2, shape_snoc, List.length_append]
  omega
theorem stop_bound {br : List (Int × Int)} {r : Row} {st : List Nat} (hb : ∀ p ∈ br, 1 ≤ p.2) (h : stopsT br r = some st) : ∀ k ∈ st, 1 ≤ k ∧ k ≤ (shapeOf r).length := by
  unfold stopsT at h
  split at h
  · rename_i ha
    cases h
    intro k hk
    obtain ⟨p, hp, rfl⟩ := List.mem_map.mp hk
    have h1 := List.all_eq_true.mp ha p hp
    have h2 := hb p hp
    unfold longQ at h1
    unfold stopOf
    by_cases hi : p.1.toNat < r.length
    · rw [List.getElem?_eq_getElem hi] at h1
      have h1 := of_decide_eq_true h1
      have := shape_take hi
      omega
    · rw [List.getElem?_eq_none (by omega)] at h1
      cases h1
  · cases h
theorem ends_sng (x : Tx) (k : Nat) : k ∈ endsT (sng x) ↔ 1 ≤ k ∧ k ≤ x.length := by
  induction x generalizing k with
  | nil => simp [sng, endsT, endsFrom]; omega
  | cons c x ih =>
    have e : endsT (sng (c :: x)) = 1 :: (endsT (sng x)).map (1 + ·) := by
      have : sng (c :: x) = [[c]] ++ sng x := rfl
      rw [this, ends_app]
      rfl
    rw [e, List.mem_cons, List.mem_map, List.length_cons]
    constructor
    · rintro (h | ⟨j, hj, rfl⟩)
      · omega
      · have := (ih j).mp hj; omega
    · intro h
      by_cases h1 : k = 1
      · exact .inl h1
      · exact .inr ⟨k - 1, (ih _).mpr (by omega), by omega⟩
theorem ends_le : ∀ (a : List Tx) (k : Nat), k ∈ endsT a → k ≤ a.flatten.length
  | [], k, h => by simp [endsT, endsFrom] at h
  | w :: a, k, h => by
    have e : endsT (w :: a) = w.length :: (endsT a).map (w.length + ·) := by
      have : w :: a = [w] ++ a := rfl
      rw [this, ends_app]
      simp [endsT, endsFrom]
    rw [e, List.mem_cons, List.mem_map] at h
    rw [List.flatten_cons, List.length_append]
    rcases h with h | ⟨j, hj, rfl⟩
    · omega
    · have := ends_le a j hj; omega
theorem ends_cons (w : Tx) (a : List Tx) : endsT (w :: a) = w.length :: (endsT a).map (w.length + ·) := by
  have : w :: a = [w] ++ a := rfl
  rw [this, ends_app]
  simp [endsT, endsFrom]
theorem ends_ge {w : Tx} {a : List Tx} {k : Nat} (h : k ∈ endsT (w :: a)) : w.length ≤ k := by
  rw [ends_cons, List.mem_cons, List.mem_map] at h
  rcases h with h | ⟨j, hj, rfl⟩ <;> omega
theorem show_flat (s w : Tx) (i : Nat) : (showW s w i).flatten = s.take i ++ w ++ s.drop (i + w.length) := by
  unfold showW
  rw [List.flatten_append, List.flatten_append, sng_flat, sng_flat]
  simp
theorem show_ends {s w : Tx} {i k : Nat} (hw : 1 ≤ w.length) (hi : i + w.length ≤ s.length) (h1 : 1 ≤ k) (h2 : k ≤ s.length) (h3 : ¬ (i < k ∧ k < i + w.length)) : k ∈ endsT (showW s w i) := by
  unfold showW
  rw [ends_app, ends_app, List.mem_append, List.mem_append]
  have l1 : (s.take i).length = i := by rw [List.length_take]; omega
  by_cases c1 : k ≤ i
  · exact .inl (.inl ((ends_sng _ _).mpr (by rw [l1]; omega)))
  · have l2 : (sng (s.take i) ++ [w]).flatten.length = i + w.length := by
      rw [List.flatten_append, sng_flat, List.length_append, l1]; simp
    by_cases c2 : k = i + w.length
    · left; right
      rw [List.mem_map]
      refine ⟨w.length, by simp [endsT, endsFrom], ?_⟩
      rw [sng_flat, l1]; omega
    · right
      rw [List.mem_map]
      refine ⟨k - (i + w.length), (ends_sng _ _).mpr (by rw [List.length_drop]; omega), ?_⟩
      rw [l2]; omega
theorem show_ag {s w : Tx} {i : Nat} (hi : i + w.length ≤ s.length) (ha : agT w (s.drop i) = true) : agT (s.take i ++ w ++ s.drop (i + w.length)) s = true := by
  rw [agT_iff] at ha ⊢
  intro j c d hc hd
  have l1 : (s.take i).length = i := by rw [List.length_take]; omega
  by_cases c1 : j < i
  · rw [List.append_assoc, List.getElem?_append_left (by omega), List.getElem?_take_of_lt c1, hd] at hc
    exact .inl (by simpa using hc.symm)
  · by_cases c2 : j < i + w.length
    · rw [List.append_assoc, List.getElem?_append_right (by omega), l1, List.getElem?_append_left (by omega)] at hc
      refine ha (j - i) c d hc ?_
      rw [List.getElem?_drop]
      rw [show i + (j - i) = j by omega]; exact hd
    · rw [List.getElem?_append_right (by rw [List.length_append]; omega), List.length_append, l1, List.getElem?_drop, show i + w.length + (j - (i + w.length)) = j by omega, hd] at hc
      exact .inl (by simpa using hc.symm)
theorem show_fits {t : List Foot} (ht : TongueOk t) {m : Meas} (hm : MP t m) {w : Tx} (hw : lseT w) (lw : 1 ≤ w.length) {i : Nat} {l : LS} (hl : l ∈ linesBy t m) (hs : standB l.1 l.2 w i = true) : fitsB t m (showW l.1 w i) = true := by
  obtain ⟨s, st⟩ := l
  obtain ⟨r, hr, h1, h2⟩ := mem_lines.mp hl
  have hls := (line_in ht hm hl).1
  simp only at hs hls ⊢
  have hle := stand_le hs
  have hsr := shape_of_row ht hm.po hr
  have len := (loose_ls hsr.1 m.lo s h1).2
  unfold standB at hs
  simp only [Bool.and_eq_true, decide_eq_true_eq, Bool.not_eq_true'] at hs
  obtain ⟨⟨a1, a2⟩, a3⟩ := hs
  rw [fits_iff]
  refine ⟨r, hr, ?_, keeps_stops.mpr ⟨st, h2, fun k hk => ?_⟩⟩
  · rw [show_flat]
    refine (endB_loose ?_ hsr.1 m.lo).mpr ⟨s, h1, by simp; omega, show_ag hle a2⟩
    intro c hc
    rcases List.mem_append.mp hc with hc | hc
    · rcases List.mem_append.mp hc with hc | hc
      · exact hls.lse c (List.mem_of_mem_take hc)
      · exact hw c hc
    · exact hls.lse c (List.mem_of_mem_drop hc)
  · have hb := stop_bound (fun p hp => (hm.br p hp).2.2.1) h2 k hk
    have := List.any_eq_false.mp a3 k hk
    simp only [Bool.and_eq_true, decide_eq_true_eq] at this
    exact show_ends lw hle hb.1 (by omega) this
/-- a beginning of a word that stands -/
theorem stand_pre {s w : Tx} {st : List Nat} {i j : Nat} (h : standB s st w i = true) : standB s st (w.take j) i = true := by
  unfold standB at *
  simp only [Bool.and_eq_true, decide_eq_true_eq, Bool.not_eq_true', List.any_eq_false] at *
  obtain ⟨⟨a1, a2⟩, a3⟩ := h
  have l1 : (w.take j).length ≤ w.length := by rw [List.length_take]; omega
  refine ⟨⟨by omega, ?_⟩, fun k hk => ?_⟩
  · rw [agT_iff] at a2 ⊢
    intro q c d hc hd
    refine a2 q c d ?_ hd
    by_cases hq : q < j
    · rw [List.getElem?_take_of_lt hq] at hc; exact hc
    · rw [List.getElem?_take_eq_none (by omega)] at hc; cases hc
  · have := a3 k hk
    omega
theorem stand_set {s w : Tx} {st : List Nat} {i k : Nat} (hs : lsT s) (hk : k < w.length) : standB s st (w.set k 101) i = true ↔ standB s st (w.set k 108) i = true ∨ standB s st (w.set k 115) i = true := by
  have key : ∀ c, standB s st (w.set k c) i = true ↔ (i + w.length ≤ s.length ∧ agT (w.set k c) (s.drop i) = true) ∧ (st.any fun k => decide (i < k) && decide (k < i + w.length)) = false := fun c => by
    unfold standB
    simp only [Bool.and_eq_true, decide_eq_true_eq, Bool.not_eq_true', List.length_set]
  have ag : ∀ c, agT (w.set k c) (s.drop i) = true ↔ (∀ (j a b : Nat), j ≠ k → w[j]? = some a → (s.drop i)[j]? = some b → a = b ∨ a = 101) ∧ ∀ b : Nat, (s.drop i)[k]? = some b → c = b ∨ c = 101 := fun c => by
    rw [agT_iff]
    constructor
    · intro h
      refine ⟨fun j a b hj ha hb => h j a b (by rw [List.getElem?_set_ne (Ne.symm hj)]; exact ha) hb, fun b hb => h k c b (by rw [List.getElem?_set_self hk]) hb⟩
    · rintro ⟨h1, h2⟩ j a b ha hb
      by_cases hj : j = k
      · subst hj
        rw [List.getElem?_set_self hk] at ha
        cases ha
        exact h2 b hb
      · rw [List.getElem?_set_ne (Ne.symm hj)] at ha
        exact h1 j a b hj ha hb
  rw [key, key, key, ag, ag, ag]
  constructor
  · rintro ⟨⟨h1, h2, h3⟩, h4⟩
    have hik : i + k < s.length := by omega
    have hb : (s.drop i)[k]? = some s[i + k] := by rw [List.getElem?_drop, List.getElem?_eq_getElem hik]
    rcases hs _ (List.getElem_mem hik) with z | z
    · exact .inl ⟨⟨h1, h2, fun b hb' => .inl (by rw [hb, z] at hb'; simpa using hb')⟩, h4⟩
    · exact .inr ⟨⟨h1, h2, fun b hb' => .inl (by rw [hb, z] at hb'; simpa using hb')⟩, h4⟩
  · rintro (⟨⟨h1, h2, h3⟩, h4⟩ | ⟨⟨h1, h2, h3⟩, h4⟩)
    · exact ⟨⟨h1, h2, fun b _ => .inr rfl⟩, h4⟩
    · exact ⟨⟨h1, h2, fun b _ => .inr rfl⟩, h4⟩
/-- each word of a line that fits stands where it is -/
theorem stand_here {t : List Foot} (ht : TongueOk t) {m : Meas} (hm : MP t m) {dn rs : List Tx} {w : Tx} (hl : lseT (dn ++ w :: rs).flatten) (lw : 1 ≤ w.length) (hf : fitsB t m (dn ++ w :: rs) = true) : dn.flatten.length ∈ standsT t m w := by
  obtain ⟨r, hr, he, hk⟩ := fits_iff.mp hf
  have hsr := shape_of_row ht hm.po hr
  obtain ⟨s, s1, s2, s3⟩ := (endB_loose hl hsr.1 m.lo).mp he
  obtain ⟨st, t1, t2⟩ := keeps_stops.mp hk
  have hlen : (dn ++ w :: rs).flatten.length = dn.flatten.length + (w.length + rs.flatten.length) := by simp
  refine mem_stands.mpr ⟨(s, st), mem_lines.mpr ⟨r, hr, s1, t1⟩, by simp only; omega, ?_⟩
  unfold standB
  simp only [Bool.and_eq_true, decide_eq_true_eq, Bool.not_eq_true', List.any_eq_false]
  refine ⟨⟨by omega, ?_⟩, fun k hk => ?_⟩
  · rw [agT_iff] at s3 ⊢
    intro j c d hc hd
    have hj : j < w.length := by
      rcases Nat.lt_or_ge j w.length with z | z
      · exact z
      · rw [List.getElem?_eq_none z] at hc; cases hc
    refine s3 (dn.flatten.length + j) c d ?_ (by rw [List.getElem?_drop] at hd; exact hd)
    rw [List.flatten_append, List.flatten_cons, List.getElem?_append_right (by omega), Nat.add_sub_cancel_left, List.getElem?_append_left hj]
    exact hc
  · have := t2 k hk
    rw [ends_app, List.mem_append, List.mem_map] at this
    rcases this with z | ⟨j, hj, rfl⟩
    · have := ends_le dn k z; omega
    · have := ends_ge hj; omega
end Fo
end
-- FoM34.lean
set_option Elab.async false
set_option linter.all false
set_option maxRecDepth 100000
set_option maxHeartbeats 4000000
noncomputable section
namespace Fo
open PySem L2

theorem seqN {s rest : Env → Option Out} {ρ ρ' : Env} {o : Option Out} (h : s ρ = some (.nx ρ')) (k : rest ρ' = o) : seqS s rest ρ = o := by
  rw [seq_nx h]; exact k
theorem chkN {c : Env → Option Bool} {x rest : Env → Option Out} {ρ : Env} {o : Option Out} (h : c ρ = some false) (k : rest ρ = o) : seqS (ifS c x nopS) rest ρ = o := by
  refine seqN (ρ' := ρ) ?_ k
  rw [ev_if, h]; rfl
theorem chkL {c : Env → Option Bool} {x : Env → Option Out} {ρ : Env} (h : c ρ = some false) : ifS c x nopS ρ = some (.nx ρ) := by
  rw [ev_if, h]; rfl
/-! ### as in L61 -/
theorem eqD_enc {α : Type} [DecidableEq α] {enc : α → D} (h : Enc enc) {x y : α} (hx : okD 60 (enc x) = true) (hy : okD 60 (enc y) = true) : eqD (enc x) (enc y) = some (.bl (decide (x = y))) := by
  unfold eqD
  rw [if_pos ⟨hx, hy⟩, h x y]
theorem neD_enc {α : Type} [DecidableEq α] {enc : α → D} (h : Enc enc) {x y : α} (hx : okD 60 (enc x) = true) (hy : okD 60 (enc y) = true) : neD (enc x) (enc y) = some (.bl (!decide (x = y))) := by
  unfold neD
  rw [if_pos ⟨hx, hy⟩, h x y]
theorem enc_eN : Enc eN := enc_nat.tup
theorem okD_eN {xs : List Nat} {n : Nat} : okD (n + 1) (eN xs) = true := by
  show okL n _ = true
  exact okL_map fun _ _ => okD_int
theorem sset_int {xs : List Int} (h : xs.length < 4000) : ssetD (.lst (xs.map .int)) = some (.lst ((usort ltI xs).map .int)) := by
  cases xs with
  | nil => rfl
  | cons x xs =>
    have e := intsOf_map (x :: xs)
    unfold ssetD
    rw [List.map_cons] at e ⊢
    simp only [strsOf, e]
    rw [if_pos h]
theorem stands_lt {t : List Foot} (ht : TongueOk t) {m : Meas} (hm : MP t m) (hn : m.pl.length ≤ 7) {w : Tx} : (standsT t m w).length ≤ 21 :=
  nodup_bound 21 _ (rising_nodup stoN (rising_usort stoN _)) fun i hi => by
    obtain ⟨l, hl, h1, _⟩ := mem_stands.mp hi
    have := (line_in ht hm hl).2.1
    omega
theorem shapesT_len3 {t : List Foot} (ht : TongueOk t) {m : Meas} (h : ∀ pl ∈ m.pl, plOk t pl) (hn : m.pl.length ≤ 3) : (shapesT t m).length ≤ 1458 := by
  have h1 : (rowsT t m.pl).length ≤ 9 ^ m.pl.length := by simpa [rowsT] using rows_len ht m.pl [[]] h
  have h2 := flat_le (fun r => looseT (shapeOf r) m.lo) 2 (rowsT t m.pl) fun r _ => loose_len _ _
  have h3 : 9 ^ m.pl.length ≤ 729 := Nat.le_trans (Nat.pow_le_pow_right (by decide) hn) (by decide)
  have h4 := usort_len stoT (shapesAll t m)
  have h5 : (shapesAll t m).length ≤ (rowsT t m.pl).length * 2 := h2
  show (usort ltT (shapesAll t m)).length ≤ _
  omega
/-! ### rows there are -/
theorem pairs_ne {t : List Foot} (ht : TongueOk t) {pl : List Tx} (h : placeOk t pl) : pairsT t pl ≠ [] := by
  obtain ⟨x, xs, rfl⟩ := List.exists_cons_of_ne_nil h.1
  have hf := (forms_ok ht (h.2.2.2 x (List.mem_cons_self ..))).1
  unfold pairsT prOf
  rw [List.flatMap_cons]
  intro z
  have := (List.append_eq_nil_iff.mp z).1
  exact hf (List.map_eq_nil_iff.mp this)
theorem fold_ne {t : List Foot} (ht : TongueOk t) : ∀ (pls : List (List Tx)) (R : List Row), R ≠ [] → (∀ pl ∈ pls, placeOk t pl) → pls.foldl (rowStep t) R ≠ []
  | [], R, h, _ => h
  | pl :: pls, R, h, hp => by
    rw [List.foldl_cons]
    refine fold_ne ht pls _ ?_ fun q hq => hp q (List.mem_cons_of_mem _ hq)
    have h2 := pairs_ne ht (hp pl (List.mem_cons_self ..))
    intro z
    have := congrArg List.length z
    rw [step_count] at this
    have a := List.length_pos_iff.mpr h
    have b := List.length_pos_iff.mpr h2
    have := Nat.mul_pos a b
    simp at *
    omega
theorem rows_ne {t : List Foot} (ht : TongueOk t) {m : Meas} (hm : MP t m) : ∃ r, r ∈ rowsT t m.pl :=
  List.exists_mem_of_ne_nil _ (fold_ne ht m.pl [[]] (by simp) hm.pl)
/-! ### words in joined ones -/
theorem stops_join {a b : Meas} {r1 r2 : Row} (ha : a.br = []) (h1 : r1.length = a.pl.length) (hb : ∀ p ∈ b.br, 0 ≤ p.1) : stopsT (joined a b).br (r1 ++ r2) = (stopsT b.br r2).map fun st => st.map ((shapeOf r1).length + ·) := by
  have e : (joined a b).br = b.br.map fun p => (p.1 + (a.pl.length : Int), p.2) := by simp [joined, ha]
  have hlq : ∀ p ∈ b.br, longQ (r1 ++ r2) (p.1 + (a.pl.length : Int), p.2) = longQ r2 p := fun p hp => by
    have h0 := hb p hp
    have e1 : (p.1 + (a.pl.length : Int)).toNat = r1.length + p.1.toNat := by omega
    unfold longQ
    simp only [e1]
    rw [List.getElem?_append_right (by omega), Nat.add_sub_cancel_left]
  have hst : ∀ p ∈ b.br, stopOf (r1 ++ r2) (p.1 + (a.pl.length : Int), p.2) = (shapeOf r1).length + stopOf r2 p := fun p hp => by
    have h0 := hb p hp
    have e1 : (p.1 + (a.pl.length : Int)).toNat = r1.length + p.1.toNat := by omega
    unfold stopOf
    simp only [e1]
    rw [List.take_append, List.take_of_length_le (by omega), Nat.add_sub_cancel_left, shape_app, List.length_append]
    omega
  unfold stopsT
  rw [e, List.all_map]
  have e2 : (b.br.all ((longQ (r1 ++ r2)) ∘ fun p => (p.1 + (a.pl.length : Int), p.2))) = b.br.all (longQ r2) := by
    have : ∀ (l : List (Int × Int)), (∀ p ∈ l, longQ (r1 ++ r2) (p.1 + (a.pl.length : Int), p.2) = longQ r2 p) → l.all ((longQ (r1 ++ r2)) ∘ fun p => (p.1 + (a.pl.length : Int), p.2)) = l.all (longQ r2) := fun l hl => by
      induction l with
      | nil => rfl
      | cons p l ih =>
        rw [List.all_cons, List.all_cons, ih fun q hq => hl q (List.mem_cons_of_mem _ hq)]
        congr 1
        exact hl p (List.mem_cons_self ..)
    exact this b.br hlq
  rw [e2]
  by_cases h : b.br.all (longQ r2) = true
  · rw [if_pos h, if_pos h, Option.map_some, List.map_map, List.map_map]
    congr 1
    exact List.map_congr_left fun p hp => hst p hp
  · rw [if_neg h, if_neg h]; rfl
theorem self_loose {x : Tx} (h : lsT x) (lo : Bool) : x ∈ looseT x lo := (law_shapes_mem h lo x).mp (.inl rfl)
theorem first_there {t : List Foot} (ht : TongueOk t) {a b : Meas} (ha : MP t a) (hb : MP t b) (h1 : a.br = []) (h2 : a.lo = false) (h3 : b.br = []) {w : Tx} : ∀ i ∈ standsT t a w, i ∈ standsT t (joined a b) w := fun i hi => by
  obtain ⟨⟨s, st⟩, l1, l2, l3⟩ := mem_stands.mp hi
  obtain ⟨r1, r1m, s1, s2⟩ := mem_lines.mp l1
  rw [h2, loose_false] at s1
  have s1 : s = shapeOf r1 := by simpa using s1
  obtain ⟨r2, r2m⟩ := rows_ne ht hb
  have e1 : st = [] := by rw [h1] at s2; unfold stopsT at s2; simpa using s2.symm
  have hj := stops_join (a := a) (b := b) (r1 := r1) (r2 := r2) h1 (row_form ht ha.po r1m).2 fun p hp => (hb.br p hp).1
  rw [h3] at hj
  have hls : lsT (shapeOf r1 ++ shapeOf r2) := fun c hc => by
    rcases List.mem_append.mp hc with z | z
    · exact (shape_of_row ht ha.po r1m).1 c z
    · exact (shape_of_row ht hb.po r2m).1 c z
  refine mem_stands.mpr ⟨(shapeOf r1 ++ shapeOf r2, []), mem_lines.mpr ⟨r1 ++ r2, mem_rows_app.mpr ⟨r1, r1m, r2, r2m, rfl⟩, by rw [shape_app]; exact self_loose hls _, hj⟩, by simp only at l2 ⊢; rw [List.length_append, ← s1]; omega, ?_⟩
  subst e1
  have hle := stand_le l3
  simp only at l3 hle ⊢
  unfold standB at l3 ⊢
  simp only [Bool.and_eq_true, decide_eq_true_eq, List.any_nil, Bool.not_false, and_true] at l3 ⊢
  rw [← s1, List.length_append]
  refine ⟨by omega, ?_⟩
  rw [List.drop_append_of_le_length (by omega), agT_iff]
  rw [agT_iff] at l3
  intro j c d hc hd
  have hj : j < w.length := by
    rcases Nat.lt_or_ge j w.length with z | z
    · exact z
    · rw [List.getElem?_eq_none z] at hc; cases hc
  refine l3.2 j c d hc ?_
  rw [List.getElem?_append_left (by rw [List.length_drop]; omega)] at hd
  exact hd
theorem second_there {t : List Foot} (ht : TongueOk t) {a b : Meas} (ha : MP t a) (hb : MP t b) (h1 : a.br = []) (h2 : a.lo = false) {w : Tx} {x : Tx} (hx : x ∈ shapesT t a) : ∀ i ∈ standsT t b w, i + x.length ∈ standsT t (joined a b) w := fun i hi => by
  obtain ⟨r1, r1m, rfl⟩ := (mem_shapes_plain h2).mp hx
  obtain ⟨⟨s, st⟩, l1, l2, l3⟩ := mem_stands.mp hi
  obtain ⟨r2, r2m, s1, s2⟩ := mem_lines.mp l1
  simp only at l2 l3
  have hj := stops_join (a := a) (b := b) (r1 := r1) (r2 := r2) h1 (row_form ht ha.po r1m).2 fun p hp => (hb.br p hp).1
  rw [s2, Option.map_some] at hj
  have hlen := (loose_ls (shape_of_row ht hb.po r2m).1 b.lo s s1).2
  have hne : shapeOf r2 ≠ [] := fun z => by rw [z] at hlen; simp at hlen; rw [hlen] at l2; simp at l2
  refine mem_stands.mpr ⟨(shapeOf r1 ++ s, st.map ((shapeOf r1).length + ·)), mem_lines.mpr ⟨r1 ++ r2, mem_rows_app.mpr ⟨r1, r1m, r2, r2m, rfl⟩, ?_, hj⟩, by simp only; rw [List.length_append]; omega, ?_⟩
  · rw [shape_app, loose_app hne]
    exact List.mem_map.mpr ⟨s, s1, rfl⟩
  · have hle := stand_le l3
    simp only
    unfold standB at l3 ⊢
    simp only [Bool.and_eq_true, decide_eq_true_eq, Bool.not_eq_true', List.any_eq_false] at l3 ⊢
    refine ⟨⟨by rw [List.length_append]; omega, ?_⟩, fun k hk => ?_⟩
    · rw [Nat.add_comm i, List.drop_append, List.drop_of_length_le (by omega), Nat.add_sub_cancel_left, List.nil_append]
      exact l3.1.2
    · obtain ⟨j, hj, rfl⟩ := List.mem_map.mp hk
      have := l3.2 j hj
      omega
end Fo
end
-- FoM35.lean
set_option Elab.async false
set_option linter.all false
set_option maxRecDepth 100000
set_option maxHeartbeats 4000000
noncomputable section
namespace Fo
open PySem L2

theorem or3 {a b c : Prop} (h : a ∨ b) : a ∨ b ∨ c := h.elim .inl fun z => .inr (.inl z)
/-! ### how far a text goes with a form -/
def laidT (fr : Bool) : Tx → Tx → Nat
  | c :: x, d :: y => if c = d ∨ c = 101 ∨ (fr = true ∧ x = [] ∧ y = []) then laidT fr x y + 1 else 0
  | _, _ => 0
theorem laid_nil (fr : Bool) (y : Tx) : laidT fr [] y = 0 := by unfold laidT; rfl
theorem laid_nil2 (fr : Bool) (x : Tx) : laidT fr x [] = 0 := by cases x <;> (unfold laidT; rfl)
theorem laid_cons (fr : Bool) (c d : Nat) (x y : Tx) : laidT fr (c :: x) (d :: y) = if c = d ∨ c = 101 ∨ (fr = true ∧ x = [] ∧ y = []) then laidT fr x y + 1 else 0 := by rw [laidT]
theorem laid_le (fr : Bool) : ∀ x y : Tx, laidT fr x y ≤ x.length ∧ laidT fr x y ≤ y.length
  | [], y => by rw [laid_nil]; simp
  | c :: x, [] => by rw [laid_nil2]; simp
  | c :: x, d :: y => by
    have := laid_le fr x y
    rw [laid_cons]
    split <;> simp <;> omega
theorem laid_pre : ∀ x s : Tx, laidT false x s = s.length ↔ preB x s = true
  | [], s => by
    rw [laid_nil]
    unfold preB
    cases s <;> simp [agT]
  | c :: x, [] => by rw [laid_nil2]; simp [preB, agT]
  | c :: x, d :: s => by
    have ih := laid_pre x s
    rw [laid_cons]
    unfold preB at *
    simp only [Bool.and_eq_true, decide_eq_true_eq] at ih
    by_cases h : c = d ∨ c = 101
    · rw [if_pos (or3 h)]
      simp only [List.length_cons, Nat.add_right_cancel_iff, ih, agT, List.zip_cons_cons, List.all_cons, Bool.and_eq_true, decide_eq_true_eq, Bool.or_eq_true]
      constructor
      · rintro ⟨a, b⟩; exact ⟨by omega, h, b⟩
      · rintro ⟨a, _, b⟩; exact ⟨by omega, b⟩
    · rw [if_neg (by simpa using h)]
      simp only [List.length_cons, agT, List.zip_cons_cons, List.all_cons, Bool.and_eq_true, decide_eq_true_eq, Bool.or_eq_true]
      constructor
      · intro z; omega
      · rintro ⟨_, z, _⟩; exact absurd z h
theorem laid_app (fr : Bool) : ∀ (x s f : Tx), f ≠ [] → laidT fr x (s ++ f) = if preB x s = true then s.length + laidT fr (x.drop s.length) f else laidT false x s
  | x, [], f, hf => by
    have : preB x [] = true := by simp [preB, agT]
    rw [if_pos this]; simp
  | [], d :: s, f, hf => by
    have : preB [] (d :: s) = false := by simp [preB]
    rw [this, laid_nil, laid_nil]; rfl
  | c :: x, d :: s, f, hf => by
    have ih := laid_app fr x s f hf
    have e : preB (c :: x) (d :: s) = ((decide (c = d) || decide (c = 101)) && preB x s) := by
      simp only [preB, agT, List.zip_cons_cons, List.all_cons, List.length_cons, Nat.add_le_add_iff_right]
      cases decide (s.length ≤ x.length) <;> simp
    rw [List.cons_append, laid_cons, laid_cons, e, ih]
    have ne : s ++ f ≠ [] := fun z => hf (List.append_eq_nil_iff.mp z).2
    by_cases h : c = d ∨ c = 101
    · rw [if_pos (or3 h), if_pos (or3 h)]
      have hb : (decide (c = d) || decide (c = 101)) = true := by simpa using h
      rw [hb, Bool.true_and]
      by_cases hp : preB x s = true
      · rw [if_pos hp, if_pos hp]; simp; omega
      · rw [if_neg hp, if_neg hp]
    · have hb : (decide (c = d) || decide (c = 101)) = false := by simpa using h
      have m1 : ¬(c = d ∨ c = 101 ∨ (fr = true ∧ x = [] ∧ s ++ f = [])) := fun z => z.elim (fun q => h (.inl q)) fun z => z.elim (fun q => h (.inr q)) fun q => ne q.2.2
      have m2 : ¬(c = d ∨ c = 101 ∨ (false = true ∧ x = [] ∧ s = [])) := fun z => z.elim (fun q => h (.inl q)) fun z => z.elim (fun q => h (.inr q)) fun q => nomatch q.1
      rw [hb, if_neg m1, if_neg m2]
      simp
theorem laid_mono : ∀ (x s f : Tx), laidT false x s ≤ laidT false x (s ++ f)
  | x, s, [] => by simp
  | x, s, c :: f => by
    rw [laid_app false x s (c :: f) (by simp)]
    split
    · have := (laid_le false x s).2; omega
    · exact Nat.le_refl _
theorem laid_take : ∀ (x s : Tx) (k : Nat), laidT false (x.take k) s = min k (laidT false x s)
  | [], s, k => by simp [laid_nil]
  | c :: x, [], k => by simp [laid_nil2]
  | c :: x, d :: s, 0 => by simp [laid_nil]
  | c :: x, d :: s, k + 1 => by
    have ih := laid_take x s k
    rw [List.take_succ_cons, laid_cons, laid_cons, ih]
    by_cases h : c = d ∨ c = 101
    · rw [if_pos (or3 h), if_pos (or3 h)]; omega
    · rw [if_neg (by simpa using h), if_neg (by simpa using h)]; simp
theorem laid_end : ∀ (x s : Tx) (lo : Bool), endB x s lo = true → laidT lo x s = x.length
  | [], s, lo, h => by rw [laid_nil]; rfl
  | c :: x, [], lo, h => by simp [endB] at h
  | c :: x, d :: s, lo, h => by
    unfold endB at h
    simp only [List.length_cons, Bool.and_eq_true, decide_eq_true_eq, Nat.add_right_cancel_iff] at h
    obtain ⟨hl, ha⟩ := h
    rw [laid_cons]
    cases lo with
    | false =>
      simp only [Bool.false_eq_true, if_false, agT, List.zip_cons_cons, List.all_cons, Bool.and_eq_true, decide_eq_true_eq, Bool.or_eq_true] at ha
      rw [if_pos (or3 ha.1), laid_end x s false (by unfold endB agT; simpa [hl] using ha.2)]
      rfl
    | true =>
      simp only [if_true] at ha
      cases x with
      | nil =>
        have : s = [] := List.length_eq_zero_iff.mp hl.symm
        subst this
        rw [if_pos (by simp), laid_nil]; rfl
      | cons c2 x =>
        cases s with
        | nil => simp at hl
        | cons d2 s =>
          simp only [List.dropLast_cons_cons, agT, List.zip_cons_cons, List.all_cons, Bool.and_eq_true, decide_eq_true_eq, Bool.or_eq_true] at ha
          rw [if_pos (or3 ha.1), laid_end (c2 :: x) (d2 :: s) true (by
            unfold endB
            simp only [Bool.and_eq_true, decide_eq_true_eq, if_true]
            exact ⟨hl, by simpa [agT] using ha.2⟩)]
          rfl
/-! ### laid_part -/
def enZ (k : Nat) (xs : List (Nat × Nat)) : List D := xs.mapIdx fun i p => .tup [.int ((k + i : Nat)), .tup [.str [p.1], .str [p.2]]]
theorem enZ_cons (k : Nat) (p : Nat × Nat) (xs : List (Nat × Nat)) : enZ k (p :: xs) = .tup [.int (k : Nat), .tup [.str [p.1], .str [p.2]]] :: enZ (k + 1) xs := by
  unfold enZ
  rw [List.mapIdx_cons]
  refine congrArg (List.cons _) (congrArg (fun f => List.mapIdx f xs) (funext fun i => funext fun q => ?_))
  rw [show k + (i + 1) = k + 1 + i by omega]
theorem enZ_zip (x y : Tx) : enumL ((x.zip y).map fun p => .tup [.str [p.1], .str [p.2]]) = enZ 0 (x.zip y) := by
  unfold enumL enZ
  apply List.ext_getElem?
  intro i
  simp only [List.getElem?_mapIdx, List.getElem?_map]
  cases (x.zip y)[i]? <;> simp
theorem m_laid_loop {x f : Tx} (hx : okT x = true) (hf : okT f = true) (lx : x.length ≤ 1000) (lf : f.length ≤ 1000) (fr : Bool) : ∀ (x' f' : Tx) (k n : Nat) (c4 c5 c6 : Option Cell), (∀ c ∈ x', okT [c] = true) → (∀ c ∈ f', okT [c] = true) → x.length = k + x'.length → f.length = k + f'.length →
    loopL (toTup 2 (toCons (toS 4) (toCons (toTup 2 (toCons (toS 5) (toCons (toS 6) toNil))) toNil))) b_laid_part_L1 (enZ k (x'.zip f')) [some (.d (.str x)), some (.d (.str f)), some (.d (.bl fr)), some (.d (.int (n : Nat))), c4, c5, c6] = some (.rt (.int (n + laidT fr x' f' : Nat))) ∨
    ∃ d4 d5 d6, loopL (toTup 2 (toCons (toS 4) (toCons (toTup 2 (toCons (toS 5) (toCons (toS 6) toNil))) toNil))) b_laid_part_L1 (enZ k (x'.zip f')) [some (.d (.str x)), some (.d (.str f)), some (.d (.bl fr)), some (.d (.int (n : Nat))), c4, c5, c6] = some (.nx [some (.d (.str x)), some (.d (.str f)), some (.d (.bl fr)), some (.d (.int (n + laidT fr x' f' : Nat))), d4, d5, d6])
  | [], f', k, n, c4, c5, c6, _, _, _, _ => .inr ⟨c4, c5, c6, by rw [laid_nil]; rfl⟩
  | c :: x', [], k, n, c4, c5, c6, _, _, _, _ => .inr ⟨c4, c5, c6, by rw [laid_nil2]; rfl⟩
  | c :: x', d :: f', k, n, c4, c5, c6, h1, h2, e1, e2 => by
    have hc := h1 c (List.mem_cons_self ..)
    have hd := h2 d (List.mem_cons_self ..)
    have lX : x.length ≤ LIM := lim_lit (by omega)
    have lF : f.length ≤ LIM := lim_lit (by omega)
    have q1 : eqD (.int (k : Nat)) (.int ((f.length : Int) - 1)) = some (.bl (decide (f' = []))) := by
      rw [eqD_int]
      simp only [List.length_cons] at e2
      have : ((k : Int) = (f.length : Int) - 1) ↔ f' = [] := by
        rw [← List.length_eq_zero_iff]; omega
      simp [this]
    have q2 : eqD (.int (k : Nat)) (.int ((x.length : Int) - 1)) = some (.bl (decide (x' = []))) := by
      rw [eqD_int]
      simp only [List.length_cons] at e1
      have : ((k : Int) = (x.length : Int) - 1) ↔ x' = [] := by
        rw [← List.length_eq_zero_iff]; omega
      simp [this]
    rw [List.zip_cons_cons, enZ_cons, laid_cons]
    by_cases h : c = d ∨ c = 101 ∨ (fr = true ∧ x' = [] ∧ f' = [])
    · rw [if_pos h]
      have ih := m_laid_loop hx hf lx lf fr x' f' (k + 1) (n + 1) (some (.d (.int (k : Nat)))) (some (.d (.str [c]))) (some (.d (.str [d]))) (fun z hz => h1 z (List.mem_cons_of_mem _ hz)) (fun z hz => h2 z (List.mem_cons_of_mem _ hz)) (by rw [e1, List.length_cons]; omega) (by rw [e2, List.length_cons]; omega)
      have st : b_laid_part_L1 [some (.d (.str x)), some (.d (.str f)), some (.d (.bl fr)), some (.d (.int (n : Nat))), some (.d (.int (k : Nat))), some (.d (.str [c])), some (.d (.str [d]))] = some (.nx [some (.d (.str x)), some (.d (.str f)), some (.d (.bl fr)), some (.d (.int (n + 1 : Nat))), some (.d (.int (k : Nat))), some (.d (.str [c])), some (.d (.str [d]))]) := by
        by_cases h0 : c = d ∨ c = 101
        · have hb : (decide (c = d) || decide (c = 101)) = true := by simpa using h0
          simp [b_laid_part_L1, in_two hc hd, hb]
        · have hb : (decide (c = d) || decide (c = 101)) = false := by simpa using h0
          obtain ⟨z1, z2, z3⟩ : fr = true ∧ x' = [] ∧ f' = [] := by
            rcases h with z | z | z
            · exact absurd (.inl z) h0
            · exact absurd (.inr z) h0
            · exact z
          simp [b_laid_part_L1, in_two hc hd, hb, q1, q2, lX, lF, z1, z2, z3]
      rw [show n + (laidT fr x' f' + 1) = n + 1 + laidT fr x' f' by omega]
      have tg : toTup 2 (toCons (toS 4) (toCons (toTup 2 (toCons (toS 5) (toCons (toS 6) toNil))) toNil)) (.tup [.int (k : Nat), .tup [.str [c], .str [d]]]) [some (.d (.str x)), some (.d (.str f)), some (.d (.bl fr)), some (.d (.int (n : Nat))), c4, c5, c6] = some [some (.d (.str x)), some (.d (.str f)), some (.d (.bl fr)), some (.d (.int (n : Nat))), some (.d (.int (k : Nat))), some (.d (.str [c])), some (.d (.str [d]))] := rfl
      have lp : ∀ ds, loopL (toTup 2 (toCons (toS 4) (toCons (toTup 2 (toCons (toS 5) (toCons (toS 6) toNil))) toNil))) b_laid_part_L1 (.tup [.int (k : Nat), .tup [.str [c], .str [d]]] :: ds) [some (.d (.str x)), some (.d (.str f)), some (.d (.bl fr)), some (.d (.int (n : Nat))), c4, c5, c6] = loopL (toTup 2 (toCons (toS 4) (toCons (toTup 2 (toCons (toS 5) (toCons (toS 6) toNil))) toNil))) b_laid_part_L1 ds [some (.d (.str x)), some (.d (.str f)), some (.d (.bl fr)), some (.d (.int (n + 1 : Nat))), some (.d (.int (k : Nat))), some (.d (.str [c])), some (.d (.str [d]))] := fun ds => by
        rw [loopL, tg]
        simp only [st]
      rw [lp]
      exact ih
    · rw [if_neg h]
      refine .inl ?_
      have hb : (decide (c = d) || decide (c = 101)) = false := by
        cases hh : (decide (c = d) || decide (c = 101)) with
        | false => rfl
        | true => exact absurd (or3 (by simpa using hh)) h
      have tg : toTup 2 (toCons (toS 4) (toCons (toTup 2 (toCons (toS 5) (toCons (toS 6) toNil))) toNil)) (.tup [.int (k : Nat), .tup [.str [c], .str [d]]]) [some (.d (.str x)), some (.d (.str f)), some (.d (.bl fr)), some (.d (.int (n : Nat))), c4, c5, c6] = some [some (.d (.str x)), some (.d (.str f)), some (.d (.bl fr)), some (.d (.int (n : Nat))), some (.d (.int (k : Nat))), some (.d (.str [c])), some (.d (.str [d]))] := rfl
      have st : b_laid_part_L1 [some (.d (.str x)), some (.d (.str f)), some (.d (.bl fr)), some (.d (.int (n : Nat))), some (.d (.int (k : Nat))), some (.d (.str [c])), some (.d (.str [d]))] = some (.rt (.int (n : Nat))) := by
        cases fr with
        | false => simp [b_laid_part_L1, in_two hc hd, hb]
        | true =>
          by_cases zf : f' = []
          · have zx : x' ≠ [] := fun z => h (.inr (.inr ⟨rfl, z, zf⟩))
            simp [b_laid_part_L1, in_two hc hd, hb, q1, q2, lX, lF, zf, zx]
          · simp [b_laid_part_L1, in_two hc hd, hb, q1, q2, lX, lF, zf]
      rw [loopL, tg]
      simp only [st]
      rfl
theorem m_laid_part {x f : Tx} (hx : okT x = true) (hf : okT f = true) (lx : x.length ≤ 1000) (lf : f.length ≤ 1000) (fr : Bool) : G_laid_part [.str x, .str f, .bl fr] = some (.int (laidT fr x f : Nat)) := by
  have e := m_laid_loop hx hf lx lf fr x f 0 0 none none none (fun c => okT_sub hx) (fun c => okT_sub hf) (by omega) (by omega)
  have z0 : ((0 : Nat) : Int) = 0 := rfl
  rw [Nat.zero_add, z0] at e
  rcases e with e | ⟨c4, c5, c6, e⟩
  · simp [-List.map_map, G_laid_part, runF_eq, b_laid_part, enumI, enZ_zip, e]
  · simp [-List.map_map, G_laid_part, runF_eq, b_laid_part, enumI, enZ_zip, e]
end Fo
end
-- FoM36.lean
set_option Elab.async false
set_option linter.all false
set_option maxRecDepth 100000
set_option maxHeartbeats 4000000
noncomputable section
namespace Fo
open PySem L2

@[simp] theorem mvC_k {i j : Nat} {ρ : Env} {xs : List (D × D)} : mvC i j ρ (some (some (.k xs))) = some (.nx ((ρ.set j none).set i (some (.k xs)))) := rfl
def fkC (i : Nat) (is : List Nat) (G : D → Env → Option Env) (fb : Env → Option Out) (ρ : Env) : Option (Option Cell) → Option Out
  | some (some (.k ks)) => (match loopL G fb (keysD ks) (ρ.set i none) with
    | none => none
    | some (.ex _) => none
    | some o => some (o.drop is))
  | _ => none
@[simp] theorem ev_forK {i : Nat} {is : List Nat} {G : D → Env → Option Env} {fb : Env → Option Out} {ρ : Env} : forKS i is G fb ρ = fkC i is G fb ρ ρ[i]? := by
  unfold forKS fkC
  generalize ρ[i]? = o
  rcases o with _ | _ | c <;> first | rfl | (cases c <;> rfl)
theorem fkC_k {i : Nat} {is : List Nat} {G : D → Env → Option Env} {fb : Env → Option Out} {ρ ρ' : Env} {kl : List Nat} (h : loopL G fb (kl.map fun n => .int (n : Nat)) (ρ.set i none) = some (.nx ρ')) : fkC i is G fb ρ (some (some (.k (keysN kl)))) = some ((Out.nx ρ').drop is) := by
  have e : keysD (keysN kl) = kl.map fun n => .int (n : Nat) := by simp [keysD, keysN, Function.comp_def]
  unfold fkC
  simp only [e, h]
/-! ### furthest: what is done, step by step -/
def stp (x : Tx) (fr : Bool) (h : Nat) (st : Nat × List Nat) (p : Pr) : Nat × List Nat :=
  (max st.1 (h + laidT fr (x.drop h) p.2), if laidT fr (x.drop h) p.2 = p.2.length then addN st.2 (h + laidT fr (x.drop h) p.2) else st.2)
def stpH (x : Tx) (fr : Bool) (ps : List Pr) (st : Nat × List Nat) (h : Nat) : Nat × List Nat := ps.foldl (stp x fr h) st
def stpP (x : Tx) (fr : Bool) (ps : List Pr) (st : Nat × List Nat) : Nat × List Nat := st.2.foldl (stpH x fr ps) (st.1, [])
structure Good (x : Tx) (st : Nat × List Nat) : Prop where
  nd : st.2.Nodup
  le : ∀ z ∈ st.2, z ≤ x.length
  top : st.1 ≤ x.length
theorem Good.len {x : Tx} {st : Nat × List Nat} (h : Good x st) : st.2.length ≤ x.length + 1 := nodup_bound _ _ h.nd fun z hz => by have := h.le z hz; omega
theorem stp_good {x : Tx} {fr : Bool} {h : Nat} {st : Nat × List Nat} {p : Pr} (hh : h ≤ x.length) (g : Good x st) : Good x (stp x fr h st p) := by
  have l := (laid_le fr (x.drop h) p.2).1
  rw [List.length_drop] at l
  obtain ⟨q1, q2, q3⟩ := addN_ok g.nd (h + laidT fr (x.drop h) p.2)
  unfold stp
  refine ⟨?_, ?_, ?_⟩
  · simp only; split
    · exact q1
    · exact g.nd
  · intro z hz
    simp only at hz
    split at hz
    · rcases (q2 z).mp hz with y | y
      · exact g.le z y
      · omega
    · exact g.le z hz
  · have := g.top
    simp only; omega
theorem stpH_good {x : Tx} {fr : Bool} {h : Nat} (hh : h ≤ x.length) : ∀ (ps : List Pr) {st : Nat × List Nat}, Good x st → Good x (stpH x fr ps st h)
  | [], _, g => g
  | p :: ps, _, g => stpH_good hh ps (stp_good hh g)
theorem stpHs_good {x : Tx} {fr : Bool} {ps : List Pr} : ∀ (hs : List Nat) {st : Nat × List Nat}, (∀ h ∈ hs, h ≤ x.length) → Good x st → Good x (hs.foldl (stpH x fr ps) st)
  | [], _, _, g => g
  | h :: hs, _, hh, g => stpHs_good hs (fun z hz => hh z (List.mem_cons_of_mem _ hz)) (stpH_good (hh h (List.mem_cons_self ..)) ps g)
theorem stpP_good {x : Tx} {fr : Bool} {ps : List Pr} {st : Nat × List Nat} (g : Good x st) : Good x (stpP x fr ps st) := stpHs_good _ g.le ⟨by simp, by simp, g.top⟩
theorem max2_nat {i j : Nat} : max2D [.int (i : Nat), .int (j : Nat)] = some (.int (max i j : Nat)) := by
  show some (D.int (if (j : Int) > (i : Int) then (j : Int) else (i : Int))) = _
  have : (if (j : Int) > (i : Int) then (j : Int) else (i : Int)) = ((max i j : Nat) : Int) := by split <;> omega
  rw [this]
theorem m_far_L1 {x : Tx} (hx : okT x = true) (lx : x.length ≤ 1000) {fr : Bool} {h : Nat} (hh : h ≤ x.length) {st : Nat × List Nat} (g : Good x st) {p : Pr} (hp : formOk p.2) (t m ln : D) (c5 c6 : Option Cell) (c7 : D) (c13 : Option Cell) :
    b_furthest_L1 [some (.d t), some (.d m), some (.d ln), some (.d (.str x)), some (.d (.int (st.1 : Nat))), c5, c6, some (.d c7), some (.d (.bl fr)), some (.k (keysN st.2)), some (.d (.int (h : Nat))), some (.d (.str p.1)), some (.d (.str p.2)), c13] =
    some (.nx [some (.d t), some (.d m), some (.d ln), some (.d (.str x)), some (.d (.int ((stp x fr h st p).1 : Nat))), c5, c6, some (.d c7), some (.d (.bl fr)), some (.k (keysN (stp x fr h st p).2)), some (.d (.int (h : Nat))), some (.d (.str p.1)), some (.d (.str p.2)), some (.d (.int (laidT fr (x.drop h) p.2 : Nat)))]) := by
  obtain ⟨f1, f2, f3⟩ := hp
  have mp := m_laid_part (okT_from hx h) (okT_ls f3) (by rw [List.length_drop]; omega) (show p.2.length ≤ 1000 by omega) fr
  have s2 : cutL x (some (h : Int)) none = x.drop h := cutL_drop x h
  have l1 : x.length ≤ LIM := lim_lit (by omega)
  have l2 : p.2.length ≤ LIM := lim_lit (by omega)
  have lk := g.len
  have lk' : (keysN st.2).length < LIM := lim_lt (by simp [keysN]; omega)
  have pk := putN_keys st.2 (h + laidT fr (x.drop h) p.2)
  have mx := max2_nat (i := st.1) (j := h + laidT fr (x.drop h) p.2)
  unfold stp
  generalize laidT fr (x.drop h) p.2 = L at *
  rw [Int.natCast_add] at mx pk
  by_cases e : L = p.2.length
  · subst e
    have q : eqD (.int (p.2.length : Nat)) (.int (p.2.length : Nat)) = some (.bl true) := by rw [eqD_int]; simp
    simp [b_furthest_L1, mp, s2, l1, l2, mx, lk', pk, q]
  · have q : eqD (.int (L : Nat)) (.int (p.2.length : Nat)) = some (.bl false) := by rw [eqD_int]; simp; omega
    simp [b_furthest_L1, mp, s2, l1, l2, mx, lk', pk, q, e]
theorem m_far_L2 {t : List Foot} (ht : TongueOk t) {pl : List Tx} (hpl : plOk t pl) {x : Tx} (hx : okT x = true) (lx : x.length ≤ 1000) {fr : Bool} {h : Nat} (hh : h ≤ x.length) {st : Nat × List Nat} (g : Good x st) (m ln : D) (c5 c6 c11 c12 c13 : Option Cell) :
    ∃ c13', b_furthest_L2 [some (.d (eT t)), some (.d m), some (.d ln), some (.d (.str x)), some (.d (.int (st.1 : Nat))), c5, c6, some (.d (eS pl)), some (.d (.bl fr)), some (.k (keysN st.2)), some (.d (.int (h : Nat))), c11, c12, c13] =
    some (.nx [some (.d (eT t)), some (.d m), some (.d ln), some (.d (.str x)), some (.d (.int ((stpH x fr (pairsT t pl) st h).1 : Nat))), c5, c6, some (.d (eS pl)), some (.d (.bl fr)), some (.k (keysN (stpH x fr (pairsT t pl) st h).2)), some (.d (.int (h : Nat))), none, none, c13']) := by
  have mp := m_pairs_of ht hpl.2 (by have := hpl.1; omega)
  obtain ⟨ρ', e, c11', c12', c13', rfl, _⟩ := loop_pre (G := toTup 2 (toCons (toS 11) (toCons (toS 12) toNil))) (fb := b_furthest_L1) ePr (fun dn ρ => ∃ c11 c12 c13, ρ = [some (.d (eT t)), some (.d m), some (.d ln), some (.d (.str x)), some (.d (.int ((stpH x fr dn st h).1 : Nat))), c5, c6, some (.d (eS pl)), some (.d (.bl fr)), some (.k (keysN (stpH x fr dn st h).2)), some (.d (.int (h : Nat))), c11, c12, c13] ∧ Good x (stpH x fr dn st h)) (pairsT t pl)
    (ρ := [some (.d (eT t)), some (.d m), some (.d ln), some (.d (.str x)), some (.d (.int (st.1 : Nat))), c5, c6, some (.d (eS pl)), some (.d (.bl fr)), some (.k (keysN st.2)), some (.d (.int (h : Nat))), c11, c12, c13]) ⟨c11, c12, c13, rfl, g⟩ fun dn p rs ρ e ⟨c11, c12, c13, z, g2⟩ => by
      subst z
      have hp := (pairs_form ht hpl.2 p (by rw [e]; simp)).2.2
      have q := m_far_L1 hx lx (fr := fr) hh g2 hp (eT t) m ln c5 c6 (eS pl) c13
      have e2 : stpH x fr (dn ++ [p]) st h = stp x fr h (stpH x fr dn st h) p := by unfold stpH; rw [List.foldl_append]; rfl
      rw [e2]
      exact ⟨_, _, rfl, q, _, _, _, rfl, stp_good hh g2⟩
  exact ⟨c13', by simp [b_furthest_L2, mp, e]⟩
theorem m_far_L3 {t : List Foot} (ht : TongueOk t) {m : Meas} (hn : m.pl.length ≤ 7) {pl : List Tx} (hpl : plOk t pl) {x : Tx} (hx : okT x = true) (lx : x.length ≤ 1000) {st : Nat × List Nat} (g : Good x st) (i : Nat) (ln : D) (c8 c10 c13 : Option Cell) :
    ∃ c8' c13', b_furthest_L3 [some (.d (eT t)), some (.d (eM m)), some (.d ln), some (.d (.str x)), some (.d (.int (st.1 : Nat))), some (.k (keysN st.2)), some (.d (.int (i : Nat))), some (.d (eS pl)), c8, none, c10, none, none, c13] =
    some (.nx [some (.d (eT t)), some (.d (eM m)), some (.d ln), some (.d (.str x)), some (.d (.int ((stpP x (m.lo && decide (i + 1 = m.pl.length)) (pairsT t pl) st).1 : Nat))), some (.k (keysN (stpP x (m.lo && decide (i + 1 = m.pl.length)) (pairsT t pl) st).2)), some (.d (.int (i : Nat))), some (.d (eS pl)), c8', none, none, none, none, c13']) := by
  generalize hfr : (m.lo && decide (i + 1 = m.pl.length)) = fr
  have q8 : andV (bin ixD (getW 1) (cst (.int 2))) (bin eqD (getW 6) (bin subD (callE lenD (consA (bin ixD (getW 1) (cst (.int 0))) nilA)) (cst (.int 1)))) [some (.d (eT t)), some (.d (eM m)), some (.d ln), some (.d (.str x)), some (.d (.int (st.1 : Nat))), some (.k (keysN st.2)), some (.d (.int (i : Nat))), some (.d (eS pl)), c8, none, c10, none, none, c13] = some (.bl fr) := by
    have l0 : m.pl.length ≤ LIM := lim_lit (by omega)
    have q : eqD (.int (i : Nat)) (.int ((m.pl.length : Int) - 1)) = some (.bl (decide (i + 1 = m.pl.length))) := by
      rw [eqD_int]
      have : ((i : Int) = (m.pl.length : Int) - 1) ↔ i + 1 = m.pl.length := by omega
      simp [this]
    rw [← hfr]
    cases hlo : m.lo with
    | false => simp [hlo]
    | true => simp [hlo, q, l0]
  obtain ⟨ρ', e, c10', c13', rfl, _⟩ := loop_pre (G := toS 10) (fb := b_furthest_L2) (fun n : Nat => D.int (n : Nat)) (fun dn ρ => ∃ c10 c13, ρ = [some (.d (eT t)), some (.d (eM m)), some (.d ln), some (.d (.str x)), some (.d (.int ((dn.foldl (stpH x fr (pairsT t pl)) (st.1, [])).1 : Nat))), none, some (.d (.int (i : Nat))), some (.d (eS pl)), some (.d (.bl fr)), some (.k (keysN (dn.foldl (stpH x fr (pairsT t pl)) (st.1, [])).2)), c10, none, none, c13] ∧ Good x (dn.foldl (stpH x fr (pairsT t pl)) (st.1, []))) st.2
    (ρ := [some (.d (eT t)), some (.d (eM m)), some (.d ln), some (.d (.str x)), some (.d (.int (st.1 : Nat))), none, some (.d (.int (i : Nat))), some (.d (eS pl)), some (.d (.bl fr)), some (.k []), c10, none, none, c13]) ⟨c10, c13, rfl, ⟨by simp, by simp, g.top⟩⟩ fun dn h rs ρ e ⟨c10, c13, z, g2⟩ => by
      subst z
      have hh : h ≤ x.length := g.le h (by rw [e]; simp)
      obtain ⟨c13', q⟩ := m_far_L2 ht hpl hx lx (fr := fr) hh g2 (eM m) ln none (some (.d (.int (i : Nat)))) none none c13
      rw [List.foldl_append]
      exact ⟨_, _, rfl, q, _, _, rfl, stpH_good hh _ g2⟩
  have q2 := fkC_k (i := 5) (is := [10]) (ρ := [some (.d (eT t)), some (.d (eM m)), some (.d ln), some (.d (.str x)), some (.d (.int (st.1 : Nat))), some (.k (keysN st.2)), some (.d (.int (i : Nat))), some (.d (eS pl)), some (.d (.bl fr)), some (.k []), c10, none, none, c13]) e
  refine ⟨some (.d (.bl fr)), c13', ?_⟩
  unfold b_furthest_L3
  refine seqN (ρ' := [some (.d (eT t)), some (.d (eM m)), some (.d ln), some (.d (.str x)), some (.d (.int (st.1 : Nat))), some (.k (keysN st.2)), some (.d (.int (i : Nat))), some (.d (eS pl)), some (.d (.bl fr)), none, c10, none, none, c13]) (by simp only [ev_asg, q8]; rfl) ?_
  simp [q2, Cell.own]
  unfold stpP
  exact ⟨rfl, rfl⟩
end Fo
end
-- FoM37.lean
set_option Elab.async false
set_option linter.all false
set_option maxRecDepth 100000
set_option maxHeartbeats 4000000
noncomputable section
namespace Fo
open PySem L2

theorem enum_map {α : Type} (enc : α → D) (xs : List α) : enumL (xs.map enc) = (xs.mapIdx fun i c => (i, c)).map fun p : Nat × α => D.tup [.int (p.1 : Nat), enc p.2] := by
  unfold enumL
  apply List.ext_getElem?
  intro i
  simp only [List.getElem?_mapIdx, List.getElem?_map]
  cases xs[i]? <;> rfl
def farS (t : List Foot) (m : Meas) (x : Tx) (dn : List (Nat × List Tx)) : Nat × List Nat := dn.foldl (fun st q => stpP x (m.lo && decide (q.1 + 1 = m.pl.length)) (pairsT t q.2) st) (0, [0])
def farT (t : List Foot) (m : Meas) (x : Tx) : Nat := (farS t m x (m.pl.mapIdx fun i c => (i, c))).1
theorem m_furthest {t : List Foot} (ht : TongueOk t) {m : Meas} (hm : MP t m) (hn : m.pl.length ≤ 7) {ln : List Tx} (hl : LineOk ln) : G_furthest [eT t, eM m, eS ln] = some (.int (farT t m ln.flatten : Nat)) := by
  have ms := m_signs hl.wl hl.le
  have hx := hl.okt
  have lx := hl.fl
  unfold farT
  generalize ln.flatten = x at *
  obtain ⟨ρ', e, c6, c7, c8, c10, c13, rfl, _⟩ := loop_pre (G := toTup 2 (toCons (toS 6) (toCons (toS 7) toNil))) (fb := b_furthest_L3) (fun p : Nat × List Tx => D.tup [.int (p.1 : Nat), eS p.2]) (fun dn ρ => ∃ c6 c7 c8 c10 c13, ρ = [some (.d (eT t)), some (.d (eM m)), some (.d (eS ln)), some (.d (.str x)), some (.d (.int ((farS t m x dn).1 : Nat))), some (.k (keysN (farS t m x dn).2)), c6, c7, c8, none, c10, none, none, c13] ∧ Good x (farS t m x dn)) (m.pl.mapIdx fun i c => (i, c))
    (ρ := [some (.d (eT t)), some (.d (eM m)), some (.d (eS ln)), some (.d (.str x)), some (.d (.int ((0 : Nat) : Int))), some (.k (keysN [0])), none, none, none, none, none, none, none, none]) ⟨none, none, none, none, none, rfl, ⟨by simp [farS], by simp [farS], by simp [farS]⟩⟩ fun dn q rs ρ e ⟨c6, c7, c8, c10, c13, z, g⟩ => by
      subst z
      have hq : q.2 ∈ m.pl := by
        have : q ∈ m.pl.mapIdx fun i c => (i, c) := by rw [e]; simp
        obtain ⟨i, hi, rfl⟩ := List.mem_mapIdx.mp this
        exact List.getElem_mem ..
      obtain ⟨c8', c13', f⟩ := m_far_L3 ht hn (hm.po q.2 hq) hx lx g q.1 (eS ln) c8 c10 c13
      have e2 : farS t m x (dn ++ [q]) = stpP x (m.lo && decide (q.1 + 1 = m.pl.length)) (pairsT t q.2) (farS t m x dn) := by unfold farS; rw [List.foldl_append]; rfl
      rw [e2]
      exact ⟨_, _, rfl, f, _, _, _, _, _, rfl, stpP_good g⟩
  have z0 : ((0 : Nat) : Int) = 0 := rfl
  have k0 : keysN [0] = [(.int 0, .bl true)] := rfl
  rw [z0, k0, ← enum_map] at e
  have ke : (keyOf (.int 0)).isSome = true := rfl
  simp [-List.map_map, G_furthest, runF_eq, b_furthest, ms, enumI, seqZ, itemsZ, e, oneKS, ke]

/-! ### what furthest tells -/
def conT (x : Tx) (fr : Bool) (q : Nat × Pr) : Nat := q.1 + laidT fr (x.drop q.1) q.2.2
def stq (x : Tx) (fr : Bool) (st : Nat × List Nat) (q : Nat × Pr) : Nat × List Nat := stp x fr q.1 st q.2
theorem stp_flat (x : Tx) (fr : Bool) (ps : List Pr) : ∀ (hs : List Nat) (st : Nat × List Nat), hs.foldl (stpH x fr ps) st = (hs.flatMap fun h => ps.map fun p => (h, p)).foldl (stq x fr) st
  | [], st => rfl
  | h :: hs, st => by
    rw [List.foldl_cons, List.flatMap_cons, List.foldl_append, stp_flat x fr ps hs]
    congr 1
    unfold stpH stq
    rw [List.foldl_map]
theorem addN_mem (kl : List Nat) (x z : Nat) : z ∈ addN kl x ↔ z ∈ kl ∨ z = x := by
  unfold addN
  split
  · rename_i h
    exact ⟨.inl, fun q => q.elim id fun e => e ▸ h⟩
  · simp
theorem stq_spec (x : Tx) (fr : Bool) : ∀ (L : List (Nat × Pr)) (st : Nat × List Nat), st.1 ≤ (L.foldl (stq x fr) st).1 ∧ (∀ q ∈ L, conT x fr q ≤ (L.foldl (stq x fr) st).1) ∧ ((L.foldl (stq x fr) st).1 = st.1 ∨ ∃ q ∈ L, (L.foldl (stq x fr) st).1 = conT x fr q) ∧
    ∀ z, z ∈ (L.foldl (stq x fr) st).2 ↔ z ∈ st.2 ∨ ∃ q ∈ L, laidT fr (x.drop q.1) q.2.2 = q.2.2.length ∧ z = conT x fr q
  | [], st => ⟨Nat.le_refl _, by simp, .inl rfl, by simp⟩
  | q :: L, st => by
    obtain ⟨h1, h2, h3, h4⟩ := stq_spec x fr L (stq x fr st q)
    have e1 : (stq x fr st q).1 = max st.1 (conT x fr q) := rfl
    have e2 : ∀ z, z ∈ (stq x fr st q).2 ↔ z ∈ st.2 ∨ (laidT fr (x.drop q.1) q.2.2 = q.2.2.length ∧ z = conT x fr q) := by
      intro z
      show z ∈ (if _ then _ else _) ↔ _
      split
      · rename_i h
        rw [addN_mem]
        exact ⟨fun y => y.imp id fun y => ⟨h, y⟩, fun y => y.imp id fun y => y.2⟩
      · rename_i h
        exact ⟨.inl, fun y => y.elim id fun y => absurd y.1 h⟩
    rw [List.foldl_cons]
    rw [e1] at h1 h3
    refine ⟨by omega, fun p hp => ?_, ?_, fun z => ?_⟩
    · rcases List.mem_cons.mp hp with rfl | hp
      · omega
      · exact h2 p hp
    · rcases h3 with h3 | ⟨p, hp, h3⟩
      · rw [h3]
        by_cases hle : conT x fr q ≤ st.1
        · exact .inl (by omega)
        · exact .inr ⟨q, List.mem_cons_self .., by omega⟩
      · exact .inr ⟨p, List.mem_cons_of_mem _ hp, h3⟩
    · rw [h4, e2, or_assoc]
      refine or_congr_right ⟨?_, ?_⟩
      · rintro (y | ⟨p, hp, y⟩)
        · exact ⟨q, List.mem_cons_self .., y⟩
        · exact ⟨p, List.mem_cons_of_mem _ hp, y⟩
      · rintro ⟨p, hp, y⟩
        rcases List.mem_cons.mp hp with rfl | hp
        · exact .inl y
        · exact .inr ⟨p, hp, y⟩
/-- as far as the best of these rows -/
structure BestOf (fr : Bool) (x : Tx) (rows : List Row) (v : Nat) : Prop where
  le : ∀ r ∈ rows, laidT fr x (shapeOf r) ≤ v
  ex : ∃ r ∈ rows, laidT fr x (shapeOf r) = v
def FarIn (x : Tx) (rows : List Row) (S : List Nat) : Prop := ∀ z, z ∈ S ↔ ∃ r ∈ rows, preB x (shapeOf r) = true ∧ (shapeOf r).length = z
theorem far_step {t : List Foot} (ht : TongueOk t) {x : Tx} {pl : List Tx} (hp : plOk t pl) (ne : pairsT t pl ≠ []) {rows : List Row} {st : Nat × List Nat} (b : BestOf false x rows st.1) (f : FarIn x rows st.2) (fr : Bool) :
    BestOf fr x (rowStep t rows pl) (stpP x fr (pairsT t pl) st).1 ∧ (fr = false → FarIn x (rowStep t rows pl) (stpP x fr (pairsT t pl) st).2) := by
  unfold stpP
  rw [stp_flat]
  obtain ⟨h1, h2, h3, h4⟩ := stq_spec x fr (st.2.flatMap fun h => (pairsT t pl).map fun p => (h, p)) (st.1, [])
  generalize (st.2.flatMap fun h => (pairsT t pl).map fun p => (h, p)).foldl (stq x fr) (st.1, []) = res at *
  have mL : ∀ q : Nat × Pr, q ∈ (st.2.flatMap fun h => (pairsT t pl).map fun p => (h, p)) ↔ q.1 ∈ st.2 ∧ q.2 ∈ pairsT t pl := by
    intro q
    simp only [List.mem_flatMap, List.mem_map]
    constructor
    · rintro ⟨a, ha, p, hp, rfl⟩; exact ⟨ha, hp⟩
    · rintro ⟨a, b⟩; exact ⟨q.1, a, q.2, b, rfl⟩
  have nf : ∀ p ∈ pairsT t pl, p.2 ≠ [] := fun p hpp z => by
    have := (pairs_form ht hp.2 p hpp).2.2.1
    rw [z] at this; simp at this
  have up : ∀ r ∈ rows, ∀ p ∈ pairsT t pl, laidT fr x (shapeOf (r ++ [p])) = if preB x (shapeOf r) = true then conT x fr ((shapeOf r).length, p) else laidT false x (shapeOf r) := fun r hr p hpp => by
    rw [shape_snoc, laid_app fr x _ _ (nf p hpp)]
    rfl
  simp only at h1 h3
  refine ⟨⟨fun r hr => ?_, ?_⟩, fun hfr z => ?_⟩
  · obtain ⟨r0, hr0, p, hpp, rfl⟩ := mem_step.mp hr
    rw [up r0 hr0 p hpp]
    split
    · rename_i hb
      exact h2 _ ((mL _).mpr ⟨(f _).mpr ⟨r0, hr0, hb, rfl⟩, hpp⟩)
    · have := b.le r0 hr0; omega
  · rcases h3 with h3 | ⟨q, hq, h3⟩
    · obtain ⟨r0, hr0, e0⟩ := b.ex
      obtain ⟨p, hpp⟩ := List.exists_mem_of_ne_nil _ ne
      refine ⟨r0 ++ [p], mem_step.mpr ⟨r0, hr0, p, hpp, rfl⟩, ?_⟩
      rw [up r0 hr0 p hpp]
      split
      · rename_i hb
        have q1 := h2 ((shapeOf r0).length, p) ((mL _).mpr ⟨(f _).mpr ⟨r0, hr0, hb, rfl⟩, hpp⟩)
        have q2 := (laid_pre x (shapeOf r0)).mpr hb
        have q3 : (shapeOf r0).length ≤ conT x fr ((shapeOf r0).length, p) := Nat.le_add_right _ _
        omega
      · omega
    · obtain ⟨a1, a2⟩ := (mL q).mp hq
      obtain ⟨r0, hr0, hb, hz⟩ := (f q.1).mp a1
      refine ⟨r0 ++ [q.2], mem_step.mpr ⟨r0, hr0, q.2, a2, rfl⟩, ?_⟩
      rw [up r0 hr0 q.2 a2, if_pos hb, h3, hz]
  · subst hfr
    rw [h4]
    have key : ∀ r0 ∈ rows, ∀ p ∈ pairsT t pl, preB x (shapeOf (r0 ++ [p])) = true ↔ preB x (shapeOf r0) = true ∧ laidT false (x.drop (shapeOf r0).length) p.2 = p.2.length := fun r0 hr0 p hpp => by
      rw [← laid_pre, up r0 hr0 p hpp, shape_snoc, List.length_append]
      have l0 := (laid_le false x (shapeOf r0)).2
      have lp : 0 < p.2.length := List.length_pos_iff.mpr (nf p hpp)
      split
      · rename_i hb
        unfold conT
        exact ⟨fun z => ⟨hb, by simp only at z; omega⟩, fun z => by simp only; omega⟩
      · rename_i hb
        exact ⟨fun z => by omega, fun z => absurd z.1 hb⟩
    constructor
    · rintro (z0 | ⟨q, hq, e, ez⟩)
      · simp at z0
      · obtain ⟨a1, a2⟩ := (mL q).mp hq
        obtain ⟨r0, hr0, hb, hz⟩ := (f q.1).mp a1
        refine ⟨r0 ++ [q.2], mem_step.mpr ⟨r0, hr0, q.2, a2, rfl⟩, (key r0 hr0 q.2 a2).mpr ⟨hb, by rw [hz]; exact e⟩, ?_⟩
        rw [shape_snoc, List.length_append, ez, hz]
        unfold conT
        rw [e]
    · rintro ⟨r, hr, hb, hz⟩
      obtain ⟨r0, hr0, p, hpp, rfl⟩ := mem_step.mp hr
      obtain ⟨k1, k2⟩ := (key r0 hr0 p hpp).mp hb
      refine .inr ⟨((shapeOf r0).length, p), (mL _).mpr ⟨(f _).mpr ⟨r0, hr0, k1, rfl⟩, hpp⟩, k2, ?_⟩
      rw [← hz, shape_snoc, List.length_append]
      unfold conT
      simp only
      omega
theorem far_pre {t : List Foot} (ht : TongueOk t) {m : Meas} (x : Tx) : ∀ (n : Nat) (dn : List (List Tx)), dn.length = n → (∀ pl ∈ dn, placeOk t pl) → (dn.length < m.pl.length ∨ m.lo = false) → BestOf false x (rowsT t dn) (farS t m x (dn.mapIdx fun i c => (i, c))).1 ∧ FarIn x (rowsT t dn) (farS t m x (dn.mapIdx fun i c => (i, c))).2 := fun n => by
  induction n with
  | zero =>
    intro dn ld _ _
    have : dn = [] := List.length_eq_zero_iff.mp ld
    subst this
    refine ⟨⟨fun r hr => ?_, [], by simp [rowsT], by show laidT false x [] = _; rw [laid_nil2]; rfl⟩, fun z => ?_⟩
    · have : r = [] := by simpa [rowsT] using hr
      subst this
      show laidT false x [] ≤ _
      rw [laid_nil2]; exact Nat.zero_le _
    · have pn : preB x [] = true := by simp [preB, agT]
      constructor
      · intro h
        have : z = 0 := by simpa [farS] using h
        exact ⟨[], by simp [rowsT], pn, this.symm⟩
      · rintro ⟨r, hr, _, e⟩
        have : r = [] := by simpa [rowsT] using hr
        subst this
        have : z = 0 := e.symm
        simp [farS, this]
  | succ n ih =>
    intro dn1 ld hp hl
    rcases List.eq_nil_or_concat dn1 with h | ⟨dn, pl, h⟩
    · subst h; simp at ld
    rw [List.concat_eq_append] at h
    subst h
    have hl' : dn.length < m.pl.length ∨ m.lo = false := hl.imp (fun h => by simp at h; omega) id
    obtain ⟨b, f⟩ := ih dn (by simpa using ld) (fun z hz => hp z (by simp [hz])) hl'
    have hpl := hp pl (by simp)
    have fr : (m.lo && decide (dn.length + 1 = m.pl.length)) = false := by
      rcases hl with h | h
      · have : ¬ (dn.length + 1 = m.pl.length) := by simp at h; omega
        simp [this]
      · simp [h]
    have q := far_step ht (x := x) hpl.pl (pairs_ne ht hpl) b f false
    rw [List.mapIdx_concat, rows_snoc]
    have e2 : farS t m x (dn.mapIdx (fun i c => (i, c)) ++ [(dn.length, pl)]) = stpP x (m.lo && decide (dn.length + 1 = m.pl.length)) (pairsT t pl) (farS t m x (dn.mapIdx fun i c => (i, c))) := by unfold farS; rw [List.foldl_append]; rfl
    rw [e2, fr]
    exact ⟨q.1, q.2 rfl⟩
theorem far_best {t : List Foot} (ht : TongueOk t) {m : Meas} (hm : MP t m) (x : Tx) : BestOf m.lo x (rowsT t m.pl) (farT t m x) := by
  unfold farT
  rcases List.eq_nil_or_concat m.pl with h | ⟨dn, pl, h⟩
  · rw [h]
    refine ⟨fun r hr => ?_, [], by simp [rowsT], by show laidT m.lo x [] = _; rw [laid_nil2]; rfl⟩
    have : r = [] := by simpa [rowsT] using hr
    subst this
    show laidT m.lo x [] ≤ _
    rw [laid_nil2]; exact Nat.zero_le _
  · rw [List.concat_eq_append] at h
    have hpl := hm.pl pl (by rw [h]; simp)
    obtain ⟨b, f⟩ := far_pre ht (m := m) x _ dn rfl (fun z hz => hm.pl z (by rw [h]; simp [hz])) (.inl (by rw [h]; simp))
    have q := far_step ht (x := x) hpl.pl (pairs_ne ht hpl) b f m.lo
    have e2 : farS t m x (dn.mapIdx (fun i c => (i, c)) ++ [(dn.length, pl)]) = stpP x (m.lo && decide (dn.length + 1 = m.pl.length)) (pairsT t pl) (farS t m x (dn.mapIdx fun i c => (i, c))) := by unfold farS; rw [List.foldl_append]; rfl
    have e3 : (m.lo && decide (dn.length + 1 = m.pl.length)) = m.lo := by rw [h]; simp
    rw [e3] at e2
    rw [h, List.mapIdx_concat, rows_snoc, e2]
    exact q.1
theorem BestOf.uniq {fr : Bool} {x : Tx} {rows : List Row} {v w : Nat} (a : BestOf fr x rows v) (b : BestOf fr x rows w) : v = w := by
  obtain ⟨r, hr, e⟩ := a.ex
  obtain ⟨r2, hr2, e2⟩ := b.ex
  have := b.le r hr
  have := a.le r2 hr2
  omega
theorem far_le {t : List Foot} (ht : TongueOk t) {m : Meas} (hm : MP t m) (x : Tx) : farT t m x ≤ x.length := by
  obtain ⟨r, hr, e⟩ := (far_best ht hm x).ex
  have := (laid_le m.lo x (shapeOf r)).1
  omega
/-! ### max of a list -/
theorem maxI_nat : ∀ (ns : List Nat) (n : Nat), ∃ v, maxI (n : Int) (ns.map fun k : Nat => (k : Int)) = (v : Nat) ∧ v ∈ n :: ns ∧ ∀ k ∈ n :: ns, k ≤ v
  | [], n => ⟨n, rfl, by simp, by simp⟩
  | k :: ns, n => by
    obtain ⟨v, e, h1, h2⟩ := maxI_nat ns (max n k)
    have e1 : maxI (n : Int) ((k :: ns).map fun k : Nat => (k : Int)) = maxI ((max n k : Nat) : Int) (ns.map fun k : Nat => (k : Int)) := by
      unfold maxI
      rw [List.map_cons, List.foldl_cons]
      congr 1
      split <;> omega
    refine ⟨v, e1.trans e, ?_, fun z hz => ?_⟩
    · rcases List.mem_cons.mp h1 with h | h
      · rw [h]
        by_cases hk : k ≤ n
        · rw [Nat.max_eq_left hk]; simp
        · rw [Nat.max_eq_right (by omega)]; simp
      · simp [h]
    · have h3 := h2 (max n k) (List.mem_cons_self ..)
      rcases List.mem_cons.mp hz with rfl | hz
      · omega
      · rcases List.mem_cons.mp hz with rfl | hz
        · omega
        · exact h2 z (List.mem_cons_of_mem _ hz)
theorem max1_nat {ns : List Nat} (h : ns ≠ []) : ∃ v : Nat, max1D [.lst (ns.map fun k : Nat => .int (k : Nat))] = some (.int (v : Nat)) ∧ v ∈ ns ∧ ∀ k ∈ ns, k ≤ v := by
  cases ns with
  | nil => exact absurd rfl h
  | cons n ns =>
    obtain ⟨v, e, h1, h2⟩ := maxI_nat ns n
    refine ⟨v, ?_, h1, h2⟩
    have q := intsOf_map (((n :: ns).map fun k : Nat => ((k : Nat) : Int)))
    rw [List.map_map] at q
    unfold max1D
    have q' : intsOf ((n :: ns).map fun k : Nat => D.int (k : Nat)) = some ((n : Int) :: ns.map fun k : Nat => (k : Int)) := by simpa [Function.comp_def] using q
    simp only [q', e]
end Fo
end
-- FoM38.lean
set_option Elab.async false
set_option linter.all false
set_option maxRecDepth 100000
set_option maxHeartbeats 4000000
noncomputable section
namespace Fo
open PySem L2

theorem rng_cons (k n : Nat) : rng (k : Nat) (n + 1) = .int (k : Nat) :: rng ((k + 1 : Nat) : Int) n := by
  unfold rng
  rw [List.range_succ_eq_map, List.map_cons, List.map_map]
  refine congrArg₂' (by simp) (List.map_congr_left fun i _ => ?_)
  simp only [Function.comp_def]
  congr 1
  omega
where congrArg₂' {a b : D} {xs ys : List D} (h : a = b) (k : xs = ys) : a :: xs = b :: ys := by rw [h, k]
theorem drop_at {x x' : Tx} {k c : Nat} (h : x.drop k = c :: x') : x[k]? = some c ∧ x.length = k + 1 + x'.length ∧ x.drop (k + 1) = x' := by
  have h1 : x[k]? = some c := by rw [← List.head?_drop, h]; rfl
  have h2 := congrArg List.length h
  rw [List.length_drop, List.length_cons] at h2
  refine ⟨h1, by omega, ?_⟩
  rw [← List.drop_drop, h]; rfl
/-- a loop over places that ends at the first one that does not agree -/
theorem loop_laid {G : D → Env → Option Env} {fb : Env → Option Out} (I : Env → Prop) (fr : Bool) (x s : Tx)
    (H : ∀ (k c d : Nat) (x' s' : Tx) (ρ : Env), x.drop k = c :: x' → s.drop k = d :: s' → I ρ → ∃ ρ1, G (.int (k : Nat)) ρ = some ρ1 ∧ ((c = d ∨ c = 101 ∨ (fr = true ∧ x' = [] ∧ s' = [])) → ∃ ρ2, fb ρ1 = some (.nx ρ2) ∧ I ρ2) ∧ (¬(c = d ∨ c = 101 ∨ (fr = true ∧ x' = [] ∧ s' = [])) → fb ρ1 = some (.rt (.int (k : Nat))))) :
    ∀ (x' s' : Tx) (k : Nat) (ρ : Env), x.drop k = x' → s.drop k = s' → I ρ → loopL G fb (rng (k : Nat) (min s'.length x'.length)) ρ = some (.rt (.int (k + laidT fr x' s' : Nat))) ∨ ∃ ρ', loopL G fb (rng (k : Nat) (min s'.length x'.length)) ρ = some (.nx ρ') ∧ I ρ' ∧ laidT fr x' s' = min s'.length x'.length
  | [], s', k, ρ, _, _, h => .inr ⟨ρ, by simp [rng]; rfl, h, by rw [laid_nil]; simp⟩
  | c :: x', [], k, ρ, _, _, h => .inr ⟨ρ, by simp [rng]; rfl, h, by rw [laid_nil2]; simp⟩
  | c :: x', d :: s', k, ρ, e1, e2, h => by
    obtain ⟨ρ1, g1, g2, g3⟩ := H k c d x' s' ρ e1 e2 h
    rw [List.length_cons, List.length_cons, Nat.succ_min_succ, rng_cons, laid_cons]
    by_cases hc : c = d ∨ c = 101 ∨ (fr = true ∧ x' = [] ∧ s' = [])
    · obtain ⟨ρ2, g4, g5⟩ := g2 hc
      have lp : loopL G fb (.int (k : Nat) :: rng ((k + 1 : Nat) : Int) (min s'.length x'.length)) ρ = loopL G fb (rng ((k + 1 : Nat) : Int) (min s'.length x'.length)) ρ2 := by
        rw [loopL, g1]
        simp only [g4]
      rw [lp, if_pos hc]
      rcases loop_laid I fr x s H x' s' (k + 1) ρ2 (drop_at e1).2.2 (drop_at e2).2.2 g5 with q | ⟨ρ', q1, q2, q3⟩
      · exact .inl (by rw [q]; congr 4; omega)
      · exact .inr ⟨ρ', q1, q2, by rw [q3]⟩
    · rw [if_neg hc]
      refine .inl ?_
      rw [loopL, g1]
      simp only [g3 hc]
      rfl
theorem min2_nat {i j : Nat} : min2D [.int (i : Nat), .int (j : Nat)] = some (.int (min i j : Nat)) := by
  show some (D.int (if (j : Int) < (i : Int) then (j : Int) else (i : Int))) = _
  have : (if (j : Int) < (i : Int) then (j : Int) else (i : Int)) = ((min i j : Nat) : Int) := by split <;> omega
  rw [this]
theorem rg1_nat {n : Nat} (h : n ≤ 1000000) : rg1 [.int (n : Nat)] = some (rng ((0 : Nat) : Int) n) := by
  rw [rg1_int, if_pos (big_ok (lim_lit (by omega)))]
  rfl
theorem m__law_agreed {x s : Tx} (hx : okT x = true) (hs : okT s = true) (lx : x.length ≤ 1000) (ls : s.length ≤ 1000) : G__law_agreed [.str x, .str s] = some (.int (laidT false x s : Nat)) := by
  have lX : x.length ≤ LIM := lim_lit (by omega)
  have lS : s.length ≤ LIM := lim_lit (by omega)
  have rg := rg1_nat (n := min s.length x.length) (by omega)
  have mn := min2_nat (i := x.length) (j := s.length)
  rw [Nat.min_comm x.length] at mn
  have lp := loop_laid (G := toS 2) (fb := b__law_agreed_L1) (fun ρ => ∃ c2, ρ = [some (.d (.str x)), some (.d (.str s)), c2]) false x s (fun k c d x' s' ρ e1 e2 ⟨c2, z⟩ => by
    subst z
    obtain ⟨a1, a2, _⟩ := drop_at e1
    obtain ⟨b1, b2, _⟩ := drop_at e2
    have t1 : atI x (k : Int) = some c := atI_nat a1
    have t2 : atI s (k : Int) = some d := atI_nat b1
    have ni := nin_of (in_two (okT_sub hx (List.mem_of_getElem? a1)) (okT_sub hs (List.mem_of_getElem? b1)))
    refine ⟨[some (.d (.str x)), some (.d (.str s)), some (.d (.int (k : Nat)))], rfl, fun h => ?_, fun h => ?_⟩
    · have h' : c = d ∨ c = 101 := by simpa using h
      have hb : (decide (c = d) || decide (c = 101)) = true := by simpa using h'
      rw [hb] at ni
      exact ⟨[some (.d (.str x)), some (.d (.str s)), some (.d (.int (k : Nat)))], by simp [b__law_agreed_L1, lX, lS, t1, t2, ni], _, rfl⟩
    · have h' : ¬ (c = d ∨ c = 101) := by simpa using h
      have hb : (decide (c = d) || decide (c = 101)) = false := by
        cases hh : (decide (c = d) || decide (c = 101)) with
        | false => rfl
        | true => exact absurd (by simpa using hh) h'
      rw [hb] at ni
      simp [b__law_agreed_L1, lX, lS, t1, t2, ni]) x s 0 [some (.d (.str x)), some (.d (.str s)), none] rfl rfl ⟨_, rfl⟩
  have z0 : ((0 : Nat) : Int) = 0 := rfl
  rw [Nat.zero_add, z0] at lp
  rcases lp with e | ⟨ρ', e, ⟨c2, rfl⟩, el⟩
  · simp [G__law_agreed, runF_eq, b__law_agreed, lX, lS, mn, rg, e]
  · simp [G__law_agreed, runF_eq, b__law_agreed, lX, lS, mn, rg, e, el]
theorem m__law_laid {t : List Foot} (ht : TongueOk t) {m : Meas} (hm : MP t m) (hn : m.pl.length ≤ 7) {x : Tx} (hx : okT x = true) (lx : x.length ≤ 1000) {r : Row} (hr : r ∈ rowsT t m.pl) : G__law_laid [eM m, .str x, eR r] = some (.int (laidT m.lo x (shapeOf r) : Nat)) := by
  obtain ⟨ra, rb⟩ := row_form ht hm.po hr
  have hsr := shape_of_row ht hm.po hr
  have msh := m__law_shape r (by omega) fun p hp => by have := (ra p hp).2.2.2.1; omega
  have hs := okT_ls hsr.1
  have ls := hsr.2
  have hw : shapeOf r ≠ [] → 0 < r.length := fun h => by
    cases r with
    | nil => exact absurd rfl h
    | cons a b => simp
  generalize shapeOf r = s at *
  have lX : x.length ≤ LIM := lim_lit (by omega)
  have lS : s.length ≤ LIM := lim_lit (by omega)
  have lR : r.length ≤ LIM := lim_lit (by omega)
  have lM : m.pl.length ≤ LIM := lim_lit (by omega)
  have rg := rg1_nat (n := min s.length x.length) (by omega)
  have mn := min2_nat (i := s.length) (j := x.length)
  have lr : lenD [eR r] = some (.int (r.length : Nat)) := by simp [eR, lR]
  have w1 : eqD (.int (r.length : Nat)) (.int (m.pl.length : Nat)) = some (.bl true) := by rw [eqD_int, rb]; simp
  have lp := loop_laid (G := toS 5) (fb := b__law_laid_L1) (fun ρ => ∃ c5 c6, ρ = [some (.d (eM m)), some (.d (.str x)), some (.d (eR r)), some (.d (.str s)), some (.d (.bl (decide (0 < r.length)))), c5, c6]) m.lo x s (fun k c d x' s' ρ e1 e2 ⟨c5, c6, z⟩ => by
    subst z
    obtain ⟨a1, a2, _⟩ := drop_at e1
    obtain ⟨b1, b2, _⟩ := drop_at e2
    have hw' := hw (fun z => by rw [z, List.length_nil] at b2; omega)
    have t1 : atI x (k : Int) = some c := atI_nat a1
    have t2 : atI s (k : Int) = some d := atI_nat b1
    have ni := nin_of (in_two (okT_sub hx (List.mem_of_getElem? a1)) (okT_sub hs (List.mem_of_getElem? b1)))
    have q1 : eqD (.int (k : Nat)) (.int ((s.length : Int) - 1)) = some (.bl (decide (s' = []))) := by
      rw [eqD_int]
      have : ((k : Int) = (s.length : Int) - 1) ↔ s' = [] := by rw [← List.length_eq_zero_iff]; omega
      simp [this]
    have q2 : eqD (.int (k : Nat)) (.int ((x.length : Int) - 1)) = some (.bl (decide (x' = []))) := by
      rw [eqD_int]
      have : ((k : Int) = (x.length : Int) - 1) ↔ x' = [] := by rw [← List.length_eq_zero_iff]; omega
      simp [this]
    generalize hfr : m.lo = fr at *
    refine ⟨[some (.d (eM m)), some (.d (.str x)), some (.d (eR r)), some (.d (.str s)), some (.d (.bl (decide (0 < r.length)))), some (.d (.int (k : Nat))), c6], rfl, fun h => ?_, fun h => ?_⟩
    · by_cases h' : c = d ∨ c = 101
      · have hb : (decide (c = d) || decide (c = 101)) = true := by simpa using h'
        rw [hb] at ni
        cases fr with
        | false => exact ⟨[some (.d (eM m)), some (.d (.str x)), some (.d (eR r)), some (.d (.str s)), some (.d (.bl (decide (0 < r.length)))), some (.d (.int (k : Nat))), some (.d (.bl false))], by simp [b__law_laid_L1, lX, lS, t1, t2, ni, hfr], _, _, rfl⟩
        | true =>
          by_cases zs : s' = []
          · exact ⟨[some (.d (eM m)), some (.d (.str x)), some (.d (eR r)), some (.d (.str s)), some (.d (.bl (decide (0 < r.length)))), some (.d (.int (k : Nat))), some (.d (.bl (decide (x' = []))))], by simp [b__law_laid_L1, lX, lS, t1, t2, ni, hfr, hw', q1, q2, zs], _, _, rfl⟩
          · exact ⟨[some (.d (eM m)), some (.d (.str x)), some (.d (eR r)), some (.d (.str s)), some (.d (.bl (decide (0 < r.length)))), some (.d (.int (k : Nat))), some (.d (.bl false))], by simp [b__law_laid_L1, lX, lS, t1, t2, ni, hfr, hw', q1, q2, zs], _, _, rfl⟩
      · have hb : (decide (c = d) || decide (c = 101)) = false := by
          cases hh : (decide (c = d) || decide (c = 101)) with
          | false => rfl
          | true => exact absurd (by simpa using hh) h'
        rw [hb] at ni
        obtain ⟨z1, z2, z3⟩ : fr = true ∧ x' = [] ∧ s' = [] := by
          rcases h with z | z | z
          · exact absurd (.inl z) h'
          · exact absurd (.inr z) h'
          · exact z
        subst z1
        exact ⟨[some (.d (eM m)), some (.d (.str x)), some (.d (eR r)), some (.d (.str s)), some (.d (.bl (decide (0 < r.length)))), some (.d (.int (k : Nat))), some (.d (.bl true))], by simp [b__law_laid_L1, lX, lS, t1, t2, ni, hfr, hw', q1, q2, z2, z3], _, _, rfl⟩
    · have hb : (decide (c = d) || decide (c = 101)) = false := by
        cases hh : (decide (c = d) || decide (c = 101)) with
        | false => rfl
        | true => exact absurd (or3 (by simpa using hh)) h
      rw [hb] at ni
      cases fr with
      | false => simp [b__law_laid_L1, lX, lS, t1, t2, ni, hfr]
      | true =>
        by_cases zs : s' = []
        · have zx : x' ≠ [] := fun z => h (.inr (.inr ⟨rfl, z, zs⟩))
          simp [b__law_laid_L1, lX, lS, t1, t2, ni, hfr, hw', q1, q2, zs, zx]
        · simp [b__law_laid_L1, lX, lS, t1, t2, ni, hfr, hw', q1, q2, zs]) x s 0 [some (.d (eM m)), some (.d (.str x)), some (.d (eR r)), some (.d (.str s)), some (.d (.bl (decide (0 < r.length)))), none, none] rfl rfl ⟨_, _, rfl⟩
  have z0 : ((0 : Nat) : Int) = 0 := rfl
  rw [Nat.zero_add, z0] at lp
  have hwh : andV (bin eqD (callE lenD (consA (getW 2) nilA)) (callE lenD (consA (bin ixD (getW 0) (cst (.int 0))) nilA))) (bin gtD (callE lenD (consA (getW 2) nilA)) (cst (.int 0))) [some (.d (eM m)), some (.d (.str x)), some (.d (eR r)), some (.d (.str s)), none, none, none] = some (.bl (decide (0 < r.length))) := by
    simp [lr, lM, w1]
  rcases lp with e | ⟨ρ', e, ⟨c5, c6, rfl⟩, el⟩
  · simp [G__law_laid, runF_eq, b__law_laid, msh, lr, w1, lM, lX, lS, mn, rg, e]
  · simp [G__law_laid, runF_eq, b__law_laid, msh, lr, w1, lM, lX, lS, mn, rg, e, el]
end Fo
end
-- L23.lean
set_option Elab.async false
set_option linter.all false
set_option maxRecDepth 100000
set_option maxHeartbeats 4000000
noncomputable section
namespace Fo
open PySem L2

theorem far_take {t : List Foot} (ht : TongueOk t) {m : Meas} (hm : MP t m) (lo : m.lo = false) (x : Tx) (i : Nat) : farT t m (x.take i) = min i (farT t m x) := by
  have b1 := far_best ht hm (x.take i)
  have b2 := far_best ht hm x
  rw [lo] at b1 b2
  refine b1.uniq ⟨fun r hr => ?_, ?_⟩
  · have := b2.le r hr
    rw [laid_take]; omega
  · obtain ⟨r, hr, e⟩ := b2.ex
    exact ⟨r, hr, by rw [laid_take, e]⟩
theorem far_more {t : List Foot} (ht : TongueOk t) {a b : Meas} (ha : MP t a) (hb : MP t b) (la : a.lo = false) (lb : b.lo = false) {q : List (List Tx)} (hq : ∀ s ∈ q, placeOk t s) (e : b.pl = a.pl ++ q) (x : Tx) : farT t a x ≤ farT t b x := by
  obtain ⟨r, hr, h⟩ := (far_best ht ha x).ex
  have b2 := far_best ht hb x
  rw [la] at h
  rw [lb, e] at b2
  obtain ⟨r2, hr2⟩ := rows_ne ht (m := ⟨q, [], false⟩) ⟨hq, by simp⟩
  have q1 := b2.le (r ++ r2) (mem_rows_app.mpr ⟨r, hr, r2, hr2, rfl⟩)
  have q2 := laid_mono x (shapeOf r) (shapeOf r2)
  rw [shape_app] at q1
  omega
theorem shapes_lim {t : List Foot} (ht : TongueOk t) {m : Meas} (h : ∀ pl ∈ m.pl, plOk t pl) (hn : m.pl.length ≤ 7) : (shapesT t m).length ≤ 9565938 := by
  have r9 := rows9 ht h hn
  have h1 := flat_le (fun r => looseT (shapeOf r) m.lo) 2 (rowsT t m.pl) fun r _ => loose_len _ _
  have h2 := usort_len stoT (shapesAll t m)
  unfold shapesT
  unfold shapesAll at *
  omega
theorem law_k23 (ns : List Int) : G_law_k23 [.scr ns] = some (.bl true) := by
  obtain ⟨n0, _, e0⟩ : ∃ v : Int, 0 ≤ v ∧ G__law_mixed [.scr ns, .int 0] = some (.int v) := m_mixed ns 0
  obtain ⟨n1, h1, e1⟩ : ∃ v : Int, 0 ≤ v ∧ G__law_mixed [.scr ns, .int 1] = some (.int v) := m_mixed ns 1
  obtain ⟨n2, h2, e2⟩ : ∃ v : Int, 0 ≤ v ∧ G__law_mixed [.scr ns, .int 2] = some (.int v) := m_mixed ns 2
  obtain ⟨n3, h3, e3⟩ : ∃ v : Int, 0 ≤ v ∧ G__law_mixed [.scr ns, .int 3] = some (.int v) := m_mixed ns 3
  obtain ⟨t, et, ht⟩ := m_tongue n0
  obtain ⟨m0, em0, hm0, lm0⟩ : ∃ m, G__law_measure [eT t, .int n1, .int 4] = some (eM m) ∧ MeasOk t m ∧ m.pl.length ≤ 4 := m_measure t ht n1 4 (by omega)
  obtain ⟨o0, eo0, ho0, lo0⟩ : ∃ m, G__law_measure [eT t, .int n3, .int 2] = some (eM m) ∧ MeasOk t m ∧ m.pl.length ≤ 2 := m_measure t ht n3 2 (by omega)
  have wm := m_with_loose m0 false
  have wo := m_with_loose o0 false
  have hm : MP t ⟨m0.pl, m0.br, false⟩ := ⟨hm0.pl, hm0.br⟩
  have ho : MP t ⟨o0.pl, o0.br, false⟩ := ⟨ho0.pl, ho0.br⟩
  have bm : (Meas.mk m0.pl m0.br false).br.length ≤ 2 := hm0.bl
  have bo : (Meas.mk o0.pl o0.br false).br.length ≤ 2 := ho0.bl
  have lm : (Meas.mk m0.pl m0.br false).pl.length ≤ 4 := lm0
  have lo : (Meas.mk o0.pl o0.br false).pl.length ≤ 2 := lo0
  have am : (Meas.mk m0.pl m0.br false).lo = false := rfl
  have ao : (Meas.mk o0.pl o0.br false).lo = false := rfl
  generalize Meas.mk m0.pl m0.br false = m at *
  generalize Meas.mk o0.pl o0.br false = o at *
  obtain ⟨ln, el, hld⟩ := m__law_line ht hm.pl (by omega) n2
  have hl := hld.ok
  have hj : MP t (joined m o) := hm.joined ho
  have hfr : MP t ⟨m.pl, [], m.lo⟩ := ⟨hm.pl, by simp⟩
  have hcut : MP t (cut m (m.pl.length / 2)) := ⟨fun s hs => hm.pl s (List.mem_of_mem_take hs), fun p hp => by
    obtain ⟨q1, q2⟩ := List.mem_filter.mp hp
    have := hm.br p q1
    have q2 := of_decide_eq_true q2
    refine ⟨this.1, ?_, this.2.2⟩
    show p.1 < ((m.pl.take (m.pl.length / 2)).length : Nat)
    rw [List.length_take]; omega⟩
  have mf := m_furthest ht hm (by omega) hl
  have mfj := m_furthest ht hj (by simp [joined]; omega) hl
  have mff := m_furthest ht hfr (by simpa using (by omega : m.pl.length ≤ 7)) hl
  have mfc := m_furthest ht hcut (by simp [cut]; omega) hl
  have mfit := m_fits ht hm (by omega) hl
  have mj := m_joined m o (lim_lit (by omega)) (lim_lit (by omega))
  have mfr := m_freed m
  have mc := m_cut m (m.pl.length / 2) (lim_lit (by omega))
  have ms := m_shapes ht m hm.po (by omega)
  have js := join_eS hl.wl hl.le
  have best := far_best ht hm ln.flatten
  rw [am] at best
  have hx := hl.okt
  have lx := hl.fl
  have hfit : fitsB t m ln = true → farT t m ln.flatten = ln.flatten.length := fun h => by
    obtain ⟨r, hr, he, _⟩ := fits_iff.mp h
    rw [am] at he
    have q1 := laid_end _ _ _ he
    have q2 := best.le r hr
    have q3 := far_le ht hm ln.flatten
    omega
  have fle := far_le ht hm ln.flatten
  have ftk := fun i => far_take ht hm am ln.flatten i
  have fj : farT t m ln.flatten ≤ farT t (joined m o) ln.flatten := far_more ht hm hj am ao ho.pl rfl _
  have ff : farT t ⟨m.pl, [], m.lo⟩ ln.flatten = farT t m ln.flatten := rfl
  have fc : farT t (cut m (m.pl.length / 2)) ln.flatten ≤ farT t m ln.flatten := far_more ht hcut hm am am (q := m.pl.drop (m.pl.length / 2)) (fun s hs => hm.pl s (List.mem_of_mem_drop hs)) (List.take_append_drop ..).symm _
  rw [ff] at mff
  generalize ln.flatten = x at *
  generalize hF : farT t m x = F at *
  generalize farT t (joined m o) x = Fj at *
  generalize farT t (cut m (m.pl.length / 2)) x = Fc at *
  have lX : x.length ≤ LIM := lim_lit (by omega)
  have lX1 : (x.length : Int) + 1 = ((x.length + 1 : Nat) : Int) := rfl
  have rg := rg1_nat (n := x.length + 1) (by omega)
  have gt0 : gtD (.int (F : Nat)) (.int (x.length : Nat)) = some (.bl false) := by simp; omega
  have cond : orT (asB (bin gtD (getW 5) (callE lenD (consA (getW 4) nilA)))) (andT (asB (callN 3 G_fits (consA (getS 1) (consA (getS 2) (consA (getS 3) nilA))))) (asB (bin neD (getW 5) (callE lenD (consA (getW 4) nilA))))) [some (.d (.scr ns)), some (.d (eT t)), some (.d (eM m)), some (.d (eS ln)), some (.d (.str x)), some (.d (.int (F : Nat))), none, none, none] = some false := by
    have q2 : neD (.int (F : Nat)) (.int (x.length : Nat)) = some (.bl (!decide (F = x.length))) := by rw [neD_int]; simp; omega
    cases hf : fitsB t m ln with
    | false => rw [hf] at mfit; simp [mfit, lX, gt0]
    | true => rw [hf] at mfit; rw [decide_eq_true (hfit hf)] at q2; simp [mfit, lX, gt0, q2]
  obtain ⟨ρ', e, c6, rfl⟩ := loop_rng (G := toS 6) (fb := b_law_k23_L1) (fun i ρ => ∃ c6, ρ = [some (.d (.scr ns)), some (.d (eT t)), some (.d (eM m)), some (.d (eS ln)), some (.d (.str x)), some (.d (.int (F : Nat))), c6, none, none]) (lo := 0) (n := x.length + 1)
    (ρ := [some (.d (.scr ns)), some (.d (eT t)), some (.d (eM m)), some (.d (eS ln)), some (.d (.str x)), some (.d (.int (F : Nat))), none, none, none]) ⟨none, rfl⟩ fun i ρ hi ⟨c6, z⟩ => by
      subst z
      have ok : okT (x.take i) = true := by
        unfold okT at hx ⊢
        rw [List.all_eq_true] at hx ⊢
        exact fun c hc => hx c (List.mem_of_mem_take hc)
      have lt : (x.take i).length ≤ 1000 := by rw [List.length_take]; omega
      have mk := m_furthest ht hm (by omega) (LineOk.sng ok lt)
      rw [sng_flat, ftk i] at mk
      have lt' : (x.take i).length ≤ LIM := lim_lit (by omega)
      have s2 : cutL x none (some (i : Int)) = x.take i := by rw [cutL_take _ _ (by omega)]; rfl
      have mn := min2_nat (i := i) (j := F)
      have q1 : neD (.int ((min i F : Nat) : Int)) (.int ((min i F : Nat) : Int)) = some (.bl false) := neD_refl rfl
      refine ⟨[some (.d (.scr ns)), some (.d (eT t)), some (.d (eM m)), some (.d (eS ln)), some (.d (.str x)), some (.d (.int (F : Nat))), some (.d (.int (0 + (i : Nat)))), none, none], [some (.d (.scr ns)), some (.d (eT t)), some (.d (eM m)), some (.d (eS ln)), some (.d (.str x)), some (.d (.int (F : Nat))), some (.d (.int (0 + (i : Nat)))), none, none], rfl, ?_, _, rfl⟩
      generalize x.take i = y at *
      generalize min i F = mi at *
      simp [b_law_k23_L1, s2, lX, lt', eS_sng, mk, mn, q1]
  have lc : lcL [some (.d (.scr ns)), some (.d (eT t)), some (.d (eM m)), some (.d (eS ln)), some (.d (.str x)), some (.d (.int (F : Nat))), none, none, none] (toS 8) (fun _ => some true) b_law_k23_c2 ((shapesT t m).map .str) = some (((shapesT t m).map fun s => laidT false x s).map fun k : Nat => .int (k : Nat)) := by
    rw [List.map_map]
    refine lcL_all D.str (fun s => .int (laidT false x s : Nat)) _ fun s hs => ⟨_, rfl, ?_⟩
    obtain ⟨r, hr, rfl⟩ := (mem_shapes_plain am).mp hs
    have hsr := shape_of_row ht hm.po hr
    have := m__law_agreed hx (okT_ls hsr.1) lx (by omega)
    simp [b_law_k23_c2, this]
  have lsh := shapes_lim ht hm.po (by omega : m.pl.length ≤ 7)
  obtain ⟨v, v1, v2, v3⟩ := max1_nat (ns := 0 :: (shapesT t m).map fun s => laidT false x s) (by simp)
  have ev : F = v := by
    refine best.uniq ⟨fun r hr => v3 _ (List.mem_cons_of_mem _ (List.mem_map_of_mem (f := fun s => laidT false x s) ((mem_shapes_plain am).mpr ⟨r, hr, rfl⟩))), ?_⟩
    rcases List.mem_cons.mp v2 with z | z
    · obtain ⟨r0, hr0⟩ := rows_ne ht hm
      have := v3 _ (List.mem_cons_of_mem _ (List.mem_map_of_mem (f := fun s => laidT false x s) ((mem_shapes_plain am).mpr ⟨r0, hr0, rfl⟩)))
      exact ⟨r0, hr0, by omega⟩
    · obtain ⟨s, hs, e⟩ := List.mem_map.mp z
      obtain ⟨r, hr, rfl⟩ := (mem_shapes_plain am).mp hs
      exact ⟨r, hr, e⟩
  rw [← ev] at v1
  rw [List.map_cons] at v1
  have lL : (((shapesT t m).map fun s => laidT false x s).map fun k : Nat => D.int (k : Nat)).length = (shapesT t m).length := by rw [List.length_map, List.length_map]
  generalize ((shapesT t m).map fun s => laidT false x s).map (fun k : Nat => D.int (k : Nat)) = L at *
  have lL1 : L.length ≤ LIM := lim_lit (by omega)
  have lL2 : 1 + L.length ≤ LIM := lim_lit (by omega)
  have q1 : neD (.int (F : Nat)) (.int (F : Nat)) = some (.bl false) := neD_refl rfl
  have z0 : ((0 : Nat) : Int) = 0 := rfl
  rw [z0] at v1 rg
  have itS : itemsD (eS (shapesT t m)) = some ((shapesT t m).map .str) := rfl
  have lt1 : ltD (.int (Fj : Nat)) (.int (F : Nat)) = some (.bl false) := by simp; omega
  have le1 : leD (.int (Fc : Nat)) (.int (F : Nat)) = some (.bl true) := by simp; omega
  have mc' : G_cut [eM m, .int ((m.pl.length : Int) / 2)] = some (eM (cut m (m.pl.length / 2))) := by
    have : ((m.pl.length / 2 : Nat) : Int) = (m.pl.length : Int) / 2 := by omega
    rw [← this]; exact mc
  have lP : m.pl.length ≤ LIM := lim_lit (by omega)
  unfold G_law_k23
  rw [runF_eq]
  unfold b_law_k23
  refine seqO (by simp [e0, et]; rfl) ?_
  refine seqO (by simp [e1, em0, wm]; rfl) ?_
  refine seqO (by simp [e2, el]; rfl) ?_
  refine seqO (by simp [-List.length_flatten, js, tyD]; rfl) ?_
  refine seqO (by simp [mf]; rfl) ?_
  refine chkO cond ?_
  have rg' : rg1 [.int ((x.length : Int) + 1)] = some (rng 0 (x.length + 1)) := rg
  refine seqO (by simp [lX, rg', e]; rfl) ?_
  refine chkO (by simp [-List.map_map, ms, itS, lc, lL1, lL2, v1, q1]) ?_
  refine seqO (by simp [e3, eo0, wo]; rfl) ?_
  refine chkO (by simp [mj, mfj, lt1, mfr, mff, q1]) ?_
  simp [lP, mc', mfc, le1]
end Fo
end
-- W23.lean
set_option Elab.async false
set_option linter.all false
set_option maxRecDepth 100000
set_option maxHeartbeats 0
namespace FoW
open PySem L2 Fo
def top (i : Nat) : Stmt := PySem.Challenge.pw_footlines_k23_whole_how_far.main.body.getD i (.Pass ⟨0, 0, 0, 0⟩)
abbrev s_signs : Stmt := top 5
theorem sc_signs : FnScope ["line"] ["line"] (defScope s_signs) := ⟨rfl, rfl, rfl, by decide +kernel, rfl, by decide +kernel, by decide +kernel⟩
abbrev s_ends : Stmt := top 6
theorem sc_ends : FnScope ["line", "found", "here", "word"] ["line"] (defScope s_ends) := ⟨rfl, rfl, rfl, by decide +kernel, rfl, by decide +kernel, by decide +kernel⟩
abbrev s_forms_of : Stmt := top 7
theorem sc_forms_of : FnScope ["tongue", "name", "foot"] ["tongue", "name"] (defScope s_forms_of) := ⟨rfl, rfl, rfl, by decide +kernel, rfl, by decide +kernel, by decide +kernel⟩
abbrev s_pairs_of : Stmt := top 8
theorem sc_pairs_of : FnScope ["tongue", "place", "found", "name", "form"] ["tongue", "place"] (defScope s_pairs_of) := ⟨rfl, rfl, rfl, by decide +kernel, rfl, by decide +kernel, by decide +kernel⟩
abbrev s_agree : Stmt := top 10
theorem sc_agree : FnScope ["text", "form", "one", "other"] ["text", "form"] (defScope s_agree) := ⟨rfl, rfl, rfl, by decide +kernel, rfl, by decide +kernel, by decide +kernel⟩
abbrev s_agrees_at_end : Stmt := top 11
theorem sc_agrees_at_end : FnScope ["text", "form", "is_free"] ["text", "form", "is_free"] (defScope s_agrees_at_end) := ⟨rfl, rfl, rfl, by decide +kernel, rfl, by decide +kernel, by decide +kernel⟩
abbrev s_keeps_breaks : Stmt := top 12
theorem sc_keeps_breaks : FnScope ["measure", "way", "stops", "place", "after", "ahead", "name", "form"] ["measure", "way", "stops"] (defScope s_keeps_breaks) := ⟨rfl, rfl, rfl, by decide +kernel, rfl, by decide +kernel, by decide +kernel⟩
abbrev s_rows_for : Stmt := top 13
theorem sc_rows_for : FnScope ["tongue", "measure", "text", "places", "found", "place", "longer", "way", "here", "pair", "rows"] ["tongue", "measure", "text"] (defScope s_rows_for) := ⟨rfl, rfl, rfl, by decide +kernel, rfl, by decide +kernel, by decide +kernel⟩
abbrev s_ways : Stmt := top 14
theorem sc_ways : FnScope ["tongue", "measure", "line", "stops", "way"] ["tongue", "measure", "line"] (defScope s_ways) := ⟨rfl, rfl, rfl, by decide +kernel, rfl, by decide +kernel, by decide +kernel⟩
abbrev s_many_ways : Stmt := top 15
theorem sc_many_ways : FnScope ["tongue", "measure", "line"] ["tongue", "measure", "line"] (defScope s_many_ways) := ⟨rfl, rfl, rfl, by decide +kernel, rfl, by decide +kernel, by decide +kernel⟩
abbrev s_fits : Stmt := top 16
theorem sc_fits : FnScope ["tongue", "measure", "line"] ["tongue", "measure", "line"] (defScope s_fits) := ⟨rfl, rfl, rfl, by decide +kernel, rfl, by decide +kernel, by decide +kernel⟩
abbrev s_laid_part : Stmt := top 17
theorem sc_laid_part : FnScope ["text", "form", "is_free", "found", "at", "one", "other"] ["text", "form", "is_free"] (defScope s_laid_part) := ⟨rfl, rfl, rfl, by decide +kernel, rfl, by decide +kernel, by decide +kernel⟩
abbrev s_furthest : Stmt := top 18
theorem sc_furthest : FnScope ["tongue", "measure", "line", "text", "most", "found", "at", "place", "is_free", "coming", "here", "name", "form", "many"] ["tongue", "measure", "line"] (defScope s_furthest) := ⟨rfl, rfl, rfl, by decide +kernel, rfl, by decide +kernel, by decide +kernel⟩
abbrev s_joined : Stmt := top 20
theorem sc_joined : FnScope ["one", "other", "many", "moved", "place", "after"] ["one", "other"] (defScope s_joined) := ⟨rfl, rfl, rfl, by decide +kernel, rfl, by decide +kernel, by decide +kernel⟩
abbrev s_cut : Stmt := top 21
theorem sc_cut : FnScope ["measure", "many", "part"] ["measure", "many"] (defScope s_cut) := ⟨rfl, rfl, rfl, by decide +kernel, rfl, by decide +kernel, by decide +kernel⟩
abbrev s_freed : Stmt := top 22
theorem sc_freed : FnScope ["measure"] ["measure"] (defScope s_freed) := ⟨rfl, rfl, rfl, by decide +kernel, rfl, by decide +kernel, by decide +kernel⟩
abbrev s_with_loose : Stmt := top 23
theorem sc_with_loose : FnScope ["measure", "loose"] ["measure", "loose"] (defScope s_with_loose) := ⟨rfl, rfl, rfl, by decide +kernel, rfl, by decide +kernel, by decide +kernel⟩
abbrev s_all_rows : Stmt := top 25
theorem sc_all_rows : FnScope ["tongue", "measure", "found", "place", "longer", "row", "pair"] ["tongue", "measure"] (defScope s_all_rows) := ⟨rfl, rfl, rfl, by decide +kernel, rfl, by decide +kernel, by decide +kernel⟩
abbrev s_shape_of : Stmt := top 26
theorem sc_shape_of : FnScope ["row", "name", "form"] ["row"] (defScope s_shape_of) := ⟨rfl, rfl, rfl, by decide +kernel, rfl, by decide +kernel, by decide +kernel⟩
abbrev s_loosened : Stmt := top 27
theorem sc_loosened : FnScope ["shape", "loose", "sign"] ["shape", "loose"] (defScope s_loosened) := ⟨rfl, rfl, rfl, by decide +kernel, rfl, by decide +kernel, by decide +kernel⟩
abbrev s_shapes : Stmt := top 28
theorem sc_shapes : FnScope ["tongue", "measure", "found", "row", "shape"] ["tongue", "measure"] (defScope s_shapes) := ⟨rfl, rfl, rfl, by decide +kernel, rfl, by decide +kernel, by decide +kernel⟩
abbrev s__law_cell_at : Stmt := top 30
theorem sc__law_cell_at : FnScope ["_law_script", "_law_k"] ["_law_script", "_law_k"] (defScope s__law_cell_at) := ⟨rfl, rfl, rfl, by decide +kernel, rfl, by decide +kernel, by decide +kernel⟩
abbrev s__law_mixed : Stmt := top 31
theorem sc__law_mixed : FnScope ["_law_script", "_law_k", "_law_drawn_here"] ["_law_script", "_law_k"] (defScope s__law_mixed) := ⟨rfl, rfl, rfl, by decide +kernel, rfl, by decide +kernel, by decide +kernel⟩
abbrev s__law_drawn : Stmt := top 32
theorem sc__law_drawn : FnScope ["_law_number", "_law_k", "_law_drawn_here"] ["_law_number", "_law_k"] (defScope s__law_drawn) := ⟨rfl, rfl, rfl, by decide +kernel, rfl, by decide +kernel, by decide +kernel⟩
abbrev s__law_form : Stmt := top 33
theorem sc__law_form : FnScope ["_law_number", "_law_most", "_law_k"] ["_law_number", "_law_most"] (defScope s__law_form) := ⟨rfl, rfl, rfl, by decide +kernel, rfl, by decide +kernel, by decide +kernel⟩
abbrev s__law_tongue : Stmt := top 34
theorem sc__law_tongue : FnScope ["_law_number", "_law_letters", "_law_book", "_law_k", "_law_drawn_here", "_law_name", "_law_forms", "_law_n"] ["_law_number"] (defScope s__law_tongue) := ⟨rfl, rfl, rfl, by decide +kernel, rfl, by decide +kernel, by decide +kernel⟩
abbrev s__law_measure : Stmt := top 35
theorem sc__law_measure : FnScope ["_law_tongue_here", "_law_number", "_law_most", "_law_names", "_law_places", "_law_k", "_law_drawn_here", "_law_some", "_law_breaks", "_law_foot", "_law_n"] ["_law_tongue_here", "_law_number", "_law_most"] (defScope s__law_measure) := ⟨rfl, rfl, rfl, by decide +kernel, rfl, by decide +kernel, by decide +kernel⟩
abbrev s__law_rows : Stmt := top 36
theorem sc__law_rows : FnScope ["_law_tongue_here", "_law_measure_here", "_law_found", "_law_place", "_law_longer", "_law_row", "_law_name", "_law_forms", "_law_form_here"] ["_law_tongue_here", "_law_measure_here"] (defScope s__law_rows) := ⟨rfl, rfl, rfl, by decide +kernel, rfl, by decide +kernel, by decide +kernel⟩
abbrev s__law_shape : Stmt := top 37
theorem sc__law_shape : FnScope ["_law_row", "_law_name", "_law_form_here"] ["_law_row"] (defScope s__law_shape) := ⟨rfl, rfl, rfl, by decide +kernel, rfl, by decide +kernel, by decide +kernel⟩
abbrev s__law_line : Stmt := top 39
theorem sc__law_line : FnScope ["_law_tongue_here", "_law_measure_here", "_law_number", "_law_rows_here", "_law_text", "_law_at", "_law_line_here", "_law_k", "_law_size", "_law_sign"] ["_law_tongue_here", "_law_measure_here", "_law_number"] (defScope s__law_line) := ⟨rfl, rfl, rfl, by decide +kernel, rfl, by decide +kernel, by decide +kernel⟩
abbrev s__law_agreed : Stmt := top 43
theorem sc__law_agreed : FnScope ["_law_text", "_law_shape_here", "_law_at"] ["_law_text", "_law_shape_here"] (defScope s__law_agreed) := ⟨rfl, rfl, rfl, by decide +kernel, rfl, by decide +kernel, by decide +kernel⟩
abbrev s_law : Stmt := top 44
theorem sc_law : FnScope ["_law_script", "_law_tongue_here", "_law_measure_here", "_law_line_here", "_law_text", "_law_far", "_law_many", "_law_other", "_law_shape_here"] ["_law_script"] (defScope s_law) := ⟨rfl, rfl, rfl, by decide +kernel, rfl, by decide +kernel, by decide +kernel⟩
structure Blt (mg : Str → Option Value) : Prop where
  b_all : mg "all" = none
  b_enumerate : mg "enumerate" = none
  b_int : mg "int" = none
  b_len : mg "len" = none
  b_max : mg "max" = none
  b_min : mg "min" = none
  b_range : mg "range" = none
  b_set : mg "set" = none
  b_sorted : mg "sorted" = none
  b_sum : mg "sum" = none
  b_tuple : mg "tuple" = none
  b_zip : mg "zip" = none
  c_CLEAR : ∃ t, mg "CLEAR" = some (.str (tx [108, 115]) t)
section
variable {P : Program} {w : World} {K : PySem.W.Frag} {mg : Str → Option Value} {base : Heap} {f : Addr} {fd : FuncData}
theorem ok_signs (T : Blt mg)  (F : FnP K "signs" s_signs f fd) : FnOk P w K mg base CX0 1 f fd ["line"] (spD K 1 G_signs) :=
  mkFn F sc_signs rfl fun cdv A outer s H E hr =>
    (js_one (js_ret (je_join (JE.w (je_str [])) (jaw_cons (jw_var 0) (jaw_nil)))))
theorem ok_ends (T : Blt mg)  (F : FnP K "ends" s_ends f fd) : FnOk P w K mg base CX0 1 f fd ["line"] (spD K 1 G_ends) :=
  mkFn F sc_ends rfl fun cdv A outer s H E hr =>
    (js_cons (js_own 1 sc_ends.nd (jf_lst (ja_nil))) (js_cons (js_set 2 sc_ends.nd (je_int)) (js_cons (js_for PassesOwn.never rfl (ji_seq (je_var 0)) (jg_name 3 sc_ends.nd) (js_cons (js_set 2 sc_ends.nd (je_op or_add (jw_var 2) (JE.w (je_callB cr_len (by rfl) T.b_len (by decide +kernel) (jaw_cons (jw_var 3) (jaw_nil)))))) (js_one (js_append 1 (je_var 2))))) (js_one (js_ret (je_callTy (cr_tupleX rfl) (by rfl) T.b_tuple (by decide +kernel) (jaw_cons (jw_var 1) (jaw_nil))))))))
theorem ok_forms_of (T : Blt mg)  (F : FnP K "forms_of" s_forms_of f fd) : FnOk P w K mg base CX0 1 f fd ["tongue", "name"] (spD K 2 G_forms_of) :=
  mkFn F sc_forms_of rfl fun cdv A outer s H E hr =>
    (js_cons (js_for PassesOwn.never rfl (ji_seq (je_var 0)) (jg_name 2 sc_forms_of.nd) (js_one (js_if (jt_cmp (or_eq (hu_ hr (by decide))) (JE.w (je_ix or_ix (jw_var 2) (JE.w (je_int)))) (jw_var 1)) (js_one (js_ret (je_ix or_ix (jw_var 2) (JE.w (je_int))))) (js_nil)))) (js_one (js_no)))
theorem ok_pairs_of (T : Blt mg) (H_forms_of : Has P w K mg base 1 "forms_of" ["tongue", "name"] G_forms_of) (F : FnP K "pairs_of" s_pairs_of f fd) : FnOk P w K mg base CX0 2 f fd ["tongue", "place"] (spD K 2 G_pairs_of) :=
  mkFn F sc_pairs_of rfl fun cdv A outer s H E hr =>
    (js_cons (js_own 2 sc_pairs_of.nd (jf_lst (ja_nil))) (js_cons (js_for PassesOwn.never rfl (ji_seq (je_var 1)) (jg_name 3 sc_pairs_of.nd) (js_one (js_extend 2 (je_lc rfl sc_pairs_of.nd (ji_seqW (JE.w (je_callH H_forms_of hr (by decide) (by rfl) (ja_cons (je_var 0) (ja_cons (je_var 3) (ja_nil)))))) (blkOk_by (own := [("form", 4)]) (by kernel_rfl)) (fun s H C cl fp => jg_name 4 sc_pairs_of.nd) (fun s H C cl fp => jts_nil) (fun s H C cl fp => je_tup (ja_cons (je_var 3) (ja_cons (je_var 4) (ja_nil)))))))) (js_one (js_rel [2] (js_ret (je_var 2))))))
theorem ok_agree (T : Blt mg)  (F : FnP K "agree" s_agree f fd) : FnOk P w K mg base CX0 1 f fd ["text", "form"] (spD K 2 G_agree) :=
  mkFn F sc_agree rfl fun cdv A outer s H E hr =>
    (js_one (js_ret (je_callB (cr_allD rfl) (by rfl) T.b_all (by decide +kernel) (jaw_cons (JE.w (je_lc rfl sc_agree.nd (JI.w (ji_zip rfl (by rfl) T.b_zip (je_var 0) (je_var 1))) (blkOk_by (own := [("one", 2), ("other", 3)]) (by kernel_rfl)) (fun s H C cl fp => jg_tup rfl (jgs_cons (jg_name 2 sc_agree.nd) (jgs_cons (jg_name 3 sc_agree.nd) (jgs_nil)))) (fun s H C cl fp => jts_nil) (fun s H C cl fp => je_cmp (or_inX (hu_ hr (by decide))) (jw_var 2) (JE.w (je_tup (ja_cons (je_var 3) (ja_cons (je_str [101]) (ja_nil)))))))) (jaw_nil)))))
theorem ok_agrees_at_end (T : Blt mg) (H_agree : Has P w K mg base 1 "agree" ["text", "form"] G_agree) (F : FnP K "agrees_at_end" s_agrees_at_end f fd) : FnOk P w K mg base CX0 2 f fd ["text", "form", "is_free"] (spD K 3 G_agrees_at_end) :=
  mkFn F sc_agrees_at_end rfl fun cdv A outer s H E hr =>
    (js_cons (js_if (jt_cmp (or_ne (hu_ hr (by decide))) (JE.w (je_callB cr_len (by rfl) T.b_len (by decide +kernel) (jaw_cons (jw_var 0) (jaw_nil)))) (JE.w (je_callB cr_len (by rfl) T.b_len (by decide +kernel) (jaw_cons (jw_var 1) (jaw_nil))))) (js_one (js_ret (je_bl))) (js_nil)) (js_cons (js_if (jt_val (je_var 2)) (js_one (js_ret (je_callH H_agree hr (by decide) (by rfl) (ja_cons (je_slice or_sl (jw_var 0) (jo_none) (jo_some (JE.w (je_neg (je_int))))) (ja_cons (je_slice or_sl (jw_var 1) (jo_none) (jo_some (JE.w (je_neg (je_int))))) (ja_nil)))))) (js_nil)) (js_one (js_ret (je_callH H_agree hr (by decide) (by rfl) (ja_cons (je_var 0) (ja_cons (je_var 1) (ja_nil))))))))
theorem ok_keeps_breaks (T : Blt mg)  (F : FnP K "keeps_breaks" s_keeps_breaks f fd) : FnOk P w K mg base CX0 1 f fd ["measure", "way", "stops"] (spD K 3 G_keeps_breaks) :=
  mkFn F sc_keeps_breaks rfl fun cdv A outer s H E hr =>
    (js_cons (js_for PassesOwn.never rfl (ji_seq (je_ix or_ix (jw_var 0) (JE.w (je_int)))) (jg_tup rfl (jgs_cons (jg_name 3 sc_keeps_breaks.nd) (jgs_cons (jg_name 4 sc_keeps_breaks.nd) (jgs_nil)))) (js_cons (js_set 5 sc_keeps_breaks.nd (je_callB (cr_sumD rfl) (by rfl) T.b_sum (by decide +kernel) (jaw_cons (JE.w (je_lc rfl sc_keeps_breaks.nd (ji_seqW (JE.w (je_slice or_sl (jw_var 1) (jo_none) (jo_some (jw_var 3))))) (blkOk_by (own := [("name", 6), ("form", 7)]) (by kernel_rfl)) (fun s H C cl fp => jg_tup rfl (jgs_cons (jg_name 6 sc_keeps_breaks.nd) (jgs_cons (jg_name 7 sc_keeps_breaks.nd) (jgs_nil)))) (fun s H C cl fp => jts_nil) (fun s H C cl fp => je_callB cr_len (by rfl) T.b_len (by decide +kernel) (jaw_cons (jw_var 7) (jaw_nil))))) (jaw_nil)))) (js_one (js_if (JTW.t (jw_or (jt_cmp or_lt (JE.w (je_callB cr_len (by rfl) T.b_len (by decide +kernel) (jaw_cons (JE.w (je_ix or_ix (JE.w (je_ix or_ix (jw_var 1) (jw_var 3))) (JE.w (je_int)))) (jaw_nil)))) (jw_var 4)) (jw_or1 (jt_cmp (or_ninX (hu_ hr (by decide))) (JE.w (je_op or_add (jw_var 5) (jw_var 4))) (jw_var 2))))) (js_one (js_ret (je_bl))) (js_nil))))) (js_one (js_ret (je_bl))))
theorem ok_rows_for (T : Blt mg) (H_pairs_of : Has P w K mg base 2 "pairs_of" ["tongue", "place"] G_pairs_of) (H_agree : Has P w K mg base 1 "agree" ["text", "form"] G_agree) (H_agrees_at_end : Has P w K mg base 2 "agrees_at_end" ["text", "form", "is_free"] G_agrees_at_end) (F : FnP K "rows_for" s_rows_for f fd) : FnOk P w K mg base CX0 3 f fd ["tongue", "measure", "text"] (spD K 3 G_rows_for) :=
  mkFn F sc_rows_for rfl fun cdv A outer s H E hr =>
    (js_cons (js_set 3 sc_rows_for.nd (je_ix or_ix (jw_var 1) (JE.w (je_int)))) (js_cons (js_if (jt_cmp (or_eq (hu_ hr (by decide))) (JE.w (je_callB cr_len (by rfl) T.b_len (by decide +kernel) (jaw_cons (jw_var 3) (jaw_nil)))) (JE.w (je_int))) (js_one (js_ret (je_op or_mulX (JE.w (je_lst (ja_cons (je_tup (ja_nil)) (ja_nil)))) (JE.w (je_callTy cr_intD (by rfl) T.b_int (by decide +kernel) (jaw_cons (JE.w (je_cmp (or_eq (hu_ hr (by decide))) (jw_var 2) (JE.w (je_str [])))) (jaw_nil))))))) (js_nil)) (js_cons (js_own 4 sc_rows_for.nd (jf_lst (ja_cons (je_tup (ja_cons (je_tup (ja_nil)) (ja_cons (je_int) (ja_nil)))) (ja_nil)))) (js_cons (js_for PassesOwn.never rfl (ji_seq (je_slice or_sl (jw_var 3) (jo_none) (jo_some (JE.w (je_neg (je_int)))))) (jg_name 5 sc_rows_for.nd) (js_cons (js_own 6 sc_rows_for.nd (jf_lst (ja_nil))) (js_cons (js_rel [4] (js_for PassesOwn.never rfl (ji_seq (je_var 4)) (jg_tup rfl (jgs_cons (jg_name 7 sc_rows_for.nd) (jgs_cons (jg_name 8 sc_rows_for.nd) (jgs_nil)))) (js_one (js_for PassesOwn.never rfl (ji_seq (je_callH H_pairs_of hr (by decide) (by rfl) (ja_cons (je_var 0) (ja_cons (je_var 5) (ja_nil))))) (jg_name 9 sc_rows_for.nd) (js_one (js_if (JTW.t (jw_and (jt_cmp or_le (JE.w (je_op or_add (jw_var 8) (JE.w (je_callB cr_len (by rfl) T.b_len (by decide +kernel) (jaw_cons (JE.w (je_ix or_ix (jw_var 9) (JE.w (je_int)))) (jaw_nil)))))) (JE.w (je_callB cr_len (by rfl) T.b_len (by decide +kernel) (jaw_cons (jw_var 2) (jaw_nil))))) (jw_and1 (jt_val (je_callH H_agree hr (by decide) (by rfl) (ja_cons (je_slice or_sl (jw_var 2) (jo_some (jw_var 8)) (jo_none)) (ja_cons (je_ix or_ix (jw_var 9) (JE.w (je_int))) (ja_nil)))))))) (js_one (js_append 6 (je_tup (ja_cons (je_op or_add (jw_var 7) (JE.w (je_tup (ja_cons (je_var 9) (ja_nil))))) (ja_cons (je_op or_add (jw_var 8) (JE.w (je_callB cr_len (by rfl) T.b_len (by decide +kernel) (jaw_cons (JE.w (je_ix or_ix (jw_var 9) (JE.w (je_int)))) (jaw_nil))))) (ja_nil)))))) (js_nil))))))) (js_one (js_mv 4 6 sc_rows_for.nd))))) (js_cons (js_own 10 sc_rows_for.nd (jf_lst (ja_nil))) (js_cons (js_rel [4] (js_for PassesOwn.never rfl (ji_seq (je_var 4)) (jg_tup rfl (jgs_cons (jg_name 7 sc_rows_for.nd) (jgs_cons (jg_name 8 sc_rows_for.nd) (jgs_nil)))) (js_one (js_for PassesOwn.never rfl (ji_seq (je_callH H_pairs_of hr (by decide) (by rfl) (ja_cons (je_var 0) (ja_cons (je_ix or_ix (jw_var 3) (JE.w (je_neg (je_int)))) (ja_nil))))) (jg_name 9 sc_rows_for.nd) (js_one (js_if (jt_val (je_callH H_agrees_at_end hr (by decide) (by rfl) (ja_cons (je_slice or_sl (jw_var 2) (jo_some (jw_var 8)) (jo_none)) (ja_cons (je_ix or_ix (jw_var 9) (JE.w (je_int))) (ja_cons (je_ix or_ix (jw_var 1) (JE.w (je_int))) (ja_nil)))))) (js_one (js_append 10 (je_op or_add (jw_var 7) (JE.w (je_tup (ja_cons (je_var 9) (ja_nil))))))) (js_nil))))))) (js_one (js_rel [10] (js_ret (je_var 10))))))))))
theorem ok_ways (T : Blt mg) (H_ends : Has P w K mg base 1 "ends" ["line"] G_ends) (H_signs : Has P w K mg base 1 "signs" ["line"] G_signs) (H_rows_for : Has P w K mg base 3 "rows_for" ["tongue", "measure", "text"] G_rows_for) (H_keeps_breaks : Has P w K mg base 1 "keeps_breaks" ["measure", "way", "stops"] G_keeps_breaks) (F : FnP K "ways" s_ways f fd) : FnOk P w K mg base CX0 4 f fd ["tongue", "measure", "line"] (spD K 3 G_ways) :=
  mkFn F sc_ways rfl fun cdv A outer s H E hr =>
    (js_cons (js_set 3 sc_ways.nd (je_callH H_ends hr (by decide) (by rfl) (ja_cons (je_var 2) (ja_nil)))) (js_one (js_ret (je_callTy (cr_tupleX rfl) (by rfl) T.b_tuple (by decide +kernel) (jaw_cons (JE.w (je_callB (cr_sortedD rfl (hu_ hr (by decide))) (by rfl) T.b_sorted (by decide +kernel) (jaw_cons (JE.w (je_lc rfl sc_ways.nd (ji_seqW (JE.w (je_callH H_rows_for hr (by decide) (by rfl) (ja_cons (je_var 0) (ja_cons (je_var 1) (ja_cons (je_callH H_signs hr (by decide) (by rfl) (ja_cons (je_var 2) (ja_nil))) (ja_nil))))))) (blkOk_by (own := [("way", 4)]) (by kernel_rfl)) (fun s H C cl fp => jg_name 4 sc_ways.nd) (fun s H C cl fp => jts_one (jt_val (je_callH H_keeps_breaks hr (by decide) (by rfl) (ja_cons (je_var 1) (ja_cons (je_var 4) (ja_cons (je_var 3) (ja_nil))))))) (fun s H C cl fp => je_var 4))) (jaw_nil)))) (jaw_nil))))))
theorem ok_many_ways (T : Blt mg) (H_ways : Has P w K mg base 4 "ways" ["tongue", "measure", "line"] G_ways) (F : FnP K "many_ways" s_many_ways f fd) : FnOk P w K mg base CX0 5 f fd ["tongue", "measure", "line"] (spD K 3 G_many_ways) :=
  mkFn F sc_many_ways rfl fun cdv A outer s H E hr =>
    (js_one (js_ret (je_callB cr_len (by rfl) T.b_len (by decide +kernel) (jaw_cons (JE.w (je_callH H_ways hr (by decide) (by rfl) (ja_cons (je_var 0) (ja_cons (je_var 1) (ja_cons (je_var 2) (ja_nil)))))) (jaw_nil)))))
theorem ok_fits (T : Blt mg) (H_many_ways : Has P w K mg base 5 "many_ways" ["tongue", "measure", "line"] G_many_ways) (F : FnP K "fits" s_fits f fd) : FnOk P w K mg base CX0 6 f fd ["tongue", "measure", "line"] (spD K 3 G_fits) :=
  mkFn F sc_fits rfl fun cdv A outer s H E hr =>
    (js_one (js_ret (je_cmp or_gt (JE.w (je_callH H_many_ways hr (by decide) (by rfl) (ja_cons (je_var 0) (ja_cons (je_var 1) (ja_cons (je_var 2) (ja_nil)))))) (JE.w (je_int)))))
theorem ok_laid_part (T : Blt mg)  (F : FnP K "laid_part" s_laid_part f fd) : FnOk P w K mg base CX0 1 f fd ["text", "form", "is_free"] (spD K 3 G_laid_part) :=
  mkFn F sc_laid_part rfl fun cdv A outer s H E hr =>
    (js_cons (js_set 3 sc_laid_part.nd (je_int)) (js_cons (js_for PassesOwn.never rfl ((ji_enzip rfl (by rfl) T.b_zip (by rfl) T.b_enumerate (je_var 0) (je_var 1))) (jg_tup rfl (jgs_cons (jg_name 4 sc_laid_part.nd) (jgs_cons (jg_tup rfl (jgs_cons (jg_name 5 sc_laid_part.nd) (jgs_cons (jg_name 6 sc_laid_part.nd) (jgs_nil)))) (jgs_nil)))) (js_one (js_if (JTW.t (jw_or (jt_cmp (or_inX (hu_ hr (by decide))) (jw_var 5) (JE.w (je_tup (ja_cons (je_var 6) (ja_cons (je_str [101]) (ja_nil)))))) (jw_or1 (JTW.t (jw_and (jt_val (je_var 2)) (jw_and (jt_cmp (or_eq (hu_ hr (by decide))) (jw_var 4) (JE.w (je_op or_sub (JE.w (je_callB cr_len (by rfl) T.b_len (by decide +kernel) (jaw_cons (jw_var 1) (jaw_nil)))) (JE.w (je_int))))) (jw_and1 (jt_cmp (or_eq (hu_ hr (by decide))) (jw_var 4) (JE.w (je_op or_sub (JE.w (je_callB cr_len (by rfl) T.b_len (by decide +kernel) (jaw_cons (jw_var 0) (jaw_nil)))) (JE.w (je_int)))))))))))) (js_one (js_set 3 sc_laid_part.nd (je_op or_add (jw_var 3) (JE.w (je_int))))) (js_one (js_ret (je_var 3)))))) (js_one (js_ret (je_var 3)))))
theorem ok_furthest (T : Blt mg) (H_signs : Has P w K mg base 1 "signs" ["line"] G_signs) (H_pairs_of : Has P w K mg base 2 "pairs_of" ["tongue", "place"] G_pairs_of) (H_laid_part : Has P w K mg base 1 "laid_part" ["text", "form", "is_free"] G_laid_part) (F : FnP K "furthest" s_furthest f fd) : FnOk P w K mg base CX0 3 f fd ["tongue", "measure", "line"] (spD K 3 G_furthest) :=
  mkFn F sc_furthest rfl fun cdv A outer s H E hr =>
    (js_cons (js_set 3 sc_furthest.nd (je_callH H_signs hr (by decide) (by rfl) (ja_cons (je_var 2) (ja_nil)))) (js_cons (js_set 4 sc_furthest.nd (je_int)) (js_cons (js_oneK 5 sc_furthest.nd (je_int) (je_bl)) (js_cons (js_for PassesOwn.never rfl ((ji_enum rfl (by rfl) T.b_enumerate (je_ix or_ix (jw_var 1) (JE.w (je_int))))) (jg_tup rfl (jgs_cons (jg_name 6 sc_furthest.nd) (jgs_cons (jg_name 7 sc_furthest.nd) (jgs_nil)))) (js_cons (js_set 8 sc_furthest.nd (je_and (je_ix or_ix (jw_var 1) (JE.w (je_int))) (je_one (je_cmp (or_eq (hu_ hr (by decide))) (jw_var 6) (JE.w (je_op or_sub (JE.w (je_callB cr_len (by rfl) T.b_len (by decide +kernel) (jaw_cons (JE.w (je_ix or_ix (jw_var 1) (JE.w (je_int)))) (jaw_nil)))) (JE.w (je_int)))))))) (js_cons (js_newK 9 sc_furthest.nd) (js_cons (js_forK 5 rfl PassesOwn.never (jg_name 10 sc_furthest.nd) (js_one (js_for PassesOwn.never rfl (ji_seq (je_callH H_pairs_of hr (by decide) (by rfl) (ja_cons (je_var 0) (ja_cons (je_var 7) (ja_nil))))) (jg_tup rfl (jgs_cons (jg_name 11 sc_furthest.nd) (jgs_cons (jg_name 12 sc_furthest.nd) (jgs_nil)))) (js_cons (js_set 13 sc_furthest.nd (je_callH H_laid_part hr (by decide) (by rfl) (ja_cons (je_slice or_sl (jw_var 3) (jo_some (jw_var 10)) (jo_none)) (ja_cons (je_var 12) (ja_cons (je_var 8) (ja_nil)))))) (js_cons (js_set 4 sc_furthest.nd (je_callB (cr_max2D rfl) (by rfl) T.b_max (by decide +kernel) (jaw_cons (jw_var 4) (jaw_cons (JE.w (je_op or_add (jw_var 10) (jw_var 13))) (jaw_nil))))) (js_one (js_if (jt_cmp (or_eq (hu_ hr (by decide))) (jw_var 13) (JE.w (je_callB cr_len (by rfl) T.b_len (by decide +kernel) (jaw_cons (jw_var 12) (jaw_nil))))) (js_one (js_setK 9 (hu_ hr (by decide)) (je_op or_add (jw_var 10) (jw_var 13)) (je_bl))) (js_nil)))))))) (js_one (js_mv 5 9 sc_furthest.nd)))))) (js_one (js_ret (je_var 4)))))))
theorem ok_joined (T : Blt mg)  (F : FnP K "joined" s_joined f fd) : FnOk P w K mg base CX0 1 f fd ["one", "other"] (spD K 2 G_joined) :=
  mkFn F sc_joined rfl fun cdv A outer s H E hr =>
    (js_cons (js_set 2 sc_joined.nd (je_callB cr_len (by rfl) T.b_len (by decide +kernel) (jaw_cons (JE.w (je_ix or_ix (jw_var 0) (JE.w (je_int)))) (jaw_nil)))) (js_cons (js_set 3 sc_joined.nd (je_callTy (cr_tupleX rfl) (by rfl) T.b_tuple (by decide +kernel) (jaw_cons (JE.w (je_lc rfl sc_joined.nd (ji_seqW (JE.w (je_ix or_ix (jw_var 1) (JE.w (je_int))))) (blkOk_by (own := [("place", 4), ("after", 5)]) (by kernel_rfl)) (fun s H C cl fp => jg_tup rfl (jgs_cons (jg_name 4 sc_joined.nd) (jgs_cons (jg_name 5 sc_joined.nd) (jgs_nil)))) (fun s H C cl fp => jts_nil) (fun s H C cl fp => je_tup (ja_cons (je_op or_add (jw_var 4) (jw_var 2)) (ja_cons (je_var 5) (ja_nil)))))) (jaw_nil)))) (js_one (js_ret (je_tup (ja_cons (je_op or_add (JE.w (je_ix or_ix (jw_var 0) (JE.w (je_int)))) (JE.w (je_ix or_ix (jw_var 1) (JE.w (je_int))))) (ja_cons (je_op or_add (JE.w (je_ix or_ix (jw_var 0) (JE.w (je_int)))) (jw_var 3)) (ja_cons (je_ix or_ix (jw_var 1) (JE.w (je_int))) (ja_nil)))))))))
theorem ok_cut (T : Blt mg)  (F : FnP K "cut" s_cut f fd) : FnOk P w K mg base CX0 1 f fd ["measure", "many"] (spD K 2 G_cut) :=
  mkFn F sc_cut rfl fun cdv A outer s H E hr =>
    (js_one (js_ret (je_tup (ja_cons (je_slice or_sl (JE.w (je_ix or_ix (jw_var 0) (JE.w (je_int)))) (jo_none) (jo_some (jw_var 1))) (ja_cons (je_callTy (cr_tupleX rfl) (by rfl) T.b_tuple (by decide +kernel) (jaw_cons (JE.w (je_lc rfl sc_cut.nd (ji_seqW (JE.w (je_ix or_ix (jw_var 0) (JE.w (je_int))))) (blkOk_by (own := [("part", 2)]) (by kernel_rfl)) (fun s H C cl fp => jg_name 2 sc_cut.nd) (fun s H C cl fp => jts_one (jt_cmp or_lt (JE.w (je_ix or_ix (jw_var 2) (JE.w (je_int)))) (jw_var 1))) (fun s H C cl fp => je_var 2))) (jaw_nil))) (ja_cons (je_ix or_ix (jw_var 0) (JE.w (je_int))) (ja_nil)))))))
theorem ok_freed (T : Blt mg)  (F : FnP K "freed" s_freed f fd) : FnOk P w K mg base CX0 1 f fd ["measure"] (spD K 1 G_freed) :=
  mkFn F sc_freed rfl fun cdv A outer s H E hr =>
    (js_one (js_ret (je_tup (ja_cons (je_ix or_ix (jw_var 0) (JE.w (je_int))) (ja_cons (je_tup (ja_nil)) (ja_cons (je_ix or_ix (jw_var 0) (JE.w (je_int))) (ja_nil)))))))
theorem ok_with_loose (T : Blt mg)  (F : FnP K "with_loose" s_with_loose f fd) : FnOk P w K mg base CX0 1 f fd ["measure", "loose"] (spD K 2 G_with_loose) :=
  mkFn F sc_with_loose rfl fun cdv A outer s H E hr =>
    (js_one (js_ret (je_tup (ja_cons (je_ix or_ix (jw_var 0) (JE.w (je_int))) (ja_cons (je_ix or_ix (jw_var 0) (JE.w (je_int))) (ja_cons (je_var 1) (ja_nil)))))))
theorem ok_all_rows (T : Blt mg) (H_pairs_of : Has P w K mg base 2 "pairs_of" ["tongue", "place"] G_pairs_of) (F : FnP K "all_rows" s_all_rows f fd) : FnOk P w K mg base CX0 3 f fd ["tongue", "measure"] (spD K 2 G_all_rows) :=
  mkFn F sc_all_rows rfl fun cdv A outer s H E hr =>
    (js_cons (js_own 2 sc_all_rows.nd (jf_lst (ja_cons (je_tup (ja_nil)) (ja_nil)))) (js_cons (js_for PassesOwn.never rfl (ji_seq (je_ix or_ix (jw_var 1) (JE.w (je_int)))) (jg_name 3 sc_all_rows.nd) (js_cons (js_own 4 sc_all_rows.nd (jf_lst (ja_nil))) (js_cons (js_rel [2] (js_for PassesOwn.never rfl (ji_seq (je_var 2)) (jg_name 5 sc_all_rows.nd) (js_one (js_extend 4 (je_lc rfl sc_all_rows.nd (ji_seqW (JE.w (je_callH H_pairs_of hr (by decide) (by rfl) (ja_cons (je_var 0) (ja_cons (je_var 3) (ja_nil)))))) (blkOk_by (own := [("pair", 6)]) (by kernel_rfl)) (fun s H C cl fp => jg_name 6 sc_all_rows.nd) (fun s H C cl fp => jts_nil) (fun s H C cl fp => je_op or_add (jw_var 5) (JE.w (je_tup (ja_cons (je_var 6) (ja_nil)))))))))) (js_one (js_mv 2 4 sc_all_rows.nd))))) (js_one (js_rel [2] (js_ret (je_var 2))))))
theorem ok_shape_of (T : Blt mg)  (F : FnP K "shape_of" s_shape_of f fd) : FnOk P w K mg base CX0 1 f fd ["row"] (spD K 1 G_shape_of) :=
  mkFn F sc_shape_of rfl fun cdv A outer s H E hr =>
    (js_one (js_ret (je_join (JE.w (je_str [])) (jaw_cons (JE.w (je_lc rfl sc_shape_of.nd (ji_seqW (jw_var 0)) (blkOk_by (own := [("name", 1), ("form", 2)]) (by kernel_rfl)) (fun s H C cl fp => jg_tup rfl (jgs_cons (jg_name 1 sc_shape_of.nd) (jgs_cons (jg_name 2 sc_shape_of.nd) (jgs_nil)))) (fun s H C cl fp => jts_nil) (fun s H C cl fp => je_var 2))) (jaw_nil)))))
theorem ok_loosened (T : Blt mg)  (F : FnP K "loosened" s_loosened f fd) : FnOk P w K mg base CX0 1 f fd ["shape", "loose"] (spD K 2 G_loosened) :=
  mkFn F sc_loosened rfl fun cdv A outer s H E hr =>
    (js_cons (js_if (JTW.t (jw_or (jt_not (jt_val (je_var 1))) (jw_or1 (jt_cmp (or_eq (hu_ hr (by decide))) (jw_var 0) (JE.w (je_str [])))))) (js_one (js_ret (je_lst (ja_cons (je_var 0) (ja_nil))))) (js_nil)) (js_one (js_ret (je_lc rfl sc_loosened.nd (ji_seqW (JE.w (je_gstr (l := [108, 115]) (by rfl) T.c_CLEAR.choose_spec))) (blkOk_by (own := [("sign", 2)]) (by kernel_rfl)) (fun s H C cl fp => jg_name 2 sc_loosened.nd) (fun s H C cl fp => jts_nil) (fun s H C cl fp => je_op or_add (JE.w (je_slice or_sl (jw_var 0) (jo_none) (jo_some (JE.w (je_neg (je_int)))))) (jw_var 2))))))
theorem ok_shapes (T : Blt mg) (H_all_rows : Has P w K mg base 3 "all_rows" ["tongue", "measure"] G_all_rows) (H_shape_of : Has P w K mg base 1 "shape_of" ["row"] G_shape_of) (H_loosened : Has P w K mg base 1 "loosened" ["shape", "loose"] G_loosened) (F : FnP K "shapes" s_shapes f fd) : FnOk P w K mg base CX0 4 f fd ["tongue", "measure"] (spD K 2 G_shapes) :=
  mkFn F sc_shapes rfl fun cdv A outer s H E hr =>
    (js_cons (js_newK 2 sc_shapes.nd) (js_cons (js_for PassesOwn.never rfl (ji_seq (je_callH H_all_rows hr (by decide) (by rfl) (ja_cons (je_var 0) (ja_cons (je_var 1) (ja_nil))))) (jg_name 3 sc_shapes.nd) (js_one (js_for PassesOwn.never rfl (ji_seq (je_callH H_loosened hr (by decide) (by rfl) (ja_cons (je_callH H_shape_of hr (by decide) (by rfl) (ja_cons (je_var 3) (ja_nil))) (ja_cons (je_ix or_ix (jw_var 1) (JE.w (je_int))) (ja_nil))))) (jg_name 4 sc_shapes.nd) (js_one (js_setK 2 (hu_ hr (by decide)) (je_var 4) (je_bl)))))) (js_one (js_ret (je_callTy (cr_tupleX rfl) (by rfl) T.b_tuple (by decide +kernel) (jaw_cons (JE.w (je_callB (cr_sortedD rfl (hu_ hr (by decide))) (by rfl) T.b_sorted (by decide +kernel) (jaw_cons (jw_var 2) (jaw_nil)))) (jaw_nil)))))))
theorem ok__law_cell_at (T : Blt mg)  (F : FnP K "_law_cell_at" s__law_cell_at f fd) : FnOk P w K mg base CX0 1 f fd ["_law_script", "_law_k"] (spD K 2 G__law_cell_at) :=
  mkFn F sc__law_cell_at rfl fun cdv A outer s H E hr =>
    (js_cons (js_if (jt_cmp or_lt (jw_var 1) (JE.w (je_callB cr_len (by rfl) T.b_len (by decide +kernel) (jaw_cons (jw_var 0) (jaw_nil))))) (js_one (js_ret (je_ix or_ix (jw_var 0) (jw_var 1)))) (js_nil)) (js_one (js_ret (je_int))))
theorem ok__law_mixed (T : Blt mg) (H__law_cell_at : Has P w K mg base 1 "_law_cell_at" ["_law_script", "_law_k"] G__law_cell_at) (F : FnP K "_law_mixed" s__law_mixed f fd) : FnOk P w K mg base CX0 2 f fd ["_law_script", "_law_k"] (spD K 2 G__law_mixed) :=
  mkFn F sc__law_mixed rfl fun cdv A outer s H E hr =>
    (js_cons (js_set 2 sc__law_mixed.nd (je_op or_mod (JE.w (je_op or_mulX (JE.w (je_op or_add (JE.w (je_op or_add (JE.w (je_callH H__law_cell_at hr (by decide) (by rfl) (ja_cons (je_var 0) (ja_cons (je_var 1) (ja_nil))))) (JE.w (je_op or_mulX (JE.w (je_int)) (jw_var 1))))) (JE.w (je_int)))) (JE.w (je_int)))) (JE.w (je_int)))) (js_one (js_ret (je_op or_mod (JE.w (je_op or_add (JE.w (je_op or_add (JE.w (je_op or_mulX (jw_var 2) (jw_var 2))) (JE.w (je_op or_mulX (JE.w (je_int)) (jw_var 2))))) (jw_var 1))) (JE.w (je_int))))))
theorem ok__law_drawn (T : Blt mg)  (F : FnP K "_law_drawn" s__law_drawn f fd) : FnOk P w K mg base CX0 1 f fd ["_law_number", "_law_k"] (spD K 2 G__law_drawn) :=
  mkFn F sc__law_drawn rfl fun cdv A outer s H E hr =>
    (js_cons (js_set 2 sc__law_drawn.nd (je_op or_mod (JE.w (je_op or_mulX (JE.w (je_op or_add (JE.w (je_op or_add (jw_var 0) (JE.w (je_op or_mulX (JE.w (je_int)) (jw_var 1))))) (JE.w (je_int)))) (JE.w (je_int)))) (JE.w (je_int)))) (js_one (js_ret (je_op or_mod (JE.w (je_op or_add (JE.w (je_op or_add (JE.w (je_op or_mulX (jw_var 2) (jw_var 2))) (JE.w (je_op or_mulX (JE.w (je_int)) (jw_var 2))))) (jw_var 1))) (JE.w (je_int))))))
theorem ok__law_form (T : Blt mg) (H__law_drawn : Has P w K mg base 1 "_law_drawn" ["_law_number", "_law_k"] G__law_drawn) (F : FnP K "_law_form" s__law_form f fd) : FnOk P w K mg base CX0 2 f fd ["_law_number", "_law_most"] (spD K 2 G__law_form) :=
  mkFn F sc__law_form rfl fun cdv A outer s H E hr =>
    (js_one (js_ret (je_join (JE.w (je_str [])) (jaw_cons (JE.w (je_lc rfl sc__law_form.nd (JI.w (ji_range1 (by rfl) T.b_range (jaw_cons (JE.w (je_op or_add (JE.w (je_int)) (JE.w (je_op or_mod (jw_var 0) (jw_var 1))))) (jaw_nil)))) (blkOk_by (own := [("_law_k", 2)]) (by kernel_rfl)) (fun s H C cl fp => jg_name 2 sc__law_form.nd) (fun s H C cl fp => jts_nil) (fun s H C cl fp => je_ix or_ix (JE.w (je_str [108, 115])) (JE.w (je_op or_mod (JE.w (je_op or_fdiv (JE.w (je_callH H__law_drawn hr (by decide) (by rfl) (ja_cons (je_var 0) (ja_cons (je_var 2) (ja_nil))))) (JE.w (je_int)))) (JE.w (je_int))))))) (jaw_nil)))))
theorem ok__law_tongue (T : Blt mg) (H__law_drawn : Has P w K mg base 1 "_law_drawn" ["_law_number", "_law_k"] G__law_drawn) (H__law_form : Has P w K mg base 2 "_law_form" ["_law_number", "_law_most"] G__law_form) (F : FnP K "_law_tongue" s__law_tongue f fd) : FnOk P w K mg base CX0 3 f fd ["_law_number"] (spD K 1 G__law_tongue) :=
  mkFn F sc__law_tongue rfl fun cdv A outer s H E hr =>
    (js_cons (js_set 1 sc__law_tongue.nd (je_str [97, 98, 99, 100, 101, 102, 103, 104, 105, 106, 107, 108, 109, 110, 111, 112, 113, 114, 115, 116, 117, 118, 119, 120, 121, 122])) (js_cons (js_newK 2 sc__law_tongue.nd) (js_cons (js_for PassesOwn.never rfl ((ji_range1 (by rfl) T.b_range (jaw_cons (JE.w (je_op or_add (JE.w (je_int)) (JE.w (je_op or_mod (jw_var 0) (JE.w (je_int)))))) (jaw_nil)))) (jg_name 3 sc__law_tongue.nd) (js_cons (js_set 4 sc__law_tongue.nd (je_op or_fdiv (JE.w (je_callH H__law_drawn hr (by decide) (by rfl) (ja_cons (je_var 0) (ja_cons (je_op or_add (JE.w (je_int)) (jw_var 3)) (ja_nil))))) (JE.w (je_int)))) (js_cons (js_set 5 sc__law_tongue.nd (je_join (JE.w (je_str [])) (jaw_cons (JE.w (je_lc rfl sc__law_tongue.nd (JI.w (ji_range1 (by rfl) T.b_range (jaw_cons (JE.w (je_op or_add (JE.w (je_int)) (JE.w (je_op or_mod (jw_var 4) (JE.w (je_int)))))) (jaw_nil)))) (blkOk_by (own := [("_law_n", 7)]) (by kernel_rfl)) (fun s H C cl fp => jg_name 7 sc__law_tongue.nd) (fun s H C cl fp => jts_nil) (fun s H C cl fp => je_ix or_ix (jw_var 1) (JE.w (je_op or_mod (JE.w (je_op or_fdiv (jw_var 4) (JE.w (je_ix or_ix (JE.w (je_tup (ja_cons (je_int) (ja_cons (je_int) (ja_cons (je_int) (ja_nil)))))) (jw_var 7))))) (JE.w (je_int))))))) (jaw_nil)))) (js_cons (js_toD (js_setLc (i := 6) rfl sc__law_tongue.nd rfl rfl (sw_true rfl rfl rfl rfl) (JI.w (ji_range1 (by rfl) T.b_range (jaw_cons (JE.w (je_op or_add (JE.w (je_int)) (JE.w (je_op or_mod (JE.w (je_op or_fdiv (jw_var 4) (JE.w (je_int)))) (JE.w (je_int)))))) (jaw_nil)))) (blkOk_by (own := [("_law_n", 7)]) (by kernel_rfl)) (fun s H C cl fp => jg_name 7 sc__law_tongue.nd) (fun s H C cl fp => jts_nil) (fun s H C cl fp => je_callH H__law_form hr (by decide) (by rfl) (ja_cons (je_op or_fdiv (JE.w (je_callH H__law_drawn hr (by decide) (by rfl) (ja_cons (je_var 4) (ja_cons (je_var 7) (ja_nil))))) (JE.w (je_int))) (ja_cons (je_int) (ja_nil)))))) (js_one (js_setK 2 (hu_ hr (by decide)) (je_var 5) (je_callTy (cr_tupleX rfl) (by rfl) T.b_tuple (by decide +kernel) (jaw_cons (JE.w (je_sset rfl (hu_ hr (by decide)) (by rfl) T.b_sorted (by rfl) T.b_set (jw_var 6))) (jaw_nil))))))))) (js_one (js_ret (je_callTy (cr_tupleX rfl) (by rfl) T.b_tuple (by decide +kernel) (jaw_cons (JE.w (je_sitems rfl (hu_ hr (by decide)) (by rfl) T.b_sorted (jw_var 2))) (jaw_nil))))))))
theorem ok__law_measure (T : Blt mg) (H__law_drawn : Has P w K mg base 1 "_law_drawn" ["_law_number", "_law_k"] G__law_drawn) (F : FnP K "_law_measure" s__law_measure f fd) : FnOk P w K mg base CX0 2 f fd ["_law_tongue_here", "_law_number", "_law_most"] (spD K 3 G__law_measure) :=
  mkFn F sc__law_measure rfl fun cdv A outer s H E hr =>
    (js_cons (js_set 3 sc__law_measure.nd (je_lc rfl sc__law_measure.nd (ji_seqW (jw_var 0)) (blkOk_by (own := [("_law_foot", 9)]) (by kernel_rfl)) (fun s H C cl fp => jg_name 9 sc__law_measure.nd) (fun s H C cl fp => jts_nil) (fun s H C cl fp => je_ix or_ix (jw_var 9) (JE.w (je_int))))) (js_cons (js_own 4 sc__law_measure.nd (jf_lst (ja_nil))) (js_cons (js_for PassesOwn.never rfl ((ji_range1 (by rfl) T.b_range (jaw_cons (JE.w (je_op or_mod (jw_var 1) (JE.w (je_op or_add (jw_var 2) (JE.w (je_int)))))) (jaw_nil)))) (jg_name 5 sc__law_measure.nd) (js_cons (js_set 6 sc__law_measure.nd (je_op or_fdiv (JE.w (je_callH H__law_drawn hr (by decide) (by rfl) (ja_cons (je_var 1) (ja_cons (je_op or_add (JE.w (je_int)) (jw_var 5)) (ja_nil))))) (JE.w (je_int)))) (js_cons (js_toD (js_setLc (i := 7) rfl sc__law_measure.nd rfl rfl (sw_true rfl rfl rfl rfl) (JI.w (ji_range1 (by rfl) T.b_range (jaw_cons (JE.w (je_op or_add (JE.w (je_int)) (JE.w (je_op or_mod (jw_var 6) (JE.w (je_int)))))) (jaw_nil)))) (blkOk_by (own := [("_law_n", 10)]) (by kernel_rfl)) (fun s H C cl fp => jg_name 10 sc__law_measure.nd) (fun s H C cl fp => jts_nil) (fun s H C cl fp => je_ix or_ix (jw_var 3) (JE.w (je_op or_mod (JE.w (je_op or_fdiv (JE.w (je_callH H__law_drawn hr (by decide) (by rfl) (ja_cons (je_var 6) (ja_cons (je_var 10) (ja_nil))))) (JE.w (je_int)))) (JE.w (je_callB cr_len (by rfl) T.b_len (by decide +kernel) (jaw_cons (jw_var 3) (jaw_nil))))))))) (js_one (js_append 4 (je_callTy (cr_tupleX rfl) (by rfl) T.b_tuple (by decide +kernel) (jaw_cons (JE.w (je_sset rfl (hu_ hr (by decide)) (by rfl) T.b_sorted (by rfl) T.b_set (jw_var 7))) (jaw_nil)))))))) (js_cons (js_own 8 sc__law_measure.nd (jf_lst (ja_nil))) (js_cons (js_for PassesOwn.never rfl ((ji_range1 (by rfl) T.b_range (jaw_cons (JE.w (je_op or_mod (JE.w (je_op or_fdiv (jw_var 1) (JE.w (je_int)))) (JE.w (je_int)))) (jaw_nil)))) (jg_name 5 sc__law_measure.nd) (js_cons (js_set 6 sc__law_measure.nd (je_op or_fdiv (JE.w (je_callH H__law_drawn hr (by decide) (by rfl) (ja_cons (je_var 1) (ja_cons (je_op or_add (JE.w (je_int)) (jw_var 5)) (ja_nil))))) (JE.w (je_int)))) (js_one (js_if (jt_cmp (or_ne (hu_ hr (by decide))) (jw_var 4) (JE.w (je_lst (ja_nil)))) (js_one (js_append 8 (je_tup (ja_cons (je_op or_mod (jw_var 6) (JE.w (je_callB cr_len (by rfl) T.b_len (by decide +kernel) (jaw_cons (jw_var 4) (jaw_nil))))) (ja_cons (je_op or_add (JE.w (je_int)) (JE.w (je_op or_mod (JE.w (je_op or_fdiv (jw_var 6) (JE.w (je_int)))) (JE.w (je_int))))) (ja_nil)))))) (js_nil))))) (js_one (js_ret (je_tup (ja_cons (je_callTy (cr_tupleX rfl) (by rfl) T.b_tuple (by decide +kernel) (jaw_cons (jw_var 4) (jaw_nil))) (ja_cons (je_callTy (cr_tupleX rfl) (by rfl) T.b_tuple (by decide +kernel) (jaw_cons (JE.w (je_sset rfl (hu_ hr (by decide)) (by rfl) T.b_sorted (by rfl) T.b_set (jw_var 8))) (jaw_nil))) (ja_cons (je_cmp (or_eq (hu_ hr (by decide))) (JE.w (je_op or_mod (JE.w (je_op or_fdiv (jw_var 1) (JE.w (je_int)))) (JE.w (je_int)))) (JE.w (je_int))) (ja_nil))))))))))))
theorem ok__law_rows (T : Blt mg)  (F : FnP K "_law_rows" s__law_rows f fd) : FnOk P w K mg base CX0 1 f fd ["_law_tongue_here", "_law_measure_here"] (spD K 2 G__law_rows) :=
  mkFn F sc__law_rows rfl fun cdv A outer s H E hr =>
    (js_cons (js_set 2 sc__law_rows.nd (je_lst (ja_cons (je_tup (ja_nil)) (ja_nil)))) (js_cons (js_for PassesOwn.never rfl (ji_seq (je_ix or_ix (jw_var 1) (JE.w (je_int)))) (jg_name 3 sc__law_rows.nd) (js_cons (js_set 4 sc__law_rows.nd (je_lst (ja_nil))) (js_cons (js_for PassesOwn.never rfl (ji_seq (je_var 2)) (jg_name 5 sc__law_rows.nd) (js_one (js_for PassesOwn.never rfl (ji_seq (je_var 0)) (jg_tup rfl (jgs_cons (jg_name 6 sc__law_rows.nd) (jgs_cons (jg_name 7 sc__law_rows.nd) (jgs_nil)))) (js_one (js_if (jt_cmp (or_inX (hu_ hr (by decide))) (jw_var 6) (jw_var 3)) (js_one (js_set 4 sc__law_rows.nd (je_op or_add (jw_var 4) (JE.w (je_lc rfl sc__law_rows.nd (ji_seqW (jw_var 7)) (blkOk_by (own := [("_law_form_here", 8)]) (by kernel_rfl)) (fun s H C cl fp => jg_name 8 sc__law_rows.nd) (fun s H C cl fp => jts_nil) (fun s H C cl fp => je_op or_add (jw_var 5) (JE.w (je_tup (ja_cons (je_tup (ja_cons (je_var 6) (ja_cons (je_var 8) (ja_nil)))) (ja_nil)))))))))) (js_nil)))))) (js_one (js_set 2 sc__law_rows.nd (je_var 4)))))) (js_one (js_ret (je_var 2)))))
theorem ok__law_shape (T : Blt mg)  (F : FnP K "_law_shape" s__law_shape f fd) : FnOk P w K mg base CX0 1 f fd ["_law_row"] (spD K 1 G__law_shape) :=
  mkFn F sc__law_shape rfl fun cdv A outer s H E hr =>
    (js_one (js_ret (je_join (JE.w (je_str [])) (jaw_cons (JE.w (je_lc rfl sc__law_shape.nd (ji_seqW (jw_var 0)) (blkOk_by (own := [("_law_name", 1), ("_law_form_here", 2)]) (by kernel_rfl)) (fun s H C cl fp => jg_tup rfl (jgs_cons (jg_name 1 sc__law_shape.nd) (jgs_cons (jg_name 2 sc__law_shape.nd) (jgs_nil)))) (fun s H C cl fp => jts_nil) (fun s H C cl fp => je_var 2))) (jaw_nil)))))
theorem ok__law_line (T : Blt mg) (H__law_rows : Has P w K mg base 1 "_law_rows" ["_law_tongue_here", "_law_measure_here"] G__law_rows) (H__law_form : Has P w K mg base 2 "_law_form" ["_law_number", "_law_most"] G__law_form) (H__law_shape : Has P w K mg base 1 "_law_shape" ["_law_row"] G__law_shape) (H__law_drawn : Has P w K mg base 1 "_law_drawn" ["_law_number", "_law_k"] G__law_drawn) (F : FnP K "_law_line" s__law_line f fd) : FnOk P w K mg base CX0 3 f fd ["_law_tongue_here", "_law_measure_here", "_law_number"] (spD K 3 G__law_line) :=
  mkFn F sc__law_line rfl fun cdv A outer s H E hr =>
    (js_cons (js_set 3 sc__law_line.nd (je_callH H__law_rows hr (by decide) (by rfl) (ja_cons (je_var 0) (ja_cons (je_var 1) (ja_nil))))) (js_cons (js_set 4 sc__law_line.nd (je_callH H__law_form hr (by decide) (by rfl) (ja_cons (je_op or_fdiv (jw_var 2) (JE.w (je_int))) (ja_cons (je_int) (ja_nil))))) (js_cons (js_if (JTW.t (jw_and (jt_cmp or_gt (JE.w (je_op or_mod (jw_var 2) (JE.w (je_int)))) (JE.w (je_int))) (jw_and1 (jt_cmp (or_ne (hu_ hr (by decide))) (jw_var 3) (JE.w (je_lst (ja_nil))))))) (js_one (js_set 4 sc__law_line.nd (je_callH H__law_shape hr (by decide) (by rfl) (ja_cons (je_ix or_ix (jw_var 3) (JE.w (je_op or_mod (JE.w (je_op or_fdiv (jw_var 2) (JE.w (je_int)))) (JE.w (je_callB cr_len (by rfl) T.b_len (by decide +kernel) (jaw_cons (jw_var 3) (jaw_nil))))))) (ja_nil))))) (js_nil)) (js_cons (js_if (JTW.t (jw_and (jt_cmp (or_eq (hu_ hr (by decide))) (JE.w (je_op or_mod (JE.w (je_op or_fdiv (jw_var 2) (JE.w (je_int)))) (JE.w (je_int)))) (JE.w (je_int))) (jw_and1 (jt_cmp (or_ne (hu_ hr (by decide))) (jw_var 4) (JE.w (je_str [])))))) (js_cons (js_set 5 sc__law_line.nd (je_op or_mod (JE.w (je_op or_fdiv (jw_var 2) (JE.w (je_int)))) (JE.w (je_callB cr_len (by rfl) T.b_len (by decide +kernel) (jaw_cons (jw_var 4) (jaw_nil)))))) (js_one (js_set 4 sc__law_line.nd (je_op or_add (JE.w (je_op or_add (JE.w (je_slice or_sl (jw_var 4) (jo_none) (jo_some (jw_var 5)))) (JE.w (je_ix or_ix (JE.w (je_str [108, 115, 101])) (JE.w (je_op or_mod (JE.w (je_op or_fdiv (jw_var 2) (JE.w (je_int)))) (JE.w (je_int)))))))) (JE.w (je_slice or_sl (jw_var 4) (jo_some (JE.w (je_op or_add (jw_var 5) (JE.w (je_int))))) (jo_none))))))) (js_nil)) (js_cons (js_if (jt_cmp (or_eq (hu_ hr (by decide))) (JE.w (je_op or_mod (JE.w (je_op or_fdiv (jw_var 2) (JE.w (je_int)))) (JE.w (je_int)))) (JE.w (je_int))) (js_one (js_set 4 sc__law_line.nd (je_join (JE.w (je_str [])) (jaw_cons (JE.w (je_lc rfl sc__law_line.nd (JI.w (ji_enum rfl (by rfl) T.b_enumerate (je_var 4))) (blkOk_by (own := [("_law_k", 7), ("_law_sign", 9)]) (by kernel_rfl)) (fun s H C cl fp => jg_tup rfl (jgs_cons (jg_name 7 sc__law_line.nd) (jgs_cons (jg_name 9 sc__law_line.nd) (jgs_nil)))) (fun s H C cl fp => jts_nil) (fun s H C cl fp => je_ix or_ix (JE.w (je_lst (ja_cons (je_var 9) (ja_cons (je_str [101]) (ja_nil))))) (JE.w (je_callTy cr_intD (by rfl) T.b_int (by decide +kernel) (jaw_cons (JE.w (je_cmp (or_eq (hu_ hr (by decide))) (JE.w (je_op or_mod (JE.w (je_op or_fdiv (JE.w (je_callH H__law_drawn hr (by decide) (by rfl) (ja_cons (je_var 2) (ja_cons (je_op or_add (JE.w (je_int)) (jw_var 7)) (ja_nil))))) (JE.w (je_int)))) (JE.w (je_int)))) (JE.w (je_int)))) (jaw_nil))))))) (jaw_nil))))) (js_nil)) (js_cons (js_set 6 sc__law_line.nd (je_tup (ja_nil))) (js_cons (js_set 7 sc__law_line.nd (je_int)) (js_cons (js_while WN PassesOwn.never (JTW.t (jw_and (jt_cmp (or_ne (hu_ hr (by decide))) (jw_var 4) (JE.w (je_str []))) (jw_and1 (jt_cmp or_lt (JE.w (je_callB cr_len (by rfl) T.b_len (by decide +kernel) (jaw_cons (jw_var 6) (jaw_nil)))) (JE.w (je_int)))))) (js_cons (js_set 8 sc__law_line.nd (je_op or_add (JE.w (je_int)) (JE.w (je_op or_mod (JE.w (je_op or_fdiv (JE.w (je_callH H__law_drawn hr (by decide) (by rfl) (ja_cons (je_var 2) (ja_cons (je_op or_add (JE.w (je_int)) (jw_var 7)) (ja_nil))))) (JE.w (je_int)))) (JE.w (je_int)))))) (js_cons (js_set 6 sc__law_line.nd (je_op or_add (jw_var 6) (JE.w (je_tup (ja_cons (je_slice or_sl (jw_var 4) (jo_none) (jo_some (jw_var 8))) (ja_nil)))))) (js_cons (js_set 4 sc__law_line.nd (je_slice or_sl (jw_var 4) (jo_some (jw_var 8)) (jo_none))) (js_one (js_set 7 sc__law_line.nd (je_op or_add (jw_var 7) (JE.w (je_int))))))))) (js_one (js_ret (je_var 6)))))))))))
theorem ok__law_agreed (T : Blt mg)  (F : FnP K "_law_agreed" s__law_agreed f fd) : FnOk P w K mg base CX0 1 f fd ["_law_text", "_law_shape_here"] (spD K 2 G__law_agreed) :=
  mkFn F sc__law_agreed rfl fun cdv A outer s H E hr =>
    (js_cons (js_for PassesOwn.never rfl ((ji_range1 (by rfl) T.b_range (jaw_cons (JE.w (je_callB (cr_min2D rfl) (by rfl) T.b_min (by decide +kernel) (jaw_cons (JE.w (je_callB cr_len (by rfl) T.b_len (by decide +kernel) (jaw_cons (jw_var 0) (jaw_nil)))) (jaw_cons (JE.w (je_callB cr_len (by rfl) T.b_len (by decide +kernel) (jaw_cons (jw_var 1) (jaw_nil)))) (jaw_nil))))) (jaw_nil)))) (jg_name 2 sc__law_agreed.nd) (js_one (js_if (jt_cmp (or_ninX (hu_ hr (by decide))) (JE.w (je_ix or_ix (jw_var 0) (jw_var 2))) (JE.w (je_tup (ja_cons (je_ix or_ix (jw_var 1) (jw_var 2)) (ja_cons (je_str [101]) (ja_nil)))))) (js_one (js_ret (je_var 2))) (js_nil)))) (js_one (js_ret (je_callB (cr_min2D rfl) (by rfl) T.b_min (by decide +kernel) (jaw_cons (JE.w (je_callB cr_len (by rfl) T.b_len (by decide +kernel) (jaw_cons (jw_var 0) (jaw_nil)))) (jaw_cons (JE.w (je_callB cr_len (by rfl) T.b_len (by decide +kernel) (jaw_cons (jw_var 1) (jaw_nil)))) (jaw_nil)))))))
theorem ok_law (T : Blt mg) (H__law_mixed : Has P w K mg base 2 "_law_mixed" ["_law_script", "_law_k"] G__law_mixed) (H__law_tongue : Has P w K mg base 3 "_law_tongue" ["_law_number"] G__law_tongue) (H__law_measure : Has P w K mg base 2 "_law_measure" ["_law_tongue_here", "_law_number", "_law_most"] G__law_measure) (H_with_loose : Has P w K mg base 1 "with_loose" ["measure", "loose"] G_with_loose) (H__law_line : Has P w K mg base 3 "_law_line" ["_law_tongue_here", "_law_measure_here", "_law_number"] G__law_line) (H_furthest : Has P w K mg base 3 "furthest" ["tongue", "measure", "line"] G_furthest) (H_fits : Has P w K mg base 6 "fits" ["tongue", "measure", "line"] G_fits) (H_shapes : Has P w K mg base 4 "shapes" ["tongue", "measure"] G_shapes) (H__law_agreed : Has P w K mg base 1 "_law_agreed" ["_law_text", "_law_shape_here"] G__law_agreed) (H_joined : Has P w K mg base 1 "joined" ["one", "other"] G_joined) (H_freed : Has P w K mg base 1 "freed" ["measure"] G_freed) (H_cut : Has P w K mg base 1 "cut" ["measure", "many"] G_cut) (F : FnP K "law" s_law f fd) : FnOk P w K mg base CX0 7 f fd ["_law_script"] (spD K 1 G_law_k23) :=
  mkFn F sc_law rfl fun cdv A outer s H E hr =>
    (js_cons (js_set 1 sc_law.nd (je_callH H__law_tongue hr (by decide) (by rfl) (ja_cons (je_callH H__law_mixed hr (by decide) (by rfl) (ja_cons (je_var 0) (ja_cons (je_int) (ja_nil)))) (ja_nil)))) (js_cons (js_set 2 sc_law.nd (je_callH H_with_loose hr (by decide) (by rfl) (ja_cons (je_callH H__law_measure hr (by decide) (by rfl) (ja_cons (je_var 1) (ja_cons (je_callH H__law_mixed hr (by decide) (by rfl) (ja_cons (je_var 0) (ja_cons (je_int) (ja_nil)))) (ja_cons (je_int) (ja_nil))))) (ja_cons (je_bl) (ja_nil))))) (js_cons (js_set 3 sc_law.nd (je_callH H__law_line hr (by decide) (by rfl) (ja_cons (je_var 1) (ja_cons (je_var 2) (ja_cons (je_callH H__law_mixed hr (by decide) (by rfl) (ja_cons (je_var 0) (ja_cons (je_int) (ja_nil)))) (ja_nil)))))) (js_cons (js_set 4 sc_law.nd (je_join (JE.w (je_str [])) (jaw_cons (jw_var 3) (jaw_nil)))) (js_cons (js_set 5 sc_law.nd (je_callH H_furthest hr (by decide) (by rfl) (ja_cons (je_var 1) (ja_cons (je_var 2) (ja_cons (je_var 3) (ja_nil)))))) (js_cons (js_if (JTW.t (jw_or (jt_cmp or_gt (jw_var 5) (JE.w (je_callB cr_len (by rfl) T.b_len (by decide +kernel) (jaw_cons (jw_var 4) (jaw_nil))))) (jw_or1 (JTW.t (jw_and (jt_val (je_callH H_fits hr (by decide) (by rfl) (ja_cons (je_var 1) (ja_cons (je_var 2) (ja_cons (je_var 3) (ja_nil)))))) (jw_and1 (jt_cmp (or_ne (hu_ hr (by decide))) (jw_var 5) (JE.w (je_callB cr_len (by rfl) T.b_len (by decide +kernel) (jaw_cons (jw_var 4) (jaw_nil))))))))))) (js_one (js_ret (je_bl))) (js_nil)) (js_cons (js_for PassesOwn.never rfl ((ji_range1 (by rfl) T.b_range (jaw_cons (JE.w (je_op or_add (JE.w (je_callB cr_len (by rfl) T.b_len (by decide +kernel) (jaw_cons (jw_var 4) (jaw_nil)))) (JE.w (je_int)))) (jaw_nil)))) (jg_name 6 sc_law.nd) (js_one (js_if (jt_cmp (or_ne (hu_ hr (by decide))) (JE.w (je_callH H_furthest hr (by decide) (by rfl) (ja_cons (je_var 1) (ja_cons (je_var 2) (ja_cons (je_callTy (cr_tupleX rfl) (by rfl) T.b_tuple (by decide +kernel) (jaw_cons (JE.w (je_slice or_sl (jw_var 4) (jo_none) (jo_some (jw_var 6)))) (jaw_nil))) (ja_nil)))))) (JE.w (je_callB (cr_min2D rfl) (by rfl) T.b_min (by decide +kernel) (jaw_cons (jw_var 6) (jaw_cons (jw_var 5) (jaw_nil)))))) (js_one (js_ret (je_bl))) (js_nil)))) (js_cons (js_if (jt_cmp (or_ne (hu_ hr (by decide))) (jw_var 5) (JE.w (je_callB (cr_max1D rfl) (by rfl) T.b_max (by decide +kernel) (jaw_cons (JE.w (je_op or_add (JE.w (je_lst (ja_cons (je_int) (ja_nil)))) (JE.w (je_lc rfl sc_law.nd (ji_seqW (JE.w (je_callH H_shapes hr (by decide) (by rfl) (ja_cons (je_var 1) (ja_cons (je_var 2) (ja_nil)))))) (blkOk_by (own := [("_law_shape_here", 8)]) (by kernel_rfl)) (fun s H C cl fp => jg_name 8 sc_law.nd) (fun s H C cl fp => jts_nil) (fun s H C cl fp => je_callH H__law_agreed hr (by decide) (by rfl) (ja_cons (je_var 4) (ja_cons (je_var 8) (ja_nil)))))))) (jaw_nil))))) (js_one (js_ret (je_bl))) (js_nil)) (js_cons (js_set 7 sc_law.nd (je_callH H_with_loose hr (by decide) (by rfl) (ja_cons (je_callH H__law_measure hr (by decide) (by rfl) (ja_cons (je_var 1) (ja_cons (je_callH H__law_mixed hr (by decide) (by rfl) (ja_cons (je_var 0) (ja_cons (je_int) (ja_nil)))) (ja_cons (je_int) (ja_nil))))) (ja_cons (je_bl) (ja_nil))))) (js_cons (js_if (JTW.t (jw_or (jt_cmp or_lt (JE.w (je_callH H_furthest hr (by decide) (by rfl) (ja_cons (je_var 1) (ja_cons (je_callH H_joined hr (by decide) (by rfl) (ja_cons (je_var 2) (ja_cons (je_var 7) (ja_nil)))) (ja_cons (je_var 3) (ja_nil)))))) (jw_var 5)) (jw_or1 (jt_cmp (or_ne (hu_ hr (by decide))) (JE.w (je_callH H_furthest hr (by decide) (by rfl) (ja_cons (je_var 1) (ja_cons (je_callH H_freed hr (by decide) (by rfl) (ja_cons (je_var 2) (ja_nil))) (ja_cons (je_var 3) (ja_nil)))))) (jw_var 5))))) (js_one (js_ret (je_bl))) (js_nil)) (js_one (js_ret (je_cmp or_le (JE.w (je_callH H_furthest hr (by decide) (by rfl) (ja_cons (je_var 1) (ja_cons (je_callH H_cut hr (by decide) (by rfl) (ja_cons (je_var 2) (ja_cons (je_op or_fdiv (JE.w (je_callB cr_len (by rfl) T.b_len (by decide +kernel) (jaw_cons (JE.w (je_ix or_ix (jw_var 2) (JE.w (je_int)))) (jaw_nil)))) (JE.w (je_int))) (ja_nil)))) (ja_cons (je_var 3) (ja_nil)))))) (jw_var 5))))))))))))))
end
/-! the head: facts by names, the run -/
def d_signs : He.DefD := ⟨("signs", none), "signs", "signs", defArgs s_signs, defBody s_signs, defScope s_signs, [], []⟩
def d_ends : He.DefD := ⟨("ends", none), "ends", "ends", defArgs s_ends, defBody s_ends, defScope s_ends, [], []⟩
def d_forms_of : He.DefD := ⟨("forms_of", none), "forms_of", "forms_of", defArgs s_forms_of, defBody s_forms_of, defScope s_forms_of, [], []⟩
def d_pairs_of : He.DefD := ⟨("pairs_of", none), "pairs_of", "pairs_of", defArgs s_pairs_of, defBody s_pairs_of, defScope s_pairs_of, [], []⟩
def d_agree : He.DefD := ⟨("agree", none), "agree", "agree", defArgs s_agree, defBody s_agree, defScope s_agree, [], []⟩
def d_agrees_at_end : He.DefD := ⟨("agrees_at_end", none), "agrees_at_end", "agrees_at_end", defArgs s_agrees_at_end, defBody s_agrees_at_end, defScope s_agrees_at_end, [], []⟩
def d_keeps_breaks : He.DefD := ⟨("keeps_breaks", none), "keeps_breaks", "keeps_breaks", defArgs s_keeps_breaks, defBody s_keeps_breaks, defScope s_keeps_breaks, [], []⟩
def d_rows_for : He.DefD := ⟨("rows_for", none), "rows_for", "rows_for", defArgs s_rows_for, defBody s_rows_for, defScope s_rows_for, [], []⟩
def d_ways : He.DefD := ⟨("ways", none), "ways", "ways", defArgs s_ways, defBody s_ways, defScope s_ways, [], []⟩
def d_many_ways : He.DefD := ⟨("many_ways", none), "many_ways", "many_ways", defArgs s_many_ways, defBody s_many_ways, defScope s_many_ways, [], []⟩
def d_fits : He.DefD := ⟨("fits", none), "fits", "fits", defArgs s_fits, defBody s_fits, defScope s_fits, [], []⟩
def d_laid_part : He.DefD := ⟨("laid_part", none), "laid_part", "laid_part", defArgs s_laid_part, defBody s_laid_part, defScope s_laid_part, [], []⟩
def d_furthest : He.DefD := ⟨("furthest", none), "furthest", "furthest", defArgs s_furthest, defBody s_furthest, defScope s_furthest, [], []⟩
def d_joined : He.DefD := ⟨("joined", none), "joined", "joined", defArgs s_joined, defBody s_joined, defScope s_joined, [], []⟩
def d_cut : He.DefD := ⟨("cut", none), "cut", "cut", defArgs s_cut, defBody s_cut, defScope s_cut, [], []⟩
def d_freed : He.DefD := ⟨("freed", none), "freed", "freed", defArgs s_freed, defBody s_freed, defScope s_freed, [], []⟩
def d_with_loose : He.DefD := ⟨("with_loose", none), "with_loose", "with_loose", defArgs s_with_loose, defBody s_with_loose, defScope s_with_loose, [], []⟩
def d_all_rows : He.DefD := ⟨("all_rows", none), "all_rows", "all_rows", defArgs s_all_rows, defBody s_all_rows, defScope s_all_rows, [], []⟩
def d_shape_of : He.DefD := ⟨("shape_of", none), "shape_of", "shape_of", defArgs s_shape_of, defBody s_shape_of, defScope s_shape_of, [], []⟩
def d_loosened : He.DefD := ⟨("loosened", none), "loosened", "loosened", defArgs s_loosened, defBody s_loosened, defScope s_loosened, [], []⟩
def d_shapes : He.DefD := ⟨("shapes", none), "shapes", "shapes", defArgs s_shapes, defBody s_shapes, defScope s_shapes, [], []⟩
def d__law_cell_at : He.DefD := ⟨("_law_cell_at", none), "_law_cell_at", "_law_cell_at", defArgs s__law_cell_at, defBody s__law_cell_at, defScope s__law_cell_at, [], []⟩
def d__law_mixed : He.DefD := ⟨("_law_mixed", none), "_law_mixed", "_law_mixed", defArgs s__law_mixed, defBody s__law_mixed, defScope s__law_mixed, [], []⟩
def d__law_drawn : He.DefD := ⟨("_law_drawn", none), "_law_drawn", "_law_drawn", defArgs s__law_drawn, defBody s__law_drawn, defScope s__law_drawn, [], []⟩
def d__law_form : He.DefD := ⟨("_law_form", none), "_law_form", "_law_form", defArgs s__law_form, defBody s__law_form, defScope s__law_form, [], []⟩
def d__law_tongue : He.DefD := ⟨("_law_tongue", none), "_law_tongue", "_law_tongue", defArgs s__law_tongue, defBody s__law_tongue, defScope s__law_tongue, [], []⟩
def d__law_measure : He.DefD := ⟨("_law_measure", none), "_law_measure", "_law_measure", defArgs s__law_measure, defBody s__law_measure, defScope s__law_measure, [], []⟩
def d__law_rows : He.DefD := ⟨("_law_rows", none), "_law_rows", "_law_rows", defArgs s__law_rows, defBody s__law_rows, defScope s__law_rows, [], []⟩
def d__law_shape : He.DefD := ⟨("_law_shape", none), "_law_shape", "_law_shape", defArgs s__law_shape, defBody s__law_shape, defScope s__law_shape, [], []⟩
def d__law_line : He.DefD := ⟨("_law_line", none), "_law_line", "_law_line", defArgs s__law_line, defBody s__law_line, defScope s__law_line, [], []⟩
def d__law_agreed : He.DefD := ⟨("_law_agreed", none), "_law_agreed", "_law_agreed", defArgs s__law_agreed, defBody s__law_agreed, defScope s__law_agreed, [], []⟩
def d_law : He.DefD := ⟨("law", none), "law", "law", defArgs s_law, defBody s_law, defScope s_law, [], []⟩
def fn : List He.DefD := ([d_signs, d_ends, d_forms_of, d_pairs_of, d_agree, d_agrees_at_end, d_keeps_breaks, d_rows_for, d_ways, d_many_ways, d_fits, d_laid_part, d_furthest, d_joined, d_cut, d_freed] : List He.DefD) ++ ([d_with_loose, d_all_rows, d_shape_of, d_loosened, d_shapes, d__law_cell_at, d__law_mixed, d__law_drawn, d__law_form, d__law_tongue, d__law_measure, d__law_rows, d__law_shape, d__law_line, d__law_agreed, d_law] : List He.DefD)
def fa : List He.Fa := ([.glo "signs", .glo "ends", .glo "forms_of", .glo "pairs_of", .glo "agree", .glo "agrees_at_end", .glo "keeps_breaks", .glo "rows_for", .glo "ways", .glo "many_ways", .glo "fits", .glo "laid_part", .glo "furthest", .glo "joined", .glo "cut", .glo "freed"] : List He.Fa) ++ ([.glo "with_loose", .glo "all_rows", .glo "shape_of", .glo "loosened", .glo "shapes", .glo "_law_cell_at", .glo "_law_mixed", .glo "_law_drawn", .glo "_law_form", .glo "_law_tongue", .glo "_law_measure", .glo "_law_rows", .glo "_law_shape", .glo "_law_line", .glo "_law_agreed", .glo "law"] : List He.Fa) ++ ([.free "all", .free "enumerate", .free "int", .free "len", .free "max", .free "min", .free "range", .free "set", .free "sorted", .free "sum", .free "tuple", .free "zip", .str "CLEAR" "ls"] : List He.Fa)
abbrev R : PySem.W.OpenRow := PySem.W.OpenLaw.row PySem.Challenge.rw_footlines_k23_whole_how_far
abbrev hk : PySem.W.Hook := He.hookD 4 fa fn
def ob (s : PySem.W.SharedT) : He.AlD := He.obsDG 4 fa fn (HandSHeadRun.getT s)
theorem ob_eq (s : PySem.W.SharedT) : ob s = hk.obs s.abs := He.obsDG_eq (HandSHeadRun.getT_eq s)
def names : List PySem.Str := (["signs", "ends", "forms_of", "pairs_of", "agree", "agrees_at_end", "keeps_breaks", "rows_for", "ways", "many_ways", "fits", "laid_part", "furthest", "joined", "cut", "freed"] : List PySem.Str) ++ (["with_loose", "all_rows", "shape_of", "loosened", "shapes", "_law_cell_at", "_law_mixed", "_law_drawn", "_law_form", "_law_tongue", "_law_measure", "_law_rows", "_law_shape", "_law_shapes", "_law_line", "_law_ends"] : List PySem.Str) ++ (["_law_is_way", "_law_ways", "_law_agreed", "FootError", "NoFoot", "CLEAR"] : List PySem.Str)
theorem run (w : World) : HandSHeadRun.RunEq R (PySem.W.view R.prog [44]) hk ob 4000 names w := by
  intro os
  kernel_rfl
theorem facts {P : Program} {w : World} {K : PySem.W.Frag} {h : Heap} {mg : Str → Option Value} {f : Addr} (X : K.In h) (G : h.Ns mainGlobals mg) (hfa : mg ("law" : Str) = some (.ref f)) (c : He.SaysD fa fn K) :
    ∃ fd : FuncData, (∀ (s : Shared) (v : Value), BindsTo s fd ⟨[v], []⟩ [("_law_script", v)]) ∧ ∀ base : Heap, K.In base → base.Ns mainGlobals mg → FnOk P w K mg base CX0 7 f fd ["_law_script"] (spD K 1 G_law_k23) := by
  have T : Blt mg := ⟨He.free_ok X G (c.fact 32 (f := .free "all") rfl), He.free_ok X G (c.fact 33 (f := .free "enumerate") rfl), He.free_ok X G (c.fact 34 (f := .free "int") rfl), He.free_ok X G (c.fact 35 (f := .free "len") rfl), He.free_ok X G (c.fact 36 (f := .free "max") rfl), He.free_ok X G (c.fact 37 (f := .free "min") rfl), He.free_ok X G (c.fact 38 (f := .free "range") rfl), He.free_ok X G (c.fact 39 (f := .free "set") rfl), He.free_ok X G (c.fact 40 (f := .free "sorted") rfl), He.free_ok X G (c.fact 41 (f := .free "sum") rfl), He.free_ok X G (c.fact 42 (f := .free "tuple") rfl), He.free_ok X G (c.fact 43 (f := .free "zip") rfl), (by obtain ⟨t, e⟩ := He.str_ok X G (c.fact 44 (f := .str "CLEAR" "ls") rfl); exact ⟨t, by rw [e]; exact congrArg some (congrArg (Value.str · t) (by decide +kernel))⟩)⟩
  obtain ⟨fd_signs, F_signs⟩ := c.def_ 0 (d := d_signs) rfl
  obtain ⟨fd_ends, F_ends⟩ := c.def_ 1 (d := d_ends) rfl
  obtain ⟨fd_forms_of, F_forms_of⟩ := c.def_ 2 (d := d_forms_of) rfl
  obtain ⟨fd_pairs_of, F_pairs_of⟩ := c.def_ 3 (d := d_pairs_of) rfl
  obtain ⟨fd_agree, F_agree⟩ := c.def_ 4 (d := d_agree) rfl
  obtain ⟨fd_agrees_at_end, F_agrees_at_end⟩ := c.def_ 5 (d := d_agrees_at_end) rfl
  obtain ⟨fd_keeps_breaks, F_keeps_breaks⟩ := c.def_ 6 (d := d_keeps_breaks) rfl
  obtain ⟨fd_rows_for, F_rows_for⟩ := c.def_ 7 (d := d_rows_for) rfl
  obtain ⟨fd_ways, F_ways⟩ := c.def_ 8 (d := d_ways) rfl
  obtain ⟨fd_many_ways, F_many_ways⟩ := c.def_ 9 (d := d_many_ways) rfl
  obtain ⟨fd_fits, F_fits⟩ := c.def_ 10 (d := d_fits) rfl
  obtain ⟨fd_laid_part, F_laid_part⟩ := c.def_ 11 (d := d_laid_part) rfl
  obtain ⟨fd_furthest, F_furthest⟩ := c.def_ 12 (d := d_furthest) rfl
  obtain ⟨fd_joined, F_joined⟩ := c.def_ 13 (d := d_joined) rfl
  obtain ⟨fd_cut, F_cut⟩ := c.def_ 14 (d := d_cut) rfl
  obtain ⟨fd_freed, F_freed⟩ := c.def_ 15 (d := d_freed) rfl
  obtain ⟨fd_with_loose, F_with_loose⟩ := c.def_ 16 (d := d_with_loose) rfl
  obtain ⟨fd_all_rows, F_all_rows⟩ := c.def_ 17 (d := d_all_rows) rfl
  obtain ⟨fd_shape_of, F_shape_of⟩ := c.def_ 18 (d := d_shape_of) rfl
  obtain ⟨fd_loosened, F_loosened⟩ := c.def_ 19 (d := d_loosened) rfl
  obtain ⟨fd_shapes, F_shapes⟩ := c.def_ 20 (d := d_shapes) rfl
  obtain ⟨fd__law_cell_at, F__law_cell_at⟩ := c.def_ 21 (d := d__law_cell_at) rfl
  obtain ⟨fd__law_mixed, F__law_mixed⟩ := c.def_ 22 (d := d__law_mixed) rfl
  obtain ⟨fd__law_drawn, F__law_drawn⟩ := c.def_ 23 (d := d__law_drawn) rfl
  obtain ⟨fd__law_form, F__law_form⟩ := c.def_ 24 (d := d__law_form) rfl
  obtain ⟨fd__law_tongue, F__law_tongue⟩ := c.def_ 25 (d := d__law_tongue) rfl
  obtain ⟨fd__law_measure, F__law_measure⟩ := c.def_ 26 (d := d__law_measure) rfl
  obtain ⟨fd__law_rows, F__law_rows⟩ := c.def_ 27 (d := d__law_rows) rfl
  obtain ⟨fd__law_shape, F__law_shape⟩ := c.def_ 28 (d := d__law_shape) rfl
  obtain ⟨fd__law_line, F__law_line⟩ := c.def_ 29 (d := d__law_line) rfl
  obtain ⟨fd__law_agreed, F__law_agreed⟩ := c.def_ 30 (d := d__law_agreed) rfl
  obtain ⟨fd_law, F_law⟩ := c.def_ 31 (d := d_law) rfl
  have e := hfa.symm.trans (He.glo_ok X G (c.fact 31 (f := .glo "law") rfl))
  cases e
  have b := FunD.bindsA (ps := ["_law_script"]) F_law fun _ _ _ _ _ _ us hl => match us, hl with | [_], _ => rfl
  refine ⟨fd_law, fun s v => b s [v] rfl, fun base _ _ => ?_⟩
  have H_signs : Has P w K mg base 1 "signs" ["line"] G_signs := toHas (st := s_signs) F_signs (He.glo_ok X G (c.fact 0 (f := .glo "signs") rfl)) (ok_signs T  F_signs) fun _ _ _ _ _ _ us hl => match us, hl with | [_], _ => rfl
  have H_ends : Has P w K mg base 1 "ends" ["line"] G_ends := toHas (st := s_ends) F_ends (He.glo_ok X G (c.fact 1 (f := .glo "ends") rfl)) (ok_ends T  F_ends) fun _ _ _ _ _ _ us hl => match us, hl with | [_], _ => rfl
  have H_forms_of : Has P w K mg base 1 "forms_of" ["tongue", "name"] G_forms_of := toHas (st := s_forms_of) F_forms_of (He.glo_ok X G (c.fact 2 (f := .glo "forms_of") rfl)) (ok_forms_of T  F_forms_of) fun _ _ _ _ _ _ us hl => match us, hl with | [_, _], _ => rfl
  have H_pairs_of : Has P w K mg base 2 "pairs_of" ["tongue", "place"] G_pairs_of := toHas (st := s_pairs_of) F_pairs_of (He.glo_ok X G (c.fact 3 (f := .glo "pairs_of") rfl)) (ok_pairs_of T H_forms_of F_pairs_of) fun _ _ _ _ _ _ us hl => match us, hl with | [_, _], _ => rfl
  have H_agree : Has P w K mg base 1 "agree" ["text", "form"] G_agree := toHas (st := s_agree) F_agree (He.glo_ok X G (c.fact 4 (f := .glo "agree") rfl)) (ok_agree T  F_agree) fun _ _ _ _ _ _ us hl => match us, hl with | [_, _], _ => rfl
  have H_agrees_at_end : Has P w K mg base 2 "agrees_at_end" ["text", "form", "is_free"] G_agrees_at_end := toHas (st := s_agrees_at_end) F_agrees_at_end (He.glo_ok X G (c.fact 5 (f := .glo "agrees_at_end") rfl)) (ok_agrees_at_end T H_agree F_agrees_at_end) fun _ _ _ _ _ _ us hl => match us, hl with | [_, _, _], _ => rfl
  have H_keeps_breaks : Has P w K mg base 1 "keeps_breaks" ["measure", "way", "stops"] G_keeps_breaks := toHas (st := s_keeps_breaks) F_keeps_breaks (He.glo_ok X G (c.fact 6 (f := .glo "keeps_breaks") rfl)) (ok_keeps_breaks T  F_keeps_breaks) fun _ _ _ _ _ _ us hl => match us, hl with | [_, _, _], _ => rfl
  have H_rows_for : Has P w K mg base 3 "rows_for" ["tongue", "measure", "text"] G_rows_for := toHas (st := s_rows_for) F_rows_for (He.glo_ok X G (c.fact 7 (f := .glo "rows_for") rfl)) (ok_rows_for T H_pairs_of H_agree H_agrees_at_end F_rows_for) fun _ _ _ _ _ _ us hl => match us, hl with | [_, _, _], _ => rfl
  have H_ways : Has P w K mg base 4 "ways" ["tongue", "measure", "line"] G_ways := toHas (st := s_ways) F_ways (He.glo_ok X G (c.fact 8 (f := .glo "ways") rfl)) (ok_ways T H_ends H_signs H_rows_for H_keeps_breaks F_ways) fun _ _ _ _ _ _ us hl => match us, hl with | [_, _, _], _ => rfl
  have H_many_ways : Has P w K mg base 5 "many_ways" ["tongue", "measure", "line"] G_many_ways := toHas (st := s_many_ways) F_many_ways (He.glo_ok X G (c.fact 9 (f := .glo "many_ways") rfl)) (ok_many_ways T H_ways F_many_ways) fun _ _ _ _ _ _ us hl => match us, hl with | [_, _, _], _ => rfl
  have H_fits : Has P w K mg base 6 "fits" ["tongue", "measure", "line"] G_fits := toHas (st := s_fits) F_fits (He.glo_ok X G (c.fact 10 (f := .glo "fits") rfl)) (ok_fits T H_many_ways F_fits) fun _ _ _ _ _ _ us hl => match us, hl with | [_, _, _], _ => rfl
  have H_laid_part : Has P w K mg base 1 "laid_part" ["text", "form", "is_free"] G_laid_part := toHas (st := s_laid_part) F_laid_part (He.glo_ok X G (c.fact 11 (f := .glo "laid_part") rfl)) (ok_laid_part T  F_laid_part) fun _ _ _ _ _ _ us hl => match us, hl with | [_, _, _], _ => rfl
  have H_furthest : Has P w K mg base 3 "furthest" ["tongue", "measure", "line"] G_furthest := toHas (st := s_furthest) F_furthest (He.glo_ok X G (c.fact 12 (f := .glo "furthest") rfl)) (ok_furthest T H_signs H_pairs_of H_laid_part F_furthest) fun _ _ _ _ _ _ us hl => match us, hl with | [_, _, _], _ => rfl
  have H_joined : Has P w K mg base 1 "joined" ["one", "other"] G_joined := toHas (st := s_joined) F_joined (He.glo_ok X G (c.fact 13 (f := .glo "joined") rfl)) (ok_joined T  F_joined) fun _ _ _ _ _ _ us hl => match us, hl with | [_, _], _ => rfl
  have H_cut : Has P w K mg base 1 "cut" ["measure", "many"] G_cut := toHas (st := s_cut) F_cut (He.glo_ok X G (c.fact 14 (f := .glo "cut") rfl)) (ok_cut T  F_cut) fun _ _ _ _ _ _ us hl => match us, hl with | [_, _], _ => rfl
  have H_freed : Has P w K mg base 1 "freed" ["measure"] G_freed := toHas (st := s_freed) F_freed (He.glo_ok X G (c.fact 15 (f := .glo "freed") rfl)) (ok_freed T  F_freed) fun _ _ _ _ _ _ us hl => match us, hl with | [_], _ => rfl
  have H_with_loose : Has P w K mg base 1 "with_loose" ["measure", "loose"] G_with_loose := toHas (st := s_with_loose) F_with_loose (He.glo_ok X G (c.fact 16 (f := .glo "with_loose") rfl)) (ok_with_loose T  F_with_loose) fun _ _ _ _ _ _ us hl => match us, hl with | [_, _], _ => rfl
  have H_all_rows : Has P w K mg base 3 "all_rows" ["tongue", "measure"] G_all_rows := toHas (st := s_all_rows) F_all_rows (He.glo_ok X G (c.fact 17 (f := .glo "all_rows") rfl)) (ok_all_rows T H_pairs_of F_all_rows) fun _ _ _ _ _ _ us hl => match us, hl with | [_, _], _ => rfl
  have H_shape_of : Has P w K mg base 1 "shape_of" ["row"] G_shape_of := toHas (st := s_shape_of) F_shape_of (He.glo_ok X G (c.fact 18 (f := .glo "shape_of") rfl)) (ok_shape_of T  F_shape_of) fun _ _ _ _ _ _ us hl => match us, hl with | [_], _ => rfl
  have H_loosened : Has P w K mg base 1 "loosened" ["shape", "loose"] G_loosened := toHas (st := s_loosened) F_loosened (He.glo_ok X G (c.fact 19 (f := .glo "loosened") rfl)) (ok_loosened T  F_loosened) fun _ _ _ _ _ _ us hl => match us, hl with | [_, _], _ => rfl
  have H_shapes : Has P w K mg base 4 "shapes" ["tongue", "measure"] G_shapes := toHas (st := s_shapes) F_shapes (He.glo_ok X G (c.fact 20 (f := .glo "shapes") rfl)) (ok_shapes T H_all_rows H_shape_of H_loosened F_shapes) fun _ _ _ _ _ _ us hl => match us, hl with | [_, _], _ => rfl
  have H__law_cell_at : Has P w K mg base 1 "_law_cell_at" ["_law_script", "_law_k"] G__law_cell_at := toHas (st := s__law_cell_at) F__law_cell_at (He.glo_ok X G (c.fact 21 (f := .glo "_law_cell_at") rfl)) (ok__law_cell_at T  F__law_cell_at) fun _ _ _ _ _ _ us hl => match us, hl with | [_, _], _ => rfl
  have H__law_mixed : Has P w K mg base 2 "_law_mixed" ["_law_script", "_law_k"] G__law_mixed := toHas (st := s__law_mixed) F__law_mixed (He.glo_ok X G (c.fact 22 (f := .glo "_law_mixed") rfl)) (ok__law_mixed T H__law_cell_at F__law_mixed) fun _ _ _ _ _ _ us hl => match us, hl with | [_, _], _ => rfl
  have H__law_drawn : Has P w K mg base 1 "_law_drawn" ["_law_number", "_law_k"] G__law_drawn := toHas (st := s__law_drawn) F__law_drawn (He.glo_ok X G (c.fact 23 (f := .glo "_law_drawn") rfl)) (ok__law_drawn T  F__law_drawn) fun _ _ _ _ _ _ us hl => match us, hl with | [_, _], _ => rfl
  have H__law_form : Has P w K mg base 2 "_law_form" ["_law_number", "_law_most"] G__law_form := toHas (st := s__law_form) F__law_form (He.glo_ok X G (c.fact 24 (f := .glo "_law_form") rfl)) (ok__law_form T H__law_drawn F__law_form) fun _ _ _ _ _ _ us hl => match us, hl with | [_, _], _ => rfl
  have H__law_tongue : Has P w K mg base 3 "_law_tongue" ["_law_number"] G__law_tongue := toHas (st := s__law_tongue) F__law_tongue (He.glo_ok X G (c.fact 25 (f := .glo "_law_tongue") rfl)) (ok__law_tongue T H__law_drawn H__law_form F__law_tongue) fun _ _ _ _ _ _ us hl => match us, hl with | [_], _ => rfl
  have H__law_measure : Has P w K mg base 2 "_law_measure" ["_law_tongue_here", "_law_number", "_law_most"] G__law_measure := toHas (st := s__law_measure) F__law_measure (He.glo_ok X G (c.fact 26 (f := .glo "_law_measure") rfl)) (ok__law_measure T H__law_drawn F__law_measure) fun _ _ _ _ _ _ us hl => match us, hl with | [_, _, _], _ => rfl
  have H__law_rows : Has P w K mg base 1 "_law_rows" ["_law_tongue_here", "_law_measure_here"] G__law_rows := toHas (st := s__law_rows) F__law_rows (He.glo_ok X G (c.fact 27 (f := .glo "_law_rows") rfl)) (ok__law_rows T  F__law_rows) fun _ _ _ _ _ _ us hl => match us, hl with | [_, _], _ => rfl
  have H__law_shape : Has P w K mg base 1 "_law_shape" ["_law_row"] G__law_shape := toHas (st := s__law_shape) F__law_shape (He.glo_ok X G (c.fact 28 (f := .glo "_law_shape") rfl)) (ok__law_shape T  F__law_shape) fun _ _ _ _ _ _ us hl => match us, hl with | [_], _ => rfl
  have H__law_line : Has P w K mg base 3 "_law_line" ["_law_tongue_here", "_law_measure_here", "_law_number"] G__law_line := toHas (st := s__law_line) F__law_line (He.glo_ok X G (c.fact 29 (f := .glo "_law_line") rfl)) (ok__law_line T H__law_rows H__law_form H__law_shape H__law_drawn F__law_line) fun _ _ _ _ _ _ us hl => match us, hl with | [_, _, _], _ => rfl
  have H__law_agreed : Has P w K mg base 1 "_law_agreed" ["_law_text", "_law_shape_here"] G__law_agreed := toHas (st := s__law_agreed) F__law_agreed (He.glo_ok X G (c.fact 30 (f := .glo "_law_agreed") rfl)) (ok__law_agreed T  F__law_agreed) fun _ _ _ _ _ _ us hl => match us, hl with | [_, _], _ => rfl
  exact ok_law T H__law_mixed H__law_tongue H__law_measure H_with_loose H__law_line H_furthest H_fits H_shapes H__law_agreed H_joined H_freed H_cut F_law
end FoW
open PySem PySem.W PySem.Calls PyProof.Rows in
theorem FoW.fin (math : ∀ ns : List Int, ns.length ≤ 63 → Fo.G_law_k23 [.scr ns] = some (.bl true)) : PySem.Challenge.rw_footlines_k23_whole_how_far.Holds := by
  w_on; o_law
  refine HandSHeadRun.head_any (r := OpenLaw.row PySem.Challenge.rw_footlines_k23_whole_how_far) (q := view (OpenLaw.row PySem.Challenge.rw_footlines_k23_whole_how_far).prog [44]) (H := FoW.hk) (ob := FoW.ob) (M := 4000) (loose := FoW.names) (d := HandSHeadRun.topDef (OpenLaw.row PySem.Challenge.rw_footlines_k23_whole_how_far).prog 44) (kwd := []) FoW.ob_eq
    (by kernel_rfl) (fun s => by kernel_rfl) FoW.run (by kernel_rfl) (by kernel_rfl) (by kernel_rfl) (by rfl) (by first | assumption | decide +kernel) (by decide +kernel) ⟨rfl, rfl, rfl, rfl, rfl, by decide +kernel⟩ ?hw ?hc
  case hw => w_witness2
  case hc =>
    refine L2.walk_ofE (l := PySem.Challenge.rw_footlines_k23_whole_how_far) (n := 63) (k := 7) (x := "_law_script") (CX := L2.CX0) rfl (by decide) (by kernel_rfl) ⟨rfl, by decide, by decide⟩ ?F (fun _ _ _ _ z => z)
    intro w mg fa h Y G hmg0
    obtain ⟨K, KX, c⟩ := Y
    have hmg : mg ("law" : PySem.Str) = some (.ref fa) := by
      have e : (HandSHeadRun.topDef (OpenLaw.row PySem.Challenge.rw_footlines_k23_whole_how_far).prog 44).name = ("law" : PySem.Str) := by kernel_rfl
      rw [← e]
      exact hmg0
    obtain ⟨fd, hb, hF⟩ := FoW.facts (P := (PySem.Challenge.rw_footlines_k23_whole_how_far).prog) (w := w) KX G hmg c
    exact ⟨K, fd, _, KX, hb, fun H a ns hl _ hS => Fo.sp_true math H a ns hl hS _, hF⟩
theorem PySem.Challenge.cw_footlines_k23_whole_how_far_holds : PySem.Challenge.rw_footlines_k23_whole_how_far.Holds := by
  exact FoW.fin fun ns hl => Fo.law_k23 ns
