import PyProof.Rows.All
import Wide.All
import OpenK.AllK
import Wide.FinOn
import HandS.ForMost
import HandS.Walk
import HandS.AnyAll
import HandS.IsInst
import HandS.Wide
import HandS.TupAny
import HandS.Deep
import HandS.ExcCtx
import HandS.HotCalls
import HandS.WordsExc
import HandS.Gcd
import HandS.FStr
import HandS.TupMul
import HandS.RevTup
import HandS.Rev
import HandS.Zip
import HandS.Conv
import HandS.Text
import HandS.Codes
import HandS.ExcIs
import HandS.Dict
import HandS.Sort
import HandS.TupSets
import HandS.Style
import PyProof.GenCompD
import HandS.Strs
import HandS.WideBits
import KE.GoesEnum
import KE.BitLaws
import PySem.Challenge.RW_setright_k36_whole_bars_and_long_code_wo
import HandS.EndTab
set_option Elab.async false
set_option linter.all false
set_option maxRecDepth 100000
set_option maxHeartbeats 4000000
namespace BL
open PySem L2

/-! ## growing heaps, deep data -/
def Ext (H H' : Hp) : Prop := ∀ a o, H a = some o → H' a = some o
theorem Ext.refl (H : Hp) : Ext H H := fun _ _ h => h
theorem Ext.trans {H H1 H2 : Hp} (a : Ext H H1) (b : Ext H1 H2) : Ext H H2 := fun x o h => b x o (a x o h)
theorem Ext.up {H : Hp} {p : Addr} {o : HO} (h : H p = none) : Ext H (upd H p o) := fun a u e => by
  rw [upd_ne (ne_of_none e h)]; exact e
theorem Ext.free {H H' : Hp} (e : Ext H H') {p : Addr} (h : H' p = none) : H p = none := by
  cases q : H p with
  | none => rfl
  | some o => rw [e p o q] at h; cases h
theorem Ext.rd {H H' : Hp} (e : Ext H H') {a : Addr} {u : HO} (h : Rd H a u) : Rd H' a u :=
  h.elim (fun z => .inl (e a _ z)) fun ⟨o, z⟩ => .inr ⟨o, e a _ z⟩
theorem Ext.sqL {H H' : Hp} {K : PySem.W.Frag} (e : Ext H H') {a : Addr} {xs : List V} (h : SqL K H a xs) : SqL K H' a xs := h.elim (fun z => .inl (e.rd z)) .inr
theorem Ext.sqT {H H' : Hp} {K : PySem.W.Frag} (e : Ext H H') {a : Addr} {xs : List V} (h : SqT K H a xs) : SqT K H' a xs := h.elim (fun z => .inl (e.rd z)) .inr
/-! data in the heap: lists are tracked ones, tuples may be written ones -/
mutual
inductive Dq (K : PySem.W.Frag) (B : Hp) : V → PyData → Prop
  | non : Dq K B .non .none
  | bl (b : Bool) : Dq K B (.bl b) (.bool b)
  | int (i : Int) : Dq K B (.int i) (.int i)
  | str (x : Str) : Dq K B (.str x) (.str x)
  | lst {a : Addr} {xs : List V} {ds : List PyData} : B a = some (.lst xs) → DqAll K B xs ds → Dq K B (.ref a) (.list ds)
  | tup {a : Addr} {xs : List V} {ds : List PyData} : Rd B a (.tup xs) → DqAll K B xs ds → Dq K B (.ref a) (.tuple ds)
inductive DqAll (K : PySem.W.Frag) (B : Hp) : List V → List PyData → Prop
  | nil : DqAll K B [] []
  | cons {v : V} {vs : List V} {d : PyData} {ds : List PyData} : Dq K B v d → DqAll K B vs ds → DqAll K B (v :: vs) (d :: ds)
end
mutual
theorem Ext.dp {H H' : Hp} {K : PySem.W.Frag} (e : Ext H H') : ∀ (d : PyData) (v : V), Dq K H v d → Dq K H' v d
  | .none, _, h => by cases h; exact .non
  | .bool b, _, h => by cases h; exact .bl b
  | .int i, _, h => by cases h; exact .int i
  | .str x, _, h => by cases h; exact .str x
  | .list ds, _, h => by
    cases h with
    | lst hs ha => exact .lst (e _ _ hs) (Ext.dps e ds _ ha)
  | .tuple ds, _, h => by
    cases h with
    | tup hs ha => exact .tup (e.rd hs) (Ext.dps e ds _ ha)
  | .dict _, _, h => by cases h
theorem Ext.dps {H H' : Hp} {K : PySem.W.Frag} (e : Ext H H') : ∀ (ds : List PyData) (vs : List V), DqAll K H vs ds → DqAll K H' vs ds
  | [], _, h => by cases h; exact .nil
  | d :: ds, _, h => by
    cases h with
    | cons h1 h2 => exact .cons (Ext.dp e d _ h1) (Ext.dps e ds _ h2)
end
mutual
theorem Dq.dp {H : Hp} {K : PySem.W.Frag} : ∀ (d : PyData) (v : V), Dq K H v d → Dp K H v d
  | .none, _, h => by cases h; exact .non
  | .bool b, _, h => by cases h; exact .bl b
  | .int i, _, h => by cases h; exact .int i
  | .str x, _, h => by cases h; exact .str x
  | .list ds, _, h => by
    cases h with
    | lst hs ha => exact .lst (.inl (.inl hs)) (DqAll.dp ds _ ha)
  | .tuple ds, _, h => by
    cases h with
    | tup hs ha => exact .tup (.inl hs) (DqAll.dp ds _ ha)
  | .dict _, _, h => by cases h
theorem DqAll.dp {H : Hp} {K : PySem.W.Frag} : ∀ (ds : List PyData) (vs : List V), DqAll K H vs ds → DpAll K H vs ds
  | [], _, h => by cases h; exact .nil
  | d :: ds, _, h => by
    cases h with
    | cons h1 h2 => exact .cons (Dq.dp d _ h1) (DqAll.dp ds _ h2)
end

/-! ## what a slot, an own object says -/
/-- an abstract value: data, however deep; or a value as it is (an own object's address, a class) -/
inductive AV where
  | d (x : PyData)
  | v (u : V)
  | s (ns : List Int)
  | f (l : List PyData)
  | p (l : List PyData)
def RepV (K : PySem.W.Frag) (B : Hp) : AV → V → Prop
  | .d x, u => Dq K B u x
  | .v w, u => u = w
  | .s ns, u => ∃ a, u = .ref a ∧ SqL K B a (ns.map V.int)
  | .f l, u => ∃ a xs o, u = .ref a ∧ o.dict = none ∧ B a = some (.frz o (.tup xs)) ∧ DqAll K B xs l
  | .p l, u => ∃ a xs, u = .ref a ∧ B a = some (.tup xs) ∧ DqAll K B xs l
abbrev RepVs (K : PySem.W.Frag) (B : Hp) : List AV → List V → Prop := Paired (RepV K B)
/-- an own object: this def alone changes it -/
inductive AO where
  | lst (xs : List AV)
  | dK (kvs : List (Key × AV))
  | dT (kvs : List (List Key × AV))
def RepO (K : PySem.W.Frag) (B : Hp) : AO → HO → Prop
  | .lst xs, o => ∃ vs, o = .lst vs ∧ RepVs K B xs vs
  | .dK kvs, o => ∃ ws, o = .dK ws ∧ Paired (fun (p : Key × AV) (q : Key × V) => p.1 = q.1 ∧ RepV K B p.2 q.2) kvs ws
  | .dT kvs, o => ∃ ws, o = .dT ws ∧ Paired (fun (p : List Key × AV) (q : List Key × V) => p.1 = q.1 ∧ RepV K B p.2 q.2) kvs ws
section
variable {K : PySem.W.Frag} {B B' : Hp}
theorem Ext.rep (e : Ext B B') : ∀ {a : AV} {u : V}, RepV K B a u → RepV K B' a u
  | .d x, u, h => e.dp x u h
  | .v w, u, h => h
  | .s ns, u, ⟨a, h1, h2⟩ => ⟨a, h1, e.sqL h2⟩
  | .f l, u, ⟨a, xs, o, h1, h2, h3, h4⟩ => ⟨a, xs, o, h1, h2, e _ _ h3, e.dps _ _ h4⟩
  | .p l, u, ⟨a, xs, h1, h3, h4⟩ => ⟨a, xs, h1, e _ _ h3, e.dps _ _ h4⟩
theorem Ext.reps (e : Ext B B') {as : List AV} {us : List V} (h : RepVs K B as us) : RepVs K B' as us := Paired.mapP h fun _ _ => e.rep
theorem Ext.repO (e : Ext B B') : ∀ {a : AO} {o : HO}, RepO K B a o → RepO K B' a o
  | .lst xs, o, ⟨vs, h1, h2⟩ => ⟨vs, h1, e.reps h2⟩
  | .dK xs, o, ⟨vs, h1, h2⟩ => ⟨vs, h1, Paired.mapP h2 fun _ _ z => ⟨z.1, e.rep z.2⟩⟩
  | .dT xs, o, ⟨vs, h1, h2⟩ => ⟨vs, h1, Paired.mapP h2 fun _ _ z => ⟨z.1, e.rep z.2⟩⟩
end
abbrev Own := Addr → Option AO
def updO (O : Own) (a : Addr) (o : AO) : Own := fun b => if b = a then some o else O b
def delO (O : Own) (a : Addr) : Own := fun b => if b = a then none else O b
theorem updO_same {O : Own} {a : Addr} {o : AO} : updO O a o a = some o := by unfold updO; rw [if_pos rfl]
theorem updO_ne {O : Own} {a b : Addr} {o : AO} (h : b ≠ a) : updO O a o b = O b := by unfold updO; rw [if_neg h]
theorem updO_updO {O : Own} {a : Addr} {o u : AO} : updO (updO O a o) a u = updO O a u := by
  funext b; unfold updO; split <;> rfl
def OLe (O O' : Own) : Prop := ∀ p o, O p = some o → O' p = some o
theorem OLe.refl (O : Own) : OLe O O := fun _ _ h => h
theorem OLe.trans {O O1 O2 : Own} (a : OLe O O1) (b : OLe O1 O2) : OLe O O2 := fun x o h => b x o (a x o h)
theorem OLe.up {O : Own} {p : Addr} {o : AO} (h : O p = none) : OLe O (updO O p o) := fun a u e => by
  rw [updO_ne (fun z => by rw [z, h] at e; cases e)]; exact e

/-- the frozen part B (data lives there, it only grows), the own objects O, the tables of code objects at T -/
structure Wd (K : PySem.W.Frag) (T : List Addr) (B : Hp) (O : Own) (H : Hp) : Prop where
  ex : Ext B H
  own : ∀ p ao, O p = some ao → B p = none ∧ ∃ o, H p = some o ∧ RepO K B ao o
  tab : ∀ p ∈ T, B p = none ∧ O p = none ∧ GxR.TabG H p
section
variable {K : PySem.W.Frag} {T : List Addr} {B : Hp} {O O' : Own} {H : Hp} {p : Addr} {ao : AO} {o : HO}
theorem Wd.freeB (w : Wd K T B O H) (h : H p = none) : B p = none := w.ex.free h
theorem Wd.freeO (w : Wd K T B O H) (h : H p = none) : O p = none := by
  cases q : O p with
  | none => rfl
  | some a =>
    obtain ⟨_, u, hu, _⟩ := w.own p a q
    rw [h] at hu; cases hu
theorem Wd.notT (w : Wd K T B O H) (h : H p = none) : p ∉ T := fun z => by
  obtain ⟨_, _, ps, hp, _⟩ := w.tab p z
  rw [h] at hp; cases hp
/-- a new object, frozen at once -/
theorem Wd.frz (w : Wd K T B O H) (h : H p = none) (o : HO) : Wd K T (upd B p o) O (upd H p o) where
  ex := fun a u e => by
    by_cases z : a = p
    · subst z; rw [upd_same] at e ⊢; exact e
    · rw [upd_ne z] at e ⊢; exact w.ex a u e
  own := fun q a e => by
    obtain ⟨h1, u, h2, h3⟩ := w.own q a e
    have n : q ≠ p := ne_of_none h2 h
    exact ⟨by rw [upd_ne n]; exact h1, u, by rw [upd_ne n]; exact h2, (Ext.up (w.freeB h)).repO h3⟩
  tab := fun q e => by
    obtain ⟨h1, h2, ps, h3, h4⟩ := w.tab q e
    have n : q ≠ p := ne_of_none h3 h
    exact ⟨by rw [upd_ne n]; exact h1, h2, ps, by rw [upd_ne n]; exact h3, h4⟩
/-- a new object of one's own -/
theorem Wd.new (w : Wd K T B O H) (h : H p = none) (r : RepO K B ao o) : Wd K T B (updO O p ao) (upd H p o) where
  ex := fun a u e => by rw [upd_ne (fun z => by rw [z, w.freeB h] at e; cases e)]; exact w.ex a u e
  own := fun q a e => by
    by_cases z : q = p
    · subst z; rw [updO_same] at e; cases e; exact ⟨w.freeB h, o, upd_same, r⟩
    · rw [updO_ne z] at e
      obtain ⟨h1, u, h2, h3⟩ := w.own q a e
      exact ⟨h1, u, by rw [upd_ne z]; exact h2, h3⟩
  tab := fun q e => by
    obtain ⟨h1, h2, ps, h3, h4⟩ := w.tab q e
    have n : q ≠ p := ne_of_none h3 h
    exact ⟨h1, by rw [updO_ne n]; exact h2, ps, by rw [upd_ne n]; exact h3, h4⟩
/-- an own object changes -/
theorem Wd.put {a0 : AO} (w : Wd K T B O H) (h : O p = some a0) (r : RepO K B ao o) : Wd K T B (updO O p ao) (upd H p o) where
  ex := fun a u e => by rw [upd_ne (fun z => by rw [z, (w.own p a0 h).1] at e; cases e)]; exact w.ex a u e
  own := fun q a e => by
    by_cases z : q = p
    · subst z; rw [updO_same] at e; cases e; exact ⟨(w.own q a0 h).1, o, upd_same, r⟩
    · rw [updO_ne z] at e
      obtain ⟨h1, u, h2, h3⟩ := w.own q a e
      exact ⟨h1, u, by rw [upd_ne z]; exact h2, h3⟩
  tab := fun q e => by
    obtain ⟨h1, h2, ps, h3, h4⟩ := w.tab q e
    have n : q ≠ p := fun z => by rw [z, h] at h2; cases h2
    exact ⟨h1, by rw [updO_ne n]; exact h2, ps, by rw [upd_ne n]; exact h3, h4⟩
theorem Wd.drop (w : Wd K T B O' H) (l : OLe O O') : Wd K T B O H where
  ex := w.ex
  own := fun q a e => w.own q a (l q a e)
  tab := fun q e => by
    obtain ⟨h1, h2, h3⟩ := w.tab q e
    refine ⟨h1, ?_, h3⟩
    cases z : O q with
    | none => rfl
    | some a => rw [l q a z] at h2; cases h2
end
theorem dps_of {K : PySem.W.Frag} {B : Hp} : ∀ {ds : List PyData} {vs : List V}, RepVs K B (ds.map .d) vs → DqAll K B vs ds
  | [], _, h => by cases h; exact .nil
  | d :: ds, _, h => by
    cases h with
    | cons h1 h2 => exact .cons h1 (dps_of h2)
theorem reps_of {K : PySem.W.Frag} {B : Hp} : ∀ {ds : List PyData} {vs : List V}, DqAll K B vs ds → RepVs K B (ds.map .d) vs
  | [], _, h => by cases h; exact .nil
  | d :: ds, _, h => by
    cases h with
    | cons h1 h2 => exact .cons h1 (reps_of h2)
/-- an own list (of data) is frozen: it is data from then on -/
theorem Wd.freeze {K : PySem.W.Frag} {T : List Addr} {B : Hp} {O : Own} {H : Hp} {p : Addr} {ds : List PyData} (w : Wd K T B O H) (h : O p = some (.lst (ds.map .d))) :
    ∃ B', Ext B B' ∧ Wd K T B' (delO O p) H ∧ Dq K B' (.ref p) (.list ds) := by
  obtain ⟨h1, o, h2, vs, rfl, h3⟩ := w.own p _ h
  have e : Ext B (upd B p (.lst vs)) := Ext.up h1
  refine ⟨upd B p (.lst vs), e, ⟨fun a u q => ?_, fun q a z => ?_, fun q z => ?_⟩, .lst upd_same (dps_of (e.reps h3))⟩
  · by_cases n : a = p
    · subst n; rw [upd_same] at q; rw [← q]; exact h2
    · rw [upd_ne n] at q; exact w.ex a u q
  · by_cases n : q = p
    · subst n; unfold delO at z; rw [if_pos rfl] at z; cases z
    · unfold delO at z; rw [if_neg n] at z
      obtain ⟨g1, u, g2, g3⟩ := w.own q a z
      exact ⟨by rw [upd_ne n]; exact g1, u, g2, e.repO g3⟩
  · obtain ⟨g1, g2, g3⟩ := w.tab q z
    have n : q ≠ p := fun y => by rw [y, h] at g2; cases g2
    exact ⟨by rw [upd_ne n]; exact g1, by unfold delO; rw [if_neg n]; exact g2, g3⟩

/-! ## slots -/
abbrev Sl := List (Option AV)
structure Slots (K : PySem.W.Frag) (B : Hp) (ps : Sl) (σ : L2.St) : Prop where
  len : ps.length = σ.length
  at_ : ∀ (i : Nat) (a : AV), ps[i]? = some (some a) → ∃ u, σ[i]? = some (some u) ∧ RepV K B a u
section
variable {K : PySem.W.Frag} {B B' : Hp} {ps : Sl} {σ : L2.St}
theorem Slots.up (s : Slots K B ps σ) (e : Ext B B') : Slots K B' ps σ := ⟨s.len, fun i a h => let ⟨u, h1, h2⟩ := s.at_ i a h; ⟨u, h1, e.rep h2⟩⟩
theorem Slots.set (s : Slots K B ps σ) (i : Nat) {a : AV} {u : V} (r : RepV K B a u) : Slots K B (ps.set i (some a)) (σ.set i (some u)) where
  len := by rw [List.length_set, List.length_set]; exact s.len
  at_ := fun j b h => by
    by_cases e : i = j
    · subst e
      have hi : i < ps.length := by
        have := (List.getElem?_eq_some_iff.mp h).1
        rw [List.length_set] at this; exact this
      rw [List.getElem?_set_self hi] at h
      cases h
      exact ⟨u, List.getElem?_set_self (by rw [← s.len]; exact hi), r⟩
    · rw [List.getElem?_set_ne e] at h
      obtain ⟨w, h1, h2⟩ := s.at_ j b h
      exact ⟨w, by rw [List.getElem?_set_ne e]; exact h1, h2⟩
def wipeA (ps : Sl) : List Nat → Sl
  | [] => ps
  | v :: vs => (wipeA ps vs).set v none
theorem Slots.wipe (s : Slots K B ps σ) : ∀ vs, Slots K B (wipeA ps vs) (L2.wipe σ vs)
  | [] => s
  | v :: vs => by
    have h := Slots.wipe s vs
    refine ⟨by unfold wipeA L2.wipe; rw [List.length_set, List.length_set]; exact h.len, fun j b q => ?_⟩
    unfold wipeA at q
    unfold L2.wipe
    by_cases e : v = j
    · subst e
      by_cases hv : v < (wipeA ps vs).length
      · rw [List.getElem?_set_self hv] at q; cases q
      · rw [List.getElem?_eq_none (by rw [List.length_set]; omega)] at q; cases q
    · rw [List.getElem?_set_ne e] at q ⊢
      exact h.at_ j b q
/-- less is known -/
def SlLe (ps ps' : Sl) : Prop := ps.length = ps'.length ∧ ∀ (i : Nat) (a : AV), ps[i]? = some (some a) → ps'[i]? = some (some a)
theorem Slots.less {ps' : Sl} (s : Slots K B ps' σ) (l : SlLe ps ps') : Slots K B ps σ := ⟨l.1.trans s.len, fun i a h => s.at_ i a (l.2 i a h)⟩
theorem reps_get : ∀ {as : List AV} {us : List V} {i : Nat} {a : AV}, RepVs K B as us → as[i]? = some a → ∃ u, us[i]? = some u ∧ RepV K B a u
  | _, _, _, _, .nil, e => by simp at e
  | _, _, 0, _, .cons r _, e => by simp at e; subst e; exact ⟨_, rfl, r⟩
  | _, _, i + 1, a, .cons _ t, e => by
    obtain ⟨u, h1, h2⟩ := reps_get (i := i) (a := a) t (by simpa using e)
    exact ⟨u, by simpa using h1, h2⟩
def slots0 (N : List Str) (as : List AV) : Sl := as.map some ++ List.replicate (N.length - as.length) none
theorem slots_start {N : List Str} {as : List AV} {vs : List V} (r : RepVs K B as vs) : Slots K B (slots0 N as) (L2.start N vs) := by
  have hl : as.length = vs.length := Paired.length r
  refine ⟨by unfold slots0 L2.start; simp [hl], fun i a h => ?_⟩
  unfold slots0 at h
  unfold L2.start
  by_cases hi : i < as.length
  · rw [List.getElem?_append_left (by simpa using hi), List.getElem?_map] at h
    cases q : as[i]? with
    | none => rw [q] at h; cases h
    | some b =>
      rw [q] at h
      cases h
      obtain ⟨u, h1, h2⟩ := reps_get r q
      have hi' : i < vs.length := (List.getElem?_eq_some_iff.mp h1).1
      exact ⟨u, by rw [List.getElem?_append_left (by simpa using hi'), List.getElem?_map, h1]; rfl, h2⟩
  · rw [List.getElem?_append_right (by simpa using hi), List.getElem?_replicate] at h
    split at h <;> cases h
end
end BL

set_option Elab.async false
set_option linter.all false
set_option maxRecDepth 100000
set_option maxHeartbeats 4000000
namespace BL
open PySem L2

/-- what a reading is run over: K the written part, T tables, M what is known besides (it stays as B grows) -/
structure Cb where
  K : PySem.W.Frag
  T : List Addr
  M : Hp → Prop
  mono : ∀ B B', Ext B B' → M B → M B'
abbrev cb0 (K : PySem.W.Frag) (T : List Addr) : Cb := ⟨K, T, fun _ => True, fun _ _ _ h => h⟩
abbrev Af := AV → Own → Prop
abbrev ds (l : List PyData) : List AV := l.map .d

def EvW (c : Cb) (te : TE) (ps : Sl) (O : Own) (Φ : Af) : Prop :=
  ∀ (B : Hp) (σ : L2.St) (H : Hp), Slots c.K B ps σ → Wd c.K c.T B O H → c.M B → ∀ Q : VK, (∀ a O' B' u H', Φ a O' → Ext B B' → Wd c.K c.T B' O' H' → RepV c.K B' a u → Q u H') → te σ H Q
def EvTW (c : Cb) (tt : TT) (ps : Sl) (O : Own) (Φ : Bool → Own → Prop) : Prop :=
  ∀ (B : Hp) (σ : L2.St) (H : Hp), Slots c.K B ps σ → Wd c.K c.T B O H → c.M B → ∀ Q : Bool → Hp → Prop, (∀ b O' B' H', Φ b O' → Ext B B' → Wd c.K c.T B' O' H' → Q b H') → tt σ H Q
def EvAW (c : Cb) (ta : TA) (ps : Sl) (O : Own) (Φ : List AV → Own → Prop) : Prop :=
  ∀ (B : Hp) (σ : L2.St) (H : Hp), Slots c.K B ps σ → Wd c.K c.T B O H → c.M B → ∀ Q : List V → Hp → Prop, (∀ as O' B' us H', Φ as O' → Ext B B' → Wd c.K c.T B' O' H' → RepVs c.K B' as us → Q us H') → ta σ H Q
def EvOW (c : Cb) (to : TO) (ps : Sl) (O : Own) (Φ : Option Int → Own → Prop) : Prop :=
  ∀ (B : Hp) (σ : L2.St) (H : Hp), Slots c.K B ps σ → Wd c.K c.T B O H → c.M B → ∀ Q : Option Int → Hp → Prop, (∀ b O' B' H', Φ b O' → Ext B B' → Wd c.K c.T B' O' H' → Q b H') → to σ H Q
/-- two-place operation on values -/
def opW (c : Cb) (r : R2) (x y : AV) (O : Own) (Φ : Af) : Prop :=
  ∀ (B H : Hp) (u v : V), RepV c.K B x u → RepV c.K B y v → Wd c.K c.T B O H → ∀ Q : VK, (∀ a O' B' z H', Φ a O' → Ext B B' → Wd c.K c.T B' O' H' → RepV c.K B' a z → Q z H') → r u v H Q
def unW (c : Cb) (r : V → Hp → VK → Prop) (x : AV) (O : Own) (Φ : Af) : Prop :=
  ∀ (B H : Hp) (u : V), RepV c.K B x u → Wd c.K c.T B O H → ∀ Q : VK, (∀ a O' B' z H', Φ a O' → Ext B B' → Wd c.K c.T B' O' H' → RepV c.K B' a z → Q z H') → r u H Q
def calW (c : Cb) (r : List V → Hp → VK → Prop) (xs : List AV) (O : Own) (Φ : Af) : Prop :=
  ∀ (B H : Hp) (us : List V), RepVs c.K B xs us → Wd c.K c.T B O H → ∀ Q : VK, (∀ a O' B' z H', Φ a O' → Ext B B' → Wd c.K c.T B' O' H' → RepV c.K B' a z → Q z H') → r us H Q
def mtW (c : Cb) (r : V → List V → Hp → VK → Prop) (x : AV) (xs : List AV) (O : Own) (Φ : Af) : Prop :=
  ∀ (B H : Hp) (u : V) (us : List V), RepV c.K B x u → RepVs c.K B xs us → Wd c.K c.T B O H → ∀ Q : VK, (∀ a O' B' z H', Φ a O' → Ext B B' → Wd c.K c.T B' O' H' → RepV c.K B' a z → Q z H') → r u us H Q
def slW (c : Cb) (r : V → Option Int → Option Int → Hp → VK → Prop) (x : AV) (lo hi : Option Int) (O : Own) (Φ : Af) : Prop :=
  ∀ (B H : Hp) (u : V), RepV c.K B x u → Wd c.K c.T B O H → ∀ Q : VK, (∀ a O' B' z H', Φ a O' → Ext B B' → Wd c.K c.T B' O' H' → RepV c.K B' a z → Q z H') → r u lo hi H Q
def tyW (c : Cb) (T : String) (x : AV) (O : Own) : Prop := ∀ (B H : Hp) (u : V), RepV c.K B x u → Wd c.K c.T B O H → tyV c.K T u H

section
variable {c : Cb} {ps : Sl} {O : Own} {Φ : Af} {ta tb tc te : TE} {tt tu : TT}
theorem ev_var {i : Nat} {a : AV} (h : ps[i]? = some (some a)) (k : Φ a O) : EvW c (tVar i) ps O Φ := fun B σ H s w m Q q => by
  obtain ⟨u, h1, h2⟩ := s.at_ i a h
  exact ⟨u, h1, q a O B u H k (Ext.refl B) w h2⟩
theorem ev_int {i : Int} (k : Φ (.d (.int i)) O) : EvW c (tC (.int i)) ps O Φ := fun B σ H s w m Q q => q _ O B _ H k (Ext.refl B) w (.int i)
theorem ev_bl {i : Bool} (k : Φ (.d (.bool i)) O) : EvW c (tC (.bl i)) ps O Φ := fun B σ H s w m Q q => q _ O B _ H k (Ext.refl B) w (.bl i)
theorem ev_str {i : Str} (k : Φ (.d (.str i)) O) : EvW c (tC (.str i)) ps O Φ := fun B σ H s w m Q q => q _ O B _ H k (Ext.refl B) w (.str i)
theorem ev_non (k : Φ (.d .none) O) : EvW c (tC .non) ps O Φ := fun B σ H s w m Q q => q _ O B _ H k (Ext.refl B) w .non
theorem ev_raw {v : V} (k : Φ (.v v) O) : EvW c (tC v) ps O Φ := fun B σ H s w m Q q => q _ O B _ H k (Ext.refl B) w rfl
theorem ev_op {r : R2} (h : EvW c ta ps O fun x O1 => EvW c tb ps O1 fun y O2 => opW c r x y O2 Φ) : EvW c (tOp r ta tb) ps O Φ := by
  intro B σ H s w m Q q
  refine h B σ H s w m _ fun x O1 B1 u H1 h1 e1 w1 r1 => ?_
  refine h1 B1 σ H1 (s.up e1) w1 (c.mono _ _ e1 m) _ fun y O2 B2 v H2 h2 e2 w2 r2 => ?_
  exact h2 B2 H2 u v (e2.rep r1) r2 w2 _ fun a O3 B3 z H3 h3 e3 w3 r3 => q a O3 B3 z H3 h3 ((e1.trans e2).trans e3) w3 r3
theorem ev_un {r : V → Hp → VK → Prop} (h : EvW c ta ps O fun x O1 => unW c r x O1 Φ) : EvW c (tUn r ta) ps O Φ := by
  intro B σ H s w m Q q
  refine h B σ H s w m _ fun x O1 B1 u H1 h1 e1 w1 r1 => ?_
  exact h1 B1 H1 u r1 w1 _ fun a O3 B3 z H3 h3 e3 w3 r3 => q a O3 B3 z H3 h3 (e1.trans e3) w3 r3
theorem bl_of {K : PySem.W.Frag} {B : Hp} {b : Bool} {u : V} (h : RepV K B (.d (.bool b)) u) : u = .bl b := by cases h; rfl
theorem int_of {K : PySem.W.Frag} {B : Hp} {b : Int} {u : V} (h : RepV K B (.d (.int b)) u) : u = .int b := by cases h; rfl
theorem str_of {K : PySem.W.Frag} {B : Hp} {b : Str} {u : V} (h : RepV K B (.d (.str b)) u) : u = .str b := by cases h; rfl
theorem non_of {K : PySem.W.Frag} {B : Hp} {u : V} (h : RepV K B (.d .none) u) : u = .non := by cases h; rfl
theorem et_test {Φ : Bool → Own → Prop} (h : EvW c ta ps O fun a O1 => ∃ b, a = .d (.bool b) ∧ Φ b O1) : EvTW c (tTest ta) ps O Φ := by
  intro B σ H s w m Q q
  refine h B σ H s w m _ fun x O1 B1 u H1 ⟨b, eb, k⟩ e1 w1 r1 => ?_
  subst eb
  exact ⟨b, bl_of r1, q b O1 B1 H1 k e1 w1⟩
theorem et_B {Φ : Bool → Own → Prop} (h : EvW c ta ps O fun a O1 => ∃ b, a = .d (.bool b) ∧ Φ b O1) : EvTW c (tB ta) ps O Φ := et_test h
theorem et_and {Φ : Bool → Own → Prop} (h : EvTW c tt ps O fun b O1 => if b = true then EvTW c tu ps O1 Φ else Φ false O1) : EvTW c (tAnd tt tu) ps O Φ := by
  intro B σ H s w m Q q
  refine h B σ H s w m _ fun b O1 B1 H1 k e1 w1 => ?_
  cases b with
  | true => exact k B1 σ H1 (s.up e1) w1 (c.mono _ _ e1 m) Q fun b O2 B2 H2 k2 e2 w2 => q b O2 B2 H2 k2 (e1.trans e2) w2
  | false => exact q false O1 B1 H1 k e1 w1
theorem et_or {Φ : Bool → Own → Prop} (h : EvTW c tt ps O fun b O1 => if b = true then Φ true O1 else EvTW c tu ps O1 Φ) : EvTW c (tOr tt tu) ps O Φ := by
  intro B σ H s w m Q q
  refine h B σ H s w m _ fun b O1 B1 H1 k e1 w1 => ?_
  cases b with
  | false => exact k B1 σ H1 (s.up e1) w1 (c.mono _ _ e1 m) Q fun b O2 B2 H2 k2 e2 w2 => q b O2 B2 H2 k2 (e1.trans e2) w2
  | true => exact q true O1 B1 H1 k e1 w1
theorem et_not {Φ : Bool → Own → Prop} (h : EvTW c tt ps O fun b O1 => Φ (!b) O1) : EvTW c (tNot tt) ps O Φ := fun B σ H s w m Q q => h B σ H s w m _ fun b O1 B1 H1 k e1 w1 => q _ O1 B1 H1 k e1 w1
theorem ev_andV (h : EvW c ta ps O fun a O1 => ∃ b, a = .d (.bool b) ∧ if b = true then EvW c tb ps O1 Φ else Φ (.d (.bool false)) O1) : EvW c (tAndV ta tb) ps O Φ := by
  intro B σ H s w m Q q
  refine h B σ H s w m _ fun x O1 B1 u H1 ⟨b, eb, k⟩ e1 w1 r1 => ?_
  subst eb
  refine ⟨b, bl_of r1, ?_⟩
  cases b with
  | true => exact k B1 σ H1 (s.up e1) w1 (c.mono _ _ e1 m) Q fun b O2 B2 u2 H2 k2 e2 w2 r2 => q b O2 B2 u2 H2 k2 (e1.trans e2) w2 r2
  | false => exact q _ O1 B1 _ H1 k e1 w1 (.bl false)
theorem ev_orV (h : EvW c ta ps O fun a O1 => ∃ b, a = .d (.bool b) ∧ if b = true then Φ (.d (.bool true)) O1 else EvW c tb ps O1 Φ) : EvW c (tOrV ta tb) ps O Φ := by
  intro B σ H s w m Q q
  refine h B σ H s w m _ fun x O1 B1 u H1 ⟨b, eb, k⟩ e1 w1 r1 => ?_
  subst eb
  refine ⟨b, bl_of r1, ?_⟩
  cases b with
  | false => exact k B1 σ H1 (s.up e1) w1 (c.mono _ _ e1 m) Q fun b O2 B2 u2 H2 k2 e2 w2 r2 => q b O2 B2 u2 H2 k2 (e1.trans e2) w2 r2
  | true => exact q _ O1 B1 _ H1 k e1 w1 (.bl true)
theorem ev_notV (h : EvW c ta ps O fun a O1 => ∃ b, a = .d (.bool b) ∧ Φ (.d (.bool (!b))) O1) : EvW c (tNotV ta) ps O Φ := by
  intro B σ H s w m Q q
  refine h B σ H s w m _ fun x O1 B1 u H1 ⟨b, eb, k⟩ e1 w1 r1 => ?_
  subst eb
  exact ⟨b, bl_of r1, q _ O1 B1 _ H1 k e1 w1 (.bl _)⟩
theorem ev_if (h : EvTW c tt ps O fun b O1 => if b = true then EvW c ta ps O1 Φ else EvW c tb ps O1 Φ) : EvW c (tIf tt ta tb) ps O Φ := by
  intro B σ H s w m Q q
  refine h B σ H s w m _ fun b O1 B1 H1 k e1 w1 => ?_
  cases b with
  | true => exact k B1 σ H1 (s.up e1) w1 (c.mono _ _ e1 m) Q fun b O2 B2 u2 H2 k2 e2 w2 r2 => q b O2 B2 u2 H2 k2 (e1.trans e2) w2 r2
  | false => exact k B1 σ H1 (s.up e1) w1 (c.mono _ _ e1 m) Q fun b O2 B2 u2 H2 k2 e2 w2 r2 => q b O2 B2 u2 H2 k2 (e1.trans e2) w2 r2
theorem ev_chain {r r' : R2} (h : EvW c ta ps O fun x O1 => EvW c tb ps O1 fun y O2 => opW c r x y O2 fun a O3 => ∃ b, a = .d (.bool b) ∧ if b = true then EvW c tc ps O3 (fun z O4 => opW c r' y z O4 Φ) else Φ (.d (.bool false)) O3) :
    EvW c (tChain r r' ta tb tc) ps O Φ := by
  intro B σ H s w m Q q
  refine h B σ H s w m _ fun x O1 B1 u H1 h1 e1 w1 r1 => ?_
  refine h1 B1 σ H1 (s.up e1) w1 (c.mono _ _ e1 m) _ fun y O2 B2 v H2 h2 e2 w2 r2 => ?_
  refine h2 B2 H2 u v (e2.rep r1) r2 w2 _ fun a O3 B3 z H3 ⟨b, eb, k⟩ e3 w3 r3 => ?_
  subst eb
  refine ⟨b, bl_of r3, ?_⟩
  have e := (e1.trans e2).trans e3
  cases b with
  | true =>
    refine k B3 σ H3 (s.up e) w3 (c.mono _ _ e m) _ fun y3 O4 B4 v4 H4 h4 e4 w4 r4 => ?_
    exact h4 B4 H4 v v4 ((e3.trans e4).rep r2) r4 w4 _ fun a O5 B5 z5 H5 h5 e5 w5 r5 => q a O5 B5 z5 H5 h5 ((e.trans e4).trans e5) w5 r5
  | false => exact q _ O3 B3 _ H3 k e w3 (.bl false)
theorem ea_nil {Φ : List AV → Own → Prop} (k : Φ [] O) : EvAW c tNil ps O Φ := fun B σ H s w m Q q => q [] O B [] H k (Ext.refl B) w .nil
theorem ea_cons {t : TA} {Φ : List AV → Own → Prop} (h : EvW c ta ps O fun x O1 => EvAW c t ps O1 fun xs O2 => Φ (x :: xs) O2) : EvAW c (tCons ta t) ps O Φ := by
  intro B σ H s w m Q q
  refine h B σ H s w m _ fun x O1 B1 u H1 h1 e1 w1 r1 => ?_
  exact h1 B1 σ H1 (s.up e1) w1 (c.mono _ _ e1 m) _ fun xs O2 B2 us H2 h2 e2 w2 r2 => q _ O2 B2 _ H2 h2 (e1.trans e2) w2 (.cons (e2.rep r1) r2)
theorem eo_none {Φ : Option Int → Own → Prop} (k : Φ none O) : EvOW c tNoPart ps O Φ := fun B σ H s w m Q q => q none O B H k (Ext.refl B) w
theorem eo_some {Φ : Option Int → Own → Prop} (h : EvW c ta ps O fun x O1 => ∃ i, x = .d (.int i) ∧ Φ (some i) O1) : EvOW c (tPart ta) ps O Φ := by
  intro B σ H s w m Q q
  refine h B σ H s w m _ fun x O1 B1 u H1 ⟨i, ei, k⟩ e1 w1 r1 => ?_
  subst ei
  exact ⟨i, int_of r1, q _ O1 B1 H1 k e1 w1⟩
theorem reps_len {K : PySem.W.Frag} {B : Hp} {as : List AV} {us : List V} (h : RepVs K B as us) : as.length = us.length := Paired.length h
/-- a new tuple of data; a new list, frozen; a new list, one's own -/
theorem ev_tup {t : TA} (h : EvAW c t ps O fun xs O1 => ∃ l, xs = ds l ∧ l.length ≤ sizeLine ∧ Φ (.d (.tuple l)) O1) : EvW c (tTup t) ps O Φ := by
  intro B σ H s w m Q q
  refine h B σ H s w m _ fun xs O1 B1 us H1 ⟨l, el, hl, k⟩ e1 w1 r1 => ?_
  subst el
  have hn := reps_len r1
  rw [List.length_map] at hn
  refine ⟨by rw [← hn]; exact hl, fun p hp => ?_⟩
  have e2 : Ext B1 (upd B1 p (.tup us)) := Ext.up (w1.freeB hp)
  exact q _ O1 _ _ _ k (e1.trans e2) (w1.frz hp _) (.tup (.inl upd_same) (dps_of (e2.reps r1)))
theorem ev_lst {t : TA} (h : EvAW c t ps O fun xs O1 => ∃ l, xs = ds l ∧ l.length ≤ sizeLine ∧ Φ (.d (.list l)) O1) : EvW c (tLst t) ps O Φ := by
  intro B σ H s w m Q q
  refine h B σ H s w m _ fun xs O1 B1 us H1 ⟨l, el, hl, k⟩ e1 w1 r1 => ?_
  subst el
  have hn := reps_len r1
  rw [List.length_map] at hn
  refine ⟨by rw [← hn]; exact hl, fun p hp => ?_⟩
  have e2 : Ext B1 (upd B1 p (.lst us)) := Ext.up (w1.freeB hp)
  exact q _ O1 _ _ _ k (e1.trans e2) (w1.frz hp _) (.lst upd_same (dps_of (e2.reps r1)))
theorem ev_lstO {t : TA} (h : EvAW c t ps O fun xs O1 => xs.length ≤ sizeLine ∧ ∀ p, O1 p = none → Φ (.v (.ref p)) (updO O1 p (.lst xs))) : EvW c (tLst t) ps O Φ := by
  intro B σ H s w m Q q
  refine h B σ H s w m _ fun xs O1 B1 us H1 ⟨hl, k⟩ e1 w1 r1 => ?_
  have hn := reps_len r1
  refine ⟨by rw [← hn]; exact hl, fun p hp => ?_⟩
  exact q _ _ B1 _ _ (k p (w1.freeO hp)) e1 (w1.new hp ⟨us, rfl, r1⟩) rfl
theorem ev_cb {r : List V → Hp → VK → Prop} {t : TA} (h : EvAW c t ps O fun xs O1 => calW c r xs O1 Φ) : EvW c (tCB r t) ps O Φ := by
  intro B σ H s w m Q q
  refine h B σ H s w m _ fun xs O1 B1 us H1 k e1 w1 r1 => ?_
  exact k B1 H1 us r1 w1 _ fun a O2 B2 z H2 h2 e2 w2 r2 => q a O2 B2 z H2 h2 (e1.trans e2) w2 r2
theorem ev_bm {T : String} {r : V → List V → Hp → VK → Prop} {t : TA} (h : EvW c ta ps O fun x O1 => tyW c T x O1 ∧ EvAW c t ps O1 fun xs O2 => mtW c r x xs O2 Φ) : EvW c (tBM c.K T r ta t) ps O Φ := by
  intro B σ H s w m Q q
  refine h B σ H s w m _ fun x O1 B1 u H1 ⟨ty, h1⟩ e1 w1 r1 => ?_
  refine ⟨ty B1 H1 u r1 w1, h1 B1 σ H1 (s.up e1) w1 (c.mono _ _ e1 m) _ fun xs O2 B2 us H2 h2 e2 w2 r2 => ?_⟩
  exact h2 B2 H2 u us (e2.rep r1) r2 w2 _ fun a O3 B3 z H3 h3 e3 w3 r3 => q a O3 B3 z H3 h3 ((e1.trans e2).trans e3) w3 r3
theorem ev_bm0 {T : String} {r : V → List V → Hp → VK → Prop} (h : EvW c ta ps O fun x O1 => tyW c T x O1 ∧ mtW c r x [] O1 Φ) : EvW c (tBM0 c.K T r ta) ps O Φ := by
  intro B σ H s w m Q q
  refine h B σ H s w m _ fun x O1 B1 u H1 ⟨ty, h1⟩ e1 w1 r1 => ?_
  exact ⟨ty B1 H1 u r1 w1, h1 B1 H1 u [] r1 .nil w1 _ fun a O3 B3 z H3 h3 e3 w3 r3 => q a O3 B3 z H3 h3 (e1.trans e3) w3 r3⟩
theorem ev_sl {r : V → Option Int → Option Int → Hp → VK → Prop} {tl th : TO} (h : EvW c ta ps O fun x O1 => EvOW c tl ps O1 fun lo O2 => EvOW c th ps O2 fun hi O3 => slW c r x lo hi O3 Φ) : EvW c (tSl r ta tl th) ps O Φ := by
  intro B σ H s w m Q q
  refine h B σ H s w m _ fun x O1 B1 u H1 h1 e1 w1 r1 => ?_
  refine h1 B1 σ H1 (s.up e1) w1 (c.mono _ _ e1 m) _ fun lo O2 B2 H2 h2 e2 w2 => ?_
  refine h2 B2 σ H2 (s.up (e1.trans e2)) w2 (c.mono _ _ (e1.trans e2) m) _ fun hi O3 B3 H3 h3 e3 w3 => ?_
  exact h3 B3 H3 u ((e2.trans e3).rep r1) w3 _ fun a O4 B4 z H4 h4 e4 w4 r4 => q a O4 B4 z H4 h4 (((e1.trans e2).trans e3).trans e4) w4 r4
end

/-! ## promises -/
abbrev FSp := List AV → Own → Af → (Value → Own → Prop) → Prop
def spOf (K : PySem.W.Frag) (T : List Addr) (F : FSp) : Sp := fun vs H Q E => ∃ (B : Hp) (O : Own) (as : List AV) (Φ : Af) (Ψ : Value → Own → Prop), RepVs K B as vs ∧ Wd K T B O H ∧ F as O Φ Ψ ∧
  (∀ a O' B' u H', Φ a O' → Ext B B' → Wd K T B' O' H' → RepV K B' a u → Q u H') ∧ (∀ cls O' B' H', Ψ cls O' → Ext B B' → Wd K T B' O' H' → E cls none H')
/-- what is wished of an exception, at the class, the slots, what is owned -/
def Esc (c : Cb) (W : WX) (Ξ : Value → Sl → Own → Prop) : Prop := ∀ (B : Hp) (cls : Value) (ps : Sl) (O : Own) (σ : L2.St) (H : Hp), c.M B → Ξ cls ps O → Slots c.K B ps σ → Wd c.K c.T B O H → W cls none σ H
section
variable {c : Cb} {ps : Sl} {O : Own} {Φ : Af} {t : TA} {F : FSp}
theorem ev_call {E : XK} (h : EvAW c t ps O fun xs O1 => F xs O1 Φ fun _ _ => False) : EvW c (tCall (spOf c.K c.T F) [] E t) ps O Φ := by
  intro B σ H s w m Q q
  refine h B σ H s w m _ fun xs O1 B1 us H1 k e1 w1 r1 => ?_
  refine ⟨B1, O1, xs, Φ, _, (by rw [List.append_nil]; exact r1), w1, k, fun a O2 B2 u H2 h2 e2 w2 r2 => q a O2 B2 u H2 h2 (e1.trans e2) w2 r2, fun _ _ _ _ z => z.elim⟩
theorem ev_callS {W : WX} {Ξ : Value → Sl → Own → Prop} (he : Esc c W Ξ) (h : EvAW c t ps O fun xs O1 => F xs O1 Φ fun cls O2 => Ξ cls ps O2) : EvW c (tCallS (spOf c.K c.T F) (WE W) t) ps O Φ := by
  intro B σ H s w m Q q
  refine h B σ H s w m _ fun xs O1 B1 us H1 k e1 w1 r1 => ?_
  exact ⟨B1, O1, xs, Φ, _, r1, w1, k, fun a O2 B2 u H2 h2 e2 w2 r2 => q a O2 B2 u H2 h2 (e1.trans e2) w2 r2,
    fun cls O2 B2 H2 z e2 w2 => he B2 cls ps O2 σ H2 (c.mono _ _ (e1.trans e2) m) z (s.up (e1.trans e2)) w2⟩
end

/-! ## statements -/
structure AEnds where
  nx : Sl → Own → Prop
  rt : Af
  bk : Sl → Own → Prop
  ct : Sl → Own → Prop
structure AD (c : Cb) (A : AEnds) (B : Hp) (D : Ends) : Prop where
  nx : ∀ ps O B' σ H, A.nx ps O → Ext B B' → Slots c.K B' ps σ → Wd c.K c.T B' O H → D.nx σ H
  rt : ∀ a O B' u H, A.rt a O → Ext B B' → Wd c.K c.T B' O H → RepV c.K B' a u → D.rt u H
  bk : ∀ ps O B' σ H, A.bk ps O → Ext B B' → Slots c.K B' ps σ → Wd c.K c.T B' O H → D.bk σ H
  ct : ∀ ps O B' σ H, A.ct ps O → Ext B B' → Slots c.K B' ps σ → Wd c.K c.T B' O H → D.ct σ H
theorem AD.up {c : Cb} {A : AEnds} {B B' : Hp} {D : Ends} (d : AD c A B D) (e : Ext B B') : AD c A B' D :=
  ⟨fun ps O B2 σ H k e2 => d.nx ps O B2 σ H k (e.trans e2), fun a O B2 u H k e2 => d.rt a O B2 u H k (e.trans e2), fun ps O B2 σ H k e2 => d.bk ps O B2 σ H k (e.trans e2), fun ps O B2 σ H k e2 => d.ct ps O B2 σ H k (e.trans e2)⟩
def StW (c : Cb) (ts : TS) (ps : Sl) (O : Own) (A : AEnds) : Prop :=
  ∀ (B : Hp) (σ : L2.St) (H : Hp) (D : Ends), Slots c.K B ps σ → Wd c.K c.T B O H → c.M B → AD c A B D → ts D σ H
def GW (c : Cb) (g : TG) (a : AV) (ps : Sl) (O : Own) (Φ : Sl → Own → Prop) : Prop :=
  ∀ (B : Hp) (σ : L2.St) (H : Hp) (u : V), RepV c.K B a u → Slots c.K B ps σ → Wd c.K c.T B O H → c.M B → ∀ R : L2.St → Hp → Prop, (∀ ps' O' B' σ' H', Φ ps' O' → Ext B B' → Slots c.K B' ps' σ' → Wd c.K c.T B' O' H' → R σ' H') → g u σ H R
section
variable {c : Cb} {ps : Sl} {O : Own} {A : AEnds} {t u : TS} {te : TE} {g : TG}
theorem st_seq (h : StW c t ps O { A with nx := fun ps' O' => StW c u ps' O' A }) : StW c (tSeq t u) ps O A := fun B σ H D s w m d =>
  h B σ H { D with nx := u D } s w m ⟨fun ps' O' B' σ' H' k e s' w' => k B' σ' H' D s' w' (c.mono _ _ e m) (d.up e), d.rt, d.bk, d.ct⟩
theorem st_next (k : A.nx ps O) : StW c tNext ps O A := fun B σ H D s w m d => d.nx ps O B σ H k (Ext.refl B) s w
theorem st_brk (k : A.bk ps O) : StW c tBreak ps O A := fun B σ H D s w m d => d.bk ps O B σ H k (Ext.refl B) s w
theorem st_cont (k : A.ct ps O) : StW c tCont ps O A := fun B σ H D s w m d => d.ct ps O B σ H k (Ext.refl B) s w
theorem st_drop (h : EvW c te ps O fun _ O' => A.nx ps O') : StW c (tDrop te) ps O A := fun B σ H D s w m d =>
  h B σ H s w m _ fun a O1 B1 u H1 k e1 w1 r1 => d.nx ps O1 B1 σ H1 k e1 (s.up e1) w1
theorem st_ret (h : EvW c te ps O A.rt) : StW c (tRet te) ps O A := fun B σ H D s w m d =>
  h B σ H s w m _ fun a O1 B1 u H1 k e1 w1 r1 => d.rt a O1 B1 u H1 k e1 w1 r1
theorem st_retN (k : A.rt (.d .none) O) : StW c tRetN ps O A := fun B σ H D s w m d => d.rt _ O B _ H k (Ext.refl B) w .non
theorem st_if {tt : TT} (h : EvTW c tt ps O fun b O1 => if b = true then StW c t ps O1 A else StW c u ps O1 A) : StW c (tIfS tt t u) ps O A := by
  intro B σ H D s w m d
  refine h B σ H s w m _ fun b O1 B1 H1 k e1 w1 => ?_
  cases b with
  | true => exact k B1 σ H1 D (s.up e1) w1 (c.mono _ _ e1 m) (d.up e1)
  | false => exact k B1 σ H1 D (s.up e1) w1 (c.mono _ _ e1 m) (d.up e1)
theorem st_asg (h : EvW c te ps O fun a O1 => GW c g a ps O1 A.nx) : StW c (tAsg te g) ps O A := by
  intro B σ H D s w m d
  refine h B σ H s w m _ fun a O1 B1 u H1 k e1 w1 r1 => ?_
  exact k B1 σ H1 u r1 (s.up e1) w1 (c.mono _ _ e1 m) _ fun ps' O' B' σ' H' k' e' s' w' => d.nx ps' O' B' σ' H' k' (e1.trans e') s' w'
theorem g_name {i : Nat} {a : AV} {Φ : Sl → Own → Prop} (k : Φ (ps.set i (some a)) O) : GW c (gName i) a ps O Φ := fun B σ H u r s w m R q => q _ O B _ H k (Ext.refl B) (s.set i r) w
theorem st_set {i : Nat} (h : EvW c te ps O fun a O1 => A.nx (ps.set i (some a)) O1) : StW c (tAsg te (gName i)) ps O A :=
  st_asg fun B σ H s w m Q q => h B σ H s w m Q fun a O' B' u H' k => q a O' B' u H' (g_name k)
theorem st_aug {i : Nat} {a : AV} {f : Int → Int → Int} {x : Int} (hx : ps[i]? = some (some (.d (.int x)))) (h : EvW c te ps O fun a O1 => ∃ y, a = .d (.int y) ∧ A.nx (ps.set i (some (.d (.int (f x y))))) O1) : StW c (tAug i te (ipI f)) ps O A := by
  intro B σ H D s w m d
  obtain ⟨u0, h0, r0⟩ := s.at_ i _ hx
  refine ⟨u0, h0, h B σ H s w m _ fun a O1 B1 u H1 ⟨y, ey, k⟩ e1 w1 r1 => ?_⟩
  subst ey
  exact ⟨x, y, int_of r0, int_of r1, d.nx _ O1 B1 _ H1 k e1 ((s.up e1).set i (.int _)) w1⟩
theorem st_raise {W : WX} {Ξ : Value → Sl → Own → Prop} {C : Addr} (he : Esc c W Ξ) (k : Ξ (.ref C) ps O) : StW c (fun _ σ H => (fun (_ : L2.St) (H : Hp) (Q : XK) => Q (.ref C) none H) σ H fun cls d H' => W cls d σ H') ps O A :=
  fun B σ H D s w m d => he B _ ps O σ H m k s w
end
end BL

set_option Elab.async false
set_option linter.all false
set_option maxRecDepth 100000
set_option maxHeartbeats 4000000
namespace BL
open PySem L2

/-! ## targets, with what slots they change -/
/-- besides: slots outside js are as they were -/
def GWj (c : Cb) (g : TG) (a : AV) (js : List Nat) (ps : Sl) (O : Own) (Φ : Sl → Own → Prop) : Prop :=
  ∀ (B : Hp) (σ : L2.St) (H : Hp) (u : V), RepV c.K B a u → Slots c.K B ps σ → Wd c.K c.T B O H → c.M B → ∀ R : L2.St → Hp → Prop,
    (∀ ps' O' B' σ' H', Φ ps' O' → Ext B B' → Slots c.K B' ps' σ' → Wd c.K c.T B' O' H' → σ'.length = σ.length → (∀ j, j ∉ js → σ'[j]? = σ[j]?) → R σ' H') → g u σ H R
def GsWj (c : Cb) (g : TGs) (as : List AV) (js : List Nat) (ps : Sl) (O : Own) (Φ : Sl → Own → Prop) : Prop :=
  ∀ (B : Hp) (σ : L2.St) (H : Hp) (us : List V), RepVs c.K B as us → Slots c.K B ps σ → Wd c.K c.T B O H → c.M B → ∀ R : L2.St → Hp → Prop,
    (∀ ps' O' B' σ' H', Φ ps' O' → Ext B B' → Slots c.K B' ps' σ' → Wd c.K c.T B' O' H' → σ'.length = σ.length → (∀ j, j ∉ js → σ'[j]? = σ[j]?) → R σ' H') → g us σ H R
section
variable {c : Cb} {ps : Sl} {O : Own} {a : AV} {g : TG} {gs : TGs} {js : List Nat} {Φ : Sl → Own → Prop}
theorem GWj.gw (h : GWj c g a js ps O Φ) : GW c g a ps O Φ := fun B σ H u r s w m R q => h B σ H u r s w m R fun ps' O' B' σ' H' k e s' w' _ _ => q ps' O' B' σ' H' k e s' w'
theorem gj_name {i : Nat} (hi : i ∈ js) (k : Φ (ps.set i (some a)) O) : GWj c (gName i) a js ps O Φ := fun B σ H u r s w m R q =>
  q _ O B _ H k (Ext.refl B) (s.set i r) w (by rw [List.length_set]) fun j hj => List.getElem?_set_ne (fun (e : i = j) => hj (by rw [← e]; exact hi))
theorem gjs_nil (k : Φ ps O) : GsWj c gNil [] js ps O Φ := fun B σ H us r s w m R q => by
  cases r
  exact ⟨rfl, q ps O B σ H k (Ext.refl B) s w rfl fun _ _ => rfl⟩
theorem gjs_cons {as : List AV} (h : GWj c g a js ps O fun ps1 O1 => GsWj c gs as js ps1 O1 Φ) : GsWj c (gCons g gs) (a :: as) js ps O Φ := by
  intro B σ H us r s w m R q
  cases r with
  | cons r1 r2 =>
    refine ⟨_, _, rfl, h B σ H _ r1 s w m _ fun ps1 O1 B1 σ1 H1 k e s1 w1 l1 o1 => ?_⟩
    exact k B1 σ1 H1 _ (e.reps r2) s1 w1 (c.mono _ _ e m) R fun ps2 O2 B2 σ2 H2 k2 e2 s2 w2 l2 o2 => q ps2 O2 B2 σ2 H2 k2 (e.trans e2) s2 w2 (l2.trans l1) fun j hj => (o2 j hj).trans (o1 j hj)
theorem gj_tup {n : Nat} {l : List PyData} (hn : l.length = n) (h : GsWj c gs (ds l) js ps O Φ) : GWj c (gTup c.K n gs) (.d (.tuple l)) js ps O Φ := by
  intro B σ H u r s w m R q
  cases r with
  | tup hs ha =>
    have hr := reps_of ha
    have hl := reps_len hr
    rw [List.length_map] at hl
    exact ⟨_, _, rfl, w.ex.sqT (.inl hs), by rw [← hl]; exact hn, h B σ H _ hr s w m R q⟩
end

/-! ## what is walked -/
structure Src where
  n : Nat
  at_ : Nat → AV
  need : Own → Prop
def WalkW (c : Cb) (J : It) (s : Src) (B : Hp) : Prop :=
  ∃ (G : Hp → Prop) (Y : Nat → Hp → V → Hp → Prop), Walk J s.n G Y ∧ (∀ B1 O1 H1, Ext B B1 → Wd c.K c.T B1 O1 H1 → s.need O1 → G H1) ∧
    (∀ i H x H' B1 O1, i < s.n → Ext B B1 → Wd c.K c.T B1 O1 H → s.need O1 → Y i H x H' → ∃ B2, Ext B1 B2 ∧ Wd c.K c.T B2 O1 H' ∧ RepV c.K B2 (s.at_ i) x)
def IsW (c : Cb) (wi : TI) (ps : Sl) (O : Own) (Φ : Src → Own → Prop) : Prop :=
  ∀ (B : Hp) (σ : L2.St) (H : Hp), Slots c.K B ps σ → Wd c.K c.T B O H → c.M B → ∀ R : It → Hp → Prop, (∀ s O' B' H' J, Φ s O' → Ext B B' → Wd c.K c.T B' O' H' → WalkW c J s B' → R J H') → wi σ H R
section
variable {c : Cb} {ps : Sl} {O : Own} {A : AEnds} {t : TS} {te : TE} {tt : TT} {g : TG} {wi : TI} {vs : List Nat} {Φ : Af}
/-- a for: I by the turn, the slots, what is owned -/
theorem st_for (h : IsW c wi ps O fun s O1 => ∃ I : Nat → Sl → Own → Prop, I 0 ps O1 ∧ (∀ i ps' O', i ≤ s.n → I i ps' O' → s.need O') ∧
    (∀ i ps' O', i < s.n → I i ps' O' → GW c g (s.at_ i) ps' O' fun ps2 O2 => StW c t ps2 O2 { A with nx := I (i + 1), ct := I (i + 1), bk := A.nx }) ∧ (∀ ps' O', I s.n ps' O' → A.nx ps' O')) : StW c (tFor wi g t) ps O A := by
  intro B σ H D s w m d
  refine h B σ H s w m _ fun src O1 B1 H1 J ⟨I, i0, hn, hs, hd⟩ e1 w1 ⟨G, Y, wk, hG, hY⟩ => ?_
  refine for_it wk (fun i σ' H' => ∃ ps' O' B', I i ps' O' ∧ Ext B1 B' ∧ Slots c.K B' ps' σ' ∧ Wd c.K c.T B' O' H') ⟨ps, O1, B1, i0, Ext.refl _, s.up e1, w1⟩ ?_ ?_ ?_
  · rintro i σ' H' hi ⟨ps', O', B', k, e, s', w'⟩
    exact hG B' O' H' e w' (hn i ps' O' hi k)
  · rintro i x σ' H2 H3 hi ⟨ps', O', B', k, e, s', w'⟩ y
    obtain ⟨B2, e2, w2, r2⟩ := hY i H2 x H3 B' O' hi e w' (hn i ps' O' (Nat.le_of_lt hi) k) y
    have eB : Ext B B2 := (e1.trans e).trans e2
    refine hs i ps' O' hi k B2 σ' H3 x r2 (s'.up e2) w2 (c.mono _ _ eB m) _ fun ps3 O3 B3 σ3 H3 k3 e3 s3 w3 => ?_
    refine k3 B3 σ3 H3 _ s3 w3 (c.mono _ _ (eB.trans e3) m) ⟨fun ps4 O4 B4 σ4 H4 k4 e4 s4 w4 => ⟨ps4, O4, B4, k4, ((e.trans e2).trans e3).trans e4, s4, w4⟩,
      fun a O4 B4 u H4 k4 e4 w4 r4 => d.rt a O4 B4 u H4 k4 ((eB.trans e3).trans e4) w4 r4, fun ps4 O4 B4 σ4 H4 k4 e4 s4 w4 => d.nx ps4 O4 B4 σ4 H4 k4 ((eB.trans e3).trans e4) s4 w4,
      fun ps4 O4 B4 σ4 H4 k4 e4 s4 w4 => ⟨ps4, O4, B4, k4, ((e.trans e2).trans e3).trans e4, s4, w4⟩⟩
  · rintro σ' H' ⟨ps', O', B', k, e, s', w'⟩
    exact d.nx ps' O' B' σ' H' (hd ps' O' k) (e1.trans e) s' w'
theorem wipe_at (σ : L2.St) : ∀ (vs : List Nat) (j : Nat), (L2.wipe σ vs)[j]? = if j ∈ vs then (σ[j]?).map (fun _ => none) else σ[j]?
  | [], j => by rw [if_neg (by simp)]; rfl
  | v :: vs, j => by
    unfold L2.wipe
    by_cases e : v = j
    · subst e
      rw [if_pos (List.mem_cons_self)]
      by_cases hv : v < (L2.wipe σ vs).length
      · rw [List.getElem?_set_self hv]
        rw [L2.wipe_length] at hv
        rw [List.getElem?_eq_getElem hv]; rfl
      · rw [List.getElem?_eq_none (by rw [List.length_set]; omega)]
        rw [L2.wipe_length] at hv
        rw [List.getElem?_eq_none (by omega)]; rfl
    · rw [List.getElem?_set_ne e, wipe_at σ vs j]
      by_cases h : j ∈ vs
      · rw [if_pos h, if_pos (List.mem_cons_of_mem _ h)]
      · rw [if_neg h, if_neg (by simp only [List.mem_cons, not_or]; exact ⟨fun z => e z.symm, h⟩)]
theorem wipe_agree {σ σ' : L2.St} {vs : List Nat} (l : σ'.length = (L2.wipe σ vs).length) (o : ∀ j, j ∉ vs → σ'[j]? = (L2.wipe σ vs)[j]?) : L2.wipe σ' vs = L2.wipe σ vs := by
  apply List.ext_getElem?
  intro j
  rw [wipe_at, wipe_at]
  by_cases h : j ∈ vs
  · rw [if_pos h, if_pos h]
    rw [L2.wipe_length] at l
    by_cases hj : j < σ.length
    · rw [List.getElem?_eq_getElem hj, List.getElem?_eq_getElem (by omega)]; rfl
    · rw [List.getElem?_eq_none (by omega), List.getElem?_eq_none (by omega)]
  · rw [if_neg h, if_neg h, o j h, wipe_at, if_neg h]
theorem reps_app {K : PySem.W.Frag} {B : Hp} : ∀ {as : List AV} {us : List V} {a : AV} {u : V}, RepVs K B as us → RepV K B a u → RepVs K B (as ++ [a]) (us ++ [u])
  | _, _, _, _, .nil, r => .cons r .nil
  | _, _, _, _, .cons r1 r2, r => .cons r1 (reps_app r2 r)
/-- a comprehension: I by the turn, what is made so far, what is owned (the new list p apart) -/
theorem ev_lc (h : IsW c wi ps O fun s O1 => ∃ I : Nat → List AV → Own → Prop, I 0 [] O1 ∧
    (∀ p i acc O', i ≤ s.n → I i acc O' → O' p = none → s.need (updO O' p (.lst acc))) ∧
    (∀ p i acc O', i < s.n → I i acc O' → O' p = none → acc.length < sizeLine ∧ GWj c g (s.at_ i) vs (wipeA ps vs) (updO O' p (.lst acc)) fun ps2 O2 => EvTW c tt ps2 O2 fun b O3 =>
      if b = true then EvW c te ps2 O3 fun a O4 => ∃ O5, O4 = updO O5 p (.lst acc) ∧ O5 p = none ∧ I (i + 1) (acc ++ [a]) O5 else ∃ O5, O3 = updO O5 p (.lst acc) ∧ O5 p = none ∧ I (i + 1) acc O5) ∧
    (∀ p acc O', I s.n acc O' → O' p = none → (Φ (.v (.ref p)) (updO O' p (.lst acc)) ∨ ∃ l, acc = ds l ∧ Φ (.d (.list l)) O'))) : EvW c (tLc wi g tt te vs) ps O Φ := by
  intro B σ H s w m Q q
  refine h B σ H s w m _ fun src O1 B1 H1 J ⟨I, i0, hn, hs, hd⟩ e1 w1 ⟨G, Y, wk, hG, hY⟩ p hp => ?_
  have hpO := w1.freeO hp
  refine lc_it wk (fun i H' => ∃ acc O' B', I i acc O' ∧ O' p = none ∧ Ext B1 B' ∧ Wd c.K c.T B' (updO O' p (.lst acc)) H') ⟨[], O1, B1, i0, hpO, Ext.refl _, w1.new hp ⟨[], rfl, .nil⟩⟩ ?_ ?_ ?_
  · rintro i H' hi ⟨acc, O', B', k, hO, e, w'⟩
    exact hG B' _ H' e w' (hn p i acc O' hi k hO)
  · rintro i x H2 H3 hi ⟨acc, O', B', k, hO, e, w'⟩ y
    obtain ⟨B2, e2, w2, r2⟩ := hY i H2 x H3 B' _ hi e w' (hn p i acc O' (Nat.le_of_lt hi) k hO) y
    have eB : Ext B B2 := (e1.trans e).trans e2
    obtain ⟨hz, hg⟩ := hs p i acc O' hi k hO
    refine hg B2 _ H3 x r2 ((s.up eB).wipe vs) w2 (c.mono _ _ eB m) _ fun ps3 O3 B3 σ3 H4 k3 e3 s3 w3 l3 o3 => ⟨wipe_agree l3 o3, ?_⟩
    refine k3 B3 σ3 H4 s3 w3 (c.mono _ _ (eB.trans e3) m) _ fun b O4 B4 H5 k4 e4 w4 => ?_
    have eC : Ext B B4 := (eB.trans e3).trans e4
    have eD : Ext B1 B4 := ((e.trans e2).trans e3).trans e4
    cases b with
    | false =>
      obtain ⟨O5, rfl, h5, k5⟩ := k4
      exact ⟨acc, O5, B4, k5, h5, eD, w4⟩
    | true =>
      refine k4 B4 σ3 H5 (s3.up e4) w4 (c.mono _ _ eC m) _ fun a O6 B6 u H6 ⟨O5, h6, h5, k5⟩ e6 w6 r6 => ?_
      subst h6
      obtain ⟨_, o, ho, us, rfl, ra⟩ := w6.own p _ updO_same
      refine ⟨us, ho, by rw [← reps_len ra]; exact hz, acc ++ [a], O5, B6, k5, h5, eD.trans e6, ?_⟩
      have w7 := w6.put (ao := .lst (acc ++ [a])) (o := .lst (us ++ [u])) updO_same ⟨_, rfl, reps_app ra r6⟩
      rw [updO_updO] at w7
      exact w7
  · rintro H' ⟨acc, O', B', k, hO, e, w'⟩
    rcases hd p acc O' k hO with k2 | ⟨l, rfl, k2⟩
    · exact q _ _ B' _ H' k2 (e1.trans e) w' rfl
    · obtain ⟨B2, e2, w2, d2⟩ := w'.freeze updO_same
      have ed : delO (updO O' p (.lst (ds l))) p = O' := by
        funext z
        unfold delO
        by_cases hz : z = p
        · rw [if_pos hz, hz, hO]
        · rw [if_neg hz, updO_ne hz]
      rw [ed] at w2
      exact q _ _ B2 _ H' k2 ((e1.trans e).trans e2) w2 d2
end
end BL

set_option Elab.async false
set_option linter.all false
set_option maxRecDepth 100000
set_option maxHeartbeats 4000000
namespace BL
open PySem PySem.Spec PyProof.Rows L2

section
variable {c : Cb} {ps : Sl} {O : Own} {A : AEnds} {t u : TS} {te : TE} {tt : TT}
/-- a while: I with a measure -/
theorem st_while (I : Nat → Sl → Own → Prop) (m0 : Nat) (h0 : I m0 ps O) (hs : ∀ n ps' O', I n ps' O' → EvTW c tt ps' O' fun b O2 =>
    if b = true then StW c t ps' O2 { A with nx := fun ps3 O3 => ∃ n', n' < n ∧ I n' ps3 O3, ct := fun ps3 O3 => ∃ n', n' < n ∧ I n' ps3 O3, bk := A.nx } else A.nx ps' O2) : StW c (tWhile tt t) ps O A := by
  intro B σ H D s w m d
  refine ⟨fun n σ' H' => ∃ ps' O' B', I n ps' O' ∧ Ext B B' ∧ Slots c.K B' ps' σ' ∧ Wd c.K c.T B' O' H', ⟨m0, ps, O, B, h0, Ext.refl B, s, w⟩, ?_⟩
  rintro n σ' H' ⟨ps', O', B', k, e, s', w'⟩
  refine hs n ps' O' k B' σ' H' s' w' (c.mono _ _ e m) _ fun b O2 B2 H2 k2 e2 w2 => ?_
  have eB := e.trans e2
  cases b with
  | false => exact d.nx ps' O2 B2 σ' H2 k2 eB (s'.up e2) w2
  | true =>
    refine ⟨fun σ3 H3 => ∃ n', n' < n ∧ ∃ ps' O' B', I n' ps' O' ∧ Ext B B' ∧ Slots c.K B' ps' σ3 ∧ Wd c.K c.T B' O' H3, fun σ3 H3 z => z, ?_⟩
    refine k2 B2 σ' H2 _ (s'.up e2) w2 (c.mono _ _ eB m) ⟨?_, fun a O4 B4 u H4 k4 e4 w4 r4 => d.rt a O4 B4 u H4 k4 (eB.trans e4) w4 r4, fun ps4 O4 B4 σ4 H4 k4 e4 s4 w4 => d.nx ps4 O4 B4 σ4 H4 k4 (eB.trans e4) s4 w4, ?_⟩
    · rintro ps4 O4 B4 σ4 H4 ⟨n', l, k4⟩ e4 s4 w4
      exact ⟨n', l, ps4, O4, B4, k4, eB.trans e4, s4, w4⟩
    · rintro ps4 O4 B4 σ4 H4 ⟨n', l, k4⟩ e4 s4 w4
      exact ⟨n', l, ps4, O4, B4, k4, eB.trans e4, s4, w4⟩
/-- an own list of data is frozen: everywhere where it stood it is data from then on -/
def frzA (p : Addr) (d : PyData) : AV → AV
  | .v (.ref q) => if q = p then .d d else .v (.ref q)
  | a => a
theorem frzA_rep {K : PySem.W.Frag} {B : Hp} {p : Addr} {d : PyData} (h : Dq K B (.ref p) d) : ∀ {a : AV} {u : V}, RepV K B a u → RepV K B (frzA p d a) u := by
  intro a u r
  unfold frzA
  split
  · rename_i q
    split
    · rename_i e
      subst e
      cases r
      exact h
    · exact r
  · exact r
theorem st_freeze {p : Addr} {l : List PyData} (h : O p = some (.lst (ds l))) (k : StW c t (ps.map (Option.map (frzA p (.list l)))) (delO O p) A) : StW c t ps O A := by
  intro B σ H D s w m d
  obtain ⟨B2, e2, w2, d2⟩ := w.freeze h
  refine k B2 σ H D ⟨by rw [List.length_map]; exact s.len, fun i a q => ?_⟩ w2 (c.mono _ _ e2 m) (d.up e2)
  rw [List.getElem?_map] at q
  cases z : ps[i]? with
  | none => rw [z] at q; cases q
  | some o =>
    rw [z] at q
    cases o with
    | none => cases q
    | some b =>
      cases q
      obtain ⟨u, h1, h2⟩ := s.at_ i b z
      exact ⟨u, h1, frzA_rep d2 (e2.rep h2)⟩
/-- less is known from here on -/
theorem st_less {ps' : Sl} {O' : Own} (l : SlLe ps' ps) (o : OLe O' O) (k : StW c t ps' O' A) : StW c t ps O A := fun B σ H D s w m d => k B σ H D (s.less l) (w.drop o) m d
theorem st_imp {A' : AEnds} (h : StW c t ps O A') (nx : ∀ ps O, A'.nx ps O → A.nx ps O) (rt : ∀ a O, A'.rt a O → A.rt a O) (bk : ∀ ps O, A'.bk ps O → A.bk ps O) (ct : ∀ ps O, A'.ct ps O → A.ct ps O) : StW c t ps O A := fun B σ H D s w m d =>
  h B σ H D s w m ⟨fun ps O B' σ H k => d.nx ps O B' σ H (nx _ _ k), fun a O B' u H k => d.rt a O B' u H (rt _ _ k), fun ps O B' σ H k => d.bk ps O B' σ H (bk _ _ k), fun ps O B' σ H k => d.ct ps O B' σ H (ct _ _ k)⟩
theorem ev_imp {Φ Φ' : Af} (h : EvW c te ps O Φ') (k : ∀ a O, Φ' a O → Φ a O) : EvW c te ps O Φ := fun B σ H s w m Q q => h B σ H s w m Q fun a O' B' u H' z => q a O' B' u H' (k _ _ z)
theorem et_imp {Φ Φ' : Bool → Own → Prop} (h : EvTW c tt ps O Φ') (k : ∀ a O, Φ' a O → Φ a O) : EvTW c tt ps O Φ := fun B σ H s w m Q q => h B σ H s w m Q fun a O' B' H' z => q a O' B' H' (k _ _ z)
end

/-! ## a def keeps its promise -/
def aret (Φ : Af) : AEnds := { nx := fun _ O => ∃ O2, OLe O2 O ∧ Φ (.d .none) O2, rt := fun a O => ∃ O2, OLe O2 O ∧ Φ a O2, bk := fun _ _ => False, ct := fun _ _ => False }
section
variable {P : Program} {w : World} {K : PySem.W.Frag} {T : List Addr} {mg : Str → Option Value} {base : Heap}
theorem ad_ret {c : Cb} {Φ : Af} {B : Hp} {Q : VK} (hK : c.K = K) (hT : c.T = T) (hQ : ∀ a O' B' u H', Φ a O' → Ext B B' → Wd K T B' O' H' → RepV K B' a u → Q u H') : AD c (aret Φ) B { nx := fun _ H' => Q .non H', rt := Q } := by
  subst hK hT
  exact ⟨fun ps O B' σ H ⟨O2, l, k⟩ e s w => hQ _ O2 B' _ H k e (w.drop l) .non, fun a O B' u H ⟨O2, l, k⟩ e w r => hQ a O2 B' u H k e (w.drop l) r, fun _ _ _ _ _ z => z.elim, fun _ _ _ _ _ z => z.elim⟩
theorem ok_fn {x qual : Str} {st : Stmt} {f : Addr} {fd : FuncData} {N pr : List Str} {k : Nat} {Fs : FSp} (F : Fun K x qual st f fd) (S : FnScope N pr (defScope st)) (len : ∀ as O Φ Ψ, Fs as O Φ Ψ → as.length = pr.length)
    (hd : ∀ (cdv : Value) (A : Around) (outer : List Env) (s : Shared) (H : Hp) (E : XK), Room k (A.deeper (envOfC qual (defScope st) s.heap.objs.size f cdv)) →
      ∃ t, PSs (cxOf CX0 P w K mg base N qual (defScope st) f cdv A outer s H E).nox (defBody st) t ∧ ∀ as O Φ Ψ, Fs as O Φ Ψ → StW (cb0 K T) t (slots0 N as) O (aret Φ)) :
    FnOk P w K mg base CX0 (k + 1) f fd pr (spOf K T Fs) := by
  refine F.ok S (fun vs H Q E h => ?_) fun cdv A outer s H vs Q E hr h => ?_
  · obtain ⟨B, O, as, Φ, Ψ, r, _, hF, _⟩ := h
    rw [← reps_len r]; exact len _ _ _ _ hF
  · obtain ⟨t, ht, hst⟩ := hd cdv A outer s H E hr
    obtain ⟨B, O, as, Φ, Ψ, r, w', hF, hQ, _⟩ := h
    exact ⟨t, ht, hst as O Φ Ψ hF B _ H _ (slots_start r) w' trivial (ad_ret rfl rfl hQ)⟩
/-- a def that may raise: what its exceptions are to find -/
abbrev cbX (K : PySem.W.Frag) (T : List Addr) (Ψ : Value → Own → Prop) (E : XK) : Cb :=
  ⟨K, T, fun B => ∀ cls O' B' H', Ψ cls O' → Ext B B' → Wd K T B' O' H' → E cls none H', fun _ _ e h cls O' B' H' k e' w' => h cls O' B' H' k (e.trans e') w'⟩
theorem esc_X {Ψ : Value → Own → Prop} {E : XK} : Esc (cbX K T Ψ E) (fun cls d _ H => E cls d H) (fun cls _ O => ∃ O2, OLe O2 O ∧ Ψ cls O2) := fun B cls ps O σ H m ⟨O2, l, k⟩ _ w' => m cls O2 B H k (Ext.refl B) (Wd.drop w' l)
theorem ok_fnX {x qual : Str} {st : Stmt} {f : Addr} {fd : FuncData} {N pr : List Str} {k : Nat} {Fs : FSp} (F : Fun K x qual st f fd) (S : FnScope N pr (defScope st)) (len : ∀ as O Φ Ψ, Fs as O Φ Ψ → as.length = pr.length)
    (hd : ∀ (cdv : Value) (A : Around) (outer : List Env) (s : Shared) (H : Hp) (E : XK), Room k (A.deeper (envOfC qual (defScope st) s.heap.objs.size f cdv)) →
      ∃ t, PSs (cxOf (L2N.CX P w) P w K mg base N qual (defScope st) f cdv A outer s H E) (defBody st) t ∧ ∀ as O Φ Ψ, Fs as O Φ Ψ → StW (cbX K T Ψ E) t (slots0 N as) O (aret Φ)) :
    FnOk P w K mg base (L2N.CX P w) (k + 1) f fd pr (spOf K T Fs) := by
  obtain ⟨oc, od, kV, doc, pm, an, cdv, ct, osl, rfl, lk, hcd⟩ := F.ex
  refine fn_of lk hcd S (fun vs H Q E h => ?_) fun A outer s H vs Q E hr h => ?_
  · obtain ⟨B, O, as, Φ, Ψ, r, _, hF, _⟩ := h
    rw [← reps_len r]; exact len _ _ _ _ hF
  · obtain ⟨t, ht, hst⟩ := hd cdv A outer s H E hr
    obtain ⟨B, O, as, Φ, Ψ, r, w', hF, hQ, hE⟩ := h
    exact ⟨t, ht, hst as O Φ Ψ hF B _ H _ (slots_start r) w' hE (ad_ret rfl rfl hQ)⟩
end

/-! ## try: body / except X as n: suite -/
abbrev cbT (c : Cb) (A : AEnds) (D : Ends) : Cb := ⟨c.K, c.T, fun B => c.M B ∧ AD c A B D, fun _ _ e h => ⟨c.mono _ _ e h.1, h.2.up e⟩⟩
/-- Ξ: what the body may let out; the suite is walked for each class -/
theorem st_tryAs {c : Cb} {tb : WX → TS} {C : Value} {i : Nat} {tsu : Addr → Value → Option Addr → TS} {Wout : WX} {ps : Sl} {O : Own} {A : AEnds} (Ξ : Value → Sl → Own → Prop)
    (hb : ∀ (c' : Cb) (W : WX), c'.K = c.K → c'.T = c.T → Esc c' W Ξ → StW c' (tb W) ps O A)
    (hx : ∀ cls ps' O', Ξ cls ps' O' → PySem.W.exmOne c.K cls C = some true ∧ ∀ a, O' a = none → StW c (tsu a cls none) (ps'.set i (some (.v (.ref a)))) O' { nx := fun ps2 O2 => A.nx (ps2.set i none) O2, rt := A.rt, bk := fun ps2 O2 => A.bk (ps2.set i none) O2, ct := fun ps2 O2 => A.ct (ps2.set i none) O2 }) :
    StW c (fun D σ H => tb (wAs c.K C i tsu Wout D) D σ H) ps O A := by
  intro B σ H D s w m d
  have unset : ∀ {B' : Hp} {ps2 : Sl} {σ2 : L2.St}, Slots c.K B' ps2 σ2 → Slots c.K B' (ps2.set i none) (σ2.set i none) := fun {B' ps2 σ2} z => z.wipe [i]
  refine hb (cbT c A D) _ rfl rfl ?_ B σ H D s w ⟨m, d⟩ ⟨d.nx, d.rt, d.bk, d.ct⟩
  intro B1 cls ps1 O1 σ1 H1 ⟨m1, d1⟩ k1 s1 w1
  obtain ⟨hex, hsu⟩ := hx cls ps1 O1 k1
  refine ⟨true, hex, fun _ a na => ?_, fun z => by cases z⟩
  refine hsu a (Wd.freeO w1 na) B1 _ H1 _ (Slots.set s1 i rfl) w1 m1 ⟨fun ps2 O2 B2 σ2 H2 k2 e2 s2 w2 => d1.nx _ O2 B2 _ H2 k2 e2 (unset s2) w2, d1.rt, fun ps2 O2 B2 σ2 H2 k2 e2 s2 w2 => d1.bk _ O2 B2 _ H2 k2 e2 (unset s2) w2,
    fun ps2 O2 B2 σ2 H2 k2 e2 s2 w2 => d1.ct _ O2 B2 _ H2 k2 e2 (unset s2) w2⟩
end BL

set_option Elab.async false
set_option linter.all false
set_option maxRecDepth 100000
set_option maxHeartbeats 4000000
namespace BL
open PySem PySem.Spec PyProof.Rows L2

/-! ## operations: readings that serve several kinds, and what they give on data -/
abbrev orR (r r' : R2) : R2 := fun x y H Q => r x y H Q ∨ r' x y H Q
abbrev orC (r r' : List V → Hp → VK → Prop) : List V → Hp → VK → Prop := fun xs H Q => r xs H Q ∨ r' xs H Q
abbrev orM (r r' : V → List V → Hp → VK → Prop) : V → List V → Hp → VK → Prop := fun x xs H Q => r x xs H Q ∨ r' x xs H Q
abbrev orS (r r' : V → Option Int → Option Int → Hp → VK → Prop) : V → Option Int → Option Int → Hp → VK → Prop := fun x lo hi H Q => r x lo hi H Q ∨ r' x lo hi H Q
section
variable {c : Cb} {x y : AV} {O : Own} {Φ : Af}
theorem ow_l {r r' : R2} (h : opW c r x y O Φ) : opW c (orR r r') x y O Φ := fun B H u v ru rv w Q q => .inl (h B H u v ru rv w Q q)
theorem ow_r {r r' : R2} (h : opW c r' x y O Φ) : opW c (orR r r') x y O Φ := fun B H u v ru rv w Q q => .inr (h B H u v ru rv w Q q)
theorem cw_l {xs : List AV} {r r' : List V → Hp → VK → Prop} (h : calW c r xs O Φ) : calW c (orC r r') xs O Φ := fun B H u ru w Q q => .inl (h B H u ru w Q q)
theorem cw_r {xs : List AV} {r r' : List V → Hp → VK → Prop} (h : calW c r' xs O Φ) : calW c (orC r r') xs O Φ := fun B H u ru w Q q => .inr (h B H u ru w Q q)
theorem mw_l {xs : List AV} {r r' : V → List V → Hp → VK → Prop} (h : mtW c r x xs O Φ) : mtW c (orM r r') x xs O Φ := fun B H u us ru rv w Q q => .inl (h B H u us ru rv w Q q)
theorem mw_r {xs : List AV} {r r' : V → List V → Hp → VK → Prop} (h : mtW c r' x xs O Φ) : mtW c (orM r r') x xs O Φ := fun B H u us ru rv w Q q => .inr (h B H u us ru rv w Q q)
theorem sw_l {lo hi : Option Int} {r r' : V → Option Int → Option Int → Hp → VK → Prop} (h : slW c r x lo hi O Φ) : slW c (orS r r') x lo hi O Φ := fun B H u ru w Q q => .inl (h B H u ru w Q q)
theorem sw_r {lo hi : Option Int} {r r' : V → Option Int → Option Int → Hp → VK → Prop} (h : slW c r' x lo hi O Φ) : slW c (orS r r') x lo hi O Φ := fun B H u ru w Q q => .inr (h B H u ru w Q q)
/-- ints -/
theorem ow_I0 {g : Int → Int → Int} {i j : Int} (k : Φ (.d (.int (g i j))) O) : opW c (rI0 fun i j => .int (g i j)) (.d (.int i)) (.d (.int j)) O Φ := fun B H u v ru rv w Q q =>
  ⟨i, j, int_of ru, int_of rv, q _ O B _ H k (Ext.refl B) w (.int _)⟩
theorem ow_I {C : Int → Int → Prop} {g : Int → Int → Int} {i j : Int} (hc : C i j) (k : Φ (.d (.int (g i j))) O) : opW c (rI C fun i j => .int (g i j)) (.d (.int i)) (.d (.int j)) O Φ := fun B H u v ru rv w Q q =>
  ⟨i, j, int_of ru, int_of rv, hc, q _ O B _ H k (Ext.refl B) w (.int _)⟩
theorem ow_B0 {g : Int → Int → Bool} {i j : Int} (k : Φ (.d (.bool (g i j))) O) : opW c (rI0 fun i j => .bl (g i j)) (.d (.int i)) (.d (.int j)) O Φ := fun B H u v ru rv w Q q =>
  ⟨i, j, int_of ru, int_of rv, q _ O B _ H k (Ext.refl B) w (.bl _)⟩
theorem uw_neg {i : Int} (k : Φ (.d (.int (-i))) O) : unW c (rU fun i => .int (-i)) (.d (.int i)) O Φ := fun B H u ru w Q q => ⟨i, int_of ru, q _ O B _ H k (Ext.refl B) w (.int _)⟩
/-- // by any divisor but nought, below 2 ^ 9000 -/
def CDivX (_ j : Int) : Prop := j ≠ 0 ∧ j.natAbs.log2 < 9000
theorem op_fdivX {X : Cx} : OpR X (binaryOp .FloorDiv) (rI CDivX fun i j => .int (i.fdiv j)) := opI fun i j _ _ _ _ _ hc q => floordiv_int hc.1 q (.inl (PyProof.noPylong_of_log2 hc.2))
/-- a + b -/
def rAddStr : R2 := fun x y H Q => ∃ i j, x = .str i ∧ y = .str j ∧ i.length + j.length ≤ sizeLine ∧ Q (.str (i ++ j)) H
def rAddA (K : PySem.W.Frag) : R2 := orR (orR (rI0 fun i j => .int (i + j)) rAddStr) (orR rCat (rCatA K))
theorem op_addA {X : Cx} : OpR X (binaryOp .Add) (rAddA X.K) := OpR.or (OpR.or op_add op_add_str) (OpR.or op_cat op_catA)
theorem ow_addI {i j : Int} (k : Φ (.d (.int (i + j))) O) : opW c (rAddA c.K) (.d (.int i)) (.d (.int j)) O Φ := ow_l (ow_l (ow_I0 k))
theorem ow_addS {i j : Str} (hl : i.length + j.length ≤ sizeLine) (k : Φ (.d (.str (i ++ j))) O) : opW c (rAddA c.K) (.d (.str i)) (.d (.str j)) O Φ := ow_l (ow_r fun B H u v ru rv w Q q =>
  ⟨i, j, str_of ru, str_of rv, hl, q _ O B _ H k (Ext.refl B) w (.str _)⟩)
theorem dqs_len {K : PySem.W.Frag} {B : Hp} {l : List PyData} {vs : List V} (h : DqAll K B vs l) : vs.length = l.length := by
  have := reps_len (reps_of h)
  rw [List.length_map] at this
  exact this.symm
theorem dqs_app {K : PySem.W.Frag} {B : Hp} {l l2 : List PyData} {vs vs2 : List V} (h : DqAll K B vs l) (h2 : DqAll K B vs2 l2) : DqAll K B (vs ++ vs2) (l ++ l2) := by
  induction l generalizing vs with
  | nil => cases h; exact h2
  | cons d l ih =>
    cases h with
    | cons a b => exact .cons a (ih b)
theorem newL {B H : Hp} {p : Addr} {vs : List V} {l : List PyData} (w : Wd c.K c.T B O H) (hp : H p = none) (d : DqAll c.K B vs l) :
    Ext B (upd B p (.lst vs)) ∧ Wd c.K c.T (upd B p (.lst vs)) O (upd H p (.lst vs)) ∧ RepV c.K (upd B p (.lst vs)) (.d (.list l)) (.ref p) :=
  have e := Ext.up (o := .lst vs) (w.freeB hp)
  ⟨e, w.frz hp _, .lst upd_same (e.dps _ _ d)⟩
theorem newT {B H : Hp} {p : Addr} {vs : List V} {l : List PyData} (w : Wd c.K c.T B O H) (hp : H p = none) (d : DqAll c.K B vs l) :
    Ext B (upd B p (.tup vs)) ∧ Wd c.K c.T (upd B p (.tup vs)) O (upd H p (.tup vs)) ∧ RepV c.K (upd B p (.tup vs)) (.d (.tuple l)) (.ref p) :=
  have e := Ext.up (o := .tup vs) (w.freeB hp)
  ⟨e, w.frz hp _, .tup (.inl upd_same) (e.dps _ _ d)⟩
theorem ow_addL {l l2 : List PyData} (hl : l.length + l2.length ≤ sizeLine) (k : Φ (.d (.list (l ++ l2))) O) : opW c (rAddA c.K) (.d (.list l)) (.d (.list l2)) O Φ := ow_r (ow_l fun B H u v ru rv w Q q => by
  cases ru with
  | lst h1 d1 =>
    cases rv with
    | lst h2 d2 =>
      refine ⟨_, _, _, _, rfl, rfl, w.ex _ _ h1, w.ex _ _ h2, by rw [dqs_len d1, dqs_len d2]; exact hl, fun p hp => ?_⟩
      have z := newL w hp (dqs_app d1 d2)
      exact q _ O _ _ _ k z.1 z.2.1 z.2.2)
theorem ow_addT {l l2 : List PyData} (hl : l.length + l2.length ≤ sizeLine) (k : Φ (.d (.tuple (l ++ l2))) O) : opW c (rAddA c.K) (.d (.tuple l)) (.d (.tuple l2)) O Φ := ow_r (ow_r fun B H u v ru rv w Q q => by
  have ru0 := ru
  have rv0 := rv
  cases ru with
  | tup h1 d1 =>
    cases rv with
    | tup h2 d2 =>
      refine ⟨_, _, _, _, rfl, rfl, w.ex.sqT (.inl h1), w.ex.sqT (.inl h2), by rw [dqs_len d1, dqs_len d2]; exact hl, fun e1 => ?_, fun n1 e2 => ?_, fun n1 n2 p hp => ?_⟩
      · subst e1
        cases d1
        exact q _ O B _ H k (Ext.refl B) w rv0
      · subst e2
        cases d2
        rw [List.append_nil] at k
        exact q _ O B _ H k (Ext.refl B) w ru0
      · have z := newT w hp (dqs_app d1 d2)
        exact q _ O _ _ _ k z.1 z.2.1 z.2.2)
/-- a * b -/
def rMulA (K : PySem.W.Frag) : R2 := orR (rI CMulW fun i j => .int (i * j)) (orR rRep (rRepT K))
theorem op_mulA {X : Cx} : OpR X (binaryOp .Mult) (rMulA X.K) := OpR.or op_mulW (OpR.or op_rep op_repT)
theorem ow_mulI {i j : Int} (hc : CMulW i j) (k : Φ (.d (.int (i * j))) O) : opW c (rMulA c.K) (.d (.int i)) (.d (.int j)) O Φ := ow_l (ow_I hc k)
theorem dqs_rep {K : PySem.W.Frag} {B : Hp} {l : List PyData} {vs : List V} (h : DqAll K B vs l) : ∀ n : Nat, DqAll K B (List.replicate n vs).flatten (List.replicate n l).flatten
  | 0 => .nil
  | n + 1 => by
    rw [List.replicate_succ, List.replicate_succ, List.flatten_cons, List.flatten_cons]
    exact dqs_app h (dqs_rep h n)
theorem ow_mulL {l : List PyData} {n : Int} (h1 : -(2 ^ 63) ≤ n) (h2 : n < 2 ^ 63) (hl : l.length * n.toNat ≤ sizeLine) (k : Φ (.d (.list (List.replicate n.toNat l).flatten)) O) : opW c (rMulA c.K) (.d (.list l)) (.d (.int n)) O Φ := ow_r (ow_l fun B H u v ru rv w Q q => by
  cases ru with
  | lst g1 d1 =>
    refine ⟨_, n, _, rfl, int_of rv, w.ex _ _ g1, h1, h2, by rw [dqs_len d1]; exact hl, fun p hp => ?_⟩
    have z := newL w hp (dqs_rep d1 n.toNat)
    exact q _ O _ _ _ k z.1 z.2.1 z.2.2)
/-- == and != of data -/
def rEqA (K : PySem.W.Frag) : R2 := orR rEq (rEqD K)
def rNeA (K : PySem.W.Frag) : R2 := orR rNe (rNeD K)
theorem op_eqA {X : Cx} (hu : X.A.units + 64 < cLine) : OpR X (compareOp .Eq) (rEqA X.K) := OpR.or op_eq (op_eqD hu)
theorem op_neA {X : Cx} (hu : X.A.units + 64 < cLine) : OpR X (compareOp .NotEq) (rNeA X.K) := OpR.or op_ne (op_neD hu)
theorem ow_eqI {i j : Int} (k : Φ (.d (.bool (decide (i = j)))) O) : opW c (rEqA c.K) (.d (.int i)) (.d (.int j)) O Φ := ow_l fun B H u v ru rv w Q q => by
  rw [int_of ru, int_of rv]
  have e : decide (V.int i = V.int j) = decide (i = j) := by
    by_cases h : i = j
    · subst h; simp
    · rw [decide_eq_false h, decide_eq_false (fun z => h (V.int.inj z))]
  exact ⟨rfl, by rw [e]; exact q _ O B _ H k (Ext.refl B) w (.bl _)⟩
theorem ow_neI {i j : Int} (k : Φ (.d (.bool (!decide (i = j)))) O) : opW c (rNeA c.K) (.d (.int i)) (.d (.int j)) O Φ := ow_l fun B H u v ru rv w Q q => by
  rw [int_of ru, int_of rv]
  have e : decide (V.int i = V.int j) = decide (i = j) := by
    by_cases h : i = j
    · subst h; simp
    · rw [decide_eq_false h, decide_eq_false (fun z => h (V.int.inj z))]
  exact ⟨rfl, by rw [e]; exact q _ O B _ H k (Ext.refl B) w (.bl _)⟩
theorem ow_eqS {i j : Str} (k : Φ (.d (.bool (decide (i = j)))) O) : opW c (rEqA c.K) (.d (.str i)) (.d (.str j)) O Φ := ow_l fun B H u v ru rv w Q q => by
  rw [str_of ru, str_of rv]
  have e : decide (V.str i = V.str j) = decide (i = j) := by
    by_cases h : i = j
    · subst h; simp
    · rw [decide_eq_false h, decide_eq_false (fun z => h (V.str.inj z))]
  exact ⟨rfl, by rw [e]; exact q _ O B _ H k (Ext.refl B) w (.bl _)⟩
theorem ow_neS {i j : Str} (k : Φ (.d (.bool (!decide (i = j)))) O) : opW c (rNeA c.K) (.d (.str i)) (.d (.str j)) O Φ := ow_l fun B H u v ru rv w Q q => by
  rw [str_of ru, str_of rv]
  have e : decide (V.str i = V.str j) = decide (i = j) := by
    by_cases h : i = j
    · subst h; simp
    · rw [decide_eq_false h, decide_eq_false (fun z => h (V.str.inj z))]
  exact ⟨rfl, by rw [e]; exact q _ O B _ H k (Ext.refl B) w (.bl _)⟩
theorem ow_eqB {i j : Bool} (k : Φ (.d (.bool (i == j))) O) : opW c (rEqA c.K) (.d (.bool i)) (.d (.bool j)) O Φ := ow_l fun B H u v ru rv w Q q => by
  rw [bl_of ru, bl_of rv]
  have e : decide (V.bl i = V.bl j) = (i == j) := by cases i <;> cases j <;> decide
  exact ⟨rfl, by rw [e]; exact q _ O B _ H k (Ext.refl B) w (.bl _)⟩
theorem ow_neB {i j : Bool} (k : Φ (.d (.bool (i != j))) O) : opW c (rNeA c.K) (.d (.bool i)) (.d (.bool j)) O Φ := ow_l fun B H u v ru rv w Q q => by
  rw [bl_of ru, bl_of rv]
  have e : (!decide (V.bl i = V.bl j)) = (i != j) := by cases i <;> cases j <;> decide
  exact ⟨rfl, by rw [e]; exact q _ O B _ H k (Ext.refl B) w (.bl _)⟩
theorem ow_eqD {d e : PyData} (hd : SeqAt.shaped d = true) (he : SeqAt.shaped e = true) (k : Φ (.d (.bool (PyData.eqv d e))) O) : opW c (rEqA c.K) (.d d) (.d e) O Φ := ow_r fun B H u v ru rv w Q q =>
  ⟨d, e, Dq.dp _ _ (w.ex.dp _ _ ru), Dq.dp _ _ (w.ex.dp _ _ rv), hd, he, q _ O B _ H k (Ext.refl B) w (.bl _)⟩
theorem ow_neD {d e : PyData} (hd : SeqAt.shaped d = true) (he : SeqAt.shaped e = true) (k : Φ (.d (.bool (!PyData.eqv d e))) O) : opW c (rNeA c.K) (.d d) (.d e) O Φ := ow_r fun B H u v ru rv w Q q =>
  ⟨d, e, Dq.dp _ _ (w.ex.dp _ _ ru), Dq.dp _ _ (w.ex.dp _ _ rv), hd, he, q _ O B _ H k (Ext.refl B) w (.bl _)⟩
/-- is None -/
def isNoneD : PyData → Bool
  | .none => true
  | _ => false
theorem isN_d {K : PySem.W.Frag} {B : Hp} {d : PyData} {u : V} (h : Dq K B u d) : decide (u = V.non) = isNoneD d := by
  cases h <;> simp [isNoneD]
theorem ow_isN {d : PyData} (k : Φ (.d (.bool (isNoneD d))) O) : opW c (fun x y H Q => y = .non ∧ Q (.bl (decide (x = .non))) H) (.d d) (.d .none) O Φ := fun B H u v ru rv w Q q =>
  ⟨non_of rv, by rw [isN_d ru]; exact q _ O B _ H k (Ext.refl B) w (.bl _)⟩
theorem ow_notN {d : PyData} (k : Φ (.d (.bool (!isNoneD d))) O) : opW c (fun x y H Q => y = .non ∧ Q (.bl (!decide (x = .non))) H) (.d d) (.d .none) O Φ := fun B H u v ru rv w Q q =>
  ⟨non_of rv, by rw [isN_d ru]; exact q _ O B _ H k (Ext.refl B) w (.bl _)⟩
/-- xs[i] -/
theorem dqs_get {K : PySem.W.Frag} {B : Hp} {l : List PyData} {vs : List V} {i : Nat} {d : PyData} (h : DqAll K B vs l) (e : l[i]? = some d) : ∃ u, vs[i]? = some u ∧ Dq K B u d :=
  reps_get (a := .d d) (reps_of h) (by rw [List.getElem?_map, e]; rfl)
theorem dqs_at {K : PySem.W.Frag} {B : Hp} {l : List PyData} {vs : List V} {i : Int} {d : PyData} (h : DqAll K B vs l) (e : atI l i = some d) : ∃ u, atI vs i = some u ∧ Dq K B u d := by
  unfold atI at e ⊢
  rw [dqs_len h]
  cases q : ixN l.length i with
  | none => rw [q] at e; cases e
  | some j =>
    rw [q] at e
    exact dqs_get h e
theorem ow_ixL {l : List PyData} {i : Int} {d : PyData} (e : atI l i = some d) (k : Φ (.d d) O) : opW c (rIx c.K) (.d (.list l)) (.d (.int i)) O Φ := fun B H u v ru rv w Q q => by
  cases ru with
  | lst g1 d1 =>
    obtain ⟨z, h1, h2⟩ := dqs_at d1 e
    exact .inl ⟨_, _, i, z, rfl, int_of rv, .inl (.inl (w.ex _ _ g1)), h1, q _ O B _ H k (Ext.refl B) w h2⟩
theorem ow_ixT {l : List PyData} {i : Int} {d : PyData} (e : atI l i = some d) (k : Φ (.d d) O) : opW c (rIx c.K) (.d (.tuple l)) (.d (.int i)) O Φ := fun B H u v ru rv w Q q => by
  cases ru with
  | tup g1 d1 =>
    obtain ⟨z, h1, h2⟩ := dqs_at d1 e
    exact .inr (.inl ⟨_, _, i, z, rfl, int_of rv, w.ex.sqT (.inl g1), h1, q _ O B _ H k (Ext.refl B) w h2⟩)
theorem ow_ixS {z : Str} {i : Int} {ch : Nat} (hz : z.length ≤ sizeLine) (e : atI z.cps.toList i = some ch) (k : Φ (.d (.str ⟨#[ch]⟩)) O) : opW c (rIx c.K) (.d (.str z)) (.d (.int i)) O Φ := fun B H u v ru rv w Q q =>
  .inr (.inr ⟨z, i, ch, str_of ru, int_of rv, hz, e, q _ O B _ H k (Ext.refl B) w (.str _)⟩)
theorem reps_at {K : PySem.W.Frag} {B : Hp} {l : List AV} {vs : List V} {i : Int} {d : AV} (h : RepVs K B l vs) (e : atI l i = some d) : ∃ u, atI vs i = some u ∧ RepV K B d u := by
  unfold atI at e ⊢
  rw [← reps_len h]
  cases q : ixN l.length i with
  | none => rw [q] at e; cases e
  | some j =>
    rw [q] at e
    exact reps_get h e
theorem ow_ixO {p : Addr} {l : List AV} {i : Int} {d : AV} (hp : O p = some (.lst l)) (e : atI l i = some d) (k : Φ d O) : opW c (rIx c.K) (.v (.ref p)) (.d (.int i)) O Φ := fun B H u v ru rv w Q q => by
  obtain ⟨_, o, h1, us, rfl, h2⟩ := w.own p _ hp
  obtain ⟨z, h3, h4⟩ := reps_at h2 e
  cases ru
  exact .inl ⟨p, us, i, z, rfl, int_of rv, .inl (.inl h1), h3, q _ O B _ H k (Ext.refl B) w h4⟩
theorem ow_ixScr {ns : List Int} {i n : Int} (e : atI ns i = some n) (k : Φ (.d (.int n)) O) : opW c (rIx c.K) (.s ns) (.d (.int i)) O Φ := fun B H u v ru rv w Q q => by
  obtain ⟨a, rfl, h⟩ := ru
  refine .inl ⟨a, _, i, .int n, rfl, int_of rv, w.ex.sqL h, ?_, q _ O B _ H k (Ext.refl B) w (.int _)⟩
  unfold atI at e ⊢
  rw [List.length_map]
  cases z : ixN ns.length i with
  | none => rw [z] at e; cases e
  | some j =>
    rw [z] at e
    show (ns.map V.int)[j]? = _
    rw [List.getElem?_map]
    have e : ns[j]? = some n := e
    rw [e]; rfl
/-- len -/
def rLenA (K : PySem.W.Frag) : List V → Hp → VK → Prop := fun xs H Q => ∃ x n, xs = [x] ∧ LenV K x H n ∧ Q (.int n) H
theorem call_lenA {X : Cx} : CallR X (.builtin "len") (rLenA X.K) := call_len
theorem cw_lenT {l : List PyData} (k : Φ (.d (.int (l.length : Int))) O) : calW c (rLenA c.K) [.d (.tuple l)] O Φ := fun B H us r w Q q => by
  cases r with
  | cons r1 r2 =>
    cases r2
    cases r1 with
    | tup g1 d1 => exact ⟨_, l.length, rfl, .inr ⟨_, w.ex.sqT (.inl g1), (dqs_len d1).symm⟩, q _ O B _ H k (Ext.refl B) w (.int _)⟩
theorem cw_lenL {l : List PyData} (k : Φ (.d (.int (l.length : Int))) O) : calW c (rLenA c.K) [.d (.list l)] O Φ := fun B H us r w Q q => by
  cases r with
  | cons r1 r2 =>
    cases r2
    cases r1 with
    | lst g1 d1 => exact ⟨_, l.length, rfl, .inl ⟨_, .inl (.inl (w.ex _ _ g1)), (dqs_len d1).symm⟩, q _ O B _ H k (Ext.refl B) w (.int _)⟩
theorem cw_lenS {z : Str} (hz : z.length ≤ sizeLine) (k : Φ (.d (.int (z.length : Int))) O) : calW c (rLenA c.K) [.d (.str z)] O Φ := fun B H us r w Q q => by
  cases r with
  | cons r1 r2 =>
    cases r2
    cases r1
    exact ⟨_, z.length, rfl, ⟨hz, rfl⟩, q _ O B _ H k (Ext.refl B) w (.int _)⟩
theorem cw_lenO {p : Addr} {l : List AV} (hp : O p = some (.lst l)) (k : Φ (.d (.int (l.length : Int))) O) : calW c (rLenA c.K) [.v (.ref p)] O Φ := fun B H us r w Q q => by
  obtain ⟨_, o, h1, us2, rfl, h2⟩ := w.own p _ hp
  cases r with
  | cons r1 r2 =>
    cases r2
    cases r1
    exact ⟨_, l.length, rfl, .inl ⟨us2, .inl (.inl h1), reps_len h2⟩, q _ O B _ H k (Ext.refl B) w (.int _)⟩
theorem cw_lenScr {ns : List Int} (k : Φ (.d (.int (ns.length : Int))) O) : calW c (rLenA c.K) [.s ns] O Φ := fun B H us r w Q q => by
  cases r with
  | cons r1 r2 =>
    cases r2
    obtain ⟨a, rfl, h⟩ := r1
    exact ⟨_, ns.length, rfl, .inl ⟨_, w.ex.sqL h, by rw [List.length_map]⟩, q _ O B _ H k (Ext.refl B) w (.int _)⟩
/-- int(x), abs(x) -/
def rIntA : List V → Hp → VK → Prop := orC (fun xs H Q => (∃ i, xs = [.int i] ∧ Q (.int i) H) ∨ ∃ k, xs = [.bl k] ∧ Q (.int (if k then 1 else 0)) H) (fun xs H Q => ∃ a n, xs = [.str a] ∧ PySem.intText? a = some n ∧ a.length ≤ 640 ∧ Q (.int n) H)
theorem call_intA {X : Cx} : CallR X (.type "int") rIntA := CallR.or call_int1 call_int_str
theorem rv1 {K : PySem.W.Frag} {B : Hp} {x : AV} {us : List V} (h : RepVs K B [x] us) : ∃ u, us = [u] ∧ RepV K B x u := by
  cases h with
  | cons r1 r2 => cases r2; exact ⟨_, rfl, r1⟩
theorem rv2 {K : PySem.W.Frag} {B : Hp} {x y : AV} {us : List V} (h : RepVs K B [x, y] us) : ∃ u v, us = [u, v] ∧ RepV K B x u ∧ RepV K B y v := by
  cases h with
  | cons r1 r2 => cases r2 with | cons r3 r4 => cases r4; exact ⟨_, _, rfl, r1, r3⟩
theorem cw_int {i : Int} (k : Φ (.d (.int i)) O) : calW c rIntA [.d (.int i)] O Φ := cw_l fun B H us r w Q q => by
  obtain ⟨u, rfl, r1⟩ := rv1 r
  exact .inl ⟨i, by rw [int_of r1], q _ O B _ H k (Ext.refl B) w (.int _)⟩
theorem cw_intB {b : Bool} (k : Φ (.d (.int (if b then 1 else 0))) O) : calW c rIntA [.d (.bool b)] O Φ := cw_l fun B H us r w Q q => by
  obtain ⟨u, rfl, r1⟩ := rv1 r
  exact .inr ⟨b, by rw [bl_of r1], q _ O B _ H k (Ext.refl B) w (.int _)⟩
theorem cw_intS {z : Str} {n : Int} (h1 : PySem.intText? z = some n) (h2 : z.length ≤ 640) (k : Φ (.d (.int n)) O) : calW c rIntA [.d (.str z)] O Φ := cw_r fun B H us r w Q q => by
  obtain ⟨u, rfl, r1⟩ := rv1 r
  exact ⟨z, n, by rw [str_of r1], h1, h2, q _ O B _ H k (Ext.refl B) w (.int _)⟩
theorem cw_abs {i : Int} (k : Φ (.d (.int (if i < 0 then -i else i))) O) : calW c (fun xs H Q => ∃ i, xs = [.int i] ∧ Q (.int (if i < 0 then -i else i)) H) [.d (.int i)] O Φ := fun B H us r w Q q => by
  obtain ⟨u, rfl, r1⟩ := rv1 r
  exact ⟨i, by rw [int_of r1], q _ O B _ H k (Ext.refl B) w (.int _)⟩
theorem cw_max2 {i j : Int} (k : Φ (.d (.int (if j > i then j else i))) O) : calW c (fun xs H Q => ∃ i j, xs = [.int i, .int j] ∧ Q (.int (if j > i then j else i)) H) [.d (.int i), .d (.int j)] O Φ := fun B H us r w Q q => by
  obtain ⟨u, v, rfl, r1, r2⟩ := rv2 r
  exact ⟨i, j, by rw [int_of r1, int_of r2], q _ O B _ H k (Ext.refl B) w (.int _)⟩
theorem cw_min2 {i j : Int} (k : Φ (.d (.int (if j < i then j else i))) O) : calW c (fun xs H Q => ∃ i j, xs = [.int i, .int j] ∧ Q (.int (if j < i then j else i)) H) [.d (.int i), .d (.int j)] O Φ := fun B H us r w Q q => by
  obtain ⟨u, v, rfl, r1, r2⟩ := rv2 r
  exact ⟨i, j, by rw [int_of r1, int_of r2], q _ O B _ H k (Ext.refl B) w (.int _)⟩
theorem cw_gcd {a b : Int} (k : Φ (.d (.int ((Nat.gcd a.natAbs b.natAbs : Nat) : Int))) O) : calW c rGcd [.d (.int a), .d (.int b)] O Φ := fun B H us r w Q q => by
  obtain ⟨u, v, rfl, r1, r2⟩ := rv2 r
  exact ⟨a, b, by rw [int_of r1, int_of r2], q _ O B _ H k (Ext.refl B) w (.int _)⟩
/-- isinstance(x, T), x data, T a built-in class -/
def tyD : PyData → String
  | .none => "NoneType"
  | .bool _ => "bool"
  | .int _ => "int"
  | .str _ => "str"
  | .list _ => "list"
  | .tuple _ => "tuple"
  | .dict _ => "dict"
/-- isinstance(t, T), t a tuple -/
def rIsiTup (K : PySem.W.Frag) : List V → Hp → VK → Prop := fun xs H Q => ∃ a ys n b, xs = [.ref a, .ty n] ∧ SqT K H a ys ∧ kitB "tuple" n = some b ∧ Q (.bl b) H
theorem call_isiTup {X : Cx} : CallR X (.builtin "isinstance") (rIsiTup X.K) := by
  intro pins s σ H xs us Q I r h
  obtain ⟨a, ys, n, b, rfl, hq, e, q⟩ := h
  obtain ⟨u1, u2, rfl, r1, r2⟩ := vals2 r
  cases r1
  cases r2
  obtain ⟨its, rv, ⟨o, h1, h2, _⟩, hz⟩ := I.tuple hq
  exact PySem.W.kia_one PySem.W.kitx_tuple I.kIn ⟨o, h1, h2⟩ (kit_ty e) (fun z => nomatch z) fun tk => ⟨.bl b, H, I.tok tk, rfl, q⟩
def rIsiA (K : PySem.W.Frag) : List V → Hp → VK → Prop := orC (rIsi K) (rIsiTup K)
theorem cw_isi {d : PyData} {n : String} {b : Bool} (h : kitB (tyD d) n = some b) (k : Φ (.d (.bool b)) O) : calW c (rIsiA c.K) [.d d, .v (.ty n)] O Φ := fun B H us r w Q q => by
  obtain ⟨u, v, rfl, r1, r2⟩ := rv2 r
  cases r2
  have fin : TyX c.K H u (.type (tyD d)) → rIsiA c.K [u, .ty n] H Q := fun t => .inl ⟨u, .ty n, _, _, b, rfl, .ty n, t, kit_ty h, q _ O B _ H k (Ext.refl B) w (.bl _)⟩
  have d1 := w.ex.dp _ _ r1
  cases d1 with
  | non => exact fin (.base .non)
  | bl b => exact fin (.base (.bl b))
  | int i => exact fin (.base (.int i))
  | str x => exact fin (.base (.str x))
  | lst g _ => exact fin (.base (.lst g))
  | tup g _ => exact .inr ⟨_, _, n, b, rfl, .inl g, h, q _ O B _ H k (Ext.refl B) w (.bl _)⟩
end
end BL

set_option Elab.async false
set_option linter.all false
set_option maxRecDepth 100000
set_option maxHeartbeats 4000000
namespace BL
open PySem PySem.Spec PyProof.Rows L2

/-! ## what is walked -/
def iSeq (K : PySem.W.Frag) (te : TE) : TI := fun σ H R => te σ H fun x H1 => (∃ a, x = .ref a ∧ (∃ xs, SqL K H1 a xs) ∧ R (Itl K a) H1) ∨ (∃ a, x = .ref a ∧ (∃ xs, SqT K H1 a xs) ∧ R (Itt K a) H1)
theorem pi_seq {X : Cx} {tg l : Expr} {te : TE} (hl : PE X l te) : PI X tg l (iSeq X.K te) := by
  refine ⟨fun pins s σ H R I h => thn (hl.run pins s σ H _ I h) fun v s1 ⟨x, H1, I1, r1, q1⟩ => ?_⟩
  rcases q1 with ⟨a, rfl, ⟨xs, hq⟩, q⟩ | ⟨a, rfl, ⟨xs, hq⟩, q⟩
  · cases r1
    obtain ⟨its, rv, p, hz⟩ := I1.list hq
    exact wpAny_pyIter_list p.isList (pi_one (tk := s1.toks) I1 _ (turn_list a _) ⟨_, Heap.get?_push_size _ rfl, rfl, rfl⟩ q)
  · cases r1
    obtain ⟨its, rv, p, hz⟩ := I1.tuple hq
    exact wpAny_pyIter_tuple (show s1.heap.IsTuple a its.toArray from p) (pi_one (tk := s1.toks) I1 _ (turn_tuple a _) ⟨_, Heap.get?_push_size _ rfl, rfl, rfl⟩ q)
abbrev srcD (l : List PyData) : Src := ⟨l.length, fun i => .d (l.getD i .none), fun _ => True⟩
abbrev srcO (p : Addr) (l : List AV) : Src := ⟨l.length, fun i => l.getD i (.d .none), fun O => O p = some (.lst l)⟩
abbrev srcScr (ns : List Int) : Src := ⟨ns.length, fun i => .d (.int (ns.getD i 0)), fun _ => True⟩
abbrev srcR (lo : Int) (n : Nat) : Src := ⟨n, fun i => .d (.int (lo + i)), fun _ => True⟩
abbrev srcC (lo st : Int) (n : Nat) : Src := ⟨n, fun i => .d (.int (lo + (i : Nat) * st)), fun _ => True⟩
section
variable {c : Cb} {ps : Sl} {O : Own} {te : TE} {ta : TA} {Φ : Src → Own → Prop}
theorem dqs_getD {K : PySem.W.Frag} {B : Hp} {l : List PyData} {vs : List V} {i : Nat} {x : V} (h : DqAll K B vs l) (e : vs[i]? = some x) : Dq K B x (l.getD i .none) := by
  induction l generalizing vs i with
  | nil => cases h; simp at e
  | cons d l ih =>
    cases h with
    | cons a b =>
      cases i with
      | zero => simp at e; subst e; exact a
      | succ i => simp at e; exact ih b e
theorem walkL {B : Hp} {a : Addr} {vs : List V} {l : List PyData} (h : B a = some (.lst vs)) (d : DqAll c.K B vs l) : WalkW c (Itl c.K a) (srcD l) B := by
  refine ⟨fun H => SqL c.K H a vs, YAt vs, by show Walk _ l.length _ _; rw [← dqs_len d]; exact walk_list, fun B1 O1 H1 e w _ => .inl (.inl (w.ex _ _ (e _ _ h))), ?_⟩
  rintro i H x H' B1 O1 _ e w _ ⟨rfl, hx⟩
  exact ⟨B1, Ext.refl _, w, dqs_getD (e.dps _ _ d) hx⟩
theorem walkT {B : Hp} {a : Addr} {vs : List V} {l : List PyData} (h : SqT c.K B a vs) (d : DqAll c.K B vs l) : WalkW c (Itt c.K a) (srcD l) B := by
  refine ⟨fun H => SqT c.K H a vs, YAt vs, by show Walk _ l.length _ _; rw [← dqs_len d]; exact walk_tup, fun B1 O1 H1 e w _ => w.ex.sqT (e.sqT h), ?_⟩
  rintro i H x H' B1 O1 _ e w _ ⟨rfl, hx⟩
  exact ⟨B1, Ext.refl _, w, dqs_getD (e.dps _ _ d) hx⟩
theorem reps_getD {K : PySem.W.Frag} {B : Hp} {l : List AV} {vs : List V} {i : Nat} {x : V} (h : RepVs K B l vs) (e : vs[i]? = some x) : RepV K B (l.getD i (.d .none)) x := by
  induction h generalizing i with
  | nil => simp at e
  | cons a b ih =>
    cases i with
    | zero => simp at e; subst e; exact a
    | succ i => simp at e; exact ih e
theorem is_seq (h : EvW c te ps O fun a O1 => ∃ l, (a = .d (.list l) ∨ a = .d (.tuple l)) ∧ Φ (srcD l) O1) : IsW c (iSeq c.K te) ps O Φ := by
  intro B σ H s w m R q
  refine h B σ H s w m _ fun a O1 B1 u H1 ⟨l, ha, k⟩ e1 w1 r1 => ?_
  rcases ha with rfl | rfl
  · cases r1 with
    | lst g d => exact .inl ⟨_, rfl, ⟨_, .inl (.inl (w1.ex _ _ g))⟩, q _ O1 B1 H1 _ k e1 w1 (walkL g d)⟩
  · cases r1 with
    | tup g d => exact .inr ⟨_, rfl, ⟨_, w1.ex.sqT (.inl g)⟩, q _ O1 B1 H1 _ k e1 w1 (walkT (.inl g) d)⟩
/-- over an own list (what is in it is not to change meanwhile) -/
theorem is_seqO (h : EvW c te ps O fun a O1 => ∃ p l, a = .v (.ref p) ∧ O1 p = some (.lst l) ∧ Φ (srcO p l) O1) : IsW c (iSeq c.K te) ps O Φ := by
  intro B σ H s w m R q
  refine h B σ H s w m _ fun a O1 B1 u H1 ⟨p, l, ha, hp, k⟩ e1 w1 r1 => ?_
  subst ha
  cases r1
  obtain ⟨_, o, h1, us, rfl, h2⟩ := w1.own p _ hp
  refine .inl ⟨p, rfl, ⟨us, .inl (.inl h1)⟩, q _ O1 B1 H1 _ k e1 w1 ⟨fun H => ∃ vs, SqL c.K H p vs ∧ vs.length = l.length, fun i H x H' => H' = H ∧ ∀ xs, SqL c.K H p xs → xs[i]? = some x, ⟨?_, ?_, ?_⟩, ?_, ?_⟩⟩
  · rintro i H hi ⟨vs, hq, hl⟩
    have hi : i < l.length := hi
    have hi' : i < vs.length := by omega
    exact ⟨vs, vs[i], hq, List.getElem?_eq_getElem hi'⟩
  · rintro H ⟨vs, hq, hl⟩
    exact ⟨vs, hq, by show vs.length ≤ l.length; omega⟩
  · rintro i H x H' hi _ y
    exact y
  · intro B2 O2 H2 e2 w2 n2
    obtain ⟨_, o, h3, us3, rfl, h4⟩ := w2.own p _ n2
    exact ⟨us3, .inl (.inl h3), (reps_len h4).symm⟩
  · rintro i H x H' B2 O2 hi e2 w2 n2 ⟨rfl, y⟩
    obtain ⟨_, o, h3, us3, rfl, h4⟩ := w2.own p _ n2
    exact ⟨B2, Ext.refl _, w2, reps_getD h4 (y us3 (.inl (.inl h3)))⟩
theorem is_scr (h : EvW c te ps O fun a O1 => ∃ ns, a = .s ns ∧ Φ (srcScr ns) O1) : IsW c (iSeq c.K te) ps O Φ := by
  intro B σ H s w m R q
  refine h B σ H s w m _ fun a O1 B1 u H1 ⟨ns, ha, k⟩ e1 w1 r1 => ?_
  subst ha
  obtain ⟨a, rfl, hq⟩ := r1
  refine .inl ⟨a, rfl, ⟨_, w1.ex.sqL hq⟩, q _ O1 B1 H1 _ k e1 w1 ⟨fun H => SqL c.K H a (ns.map V.int), YAt (ns.map V.int), ?_, fun B2 O2 H2 e2 w2 _ => w2.ex.sqL (e2.sqL hq), ?_⟩⟩
  · have hn : (srcScr ns).n = (ns.map V.int).length := by show ns.length = _; rw [List.length_map]
    rw [hn]; exact walk_list
  · rintro i H x H' B2 O2 hi e2 w2 _ ⟨rfl, hx⟩
    refine ⟨B2, Ext.refl _, w2, ?_⟩
    have hi : i < ns.length := hi
    rw [List.getElem?_map, List.getElem?_eq_getElem hi] at hx
    cases hx
    show Dq c.K B2 _ (.int (ns.getD i 0))
    have e : ns.getD i 0 = ns[i] := by simp [List.getD, List.getElem?_eq_getElem hi]
    rw [e]
    exact .int _
theorem is_rng1 (h : EvAW c ta ps O fun as O1 => ∃ n : Int, as = [.d (.int n)] ∧ -(2 ^ 62) ≤ n ∧ n < 2 ^ 62 ∧ Φ (srcR 0 n.toNat) O1) : IsW c (iRng1 ta) ps O Φ := by
  intro B σ H s w m R q
  refine h B σ H s w m _ fun as O1 B1 us H1 ⟨n, ha, h1, h2, k⟩ e1 w1 r1 => ?_
  subst ha
  obtain ⟨u, rfl, r2⟩ := rv1 r1
  refine ⟨n, by rw [int_of r2], h1, h2, q _ O1 B1 H1 _ k e1 w1 ⟨fun _ => True, _, walk_range, fun _ _ _ _ _ _ => trivial, ?_⟩⟩
  rintro i H x H' B2 O2 hi e2 w2 _ ⟨rfl, rfl⟩
  exact ⟨B2, Ext.refl _, w2, .int _⟩
theorem is_rng2 (h : EvAW c ta ps O fun as O1 => ∃ a b : Int, as = [.d (.int a), .d (.int b)] ∧ (-(2 ^ 62) ≤ a ∧ a < 2 ^ 62 ∧ -(2 ^ 62) ≤ b ∧ b < 2 ^ 62) ∧ Φ (srcR a (b - a).toNat) O1) : IsW c (iRng2 ta) ps O Φ := by
  intro B σ H s w m R q
  refine h B σ H s w m _ fun as O1 B1 us H1 ⟨a, b, ha, h1, k⟩ e1 w1 r1 => ?_
  subst ha
  obtain ⟨u, v, rfl, r2, r3⟩ := rv2 r1
  refine ⟨a, b, by rw [int_of r2, int_of r3], h1, q _ O1 B1 H1 _ k e1 w1 ⟨fun _ => True, _, walk_range, fun _ _ _ _ _ _ => trivial, ?_⟩⟩
  rintro i H x H' B2 O2 hi e2 w2 _ ⟨rfl, rfl⟩
  exact ⟨B2, Ext.refl _, w2, .int _⟩
end

/-! ## methods of lists -/
section
variable {c : Cb} {O : Own} {Φ : Af} {p : Addr}
theorem ty_own {l : List AV} (hp : O p = some (.lst l)) : tyW c "list" (.v (.ref p)) O := fun B H u r w => by
  cases r
  obtain ⟨_, o, h1, us, rfl, h2⟩ := w.own p _ hp
  exact .inl ⟨rfl, us, .inl (.inl h1)⟩
theorem ty_lst {l : List PyData} : tyW c "list" (.d (.list l)) O := fun B H u r w => by
  cases r with
  | lst g d => exact .inl ⟨rfl, _, .inl (.inl (w.ex _ _ g))⟩
theorem ty_str {z : Str} : tyW c "str" (.d (.str z)) O := fun B H u r w => by
  cases r; rfl
theorem mw_append {l : List AV} {a : AV} (hp : O p = some (.lst l)) (hl : l.length < sizeLine) (k : Φ (.d .none) (updO O p (.lst (l ++ [a])))) : mtW c rAppend (.v (.ref p)) [a] O Φ := fun B H u us r rs w Q q => by
  cases r
  obtain ⟨_, o, h1, ws, rfl, h2⟩ := w.own p _ hp
  obtain ⟨y, rfl, r1⟩ := rv1 rs
  exact ⟨p, ws, y, rfl, rfl, h1, by rw [← reps_len h2]; exact hl, q _ _ B _ _ k (Ext.refl B) (w.put hp ⟨_, rfl, reps_app h2 r1⟩) .non⟩
theorem reps_snoc {K : PySem.W.Frag} {B : Hp} : ∀ {l : List AV} {a : AV} {vs : List V}, RepVs K B (l ++ [a]) vs → ∃ ws u, vs = ws ++ [u] ∧ RepVs K B l ws ∧ RepV K B a u
  | [], _, _, .cons r .nil => ⟨[], _, rfl, .nil, r⟩
  | _ :: l, _, _, .cons r rs => by
    obtain ⟨ws, u, e, h1, h2⟩ := reps_snoc (l := l) rs
    exact ⟨_ :: ws, u, by rw [e]; rfl, .cons r h1, h2⟩
theorem mw_pop {l : List AV} {a : AV} (hp : O p = some (.lst (l ++ [a]))) (k : Φ a (updO O p (.lst l))) : mtW c rPop (.v (.ref p)) [] O Φ := fun B H u us r rs w Q q => by
  cases r
  cases rs
  obtain ⟨_, o, h1, ws, rfl, h2⟩ := w.own p _ hp
  obtain ⟨vs, y, rfl, h3, h4⟩ := reps_snoc h2
  refine ⟨p, _, y, rfl, rfl, h1, by simp, ?_⟩
  have e : (vs ++ [y]).dropLast = vs := by simp
  rw [e]
  exact q _ _ B _ _ k (Ext.refl B) (w.put hp ⟨_, rfl, h3⟩) h4
end
end BL

set_option Elab.async false
set_option linter.all false
set_option maxRecDepth 100000
set_option maxHeartbeats 4000000
namespace BL
open PySem PySem.Spec PyProof.Rows L2

/-! ## the rules again, the written part K by its name -/
section
variable {X : Cx} {K : PySem.W.Frag}
theorem hu64 {k : Nat} {A : Around} (r : Room k A) : A.units + 64 < cLine := by have := r.un; omega
theorem addA (K : PySem.W.Frag) (h : X.K = K) : OpR X (binaryOp .Add) (rAddA K) := h ▸ op_addA
theorem mulA (K : PySem.W.Frag) (h : X.K = K) : OpR X (binaryOp .Mult) (rMulA K) := h ▸ op_mulA
theorem eqA (K : PySem.W.Frag) (h : X.K = K) {k : Nat} (r : Room k X.A) : OpR X (compareOp .Eq) (rEqA K) := h ▸ op_eqA (hu64 r)
theorem neA (K : PySem.W.Frag) (h : X.K = K) {k : Nat} (r : Room k X.A) : OpR X (compareOp .NotEq) (rNeA K) := h ▸ op_neA (hu64 r)
theorem ixA (K : PySem.W.Frag) (h : X.K = K) : IxR X (rIx K) := h ▸ ix_seq
theorem lenA (K : PySem.W.Frag) (h : X.K = K) : CallR X (.builtin "len") (rLenA K) := h ▸ call_lenA
theorem isiA (K : PySem.W.Frag) (h : X.K = K) : CallR X (.builtin "isinstance") (rIsiA K) := h ▸ CallR.or call_isi call_isiTup
theorem seqA {tg l : Expr} {te : TE} (K : PySem.W.Frag) (h : X.K = K) (hl : PE X l te) : PI X tg l (iSeq K te) := h ▸ pi_seq hl
theorem tupA {es : List Expr} {k : Nat} {t : TGs} {n : Nat} {pos : Pos} (K : PySem.W.Frag) (h : X.K = K) (hc : X.calm = true) (hs : PGs X es t)
    (hn : (assignEach es X.env).length = n := by rfl) (hst : (assignEach es X.env).findIdx? (·.1) = none := by rfl) : PG X (.Tuple es k pos) (gTup K n t) := h ▸ pg_tup hc hs hn hst
theorem bmA {o e : Expr} {es : List Expr} {name : Str} {id T : String} {apos cpos : Pos} {r : V → List V → Hp → VK → Prop} {to : TE} {t : TA} (K : PySem.W.Frag) (h : X.K = K) (pa : PlainAttrs T) (slot : Slot T name id) (hty : typeOf (.builtin id) = pure (.type "method_descriptor")) (hm : MtR X id r)
    (ho : PE X o to) (ha : PA X (e :: es) t) (hh : PE X (.Call (.Attribute o name apos) (e :: es) [] cpos) (tBM X.K T r to t)) : PE X (.Call (.Attribute o name apos) (e :: es) [] cpos) (tBM K T r to t) := h ▸ hh
theorem toK {e : Expr} {f : PySem.W.Frag → TE} (K : PySem.W.Frag) (h : X.K = K) (hh : PE X e (f X.K)) : PE X e (f K) := h ▸ hh
/-- a constant of the module -/
theorem pe_gint {x : Str} {n : Int} {pos : Pos} (h : ∃ t, X.mg x = some (.int n t)) (hg : Gl X x) (hd : (x == ("__debug__" : Str)) = false := by decide) : PE X (.Name x pos) (tC (.int n)) :=
  let ⟨t, q⟩ := h; pe_glob hg q ⟨t, rfl⟩ hd
theorem pe_gstr {x : Str} {n : Str} {pos : Pos} (h : ∃ t, X.mg x = some (.str n t)) (hg : Gl X x) (hd : (x == ("__debug__" : Str)) = false := by decide) : PE X (.Name x pos) (tC (.str n)) :=
  let ⟨t, q⟩ := h; pe_glob hg q ⟨t, rfl⟩ hd
end
theorem bt_len : bootBuiltins "len" = some (.builtin "len") := by decide +kernel
theorem bt_abs : bootBuiltins "abs" = some (.builtin "abs") := by decide +kernel
theorem bt_isinstance : bootBuiltins "isinstance" = some (.builtin "isinstance") := by decide +kernel
theorem bt_int : bootBuiltins "int" = some (.type "int") := by decide +kernel
theorem bt_str : bootBuiltins "str" = some (.type "str") := by decide +kernel
theorem bt_bool : bootBuiltins "bool" = some (.type "bool") := by decide +kernel
theorem bt_list : bootBuiltins "list" = some (.type "list") := by decide +kernel
theorem bt_tuple : bootBuiltins "tuple" = some (.type "tuple") := by decide +kernel
theorem bt_dict : bootBuiltins "dict" = some (.type "dict") := by decide +kernel
theorem bt_max : bootBuiltins "max" = some (.builtin "max") := by decide +kernel
theorem bt_min : bootBuiltins "min" = some (.builtin "min") := by decide +kernel
theorem bt_sum : bootBuiltins "sum" = some (.builtin "sum") := by decide +kernel
theorem bt_sorted : bootBuiltins "sorted" = some (.builtin "sorted") := by decide +kernel
theorem bt_ValueError : bootBuiltins "ValueError" = some (.type "ValueError") := by decide +kernel
/-- a def of the text, where it stands -/
structure FD (K : PySem.W.Frag) (mg : Str → Option Value) (nm : Str) (st : Stmt) (pr : List Str) where
  f : Addr
  fd : FuncData
  F : Fun K nm nm st f fd
  m : mg nm = some (.ref f)
  b : Binds K fd pr []
/-- lists of values that are data -/
inductive IsDs : List AV → List PyData → Prop
  | nil : IsDs [] []
  | cons {x : PyData} {xs : List AV} {l : List PyData} (h : IsDs xs l) : IsDs (.d x :: xs) (x :: l)
theorem IsDs.eq : ∀ {xs : List AV} {l : List PyData}, IsDs xs l → xs = ds l
  | _, _, .nil => rfl
  | _, _, .cons h => by rw [h.eq]; rfl
theorem small {n : Nat} (h : n ≤ 1000) : n ≤ sizeLine := Nat.le_trans h (by decide)
section
variable {c : Cb} {ps : Sl} {O : Own} {Φ : Af} {t : TA}
theorem ev_tupD (h : EvAW c t ps O fun xs O1 => ∃ l, IsDs xs l ∧ l.length ≤ 1000 ∧ Φ (.d (.tuple l)) O1) : EvW c (tTup t) ps O Φ :=
  ev_tup fun B σ H s w m Q q => h B σ H s w m Q fun as O' B' us H' ⟨l, e, z, k⟩ => q as O' B' us H' ⟨l, e.eq, small z, k⟩
theorem ev_lstD (h : EvAW c t ps O fun xs O1 => ∃ l, IsDs xs l ∧ l.length ≤ 1000 ∧ Φ (.d (.list l)) O1) : EvW c (tLst t) ps O Φ :=
  ev_lst fun B σ H s w m Q q => h B σ H s w m Q fun as O' B' us H' ⟨l, e, z, k⟩ => q as O' B' us H' ⟨l, e.eq, small z, k⟩
end
end BL

set_option Elab.async false
set_option linter.all false
set_option maxRecDepth 100000
set_option maxHeartbeats 4000000
namespace BL
open PySem PySem.Spec PyProof.Rows L2 RT
section
variable {prog : Program} {w : World} {A : Around} {s : Shared} {E : Value → Shared → Prop}
theorem list_init_rev {it l S : Addr} {items : Array Value} {R : Result → Shared → Prop} (hh : A.handled = none) (hit : s.heap.IsRevIter it l ((items.size : Int) - 1)) (hl : s.heap.IsList l items) (hne : l ≠ it) (hn : items.size ≤ sizeLine)
    (hSi : S ≠ it) (hSl : S ≠ l) (hS : s.heap.get? S = some { cls := .type "list", data := .seq #[] })
    (hR : ∀ s' acc' c', Moved (S :: [it]) (fun a b => b = a) s s' → s'.heap.get? S = some { cls := .type "list", dict := none, data := .seq acc' c', slots := #[] } → ItemsOf (fun i v => items[items.size - 1 - i]? = some v) acc' items.size → R (.ok (.ret .none)) s') :
    wpAny (model prog w) A.in1 (Builtin.«list.__init__» ⟨[.ref S, .ref it], []⟩)
      (fun fin s' => match fin with | .done f => R (.ok f) s' | .again c' => c'.quiet = true ∧ codeAny (model prog w) A c' R s') (fun e s' => R (.error e) s') s := by
  have W := (Walks.listRev (prog := prog) (w := w) (A := A.in1) hh it l hne items).toS
  have hSf : S ∉ [it, l] := by simp only [List.mem_cons, List.not_mem_nil, or_false, not_or]; exact ⟨hSi, hSl⟩
  show wpAny _ A.in1 (do let old ← Builtin.List.listItems (.ref S); Builtin.List.listUpdate (.ref S) (fun _ => #[]); letGo old.toList.reverse; Builtin.List.listExtendWith (.ref S) (.ref it) .none) _ _ s
  refine wpAny_bind ?_
  unfold Builtin.List.listItems
  refine wpAny_bind (wpAny_seqItems hS rfl (wpAny_pure ?_))
  show wpAny _ A.in1 (updateSeq S (fun _ => #[]) >>= fun _ => letGo (#[] : Array Value).toList.reverse >>= fun _ => Builtin.List.listExtendWith (.ref S) (.ref it) .none) _ _ s
  refine wpAny_bind (wpAny_updateSeq hS rfl ?_)
  have hS₂ := Heap.get?_update_self (Obj.mapSeq (fun _ => (#[] : Array Value))) hS rfl
  have oth : ∀ b o, b ≠ S → s.heap.get? b = some o → (s.heap.update S (Obj.mapSeq (fun _ => (#[] : Array Value)))).get? b = some o :=
    fun b o hb e => (Heap.get?_update_other _ _ (Ne.symm hb)).trans e
  refine wpAny_bind (wpAny_letGo ?_)
  generalize hh2 : s.heap.update S (Obj.mapSeq (fun _ => (#[] : Array Value))) = h2 at oth hS₂ ⊢
  have hit1 : h2.IsRevIter it l ((items.size : Int) - 1) := hit.at fun o e => oth _ _ (Ne.symm hSi) e
  have hl1 : h2.IsList l items := hl.at fun o e => oth _ _ (Ne.symm hSl) e
  have hT : ({ s with heap := h2 } : Shared).TypeIs (.ref it) "list_reverseiterator" := Heap.IsRevIter.typeIs (s := { s with heap := h2 }) hit1
  have h1 : Builtin.List.listSameRef (.ref S) (.ref it) = false := by simp [Builtin.List.listSameRef, hSi]
  unfold Builtin.List.listExtendWith
  refine wpAny_bind (wpAny_typeOf hT ?_)
  rw [if_neg (by rw [h1]; decide)]
  refine wpAny_bind (wpAny_pyIter_revIter (s := { s with heap := h2 }) hit1 ?_)
  refine wpAny_bind (wpAny_holding ?_)
  unfold Builtin.List.listLengthHint
  refine wpAny_bind (wpAny_specialOf hT nolen_lri ?_)
  show wpAny _ A.in1 (specialOf (Value.ref it) (Str.ofString "__length_hint__") >>= _) _ _ _
  refine wpAny_bind (wpAny_specialOf hT hint_lri ?_)
  generalize hid : ("list_reverseiterator.__length_hint__" : String) = id0
  wp_delta
  rw [show splitId id0 = some ("list_reverseiterator", "__length_hint__") from by subst hid; decide +kernel]
  subst hid
  refine wpAny_bind (wpAny_isInstance (b := true) hT (by rw [isSubtype_type]; kernel_rfl) ?_)
  refine wpAny_pure ?_
  rw [if_neg (by decide)]
  have e0 : ((items.size : Nat) : Int) - 1 - ((0 : Nat) : Int) = (items.size : Int) - 1 := by omega
  refine wpAny_pure ⟨plainId_quiet F.plain_extend_loop _, codeAny_extend_loopS W hn _ hSf _ items.size 0 _ _ _ rfl (Nat.zero_le _) ⟨Nat.zero_le _, by rw [e0]; exact hit1, hl1⟩ hS₂ (ItemsOf.nil _) fun s' acc' c' hm hS' hacc => ?_⟩
  refine hR s' acc' c' ⟨fun b o hb e => hm.heap b o hb (oth b o (fun h => hb (by rw [h]; exact List.mem_cons_self)) e), hm.gens, hm.drawn, hm.os, hm.toks⟩ hS' hacc
theorem call_list_rev {it l : Addr} {items : Array Value} {Q : Value → Shared → Prop} (hh : A.handled = none) (hit : s.heap.IsRevIter it l ((items.size : Int) - 1)) (hl : s.heap.IsList l items) (hne : l ≠ it) (hn : items.size ≤ sizeLine)
    (hQ : ∀ s' acc' c', Moved (s.heap.objs.size :: [it]) (fun a b => b = a) { s with heap := s.heap.push { cls := .type "list", data := .seq #[] } } s' →
      s'.heap.get? s.heap.objs.size = some { cls := .type "list", dict := none, data := .seq acc' c', slots := #[] } → ItemsOf (fun i v => items[items.size - 1 - i]? = some v) acc' items.size → Q (.ref s.heap.objs.size) s') :
    wpAny (model prog w) A (call (.type "list") [.ref it]) Q E s := by
  obtain ⟨oi, hoi, _⟩ := id hit
  obtain ⟨ol, hol, _⟩ := id hl
  refine callType_codes (Q₁ := fun obj s₁ => obj = .ref s.heap.objs.size ∧ s₁ = { s with heap := s.heap.push { cls := .type "list", data := .seq #[] } }) F.called_list (F.typeCall_list_1 _) F.entry_list_init
    (code_list_new _ ⟨rfl, rfl⟩) fun obj s₁ h₁ => ?_
  obtain ⟨rfl, rfl⟩ := h₁
  have hS : (s.heap.push { cls := .type "list", data := .seq #[] }).get? s.heap.objs.size = some { cls := .type "list", data := .seq #[] } := Heap.get?_push_size _ rfl
  refine ⟨⟨_, hS, rfl⟩, F.args_list_init_2 _ _, list_init_rev (A := A.in1) hh (hit.at fun o e => Heap.get?_push_of_some _ e) (hl.push _) hne hn (Nat.ne_of_gt (Heap.lt_size hoi)) (Nat.ne_of_gt (Heap.lt_size hol)) hS fun s' acc' c' hm hS' hacc => ?_⟩
  exact ⟨rfl, hQ s' acc' c' hm hS' hacc⟩
end
/-- list(reversed(x)), x a list: a new list -/
def tListRev (K : PySem.W.Frag) (te : TE) : TE := fun σ H Q => te σ H fun v H1 => ∃ (a : Addr) (xs : List V), v = .ref a ∧ SqL K H1 a xs ∧ ∀ q, H1 q = none → Q (.ref q) (upd H1 q (.lst xs.reverse))
section
variable {X : Cx}
theorem pe_listRev {e : Expr} {te : TE} {p p2 pos pos2 : Pos} (K : PySem.W.Frag) (hK : X.K = K) (hc : X.calm = true) (hg : Gl X "list") (hm : X.mg "list" = none) (hg2 : Gl X "reversed") (hm2 : X.mg "reversed" = none) (he : PE X e te)
    (hs : starEach [e] X.env = (false, eval e X.env) :: starEach [] X.env := by rfl)
    (hs2 : starEach [.Call (.Name "reversed" p2) [e] [] pos2] X.env = (false, eval (.Call (.Name "reversed" p2) [e] [] pos2) X.env) :: starEach [] X.env := by rfl) :
    PE X (.Call (.Name "list" p) [.Call (.Name "reversed" p2) [e] [] pos2] [] pos) (tListRev K te) := by
  subst hK
  refine ⟨fun pins s σ H Q I h => ?_⟩
  refine Call_ (ld_blt I hg hm boot_list (PyProof.Rows.callWith_type1 (args_cons (Call_ (ld_blt I hg2 hm2 PyProof.Rows.boot_reversed (PyProof.Rows.callWith_type1 (args_cons (thn (he.run pins s σ H _ I h) fun u s1 ⟨v, H1, I1, r1, q1⟩ => args_nil ?_) hs) hs rfl))) hs2) hs2 rfl))
  obtain ⟨a, xs, ev, hq, q⟩ := q1
  subst ev
  obtain rfl : u = Value.ref a := r1
  obtain ⟨its, rv, p', hz⟩ := I1.list hq
  refine call_reversed_list p'.isList (args_nil ?_)
  have k0 : ∀ b o, s1.heap.get? b = some o → (s1.heap.push (revObj a ((its.toArray.size : Int) - 1))).get? b = some o := fun b o e => Heap.get?_push_of_some _ e
  have I2 : Inv X pins σ H1 { s1 with heap := s1.heap.push (revObj a ((its.toArray.size : Int) - 1)) } := I1.kept (t' := s1.toks) k0
  obtain ⟨f0, f1, f2, f3, f4, f5⟩ := I1.fpOk (H' := H1) (b := s1.heap.objs.size) (Nat.le_refl _) (I1.hok.fresh (Nat.le_refl _))
  have hl := p'.isList
  obtain ⟨ol, hol, _⟩ := id hl
  have hne : a ≠ s1.heap.objs.size := Nat.ne_of_lt (Heap.lt_size hol)
  have hn : its.toArray.size ≤ sizeLine := by rw [List.size_toArray, ← rv.length]; exact hz
  refine call_list_rev (s := { s1 with heap := s1.heap.push (revObj a ((its.toArray.size : Int) - 1)) }) (I1.ok.hd hc) ⟨_, Heap.get?_push_size _ rfl, rfl, rfl⟩ (hl.push _) hne hn fun s' acc c hm hS' hi => ?_
  have sz2 : (s1.heap.push (revObj a ((its.toArray.size : Int) - 1))).objs.size = s1.heap.objs.size + 1 := Heap.size_push ..
  have hP : H1 (s1.heap.push (revObj a ((its.toArray.size : Int) - 1))).objs.size = none := I1.hok.fresh (by rw [sz2]; omega)
  refine ⟨.ref (s1.heap.push (revObj a ((its.toArray.size : Int) - 1))).objs.size, upd H1 (s1.heap.push (revObj a ((its.toArray.size : Int) - 1))).objs.size (.lst xs.reverse), ?_, rfl, q _ hP⟩
  rw [hm.eq_with]
  refine I2.turnedNew (t' := s'.toks) (ch := [s1.heap.objs.size]) (fun b o hb e => hm.heap b o (fun hmem => ?_) (Heap.get?_push_of_some _ e)) (fun b hb => ?_) (Nat.le_refl _) ⟨by rw [List.length_reverse]; exact hz, acc.toList, c, vals_rev rv hi, by rw [Array.toArray_toList]; exact hS'⟩
  · rcases List.mem_cons.mp hmem with e' | hmem
    · exact absurd (Heap.lt_size e) (by rw [e']; exact Nat.lt_irrefl _)
    · exact hb hmem
  · rw [List.mem_singleton.mp hb]
    exact ⟨f0, f1, f2, f3, f4, f5⟩
end
end BL

set_option Elab.async false
set_option linter.all false
set_option maxRecDepth 100000
set_option maxHeartbeats 4000000
namespace BL
open PySem PySem.Spec PyProof.Rows L2

/-! ## texts -/
def rPart : V → List V → Hp → VK → Prop := fun x xs H Q => ∃ a b, x = .str a ∧ xs = [.str b] ∧ (b.length == 0) = false ∧ a.length ≤ sizeLine ∧
    ∀ p, H p = none → Q (.ref p) (upd H p (.tup [.str (Txt.partition a b).1, .str (Txt.partition a b).2.1, .str (Txt.partition a b).2.2]))
theorem mt_partA {X : Cx} : MtR X "str.partition" rPart := mt_partition
def rStarts : V → List V → Hp → VK → Prop := fun x xs H Q => ∃ a b, x = .str a ∧ xs = [.str b] ∧ Q (.bl (Txt.startswith a b)) H
theorem mt_startsA {X : Cx} : MtR X "str.startswith" rStarts := mt_startswith
def rSlStr : V → Option Int → Option Int → Hp → VK → Prop := fun x lo hi H Q => ∃ z, x = .str z ∧ z.length ≤ sizeLine ∧ Q (.str (Txt.slice z lo hi)) H
theorem slA {X : Cx} (K : PySem.W.Frag) (h : X.K = K) : SlR X rSlStr := C8.sl_txt
def rStrI : List V → Hp → VK → Prop := fun xs H Q => ∃ i, xs = [.int i] ∧ i.natAbs.log2 < 1920 ∧ Q (.str (toString i)) H
theorem call_strA {X : Cx} : CallR X (.type "str") rStrI := call_str_int
section
variable {c : Cb} {ps : Sl} {O : Own} {Φ : Af} {ta te : TE}
theorem mw_part {a b : Str} (hb : (b.length == 0) = false) (ha : a.length ≤ sizeLine) (k : Φ (.d (.tuple [.str (Txt.partition a b).1, .str (Txt.partition a b).2.1, .str (Txt.partition a b).2.2])) O) : mtW c rPart (.d (.str a)) [.d (.str b)] O Φ := fun B H u us r rs w Q q => by
  cases r
  obtain ⟨v, rfl, rv⟩ := rv1 rs
  cases rv
  refine ⟨a, b, rfl, rfl, hb, ha, fun p hp => ?_⟩
  obtain ⟨e, w2, d⟩ := newT (vs := [.str (Txt.partition a b).1, .str (Txt.partition a b).2.1, .str (Txt.partition a b).2.2]) w hp (.cons (.str _) (.cons (.str _) (.cons (.str _) .nil)))
  exact q _ O _ _ _ k e w2 d
theorem mw_starts {a b : Str} (k : Φ (.d (.bool (Txt.startswith a b))) O) : mtW c rStarts (.d (.str a)) [.d (.str b)] O Φ := fun B H u us r rs w Q q => by
  cases r
  obtain ⟨v, rfl, rv⟩ := rv1 rs
  cases rv
  exact ⟨a, b, rfl, rfl, q _ O B _ H k (Ext.refl B) w (.bl _)⟩
theorem sw_str {z : Str} {lo hi : Option Int} (hz : z.length ≤ sizeLine) (k : Φ (.d (.str (Txt.slice z lo hi))) O) : slW c rSlStr (.d (.str z)) lo hi O Φ := fun B H u r w Q q => by
  cases r
  exact ⟨z, rfl, hz, q _ O B _ H k (Ext.refl B) w (.str _)⟩
theorem cw_strI {i : Int} (hi : i.natAbs.log2 < 1920) (k : Φ (.d (.str (toString i))) O) : calW c rStrI [.d (.int i)] O Φ := fun B H us r w Q q => by
  obtain ⟨u, rfl, ru⟩ := rv1 r
  cases ru
  exact ⟨i, rfl, hi, q _ O B _ H k (Ext.refl B) w (.str _)⟩
/-! f-strings -/
theorem ev_fmt (h : EvW c te ps O fun a O1 => (∃ y : Str, a = .d (.str y) ∧ y.length ≤ sizeLine ∧ Φ (.d (.str y)) O1) ∨ ∃ i : Int, a = .d (.int i) ∧ i.natAbs.log2 < 1920 ∧ Φ (.d (.str (toString i))) O1) : EvW c (tFmt te) ps O Φ := by
  intro B σ H s w m Q q
  refine h B σ H s w m _ fun a O1 B1 u H1 k e1 w1 r1 => ?_
  rcases k with ⟨y, rfl, hy, k⟩ | ⟨i, rfl, hi, k⟩
  · cases r1
    exact .inl ⟨y, rfl, hy, q _ O1 B1 _ H1 k e1 w1 (.str _)⟩
  · cases r1
    exact .inr ⟨i, rfl, hi, q _ O1 B1 _ H1 k e1 w1 (.str _)⟩
def EjW (c : Cb) (ts : List TE) (acc : Str) (ps : Sl) (O : Own) (Φ : Str → Own → Prop) : Prop :=
  ∀ (B : Hp) (σ : L2.St) (H : Hp), Slots c.K B ps σ → Wd c.K c.T B O H → c.M B → ∀ Q : Str → Hp → Prop, (∀ s O' B' H', Φ s O' → Ext B B' → Wd c.K c.T B' O' H' → Q s H') → tJs ts acc σ H Q
theorem ej_nil {acc : Str} {Φ : Str → Own → Prop} (k : Φ acc O) : EjW c [] acc ps O Φ := fun B σ H s w m Q q => q acc O B H k (Ext.refl B) w
theorem ej_cons {acc : Str} {ts : List TE} {Φ : Str → Own → Prop} (h : EvW c te ps O fun a O1 => ∃ y : Str, a = .d (.str y) ∧ (acc ++ y).length ≤ sizeLine ∧ EjW c ts (acc ++ y) ps O1 Φ) : EjW c (te :: ts) acc ps O Φ := by
  intro B σ H s w m Q q
  refine h B σ H s w m _ fun a O1 B1 u H1 ⟨y, e, hy, k⟩ e1 w1 r1 => ?_
  subst e
  cases r1
  exact ⟨y, rfl, hy, k B1 σ H1 (s.up e1) w1 (c.mono _ _ e1 m) Q fun z O' B' H' kz ez wz => q z O' B' H' kz (e1.trans ez) wz⟩
theorem ev_joined {ts : List TE} (h : EjW c ts Str.empty ps O fun s O' => Φ (.d (.str s)) O') : EvW c (fun σ H Q => tJs ts Str.empty σ H fun out H1 => Q (.str out) H1) ps O Φ := by
  intro B σ H s w m Q q
  exact h B σ H s w m _ fun z O' B' H' k e w' => q _ O' B' _ H' k e w' (.str _)
/-! list(reversed(own list)) -/
theorem reps_rev {K : PySem.W.Frag} {B : Hp} : ∀ {as : List AV} {us : List V}, RepVs K B as us → RepVs K B as.reverse us.reverse
  | _, _, .nil => .nil
  | _, _, .cons r t => by
    rw [List.reverse_cons, List.reverse_cons]
    exact reps_app (reps_rev t) r
theorem ev_listRevO (h : EvW c te ps O fun a O1 => ∃ p l, a = .v (.ref p) ∧ O1 p = some (.lst l) ∧ ∀ q, O1 q = none → Φ (.v (.ref q)) (updO O1 q (.lst l.reverse))) : EvW c (tListRev c.K te) ps O Φ := by
  intro B σ H s w m Q q
  refine h B σ H s w m _ fun a O1 B1 u H1 ⟨p, l, e, hp, k⟩ e1 w1 r1 => ?_
  subst e
  cases r1
  obtain ⟨_, o, ho, us, rfl, ra⟩ := w1.own p _ hp
  refine ⟨p, us, rfl, .inl (.inl ho), fun z hz => ?_⟩
  exact q _ _ B1 _ _ (k z (w1.freeO hz)) e1 (w1.new hz ⟨_, rfl, reps_rev ra⟩) rfl
end

/-! ## own exception classes of the text -/
/-- a class derived from ValueError -/
structure CD (K : PySem.W.Frag) (mg : Str → Option Value) (nm : Str) where
  x : Addr
  m : mg nm = some (.ref x)
  q : PySem.W.excIn K x [Value.type "ValueError", Value.type "Exception", Value.type "BaseException", Value.type "object"] "ValueError.__new__" = true
  k : PySem.W.keepIn K (.ref x) = true
  b : PySem.W.subIn K (.ref x) (.type "BaseException") = some true
  t : PySem.W.typeIn K (.ref x) = some (.type "type")
  e : ExcC K x
  v : PySem.W.kitOne K (.ref x) (.type "ValueError") = some true
theorem ps_raiseC {X : Cx} {W : WX} {x m : Str} {j : Nat} {p p2 pos pos2 : Pos} (D : CD X.K X.mg x) (hc : X.calm = true) (tk : L2N.Takes X W) (hg : Gl X x) (hdb : (x == ("__debug__" : Str)) = false) :
    PS X (.Raise (some (.Call (.Name x p) [.Constant (.str m) j p2] [] pos)) none pos2) (fun _ σ H => (fun (_ : L2.St) (H : Hp) (Q : XK) => Q (.ref D.x) none H) σ H fun cls d H' => W cls d σ H') :=
  L2N.ps_raise hc tk (L2N.pmk_own PySem.F.excBase_ValueError D.q D.m D.k (raises_own D.b D.t) hg hdb)
end BL

set_option Elab.async false
set_option linter.all false
set_option maxRecDepth 100000
set_option maxHeartbeats 4000000
namespace BL
open PySem PySem.Spec PyProof.Rows L2 GxR
/-- a test of the sign c by an element that may read the module's names -/
def EltG (X : Cx) (scope : Scope) (x : Str) (elt : Expr) (pb : Nat → Bool) : Prop :=
  ∀ (cenv : Env) (A' : Around) (E' : Value → Shared → Prop) (c : Nat) (t : Tok) (s₂ : Shared) (m₂ : Str → Option Value), cenv.scope = scope → cenv.globals = mainGlobals → (∀ b o, X.base.get? b = some o → s₂.heap.get? b = some o) →
    s₂.heap.Ns cenv.locals m₂ → m₂ x = some (.str ⟨#[c]⟩ t) → wpAny (model X.prog X.w) A' (eval elt cenv) (fun y s₃ => y = .bool (pb c) ∧ Keeps s₂ s₃) E' s₂
/-- x in G, G a text of the module -/
theorem elt_inG {X : Cx} {scope : Scope} {x g z : Str} {p1 p2 p3 : Pos} (M : Mod X.K X.mg X.base) (hk : scope.kind = .function) (hl : scope.names.lookup x = some .local) (hg : ∀ cenv : Env, cenv.scope = scope → cenv.kindOf g = some .globalImplicit)
    (hm : ∃ t, X.mg g = some (.str z t)) (hd : (x == ("__debug__" : Str)) = false := by decide) (hd2 : (g == ("__debug__" : Str)) = false := by decide) :
    EltG X scope x (.Compare (.Name x p1) [.In] [.Name g p2] p3) (fun c => decide (c ∈ z.cps.toList)) := by
  intro cenv A' E' c t s₂ m₂ hs hG hb hn hv
  obtain ⟨tg, hm⟩ := hm
  refine wpAny_Compare1 (wpAny_Name (wpAny_loadName_local (by rw [hs]; exact hk) (show cenv.scope.names.lookup x = some .local by rw [hs]; exact hl) hn hv ?_) hd)
  refine Calls.Name_function_global (by rw [hs]; exact hk) (hg cenv hs) (Calls.loadGlobal_global (by rw [hG]; exact M.glob.keeps hb) hm ?_) hd2
  exact PyProof.Rows.in_str ⟨by show Value.bool _ = Value.bool (decide (c ∈ z.cps.toList)); rw [← PySem.StrLaws.found_one z c], keeps_tok _ _⟩
section
variable {X : Cx} {pins : List (Addr × Obj)} {σ : L2.St} {H : Hp} {s : Shared}
theorem gen_strG {c P : Addr} {elt iter : Expr} {x : Str} {px gpos : Pos} {scope : Scope} {pb : Nat → Bool} {te : TE} {k : Nat} {Q' : Value → Shared → Prop} {R : Str → Hp → Prop}
    (hr : Room k X.A) (TB : TabB X.base X.mg c P) (hcode : X.env.code = .ref c) (S : GenS X.env scope x) (hi : PE X iter te) (hel : EltG X scope x elt pb)
    (hs : ∀ v, genFold iter X.env v = pure v) (I : Inv X pins σ H s) (h : te σ H fun v H1 => ∃ a : Str, v = .str a ∧ TabG H1 P ∧ R a H1)
    (hQ : ∀ a H1 g s5, R a H1 → Ready X pins σ H1 P a pb g s5 → Q' (.ref g) s5) :
    wpAny (model X.prog X.w) X.A (eval (.GeneratorExp elt [⟨.Name x px, iter, [], 0⟩] scope gpos) X.env) Q' X.xe s := by
  refine wpAny_GeneratorExp_walksQ hr.hd S.co (closure_ok S.free) S.cell S.dot S.loc S.kind (by have := hr.dp; omega) (thn (hi.run pins s σ H _ I h) fun xv s1 ⟨v, H1, I1, r1, a, ev, ⟨ps, hP, ht⟩, q1⟩ => ?_) hs
  subst ev
  obtain ⟨t, rfl⟩ := _root_.id r1
  refine wpAny_pyIter_str fun o St W hst => ?_
  have hPs : s1.heap.get? P = some { cls := .none, data := .fields ps } := I1.hok P _ hP
  have hPlt := Heap.lt_size hPs
  have nP : ∀ b u, X.base.get? b = some u → b ≠ P := fun b u e z => by
    have q := (I1.bs b u e).2
    rw [z, hP] at q
    cases q
  have up1 : ∀ b u, s1.heap.get? b = some u → (s1.heap.push o).get? b = some u := fun b u e => Heap.get?_push_of_some _ e
  have hP2 := up1 P _ hPs
  have cd : PySem.W.CodeHd (s1.heap.push o) c P := TB.code.keeps fun b u e => up1 b u (I1.bk b u e)
  have lim2 : (s1.heap.push o).NoLimit := I1.nolimit.push o
  have sz2 : (s1.heap.push o).objs.size = s1.heap.objs.size + 1 := Heap.size_push ..
  have hcP : cStatics ≠ P := fun e => by
    obtain ⟨_, ⟨o', es, ep, ho, hd, _⟩, _⟩ := I1.nolimit
    rw [e, hPs] at ho
    cases ho
    cases hd
  have hcl : cStatics < s1.heap.objs.size := let ⟨_, hns, _⟩ := I1.nolimit; hns.lt
  have hstr : s1.heap.objs.size ≠ P := fun z => Nat.ne_of_lt hPlt z.symm
  have cont : ∀ (code : Value) (h3 : Heap) (tk : Nat) (more : Array Value), Heap.ExtBut P (s1.heap.push o) h3 → (s1.heap.push o).objs.size ≤ h3.objs.size → h3.get? P = some { cls := .none, data := .fields (ps ++ more) } → TriplesOk (ps ++ more).toList →
      wpAny (model X.prog X.w) X.A (builtinsFor X.env.globals X.env.builtins) (fun bi s₄ =>
        ∃ Ia fp wr n₀ Pf St₀ pz F, Value.ref s1.heap.objs.size = .ref Ia ∧ (∀ A' : Around, A'.handled = none → Walks X.prog X.w A' Ia fp wr n₀ Pf St₀) ∧ St₀ 0 s₄.heap ∧ (∀ b ∈ fp, b < s₄.heap.objs.size) ∧ s₄.heap.NoLimit ∧ cStatics ∉ wr ∧
          (∀ href : Heap, (∀ b o, s₄.heap.get? b = some o → href.get? b = some o) →
            QuietGen X.prog X.w (genEnv scope (cloFrom X.env.cells scope.names []) s₄.heap.objs.size code bi X.env) x [] elt (List.range s₄.heap.objs.size) wr Pf pz F href) ∧
          (∀ a h₅ tk gs, gs.bare = true → s₄.heap.objs.size < a → h₅.objs.size = a + 1 → (∀ b o, s₄.heap.get? b = some o → h₅.get? b = some o) →
            WalksS X.prog X.w X.A.in4 a (a :: s₄.heap.objs.size :: List.range s₄.heap.objs.size) (s₄.heap.objs.size :: wr) (GenOnlyQ s₄.gens.size) (passing pz n₀ 0).length
              (fun j y => ∃ i, (passing pz n₀ 0)[j]? = some i ∧ F i y) (GenAt X.prog X.w X.A.in4 a s₄.gens.size s₄.heap.objs.size (List.range s₄.heap.objs.size) wr pz n₀ F) →
            GenAt X.prog X.w X.A.in4 a s₄.gens.size s₄.heap.objs.size (List.range s₄.heap.objs.size) wr pz n₀ F 0 { s₄ with gens := s₄.gens.push gs, toks := tk, heap := h₅ } →
            Q' (.ref a) { s₄ with gens := s₄.gens.push gs, toks := tk, heap := h₅ })) X.xe { s1 with heap := h3, toks := tk } := by
    intro code h3 tk more hx hsz hP3 ht3
    obtain ⟨bm, ob, e1, e2, e3, e4, e5, e6, e7, e8⟩ := TB.bm
    have keep3 : ∀ b u, b ≠ P → s1.heap.get? b = some u → h3.get? b = some u := fun b u hb e => hx b u hb (up1 b u e)
    have base3 : ∀ b u, X.base.get? b = some u → h3.get? b = some u := fun b u e => keep3 b u (nP b u e) (I1.bk b u e)
    refine wpAny_builtinsFor (m := X.mg) (by rw [I1.ok.glob]; exact I1.mod.glob.keeps base3) e1 e2 (base3 _ _ e5) e6 e7 e8 ?_
    refine ⟨s1.heap.objs.size, [s1.heap.objs.size], [s1.heap.objs.size], a.cps.size, SignAt a, St, (fun _ => true), (fun i y => ∃ cc, a.cps[i]? = some cc ∧ y = .bool (pb cc)), rfl, W, ?_, fun b hb => ?_, lim2.extBut hx hcP, fun z => Nat.ne_of_lt hcl (List.mem_singleton.mp z), fun href hhref => ⟨fun A' E' i v s₂ m₂ hA hPv hn hm hk => ?_, fun A' E' i v s₂ m₂ hA hPv hp hn hm hk => ?_⟩, ?_⟩
    · exact (W X.A hr.hd).frame _ _ _ hst fun b hb u e => hx b u (by rw [List.mem_singleton.mp hb]; exact hstr) e
    · rw [List.mem_singleton.mp hb]
      show s1.heap.objs.size < h3.objs.size
      omega
    · rw [List.forIn_nil]
      exact wpAny_pure ⟨rfl, keeps_refl _⟩
    · obtain ⟨cc, u, hcc, rfl⟩ := hPv
      refine wpAny_mono (hel _ A' E' cc u s₂ m₂ rfl I1.ok.glob (fun b v e => hk b (List.mem_range.mpr (Heap.lt_size (base3 b v e))) (fun z => ?_) v (hhref b v (base3 b v e))) hn hm) (fun y s3 r => ⟨⟨cc, hcc, r.1⟩, r.2⟩) fun _ _ e => e
      have q := Heap.lt_size (I1.bk b v e)
      rw [List.mem_singleton.mp z] at q
      exact Nat.lt_irrefl _ q
    · intro g h5 tk5 gs hgb hag hsz5 hk5 W5 hat
      simp only [GxR.passing_true, List.length_range] at W5
      refine hQ a H1 g _ q1 ⟨_, _, _, _, _, W5.in4_1, hat, ?_, fun s' hm => ?_⟩
      · rintro j y sj Qj Ej ⟨i, hij, cc, hcc, rfl⟩ hQj
        obtain ⟨hj, ej⟩ := List.getElem?_eq_some_iff.mp hij
        rw [List.getElem_range] at ej
        subst ej
        have hQ2 : Qj (trF pb a.cps.toList j) sj := hQj
        rw [trF_some (show a.cps.toList[j]? = some cc by rw [Array.getElem?_toList]; exact hcc)] at hQ2
        exact wpAny_truthy_bool hQ2
      · have nwr : ∀ b u, s1.heap.get? b = some u → b ∉ h3.objs.size :: [s1.heap.objs.size] := fun b u e hb => by
          have hl := Heap.lt_size e
          rcases List.mem_cons.mp hb with z | z
          · rw [z] at hl
            have h9 : (h3.objs.size : Nat) < s1.heap.objs.size := hl
            omega
          · rw [List.mem_singleton.mp z] at hl
            exact Nat.lt_irrefl _ hl
        have J := inv_tab (more := more) (h' := s'.heap) (g' := s'.gens) (d' := s'.drawn) (t' := s'.toks) I1 hP (fun b u hb e => hm.heap b u (nwr b u e) (hk5 b u (keep3 b u hb e)))
          (hm.heap P _ (nwr P _ hPs) (hk5 P _ hP3)) (AllBare.movedS (I1.bare.push hgb) hm)
        rw [sh_eta s1 s' hm.os] at J
        exact ⟨upd H1 P (.tbl (ps ++ more)), ⟨⟨ps ++ more, upd_same, ht3⟩, fun b hb => upd_ne hb⟩, J⟩
  refine ⟨lim2, ?_⟩
  cases hf : codeAmong gpos ps.toList with
  | none =>
    refine wpAny_genexprCodeX hcode (cd.code hP2 ht) (cd.tab hP2) hf fun c' h' tk hx hge hlt hco' _ htab' _ => ?_
    obtain ⟨o1, vs, f1, tf, fl, tg, inF, tx, tt, op, _, _, _, _, _, _, _, _, _, htr, _⟩ := hco'
    exact cont _ h' tk _ hx (Nat.le_trans hge (Nat.le_of_lt hlt)) htab'.2 htr
  | some cv =>
    refine wpAny_genexprCode_hit hcode (cd.code hP2 ht) hf ?_
    refine cont cv (s1.heap.push o) s1.toks #[] (Heap.ExtBut.refl _ _) (Nat.le_refl _) ?_ ?_
    · rw [Array.append_empty]; exact hP2
    · rw [Array.append_empty]; exact ht
theorem pe_allG {c P : Addr} {elt iter : Expr} {x : Str} {px p pos gpos : Pos} {scope : Scope} {pb : Nat → Bool} {te : TE} {k : Nat}
    (hr : Room k X.A) (hg : Gl X "all") (hm : X.mg "all" = none) (TB : TabB X.base X.mg c P) (hcode : X.env.code = .ref c) (S : GenS X.env scope x) (hi : PE X iter te) (hel : EltG X scope x elt pb)
    (hs : ∀ v, genFold iter X.env v = pure v)
    (he : starEach [.GeneratorExp elt [⟨.Name x px, iter, [], 0⟩] scope gpos] X.env = (false, eval (.GeneratorExp elt [⟨.Name x px, iter, [], 0⟩] scope gpos) X.env) :: starEach [] X.env := by rfl) :
    PE X (.Call (.Name "all" p) [.GeneratorExp elt [⟨.Name x px, iter, [], 0⟩] scope gpos] [] pos) (tAllS P pb te) := by
  refine ⟨fun pins s σ H Q I h => ?_⟩
  have hb : bootBuiltins "all" = some (.builtin "all") := by decide +kernel
  refine wpAny_Call_Name_kw (ld_blt I hg hm hb (PyProof.Rows.callWith_builtin1 ?_ he (by rfl)))
  rw [he]
  show wpAny _ _ (spliced ((false, eval (.GeneratorExp elt [⟨.Name x px, iter, [], 0⟩] scope gpos) X.env) :: backTo pos (starEach [] X.env))) _ _ s
  refine Calls.spliced_cons (gen_strG (R := fun a H1 => ∀ H2, Tabbed P H1 H2 → Q (.bl (a.cps.toList.all pb)) H2) hr TB hcode S hi hel hs I h fun a H1 g s5 hR ⟨fp, wr, G, F, Sx, W, hst, htr, hI⟩ => Calls.spliced_nil ?_)
  refine call_all_walkS (W.self 0 _ _ _ hst ⟨g, fp, wr, G, _, F, Sx, _, rfl, W, hst, htr, fun s' hmv => ?_⟩)
  obtain ⟨H2, hT, J⟩ := hI s' hmv
  exact ⟨.bl _, H2, J, rfl, by rw [all_signs a pb]; exact hR H2 hT⟩
end
section
variable {c : Cb} {ps : Sl} {O : Own} {Φ : Af} {te : TE}
theorem ev_allS {P : Addr} {pb : Nat → Bool} (hP : P ∈ c.T) (h : EvW c te ps O fun a O1 => ∃ z : Str, a = .d (.str z) ∧ Φ (.d (.bool (z.cps.toList.all pb))) O1) : EvW c (tAllS P pb te) ps O Φ := by
  intro B σ H s w m Q q
  refine h B σ H s w m _ fun a O1 B1 u H1 ⟨z, e, k⟩ e1 w1 r1 => ?_
  subst e
  cases r1
  obtain ⟨t1, t2, t3⟩ := w1.tab P hP
  refine ⟨z, rfl, t3, fun H2 ⟨g2, k2⟩ => q _ O1 B1 _ H2 k e1 ⟨fun b u e => ?_, fun p ao e => ?_, fun p hp => ?_⟩ (.bl _)⟩
  · rw [k2 b (fun y => by rw [y, t1] at e; cases e)]
    exact w1.ex b u e
  · obtain ⟨h1, o, h2, h3⟩ := w1.own p ao e
    exact ⟨h1, o, by rw [k2 p (fun y => by rw [y, t2] at e; cases e)]; exact h2, h3⟩
  · by_cases y : p = P
    · subst y; exact ⟨t1, t2, g2⟩
    · obtain ⟨h1, h2, qs, h3, h4⟩ := w1.tab p hp
      exact ⟨h1, h2, qs, by rw [k2 p y]; exact h3, h4⟩
end
end BL

set_option Elab.async false
set_option linter.all false
set_option maxRecDepth 100000
set_option maxHeartbeats 4000000
namespace BL
open PySem PySem.Spec PyProof.Rows L2 HotX
abbrev St2 := L2.St
section
variable {prog : Program} {w : World} {A : Around} {s : Shared} {E : Value → Shared → Prop}
/-- a list's iterator ends while an exception is handled -/
theorem list_end_hot {it l x1 : Addr} {i : Nat} {items : Array Value} {Q : Option Value → Shared → Prop} (hot : HotAt A x1 s.heap) (hne : it ≠ x1) (hit : s.heap.IsListIter it l i) (hl : s.heap.IsList l items) (hx : items[i]? = none)
    (hQ : ∀ h', Heap.ExtBut it s.heap h' → Q none { s with heap := h' }) : wpAny (model prog w) A (pyNext (.ref it)) Q E s := by
  obtain ⟨o, ho, hc, hd⟩ := id hit
  obtain ⟨ol, hol, _, nl, hdl⟩ := hl
  obtain ⟨hh, o1, vs1, h1, d1, c1⟩ := hot
  unfold pyNext
  refine wpAny_bind (wpAny_attempt (wpAny_callSpecial?_slot (name := Str.ofString "__next__") hit.typeIs slot_listiter_next (wpAny_call_entry slot_listiter_next hit.typeIs entry_listiter_next ?_ (args_listiter_next _))))
  show wpAny _ _ (field (.ref it) 0 >>= _) _ _ s
  refine wpAny_bind (wpAny_field ho hd (x := .ref l) rfl ?_)
  show wpAny _ _ (if (Value.ref l == Value.none) = true then _ else _) _ _ s
  rw [if_neg (show ¬ ((Value.ref l == Value.none) = true) from Bool.false_ne_true)]
  show wpAny _ _ (field (.ref it) 1 >>= _) _ _ s
  refine wpAny_bind (wpAny_field ho hd (x := .int i 0) rfl ?_)
  show wpAny _ _ (seqItems? (.ref l) >>= _) _ _ s
  refine wpAny_bind (wpAny_seqItems hol hdl ?_)
  simp only [Int.toNat_natCast, hx]
  refine wpAny_bind (wpAny_rule (wpAny_bind (wpAny_setField ho hd (by simp) ?_)))
  have up1 : (s.heap.update it (Obj.mapFields (·.setIfInBounds 0 Value.none))).get? x1 = some o1 := (Heap.get?_update_other _ _ hne).trans h1
  show wpAny _ _ (newExc (.type "StopIteration") [] >>= _) _ _ _
  refine wpAny_bind ?_
  simp only [newExc, newTuple]
  refine wpAny_bind (wpAny_newObj_type ?_ (by size_fits))
  refine wpAny_bind (m := firstArgMember _ _) (wpAny_of_eq (a := Value.none) (by first | rfl | (simp only [firstArgMember]; rfl)) ?_)
  refine wpAny_newObj_type ?_ (by size_fits)
  refine raiseNew_hot (x1 := x1) ⟨hh, o1, vs1, Heap.get?_push_of_some _ (Heap.get?_push_of_some _ up1), d1, c1⟩ (Nat.ne_of_lt (Heap.lt_size (Heap.get?_push_of_some _ up1))) (Heap.get?_push_size _ rfl) rfl (by first | (simp; done) | (simp; omega) | (simp only [Array.size_append]; simp; omega)) ?_
  refine wpAny_bind (wpAny_isInstance (T := "StopIteration") (b := true) ⟨_, Heap.get?_update_self _ (Heap.get?_push_size _ rfl) rfl, rfl⟩ isSubtype_stop ?_)
  refine wpAny_pure (hQ _ fun b u hb e => ?_)
  have e2 := (Heap.get?_update_other s.heap (Obj.mapFields (·.setIfInBounds 0 Value.none)) (Ne.symm hb)).trans e
  rw [Heap.get?_update_other _ _ (Nat.ne_of_gt (Heap.lt_size (Heap.get?_push_of_some _ e2)))]
  exact Heap.get?_push_of_some _ (Heap.get?_push_of_some _ e2)
end
end BL

set_option Elab.async false
set_option linter.all false
set_option maxRecDepth 100000
set_option maxHeartbeats 4000000
namespace BL
open PySem PySem.Spec PyProof.Rows L2 HotX L2H
section
variable {X : Cx} {pins : List (Addr × Obj)} {σ : St2} {H : Hp} {s : Shared}
theorem item_lst {tg : Expr} {a it : Addr} {i : Nat} {E : Value → Shared → Prop} (I : Inv X pins σ H s) (hf : FpOk X pins H it) (st : s.heap.IsListIter it a i) (hg : (Itl X.K a).go i H) :
    wpAny (model X.prog X.w) X.A (pyNext (.ref it)) (fun r s1 => ∃ u, r = some u ∧
      wpAny (model X.prog X.w) X.A (letOwnedTupleGo tg (.ref it) u) (fun _ s2 => ∃ x H', Inv X pins σ H' s2 ∧ RelV x u ∧ (Itl X.K a).yld i H x H' ∧ s2.heap.IsListIter it a (i + 1) ∧ H' it = none) E s1) E s := by
  obtain ⟨xs, x, hq, hx⟩ := hg
  obtain ⟨its, rv, p, hz⟩ := I.list hq
  obtain ⟨u, hu, ru⟩ := rv.get hx
  obtain ⟨f0, f1, f2, f3, f4, f5⟩ := hf
  refine wpAny_pyNext_list_item st p.isList (x := u) (by simpa using hu) fun h' st' sb => ?_
  have I1 : Inv X pins σ H { s with heap := h' } := I.turned (t' := s.toks) (fun b o hb e => (sb.2 b hb).trans e) f0 f1 f3 f4 f5
  obtain ⟨o, e, c, d⟩ := id st'
  exact ⟨u, rfl, go_of (s := { s with heap := h' }) e c d (by decide) ⟨x, H, I1, ru, ⟨rfl, fun ys hy => by rw [I.list_inj hy hq]; exact hx⟩, st', f0⟩⟩
theorem done_lst {a it x1 : Addr} {i : Nat} {E : Value → Shared → Prop} (hot : HotAt X.A x1 s.heap) (hne : it ≠ x1) (I : Inv X pins σ H s) (hf : FpOk X pins H it) (st : s.heap.IsListIter it a i) (hg : (Itl X.K a).stop i H) :
    wpAny (model X.prog X.w) X.A (pyNext (.ref it)) (fun r s1 => r = none ∧ Inv X pins σ H s1) E s := by
  obtain ⟨xs, hq, hx⟩ := hg
  obtain ⟨its, rv, p, hz⟩ := I.list hq
  obtain ⟨f0, f1, f2, f3, f4, f5⟩ := hf
  have hl := rv.length
  exact list_end_hot hot hne st p.isList (by simp; omega) fun h' eb => ⟨rfl, I.turned (t' := s.toks) (fun b o hb e => eb b o hb e) f0 f1 f3 f4 f5⟩
/-- a comprehension over a list, while an exception is handled -/
theorem pe_lcH {elt tg iter : Expr} {ifs : List Expr} {scope : Scope} {own : List (Str × Nat)} {pos : Pos} {g : TG} {tt : TT} {te ti : TE} {xp : Addr × Obj} (hx : xp ∈ X.pn) (hot : Hot1 X.A xp) (hN : X.N.Nodup) (hi : PE X iter ti) (ok : BlkOk X.N X.env.scope scope own)
    (hg : ∀ (s : Shared) (H : Hp) (C : Addr) (cl : List (Str × Addr)) (fp : List Addr), PG (X.blk s H scope (compEnvC scope cl C X.env) fp) tg g) (ht : ∀ (s : Shared) (H : Hp) (C : Addr) (cl : List (Str × Addr)) (fp : List Addr), PTs (X.blk s H scope (compEnvC scope cl C X.env) fp) ifs tt)
    (he : ∀ (s : Shared) (H : Hp) (C : Addr) (cl : List (Str × Addr)) (fp : List Addr), PE (X.blk s H scope (compEnvC scope cl C X.env) fp) elt te) (hs : ∀ x, foldedSetIterable iter X.env x = pure x := by intro _; rfl) :
    PE X (.ListComp elt [⟨tg, iter, ifs, 0⟩] scope pos) (tLc (iList X.K ti) g tt te (own.map (·.2))) := by
  refine ⟨fun pins s σ H Q I h => ?_⟩
  rw [eval_ListComp]
  have hfree : ∀ y ∈ scope.names, y.2 = .free → ∃ c, X.env.cells.lookup y.1 = some c := fun y hy e => by
    rcases ok.free y hy e with k | k
    · exact I.ok.has _ (.inl k)
    · exact I.ok.has _ (.inr k)
  refine wpAny_comprehension_free (use := none) rfl hs (closure_ok hfree) ok.kind (fun y hy e => by rw [ok.uniq y hy, e]) (thn (hi.run pins s σ H _ I h) fun xv s1 ⟨x, H1, I1, r1, a, ea, ⟨ys, hq⟩, q1⟩ => ?_)
  subst ea
  cases r1
  obtain ⟨its, rv, p, hz⟩ := I1.list hq
  refine wpAny_pyIter_list p.isList ?_
  -- the iterator at it, the new list at D
  generalize hs2 : ({ s1 with heap := s1.heap.push _ } : Shared) = s2
  have k2 : ∀ b o, s1.heap.get? b = some o → s2.heap.get? b = some o := fun b o e => by rw [← hs2]; exact Heap.get?_push_of_some _ e
  have st2 : s2.heap.IsListIter s1.heap.objs.size a 0 := by rw [← hs2]; exact ⟨_, Heap.get?_push_size _ rfl, rfl, rfl⟩
  have I2 : Inv X pins σ H1 s2 := by rw [← hs2]; exact I1.kept (t' := s1.toks) fun b o e => Heap.get?_push_of_some _ e
  have f2 : FpOk X pins H1 s1.heap.objs.size := I1.fpOk (Nat.le_refl _) (I1.hok.fresh (Nat.le_refl _))
  generalize s1.heap.objs.size = it at st2 f2
  clear hs2 k2
  refine wpAny_newObj_type (newEnv_comp ?_) (by show 0 ≤ sizeLine; decide)
  generalize hD : s2.heap.objs.size = D
  have hDn : H1 D = none := I2.hok.fresh (Nat.le_of_eq hD)
  obtain ⟨W, ⟨m0, w0⟩, turn⟩ := q1 D hDn
  obtain ⟨oi, hoi, _⟩ := id st2
  have itD : it ≠ D := by rw [← hD]; exact Nat.ne_of_lt (Heap.lt_size hoi)
  generalize hs3 : ({ s2 with heap := s2.heap.push { cls := .type "list", data := .seq ([] : List Value).toArray } } : Shared) = s3
  have k3 : ∀ b o, s2.heap.get? b = some o → s3.heap.get? b = some o := fun b o e => by rw [← hs3]; exact Heap.get?_push_of_some _ e
  have I3 : Inv X pins σ (upd H1 D (.lst [])) s3 := by
    rw [← hs3]
    refine I2.laid (t' := s2.toks) (fun b o e => Heap.get?_push_of_some _ e) (Nat.le_of_eq hD) ⟨Nat.zero_le _, [], 0, .nil, ?_⟩
    rw [← hD]
    exact Heap.get?_push_size _ rfl
  have st3 : s3.heap.IsListIter it a 0 := st2.at fun o e => k3 it o e
  obtain ⟨oj, hoj, _⟩ := id st3
  have f3 : FpOk X pins (upd H1 D (.lst [])) it ∧ it < s3.heap.objs.size := ⟨⟨by rw [upd_ne itD]; exact f2.1, f2.2⟩, Heap.lt_size hoj⟩
  have I4 := block_start (fp := [it]) I3 ok hN fun b hb => by rw [List.mem_singleton.mp hb]; exact f3
  have pg := hg s3 (upd H1 D (.lst [])) s3.heap.objs.size (cellsFrom (s3.heap.objs.size + 1) scope.names (cloFrom X.env.cells scope.names [])) [it]
  have pt := ht s3 (upd H1 D (.lst [])) s3.heap.objs.size (cellsFrom (s3.heap.objs.size + 1) scope.names (cloFrom X.env.cells scope.names [])) [it]
  have pe := he s3 (upd H1 D (.lst [])) s3.heap.objs.size (cellsFrom (s3.heap.objs.size + 1) scope.names (cloFrom X.env.cells scope.names [])) [it]
  have nit : upd H1 D (.lst []) it = none := f3.1.1
  show codeAny _ _ (.compStart (.ListComp elt [⟨tg, iter, ifs, 0⟩] scope pos) 0 (.ref it) (.ref D) (compEnvC scope (cellsFrom (s3.heap.objs.size + 1) scope.names (cloFrom X.env.cells scope.names [])) s3.heap.objs.size X.env)) (compPost (model X.prog X.w) X.A X.xe none _ (.ref D) s3.heap.objs.size) { s3 with heap := pushCells (s3.heap.push { cls := .type "dict", data := .dict #[] }) scope.names }
  generalize hce : compEnvC scope (cellsFrom (s3.heap.objs.size + 1) scope.names (cloFrom X.env.cells scope.names [])) s3.heap.objs.size X.env = ce at I4 pg pt pe ⊢
  have cL : ce.locals = s3.heap.objs.size := by subst hce; rfl
  generalize hH3 : upd H1 D (.lst []) = H3 at I3 I4 pg pt pe w0 nit f3
  -- the handled exception stands all along
  obtain ⟨hh, v1, d1, c1⟩ := hot
  obtain ⟨P1, P2, P3, P4, _⟩ := I3.pin xp (List.mem_append_left _ hx)
  have nxi : it ≠ xp.1 := fun z => (f3.1.2.2.2.2.2 xp (List.mem_append_left _ hx)) z.symm
  generalize hs4 : ({ s3 with heap := pushCells (s3.heap.push { cls := .type "dict", data := .dict #[] }) scope.names } : Shared) = s4 at I4 ⊢
  have st4 : s4.heap.IsListIter it a 0 := st3.at fun o e => by rw [← hs4]; exact pushCells_keeps _ _ _ _ (Heap.get?_push_of_some _ e)
  have hotS : ∀ {σ' : St2} {H' : Hp} {s' : Shared}, Inv (X.blk s3 H3 scope ce [it]) [] σ' H' s' → HotAt X.A xp.1 s'.heap := fun {σ' H' s'} I' =>
    ⟨hh, xp.2, v1, I'.base.keep xp.1 xp.2 P1 P2 (fun hm => (List.mem_cons.mp (I3.stkSub xp.1 hm)).elim P3 P4) (fun z => nxi (List.mem_singleton.mp z).symm), d1, c1⟩
  have stat : ∀ {σ' : St2} {H' : Hp} {s' : Shared}, Inv (X.blk s3 H3 scope ce [it]) [] σ' H' s' → H' it = none → FpOk (X.blk s3 H3 scope ce [it]) [] H' it := fun {σ' H' s'} I' hn =>
    ⟨hn, (I'.ok.exf it List.mem_cons_self).1, I'.ok.exfs it List.mem_cons_self, .inl List.mem_cons_self, fun x c e => (I'.ok.exf it List.mem_cons_self).2 x c e, fun p hp => absurd (show p ∈ ([] : List (Addr × Obj)) ++ [] from hp) (by simp)⟩
  have loop : codeAny (model X.prog X.w) X.A (.compLoop (.ListComp elt [⟨tg, iter, ifs, 0⟩] scope pos) 0 (.ref it) (.ref D) ce) (compPost (model X.prog X.w) X.A X.xe none (EP X pins σ Q) (.ref D) s3.heap.objs.size) s4 := by
    refine compLoop_any (fun n s' => ∃ i H', Inv (X.blk s3 H3 scope ce [it]) [] (L2.wipe σ (own.map (·.2))) H' s' ∧ s'.heap.IsListIter it a i ∧ H' it = none ∧ W i n H') ?_ m0 ⟨0, H3, I4, st4, nit, w0⟩
    rintro n s5 ⟨i, H5, I5, st5, n5, w5⟩
    rcases turn i n H5 w5 with ⟨stop, qq⟩ | ⟨go, Nx, hNx, step⟩
    · refine thnF (done_lst (X := X.blk s3 H3 scope ce [it]) (E := fun _ _ => False) (hotS I5) nxi I5 (stat I5 n5) st5 stop) fun r s6 ⟨hr, I6⟩ => ?_
      subst hr
      have I7 : Inv X pins σ H5 s6 := I3.call' (ch := [it]) I6.os I6.base I6.hok I6.bare fun b hb => by
        rw [List.mem_singleton.mp hb]
        exact ⟨f3.1.2.2.2.1, f3.1.2.1, f3.1.2.2.2.2.1, f3.1.2.2.2.2.2⟩
      have nC : H5 s3.heap.objs.size = none := by
        have z : H5 ce.locals = none := I6.free
        rw [cL] at z
        exact z
      obtain ⟨m, hn, _⟩ := I6.loc
      have hn : s6.heap.Ns ce.locals m := hn
      rw [cL] at hn
      obtain ⟨g0, g1, g2, g3, g4, g5⟩ := I3.fpOk (Nat.le_refl _) nC
      exact ⟨m, hn, fun h'' sb => ⟨.ref D, H5, I7.turned (t' := s6.toks) (fun b o hb e => (sb.2 b hb).trans e) g0 g1 g3 g4 g5, rfl, qq⟩⟩
    · refine thnF (item_lst (X := X.blk s3 H3 scope ce [it]) (tg := tg) (E := fun _ _ => False) I5 (stat I5 n5) st5 go) fun r s6 ⟨u, hr, h6⟩ => ?_
      subst hr
      refine thnF h6 fun _ s7 ⟨x, H7, I7, r7, y7, st7, n7⟩ => ?_
      obtain ⟨o7, ho7, hc7, hd7⟩ := id st7
      have I7' := I7.pinned (fp := [it]) (fun b hb => by rw [List.mem_singleton.mp hb]; exact stat I7 n7) (fun b hb => by rw [List.mem_singleton.mp hb]; exact ⟨o7, ho7, fun v z => by rw [hd7] at z; cases z⟩)
      refine thnF (pg.run _ s7 _ H7 x u _ I7' r7 (step x H7 y7)) fun _ s8 ⟨σ8, H8, I8, hw8, q8⟩ => ?_
      refine thnF (pt.run _ s8 σ8 H8 _ I8 q8) fun b s9 ⟨H9, I9, q9⟩ => ?_
      have fin : ∀ {s' : Shared} {H' : Hp}, Inv (X.blk s3 H3 scope ce [it]) ([] ++ pinsAt [it] s7.heap) σ8 H' s' → Nx H' → ∃ m, m < n ∧ ∃ i H', Inv (X.blk s3 H3 scope ce [it]) [] (L2.wipe σ (own.map (·.2))) H' s' ∧ s'.heap.IsListIter it a i ∧ H' it = none ∧ W i m H' := fun {s' H'} I' nx => by
        obtain ⟨m', hm, w'⟩ := hNx H' nx
        obtain ⟨z1, z2, _⟩ := I'.pin (it, o7) (List.mem_append_right _ (List.mem_append_right _ (mem_pinsAt List.mem_cons_self ho7)))
        refine ⟨m', hm, i + 1, H', (I'.unpinned (pins := [])).weak (by rw [← hw8, L2.wipe_length]) (fun j v e => ?_), st7.at fun o e => ?_, z2, w'⟩
        · rw [← hw8] at e
          exact (L2.wipe_some e).1
        · rw [ho7] at e; cases e; exact z1
      cases b with
      | false => exact fin I9 q9
      | true =>
        refine thnF (pe.run _ s9 σ8 H9 _ I9 q9) fun z s10 ⟨yv, H10, I10, r10, acc, hD10, hz10, nx⟩ => ?_
        exact app_ok (X := X.blk s3 H3 scope ce [it]) I10 hD10 hz10 r10 fun s11 I11 => fin I11 nx
  exact codeAny_compStart_list loop (wpAny_pyIter_listiter st4 loop)
end
end BL

set_option Elab.async false
set_option linter.all false
set_option maxRecDepth 100000
set_option maxHeartbeats 4000000
namespace BL
open PySem PySem.Spec PyProof.Rows L2 HotX L2H
/-- p: the exception that is handled, of the class D, its context None -/
structure HotP (A : Around) (D : Addr) (p : Addr × Obj) : Prop where
  hot : Hot1 A p
  z : Zc (.ref D) none p.2
theorem HotP.fields {A : Around} {D : Addr} {p : Addr × Obj} (h : HotP A D p) : ∃ vs, p.2.data = .fields vs := let ⟨_, v, e, _⟩ := h.hot; ⟨v, e⟩
/-- a def that is called in a suite, with the exception that is handled -/
structure FnE (P : Program) (w : World) (K : PySem.W.Frag) (mg : Str → Option Value) (base : Heap) (k : Nat) (f : Addr) (fd : FuncData) (ps : List Str) (sp : Addr → Addr → Sp) : Prop where
  len : ∀ D e vs H Q E, sp D e vs H Q E → vs.length = ps.length
  run : ∀ (A : Around) (outer : List Env) (s : Shared) (H : Hp) (args : Args) (us : List Value) (vs : List V) (Q : VK) (E : XK) (p : Addr × Obj) (D : Addr), RoomH k A → HotP A D p → PinOk outer H s p → Env0 P w K mg base A outer s H → BindsTo s fd args (ps.zip us) → Vals vs us → sp D p.1 vs H Q E →
    codeAny (model P w) A (.call (.ref f) args) (CR CX0 outer P w H s Q E) s
theorem fn_ofE {P : Program} {w : World} {K : PySem.W.Frag} {mg : Str → Option Value} {base : Heap} {k : Nat} {f : Addr} {name qual : Str} {params : Arguments} {body : List Stmt} {scope : Scope} {dV kV doc pm cdv ct oc : Value} {an od : Option Addr}
    {osl : Array (Option Value)} {N ps : List Str} {sp : Addr → Addr → Sp} (lk : K.lookup f = some ⟨oc, od, .func (PySem.W.fnOf name qual params body scope dV kV doc pm an cdv ct), osl⟩) (hcd : PySem.W.codeIn K cdv qual = true) (S : FnScope N ps scope)
    (len : ∀ D e vs H Q E, sp D e vs H Q E → vs.length = ps.length)
    (hbody : ∀ (A : Around) (outer : List Env) (s : Shared) (H : Hp) (vs : List V) (Q : VK) (E : XK) (p : Addr × Obj) (D : Addr), HotP A D p → RoomH k (A.deeper (envOfC qual scope s.heap.objs.size f cdv)) → sp D p.1 vs H Q E →
      ∃ t, PSs (cxH CX0 P w K mg base N qual scope f cdv A outer s H E p) body t ∧ t { nx := fun _ H' => Q .non H', rt := Q } (L2.start N vs) H) :
    FnE P w K mg base (k + 1) f (PySem.W.fnOf name qual params body scope dV kV doc pm an cdv ct) ps sp := by
  refine ⟨len, fun A outer s H args us vs Q E p D hr hot hpin e0 hb r hsp => ?_⟩
  have KX : K.In s.heap := e0.mod.kin.keeps fun b o e => (e0.bs b o e).1
  have lim : s.heap.NoLimit := e0.mod.nolimit.keeps fun b o e => (e0.bs b o e).1
  have hkind : ∀ y ∈ ps.zip us, scope.names.lookup y.1 = some .local ∨ (scope.names.lookup y.1 = some .cell ∧ ((cellsFrom (s.heap.objs.size + 1) scope.names []).lookup y.1).isSome = true) := fun ⟨n, v⟩ hy =>
    (S.par n (List.of_mem_zip hy).1).imp id fun q => ⟨q, PySem.W.cellsFrom_some _ _ _ (.inl q)⟩
  refine codeAny_call_function hr.depth (KX _ _ lk) rfl S.co S.gen rfl (PySem.W.codeRec_of KX hcd) (hb _ _ _ _ (wpAny_newFunctionEnv_cells S.kind hkind fun env he s1 x => ?_))
  subst he
  refine ⟨lim.keeps x.toInCall.keep, codeAny_func ?_⟩
  obtain ⟨t, ht, hq⟩ := hbody A outer s H vs Q E p D hot (hr.deeper _) hsp
  have I : Inv (cxH CX0 P w K mg base N qual scope f cdv A outer s H E p) [] (L2.start N vs) H s1 := inv_startH S hpin e0 (len _ _ _ _ _ _ hsp) r x
  refine wpAny_mono (ht.run [] s1 (L2.start N vs) H _ I hq) (fun fl s' hs => ?_) fun e s' hs => hs
  cases fl with
  | ret u =>
    obtain ⟨v, σ', H', J, rv, q⟩ := hs
    exact ⟨v, H', J.os, J.bare, J.base, J.hok, rv, q⟩
  | next =>
    obtain ⟨σ', H', J, q⟩ := hs
    exact ⟨V.non, H', J.os, J.bare, J.base, J.hok, rfl, q⟩
  | brk =>
    obtain ⟨_, _, _, q⟩ := hs
    exact False.elim q
  | cont =>
    obtain ⟨_, _, _, q⟩ := hs
    exact False.elim q
section
variable {X : Cx} {k : Nat} {f : Addr} {fd : FuncData} {ps : List Str} {sp : Addr → Addr → Sp} {x : Str} {q pos : Pos} {e : Expr} {es : List Expr} {t : TA}
theorem pe_callE {p : Addr × Obj} {D : Addr} (F : FnE X.prog X.w X.K X.mg X.base k f fd ps sp) (hr : RoomH k X.A) (hp : p ∈ X.pn) (hot : HotP X.A D p) (hg : Gl X x) (hm : X.mg x = some (.ref f)) (hk : PySem.W.keepIn X.K (.ref f) = true) (hb : Binds X.K fd ps [])
    (ha : PA X (e :: es) t) (hdb : (x == ("__debug__" : Str)) = false := by decide) (he : starEach (e :: es) X.env = (false, eval e X.env) :: starEach es X.env := by rfl) (hpl : (backTo pos (starEach es X.env)).any (·.1) = false := by rfl) :
    PE X (.Call (.Name x q) (e :: es) [] pos) (tCallS (sp D p.1) (WE fun _ _ _ _ => False) t) := by
  refine ⟨fun pins s σ H Q I h => ?_⟩
  refine wpAny_Call_Name_kw (ld_glob I hg hm (PySem.W.callWith_K (h₀ := X.base) I.ok.mod.kin hk (thn (ha.run pos pins s σ H _ I h) fun us s1 ⟨vs, H1, I1, r, q⟩ => ⟨I1.kIn, ?_⟩) he hpl) hdb)
  have b := hb s1 us I1.kIn (by rw [List.append_nil, ← r.length]; exact F.len _ _ _ _ _ _ q)
  rw [List.append_nil] at b
  have P1 := I1.pin p (List.mem_append_left _ hp)
  have hpin : PinOk X.stack H1 s1 p := ⟨P1.1, P1.2.1, fun hm => (List.mem_cons.mp (I1.stkSub p.1 hm)).elim P1.2.2.1 P1.2.2.2.1, P1.2.2.2.2⟩
  refine wpAny_call (codeAny_mono (F.run X.A X.stack s1 H1 ⟨us, []⟩ us vs Q _ p D hr hot hpin I1.env0 b r q) fun r s' hq => ?_)
  cases r with
  | error e => exact hq.elim
  | ok fl =>
    cases fl with
    | ret u => exact I1.after hq
    | next => exact False.elim hq
    | brk => exact False.elim hq
    | cont => exact False.elim hq
/-- isinstance(e, class) -/
theorem call_isP {p : Addr × Obj} {D : Addr} (K : PySem.W.Frag) (hK : X.K = K) (hp : p ∈ X.pn) (hot : HotP X.A D p) (C : ExcC K D) : CallR X (.builtin "isinstance") (rIsE K D p.1) := by
  subst hK
  intro pins s σ H xs us Q I r h
  obtain ⟨c, cv, b, rfl, hcv, e, q⟩ := h
  obtain ⟨u1, u2, rfl, rx, rt⟩ := vals2 r
  cases rx
  have ec := hcv _ rt
  subst ec
  obtain ⟨hget, _⟩ := I.pin p (List.mem_append_left _ hp)
  obtain ⟨vs, hv⟩ := hot.fields
  obtain ⟨a, oe⟩ := p
  obtain ⟨hz1, hz2⟩ := hot.z
  have J : PySem.W.InstAt s.heap a oe D none := by
    obtain ⟨oc, od, oda, osl⟩ := oe
    dsimp only at hz1 hz2 hv
    subst hz1 hz2 hv
    exact ⟨hget, rfl, rfl, trivial⟩
  exact PySem.W.kia_one (PySem.W.handS_kitx_exc C.hg C.hk C.hs C.hd C.ha C.hn C.ht C.hm) I.kIn J e (fun z => nomatch z) fun tk => ⟨.bl b, H, I.kept (t' := tk) fun _ _ z => z, rfl, q⟩
end
section
variable {c : Cb} {ps : Sl} {O : Own} {Φ : Af} {t : TA}
theorem cw_isO {D a C : Addr} {b : Bool} (h : PySem.W.kitOne c.K (.ref D) (.ref C) = some b) (k : Φ (.d (.bool b)) O) : calW c (rIsE c.K D a) [.v (.ref a), .v (.ref C)] O Φ := fun B H us r w Q q => by
  obtain ⟨u, v, rfl, r1, r2⟩ := rv2 r
  cases r1
  cases r2
  exact ⟨_, .ref C, b, rfl, fun _ z => z, h, q _ O B _ H k (Ext.refl B) w (.bl _)⟩
theorem cw_isB {D a : Addr} {n : String} {b : Bool} (h : PySem.W.kitOne c.K (.ref D) (.type n) = some b) (k : Φ (.d (.bool b)) O) : calW c (rIsE c.K D a) [.v (.ref a), .v (.ty n)] O Φ := fun B H us r w Q q => by
  obtain ⟨u, v, rfl, r1, r2⟩ := rv2 r
  cases r1
  cases r2
  exact ⟨_, .type n, b, rfl, fun _ z => z, h, q _ O B _ H k (Ext.refl B) w (.bl _)⟩
/-- kinds.index(y): y a truth value -/
theorem mw_indexB {l : List PyData} {y : Bool} {j : Nat} (hl : ∀ d ∈ l, ∃ b, d = .bool b) (hj : l[j]? = some (.bool y)) (hn : ∀ m, m < j → l[m]? ≠ some (.bool y)) (k : Φ (.d (.int j)) O) : mtW c (rIndex c.K) (.d (.list l)) [.d (.bool y)] O Φ := fun B H u us r rs w Q q => by
  obtain ⟨v, rfl, rv⟩ := rv1 rs
  cases rv
  cases r with
  | lst h1 h2 =>
    rename_i a xs
    have at_ : ∀ (m : Nat) (z : V), xs[m]? = some z → ∃ b, z = .bl b ∧ l[m]? = some (.bool b) := fun m z hz => by
      have hlen := dqs_len h2
      have hm : m < l.length := by rw [← hlen]; exact (List.getElem?_eq_some_iff.mp hz).1
      obtain ⟨b, hb⟩ := hl l[m] (List.getElem_mem hm)
      obtain ⟨u, hu, d⟩ := dqs_get h2 (List.getElem?_eq_getElem hm)
      rw [hz] at hu; cases hu
      rw [hb] at d; cases d
      exact ⟨b, rfl, by rw [List.getElem?_eq_getElem hm, hb]⟩
    obtain ⟨u, hu, d⟩ := dqs_get h2 hj
    cases d
    refine ⟨a, xs, .bl y, j, .bl y, rfl, rfl, .inl (.inl (w.ex _ _ h1)), rfl, List.all_eq_true.mpr fun z hz => ?_, hu, by show (y == y) = true; exact beq_self_eq_true y, fun m z hm hz => ?_, q _ O B _ H k (Ext.refl B) w (.int _)⟩
    · obtain ⟨m, hm⟩ := List.getElem?_of_mem hz
      obtain ⟨b, rfl, _⟩ := at_ m z hm
      rfl
    · obtain ⟨b, rfl, hb⟩ := at_ m z hz
      have n := hn m hm
      rw [hb] at n
      show (b == y) = false
      cases b <;> cases y <;> simp_all
theorem is_lst {wte : TE} {Φ : Src → Own → Prop} (h : EvW c wte ps O fun a O1 => ∃ l, a = .d (.list l) ∧ Φ (srcD l) O1) : IsW c (iList c.K wte) ps O Φ := by
  intro B σ H s w m R q
  refine h B σ H s w m _ fun a O1 B1 u H1 ⟨l, e, k⟩ e1 w1 r1 => ?_
  subst e
  cases r1 with
  | lst h1 h2 =>
    rename_i a xs
    exact ⟨a, rfl, ⟨xs, .inl (.inl (w1.ex _ _ h1))⟩, q _ O1 B1 H1 _ k e1 w1 (walkL h1 h2)⟩
/-- the call in the suite -/
theorem ev_callE {F : FSp} (h : EvAW c t ps O fun xs O1 => F xs O1 Φ fun _ _ => False) : EvW c (tCallS (spOf c.K c.T F) (WE fun _ _ _ _ => False) t) ps O Φ := by
  intro B σ H s w m Q q
  refine h B σ H s w m _ fun xs O1 B1 us H1 k e1 w1 r1 => ?_
  exact ⟨B1, O1, xs, Φ, _, r1, w1, k, fun a O2 B2 u H2 h2 e2 w2 r2 => q a O2 B2 u H2 h2 (e1.trans e2) w2 r2, fun _ _ _ _ z => z.elim⟩
end
end BL

set_option Elab.async false
set_option linter.all false
set_option maxRecDepth 100000
set_option maxHeartbeats 4000000
namespace BL
open PySem PySem.Spec PyProof.Rows L2 HotX L2H
theorem pss_ex {X : Cx} {body : List Stmt} {φ : Addr → Prop} {t : Addr → TS} (h : ∀ D, φ D → PSs X body (t D)) : PSs X body (fun Dn σ H => ∃ D, φ D ∧ t D Dn σ H) := ⟨fun pins s σ H Dn I ⟨D, p, q⟩ => (h D p).run pins s σ H Dn I q⟩
theorem takes0N {X : Cx} : L2N.Takes X (fun _ _ _ _ => False) := fun _ _ ⟨_, _, _, _, _, _, _, _, _, _, _, _, _, _, _, _, z⟩ => z.elim
theorem hotp {A : Around} {a D : Addr} {oe : Obj} {cls : Value} {d : Option Addr} (hz : L2N.Zn cls d oe) (hf : ∃ vs, oe.data = .fields vs) (hc : cls = .ref D) (hd : d = none) : HotP (A.mark (some (.ref a))) D (a, oe) := by
  subst hc hd
  obtain ⟨vs, hv⟩ := hf
  exact ⟨⟨rfl, vs, hv, hz.2.2 vs hv⟩, hz.zc⟩
theorem roomH_mark {A : Around} {k : Nat} {x : Option Value} (r : Room k A) : RoomH k (A.mark x) := ⟨r.dp, r.un⟩
theorem pe_callEs {X : Cx} {k : Nat} {f : Addr} {fd : FuncData} {ps : List Str} {sp : Addr → Addr → Sp} {x : Str} {q pos : Pos} {e : Expr} {es : List Expr} {t : TA} {a D : Addr} {oe : Obj} (F : FnE X.prog X.w X.K X.mg X.base k f fd ps sp) (hr : RoomH k X.A) (hp : (a, oe) ∈ X.pn) (hot : HotP X.A D (a, oe)) (hg : Gl X x) (hm : X.mg x = some (.ref f)) (hk : PySem.W.keepIn X.K (.ref f) = true) (hb : Binds X.K fd ps [])
    (ha : PA X (e :: es) t) (hdb : (x == ("__debug__" : Str)) = false := by decide) (he : starEach (e :: es) X.env = (false, eval e X.env) :: starEach es X.env := by rfl) (hpl : (backTo pos (starEach es X.env)).any (·.1) = false := by rfl) :
    PE X (.Call (.Name x q) (e :: es) [] pos) (tCallS (sp D a) (WE fun _ _ _ _ => False) t) := pe_callE F hr hp hot hg hm hk hb ha hdb he hpl
theorem HotP.deeper {A : Around} {D : Addr} {p : Addr × Obj} {env : Env} (h : HotP A D p) : HotP (A.deeper env) D p := ⟨h.hot, h.z⟩
theorem neAH {X : Cx} (K : PySem.W.Frag) (h : X.K = K) {k : Nat} (r : RoomH k X.A) : OpR X (compareOp .NotEq) (rNeA K) := h ▸ op_neA (by have := r.un; omega)
theorem eqAH {X : Cx} (K : PySem.W.Frag) (h : X.K = K) {k : Nat} (r : RoomH k X.A) : OpR X (compareOp .Eq) (rEqA K) := h ▸ op_eqA (by have := r.un; omega)
end BL

set_option Elab.async false
set_option linter.all false
set_option maxRecDepth 100000
set_option maxHeartbeats 4000000
namespace BL
open PySem PySem.Spec PyProof.Rows L2
/-! ## dicts whose keys are tuples: rules -/
def rDIn : R2 := fun y x H Q => ∃ a o, x = .ref a ∧ DGet H a y o ∧ Q (.bl o.isSome) H
def rDNotIn : R2 := fun y x H Q => ∃ a o, x = .ref a ∧ DGet H a y o ∧ Q (.bl (!o.isSome)) H
def rDIx : R2 := fun x y H Q => ∃ a v, x = .ref a ∧ DGet H a y (some v) ∧ Q v H
def tDisp1T (tk tv : TE) : TE := fun σ H Q => ∀ p, H p = none → tk σ (upd H p (.dT [])) fun x H1 => tv σ H1 fun y H2 => ∃ b k, x = .ref b ∧ H2 p = some (.dT []) ∧ H2 b = some (.tup (k.map kV)) ∧ Q (.ref p) (upd H2 p (.dT [(k, y)]))
section
variable {X : Cx}
theorem op_din (hu : X.A.units + 1 < cLine) : OpR X (compareOp .In) rDIn := by
  intro pins s σ H y x u v Q I ry rx ⟨a, o, ex, g, q⟩
  subst ex
  cases rx
  exact d_in hu I g ry fun s3 I3 => ⟨.bl o.isSome, H, I3, rfl, q⟩
theorem op_dnotin (hu : X.A.units + 1 < cLine) : OpR X (compareOp .NotIn) rDNotIn := by
  intro pins s σ H y x u v Q I ry rx ⟨a, o, ex, g, q⟩
  subst ex
  cases rx
  exact d_notIn hu I g ry fun s3 I3 => ⟨.bl (!o.isSome), H, I3, rfl, q⟩
theorem ix_dict (hu : X.A.units + 1 < cLine) : IxR X rDIx := by
  intro value slice pins s σ H x y v u Q I rx ry ⟨a, z, ex, g, q⟩ hs
  subst ex
  cases rx
  have hT := dict_typeIs I g
  unfold subscriptTail
  refine wpAny_bind ?_
  rw [getitemInPython_of_ne hT.not_modules]
  refine wpAny_bind (wpAny_specialOf hT PySem.F.slot_dict_getitem.lookup ?_)
  have fin : wpAny (model X.prog X.w) X.A (subscripted slice false (.ref a) u) (fun r s₃ => wpAny (model X.prog X.w) X.A (letTemporaryGo value (.ref a) r >>= fun _ => pure r) (EP X pins σ Q) X.xe s₃) X.xe s := by
    rw [hs]
    exact wpAny_operating (d_getItem hu I g ry fun w' s3 I3 rw' => wpAny_bind (wpAny_letTemporaryGo (wpAny_pure ⟨z, H, I3, rw', q⟩)))
  first
    | exact wpAny_pure (wpAny_bind fin)
    | exact wpAny_bind (wpAny_pure (wpAny_bind fin))
    | exact wpAny_bind fin
theorem pe_disp1T {k v : Expr} {pos : Pos} {tk tv : TE} (hu : X.A.units + 1 < cLine) (hk : PE X k tk) (hv : PE X v tv) : PE X (.Dict [some k] [v] pos) (tDisp1T tk tv) := by
  refine ⟨fun pins s σ H Q I q => ?_⟩
  have hn := I.hok.fresh (Nat.le_refl s.heap.objs.size)
  have I1 := I.laid (a := s.heap.objs.size) (o := .dT []) (h' := s.heap.push { cls := .type "dict", data := .dict #[] }) (t' := s.toks) (fun _ _ q => Heap.get?_push_of_some _ q) (Nat.le_refl _) (dt_empty s.heap I.big)
  refine wpAny_Dict_any rfl rfl (by simp) (by show 1 ≤ 15; decide) (pairTrees_cons_walk (thn (hk.run pins _ σ _ _ I1 (q _ hn)) fun u s2 ⟨x, H2, I2, rx, q2⟩ => thn (hv.run pins s2 σ H2 _ I2 q2) fun r s3 ⟨y, H3, I3, ry, b, kk, ex, ep, eb, q3⟩ => pairTrees_nil_walk ?_))
  subst ex
  obtain rfl : u = Value.ref b := rx
  generalize s.heap.objs.size = d at ep q3 ⊢
  obtain ⟨z, hd, xs, rel, dd⟩ := dt_of I3.hok ep
  have hx0 : xs = [] := by cases rel; rfl
  subst hx0
  unfold storeAll
  rw [List.forIn_cons]
  refine wpAny_bind (wpAny_bind (wpAny_dictSet_heap (hsz := Nat.zero_le _) (knd := tupleKind (mixKind X.prog X.w)) (by show X.A.units < cLine; omega) (key_of I3.hok eb) dd fun h' dd' hs => wpAny_pure ?_))
  dsimp only
  rw [List.forIn_nil]
  obtain ⟨o', es, ep', hq, h2, h3, h4, _, h5⟩ := dd'
  refine wpAny_pure ⟨.ref d, _, d_write I3 (ob := .dT [(kk, y)]) (by rw [ep]; exact True.intro) hs ⟨o', hq⟩ ⟨by show 1 ≤ sizeLine; rw [sizeLine_eq]; omega, hd, _, ((KT.put (y := y) rel kk eb ry).keeps fun c ys ec => ?_), o', es, ep', hq, h2, h3, h4, h5⟩, rfl, q3⟩
  rw [upd_ne (ne_of ec ep (fun z => nomatch z))]
  exact ec
end

/-! ## over own dicts -/
def kD : Key → PyData
  | .inl i => .int i
  | .inr x => .str x
theorem dqs_key {K : PySem.W.Frag} {B : Hp} : ∀ {k : List Key} {xs : List V}, DqAll K B xs (k.map kD) → xs = k.map kV
  | [], _, h => by cases h; rfl
  | .inl i :: k, _, h => by
    cases h with
    | cons h1 h2 => cases h1; rw [dqs_key h2]; rfl
  | .inr i :: k, _, h => by
    cases h with
    | cons h1 h2 => cases h1; rw [dqs_key h2]; rfl
theorem key_dqs {K : PySem.W.Frag} {B : Hp} : ∀ (k : List Key), DqAll K B (k.map kV) (k.map kD)
  | [] => .nil
  | .inl i :: k => .cons (.int i) (key_dqs k)
  | .inr i :: k => .cons (.str i) (key_dqs k)
section
variable {κ : Type} [DecidableEq κ]
def valA (kvs : List (κ × AV)) (k : κ) : Option AV := (kvs.find? fun kv => decide (kv.1 = k)).map (·.2)
def putA (kvs : List (κ × AV)) (k : κ) (v : AV) : List (κ × AV) :=
  if (kvs.any fun kv => decide (kv.1 = k)) = true then kvs.map (fun kv => if kv.1 = k then (kv.1, v) else kv) else kvs ++ [(k, v)]
abbrev PrA (K : PySem.W.Frag) (B : Hp) : List (κ × AV) → List (κ × V) → Prop := Paired (fun p q => p.1 = q.1 ∧ RepV K B p.2 q.2)
theorem pra_val {K : PySem.W.Frag} {B : Hp} {kvs : List (κ × AV)} {ws : List (κ × V)} (r : PrA K B kvs ws) (k : κ) : (∀ a, valA kvs k = some a → ∃ u, valV ws k = some u ∧ RepV K B a u) ∧ (valV ws k).isSome = (valA kvs k).isSome := by
  induction r with
  | nil => exact ⟨fun a h => (by cases h), rfl⟩
  | @cons p q ps qs h t ih =>
    by_cases e : p.1 = k
    · have e2 : q.1 = k := h.1 ▸ e
      have g1 : valA (p :: ps) k = some p.2 := by simp [valA, List.find?_cons, e]
      rw [valV_pos e2, g1]
      exact ⟨fun a h2 => by cases h2; exact ⟨_, rfl, h.2⟩, rfl⟩
    · have e2 : ¬ q.1 = k := h.1 ▸ e
      have g1 : valA (p :: ps) k = valA ps k := by simp [valA, List.find?_cons, e]
      rw [valV_neg e2, g1]
      exact ih
theorem pra_any {K : PySem.W.Frag} {B : Hp} {kvs : List (κ × AV)} {ws : List (κ × V)} (r : PrA K B kvs ws) (k : κ) : (kvs.any fun kv => decide (kv.1 = k)) = ws.any fun kv => decide (kv.1 = k) := by
  induction r with
  | nil => rfl
  | @cons p q ps qs h t ih => rw [List.any_cons, List.any_cons, ih, h.1]
theorem pra_map {K : PySem.W.Frag} {B : Hp} {kvs : List (κ × AV)} {ws : List (κ × V)} (k : κ) {a : AV} {u : V} (ra : RepV K B a u) (r : PrA K B kvs ws) : PrA K B (kvs.map fun kv => if kv.1 = k then (kv.1, a) else kv) (ws.map fun kv => if kv.1 = k then (kv.1, u) else kv) := by
  induction r with
  | nil => exact .nil
  | @cons p q ps qs h t ih =>
    refine .cons ?_ ih
    dsimp only
    by_cases e : p.1 = k
    · have e2 : q.1 = k := h.1 ▸ e
      rw [if_pos e, if_pos e2]
      exact ⟨h.1, ra⟩
    · have e2 : ¬ q.1 = k := h.1 ▸ e
      rw [if_neg e, if_neg e2]
      exact h
theorem pra_put {K : PySem.W.Frag} {B : Hp} {kvs : List (κ × AV)} {ws : List (κ × V)} (r : PrA K B kvs ws) (k : κ) {a : AV} {u : V} (ra : RepV K B a u) : PrA K B (putA kvs k a) (putK ws k u) := by
  unfold putA putK
  rw [pra_any r k]
  by_cases h : (ws.any fun kv => decide (kv.1 = k)) = true
  · rw [if_pos h, if_pos h]
    exact pra_map k ra r
  · rw [if_neg h, if_neg h]
    exact r.snoc ⟨rfl, ra⟩
end
theorem Wd.dT {K : PySem.W.Frag} {T : List Addr} {B : Hp} {O : Own} {H : Hp} {p : Addr} {kvs : List (List Key × AV)} (w : Wd K T B O H) (h : O p = some (.dT kvs)) : ∃ ws, H p = some (.dT ws) ∧ PrA K B kvs ws := by
  obtain ⟨_, o, h2, ws, rfl, h3⟩ := w.own p _ h
  exact ⟨ws, h2, h3⟩
theorem rep_key {K : PySem.W.Frag} {T : List Addr} {B : Hp} {O : Own} {H : Hp} (w : Wd K T B O H) {k : List Key} {u : V} (r : RepV K B (.p (k.map kD)) u) : ∃ b, u = .ref b ∧ H b = some (.tup (k.map kV)) := by
  obtain ⟨a, xs, rfl, h, d⟩ := r
  exact ⟨_, rfl, by rw [← dqs_key d]; exact w.ex _ _ h⟩
section
variable {c : Cb} {ps : Sl} {O : Own} {Φ : Af} {A : AEnds} {tk tv td te : TE} {p : Addr} {kvs : List (List Key × AV)} {k : List Key}
theorem ev_disp1T (h : ∀ p, O p = none → EvW c tk ps (updO O p (.dT [])) fun x O1 => ∃ k : List Key, x = .p (k.map kD) ∧ EvW c tv ps O1 fun y O2 => O2 p = some (.dT []) ∧ Φ (.v (.ref p)) (updO O2 p (.dT [(k, y)]))) : EvW c (tDisp1T tk tv) ps O Φ := by
  intro B σ H s w m Q q p hp
  have w0 : Wd c.K c.T B (updO O p (.dT [])) (upd H p (.dT [])) := w.new hp ⟨[], rfl, .nil⟩
  refine h p (w.freeO hp) B σ _ s w0 m _ fun x O1 B1 u H1 ⟨k, ex, k1⟩ e1 w1 r1 => ?_
  refine k1 B1 σ H1 (s.up e1) w1 (c.mono _ _ e1 m) _ fun y O2 B2 v H2 ⟨hO, k2⟩ e2 w2 r2 => ?_
  subst ex
  obtain ⟨b, rfl, hb⟩ := rep_key w1 r1
  obtain ⟨b', eb, hb'⟩ := rep_key w2 (e2.rep r1)
  cases eb
  obtain ⟨ws, hw, pr⟩ := w2.dT hO
  cases pr
  exact ⟨b, k, rfl, hw, hb', q _ _ B2 _ _ k2 (e1.trans e2) (w2.put hO ⟨[(k, v)], rfl, .cons ⟨rfl, r2⟩ .nil⟩) rfl⟩
theorem ow_dInT {B : Bool} (hp : O p = some (.dT kvs)) (hk : Φ (.d (.bool (valA kvs k).isSome)) O) : opW c rDIn (.p (k.map kD)) (.v (.ref p)) O Φ := fun B H u v ru rv w Q q => by
  cases rv
  obtain ⟨b, rfl, hb⟩ := rep_key w ru
  obtain ⟨ws, hw, pr⟩ := w.dT hp
  exact ⟨p, _, rfl, DGet.t hw hb, q _ O B _ H hk (Ext.refl B) w (by rw [(pra_val pr k).2]; exact .bl _)⟩
theorem ow_dNotInT (hp : O p = some (.dT kvs)) (hk : Φ (.d (.bool (!(valA kvs k).isSome))) O) : opW c rDNotIn (.p (k.map kD)) (.v (.ref p)) O Φ := fun B H u v ru rv w Q q => by
  cases rv
  obtain ⟨b, rfl, hb⟩ := rep_key w ru
  obtain ⟨ws, hw, pr⟩ := w.dT hp
  exact ⟨p, _, rfl, DGet.t hw hb, q _ O B _ H hk (Ext.refl B) w (by rw [(pra_val pr k).2]; exact .bl _)⟩
theorem ow_dIxT {a : AV} (hp : O p = some (.dT kvs)) (ha : valA kvs k = some a) (hk : Φ a O) : opW c rDIx (.v (.ref p)) (.p (k.map kD)) O Φ := fun B H u v ru rv w Q q => by
  cases ru
  obtain ⟨b, rfl, hb⟩ := rep_key w rv
  obtain ⟨ws, hw, pr⟩ := w.dT hp
  obtain ⟨z, h1, h2⟩ := (pra_val pr k).1 a ha
  exact ⟨p, z, rfl, by have g := DGet.t (k := k) hw hb; rw [h1] at g; exact g, q _ O B _ H hk (Ext.refl B) w h2⟩
theorem st_dput (h : EvW c tv ps O fun a O1 => EvW c td ps O1 fun x O2 => EvW c tk ps O2 fun y O3 => ∃ p kvs k, x = .v (.ref p) ∧ y = .p (List.map kD k) ∧ O3 p = some (.dT kvs) ∧ kvs.length < sizeLine ∧ A.nx ps (updO O3 p (.dT (putA kvs k a)))) : StW c (sDPut td tk tv) ps O A := by
  intro B σ H D s w m d
  refine h B σ H s w m _ fun a O1 B1 u H1 k1 e1 w1 r1 => ?_
  refine k1 B1 σ H1 (s.up e1) w1 (c.mono _ _ e1 m) _ fun x O2 B2 v H2 k2 e2 w2 r2 => ?_
  have e12 := e1.trans e2
  refine k2 B2 σ H2 (s.up e12) w2 (c.mono _ _ e12 m) _ fun y O3 B3 z H3 ⟨p, kvs, k, ex, ey, hO, hl, k3⟩ e3 w3 r3 => ?_
  subst ex ey
  cases r2
  obtain ⟨b, rfl, hb⟩ := rep_key w3 r3
  obtain ⟨ws, hw, pr⟩ := w3.dT hO
  refine ⟨p, _, rfl, DPut.t hw hb (by rw [← Paired.length pr]; exact hl), d.nx _ _ B3 σ _ k3 (e12.trans e3) (s.up (e12.trans e3)) (w3.put hO ⟨_, rfl, pra_put pr k ((e2.trans e3).rep r1)⟩)⟩
end
/-! list(d) -/
def rListD : List V → Hp → VK → Prop := fun xs H Q => ∃ d kvs, xs = [V.ref d] ∧ Rd H d (.dT kvs) ∧ ∀ p bs, H p = none → IsKeys H kvs bs → Q (.ref p) (upd H p (.lst (bs.map V.ref)))
theorem call_listD {X : Cx} (hc : X.calm = true) : CallR X (.type "list") rListD := call_list_dT hc
/-- a tuple that stands is data -/
theorem Wd.grow {K : PySem.W.Frag} {T : List Addr} {B : Hp} {O : Own} {H : Hp} {b : Addr} {xs : List V} (w : Wd K T B O H) (h : H b = some (.tup xs)) : ∃ B', Ext B B' ∧ Wd K T B' O H ∧ B' b = some (.tup xs) := by
  cases hB : B b with
  | some o =>
    have e := w.ex b o hB
    rw [h] at e; cases e
    exact ⟨B, Ext.refl B, w, hB⟩
  | none =>
    have e : Ext B (upd B b (.tup xs)) := Ext.up hB
    refine ⟨_, e, ⟨fun a u z => ?_, fun q ao z => ?_, fun q z => ?_⟩, upd_same⟩
    · by_cases n : a = b
      · subst n; rw [upd_same] at z; cases z; exact h
      · rw [upd_ne n] at z; exact w.ex a u z
    · obtain ⟨h1, u, h2, h3⟩ := w.own q ao z
      have n : q ≠ b := fun y => by
        rw [y, h] at h2; cases h2
        cases ao with
        | lst l => obtain ⟨_, y, _⟩ := h3; cases y
        | dK l => obtain ⟨_, y, _⟩ := h3; cases y
        | dT l => obtain ⟨_, y, _⟩ := h3; cases y
      exact ⟨by rw [upd_ne n]; exact h1, u, h2, e.repO h3⟩
    · obtain ⟨h1, h2, qs, h3, h4⟩ := w.tab q z
      have n : q ≠ b := fun y => by rw [y, h] at h3; cases h3
      exact ⟨by rw [upd_ne n]; exact h1, h2, qs, h3, h4⟩
theorem Wd.keys {K : PySem.W.Frag} {T : List Addr} {O : Own} {H : Hp} : ∀ {kvs : List (List Key × V)} {bs : List Addr} {B : Hp}, Wd K T B O H → IsKeys H kvs bs → ∃ B', Ext B B' ∧ Wd K T B' O H ∧ DqAll K B' (bs.map V.ref) (kvs.map fun kv => .tuple (kv.1.map kD))
  | _, _, B, w, .nil => ⟨B, Ext.refl B, w, .nil⟩
  | _, _, B, w, .cons h t => by
    obtain ⟨B1, e1, w1, h1⟩ := w.grow h
    obtain ⟨B2, e2, w2, h2⟩ := Wd.keys w1 t
    exact ⟨B2, e1.trans e2, w2, .cons (.tup (.inl (e2 _ _ h1)) (key_dqs _)) h2⟩
section
variable {c : Cb} {O : Own} {Φ : Af} {p : Addr} {kvs : List (List Key × AV)}
theorem cw_listD (hp : O p = some (.dT kvs)) (k : Φ (.d (.list (kvs.map fun kv => .tuple (kv.1.map kD)))) O) : calW c rListD [.v (.ref p)] O Φ := fun B H us r w Q q => by
  obtain ⟨u, rfl, ru⟩ := rv1 r
  cases ru
  obtain ⟨ws, hw, pr⟩ := w.dT hp
  refine ⟨p, ws, rfl, .inl hw, fun z bs hz hk => ?_⟩
  obtain ⟨B1, e1, w1, d1⟩ := w.keys hk
  obtain ⟨e2, w2, d2⟩ := newL w1 hz d1
  have ek : (ws.map fun kv => PyData.tuple (kv.1.map kD)) = kvs.map fun kv => .tuple (kv.1.map kD) := by
    clear hw hk w1 d1 e1 e2 w2 d2 hp k q
    induction pr with
    | nil => rfl
    | cons h t ih => rw [List.map_cons, List.map_cons, ih, h.1]
  rw [ek] at d2
  exact q _ O _ _ _ k (e1.trans e2) w2 d2
end
end BL

set_option Elab.async false
set_option linter.all false
set_option maxRecDepth 100000
set_option maxHeartbeats 4000000
namespace BL
open PySem PySem.Spec PyProof.Rows L2
theorem tuple_mul1 (l : Addr) (items : Array Value) (n : Nat) (dd : Option Addr) (sl : Array (Option Value)) (u : Tok) :
    Meets (Builtin.«tuple.__mul__» ⟨[.ref l, .int 1 u], []⟩) (fun _ R s => s.heap.get? l = some { cls := .type "tuple", dict := dd, data := .seq items n, slots := sl } ∧ R (.ok (.ret (Value.ref l))) s) :=
  .of_wp fun prog w A R s h => by
    obtain ⟨hp, g, d, tk, os⟩ := s
    obtain ⟨hl, h⟩ := h
    have f1 := AutoSeq1.idx_int
    have c1 : (items.isEmpty || (1 : Int) == 1) = true := by simp
    wp_walk using wpAny_loadPart' hl
    exact ⟨_, rfl, h⟩
def rRepT1 (K : PySem.W.Frag) : R2 := fun x y H Q => ∃ l xs, x = .ref l ∧ y = .int 1 ∧ SqT K H l xs ∧ Q (.ref l) H
section
variable {X : Cx}
theorem op_repT1 : OpR X (binaryOp .Mult) (rRepT1 X.K) := by
  intro pins s σ H x y v u Q I rx ry h
  obtain ⟨l, xs, rfl, rfl, hT, q⟩ := h
  cases rx
  obtain ⟨t, rfl⟩ := ry
  obtain ⟨its, r, ⟨⟨cls, dd, data, sl⟩, ho, hc, n, hd⟩, hs⟩ := I.tuple hT
  simp only at hc hd
  subst hc hd
  refine wpAny_binaryOp_repeat_ref (T := "tuple") (U := "int") (by decide) ⟨_, ho, rfl⟩ (fun s' => typeIs_int s' 1 t) noFill_tuple_mul F.fills_int_mul F.slot_int_rmul repeat_tuple F.slot_int_index.lookup
    (call_meets F.slot_int_rmul (typeIs_int s 1 t) F.entry_int_rmul (F.args_int_rmul_2 _ _) (int_rmul_tuple 1 t l its.toArray n dd sl)
      ⟨ho, rfl, ⟨_, ho, rfl⟩, call_meets F.slot_tuple_mul ⟨_, ho, rfl⟩ F.entry_tuple_mul (F.args_tuple_mul_2 _ _) (tuple_mul1 l its.toArray n dd sl t) ⟨ho, ?_⟩⟩)
  exact ⟨.ref l, H, I, rfl, q⟩
end
/-! ## readings for several kinds -/
def rMulB (K : PySem.W.Frag) : R2 := orR (rMulA K) (orR (rRepT1 K) (rI CMul fun i j => .int (i * j)))
def rInB (K : PySem.W.Frag) : R2 := orR (rIn K false) rDIn
def rNinB (K : PySem.W.Frag) : R2 := orR (rIn K true) rDNotIn
def rIxB (K : PySem.W.Frag) : R2 := orR (rIx K) rDIx
def rSlB (K : PySem.W.Frag) : V → Option Int → Option Int → Hp → VK → Prop := orS rSlStr (orS (rSlT K) (rSlL K))
def rTupB (K : PySem.W.Frag) : List V → Hp → VK → Prop := fun xs H Q => ∃ p ys, xs = [.ref p] ∧ ((SqL K H p ys ∧ ∀ l, H l = none → Q (.ref l) (upd H l (.tup ys))) ∨ (SqT K H p ys ∧ Q (.ref p) H))
section
variable {X : Cx}
theorem mulB (K : PySem.W.Frag) (h : X.K = K) : OpR X (binaryOp .Mult) (rMulB K) := h ▸ OpR.or op_mulA (OpR.or op_repT1 op_mul)
theorem inB (K : PySem.W.Frag) (h : X.K = K) {k : Nat} (r : Room k X.A) : OpR X (compareOp .In) (rInB K) := h ▸ OpR.or op_in_seq (op_din (by have := r.un; omega))
theorem ninB (K : PySem.W.Frag) (h : X.K = K) {k : Nat} (r : Room k X.A) : OpR X (compareOp .NotIn) (rNinB K) := h ▸ OpR.or op_notIn_seq (op_dnotin (by have := r.un; omega))
theorem ixB (K : PySem.W.Frag) (h : X.K = K) {k : Nat} (r : Room k X.A) : IxR X (rIxB K) := h ▸ IxR.or ix_seq (ix_dict (by have := r.un; omega))
theorem slB (K : PySem.W.Frag) (h : X.K = K) : SlR X (rSlB K) := h ▸ SlR.or C8.sl_txt (SlR.or sl_tup sl_list)
theorem tupB (K : PySem.W.Frag) (h : X.K = K) : CallR X (.type "tuple") (rTupB K) := h ▸ call_tuple_of
end
section
variable {c : Cb} {O : Own} {Φ : Af}
theorem ow_mulBI {i j : Int} (hc : CMulW i j) (k : Φ (.d (.int (i * j))) O) : opW c (rMulB c.K) (.d (.int i)) (.d (.int j)) O Φ := ow_l (ow_mulI hc k)
theorem ow_mulBS {i j : Int} (hc : CMul i j) (k : Φ (.d (.int (i * j))) O) : opW c (rMulB c.K) (.d (.int i)) (.d (.int j)) O Φ := ow_r (ow_r (ow_I hc k))
theorem ow_mulBL {l : List PyData} {n : Int} (h1 : -(2 ^ 63) ≤ n) (h2 : n < 2 ^ 63) (hl : l.length * n.toNat ≤ sizeLine) (k : Φ (.d (.list (List.replicate n.toNat l).flatten)) O) : opW c (rMulB c.K) (.d (.list l)) (.d (.int n)) O Φ := ow_l (ow_mulL h1 h2 hl k)
theorem ow_mulBT {l : List PyData} {n : Int} (h0 : l ≠ []) (h1 : 1 ≤ n) (h2 : n ≤ 1000) (hl : l.length ≤ 1000) (k : Φ (.d (.tuple (List.replicate n.toNat l).flatten)) O) : opW c (rMulB c.K) (.d (.tuple l)) (.d (.int n)) O Φ := fun B H u v ru rv w Q q => by
  cases rv
  cases ru with
  | tup g d =>
    have g2 := w.ex.rd g
    by_cases e : n = 1
    · subst e
      refine .inr (.inl ⟨_, _, rfl, rfl, (.inl g2), q _ O B _ H k (Ext.refl B) w ?_⟩)
      have e2 : (List.replicate (1 : Int).toNat l).flatten = l := by simp
      rw [e2]
      exact .tup g d
    · refine .inl (.inr (.inr ⟨_, n, _, rfl, rfl, .inl g2, fun z => h0 ?_, by omega, h2, by rw [dqs_len d]; exact hl, fun p hp => ?_⟩))
      · have := dqs_len d
        rw [z] at this
        exact List.eq_nil_of_length_eq_zero this.symm
      · obtain ⟨e1, w1, d1⟩ := newT w hp (dqs_rep d n.toNat)
        exact q _ O _ _ _ k e1 w1 d1
theorem dqs_ints {K : PySem.W.Frag} {B : Hp} : ∀ {ns : List Int} {xs : List V}, DqAll K B xs (ns.map .int) → xs = ns.map V.int
  | [], _, h => by cases h; rfl
  | i :: k, _, h => by
    cases h with
    | cons h1 h2 => cases h1; rw [dqs_ints h2]; rfl
theorem inV_ints (n : Int) : ∀ ns : List Int, inV (.int n) (ns.map V.int) = decide (n ∈ ns)
  | [] => rfl
  | m :: ns => by
    have ih := inV_ints n ns
    unfold inV at ih ⊢
    rw [List.map_cons, List.any_cons, ih]
    show ((m == n) || decide (n ∈ ns)) = _
    by_cases e : m = n
    · subst e; simp
    · have e2 : ¬ n = m := fun z => e z.symm
      simp [e, e2]
theorem flat_ints : ∀ ns : List Int, (ns.map V.int).all flatV = true
  | [] => rfl
  | m :: ns => by rw [List.map_cons, List.all_cons, flat_ints ns]; rfl
theorem ow_inTI {n : Int} {ns : List Int} (k : Φ (.d (.bool (decide (n ∈ ns)))) O) : opW c (rInB c.K) (.d (.int n)) (.d (.tuple (ns.map .int))) O Φ := ow_l fun B H u v ru rv w Q q => by
  cases ru
  cases rv with
  | tup g d =>
    have e := dqs_ints d
    subst e
    refine ⟨_, _, rfl, .inr (.inl (w.ex.rd g)), rfl, flat_ints ns, ?_⟩
    rw [if_neg Bool.false_ne_true, inV_ints]
    exact q _ O B _ H k (Ext.refl B) w (.bl _)
theorem ow_ninTI {n : Int} {ns : List Int} (k : Φ (.d (.bool (!decide (n ∈ ns)))) O) : opW c (rNinB c.K) (.d (.int n)) (.d (.tuple (ns.map .int))) O Φ := ow_l fun B H u v ru rv w Q q => by
  cases ru
  cases rv with
  | tup g d =>
    have e := dqs_ints d
    subst e
    refine ⟨_, _, rfl, .inr (.inl (w.ex.rd g)), rfl, flat_ints ns, ?_⟩
    rw [if_pos rfl, inV_ints]
    exact q _ O B _ H k (Ext.refl B) w (.bl _)
/-- a slice of a list of data -/
def cutD (xs : List PyData) (lo hi : Option Int) : List PyData := (xs.drop (HT.sIx xs.length 0 lo)).take (HT.sIx xs.length xs.length hi - HT.sIx xs.length 0 lo)
theorem dqs_drop {K : PySem.W.Frag} {B : Hp} : ∀ {l : List PyData} {vs : List V} (n : Nat), DqAll K B vs l → DqAll K B (vs.drop n) (l.drop n)
  | _, _, 0, h => by rw [List.drop_zero, List.drop_zero]; exact h
  | [], _, n + 1, h => by cases h; exact .nil
  | d :: l, _, n + 1, h => by
    cases h with
    | cons h1 h2 => exact dqs_drop n h2
theorem dqs_take {K : PySem.W.Frag} {B : Hp} : ∀ {l : List PyData} {vs : List V} (n : Nat), DqAll K B vs l → DqAll K B (vs.take n) (l.take n)
  | _, _, 0, h => by rw [List.take_zero, List.take_zero]; exact .nil
  | [], _, n + 1, h => by cases h; exact .nil
  | d :: l, _, n + 1, h => by
    cases h with
    | cons h1 h2 => exact .cons h1 (dqs_take n h2)
theorem dqs_cut {K : PySem.W.Frag} {B : Hp} {l : List PyData} {vs : List V} (h : DqAll K B vs l) (lo hi : Option Int) : DqAll K B (cutV vs lo hi) (cutD l lo hi) := by
  unfold cutV cutD
  rw [dqs_len h]
  exact dqs_take _ (dqs_drop _ h)
theorem sw_tup {l : List PyData} {lo hi : Option Int} (hn : ¬ (HT.sIx l.length 0 lo = 0 ∧ HT.sIx l.length l.length hi = l.length)) (k : Φ (.d (.tuple (cutD l lo hi))) O) : slW c (rSlB c.K) (.d (.tuple l)) lo hi O Φ := sw_r (sw_l fun B H u r w Q q => by
  cases r with
  | tup g d =>
    refine ⟨_, _, rfl, .inl (w.ex.rd g), by rw [dqs_len d]; exact hn, fun p hp => ?_⟩
    obtain ⟨e1, w1, d1⟩ := newT w hp (dqs_cut d lo hi)
    exact q _ O _ _ _ k e1 w1 d1)
theorem sw_lst {l : List PyData} {lo hi : Option Int} (k : Φ (.d (.list (cutD l lo hi))) O) : slW c (rSlB c.K) (.d (.list l)) lo hi O Φ := sw_r (sw_r fun B H u r w Q q => by
  cases r with
  | lst g d =>
    refine ⟨_, _, rfl, .inl (.inl (w.ex _ _ g)), fun p hp => ?_⟩
    obtain ⟨e1, w1, d1⟩ := newL w hp (dqs_cut d lo hi)
    exact q _ O _ _ _ k e1 w1 d1)
theorem cw_tupL {l : List PyData} (k : Φ (.d (.tuple l)) O) : calW c (rTupB c.K) [.d (.list l)] O Φ := fun B H us r w Q q => by
  obtain ⟨u, rfl, ru⟩ := rv1 r
  cases ru with
  | lst g d =>
    refine ⟨_, _, rfl, .inl ⟨.inl (.inl (w.ex _ _ g)), fun p hp => ?_⟩⟩
    obtain ⟨e1, w1, d1⟩ := newT w hp d
    exact q _ O _ _ _ k e1 w1 d1
theorem ow_ixBL {l : List PyData} {i : Int} {d : PyData} (e : atI l i = some d) (k : Φ (.d d) O) : opW c (rIxB c.K) (.d (.list l)) (.d (.int i)) O Φ := ow_l (ow_ixL e k)
theorem ow_ixBT {l : List PyData} {i : Int} {d : PyData} (e : atI l i = some d) (k : Φ (.d d) O) : opW c (rIxB c.K) (.d (.tuple l)) (.d (.int i)) O Φ := ow_l (ow_ixT e k)
theorem ow_ixBO {p : Addr} {l : List AV} {i : Int} {d : AV} (hp : O p = some (.lst l)) (e : atI l i = some d) (k : Φ d O) : opW c (rIxB c.K) (.v (.ref p)) (.d (.int i)) O Φ := ow_l (ow_ixO hp e k)
theorem ow_ixBScr {ns : List Int} {i n : Int} (e : atI ns i = some n) (k : Φ (.d (.int n)) O) : opW c (rIxB c.K) (.s ns) (.d (.int i)) O Φ := ow_l (ow_ixScr e k)
theorem ow_ixBD {a : AV} {p : Addr} {kvs : List (List Key × AV)} {k : List Key} (hp : O p = some (.dT kvs)) (ha : valA kvs k = some a) (hk : Φ a O) : opW c (rIxB c.K) (.v (.ref p)) (.p (k.map kD)) O Φ := ow_r (ow_dIxT hp ha hk)
theorem ow_inBD {p : Addr} {kvs : List (List Key × AV)} {k : List Key} (hp : O p = some (.dT kvs)) (hk : Φ (.d (.bool (valA kvs k).isSome)) O) : opW c (rInB c.K) (.p (k.map kD)) (.v (.ref p)) O Φ := ow_r (ow_dInT (B := true) hp hk)
theorem ow_ninBD {p : Addr} {kvs : List (List Key × AV)} {k : List Key} (hp : O p = some (.dT kvs)) (hk : Φ (.d (.bool (!(valA kvs k).isSome))) O) : opW c (rNinB c.K) (.p (k.map kD)) (.v (.ref p)) O Φ := ow_r (ow_dNotInT hp hk)
end
end BL

set_option Elab.async false
set_option linter.all false
set_option maxRecDepth 100000
set_option maxHeartbeats 4000000
namespace BL
open PySem PySem.Spec PyProof.Rows L2
section
variable {prog : Program} {w : World} {A : Around} {E : Value → Shared → Prop} {s : Shared}
theorem tups_tot {vs : List Value} {d : Nat} {B : Int} (x : TS.TupsOk s.heap d B vs) : Srt.Tot prog w A s (tuples' true) (fun p => p.1 ∈ vs) := by
  intro p q hm hm'
  obtain ⟨ns, ⟨a, xs, e1, ⟨o, ho, hc, n, hdt⟩, i⟩, lp, bp⟩ := x _ hm
  obtain ⟨ms, ⟨a', ys, e2, ⟨o', ho', hc', n', hdt'⟩, i'⟩, lq, bq⟩ := x _ hm'
  rw [e1, e2]
  refine ⟨decide (TS.code B ns < TS.code B ms), PySem.W.kat_lt ho hdt ho' hdt' ?_⟩
  have sz : decide (xs.size < ys.size) = false := by
    have l1 := i.length
    have l2 := i'.length
    rw [Array.length_toList] at l1 l2
    exact decide_eq_false (by omega)
  rw [sz]
  exact TS.lex_ints 0 i i' (by omega) bp bq ⟨rfl, rfl⟩
theorem tups_sortable {a : Addr} {vs : List Value} {d : Nat} {B : Int} (h1 : 1 ≤ d) (h2 : 2 ≤ vs.length) (x : TS.TupsOk s.heap d B vs) (ha : ∀ o, s.heap.get? a = some o → o.cls ≠ .type "tuple") : Srt.Sortable prog w A s a vs := by
  intro h' keep
  have x' : TS.TupsOk h' d B vs := x.keeps fun b o e c => keep b o (fun z => by subst z; exact ha o e c) e
  obtain ⟨fs, k, hl, hi⟩ := TS.firsts_of h1 vs x'
  refine ⟨tuples' true, fun Q E hq => ?_, tups_tot x'⟩
  refine PySem.W.kat_kind (T := .type "int") k (by omega) (fun f hm => ?_) (by rfl) ?_
  · obtain ⟨m, t, rfl⟩ := hi f hm
    exact PySem.W.Looks.now
  · have e : (Value.type "int" != Value.type "tuple") = true := by first | decide +kernel | rfl | decide
    rw [e]
    exact hq
end

/-- sorted(xs), tuples of d ints in [0, B), any number of them: the same ones in some order -/
def rSortTA (K : PySem.W.Frag) : List V → Hp → VK → Prop := fun vs H Q => ∃ (a : Addr) (xs : List V) (d : Nat) (B : Int), vs = [V.ref a] ∧ SqL K H a xs ∧ 1 ≤ d ∧ (∀ x ∈ xs, ∃ ns, TupI K H x ns ∧ ns.length = d ∧ TS.Bd B ns) ∧
  ∀ (ys : List V) (p : Addr), ys.Perm xs → H p = none → Q (.ref p) (upd H p (.lst ys))
theorem cr_sortTA {X : Cx} (K : PySem.W.Frag) (h : X.K = K) : CallR X (.builtin "sorted") (rSortTA K) := by
  subst h
  intro pins s σ H vs us Q I r h
  obtain ⟨a, xs, d, B, rfl, hs, hd, hx, q⟩ := h
  obtain ⟨its, rv, hl, hz⟩ := I.list hs
  rw [Vals.ref1 r]
  obtain ⟨e1, e2⟩ := bkV_refs rv fun x m => by
    obtain ⟨ns, ⟨t, e, _⟩, _⟩ := hx x m
    exact ⟨t, e⟩
  have hT : TS.TupsOk s.heap d B its := fun v hv => by
    obtain ⟨t, rfl⟩ := e2 v hv
    have hm : V.ref t ∈ xs := by
      rw [e1]
      exact List.mem_map.mpr ⟨_, hv, rfl⟩
    obtain ⟨ns, ⟨t', e, ht⟩, hn, hb⟩ := hx _ hm
    cases e
    exact ⟨ns, tupI_raw I ht, hn, hb⟩
  refine Srt.sorted_any hl.isList (by rw [← rv.length]; exact hz) (fun h2 h₁ a' ha k => ?_) fun out ho => ?_
  · refine tups_sortable (s := { s with heap := h₁ }) hd h2 (hT.keeps fun b o e _ => (k b o e).2) fun o e => ?_
    have e' : some o = some (seqObj "list" its.toArray 0) := e.symm.trans ha
    cases e'
    intro c
    exact absurd (Value.type.inj c) (by decide)
  · obtain ⟨ep, he'⟩ := PyProof.Rows.sortedAll_at s.heap its out.toArray
    have h3 : ∀ u ∈ out, ∃ a, u = Value.ref a := fun u hu => e2 u (ho.mem_iff.mp hu)
    have hp : (out.map bkV).Perm xs := by
      rw [e1]
      exact ho.map bkV
    have hlen : (out.map bkV).length ≤ sizeLine := by
      rw [hp.length_eq]
      exact hz
    exact ⟨.ref _, upd H (s.heap.objs.size + 1) (.lst (out.map bkV)), I.laid (t' := s.toks) (fun _ _ => PyProof.Rows.sortedAll_old) (Nat.le_succ _) ⟨hlen, out, ep, bkV_vals h3, he'⟩, rfl, q _ _ hp (I.hok.fresh (Nat.le_succ _))⟩
theorem dqs_perm {K : PySem.W.Frag} {B : Hp} {ys xs : List V} (p : ys.Perm xs) : ∀ {ds : List PyData}, DqAll K B xs ds → ∃ es, es.Perm ds ∧ DqAll K B ys es := by
  induction p with
  | nil => exact fun {ds} h => by cases h; exact ⟨[], .nil, .nil⟩
  | cons x p ih =>
    intro ds h
    cases h with
    | cons h1 h2 =>
      obtain ⟨es, q, h3⟩ := ih h2
      exact ⟨_, q.cons _, .cons h1 h3⟩
  | swap x y l =>
    intro ds h
    cases h with
    | cons h1 h2 =>
      cases h2 with
      | cons h2 h3 => exact ⟨_, List.Perm.swap .., .cons h2 (.cons h1 h3)⟩
  | trans p1 p2 ih1 ih2 =>
    intro ds h
    obtain ⟨es, q, h3⟩ := ih2 h
    obtain ⟨fs, q2, h4⟩ := ih1 h3
    exact ⟨fs, q2.trans q, h4⟩
section
variable {c : Cb} {O : Own} {Φ : Af}
theorem dqs_mem {K : PySem.W.Frag} {B : Hp} : ∀ {xs : List V} {ds : List PyData}, DqAll K B xs ds → ∀ x ∈ xs, ∃ d ∈ ds, Dq K B x d
  | _, _, .nil, x, h => by cases h
  | _, _, .cons h1 h2, x, h => by
    rcases List.mem_cons.mp h with rfl | h
    · exact ⟨_, List.mem_cons_self, h1⟩
    · obtain ⟨d, hd, h3⟩ := dqs_mem h2 x h
      exact ⟨d, List.mem_cons_of_mem _ hd, h3⟩
theorem cw_sortT {l : List PyData} {d : Nat} {B : Int} (hd : 1 ≤ d) (hl : ∀ x ∈ l, ∃ ns : List Int, x = .tuple (ns.map .int) ∧ ns.length = d ∧ ∀ m ∈ ns, 0 ≤ m ∧ m < B) (k : ∀ es : List PyData, es.Perm l → Φ (.d (.list es)) O) : calW c (rSortTA c.K) [.d (.list l)] O Φ := fun Bh H us r w Q q => by
  obtain ⟨u, rfl, ru⟩ := rv1 r
  cases ru with
  | lst g dd =>
    refine ⟨_, _, d, B, rfl, .inl (.inl (w.ex _ _ g)), hd, fun x hx => ?_, fun ys p hp hf => ?_⟩
    · obtain ⟨e, he, h3⟩ := dqs_mem dd x hx
      obtain ⟨ns, rfl, hn, hb⟩ := hl e he
      cases h3 with
      | tup g2 d2 => exact ⟨ns, ⟨_, rfl, by rw [← dqs_ints d2]; exact .inl (w.ex.rd g2)⟩, hn, hb⟩
    · obtain ⟨es, pe, de⟩ := dqs_perm hp dd
      obtain ⟨e1, w1, d1⟩ := newL w hf de
      exact q _ O _ _ _ (k es pe) e1 w1 d1
end
end BL

set_option Elab.async false
set_option linter.all false
set_option maxRecDepth 100000
set_option maxHeartbeats 4000000
namespace BL
open PySem PySem.Spec PyProof.Rows L2
section
variable {c : Cb} {ps : Sl} {O : Own} {te : TE} {tt tt1 : TT} {g g1 : TG} {wi wi1 : TI} {vs vs1 : List Nat} {Φ : Af}
/-- a comprehension of two clauses -/
theorem ev_lc2 (h : IsW c wi ps O fun s O1 => ∃ I : Nat → List AV → Own → Prop, I 0 [] O1 ∧
    (∀ p i acc O', i ≤ s.n → I i acc O' → O' p = none → s.need (updO O' p (.lst acc))) ∧
    (∀ p i acc O', i < s.n → I i acc O' → O' p = none → GWj c g (s.at_ i) vs (wipeA ps vs) (updO O' p (.lst acc)) fun ps2 O2 => EvTW c tt ps2 O2 fun b O3 => b = true ∧
      IsW c wi1 ps2 O3 fun s1 O4 => ∃ J : Nat → List AV → Own → Prop, (∃ O5, O4 = updO O5 p (.lst acc) ∧ O5 p = none ∧ J 0 acc O5) ∧
        (∀ j acc1 O5, j ≤ s1.n → J j acc1 O5 → O5 p = none → s1.need (updO O5 p (.lst acc1))) ∧
        (∀ j acc1 O5, j < s1.n → J j acc1 O5 → O5 p = none → acc1.length < sizeLine ∧ GWj c g1 (s1.at_ j) vs1 (wipeA ps2 vs1) (updO O5 p (.lst acc1)) fun ps3 O6 => EvTW c tt1 ps3 O6 fun b O7 =>
          if b = true then EvW c te ps3 O7 fun a O8 => ∃ O9, O8 = updO O9 p (.lst acc1) ∧ O9 p = none ∧ J (j + 1) (acc1 ++ [a]) O9 else ∃ O9, O7 = updO O9 p (.lst acc1) ∧ O9 p = none ∧ J (j + 1) acc1 O9) ∧
        (∀ acc1 O5, J s1.n acc1 O5 → O5 p = none → I (i + 1) acc1 O5)) ∧
    (∀ p acc O', I s.n acc O' → O' p = none → (Φ (.v (.ref p)) (updO O' p (.lst acc)) ∨ ∃ l, acc = ds l ∧ Φ (.d (.list l)) O'))) : EvW c (tLc2 wi g tt wi1 g1 tt1 te vs vs1) ps O Φ := by
  intro B σ H s w m Q q
  refine h B σ H s w m _ fun src O1 B1 H1 J ⟨I, i0, hn, hs, hd⟩ e1 w1 ⟨G, Y, wk, hG, hY⟩ p hp => ?_
  have hpO := w1.freeO hp
  refine ⟨fun i m' H' => m' = src.n - i ∧ i ≤ src.n ∧ ∃ acc O' B', I i acc O' ∧ O' p = none ∧ Ext B1 B' ∧ Wd c.K c.T B' (updO O' p (.lst acc)) H', ⟨src.n, by omega, Nat.zero_le _, [], O1, B1, i0, hpO, Ext.refl _, w1.new hp ⟨[], rfl, .nil⟩⟩, ?_⟩
  rintro i m' H' ⟨rfl, hi, acc, O', B', k, hO, e, w'⟩
  have gH := hG B' _ H' e w' (hn p i acc O' hi k hO)
  by_cases hlt : i < src.n
  · refine .inr ⟨wk.goes i H' hlt gH, fun H'' => ∃ acc O' B', I (i + 1) acc O' ∧ O' p = none ∧ Ext B1 B' ∧ Wd c.K c.T B' (updO O' p (.lst acc)) H'', fun H'' z => ⟨src.n - (i + 1), by omega, rfl, hlt, z⟩, fun x H3 y => ?_⟩
    obtain ⟨B2, e2, w2, r2⟩ := hY i H' x H3 B' _ hlt e w' (hn p i acc O' hi k hO) (wk.yields i H' x H3 hlt gH y)
    have eB : Ext B B2 := (e1.trans e).trans e2
    refine hs p i acc O' hlt k hO B2 _ H3 x r2 ((s.up eB).wipe vs) w2 (c.mono _ _ eB m) _ fun ps3 O3 B3 σ3 H4 k3 e3 s3 w3 l3 o3 => ⟨wipe_agree l3 o3, ?_⟩
    refine k3 B3 σ3 H4 s3 w3 (c.mono _ _ (eB.trans e3) m) _ fun b O4 B4 H5 ⟨hb, k4⟩ e4 w4 => ?_
    subst hb
    rw [if_pos rfl]
    have eC : Ext B B4 := (eB.trans e3).trans e4
    refine k4 B4 σ3 H5 (s3.up e4) w4 (c.mono _ _ eC m) _ fun s1 O5 B5 H6 J1 ⟨Jv, ⟨O6, hO6, hp6, j0⟩, jn, js, jd⟩ e5 w5 ⟨G1, Y1, wk1, hG1, hY1⟩ => ?_
    subst hO6
    have eD : Ext B B5 := eC.trans e5
    have eE : Ext B1 B5 := (((e.trans e2).trans e3).trans e4).trans e5
    refine ⟨fun j m' H' => m' = s1.n - j ∧ j ≤ s1.n ∧ ∃ acc O' B', Jv j acc O' ∧ O' p = none ∧ Ext B5 B' ∧ Wd c.K c.T B' (updO O' p (.lst acc)) H', ⟨s1.n, by omega, Nat.zero_le _, acc, O6, B5, j0, hp6, Ext.refl _, w5⟩, ?_⟩
    rintro j m' H7 ⟨rfl, hj, acc1, O7, B7, k7, hO7, e7, w7⟩
    have gH1 := hG1 B7 _ H7 e7 w7 (jn j acc1 O7 hj k7 hO7)
    by_cases hltj : j < s1.n
    · refine .inr ⟨wk1.goes j H7 hltj gH1, fun H'' => ∃ acc O' B', Jv (j + 1) acc O' ∧ O' p = none ∧ Ext B5 B' ∧ Wd c.K c.T B' (updO O' p (.lst acc)) H'', fun H'' z => ⟨s1.n - (j + 1), by omega, rfl, hltj, z⟩, fun x1 H8 y1 => ?_⟩
      obtain ⟨B8, e8, w8, r8⟩ := hY1 j H7 x1 H8 B7 _ hltj e7 w7 (jn j acc1 O7 hj k7 hO7) (wk1.yields j H7 x1 H8 hltj gH1 y1)
      have eF : Ext B B8 := (eD.trans e7).trans e8
      obtain ⟨hz, hg⟩ := js j acc1 O7 hltj k7 hO7
      refine hg B8 _ H8 x1 r8 ((s3.up (((e4.trans e5).trans e7).trans e8)).wipe vs1) w8 (c.mono _ _ eF m) _ fun ps9 O9 B9 σ9 H9 k9 e9 s9 w9 l9 o9 => ⟨wipe_agree l9 o9, ?_⟩
      refine k9 B9 σ9 H9 s9 w9 (c.mono _ _ (eF.trans e9) m) _ fun b1 Oa Ba Ha ka ea wa => ?_
      have eG : Ext B5 Ba := ((e7.trans e8).trans e9).trans ea
      cases b1 with
      | false =>
        obtain ⟨Ob, rfl, hb, kb⟩ := ka
        exact ⟨acc1, Ob, Ba, kb, hb, eG, wa⟩
      | true =>
        refine ka Ba σ9 Ha (s9.up ea) wa (c.mono _ _ ((eF.trans e9).trans ea) m) _ fun a Oc Bc u Hc ⟨Od, hOc, hpd, kd⟩ ec wc rc => ?_
        subst hOc
        obtain ⟨_, o, ho, us, rfl, ra⟩ := wc.own p _ updO_same
        refine ⟨us, ho, by rw [← reps_len ra]; exact hz, acc1 ++ [a], Od, Bc, kd, hpd, eG.trans ec, ?_⟩
        have wf := wc.put (ao := .lst (acc1 ++ [a])) (o := .lst (us ++ [u])) updO_same ⟨_, rfl, reps_app ra rc⟩
        rw [updO_updO] at wf
        exact wf
    · have ej : j = s1.n := by omega
      subst ej
      exact .inl ⟨wk1.stops H7 gH1, acc1, O7, B7, jd acc1 O7 k7 hO7, hO7, eE.trans e7, w7⟩
  · have ei : i = src.n := by omega
    subst ei
    refine .inl ⟨wk.stops H' gH, ?_⟩
    rcases hd p acc O' k hO with k2 | ⟨l, rfl, k2⟩
    · exact q _ _ B' _ H' k2 (e1.trans e) w' rfl
    · obtain ⟨B2, e2, w2, d2⟩ := w'.freeze updO_same
      have ed : delO (updO O' p (.lst (ds l))) p = O' := by
        funext z
        unfold delO
        by_cases hz : z = p
        · rw [if_pos hz, hz, hO]
        · rw [if_neg hz, updO_ne hz]
      rw [ed] at w2
      exact q _ _ B2 _ H' k2 ((e1.trans e).trans e2) w2 d2
end
end BL

set_option Elab.async false
set_option linter.all false
set_option maxRecDepth 100000
set_option maxHeartbeats 4000000
namespace BL
open PySem PySem.Spec PyProof.Rows L2
section
open RT
variable {prog : Program} {w : World} {A : Around} {E : Value → Shared → Prop} {s : Shared}
theorem nolen_rt : typeLookup (.type "reversed") "__len__" = pure none := by rw [typeLookup_type, builtinLookup_eq_fast]; kernel_rfl
theorem slot_rt_hint : Slot "reversed" "__length_hint__" "reversed.__length_hint__" :=
  .of (owner := "reversed") (n := "__length_hint__") (by rw [typeLookup_type, builtinLookup_eq_fast]; kernel_rfl) (by decide +kernel) (by decide +kernel) (by decide +kernel)
    (by first | exact .inl (by decide +kernel) | exact .inr (by decide +kernel)) (by rw [isSubtype_type]; kernel_rfl)
theorem entry_rt_hint : entryFor table "reversed.__length_hint__" = some Builtin.«reversed.__length_hint__» := entryFor_of_tree (by kernel_rfl)
theorem args_rt_hint (a : Value) : argsOk "reversed.__length_hint__" ⟨[a], []⟩ := by
  unfold argsOk; rw [signature?_of (id := "reversed.__length_hint__") (n := ['_', '_', 't', 'n', 'i', 'h', '_', 'h', 't', 'g', 'n', 'e', 'l', '_', '_']) (o := ['d', 'e', 's', 'r', 'e', 'v', 'e', 'r']) (by kernel_rfl) owner_rt]; kernel_rfl
theorem walks_rt (hh : A.handled = none) (I t : Addr) (hne : t ≠ I) (items : Array Value) (hsz : items.size ≤ sizeLine) :
    Walks prog w A I [I, t] [I] items.size (fun i v => items[items.size - 1 - i]? = some v) (fun i h => i ≤ items.size ∧ IsRt h I t ((items.size : Int) - 1 - (i : Int)) ∧ IsTup h t items) where
  sub := fun b hb => by simp at hb; simp [hb]
  frame := fun _ _ _ x hk => ⟨x.1, x.2.1.at fun o e => hk I (by simp) o e, let ⟨o, e, c, z⟩ := x.2.2; ⟨o, hk t (by simp) o e, c, z⟩⟩
  item := fun i s Q E hi x hQ => by
    have e : (items.size : Int) - 1 - (i : Int) = ((items.size - 1 - i : Nat) : Int) := by omega
    have hit := x.2.1
    rw [e] at hit
    have hx : items[items.size - 1 - i]? = some (items[items.size - 1 - i]'(by omega)) := Array.getElem?_eq_getElem (by omega)
    refine next_rt_item hit x.2.2 hx hsz fun h' hit' hs' => ?_
    have e2 : ((items.size - 1 - i : Nat) : Int) - 1 = (items.size : Int) - 1 - ((i + 1 : Nat) : Int) := by omega
    rw [e2] at hit'
    exact hQ _ h' (s.toks + 1) hx ⟨hi, hit', let ⟨o, e, c, z⟩ := x.2.2; ⟨o, (hs'.2 t hne).trans e, c, z⟩⟩ fun b o hb eo => hs'.extBut b o (fun h => hb (by simp [h])) eo
  done := fun s Q E x hQ => by
    have e : (items.size : Int) - 1 - (items.size : Int) = -1 := by omega
    have hit := x.2.1
    rw [e] at hit
    exact next_rt_end hh hit fun h' he' => hQ h' s.toks fun b o hb eo => he' b o (fun h => hb (by simp [h])) eo
  self := fun _ _ _ _ x hQ => iter_rt x.2.1 hQ
theorem call_rt_hint {it t : Addr} {items : Array Value} {Q : Value → Shared → Prop} (hit : IsRt s.heap it t ((items.size : Int) - 1)) (ht : IsTup s.heap t items) (hn : items.size ≤ sizeLine)
    (hQ : ∀ u tk, s.toks ≤ tk → Q (.int (items.size : Int) u) { s with toks := tk }) : wpAny (model prog w) A (call (.builtin "reversed.__length_hint__") [.ref it]) Q E s := by
  obtain ⟨o, ho, hc, hd⟩ := id hit
  rw [sizeLine_eq] at hn
  refine wpAny_call_entry slot_rt_hint hit.typeIs entry_rt_hint ?_ (args_rt_hint _)
  unfold Builtin.«reversed.__length_hint__»
  refine wpAny_bind (wpAny_of_eq (a := Value.ref it) rfl ?_)
  refine wpAny_bind (wpAny_field ho hd (x := .ref t) rfl ?_)
  try dsimp only
  try rw [if_neg (by decide)]
  refine wpAny_bind (PyProof.Rows.len_tuple ht (by omega) ?_)
  refine wpAny_bind (wpAny_of_eq (a := some ((items.size : Nat) : Int)) rfl ?_)
  try dsimp only
  refine wpAny_bind (wpAny_field (s := { s with toks := s.toks + 1 + 1 }) ho hd (x := rawInt ((items.size : Int) - 1)) rfl ?_)
  show wpAny _ _ (if ((items.size : Nat) : Int) < (items.size : Int) - 1 + 1 then _ else _) _ _ _
  rw [if_neg (by omega)]
  have e : (items.size : Int) - 1 + 1 = (items.size : Int) := by omega
  rw [e]
  exact wpAny_bind (wpAny_mkInt (wpAny_pure ⟨_, rfl, hQ _ _ (by show s.toks ≤ s.toks + 1 + 1 + 1; omega)⟩))
theorem collect_rt {it t : Addr} {items : Array Value} {Q : List Value → Shared → Prop} (hh : A.handled = none) (hit : IsRt s.heap it t ((items.size : Int) - 1)) (ht : IsTup s.heap t items) (hne : t ≠ it) (hn : items.size ≤ sizeLine)
    (hQ : ∀ (h' : Heap) (tk : Nat) (acc : Array Value), (∀ b o, b ≠ it → s.heap.get? b = some o → h'.get? b = some o) → ItemsOf (fun i v => items[items.size - 1 - i]? = some v) acc items.size → Q acc.toList { s with heap := h', toks := tk }) :
    wpAny (model prog w) A (collect (.ref it)) Q E s := by
  have hn' : items.size ≤ 2 ^ 60 := by rw [sizeLine_eq] at hn; omega
  have hn2 : ¬ items.size > sizeLine := by omega
  have W := (walks_rt (prog := prog) (w := w) (A := A.in1) hh it t hne items hn).toS
  obtain ⟨oi, hoi, _⟩ := id hit
  obtain ⟨ol, hol, hcl, hzl⟩ := id ht
  have hSi : s.heap.objs.size ≠ it := Nat.ne_of_gt (Heap.lt_size hoi)
  have hSl : s.heap.objs.size ≠ t := Nat.ne_of_gt (Heap.lt_size hol)
  have hSf : s.heap.objs.size ∉ [it, t] := by simp only [List.mem_cons, List.not_mem_nil, or_false, not_or]; exact ⟨hSi, hSl⟩
  unfold collect
  refine wpAny_bind (wpAny_runValue (codeAny_builtin F.entry_proto_collect ?_))
  rw [Around.under_plainId F.plain_proto_collect _]
  show wpAny _ A.in1 (newList [] >>= fun l' => again (.builtin "list.__iadd__" ⟨[l', .ref it], []⟩)) _ _ s
  refine wpAny_bind (wpAny_newObj_type ?_)
  refine wpAny_pure ⟨plainId_quiet F.plain_list_iadd _, codeAny_builtin F.entry_list_iadd ?_⟩
  rw [Around.under_plainId F.plain_list_iadd _]
  have hS₁ : (s.heap.push { cls := .type "list", data := .seq ([] : List Value).toArray }).get? s.heap.objs.size = some { cls := .type "list", data := .seq ([] : List Value).toArray } := Heap.get?_push_size _ rfl
  have hit1 : IsRt (s.heap.push { cls := .type "list", data := .seq ([] : List Value).toArray }) it t ((items.size : Int) - 1) := hit.at fun o e => Heap.get?_push_of_some _ e
  have ht1 : IsTup (s.heap.push { cls := .type "list", data := .seq ([] : List Value).toArray }) t items := ⟨ol, Heap.get?_push_of_some _ hol, hcl, hzl⟩
  have hT : ({ s with heap := s.heap.push { cls := .type "list", data := .seq ([] : List Value).toArray } } : Shared).TypeIs (.ref it) "reversed" := IsRt.typeIs (s := { s with heap := s.heap.push { cls := .type "list", data := .seq ([] : List Value).toArray } }) hit1
  have h1 : Builtin.List.listSameRef (.ref s.heap.objs.size) (.ref it) = false := by simp [Builtin.List.listSameRef, hSi]
  show wpAny _ A.in1 (Builtin.List.listExtendWith (.ref s.heap.objs.size) (.ref it) (.ref s.heap.objs.size)) _ _ _
  unfold Builtin.List.listExtendWith
  refine wpAny_bind (wpAny_typeOf hT ?_)
  rw [if_neg (by rw [h1]; decide)]
  refine wpAny_bind (iter_rt (s := { s with heap := s.heap.push { cls := .type "list", data := .seq ([] : List Value).toArray } }) hit1 ?_)
  refine wpAny_bind (wpAny_holding ?_)
  unfold Builtin.List.listLengthHint
  refine wpAny_bind (wpAny_specialOf hT nolen_rt ?_)
  show wpAny _ A.in1 (specialOf (Value.ref it) (Str.ofString "__length_hint__") >>= _) _ _ _
  refine wpAny_bind (wpAny_specialOf hT slot_rt_hint.lookup ?_)
  generalize hid : ("reversed.__length_hint__" : String) = id0
  wp_delta
  rw [show splitId id0 = some ("reversed", "__length_hint__") from by subst hid; decide +kernel]
  subst hid
  refine wpAny_bind (wpAny_isInstance (b := true) hT (by rw [isSubtype_type]; kernel_rfl) ?_)
  try dsimp only
  try rw [if_neg (by decide)]
  try dsimp only
  rw [if_neg (by decide +kernel)]
  refine wpAny_bind (wpAny_rule ?_)
  refine wpAny_bind (wpAny_of_eq (slot_rt_hint.bind _) ?_)
  try dsimp only
  refine wpAny_bind (wpAny_attempt ?_)
  refine call_rt_hint (s := { s with heap := s.heap.push { cls := .type "list", data := .seq ([] : List Value).toArray } }) hit1 ht1 hn fun u tk htk => ?_
  try dsimp only
  have ha : asInt? (Value.int ((items.size : Nat) : Int) u) = pure (some ((items.size : Nat) : Int)) := rfl
  refine wpAny_bind ?_
  rw [ha]
  refine wpAny_pure ?_
  try dsimp only
  rw [if_neg (by
    unfold Builtin.List.listFitsIndex
    rw [decide_eq_true (show -(2 ^ 63 : Int) ≤ ((items.size : Nat) : Int) by omega), decide_eq_true (show ((items.size : Nat) : Int) < 2 ^ 63 by omega)]
    decide)]
  rw [if_neg (show ¬ (((items.size : Nat) : Int) < 0) by omega)]
  rw [if_neg (by
    unfold Builtin.List.listTooLong
    rw [Int.toNat_natCast, decide_eq_false hn2]
    decide)]
  refine wpAny_pure ?_
  have e0 : ((items.size : Nat) : Int) - 1 - ((0 : Nat) : Int) = (items.size : Int) - 1 := by omega
  by_cases hz : items.size = 0
  · rw [if_neg (by rw [hz]; decide +kernel)]
    have oth : ∀ b o, b ≠ s.heap.objs.size → (s.heap.push { cls := .type "list", data := .seq ([] : List Value).toArray }).get? b = some o → (s.heap.push { cls := .type "list", data := .seq ([] : List Value).toArray }).get? b = some o := fun _ _ _ e => e
    refine wpAny_pure ⟨plainId_quiet F.plain_extend_loop _, codeAny_extend_loopS W hn _ hSf _ items.size 0 _ _ _ rfl (Nat.zero_le _) ⟨Nat.zero_le _, by rw [e0]; exact hit1.at fun o e => oth _ _ (Ne.symm hSi) e, ⟨ol, oth _ _ (Ne.symm hSl) (Heap.get?_push_of_some _ hol), hcl, hzl⟩⟩ hS₁ (ItemsOf.nil _) fun s' acc' c' hm hS' hacc => ?_⟩
    show wpAny _ A (load s.heap.objs.size >>= _) _ _ s'
    refine wpAny_bind (wpAny_load hS' ?_)
    refine wpAny_pure ?_
    rw [Moved.eq_with hm]
    refine hQ s'.heap s'.toks acc' (fun b o hb e => hm.heap b o (fun hmem => ?_) (oth _ _ (Nat.ne_of_lt (Heap.lt_size e)) (Heap.get?_push_of_some _ e))) hacc
    rcases List.mem_cons.mp hmem with e' | hmem
    · exact absurd (Heap.lt_size e) (by rw [e']; exact Nat.lt_irrefl _)
    · exact hb (List.mem_singleton.mp hmem)
  · rw [if_pos (by rw [show (((items.size : Nat) : Int) != 0) = true from by rw [bne_iff_ne]; omega]; rfl)]
    refine wpAny_bind (wpAny_rule ?_)
    refine wpAny_bind ?_
    show wpAny _ A.in1 (updateSeq s.heap.objs.size (·.push .none) >>= fun _ => updateSeq s.heap.objs.size (·.pop)) _ _ _
    refine wpAny_bind (wpAny_updateSeq hS₁ rfl ?_)
    have hS₂ := Heap.get?_update_self (Obj.mapSeq (·.push Value.none)) hS₁ rfl
    refine wpAny_updateSeq hS₂ rfl ?_
    have hS₃ := Heap.get?_update_self (Obj.mapSeq (·.pop)) hS₂ rfl
    have oth : ∀ b o, b ≠ s.heap.objs.size → (s.heap.push { cls := .type "list", data := .seq ([] : List Value).toArray }).get? b = some o →
      (((s.heap.push { cls := .type "list", data := .seq ([] : List Value).toArray }).update s.heap.objs.size (Obj.mapSeq (·.push Value.none))).update s.heap.objs.size (Obj.mapSeq (·.pop))).get? b = some o :=
      fun b o hb e => (Heap.get?_update_other _ _ (Ne.symm hb)).trans ((Heap.get?_update_other _ _ (Ne.symm hb)).trans e)
    refine wpAny_pure ⟨plainId_quiet F.plain_extend_loop _, codeAny_extend_loopS W hn _ hSf _ items.size 0 _ _ _ rfl (Nat.zero_le _) ⟨Nat.zero_le _, by rw [e0]; exact hit1.at fun o e => oth _ _ (Ne.symm hSi) e, ⟨ol, oth _ _ (Ne.symm hSl) (Heap.get?_push_of_some _ hol), hcl, hzl⟩⟩ hS₃ (ItemsOf.nil _) fun s' acc' c' hm hS' hacc => ?_⟩
    show wpAny _ A (load s.heap.objs.size >>= _) _ _ s'
    refine wpAny_bind (wpAny_load hS' ?_)
    refine wpAny_pure ?_
    rw [Moved.eq_with hm]
    refine hQ s'.heap s'.toks acc' (fun b o hb e => hm.heap b o (fun hmem => ?_) (oth _ _ (Nat.ne_of_lt (Heap.lt_size e)) (Heap.get?_push_of_some _ e))) hacc
    rcases List.mem_cons.mp hmem with e' | hmem
    · exact absurd (Heap.lt_size e) (by rw [e']; exact Nat.lt_irrefl _)
    · exact hb (List.mem_singleton.mp hmem)
theorem code_tuple_new_rt {it t : Addr} {items : Array Value} {Q₁ : Value → Shared → Prop} (hh : A.handled = none) (hit : IsRt s.heap it t ((items.size : Int) - 1)) (ht : IsTup s.heap t items) (hne : t ≠ it) (hn : items.size ≤ sizeLine)
    (h : ∀ (h' : Heap) (tk : Nat) (acc : Array Value), (∀ b o, b ≠ it → s.heap.get? b = some o → h'.get? b = some o) → ItemsOf (fun i v => items[items.size - 1 - i]? = some v) acc items.size →
      Q₁ (.ref h'.objs.size) { s with heap := h'.push { cls := .type "tuple", data := .seq acc }, toks := tk }) :
    codeAny (model prog w) A (.call (.builtin "tuple.__new__") ⟨[.type "tuple", .ref it], []⟩) (wants Q₁ E) s := by
  refine codeAny_of_tree ?_
  show wpAny _ A.in1 (do checkBuiltinCall "tuple.__new__" ⟨[.type "tuple", .ref it], []⟩; again (.builtin "tuple.__new__" ⟨[.type "tuple", .ref it], []⟩)) _ _ s
  refine wpAny_bind (wpAny_of_eq (F.newCall_tuple_1 _) (wpAny_pure ⟨plainId_quiet F.plain_tuple_new _, codeAny_builtin F.entry_tuple_new ?_⟩))
  rw [Around.under_plainId F.plain_tuple_new _]
  have hsub := sub_tuple_self
  have hinit := init_tuple_lookup
  have hmh := madeHere_tuple
  have hTI : s.TypeIs (.ref it) "reversed" := hit.typeIs
  have hh1 : A.in1.handled = none := hh
  wp_walk using wpAny_typeOf hTI, collect_rt (A := A.in1) hh1 hit ht hne hn
  intro h' tk acc hk hacc
  show wpAny _ _ (Builtin.Tuple.tupleExact acc.toList.toArray >>= fun v => ret v) _ _ _
  unfold Builtin.Tuple.tupleExact
  refine wpAny_bind (wpAny_newObj_type ?_ (by show acc.toList.toArray.size ≤ sizeLine; simp only [Array.toArray_toList]; rw [hacc.1]; exact hn))
  refine wpAny_pure ?_
  have e : acc.toList.toArray = acc := by simp
  rw [e]
  exact h h' tk acc hk hacc
theorem call_tuple_rt {it t : Addr} {items : Array Value} {Q : Value → Shared → Prop} (hh : A.handled = none) (hit : IsRt s.heap it t ((items.size : Int) - 1)) (ht : IsTup s.heap t items) (hne : t ≠ it) (hn : items.size ≤ sizeLine)
    (hQ : ∀ (h' : Heap) (tk : Nat) (acc : Array Value), (∀ b o, b ≠ it → s.heap.get? b = some o → h'.get? b = some o) → ItemsOf (fun i v => items[items.size - 1 - i]? = some v) acc items.size →
      Q (.ref h'.objs.size) { s with heap := h'.push { cls := .type "tuple", data := .seq acc }, toks := tk }) :
    wpAny (model prog w) A (call (.type "tuple") [.ref it]) Q E s := by
  refine callType_codes (Q₁ := fun obj s₁ => s₁.TypeIs obj "tuple" ∧ Q obj s₁) F.called_tuple (F.typeCall_tuple_1 _) F.entry_object_init
    (code_tuple_new_rt (A := A.in1) hh hit ht hne hn fun h' tk acc hk hacc => ⟨⟨_, Heap.get?_push_size _ rfl, rfl⟩, hQ h' tk acc hk hacc⟩) fun obj s₁ h₁ => ?_
  exact ⟨h₁.1, F.args_object_init_2 obj _, object_init_meets F.called_tuple.init.lookup F.called_tuple.made (by decide) prog w A.in1 _ s₁ ⟨h₁.1, rfl, h₁.2⟩⟩
end
/-- tuple(reversed(x)), x a tuple: a new tuple -/
def tTupRevT (K : PySem.W.Frag) (te : TE) : TE := fun σ H Q => te σ H fun v H1 => ∃ (a : Addr) (xs : List V), v = .ref a ∧ SqT K H1 a xs ∧ xs.length ≤ 1000 ∧ ∀ q, H1 q = none → Q (.ref q) (upd H1 q (.tup xs.reverse))
theorem pe_tupRevT {X : Cx} {e : Expr} {te : TE} {p p2 pos pos2 : Pos} (K : PySem.W.Frag) (hK : X.K = K) (hc : X.calm = true) (hg : Gl X "tuple") (hm : X.mg "tuple" = none) (hg2 : Gl X "reversed") (hm2 : X.mg "reversed" = none) (he : PE X e te)
    (hs : starEach [e] X.env = (false, eval e X.env) :: starEach [] X.env := by rfl)
    (hs2 : starEach [.Call (.Name "reversed" p2) [e] [] pos2] X.env = (false, eval (.Call (.Name "reversed" p2) [e] [] pos2) X.env) :: starEach [] X.env := by rfl) :
    PE X (.Call (.Name "tuple" p) [.Call (.Name "reversed" p2) [e] [] pos2] [] pos) (tTupRevT K te) := by
  subst hK
  refine ⟨fun pins s σ H Q I h => ?_⟩
  refine Call_ (ld_blt I hg hm boot_tuple (PyProof.Rows.callWith_type1 (args_cons (Call_ (ld_blt I hg2 hm2 PyProof.Rows.boot_reversed (PyProof.Rows.callWith_type1 (args_cons (thn (he.run pins s σ H _ I h) fun u s1 ⟨v, H1, I1, r1, q1⟩ => args_nil ?_) hs) hs rfl))) hs2) hs2 rfl))
  obtain ⟨a, xs, ev, hq, hxl, q⟩ := q1
  subst ev
  obtain rfl : u = Value.ref a := r1
  obtain ⟨its, rv, p', hz⟩ := I1.tuple hq
  have hsz : its.toArray.size ≤ 1000 := by rw [List.size_toArray, ← rv.length]; exact hxl
  refine RT.call_reversed_tup p' (fun A E Q k => PyProof.Rows.len_tuple p' (by omega) k) (args_nil ?_)
  have k0 : ∀ b o, s1.heap.get? b = some o → (s1.heap.push (RT.rtObj a ((its.toArray.size : Int) - 1))).get? b = some o := fun b o e => Heap.get?_push_of_some _ e
  have I2 : Inv X pins σ H1 { s1 with heap := s1.heap.push (RT.rtObj a ((its.toArray.size : Int) - 1)), toks := s1.toks + 1 + 1 } := I1.kept (t' := s1.toks + 1 + 1) k0
  obtain ⟨f0, f1, f2, f3, f4, f5⟩ := I1.fpOk (H' := H1) (b := s1.heap.objs.size) (Nat.le_refl _) (I1.hok.fresh (Nat.le_refl _))
  obtain ⟨ol, hol, hcl, hzl⟩ := id p'
  have hne : a ≠ s1.heap.objs.size := Nat.ne_of_lt (Heap.lt_size hol)
  have hn : its.toArray.size ≤ sizeLine := by rw [sizeLine_eq]; omega
  refine call_tuple_rt (s := { s1 with heap := s1.heap.push (RT.rtObj a ((its.toArray.size : Int) - 1)), toks := s1.toks + 1 + 1 }) (I1.ok.hd hc) ⟨_, Heap.get?_push_size _ rfl, rfl, rfl⟩ ⟨ol, k0 _ _ hol, hcl, hzl⟩ hne hn fun h' tk acc hk hi => ?_
  have I3 : Inv X pins σ H1 { s1 with heap := h', toks := tk } := I2.turned (t' := tk) (fun b o hb e => hk b o hb e) f0 f1 f3 f4 f5
  refine ⟨.ref h'.objs.size, upd H1 h'.objs.size (.tup xs.reverse), I3.laid (t' := tk) (fun c o e => Heap.get?_push_of_some _ e) (Nat.le_refl _) (show ObjOk X.prog X.w _ _ _ (.tup xs.reverse) from ⟨by rw [List.length_reverse]; exact hz, acc.toList, RT.vals_rev rv hi, ?_⟩), rfl, q _ (I3.hok.fresh (Nat.le_refl _))⟩
  rw [Array.toArray_toList]
  exact IsTup.new _ _
section
variable {c : Cb} {ps : Sl} {O : Own} {Φ : Af} {te : TE}
theorem ev_tupRevT (h : EvW c te ps O fun a O1 => ∃ l : List PyData, a = .d (.tuple l) ∧ l.length ≤ 1000 ∧ Φ (.d (.tuple l.reverse)) O1) : EvW c (tTupRevT c.K te) ps O Φ := by
  intro B σ H s w m Q q
  refine h B σ H s w m _ fun a O1 B1 u H1 ⟨l, e, hl, k⟩ e1 w1 r1 => ?_
  subst e
  cases r1 with
  | tup g d =>
    refine ⟨_, _, rfl, .inl (w1.ex.rd g), by rw [dqs_len d]; exact hl, fun p hp => ?_⟩
    have dr : DqAll c.K B1 (List.reverse _) l.reverse := dps_of (ds := l.reverse) (by have := reps_rev (reps_of d); rw [← List.map_reverse] at this; exact this)
    obtain ⟨e2, w2, d2⟩ := newT w1 hp dr
    exact q _ O1 _ _ _ k (e1.trans e2) w2 d2
end
end BL

set_option Elab.async false
set_option linter.all false
set_option maxRecDepth 100000
set_option maxHeartbeats 4000000
namespace BL
open PySem PySem.Spec PyProof.Rows L2
theorem hu1 {k : Nat} {A : Around} (r : Room k A) : A.units + 1 < cLine := by have := r.un; omega
theorem aret_rt {Φ : Af} {a : AV} {O : Own} (h : Φ a O) : (aret Φ).rt a O := ⟨O, OLe.refl _, h⟩
theorem aret_nx {Φ : Af} {ps : Sl} {O : Own} (h : Φ (.d .none) O) : (aret Φ).nx ps O := ⟨O, OLe.refl _, h⟩
theorem ite_no {b : Bool} {A B : Prop} (h : b = false) (k : B) : if b = true then A else B := by rw [h, if_neg Bool.false_ne_true]; exact k
theorem ite_yes {b : Bool} {A B : Prop} (h : b = true) (k : A) : if b = true then A else B := by rw [h, if_pos rfl]; exact k
theorem nt_true : ¬ (!true) = true := Bool.false_ne_true
theorem nf_true : (!false) = true := rfl
theorem ite_dec {p : Prop} [Decidable p] {A B : Prop} (h1 : p → A) (h2 : ¬ p → B) : if decide p = true then A else B := by
  by_cases h : p
  · rw [if_pos (decide_eq_true h)]; exact h1 h
  · rw [if_neg (by rw [decide_eq_false h]; exact Bool.false_ne_true)]; exact h2 h
theorem ite_b {b : Bool} {A B : Prop} (h1 : b = true → A) (h2 : b = false → B) : if b = true then A else B := by
  cases b with
  | true => rw [if_pos rfl]; exact h1 rfl
  | false => rw [if_neg Bool.false_ne_true]; exact h2 rfl
section
variable {c : Cb} {O : Own} {Φ : Af} {n : String} {b : Bool}
theorem isi_int {i : Int} (h : kitB "int" n = some b) (k : Φ (.d (.bool b)) O) : calW c (rIsiA c.K) [.d (.int i), .v (.ty n)] O Φ := cw_isi h k
theorem isi_bool {i : Bool} (h : kitB "bool" n = some b) (k : Φ (.d (.bool b)) O) : calW c (rIsiA c.K) [.d (.bool i), .v (.ty n)] O Φ := cw_isi h k
theorem isi_str {i : Str} (h : kitB "str" n = some b) (k : Φ (.d (.bool b)) O) : calW c (rIsiA c.K) [.d (.str i), .v (.ty n)] O Φ := cw_isi h k
theorem isi_tup {i : List PyData} (h : kitB "tuple" n = some b) (k : Φ (.d (.bool b)) O) : calW c (rIsiA c.K) [.d (.tuple i), .v (.ty n)] O Φ := cw_isi h k
theorem isi_lst {i : List PyData} (h : kitB "list" n = some b) (k : Φ (.d (.bool b)) O) : calW c (rIsiA c.K) [.d (.list i), .v (.ty n)] O Φ := cw_isi h k
theorem isi_non (h : kitB "NoneType" n = some b) (k : Φ (.d (.bool b)) O) : calW c (rIsiA c.K) [.d .none, .v (.ty n)] O Φ := cw_isi h k
end
section
variable {c : Cb} {ps : Sl} {O : Own} {A : AEnds} {ta : TA}
theorem st_par {i j : Nat} (h : EvAW c ta ps O fun as O1 => ∃ a b, as = [a, b] ∧ A.nx ((ps.set i (some a)).set j (some b)) O1) : StW c (tPar i j ta) ps O A := by
  intro B σ H D s w m d
  refine h B σ H s w m _ fun as O1 B1 us H1 ⟨a, b, e, k⟩ e1 w1 r1 => ?_
  subst e
  obtain ⟨u, v, rfl, ra, rb⟩ := rv2 r1
  exact ⟨u, v, rfl, d.nx _ _ B1 _ H1 k e1 (((s.up e1).set i ra).set j rb) w1⟩
theorem st_par3 {i j l : Nat} (h : EvAW c ta ps O fun as O1 => ∃ a b z, as = [a, b, z] ∧ A.nx (((ps.set i (some a)).set j (some b)).set l (some z)) O1) : StW c (L2.tPar3 i j l ta) ps O A := by
  intro B σ H D s w m d
  refine h B σ H s w m _ fun as O1 B1 us H1 ⟨a, b, z, e, k⟩ e1 w1 r1 => ?_
  subst e
  cases r1 with
  | cons r1 r2 =>
    obtain ⟨u, v, rfl, ra, rb⟩ := rv2 r2
    exact ⟨_, u, v, rfl, d.nx _ _ B1 _ H1 k e1 ((((s.up e1).set i r1).set j ra).set l rb) w1⟩
end
section
variable {P : Program} {w : World} {K : PySem.W.Frag} {T : List Addr} {mg : Str → Option Value} {base : Heap}
theorem ok_fnE {x qual : Str} {st : Stmt} {f : Addr} {fd : FuncData} {N pr : List Str} {k : Nat} {Fs : Addr → Addr → FSp} (F : Fun K x qual st f fd) (S : FnScope N pr (defScope st)) (len : ∀ D e as O Φ Ψ, Fs D e as O Φ Ψ → as.length = pr.length)
    (hd : ∀ (cdv : Value) (A : Around) (outer : List Env) (s : Shared) (H : Hp) (E : XK) (p : Addr × Obj) (D : Addr), HotP A D p → L2H.RoomH k (A.deeper (envOfC qual (defScope st) s.heap.objs.size f cdv)) → ∀ as O Φ Ψ, Fs D p.1 as O Φ Ψ →
      ∃ t, PSs (L2H.cxH CX0 P w K mg base N qual (defScope st) f cdv A outer s H E p) (defBody st) t ∧ StW (cb0 K T) t (slots0 N as) O (aret Φ)) :
    FnE P w K mg base (k + 1) f fd pr (fun D e => spOf K T (Fs D e)) := by
  obtain ⟨oc, od, kV, doc, pm, an, cdv, ct, osl, rfl, lk, hcd⟩ := F.ex
  refine fn_ofE lk hcd S (fun D e vs H Q E h => ?_) fun A outer s H vs Q E p D hot hr h => ?_
  · obtain ⟨B, O, as, Φ, Ψ, r, _, hF, _⟩ := h
    rw [← reps_len r]; exact len _ _ _ _ _ _ hF
  · obtain ⟨B, O, as, Φ, Ψ, r, w', hF, hQ, _⟩ := h
    obtain ⟨t, ht, hs⟩ := hd cdv A outer s H E p D hot hr as O Φ Ψ hF
    exact ⟨t, ht, hs B _ H _ (slots_start r) w' trivial (ad_ret rfl rfl hQ)⟩
end
theorem st_ex {c : Cb} {ps : Sl} {O : Own} {A : AEnds} {φ : Addr → Prop} {t : Addr → TS} (D : Addr) (h : φ D) (k : StW c (t D) ps O A) : StW c (fun Dn σ H => ∃ D, φ D ∧ t D Dn σ H) ps O A := fun B σ H Dn s w m d => ⟨D, h, k B σ H Dn s w m d⟩
theorem st_cut {c : Cb} {ps : Sl} {O : Own} {A : AEnds} {t u : TS} (M : Sl → Own → Prop) (h : StW c t ps O { A with nx := M }) (k : ∀ ps' O', M ps' O' → StW c u ps' O' A) : StW c (tSeq t u) ps O A :=
  st_seq (st_imp h (fun ps O z => k ps O z) (fun _ _ z => z) (fun _ _ z => z) (fun _ _ z => z))
end BL

set_option Elab.async false
set_option linter.all false
set_option maxRecDepth 100000
set_option maxHeartbeats 4000000
namespace BL
open PySem PySem.Spec PyProof.Rows L2 GxR
/-! ## a test of a number, raw: it makes new objects alone -/
theorem Kp.refl (s : Shared) : Keeps s s := ⟨s.heap, s.toks, rfl, fun _ _ e => e⟩
theorem Kp.tok (s : Shared) (k : Nat) : Keeps s { s with toks := k } := ⟨s.heap, k, rfl, fun _ _ e => e⟩
theorem Kp.trans {s s1 s2 : Shared} (a : Keeps s s1) (b : Keeps s1 s2) : Keeps s s2 := by
  obtain ⟨h1, t1, rfl, k1⟩ := a
  obtain ⟨h2, t2, rfl, k2⟩ := b
  exact ⟨h2, t2, rfl, fun x o e => k2 x o (k1 x o e)⟩
theorem Kp.get {s s1 : Shared} (a : Keeps s s1) {b : Addr} {o : Obj} (e : s.heap.get? b = some o) : s1.heap.get? b = some o := by
  obtain ⟨h1, t1, rfl, k1⟩ := a
  exact k1 b o e
/-- a flat value: no address -/
inductive FlatU : Value → Prop
  | int (i : Int) (t : Tok) : FlatU (.int i t)
  | bl (b : Bool) : FlatU (.bool b)
  | non : FlatU .none
  | str (x : Str) (t : Tok) : FlatU (.str x t)
def numU : Value → Int → Int → Bool
  | .int i _, lo, hi => decide (lo ≤ i) && decide (i ≤ hi)
  | _, _, _ => false
def flatT : Value → String
  | .int _ _ => "int"
  | .bool _ => "bool"
  | .none => "NoneType"
  | _ => "str"
/-- what a def may lean on -/
structure Gnd (K : PySem.W.Frag) (mg : Str → Option Value) (h : Heap) : Prop where
  kin : K.In h
  glob : h.Ns mainGlobals mg
  blt : ∃ mb, h.Ns builtinsNs mb ∧ ∀ x : Str, x ≠ "__name__" → mb x = bootBuiltins x
  nolimit : h.NoLimit
theorem Gnd.keeps {K : PySem.W.Frag} {mg : Str → Option Value} {h h' : Heap} (g : Gnd K mg h) (k : ∀ b o, h.get? b = some o → h'.get? b = some o) : Gnd K mg h' :=
  ⟨g.kin.keeps k, g.glob.keeps k, let ⟨mb, h1, h2⟩ := g.blt; ⟨mb, h1.keeps k, h2⟩, g.nolimit.keeps k⟩
section
variable {P : Program} {w : World} {K : PySem.W.Frag} {mg : Str → Option Value} {A : Around} {s : Shared} {E : Value → Shared → Prop} {env : Env}
theorem raw_isi {u : Value} (hu : FlatU u) {T : String} {b : Bool} (KX : K.In s.heap) (hb : kitB (flatT u) T = some b) {Q : Value → Shared → Prop} (h : ∀ tk, Q (.bool b) { s with toks := tk }) :
    wpAny (model P w) A (call (.builtin "isinstance") [u, .type T]) Q E s := by
  cases hu with
  | int i t => exact PySem.W.kia_one PySem.W.kitx_int KX True.intro (kit_ty hb) (fun z => nomatch z) h
  | bl i => exact PySem.W.kia_one PySem.W.kitx_bool KX True.intro (kit_ty hb) (fun z => nomatch z) h
  | non => exact PySem.W.kia_one PySem.W.kitx_none KX True.intro (kit_ty hb) (fun z => nomatch z) h
  | str i t => exact PySem.W.kia_one PySem.W.kitx_str KX True.intro (kit_ty hb) (fun z => nomatch z) h
/-- isinstance(x, T) in a frame -/
theorem raw_isiE {x : Str} {u : Value} {T : String} {bT : Str} {b : Bool} {m : Str → Option Value} {p1 p2 p3 p4 : Pos} (g : Gnd K mg s.heap) (hk : env.scope.kind = .function) (hG : env.globals = mainGlobals) (hB : env.builtins = builtinsNs)
    (hx : env.kindOf x = some .local) (hi : env.kindOf ("isinstance" : Str) = some .globalImplicit) (hT : env.kindOf bT = some .globalImplicit) (mi : mg "isinstance" = none) (mT : mg bT = none) (bb : bootBuiltins bT = some (.type T)) (hn : s.heap.Ns env.locals m) (hm : m x = some u) (hu : FlatU u) (hb : kitB (flatT u) T = some b)
    (hd : (x == ("__debug__" : Str)) = false := by decide) (hd2 : (bT == ("__debug__" : Str)) = false := by decide) (hd3 : bT ≠ "__name__" := by decide)
    {Q : Value → Shared → Prop} (h : ∀ tk, Q (.bool b) { s with toks := tk }) :
    wpAny (model P w) A (eval (.Call (.Name "isinstance" p1) [.Name x p2, .Name bT p3] [] p4) env) Q E s := by
  obtain ⟨mb, h1, h2⟩ := g.blt
  refine wpAny_Call_Name_kw (Calls.Name_function_global hk hi (Calls.loadGlobal_builtin (by rw [hG]; exact g.glob) mi (by rw [hB]; exact h1) ((h2 "isinstance" (by decide)).trans bt_isinstance) ?_))
  refine PyProof.Rows.callWith_builtin1 ?_ (by rfl) (by rfl)
  refine Calls.spliced_cons (wpAny_Name (wpAny_loadName_local hk hx hn hm ?_) hd)
  refine Calls.spliced_cons (Calls.Name_function_global hk hT (Calls.loadGlobal_builtin (by rw [hG]; exact g.glob) mT (by rw [hB]; exact h1) ((h2 bT hd3).trans bb) ?_) hd2)
  refine Calls.spliced_nil ?_
  exact raw_isi hu g.kin hb h
/-- the text of is_number -/
abbrev numBody (p : Nat → Pos) : List Stmt := [.Return (some (.BoolOp .And [.Call (.Name "isinstance" (p 0)) [.Name "value" (p 1), .Name "int" (p 2)] [] (p 3),
  .UnaryOp .Not (.Call (.Name "isinstance" (p 4)) [.Name "value" (p 5), .Name "bool" (p 6)] [] (p 7)) (p 8), .Compare (.Name "least" (p 9)) [.LtE, .LtE] [.Name "value" (p 10), .Name "most" (p 11)] (p 12)] (p 13))) (p 14)]
structure NumScope (sc : Scope) : Prop where
  S : FnScope ["value", "least", "most"] ["value", "least", "most"] sc
  v : sc.names.lookup ("value" : Str) = some .local
  l : sc.names.lookup ("least" : Str) = some .local
  m : sc.names.lookup ("most" : Str) = some .local
  i : sc.names.lookup ("isinstance" : Str) = some .globalImplicit
  n : sc.names.lookup ("int" : Str) = some .globalImplicit
  b : sc.names.lookup ("bool" : Str) = some .globalImplicit
theorem raw_numE {u : Value} {lo hi : Int} {t1 t2 : Tok} {m : Str → Option Value} {p : Nat → Pos} (g : Gnd K mg s.heap) (N : NumScope env.scope) (hG : env.globals = mainGlobals) (hB : env.builtins = builtinsNs)
    (mi : mg "isinstance" = none) (mn : mg "int" = none) (mb : mg "bool" = none) (hn : s.heap.Ns env.locals m) (hv : m "value" = some u) (hl : m "least" = some (.int lo t1)) (hm : m "most" = some (.int hi t2)) (hu : FlatU u)
    {Q : Flow → Shared → Prop} (h : ∀ s', Keeps s s' → Q (.ret (.bool (numU u lo hi))) s') : wpAny (model P w) A (execs (numBody p) env) Q E s := by
  have hk := N.S.kind
  refine wpAny_execs_cons (wpAny_Return_some ?_)
  refine BoolOp_and ?_
  have fin : ∀ {b : Bool} {tk : Nat}, b = numU u lo hi → Q (.ret (.bool b)) { s with toks := tk } := fun {b tk} e => by rw [e]; exact h _ (Kp.tok _ _)
  have step1 : ∀ b, kitB (flatT u) "int" = some b → (b = true → wpAny (model P w) A (eval (.BoolOp .And [.UnaryOp .Not (.Call (.Name "isinstance" (p 4)) [.Name "value" (p 5), .Name "bool" (p 6)] [] (p 7)) (p 8), .Compare (.Name "least" (p 9)) [.LtE, .LtE] [.Name "value" (p 10), .Name "most" (p 11)] (p 12)] (p 13)) env) (fun v s' => Q (.ret v) s') E s) → (b = false → numU u lo hi = false) → True := fun _ _ _ _ => trivial
  have rest : flatT u = "int" ∨ flatT u = "bool" → ∀ tk, wpAny (model P w) A (eval (.BoolOp .And [.UnaryOp .Not (.Call (.Name "isinstance" (p 4)) [.Name "value" (p 5), .Name "bool" (p 6)] [] (p 7)) (p 8), .Compare (.Name "least" (p 9)) [.LtE, .LtE] [.Name "value" (p 10), .Name "most" (p 11)] (p 12)] (p 13)) env) (fun v s' => Q (.ret v) s') E { s with toks := tk } := by
    intro hT tk
    have g1 : Gnd K mg ({ s with toks := tk } : Shared).heap := g
    refine BoolOp_and (UnaryOp_ ?_)
    rcases hT with hT | hT
    · have hb : kitB (flatT u) "bool" = some false := by rw [hT]; decide +kernel
      refine raw_isiE (T := "bool") (b := false) (s := { s with toks := tk }) g1 hk hG hB N.v N.i N.b mi mb bt_bool hn hv hu hb (h := fun tk2 => ?_)
      refine PyProof.Rows.not_of (wpAny_truthy_bool ?_)
      refine wpAny_truthy_bool ?_
      rw [Bool.not_false, if_pos rfl]
      refine BoolOp_one (Compare_chain ?_ (by with_unfolding_all rfl))
      refine wpAny_Name (wpAny_loadName_local hk N.l hn hl ?_)
      refine chain_link ?_
      refine wpAny_Name (wpAny_loadName_local hk N.v hn hv ?_)
      obtain ⟨i, t, rfl⟩ : ∃ i t, u = .int i t := by
        cases hu with
        | int i t => exact ⟨i, t, rfl⟩
        | bl b => exact absurd (show "bool" = "int" from hT) (by decide)
        | non => exact absurd (show "NoneType" = "int" from hT) (by decide)
        | str x t => exact absurd (show "str" = "int" from hT) (by decide)
      refine le_int (wpAny_truthy_bool ?_)
      by_cases hlo : lo ≤ i
      · rw [decide_eq_true hlo, if_pos rfl]
        refine chain_last (wpAny_Name (wpAny_loadName_local hk N.m hn hm ?_))
        refine le_int ?_
        exact fin (by show _ = (decide (lo ≤ i) && decide (i ≤ hi)); rw [decide_eq_true hlo, Bool.true_and])
      · rw [decide_eq_false hlo, if_neg Bool.false_ne_true]
        exact fin (by show _ = (decide (lo ≤ i) && decide (i ≤ hi)); rw [decide_eq_false hlo, Bool.false_and])
    · have hb : kitB (flatT u) "bool" = some true := by rw [hT]; decide +kernel
      refine raw_isiE (T := "bool") (b := true) (s := { s with toks := tk }) g1 hk hG hB N.v N.i N.b mi mb bt_bool hn hv hu hb (h := fun tk2 => ?_)
      refine PyProof.Rows.not_of (wpAny_truthy_bool ?_)
      refine wpAny_truthy_bool ?_
      rw [Bool.not_true, if_neg Bool.false_ne_true]
      obtain ⟨b, rfl⟩ : ∃ b, u = .bool b := by
        cases hu with
        | int i t => exact absurd (show "int" = "bool" from hT) (by decide)
        | bl b => exact ⟨b, rfl⟩
        | non => exact absurd (show "NoneType" = "bool" from hT) (by decide)
        | str x t => exact absurd (show "str" = "bool" from hT) (by decide)
      exact fin rfl
  cases hu with
  | int i t =>
    refine raw_isiE (T := "int") (b := true) g hk hG hB N.v N.i N.n mi mn bt_int hn hv (.int i t) (show kitB "int" "int" = some true by decide +kernel) (h := fun tk => wpAny_truthy_bool ?_)
    rw [if_pos rfl]
    exact rest (.inl rfl) tk
  | bl b =>
    refine raw_isiE (T := "int") (b := true) g hk hG hB N.v N.i N.n mi mn bt_int hn hv (.bl b) (show kitB "bool" "int" = some true by decide +kernel) (h := fun tk => wpAny_truthy_bool ?_)
    rw [if_pos rfl]
    exact rest (.inr rfl) tk
  | non =>
    refine raw_isiE (T := "int") (b := false) g hk hG hB N.v N.i N.n mi mn bt_int hn hv .non (show kitB "NoneType" "int" = some false by decide +kernel) (h := fun tk => wpAny_truthy_bool ?_)
    rw [if_neg Bool.false_ne_true]
    exact fin rfl
  | str x t =>
    refine raw_isiE (T := "int") (b := false) g hk hG hB N.v N.i N.n mi mn bt_int hn hv (.str x t) (show kitB "str" "int" = some false by decide +kernel) (h := fun tk => wpAny_truthy_bool ?_)
    rw [if_neg Bool.false_ne_true]
    exact fin rfl
/-- is_number(u, lo, hi) -/
theorem raw_num {x qual : Str} {st : Stmt} {f : Addr} {fd : FuncData} {p : Nat → Pos} {u : Value} {lo hi : Int} {t1 t2 : Tok} (F : Fun K x qual st f fd) (hbody : defBody st = numBody p) (N : NumScope (defScope st)) (bd : Binds K fd ["value", "least", "most"] [])
    (g : Gnd K mg s.heap) (hdep : A.depth < recursionLimit) (mi : mg "isinstance" = none) (mn : mg "int" = none) (mb : mg "bool" = none) (hu : FlatU u)
    {Q : Value → Shared → Prop} (h : ∀ s', Keeps s s' → Q (.bool (numU u lo hi)) s') : wpAny (model P w) A (call (.ref f) [u, .int lo t1, .int hi t2]) Q E s := by
  obtain ⟨oc, od, kV, doc, pm, an, cdv, ct, osl, rfl, lk, hcd⟩ := F.ex
  have hb := bd s [u, .int lo t1, .int hi t2] g.kin rfl
  refine wpAny_call (codeAny_call_function hdep (g.kin _ _ lk) rfl N.S.co N.S.gen rfl (PySem.W.codeRec_of g.kin hcd) (hb _ _ _ _ ?_))
  refine wpAny_newFunctionEnv_cells N.S.kind (fun ⟨n, v⟩ hy => ?_) fun env he s1 x1 => ?_
  · rcases N.S.par n (List.of_mem_zip hy).1 with q | q
    · exact .inl q
    · exact .inr ⟨q, PySem.W.cellsFrom_some _ _ _ (.inl q)⟩
  subst he
  refine ⟨g.nolimit.keeps x1.toInCall.keep, codeAny_func ?_⟩
  obtain ⟨h1, tk, rfl, hk⟩ := x1.done
  have kp : Keeps s { s with heap := h1, toks := tk } := ⟨h1, tk, rfl, hk⟩
  show wpAny _ _ (execs (defBody st) _) _ _ _
  rw [hbody]
  have gl : ∀ (i : Nat) (y : Str) (v : Value), (["value", "least", "most"] : List Str)[i]? = some y → [u, .int lo t1, .int hi t2][i]? = some v → (defScope st).names.lookup y = some .local → bindL (newEnv (defScope st) s.heap.objs.size mainGlobals (cellsFrom (s.heap.objs.size + 1) (defScope st).names []) (qual ++ ".<locals>.") (some f) cdv none builtinsNs).kindOf ((["value", "least", "most"] : List Str).zip [u, .int lo t1, .int hi t2]) (fun _ => none) y = some v :=
    fun i y v h1 h2 h3 => bindL_get (by decide) h1 h2 h3
  exact raw_numE (m := _) (g.keeps hk) N rfl rfl mi mn mb x1.toInCall.ns (gl 0 _ _ rfl rfl N.v) (gl 1 _ _ rfl rfl N.l) (gl 2 _ _ rfl rfl N.m) hu fun s' ks => h s' (Kp.trans kp ks)
end
end BL

set_option Elab.async false
set_option linter.all false
set_option maxRecDepth 100000
set_option maxHeartbeats 4000000
namespace BL
open PySem PySem.Spec PyProof.Rows L2 GxR
/-! ## all(test(x) for x in t), t a tuple of flat values; the test may call -/
inductive FlatV : V → Prop
  | int (i : Int) : FlatV (.int i)
  | bl (b : Bool) : FlatV (.bl b)
  | non : FlatV .non
  | str (x : Str) : FlatV (.str x)
theorem FlatV.u {v : V} {u : Value} (h : FlatV v) (r : RelV v u) : FlatU u := by
  cases h with
  | int i => obtain ⟨t, rfl⟩ := r; exact .int i t
  | bl b => cases r; exact .bl b
  | non => cases r; exact .non
  | str x => obtain ⟨t, rfl⟩ := r; exact .str x t
def numV (lo hi : Int) : V → Bool
  | .int i => decide (lo ≤ i) && decide (i ≤ hi)
  | _ => false
theorem numV_u {v : V} {u : Value} {lo hi : Int} (h : FlatV v) (r : RelV v u) : numU u lo hi = numV lo hi v := by
  cases h with
  | int i => obtain ⟨t, rfl⟩ := r; rfl
  | bl b => cases r; rfl
  | non => cases r; rfl
  | str x => obtain ⟨t, rfl⟩ := r; rfl
def EltD (X : Cx) (scope : Scope) (x : Str) (elt : Expr) (pb : V → Bool) : Prop :=
  ∀ (cenv : Env) (A' : Around) (E' : Value → Shared → Prop) (v : V) (u : Value) (s₂ : Shared) (m₂ : Str → Option Value), cenv.scope = scope → cenv.globals = mainGlobals → cenv.builtins = builtinsNs → A'.depth ≤ X.A.depth + 1 →
    Gnd X.K X.mg s₂.heap → s₂.heap.Ns cenv.locals m₂ → m₂ x = some u → RelV v u → FlatV v → wpAny (model X.prog X.w) A' (eval elt cenv) (fun y s₃ => y = .bool (pb v) ∧ Keeps s₂ s₃) E' s₂
/-- is_number(x, lo, hi), the bounds written -/
theorem elt_num {X : Cx} {scope : Scope} {x nm qual : Str} {st : Stmt} {f : Addr} {fd : FuncData} {p : Nat → Pos} {lo hi : Int} {k : Nat} {p1 p2 p3 p4 p5 : Pos} {j1 j2 : Nat} (F : Fun X.K nm qual st f fd) (hbody : defBody st = numBody p) (N : NumScope (defScope st)) (bd : Binds X.K fd ["value", "least", "most"] [])
    (hr : Room k X.A) (mi : X.mg "isinstance" = none) (mn : X.mg "int" = none) (mb : X.mg "bool" = none) (hm : X.mg nm = some (.ref f))
    (hk : scope.kind = .function) (hl : scope.names.lookup x = some .local) (hg : scope.names.lookup nm = some .globalImplicit) (hd : (x == ("__debug__" : Str)) = false := by decide) (hd2 : (nm == ("__debug__" : Str)) = false := by decide) :
    EltD X scope x (.Call (.Name nm p1) [.Name x p2, .Constant (.int lo) j1 p3, .Constant (.int hi) j2 p4] [] p5) (numV lo hi) := by
  intro cenv A' E' v u s₂ m₂ hs hG hB hdep g hn hv r fl
  have hk' : cenv.scope.kind = .function := by rw [hs]; exact hk
  refine wpAny_Call_Name_kw (Calls.Name_function_global hk' (show cenv.scope.names.lookup nm = some .globalImplicit by rw [hs]; exact hg) (Calls.loadGlobal_global (by rw [hG]; exact g.glob) hm ?_) hd2)
  refine PySem.W.callWith_K (h₀ := s₂.heap) g.kin F.kp ?_ (by rfl) (by rfl)
  refine Calls.spliced_cons (wpAny_Name (wpAny_loadName_local hk' (show cenv.scope.names.lookup x = some .local by rw [hs]; exact hl) hn hv ?_) hd)
  refine Calls.spliced_cons (wpAny_Constant_int (pos := p3) (k := j1) ?_)
  refine Calls.spliced_cons (wpAny_Constant_int (pos := p4) (k := j2) ?_)
  refine Calls.spliced_nil ⟨g.kin, ?_⟩
  exact raw_num (A := A') (s := { s₂ with toks := s₂.toks + 1 + 1 }) (Q := fun y s₃ => y = .bool (numV lo hi v) ∧ Keeps s₂ s₃) F hbody N bd g (by have := hr.dp; omega) mi mn mb (fl.u r) fun s' kp => ⟨by rw [numV_u fl r], Kp.trans (Kp.tok s₂ (s₂.toks + 1 + 1)) kp⟩
theorem vals_all {pb : V → Bool} {pu : Value → Bool} (h : ∀ v u, RelV v u → FlatV v → pu u = pb v) : ∀ {xs : List V} {us : List Value}, Vals xs us → (∀ x ∈ xs, FlatV x) → us.all pu = xs.all pb
  | _, _, .nil, _ => rfl
  | _, _, .cons r t, hf => by
    rw [List.all_cons, List.all_cons, h _ _ r (hf _ List.mem_cons_self), vals_all h t fun x hx => hf x (List.mem_cons_of_mem _ hx)]
/-- the test at place j -/
def trV (pb : V → Bool) (l : List V) (j : Nat) : Bool := match l[j]? with
  | some b => pb b
  | none => false
theorem trV_some {pb : V → Bool} {l : List V} {j : Nat} {b : V} (h : l[j]? = some b) : trV pb l j = pb b := by
  unfold trV
  rw [h]
theorem all_trV (l : List V) (pb : V → Bool) : (List.range l.length).all (trV pb l) = l.all pb := by
  rw [Bool.eq_iff_iff, List.all_eq_true, List.all_eq_true]
  constructor
  · intro h b hb
    obtain ⟨j, hj, e⟩ := List.getElem_of_mem hb
    have q := h j (List.mem_range.mpr hj)
    rw [trV_some (List.getElem?_eq_getElem hj), e] at q
    exact q
  · intro h j hj
    have hj' := List.mem_range.mp hj
    rw [trV_some (List.getElem?_eq_getElem hj')]
    exact h _ (List.getElem_mem hj')
section
variable {X : Cx} {pins : List (Addr × Obj)} {σ : L2.St} {H : Hp} {s : Shared}
/-- the generator g, its tests told by tr -/
def ReadyN (X : Cx) (pins : List (Addr × Obj)) (σ : L2.St) (H1 : Hp) (P : Addr) (n : Nat) (tr : Nat → Bool) (g : Addr) (s5 : Shared) : Prop :=
  ∃ (fp wr : List Addr) (G : Array GenState → Array GenState → Prop) (F : Nat → Value → Prop) (St : Nat → Shared → Prop),
    WalksS X.prog X.w X.A.in1 g fp wr G n F St ∧ St 0 s5 ∧ TruthOf X.prog X.w X.A.in1 F tr ∧
    ∀ s', Moved wr G s5 s' → ∃ H2, Tabbed P H1 H2 ∧ Inv X pins σ H2 s'
theorem gen_tup {c P : Addr} {elt iter : Expr} {x : Str} {px gpos : Pos} {scope : Scope} {pb : V → Bool} {te : TE} {k : Nat} {Q' : Value → Shared → Prop} {R : List V → Hp → Prop}
    (hr : Room k X.A) (TB : TabB X.base X.mg c P) (hcode : X.env.code = .ref c) (S : GenS X.env scope x) (hi : PE X iter te) (hel : EltD X scope x elt pb)
    (hs : ∀ v, genFold iter X.env v = pure v) (I : Inv X pins σ H s) (h : te σ H fun v H1 => ∃ a xs, v = .ref a ∧ SqT X.K H1 a xs ∧ (∀ y ∈ xs, FlatV y) ∧ TabG H1 P ∧ R xs H1)
    (hQ : ∀ xs H1 g s5, R xs H1 → ReadyN X pins σ H1 P xs.length (trV pb xs) g s5 → Q' (.ref g) s5) :
    wpAny (model X.prog X.w) X.A (eval (.GeneratorExp elt [⟨.Name x px, iter, [], 0⟩] scope gpos) X.env) Q' X.xe s := by
  refine wpAny_GeneratorExp_walksQD hr.hd S.co (closure_ok S.free) S.cell S.dot S.loc S.kind (by have := hr.dp; omega) (thn (hi.run pins s σ H _ I h) fun xv s1 ⟨v, H1, I1, r1, a, xs, ev, hT, hfl, ⟨ps, hP, ht⟩, q1⟩ => ?_) hs
  subst ev
  cases r1
  obtain ⟨its, rv, hTup, hz⟩ := I1.tuple hT
  have hTup : s1.heap.IsTuple a its.toArray := hTup
  refine wpAny_pyIter_tuple hTup ?_
  generalize ho : ({ cls := .type "tuple_iterator", data := .fields #[.ref a, .int 0 0] } : Obj) = o
  have hof : o.isFreed = false := by rw [← ho]; rfl
  have hPs : s1.heap.get? P = some { cls := .none, data := .fields ps } := I1.hok P _ hP
  have hPlt := Heap.lt_size hPs
  have halt : a < s1.heap.objs.size := by obtain ⟨_, e, _⟩ := hTup; exact Heap.lt_size e
  have haP : a ≠ P := fun z => by
    obtain ⟨ob, e1, e2, _⟩ := hTup
    rw [z, hPs] at e1
    cases e1
    cases e2
  have nP : ∀ b u, X.base.get? b = some u → b ≠ P := fun b u e z => by
    have q := (I1.bs b u e).2
    rw [z, hP] at q
    cases q
  have up1 : ∀ b u, s1.heap.get? b = some u → (s1.heap.push o).get? b = some u := fun b u e => Heap.get?_push_of_some _ e
  have hP2 := up1 P _ hPs
  have cd : PySem.W.CodeHd (s1.heap.push o) c P := TB.code.keeps fun b u e => up1 b u (I1.bk b u e)
  have lim2 : (s1.heap.push o).NoLimit := I1.nolimit.push o
  have sz2 : (s1.heap.push o).objs.size = s1.heap.objs.size + 1 := Heap.size_push ..
  have hcP : cStatics ≠ P := fun e => by
    obtain ⟨_, ⟨o', es, ep, ho, hd, _⟩, _⟩ := I1.nolimit
    rw [e, hPs] at ho
    cases ho
    cases hd
  have hcl : cStatics < s1.heap.objs.size := let ⟨_, hns, _⟩ := I1.nolimit; hns.lt
  have hstr : s1.heap.objs.size ≠ P := fun z => Nat.ne_of_lt hPlt z.symm
  have W := fun (A' : Around) (hA : A'.handled = none) => Walks.tuple (prog := X.prog) (w := X.w) hA s1.heap.objs.size a (Nat.ne_of_lt halt) its.toArray
  have hst : (s1.heap.push o).IsTupleIter s1.heap.objs.size a 0 ∧ (s1.heap.push o).IsTuple a its.toArray := ⟨by rw [← ho]; exact ⟨_, Heap.get?_push_size _ rfl, rfl, rfl⟩, hTup.at fun o' e => up1 a o' e⟩
  have hfp : ∀ b ∈ [s1.heap.objs.size, a], b ≠ P := fun b hb => by
    rcases List.mem_cons.mp hb with z | z
    · rw [z]; exact hstr
    · rw [List.mem_singleton.mp z]; exact haP
  have cont : ∀ (code : Value) (h3 : Heap) (tk : Nat) (more : Array Value), Heap.ExtBut P (s1.heap.push o) h3 → (s1.heap.push o).objs.size ≤ h3.objs.size → h3.get? P = some { cls := .none, data := .fields (ps ++ more) } → TriplesOk (ps ++ more).toList →
      wpAny (model X.prog X.w) X.A (builtinsFor X.env.globals X.env.builtins) (fun bi s₄ =>
        ∃ Ia fp wr n₀ Pf St₀ pz F, Value.ref s1.heap.objs.size = .ref Ia ∧ (∀ A' : Around, A'.handled = none → Walks X.prog X.w A' Ia fp wr n₀ Pf St₀) ∧ St₀ 0 s₄.heap ∧ (∀ b ∈ fp, b < s₄.heap.objs.size) ∧ s₄.heap.NoLimit ∧ cStatics ∉ wr ∧
          (∀ href : Heap, (∀ b o, s₄.heap.get? b = some o → href.get? b = some o) →
            QuietGenD X.prog X.w (genEnv scope (cloFrom X.env.cells scope.names []) s₄.heap.objs.size code bi X.env) x [] elt (List.range s₄.heap.objs.size) wr Pf pz F href (X.A.depth + 1) (X.A.units + 8)) ∧
          (∀ a h₅ tk gs, gs.bare = true → s₄.heap.objs.size < a → h₅.objs.size = a + 1 → (∀ b o, s₄.heap.get? b = some o → h₅.get? b = some o) →
            WalksS X.prog X.w X.A.in4 a (a :: s₄.heap.objs.size :: List.range s₄.heap.objs.size) (s₄.heap.objs.size :: wr) (GenOnlyQ s₄.gens.size) (passing pz n₀ 0).length
              (fun j y => ∃ i, (passing pz n₀ 0)[j]? = some i ∧ F i y) (GenAt X.prog X.w X.A.in4 a s₄.gens.size s₄.heap.objs.size (List.range s₄.heap.objs.size) wr pz n₀ F) →
            GenAt X.prog X.w X.A.in4 a s₄.gens.size s₄.heap.objs.size (List.range s₄.heap.objs.size) wr pz n₀ F 0 { s₄ with gens := s₄.gens.push gs, toks := tk, heap := h₅ } →
            Q' (.ref a) { s₄ with gens := s₄.gens.push gs, toks := tk, heap := h₅ })) X.xe { s1 with heap := h3, toks := tk } := by
    intro code h3 tk more hx hsz hP3 ht3
    obtain ⟨bm, ob, e1, e2, e3, e4, e5, e6, e7, e8⟩ := TB.bm
    have keep3 : ∀ b u, b ≠ P → s1.heap.get? b = some u → h3.get? b = some u := fun b u hb e => hx b u hb (up1 b u e)
    have base3 : ∀ b u, X.base.get? b = some u → h3.get? b = some u := fun b u e => keep3 b u (nP b u e) (I1.bk b u e)
    refine wpAny_builtinsFor (m := X.mg) (by rw [I1.ok.glob]; exact I1.mod.glob.keeps base3) e1 e2 (base3 _ _ e5) e6 e7 e8 ?_
    refine ⟨s1.heap.objs.size, [s1.heap.objs.size, a], [s1.heap.objs.size], its.toArray.size, (fun i v => its.toArray[i]? = some v), (fun i h => h.IsTupleIter s1.heap.objs.size a i ∧ h.IsTuple a its.toArray), (fun _ => true), (fun i y => ∃ v, xs[i]? = some v ∧ y = .bool (pb v)), rfl, W, ?_, fun b hb => ?_, lim2.extBut hx hcP, fun z => Nat.ne_of_lt hcl (List.mem_singleton.mp z), fun href hhref => ⟨fun A' E' i v s₂ m₂ hA _ _ hPv hn hm hk => ?_, fun A' E' i v s₂ m₂ hA hD _ hPv hp hn hm hk => ?_⟩, ?_⟩
    · exact (W X.A hr.hd).frame _ _ _ hst fun b hb u e => hx b u (hfp b hb) e
    · rcases List.mem_cons.mp hb with z | z
      · rw [z]
        show s1.heap.objs.size < h3.objs.size
        omega
      · rw [List.mem_singleton.mp z]
        show a < h3.objs.size
        have h9 : (a : Nat) < s1.heap.objs.size := halt
        have h8 : s1.heap.objs.size + 1 ≤ h3.objs.size := by omega
        exact Nat.lt_of_lt_of_le h9 (by omega)
    · rw [List.forIn_nil]
      exact wpAny_pure ⟨rfl, keeps_refl _⟩
    · have hPv' : its[i]? = some v := by simpa using hPv
      obtain ⟨vv, hvv, hrel⟩ : ∃ vv, xs[i]? = some vv ∧ RelV vv v := by
        have hlen := rv.length
        have hil : i < its.length := (List.getElem?_eq_some_iff.mp hPv').1
        have e1 : xs[i]? = some (xs[i]'(by omega)) := List.getElem?_eq_getElem (by omega)
        obtain ⟨u, h1, h2⟩ := rv.get e1
        rw [h1] at hPv'
        cases hPv'
        exact ⟨_, e1, h2⟩
      have gnd : Gnd X.K X.mg s₂.heap := by
        have m := I1.ok.mod
        have kk : ∀ b u, X.base.get? b = some u → s₂.heap.get? b = some u := fun b u e => hk b (List.mem_range.mpr (Heap.lt_size (base3 b u e))) (fun z => by
          have q := Heap.lt_size (I1.bk b u e)
          rw [List.mem_singleton.mp z] at q
          exact Nat.lt_irrefl _ q) u (hhref b u (base3 b u e))
        exact (Gnd.mk m.kin m.glob m.blt m.nolimit).keeps kk
      exact wpAny_mono (hel _ A' E' vv v s₂ m₂ rfl I1.ok.glob rfl hD gnd hn hm hrel (hfl vv (List.mem_of_getElem? hvv))) (fun y s3 r => ⟨⟨vv, hvv, r.1⟩, r.2⟩) fun _ _ e => e
    · intro g h5 tk5 gs hgb hag hsz5 hk5 W5 hat
      simp only [GxR.passing_true, List.length_range] at W5
      have en : its.toArray.size = xs.length := by rw [List.size_toArray]; exact rv.length.symm
      rw [en] at W5 hat
      refine hQ xs H1 g _ q1 ⟨_, _, _, _, _, W5.in4_1, hat, ?_, fun s' hm => ?_⟩
      · rintro j y sj Qj Ej ⟨i, hij, v, hv, rfl⟩ hQj
        obtain ⟨hj, ej⟩ := List.getElem?_eq_some_iff.mp hij
        rw [List.getElem_range] at ej
        subst ej
        have hQ2 : Qj (trV pb xs j) sj := hQj
        rw [trV_some hv] at hQ2
        exact wpAny_truthy_bool hQ2
      · have nwr : ∀ b u, s1.heap.get? b = some u → b ∉ h3.objs.size :: [s1.heap.objs.size] := fun b u e hb => by
          have hl := Heap.lt_size e
          rcases List.mem_cons.mp hb with z | z
          · rw [z] at hl
            have h9 : (h3.objs.size : Nat) < s1.heap.objs.size := hl
            omega
          · rw [List.mem_singleton.mp z] at hl
            exact Nat.lt_irrefl _ hl
        have J := inv_tab (more := more) (h' := s'.heap) (g' := s'.gens) (d' := s'.drawn) (t' := s'.toks) I1 hP (fun b u hb e => hm.heap b u (nwr b u e) (hk5 b u (keep3 b u hb e)))
          (hm.heap P _ (nwr P _ hPs) (hk5 P _ hP3)) (AllBare.movedS (I1.bare.push hgb) hm)
        rw [sh_eta s1 s' hm.os] at J
        exact ⟨upd H1 P (.tbl (ps ++ more)), ⟨⟨ps ++ more, upd_same, ht3⟩, fun b hb => upd_ne hb⟩, J⟩
  refine ⟨lim2, ?_⟩
  cases hf : codeAmong gpos ps.toList with
  | none =>
    refine wpAny_genexprCodeX hcode (cd.code hP2 ht) (cd.tab hP2) hf fun c' h' tk hx hge hlt hco' _ htab' _ => ?_
    obtain ⟨o1, vs, f1, tf, fl, tg, inF, tx, tt, op, _, _, _, _, _, _, _, _, _, htr, _⟩ := hco'
    exact cont _ h' tk _ hx (Nat.le_trans hge (Nat.le_of_lt hlt)) htab'.2 htr
  | some cv =>
    refine wpAny_genexprCode_hit hcode (cd.code hP2 ht) hf ?_
    refine cont cv (s1.heap.push o) s1.toks #[] (Heap.ExtBut.refl _ _) (Nat.le_refl _) ?_ ?_
    · rw [Array.append_empty]; exact hP2
    · rw [Array.append_empty]; exact ht
def tAllT (K : PySem.W.Frag) (P : Addr) (pb : V → Bool) (te : TE) : TE := fun σ H Q => te σ H fun v H1 => ∃ a xs, v = .ref a ∧ SqT K H1 a xs ∧ (∀ y ∈ xs, FlatV y) ∧ TabG H1 P ∧ ∀ H2, Tabbed P H1 H2 → Q (.bl (xs.all pb)) H2
theorem pe_allT {c P : Addr} {elt iter : Expr} {x : Str} {px p pos gpos : Pos} {scope : Scope} {pb : V → Bool} {te : TE} {k : Nat} (K : PySem.W.Frag) (hK : X.K = K)
    (hr : Room k X.A) (hg : Gl X "all") (hm : X.mg "all" = none) (TB : TabB X.base X.mg c P) (hcode : X.env.code = .ref c) (S : GenS X.env scope x) (hi : PE X iter te) (hel : EltD X scope x elt pb)
    (hs : ∀ v, genFold iter X.env v = pure v)
    (he : starEach [.GeneratorExp elt [⟨.Name x px, iter, [], 0⟩] scope gpos] X.env = (false, eval (.GeneratorExp elt [⟨.Name x px, iter, [], 0⟩] scope gpos) X.env) :: starEach [] X.env := by rfl) :
    PE X (.Call (.Name "all" p) [.GeneratorExp elt [⟨.Name x px, iter, [], 0⟩] scope gpos] [] pos) (tAllT K P pb te) := by
  subst hK
  refine ⟨fun pins s σ H Q I h => ?_⟩
  have hb : bootBuiltins "all" = some (.builtin "all") := by decide +kernel
  refine wpAny_Call_Name_kw (ld_blt I hg hm hb (PyProof.Rows.callWith_builtin1 ?_ he (by rfl)))
  rw [he]
  show wpAny _ _ (spliced ((false, eval (.GeneratorExp elt [⟨.Name x px, iter, [], 0⟩] scope gpos) X.env) :: backTo pos (starEach [] X.env))) _ _ s
  refine Calls.spliced_cons (gen_tup (R := fun xs H1 => ∀ H2, Tabbed P H1 H2 → Q (.bl (xs.all pb)) H2) hr TB hcode S hi hel hs I h fun xs H1 g s5 hR ⟨fp, wr, G, F, Sx, W, hst, htr, hI⟩ => Calls.spliced_nil ?_)
  refine call_all_walkS (W.self 0 _ _ _ hst ⟨g, fp, wr, G, _, F, Sx, _, rfl, W, hst, htr, fun s' hmv => ?_⟩)
  obtain ⟨H2, hT, J⟩ := hI s' hmv
  exact ⟨.bl _, H2, J, rfl, by rw [all_trV]; exact hR H2 hT⟩
end
/-! what is read -/
def flatD : PyData → Bool
  | .none => true
  | .bool _ => true
  | .int _ => true
  | .str _ => true
  | _ => false
def numD (lo hi : Int) : PyData → Bool
  | .int i => decide (lo ≤ i) && decide (i ≤ hi)
  | _ => false
theorem dq_flat {K : PySem.W.Frag} {B : Hp} {d : PyData} {v : V} (h : Dq K B v d) (hf : flatD d = true) : FlatV v ∧ ∀ lo hi, numV lo hi v = numD lo hi d := by
  cases h with
  | non => exact ⟨.non, fun _ _ => rfl⟩
  | bl b => exact ⟨.bl b, fun _ _ => rfl⟩
  | int i => exact ⟨.int i, fun _ _ => rfl⟩
  | str x => exact ⟨.str x, fun _ _ => rfl⟩
  | lst _ _ => cases hf
  | tup _ _ => cases hf
theorem dqs_flat {K : PySem.W.Frag} {B : Hp} : ∀ {l : List PyData} {xs : List V}, DqAll K B xs l → (∀ d ∈ l, flatD d = true) → (∀ y ∈ xs, FlatV y) ∧ ∀ lo hi, xs.all (numV lo hi) = l.all (numD lo hi)
  | [], _, h, _ => by cases h; exact ⟨fun y hy => (by cases hy), fun _ _ => rfl⟩
  | d :: l, _, h, hf => by
    cases h with
    | cons h1 h2 =>
      obtain ⟨a1, a2⟩ := dq_flat h1 (hf d List.mem_cons_self)
      obtain ⟨b1, b2⟩ := dqs_flat h2 fun x hx => hf x (List.mem_cons_of_mem _ hx)
      refine ⟨fun y hy => ?_, fun lo hi => by rw [List.all_cons, List.all_cons, a2, b2]⟩
      rcases List.mem_cons.mp hy with z | z
      · rw [z]; exact a1
      · exact b1 y z
theorem Wd.tabbed {K : PySem.W.Frag} {T : List Addr} {B : Hp} {O : Own} {H H2 : Hp} {P : Addr} (w : Wd K T B O H) (hP : P ∈ T) (h : Tabbed P H H2) : Wd K T B O H2 := by
  obtain ⟨t1, t2, t3⟩ := w.tab P hP
  obtain ⟨g2, k2⟩ := h
  refine ⟨fun b u e => ?_, fun p ao e => ?_, fun p hp => ?_⟩
  · rw [k2 b (fun y => by rw [y, t1] at e; cases e)]
    exact w.ex b u e
  · obtain ⟨h1, o, h2, h3⟩ := w.own p ao e
    exact ⟨h1, o, by rw [k2 p (fun y => by rw [y, t2] at e; cases e)]; exact h2, h3⟩
  · by_cases y : p = P
    · subst y; exact ⟨t1, t2, g2⟩
    · obtain ⟨h1, h2, qs, h3, h4⟩ := w.tab p hp
      exact ⟨h1, h2, qs, by rw [k2 p y]; exact h3, h4⟩
theorem ev_allN {c : Cb} {ps : Sl} {O : Own} {Φ : Af} {te : TE} {P : Addr} {lo hi : Int} (hP : P ∈ c.T) (h : EvW c te ps O fun a O1 => ∃ l, a = .d (.tuple l) ∧ (∀ d ∈ l, flatD d = true) ∧ Φ (.d (.bool (l.all (numD lo hi)))) O1) : EvW c (tAllT c.K P (numV lo hi) te) ps O Φ := by
  intro B σ H s w m Q q
  refine h B σ H s w m _ fun a O1 B1 u H1 ⟨l, e, hf, k⟩ e1 w1 r1 => ?_
  subst e
  cases r1 with
  | tup g d =>
    obtain ⟨a1, a2⟩ := dqs_flat d hf
    refine ⟨_, _, rfl, w1.ex.sqT (.inl g), a1, (w1.tab P hP).2.2, fun H2 hT => ?_⟩
    rw [a2]
    exact q _ O1 B1 _ H2 k e1 (w1.tabbed hP hT) (.bl _)
end BL

set_option Elab.async false
set_option linter.all false
set_option maxRecDepth 100000
set_option maxHeartbeats 4000000
namespace BL
open PySem PySem.Spec PyProof.Rows L2
/-! ## tuples whose object is known to have no dict: their methods can be called -/
section
variable {X : Cx}
theorem obj_frz {P : Program} {w : World} {H : Hp} {h : Heap} {a : Addr} {o : Obj} {xs : List V} {its : List Value} (hz : xs.length ≤ sizeLine) (r : Vals xs its) (e : h.get? a = some o) (ht : IsTup h a its.toArray) : ObjOk P w H h a (.frz o (.tup xs)) :=
  ⟨e, hz, its, r, ht⟩
/-- a new tuple: in either way -/
def NewT (H : Hp) (xs : List V) (Q : VK) : Prop := (∀ p, H p = none → Q (.ref p) (upd H p (.tup xs))) ∨ (∀ p o, H p = none → o.dict = none → Q (.ref p) (upd H p (.frz o (.tup xs))))
theorem new_tup {pins : List (Addr × Obj)} {σ : L2.St} {H : Hp} {s : Shared} {xs : List V} {its : List Value} {Q : VK} (I : Inv X pins σ H s) (hz : xs.length ≤ sizeLine) (r : Vals xs its) (q : NewT H xs Q) :
    EP X pins σ Q (.ref s.heap.objs.size) { s with heap := s.heap.push { cls := .type "tuple", data := .seq its.toArray } } := by
  rcases q with q | q
  · exact ⟨.ref s.heap.objs.size, _, I.laid (t' := s.toks) (o := .tup xs) (fun b ob q => Heap.get?_push_of_some _ q) (Nat.le_refl _) ⟨hz, its, r, IsTup.new _ _⟩, rfl, q _ (I.hok.fresh (Nat.le_refl _))⟩
  · exact ⟨.ref s.heap.objs.size, _, I.laid (t' := s.toks) (o := .frz { cls := .type "tuple", data := .seq its.toArray } (.tup xs)) (fun b ob q => Heap.get?_push_of_some _ q) (Nat.le_refl _) (obj_frz hz r (Heap.get?_push_size _ rfl) (IsTup.new _ _)), rfl, q _ _ (I.hok.fresh (Nat.le_refl _)) rfl⟩
/-- (a, b) -/
def tTupB (t : TA) : TE := fun σ H Q => t σ H fun xs H1 => xs.length ≤ sizeLine ∧ NewT H1 xs Q
theorem pe_tupB {es : List Expr} {x1 : Nat} {pos : Pos} {t : TA} (h : PA X es t) : PE X (.Tuple es x1 pos) (tTupB t) := by
  refine ⟨fun pins s σ H Q I hq => ?_⟩
  exact wpAny_Tuple_spliced (thn (h.run pos pins s σ H _ I hq) fun us s1 ⟨xs, H1, I1, r, z, q⟩ => ⟨by rw [← r.length]; exact z, new_tup I1 z r q⟩)
/-- t + u -/
def rCatF (K : PySem.W.Frag) : R2 := fun x y H Q => ∃ a b xs ys, x = .ref a ∧ y = .ref b ∧ SqT K H a xs ∧ SqT K H b ys ∧ xs.length + ys.length ≤ sizeLine ∧
  (xs = [] → Q (.ref b) H) ∧ (xs ≠ [] → ys = [] → Q (.ref a) H) ∧ (xs ≠ [] → ys ≠ [] → NewT H (xs ++ ys) Q)
theorem op_catF : OpR X (binaryOp .Add) (rCatF X.K) := by
  intro pins s σ H x y v u Q I rx ry h
  obtain ⟨a, b, xs, ys, rfl, rfl, ha, hb, hz, q0, q1, q2⟩ := h
  cases rx
  cases ry
  obtain ⟨its, r1, p1, _⟩ := I.tuple ha
  obtain ⟨its2, r2, p2, _⟩ := I.tuple hb
  by_cases hx : xs = []
  · subst hx
    cases r1
    exact cat_tup0 p1 p2 ⟨.ref b, H, I, rfl, q0 rfl⟩
  · refine HT.cat_tup p1 p2 (fun z => hx (r1.nil_iff.mp z)) (fun z => ⟨.ref a, H, I, rfl, q1 hx (r2.nil_iff.mp z)⟩) (fun z => ?_) (by rw [← r1.length, ← r2.length]; exact hz)
    exact new_tup I (by rw [List.length_append]; exact hz) (r1.append r2) (q2 hx fun w => z (r2.nil_iff.mpr w))
def rAddF (K : PySem.W.Frag) : R2 := orR (orR (rI0 fun i j => .int (i + j)) rAddStr) (orR rCat (rCatF K))
theorem op_addF : OpR X (binaryOp .Add) (rAddF X.K) := OpR.or (OpR.or op_add op_add_str) (OpR.or op_cat op_catF)
/-- t * n -/
def rRepF (K : PySem.W.Frag) : R2 := fun x y H Q => ∃ l k xs, x = .ref l ∧ y = .int k ∧ SqT K H l xs ∧ xs ≠ [] ∧ 2 ≤ k ∧ k ≤ 1000 ∧ xs.length ≤ 1000 ∧ NewT H (List.replicate k.toNat xs).flatten Q
theorem op_repF : OpR X (binaryOp .Mult) (rRepF X.K) := by
  intro pins s σ H x y v u Q I rx ry h
  obtain ⟨l, k, xs, rfl, rfl, hT, hne, h1, h2, hz, q⟩ := h
  cases rx
  obtain ⟨t, rfl⟩ := ry
  obtain ⟨its, r, ⟨⟨cls, dd, data, sl⟩, ho, hc, n, hd⟩, hs⟩ := I.tuple hT
  simp only at hc hd
  subst hc hd
  have hle : its.length = xs.length := r.length.symm
  have hn : its ≠ [] := fun e => hne (by
    rw [e] at hle
    exact List.eq_nil_of_length_eq_zero hle.symm)
  have hi : its.toArray.isEmpty = false := by
    cases its with
    | nil => exact absurd rfl hn
    | cons a b => rfl
  have hsz0 : its.toArray.size = xs.length := by rw [List.size_toArray, hle]
  have hm : ((its.toArray.size : Nat) : Int) * k ≤ 1000000 := by
    rw [hsz0]
    have a1 : ((xs.length : Nat) : Int) * k ≤ 1000 * k := Int.mul_le_mul_of_nonneg_right (by omega) (by omega)
    omega
  have flen : (List.replicate k.toNat its).flatten.length ≤ sizeLine := by
    rw [PyProof.Rows.lm_len_rep_flat, hle, sizeLine_eq]
    have a1 : k.toNat * xs.length ≤ 1000 * 1000 := Nat.mul_le_mul (by omega) hz
    omega
  have c0 : (decide (k < -(2 ^ 63)) || decide (k ≥ 2 ^ 63)) = false := by
    rw [decide_eq_false (by omega), decide_eq_false (by omega)] <;> rfl
  have c1 : (its.toArray.isEmpty || k == 1) = false := by
    rw [hi, Bool.false_or]
    exact beq_eq_false_iff_ne.mpr (by omega)
  have c2 : (decide (k ≤ 0) || its.toArray.isEmpty) = false := by
    rw [hi, Bool.or_false]
    exact decide_eq_false (by omega)
  have c4 : Builtin.Tuple.tupleTooMany (((its.toArray.size : Nat) : Int) * k) = false := by
    unfold Builtin.Tuple.tupleTooMany
    rw [sizeLine_eq]
    exact decide_eq_false (by omega)
  refine wpAny_binaryOp_repeat_ref (T := "tuple") (U := "int") (by decide) ⟨_, ho, rfl⟩ (fun s' => typeIs_int s' k t) noFill_tuple_mul F.fills_int_mul F.slot_int_rmul repeat_tuple F.slot_int_index.lookup
    (call_meets F.slot_int_rmul (typeIs_int s k t) F.entry_int_rmul (F.args_int_rmul_2 _ _) (int_rmul_tuple k t l its.toArray n dd sl)
      ⟨ho, rfl, ⟨_, ho, rfl⟩, call_meets F.slot_tuple_mul ⟨_, ho, rfl⟩ F.entry_tuple_mul (F.args_tuple_mul_2 _ _) (tuple_mulW l its.toArray n dd sl k t c0 c1 c2 (by omega) c4 (by rw [size_rep, List.size_toArray]; exact flen)) ⟨ho, ?_⟩⟩)
  rw [size_rep]
  exact new_tup I (by rw [PyProof.Rows.lm_len_rep_flat, sizeLine_eq]; have a1 : k.toNat * xs.length ≤ 1000 * 1000 := Nat.mul_le_mul (by omega) hz; omega) (r.rep k.toNat) q
def rMulF (K : PySem.W.Frag) : R2 := orR (rRepF K) (rMulB K)
theorem mulF (K : PySem.W.Frag) (h : X.K = K) : OpR X (binaryOp .Mult) (rMulF K) := h ▸ OpR.or op_repF (mulB X.K rfl)
theorem addF (K : PySem.W.Frag) (h : X.K = K) : OpR X (binaryOp .Add) (rAddF K) := h ▸ op_addF
/-- tuple(xs) -/
def rTupF (K : PySem.W.Frag) : List V → Hp → VK → Prop := fun xs H Q => ∃ p ys, xs = [.ref p] ∧ ((SqL K H p ys ∧ NewT H ys Q) ∨ (SqT K H p ys ∧ Q (.ref p) H))
theorem call_tupF : CallR X (.type "tuple") (rTupF X.K) := by
  intro pins s σ H xs us Q I r h
  obtain ⟨p, ys, rfl, h⟩ := h
  obtain ⟨u, rfl, rx⟩ := vals1 r
  cases rx
  rcases h with ⟨hq, q⟩ | ⟨hq, q⟩
  · obtain ⟨its, r', pl, hz⟩ := I.list hq
    have hlen := r'.length
    refine call_tuple_list pl.isList (fun h' kp => ?_) (by simp only [List.size_toArray] <;> omega)
    have I1 : Inv X pins σ H { s with heap := h' } := I.kept (t' := s.toks) kp
    exact new_tup I1 hz r' q
  · obtain ⟨its, r', pl, hz⟩ := I.tuple hq
    exact call_tuple_same pl ⟨.ref p, H, I, rfl, q⟩
theorem tupF (K : PySem.W.Frag) (h : X.K = K) : CallR X (.type "tuple") (rTupF K) := h ▸ call_tupF
/-- t.m(..), t a tuple without a dict -/
def tBMF (r : V → List V → Hp → VK → Prop) (to : TE) (t : TA) : TE := fun σ H Q => to σ H fun x H1 => (∃ a o xs, x = .ref a ∧ o.dict = none ∧ H1 a = some (.frz o (.tup xs))) ∧ t σ H1 fun vs H2 => r x vs H2 Q
theorem pe_bmF {o e : Expr} {es : List Expr} {to : TE} {t : TA} {name : Str} {apos cpos : Pos} {id : String} {r : V → List V → Hp → VK → Prop} (pa : PlainAttrs "tuple") (slot : Slot "tuple" name id) (hty : typeOf (.builtin id) = pure (.type "method_descriptor")) (hm : MtR X id r) (ho : PE X o to) (ha : PA X (e :: es) t)
    (hbase : attributeBase o name X.env (eval o X.env) = eval o X.env := by rfl)
    (hfew : ((backTo cpos (starEach (e :: es) X.env)).all (fun x => !x.1) && (backToKw cpos (keywordEach [] X.env)).all (fun x => x.1.isSome)
      && decide ((e :: es).length + ([] : List Keyword).length + (if ([] : List Keyword).isEmpty then 0 else 1) < 30)) = true := by rfl)
    (hline : (apos.endLine == cpos.line) = true := by rfl) (hs : starEach (e :: es) X.env = (false, eval e X.env) :: starEach es X.env := by rfl) (hplain : (backTo cpos (starEach es X.env)).any (·.1) = false := by rfl) :
    PE X (.Call (.Attribute o name apos) (e :: es) [] cpos) (tBMF r to t) := by
  refine ⟨fun pins s σ H Q I h => ?_⟩
  refine wpAny_Call_method_late hbase hfew hline rfl (thn (ho.run pins s σ H _ I h) fun v s1 ⟨x, H1, I1, r1, ⟨a, ob, xs, ex, hd, hf⟩, q1⟩ => ?_)
  subst ex
  cases r1
  obtain ⟨g1, _, its, _, ob', g2, g3, _⟩ := I1.hok a _ hf
  rw [g1] at g2
  cases g2
  refine ⟨"tuple", id, pa, slot, hty, ⟨ob, g1, g3⟩, fun b e => ?_, ?_⟩
  · cases e
    exact ⟨ob, g1, hd⟩
  have hA := ha.run cpos pins s1 σ H1 _ I1 q1
  rw [hs] at hA ⊢
  refine Calls.callWith_builtin (by show (false || (backTo cpos (starEach es X.env)).any (·.1)) = false; rw [hplain] <;> rfl) (Calls.evalArgs_plain ?_)
  exact thn hA fun us s2 ⟨vs, H2, I2, r2, q2⟩ => hm pins s2 σ H2 (.ref a) vs _ us Q I2 rfl r2 q2
end
/-! what is read -/
section
variable {c : Cb} {ps : Sl} {O : Own} {Φ : Af} {te : TE} {t : TA}
theorem rep_fd {K : PySem.W.Frag} {B : Hp} {l : List PyData} {u : V} (h : RepV K B (.f l) u) : RepV K B (.d (.tuple l)) u := by
  obtain ⟨a, xs, o, rfl, h1, h2, h3⟩ := h
  exact .tup (.inr ⟨o, h2⟩) h3
theorem rep_pd {K : PySem.W.Frag} {B : Hp} {l : List PyData} {u : V} (h : RepV K B (.p l) u) : RepV K B (.d (.tuple l)) u := by
  obtain ⟨a, xs, rfl, h2, h3⟩ := h
  exact .tup (.inl h2) h3
theorem newF {B H : Hp} {p : Addr} {o : Obj} {vs : List V} {l : List PyData} (w : Wd c.K c.T B O H) (hp : H p = none) (ho : o.dict = none) (d : DqAll c.K B vs l) :
    Ext B (upd B p (.frz o (.tup vs))) ∧ Wd c.K c.T (upd B p (.frz o (.tup vs))) O (upd H p (.frz o (.tup vs))) ∧ RepV c.K (upd B p (.frz o (.tup vs))) (.f l) (.ref p) :=
  have e := Ext.up (o := .frz o (.tup vs)) (w.freeB hp)
  ⟨e, w.frz hp _, _, _, o, rfl, ho, upd_same, e.dps _ _ d⟩
theorem newP {B H : Hp} {p : Addr} {vs : List V} {l : List PyData} (w : Wd c.K c.T B O H) (hp : H p = none) (d : DqAll c.K B vs l) :
    Ext B (upd B p (.tup vs)) ∧ Wd c.K c.T (upd B p (.tup vs)) O (upd H p (.tup vs)) ∧ RepV c.K (upd B p (.tup vs)) (.p l) (.ref p) :=
  have e := Ext.up (o := .tup vs) (w.freeB hp)
  ⟨e, w.frz hp _, _, _, rfl, upd_same, e.dps _ _ d⟩
/-- the kinds of tuples: t is made as told -/
inductive TupK : (List PyData → AV) → Prop
  | d : TupK fun l => .d (.tuple l)
  | f : TupK .f
  | p : TupK .p
theorem newK {B H : Hp} {vs : List V} {l : List PyData} {mk : List PyData → AV} (hk : TupK mk) (w : Wd c.K c.T B O H) (d : DqAll c.K B vs l) (k : Φ (mk l) O) {Q : VK} (q : ∀ a O' B' u H', Φ a O' → Ext B B' → Wd c.K c.T B' O' H' → RepV c.K B' a u → Q u H') : NewT H vs Q := by
  cases hk with
  | d => exact .inl fun p hp => by obtain ⟨e, w1, r⟩ := newT w hp d; exact q _ O _ _ _ k e w1 r
  | p => exact .inl fun p hp => by obtain ⟨e, w1, r⟩ := newP w hp d; exact q _ O _ _ _ k e w1 r
  | f => exact .inr fun p o hp ho => by obtain ⟨e, w1, r⟩ := newF w hp ho d; exact q _ O _ _ _ k e w1 r
theorem ev_tupB {mk : List PyData → AV} (hk : TupK mk) (h : EvAW c t ps O fun xs O1 => ∃ l, IsDs xs l ∧ l.length ≤ 1000 ∧ Φ (mk l) O1) : EvW c (tTupB t) ps O Φ := by
  intro B σ H s w m Q q
  refine h B σ H s w m _ fun xs O1 B1 us H1 ⟨l, el, hl, k⟩ e1 w1 r1 => ?_
  have el := el.eq
  subst el
  have hn := reps_len r1
  rw [List.length_map] at hn
  exact ⟨by rw [← hn]; exact small hl, newK hk w1 (dps_of r1) k fun a O' B' u H' k e => q a O' B' u H' k (e1.trans e)⟩
theorem cw_tupF {mk : List PyData → AV} (hk : TupK mk) {l : List PyData} (k : Φ (mk l) O) : calW c (rTupF c.K) [.d (.list l)] O Φ := fun B H us r w Q q => by
  obtain ⟨u, rfl, ru⟩ := rv1 r
  cases ru with
  | lst g d => exact ⟨_, _, rfl, .inl ⟨.inl (.inl (w.ex _ _ g)), newK hk w d k fun a O' B' u H' k e => q a O' B' u H' k e⟩⟩
theorem cw_tupT {l : List PyData} (k : Φ (.d (.tuple l)) O) : calW c (rTupF c.K) [.d (.tuple l)] O Φ := fun B H us r w Q q => by
  obtain ⟨u, rfl, ru⟩ := rv1 r
  have ru0 := ru
  cases ru with
  | tup g d => exact ⟨_, _, rfl, .inr ⟨.inl (w.ex.rd g), q _ O B _ H k (Ext.refl B) w ru0⟩⟩
theorem cw_tupI {l : List PyData} (k : Φ (.f l) O) : calW c (rTupF c.K) [.f l] O Φ := fun B H us r w Q q => by
  obtain ⟨u, rfl, ru⟩ := rv1 r
  have ru0 := ru
  obtain ⟨a, xs, o, rfl, h1, h2, h3⟩ := ru
  exact ⟨_, _, rfl, .inr ⟨.inl (w.ex.rd (.inr ⟨o, h2⟩)), q _ O B _ H k (Ext.refl B) w ru0⟩⟩
theorem ow_addFI {i j : Int} (k : Φ (.d (.int (i + j))) O) : opW c (rAddF c.K) (.d (.int i)) (.d (.int j)) O Φ := ow_l (ow_l (ow_I0 k))
theorem ow_addFS {i j : Str} (hl : i.length + j.length ≤ sizeLine) (k : Φ (.d (.str (i ++ j))) O) : opW c (rAddF c.K) (.d (.str i)) (.d (.str j)) O Φ := ow_l (ow_r fun B H u v ru rv w Q q =>
  ⟨i, j, str_of ru, str_of rv, hl, q _ O B _ H k (Ext.refl B) w (.str _)⟩)
theorem ow_addFL {l l2 : List PyData} (hl : l.length + l2.length ≤ sizeLine) (k : Φ (.d (.list (l ++ l2))) O) : opW c (rAddF c.K) (.d (.list l)) (.d (.list l2)) O Φ := ow_r (ow_l fun B H u v ru rv w Q q => by
  cases ru with
  | lst h1 d1 =>
    cases rv with
    | lst h2 d2 =>
      refine ⟨_, _, _, _, rfl, rfl, w.ex _ _ h1, w.ex _ _ h2, by rw [dqs_len d1, dqs_len d2]; exact hl, fun p hp => ?_⟩
      have z := newL w hp (dqs_app d1 d2)
      exact q _ O _ _ _ k z.1 z.2.1 z.2.2)
/-- t + u, plain data -/
theorem ow_addFT {l l2 : List PyData} (hl : l.length + l2.length ≤ sizeLine) (k : Φ (.d (.tuple (l ++ l2))) O) : opW c (rAddF c.K) (.d (.tuple l)) (.d (.tuple l2)) O Φ := ow_r (ow_r fun B H u v ru rv w Q q => by
  have ru0 := ru
  have rv0 := rv
  cases ru with
  | tup h1 d1 =>
    cases rv with
    | tup h2 d2 =>
      refine ⟨_, _, _, _, rfl, rfl, w.ex.sqT (.inl h1), w.ex.sqT (.inl h2), by rw [dqs_len d1, dqs_len d2]; exact hl, fun e1 => ?_, fun n1 e2 => ?_, fun n1 n2 => newK .d w (dqs_app d1 d2) k q⟩
      · subst e1
        cases d1
        exact q _ O B _ H k (Ext.refl B) w rv0
      · subst e2
        cases d2
        rw [List.append_nil] at k
        exact q _ O B _ H k (Ext.refl B) w ru0)
/-- t + u, u not empty -/
theorem ow_addF1 {l l2 : List PyData} (hl : l.length + l2.length ≤ sizeLine) (h2 : l2 ≠ []) (k : Φ (.f (l ++ l2)) O) : opW c (rAddF c.K) (.d (.tuple l)) (.f l2) O Φ := ow_r (ow_r fun B H u v ru rv w Q q => by
  have rv0 := rv
  cases ru with
  | tup h1 d1 =>
    obtain ⟨a, xs, o, rfl, g1, g2, d2⟩ := rv
    refine ⟨_, _, _, _, rfl, rfl, w.ex.sqT (.inl h1), w.ex.sqT (.inl (.inr ⟨o, g2⟩)), by rw [dqs_len d1, dqs_len d2]; exact hl, fun e1 => ?_, fun n1 e2 => ?_, fun n1 n2 => newK .f w (dqs_app d1 d2) k q⟩
    · subst e1
      cases d1
      exact q _ O B _ H k (Ext.refl B) w rv0
    · subst e2
      cases d2
      exact absurd rfl h2)
/-- t + u, t not empty -/
theorem ow_addF2 {l l2 : List PyData} (hl : l.length + l2.length ≤ sizeLine) (h1 : l ≠ []) (k : Φ (.f (l ++ l2)) O) : opW c (rAddF c.K) (.f l) (.d (.tuple l2)) O Φ := ow_r (ow_r fun B H u v ru rv w Q q => by
  have ru0 := ru
  obtain ⟨a, xs, o, rfl, g1, g2, d1⟩ := ru
  cases rv with
  | tup hb d2 =>
    refine ⟨_, _, _, _, rfl, rfl, w.ex.sqT (.inl (.inr ⟨o, g2⟩)), w.ex.sqT (.inl hb), by rw [dqs_len d1, dqs_len d2]; exact hl, fun e1 => ?_, fun n1 e2 => ?_, fun n1 n2 => newK .f w (dqs_app d1 d2) k q⟩
    · subst e1
      cases d1
      exact absurd rfl h1
    · subst e2
      cases d2
      rw [List.append_nil] at k
      exact q _ O B _ H k (Ext.refl B) w ru0)
theorem ow_mulFI {i j : Int} (hc : CMulW i j) (k : Φ (.d (.int (i * j))) O) : opW c (rMulF c.K) (.d (.int i)) (.d (.int j)) O Φ := ow_r (ow_mulBI hc k)
theorem ow_mulFS {i j : Int} (hc : CMul i j) (k : Φ (.d (.int (i * j))) O) : opW c (rMulF c.K) (.d (.int i)) (.d (.int j)) O Φ := ow_r (ow_mulBS hc k)
theorem ow_mulFL {l : List PyData} {n : Int} (h1 : -(2 ^ 63) ≤ n) (h2 : n < 2 ^ 63) (hl : l.length * n.toNat ≤ sizeLine) (k : Φ (.d (.list (List.replicate n.toNat l).flatten)) O) : opW c (rMulF c.K) (.d (.list l)) (.d (.int n)) O Φ := ow_r (ow_mulBL h1 h2 hl k)
theorem ow_mulFT {l : List PyData} {n : Int} (h0 : l ≠ []) (h1 : 1 ≤ n) (h2 : n ≤ 1000) (hl : l.length ≤ 1000) (k : Φ (.d (.tuple (List.replicate n.toNat l).flatten)) O) : opW c (rMulF c.K) (.d (.tuple l)) (.d (.int n)) O Φ := ow_r (ow_mulBT h0 h1 h2 hl k)
theorem ow_mulFF {l : List PyData} {n : Int} (h0 : l ≠ []) (h1 : 1 ≤ n) (h2 : n ≤ 1000) (hl : l.length ≤ 1000) (k : Φ (.f (List.replicate n.toNat l).flatten) O) : opW c (rMulF c.K) (.f l) (.d (.int n)) O Φ := fun B H u v ru rv w Q q => by
  have ru0 := ru
  cases rv
  obtain ⟨a, xs, o, rfl, g1, g2, d⟩ := ru
  have g3 := w.ex.rd (.inr ⟨o, g2⟩)
  by_cases e : n = 1
  · subst e
    refine .inr (.inr (.inl ⟨_, _, rfl, rfl, .inl g3, q _ O B _ H k (Ext.refl B) w ?_⟩))
    have e2 : (List.replicate (1 : Int).toNat l).flatten = l := by simp
    rw [e2]
    exact ru0
  · refine .inl ⟨_, n, _, rfl, rfl, .inl g3, fun z => h0 ?_, by omega, h2, by rw [dqs_len d]; exact hl, newK .f w (dqs_rep d n.toNat) k q⟩
    have := dqs_len d
    rw [z] at this
    exact List.eq_nil_of_length_eq_zero this.symm
/-- a slot's tuple, as data -/
theorem ev_varF {i : Nat} {l : List PyData} (h : ps[i]? = some (some (.f l))) (k : Φ (.d (.tuple l)) O) : EvW c (tVar i) ps O Φ := fun B σ H s w m Q q => by
  obtain ⟨u, h1, h2⟩ := s.at_ i _ h
  exact ⟨u, h1, q _ O B u H k (Ext.refl B) w (rep_fd h2)⟩
theorem ev_varP {i : Nat} {l : List PyData} (h : ps[i]? = some (some (.p l))) (k : Φ (.d (.tuple l)) O) : EvW c (tVar i) ps O Φ := fun B σ H s w m Q q => by
  obtain ⟨u, h1, h2⟩ := s.at_ i _ h
  exact ⟨u, h1, q _ O B u H k (Ext.refl B) w (rep_pd h2)⟩
theorem ev_bmF {r : V → List V → Hp → VK → Prop} (h : EvW c te ps O fun x O1 => ∃ l, x = .f l ∧ EvAW c t ps O1 fun xs O2 => mtW c r (.d (.tuple l)) xs O2 Φ) : EvW c (tBMF r te t) ps O Φ := by
  intro B σ H s w m Q q
  refine h B σ H s w m _ fun x O1 B1 u H1 ⟨l, ex, h1⟩ e1 w1 r1 => ?_
  subst ex
  obtain ⟨a, xs, o, rfl, g1, g2, d⟩ := id r1
  refine ⟨⟨a, o, xs, rfl, g1, w1.ex _ _ g2⟩, h1 B1 σ H1 (s.up e1) w1 (c.mono _ _ e1 m) _ fun ys O2 B2 us H2 h2 e2 w2 r2 => ?_⟩
  exact h2 B2 H2 _ us (e2.rep (rep_fd r1)) r2 w2 _ fun a O3 B3 z H3 h3 e3 w3 r3 => q a O3 B3 z H3 h3 ((e1.trans e2).trans e3) w3 r3
end
end BL

set_option Elab.async false
set_option linter.all false
set_option maxRecDepth 100000
set_option maxHeartbeats 4000000
namespace BL
open PySem PySem.Spec PyProof.Rows L2 RZ
/-! ## t[::-1] -/
theorem sliceApplied_back {prog : Program} {w : World} {A : Around} {E : Value → Shared → Prop} {s : Shared} {sl : Addr} {vl vu vs : Value} {n : Nat} {Q : Int × Int × Nat → Shared → Prop} (hs : s.heap.IsSliceOf sl vl vu vs) (pl : IsPart vl none) (pu : IsPart vu none) (ps : IsPart vs (some (-1)))
    (h : Q ((n : Int) - 1, -1, n) s) : wpAny (model prog w) A (Builtin.Slice.sliceApplied (.ref sl) (pure (n : Int))) Q E s := by
  obtain ⟨os, hos, hcs, hds⟩ := id hs
  unfold Builtin.Slice.sliceApplied Builtin.Slice.sliceFields
  refine wpAny_bind (wpAny_bind (wpAny_field hos hds (x := vl) rfl (wpAny_bind (wpAny_field hos hds (x := vu) rfl (wpAny_bind (wpAny_field hos hds (x := vs) rfl (wpAny_pure ?_)))))))
  refine wpAny_bind (HT.slicePart_ ps ?_)
  show wpAny _ _ (if ((-1 : Int) == 0) = true then _ else _) _ _ s
  rw [if_neg (by decide)]
  refine wpAny_bind (HT.slicePart_ pl (wpAny_bind (HT.slicePart_ pu (wpAny_bind (wpAny_pure ?_)))))
  show wpAny _ _ (match Builtin.Slice.sliceAdjust none none (-1) (n : Int) with | (lo, hi) => pure (lo, (-1 : Int), Builtin.Slice.slicePlaces lo hi (-1))) _ _ s
  have e1 : Builtin.Slice.sliceAdjust none none (-1) (n : Int) = ((n : Int) - 1, -1) := by
    unfold Builtin.Slice.sliceAdjust
    simp
  rw [e1]
  show wpAny _ _ (pure ((n : Int) - 1, (-1 : Int), Builtin.Slice.slicePlaces ((n : Int) - 1) (-1) (-1))) _ _ s
  have e2 : Builtin.Slice.slicePlaces ((n : Int) - 1) (-1) (-1) = n := by
    unfold Builtin.Slice.slicePlaces
    rw [if_neg (by decide)]
    by_cases hn : n = 0
    · subst hn; decide
    · rw [if_pos (by omega)]
      have : -(-1 : Int) = 1 := by decide
      rw [this, Int.ediv_one]
      omega
  rw [e2]
  exact wpAny_pure h
theorem pick_back (xs : Array Value) : ((List.range xs.size).filterMap fun (m : Nat) => xs[((xs.size : Int) - 1 + (m : Int) * -1).toNat]?).toArray = xs.toList.reverse.toArray := by
  congr 1
  apply List.ext_getElem?
  intro i
  have e : ∀ m ∈ List.range xs.size, xs[((xs.size : Int) - 1 + (m : Int) * -1).toNat]? = some (xs.toList.reverse.getD m .none) := by
    intro m hm
    have hm := List.mem_range.mp hm
    have e1 : ((xs.size : Int) - 1 + (m : Int) * -1).toNat = xs.size - 1 - m := by omega
    rw [e1, Array.getElem?_eq_getElem (by omega)]
    congr 1
    rw [List.getD_eq_getElem?_getD, List.getElem?_eq_getElem (by simp; exact hm), List.getElem_reverse]
    simp
  have fm : ∀ (l : List Nat) (f : Nat → Option Value) (g : Nat → Value), (∀ m ∈ l, f m = some (g m)) → l.filterMap f = l.map g := by
    intro l f g
    induction l with
    | nil => intro _; rfl
    | cons a l ih =>
      intro h
      rw [List.filterMap_cons, h a List.mem_cons_self, List.map_cons]
      dsimp only
      rw [ih fun m hm => h m (List.mem_cons_of_mem _ hm)]
  rw [fm _ _ _ e, List.getElem?_map]
  by_cases hi : i < xs.size
  · rw [List.getElem?_range hi, List.getElem?_eq_getElem (by simp; exact hi)]
    simp [List.getD_eq_getElem?_getD, hi]
  · rw [List.getElem?_eq_none (by simp; omega), List.getElem?_eq_none (by simp; omega)]
    rfl
theorem getItem_tuple_back {prog : Program} {w : World} {A : Around} {E : Value → Shared → Prop} {s : Shared} {t sl : Addr} {items : Array Value} {vl vu vs : Value} {Q : Value → Shared → Prop} (ht : IsTup s.heap t items) (hs : s.heap.IsSliceOf sl vl vu vs) (pl : IsPart vl none) (pu : IsPart vu none) (ps : IsPart vs (some (-1)))
    (h : Q (.ref s.heap.objs.size) { s with heap := s.heap.push { cls := .type "tuple", data := .seq items.toList.reverse.toArray } })
    (hsz : items.size ≤ sizeLine) : wpAny (model prog w) A (getItem (.ref t) (.ref sl)) Q E s := by
  have htake : sizeOk (.seq items.toList.reverse.toArray) := by
    show items.toList.reverse.toArray.size ≤ sizeLine
    rw [List.size_toArray, List.length_reverse, Array.length_toList]
    exact hsz
  obtain ⟨os, hos, hcs, hds⟩ := id hs
  have hTs : s.TypeIs (.ref sl) "slice" := ⟨os, hos, hcs⟩
  unfold getItem
  try with_reducible refine wpAny_holding ?_
  first | refine wpAny_bind (wpAny_pure ?_) | skip
  refine wpAny_bind (wpAny_sequenceKey ht.typeIs (by decide) ?_)
  refine wpAny_bind (wpAny_callSpecial?_slot (name := Str.ofString "__getitem__") ht.typeIs PyProof.Rows.slot_tuple_getitem
    (wpAny_call_entry PyProof.Rows.slot_tuple_getitem ht.typeIs PyProof.Rows.entry_tuple_getitem ?_ (PyProof.Rows.args_tuple_getitem _ _)))
  show wpAny _ _ (Builtin.Tuple.tupleItemsOf (.ref t) >>= _) _ _ s
  refine wpAny_bind (PyProof.Rows.tupleItemsOf_ ht ?_)
  refine wpAny_bind (wpAny_typeOf hTs ?_)
  rw [if_pos (by decide)]
  refine wpAny_bind (sliceApplied_back hs pl pu ps ?_)
  show wpAny _ _ (if (((items.size : Int) - 1) == 0 && (-1 : Int) == 1 && items.size == items.size) = true then _ else _) _ _ s
  rw [if_neg (by simp), pick_back]
  first
    | exact wpAny_bind (m := Builtin.Tuple.tupleExact _) (wpAny_newObj_type (wpAny_pure ⟨_, rfl, wpAny_pure h⟩) htake)
    | exact wpAny_bind (m := Builtin.Tuple.tupleExact _) (wpAny_newObj_type (wpAny_bind (wpAny_pure (wpAny_pure ⟨_, rfl, wpAny_pure h⟩))) htake)
    | exact wpAny_bind (wpAny_bind (m := Builtin.Tuple.tupleExact _) (wpAny_newObj_type (wpAny_pure (wpAny_pure ⟨_, rfl, wpAny_pure h⟩)) htake))
    | exact wpAny_bind (wpAny_bind (m := Builtin.Tuple.tupleExact _) (wpAny_newObj_type (wpAny_pure ⟨_, rfl, wpAny_pure h⟩) htake))
def tRevT (K : PySem.W.Frag) (te : TE) : TE := fun σ H Q => te σ H fun x H1 => ∃ a xs, x = .ref a ∧ SqT K H1 a xs ∧ ∀ p, H1 p = none → Q (.ref p) (upd H1 p (.tup xs.reverse))
section
variable {X : Cx}
theorem pe_revT {e : Expr} {te : TE} {k : Nat} {p1 p2 p3 pos : Pos} (K : PySem.W.Frag) (hK : X.K = K) (he : PE X e te) : PE X (.Subscript e (.Slice none none (some (.UnaryOp .USub (.Constant (.int 1) k p1) p2)) p3) pos) (tRevT K te) := by
  subst hK
  refine ⟨fun pins s σ H Q I h => ?_⟩
  refine Subscript_ (thn (he.run pins s σ H _ I h) fun v s1 ⟨x, H1, I1, r1, q1⟩ => ?_)
  obtain ⟨a, xs, ex, hx, q⟩ := q1
  subst ex
  cases r1
  have hst : PO X (some (.UnaryOp .USub (.Constant (.int 1) k p1) p2)) (tPart (tUn (rU fun i => .int (-i)) (tC (.int 1)))) := po_some (pe_un un_neg pe_int)
  refine wpAny_Slice (thn (po_none.run pins s1 σ H1 (fun o H2 => o = none ∧ H2 = H1) I1 ⟨rfl, rfl⟩) fun vl s2 ⟨l, H2, I2, pl, el, e2⟩ => ?_)
  subst el e2
  refine thn (po_none.run pins s2 σ H2 (fun o H3 => o = none ∧ H3 = H2) I2 ⟨rfl, rfl⟩) fun vu s3 ⟨u, H3, I3, pu, eu, e3⟩ => ?_
  subst eu e3
  refine thn (hst.run pins s3 σ H3 (fun o H4 => o = some (-1) ∧ H4 = H3) I3 ⟨1, rfl, -1, rfl, rfl, rfl⟩) fun vs s4 ⟨o, H4, I4, ps, eo, e4⟩ => ?_
  subst eo e4
  have I5 : Inv X pins σ H4 { s4 with heap := s4.heap.push { cls := .type "slice", data := .fields #[vl, vu, vs] } } := I4.kept (t' := s4.toks) fun b ob q => Heap.get?_push_of_some _ q
  obtain ⟨its, r, ht, hz⟩ := I5.tuple hx
  have hlen := r.length
  show wpAny (model X.prog X.w) X.A (subscriptTail e (.Slice none none (some (.UnaryOp .USub (.Constant (.int 1) k p1) p2)) p3) (.ref a) (.ref s4.heap.objs.size)) (EP X pins σ Q) X.xe { s4 with heap := s4.heap.push { cls := .type "slice", data := .fields #[vl, vu, vs] } }
  refine tail_any (ops := [.ref a, .ref s4.heap.objs.size]) ht.typeIs (PyProof.Rows.slot_tuple_getitem.lookup) ?_ (by with_unfolding_all rfl)
  refine getItem_tuple_back ht (Heap.IsSliceOf.new _ vl vu vs) pl pu ps ?_ (by rw [List.size_toArray]; omega)
  refine ⟨.ref _, _, I5.laid (t' := s4.toks) (o := .tup xs.reverse) (fun b ob q => Heap.get?_push_of_some _ q) (Nat.le_refl _) ?_, rfl, q _ (I5.hok.fresh (Nat.le_refl _))⟩
  exact ⟨by rw [List.length_reverse]; exact hz, _, r.reverse, IsTup.new _ _⟩
/-- t.index(n), ints -/
def rTupIdx (K : PySem.W.Frag) : V → List V → Hp → VK → Prop := fun x xs H Q => ∃ p, ∃ ys : List Int, ∃ (z : Int) (j : Nat), x = .ref p ∧ xs = [.int z] ∧ SqT K H p (ys.map V.int) ∧ ys[j]? = some z ∧ (∀ m, m < j → ys[m]? ≠ some z) ∧ Q (.int (j : Nat)) H
theorem mt_tupIdx : MtR X "tuple.index" (rTupIdx X.K) := by
  intro pins s σ H x xs v us Q I rx rs h
  obtain ⟨p, ys, z, j, rfl, rfl, hq, hy, hno, q⟩ := h
  cases rx
  obtain ⟨u, rfl, t, rfl⟩ := vals1 rs
  obtain ⟨its, r, pl, hz⟩ := I.tuple hq
  obtain ⟨⟨cls, dd, dt, sl⟩, ho, hc, n, hd⟩ := pl
  simp only at hc hd
  subst hc
  subst hd
  have hl : its.toArray.size = ys.length := by rw [List.size_toArray, ← r.length, List.length_map]
  have hj : j < its.toArray.size := by rw [hl]; exact (List.getElem?_eq_some_iff.mp hy).1
  have at' : ∀ (m : Nat) (hm : m < its.toArray.size), ∃ y t', ys[m]? = some y ∧ its.toArray[m] = Value.int y t' := fun m hm => by
    have hm' : m < ys.length := by rw [← hl]; exact hm
    obtain ⟨w, hw, t', hw'⟩ := r.get (i := m) (x := .int ys[m]) (by simp [hm'])
    refine ⟨ys[m], t', List.getElem?_eq_getElem hm', ?_⟩
    have e := (List.getElem?_eq_some_iff.mp hw).2
    rw [← hw', ← e]
    simp
  refine call_meets PySem.F.slot_tuple_index ⟨_, ho, rfl⟩ PySem.F.entry_tuple_index (PySem.F.args_tuple_index_2 _ _) (TI.tuple_indexAt p its.toArray n dd sl (.int z t) (eqU (.int z)) j hj ?_ ?_)
    ⟨ho, fun w hw => mem_eqAt (x := .int z) ⟨t, rfl⟩ rfl r (flat_ints ys) w (by simpa using hw), ⟨.int (j : Nat), H, I.tok _, ⟨_, rfl⟩, q⟩⟩
  · obtain ⟨y, t', h1, h2⟩ := at' j hj
    rw [hy] at h1
    cases h1
    rw [h2]
    show (z == z) = true
    exact beq_self_eq_true z
  · intro m hm hmj
    obtain ⟨y, t', h1, h2⟩ := at' m hm
    rw [h2]
    show (y == z) = false
    refine beq_eq_false_iff_ne.mpr fun e => hno m hmj ?_
    rw [h1, e]
end
/-! what is read -/
section
variable {c : Cb} {ps : Sl} {O : Own} {Φ : Af} {te : TE}
theorem ev_revT (h : EvW c te ps O fun a O1 => ∃ l : List PyData, a = .d (.tuple l) ∧ Φ (.d (.tuple l.reverse)) O1) : EvW c (tRevT c.K te) ps O Φ := by
  intro B σ H s w m Q q
  refine h B σ H s w m _ fun a O1 B1 u H1 ⟨l, e, k⟩ e1 w1 r1 => ?_
  subst e
  cases r1 with
  | tup g d =>
    refine ⟨_, _, rfl, w1.ex.sqT (.inl g), fun p hp => ?_⟩
    have hrev : DqAll c.K B1 (List.reverse _) l.reverse := dps_of (by rw [show l.reverse.map AV.d = (l.map AV.d).reverse from (List.map_reverse ..)]; exact reps_rev (reps_of d))
    obtain ⟨e2, w2, d2⟩ := newT w1 hp hrev
    exact q _ O1 _ _ _ k (e1.trans e2) w2 d2
theorem mw_tupIdx {ys : List Int} {z : Int} {j : Nat} (hj : ys[j]? = some z) (hn : ∀ m, m < j → ys[m]? ≠ some z) (k : Φ (.d (.int j)) O) : mtW c (rTupIdx c.K) (.d (.tuple (ys.map .int))) [.d (.int z)] O Φ := fun B H u us r rs w Q q => by
  obtain ⟨v, rfl, rv⟩ := rv1 rs
  cases rv
  cases r with
  | tup g d =>
    have e := dqs_ints d
    subst e
    exact ⟨_, ys, z, j, rfl, rfl, .inl (w.ex.rd g), hj, hn, q _ O B _ H k (Ext.refl B) w (.int _)⟩
theorem ow_isB {a b : Bool} (k : Φ (.d (.bool (decide (a = b)))) O) : opW c rIsB (.d (.bool a)) (.d (.bool b)) O Φ := fun B H u v ru rv w Q q =>
  ⟨a, b, bl_of ru, bl_of rv, q _ O B _ H k (Ext.refl B) w (.bl _)⟩
theorem ow_notB {a b : Bool} (k : Φ (.d (.bool (!decide (a = b)))) O) : opW c rNotB (.d (.bool a)) (.d (.bool b)) O Φ := fun B H u v ru rv w Q q =>
  ⟨a, b, bl_of ru, bl_of rv, q _ O B _ H k (Ext.refl B) w (.bl _)⟩
theorem cw_sum {ns : List Int} (k : Φ (.d (.int ns.sum)) O) : calW c (rSum c.K) [.d (.list (ns.map .int))] O Φ := fun B H us r w Q q => by
  obtain ⟨u, rfl, r1⟩ := rv1 r
  cases r1 with
  | lst g d =>
    have e := dqs_ints d
    subst e
    exact ⟨_, ns, rfl, .inl (.inl (w.ex _ _ g)), q _ O B _ H k (Ext.refl B) w (.int _)⟩
theorem cw_divmod {i j : Int} (hc : CDivP i j) (k : Φ (.d (.tuple [.int (i / j), .int (i % j)])) O) : calW c (fun xs H Q => ∃ i j, xs = [.int i, .int j] ∧ CDivP i j ∧ ∀ p, H p = none → Q (.ref p) (upd H p (.tup [.int (i / j), .int (i % j)]))) [.d (.int i), .d (.int j)] O Φ := fun B H us r w Q q => by
  obtain ⟨u, v, rfl, r1, r2⟩ := rv2 r
  refine ⟨i, j, by rw [int_of r1, int_of r2], hc, fun p hp => ?_⟩
  obtain ⟨e1, w1, d1⟩ := newT w hp (.cons (.int (i / j)) (.cons (.int (i % j)) .nil))
  exact q _ O _ _ _ k e1 w1 d1
theorem divP {i j : Int} (h0 : 0 < j) (h : j.natAbs.log2 < 9000) : CDivP i j := ⟨h0, PyProof.noPylong_of_log2 h⟩
/-- for a, b in zip(t, u), tuples of data -/
abbrev srcZ (l m : List PyData) : Src := ⟨min l.length m.length, fun i => .d (.tuple [l.getD i .none, m.getD i .none]), fun _ => True⟩
theorem is_zipT {ta : TA} {Φ : Src → Own → Prop} (h : EvAW c ta ps O fun as O1 => ∃ l m, as = [.d (.tuple l), .d (.tuple m)] ∧ Φ (srcZ l m) O1) : IsW c (iZipA c.K ta) ps O Φ := by
  intro B σ H s w m R q
  refine h B σ H s w m _ fun as O1 B1 us H1 ⟨l, l2, e, k⟩ e1 w1 r1 => ?_
  subst e
  obtain ⟨u, v, rfl, r2, r3⟩ := rv2 r1
  cases r2 with
  | tup g d =>
    cases r3 with
    | tup g2 d2 =>
      rename_i a xs a2 xs2
      have hn : min l.length l2.length = min xs.length xs2.length := by rw [dqs_len d, dqs_len d2]
      refine ⟨_, _, xs, xs2, rfl, .inr ⟨w1.ex.sqT (.inl g), w1.ex.sqT (.inl g2), q _ O1 B1 H1 _ k e1 w1 ⟨fun H => SqT c.K H a xs ∧ SqT c.K H a2 xs2, YPair (fun i => xs[i]?) (fun i => xs2[i]?), ⟨?_, ?_, ?_⟩, fun B2 O2 H2 e2 w2 _ => ⟨w2.ex.sqT (e2.sqT (.inl g)), w2.ex.sqT (e2.sqT (.inl g2))⟩, ?_⟩⟩⟩
      · rintro i H hi ⟨h1, h2⟩
        have hi : i < min l.length l2.length := hi
        have i1 : i < xs.length := by omega
        have i2 : i < xs2.length := by omega
        exact ⟨xs, xs2, xs[i], xs2[i], h1, h2, List.getElem?_eq_getElem i1, List.getElem?_eq_getElem i2⟩
      · rintro H ⟨h1, h2⟩
        exact ⟨xs, xs2, h1, h2, by show xs.length ≤ min l.length l2.length ∨ xs2.length ≤ min l.length l2.length; omega⟩
      · rintro i H x H' hi ⟨h1, h2⟩ ⟨T, y, z, e, hT, eH, g1, g3⟩
        exact ⟨T, y, z, e, hT, eH, g1 xs h1, g3 xs2 h2⟩
      · rintro i H x H' B2 O2 hi e2 w2 _ ⟨T, y, z, rfl, hT, rfl, g1, g3⟩
        have q1 := dqs_getD (e2.dps _ _ d) g1
        have q2 := dqs_getD (e2.dps _ _ d2) g3
        obtain ⟨e3, w3, d3⟩ := newT w2 hT (.cons q1 (.cons q2 .nil))
        exact ⟨_, e3, w3, d3⟩
end
end BL

set_option Elab.async false
set_option linter.all false
set_option maxRecDepth 100000
set_option maxHeartbeats 4000000
namespace BL
open PySem PySem.Spec PyProof.Rows L2 GxR
/-! ## all(test(a, b) for a, b in zip(t, u)), tuples of flat values; the test may call -/
def EltZ (X : Cx) (scope : Scope) (xa xb : Str) (elt : Expr) (okb : V → Prop) (pb : V → V → Bool) : Prop :=
  ∀ (cenv : Env) (A' : Around) (E' : Value → Shared → Prop) (v1 v2 : V) (u1 u2 : Value) (s₂ : Shared) (m₂ : Str → Option Value), cenv.scope = scope → cenv.globals = mainGlobals → cenv.builtins = builtinsNs → A'.depth ≤ X.A.depth + 1 →
    Gnd X.K X.mg s₂.heap → s₂.heap.Ns cenv.locals m₂ → m₂ xa = some u1 → m₂ xb = some u2 → RelV v1 u1 → RelV v2 u2 → FlatV v1 → okb v2 → wpAny (model X.prog X.w) A' (eval elt cenv) (fun y s₃ => y = .bool (pb v1 v2) ∧ Keeps s₂ s₃) E' s₂
def isIntV (v : V) : Prop := ∃ i, v = .int i
def below (lo : Int) (v1 v2 : V) : Bool := match v2 with
  | .int m => numV lo (m - 1) v1
  | _ => false
/-- is_number(a, lo, b - 1) -/
theorem elt_below {X : Cx} {scope : Scope} {xa xb nm qual : Str} {st : Stmt} {f : Addr} {fd : FuncData} {p : Nat → Pos} {lo : Int} {k : Nat} {p1 p2 p3 p4 p5 p6 p7 : Pos} {j1 j2 : Nat} (F : Fun X.K nm qual st f fd) (hbody : defBody st = numBody p) (N : NumScope (defScope st)) (bd : Binds X.K fd ["value", "least", "most"] [])
    (hr : Room k X.A) (mi : X.mg "isinstance" = none) (mn : X.mg "int" = none) (mb : X.mg "bool" = none) (hm : X.mg nm = some (.ref f))
    (hk : scope.kind = .function) (hla : scope.names.lookup xa = some .local) (hlb : scope.names.lookup xb = some .local) (hg : scope.names.lookup nm = some .globalImplicit) (hd : (xa == ("__debug__" : Str)) = false := by decide) (hd3 : (xb == ("__debug__" : Str)) = false := by decide) (hd2 : (nm == ("__debug__" : Str)) = false := by decide) :
    EltZ X scope xa xb (.Call (.Name nm p1) [.Name xa p2, .Constant (.int lo) j1 p3, .BinOp (.Name xb p4) .Sub (.Constant (.int 1) j2 p5) p6] [] p7) isIntV (below lo) := by
  intro cenv A' E' v1 v2 u1 u2 s₂ m₂ hs hG hB hdep g hn ha hb r1 r2 fl ⟨m, hm2⟩
  subst hm2
  obtain ⟨t, rfl⟩ := r2
  have hk' : cenv.scope.kind = .function := by rw [hs]; exact hk
  refine wpAny_Call_Name_kw (Calls.Name_function_global hk' (show cenv.scope.names.lookup nm = some .globalImplicit by rw [hs]; exact hg) (Calls.loadGlobal_global (by rw [hG]; exact g.glob) hm ?_) hd2)
  refine PySem.W.callWith_K (h₀ := s₂.heap) g.kin F.kp ?_ (by rfl) (by rfl)
  refine Calls.spliced_cons (wpAny_Name (wpAny_loadName_local hk' (show cenv.scope.names.lookup xa = some .local by rw [hs]; exact hla) hn ha ?_) hd)
  refine Calls.spliced_cons (wpAny_Constant_int (pos := p3) (k := j1) ?_)
  refine Calls.spliced_cons (wpAny_BinOp (l := .Name xb p4) (op := .Sub) (r := .Constant (.int 1) j2 p5) (pos := p6) ?_)
  refine wpAny_Name (wpAny_loadName_local hk' (show cenv.scope.names.lookup xb = some .local by rw [hs]; exact hlb) hn hb ?_) hd3
  refine wpAny_Constant_int (pos := p5) (k := j2) ?_
  refine PyProof.Rows.sub_int ?_
  refine Calls.spliced_nil ⟨g.kin, ?_⟩
  exact raw_num (A := A') (s := { s₂ with toks := s₂.toks + 1 + 1 + 1 }) (Q := fun y s₃ => y = .bool (numV lo (m - 1) v1) ∧ Keeps s₂ s₃) F hbody N bd g (by have := hr.dp; omega) mi mn mb (fl.u r1) fun s' kp => ⟨by rw [numV_u fl r1], Kp.trans (Kp.tok s₂ (s₂.toks + 1 + 1 + 1)) kp⟩
structure GenS2 (env : Env) (scope : Scope) (xa xb : Str) : Prop where
  kind : scope.kind = .function
  co : scope.isCoroutine = false
  cell : ∀ y ∈ scope.names, y.2 ≠ .cell
  dot : scope.names.lookup (".0" : Str) = some NameKind.local
  la : scope.names.lookup xa = some .local
  lb : scope.names.lookup xb = some .local
  ne : xa ≠ xb
  free : ∀ y ∈ scope.names, y.2 = .free → ∃ c, env.cells.lookup y.1 = some c
def trZ (pb : V → V → Bool) (l m : List V) (j : Nat) : Bool := match l[j]?, m[j]? with
  | some a, some b => pb a b
  | _, _ => false
theorem all_trZ (pb : V → V → Bool) (l m : List V) : (List.range (min l.length m.length)).all (trZ pb l m) = (l.zip m).all fun p => pb p.1 p.2 := by
  rw [Bool.eq_iff_iff, List.all_eq_true, List.all_eq_true]
  constructor
  · rintro h ⟨a, b⟩ hb
    obtain ⟨j, hj, e⟩ := List.getElem_of_mem hb
    rw [List.length_zip] at hj
    have q := h j (List.mem_range.mpr hj)
    unfold trZ at q
    rw [List.getElem_zip] at e
    rw [List.getElem?_eq_getElem (by omega), List.getElem?_eq_getElem (by omega)] at q
    cases e
    exact q
  · intro h j hj
    have hj' := List.mem_range.mp hj
    unfold trZ
    rw [List.getElem?_eq_getElem (by omega), List.getElem?_eq_getElem (by omega)]
    have hz : j < (l.zip m).length := by rw [List.length_zip]; exact hj'
    have q := h _ (List.getElem_mem hz)
    rw [List.getElem_zip] at q
    exact q
section
variable {X : Cx} {pins : List (Addr × Obj)} {σ : L2.St} {H : Hp} {s : Shared}
theorem gen_zip {c P : Addr} {elt e e2 : Expr} {xa xb : Str} {pa pb' pt gpos p pos : Pos} {kt : Nat} {scope : Scope} {okb : V → Prop} {pb : V → V → Bool} {ta : TA} {k : Nat} {Q' : Value → Shared → Prop} {R : List V → List V → Hp → Prop}
    (hr : Room k X.A) (hgz : Gl X "zip") (hmz : X.mg "zip" = none) (TB : TabB X.base X.mg c P) (hcode : X.env.code = .ref c) (S : GenS2 X.env scope xa xb) (ha : PA X [e, e2] ta) (hel : EltZ X scope xa xb elt okb pb)
    (hst2 : starEach [e, e2] X.env = (false, eval e X.env) :: starEach [e2] X.env) (hpl : (backTo pos (starEach [e2] X.env)).any (·.1) = false)
    (hs : ∀ v, genFold (.Call (.Name "zip" p) [e, e2] [] pos) X.env v = pure v) (I : Inv X pins σ H s)
    (h : ta σ H fun vs H1 => ∃ a b xs ys, vs = [.ref a, .ref b] ∧ SqT X.K H1 a xs ∧ SqT X.K H1 b ys ∧ (∀ y ∈ xs, FlatV y) ∧ (∀ y ∈ ys, okb y) ∧ TabG H1 P ∧ R xs ys H1)
    (hQ : ∀ xs ys H1 g s5, R xs ys H1 → ReadyN X pins σ H1 P (min xs.length ys.length) (trZ pb xs ys) g s5 → Q' (.ref g) s5) :
    wpAny (model X.prog X.w) X.A (eval (.GeneratorExp elt [⟨.Tuple [.Name xa pa, .Name xb pb'] kt pt, .Call (.Name "zip" p) [e, e2] [] pos, [], 0⟩] scope gpos) X.env) Q' X.xe s := by
  refine wpAny_GeneratorExp_walksQTD hr.hd S.co (closure_ok S.free) S.cell S.dot S.la S.lb S.ne S.kind (by have := hr.dp; omega) ?_ hs
  refine Call_ (ld_blt I hgz hmz PyProof.Rows.boot_zip (PyProof.Rows.callWith_type1 (thn (ha.run pos pins s σ H _ I h) fun us s1 ⟨vs, H1, I1, r1, a, b, xs, ys, ex, hTa, hTb, hfl, hok, ⟨ps, hP, ht⟩, q1⟩ => ?_) hst2 hpl))
  subst ex
  cases r1 with
  | cons r rr =>
  cases rr with
  | cons r' rr =>
  cases rr
  cases r
  cases r'
  obtain ⟨its, rv, hTup, hz⟩ := I1.tuple hTa
  obtain ⟨its2, rv2, hTup2, hz2⟩ := I1.tuple hTb
  have hTup : s1.heap.IsTuple a its.toArray := hTup
  have hTup2 : s1.heap.IsTuple b its2.toArray := hTup2
  have alt : a < s1.heap.objs.size := by obtain ⟨_, e, _⟩ := hTup; exact Heap.lt_size e
  have blt : b < s1.heap.objs.size := by obtain ⟨_, e, _⟩ := hTup2; exact Heap.lt_size e
  have hPs : s1.heap.get? P = some { cls := .none, data := .fields ps } := I1.hok P _ hP
  have hPlt := Heap.lt_size hPs
  have haP : a ≠ P := fun z => by
    obtain ⟨ob, e1, e2, _⟩ := hTup
    rw [z, hPs] at e1
    cases e1
    cases e2
  have hbP : b ≠ P := fun z => by
    obtain ⟨ob, e1, e2, _⟩ := hTup2
    rw [z, hPs] at e1
    cases e1
    cases e2
  refine zip_begins2 (begins_tuple a its.toArray) (begins_tuple b its2.toArray) hTup hTup2 fun h2 hZ hTI hTO hI1 hI2 hsz2 kp => ?_
  have nP : ∀ b u, X.base.get? b = some u → b ≠ P := fun b u e z => by
    have q := (I1.bs b u e).2
    rw [z, hP] at q
    cases q
  have hP2 := kp P _ hPs
  have cd : PySem.W.CodeHd h2 c P := TB.code.keeps fun b u e => kp b u (I1.bk b u e)
  have lim2 : h2.NoLimit := I1.nolimit.keeps kp
  have hcP : cStatics ≠ P := fun e => by
    obtain ⟨_, ⟨o', es, ep, ho, hd, _⟩, _⟩ := I1.nolimit
    rw [e, hPs] at ho
    cases ho
    cases hd
  have hcl : cStatics < s1.heap.objs.size := let ⟨_, hns, _⟩ := I1.nolimit; hns.lt
  have nn : ∀ i : Nat, s1.heap.objs.size + i ≠ P := fun i => Nat.ne_of_gt (Nat.lt_of_lt_of_le hPlt (Nat.le_add_right _ _))
  have W := fun (A' : Around) (hA : A'.handled = none) => (WalksT.zipD2 (zip_sep2 (N := s1.heap.objs.size) (fp1 := [a]) (fp2 := [b]) (fun x hx => by rw [List.mem_singleton.mp hx]; exact alt) (fun x hx => by rw [List.mem_singleton.mp hx]; exact blt))
    (Draws.tuple (prog := X.prog) (w := X.w) (A := A'.in1) hA s1.heap.objs.size a (Nat.ne_of_lt alt) its.toArray) (Draws.tuple (prog := X.prog) (w := X.w) (A := A'.in1) hA (s1.heap.objs.size + 1) b (Nat.ne_of_lt (Nat.lt_of_lt_of_le blt (Nat.le_add_right _ 1))) its2.toArray)).toU
  refine wpAny_pyIter_zip hZ ?_
  have hst : IsZip h2 (s1.heap.objs.size + 4) (s1.heap.objs.size + 2) (s1.heap.objs.size + 3) .none ∧ IsTupOf2 h2 (s1.heap.objs.size + 2) (.ref s1.heap.objs.size) (.ref (s1.heap.objs.size + 1)) ∧ (∃ a1 a2, IsTupOf2 h2 (s1.heap.objs.size + 3) a1 a2) ∧
      (h2.IsTupleIter s1.heap.objs.size a 0 ∧ h2.IsTuple a its.toArray) ∧ (h2.IsTupleIter (s1.heap.objs.size + 1) b 0 ∧ h2.IsTuple b its2.toArray) :=
    ⟨hZ, hTI, ⟨_, _, hTO⟩, ⟨⟨_, hI1, rfl, rfl⟩, hTup.at fun o' e => kp a o' e⟩, ⟨_, hI2, rfl, rfl⟩, hTup2.at fun o' e => kp b o' e⟩
  have memfp : ∀ x ∈ (s1.heap.objs.size + 4) :: (s1.heap.objs.size + 2) :: (s1.heap.objs.size + 3) :: ([s1.heap.objs.size, a] ++ [s1.heap.objs.size + 1, b]), x ≠ P ∧ x < s1.heap.objs.size + 5 := fun x hx => by
    simp only [List.mem_cons, List.mem_append, List.not_mem_nil, or_false] at hx
    have h9 : (a : Nat) < s1.heap.objs.size := alt
    have h8 : (b : Nat) < s1.heap.objs.size := blt
    rcases hx with z | z | z | (z | z) | (z | z)
    · rw [z]; exact ⟨nn 4, Nat.lt_succ_self _⟩
    · rw [z]; exact ⟨nn 2, show s1.heap.objs.size + 2 < s1.heap.objs.size + 5 by omega⟩
    · rw [z]; exact ⟨nn 3, show s1.heap.objs.size + 3 < s1.heap.objs.size + 5 by omega⟩
    · rw [z]; exact ⟨nn 0, show s1.heap.objs.size < s1.heap.objs.size + 5 by omega⟩
    · rw [z]; exact ⟨haP, Nat.lt_of_lt_of_le alt (Nat.le_add_right _ 5)⟩
    · rw [z]; exact ⟨nn 1, show s1.heap.objs.size + 1 < s1.heap.objs.size + 5 by omega⟩
    · rw [z]; exact ⟨hbP, Nat.lt_of_lt_of_le blt (Nat.le_add_right _ 5)⟩
  have memwr : ∀ x ∈ [s1.heap.objs.size + 4, s1.heap.objs.size + 3, s1.heap.objs.size, s1.heap.objs.size + 1], s1.heap.objs.size ≤ x := fun x hx => by
    simp only [List.mem_cons, List.not_mem_nil, or_false] at hx
    rcases hx with z | z | z | z
    · rw [z]; exact Nat.le_add_right _ _
    · rw [z]; exact Nat.le_add_right _ _
    · rw [z]; exact Nat.le_refl _
    · rw [z]; exact Nat.le_add_right _ _
  have cont : ∀ (code : Value) (h3 : Heap) (tk : Nat) (more : Array Value), Heap.ExtBut P h2 h3 → h2.objs.size ≤ h3.objs.size → h3.get? P = some { cls := .none, data := .fields (ps ++ more) } → TriplesOk (ps ++ more).toList →
      wpAny (model X.prog X.w) X.A (builtinsFor X.env.globals X.env.builtins) (fun bi s₄ =>
        ∃ Ia fp wr n₀ Pt St₀ Mid pz F, Value.ref (s1.heap.objs.size + 4) = .ref Ia ∧ (∀ A' : Around, A'.handled = none → WalksU X.prog X.w A' Ia fp wr n₀ Pt St₀ Mid) ∧ (∀ i vals, Pt i vals → ∃ va vb, vals = #[va, vb]) ∧ St₀ 0 s₄.heap ∧ (∀ b ∈ fp, b < s₄.heap.objs.size) ∧ s₄.heap.NoLimit ∧ cStatics ∉ wr ∧
          (∀ href : Heap, (∀ b o, s₄.heap.get? b = some o → href.get? b = some o) →
            QuietGenTD X.prog X.w (genEnv scope (cloFrom X.env.cells scope.names []) s₄.heap.objs.size code bi X.env) xa xb [] elt (List.range s₄.heap.objs.size) wr Pt pz F href (X.A.depth + 1) (X.A.units + 8)) ∧
          (∀ a h₅ tk gs, gs.bare = true → s₄.heap.objs.size < a → h₅.objs.size = a + 1 → (∀ b o, s₄.heap.get? b = some o → h₅.get? b = some o) →
            WalksS X.prog X.w X.A.in4 a (a :: s₄.heap.objs.size :: List.range s₄.heap.objs.size) (s₄.heap.objs.size :: wr) (GenOnlyQ s₄.gens.size) (passing pz n₀ 0).length
              (fun j y => ∃ i, (passing pz n₀ 0)[j]? = some i ∧ F i y) (GenAt X.prog X.w X.A.in4 a s₄.gens.size s₄.heap.objs.size (List.range s₄.heap.objs.size) wr pz n₀ F) →
            GenAt X.prog X.w X.A.in4 a s₄.gens.size s₄.heap.objs.size (List.range s₄.heap.objs.size) wr pz n₀ F 0 { s₄ with gens := s₄.gens.push gs, toks := tk, heap := h₅ } →
            Q' (.ref a) { s₄ with gens := s₄.gens.push gs, toks := tk, heap := h₅ })) X.xe { s1 with heap := h3, toks := tk } := by
    intro code h3 tk more hx hsz hP3 ht3
    obtain ⟨bm, ob, e1, e2, e3, e4, e5, e6, e7, e8⟩ := TB.bm
    have keep3 : ∀ b u, b ≠ P → s1.heap.get? b = some u → h3.get? b = some u := fun b u hb e => hx b u hb (kp b u e)
    have base3 : ∀ b u, X.base.get? b = some u → h3.get? b = some u := fun b u e => keep3 b u (nP b u e) (I1.bk b u e)
    refine wpAny_builtinsFor (m := X.mg) (by rw [I1.ok.glob]; exact I1.mod.glob.keeps base3) e1 e2 (base3 _ _ e5) e6 e7 e8 ?_
    refine ⟨_, _, _, _, _, _, _, (fun _ => true), (fun i y => ∃ v w, xs[i]? = some v ∧ ys[i]? = some w ∧ y = .bool (pb v w)), rfl, W, ?_, ?_, fun b hb => ?_, lim2.extBut hx hcP, fun z => ?_, fun href hhref => ⟨fun A' E' i va vb s₂ m₂ hA _ _ hPv hn hma hmb hk => ?_, fun A' E' i va vb s₂ m₂ hA hD _ hPv hp hn hma hmb hk => ?_⟩, ?_⟩
    · rintro i vals ⟨x1, x2, _, _, e⟩
      exact ⟨x1, x2, e⟩
    · exact (W X.A hr.hd).frame _ _ _ hst fun b hb u e => hx b u (memfp b hb).1 e
    · have h1 : b < s1.heap.objs.size + 5 := (memfp b hb).2
      exact Nat.lt_of_lt_of_le h1 (by rw [← hsz2]; exact hsz)
    · exact Nat.lt_irrefl _ (Nat.lt_of_lt_of_le hcl (memwr _ z))
    · rw [List.forIn_nil]
      exact wpAny_pure ⟨rfl, keeps_refl _⟩
    · obtain ⟨x1, x2, hx1, hx2, ev⟩ := hPv
      have hv : va = x1 ∧ vb = x2 := by
        have := congrArg Array.toList ev
        simp at this
        exact this
      obtain ⟨rfl, rfl⟩ := hv
      have get1 : ∀ {zs : List V} {is : List Value} {v : Value}, Vals zs is → is.toArray[i]? = some v → ∃ vv, zs[i]? = some vv ∧ RelV vv v := fun {zs is v} rv hv => by
        have hv : is[i]? = some v := by simpa using hv
        have hlen := rv.length
        have hil : i < is.length := (List.getElem?_eq_some_iff.mp hv).1
        have e1 : zs[i]? = some (zs[i]'(by omega)) := List.getElem?_eq_getElem (by omega)
        obtain ⟨u, h1, h2⟩ := rv.get e1
        rw [h1] at hv
        cases hv
        exact ⟨_, e1, h2⟩
      obtain ⟨v1, g1, r1⟩ := get1 rv hx1
      obtain ⟨v2, g2, r2⟩ := get1 rv2 hx2
      have gnd : Gnd X.K X.mg s₂.heap := by
        have m := I1.ok.mod
        have kk : ∀ b u, X.base.get? b = some u → s₂.heap.get? b = some u := fun b u e => hk b (List.mem_range.mpr (Heap.lt_size (base3 b u e))) (fun z => by
          have q := Heap.lt_size (I1.bk b u e)
          exact Nat.lt_irrefl _ (Nat.lt_of_lt_of_le q (memwr _ z))) u (hhref b u (base3 b u e))
        exact (Gnd.mk m.kin m.glob m.blt m.nolimit).keeps kk
      exact wpAny_mono (hel _ A' E' v1 v2 va vb s₂ m₂ rfl I1.ok.glob rfl hD gnd hn hma hmb r1 r2 (hfl v1 (List.mem_of_getElem? g1)) (hok v2 (List.mem_of_getElem? g2))) (fun y s3 r => ⟨⟨v1, v2, g1, g2, r.1⟩, r.2⟩) fun _ _ e => e
    · intro g h5 tk5 gs hgb hag hsz5 hk5 W5 hat
      simp only [GxR.passing_true, List.length_range] at W5
      have en : min its.toArray.size its2.toArray.size = min xs.length ys.length := by rw [List.size_toArray, List.size_toArray, rv.length, rv2.length]
      rw [en] at W5 hat
      refine hQ xs ys H1 g _ q1 ⟨_, _, _, _, _, W5.in4_1, hat, ?_, fun s' hm => ?_⟩
      · rintro j y sj Qj Ej ⟨i, hij, v, w, hv, hw, rfl⟩ hQj
        obtain ⟨hj, ej⟩ := List.getElem?_eq_some_iff.mp hij
        rw [List.getElem_range] at ej
        subst ej
        have hQ2 : Qj (trZ pb xs ys j) sj := hQj
        have et : trZ pb xs ys j = pb v w := by unfold trZ; rw [hv, hw]
        rw [et] at hQ2
        exact wpAny_truthy_bool hQ2
      · have nwr : ∀ b u, s1.heap.get? b = some u → b ∉ h3.objs.size :: [s1.heap.objs.size + 4, s1.heap.objs.size + 3, s1.heap.objs.size, s1.heap.objs.size + 1] := fun b u e hb => by
          have hl := Heap.lt_size e
          rcases List.mem_cons.mp hb with z | z
          · rw [z] at hl
            have h9 : (h3.objs.size : Nat) < s1.heap.objs.size := hl
            omega
          · exact Nat.lt_irrefl _ (Nat.lt_of_lt_of_le hl (memwr _ z))
        have J := inv_tab (more := more) (h' := s'.heap) (g' := s'.gens) (d' := s'.drawn) (t' := s'.toks) I1 hP (fun b u hb e => hm.heap b u (nwr b u e) (hk5 b u (keep3 b u hb e)))
          (hm.heap P _ (nwr P _ hPs) (hk5 P _ hP3)) (AllBare.movedS (I1.bare.push hgb) hm)
        rw [sh_eta s1 s' hm.os] at J
        exact ⟨upd H1 P (.tbl (ps ++ more)), ⟨⟨ps ++ more, upd_same, ht3⟩, fun b hb => upd_ne hb⟩, J⟩
  refine ⟨lim2, ?_⟩
  cases hf : codeAmong gpos ps.toList with
  | none =>
    refine wpAny_genexprCodeX hcode (cd.code hP2 ht) (cd.tab hP2) hf fun c' h' tk hx hge hlt hco' _ htab' _ => ?_
    obtain ⟨o1, vs, f1, tf, fl, tg, inF, tx, tt, op, _, _, _, _, _, _, _, _, _, htr, _⟩ := hco'
    exact cont _ h' tk _ hx (Nat.le_trans hge (Nat.le_of_lt hlt)) htab'.2 htr
  | some cv =>
    refine wpAny_genexprCode_hit hcode (cd.code hP2 ht) hf ?_
    refine cont cv h2 s1.toks #[] (Heap.ExtBut.refl _ _) (Nat.le_refl _) ?_ ?_
    · rw [Array.append_empty]; exact hP2
    · rw [Array.append_empty]; exact ht
def tAllZ (K : PySem.W.Frag) (P : Addr) (okb : V → Prop) (pb : V → V → Bool) (ta : TA) : TE := fun σ H Q => ta σ H fun vs H1 => ∃ a b xs ys, vs = [.ref a, .ref b] ∧ SqT K H1 a xs ∧ SqT K H1 b ys ∧ (∀ y ∈ xs, FlatV y) ∧ (∀ y ∈ ys, okb y) ∧ TabG H1 P ∧ ∀ H2, Tabbed P H1 H2 → Q (.bl ((xs.zip ys).all fun p => pb p.1 p.2)) H2
theorem pe_allZ {c P : Addr} {elt e e2 : Expr} {xa xb : Str} {pa pb' pt gpos p p0 pos pos2 : Pos} {kt : Nat} {scope : Scope} {okb : V → Prop} {pb : V → V → Bool} {ta : TA} {k : Nat} (K : PySem.W.Frag) (hK : X.K = K)
    (hr : Room k X.A) (hg : Gl X "all") (hm : X.mg "all" = none) (hgz : Gl X "zip") (hmz : X.mg "zip" = none) (TB : TabB X.base X.mg c P) (hcode : X.env.code = .ref c) (S : GenS2 X.env scope xa xb) (ha : PA X [e, e2] ta) (hel : EltZ X scope xa xb elt okb pb)
    (hs : ∀ v, genFold (.Call (.Name "zip" p) [e, e2] [] pos) X.env v = pure v)
    (hst2 : starEach [e, e2] X.env = (false, eval e X.env) :: starEach [e2] X.env := by rfl) (hpl : (backTo pos (starEach [e2] X.env)).any (·.1) = false := by rfl)
    (he : starEach [.GeneratorExp elt [⟨.Tuple [.Name xa pa, .Name xb pb'] kt pt, .Call (.Name "zip" p) [e, e2] [] pos, [], 0⟩] scope gpos] X.env = (false, eval (.GeneratorExp elt [⟨.Tuple [.Name xa pa, .Name xb pb'] kt pt, .Call (.Name "zip" p) [e, e2] [] pos, [], 0⟩] scope gpos) X.env) :: starEach [] X.env := by rfl) :
    PE X (.Call (.Name "all" p0) [.GeneratorExp elt [⟨.Tuple [.Name xa pa, .Name xb pb'] kt pt, .Call (.Name "zip" p) [e, e2] [] pos, [], 0⟩] scope gpos] [] pos2) (tAllZ K P okb pb ta) := by
  subst hK
  refine ⟨fun pins s σ H Q I h => ?_⟩
  have hb : bootBuiltins "all" = some (.builtin "all") := by decide +kernel
  refine wpAny_Call_Name_kw (ld_blt I hg hm hb (PyProof.Rows.callWith_builtin1 ?_ he (by rfl)))
  rw [he]
  show wpAny _ _ (spliced ((false, eval (.GeneratorExp elt [⟨.Tuple [.Name xa pa, .Name xb pb'] kt pt, .Call (.Name "zip" p) [e, e2] [] pos, [], 0⟩] scope gpos) X.env) :: backTo pos2 (starEach [] X.env))) _ _ s
  refine Calls.spliced_cons (gen_zip (R := fun xs ys H1 => ∀ H2, Tabbed P H1 H2 → Q (.bl ((xs.zip ys).all fun p => pb p.1 p.2)) H2) hr hgz hmz TB hcode S ha hel hst2 hpl hs I h fun xs ys H1 g s5 hR ⟨fp, wr, G, F, Sx, W, hst, htr, hI⟩ => Calls.spliced_nil ?_)
  refine call_all_walkS (W.self 0 _ _ _ hst ⟨g, fp, wr, G, _, F, Sx, _, rfl, W, hst, htr, fun s' hmv => ?_⟩)
  obtain ⟨H2, hT, J⟩ := hI s' hmv
  exact ⟨.bl _, H2, J, rfl, by rw [all_trZ]; exact hR H2 hT⟩
end
theorem dqs_below {K : PySem.W.Frag} {B : Hp} {lo : Int} : ∀ {l : List PyData} {ns : List Int} {xs ys : List V}, DqAll K B xs l → (∀ d ∈ l, flatD d = true) → ys = ns.map V.int → (xs.zip ys).all (fun p => below lo p.1 p.2) = (l.zip ns).all fun p => numD lo (p.2 - 1) p.1
  | [], _, _, _, h, _, _ => by cases h; rfl
  | d :: l, [], _, _, h, _, e => by subst e; cases h with | cons h1 h2 => rfl
  | d :: l, n :: ns, _, _, h, hf, e => by
    subst e
    cases h with
    | cons h1 h2 =>
      have ih := dqs_below (lo := lo) (ns := ns) h2 (fun x hx => hf x (List.mem_cons_of_mem _ hx)) rfl
      rw [List.map_cons, List.zip_cons_cons, List.zip_cons_cons, List.all_cons, List.all_cons, ih]
      congr 1
      exact (dq_flat h1 (hf d List.mem_cons_self)).2 lo (n - 1)
theorem ev_allB {c : Cb} {ps : Sl} {O : Own} {Φ : Af} {ta : TA} {P : Addr} {lo : Int} (hP : P ∈ c.T) (h : EvAW c ta ps O fun as O1 => ∃ l ns, as = [.d (.tuple l), .d (.tuple (ns.map .int))] ∧ (∀ d ∈ l, flatD d = true) ∧ Φ (.d (.bool ((l.zip ns).all fun p => numD lo (p.2 - 1) p.1))) O1) : EvW c (tAllZ c.K P isIntV (below lo) ta) ps O Φ := by
  intro B σ H s w m Q q
  refine h B σ H s w m _ fun as O1 B1 us H1 ⟨l, ns, e, hf, k⟩ e1 w1 r1 => ?_
  subst e
  obtain ⟨u, v, rfl, r2, r3⟩ := rv2 r1
  cases r2 with
  | tup g d =>
    cases r3 with
    | tup g2 d2 =>
      have e3 := dqs_ints d2
      obtain ⟨a1, a2⟩ := dqs_flat d hf
      refine ⟨_, _, _, _, rfl, w1.ex.sqT (.inl g), w1.ex.sqT (.inl g2), a1, fun y hy => ?_, (w1.tab P hP).2.2, fun H2 hT => ?_⟩
      · rw [e3] at hy
        obtain ⟨i, _, e⟩ := List.mem_map.mp hy
        exact ⟨i, e.symm⟩
      · rw [dqs_below d hf e3]
        exact q _ O1 B1 _ H2 k e1 (w1.tabbed hP hT) (.bl _)
end BL

set_option Elab.async false
set_option linter.all false
set_option maxRecDepth 100000
set_option maxHeartbeats 4000000
namespace BL
open PySem PySem.Spec PyProof.Rows L2
/-! ## towers, plainly -/
abbrev twl (t : List Int) : List PyData := t.map PyData.int
abbrev tw (t : List Int) : PyData := .tuple (twl t)
def mayMove (t : List Int) (d : Nat) (g : Int) : Bool := !decide (t.getD d 0 = g) && (!decide (t.getD d 0 ∈ t.take d) && !decide (g ∈ t.take d))
def movesL (p : Nat) (t : List Int) : List (Nat × Nat) := (List.range t.length).flatMap fun d => ((List.range p).filter fun (g : Nat) => mayMove t d g).map fun g => (d, g)
def mvD (m : Nat × Nat) : PyData := .tuple [.int m.1, .int m.2]
def behindT (t : List Int) (m : Nat × Nat) : List Int := t.set m.1 (m.2 : Int)
/-! readings of towers -/
theorem sIx_nat' (n d k : Nat) (h : k ≤ n) : HT.sIx n d (some (k : Int)) = k := by
  rw [HT.sIx_nat]; exact Nat.min_eq_left h
theorem cut_take {t : List Int} {d : Nat} (h : d ≤ t.length) : cutD (twl t) none (some (d : Int)) = twl (t.take d) := by
  unfold cutD
  rw [HT.sIx_none, sIx_nat' _ _ _ (by rw [List.length_map]; exact h), List.drop_zero, Nat.sub_zero]
  exact List.map_take.symm
theorem cut_drop {t : List Int} {d : Nat} (h : d ≤ t.length) : cutD (twl t) (some (d : Int)) none = twl (t.drop d) := by
  unfold cutD
  rw [HT.sIx_none, sIx_nat' _ _ _ (by rw [List.length_map]; exact h), List.take_of_length_le (by rw [List.length_drop]; omega)]
  exact List.map_drop.symm
theorem atI_nat {α : Type} {l : List α} {d : Nat} {x : α} (h : l[d]? = some x) : atI l (d : Int) = some x := by
  have hd : d < l.length := (List.getElem?_eq_some_iff.mp h).1
  unfold atI ixN
  rw [if_pos (by omega), if_pos (by omega)]
  show l[(d : Int).toNat]? = _
  rw [Int.toNat_natCast]; exact h
theorem twl_get {t : List Int} {d : Nat} (h : d < t.length) : (twl t)[d]? = some (.int (t.getD d 0)) := by
  rw [List.getElem?_map, List.getElem?_eq_getElem h, List.getD_eq_getElem?_getD, List.getElem?_eq_getElem h]; rfl
section
variable {c : Cb} {O : Own} {Φ : Af} {t : List Int} {d : Nat}
theorem gw_pair {gs : TGs} {x y : PyData} {ps : Sl} {js : List Nat} {Ψ : Sl → Own → Prop} (h : GsWj c gs [.d x, .d y] js ps O Ψ) : GW c (gTup c.K 2 gs) (.d (.tuple [x, y])) ps O Ψ := GWj.gw (js := js) (gj_tup (l := [x, y]) rfl h)
theorem gj_pair {gs : TGs} {x y : PyData} {ps : Sl} {js : List Nat} {Ψ : Sl → Own → Prop} (h : GsWj c gs [.d x, .d y] js ps O Ψ) : GWj c (gTup c.K 2 gs) (.d (.tuple [x, y])) js ps O Ψ := gj_tup (l := [x, y]) rfl h
theorem ow_ixTI (h : d < t.length) (k : Φ (.d (.int (t.getD d 0))) O) : opW c (rIxB c.K) (.d (tw t)) (.d (.int (d : Int))) O Φ := ow_ixBT (atI_nat (twl_get h)) k
theorem sw_takeT (h : d < t.length) (k : Φ (.d (tw (t.take d))) O) : slW c (rSlB c.K) (.d (tw t)) none (some (d : Int)) O Φ :=
  sw_tup (by rw [List.length_map, HT.sIx_none, sIx_nat' _ _ _ (by omega)]; omega) (by rw [cut_take (by omega)]; exact k)
theorem sw_dropT (h0 : 0 < d) (h : d ≤ t.length) (k : Φ (.d (tw (t.drop d))) O) : slW c (rSlB c.K) (.d (tw t)) (some (d : Int)) none O Φ :=
  sw_tup (by rw [List.length_map, HT.sIx_none, sIx_nat' _ _ _ (by omega)]; omega) (by rw [cut_drop (by omega)]; exact k)
theorem ow_addTI {s : List Int} (hl : t.length + s.length ≤ 1000) (k : Φ (.d (tw (t ++ s))) O) : opW c (rAddA c.K) (.d (tw t)) (.d (tw s)) O Φ :=
  ow_addT (by rw [List.length_map, List.length_map]; exact small hl) (by rw [← List.map_append]; exact k)
theorem ev_tw1 {ps : Sl} {te : TE} (h : EvW c te ps O fun a O1 => ∃ i : Int, a = .d (.int i) ∧ Φ (.d (tw [i])) O1) : EvW c (tTup (tCons te tNil)) ps O Φ :=
  ev_tupD (ea_cons (ev_imp h fun a O1 ⟨i, e, k⟩ => ea_nil ⟨[.int i], by rw [e]; exact .cons .nil, by show 1 ≤ 1000; decide, k⟩))
end
theorem cm_l {i j : Int} (h1 : -(2 ^ 64) < i) (h2 : i < 2 ^ 64) : CMul i j := .inl ⟨h1, h2⟩
theorem cm_r {i j : Int} (h1 : -(2 ^ 64) < j) (h2 : j < 2 ^ 64) : CMul i j := .inr ⟨h1, h2⟩
theorem ow_fdiv2N {c : Cb} {O : Own} {Φ : Af} {a : Nat} (k : Φ (.d (.int ((a / 2 : Nat) : Int))) O) : opW c (rI CDivX fun i j => .int (i.fdiv j)) (.d (.int (a : Int))) (.d (.int 2)) O Φ :=
  ow_I ⟨by decide, by decide⟩ (by
    have e : ((a : Int)).fdiv 2 = ((a / 2 : Nat) : Int) := by rw [Int.fdiv_eq_ediv_of_nonneg _ (by decide)]; omega
    rw [e]; exact k)
theorem ow_shl1 {c : Cb} {O : Own} {Φ : Af} {n : Nat} (hn : n ≤ 1000) (k : Φ (.d (.int ((2 ^ n : Nat) : Int))) O) : opW c (rI CPow fun i j => .int (i * 2 ^ j.toNat)) (.d (.int 1)) (.d (.int (n : Int))) O Φ :=
  ow_I ⟨by omega, by omega, by decide⟩ (by
    have e : (1 : Int) * 2 ^ (n : Int).toNat = ((2 ^ n : Nat) : Int) := by rw [Int.one_mul, Int.toNat_natCast, Int.natCast_pow]; rfl
    rw [e]; exact k)
theorem updO_self {O : Own} {q : Addr} {ao : AO} (h : O q = some ao) : updO O q ao = O := by
  funext z
  by_cases e : z = q
  · rw [e, updO_same, h]
  · rw [updO_ne e]
theorem cutD_to {l : List PyData} {d : Nat} (h : d ≤ l.length) : cutD l none (some (d : Int)) = l.take d := by
  unfold cutD
  rw [HT.sIx_none, sIx_nat' _ _ _ h, List.drop_zero, Nat.sub_zero]
theorem cutD_from {l : List PyData} {d : Nat} (h : d ≤ l.length) : cutD l (some (d : Int)) none = l.drop d := by
  unfold cutD
  rw [HT.sIx_none, sIx_nat' _ _ _ h, List.take_of_length_le (by rw [List.length_drop]; omega)]
abbrev natl (l : List Nat) : List PyData := l.map fun (k : Nat) => PyData.int (k : Int)
section
variable {c : Cb} {O : Own} {Φ : Af}
theorem ow_mod {i j : Int} (h : 0 < j) (k : Φ (.d (.int (i % j))) O) : opW c (rI (fun _ j => 0 < j) fun i j => .int (i % j)) (.d (.int i)) (.d (.int j)) O Φ := ow_I h k
theorem ow_fdivC {i j : Int} (h : j ≠ 0 ∧ j.natAbs.log2 < 9000) (k : Φ (.d (.int (i.fdiv j))) O) : opW c (rI CDivX fun i j => .int (i.fdiv j)) (.d (.int i)) (.d (.int j)) O Φ := ow_I h k
theorem ow_powC {i j : Int} (h : 0 ≤ j ∧ j ≤ 1000000 ∧ i.natAbs < 2 ^ 64) (k : Φ (.d (.int (i ^ j.toNat))) O) : opW c (rI CPow fun i j => .int (i ^ j.toNat)) (.d (.int i)) (.d (.int j)) O Φ := ow_I h k
end
theorem et_yes {c : Cb} {ps : Sl} {O : Own} {Φ : Bool → Own → Prop} (k : Φ true O) : EvTW c tYes ps O Φ := fun B σ H s w m Q q => q true O B H k (Ext.refl B) w
abbrev srcN (n : Nat) : Src := ⟨n, fun i => .d (.int (i : Int)), fun _ => True⟩
theorem srcR_N (n : Nat) : srcR 0 n = srcN n := by
  unfold srcR srcN
  congr 1
  funext i
  rw [Int.zero_add]
theorem is_rngN {c : Cb} {ps : Sl} {O : Own} {ta : TA} {Φ : Src → Own → Prop} (h : EvAW c ta ps O fun as O1 => ∃ n : Nat, as = [.d (.int (n : Int))] ∧ n ≤ 1000000 ∧ Φ (srcN n) O1) : IsW c (iRng1 ta) ps O Φ :=
  is_rng1 fun B σ H s w m Q q => h B σ H s w m Q fun as O' B' us H' ⟨n, e, hn, k⟩ => q as O' B' us H' ⟨(n : Int), e, by omega, by omega, by rw [Int.toNat_natCast, srcR_N]; exact k⟩
/-- the moves of the discs below i -/
def movesTo (p : Nat) (t : List Int) (i : Nat) : List (Nat × Nat) := (List.range i).flatMap fun d => ((List.range p).filter fun (g : Nat) => mayMove t d g).map fun g => (d, g)
def movesAt (t : List Int) (i j : Nat) : List (Nat × Nat) := ((List.range j).filter fun (g : Nat) => mayMove t i g).map fun g => (i, g)
theorem movesTo_all (p : Nat) (t : List Int) : movesTo p t t.length = movesL p t := rfl
theorem movesTo_succ (p : Nat) (t : List Int) (i : Nat) : movesTo p t (i + 1) = movesTo p t i ++ movesAt t i p := by
  unfold movesTo movesAt
  rw [List.range_succ, List.flatMap_append, List.flatMap_cons, List.flatMap_nil, List.append_nil]
theorem movesAt_succ (t : List Int) (i j : Nat) : movesAt t i (j + 1) = movesAt t i j ++ (if mayMove t i j = true then [(i, j)] else []) := by
  unfold movesAt
  rw [List.range_succ, List.filter_append, List.map_append, List.filter_cons, List.filter_nil]
  split <;> rfl
theorem movesAt_len (t : List Int) (i j : Nat) : (movesAt t i j).length ≤ j := by
  unfold movesAt
  rw [List.length_map]
  exact Nat.le_trans (List.length_filter_le _ _) (by rw [List.length_range]; exact Nat.le_refl _)
theorem movesTo_len (p : Nat) (t : List Int) : ∀ i, (movesTo p t i).length ≤ i * p
  | 0 => by simp [movesTo]
  | i + 1 => by
    rw [movesTo_succ, List.length_append, Nat.succ_mul]
    have := movesTo_len p t i
    have := movesAt_len t i p
    omega
theorem ds_snoc (l : List PyData) (x : PyData) : ds l ++ [.d x] = ds (l ++ [x]) := by simp [ds]
end BL

set_option Elab.async false
set_option linter.all false
set_option maxRecDepth 100000
set_option maxHeartbeats 4000000
namespace BL
open PySem PySem.Spec PyProof.Rows L2 RZ
section
variable {P : Program} {w : World} {K : PySem.W.Frag} {T : List Addr} {mg : Str → Option Value} {base : Heap}
/-- a def whose code object is known (it holds generator expressions) -/
theorem ok_fnC {x qual : Str} {st : Stmt} {f c : Addr} {fd : FuncData} {N pr : List Str} {k : Nat} {Fs : FSp} (F : Fun K x qual st f fd) (hc : fd.code = .ref c) (S : FnScope N pr (defScope st)) (len : ∀ as O Φ Ψ, Fs as O Φ Ψ → as.length = pr.length)
    (hd : ∀ (A : Around) (outer : List Env) (s : Shared) (H : Hp) (E : XK), Room k (A.deeper (envOfC qual (defScope st) s.heap.objs.size f (.ref c))) →
      ∃ t, PSs (cxOf CX0 P w K mg base N qual (defScope st) f (.ref c) A outer s H E).nox (defBody st) t ∧ ∀ as O Φ Ψ, Fs as O Φ Ψ → StW (cb0 K T) t (slots0 N as) O (aret Φ)) :
    FnOk P w K mg base CX0 (k + 1) f fd pr (spOf K T Fs) := by
  obtain ⟨oc, od, kV, doc, pm, an, cdv, ct, osl, rfl, lk, hcd⟩ := F.ex
  have e : cdv = .ref c := hc
  subst e
  refine fn_of lk hcd S (fun vs H Q E h => ?_) fun A outer s H vs Q E hr h => ?_
  · obtain ⟨B, O, as, Φ, Ψ, r, _, hF, _⟩ := h
    rw [← reps_len r]; exact len _ _ _ _ hF
  · obtain ⟨t, ht, hst⟩ := hd A outer s H E hr
    obtain ⟨B, O, as, Φ, Ψ, r, w', hF, hQ, _⟩ := h
    exact ⟨t, ht.nox, hst as O Φ Ψ hF B _ H _ (slots_start r) w' trivial (ad_ret rfl rfl hQ)⟩
end
theorem esc0 {c : Cb} {Ξ : Value → Sl → Own → Prop} (h : ∀ v ps O, Ξ v ps O → False) : Esc c (fun _ _ _ _ => False) Ξ := fun B cls ps O σ H m k _ _ => h cls ps O k
/-- the table of a def's code -/
structure TD (K : PySem.W.Frag) (nm : Str) (fd : FuncData) where
  c : Addr
  P : Addr
  code : fd.code = .ref c
section
variable {X : Cx}
theorem zipA {e e2 : Expr} {ta : TA} {p pos tpos : Pos} {elts : List Expr} {kk : Nat} (K : PySem.W.Frag) (hK : X.K = K) (hg : Gl X "zip") (hm : X.mg "zip" = none) (ha : PA X [e, e2] ta)
    (hs : starEach [e, e2] X.env = (false, eval e X.env) :: starEach [e2] X.env := by rfl) (hpl : (backTo pos (starEach [e2] X.env)).any (·.1) = false := by rfl) :
    PI X (.Tuple elts kk tpos) (.Call (.Name "zip" p) [e, e2] [] pos) (iZipA K ta) := hK ▸ pi_zipA hg hm ha hs hpl
theorem sumA (K : PySem.W.Frag) (hK : X.K = K) (hc : X.calm = true) : CallR X (.builtin "sum") (rSum K) := hK ▸ cr_sum hc
end
theorem bt_zip : bootBuiltins "zip" = some (.type "zip") := by decide +kernel
theorem bt_divmod : bootBuiltins "divmod" = some (.builtin "divmod") := by decide +kernel
theorem bt_all : bootBuiltins "all" = some (.builtin "all") := by decide +kernel
section
variable {c : Cb} {O : Own} {Φ : Af}
theorem ow_inLI {n : Int} {ns : List Int} (k : Φ (.d (.bool (decide (n ∈ ns)))) O) : opW c (rInB c.K) (.d (.int n)) (.d (.list (ns.map .int))) O Φ := ow_l fun B H u v ru rv w Q q => by
  cases ru
  cases rv with
  | lst g d =>
    have e := dqs_ints d
    subst e
    refine ⟨_, _, rfl, .inl (.inl (.inl (w.ex _ _ g))), rfl, flat_ints ns, ?_⟩
    rw [if_neg Bool.false_ne_true, inV_ints]
    exact q _ O B _ H k (Ext.refl B) w (.bl _)
theorem ow_ninLI {n : Int} {ns : List Int} (k : Φ (.d (.bool (!decide (n ∈ ns)))) O) : opW c (rNinB c.K) (.d (.int n)) (.d (.list (ns.map .int))) O Φ := ow_l fun B H u v ru rv w Q q => by
  cases ru
  cases rv with
  | lst g d =>
    have e := dqs_ints d
    subst e
    refine ⟨_, _, rfl, .inl (.inl (.inl (w.ex _ _ g))), rfl, flat_ints ns, ?_⟩
    rw [if_pos rfl, inV_ints]
    exact q _ O B _ H k (Ext.refl B) w (.bl _)
end
/-! == of ints and their lists -/
theorem eqv_int (i j : Int) : PyData.eqv (.int i) (.int j) = decide (i = j) := by
  first
    | (simp [PyData.eqv]; done)
    | (unfold PyData.eqv; rfl)
end BL

/-! k36: bars, plain -/
set_option linter.all false
namespace BL
namespace Bar
def Ok (l : List Int) : Prop := ∀ x ∈ l, x = 0 ∨ x = 1
theorem Ok.tail {b : Int} {l : List Int} (h : Ok (b :: l)) : Ok l := fun x hx => h x (List.mem_cons_of_mem _ hx)
theorem Ok.head {b : Int} {l : List Int} (h : Ok (b :: l)) : b = 0 ∨ b = 1 := h b List.mem_cons_self
/-- the place of a bar -/
def place : List Int → Int
  | [] => 0
  | b :: bs => 2 * place bs + (if place bs % 2 = 0 then b else 1 - b)
theorem place_bd : ∀ {l : List Int}, Ok l → 0 ≤ place l ∧ place l < 2 ^ l.length
  | [], _ => by simp [place]
  | b :: bs, h => by
    have h1 := place_bd h.tail
    have h2 := h.head
    rw [List.length_cons, Int.pow_succ]
    unfold place
    split <;> omega
/-- one ring turned -/
def beh (l : List Int) (r : Nat) : List Int := l.set r (1 - l.getD r 0)
theorem beh_ok {l : List Int} (h : Ok l) (r : Nat) : Ok (beh l r) := by
  intro x hx
  unfold beh at hx
  by_cases hr : r < l.length
  · rcases List.mem_or_eq_of_mem_set hx with k | k
    · exact h x k
    · have : l.getD r 0 = 0 ∨ l.getD r 0 = 1 := by
        rw [List.getD_eq_getElem?_getD, List.getElem?_eq_getElem hr]
        exact h _ (List.getElem_mem hr)
      omega
  · rw [List.set_eq_of_length_le (by omega)] at hx
    exact h x hx
theorem beh_len (l : List Int) (r : Nat) : (beh l r).length = l.length := by unfold beh; simp
theorem beh_zero (b : Int) (l : List Int) : beh (b :: l) 0 = (1 - b) :: l := by simp [beh]
theorem beh_succ (b : Int) (l : List Int) (r : Nat) : beh (b :: l) (r + 1) = b :: beh l r := by simp [beh]
/-- the first ring that is on -/
def fst : List Int → Nat
  | [] => 0
  | b :: bs => if b = 1 then 0 else fst bs + 1
def mayL (l : List Int) : List Nat := if fst l + 1 < l.length then [0, fst l + 1] else [0]
theorem turn0 {b : Int} {l : List Int} (h : Ok (b :: l)) : place (beh (b :: l) 0) = place (b :: l) + (if place (b :: l) % 2 = 0 then 1 else -1) := by
  rw [beh_zero]
  have h2 := h.head
  have h1 := place_bd h.tail
  unfold place
  split <;> split <;> omega
theorem turn1 : ∀ {l : List Int}, Ok l → fst l + 1 < l.length → place (beh l (fst l + 1)) = place l + (if place l % 2 = 0 then -1 else 1)
  | [], _, h => by simp at h
  | b :: bs, h, hl => by
    have h1 := place_bd h.tail
    have hb := h.head
    unfold fst at hl ⊢
    by_cases e : b = 1
    · rw [if_pos e] at hl ⊢
      cases bs with
      | nil => simp at hl
      | cons c cs =>
        have hc := h.tail.head
        have h3 := place_bd h.tail.tail
        rw [beh_succ, beh_zero]
        have e1 : place (c :: cs) = 2 * place cs + (if place cs % 2 = 0 then c else 1 - c) := rfl
        have e2 : place ((1 - c) :: cs) = 2 * place cs + (if place cs % 2 = 0 then (1 - c) else 1 - (1 - c)) := rfl
        have e3 : place (b :: c :: cs) = 2 * place (c :: cs) + (if place (c :: cs) % 2 = 0 then b else 1 - b) := rfl
        have e4 : place (b :: (1 - c) :: cs) = 2 * place ((1 - c) :: cs) + (if place ((1 - c) :: cs) % 2 = 0 then b else 1 - b) := rfl
        split at e1 <;> split at e2 <;> split at e3 <;> split at e4 <;> split <;> omega
    · rw [if_neg e] at hl ⊢
      rw [List.length_cons] at hl
      have ih := turn1 h.tail (by omega)
      rw [beh_succ]
      have e3 : place (b :: bs) = 2 * place bs + (if place bs % 2 = 0 then b else 1 - b) := rfl
      have e4 : place (b :: beh bs (fst bs + 1)) = 2 * place (beh bs (fst bs + 1)) + (if place (beh bs (fst bs + 1)) % 2 = 0 then b else 1 - b) := rfl
      split at ih <;> split at e3 <;> split at e4 <;> split <;> omega
theorem edge : ∀ {l : List Int}, Ok l → ¬ fst l + 1 < l.length → place l = 0 ∨ (place l = 2 ^ l.length - 1)
  | [], _, _ => .inl rfl
  | b :: bs, h, hl => by
    have hb := h.head
    unfold fst at hl
    have e3 : place (b :: bs) = 2 * place bs + (if place bs % 2 = 0 then b else 1 - b) := rfl
    by_cases e : b = 1
    · rw [if_pos e] at hl
      rw [List.length_cons] at hl
      cases bs with
      | nil => right; subst e; decide
      | cons c cs => simp at hl
    · rw [if_neg e] at hl
      rw [List.length_cons] at hl
      have ih := edge h.tail (by omega)
      rw [List.length_cons, Int.pow_succ]
      have hp : (0 : Int) < 2 ^ bs.length := Int.pow_pos (by decide)
      rcases ih with ih | ih
      · left; rw [ih] at e3; simp at e3; omega
      · cases bs with
        | nil => left; have e0 : place [] = 0 := rfl
                 rw [e0] at e3; simp at e3; omega
        | cons c cs =>
          right
          rw [List.length_cons, Int.pow_succ] at ih ⊢
          split at e3 <;> omega
/-- a bar is told by its place -/
theorem place_inj : ∀ {l m : List Int}, Ok l → Ok m → l.length = m.length → place l = place m → l = m
  | [], [], _, _, _, _ => rfl
  | [], _ :: _, _, _, e, _ => by simp at e
  | _ :: _, [], _, _, e, _ => by simp at e
  | b :: bs, c :: cs, h, g, e, ep => by
    have hb := h.head
    have hc := g.head
    have e1 : place (b :: bs) = 2 * place bs + (if place bs % 2 = 0 then b else 1 - b) := rfl
    have e2 : place (c :: cs) = 2 * place cs + (if place cs % 2 = 0 then c else 1 - c) := rfl
    have ei : place bs = place cs := by split at e1 <;> split at e2 <;> omega
    have := place_inj h.tail g.tail (by simpa using e) ei
    subst this
    have : b = c := by split at e1 <;> omega
    rw [this]
def dist (l m : List Int) : Int := if place l - place m < 0 then -(place l - place m) else place l - place m
/-- the nearer way: some ring may be turned after which one turn less is left -/
theorem nearer {l m : List Int} (h : Ok l) (g : Ok m) (e : l.length = m.length) (ne : place l ≠ place m) : ∃ r ∈ mayL l, dist (beh l r) m = dist l m - 1 := by
  have b1 := place_bd h
  have b2 := place_bd g
  rw [← e] at b2
  cases l with
  | nil => cases m with
    | nil => exact absurd rfl ne
    | cons _ _ => simp at e
  | cons b bs =>
    have t0 := turn0 h
    have m0 : 0 ∈ mayL (b :: bs) := by unfold mayL; split <;> simp
    by_cases hf : fst (b :: bs) + 1 < (b :: bs).length
    · have t1 := turn1 h hf
      have m1 : fst (b :: bs) + 1 ∈ mayL (b :: bs) := by unfold mayL; rw [if_pos hf]; simp
      by_cases hlt : place (b :: bs) < place m
      · by_cases hp : place (b :: bs) % 2 = 0
        · refine ⟨0, m0, ?_⟩
          rw [if_pos hp] at t0
          unfold dist; split <;> split <;> omega
        · refine ⟨_, m1, ?_⟩
          rw [if_neg hp] at t1
          unfold dist; split <;> split <;> omega
      · by_cases hp : place (b :: bs) % 2 = 0
        · refine ⟨_, m1, ?_⟩
          rw [if_pos hp] at t1
          unfold dist; split <;> split <;> omega
        · refine ⟨0, m0, ?_⟩
          rw [if_neg hp] at t0
          unfold dist; split <;> split <;> omega
    · have ed := edge h hf
      refine ⟨0, m0, ?_⟩
      rw [List.length_cons, Int.pow_succ] at ed b2
      have hp : (0 : Int) < 2 ^ bs.length := Int.pow_pos (by decide)
      rcases ed with ed | ed
      · rw [if_pos (by omega)] at t0
        unfold dist; split <;> split <;> omega
      · rw [if_neg (by omega)] at t0
        unfold dist; split <;> split <;> omega
/-! ## the bar with a place -/
def barOf : Nat → Int → List Int
  | 0, _ => []
  | n + 1, p => (if p / 2 % 2 = 0 then p % 2 else 1 - p % 2) :: barOf n (p / 2)
theorem barOf_len : ∀ (n : Nat) (p : Int), (barOf n p).length = n
  | 0, _ => rfl
  | n + 1, p => by unfold barOf; rw [List.length_cons, barOf_len n]
theorem barOf_ok : ∀ (n : Nat) (p : Int), Ok (barOf n p)
  | 0, _ => fun x hx => by cases hx
  | n + 1, p => fun x hx => by
    unfold barOf at hx
    rcases List.mem_cons.mp hx with k | k
    · subst k; split <;> omega
    · exact barOf_ok n _ x k
theorem place_barOf : ∀ (n : Nat) (p : Int), 0 ≤ p → p < 2 ^ n → place (barOf n p) = p
  | 0, p, h0, h => by simp at h; unfold barOf place; omega
  | n + 1, p, h0, h => by
    rw [Int.pow_succ] at h
    have ih := place_barOf n (p / 2) (by omega) (by omega)
    unfold barOf place
    rw [ih]
    split <;> omega
theorem barOf_place {l : List Int} (h : Ok l) : barOf l.length (place l) = l := by
  have b := place_bd h
  exact place_inj (barOf_ok _ _) h (barOf_len _ _) (place_barOf _ _ b.1 b.2)
end Bar
/-! ## rows of code words -/
namespace Cw
def whole : List Int → Int
  | [] => 1
  | m :: bs => m * whole bs
def Base (b : List Int) : Prop := ∀ m ∈ b, 2 ≤ m ∧ m ≤ 10
theorem Base.tail {m : Int} {b : List Int} (h : Base (m :: b)) : Base b := fun x hx => h x (List.mem_cons_of_mem _ hx)
theorem whole_pos : ∀ {b : List Int}, Base b → 1 ≤ whole b
  | [], _ => by decide
  | m :: bs, h => by
    have h1 := whole_pos h.tail
    have h2 := h m List.mem_cons_self
    unfold whole
    have : 1 * 1 ≤ m * whole bs := Int.mul_le_mul (by omega) h1 (by decide) (by omega)
    omega
theorem whole_le : ∀ {b : List Int}, Base b → whole b ≤ 10 ^ b.length
  | [], _ => by decide
  | m :: bs, h => by
    have h1 := whole_le h.tail
    have h0 := whole_pos h.tail
    have h2 := h m List.mem_cons_self
    unfold whole
    rw [List.length_cons, Int.pow_succ]
    have : m * whole bs ≤ 10 * 10 ^ bs.length := Int.mul_le_mul h2.2 h1 (by omega) (by decide)
    omega
inductive IsW : List Int → List Int → Prop
  | nil : IsW [] []
  | cons {m w : Int} {b ws : List Int} : 0 ≤ w → w < m → IsW b ws → IsW (m :: b) (w :: ws)
/-- the place of a word -/
def plc : List Int → List Int → Int
  | m :: b, w :: ws => w * whole b + (if w % 2 = 0 then plc b ws else whole b - 1 - plc b ws)
  | _, _ => 0
def wrd : List Int → Int → List Int
  | [], _ => []
  | m :: b, p => p / whole b :: wrd b (if p / whole b % 2 = 0 then p % whole b else whole b - 1 - p % whole b)
theorem plc_bd : ∀ {b w : List Int}, Base b → IsW b w → 0 ≤ plc b w ∧ plc b w < whole b
  | [], _, _, .nil => by simp [plc, whole]
  | m :: b, w :: ws, hb, .cons h0 h1 hw => by
    have ih := plc_bd hb.tail hw
    rw [show plc (m :: b) (w :: ws) = w * whole b + (if w % 2 = 0 then plc b ws else whole b - 1 - plc b ws) from rfl, show whole (m :: b) = m * whole b from rfl]
    have e1 : 0 ≤ w * whole b := Int.mul_nonneg h0 (by omega)
    have e2 : (w + 1) * whole b ≤ m * whole b := Int.mul_le_mul_of_nonneg_right (by omega) (by omega)
    rw [Int.add_mul] at e2
    split <;> omega
theorem div_of {N w r : Int} (h0 : 0 ≤ r) (h1 : r < N) : (w * N + r) / N = w ∧ (w * N + r) % N = r := by
  have hN : N ≠ 0 := by omega
  constructor
  · rw [Int.add_comm, Int.add_mul_ediv_right _ _ hN, Int.ediv_eq_zero_of_lt h0 h1]; omega
  · rw [Int.add_comm, Int.add_mul_emod_self_right, Int.emod_eq_of_lt h0 h1]
theorem wrd_plc : ∀ {b w : List Int}, Base b → IsW b w → wrd b (plc b w) = w
  | [], _, _, .nil => rfl
  | m :: b, w :: ws, hb, .cons h0 h1 hw => by
    have ih := wrd_plc hb.tail hw
    have bd := plc_bd hb.tail hw
    unfold wrd
    have e : plc (m :: b) (w :: ws) = w * whole b + (if w % 2 = 0 then plc b ws else whole b - 1 - plc b ws) := rfl
    by_cases hp : w % 2 = 0
    · rw [if_pos hp] at e
      obtain ⟨d1, d2⟩ := div_of (w := w) bd.1 bd.2
      rw [e, d1, d2, if_pos hp, ih]
    · rw [if_neg hp] at e
      obtain ⟨d1, d2⟩ := div_of (N := whole b) (w := w) (r := whole b - 1 - plc b ws) (by omega) (by omega)
      rw [e, d1, d2, if_neg hp]
      have : whole b - 1 - (whole b - 1 - plc b ws) = plc b ws := by omega
      rw [this, ih]
theorem wrd_ok : ∀ {b : List Int} {p : Int}, Base b → 0 ≤ p → p < whole b → IsW b (wrd b p)
  | [], _, _, _, _ => .nil
  | m :: b, p, hb, h0, h1 => by
    have hw := whole_pos hb.tail
    unfold whole at h1
    have m0 := Int.emod_nonneg p (show whole b ≠ 0 by omega)
    have m1 := Int.emod_lt_of_pos p (show 0 < whole b by omega)
    unfold wrd
    refine .cons (Int.ediv_nonneg h0 (by omega)) (Int.ediv_lt_of_lt_mul (by omega) h1) (wrd_ok hb.tail ?_ ?_)
    · split <;> omega
    · split <;> omega
theorem plc_wrd : ∀ {b : List Int} {p : Int}, Base b → 0 ≤ p → p < whole b → plc b (wrd b p) = p
  | [], p, _, h0, h1 => by simp [whole] at h1; unfold wrd plc; omega
  | m :: b, p, hb, h0, h1 => by
    have hw := whole_pos hb.tail
    have m0 := Int.emod_nonneg p (show whole b ≠ 0 by omega)
    have m1 := Int.emod_lt_of_pos p (show 0 < whole b by omega)
    have md := Int.mul_ediv_add_emod p (whole b)
    unfold wrd plc
    by_cases hp : p / whole b % 2 = 0
    · rw [if_pos hp, if_pos hp, plc_wrd hb.tail m0 m1, Int.mul_comm]; exact md
    · rw [if_neg hp, if_neg hp, plc_wrd hb.tail (by omega) (by omega), Int.mul_comm]; omega
/-- differs at one place by 1 -/
inductive Nb : List Int → List Int → Prop
  | here {a b : Int} {l : List Int} : (a = b + 1 ∨ b = a + 1) → Nb (a :: l) (b :: l)
  | there {a : Int} {l m : List Int} : Nb l m → Nb (a :: l) (a :: m)
theorem Nb.symm {l m : List Int} (h : Nb l m) : Nb m l := by
  induction h with
  | here h => exact .here h.symm
  | there _ ih => exact .there ih
theorem next : ∀ {b : List Int} {p : Int}, Base b → 0 ≤ p → p + 1 < whole b → Nb (wrd b p) (wrd b (p + 1))
  | [], p, _, h0, h1 => by simp [whole] at h1; omega
  | m :: b, p, hb, h0, h1 => by
    have hw := whole_pos hb.tail
    have m0 := Int.emod_nonneg p (show whole b ≠ 0 by omega)
    have m1 := Int.emod_lt_of_pos p (show 0 < whole b by omega)
    have md := Int.mul_ediv_add_emod p (whole b)
    have e1 : p = (p / whole b) * whole b + p % whole b := by rw [Int.mul_comm]; omega
    unfold wrd
    by_cases hl : p % whole b + 1 < whole b
    · have e2 : p + 1 = (p / whole b) * whole b + (p % whole b + 1) := by omega
      obtain ⟨d1, d2⟩ := div_of (N := whole b) (w := p / whole b) (r := p % whole b + 1) (by omega) hl
      rw [← e2] at d1 d2
      rw [d1, d2]
      refine .there ?_
      by_cases hp : p / whole b % 2 = 0
      · rw [if_pos hp, if_pos hp]; exact next hb.tail m0 hl
      · rw [if_neg hp, if_neg hp]
        have := next (p := whole b - 1 - (p % whole b + 1)) hb.tail (by omega) (by omega)
        have e3 : whole b - 1 - (p % whole b + 1) + 1 = whole b - 1 - p % whole b := by omega
        rw [e3] at this
        exact this.symm
    · have e2 : p + 1 = (p / whole b + 1) * whole b + 0 := by rw [Int.add_mul]; omega
      obtain ⟨d1, d2⟩ := div_of (N := whole b) (w := p / whole b + 1) (r := 0) (by omega) (by omega)
      rw [← e2] at d1 d2
      rw [d1, d2]
      have e4 : p % whole b = whole b - 1 := by omega
      have e5 : (if p / whole b % 2 = 0 then p % whole b else whole b - 1 - p % whole b) = (if (p / whole b + 1) % 2 = 0 then 0 else whole b - 1 - 0) := by
        rw [e4]
        split <;> split <;> omega
      rw [e5]
      exact .here (by omega)
/-- the law's way: from the first integer on, behind an odd one backwards -/
def lplc : List Int → List Int → Bool → Int
  | m :: b, w :: ws, back => (if back = true then m - 1 - w else w) * whole b + lplc b ws (back != decide (w % 2 = 1))
  | _, _, _ => 0
theorem lplc_sum : ∀ {b w : List Int}, Base b → IsW b w → lplc b w true + lplc b w false = whole b - 1
  | [], _, _, .nil => by decide
  | m :: b, w :: ws, hb, .cons h0 h1 hw => by
    have ih := lplc_sum hb.tail hw
    rw [show lplc (m :: b) (w :: ws) true = (m - 1 - w) * whole b + lplc b ws (true != decide (w % 2 = 1)) from rfl, show lplc (m :: b) (w :: ws) false = w * whole b + lplc b ws (false != decide (w % 2 = 1)) from rfl, show whole (m :: b) = m * whole b from rfl]
    have e : (m - 1 - w) * whole b + w * whole b = m * whole b - whole b := by rw [← Int.add_mul]; have : m - 1 - w + w = m - 1 := by omega
                                                                               rw [this, Int.sub_mul]; omega
    cases hd : decide (w % 2 = 1) <;> simp <;> omega
theorem lplc_eq : ∀ {b w : List Int}, Base b → IsW b w → lplc b w false = plc b w
  | [], _, _, .nil => rfl
  | m :: b, w :: ws, hb, .cons h0 h1 hw => by
    have ih := lplc_eq hb.tail hw
    have hs := lplc_sum hb.tail hw
    unfold lplc plc
    by_cases hp : w % 2 = 0
    · have : decide (w % 2 = 1) = false := decide_eq_false (by omega)
      rw [this, if_pos hp]; simp [ih]
    · have : decide (w % 2 = 1) = true := decide_eq_true (by omega)
      rw [this, if_neg hp]; simp; omega
end Cw
end BL

set_option Elab.async false
set_option linter.all false
set_option maxRecDepth 100000
set_option maxHeartbeats 4000000
namespace BL
open PySem PySem.Spec PyProof.Rows L2 RZ
theorem lay_ints : ∀ t : List Int, PyData.canLayAll0 (twl t) = true
  | [] => rfl
  | x :: t => by
    show (true && PyData.canLayAll0 (twl t)) = true
    rw [lay_ints t]; rfl
theorem depth_ints : ∀ t : List Int, PyData.depthAll (twl t) ≤ 1
  | [] => by decide
  | x :: t => by
    have := depth_ints t
    show max _ (PyData.depthAll (twl t)) ≤ 1
    exact Nat.max_le.mpr ⟨(by show _ ≤ 1; first | exact Nat.le_refl _ | exact Nat.zero_le _ | decide), this⟩
theorem shaped_tw (t : List Int) : SeqAt.shaped (tw t) = true := by
  unfold SeqAt.shaped
  have h := depth_ints t
  have h1 : (tw t).canLay0 = true := lay_ints t
  have h2 : (tw t).depth ≤ 64 := by
    unfold PyData.depth
    omega
  rw [h1, decide_eq_true h2]; rfl
theorem eqv_tw : ∀ s t : List Int, PyData.eqv (tw s) (tw t) = decide (s = t) := by
  have go : ∀ s t : List Int, PyData.eqvAll (twl s) (twl t) = decide (s = t) := by
    intro s
    induction s with
    | nil => intro t; cases t with
      | nil => rfl
      | cons y t => rfl
    | cons x s ih => intro t; cases t with
      | nil => rfl
      | cons y t =>
        show (decide (x = y) && PyData.eqvAll (twl s) (twl t)) = _
        rw [ih t]
        by_cases h1 : x = y <;> by_cases h2 : s = t <;> simp [h1, h2]
  exact go
theorem ow_eqTw {c : Cb} {O : Own} {Φ : Af} {s t : List Int} (k : Φ (.d (.bool (decide (s = t)))) O) : opW c (rEqA c.K) (.d (tw s)) (.d (tw t)) O Φ := ow_eqD (shaped_tw s) (shaped_tw t) (by rw [eqv_tw]; exact k)
theorem ow_neTw {c : Cb} {O : Own} {Φ : Af} {s t : List Int} (k : Φ (.d (.bool (!decide (s = t)))) O) : opW c (rNeA c.K) (.d (tw s)) (.d (tw t)) O Φ := ow_neD (shaped_tw s) (shaped_tw t) (by rw [eqv_tw]; exact k)
namespace Bar
theorem fst_le : ∀ l : List Int, fst l ≤ l.length
  | [] => Nat.le_refl _
  | b :: bs => by
    unfold fst
    split
    · exact Nat.zero_le _
    · rw [List.length_cons]; have := fst_le bs; omega
theorem fst_in : ∀ {l : List Int}, (1 : Int) ∈ l → l[fst l]? = some 1
  | [], h => by cases h
  | b :: bs, h => by
    unfold fst
    split
    · rename_i e; rw [e]; rfl
    · rename_i e
      rcases List.mem_cons.mp h with z | z
      · exact absurd z.symm e
      · rw [List.getElem?_cons_succ]; exact fst_in z
theorem fst_no : ∀ {l : List Int} (m : Nat), m < fst l → l[m]? ≠ some 1
  | [], m, h => by simp
  | b :: bs, m, h => by
    unfold fst at h
    split at h
    · omega
    · rename_i e
      cases m with
      | zero => simpa using e
      | succ m => rw [List.getElem?_cons_succ]; exact fst_no m (by omega)
theorem fst_out {l : List Int} (h : (1 : Int) ∉ l) : fst l = l.length := by
  induction l with
  | nil => rfl
  | cons b bs ih =>
    unfold fst
    rw [if_neg (fun e => h (by rw [e]; exact List.mem_cons_self)), ih (fun z => h (List.mem_cons_of_mem _ z))]
    rfl
def mayI (l : List Int) : List Int := (mayL l).map fun (k : Nat) => (k : Int)
theorem mem_mayI {l : List Int} {r : Int} : r ∈ mayI l ↔ ∃ k ∈ mayL l, r = (k : Int) := by
  unfold mayI
  rw [List.mem_map]
  exact ⟨fun ⟨k, h, e⟩ => ⟨k, h, e.symm⟩, fun ⟨k, h, e⟩ => ⟨k, h, e.symm⟩⟩
theorem mayL_lt {l : List Int} (h : l ≠ []) {k : Nat} (hk : k ∈ mayL l) : k < l.length := by
  have := List.length_pos_iff.mpr h
  unfold mayL at hk
  split at hk
  · simp at hk
    omega
  · simp at hk
    omega
theorem mayI_len (l : List Int) : (mayI l).length ≤ 2 := by
  unfold mayI mayL
  rw [List.length_map]
  split
  · exact Nat.le_refl 2
  · exact Nat.le_succ 1
theorem mayI_one {l : List Int} (h : ¬ fst l + 1 < l.length) : mayI l = [0] := by unfold mayI mayL; rw [if_neg h]; rfl
theorem mayI_two {l : List Int} (h : fst l + 1 < l.length) : mayI l = [0, (fst l : Int) + 1] := by unfold mayI mayL; rw [if_pos h]; rfl
theorem beh_eq {l : List Int} {k : Nat} (h : k < l.length) : l.take k ++ [1 - l.getD k 0] ++ l.drop (k + 1) = beh l k := by
  unfold beh
  rw [List.set_eq_take_append_cons_drop, if_pos h, List.append_assoc]; rfl
/-! bits -/
theorem xor01 {x y : Int} (h1 : x = 0 ∨ x = 1) (h2 : y = 0 ∨ y = 1) : Builtin.bitXor x y = if y = 0 then x else 1 - x := by
  rcases h1 with rfl | rfl <;> rcases h2 with rfl | rfl <;> decide
theorem step_place {b : Int} {bs : List Int} (h : Ok (b :: bs)) : 2 * place bs + Builtin.bitXor b (Builtin.bitAnd (place bs) 1) = place (b :: bs) := by
  rw [PyProof.Rows.bitAnd_m1, xor01 h.head (by omega)]
  rfl
def gcode (p : Int) : Int := Builtin.bitXor p (p / 2)
theorem gcode_step {p : Int} (h : 0 ≤ p) : gcode p / 2 = gcode (p / 2) ∧ gcode p % 2 = (if p / 2 % 2 = 0 then p % 2 else 1 - p % 2) := by
  obtain ⟨n, rfl⟩ := Int.eq_ofNat_of_zero_le h
  unfold gcode
  rw [PyProof.Rows.bitXor_and, PyProof.Rows.bitXor_and]
  have e1 : ((n : Int) / 2) = ((n / 2 : Nat) : Int) := by omega
  have e2 : (((n / 2 : Nat) : Int) / 2) = ((n / 2 / 2 : Nat) : Int) := by omega
  have la : ∀ a b : Nat, Builtin.bitAnd (a : Int) (b : Int) = ((a &&& b : Nat) : Int) := fun a b => by
    unfold Builtin.bitAnd
    rw [decide_eq_true (by omega), decide_eq_true (by omega)]
    simp
  rw [e1, e2, la, la]
  have h1 : (n &&& n / 2) / 2 = n / 2 &&& n / 2 / 2 := Nat.and_div_two
  have h2 : (n &&& n / 2) % 2 = 1 ↔ n % 2 = 1 ∧ n / 2 % 2 = 1 := Nat.and_mod_two_eq_one
  constructor
  · by_cases c1 : n % 2 = 1 <;> by_cases c2 : n / 2 % 2 = 1
    · have := h2.mpr ⟨c1, c2⟩; omega
    · have : ¬ (n &&& n / 2) % 2 = 1 := fun z => c2 (h2.mp z).2
      omega
    · have : ¬ (n &&& n / 2) % 2 = 1 := fun z => c1 (h2.mp z).1
      omega
    · have : ¬ (n &&& n / 2) % 2 = 1 := fun z => c1 (h2.mp z).1
      omega
  · by_cases c1 : n % 2 = 1 <;> by_cases c2 : n / 2 % 2 = 1
    · have := h2.mpr ⟨c1, c2⟩; rw [if_neg (by omega)]; omega
    · have : ¬ (n &&& n / 2) % 2 = 1 := fun z => c2 (h2.mp z).2
      rw [if_pos (by omega)]; omega
    · have : ¬ (n &&& n / 2) % 2 = 1 := fun z => c1 (h2.mp z).1
      rw [if_neg (by omega)]; omega
    · have : ¬ (n &&& n / 2) % 2 = 1 := fun z => c1 (h2.mp z).1
      rw [if_pos (by omega)]; omega
def gbit (p : Int) : Int := if p / 2 % 2 = 0 then p % 2 else 1 - p % 2
theorem gcode_shr {p : Int} (h : 0 ≤ p) : ∀ r : Nat, gcode p / 2 ^ r = gcode (p / 2 ^ r)
  | 0 => by simp
  | r + 1 => by
    have ih := gcode_shr h r
    rw [Int.pow_succ, ← Int.ediv_ediv_of_nonneg (Int.le_of_lt (Int.pow_pos (by decide))), ih, ← Int.ediv_ediv_of_nonneg (Int.le_of_lt (Int.pow_pos (by decide)))]
    exact (gcode_step (Int.ediv_nonneg h (Int.le_of_lt (Int.pow_pos (by decide))))).1
theorem bit_at {p : Int} (h : 0 ≤ p) (r : Nat) : Builtin.bitAnd (Builtin.bitXor p (p / 2) / 2 ^ r) 1 = gbit (p / 2 ^ r) := by
  rw [PyProof.Rows.bitAnd_m1]
  show gcode p / 2 ^ r % 2 = _
  rw [gcode_shr h, (gcode_step (Int.ediv_nonneg h (Int.le_of_lt (Int.pow_pos (by decide))))).2]
  rfl
theorem barOf_range : ∀ (n : Nat) (p : Int), barOf n p = (List.range n).map fun r => gbit (p / 2 ^ r)
  | 0, _ => rfl
  | n + 1, p => by
    unfold barOf
    rw [barOf_range n, List.range_succ_eq_map, List.map_cons, List.map_map]
    congr 1
    · show _ = gbit (p / 2 ^ 0)
      rw [Int.pow_zero, Int.ediv_one]; rfl
    · apply List.map_congr_left
      intro r _
      show gbit (p / 2 / 2 ^ r) = gbit (p / 2 ^ (r + 1))
      rw [Int.pow_succ, Int.mul_comm, Int.ediv_ediv_of_nonneg (by decide)]
end Bar
end BL

set_option Elab.async false
set_option linter.all false
set_option maxRecDepth 100000
set_option maxHeartbeats 4000000
namespace BL
open PySem PySem.Spec PyProof.Rows L2 HotX L2H
def top (i : Nat) : Stmt := PySem.Challenge.pw_setright_k36_whole_bars_and_long_code_wo.main.body.getD i (.Pass ⟨0, 0, 0, 0⟩)
abbrev s_is_number : Stmt := top 8
abbrev N_is_number : List Str := (["value", "least", "most"] : List Str)
abbrev P_is_number : List Str := (["value", "least", "most"] : List Str)
theorem sc_is_number : FnScope N_is_number P_is_number (defScope s_is_number) := ⟨rfl, rfl, rfl, by decide +kernel, rfl, by decide +kernel, by decide +kernel⟩
abbrev s_is_bar : Stmt := top 10
abbrev N_is_bar : List Str := (["value", "one"] : List Str)
abbrev P_is_bar : List Str := (["value"] : List Str)
theorem sc_is_bar : FnScope N_is_bar P_is_bar (defScope s_is_bar) := ⟨rfl, rfl, rfl, by decide +kernel, rfl, by decide +kernel, by decide +kernel⟩
abbrev s_is_base : Stmt := top 11
abbrev N_is_base : List Str := (["value", "one"] : List Str)
abbrev P_is_base : List Str := (["value"] : List Str)
theorem sc_is_base : FnScope N_is_base P_is_base (defScope s_is_base) := ⟨rfl, rfl, rfl, by decide +kernel, rfl, by decide +kernel, by decide +kernel⟩
abbrev s_is_code_word : Stmt := top 12
abbrev N_is_code_word : List Str := (["base", "value", "one", "most"] : List Str)
abbrev P_is_code_word : List Str := (["base", "value"] : List Str)
theorem sc_is_code_word : FnScope N_is_code_word P_is_code_word (defScope s_is_code_word) := ⟨rfl, rfl, rfl, by decide +kernel, rfl, by decide +kernel, by decide +kernel⟩
abbrev s_may_turn : Stmt := top 13
abbrev N_may_turn : List Str := (["bar", "told"] : List Str)
abbrev P_may_turn : List Str := (["bar"] : List Str)
theorem sc_may_turn : FnScope N_may_turn P_may_turn (defScope s_may_turn) := ⟨rfl, rfl, rfl, by decide +kernel, rfl, by decide +kernel, by decide +kernel⟩
abbrev s_turned : Stmt := top 14
abbrev N_turned : List Str := (["bar", "ring"] : List Str)
abbrev P_turned : List Str := (["bar", "ring"] : List Str)
theorem sc_turned : FnScope N_turned P_turned (defScope s_turned) := ⟨rfl, rfl, rfl, by decide +kernel, rfl, by decide +kernel, by decide +kernel⟩
abbrev s_place_of_bar : Stmt := top 15
abbrev N_place_of_bar : List Str := (["bar", "place", "one"] : List Str)
abbrev P_place_of_bar : List Str := (["bar"] : List Str)
theorem sc_place_of_bar : FnScope N_place_of_bar P_place_of_bar (defScope s_place_of_bar) := ⟨rfl, rfl, rfl, by decide +kernel, rfl, by decide +kernel, by decide +kernel⟩
abbrev s_bar_at : Stmt := top 16
abbrev N_bar_at : List Str := (["rings", "place", "code", "ring"] : List Str)
abbrev P_bar_at : List Str := (["rings", "place"] : List Str)
theorem sc_bar_at : FnScope N_bar_at P_bar_at (defScope s_bar_at) := ⟨rfl, rfl, rfl, by decide +kernel, rfl, by decide +kernel, by decide +kernel⟩
abbrev s_turns : Stmt := top 17
abbrev N_turns : List Str := (["one", "other"] : List Str)
abbrev P_turns : List Str := (["one", "other"] : List Str)
theorem sc_turns : FnScope N_turns P_turns (defScope s_turns) := ⟨rfl, rfl, rfl, by decide +kernel, rfl, by decide +kernel, by decide +kernel⟩
abbrev s_first_ring : Stmt := top 18
abbrev N_first_ring : List Str := (["one", "other", "goal", "ring"] : List Str)
abbrev P_first_ring : List Str := (["one", "other"] : List Str)
theorem sc_first_ring : FnScope N_first_ring P_first_ring (defScope s_first_ring) := ⟨rfl, rfl, rfl, by decide +kernel, rfl, by decide +kernel, by decide +kernel⟩
abbrev s_count_words : Stmt := top 19
abbrev N_count_words : List Str := (["base", "many", "most"] : List Str)
abbrev P_count_words : List Str := (["base"] : List Str)
theorem sc_count_words : FnScope N_count_words P_count_words (defScope s_count_words) := ⟨rfl, rfl, rfl, by decide +kernel, rfl, by decide +kernel, by decide +kernel⟩
abbrev s_word_at : Stmt := top 20
abbrev N_word_at : List Str := (["base", "place", "many", "told", "most", "first"] : List Str)
abbrev P_word_at : List Str := (["base", "place"] : List Str)
theorem sc_word_at : FnScope N_word_at P_word_at (defScope s_word_at) := ⟨rfl, rfl, rfl, by decide +kernel, rfl, by decide +kernel, by decide +kernel⟩
abbrev s_place_of_word : Stmt := top 21
abbrev N_place_of_word : List Str := (["base", "word", "place", "many", "one", "most"] : List Str)
abbrev P_place_of_word : List Str := (["base", "word"] : List Str)
theorem sc_place_of_word : FnScope N_place_of_word P_place_of_word (defScope s_place_of_word) := ⟨rfl, rfl, rfl, by decide +kernel, rfl, by decide +kernel, by decide +kernel⟩
abbrev s__law_draws : Stmt := top 23
abbrev N__law_draws : List Str := (["script", "draws", "cell", "seed", "k", "number", "first"] : List Str)
abbrev P__law_draws : List Str := (["script"] : List Str)
theorem sc__law_draws : FnScope N__law_draws P__law_draws (defScope s__law_draws) := ⟨rfl, rfl, rfl, by decide +kernel, rfl, by decide +kernel, by decide +kernel⟩
abbrev s__law_take : Stmt := top 24
abbrev N__law_take : List Str := (["draws", "bound"] : List Str)
abbrev P__law_take : List Str := (["draws", "bound"] : List Str)
theorem sc__law_take : FnScope N__law_take P__law_take (defScope s__law_take) := ⟨rfl, rfl, rfl, by decide +kernel, rfl, by decide +kernel, by decide +kernel⟩
abbrev s__law_alike : Stmt := top 25
abbrev N__law_alike : List Str := (["found", "due", "k"] : List Str)
abbrev P__law_alike : List Str := (["found", "due"] : List Str)
theorem sc__law_alike : FnScope N__law_alike P__law_alike (defScope s__law_alike) := ⟨rfl, rfl, rfl, by decide +kernel, rfl, by decide +kernel, by decide +kernel⟩
abbrev s__law_word : Stmt := top 26
abbrev N__law_word : List Str := (["e", "kinds", "kind"] : List Str)
abbrev P__law_word : List Str := (["e"] : List Str)
theorem sc__law_word : FnScope N__law_word P__law_word (defScope s__law_word) := ⟨rfl, rfl, rfl, by decide +kernel, rfl, by decide +kernel, by decide +kernel⟩
abbrev s__law_place : Stmt := top 27
abbrev N__law_place : List Str := (["bar", "k", "found", "digit", "ring"] : List Str)
abbrev P__law_place : List Str := (["bar"] : List Str)
theorem sc__law_place : FnScope N__law_place P__law_place (defScope s__law_place) := ⟨rfl, rfl, rfl, by decide +kernel, rfl, by decide +kernel, by decide +kernel⟩
abbrev s__law_may : Stmt := top 28
abbrev N__law_may : List Str := (["bar", "found", "ring", "one"] : List Str)
abbrev P__law_may : List Str := (["bar"] : List Str)
theorem sc__law_may : FnScope N__law_may P__law_may (defScope s__law_may) := ⟨rfl, rfl, rfl, by decide +kernel, rfl, by decide +kernel, by decide +kernel⟩
abbrev s__law_behind : Stmt := top 29
abbrev N__law_behind : List Str := (["bar", "ring"] : List Str)
abbrev P__law_behind : List Str := (["bar", "ring"] : List Str)
theorem sc__law_behind : FnScope N__law_behind P__law_behind (defScope s__law_behind) := ⟨rfl, rfl, rfl, by decide +kernel, rfl, by decide +kernel, by decide +kernel⟩
abbrev s__law_bar_of : Stmt := top 30
abbrev N__law_bar_of : List Str := (["rings", "place", "digits", "k"] : List Str)
abbrev P__law_bar_of : List Str := (["rings", "place"] : List Str)
theorem sc__law_bar_of : FnScope N__law_bar_of P__law_bar_of (defScope s__law_bar_of) := ⟨rfl, rfl, rfl, by decide +kernel, rfl, by decide +kernel, by decide +kernel⟩
abbrev s__law_word_place : Stmt := top 31
abbrev N__law_word_place : List Str := (["base", "word", "k", "found", "backwards", "whole", "number"] : List Str)
abbrev P__law_word_place : List Str := (["base", "word"] : List Str)
theorem sc__law_word_place : FnScope N__law_word_place P__law_word_place (defScope s__law_word_place) := ⟨rfl, rfl, rfl, by decide +kernel, rfl, by decide +kernel, by decide +kernel⟩
abbrev s__law_whole : Stmt := top 32
abbrev N__law_whole : List Str := (["base", "found", "number"] : List Str)
abbrev P__law_whole : List Str := (["base"] : List Str)
theorem sc__law_whole : FnScope N__law_whole P__law_whole (defScope s__law_whole) := ⟨rfl, rfl, rfl, by decide +kernel, rfl, by decide +kernel, by decide +kernel⟩
abbrev s__law_told : Stmt := top 33
abbrev N__law_told : List Str := (["which", "one", "other", "e"] : List Str)
abbrev P__law_told : List Str := (["which", "one", "other"] : List Str)
theorem sc__law_told : FnScope N__law_told P__law_told (defScope s__law_told) := ⟨rfl, rfl, rfl, by decide +kernel, rfl, by decide +kernel, by decide +kernel⟩
abbrev s__law_bar : Stmt := top 34
abbrev N__law_bar : List Str := (["draws", "rings", "way", "k"] : List Str)
abbrev P__law_bar : List Str := (["draws", "rings"] : List Str)
theorem sc__law_bar : FnScope N__law_bar P__law_bar (defScope s__law_bar) := ⟨rfl, rfl, rfl, by decide +kernel, rfl, by decide +kernel, by decide +kernel⟩
abbrev s__law_words : Stmt := top 35
abbrev N__law_words : List Str := (["draws", "base", "whole", "turn", "bad", "word", "place", "later", "k", "number", "value"] : List Str)
abbrev P__law_words : List Str := (["draws"] : List Str)
theorem sc__law_words : FnScope N__law_words P__law_words (defScope s__law_words) := ⟨rfl, rfl, rfl, by decide +kernel, rfl, by decide +kernel, by decide +kernel⟩
abbrev s_law : Stmt := top 36
abbrev N_law : List Str := (["script", "draws", "rings", "now", "turn", "most", "place", "one", "other", "here", "there", "ring", "number", "value"] : List Str)
abbrev P_law : List Str := (["script"] : List Str)
theorem sc_law : FnScope N_law P_law (defScope s_law) := ⟨rfl, rfl, rfl, by decide +kernel, rfl, by decide +kernel, by decide +kernel⟩
structure Txt (K : PySem.W.Frag) (mg : Str → Option Value) where
  is_number : FD K mg "is_number" s_is_number P_is_number
  is_bar : FD K mg "is_bar" s_is_bar P_is_bar
  is_base : FD K mg "is_base" s_is_base P_is_base
  is_code_word : FD K mg "is_code_word" s_is_code_word P_is_code_word
  may_turn : FD K mg "may_turn" s_may_turn P_may_turn
  turned : FD K mg "turned" s_turned P_turned
  place_of_bar : FD K mg "place_of_bar" s_place_of_bar P_place_of_bar
  bar_at : FD K mg "bar_at" s_bar_at P_bar_at
  turns : FD K mg "turns" s_turns P_turns
  first_ring : FD K mg "first_ring" s_first_ring P_first_ring
  count_words : FD K mg "count_words" s_count_words P_count_words
  word_at : FD K mg "word_at" s_word_at P_word_at
  place_of_word : FD K mg "place_of_word" s_place_of_word P_place_of_word
  _law_draws : FD K mg "_law_draws" s__law_draws P__law_draws
  _law_take : FD K mg "_law_take" s__law_take P__law_take
  _law_alike : FD K mg "_law_alike" s__law_alike P__law_alike
  _law_word : FD K mg "_law_word" s__law_word P__law_word
  _law_place : FD K mg "_law_place" s__law_place P__law_place
  _law_may : FD K mg "_law_may" s__law_may P__law_may
  _law_behind : FD K mg "_law_behind" s__law_behind P__law_behind
  _law_bar_of : FD K mg "_law_bar_of" s__law_bar_of P__law_bar_of
  _law_word_place : FD K mg "_law_word_place" s__law_word_place P__law_word_place
  _law_whole : FD K mg "_law_whole" s__law_whole P__law_whole
  _law_told : FD K mg "_law_told" s__law_told P__law_told
  _law_bar : FD K mg "_law_bar" s__law_bar P__law_bar
  _law_words : FD K mg "_law_words" s__law_words P__law_words
  law : FD K mg "law" s_law P_law
  RightError : CD K mg "RightError"
  OutOfRange : CD K mg "OutOfRange"
  Malformed : CD K mg "Malformed"
  NotThere : CD K mg "NotThere"
  Refused : CD K mg "Refused"
  TooMuch : CD K mg "TooMuch"
  t_is_bar : TD K "is_bar" is_bar.fd
  t_is_base : TD K "is_base" is_base.fd
  t_is_code_word : TD K "is_code_word" is_code_word.fd
  x_OutOfRange : PySem.W.exmOne K (.ref OutOfRange.x) (.ref RightError.x) = some true
  k_OutOfRange_OutOfRange : PySem.W.kitOne K (.ref OutOfRange.x) (.ref OutOfRange.x) = some true
  k_OutOfRange_Malformed : PySem.W.kitOne K (.ref OutOfRange.x) (.ref Malformed.x) = some false
  k_OutOfRange_NotThere : PySem.W.kitOne K (.ref OutOfRange.x) (.ref NotThere.x) = some false
  k_OutOfRange_Refused : PySem.W.kitOne K (.ref OutOfRange.x) (.ref Refused.x) = some false
  k_OutOfRange_TooMuch : PySem.W.kitOne K (.ref OutOfRange.x) (.ref TooMuch.x) = some false
  x_Malformed : PySem.W.exmOne K (.ref Malformed.x) (.ref RightError.x) = some true
  k_Malformed_OutOfRange : PySem.W.kitOne K (.ref Malformed.x) (.ref OutOfRange.x) = some false
  k_Malformed_Malformed : PySem.W.kitOne K (.ref Malformed.x) (.ref Malformed.x) = some true
  k_Malformed_NotThere : PySem.W.kitOne K (.ref Malformed.x) (.ref NotThere.x) = some false
  k_Malformed_Refused : PySem.W.kitOne K (.ref Malformed.x) (.ref Refused.x) = some false
  k_Malformed_TooMuch : PySem.W.kitOne K (.ref Malformed.x) (.ref TooMuch.x) = some false
  x_NotThere : PySem.W.exmOne K (.ref NotThere.x) (.ref RightError.x) = some true
  k_NotThere_OutOfRange : PySem.W.kitOne K (.ref NotThere.x) (.ref OutOfRange.x) = some false
  k_NotThere_Malformed : PySem.W.kitOne K (.ref NotThere.x) (.ref Malformed.x) = some false
  k_NotThere_NotThere : PySem.W.kitOne K (.ref NotThere.x) (.ref NotThere.x) = some true
  k_NotThere_Refused : PySem.W.kitOne K (.ref NotThere.x) (.ref Refused.x) = some false
  k_NotThere_TooMuch : PySem.W.kitOne K (.ref NotThere.x) (.ref TooMuch.x) = some false
  x_Refused : PySem.W.exmOne K (.ref Refused.x) (.ref RightError.x) = some true
  k_Refused_OutOfRange : PySem.W.kitOne K (.ref Refused.x) (.ref OutOfRange.x) = some false
  k_Refused_Malformed : PySem.W.kitOne K (.ref Refused.x) (.ref Malformed.x) = some false
  k_Refused_NotThere : PySem.W.kitOne K (.ref Refused.x) (.ref NotThere.x) = some false
  k_Refused_Refused : PySem.W.kitOne K (.ref Refused.x) (.ref Refused.x) = some true
  k_Refused_TooMuch : PySem.W.kitOne K (.ref Refused.x) (.ref TooMuch.x) = some false
  x_TooMuch : PySem.W.exmOne K (.ref TooMuch.x) (.ref RightError.x) = some true
  k_TooMuch_OutOfRange : PySem.W.kitOne K (.ref TooMuch.x) (.ref OutOfRange.x) = some false
  k_TooMuch_Malformed : PySem.W.kitOne K (.ref TooMuch.x) (.ref Malformed.x) = some false
  k_TooMuch_NotThere : PySem.W.kitOne K (.ref TooMuch.x) (.ref NotThere.x) = some false
  k_TooMuch_Refused : PySem.W.kitOne K (.ref TooMuch.x) (.ref Refused.x) = some false
  k_TooMuch_TooMuch : PySem.W.kitOne K (.ref TooMuch.x) (.ref TooMuch.x) = some true
  b_ValueError : mg "ValueError" = none
  b_abs : mg "abs" = none
  b_all : mg "all" = none
  b_bool : mg "bool" = none
  b_divmod : mg "divmod" = none
  b_int : mg "int" = none
  b_isinstance : mg "isinstance" = none
  b_len : mg "len" = none
  b_list : mg "list" = none
  b_min : mg "min" = none
  b_range : mg "range" = none
  b_reversed : mg "reversed" = none
  b_str : mg "str" = none
  b_sum : mg "sum" = none
  b_tuple : mg "tuple" = none
  b_zip : mg "zip" = none
def numP (i : Nat) : Pos := ([⟨16, 11, 16, 21⟩, ⟨16, 22, 16, 27⟩, ⟨16, 29, 16, 32⟩, ⟨16, 11, 16, 33⟩, ⟨16, 43, 16, 53⟩, ⟨16, 54, 16, 59⟩, ⟨16, 61, 16, 65⟩, ⟨16, 43, 16, 66⟩, ⟨16, 39, 16, 66⟩, ⟨16, 73, 16, 78⟩, ⟨16, 82, 16, 87⟩, ⟨16, 91, 16, 95⟩, ⟨16, 73, 16, 95⟩, ⟨16, 11, 16, 96⟩, ⟨16, 4, 16, 96⟩] : List Pos).getD i ⟨0, 0, 0, 0⟩
theorem num_body : defBody s_is_number = numBody numP := rfl
theorem num_scope : NumScope (defScope s_is_number) := ⟨sc_is_number, rfl, rfl, rfl, rfl, rfl, rfl⟩
/-- the tables of the defs that hold generator expressions -/
structure Tabs {K : PySem.W.Frag} {mg : Str → Option Value} (X : Txt K mg) (T : List Addr) (base : Heap) : Prop where
  is_bar : GxR.TabB base mg X.t_is_bar.c X.t_is_bar.P
  m_is_bar : X.t_is_bar.P ∈ T
  is_base : GxR.TabB base mg X.t_is_base.c X.t_is_base.P
  m_is_base : X.t_is_base.P ∈ T
  is_code_word : GxR.TabB base mg X.t_is_code_word.c X.t_is_code_word.P
  m_is_code_word : X.t_is_code_word.P ∈ T
end BL

set_option Elab.async false
set_option linter.all false
set_option maxRecDepth 100000
set_option maxHeartbeats 4000000
namespace BL
open PySem PySem.Spec PyProof.Rows L2 HotX L2H RZ
local macro_rules | `(tactic| walk_at "s") => `(tactic| (with_reducible first
  | refine st_seq ?_ | refine st_set ?_ | refine st_asg ?_ | refine st_ret ?_ | refine st_retN ?_ | refine st_if ?_ | refine st_next ?_ | refine st_drop ?_ | refine st_cont ?_ | refine st_brk ?_ | refine st_par ?_ | refine st_par3 ?_
  | refine ev_varF rfl ?_ | refine ev_varP rfl ?_ | refine ev_var rfl ?_ | refine ev_int ?_ | refine ev_str ?_ | refine ev_bl ?_ | refine ev_non ?_ | refine ev_raw ?_
  | refine ev_if ?_ | refine ev_andV ?_ | refine ev_orV ?_ | refine ev_notV ?_ | refine et_test ?_ | refine et_B ?_ | refine et_and ?_ | refine et_or ?_ | refine et_not ?_ | refine et_yes ?_
  | refine ev_chain ?_ | refine ev_op ?_ | refine ev_un ?_ | refine ev_cb ?_ | refine ev_sl ?_ | refine eo_none ?_ | refine eo_some ?_ | refine ea_nil ?_ | refine ea_cons ?_ | refine ev_call ?_
  | refine ow_mulBS ?_ ?_ | refine ow_addI ?_ | refine ow_addFI ?_ | refine ow_mulFS ?_ ?_ | refine ow_isB ?_ | refine ow_notB ?_ | refine ow_I0 ?_ | refine ow_B0 ?_ | refine ow_eqI ?_ | refine ow_neI ?_ | refine uw_neg ?_
  | refine ow_mod (by decide +kernel) ?_ | refine ow_powC (by decide +kernel) ?_ | refine ow_inTI ?_ | refine ow_ninTI ?_ | refine ow_isN ?_ | refine ow_notN ?_
  | refine cw_lenT ?_ | refine cw_lenL ?_ | refine cw_int ?_ | refine cw_abs ?_ | refine cw_max2 ?_ | refine cw_min2 ?_ | refine cw_tupL ?_
  | refine gj_name (by decide) ?_ | refine g_name ?_ | refine gjs_nil ?_ | refine gjs_cons ?_
  | refine isi_int (b := true) (by decide +kernel) ?_ | refine isi_int (b := false) (by decide +kernel) ?_ | refine isi_bool (b := true) (by decide +kernel) ?_ | refine isi_bool (b := false) (by decide +kernel) ?_ | refine isi_str (b := true) (by decide +kernel) ?_ | refine isi_str (b := false) (by decide +kernel) ?_ | refine isi_tup (b := true) (by decide +kernel) ?_ | refine isi_tup (b := false) (by decide +kernel) ?_ | refine isi_lst (b := true) (by decide +kernel) ?_ | refine isi_lst (b := false) (by decide +kernel) ?_ | refine isi_non (b := true) (by decide +kernel) ?_ | refine isi_non (b := false) (by decide +kernel) ?_ | refine aret_rt ?_ | refine aret_nx ?_ | rw [if_pos rfl] | rw [if_pos nf_true] | rw [if_neg nt_true] | rw [if_neg Bool.false_ne_true] | refine ⟨_, rfl, ?_⟩) <;> try dsimp only [Bool.not_true, Bool.not_false, List.set])
local macro_rules | `(tactic| walk_at "ss") => `(tactic| repeat (any_goals walk_at "s"))
local macro_rules | `(tactic| walk_at "n") => `(tactic| try dsimp only [wipeA, List.map_cons, List.map_nil, List.set, srcN])
local macro_rules | `(tactic| walk_at "sr") => `(tactic| (with_reducible first | refine ev_var rfl ?_ | walk_at "s"))
local macro_rules | `(tactic| walk_at "ssr") => `(tactic| repeat (any_goals walk_at "sr"))

section
variable {P : Program} {w : World} {K : PySem.W.Frag} {T : List Addr} {mg : Str → Option Value} {base : Heap}
def Sp_is_number : FSp := fun as O Φ Ψ => ∃ (v a b : Int), as = [.d (.int v), .d (.int a), .d (.int b)] ∧ Φ (.d (.bool (decide (a ≤ v) && decide (v ≤ b)))) O
theorem ok_is_number (X : Txt K mg) : FnOk P w K mg base CX0 (0 + 1) X.is_number.f X.is_number.fd P_is_number (spOf K T Sp_is_number) := by
  refine ok_fn X.is_number.F sc_is_number (fun as O Φ Ψ ⟨v, a, b, e, _⟩ => by rw [e]; rfl) fun cdv A outer s H E hr => ⟨_, (pss_one (ps_ret (pe_and (pe_callB (isiA K rfl) (by rfl) X.b_isinstance bt_isinstance (pa_cons (pv 0) (pa_cons (pe_bltn (v := .ty "int") (by rfl) X.b_int bt_int rfl) pa_nil))) (pe_and (pe_not (pe_callB (isiA K rfl) (by rfl) X.b_isinstance bt_isinstance (pa_cons (pv 0) (pa_cons (pe_bltn (v := .ty "bool") (by rfl) X.b_bool bt_bool rfl) pa_nil)))) (pe_one (pe_chain op_le op_le (pv 1) (pv 0) (pv 2))))))), fun as O Φ Ψ ⟨v, a, b, e, h⟩ => ?_⟩
  subst e
  show StW _ _ [some _, some _, some _] _ _
  walk_at "ss"
  refine ite_dec (fun h1 => ?_) (fun h1 => ?_)
  · rw [decide_eq_true h1, Bool.true_and] at h
    walk_at "ss"
    exact h
  · rw [decide_eq_false h1, Bool.false_and] at h
    walk_at "ss"
    exact h
/-- is_bar, is_base: of any data -/
def allIn (lo hi : Int) (most : Nat) : PyData → Bool
  | .tuple l => decide (1 ≤ l.length) && (decide (l.length ≤ most) && l.all (numD lo hi))
  | _ => false
def isT : PyData → Bool
  | .tuple _ => true
  | _ => false
theorem cw_isTup {c : Cb} {O : Own} {Φ : Af} {d : PyData} (hd : ∀ kvs, d ≠ .dict kvs) (k : Φ (.d (.bool (isT d))) O) : calW c (rIsiA c.K) [.d d, .v (.ty "tuple")] O Φ := by
  cases d with
  | none => exact cw_isi (show kitB "NoneType" "tuple" = some false by decide +kernel) k
  | bool b => exact cw_isi (show kitB "bool" "tuple" = some false by decide +kernel) k
  | int b => exact cw_isi (show kitB "int" "tuple" = some false by decide +kernel) k
  | str b => exact cw_isi (show kitB "str" "tuple" = some false by decide +kernel) k
  | list b => exact cw_isi (show kitB "list" "tuple" = some false by decide +kernel) k
  | tuple b => exact cw_isi (show kitB "tuple" "tuple" = some true by decide +kernel) k
  | dict b => exact absurd rfl (hd b)
def Sp_all (lo hi : Int) (most : Nat) : FSp := fun as O Φ Ψ => ∃ (d : PyData), as = [.d d] ∧ (∀ kvs, d ≠ .dict kvs) ∧ (∀ l, d = .tuple l → ∀ x ∈ l, flatD x = true) ∧ Φ (.d (.bool (allIn lo hi most d))) O
theorem allIn_no {d : PyData} {lo hi : Int} {m : Nat} (h : isT d = false) : allIn lo hi m d = false := by
  cases d <;> first | rfl | cases h
theorem tup_of {d : PyData} (h : isT d = true) : ∃ l, d = .tuple l := by
  cases d <;> first | exact ⟨_, rfl⟩ | cases h
theorem ok_is_bar (X : Txt K mg) (tb : Tabs X T base) : FnOk P w K mg base CX0 (1 + 1) X.is_bar.f X.is_bar.fd P_is_bar (spOf K T (Sp_all 0 1 60)) := by
  refine ok_fnC X.is_bar.F X.t_is_bar.code sc_is_bar (fun as O Φ Ψ ⟨d, e, _⟩ => by rw [e]; rfl) fun A outer s H E hr => ⟨_, (pss_one (ps_ret (pe_and (pe_callB (isiA K rfl) (by rfl) X.b_isinstance bt_isinstance (pa_cons (pv 0) (pa_cons (pe_bltn (v := .ty "tuple") (by rfl) X.b_tuple bt_tuple rfl) pa_nil))) (pe_and (pe_chain op_le op_le pe_int (pe_callB (lenA K rfl) (by rfl) X.b_len bt_len (pa_cons (pv 0) pa_nil)) pe_int) (pe_one (pe_allT K rfl hr (by rfl) X.b_all tb.is_bar rfl ⟨rfl, rfl, by decide +kernel, rfl, rfl, fun y hy e => absurd e (by revert y; decide +kernel)⟩ (pv 0) (elt_num X.is_number.F num_body num_scope X.is_number.b hr X.b_isinstance X.b_int X.b_bool X.is_number.m rfl rfl rfl) (fun _ => rfl))))))), fun as O Φ Ψ ⟨d, e, hd, hf, h⟩ => ?_⟩
  subst e
  show StW _ _ [some _, none] _ _
  walk_at "ss"
  refine cw_isTup hd ?_
  walk_at "ss"
  refine ite_b (fun ht => ?_) (fun ht => ?_)
  · obtain ⟨l, rfl⟩ := tup_of ht
    walk_at "ss"
    refine ite_dec (fun h1 => ?_) (fun h1 => ?_)
    · walk_at "ss"
      refine ite_dec (fun h2 => ?_) (fun h2 => ?_)
      · refine ev_allN tb.m_is_bar ?_
        walk_at "ss"
        refine ⟨hf l rfl, ?_⟩
        have e : allIn 0 1 60 (.tuple l) = l.all (numD 0 1) := by
          show (decide (1 ≤ l.length) && (decide (l.length ≤ 60) && _)) = _
          rw [decide_eq_true (by omega), decide_eq_true (by omega)]; rfl
        rw [e] at h
        exact aret_rt h
      · have e : allIn 0 1 60 (.tuple l) = false := by
          show (decide (1 ≤ l.length) && (decide (l.length ≤ 60) && _)) = _
          rw [decide_eq_true (show 1 ≤ l.length by omega), decide_eq_false (show ¬ l.length ≤ 60 by omega)]; rfl
        rw [e] at h
        exact aret_rt h
    · walk_at "ss"
      have e : allIn 0 1 60 (.tuple l) = false := by
        show (decide (1 ≤ l.length) && (decide (l.length ≤ 60) && _)) = _
        rw [decide_eq_false (show ¬ 1 ≤ l.length by omega)]; rfl
      rw [e] at h
      exact h
  · rw [allIn_no ht] at h
    exact aret_rt h
theorem ok_is_base (X : Txt K mg) (tb : Tabs X T base) : FnOk P w K mg base CX0 (1 + 1) X.is_base.f X.is_base.fd P_is_base (spOf K T (Sp_all 2 10 20)) := by
  refine ok_fnC X.is_base.F X.t_is_base.code sc_is_base (fun as O Φ Ψ ⟨d, e, _⟩ => by rw [e]; rfl) fun A outer s H E hr => ⟨_, (pss_one (ps_ret (pe_and (pe_callB (isiA K rfl) (by rfl) X.b_isinstance bt_isinstance (pa_cons (pv 0) (pa_cons (pe_bltn (v := .ty "tuple") (by rfl) X.b_tuple bt_tuple rfl) pa_nil))) (pe_and (pe_chain op_le op_le pe_int (pe_callB (lenA K rfl) (by rfl) X.b_len bt_len (pa_cons (pv 0) pa_nil)) pe_int) (pe_one (pe_allT K rfl hr (by rfl) X.b_all tb.is_base rfl ⟨rfl, rfl, by decide +kernel, rfl, rfl, fun y hy e => absurd e (by revert y; decide +kernel)⟩ (pv 0) (elt_num X.is_number.F num_body num_scope X.is_number.b hr X.b_isinstance X.b_int X.b_bool X.is_number.m rfl rfl rfl) (fun _ => rfl))))))), fun as O Φ Ψ ⟨d, e, hd, hf, h⟩ => ?_⟩
  subst e
  show StW _ _ [some _, none] _ _
  walk_at "ss"
  refine cw_isTup hd ?_
  walk_at "ss"
  refine ite_b (fun ht => ?_) (fun ht => ?_)
  · obtain ⟨l, rfl⟩ := tup_of ht
    walk_at "ss"
    refine ite_dec (fun h1 => ?_) (fun h1 => ?_)
    · walk_at "ss"
      refine ite_dec (fun h2 => ?_) (fun h2 => ?_)
      · refine ev_allN tb.m_is_base ?_
        walk_at "ss"
        refine ⟨hf l rfl, ?_⟩
        have e : allIn 2 10 20 (.tuple l) = l.all (numD 2 10) := by
          show (decide (1 ≤ l.length) && (decide (l.length ≤ 20) && _)) = _
          rw [decide_eq_true (by omega), decide_eq_true (by omega)]; rfl
        rw [e] at h
        exact aret_rt h
      · have e : allIn 2 10 20 (.tuple l) = false := by
          show (decide (1 ≤ l.length) && (decide (l.length ≤ 20) && _)) = _
          rw [decide_eq_true (show 1 ≤ l.length by omega), decide_eq_false (show ¬ l.length ≤ 20 by omega)]; rfl
        rw [e] at h
        exact aret_rt h
    · walk_at "ss"
      have e : allIn 2 10 20 (.tuple l) = false := by
        show (decide (1 ≤ l.length) && (decide (l.length ≤ 20) && _)) = _
        rw [decide_eq_false (show ¬ 1 ≤ l.length by omega)]; rfl
      rw [e] at h
      exact h
  · rw [allIn_no ht] at h
    exact aret_rt h
def wordOf (b : List Int) : PyData → Bool
  | .tuple l => decide (l.length = b.length) && (l.zip b).all fun p => numD 0 (p.2 - 1) p.1
  | _ => false
theorem wordOf_no {d : PyData} {b : List Int} (h : isT d = false) : wordOf b d = false := by
  cases d <;> first | rfl | cases h
def Sp_isw : FSp := fun as O Φ Ψ => ∃ (b : List Int) (d : PyData), as = [.d (tw b), .d d] ∧ (∀ kvs, d ≠ .dict kvs) ∧ (∀ l, d = .tuple l → ∀ x ∈ l, flatD x = true) ∧ Φ (.d (.bool (wordOf b d))) O
theorem ok_is_code_word (X : Txt K mg) (tb : Tabs X T base) : FnOk P w K mg base CX0 (1 + 1) X.is_code_word.f X.is_code_word.fd P_is_code_word (spOf K T Sp_isw) := by
  refine ok_fnC X.is_code_word.F X.t_is_code_word.code sc_is_code_word (fun as O Φ Ψ ⟨b, d, e, _⟩ => by rw [e]; rfl) fun A outer s H E hr => ⟨_, (pss_cons (ps_if (pw_or (pt_not (pt_val (pe_callB (isiA K rfl) (by rfl) X.b_isinstance bt_isinstance (pa_cons (pv 1) (pa_cons (pe_bltn (v := .ty "tuple") (by rfl) X.b_tuple bt_tuple rfl) pa_nil))))) (pw_or1 (pt_cmpR (neA K rfl hr) (pe_callB (lenA K rfl) (by rfl) X.b_len bt_len (pa_cons (pv 1) pa_nil)) (pe_callB (lenA K rfl) (by rfl) X.b_len bt_len (pa_cons (pv 0) pa_nil)) (nomark _)))).pt (pss_one (ps_ret pe_bl)) pss_nil) (pss_one (ps_ret (pe_allZ K rfl hr (by rfl) X.b_all (by rfl) X.b_zip tb.is_code_word rfl ⟨rfl, rfl, by decide +kernel, rfl, rfl, rfl, by decide, fun y hy e => absurd e (by revert y; decide +kernel)⟩ (pa_cons (pv 1) (pa_cons (pv 0) pa_nil)) (elt_below X.is_number.F num_body num_scope X.is_number.b hr X.b_isinstance X.b_int X.b_bool X.is_number.m rfl rfl rfl rfl) (fun _ => rfl))))), fun as O Φ Ψ ⟨b, d, e, hd, hf, h⟩ => ?_⟩
  subst e
  show StW _ _ [some _, some _, none, none] _ _
  walk_at "ss"
  refine cw_isTup hd ?_
  walk_at "ss"
  cases ht : isT d with
  | true =>
    obtain ⟨l, rfl⟩ := tup_of ht
    refine ite_no rfl ?_
    walk_at "ss"
    rw [List.length_map]
    by_cases hl : l.length = b.length
    · refine ite_no (by rw [decide_eq_true (by omega)]; rfl) ?_
      walk_at "ss"
      refine ev_allB tb.m_is_code_word ?_
      walk_at "ss"
      refine ⟨l, b, rfl, hf l rfl, ?_⟩
      have e : wordOf b (.tuple l) = (l.zip b).all fun p => numD 0 (p.2 - 1) p.1 := by
        show (decide (l.length = b.length) && _) = _
        rw [decide_eq_true hl]; rfl
      rw [e] at h
      exact aret_rt h
    · refine ite_yes (by rw [decide_eq_false (by omega)]; rfl) ?_
      walk_at "ss"
      have e : wordOf b (.tuple l) = false := by
        show (decide (l.length = b.length) && _) = _
        rw [decide_eq_false hl]; rfl
      rw [e] at h
      exact h
  | false =>
    refine ite_yes rfl ?_
    rw [wordOf_no ht] at h
    walk_at "ss"
    exact h
end
end BL

set_option Elab.async false
set_option linter.all false
set_option maxRecDepth 100000
set_option maxHeartbeats 4000000
namespace BL
open PySem PySem.Spec PyProof.Rows L2 HotX L2H RZ
local macro_rules | `(tactic| walk_at "s") => `(tactic| (with_reducible first
  | refine st_seq ?_ | refine st_set ?_ | refine st_asg ?_ | refine st_ret ?_ | refine st_retN ?_ | refine st_if ?_ | refine st_next ?_ | refine st_drop ?_ | refine st_cont ?_ | refine st_brk ?_ | refine st_par ?_ | refine st_par3 ?_
  | refine ev_varF rfl ?_ | refine ev_varP rfl ?_ | refine ev_var rfl ?_ | refine ev_int ?_ | refine ev_str ?_ | refine ev_bl ?_ | refine ev_non ?_ | refine ev_raw ?_
  | refine ev_if ?_ | refine ev_andV ?_ | refine ev_orV ?_ | refine ev_notV ?_ | refine et_test ?_ | refine et_B ?_ | refine et_and ?_ | refine et_or ?_ | refine et_not ?_ | refine et_yes ?_
  | refine ev_chain ?_ | refine ev_op ?_ | refine ev_un ?_ | refine ev_cb ?_ | refine ev_sl ?_ | refine eo_none ?_ | refine eo_some ?_ | refine ea_nil ?_ | refine ea_cons ?_ | refine ev_call ?_
  | refine ow_mulBS ?_ ?_ | refine ow_addI ?_ | refine ow_addFI ?_ | refine ow_mulFS ?_ ?_ | refine ow_isB ?_ | refine ow_notB ?_ | refine ow_I0 ?_ | refine ow_B0 ?_ | refine ow_eqI ?_ | refine ow_neI ?_ | refine uw_neg ?_
  | refine ow_mod (by decide +kernel) ?_ | refine ow_powC (by decide +kernel) ?_ | refine ow_inTI ?_ | refine ow_ninTI ?_ | refine ow_isN ?_ | refine ow_notN ?_
  | refine cw_lenT ?_ | refine cw_lenL ?_ | refine cw_int ?_ | refine cw_abs ?_ | refine cw_max2 ?_ | refine cw_min2 ?_ | refine cw_tupL ?_
  | refine gj_name (by decide) ?_ | refine g_name ?_ | refine gjs_nil ?_ | refine gjs_cons ?_
  | refine isi_int (b := true) (by decide +kernel) ?_ | refine isi_int (b := false) (by decide +kernel) ?_ | refine isi_bool (b := true) (by decide +kernel) ?_ | refine isi_bool (b := false) (by decide +kernel) ?_ | refine isi_str (b := true) (by decide +kernel) ?_ | refine isi_str (b := false) (by decide +kernel) ?_ | refine isi_tup (b := true) (by decide +kernel) ?_ | refine isi_tup (b := false) (by decide +kernel) ?_ | refine isi_lst (b := true) (by decide +kernel) ?_ | refine isi_lst (b := false) (by decide +kernel) ?_ | refine isi_non (b := true) (by decide +kernel) ?_ | refine isi_non (b := false) (by decide +kernel) ?_ | refine aret_rt ?_ | refine aret_nx ?_ | rw [if_pos rfl] | rw [if_pos nf_true] | rw [if_neg nt_true] | rw [if_neg Bool.false_ne_true] | refine ⟨_, rfl, ?_⟩) <;> try dsimp only [Bool.not_true, Bool.not_false, List.set])
local macro_rules | `(tactic| walk_at "ss") => `(tactic| repeat (any_goals walk_at "s"))
local macro_rules | `(tactic| walk_at "n") => `(tactic| try dsimp only [wipeA, List.map_cons, List.map_nil, List.set, srcN])
local macro_rules | `(tactic| walk_at "sr") => `(tactic| (with_reducible first | refine ev_var rfl ?_ | walk_at "s"))
local macro_rules | `(tactic| walk_at "ssr") => `(tactic| repeat (any_goals walk_at "sr"))

section
variable {P : Program} {w : World} {K : PySem.W.Frag} {T : List Addr} {mg : Str → Option Value} {base : Heap}
open Bar
abbrev lw (t : List Int) : PyData := .list (twl t)
theorem mw_idxI {c : Cb} {O : Own} {Φ : Af} {l : List Int} (h : (1 : Int) ∈ l) (k : Φ (.d (.int (fst l))) O) : mtW c (rTupIdx c.K) (.d (.tuple (twl l))) [.d (.int 1)] O Φ := mw_tupIdx (fst_in h) fst_no k
theorem mw_appI {c : Cb} {O : Own} {Φ : Af} {q : Addr} {r : List Int} {x : Int} (hp : O q = some (.lst (ds (twl r)))) (hl : r.length < 100000) (k : Φ (.d .none) (updO O q (.lst (ds (twl (r ++ [x])))))) : mtW c rAppend (.v (.ref q)) [.d (.int x)] O Φ := by
  refine mw_append hp (by rw [List.length_map, List.length_map, sizeLine_eq]; omega) ?_
  have e : AO.lst (ds (twl r) ++ [.d (.int x)]) = .lst (ds (twl (r ++ [x]))) := by rw [ds_snoc, twl, twl, List.map_append]; rfl
  rw [e]; exact k
theorem delO_updO {O : Own} {q : Addr} {ao : AO} (h : O q = none) : delO (updO O q ao) q = O := by
  funext z
  unfold delO
  by_cases e : z = q
  · rw [if_pos e, e, h]
  · rw [if_neg e, updO_ne e]
def Sp_may_turn : FSp := fun as O Φ Ψ => ∃ (l : List Int), as = [.f (twl l)] ∧ Φ (.d (lw (mayI l))) O
theorem ok_may_turn (X : Txt K mg) : FnOk P w K mg base CX0 (0 + 1) X.may_turn.f X.may_turn.fd P_may_turn (spOf K T Sp_may_turn) := by
  refine ok_fn X.may_turn.F sc_may_turn (fun as O Φ Ψ ⟨l, e, _⟩ => by rw [e]; rfl) fun cdv A outer s H E hr => ⟨_, (pss_cons (ps_set (i := 1) sc_may_turn.nd rfl (by first | exact Or.inl rfl | exact Or.inr rfl) (pe_lst (pa_cons pe_int pa_nil))) (pss_cons (ps_if (pw_and (pt_cmpR (inB K rfl hr) pe_int (pv 0) (by with_unfolding_all rfl)) (pw_and1 (pt_cmpR op_lt (pe_op (addA K rfl) (toK (f := fun K => tBMF (rTupIdx K) _ _) K rfl (pe_bmF PySem.F.plainAttrs_tuple PySem.F.slot_tuple_index PySem.F.type_tuple_index mt_tupIdx (pv 0) (pa_cons pe_int pa_nil))) pe_int) (pe_callB (lenA K rfl) (by rfl) X.b_len bt_len (pa_cons (pv 0) pa_nil)) (nomark _)))).pt (pss_one (ps_expr (toK (f := fun K => tBM K "list" _ _ _) K rfl (pe_bm PySem.F.plainAttrs_list PySem.F.slot_list_append PySem.F.type_list_append mt_append (pv 1) (pa_cons (pe_op (addA K rfl) (toK (f := fun K => tBMF (rTupIdx K) _ _) K rfl (pe_bmF PySem.F.plainAttrs_tuple PySem.F.slot_tuple_index PySem.F.type_tuple_index mt_tupIdx (pv 0) (pa_cons pe_int pa_nil))) pe_int) pa_nil))))) pss_nil) (pss_one (ps_ret (pv 1))))), fun as O Φ Ψ ⟨l, e, h⟩ => ?_⟩
  subst e
  show StW _ _ [some _, none] _ _
  walk_at "ss"
  refine ev_lstO ?_
  walk_at "ss"
  refine ⟨by show 1 ≤ sizeLine; decide, fun q hq => ?_⟩
  walk_at "ss"
  have fin : ∀ r : List Int, r = mayI l → StW (cb0 K T) (tRet (tVar 1)) [some (AV.f (twl l)), some (AV.v (V.ref q))] (updO O q (.lst (ds (twl r)))) (aret Φ) := fun r e => by
    refine st_freeze updO_same ?_
    show StW _ _ [some (frzA q _ (AV.f (twl l))), some (frzA q _ (AV.v (V.ref q)))] _ _
    rw [delO_updO hq, show frzA q (.list (twl r)) (AV.v (V.ref q)) = .d (.list (twl r)) from if_pos rfl, e]
    walk_at "ss"
    exact h
  refine ite_dec (fun h1 => ?_) (fun h1 => ?_)
  · walk_at "ss"
    refine ev_bmF (ev_var rfl ⟨_, rfl, ?_⟩)
    walk_at "ss"
    refine mw_idxI h1 ?_
    walk_at "ss"
    rw [List.length_map]
    refine ite_dec (fun h2 => ?_) (fun h2 => ?_)
    · walk_at "ss"
      refine ev_bm ?_
      walk_at "ss"
      refine ⟨ty_own updO_same, ?_⟩
      walk_at "ss"
      refine ev_bmF (ev_var rfl ⟨_, rfl, ?_⟩)
      walk_at "ss"
      refine mw_idxI h1 ?_
      walk_at "ss"
      refine mw_appI (r := [0]) updO_same (by decide) ?_
      rw [updO_updO]
      exact fin _ (by rw [mayI_two (by omega)]; rfl)
    · refine st_next ?_
      exact fin [0] (by rw [mayI_one (by omega)])
  · refine st_next ?_
    exact fin [0] (by rw [mayI_one (by rw [fst_out h1]; omega)])
def Sp_turned (cR : Addr) : FSp := fun as O Φ Ψ => ∃ (l : List Int) (r : Int), as = [.f (twl l), .d (.int r)] ∧ l ≠ [] ∧ l.length ≤ 100 ∧ (∀ k ∈ mayL l, r = (k : Int) → Φ (.d (tw (beh l k))) O) ∧ (r ∉ mayI l → Ψ (.ref cR) O)
theorem ok_turned (X : Txt K mg) : FnOk P w K mg base (L2N.CX P w) (1 + 1) X.turned.f X.turned.fd P_turned (spOf K T (Sp_turned X.Refused.x)) := by
  refine ok_fnX X.turned.F sc_turned (fun as O Φ Ψ ⟨l, r, e, _⟩ => by rw [e]; rfl) fun cdv A outer s H E hr => ⟨_, (pss_cons (ps_if (pw_or (pt_not (pt_val (pe_call (ok_is_number (T := T) X) (hr.mono (by decide)) (by rfl) X.is_number.m X.is_number.F.kp X.is_number.b .nil pass0 (pa_cons (pv 1) (pa_cons pe_int (pa_cons (pe_op op_sub (pe_callB (lenA K rfl) (by rfl) X.b_len bt_len (pa_cons (pv 0) pa_nil)) pe_int) pa_nil)))))) (pw_or1 (pt_cmpR (ninB K rfl hr) (pv 1) (pe_call (ok_may_turn (T := T) X) (hr.mono (by decide)) (by rfl) X.may_turn.m X.may_turn.F.kp X.may_turn.b .nil pass0 (pa_cons (pv 0) pa_nil)) (by with_unfolding_all rfl)))).pt (pss_one (ps_raiseC X.Refused rfl (L2N.takes_of rfl rfl rfl rfl) (by rfl) (by decide))) pss_nil) (pss_one (ps_ret (pe_op (addA K rfl) (pe_op (addA K rfl) (pe_slice (slB K rfl) (pv 0) po_none (po_some (pv 1))) (pe_tup (pa_cons (pe_op op_sub pe_int (pe_ix (ixB K rfl hr) (pv 0) (pv 1) (fun _ _ => rfl))) pa_nil))) (pe_slice (slB K rfl) (pv 0) (po_some (pe_op (addA K rfl) (pv 1) pe_int)) po_none))))), fun as O Φ Ψ ⟨l, r, e, hl, hm, h1, h2⟩ => ?_⟩
  subst e
  show StW _ _ [some _, some _] _ _
  have hpos := List.length_pos_iff.mpr hl
  walk_at "ss"
  refine ⟨_, _, _, rfl, ?_⟩
  walk_at "ss"
  rw [List.length_map]
  by_cases hr2 : r ∈ mayI l
  · obtain ⟨k, hk, rfl⟩ := mem_mayI.mp hr2
    have hlt := mayL_lt hl hk
    refine ite_no (by rw [decide_eq_true (show (0 : Int) ≤ (k : Int) by omega), decide_eq_true (show (k : Int) ≤ (l.length : Int) - 1 by omega)]; rfl) ?_
    walk_at "ssr"
    refine ⟨l, rfl, ?_⟩
    refine ow_ninLI ?_
    walk_at "ss"
    refine ite_no (by rw [decide_eq_true hr2]; rfl) ?_
    walk_at "ss"
    refine sw_takeT hlt ?_
    walk_at "ss"
    refine ev_tw1 ?_
    walk_at "ss"
    refine ow_ixTI hlt ?_
    walk_at "ss"
    refine ow_addTI (by rw [List.length_take]; show _ + 1 ≤ _; omega) ?_
    walk_at "ss"
    have e1 : ((k : Int) + 1) = ((k + 1 : Nat) : Int) := by omega
    rw [e1]
    refine sw_dropT (by omega) (by omega) ?_
    refine ow_addTI (by rw [List.length_append, List.length_take, List.length_drop]; show _ + 1 + _ ≤ _; omega) ?_
    rw [beh_eq hlt]
    walk_at "ss"
    exact h1 k hk rfl
  · have hraise : ∀ A', StW (cbX K T Ψ E) (fun x σ H => (fun (x : L2.St) (H : Hp) (Q : XK) => Q (.ref X.Refused.x) none H) σ H fun cls d H' => (fun cls d σ H => E cls d H) cls d σ H') [some (AV.f (twl l)), some (AV.d (.int r))] O A' := fun _ => st_raise esc_X ⟨O, OLe.refl _, h2 hr2⟩
    refine ite_b (fun hb => ?_) (fun hb => ?_)
    · exact hraise _
    · walk_at "ssr"
      refine ⟨l, rfl, ?_⟩
      refine ow_ninLI ?_
      walk_at "ss"
      refine ite_yes (by rw [decide_eq_false hr2]; rfl) ?_
      exact hraise _
def Sp_place : FSp := fun as O Φ Ψ => ∃ (l : List Int), as = [.d (tw l)] ∧ Ok l ∧ l.length ≤ 60 ∧ Φ (.d (.int (place l))) O
theorem pow60 {n : Nat} (h : n ≤ 60) : (2 : Int) ^ n ≤ 1152921504606846976 := by
  have := Nat.pow_le_pow_right (n := 2) (by decide) h
  have h60 : (2 : Nat) ^ 60 = 1152921504606846976 := by decide
  have e1 : (2 : Int) ^ n = ((2 ^ n : Nat) : Int) := by push_cast; rfl
  rw [h60] at this
  rw [e1]
  exact Int.ofNat_le.mpr this
theorem ok_drop {l : List Int} (h : Ok l) (n : Nat) : Ok (l.drop n) := fun x hx => h x (List.mem_of_mem_drop hx)
theorem ok_place_of_bar (X : Txt K mg) : FnOk P w K mg base CX0 (0 + 1) X.place_of_bar.f X.place_of_bar.fd P_place_of_bar (spOf K T Sp_place) := by
  refine ok_fn X.place_of_bar.F sc_place_of_bar (fun as O Φ Ψ ⟨l, e, _⟩ => by rw [e]; rfl) fun cdv A outer s H E hr => ⟨_, (pss_cons (ps_set (i := 1) sc_place_of_bar.nd rfl (by first | exact Or.inl rfl | exact Or.inr rfl) pe_int) (pss_cons (ps_for PassesOwn.never rfl (seqA K rfl (pe_revT K rfl (pv 0))) (pg_name (i := 2) sc_place_of_bar.nd rfl (by first | exact Or.inl rfl | exact Or.inr rfl)) (pss_one (ps_set (i := 1) sc_place_of_bar.nd rfl (by first | exact Or.inl rfl | exact Or.inr rfl) (pe_op (addA K rfl) (pe_op (mulB K rfl) pe_int (pv 1)) (pe_op op_xor (pv 2) (pe_op op_and (pv 1) pe_int)))))) (pss_one (ps_ret (pv 1))))), fun as O Φ Ψ ⟨l, e, hok, hl, h⟩ => ?_⟩
  subst e
  show StW _ _ [some _, none, none] _ _
  walk_at "ss"
  refine st_for (is_seq (ev_revT ?_))
  walk_at "ss"
  refine ⟨_, .inr rfl, ?_⟩
  refine ⟨fun i ps' O' => O' = O ∧ ∃ z, ps' = [some (.d (tw l)), some (.d (.int (place (l.drop (l.length - i))))), z], ⟨rfl, none, by rw [Nat.sub_zero, List.drop_length]; rfl⟩, fun _ _ _ _ _ => trivial, ?_, ?_⟩
  · rintro i ps' O' hi ⟨rfl, z, rfl⟩
    have hi' : i < l.length := by
      have : i < (twl l).reverse.length := hi
      rwa [List.length_reverse, List.length_map] at this
    have e1 : (twl l).reverse.getD i .none = .int (l[l.length - 1 - i]'(by omega)) := by
      rw [← List.map_reverse, List.getD_eq_getElem?_getD, List.getElem?_map, List.getElem?_eq_getElem (by rw [List.length_reverse]; exact hi'), List.getElem_reverse]
      rfl
    have e2 : l.drop (l.length - (i + 1)) = l[l.length - 1 - i]'(by omega) :: l.drop (l.length - i) := by
      rw [show l.length - (i + 1) = l.length - 1 - i by omega, List.drop_eq_getElem_cons (by omega), show l.length - 1 - i + 1 = l.length - i by omega]
    have hb := place_bd (ok_drop hok (l.length - i))
    have hp := pow60 (n := (l.drop (l.length - i)).length) (by rw [List.length_drop]; omega)
    have hs := step_place (b := l[l.length - 1 - i]'(by omega)) (bs := l.drop (l.length - i)) (by rw [← e2]; exact ok_drop hok _)
    show GW _ _ (.d ((twl l).reverse.getD i .none)) _ _ _
    rw [e1]
    walk_at "ss"
    · exact cm_l (by decide) (by decide)
    refine ⟨rfl, some (.d (.int (l[l.length - 1 - i]'(by omega)))), ?_⟩
    rw [e2, ← hs]
  · rintro ps' O' ⟨rfl, z, rfl⟩
    have hn : (twl l).reverse.length = l.length := by rw [List.length_reverse, List.length_map]
    walk_at "ss"
    show Φ (.d (.int (place (l.drop (l.length - (twl l).reverse.length))))) _
    rw [hn, Nat.sub_self, List.drop_zero]
    exact h
def Sp_bar_at (cO : Addr) : FSp := fun as O Φ Ψ => ∃ (n p : Int), as = [.d (.int n), .d (.int p)] ∧ (∀ k : Nat, n = (k : Int) → 1 ≤ k → k ≤ 60 → 0 ≤ p → p < 2 ^ k → Φ (.d (tw (barOf k p))) O) ∧ (¬ (1 ≤ n ∧ n ≤ 60 ∧ 0 ≤ p ∧ p < 2 ^ n.toNat) → Ψ (.ref cO) O)
theorem ok_bar_at (X : Txt K mg) : FnOk P w K mg base (L2N.CX P w) (1 + 1) X.bar_at.f X.bar_at.fd P_bar_at (spOf K T (Sp_bar_at X.OutOfRange.x)) := by
  refine ok_fnX X.bar_at.F sc_bar_at (fun as O Φ Ψ ⟨n, p, e, _⟩ => by rw [e]; rfl) fun cdv A outer s H E hr => ⟨_, (pss_cons (ps_if (pw_or (pt_not (pt_val (pe_call (ok_is_number (T := T) X) (hr.mono (by decide)) (by rfl) X.is_number.m X.is_number.F.kp X.is_number.b .nil pass0 (pa_cons (pv 0) (pa_cons pe_int (pa_cons pe_int pa_nil)))))) (pw_or1 (pt_not (pt_val (pe_call (ok_is_number (T := T) X) (hr.mono (by decide)) (by rfl) X.is_number.m X.is_number.F.kp X.is_number.b .nil pass0 (pa_cons (pv 1) (pa_cons pe_int (pa_cons (pe_op op_sub (pe_op op_shl pe_int (pv 0)) pe_int) pa_nil)))))))).pt (pss_one (ps_raiseC X.OutOfRange rfl (L2N.takes_of rfl rfl rfl rfl) (by rfl) (by decide))) pss_nil) (pss_cons (ps_set (i := 2) sc_bar_at.nd rfl (by first | exact Or.inl rfl | exact Or.inr rfl) (pe_op op_xor (pv 1) (pe_op op_shr (pv 1) pe_int))) (pss_one (ps_ret (pe_callTy (tupB K rfl) (by rfl) X.b_tuple bt_tuple (pa_cons (pe_lc (own := [("ring", 3)]) rfl sc_bar_at.nd (pi_range1 (by rfl) X.b_range (pa_cons (pv 0) pa_nil)) (blkOk_by (N := N_bar_at) (sc := defScope s_bar_at) (by decide +kernel)) (fun _ _ _ _ _ => (pg_name (i := 3) sc_bar_at.nd rfl (by first | exact Or.inl rfl | exact Or.inr rfl))) (fun _ _ _ _ _ => pts_nil) (fun _ _ _ _ _ => (pe_op op_and (pe_op op_shr (pv 2) (pv 3)) pe_int))) pa_nil)))))), fun as O Φ Ψ ⟨n, p, e, h1, h2⟩ => ?_⟩
  subst e
  show StW _ _ [some _, some _, none, none] _ _
  have hraise : ¬ (1 ≤ n ∧ n ≤ 60 ∧ 0 ≤ p ∧ p < 2 ^ n.toNat) → ∀ A', StW (cbX K T Ψ E) (fun x σ H => (fun (x : L2.St) (H : Hp) (Q : XK) => Q (.ref X.OutOfRange.x) none H) σ H fun cls d H' => (fun cls d σ H => E cls d H) cls d σ H') [some (AV.d (.int n)), some (AV.d (.int p)), none, none] O A' := fun hn _ => st_raise esc_X ⟨O, OLe.refl _, h2 hn⟩
  walk_at "ss"
  refine ⟨_, _, _, rfl, ?_⟩
  walk_at "ss"
  refine ite_b (fun hb => ?_) (fun hb => ?_)
  · exact hraise (fun z => by
      rw [decide_eq_true z.1, decide_eq_true z.2.1] at hb
      exact Bool.false_ne_true hb) _
  · have hn : 1 ≤ n ∧ n ≤ 60 := by simpa using hb
    obtain ⟨k, rfl⟩ := Int.eq_ofNat_of_zero_le (a := n) (by omega)
    walk_at "ss"
    refine ow_shl1 (by omega) ?_
    walk_at "ss"
    refine ⟨_, _, _, rfl, ?_⟩
    walk_at "ss"
    have e2 : ((2 ^ k : Nat) : Int) = 2 ^ k := by push_cast; rfl
    rw [e2]
    refine ite_b (fun hb => ?_) (fun hb => ?_)
    · exact hraise (fun z => by
        rw [Int.toNat_natCast] at z
        rw [decide_eq_true z.2.2.1, decide_eq_true (show p ≤ 2 ^ k - 1 by omega)] at hb
        exact Bool.false_ne_true hb) _
    · have hp : 0 ≤ p ∧ p ≤ 2 ^ k - 1 := by simpa using hb
      have hh := h1 k rfl (by omega) (by omega) hp.1 (by omega)
      walk_at "ss"
      refine ow_I (by decide) ?_
      walk_at "ss"
      refine ev_lc (is_rngN ?_)
      walk_at "ss"
      refine ⟨by omega, fun i acc O' => O' = O ∧ acc = ds (twl ((List.range i).map fun r => gbit (p / 2 ^ r))), ⟨rfl, rfl⟩, fun _ _ _ _ _ _ _ => trivial, ?_, ?_⟩
      · rintro q i acc O' hi ⟨rfl, rfl⟩ hq
        have hi' : i < k := hi
        refine ⟨by rw [List.length_map, List.length_map, List.length_map, List.length_range, sizeLine_eq]; omega, ?_⟩
        walk_at "n"
        walk_at "ss"
        refine ow_I (by omega) ?_
        walk_at "ss"
        refine ⟨hq, rfl, ?_⟩
        have eb := bit_at hp.1 i
        have et : ∀ (a : List Int) (b : Int), twl (a ++ [b]) = twl a ++ [.int b] := fun a b => by simp
        rw [ds_snoc, List.range_succ, List.map_append, List.map_singleton, et, ← eb]
        rfl
      · rintro q acc O' ⟨rfl, rfl⟩ hq
        refine .inr ⟨_, rfl, ?_⟩
        walk_at "ss"
        have e3 : (List.range (srcN k).n).map (fun r => gbit (p / 2 ^ r)) = barOf k p := (barOf_range k p).symm
        rw [e3]
        exact hh
def Sp_turns : FSp := fun as O Φ Ψ => ∃ (l m : List Int), as = [.d (tw l), .d (tw m)] ∧ Ok l ∧ Ok m ∧ l.length ≤ 60 ∧ m.length ≤ 60 ∧ Φ (.d (.int (dist l m))) O
theorem ok_turns (X : Txt K mg) : FnOk P w K mg base CX0 (1 + 1) X.turns.f X.turns.fd P_turns (spOf K T Sp_turns) := by
  refine ok_fn X.turns.F sc_turns (fun as O Φ Ψ ⟨l, m, e, _⟩ => by rw [e]; rfl) fun cdv A outer s H E hr => ⟨_, (pss_one (ps_ret (pe_callB call_abs (by rfl) X.b_abs bt_abs (pa_cons (pe_op op_sub (pe_call (ok_place_of_bar (T := T) X) (hr.mono (by decide)) (by rfl) X.place_of_bar.m X.place_of_bar.F.kp X.place_of_bar.b .nil pass0 (pa_cons (pv 0) pa_nil)) (pe_call (ok_place_of_bar (T := T) X) (hr.mono (by decide)) (by rfl) X.place_of_bar.m X.place_of_bar.F.kp X.place_of_bar.b .nil pass0 (pa_cons (pv 1) pa_nil))) pa_nil)))), fun as O Φ Ψ ⟨l, m, e, h1, h2, h3, h4, h⟩ => ?_⟩
  subst e
  show StW _ _ [some _, some _] _ _
  walk_at "ss"
  refine ⟨l, rfl, h1, h3, ?_⟩
  walk_at "ss"
  refine ⟨m, rfl, h2, h4, ?_⟩
  walk_at "ss"
  exact h
end
end BL

set_option Elab.async false
set_option linter.all false
set_option maxRecDepth 100000
set_option maxHeartbeats 4000000
namespace BL
open PySem PySem.Spec PyProof.Rows L2 HotX L2H RZ
local macro_rules | `(tactic| walk_at "s") => `(tactic| (with_reducible first
  | refine st_seq ?_ | refine st_set ?_ | refine st_asg ?_ | refine st_ret ?_ | refine st_retN ?_ | refine st_if ?_ | refine st_next ?_ | refine st_drop ?_ | refine st_cont ?_ | refine st_brk ?_ | refine st_par ?_ | refine st_par3 ?_
  | refine ev_varF rfl ?_ | refine ev_varP rfl ?_ | refine ev_var rfl ?_ | refine ev_int ?_ | refine ev_str ?_ | refine ev_bl ?_ | refine ev_non ?_ | refine ev_raw ?_
  | refine ev_if ?_ | refine ev_andV ?_ | refine ev_orV ?_ | refine ev_notV ?_ | refine et_test ?_ | refine et_B ?_ | refine et_and ?_ | refine et_or ?_ | refine et_not ?_ | refine et_yes ?_
  | refine ev_chain ?_ | refine ev_op ?_ | refine ev_un ?_ | refine ev_cb ?_ | refine ev_sl ?_ | refine eo_none ?_ | refine eo_some ?_ | refine ea_nil ?_ | refine ea_cons ?_ | refine ev_call ?_
  | refine ow_mulBS ?_ ?_ | refine ow_addI ?_ | refine ow_addFI ?_ | refine ow_mulFS ?_ ?_ | refine ow_isB ?_ | refine ow_notB ?_ | refine ow_I0 ?_ | refine ow_B0 ?_ | refine ow_eqI ?_ | refine ow_neI ?_ | refine uw_neg ?_
  | refine ow_mod (by decide +kernel) ?_ | refine ow_powC (by decide +kernel) ?_ | refine ow_inTI ?_ | refine ow_ninTI ?_ | refine ow_isN ?_ | refine ow_notN ?_
  | refine cw_lenT ?_ | refine cw_lenL ?_ | refine cw_int ?_ | refine cw_abs ?_ | refine cw_max2 ?_ | refine cw_min2 ?_ | refine cw_tupL ?_
  | refine gj_name (by decide) ?_ | refine g_name ?_ | refine gjs_nil ?_ | refine gjs_cons ?_
  | refine isi_int (b := true) (by decide +kernel) ?_ | refine isi_int (b := false) (by decide +kernel) ?_ | refine isi_bool (b := true) (by decide +kernel) ?_ | refine isi_bool (b := false) (by decide +kernel) ?_ | refine isi_str (b := true) (by decide +kernel) ?_ | refine isi_str (b := false) (by decide +kernel) ?_ | refine isi_tup (b := true) (by decide +kernel) ?_ | refine isi_tup (b := false) (by decide +kernel) ?_ | refine isi_lst (b := true) (by decide +kernel) ?_ | refine isi_lst (b := false) (by decide +kernel) ?_ | refine isi_non (b := true) (by decide +kernel) ?_ | refine isi_non (b := false) (by decide +kernel) ?_ | refine aret_rt ?_ | refine aret_nx ?_ | rw [if_pos rfl] | rw [if_pos nf_true] | rw [if_neg nt_true] | rw [if_neg Bool.false_ne_true] | refine ⟨_, rfl, ?_⟩) <;> try dsimp only [Bool.not_true, Bool.not_false, List.set])
local macro_rules | `(tactic| walk_at "ss") => `(tactic| repeat (any_goals walk_at "s"))
local macro_rules | `(tactic| walk_at "n") => `(tactic| try dsimp only [wipeA, List.map_cons, List.map_nil, List.set, srcN])
local macro_rules | `(tactic| walk_at "sr") => `(tactic| (with_reducible first | refine ev_var rfl ?_ | walk_at "s"))
local macro_rules | `(tactic| walk_at "ssr") => `(tactic| repeat (any_goals walk_at "sr"))

section
variable {P : Program} {w : World} {K : PySem.W.Frag} {T : List Addr} {mg : Str → Option Value} {base : Heap}
open Bar
def Sp_first : FSp := fun as O Φ Ψ => ∃ (l m : List Int), as = [.f (twl l), .d (tw m)] ∧ Ok l ∧ Ok m ∧ l.length ≤ 60 ∧ l.length = m.length ∧ (l = m → Φ (.d .none) O) ∧ (l ≠ m → ∀ r ∈ mayL l, dist (beh l r) m = dist l m - 1 → Φ (.d (.int (r : Int))) O)
theorem filt_len (l : List Int) (f : Int → Bool) (i : Nat) : ((l.take i).filter f).length ≤ l.length := Nat.le_trans (List.length_filter_le _ _) (by rw [List.length_take]; omega)
theorem ok_first_ring (X : Txt K mg) : FnOk P w K mg base (L2N.CX P w) (2 + 1) X.first_ring.f X.first_ring.fd P_first_ring (spOf K T Sp_first) := by
  refine ok_fnX X.first_ring.F sc_first_ring (fun as O Φ Ψ ⟨l, m, e, _⟩ => by rw [e]; rfl) fun cdv A outer s H E hr => ⟨_, (pss_cons (ps_if (pt_cmpR (eqA K rfl hr) (pv 0) (pv 1) (nomark _)) (pss_one (ps_ret pe_non)) pss_nil) (pss_cons (ps_set (i := 2) sc_first_ring.nd rfl (by first | exact Or.inl rfl | exact Or.inr rfl) (pe_op op_sub (pe_call (ok_turns (T := T) X) (hr.mono (by decide)) (by rfl) X.turns.m X.turns.F.kp X.turns.b .nil pass0 (pa_cons (pv 0) (pa_cons (pv 1) pa_nil))) pe_int)) (pss_one (ps_ret (pe_ix (ixB K rfl hr) (pe_lc (own := [("ring", 3)]) rfl sc_first_ring.nd (seqA K rfl (pe_call (ok_may_turn (T := T) X) (hr.mono (by decide)) (by rfl) X.may_turn.m X.may_turn.F.kp X.may_turn.b .nil pass0 (pa_cons (pv 0) pa_nil))) (blkOk_by (N := N_first_ring) (sc := defScope s_first_ring) (by decide +kernel)) (fun _ _ _ _ _ => (pg_name (i := 3) sc_first_ring.nd rfl (by first | exact Or.inl rfl | exact Or.inr rfl))) (fun _ _ _ _ _ => (pts_one (pt_cmpR (eqA K rfl hr) (pe_call (ok_turns (T := T) X) (hr.mono (by decide)) (by rfl) X.turns.m X.turns.F.kp X.turns.b .nil pass0 (pa_cons (pe_callS (ok_turned (T := T) X) (hr.mono (by decide)) (by rfl) X.turned.m X.turned.F.kp X.turned.b (fun σ => L2N.passAt takes0N σ) (pa_cons (pv 0) (pa_cons (pv 3) pa_nil))) (pa_cons (pv 1) pa_nil))) (pv 2) (nomark _)))) (fun _ _ _ _ _ => (pv 3))) pe_int (fun _ _ => rfl)))))), fun as O Φ Ψ ⟨l, m, e, hl, hm, h60, hlen, h1, h2⟩ => ?_⟩
  subst e
  show StW _ _ [some _, some _, none, none] _ _
  walk_at "ss"
  refine ow_eqTw ?_
  walk_at "ss"
  refine ite_dec (fun he => ?_) (fun he => ?_)
  · walk_at "ss"
    exact h1 he
  · have hne : place l ≠ place m := fun z => he (place_inj hl hm hlen z)
    have hnil : l ≠ [] := fun z => he (by subst z; exact (List.eq_nil_of_length_eq_zero hlen.symm).symm)
    walk_at "ss"
    refine ⟨l, m, rfl, hl, hm, h60, by omega, ?_⟩
    walk_at "ss"
    refine ev_lc (is_seq (ev_call ?_))
    walk_at "ssr"
    refine ⟨l, rfl, ?_⟩
    refine ⟨_, .inl rfl, ?_⟩
    have hlenI := mayI_len l
    refine ⟨fun i acc O' => O' = O ∧ acc = ds (twl (((mayI l).take i).filter fun x => decide (dist (beh l x.toNat) m = dist l m - 1))), ⟨rfl, rfl⟩, fun _ _ _ _ _ _ _ => trivial, ?_, ?_⟩
    · rintro q i acc O' hi ⟨rfl, rfl⟩ hq
      have hi' : i < (mayI l).length := by
        have : i < (twl (mayI l)).length := hi
        rwa [List.length_map] at this
      obtain ⟨k, hk, ek⟩ := mem_mayI.mp (List.getElem_mem hi')
      have hklt := mayL_lt hnil hk
      refine ⟨by rw [List.length_map, List.length_map, sizeLine_eq]; have := filt_len (mayI l) (fun x => decide (dist (beh l x.toNat) m = dist l m - 1)) i; omega, ?_⟩
      have e1 : (twl (mayI l)).getD i .none = .int (k : Int) := by
        rw [List.getD_eq_getElem?_getD, List.getElem?_map, List.getElem?_eq_getElem hi', ← ek]; rfl
      have e2 : (mayI l).take (i + 1) = (mayI l).take i ++ [(k : Int)] := by rw [List.take_succ, List.getElem?_eq_getElem hi', ← ek]; rfl
      show GWj _ _ (.d ((twl (mayI l)).getD i .none)) _ _ _ _
      rw [e1]
      walk_at "n"
      walk_at "ssr"
      refine ev_callS (Ξ := fun _ _ _ => False) (esc0 fun _ _ _ z => z) ?_
      walk_at "ssr"
      refine ⟨l, k, rfl, hnil, by omega, fun k' hk' e => ?_, fun z => absurd (mem_mayI.mpr ⟨k, hk, rfl⟩) z⟩
      have ekk : k = k' := by omega
      subst ekk
      walk_at "ssr"
      refine ⟨beh l k, m, rfl, beh_ok hl k, hm, by rw [beh_len]; exact h60, by omega, ?_⟩
      walk_at "ssr"
      rw [e2, List.filter_append]
      refine ite_dec (fun hd => ?_) (fun hd => ?_)
      · walk_at "ssr"
        refine ⟨hq, rfl, ?_⟩
        have e3 : [(k : Int)].filter (fun x => decide (dist (beh l x.toNat) m = dist l m - 1)) = [(k : Int)] := by
          rw [List.filter_cons, if_pos (by rw [Int.toNat_natCast]; exact decide_eq_true hd), List.filter_nil]
        have et : ∀ (a : List Int) (b : Int), twl (a ++ [b]) = twl a ++ [.int b] := fun a b => by simp
        rw [e3, ds_snoc, et]
      · have e3 : [(k : Int)].filter (fun x => decide (dist (beh l x.toNat) m = dist l m - 1)) = [] := by
          rw [List.filter_cons, if_neg (by rw [Int.toNat_natCast, decide_eq_false hd]; exact Bool.false_ne_true), List.filter_nil]
        rw [e3, List.append_nil]
        exact ⟨O', rfl, hq, rfl, rfl⟩
    · rintro q acc O' ⟨rfl, rfl⟩ hq
      refine .inr ⟨_, rfl, ?_⟩
      have hall : (mayI l).take (srcD (twl (mayI l))).n = mayI l := List.take_of_length_le (by show _ ≤ (twl (mayI l)).length; rw [List.length_map]; exact Nat.le_refl _)
      rw [hall]
      walk_at "ssr"
      obtain ⟨r, hr1, hr2⟩ := nearer hl hm hlen hne
      cases hf : (mayI l).filter (fun x => decide (dist (beh l x.toNat) m = dist l m - 1)) with
      | nil =>
        have := List.filter_eq_nil_iff.mp hf (r : Int) (mem_mayI.mpr ⟨r, hr1, rfl⟩)
        rw [Int.toNat_natCast] at this
        exact absurd (decide_eq_true hr2) this
      | cons x xs =>
        have hx : x ∈ (mayI l).filter (fun x => decide (dist (beh l x.toNat) m = dist l m - 1)) := by rw [hf]; exact List.mem_cons_self
        obtain ⟨hx1, hx2⟩ := List.mem_filter.mp hx
        obtain ⟨k, hk, rfl⟩ := mem_mayI.mp hx1
        have hx3 := of_decide_eq_true hx2
        rw [Int.toNat_natCast] at hx3
        refine ow_ixBL (i := 0) (d := .int (k : Int)) (atI_nat (l := twl ((k : Int) :: xs)) (d := 0) rfl) ?_
        exact aret_rt (h2 he k hk hx3)
end
end BL

set_option Elab.async false
set_option linter.all false
set_option maxRecDepth 100000
set_option maxHeartbeats 4000000
namespace BL
open PySem PySem.Spec PyProof.Rows L2 HotX L2H RZ
local macro_rules | `(tactic| walk_at "s") => `(tactic| (with_reducible first
  | refine st_seq ?_ | refine st_set ?_ | refine st_asg ?_ | refine st_ret ?_ | refine st_retN ?_ | refine st_if ?_ | refine st_next ?_ | refine st_drop ?_ | refine st_cont ?_ | refine st_brk ?_ | refine st_par ?_ | refine st_par3 ?_
  | refine ev_varF rfl ?_ | refine ev_varP rfl ?_ | refine ev_var rfl ?_ | refine ev_int ?_ | refine ev_str ?_ | refine ev_bl ?_ | refine ev_non ?_ | refine ev_raw ?_
  | refine ev_if ?_ | refine ev_andV ?_ | refine ev_orV ?_ | refine ev_notV ?_ | refine et_test ?_ | refine et_B ?_ | refine et_and ?_ | refine et_or ?_ | refine et_not ?_ | refine et_yes ?_
  | refine ev_chain ?_ | refine ev_op ?_ | refine ev_un ?_ | refine ev_cb ?_ | refine ev_sl ?_ | refine eo_none ?_ | refine eo_some ?_ | refine ea_nil ?_ | refine ea_cons ?_ | refine ev_call ?_
  | refine ow_mulBS ?_ ?_ | refine ow_addI ?_ | refine ow_addFI ?_ | refine ow_mulFS ?_ ?_ | refine ow_isB ?_ | refine ow_notB ?_ | refine ow_I0 ?_ | refine ow_B0 ?_ | refine ow_eqI ?_ | refine ow_neI ?_ | refine uw_neg ?_
  | refine ow_mod (by decide +kernel) ?_ | refine ow_powC (by decide +kernel) ?_ | refine ow_inTI ?_ | refine ow_ninTI ?_ | refine ow_isN ?_ | refine ow_notN ?_
  | refine cw_lenT ?_ | refine cw_lenL ?_ | refine cw_int ?_ | refine cw_abs ?_ | refine cw_max2 ?_ | refine cw_min2 ?_ | refine cw_tupL ?_
  | refine gj_name (by decide) ?_ | refine g_name ?_ | refine gjs_nil ?_ | refine gjs_cons ?_
  | refine isi_int (b := true) (by decide +kernel) ?_ | refine isi_int (b := false) (by decide +kernel) ?_ | refine isi_bool (b := true) (by decide +kernel) ?_ | refine isi_bool (b := false) (by decide +kernel) ?_ | refine isi_str (b := true) (by decide +kernel) ?_ | refine isi_str (b := false) (by decide +kernel) ?_ | refine isi_tup (b := true) (by decide +kernel) ?_ | refine isi_tup (b := false) (by decide +kernel) ?_ | refine isi_lst (b := true) (by decide +kernel) ?_ | refine isi_lst (b := false) (by decide +kernel) ?_ | refine isi_non (b := true) (by decide +kernel) ?_ | refine isi_non (b := false) (by decide +kernel) ?_ | refine aret_rt ?_ | refine aret_nx ?_ | rw [if_pos rfl] | rw [if_pos nf_true] | rw [if_neg nt_true] | rw [if_neg Bool.false_ne_true] | refine ⟨_, rfl, ?_⟩) <;> try dsimp only [Bool.not_true, Bool.not_false, List.set])
local macro_rules | `(tactic| walk_at "ss") => `(tactic| repeat (any_goals walk_at "s"))
local macro_rules | `(tactic| walk_at "n") => `(tactic| try dsimp only [wipeA, List.map_cons, List.map_nil, List.set, srcN])
local macro_rules | `(tactic| walk_at "sr") => `(tactic| (with_reducible first | refine ev_var rfl ?_ | walk_at "s"))
local macro_rules | `(tactic| walk_at "ssr") => `(tactic| repeat (any_goals walk_at "sr"))

section
variable {P : Program} {w : World} {K : PySem.W.Frag} {T : List Addr} {mg : Str → Option Value} {base : Heap}
open Cw
theorem base_drop {b : List Int} (h : Base b) (n : Nat) : Base (b.drop n) := fun x hx => h x (List.mem_of_mem_drop hx)
theorem twl_getD {l : List Int} {i : Nat} (h : i < l.length) : (twl l).getD i .none = .int l[i] := by
  rw [List.getD_eq_getElem?_getD, List.getElem?_map, List.getElem?_eq_getElem h]; rfl
def Sp_whole : FSp := fun as O Φ Ψ => ∃ (b : List Int), as = [.d (tw b)] ∧ Base b ∧ b.length ≤ 100 ∧ Φ (.d (.int (whole b))) O
theorem ok_count_words (X : Txt K mg) : FnOk P w K mg base CX0 (0 + 1) X.count_words.f X.count_words.fd P_count_words (spOf K T Sp_whole) := by
  refine ok_fn X.count_words.F sc_count_words (fun as O Φ Ψ ⟨b, e, _⟩ => by rw [e]; rfl) fun cdv A outer s H E hr => ⟨_, (pss_cons (ps_set (i := 1) sc_count_words.nd rfl (by first | exact Or.inl rfl | exact Or.inr rfl) pe_int) (pss_cons (ps_for PassesOwn.never rfl (seqA K rfl (pv 0)) (pg_name (i := 2) sc_count_words.nd rfl (by first | exact Or.inl rfl | exact Or.inr rfl)) (pss_one (ps_set (i := 1) sc_count_words.nd rfl (by first | exact Or.inl rfl | exact Or.inr rfl) (pe_op (mulB K rfl) (pv 1) (pv 2))))) (pss_one (ps_ret (pv 1))))), fun as O Φ Ψ ⟨b, e, hb, hl, h⟩ => ?_⟩
  subst e
  show StW _ _ [some _, none, none] _ _
  walk_at "ss"
  refine st_for (is_seq (ev_var rfl ⟨_, .inr rfl, ?_⟩))
  refine ⟨fun i ps' O' => O' = O ∧ ∃ z v, ps' = [some (.d (tw b)), some (.d (.int v)), z] ∧ v * whole (b.drop i) = whole b, ⟨rfl, none, 1, rfl, by rw [List.drop_zero, Int.one_mul]⟩, fun _ _ _ _ _ => trivial, ?_, ?_⟩
  · rintro i ps' O' hi ⟨rfl, z, v, rfl, hv⟩
    have hi' : i < b.length := by
      have : i < (twl b).length := hi
      rwa [List.length_map] at this
    have hm := hb b[i] (List.getElem_mem hi')
    show GW _ _ (.d ((twl b).getD i .none)) _ _ _
    rw [twl_getD hi']
    walk_at "ss"
    · exact cm_r (by omega) (by omega)
    refine ⟨rfl, some (.d (.int b[i])), v * b[i], rfl, ?_⟩
    rw [List.drop_eq_getElem_cons hi'] at hv
    rw [Int.mul_assoc]
    exact hv
  · rintro ps' O' ⟨rfl, z, v, rfl, hv⟩
    walk_at "ss"
    rw [List.drop_of_length_le (show b.length ≤ (srcD (twl b)).n by show _ ≤ (twl b).length; rw [List.length_map]; exact Nat.le_refl _)] at hv
    have e : v = whole b := by rw [← hv]; exact (Int.mul_one v).symm
    rw [e]
    exact h
theorem ok__law_whole (X : Txt K mg) : FnOk P w K mg base CX0 (0 + 1) X._law_whole.f X._law_whole.fd P__law_whole (spOf K T Sp_whole) := by
  refine ok_fn X._law_whole.F sc__law_whole (fun as O Φ Ψ ⟨b, e, _⟩ => by rw [e]; rfl) fun cdv A outer s H E hr => ⟨_, (pss_cons (ps_set (i := 1) sc__law_whole.nd rfl (by first | exact Or.inl rfl | exact Or.inr rfl) pe_int) (pss_cons (ps_for PassesOwn.never rfl (seqA K rfl (pv 0)) (pg_name (i := 2) sc__law_whole.nd rfl (by first | exact Or.inl rfl | exact Or.inr rfl)) (pss_one (ps_set (i := 1) sc__law_whole.nd rfl (by first | exact Or.inl rfl | exact Or.inr rfl) (pe_op (mulB K rfl) (pv 1) (pv 2))))) (pss_one (ps_ret (pv 1))))), fun as O Φ Ψ ⟨b, e, hb, hl, h⟩ => ?_⟩
  subst e
  show StW _ _ [some _, none, none] _ _
  walk_at "ss"
  refine st_for (is_seq (ev_var rfl ⟨_, .inr rfl, ?_⟩))
  refine ⟨fun i ps' O' => O' = O ∧ ∃ z v, ps' = [some (.d (tw b)), some (.d (.int v)), z] ∧ v * whole (b.drop i) = whole b, ⟨rfl, none, 1, rfl, by rw [List.drop_zero, Int.one_mul]⟩, fun _ _ _ _ _ => trivial, ?_, ?_⟩
  · rintro i ps' O' hi ⟨rfl, z, v, rfl, hv⟩
    have hi' : i < b.length := by
      have : i < (twl b).length := hi
      rwa [List.length_map] at this
    have hm := hb b[i] (List.getElem_mem hi')
    show GW _ _ (.d ((twl b).getD i .none)) _ _ _
    rw [twl_getD hi']
    walk_at "ss"
    · exact cm_r (by omega) (by omega)
    refine ⟨rfl, some (.d (.int b[i])), v * b[i], rfl, ?_⟩
    rw [List.drop_eq_getElem_cons hi'] at hv
    rw [Int.mul_assoc]
    exact hv
  · rintro ps' O' ⟨rfl, z, v, rfl, hv⟩
    walk_at "ss"
    rw [List.drop_of_length_le (show b.length ≤ (srcD (twl b)).n by show _ ≤ (twl b).length; rw [List.length_map]; exact Nat.le_refl _)] at hv
    have e : v = whole b := by rw [← hv]; exact (Int.mul_one v).symm
    rw [e]
    exact h
theorem whole_cons (m : Int) (b : List Int) : whole (m :: b) = m * whole b := rfl
theorem fdiv_mul {m W : Int} (h : m ≠ 0) : (m * W).fdiv m = W := Int.mul_fdiv_cancel_left W h
theorem whole_lt {b : List Int} (h : Base b) (hl : b.length ≤ 20) : whole b ≤ 100000000000000000000 := by
  have h1 := whole_le h
  have h2 := Nat.pow_le_pow_right (n := 10) (by decide) hl
  have e2 : (10 : Nat) ^ 20 = 100000000000000000000 := by decide
  have e1 : (10 : Int) ^ b.length = ((10 ^ b.length : Nat) : Int) := by push_cast; rfl
  rw [e2] at h2
  rw [e1] at h1
  omega
theorem log_small {j : Int} (h0 : 0 ≤ j) (h : j ≤ 100000000000000000000) : j.natAbs.log2 < 9000 := by
  have h1 : j.natAbs < 2 ^ 9000 := by
    have : j.natAbs ≤ 100000000000000000000 := by omega
    refine Nat.lt_of_le_of_lt this ?_
    exact Nat.lt_of_lt_of_le (show 100000000000000000000 < 2 ^ 67 by decide) (Nat.pow_le_pow_right (by decide) (by decide))
  by_cases hz : j.natAbs = 0
  · rw [hz]; decide
  · exact (Nat.log2_lt hz).mpr h1
theorem and1 (x : Int) : Builtin.bitAnd x 1 = x % 2 := PyProof.Rows.bitAnd_m1 x
def Sp_word_at (cO : Addr) : FSp := fun as O Φ Ψ => ∃ (b : List Int) (p : Int), as = [.d (tw b), .d (.int p)] ∧ Base b ∧ b.length ≤ 20 ∧ (0 ≤ p → p < whole b → Φ (.d (tw (wrd b p))) O) ∧ (¬ (0 ≤ p ∧ p < whole b) → Ψ (.ref cO) O)
theorem ok_word_at (X : Txt K mg) : FnOk P w K mg base (L2N.CX P w) (1 + 1) X.word_at.f X.word_at.fd P_word_at (spOf K T (Sp_word_at X.OutOfRange.x)) := by
  refine ok_fnX X.word_at.F sc_word_at (fun as O Φ Ψ ⟨b, p, e, _⟩ => by rw [e]; rfl) fun cdv A outer s H E hr => ⟨_, (pss_cons (ps_set (i := 2) sc_word_at.nd rfl (by first | exact Or.inl rfl | exact Or.inr rfl) (pe_call (ok_count_words (T := T) X) (hr.mono (by decide)) (by rfl) X.count_words.m X.count_words.F.kp X.count_words.b .nil pass0 (pa_cons (pv 0) pa_nil))) (pss_cons (ps_if (pt_not (pt_val (pe_call (ok_is_number (T := T) X) (hr.mono (by decide)) (by rfl) X.is_number.m X.is_number.F.kp X.is_number.b .nil pass0 (pa_cons (pv 1) (pa_cons pe_int (pa_cons (pe_op op_sub (pv 2) pe_int) pa_nil)))))) (pss_one (ps_raiseC X.OutOfRange rfl (L2N.takes_of rfl rfl rfl rfl) (by rfl) (by decide))) pss_nil) (pss_cons (ps_set (i := 3) sc_word_at.nd rfl (by first | exact Or.inl rfl | exact Or.inr rfl) (pe_lst pa_nil)) (pss_cons (ps_for (passes_of rfl) rfl (seqA K rfl (pv 0)) (pg_name (i := 4) sc_word_at.nd rfl (by first | exact Or.inl rfl | exact Or.inr rfl)) (pss_cons (ps_set (i := 2) sc_word_at.nd rfl (by first | exact Or.inl rfl | exact Or.inr rfl) (pe_op op_fdivX (pv 2) (pv 4))) (pss_cons (ps_asg (pe_callB call_divmodW (by rfl) X.b_divmod bt_divmod (pa_cons (pv 1) (pa_cons (pv 2) pa_nil))) (tupA (n := 2) K rfl rfl (pgs_cons (pg_name (i := 5) sc_word_at.nd rfl (by first | exact Or.inl rfl | exact Or.inr rfl)) (pgs_cons (pg_name (i := 1) sc_word_at.nd rfl (by first | exact Or.inl rfl | exact Or.inr rfl)) pgs_nil)))) (pss_cons (ps_if (pt_cmpR (eqA K rfl hr) (pe_op op_and (pv 5) pe_int) pe_int (nomark _)) (pss_one (ps_set (i := 1) sc_word_at.nd rfl (by first | exact Or.inl rfl | exact Or.inr rfl) (pe_op op_sub (pe_op op_sub (pv 2) pe_int) (pv 1)))) pss_nil) (pss_one (ps_expr (toK (f := fun K => tBM K "list" _ _ _) K rfl (pe_bm PySem.F.plainAttrs_list PySem.F.slot_list_append PySem.F.type_list_append mt_append (pv 3) (pa_cons (pv 5) pa_nil))))))))) (pss_one (ps_ret (pe_callTy (tupB K rfl) (by rfl) X.b_tuple bt_tuple (pa_cons (pv 3) pa_nil)))))))), fun as O Φ Ψ ⟨b, p, e, hb, hl, h1, h2⟩ => ?_⟩
  subst e
  show StW _ _ [some _, some _, none, none, none, none] _ _
  walk_at "ss"
  refine ⟨b, rfl, hb, by omega, ?_⟩
  walk_at "ss"
  refine ⟨_, _, _, rfl, ?_⟩
  walk_at "ss"
  have hW := whole_lt hb hl
  have hW1 := whole_pos hb
  refine ite_b (fun hz => ?_) (fun hz => ?_)
  · refine st_raise esc_X ⟨O, OLe.refl _, h2 (fun z => ?_)⟩
    rw [decide_eq_true z.1, decide_eq_true (show p ≤ whole b - 1 by omega)] at hz
    exact Bool.false_ne_true hz
  · have hp : 0 ≤ p ∧ p ≤ whole b - 1 := by simpa using hz
    have h := h1 hp.1 (by omega)
    walk_at "ss"
    refine ev_lstO ?_
    walk_at "ss"
    refine ⟨by decide, fun q hq => ?_⟩
    walk_at "ss"
    refine st_for (is_seq (ev_var rfl ⟨_, .inr rfl, ?_⟩))
    refine ⟨fun i ps' O' => ∃ (r : List Int) (pi : Int) (z1 z2 : Option AV), O' = updO O q (.lst (ds (twl r))) ∧ ps' = [some (.d (tw b)), some (.d (.int pi)), some (.d (.int (whole (b.drop i)))), some (.v (.ref q)), z1, z2] ∧ 0 ≤ pi ∧ pi < whole (b.drop i) ∧ r.length = i ∧ r ++ wrd (b.drop i) pi = wrd b p, ⟨[], p, none, none, rfl, rfl, hp.1, by rw [List.drop_zero]; omega, rfl, rfl⟩, fun _ _ _ _ _ => trivial, ?_, ?_⟩
    · rintro i ps' O' hi ⟨r, pi, z1, z2, rfl, rfl, hp0, hp1, hr1, hr2⟩
      have hi' : i < b.length := by
        have : i < (twl b).length := hi
        rwa [List.length_map] at this
      have hm := hb b[i] (List.getElem_mem hi')
      have ed := List.drop_eq_getElem_cons hi'
      rw [ed] at hr2 hp1 ⊢
      have hWd := whole_pos (base_drop hb (i + 1))
      have hWl := whole_lt (base_drop hb (i + 1)) (by rw [List.length_drop]; omega)
      have m0 := Int.emod_nonneg pi (show whole (b.drop (i + 1)) ≠ 0 by omega)
      have m1 := Int.emod_lt_of_pos pi (show 0 < whole (b.drop (i + 1)) by omega)
      have hcons := whole_cons b[i] (b.drop (i + 1))
      show GW _ _ (.d ((twl b).getD i .none)) _ _ _
      rw [twl_getD hi']
      walk_at "ss"
      refine ow_fdivC ⟨by omega, log_small (by omega) (by omega)⟩ ?_
      rw [hcons, fdiv_mul (show b[i] ≠ 0 by omega)]
      walk_at "ss"
      refine cw_divmod (divP (by omega) (log_small (by omega) hWl)) ?_
      refine gw_pair (js := [5, 1]) ?_
      walk_at "ss"
      rw [and1]
      have hr3 : r ++ ([pi / whole (b.drop (i + 1))] ++ wrd (b.drop (i + 1)) (if pi / whole (b.drop (i + 1)) % 2 = 0 then pi % whole (b.drop (i + 1)) else whole (b.drop (i + 1)) - 1 - pi % whole (b.drop (i + 1)))) = wrd b p := hr2
      refine ite_dec (fun h3 => ?_) (fun h3 => ?_)
      · rw [if_neg (by omega)] at hr3
        walk_at "ss"
        refine ev_bm ?_
        walk_at "ss"
        refine ⟨ty_own updO_same, ?_⟩
        walk_at "ss"
        refine mw_appI updO_same (by omega) ?_
        rw [updO_updO]
        exact ⟨r ++ [pi / whole (b.drop (i + 1))], _, _, _, rfl, rfl, by omega, by omega, by rw [List.length_append, hr1]; rfl, by rw [List.append_assoc]; exact hr3⟩
      · rw [if_pos (by omega)] at hr3
        walk_at "ss"
        refine ev_bm ?_
        walk_at "ss"
        refine ⟨ty_own updO_same, ?_⟩
        walk_at "ss"
        refine mw_appI updO_same (by omega) ?_
        rw [updO_updO]
        exact ⟨r ++ [pi / whole (b.drop (i + 1))], _, _, _, rfl, rfl, m0, m1, by rw [List.length_append, hr1]; rfl, by rw [List.append_assoc]; exact hr3⟩
    · rintro ps' O' ⟨r, pi, z1, z2, rfl, rfl, hp0, hp1, hr1, hr2⟩
      have e : b.drop (srcD (twl b)).n = [] := List.drop_of_length_le (show b.length ≤ (twl b).length by rw [List.length_map]; exact Nat.le_refl _)
      rw [e] at hr2
      have e2 : r = wrd b p := by rw [← hr2]; exact (List.append_nil r).symm
      refine st_freeze updO_same ?_
      show StW _ _ [some (frzA q _ (AV.d _)), some (frzA q _ (AV.d _)), some (frzA q _ (AV.d _)), some (frzA q _ (AV.v (V.ref q))), _, _] _ _
      rw [delO_updO hq, show frzA q (.list (twl r)) (AV.v (V.ref q)) = .d (.list (twl r)) from if_pos rfl, e2]
      walk_at "ss"
      exact h
def Sp_plc : FSp := fun as O Φ Ψ => ∃ (b ws : List Int), as = [.d (tw b), .d (tw ws)] ∧ Base b ∧ Cw.IsW b ws ∧ b.length ≤ 20 ∧ Φ (.d (.int (plc b ws))) O
theorem isw_len : ∀ {b ws : List Int}, Cw.IsW b ws → b.length = ws.length
  | _, _, .nil => rfl
  | _, _, .cons _ _ h => by rw [List.length_cons, List.length_cons, isw_len h]
theorem isw_drop : ∀ {b ws : List Int} (n : Nat), Cw.IsW b ws → Cw.IsW (b.drop n) (ws.drop n)
  | _, _, 0, h => h
  | _, _, _ + 1, .nil => .nil
  | _, _, n + 1, .cons _ _ h => isw_drop n h
theorem isw_get : ∀ {b ws : List Int} {i : Nat} (_ : Cw.IsW b ws) (h1 : i < b.length) (h2 : i < ws.length), 0 ≤ ws[i] ∧ ws[i] < b[i]
  | _, _, 0, .cons a c _, _, _ => ⟨a, c⟩
  | _, _, i + 1, .cons _ _ h, h1, h2 => isw_get (i := i) h (by simpa using h1) (by simpa using h2)
theorem twl_rev {l : List Int} {i : Nat} (h : i < l.length) : (twl l).reverse.getD i .none = .int (l[l.length - 1 - i]'(by omega)) := by
  rw [← List.map_reverse, List.getD_eq_getElem?_getD, List.getElem?_map, List.getElem?_eq_getElem (by rw [List.length_reverse]; exact h), List.getElem_reverse]
  rfl
theorem drop_rev {l : List Int} {i : Nat} (h : i < l.length) : l.drop (l.length - (i + 1)) = l[l.length - 1 - i]'(by omega) :: l.drop (l.length - i) := by
  rw [show l.length - (i + 1) = l.length - 1 - i by omega, List.drop_eq_getElem_cons (by omega), show l.length - 1 - i + 1 = l.length - i by omega]
theorem drop_rev2 {l : List Int} {i n : Nat} (e : n = l.length) (h : i < n) : l.drop (n - (i + 1)) = l[n - 1 - i]'(by omega) :: l.drop (n - i) := by
  subst e; exact drop_rev h
theorem twl_rev2 {l : List Int} {i n : Nat} (e : n = l.length) (h : i < n) : (twl l).reverse.getD i .none = .int (l[n - 1 - i]'(by omega)) := by
  subst e; exact twl_rev h
theorem ok_place_of_word (X : Txt K mg) : FnOk P w K mg base CX0 (0 + 1) X.place_of_word.f X.place_of_word.fd P_place_of_word (spOf K T Sp_plc) := by
  refine ok_fn X.place_of_word.F sc_place_of_word (fun as O Φ Ψ ⟨b, ws, e, _⟩ => by rw [e]; rfl) fun cdv A outer s H E hr => ⟨_, (pss_cons (ps_set (i := 2) sc_place_of_word.nd rfl (by first | exact Or.inl rfl | exact Or.inr rfl) pe_int) (pss_cons (ps_set (i := 3) sc_place_of_word.nd rfl (by first | exact Or.inl rfl | exact Or.inr rfl) pe_int) (pss_cons (ps_for PassesOwn.never rfl (zipA K rfl (by rfl) X.b_zip (pa_cons (pe_revT K rfl (pv 1)) (pa_cons (pe_revT K rfl (pv 0)) pa_nil))) (tupA (n := 2) K rfl rfl (pgs_cons (pg_name (i := 4) sc_place_of_word.nd rfl (by first | exact Or.inl rfl | exact Or.inr rfl)) (pgs_cons (pg_name (i := 5) sc_place_of_word.nd rfl (by first | exact Or.inl rfl | exact Or.inr rfl)) pgs_nil))) (pss_cons (ps_if (pt_cmpR (eqA K rfl hr) (pe_op op_and (pv 4) pe_int) pe_int (nomark _)) (pss_one (ps_set (i := 2) sc_place_of_word.nd rfl (by first | exact Or.inl rfl | exact Or.inr rfl) (pe_op op_sub (pe_op op_sub (pv 3) pe_int) (pv 2)))) pss_nil) (pss_cons (ps_set (i := 2) sc_place_of_word.nd rfl (by first | exact Or.inl rfl | exact Or.inr rfl) (pe_op (addA K rfl) (pe_op (mulB K rfl) (pv 4) (pv 3)) (pv 2))) (pss_one (ps_set (i := 3) sc_place_of_word.nd rfl (by first | exact Or.inl rfl | exact Or.inr rfl) (pe_op (mulB K rfl) (pv 3) (pv 5))))))) (pss_one (ps_ret (pv 2)))))), fun as O Φ Ψ ⟨b, ws, e, hb, hw, hl, h⟩ => ?_⟩
  subst e
  have hlen := isw_len hw
  show StW _ _ [some _, some _, none, none, none, none] _ _
  walk_at "ss"
  refine st_for (is_zipT ?_)
  walk_at "ss"
  refine ev_revT ?_
  walk_at "ss"
  refine ev_revT ?_
  walk_at "ss"
  refine ⟨_, _, rfl, ?_⟩
  refine ⟨fun i ps' O' => O' = O ∧ ∃ z1 z2, ps' = [some (.d (tw b)), some (.d (tw ws)), some (.d (.int (plc (b.drop (b.length - i)) (ws.drop (b.length - i))))), some (.d (.int (whole (b.drop (b.length - i))))), z1, z2], ⟨rfl, none, none, by rw [Nat.sub_zero, List.drop_length]; rfl⟩, fun _ _ _ _ _ => trivial, ?_, ?_⟩
  · rintro i ps' O' hi ⟨rfl, z1, z2, rfl⟩
    have hi' : i < b.length := by
      have : i < min (twl ws).reverse.length (twl b).reverse.length := hi
      rw [List.length_reverse, List.length_reverse, List.length_map, List.length_map] at this
      omega
    have hiw : i < ws.length := by omega
    have hm := hb (b[b.length - 1 - i]'(by omega)) (List.getElem_mem _)
    have hg := isw_get (i := b.length - 1 - i) hw (by omega) (by omega)
    have ew := drop_rev2 hlen hi'
    have eb := drop_rev hi'
    have hb' := base_drop hb (b.length - i)
    have hw' := isw_drop (b.length - i) hw
    have hbd := plc_bd hb' hw'
    have hWl := whole_lt hb' (by rw [List.length_drop]; omega)
    show GW _ _ (.d (.tuple [(twl ws).reverse.getD i .none, (twl b).reverse.getD i .none])) _ _ _
    rw [twl_rev hi', twl_rev2 hlen hi']
    refine gw_pair (js := [4, 5]) ?_
    walk_at "ss"
    rw [and1]
    have hplc : plc (b.drop (b.length - (i + 1))) (ws.drop (b.length - (i + 1))) = (ws[b.length - 1 - i]'(by omega)) * whole (b.drop (b.length - i)) + (if (ws[b.length - 1 - i]'(by omega)) % 2 = 0 then plc (b.drop (b.length - i)) (ws.drop (b.length - i)) else whole (b.drop (b.length - i)) - 1 - plc (b.drop (b.length - i)) (ws.drop (b.length - i))) := by rw [ew, eb]; rfl
    have hwh : whole (b.drop (b.length - (i + 1))) = whole (b.drop (b.length - i)) * (b[b.length - 1 - i]'(by omega)) := by rw [eb, whole_cons, Int.mul_comm]
    refine ite_dec (fun h3 => ?_) (fun h3 => ?_)
    · rw [if_neg (by omega)] at hplc
      walk_at "ss"
      · exact cm_l (by omega) (by omega)
      · exact cm_r (by omega) (by omega)
      rw [hplc, hwh]
      exact ⟨rfl, _, _, rfl⟩
    · rw [if_pos (by omega)] at hplc
      walk_at "ss"
      · exact cm_l (by omega) (by omega)
      · exact cm_r (by omega) (by omega)
      rw [hplc, hwh]
      exact ⟨rfl, _, _, rfl⟩
  · rintro ps' O' ⟨rfl, z1, z2, rfl⟩
    have hn : (twl ws).reverse.length = ws.length := by rw [List.length_reverse, List.length_map]
    have hn2 : (twl b).reverse.length = b.length := by rw [List.length_reverse, List.length_map]
    walk_at "ss"
    show Φ (.d (.int (plc (b.drop (b.length - min (twl ws).reverse.length (twl b).reverse.length)) (ws.drop (b.length - min (twl ws).reverse.length (twl b).reverse.length))))) _
    rw [hn, hn2, ← hlen, Nat.min_self, Nat.sub_self, List.drop_zero, List.drop_zero]
    exact h
theorem ok__law_word_place (X : Txt K mg) : FnOk P w K mg base CX0 (1 + 1) X._law_word_place.f X._law_word_place.fd P__law_word_place (spOf K T Sp_plc) := by
  refine ok_fn X._law_word_place.F sc__law_word_place (fun as O Φ Ψ ⟨b, ws, e, _⟩ => by rw [e]; rfl) fun cdv A outer s H E hr => ⟨_, (pss_cons (ps_par3 (i := 3) (j := 4) (l := 5) rfl sc__law_word_place.nd rfl rfl rfl (by decide) (by decide) (by decide) rfl rfl rfl (pa_cons pe_int (pa_cons pe_bl (pa_cons (pe_call (ok__law_whole (T := T) X) (hr.mono (by decide)) (by rfl) X._law_whole.m X._law_whole.F.kp X._law_whole.b .nil pass0 (pa_cons (pv 0) pa_nil)) pa_nil))) (by rfl)) (pss_cons (ps_for PassesOwn.never rfl (pi_range1 (by rfl) X.b_range (pa_cons (pe_callB (lenA K rfl) (by rfl) X.b_len bt_len (pa_cons (pv 0) pa_nil)) pa_nil)) (pg_name (i := 2) sc__law_word_place.nd rfl (by first | exact Or.inl rfl | exact Or.inr rfl)) (pss_cons (ps_set (i := 5) sc__law_word_place.nd rfl (by first | exact Or.inl rfl | exact Or.inr rfl) (pe_op op_fdivX (pv 5) (pe_ix (ixB K rfl hr) (pv 0) (pv 2) (fun _ _ => rfl)))) (pss_cons (ps_set (i := 6) sc__law_word_place.nd rfl (by first | exact Or.inl rfl | exact Or.inr rfl) (pe_ifExp (pt_val (pv 4)) (pe_op op_sub (pe_op op_sub (pe_ix (ixB K rfl hr) (pv 0) (pv 2) (fun _ _ => rfl)) pe_int) (pe_ix (ixB K rfl hr) (pv 1) (pv 2) (fun _ _ => rfl))) (pe_ix (ixB K rfl hr) (pv 1) (pv 2) (fun _ _ => rfl)))) (pss_cons (ps_set (i := 3) sc__law_word_place.nd rfl (by first | exact Or.inl rfl | exact Or.inr rfl) (pe_op (addA K rfl) (pv 3) (pe_op (mulB K rfl) (pv 6) (pv 5)))) (pss_one (ps_set (i := 4) sc__law_word_place.nd rfl (by first | exact Or.inl rfl | exact Or.inr rfl) (pe_cmpR (neA K rfl hr) (pv 4) (pe_cmpR (eqA K rfl hr) (pe_op op_mod (pe_ix (ixB K rfl hr) (pv 1) (pv 2) (fun _ _ => rfl)) pe_int) pe_int (nomark _)) (nomark _)))))))) (pss_one (ps_ret (pv 3))))), fun as O Φ Ψ ⟨b, ws, e, hb, hw, hl, h⟩ => ?_⟩
  subst e
  have hlen := isw_len hw
  show StW _ _ [some _, some _, none, none, none, none, none] _ _
  walk_at "ss"
  refine ⟨b, rfl, hb, by omega, ?_⟩
  walk_at "ss"
  refine ⟨_, _, _, rfl, ?_⟩
  walk_at "ss"
  refine st_for (is_rngN ?_)
  walk_at "ss"
  rw [List.length_map]
  refine ⟨by omega, ?_⟩
  refine ⟨fun i ps' O' => O' = O ∧ ∃ (z2 z6 : Option AV) (F : Int) (bk : Bool), ps' = [some (.d (tw b)), some (.d (tw ws)), z2, some (.d (.int F)), some (.d (.bool bk)), some (.d (.int (whole (b.drop i)))), z6] ∧ F + lplc (b.drop i) (ws.drop i) bk = plc b ws, ⟨rfl, none, none, 0, false, rfl, by rw [List.drop_zero, List.drop_zero, lplc_eq hb hw]; omega⟩, fun _ _ _ _ _ => trivial, ?_, ?_⟩
  · rintro i ps' O' hi ⟨rfl, z2, z6, F, bk, rfl, hF⟩
    have hi' : i < b.length := hi
    have hiw : i < ws.length := by omega
    have hm := hb b[i] (List.getElem_mem hi')
    have hg := isw_get hw hi' hiw
    have ed := List.drop_eq_getElem_cons hi'
    have ew := List.drop_eq_getElem_cons hiw
    rw [ed, ew] at hF
    rw [ed]
    have hWd := whole_pos (base_drop hb (i + 1))
    have hWl := whole_lt (base_drop hb (i + 1)) (by rw [List.length_drop]; omega)
    have hcons := whole_cons b[i] (b.drop (i + 1))
    have gb : b.getD i 0 = b[i] := by rw [List.getD_eq_getElem?_getD, List.getElem?_eq_getElem hi']; rfl
    have gw : ws.getD i 0 = ws[i] := by rw [List.getD_eq_getElem?_getD, List.getElem?_eq_getElem hiw]; rfl
    have hl2 : ∀ bk, lplc (b[i] :: b.drop (i + 1)) (ws[i] :: ws.drop (i + 1)) bk = (if bk = true then b[i] - 1 - ws[i] else ws[i]) * whole (b.drop (i + 1)) + lplc (b.drop (i + 1)) (ws.drop (i + 1)) (bk != decide (ws[i] % 2 = 1)) := fun _ => rfl
    rw [hl2] at hF
    walk_at "ss"
    refine ow_ixTI hi' ?_
    rw [gb]
    refine ow_fdivC ⟨by omega, log_small (by omega) (by omega)⟩ ?_
    rw [hcons, fdiv_mul (show b[i] ≠ 0 by omega)]
    walk_at "ss"
    refine ite_b (fun hz => ?_) (fun hz => ?_)
    · rw [hz] at hF ⊢
      rw [if_pos rfl] at hF
      walk_at "ss"
      refine ow_ixTI hi' ?_
      rw [gb]
      walk_at "ss"
      refine ow_ixTI hiw ?_
      rw [gw]
      walk_at "ss"
      · exact cm_l (by omega) (by omega)
      refine ow_ixTI hiw ?_
      rw [gw]
      walk_at "ss"
      refine ow_neD rfl rfl ?_
      exact ⟨rfl, _, _, _, _, rfl, by rw [Int.add_assoc]; exact hF⟩
    · rw [hz] at hF ⊢
      rw [if_neg Bool.false_ne_true] at hF
      walk_at "ss"
      refine ow_ixTI hiw ?_
      rw [gw]
      walk_at "ss"
      · exact cm_l (by omega) (by omega)
      refine ow_ixTI hiw ?_
      rw [gw]
      walk_at "ss"
      refine ow_neD rfl rfl ?_
      exact ⟨rfl, _, _, _, _, rfl, by rw [Int.add_assoc]; exact hF⟩
  · rintro ps' O' ⟨rfl, z2, z6, F, bk, rfl, hF⟩
    walk_at "ss"
    have e : b.drop (srcN b.length).n = [] := List.drop_of_length_le (Nat.le_refl _)
    rw [e] at hF
    have e2 : F = plc b ws := by rw [← hF]; exact (Int.add_zero F).symm
    rw [e2]
    exact h
end
end BL

set_option Elab.async false
set_option linter.all false
set_option maxRecDepth 100000
set_option maxHeartbeats 4000000
namespace BL
open PySem PySem.Spec PyProof.Rows L2 HotX L2H RZ
local macro_rules | `(tactic| walk_at "s") => `(tactic| (with_reducible first
  | refine st_seq ?_ | refine st_set ?_ | refine st_asg ?_ | refine st_ret ?_ | refine st_retN ?_ | refine st_if ?_ | refine st_next ?_ | refine st_drop ?_ | refine st_cont ?_ | refine st_brk ?_ | refine st_par ?_ | refine st_par3 ?_
  | refine ev_varF rfl ?_ | refine ev_varP rfl ?_ | refine ev_var rfl ?_ | refine ev_int ?_ | refine ev_str ?_ | refine ev_bl ?_ | refine ev_non ?_ | refine ev_raw ?_
  | refine ev_if ?_ | refine ev_andV ?_ | refine ev_orV ?_ | refine ev_notV ?_ | refine et_test ?_ | refine et_B ?_ | refine et_and ?_ | refine et_or ?_ | refine et_not ?_ | refine et_yes ?_
  | refine ev_chain ?_ | refine ev_op ?_ | refine ev_un ?_ | refine ev_cb ?_ | refine ev_sl ?_ | refine eo_none ?_ | refine eo_some ?_ | refine ea_nil ?_ | refine ea_cons ?_ | refine ev_call ?_
  | refine ow_mulBS ?_ ?_ | refine ow_addI ?_ | refine ow_addFI ?_ | refine ow_mulFS ?_ ?_ | refine ow_isB ?_ | refine ow_notB ?_ | refine ow_I0 ?_ | refine ow_B0 ?_ | refine ow_eqI ?_ | refine ow_neI ?_ | refine uw_neg ?_
  | refine ow_mod (by decide +kernel) ?_ | refine ow_powC (by decide +kernel) ?_ | refine ow_inTI ?_ | refine ow_ninTI ?_ | refine ow_isN ?_ | refine ow_notN ?_
  | refine cw_lenT ?_ | refine cw_lenL ?_ | refine cw_int ?_ | refine cw_abs ?_ | refine cw_max2 ?_ | refine cw_min2 ?_ | refine cw_tupL ?_
  | refine gj_name (by decide) ?_ | refine g_name ?_ | refine gjs_nil ?_ | refine gjs_cons ?_
  | refine isi_int (b := true) (by decide +kernel) ?_ | refine isi_int (b := false) (by decide +kernel) ?_ | refine isi_bool (b := true) (by decide +kernel) ?_ | refine isi_bool (b := false) (by decide +kernel) ?_ | refine isi_str (b := true) (by decide +kernel) ?_ | refine isi_str (b := false) (by decide +kernel) ?_ | refine isi_tup (b := true) (by decide +kernel) ?_ | refine isi_tup (b := false) (by decide +kernel) ?_ | refine isi_lst (b := true) (by decide +kernel) ?_ | refine isi_lst (b := false) (by decide +kernel) ?_ | refine isi_non (b := true) (by decide +kernel) ?_ | refine isi_non (b := false) (by decide +kernel) ?_ | refine aret_rt ?_ | refine aret_nx ?_ | rw [if_pos rfl] | rw [if_pos nf_true] | rw [if_neg nt_true] | rw [if_neg Bool.false_ne_true] | refine ⟨_, rfl, ?_⟩) <;> try dsimp only [Bool.not_true, Bool.not_false, List.set])
local macro_rules | `(tactic| walk_at "ss") => `(tactic| repeat (any_goals walk_at "s"))
local macro_rules | `(tactic| walk_at "n") => `(tactic| try dsimp only [wipeA, List.map_cons, List.map_nil, List.set, srcN])
local macro_rules | `(tactic| walk_at "sr") => `(tactic| (with_reducible first | refine ev_var rfl ?_ | walk_at "s"))
local macro_rules | `(tactic| walk_at "ssr") => `(tactic| repeat (any_goals walk_at "sr"))

section
variable {P : Program} {w : World} {K : PySem.W.Frag} {T : List Addr} {mg : Str → Option Value} {base : Heap}
def drw (r : List Int) : AO := .lst (ds (r.map .int))
def Sp_take : FSp := fun as O Φ Ψ => ∃ (q : Addr) (b : Int) (r : List Int), as = [.v (.ref q), .d (.int b)] ∧ 1 ≤ b ∧ O q = some (drw r) ∧ ∀ (x : Int) (r' : List Int), 0 ≤ x → x < b → Φ (.d (.int x)) (updO O q (drw r'))
theorem ok__law_take (X : Txt K mg) : FnOk P w K mg base CX0 (0 + 1) X._law_take.f X._law_take.fd P__law_take (spOf K T Sp_take) := by
  refine ok_fn X._law_take.F sc__law_take (fun as O Φ Ψ ⟨q, b, r, e, _⟩ => by rw [e]; rfl) fun cdv A outer s H E hr => ⟨_, (pss_cons (ps_if (pt_cmpR (eqA K rfl hr) (pe_callB (lenA K rfl) (by rfl) X.b_len bt_len (pa_cons (pv 0) pa_nil)) pe_int (nomark _)) (pss_one (ps_ret pe_int)) pss_nil) (pss_one (ps_ret (pe_op op_mod (pe_callTy call_intA (by rfl) X.b_int bt_int (pa_cons (toK (f := fun K => tBM0 K "list" _ _) K rfl (pe_bm0 PySem.F.plainAttrs_list PySem.F.slot_list_pop PySem.F.type_list_pop mt_pop (pv 0))) pa_nil)) (pv 1))))), fun as O Φ Ψ ⟨q, b, r, e, hb, hq, h⟩ => ?_⟩
  subst e
  show StW _ _ [some _, some _] _ _
  walk_at "ss"
  refine cw_lenO hq ?_
  walk_at "ss"
  rw [List.length_map, List.length_map]
  rcases List.eq_nil_or_concat r with rfl | ⟨r0, x, rfl⟩
  · refine ite_yes (by rfl) ?_
    walk_at "ss"
    have := h 0 [] (Int.le_refl _) (by omega)
    rw [updO_self hq] at this
    exact this
  · refine ite_no (decide_eq_false (by rw [List.concat_eq_append, List.length_append]; simp; omega)) ?_
    walk_at "ss"
    refine ev_bm0 ?_
    walk_at "ss"
    refine ⟨ty_own hq, mw_pop (l := ds (r0.map .int)) (a := .d (.int x)) (by rw [hq, List.concat_eq_append, drw, List.map_append]; simp [ds]) ?_⟩
    walk_at "ss"
    refine ow_I (by omega) ?_
    walk_at "ss"
    exact h _ r0 (Int.emod_nonneg _ (by omega)) (Int.emod_lt_of_pos _ (by omega))
def Sp_draws : FSp := fun as O Φ Ψ => ∃ (ns : List Int), as = [.s ns] ∧ ns.length ≤ 63 ∧ ∀ (q : Addr) (r : List Int), O q = none → Φ (.v (.ref q)) (updO O q (drw r))
theorem mw_app {c : Cb} {O : Own} {Φ : Af} {q : Addr} {r : List Int} {x : Int} (hp : O q = some (drw r)) (hl : r.length < 100000) (k : Φ (.d .none) (updO O q (drw (r ++ [x])))) : mtW c rAppend (.v (.ref q)) [.d (.int x)] O Φ := by
  refine mw_append hp (by rw [List.length_map, List.length_map, sizeLine_eq]; omega) ?_
  have e : AO.lst (ds (r.map .int) ++ [.d (.int x)]) = drw (r ++ [x]) := by rw [ds_snoc, drw, List.map_append]; rfl
  rw [e]; exact k
theorem draws_inner {O : Own} {A : AEnds} {q : Addr} {ns r : List Int} {m : Int} {z2 z3 z4 z6 : Option AV} (hr : r.length ≤ 50000) (hA : ∀ (r' : List Int) (z4 z5 : Option AV), r'.length ≤ r.length + 60 → A.nx [some (.s ns), some (.v (.ref q)), z2, z3, z4, z5, z6] (updO O q (drw r'))) :
    StW (cb0 K T) (tFor (iRng1 (tCons (tC (V.int 60)) tNil)) (gName 4)
              (tIfS (tTest (tOp (rI0 fun i j => V.bl (decide (j < i))) (tVar 5) (tC (V.int 0))))
                (tSeq
                  (tDrop
                    (tBM K "list" rAppend (tVar 1)
                      (tCons
                        (tOp (rI (fun x j => 0 < j) fun i j => V.int (i % j)) (tCB rIntA (tCons (tVar 5) tNil))
                          (tC (V.int 997)))
                        tNil)))
                  (tAsg (tOp (rI CDivX fun i j => V.int (i.fdiv j)) (tVar 5) (tC (V.int 997))) (gName 5)))
                tNext)) [some (.s ns), some (.v (.ref q)), z2, z3, z4, some (.d (.int m)), z6] (updO O q (drw r)) A := by
  refine st_for (is_rngN ?_)
  walk_at "ss"
  refine ⟨by omega, fun i ps' O' => ∃ (r' : List Int) (z4 : Option AV) (m : Int), r'.length ≤ r.length + i ∧ O' = updO O q (drw r') ∧ ps' = [some (.s ns), some (.v (.ref q)), z2, z3, z4, some (.d (.int m)), z6], ⟨r, z4, m, Nat.le_refl _, rfl, rfl⟩, fun _ _ _ _ _ => trivial, ?_, ?_⟩
  · rintro i ps' O' hi ⟨r', z4, m, hr', rfl, rfl⟩
    have hi' : i < 60 := hi
    walk_at "ss"
    refine ite_b (fun hb => ?_) (fun hb => ?_)
    · walk_at "ss"
      refine ev_bm ?_
      walk_at "ss"
      refine ⟨ty_own updO_same, ?_⟩
      walk_at "ss"
      refine mw_app updO_same (by omega) ?_
      walk_at "ss"
      refine ow_fdivC (by decide) ?_
      walk_at "ss"
      exact ⟨r' ++ [m % 997], some (.d (.int (i : Int))), _, by rw [List.length_append]; show _ + 1 ≤ _; omega, by rw [updO_updO], rfl⟩
    · walk_at "ss"
      exact ⟨r', some (.d (.int (i : Int))), m, by omega, rfl, rfl⟩
  · rintro ps' O' ⟨r', z4, m, hr', rfl, rfl⟩
    exact hA r' z4 _ hr'
theorem draws_seed {O : Own} {Φ : Af} {q : Addr} {ns r : List Int} {m : Int} {z2 z4 z5 z6 : Option AV} (hq : O q = none) (h : ∀ (q : Addr) (r : List Int), O q = none → Φ (.v (.ref q)) (updO O q (drw r))) (hr : r.length ≤ 50000) :
    StW (cb0 K T) (tFor (iRng1 (tCons (tC (V.int 900)) tNil)) (gName 4)
                          (tSeq
                            (tAsg
                              (tOp (rI (fun x j => 0 < j) fun i j => V.int (i % j))
                                (tCB rIntA
                                  (tCons (tOp (rAddA K) (tOp (rMulB K) (tVar 3) (tC (V.int 48271))) (tC (V.int 69621)))
                                    tNil))
                                (tC (V.int 2147483647)))
                              (gName 3))
                            (tDrop
                              (tBM K "list" rAppend (tVar 1)
                                (tCons (tOp (rI CDivX fun i j => V.int (i.fdiv j)) (tVar 3) (tC (V.int 5))) tNil))))) [some (.s ns), some (.v (.ref q)), z2, some (.d (.int m)), z4, z5, z6] (updO O q (drw r)) { nx := fun ps' O' => StW (cb0 K T) (tRet (tListRev K (tVar 1))) ps' O' (aret Φ), rt := (aret Φ).rt, bk := (aret Φ).bk, ct := (aret Φ).ct } := by
  refine st_for (is_rngN ?_)
  walk_at "ss"
  refine ⟨by omega, fun i ps' O' => ∃ (r' : List Int) (z4 : Option AV) (m : Int), r'.length ≤ r.length + i ∧ O' = updO O q (drw r') ∧ ps' = [some (.s ns), some (.v (.ref q)), z2, some (.d (.int m)), z4, z5, z6], ⟨r, z4, m, Nat.le_refl _, rfl, rfl⟩, fun _ _ _ _ _ => trivial, ?_, ?_⟩
  · rintro i ps' O' hi ⟨r', z4, m, hr', rfl, rfl⟩
    have hi' : i < 900 := hi
    walk_at "ss"
    · exact cm_r (by decide) (by decide)
    refine ev_bm ?_
    walk_at "ss"
    refine ⟨ty_own updO_same, ?_⟩
    walk_at "ss"
    refine ow_fdivC (by decide) ?_
    walk_at "ss"
    refine mw_app updO_same (by omega) ?_
    exact ⟨r' ++ [_], some (.d (.int (i : Int))), _, by rw [List.length_append]; show _ + 1 ≤ _; omega, by rw [updO_updO], rfl⟩
  · rintro ps' O' ⟨r', z4, m, hr', rfl, rfl⟩
    walk_at "ss"
    refine ev_listRevO ?_
    walk_at "ss"
    refine ⟨q, _, rfl, updO_same, fun p hp => ?_⟩
    have hpq : p ≠ q := fun z => by rw [z, updO_same] at hp; cases hp
    rw [updO_ne hpq] at hp
    refine ⟨_, fun a o ha => ?_, h p r'.reverse hp⟩
    have e : AO.lst (ds (r'.map .int)).reverse = drw r'.reverse := by rw [drw, ← List.map_reverse, ← List.map_reverse]
    rw [e]
    by_cases e1 : a = p
    · subst e1; rw [updO_same] at ha ⊢; exact ha
    · rw [updO_ne e1] at ha ⊢
      rw [updO_ne (fun z => by rw [z, hq] at ha; cases ha)]
      exact ha
theorem ok__law_draws (X : Txt K mg) : FnOk P w K mg base CX0 (0 + 1) X._law_draws.f X._law_draws.fd P__law_draws (spOf K T Sp_draws) := by
  refine ok_fn X._law_draws.F sc__law_draws (fun as O Φ Ψ ⟨ns, e, _⟩ => by rw [e]; rfl) fun cdv A outer s H E hr => ⟨_, (pss_cons (ps_set (i := 1) sc__law_draws.nd rfl (by first | exact Or.inl rfl | exact Or.inr rfl) (pe_lst pa_nil)) (pss_cons (ps_for PassesOwn.never rfl (seqA K rfl (pv 0)) (pg_name (i := 2) sc__law_draws.nd rfl (by first | exact Or.inl rfl | exact Or.inr rfl)) (pss_cons (ps_set (i := 5) sc__law_draws.nd rfl (by first | exact Or.inl rfl | exact Or.inr rfl) (pe_callB call_abs (by rfl) X.b_abs bt_abs (pa_cons (pv 2) pa_nil))) (pss_cons (ps_if (pt_cmpR op_lt (pv 5) (pe_op op_pow pe_int pe_int) (nomark _)) (pss_cons (ps_set (i := 6) sc__law_draws.nd rfl (by first | exact Or.inl rfl | exact Or.inr rfl) (pe_op op_mod (pe_callTy call_intA (by rfl) X.b_int bt_int (pa_cons (pe_op (addA K rfl) (pe_op (mulB K rfl) (pv 5) pe_int) pe_int) pa_nil)) pe_int)) (pss_cons (ps_expr (toK (f := fun K => tBM K "list" _ _ _) K rfl (pe_bm PySem.F.plainAttrs_list PySem.F.slot_list_append PySem.F.type_list_append mt_append (pv 1) (pa_cons (pe_op op_mod (pe_callTy call_intA (by rfl) X.b_int bt_int (pa_cons (pe_op (addA K rfl) (pe_op (mulB K rfl) (pv 6) pe_int) (pv 5)) pa_nil)) pe_int) pa_nil)))) (pss_cons (ps_expr (toK (f := fun K => tBM K "list" _ _ _) K rfl (pe_bm PySem.F.plainAttrs_list PySem.F.slot_list_append PySem.F.type_list_append mt_append (pv 1) (pa_cons (pe_op op_mod (pe_callTy call_intA (by rfl) X.b_int bt_int (pa_cons (pe_op (addA K rfl) (pv 6) (pe_op op_fdivX (pv 5) pe_int)) pa_nil)) pe_int) pa_nil)))) (pss_one (ps_set (i := 5) sc__law_draws.nd rfl (by first | exact Or.inl rfl | exact Or.inr rfl) pe_int))))) pss_nil) (pss_one (ps_for PassesOwn.never rfl (pi_range1 (by rfl) X.b_range (pa_cons pe_int pa_nil)) (pg_name (i := 4) sc__law_draws.nd rfl (by first | exact Or.inl rfl | exact Or.inr rfl)) (pss_one (ps_if (pt_cmpR op_gt (pv 5) pe_int (nomark _)) (pss_cons (ps_expr (toK (f := fun K => tBM K "list" _ _ _) K rfl (pe_bm PySem.F.plainAttrs_list PySem.F.slot_list_append PySem.F.type_list_append mt_append (pv 1) (pa_cons (pe_op op_mod (pe_callTy call_intA (by rfl) X.b_int bt_int (pa_cons (pv 5) pa_nil)) pe_int) pa_nil)))) (pss_one (ps_set (i := 5) sc__law_draws.nd rfl (by first | exact Or.inl rfl | exact Or.inr rfl) (pe_op op_fdivX (pv 5) pe_int)))) pss_nil))))))) (pss_cons (ps_set (i := 3) sc__law_draws.nd rfl (by first | exact Or.inl rfl | exact Or.inr rfl) pe_int) (pss_cons (ps_if (pt_cmpR op_gt (pe_callB (lenA K rfl) (by rfl) X.b_len bt_len (pa_cons (pv 0) pa_nil)) pe_int (nomark _)) (pss_one (ps_set (i := 3) sc__law_draws.nd rfl (by first | exact Or.inl rfl | exact Or.inr rfl) (pe_op (addA K rfl) pe_int (pe_callB call_abs (by rfl) X.b_abs bt_abs (pa_cons (pe_ix (ixB K rfl hr) (pv 0) pe_int (fun _ _ => rfl)) pa_nil))))) pss_nil) (pss_cons (ps_for PassesOwn.never rfl (pi_range1 (by rfl) X.b_range (pa_cons pe_int pa_nil)) (pg_name (i := 4) sc__law_draws.nd rfl (by first | exact Or.inl rfl | exact Or.inr rfl)) (pss_cons (ps_set (i := 3) sc__law_draws.nd rfl (by first | exact Or.inl rfl | exact Or.inr rfl) (pe_op op_mod (pe_callTy call_intA (by rfl) X.b_int bt_int (pa_cons (pe_op (addA K rfl) (pe_op (mulB K rfl) (pv 3) pe_int) pe_int) pa_nil)) pe_int)) (pss_one (ps_expr (toK (f := fun K => tBM K "list" _ _ _) K rfl (pe_bm PySem.F.plainAttrs_list PySem.F.slot_list_append PySem.F.type_list_append mt_append (pv 1) (pa_cons (pe_op op_fdivX (pv 3) pe_int) pa_nil))))))) (pss_one (ps_ret (pe_listRev K rfl rfl (by rfl) X.b_list (by rfl) X.b_reversed (pv 1))))))))), fun as O Φ Ψ ⟨ns, e, hn, h⟩ => ?_⟩
  subst e
  show StW _ _ [some _, none, none, none, none, none, none] _ _
  walk_at "ss"
  refine ev_lstO ?_
  walk_at "ss"
  refine ⟨by show 0 ≤ sizeLine; exact Nat.zero_le _, fun q hq => ?_⟩
  walk_at "ss"
  refine st_for (is_scr ?_)
  walk_at "ss"
  refine ⟨fun i ps' O' => ∃ (r : List Int) (z2 z3 z4 z5 z6 : Option AV), r.length ≤ 62 * i ∧ O' = updO O q (drw r) ∧ ps' = [some (.s ns), some (.v (.ref q)), z2, z3, z4, z5, z6], ⟨[], none, none, none, none, none, Nat.zero_le _, rfl, rfl⟩, fun _ _ _ _ _ => trivial, ?_, ?_⟩
  · rintro i ps' O' hi ⟨r, z2, z3, z4, z5, z6, hr, rfl, rfl⟩
    have hi' : i < ns.length := hi
    walk_at "ss"
    refine ite_b (fun hb => ?_) (fun hb => ?_)
    · walk_at "ss"
      · exact cm_r (by decide) (by decide)
      refine ev_bm ?_
      walk_at "ss"
      refine ⟨ty_own updO_same, ?_⟩
      walk_at "ss"
      · exact cm_r (by decide) (by decide)
      refine mw_app updO_same (by omega) ?_
      walk_at "ss"
      refine ev_bm ?_
      walk_at "ss"
      refine ⟨ty_own updO_same, ?_⟩
      walk_at "ss"
      refine ow_fdivC (by decide) ?_
      walk_at "ss"
      refine mw_app updO_same (by rw [List.length_append]; show _ + 1 < _; omega) ?_
      walk_at "ss"
      rw [updO_updO, updO_updO]
      refine draws_inner (by rw [List.length_append, List.length_append]; show _ + 1 + 1 ≤ _; omega) fun r' z4 z5 h' => ⟨r', _, _, z4, z5, _, ?_, rfl, rfl⟩
      rw [List.length_append, List.length_append] at h'
      have h2 : r'.length ≤ r.length + 1 + 1 + 60 := h'
      omega
    · walk_at "ss"
      exact draws_inner (by omega) fun r' z4 z5 h' => ⟨r', _, _, z4, z5, _, by omega, rfl, rfl⟩
  · rintro ps' O' ⟨r, z2, z3, z4, z5, z6, hr, rfl, rfl⟩
    walk_at "ss"
    refine cw_lenScr ?_
    walk_at "ss"
    refine ite_b (fun hb => ?_) (fun hb => ?_)
    · have hz : 0 < ns.length := by
        simp at hb
        omega
      walk_at "ss"
      refine ow_ixBScr (i := 0) (n := ns.getD 0 0) (atI_nat (d := 0) (by rw [List.getD_eq_getElem?_getD, List.getElem?_eq_getElem hz]; rfl)) ?_
      walk_at "ss"
      exact draws_seed (r := r) hq h (by omega)
    · walk_at "ss"
      exact draws_seed (r := r) hq h (by omega)
end
end BL

set_option Elab.async false
set_option linter.all false
set_option maxRecDepth 100000
set_option maxHeartbeats 4000000
namespace BL
open PySem PySem.Spec PyProof.Rows L2 HotX L2H RZ
local macro_rules | `(tactic| walk_at "s") => `(tactic| (with_reducible first
  | refine st_seq ?_ | refine st_set ?_ | refine st_asg ?_ | refine st_ret ?_ | refine st_retN ?_ | refine st_if ?_ | refine st_next ?_ | refine st_drop ?_ | refine st_cont ?_ | refine st_brk ?_ | refine st_par ?_ | refine st_par3 ?_
  | refine ev_varF rfl ?_ | refine ev_varP rfl ?_ | refine ev_var rfl ?_ | refine ev_int ?_ | refine ev_str ?_ | refine ev_bl ?_ | refine ev_non ?_ | refine ev_raw ?_
  | refine ev_if ?_ | refine ev_andV ?_ | refine ev_orV ?_ | refine ev_notV ?_ | refine et_test ?_ | refine et_B ?_ | refine et_and ?_ | refine et_or ?_ | refine et_not ?_ | refine et_yes ?_
  | refine ev_chain ?_ | refine ev_op ?_ | refine ev_un ?_ | refine ev_cb ?_ | refine ev_sl ?_ | refine eo_none ?_ | refine eo_some ?_ | refine ea_nil ?_ | refine ea_cons ?_ | refine ev_call ?_
  | refine ow_mulBS ?_ ?_ | refine ow_addI ?_ | refine ow_addFI ?_ | refine ow_mulFS ?_ ?_ | refine ow_isB ?_ | refine ow_notB ?_ | refine ow_I0 ?_ | refine ow_B0 ?_ | refine ow_eqI ?_ | refine ow_neI ?_ | refine uw_neg ?_
  | refine ow_mod (by decide +kernel) ?_ | refine ow_powC (by decide +kernel) ?_ | refine ow_inTI ?_ | refine ow_ninTI ?_ | refine ow_isN ?_ | refine ow_notN ?_
  | refine cw_lenT ?_ | refine cw_lenL ?_ | refine cw_int ?_ | refine cw_abs ?_ | refine cw_max2 ?_ | refine cw_min2 ?_ | refine cw_tupL ?_
  | refine gj_name (by decide) ?_ | refine g_name ?_ | refine gjs_nil ?_ | refine gjs_cons ?_
  | refine isi_int (b := true) (by decide +kernel) ?_ | refine isi_int (b := false) (by decide +kernel) ?_ | refine isi_bool (b := true) (by decide +kernel) ?_ | refine isi_bool (b := false) (by decide +kernel) ?_ | refine isi_str (b := true) (by decide +kernel) ?_ | refine isi_str (b := false) (by decide +kernel) ?_ | refine isi_tup (b := true) (by decide +kernel) ?_ | refine isi_tup (b := false) (by decide +kernel) ?_ | refine isi_lst (b := true) (by decide +kernel) ?_ | refine isi_lst (b := false) (by decide +kernel) ?_ | refine isi_non (b := true) (by decide +kernel) ?_ | refine isi_non (b := false) (by decide +kernel) ?_ | refine aret_rt ?_ | refine aret_nx ?_ | rw [if_pos rfl] | rw [if_pos nf_true] | rw [if_neg nt_true] | rw [if_neg Bool.false_ne_true] | refine ⟨_, rfl, ?_⟩) <;> try dsimp only [Bool.not_true, Bool.not_false, List.set])
local macro_rules | `(tactic| walk_at "ss") => `(tactic| repeat (any_goals walk_at "s"))
local macro_rules | `(tactic| walk_at "n") => `(tactic| try dsimp only [wipeA, List.map_cons, List.map_nil, List.set, srcN])
local macro_rules | `(tactic| walk_at "sr") => `(tactic| (with_reducible first | refine ev_var rfl ?_ | walk_at "s"))
local macro_rules | `(tactic| walk_at "ssr") => `(tactic| repeat (any_goals walk_at "sr"))

section
variable {P : Program} {w : World} {K : PySem.W.Frag} {T : List Addr} {mg : Str → Option Value} {base : Heap}
/-- data of ints, texts, truth values, None, in lists and tuples k deep -/
def Flt : PyData → Prop
  | .none => True
  | .bool _ => True
  | .int _ => True
  | .str _ => True
  | _ => False
def Cl : Nat → PyData → Prop
  | 0, d => Flt d
  | k + 1, d => Flt d ∨ ∃ l : List PyData, (d = .list l ∨ d = .tuple l) ∧ l.length ≤ 100000 ∧ ∀ x ∈ l, Cl k x
theorem Cl.flt : ∀ {k : Nat} {d : PyData}, Flt d → Cl k d
  | 0, _, h => h
  | k + 1, _, h => .inl h
def Sp_alike (k : Nat) : FSp := fun as O Φ Ψ => ∃ (f : PyData), as = [.d f, .d f] ∧ Cl k f ∧ Φ (.d (.bool true)) O
theorem fn_false {CX : CXT} {k : Nat} {f : Addr} {fd : FuncData} {ps : List Str} : FnOk P w K mg base CX k f fd ps (spOf K T fun _ _ _ _ => False) :=
  ⟨fun vs H Q E ⟨_, _, _, _, _, _, _, z, _⟩ => z.elim, fun A outer s H args us vs Q E _ _ _ _ ⟨_, _, _, _, _, _, _, z, _⟩ => z.elim⟩
theorem alike_step (X : Txt K mg) (k : Nat) (G : FSp) (hG : ∀ f O Φ Ψ, (∃ j, k = j + 1 ∧ Cl j f) → Φ (.d (.bool true)) O → G [.d f, .d f] O Φ Ψ) (IH : FnOk P w K mg base CX0 k X._law_alike.f X._law_alike.fd P__law_alike (spOf K T G)) : FnOk P w K mg base CX0 (k + 1) X._law_alike.f X._law_alike.fd P__law_alike (spOf K T (Sp_alike k)) := by
  refine ok_fn X._law_alike.F sc__law_alike (fun as O Φ Ψ ⟨f, e, _⟩ => by rw [e]; rfl) fun cdv A outer s H E hr => ⟨_, (pss_cons (ps_if (pw_or (pt_val (pe_callB (isiA K rfl) (by rfl) X.b_isinstance bt_isinstance (pa_cons (pv 1) (pa_cons (pe_bltn (v := .ty "list") (by rfl) X.b_list bt_list rfl) pa_nil)))) (pw_or1 (pt_val (pe_callB (isiA K rfl) (by rfl) X.b_isinstance bt_isinstance (pa_cons (pv 1) (pa_cons (pe_bltn (v := .ty "tuple") (by rfl) X.b_tuple bt_tuple rfl) pa_nil)))))).pt (pss_cons (ps_if (pw_or (pt_cmpR (neA K rfl hr) (pe_callB (isiA K rfl) (by rfl) X.b_isinstance bt_isinstance (pa_cons (pv 0) (pa_cons (pe_bltn (v := .ty "list") (by rfl) X.b_list bt_list rfl) pa_nil))) (pe_callB (isiA K rfl) (by rfl) X.b_isinstance bt_isinstance (pa_cons (pv 1) (pa_cons (pe_bltn (v := .ty "list") (by rfl) X.b_list bt_list rfl) pa_nil))) (nomark _)) (pw_or1 (pt_cmpR (neA K rfl hr) (pe_callB (isiA K rfl) (by rfl) X.b_isinstance bt_isinstance (pa_cons (pv 0) (pa_cons (pe_bltn (v := .ty "tuple") (by rfl) X.b_tuple bt_tuple rfl) pa_nil))) (pe_callB (isiA K rfl) (by rfl) X.b_isinstance bt_isinstance (pa_cons (pv 1) (pa_cons (pe_bltn (v := .ty "tuple") (by rfl) X.b_tuple bt_tuple rfl) pa_nil))) (nomark _)))).pt (pss_one (ps_ret pe_bl)) pss_nil) (pss_one (ps_ret (pe_and (pe_cmpR (eqA K rfl hr) (pe_callB (lenA K rfl) (by rfl) X.b_len bt_len (pa_cons (pv 0) pa_nil)) (pe_callB (lenA K rfl) (by rfl) X.b_len bt_len (pa_cons (pv 1) pa_nil)) (nomark _)) (pe_one (pe_cmpR (eqA K rfl hr) (pe_lc (own := [("k", 2)]) rfl sc__law_alike.nd (pi_range1 (by rfl) X.b_range (pa_cons (pe_callB (lenA K rfl) (by rfl) X.b_len bt_len (pa_cons (pv 1) pa_nil)) pa_nil)) (blkOk_by (N := N__law_alike) (sc := defScope s__law_alike) (by decide +kernel)) (fun _ _ _ _ _ => (pg_name (i := 2) sc__law_alike.nd rfl (by first | exact Or.inl rfl | exact Or.inr rfl))) (fun _ _ _ _ _ => (pts_one (pt_not (pt_val (pe_call IH (hr.mono (by omega)) (by rfl) X._law_alike.m X._law_alike.F.kp X._law_alike.b .nil pass0 (pa_cons (pe_ix (ixB K rfl hr) (pv 0) (pv 2) (fun _ _ => rfl)) (pa_cons (pe_ix (ixB K rfl hr) (pv 1) (pv 2) (fun _ _ => rfl)) pa_nil))))))) (fun _ _ _ _ _ => (pv 2))) (pe_lst pa_nil) (nomark _))))))) pss_nil) (pss_cons (ps_if (pt_cmpR op_isN (pv 1) pe_non (nomark _)) (pss_one (ps_ret (pe_cmpR op_isN (pv 0) pe_non (nomark _)))) pss_nil) (pss_cons (ps_if (pw_or (pt_val (pe_callB (isiA K rfl) (by rfl) X.b_isinstance bt_isinstance (pa_cons (pv 1) (pa_cons (pe_bltn (v := .ty "bool") (by rfl) X.b_bool bt_bool rfl) pa_nil)))) (pw_or1 (pt_val (pe_callB (isiA K rfl) (by rfl) X.b_isinstance bt_isinstance (pa_cons (pv 0) (pa_cons (pe_bltn (v := .ty "bool") (by rfl) X.b_bool bt_bool rfl) pa_nil)))))).pt (pss_one (ps_ret (pe_and (pe_callB (isiA K rfl) (by rfl) X.b_isinstance bt_isinstance (pa_cons (pv 0) (pa_cons (pe_bltn (v := .ty "bool") (by rfl) X.b_bool bt_bool rfl) pa_nil))) (pe_and (pe_callB (isiA K rfl) (by rfl) X.b_isinstance bt_isinstance (pa_cons (pv 1) (pa_cons (pe_bltn (v := .ty "bool") (by rfl) X.b_bool bt_bool rfl) pa_nil))) (pe_one (pe_cmpR (eqA K rfl hr) (pv 0) (pv 1) (nomark _))))))) pss_nil) (pss_cons (ps_if (pt_val (pe_callB (isiA K rfl) (by rfl) X.b_isinstance bt_isinstance (pa_cons (pv 1) (pa_cons (pe_bltn (v := .ty "int") (by rfl) X.b_int bt_int rfl) pa_nil)))) (pss_one (ps_ret (pe_and (pe_callB (isiA K rfl) (by rfl) X.b_isinstance bt_isinstance (pa_cons (pv 0) (pa_cons (pe_bltn (v := .ty "int") (by rfl) X.b_int bt_int rfl) pa_nil))) (pe_one (pe_cmpR (eqA K rfl hr) (pv 0) (pv 1) (nomark _)))))) pss_nil) (pss_one (ps_ret (pe_and (pe_callB (isiA K rfl) (by rfl) X.b_isinstance bt_isinstance (pa_cons (pv 0) (pa_cons (pe_bltn (v := .ty "str") (by rfl) X.b_str bt_str rfl) pa_nil))) (pe_one (pe_cmpR (eqA K rfl hr) (pv 0) (pv 1) (nomark _)))))))))), fun as O Φ Ψ ⟨f, e, hf, h⟩ => ?_⟩
  subst e
  show StW _ _ [some _, some _, none] _ _
  have key : Flt f ∨ ∃ (j : Nat) (l : List PyData), k = j + 1 ∧ (f = .list l ∨ f = .tuple l) ∧ l.length ≤ 100000 ∧ ∀ x ∈ l, Cl j x := by
    cases k with
    | zero => exact .inl hf
    | succ j =>
      rcases hf with hf | ⟨l, h1, h2, h3⟩
      · exact .inl hf
      · exact .inr ⟨j, l, rfl, h1, h2, h3⟩
  have comp : ∀ (l : List PyData) (j : Nat) (d : PyData) (Ψ2 : Af), k = j + 1 → l.length ≤ 100000 → (∀ x ∈ l, Cl j x) → (∀ i : Nat, ∀ x, l[i]? = some x → ∀ (Φ3 : Af) O3, Φ3 (.d x) O3 → opW (cb0 K T) (rIxB K) (.d d) (.d (.int (i : Int))) O3 Φ3) → Ψ2 (.d (.list [])) O → (∀ (Φ3 : Af), Φ3 (.d (.int (l.length : Int))) O → calW (cb0 K T) (rLenA K) [.d d] O Φ3) →
      EvW (cb0 K T) (tLc (iRng1 (tCons (tCB (rLenA K) (tCons (tVar 1) tNil)) tNil)) (gName 2) (tNot (tB (tCall (spOf K T G) [] E0 (tCons (tOp (rIxB K) (tVar 0) (tVar 2)) (tCons (tOp (rIxB K) (tVar 1) (tVar 2)) tNil))))) (tVar 2) [2]) [some (.d d), some (.d d), none] O Ψ2 := by
    intro l j d Ψ2 hk hl hx hix hΨ hlen
    refine ev_lc (is_rngN ?_)
    walk_at "ss"
    refine hlen _ ?_
    walk_at "ss"
    refine ⟨by omega, fun i acc O' => O' = O ∧ acc = [], ⟨rfl, rfl⟩, fun _ _ _ _ _ _ _ => trivial, ?_, ?_⟩
    · rintro q i acc O' hi ⟨rfl, rfl⟩ hq
      have hi' : i < l.length := hi
      have hg : l[i]? = some l[i] := List.getElem?_eq_getElem hi'
      refine ⟨by show 0 < sizeLine; decide, ?_⟩
      walk_at "n"
      walk_at "ss"
      refine hix i _ hg _ _ ?_
      walk_at "ss"
      refine hix i _ hg _ _ ?_
      walk_at "ss"
      refine hG _ _ _ _ ⟨j, hk, hx _ (List.getElem_mem hi')⟩ ?_
      walk_at "ss"
      exact ⟨hq, rfl, rfl⟩
    · rintro q acc O' ⟨rfl, rfl⟩ hq
      exact .inr ⟨[], rfl, hΨ⟩
  rcases key with hf | ⟨j, l, hk, rfl | rfl, hl, hx⟩
  · cases f with
    | none =>
      walk_at "ss"
      refine ite_yes (by rfl) ?_
      walk_at "ss"
      exact h
    | bool b =>
      walk_at "ss"
      refine ite_no (by rfl) ?_
      walk_at "ss"
      refine ow_eqB ?_
      walk_at "ss"
      rw [beq_self_eq_true]
      exact h
    | int b =>
      walk_at "ss"
      refine ite_no (by rfl) ?_
      walk_at "ss"
      rw [decide_eq_true rfl]
      exact h
    | str b =>
      walk_at "ss"
      refine ite_no (by rfl) ?_
      walk_at "ss"
      refine ow_eqS ?_
      walk_at "ss"
      rw [decide_eq_true rfl]
      exact h
    | list l => exact hf.elim
    | tuple l => exact hf.elim
    | dict l => exact hf.elim
  · walk_at "ss"
    refine ow_neB ?_
    walk_at "ss"
    refine ite_no (by rfl) ?_
    walk_at "ss"
    refine ow_neB ?_
    walk_at "ss"
    refine ite_no (by rfl) ?_
    walk_at "ss"
    refine ite_yes (decide_eq_true rfl) ?_
    walk_at "ss"
    refine comp l j _ _ hk hl hx (fun i x hi Φ3 O3 h3 => ow_ixBL (atI_nat hi) h3) ?_ (fun Φ3 h3 => cw_lenL h3)
    refine ev_lstD (ea_nil ⟨[], .nil, by show 0 ≤ 1000; decide, ?_⟩)
    refine ow_eqD (by rfl) (by rfl) ?_
    walk_at "ss"
    exact h
  · walk_at "ss"
    refine ow_neB ?_
    walk_at "ss"
    refine ite_no (by rfl) ?_
    walk_at "ss"
    refine ow_neB ?_
    walk_at "ss"
    refine ite_no (by rfl) ?_
    walk_at "ss"
    refine ite_yes (decide_eq_true rfl) ?_
    walk_at "ss"
    refine comp l j _ _ hk hl hx (fun i x hi Φ3 O3 h3 => ow_ixBT (atI_nat hi) h3) ?_ (fun Φ3 h3 => cw_lenT h3)
    refine ev_lstD (ea_nil ⟨[], .nil, by show 0 ≤ 1000; decide, ?_⟩)
    refine ow_eqD (by rfl) (by rfl) ?_
    walk_at "ss"
    exact h
theorem ok__law_alike (X : Txt K mg) : ∀ k, FnOk P w K mg base CX0 (k + 1) X._law_alike.f X._law_alike.fd P__law_alike (spOf K T (Sp_alike k))
  | 0 => alike_step X 0 (fun _ _ _ _ => False) (fun f O Φ Ψ ⟨j, e, _⟩ _ => by omega) fn_false
  | k + 1 => alike_step X (k + 1) (Sp_alike k) (fun f O Φ Ψ ⟨j, e, hc⟩ h => ⟨f, rfl, (show j = k by omega) ▸ hc, h⟩) (ok__law_alike X k)
end
end BL

set_option Elab.async false
set_option linter.all false
set_option maxRecDepth 100000
set_option maxHeartbeats 4000000
namespace BL
open PySem PySem.Spec PyProof.Rows L2 HotX L2H RZ
local macro_rules | `(tactic| walk_at "s") => `(tactic| (with_reducible first
  | refine st_seq ?_ | refine st_set ?_ | refine st_asg ?_ | refine st_ret ?_ | refine st_retN ?_ | refine st_if ?_ | refine st_next ?_ | refine st_drop ?_ | refine st_cont ?_ | refine st_brk ?_ | refine st_par ?_ | refine st_par3 ?_
  | refine ev_varF rfl ?_ | refine ev_varP rfl ?_ | refine ev_var rfl ?_ | refine ev_int ?_ | refine ev_str ?_ | refine ev_bl ?_ | refine ev_non ?_ | refine ev_raw ?_
  | refine ev_if ?_ | refine ev_andV ?_ | refine ev_orV ?_ | refine ev_notV ?_ | refine et_test ?_ | refine et_B ?_ | refine et_and ?_ | refine et_or ?_ | refine et_not ?_ | refine et_yes ?_
  | refine ev_chain ?_ | refine ev_op ?_ | refine ev_un ?_ | refine ev_cb ?_ | refine ev_sl ?_ | refine eo_none ?_ | refine eo_some ?_ | refine ea_nil ?_ | refine ea_cons ?_ | refine ev_call ?_
  | refine ow_mulBS ?_ ?_ | refine ow_addI ?_ | refine ow_addFI ?_ | refine ow_mulFS ?_ ?_ | refine ow_isB ?_ | refine ow_notB ?_ | refine ow_I0 ?_ | refine ow_B0 ?_ | refine ow_eqI ?_ | refine ow_neI ?_ | refine uw_neg ?_
  | refine ow_mod (by decide +kernel) ?_ | refine ow_powC (by decide +kernel) ?_ | refine ow_inTI ?_ | refine ow_ninTI ?_ | refine ow_isN ?_ | refine ow_notN ?_
  | refine cw_lenT ?_ | refine cw_lenL ?_ | refine cw_int ?_ | refine cw_abs ?_ | refine cw_max2 ?_ | refine cw_min2 ?_ | refine cw_tupL ?_
  | refine gj_name (by decide) ?_ | refine g_name ?_ | refine gjs_nil ?_ | refine gjs_cons ?_
  | refine isi_int (b := true) (by decide +kernel) ?_ | refine isi_int (b := false) (by decide +kernel) ?_ | refine isi_bool (b := true) (by decide +kernel) ?_ | refine isi_bool (b := false) (by decide +kernel) ?_ | refine isi_str (b := true) (by decide +kernel) ?_ | refine isi_str (b := false) (by decide +kernel) ?_ | refine isi_tup (b := true) (by decide +kernel) ?_ | refine isi_tup (b := false) (by decide +kernel) ?_ | refine isi_lst (b := true) (by decide +kernel) ?_ | refine isi_lst (b := false) (by decide +kernel) ?_ | refine isi_non (b := true) (by decide +kernel) ?_ | refine isi_non (b := false) (by decide +kernel) ?_ | refine aret_rt ?_ | refine aret_nx ?_ | rw [if_pos rfl] | rw [if_pos nf_true] | rw [if_neg nt_true] | rw [if_neg Bool.false_ne_true] | refine ⟨_, rfl, ?_⟩) <;> try dsimp only [Bool.not_true, Bool.not_false, List.set])
local macro_rules | `(tactic| walk_at "ss") => `(tactic| repeat (any_goals walk_at "s"))
local macro_rules | `(tactic| walk_at "n") => `(tactic| try dsimp only [wipeA, List.map_cons, List.map_nil, List.set, srcN])
local macro_rules | `(tactic| walk_at "sr") => `(tactic| (with_reducible first | refine ev_var rfl ?_ | walk_at "s"))
local macro_rules | `(tactic| walk_at "ssr") => `(tactic| repeat (any_goals walk_at "sr"))

section
variable {P : Program} {w : World} {K : PySem.W.Frag} {T : List Addr} {mg : Str → Option Value} {base : Heap}
theorem word_lc {c : Cb} {O : Own} {Φ : Af} {bs : List Bool} {z : Option AV} (hl : bs.length ≤ 100) (h : Φ (.d (.list ((bs.filter id).map .bool))) O) :
    EvW c (tLc (iList c.K (tVar 1)) (gName 2) (tB (tVar 2)) (tVar 2) [2]) [z, some (.d (.list (bs.map .bool))), none] O Φ := by
  refine ev_lc (is_lst (ev_var rfl ⟨_, rfl, ?_⟩))
  refine ⟨fun i acc O' => O' = O ∧ acc = ds (((bs.take i).filter id).map .bool), ⟨rfl, rfl⟩, fun _ _ _ _ _ _ _ => trivial, ?_, ?_⟩
  · rintro q i acc O' hi ⟨rfl, rfl⟩ hq
    have hi' : i < bs.length := by
      have : i < (bs.map PyData.bool).length := hi
      rwa [List.length_map] at this
    have hz : (((bs.take i).filter id).map PyData.bool).length ≤ 100 := by
      rw [List.length_map]
      exact Nat.le_trans (List.length_filter_le _ _) (by rw [List.length_take]; omega)
    have e1 : (bs.map PyData.bool).getD i .none = .bool bs[i] := by
      rw [List.getD_eq_getElem?_getD, List.getElem?_map, List.getElem?_eq_getElem hi']; rfl
    have e2 : bs.take (i + 1) = bs.take i ++ [bs[i]] := by rw [List.take_succ, List.getElem?_eq_getElem hi']; rfl
    refine ⟨by rw [List.length_map, sizeLine_eq]; omega, ?_⟩
    show GWj _ _ (.d ((bs.map PyData.bool).getD i .none)) _ _ _ _
    rw [e1]
    walk_at "n"
    walk_at "ss"
    rw [e2, List.filter_append]
    refine ite_b (fun hb => ?_) (fun hb => ?_)
    · walk_at "ss"
      rw [hb]
      exact ⟨hq, rfl, by rw [ds_snoc, List.map_append]; rfl⟩
    · rw [hb]
      exact ⟨O', rfl, hq, rfl, by simp⟩
  · rintro q acc O' ⟨rfl, rfl⟩ hq
    refine .inr ⟨_, rfl, ?_⟩
    rw [List.take_of_length_le (show bs.length ≤ (bs.map PyData.bool).length by rw [List.length_map]; exact Nat.le_refl _)]
    exact h
def Sp_word (X : Txt K mg) (D e : Addr) : FSp := fun as O Φ Ψ => as = [.v (.ref e)] ∧ ((D = X.OutOfRange.x ∧ Φ (.d (.str "range")) O) ∨ (D = X.Refused.x ∧ Φ (.d (.str "refused")) O))
theorem ok__law_word (X : Txt K mg) : FnE P w K mg base (0 + 1) X._law_word.f X._law_word.fd P__law_word (fun D e => spOf K T (Sp_word X D e)) := by
  refine ok_fnE X._law_word.F sc__law_word (fun D e as O Φ Ψ ⟨ea, _⟩ => by rw [ea]; rfl) fun cdv A outer s H E p D hot hr as O Φ Ψ ⟨ea, hF⟩ => ?_
  subst ea
  rcases hF with ⟨rfl, hF⟩ | ⟨rfl, hF⟩
  · have he := X.OutOfRange.e
    refine ⟨_, (pss_cons (ps_set (i := 1) sc__law_word.nd rfl (by first | exact Or.inl rfl | exact Or.inr rfl) (pe_lst (pa_cons (pe_callB (call_isP K rfl List.mem_cons_self hot.deeper he) (by rfl) X.b_isinstance bt_isinstance (pa_cons (pv 0) (pa_cons (pe_glob (v := .ref X.OutOfRange.x) (by rfl) X.OutOfRange.m rfl) pa_nil))) (pa_cons (pe_callB (call_isP K rfl List.mem_cons_self hot.deeper he) (by rfl) X.b_isinstance bt_isinstance (pa_cons (pv 0) (pa_cons (pe_glob (v := .ref X.Malformed.x) (by rfl) X.Malformed.m rfl) pa_nil))) (pa_cons (pe_callB (call_isP K rfl List.mem_cons_self hot.deeper he) (by rfl) X.b_isinstance bt_isinstance (pa_cons (pv 0) (pa_cons (pe_glob (v := .ref X.NotThere.x) (by rfl) X.NotThere.m rfl) pa_nil))) (pa_cons (pe_callB (call_isP K rfl List.mem_cons_self hot.deeper he) (by rfl) X.b_isinstance bt_isinstance (pa_cons (pv 0) (pa_cons (pe_glob (v := .ref X.Refused.x) (by rfl) X.Refused.m rfl) pa_nil))) (pa_cons (pe_callB (call_isP K rfl List.mem_cons_self hot.deeper he) (by rfl) X.b_isinstance bt_isinstance (pa_cons (pv 0) (pa_cons (pe_glob (v := .ref X.TooMuch.x) (by rfl) X.TooMuch.m rfl) pa_nil))) pa_nil))))))) (pss_cons (ps_if (pt_cmpR (neAH K rfl hr) (pe_callB (lenA K rfl) (by rfl) X.b_len bt_len (pa_cons (pe_lcH (own := [("kind", 2)]) List.mem_cons_self hot.hot sc__law_word.nd (pv 1) (blkOk_by (N := N__law_word) (sc := defScope s__law_word) (by decide +kernel)) (fun _ _ _ _ _ => (pg_name (i := 2) sc__law_word.nd rfl (by first | exact Or.inl rfl | exact Or.inr rfl))) (fun _ _ _ _ _ => (pts_one (pt_val (pv 2)))) (fun _ _ _ _ _ => (pv 2))) pa_nil)) pe_int (nomark _)) (pss_one (ps_ret pe_str)) pss_nil) (pss_one (ps_ret (pe_ix (ixA K rfl) (pe_lst (pa_cons pe_str (pa_cons pe_str (pa_cons pe_str (pa_cons pe_str (pa_cons pe_str pa_nil)))))) (toK (f := fun K => tBM K "list" _ _ _) K rfl (pe_bm PySem.F.plainAttrs_list PySem.F.slot_list_index PySem.F.type_list_index mt_index (pv 1) (pa_cons pe_bl pa_nil))) (fun _ _ => rfl)))))), ?_⟩
    show StW _ _ [some _, none, none] _ _
    walk_at "ss"
    refine ev_lstD ?_
    walk_at "ss"
    refine cw_isO X.k_OutOfRange_OutOfRange ?_
    walk_at "ss"
    refine cw_isO X.k_OutOfRange_Malformed ?_
    walk_at "ss"
    refine cw_isO X.k_OutOfRange_NotThere ?_
    walk_at "ss"
    refine cw_isO X.k_OutOfRange_Refused ?_
    walk_at "ss"
    refine cw_isO X.k_OutOfRange_TooMuch ?_
    walk_at "ss"
    refine ⟨_, .cons (.cons (.cons (.cons (.cons .nil)))), by show 5 ≤ 1000; decide, ?_⟩
    walk_at "ss"
    refine word_lc (c := cb0 K T) (bs := [true, false, false, false, false]) (by decide) ?_
    walk_at "ss"
    refine ite_no (by rfl) ?_
    walk_at "ss"
    refine ev_lstD ?_
    walk_at "ss"
    refine ⟨_, .cons (.cons (.cons (.cons (.cons .nil)))), by show 5 ≤ 1000; decide, ?_⟩
    refine ev_bm ?_
    walk_at "ss"
    refine ⟨ty_lst, ?_⟩
    walk_at "ss"
    refine mw_indexB (j := 0) (by simp) rfl (by omega) ?_
    refine ow_ixL (d := .str "range") (by rfl) ?_
    walk_at "ss"
    exact hF
  · have he := X.Refused.e
    refine ⟨_, (pss_cons (ps_set (i := 1) sc__law_word.nd rfl (by first | exact Or.inl rfl | exact Or.inr rfl) (pe_lst (pa_cons (pe_callB (call_isP K rfl List.mem_cons_self hot.deeper he) (by rfl) X.b_isinstance bt_isinstance (pa_cons (pv 0) (pa_cons (pe_glob (v := .ref X.OutOfRange.x) (by rfl) X.OutOfRange.m rfl) pa_nil))) (pa_cons (pe_callB (call_isP K rfl List.mem_cons_self hot.deeper he) (by rfl) X.b_isinstance bt_isinstance (pa_cons (pv 0) (pa_cons (pe_glob (v := .ref X.Malformed.x) (by rfl) X.Malformed.m rfl) pa_nil))) (pa_cons (pe_callB (call_isP K rfl List.mem_cons_self hot.deeper he) (by rfl) X.b_isinstance bt_isinstance (pa_cons (pv 0) (pa_cons (pe_glob (v := .ref X.NotThere.x) (by rfl) X.NotThere.m rfl) pa_nil))) (pa_cons (pe_callB (call_isP K rfl List.mem_cons_self hot.deeper he) (by rfl) X.b_isinstance bt_isinstance (pa_cons (pv 0) (pa_cons (pe_glob (v := .ref X.Refused.x) (by rfl) X.Refused.m rfl) pa_nil))) (pa_cons (pe_callB (call_isP K rfl List.mem_cons_self hot.deeper he) (by rfl) X.b_isinstance bt_isinstance (pa_cons (pv 0) (pa_cons (pe_glob (v := .ref X.TooMuch.x) (by rfl) X.TooMuch.m rfl) pa_nil))) pa_nil))))))) (pss_cons (ps_if (pt_cmpR (neAH K rfl hr) (pe_callB (lenA K rfl) (by rfl) X.b_len bt_len (pa_cons (pe_lcH (own := [("kind", 2)]) List.mem_cons_self hot.hot sc__law_word.nd (pv 1) (blkOk_by (N := N__law_word) (sc := defScope s__law_word) (by decide +kernel)) (fun _ _ _ _ _ => (pg_name (i := 2) sc__law_word.nd rfl (by first | exact Or.inl rfl | exact Or.inr rfl))) (fun _ _ _ _ _ => (pts_one (pt_val (pv 2)))) (fun _ _ _ _ _ => (pv 2))) pa_nil)) pe_int (nomark _)) (pss_one (ps_ret pe_str)) pss_nil) (pss_one (ps_ret (pe_ix (ixA K rfl) (pe_lst (pa_cons pe_str (pa_cons pe_str (pa_cons pe_str (pa_cons pe_str (pa_cons pe_str pa_nil)))))) (toK (f := fun K => tBM K "list" _ _ _) K rfl (pe_bm PySem.F.plainAttrs_list PySem.F.slot_list_index PySem.F.type_list_index mt_index (pv 1) (pa_cons pe_bl pa_nil))) (fun _ _ => rfl)))))), ?_⟩
    show StW _ _ [some _, none, none] _ _
    walk_at "ss"
    refine ev_lstD ?_
    walk_at "ss"
    refine cw_isO X.k_Refused_OutOfRange ?_
    walk_at "ss"
    refine cw_isO X.k_Refused_Malformed ?_
    walk_at "ss"
    refine cw_isO X.k_Refused_NotThere ?_
    walk_at "ss"
    refine cw_isO X.k_Refused_Refused ?_
    walk_at "ss"
    refine cw_isO X.k_Refused_TooMuch ?_
    walk_at "ss"
    refine ⟨_, .cons (.cons (.cons (.cons (.cons .nil)))), by show 5 ≤ 1000; decide, ?_⟩
    walk_at "ss"
    refine word_lc (c := cb0 K T) (bs := [false, false, false, true, false]) (by decide) ?_
    walk_at "ss"
    refine ite_no (by rfl) ?_
    walk_at "ss"
    refine ev_lstD ?_
    walk_at "ss"
    refine ⟨_, .cons (.cons (.cons (.cons (.cons .nil)))), by show 5 ≤ 1000; decide, ?_⟩
    refine ev_bm ?_
    walk_at "ss"
    refine ⟨ty_lst, ?_⟩
    walk_at "ss"
    refine mw_indexB (j := 3) (by simp) rfl (fun m hm => ?_) ?_
    · match m, hm with
      | 0, _ => simp
      | 1, _ => simp
      | 2, _ => simp
    refine ow_ixL (d := .str "refused") (by rfl) ?_
    walk_at "ss"
    exact hF
end
end BL

set_option Elab.async false
set_option linter.all false
set_option maxRecDepth 100000
set_option maxHeartbeats 4000000
namespace BL
open PySem PySem.Spec PyProof.Rows L2 HotX L2H RZ
local macro_rules | `(tactic| walk_at "s") => `(tactic| (with_reducible first
  | refine st_seq ?_ | refine st_set ?_ | refine st_asg ?_ | refine st_ret ?_ | refine st_retN ?_ | refine st_if ?_ | refine st_next ?_ | refine st_drop ?_ | refine st_cont ?_ | refine st_brk ?_ | refine st_par ?_ | refine st_par3 ?_
  | refine ev_varF rfl ?_ | refine ev_varP rfl ?_ | refine ev_var rfl ?_ | refine ev_int ?_ | refine ev_str ?_ | refine ev_bl ?_ | refine ev_non ?_ | refine ev_raw ?_
  | refine ev_if ?_ | refine ev_andV ?_ | refine ev_orV ?_ | refine ev_notV ?_ | refine et_test ?_ | refine et_B ?_ | refine et_and ?_ | refine et_or ?_ | refine et_not ?_ | refine et_yes ?_
  | refine ev_chain ?_ | refine ev_op ?_ | refine ev_un ?_ | refine ev_cb ?_ | refine ev_sl ?_ | refine eo_none ?_ | refine eo_some ?_ | refine ea_nil ?_ | refine ea_cons ?_ | refine ev_call ?_
  | refine ow_mulBS ?_ ?_ | refine ow_addI ?_ | refine ow_addFI ?_ | refine ow_mulFS ?_ ?_ | refine ow_isB ?_ | refine ow_notB ?_ | refine ow_I0 ?_ | refine ow_B0 ?_ | refine ow_eqI ?_ | refine ow_neI ?_ | refine uw_neg ?_
  | refine ow_mod (by decide +kernel) ?_ | refine ow_powC (by decide +kernel) ?_ | refine ow_inTI ?_ | refine ow_ninTI ?_ | refine ow_isN ?_ | refine ow_notN ?_
  | refine cw_lenT ?_ | refine cw_lenL ?_ | refine cw_int ?_ | refine cw_abs ?_ | refine cw_max2 ?_ | refine cw_min2 ?_ | refine cw_tupL ?_
  | refine gj_name (by decide) ?_ | refine g_name ?_ | refine gjs_nil ?_ | refine gjs_cons ?_
  | refine isi_int (b := true) (by decide +kernel) ?_ | refine isi_int (b := false) (by decide +kernel) ?_ | refine isi_bool (b := true) (by decide +kernel) ?_ | refine isi_bool (b := false) (by decide +kernel) ?_ | refine isi_str (b := true) (by decide +kernel) ?_ | refine isi_str (b := false) (by decide +kernel) ?_ | refine isi_tup (b := true) (by decide +kernel) ?_ | refine isi_tup (b := false) (by decide +kernel) ?_ | refine isi_lst (b := true) (by decide +kernel) ?_ | refine isi_lst (b := false) (by decide +kernel) ?_ | refine isi_non (b := true) (by decide +kernel) ?_ | refine isi_non (b := false) (by decide +kernel) ?_ | refine aret_rt ?_ | refine aret_nx ?_ | rw [if_pos rfl] | rw [if_pos nf_true] | rw [if_neg nt_true] | rw [if_neg Bool.false_ne_true] | refine ⟨_, rfl, ?_⟩) <;> try dsimp only [Bool.not_true, Bool.not_false, List.set])
local macro_rules | `(tactic| walk_at "ss") => `(tactic| repeat (any_goals walk_at "s"))
local macro_rules | `(tactic| walk_at "n") => `(tactic| try dsimp only [wipeA, List.map_cons, List.map_nil, List.set, srcN])
local macro_rules | `(tactic| walk_at "sr") => `(tactic| (with_reducible first | refine ev_var rfl ?_ | walk_at "s"))
local macro_rules | `(tactic| walk_at "ssr") => `(tactic| repeat (any_goals walk_at "sr"))

section
variable {P : Program} {w : World} {K : PySem.W.Frag} {T : List Addr} {mg : Str → Option Value} {base : Heap}
open Bar
theorem ok_at {l : List Int} (h : Ok l) {i : Nat} (hi : i < l.length) : l[i] = 0 ∨ l[i] = 1 := h _ (List.getElem_mem hi)
theorem getD_at {l : List Int} {i : Nat} (hi : i < l.length) : l.getD i 0 = l[i] := by rw [List.getD_eq_getElem?_getD, List.getElem?_eq_getElem hi]; rfl
theorem drop_revI {l : List Int} {i : Nat} (h : i < l.length) : l.drop (l.length - (i + 1)) = l[l.length - 1 - i]'(by omega) :: l.drop (l.length - i) := by
  rw [show l.length - (i + 1) = l.length - 1 - i by omega, List.drop_eq_getElem_cons (by omega), show l.length - 1 - i + 1 = l.length - i by omega]
theorem ok__law_place (X : Txt K mg) : FnOk P w K mg base CX0 (0 + 1) X._law_place.f X._law_place.fd P__law_place (spOf K T Sp_place) := by
  refine ok_fn X._law_place.F sc__law_place (fun as O Φ Ψ ⟨l, e, _⟩ => by rw [e]; rfl) fun cdv A outer s H E hr => ⟨_, (pss_cons (ps_asg (pe_tup (pa_cons pe_int (pa_cons pe_int pa_nil))) (tupA (n := 2) K rfl rfl (pgs_cons (pg_name (i := 2) sc__law_place.nd rfl (by first | exact Or.inl rfl | exact Or.inr rfl)) (pgs_cons (pg_name (i := 3) sc__law_place.nd rfl (by first | exact Or.inl rfl | exact Or.inr rfl)) pgs_nil)))) (pss_cons (ps_for PassesOwn.never rfl (pi_range1 (by rfl) X.b_range (pa_cons (pe_callB (lenA K rfl) (by rfl) X.b_len bt_len (pa_cons (pv 0) pa_nil)) pa_nil)) (pg_name (i := 1) sc__law_place.nd rfl (by first | exact Or.inl rfl | exact Or.inr rfl)) (pss_cons (ps_set (i := 4) sc__law_place.nd rfl (by first | exact Or.inl rfl | exact Or.inr rfl) (pe_op op_sub (pe_op op_sub (pe_callB (lenA K rfl) (by rfl) X.b_len bt_len (pa_cons (pv 0) pa_nil)) pe_int) (pv 1))) (pss_cons (ps_set (i := 3) sc__law_place.nd rfl (by first | exact Or.inl rfl | exact Or.inr rfl) (pe_ifExp (pt_cmpR (eqA K rfl hr) (pv 3) pe_int (nomark _)) (pe_ix (ixB K rfl hr) (pv 0) (pv 4) (fun _ _ => rfl)) (pe_op op_sub pe_int (pe_ix (ixB K rfl hr) (pv 0) (pv 4) (fun _ _ => rfl))))) (pss_one (ps_set (i := 2) sc__law_place.nd rfl (by first | exact Or.inl rfl | exact Or.inr rfl) (pe_op (addA K rfl) (pe_op (mulB K rfl) pe_int (pv 2)) (pv 3))))))) (pss_one (ps_ret (pv 2))))), fun as O Φ Ψ ⟨l, e, hok, hl, h⟩ => ?_⟩
  subst e
  show StW _ _ [some _, none, none, none, none] _ _
  walk_at "ss"
  refine ev_tupD ?_
  walk_at "ss"
  refine ⟨_, .cons (.cons .nil), by decide, ?_⟩
  refine gw_pair (js := [2, 3]) ?_
  walk_at "ss"
  refine st_for (is_rngN ?_)
  walk_at "ss"
  rw [List.length_map]
  refine ⟨by omega, fun i ps' O' => O' = O ∧ ∃ z1 z4, ps' = [some (.d (tw l)), z1, some (.d (.int (place (l.drop (l.length - i))))), some (.d (.int (place (l.drop (l.length - i)) % 2))), z4], ⟨rfl, none, none, by rw [Nat.sub_zero, List.drop_length]; rfl⟩, fun _ _ _ _ _ => trivial, ?_, ?_⟩
  · rintro i ps' O' hi ⟨rfl, z1, z4, rfl⟩
    have hi' : i < l.length := hi
    have e2 := drop_revI hi'
    have hb := place_bd (ok_drop hok (l.length - i))
    have hp := pow60 (n := (l.drop (l.length - i)).length) (by rw [List.length_drop]; omega)
    have hbit := ok_at hok (i := l.length - 1 - i) (by omega)
    have e3 : place (l.drop (l.length - (i + 1))) = 2 * place (l.drop (l.length - i)) + (if place (l.drop (l.length - i)) % 2 = 0 then (l[l.length - 1 - i]'(by omega)) else 1 - (l[l.length - 1 - i]'(by omega))) := by rw [e2]; rfl
    have eix : (l.length : Int) - 1 - (i : Int) = ((l.length - 1 - i : Nat) : Int) := by omega
    walk_at "ss"
    rw [List.length_map, eix]
    refine ite_dec (fun h3 => ?_) (fun h3 => ?_)
    · rw [if_pos h3] at e3
      walk_at "ss"
      refine ow_ixTI (by omega) ?_
      rw [getD_at (by omega)]
      walk_at "ss"
      · exact cm_l (by decide) (by decide)
      refine ⟨rfl, some (.d (.int (i : Int))), some (.d (.int ((l.length - 1 - i : Nat) : Int))), ?_⟩
      have e4 : place (l.drop (l.length - (i + 1))) % 2 = l[l.length - 1 - i]'(by omega) := by omega
      rw [e4, e3]
    · rw [if_neg h3] at e3
      walk_at "ss"
      refine ow_ixTI (by omega) ?_
      rw [getD_at (by omega)]
      walk_at "ss"
      · exact cm_l (by decide) (by decide)
      refine ⟨rfl, some (.d (.int (i : Int))), some (.d (.int ((l.length - 1 - i : Nat) : Int))), ?_⟩
      have e4 : place (l.drop (l.length - (i + 1))) % 2 = 1 - l[l.length - 1 - i]'(by omega) := by omega
      rw [e4, e3]
  · rintro ps' O' ⟨rfl, z1, z4, rfl⟩
    walk_at "ss"
    show Φ (.d (.int (place (l.drop (l.length - l.length))))) _
    rw [Nat.sub_self, List.drop_zero]
    exact h
def Sp_behind : FSp := fun as O Φ Ψ => ∃ (l : List Int) (k : Nat), as = [.d (tw l), .d (.int (k : Int))] ∧ k < l.length ∧ l.length ≤ 100 ∧ Φ (.f (twl (beh l k))) O
theorem ok__law_behind (X : Txt K mg) : FnOk P w K mg base CX0 (0 + 1) X._law_behind.f X._law_behind.fd P__law_behind (spOf K T Sp_behind) := by
  refine ok_fn X._law_behind.F sc__law_behind (fun as O Φ Ψ ⟨l, k, e, _⟩ => by rw [e]; rfl) fun cdv A outer s H E hr => ⟨_, (pss_one (ps_ret (pe_op (addF K rfl) (pe_op (addF K rfl) (pe_slice (slB K rfl) (pv 0) po_none (po_some (pv 1))) (pe_tupB (pa_cons (pe_op op_sub pe_int (pe_ix (ixB K rfl hr) (pv 0) (pv 1) (fun _ _ => rfl))) pa_nil))) (pe_slice (slB K rfl) (pv 0) (po_some (pe_op (addF K rfl) (pv 1) pe_int)) po_none)))), fun as O Φ Ψ ⟨l, k, e, hlt, hm, h⟩ => ?_⟩
  subst e
  show StW _ _ [some _, some _] _ _
  walk_at "ss"
  refine sw_takeT hlt ?_
  walk_at "ss"
  refine ev_tupB .f ?_
  walk_at "ss"
  refine ow_ixTI hlt ?_
  walk_at "ss"
  refine ⟨_, .cons .nil, by show 1 ≤ 1000; decide, ?_⟩
  refine ow_addF1 (by rw [List.length_map, List.length_take, sizeLine_eq]; show _ + 1 ≤ _; omega) (by simp) ?_
  walk_at "ss"
  have e1 : ((k : Int) + 1) = ((k + 1 : Nat) : Int) := by omega
  rw [e1]
  refine sw_dropT (by omega) (by omega) ?_
  refine ow_addF2 (by rw [List.length_append, List.length_map, List.length_map, List.length_take, List.length_drop, sizeLine_eq]; show _ + 1 + _ ≤ _; omega) (by simp) ?_
  have e2 : twl (l.take k) ++ [PyData.int (1 - l.getD k 0)] ++ twl (l.drop (k + 1)) = twl (beh l k) := by rw [← beh_eq hlt, twl, twl, twl, List.map_append, List.map_append]; rfl
  rw [e2]
  walk_at "ss"
  exact h
theorem half_pow (p : Int) (i : Nat) : (p / 2 ^ i).fdiv 2 = p / 2 ^ (i + 1) := by
  rw [Int.fdiv_eq_ediv_of_nonneg _ (by decide), Int.pow_succ, Int.ediv_ediv_of_nonneg (Int.le_of_lt (Int.pow_pos (by decide)))]
theorem pdiv_bd {p : Int} {n : Nat} (h0 : 0 ≤ p) (h1 : p < 2 ^ n) (i : Nat) : 0 ≤ p / 2 ^ i ∧ p / 2 ^ i < 2 ^ n := by
  have h2 : (0 : Int) < 2 ^ i := Int.pow_pos (by decide)
  exact ⟨Int.ediv_nonneg h0 (by omega), Int.lt_of_le_of_lt (Int.ediv_le_self _ h0) h1⟩
theorem barOf_at {n : Nat} {p : Int} (h0 : 0 ≤ p) (h1 : p < 2 ^ n) {k : Nat} (hk : k < n) : gbit (p / 2 ^ k) = if k + 1 = n ∨ p / 2 ^ (k + 1) % 2 = 0 then p / 2 ^ k % 2 else 1 - p / 2 ^ k % 2 := by
  unfold gbit
  have e : p / 2 ^ k / 2 = p / 2 ^ (k + 1) := by rw [Int.pow_succ, Int.ediv_ediv_of_nonneg (Int.le_of_lt (Int.pow_pos (by decide)))]
  rw [e]
  by_cases hn : k + 1 = n
  · have : p / 2 ^ (k + 1) = 0 := Int.ediv_eq_zero_of_lt h0 (by rw [hn]; exact h1)
    rw [this, if_pos (by decide), if_pos (.inl hn)]
  · by_cases h2 : p / 2 ^ (k + 1) % 2 = 0
    · rw [if_pos h2, if_pos (.inr h2)]
    · rw [if_neg h2, if_neg (fun z => z.elim hn h2)]
def digs (p : Int) (n : Nat) : List Int := (List.range n).map fun k => p / 2 ^ k % 2
theorem digs_len (p : Int) (n : Nat) : (digs p n).length = n := by unfold digs; rw [List.length_map, List.length_range]
theorem digs_succ (p : Int) (n : Nat) : digs p (n + 1) = digs p n ++ [p / 2 ^ n % 2] := by unfold digs; rw [List.range_succ, List.map_append, List.map_singleton]
theorem digs_at (p : Int) {n k : Nat} (h : k < n) : (twl (digs p n))[k]? = some (.int (p / 2 ^ k % 2)) := by
  rw [List.getElem?_map]
  unfold digs
  rw [List.getElem?_map, List.getElem?_range h]; rfl
def Sp_bar_of : FSp := fun as O Φ Ψ => ∃ (n : Nat) (p : Int), as = [.d (.int (n : Int)), .d (.int p)] ∧ n ≤ 60 ∧ 0 ≤ p ∧ p < 2 ^ n ∧ Φ (.d (tw (barOf n p))) O
theorem ok__law_bar_of (X : Txt K mg) : FnOk P w K mg base CX0 (0 + 1) X._law_bar_of.f X._law_bar_of.fd P__law_bar_of (spOf K T Sp_bar_of) := by
  refine ok_fn X._law_bar_of.F sc__law_bar_of (fun as O Φ Ψ ⟨n, p, e, _⟩ => by rw [e]; rfl) fun cdv A outer s H E hr => ⟨_, (pss_cons (ps_set (i := 2) sc__law_bar_of.nd rfl (by first | exact Or.inl rfl | exact Or.inr rfl) (pe_lst pa_nil)) (pss_cons (ps_for PassesOwn.never rfl (pi_range1 (by rfl) X.b_range (pa_cons (pv 0) pa_nil)) (pg_name (i := 3) sc__law_bar_of.nd rfl (by first | exact Or.inl rfl | exact Or.inr rfl)) (pss_cons (ps_expr (toK (f := fun K => tBM K "list" _ _ _) K rfl (pe_bm PySem.F.plainAttrs_list PySem.F.slot_list_append PySem.F.type_list_append mt_append (pv 2) (pa_cons (pe_op op_mod (pv 1) pe_int) pa_nil)))) (pss_one (ps_set (i := 1) sc__law_bar_of.nd rfl (by first | exact Or.inl rfl | exact Or.inr rfl) (pe_op op_fdivX (pv 1) pe_int))))) (pss_one (ps_ret (pe_callTy (tupB K rfl) (by rfl) X.b_tuple bt_tuple (pa_cons (pe_lc (own := [("k", 3)]) rfl sc__law_bar_of.nd (pi_range1 (by rfl) X.b_range (pa_cons (pv 0) pa_nil)) (blkOk_by (N := N__law_bar_of) (sc := defScope s__law_bar_of) (by decide +kernel)) (fun _ _ _ _ _ => (pg_name (i := 3) sc__law_bar_of.nd rfl (by first | exact Or.inl rfl | exact Or.inr rfl))) (fun _ _ _ _ _ => pts_nil) (fun _ _ _ _ _ => (pe_ifExp (pw_or (pt_cmpR (eqA K rfl hr) (pv 3) (pe_op op_sub (pv 0) pe_int) (nomark _)) (pw_or1 (pt_cmpR (eqA K rfl hr) (pe_ix (ixB K rfl hr) (pv 2) (pe_op (addA K rfl) (pv 3) pe_int) (fun _ _ => rfl)) pe_int (nomark _)))).pt (pe_ix (ixB K rfl hr) (pv 2) (pv 3) (fun _ _ => rfl)) (pe_op op_sub pe_int (pe_ix (ixB K rfl hr) (pv 2) (pv 3) (fun _ _ => rfl)))))) pa_nil)))))), fun as O Φ Ψ ⟨n, p, e, hn, h0, h1, h⟩ => ?_⟩
  subst e
  show StW _ _ [some _, some _, none, none] _ _
  walk_at "ss"
  refine ev_lstO ?_
  walk_at "ss"
  refine ⟨by show 0 ≤ sizeLine; exact Nat.zero_le _, fun q hq => ?_⟩
  walk_at "ss"
  refine st_for (is_rngN ?_)
  walk_at "ss"
  refine ⟨by omega, fun i ps' O' => ∃ z3, O' = updO O q (.lst (ds (twl (digs p i)))) ∧ ps' = [some (.d (.int (n : Int))), some (.d (.int (p / 2 ^ i))), some (.v (.ref q)), z3], ⟨none, rfl, by rw [Int.pow_zero, Int.ediv_one]⟩, fun _ _ _ _ _ => trivial, ?_, ?_⟩
  · rintro i ps' O' hi ⟨z3, rfl, rfl⟩
    have hi' : i < n := hi
    walk_at "ss"
    refine ev_bm ?_
    walk_at "ss"
    refine ⟨ty_own updO_same, ?_⟩
    walk_at "ss"
    refine mw_appI updO_same (by rw [digs_len]; omega) ?_
    walk_at "ss"
    refine ow_fdivC (by decide) ?_
    rw [half_pow, updO_updO, ← digs_succ]
    walk_at "ss"
    exact ⟨_, rfl, rfl⟩
  · rintro ps' O' ⟨z3, rfl, rfl⟩
    refine st_freeze updO_same ?_
    show StW _ _ [some (AV.d (.int (n : Int))), some (AV.d (.int _)), some (frzA q _ (AV.v (V.ref q))), _] _ _
    rw [delO_updO hq, show frzA q (.list (twl (digs p (srcN n).n))) (AV.v (V.ref q)) = .d (.list (twl (digs p (srcN n).n))) from if_pos rfl]
    walk_at "ss"
    refine ev_lc (is_rngN ?_)
    walk_at "ss"
    refine ⟨by omega, fun i acc O' => O' = O ∧ acc = ds (twl ((List.range i).map fun r => gbit (p / 2 ^ r))), ⟨rfl, rfl⟩, fun _ _ _ _ _ _ _ => trivial, ?_, ?_⟩
    · rintro q i acc O' hi ⟨rfl, rfl⟩ hq
      have hi' : i < n := hi
      refine ⟨by rw [List.length_map, List.length_map, List.length_map, List.length_range, sizeLine_eq]; omega, ?_⟩
      have hb := barOf_at h0 h1 hi'
      have et : ∀ (a : List Int) (b : Int), twl (a ++ [b]) = twl a ++ [.int b] := fun a b => by simp
      have hrs : ds (twl ((List.range (i + 1)).map fun r => gbit (p / 2 ^ r))) = ds (twl ((List.range i).map fun r => gbit (p / 2 ^ r))) ++ [.d (.int (gbit (p / 2 ^ i)))] := by
        rw [List.range_succ, List.map_append, List.map_singleton, et, ← ds_snoc]
      have fin : ∀ v : Int, v = gbit (p / 2 ^ i) → ds (twl ((List.range i).map fun r => gbit (p / 2 ^ r))) ++ [AV.d (.int v)] = ds (twl ((List.range (i + 1)).map fun r => gbit (p / 2 ^ r))) := fun v e => by rw [hrs, e]
      walk_at "n"
      walk_at "ss"
      refine ite_dec (fun h2 => ?_) (fun h2 => ?_)
      · rw [if_pos (.inl (by omega))] at hb
        walk_at "ss"
        refine ow_ixBL (atI_nat (digs_at p hi')) ?_
        exact ⟨O', rfl, hq, rfl, fin _ hb.symm⟩
      · walk_at "ss"
        have e1 : ((i : Int) + 1) = ((i + 1 : Nat) : Int) := by omega
        rw [e1]
        refine ow_ixBL (atI_nat (digs_at p (by omega))) ?_
        walk_at "ss"
        refine ite_dec (fun h3 => ?_) (fun h3 => ?_)
        · rw [if_pos (.inr h3)] at hb
          walk_at "ss"
          refine ow_ixBL (atI_nat (digs_at p hi')) ?_
          exact ⟨O', rfl, hq, rfl, fin _ hb.symm⟩
        · rw [if_neg (fun z => z.elim (by omega) h3)] at hb
          walk_at "ss"
          refine ow_ixBL (atI_nat (digs_at p hi')) ?_
          walk_at "ss"
          exact ⟨hq, rfl, fin _ hb.symm⟩
    · rintro q acc O' ⟨rfl, rfl⟩ hq
      refine .inr ⟨_, rfl, ?_⟩
      walk_at "ss"
      have e3 : (List.range (srcN n).n).map (fun r => gbit (p / 2 ^ r)) = barOf n p := (barOf_range n p).symm
      rw [e3]
      exact h
end
end BL

set_option Elab.async false
set_option linter.all false
set_option maxRecDepth 100000
set_option maxHeartbeats 4000000
namespace BL
open PySem PySem.Spec PyProof.Rows L2 HotX L2H RZ
local macro_rules | `(tactic| walk_at "s") => `(tactic| (with_reducible first
  | refine st_seq ?_ | refine st_set ?_ | refine st_asg ?_ | refine st_ret ?_ | refine st_retN ?_ | refine st_if ?_ | refine st_next ?_ | refine st_drop ?_ | refine st_cont ?_ | refine st_brk ?_ | refine st_par ?_ | refine st_par3 ?_
  | refine ev_varF rfl ?_ | refine ev_varP rfl ?_ | refine ev_var rfl ?_ | refine ev_int ?_ | refine ev_str ?_ | refine ev_bl ?_ | refine ev_non ?_ | refine ev_raw ?_
  | refine ev_if ?_ | refine ev_andV ?_ | refine ev_orV ?_ | refine ev_notV ?_ | refine et_test ?_ | refine et_B ?_ | refine et_and ?_ | refine et_or ?_ | refine et_not ?_ | refine et_yes ?_
  | refine ev_chain ?_ | refine ev_op ?_ | refine ev_un ?_ | refine ev_cb ?_ | refine ev_sl ?_ | refine eo_none ?_ | refine eo_some ?_ | refine ea_nil ?_ | refine ea_cons ?_ | refine ev_call ?_
  | refine ow_mulBS ?_ ?_ | refine ow_addI ?_ | refine ow_addFI ?_ | refine ow_mulFS ?_ ?_ | refine ow_isB ?_ | refine ow_notB ?_ | refine ow_I0 ?_ | refine ow_B0 ?_ | refine ow_eqI ?_ | refine ow_neI ?_ | refine uw_neg ?_
  | refine ow_mod (by decide +kernel) ?_ | refine ow_powC (by decide +kernel) ?_ | refine ow_inTI ?_ | refine ow_ninTI ?_ | refine ow_isN ?_ | refine ow_notN ?_
  | refine cw_lenT ?_ | refine cw_lenL ?_ | refine cw_int ?_ | refine cw_abs ?_ | refine cw_max2 ?_ | refine cw_min2 ?_ | refine cw_tupL ?_
  | refine gj_name (by decide) ?_ | refine g_name ?_ | refine gjs_nil ?_ | refine gjs_cons ?_
  | refine isi_int (b := true) (by decide +kernel) ?_ | refine isi_int (b := false) (by decide +kernel) ?_ | refine isi_bool (b := true) (by decide +kernel) ?_ | refine isi_bool (b := false) (by decide +kernel) ?_ | refine isi_str (b := true) (by decide +kernel) ?_ | refine isi_str (b := false) (by decide +kernel) ?_ | refine isi_tup (b := true) (by decide +kernel) ?_ | refine isi_tup (b := false) (by decide +kernel) ?_ | refine isi_lst (b := true) (by decide +kernel) ?_ | refine isi_lst (b := false) (by decide +kernel) ?_ | refine isi_non (b := true) (by decide +kernel) ?_ | refine isi_non (b := false) (by decide +kernel) ?_ | refine aret_rt ?_ | refine aret_nx ?_ | rw [if_pos rfl] | rw [if_pos nf_true] | rw [if_neg nt_true] | rw [if_neg Bool.false_ne_true] | refine ⟨_, rfl, ?_⟩) <;> try dsimp only [Bool.not_true, Bool.not_false, List.set])
local macro_rules | `(tactic| walk_at "ss") => `(tactic| repeat (any_goals walk_at "s"))
local macro_rules | `(tactic| walk_at "n") => `(tactic| try dsimp only [wipeA, List.map_cons, List.map_nil, List.set, srcN])
local macro_rules | `(tactic| walk_at "sr") => `(tactic| (with_reducible first | refine ev_var rfl ?_ | walk_at "s"))
local macro_rules | `(tactic| walk_at "ssr") => `(tactic| repeat (any_goals walk_at "sr"))

section
variable {P : Program} {w : World} {K : PySem.W.Frag} {T : List Addr} {mg : Str → Option Value} {base : Heap}
open Bar
theorem shaped_lw (t : List Int) : SeqAt.shaped (lw t) = true := shaped_tw t
theorem ow_eqLw {c : Cb} {O : Own} {Φ : Af} {s t : List Int} (k : Φ (.d (.bool (decide (s = t)))) O) : opW c (rEqA c.K) (.d (lw s)) (.d (lw t)) O Φ := ow_eqD (shaped_lw s) (shaped_lw t) (by rw [show PyData.eqv (lw s) (lw t) = PyData.eqv (tw s) (tw t) from rfl, eqv_tw]; exact k)
theorem no_ones {l : List Int} {i : Nat} (hi : i ≤ l.length) : (l.take i).filter (fun x => decide (x = 1)) = [] ↔ i ≤ fst l := by
  induction l generalizing i with
  | nil => rw [List.length_nil] at hi; simp; omega
  | cons b bs ih =>
    cases i with
    | zero => simp
    | succ i =>
      rw [List.take_succ_cons]
      by_cases h : b = 1
      · rw [List.filter_cons, if_pos (decide_eq_true h)]
        unfold fst
        rw [if_pos h]
        simp
      · rw [List.filter_cons, if_neg (by rw [decide_eq_false h]; exact Bool.false_ne_true), ih (by rw [List.length_cons] at hi; omega)]
        rw [show fst (b :: bs) = fst bs + 1 from by rw [fst]; exact if_neg h]
        omega
theorem fst_at {l : List Int} {i : Nat} (h : i ≤ fst l) (hi : i < l.length) : fst l = i ↔ l[i] = 1 := by
  constructor
  · intro e
    have hm : (1 : Int) ∈ l := by
      by_cases hm : (1 : Int) ∈ l
      · exact hm
      · have := fst_out hm
        omega
    have := fst_in hm
    subst e
    rw [List.getElem?_eq_getElem hi] at this
    exact Option.some.inj this
  · intro e
    by_cases h2 : i < fst l
    · have := fst_no i h2
      rw [List.getElem?_eq_getElem hi, e] at this
      exact absurd rfl this
    · omega
def maySoFar (l : List Int) (i : Nat) : List Int := if fst l < i then [0, (fst l : Int) + 1] else [0]
theorem may_end (l : List Int) : maySoFar l (l.length - 1) = mayI l := by
  unfold maySoFar
  by_cases h : fst l + 1 < l.length
  · rw [mayI_two h, if_pos (by omega)]
  · rw [mayI_one h, if_neg (by omega)]
def Sp_lmay : FSp := fun as O Φ Ψ => ∃ (l : List Int), as = [.d (tw l)] ∧ l.length ≤ 100 ∧ Φ (.d (lw (mayI l))) O
theorem ok__law_may (X : Txt K mg) : FnOk P w K mg base CX0 (0 + 1) X._law_may.f X._law_may.fd P__law_may (spOf K T Sp_lmay) := by
  refine ok_fn X._law_may.F sc__law_may (fun as O Φ Ψ ⟨l, e, _⟩ => by rw [e]; rfl) fun cdv A outer s H E hr => ⟨_, (pss_cons (ps_set (i := 1) sc__law_may.nd rfl (by first | exact Or.inl rfl | exact Or.inr rfl) (pe_lst (pa_cons pe_int pa_nil))) (pss_cons (ps_for PassesOwn.never rfl (pi_range2 (by rfl) X.b_range (pa_cons pe_int (pa_cons (pe_callB (lenA K rfl) (by rfl) X.b_len bt_len (pa_cons (pv 0) pa_nil)) pa_nil))) (pg_name (i := 2) sc__law_may.nd rfl (by first | exact Or.inl rfl | exact Or.inr rfl)) (pss_one (ps_if (pw_and (pt_cmpR (eqA K rfl hr) (pe_ix (ixB K rfl hr) (pv 0) (pe_op op_sub (pv 2) pe_int) (fun _ _ => rfl)) pe_int (nomark _)) (pw_and1 (pt_cmpR (eqA K rfl hr) (pe_lc (own := [("one", 3)]) rfl sc__law_may.nd (seqA K rfl (pe_slice (slB K rfl) (pv 0) po_none (po_some (pe_op op_sub (pv 2) pe_int)))) (blkOk_by (N := N__law_may) (sc := defScope s__law_may) (by decide +kernel)) (fun _ _ _ _ _ => (pg_name (i := 3) sc__law_may.nd rfl (by first | exact Or.inl rfl | exact Or.inr rfl))) (fun _ _ _ _ _ => (pts_one (pt_cmpR (eqA K rfl hr) (pv 3) pe_int (nomark _)))) (fun _ _ _ _ _ => (pv 3))) (pe_lst pa_nil) (nomark _)))).pt (pss_one (ps_expr (toK (f := fun K => tBM K "list" _ _ _) K rfl (pe_bm PySem.F.plainAttrs_list PySem.F.slot_list_append PySem.F.type_list_append mt_append (pv 1) (pa_cons (pv 2) pa_nil))))) pss_nil))) (pss_one (ps_ret (pv 1))))), fun as O Φ Ψ ⟨l, e, hl, h⟩ => ?_⟩
  subst e
  show StW _ _ [some _, none, none, none] _ _
  walk_at "ss"
  refine ev_lstO ?_
  walk_at "ss"
  refine ⟨by show 1 ≤ sizeLine; decide, fun q hq => ?_⟩
  walk_at "ss"
  refine st_for (is_rng2 ?_)
  walk_at "ss"
  rw [List.length_map]
  refine ⟨1, (l.length : Int), rfl, by omega, ?_⟩
  refine ⟨fun i ps' O' => ∃ z2 z3, O' = updO O q (.lst (ds (twl (maySoFar l i)))) ∧ ps' = [some (.d (tw l)), some (.v (.ref q)), z2, z3], ⟨none, none, rfl, rfl⟩, fun _ _ _ _ _ => trivial, ?_, ?_⟩
  · rintro i ps' O' hi ⟨z2, z3, rfl, rfl⟩
    have hi' : i + 1 < l.length := by
      have : i < ((l.length : Int) - 1).toNat := hi
      omega
    show GW _ _ (.d (.int (1 + (i : Int)))) _ _ _
    walk_at "ss"
    rw [show 1 + (i : Int) - 1 = (i : Int) by omega]
    refine ow_ixTI (by omega) ?_
    rw [getD_at (by omega)]
    walk_at "ss"
    refine ite_dec (fun h1 => ?_) (fun h1 => ?_)
    · refine et_test ?_
      walk_at "ss"
      refine ev_lc (is_seq ?_)
      walk_at "ss"
      rw [show 1 + (i : Int) - 1 = (i : Int) by omega]
      refine sw_takeT (by omega) ?_
      refine ⟨_, .inr rfl, ?_⟩
      refine ⟨fun j acc O' => O' = updO O q (.lst (ds (twl (maySoFar l i)))) ∧ acc = ds (twl (((l.take i).take j).filter fun x => decide (x = 1))), ⟨rfl, rfl⟩, fun _ _ _ _ _ _ _ => trivial, ?_, ?_⟩
      · rintro q2 j acc O' hj ⟨rfl, rfl⟩ hq2
        have hj1 : j < (l.take i).length := by
          have : j < (twl (l.take i)).length := hj
          rwa [List.length_map] at this
        refine ⟨by rw [List.length_map, List.length_map, sizeLine_eq]; have := List.length_filter_le (fun x : Int => decide (x = 1)) ((l.take i).take j); rw [List.length_take, List.length_take] at this; omega, ?_⟩
        show GWj _ _ (.d ((twl (l.take i)).getD j .none)) _ _ _ _
        rw [twl_getD hj1]
        have e2 : (l.take i).take (j + 1) = (l.take i).take j ++ [(l.take i)[j]] := by rw [List.take_succ, List.getElem?_eq_getElem hj1]; rfl
        walk_at "n"
        walk_at "ss"
        rw [e2, List.filter_append]
        refine ite_dec (fun hd => ?_) (fun hd => ?_)
        · walk_at "ss"
          refine ⟨hq2, rfl, ?_⟩
          have e3 : [(l.take i)[j]].filter (fun x => decide (x = 1)) = [(l.take i)[j]] := by rw [List.filter_cons, if_pos (decide_eq_true hd), List.filter_nil]
          have et : ∀ (a : List Int) (b : Int), twl (a ++ [b]) = twl a ++ [.int b] := fun a b => by simp
          rw [e3, ds_snoc, et]
        · have e3 : [(l.take i)[j]].filter (fun x => decide (x = 1)) = [] := by rw [List.filter_cons, if_neg (by rw [decide_eq_false hd]; exact Bool.false_ne_true), List.filter_nil]
          rw [e3, List.append_nil]
          exact ⟨_, rfl, hq2, rfl, rfl⟩
      · rintro q2 acc O' ⟨rfl, rfl⟩ hq2
        refine .inr ⟨_, rfl, ?_⟩
        have hall : (l.take i).take (srcD (twl (l.take i))).n = l.take i := List.take_of_length_le (by show _ ≤ (twl (l.take i)).length; rw [List.length_map]; exact Nat.le_refl _)
        rw [hall]
        refine ev_lstD ?_
        walk_at "ss"
        refine ⟨[], .nil, by show 0 ≤ 1000; decide, ?_⟩
        refine ow_eqLw (t := []) ?_
        walk_at "ss"
        refine ite_dec (fun h2 => ?_) (fun h2 => ?_)
        · rw [no_ones (by omega)] at h2
          have hf := (fst_at h2 (by omega)).mpr h1
          walk_at "ss"
          refine ev_bm ?_
          walk_at "ss"
          refine ⟨ty_own updO_same, ?_⟩
          walk_at "ss"
          refine mw_appI updO_same (by unfold maySoFar; split <;> first | (show 2 < 100000; decide) | (show 1 < 100000; decide)) ?_
          rw [updO_updO]
          have e : maySoFar l i ++ [1 + (i : Int)] = maySoFar l (i + 1) := by
            unfold maySoFar
            rw [if_neg (by omega), if_pos (by omega), hf, Int.add_comm]; rfl
          rw [e]
          exact ⟨_, _, rfl, rfl⟩
        · rw [no_ones (by omega)] at h2
          have e : maySoFar l i = maySoFar l (i + 1) := by
            unfold maySoFar
            rw [if_pos (by omega), if_pos (by omega)]
          rw [e]
          exact st_next ⟨_, _, rfl, rfl⟩
    · have e : maySoFar l i = maySoFar l (i + 1) := by
        unfold maySoFar
        by_cases h2 : fst l < i
        · rw [if_pos (by omega), if_pos (by omega)]
        · have : ¬ fst l = i := fun z => h1 ((fst_at (i := i) (by omega) (by omega)).mp z)
          rw [if_neg (by omega), if_neg (by omega)]
      rw [e]
      exact st_next ⟨_, _, rfl, rfl⟩
  · rintro ps' O' ⟨z2, z3, rfl, rfl⟩
    refine st_freeze updO_same ?_
    show StW _ _ [some (AV.d (tw l)), some (frzA q _ (AV.v (V.ref q))), _, _] _ _
    rw [delO_updO hq, show frzA q (.list (twl (maySoFar l (srcR 1 ((l.length : Int) - 1).toNat).n))) (AV.v (V.ref q)) = .d (.list (twl (maySoFar l (srcR 1 ((l.length : Int) - 1).toNat).n))) from if_pos rfl]
    walk_at "ss"
    have e : ((l.length : Int) - 1).toNat = l.length - 1 := by omega
    rw [e, may_end]
    exact h
/-- what told tells -/
inductive Told : List AV → PyData → Prop
  | turn (l : List Int) (k : Nat) (hl : l ≠ []) (hm : l.length ≤ 100) (hk : k ∈ mayL l) : Told [.d (.int 0), .f (twl l), .d (.int (k : Int))] (tw (beh l k))
  | refused (l : List Int) (r : Int) (hl : l ≠ []) (hm : l.length ≤ 100) (hk : r ∉ mayI l) : Told [.d (.int 0), .f (twl l), .d (.int r)] (.str "refused")
  | bar (n p : Int) (h : ¬ (1 ≤ n ∧ n ≤ 60 ∧ 0 ≤ p ∧ p < 2 ^ n.toNat)) : Told [.d (.int 1), .d (.int n), .d (.int p)] (.str "range")
  | word (b : List Int) (p : Int) (hb : Cw.Base b) (hl : b.length ≤ 20) (h : ¬ (0 ≤ p ∧ p < Cw.whole b)) : Told [.d (.int 2), .d (tw b), .d (.int p)] (.str "range")
def Sp_told : FSp := fun as O Φ Ψ => ∃ (r : PyData), Told as r ∧ Φ (.d r) O
abbrev tbT (K : PySem.W.Frag) (T : List Addr) (X : Txt K mg) : WX → TS := fun W => tSeq (tIfS (tTest (tOp (rEqA K) (tVar 0) (tC (V.int 0)))) (tRet (tCallS (spOf K T (Sp_turned X.Refused.x)) (WE W) (tCons (tVar 1) (tCons (tVar 2) tNil)))) tNext) (tRet (tIf (tTest (tOp (rEqA K) (tVar 0) (tC (V.int 1)))) (tCallS (spOf K T (Sp_bar_at X.OutOfRange.x)) (WE W) (tCons (tVar 1) (tCons (tVar 2) tNil))) (tCallS (spOf K T (Sp_word_at X.OutOfRange.x)) (WE W) (tCons (tVar 1) (tCons (tVar 2) tNil)))))
abbrev tsT (K : PySem.W.Frag) (T : List Addr) (X : Txt K mg) : Addr → Value → Option Addr → TS := fun a cls d Dn σ H => ∃ D, (cls = Value.ref D ∧ d = none) ∧ tRet (tCallS (spOf K T (Sp_word X D a)) (WE fun _ _ _ _ => False) (tCons (tVar 3) tNil)) Dn σ H
theorem ok__law_told (X : Txt K mg) : FnOk P w K mg base CX0 (2 + 1) X._law_told.f X._law_told.fd P__law_told (spOf K T Sp_told) := by
  refine ok_fn X._law_told.F sc__law_told (fun as O Φ Ψ ⟨r, h, _⟩ => by cases h <;> rfl) fun cdv A outer s H E hr => ⟨_, (pss_one (L2N.ps_try_as (i := 3) rfl rfl sc__law_told.nd rfl rfl ⟨rfl, by decide, .inl X.RightError.m⟩ takes0N (fun W pn xe tk hpo => (pss_cons (ps_if (pt_cmpR (eqA K rfl hr) (pv 0) pe_int (nomark _)) (pss_one (ps_ret (pe_callS (ok_turned (T := T) X) (hr.mono (by decide)) (by rfl) X.turned.m X.turned.F.kp X.turned.b (fun σ => L2N.passAt tk σ) (pa_cons (pv 1) (pa_cons (pv 2) pa_nil))))) pss_nil) (pss_one (ps_ret (pe_ifExp (pt_cmpR (eqA K rfl hr) (pv 0) pe_int (nomark _)) (pe_callS (ok_bar_at (T := T) X) (hr.mono (by decide)) (by rfl) X.bar_at.m X.bar_at.F.kp X.bar_at.b (fun σ => L2N.passAt tk σ) (pa_cons (pv 1) (pa_cons (pv 2) pa_nil))) (pe_callS (ok_word_at (T := T) X) (hr.mono (by decide)) (by rfl) X.word_at.m X.word_at.F.kp X.word_at.b (fun σ => L2N.passAt tk σ) (pa_cons (pv 1) (pa_cons (pv 2) pa_nil)))))))) (fun a oe cls d pn hz hf => pss_ex (φ := fun D => cls = .ref D ∧ d = none) (fun D h0 => (pss_one (ps_ret (pe_callEs (ok__law_word (T := T) X) (roomH_mark (hr.mono (j := 1) (by decide))) List.mem_cons_self (hotp hz hf h0.1 h0.2) (by rfl) X._law_word.m X._law_word.F.kp X._law_word.b (pa_cons (pv 3) pa_nil)))))))), fun as O Φ Ψ ⟨r, h, hΦ⟩ => ?_⟩
  have hand : ∀ (a b c : AV), (∀ q d, frzA q d a = a ∧ frzA q d b = b ∧ frzA q d c = c) → (∀ (K' : PySem.W.Frag) (T' : List Addr) (M' : Hp → Prop) (mn : ∀ B B', Ext B B' → M' B → M' B') (W : WX), K' = K → T' = T →
        Esc ⟨K', T', M', mn⟩ W (fun cls ps O2 => ps = [some a, some b, some c, none] ∧ O2 = O ∧ ((cls = .ref X.OutOfRange.x ∧ r = .str "range") ∨ (cls = .ref X.Refused.x ∧ r = .str "refused"))) →
        StW ⟨K', T', M', mn⟩ (tbT K T X W) [some a, some b, some c, none] O (aret Φ)) →
      StW (cb0 K T) (fun D σ H => tbT K T X (wAs (cb0 K T).K (.ref X.RightError.x) 3 (tsT K T X) (fun _ _ _ _ => False) D) D σ H) [some a, some b, some c, none] O (aret Φ) := by
    intro a b c _ hb
    refine st_tryAs (tb := tbT K T X) (tsu := tsT K T X) (fun cls ps O2 => ps = [some a, some b, some c, none] ∧ O2 = O ∧ ((cls = .ref X.OutOfRange.x ∧ r = .str "range") ∨ (cls = .ref X.Refused.x ∧ r = .str "refused"))) ?_ ?_
    · intro c' W hK hT he
      obtain ⟨K', T', M', mn⟩ := c'
      exact hb K' T' M' mn W hK hT he
    · rintro cls ps' O2 ⟨rfl, rfl, ⟨rfl, hr⟩ | ⟨rfl, hr⟩⟩
      · refine ⟨X.x_OutOfRange, fun e he => ?_⟩
        walk_at "n"
        refine st_ex X.OutOfRange.x ⟨rfl, rfl⟩ (st_ret (ev_callE (c := cb0 K T) ?_))
        walk_at "ss"
        exact ⟨rfl, .inl ⟨rfl, aret_rt (by rw [← hr]; exact hΦ)⟩⟩
      · refine ⟨X.x_Refused, fun e he => ?_⟩
        walk_at "n"
        refine st_ex X.Refused.x ⟨rfl, rfl⟩ (st_ret (ev_callE (c := cb0 K T) ?_))
        walk_at "ss"
        exact ⟨rfl, .inr ⟨rfl, aret_rt (by rw [← hr]; exact hΦ)⟩⟩
  cases h with
  | turn l k hl hm hk =>
    refine hand _ _ _ (fun _ _ => ⟨rfl, rfl, rfl⟩) fun K' T' M' mn W hK hT he => ?_
    subst hK hT
    walk_at "ss"
    refine ite_yes (by rfl) ?_
    walk_at "ss"
    refine ev_callS he ?_
    walk_at "ssr"
    exact ⟨l, _, rfl, hl, hm, fun k' hk' e => by have : k = k' := by omega
                                                 subst this; exact aret_rt hΦ, fun z => absurd (mem_mayI.mpr ⟨k, hk, rfl⟩) z⟩
  | refused l r hl hm hk =>
    refine hand _ _ _ (fun _ _ => ⟨rfl, rfl, rfl⟩) fun K' T' M' mn W hK hT he => ?_
    subst hK hT
    walk_at "ss"
    refine ite_yes (by rfl) ?_
    walk_at "ss"
    refine ev_callS he ?_
    walk_at "ssr"
    exact ⟨l, _, rfl, hl, hm, fun k' hk' e => absurd (mem_mayI.mpr ⟨k', hk', e⟩) hk, fun z => ⟨rfl, rfl, .inr ⟨rfl, rfl⟩⟩⟩
  | bar n p h =>
    refine hand _ _ _ (fun _ _ => ⟨rfl, rfl, rfl⟩) fun K' T' M' mn W hK hT he => ?_
    subst hK hT
    walk_at "ss"
    refine ite_no (by rfl) ?_
    walk_at "ss"
    refine ite_yes (by rfl) ?_
    refine ev_callS he ?_
    walk_at "ss"
    exact ⟨n, p, rfl, fun k e h1 h2 h3 h4 => absurd ⟨by omega, by omega, h3, by rw [e, Int.toNat_natCast]; exact h4⟩ h, fun z => ⟨rfl, rfl, .inl ⟨rfl, rfl⟩⟩⟩
  | word b p hb hl h =>
    refine hand _ _ _ (fun _ _ => ⟨rfl, rfl, rfl⟩) fun K' T' M' mn W hK hT he => ?_
    subst hK hT
    walk_at "ss"
    refine ite_no (by rfl) ?_
    walk_at "ss"
    refine ite_no (by rfl) ?_
    refine ev_callS he ?_
    walk_at "ss"
    exact ⟨b, p, rfl, hb, hl, fun h0 h1 => absurd ⟨h0, h1⟩ h, fun z => ⟨rfl, rfl, .inl ⟨rfl, rfl⟩⟩⟩
end
end BL

set_option Elab.async false
set_option linter.all false
set_option maxRecDepth 100000
set_option maxHeartbeats 4000000
namespace BL
open PySem PySem.Spec PyProof.Rows L2
/-! t * 0, a tuple that is not empty -/
theorem tuple_mul0 (l : Addr) (items : Array Value) (n : Nat) (dd : Option Addr) (sl : Array (Option Value)) (u : Tok) (c1 : (items.isEmpty || (0 : Int) == 1) = false) :
    Meets (Builtin.«tuple.__mul__» ⟨[.ref l, .int 0 u], []⟩) (fun _ R s => s.heap.get? l = some { cls := .type "tuple", dict := dd, data := .seq items n, slots := sl } ∧
      R (.ok (.ret (Value.ref s.heap.objs.size))) { s with heap := s.heap.push { cls := Value.type "tuple", data := Data.seq #[] }, toks := s.toks }) :=
  .of_wp fun prog w A R s h => by
    obtain ⟨hp, g, d, tk, os⟩ := s
    obtain ⟨hl, h⟩ := h
    have f1 := AutoSeq1.idx_int
    wp_walk using wpAny_loadPart' hl
    repeat (first
      | (refine wpAny_ite_false (decide_eq_false (by rw [c1]; exact Bool.false_ne_true)) ?_; wp_walk using wpAny_loadPart' hl))
    exact ⟨_, rfl, h⟩
def rRepT0 (K : PySem.W.Frag) : R2 := fun x y H Q => ∃ l xs, x = .ref l ∧ y = .int 0 ∧ SqT K H l xs ∧ xs ≠ [] ∧ ∀ p, H p = none → Q (.ref p) (upd H p (.tup []))
section
variable {X : Cx}
theorem op_repT0 : OpR X (binaryOp .Mult) (rRepT0 X.K) := by
  intro pins s σ H x y v u Q I rx ry h
  obtain ⟨l, xs, rfl, rfl, hT, hne, q⟩ := h
  cases rx
  obtain ⟨t, rfl⟩ := ry
  obtain ⟨its, r, ⟨⟨cls, dd, data, sl⟩, ho, hc, n, hd⟩, hs⟩ := I.tuple hT
  simp only at hc hd
  subst hc hd
  have hle : its.length = xs.length := r.length.symm
  have hn : its ≠ [] := fun e => hne (by
    rw [e] at hle
    exact List.eq_nil_of_length_eq_zero hle.symm)
  have hi : its.toArray.isEmpty = false := by
    cases its with
    | nil => exact absurd rfl hn
    | cons a b => rfl
  have c1 : (its.toArray.isEmpty || (0 : Int) == 1) = false := by rw [hi]; rfl
  refine wpAny_binaryOp_repeat_ref (T := "tuple") (U := "int") (by decide) ⟨_, ho, rfl⟩ (fun s' => typeIs_int s' 0 t) noFill_tuple_mul F.fills_int_mul F.slot_int_rmul repeat_tuple F.slot_int_index.lookup
    (call_meets F.slot_int_rmul (typeIs_int s 0 t) F.entry_int_rmul (F.args_int_rmul_2 _ _) (int_rmul_tuple 0 t l its.toArray n dd sl)
      ⟨ho, rfl, ⟨_, ho, rfl⟩, call_meets F.slot_tuple_mul ⟨_, ho, rfl⟩ F.entry_tuple_mul (F.args_tuple_mul_2 _ _) (tuple_mul0 l its.toArray n dd sl t c1) ⟨ho, ?_⟩⟩)
  exact new_tup (its := []) I (Nat.zero_le _) .nil (.inl q)
end
def rMulC (K : PySem.W.Frag) : R2 := orR (rRepT0 K) (rMulB K)
theorem mulC {X : Cx} (K : PySem.W.Frag) (h : X.K = K) : OpR X (binaryOp .Mult) (rMulC K) := h ▸ OpR.or op_repT0 (mulB X.K rfl)
/-- list(t) of a tuple -/
def rListA (K : PySem.W.Frag) : List V → Hp → VK → Prop := fun xs H Q => ∃ p ys, xs = [.ref p] ∧ (SqL K H p ys ∨ SqT K H p ys) ∧ ∀ l, H l = none → Q (.ref l) (upd H l (.lst ys))
theorem listA {X : Cx} (K : PySem.W.Frag) (h : X.K = K) : CallR X (.type "list") (rListA K) := h ▸ call_list_of
section
variable {c : Cb} {O : Own} {Φ : Af}
theorem cw_listT {l : List PyData} (k : Φ (.d (.list l)) O) : calW c (rListA c.K) [.d (.tuple l)] O Φ := fun B H us r w Q q => by
  obtain ⟨u, rfl, ru⟩ := rv1 r
  cases ru with
  | tup g d =>
    refine ⟨_, _, rfl, .inr (.inl (w.ex.rd g)), fun p hp => ?_⟩
    obtain ⟨e1, w1, d1⟩ := newL w hp d
    exact q _ O _ _ _ k e1 w1 d1
theorem ow_mulCL {l : List PyData} {n : Int} (h1 : -(2 ^ 63) ≤ n) (h2 : n < 2 ^ 63) (hl : l.length * n.toNat ≤ sizeLine) (k : Φ (.d (.list (List.replicate n.toNat l).flatten)) O) : opW c (rMulC c.K) (.d (.list l)) (.d (.int n)) O Φ := ow_r (ow_mulBL h1 h2 hl k)
theorem ow_mulCT {l : List PyData} {n : Int} (h0 : l ≠ []) (h1 : 0 ≤ n) (h2 : n ≤ 1000) (hl : l.length ≤ 1000) (k : Φ (.d (.tuple (List.replicate n.toNat l).flatten)) O) : opW c (rMulC c.K) (.d (.tuple l)) (.d (.int n)) O Φ := by
  by_cases hz : n = 0
  · subst hz
    refine ow_l fun B H u v ru rv w Q q => ?_
    cases rv
    cases ru with
    | tup g d =>
      have g2 := w.ex.rd g
      refine ⟨_, _, rfl, rfl, .inl g2, fun z => h0 ?_, fun p hp => ?_⟩
      · have := dqs_len d
        rw [z] at this
        exact List.eq_nil_of_length_eq_zero this.symm
      · obtain ⟨e1, w1, d1⟩ := newT w hp .nil
        exact q _ O _ _ _ k e1 w1 d1
  · exact ow_r (ow_mulBT h0 (by omega) h2 hl k)
end
end BL

set_option Elab.async false
set_option linter.all false
set_option maxRecDepth 100000
set_option maxHeartbeats 4000000
namespace BL
open PySem PySem.Spec PyProof.Rows L2 RZ
namespace Cw
theorem isw_tail_zero : ∀ (b : List Int), Base b → Cw.IsW b (List.replicate b.length 0)
  | [], _ => .nil
  | m :: b, h => .cons (Int.le_refl 0) (by have := h m List.mem_cons_self; omega) (isw_tail_zero b h.tail)
theorem wrd_zero : ∀ (b : List Int), Base b → wrd b 0 = List.replicate b.length 0
  | [], _ => rfl
  | m :: b, h => by
    unfold wrd
    rw [Int.zero_ediv, if_pos (by decide), Int.zero_emod, wrd_zero b h.tail]; rfl
def absI (x : Int) : Int := if x < 0 then -x else x
theorem absI0 : absI 0 = 0 := by decide
def cntD (l m : List Int) (n : Nat) : List Nat := (List.range n).filter fun k => !decide (l.getD k 0 = m.getD k 0)
def sumD (l m : List Int) (n : Nat) : List Int := (List.range n).map fun k => absI (l.getD k 0 - m.getD k 0)
theorem cnt_same (l : List Int) (n : Nat) : cntD l l n = [] := List.filter_eq_nil_iff.mpr fun x _ => by simp
theorem sum_same (l : List Int) : ∀ n : Nat, (sumD l l n).sum = 0
  | 0 => rfl
  | n + 1 => by
    have ih := sum_same l n
    unfold sumD at ih ⊢
    rw [List.range_succ, List.map_append, List.sum_append, ih, List.map_singleton, Int.sub_self, absI0]; rfl
theorem cnt_cons (a b : Int) (l m : List Int) (n : Nat) : (cntD (a :: l) (b :: m) (n + 1)).length = (if a = b then 0 else 1) + (cntD l m n).length := by
  have e : (List.filter ((fun k => !decide ((a :: l).getD k 0 = (b :: m).getD k 0)) ∘ Nat.succ) (List.range n)) = cntD l m n := rfl
  have e0 : ((a :: l).getD 0 0 = (b :: m).getD 0 0) = (a = b) := rfl
  unfold cntD
  rw [List.range_succ_eq_map, List.filter_cons, List.filter_map, e]
  by_cases h : a = b
  · rw [if_neg (by show ¬ (!decide (a = b)) = true; rw [decide_eq_true h]; decide), if_pos h, List.length_map]
    show (cntD l m n).length = 0 + (cntD l m n).length
    omega
  · rw [if_pos (by show (!decide (a = b)) = true; rw [decide_eq_false h]; rfl), if_neg h, List.length_cons, List.length_map]
    show (cntD l m n).length + 1 = 1 + (cntD l m n).length
    omega
theorem sum_cons (a b : Int) (l m : List Int) (n : Nat) : (sumD (a :: l) (b :: m) (n + 1)).sum = absI (a - b) + (sumD l m n).sum := by
  have e : (List.map ((fun k => absI ((a :: l).getD k 0 - (b :: m).getD k 0)) ∘ Nat.succ) (List.range n)) = sumD l m n := rfl
  unfold sumD
  rw [List.range_succ_eq_map, List.map_cons, List.map_map, e, List.sum_cons]; rfl
theorem nb_cnt {l m : List Int} (h : Nb l m) : (cntD l m l.length).length = 1 ∧ (sumD l m l.length).sum = 1 := by
  induction h with
  | @here a b l h =>
    rw [List.length_cons, cnt_cons, sum_cons, cnt_same, sum_same, if_neg (by omega)]
    refine ⟨rfl, ?_⟩
    unfold absI
    split <;> omega
  | @there a l m h ih =>
    rw [List.length_cons, cnt_cons, sum_cons, ih.1, ih.2, if_pos rfl, Int.sub_self, absI0]
    exact ⟨rfl, rfl⟩
/-! which data are code words -/
theorem wordOf_tw : ∀ {b ws : List Int}, Cw.IsW b ws → wordOf b (tw ws) = true := by
  intro b ws h
  have go : ∀ {b ws : List Int}, Cw.IsW b ws → ((twl ws).zip b).all (fun p => numD 0 (p.2 - 1) p.1) = true := by
    intro b ws h
    induction h with
    | nil => rfl
    | @cons m w b ws h0 h1 h ih =>
      show (numD 0 (m - 1) (.int w) && ((twl ws).zip b).all (fun p => numD 0 (p.2 - 1) p.1)) = true
      rw [ih]
      show ((decide (0 ≤ w) && decide (w ≤ m - 1)) && true) = true
      rw [decide_eq_true h0, decide_eq_true (by omega)]; rfl
  show (decide ((twl ws).length = b.length) && _) = true
  rw [decide_eq_true (by rw [List.length_map]; exact (isw_len h).symm), go h]; rfl
theorem wordOf_len {b : List Int} {l : List PyData} (h : l.length ≠ b.length) : wordOf b (.tuple l) = false := by
  show (decide (l.length = b.length) && _) = false
  rw [decide_eq_false h]; rfl
theorem wordOf_hd {m : Int} {b : List Int} {d : PyData} {l : List PyData} (h : numD 0 (m - 1) d = false) : wordOf (m :: b) (.tuple (d :: l)) = false := by
  show (_ && (numD 0 (m - 1) d && _)) = false
  rw [h, Bool.false_and, Bool.and_false]
theorem base_all {b : List Int} (h : Base b) (h1 : 1 ≤ b.length) (h2 : b.length ≤ 20) : allIn 2 10 20 (tw b) = true := by
  show (decide (1 ≤ (twl b).length) && (decide ((twl b).length ≤ 20) && (twl b).all (numD 2 10))) = true
  rw [decide_eq_true (by rw [List.length_map]; exact h1), decide_eq_true (by rw [List.length_map]; exact h2), List.all_eq_true.mpr]; rfl
  intro x hx
  obtain ⟨y, hy, rfl⟩ := List.mem_map.mp hx
  have := h y hy
  show (decide (2 ≤ y) && decide (y ≤ 10)) = true
  rw [decide_eq_true this.1, decide_eq_true this.2]; rfl
theorem allIn_len {lo hi : Int} {m : Nat} {l : List PyData} (h : m < l.length) : allIn lo hi m (.tuple l) = false := by
  show (_ && (decide (l.length ≤ m) && _)) = false
  rw [decide_eq_false (show ¬ l.length ≤ m by omega), Bool.false_and, Bool.and_false]
theorem allIn_bad {lo hi : Int} {m : Nat} {l : List PyData} {d : PyData} (hd : d ∈ l) (h : numD lo hi d = false) : allIn lo hi m (.tuple l) = false := by
  show (_ && (_ && l.all (numD lo hi))) = false
  have : l.all (numD lo hi) = false := by
    rw [List.all_eq_false]
    exact ⟨d, hd, by rw [h]; exact Bool.false_ne_true⟩
  rw [this, Bool.and_false, Bool.and_false]
end Cw
end BL

set_option Elab.async false
set_option linter.all false
set_option maxRecDepth 100000
set_option maxHeartbeats 4000000
namespace BL
open PySem PySem.Spec PyProof.Rows L2 HotX L2H RZ
local macro_rules | `(tactic| walk_at "s") => `(tactic| (with_reducible first
  | refine st_seq ?_ | refine st_set ?_ | refine st_asg ?_ | refine st_ret ?_ | refine st_retN ?_ | refine st_if ?_ | refine st_next ?_ | refine st_drop ?_ | refine st_cont ?_ | refine st_brk ?_ | refine st_par ?_ | refine st_par3 ?_
  | refine ev_varF rfl ?_ | refine ev_varP rfl ?_ | refine ev_var rfl ?_ | refine ev_int ?_ | refine ev_str ?_ | refine ev_bl ?_ | refine ev_non ?_ | refine ev_raw ?_
  | refine ev_if ?_ | refine ev_andV ?_ | refine ev_orV ?_ | refine ev_notV ?_ | refine et_test ?_ | refine et_B ?_ | refine et_and ?_ | refine et_or ?_ | refine et_not ?_ | refine et_yes ?_
  | refine ev_chain ?_ | refine ev_op ?_ | refine ev_un ?_ | refine ev_cb ?_ | refine ev_sl ?_ | refine eo_none ?_ | refine eo_some ?_ | refine ea_nil ?_ | refine ea_cons ?_ | refine ev_call ?_
  | refine ow_mulBS ?_ ?_ | refine ow_addI ?_ | refine ow_addFI ?_ | refine ow_mulFS ?_ ?_ | refine ow_isB ?_ | refine ow_notB ?_ | refine ow_I0 ?_ | refine ow_B0 ?_ | refine ow_eqI ?_ | refine ow_neI ?_ | refine uw_neg ?_
  | refine ow_mod (by decide +kernel) ?_ | refine ow_powC (by decide +kernel) ?_ | refine ow_inTI ?_ | refine ow_ninTI ?_ | refine ow_isN ?_ | refine ow_notN ?_
  | refine cw_lenT ?_ | refine cw_lenL ?_ | refine cw_int ?_ | refine cw_abs ?_ | refine cw_max2 ?_ | refine cw_min2 ?_ | refine cw_tupL ?_
  | refine gj_name (by decide) ?_ | refine g_name ?_ | refine gjs_nil ?_ | refine gjs_cons ?_
  | refine isi_int (b := true) (by decide +kernel) ?_ | refine isi_int (b := false) (by decide +kernel) ?_ | refine isi_bool (b := true) (by decide +kernel) ?_ | refine isi_bool (b := false) (by decide +kernel) ?_ | refine isi_str (b := true) (by decide +kernel) ?_ | refine isi_str (b := false) (by decide +kernel) ?_ | refine isi_tup (b := true) (by decide +kernel) ?_ | refine isi_tup (b := false) (by decide +kernel) ?_ | refine isi_lst (b := true) (by decide +kernel) ?_ | refine isi_lst (b := false) (by decide +kernel) ?_ | refine isi_non (b := true) (by decide +kernel) ?_ | refine isi_non (b := false) (by decide +kernel) ?_ | refine aret_rt ?_ | refine aret_nx ?_ | rw [if_pos rfl] | rw [if_pos nf_true] | rw [if_neg nt_true] | rw [if_neg Bool.false_ne_true] | refine ⟨_, rfl, ?_⟩) <;> try dsimp only [Bool.not_true, Bool.not_false, List.set])
local macro_rules | `(tactic| walk_at "ss") => `(tactic| repeat (any_goals walk_at "s"))
local macro_rules | `(tactic| walk_at "n") => `(tactic| try dsimp only [wipeA, List.map_cons, List.map_nil, List.set, srcN])
local macro_rules | `(tactic| walk_at "sr") => `(tactic| (with_reducible first | refine ev_var rfl ?_ | walk_at "s"))
local macro_rules | `(tactic| walk_at "ssr") => `(tactic| repeat (any_goals walk_at "sr"))

section
variable {P : Program} {w : World} {K : PySem.W.Frag} {T : List Addr} {mg : Str → Option Value} {base : Heap}
open Bar
theorem updO_comm {O : Own} {a b : Addr} {x y : AO} (h : a ≠ b) : updO (updO O a x) b y = updO (updO O b y) a x := by
  funext z
  by_cases h1 : z = a
  · subst h1
    rw [updO_same, updO_ne h, updO_same]
  · by_cases h2 : z = b
    · subst h2; rw [updO_same, updO_ne h1, updO_same]
    · rw [updO_ne h2, updO_ne h1, updO_ne h1, updO_ne h2]
theorem rep_tw (x : Int) (n : Nat) : (List.replicate n [PyData.int x]).flatten = twl (List.replicate n x) := by
  rw [twl, List.map_replicate, List.flatten_replicate_singleton]
theorem ok_nil : Ok [] := fun x hx => by cases hx
def Sp_lbar : FSp := fun as O Φ Ψ => ∃ (q : Addr) (n : Nat) (r : List Int), as = [.v (.ref q), .d (.int (n : Int))] ∧ 1 ≤ n ∧ n ≤ 60 ∧ O q = some (drw r) ∧ ∀ (l r' : List Int), Ok l → l.length = n → Φ (.f (twl l)) (updO O q (drw r'))
theorem ok__law_bar (X : Txt K mg) : FnOk P w K mg base CX0 (1 + 1) X._law_bar.f X._law_bar.fd P__law_bar (spOf K T Sp_lbar) := by
  refine ok_fn X._law_bar.F sc__law_bar (fun as O Φ Ψ ⟨q, n, r, e, _⟩ => by rw [e]; rfl) fun cdv A outer s H E hr => ⟨_, (pss_cons (ps_set (i := 2) sc__law_bar.nd rfl (by first | exact Or.inl rfl | exact Or.inr rfl) (pe_call (ok__law_take (T := T) X) (hr.mono (by decide)) (by rfl) X._law_take.m X._law_take.F.kp X._law_take.b .nil pass0 (pa_cons (pv 0) (pa_cons pe_int pa_nil)))) (pss_cons (ps_if (pt_cmpR op_lt (pv 2) pe_int (nomark _)) (pss_one (ps_ret (pe_callTy (tupF K rfl) (by rfl) X.b_tuple bt_tuple (pa_cons (pe_lc (own := [("k", 3)]) rfl sc__law_bar.nd (pi_range1 (by rfl) X.b_range (pa_cons (pv 1) pa_nil)) (blkOk_by (N := N__law_bar) (sc := defScope s__law_bar) (by decide +kernel)) (fun _ _ _ _ _ => (pg_name (i := 3) sc__law_bar.nd rfl (by first | exact Or.inl rfl | exact Or.inr rfl))) (fun _ _ _ _ _ => pts_nil) (fun _ _ _ _ _ => (pe_call (ok__law_take (T := T) X) (hr.mono (by decide)) (by rfl) X._law_take.m X._law_take.F.kp X._law_take.b .nil pass0 (pa_cons (pv 0) (pa_cons pe_int pa_nil))))) pa_nil)))) pss_nil) (pss_one (ps_ret (pe_op (mulF K rfl) (pe_tupB (pa_cons (pe_op op_sub (pv 2) pe_int) pa_nil)) (pv 1)))))), fun as O Φ Ψ ⟨q, n, r, e, h1, h60, hq, h⟩ => ?_⟩
  subst e
  show StW _ _ [some _, some _, none, none] _ _
  walk_at "ss"
  refine ⟨q, 4, r, rfl, by decide, hq, fun x r h0 h4 => ?_⟩
  walk_at "ss"
  refine ite_b (fun hc => ?_) (fun hc => ?_)
  · walk_at "ss"
    refine ev_lc (is_rngN ?_)
    walk_at "ss"
    refine ⟨by omega, fun i acc O' => ∃ (l r : List Int), Ok l ∧ l.length = i ∧ acc = ds (twl l) ∧ O' = updO O q (drw r), ⟨[], r, ok_nil, rfl, rfl, rfl⟩, fun _ _ _ _ _ _ _ => trivial, ?_, ?_⟩
    · rintro q2 i acc O' hi ⟨l, r, hl, hlen, rfl, rfl⟩ hq2
      have hi' : i < n := hi
      have hne : q2 ≠ q := fun z => by rw [z, updO_same] at hq2; cases hq2
      refine ⟨by rw [List.length_map, List.length_map, sizeLine_eq]; omega, ?_⟩
      walk_at "n"
      walk_at "ss"
      refine ⟨q, 2, r, rfl, by decide, by rw [updO_ne hne.symm, updO_same], fun y r h0 h1 => ?_⟩
      refine ⟨updO O q (drw r), by rw [updO_comm hne.symm, updO_updO, updO_comm hne], by rw [updO_ne hne]; rw [updO_ne hne] at hq2; exact hq2, l ++ [y], r, fun z hz => ?_, by rw [List.length_append, hlen]; rfl, by rw [ds_snoc, twl, twl, List.map_append]; rfl, rfl⟩
      rcases List.mem_append.mp hz with hz | hz
      · exact hl z hz
      · rw [List.mem_singleton.mp hz]; omega
    · rintro q2 acc O' ⟨l, r, hl, hlen, rfl, rfl⟩ hq2
      refine .inr ⟨_, rfl, ?_⟩
      walk_at "ss"
      refine cw_tupF .f ?_
      walk_at "ss"
      exact h l r hl hlen
  · walk_at "ss"
    refine ev_tupB .f ?_
    walk_at "ss"
    refine ⟨_, .cons .nil, by show 1 ≤ 1000; decide, ?_⟩
    walk_at "ss"
    refine ow_mulFF (by simp) (by omega) (by omega) (by show 1 ≤ 1000; decide) ?_
    rw [Int.toNat_natCast, rep_tw]
    walk_at "ss"
    have hx : ¬ x < 2 := fun z => by rw [decide_eq_true z] at hc; cases hc
    refine h _ r (fun z hz => ?_) List.length_replicate
    rw [List.eq_of_mem_replicate hz]
    omega
end
end BL

set_option Elab.async false
set_option linter.all false
set_option maxRecDepth 100000
set_option maxHeartbeats 4000000
namespace BL
open PySem PySem.Spec PyProof.Rows L2 RZ
/-- [x for x in l if q(x) is not False]: none -/
theorem none_lc {c : Cb} {O : Own} {Φ : Af} {ps : Sl} {j : Nat} {ts tq : TE} {l : List PyData}
    (hw : ∀ Φ' : Af, Φ' (.d (.list l)) O → EvW c ts ps O Φ')
    (hq : ∀ d ∈ l, ∀ (O' : Own) (Φ' : Af), Φ' (.d (.bool false)) O' → EvW c tq (ps.set j (some (.d d))) O' Φ')
    (k : Φ (.d (.list [])) O) : EvW c (tLc (iSeq c.K ts) (gName j) (tTest (tOp rNotB tq (tC (.bl false)))) (tVar j) [j]) ps O Φ := by
  refine ev_lc (is_seq (hw _ ⟨l, .inl rfl, ?_⟩))
  refine ⟨fun i acc O' => O' = O ∧ acc = [], ⟨rfl, rfl⟩, fun _ _ _ _ _ _ _ => trivial, ?_, ?_⟩
  · rintro q i acc O' hi ⟨rfl, rfl⟩ hq0
    have hi' : i < l.length := hi
    have hm : l.getD i .none ∈ l := by
      rw [List.getD_eq_getElem?_getD, List.getElem?_eq_getElem hi']; exact List.getElem_mem hi'
    refine ⟨by show 0 < sizeLine; decide, gj_name (by simp) ?_⟩
    show EvTW c _ ((ps.set j none).set j _) _ _
    rw [List.set_set]
    refine et_test (ev_op (hq _ hm _ _ (ev_bl (ow_notB ⟨_, rfl, ?_⟩))))
    rw [decide_eq_true rfl, if_neg (by decide)]
    exact ⟨O', rfl, hq0, rfl, rfl⟩
  · rintro q acc O' ⟨rfl, rfl⟩ hq0
    exact .inr ⟨[], rfl, k⟩
/-- [f(x) for x in l]: each tells the same text -/
theorem same_lc {c : Cb} {O : Own} {Φ : Af} {ps : Sl} {j n : Nat} {z : Str} {ts tq : TE} {l : List PyData} (hn : l.length = n) (hn2 : n ≤ 1000)
    (hw : ∀ Φ' : Af, Φ' (.d (.list l)) O → EvW c ts ps O Φ')
    (hq : ∀ d ∈ l, ∀ (O' : Own) (Φ' : Af), Φ' (.d (.str z)) O' → EvW c tq (ps.set j (some (.d d))) O' Φ')
    (k : Φ (.d (.list (List.replicate n (.str z)))) O) : EvW c (tLc (iSeq c.K ts) (gName j) tYes tq [j]) ps O Φ := by
  refine ev_lc (is_seq (hw _ ⟨l, .inl rfl, ?_⟩))
  refine ⟨fun i acc O' => O' = O ∧ acc = ds (List.replicate i (.str z)), ⟨rfl, rfl⟩, fun _ _ _ _ _ _ _ => trivial, ?_, ?_⟩
  · rintro q i acc O' hi ⟨rfl, rfl⟩ hq0
    have hi' : i < l.length := hi
    have hm : l.getD i .none ∈ l := by
      rw [List.getD_eq_getElem?_getD, List.getElem?_eq_getElem hi']; exact List.getElem_mem hi'
    refine ⟨by rw [List.length_map, List.length_replicate, sizeLine_eq]; omega, gj_name (by simp) (et_yes ?_)⟩
    rw [if_pos rfl]
    show EvW c _ ((ps.set j none).set j _) _ _
    rw [List.set_set]
    refine hq _ hm _ _ ⟨O', rfl, hq0, rfl, ?_⟩
    rw [ds_snoc, List.replicate_succ']
  · rintro q acc O' ⟨rfl, rfl⟩ hq0
    refine .inr ⟨_, rfl, ?_⟩
    rw [show (srcD l).n = n from hn]
    exact k
end BL

set_option Elab.async false
set_option linter.all false
set_option maxRecDepth 100000
set_option maxHeartbeats 4000000
namespace BL
open PySem PySem.Spec PyProof.Rows L2 RZ
/-- a, b = (x, y): of any values -/
theorem st_pairA {c : Cb} {ps : Sl} {O : Own} {A : AEnds} {ta : TA} {i j : Nat} (h : EvAW c ta ps O fun as O1 => ∃ a b, as = [a, b] ∧ A.nx ((ps.set i (some a)).set j (some b)) O1) : StW c (tAsg (tTup ta) (gTup c.K 2 (gCons (gName i) (gCons (gName j) gNil)))) ps O A := by
  intro B σ H D s w m d
  refine h B σ H s w m _ fun as O1 B1 us H1 ⟨a, b, e, k⟩ e1 w1 r1 => ?_
  subst e
  obtain ⟨u, v, rfl, ra, rb⟩ := rv2 r1
  refine ⟨by show 2 ≤ sizeLine; rw [sizeLine_eq]; omega, fun p hp => ?_⟩
  have e2 : Ext B1 (upd B1 p (.tup [u, v])) := Ext.up (w1.freeB hp)
  refine ⟨p, [u, v], rfl, .inl (.inl upd_same), rfl, u, [v], rfl, v, [], rfl, rfl, ?_⟩
  exact d.nx _ _ _ _ _ k (e1.trans e2) (((s.up (e1.trans e2)).set i (e2.rep ra)).set j (e2.rep rb)) (w1.frz hp _)
/-- an operand that is a tuple of the second kind, seen as data -/
theorem ow_fr {c : Cb} {r : R2} {x : AV} {l : List PyData} {O : Own} {Φ : Af} (h : opW c r x (.d (.tuple l)) O Φ) : opW c r x (.f l) O Φ := fun B H u v ru rv w Q q => h B H u v ru (rep_fd rv) w Q q
theorem ow_fl {c : Cb} {r : R2} {y : AV} {l : List PyData} {O : Own} {Φ : Af} (h : opW c r (.d (.tuple l)) y O Φ) : opW c r (.f l) y O Φ := fun B H u v ru rv w Q q => h B H u v (rep_fd ru) rv w Q q
namespace Cw
theorem base_two (n : Nat) : Base (List.replicate n 2) := fun x hx => by rw [List.eq_of_mem_replicate hx]; decide
theorem whole_two : ∀ n : Nat, whole (List.replicate n 2) = 2 ^ n
  | 0 => rfl
  | n + 1 => by rw [List.replicate_succ, whole_cons, whole_two n, Int.pow_succ, Int.mul_comm]
end Cw
namespace Bar
theorem dist_self (l : List Int) : dist l l = 0 := by unfold dist; rw [Int.sub_self]; rfl
theorem dist_nn (l m : List Int) : 0 ≤ dist l m := by unfold dist; split <;> omega
theorem bar_all {l : List Int} (h : Ok l) : ∀ d ∈ twl l, numD 0 1 d = true := fun d hd => by
  obtain ⟨x, hx, rfl⟩ := List.mem_map.mp hd
  rcases h x hx with rfl | rfl <;> rfl
theorem sizes8 {y : Int} (h0 : 0 ≤ y) (h1 : y < 8) : ∃ n : Nat, 1 ≤ n ∧ n ≤ 60 ∧ atI [PyData.int 1, .int 2, .int 3, .int 8, .int 24, .int 59, .int 60, .int 60] y = some (.int (n : Int)) := by
  rcases (show y = 0 ∨ y = 1 ∨ y = 2 ∨ y = 3 ∨ y = 4 ∨ y = 5 ∨ y = 6 ∨ y = 7 by omega) with rfl | rfl | rfl | rfl | rfl | rfl | rfl | rfl
  · exact ⟨1, by omega, by omega, rfl⟩
  · exact ⟨2, by omega, by omega, rfl⟩
  · exact ⟨3, by omega, by omega, rfl⟩
  · exact ⟨8, by omega, by omega, rfl⟩
  · exact ⟨24, by omega, by omega, rfl⟩
  · exact ⟨59, by omega, by omega, rfl⟩
  · exact ⟨60, by omega, by omega, rfl⟩
  · exact ⟨60, by omega, by omega, rfl⟩
end Bar
end BL

set_option Elab.async false
set_option linter.all false
set_option maxRecDepth 100000
set_option maxHeartbeats 4000000
namespace BL
open PySem PySem.Spec PyProof.Rows L2 HotX L2H RZ
local macro_rules | `(tactic| walk_at "s") => `(tactic| (with_reducible first
  | refine st_seq ?_ | refine st_set ?_ | refine st_asg ?_ | refine st_ret ?_ | refine st_retN ?_ | refine st_if ?_ | refine st_next ?_ | refine st_drop ?_ | refine st_cont ?_ | refine st_brk ?_ | refine st_par ?_ | refine st_par3 ?_
  | refine ev_varF rfl ?_ | refine ev_varP rfl ?_ | refine ev_var rfl ?_ | refine ev_int ?_ | refine ev_str ?_ | refine ev_bl ?_ | refine ev_non ?_ | refine ev_raw ?_
  | refine ev_if ?_ | refine ev_andV ?_ | refine ev_orV ?_ | refine ev_notV ?_ | refine et_test ?_ | refine et_B ?_ | refine et_and ?_ | refine et_or ?_ | refine et_not ?_ | refine et_yes ?_
  | refine ev_chain ?_ | refine ev_op ?_ | refine ev_un ?_ | refine ev_cb ?_ | refine ev_sl ?_ | refine eo_none ?_ | refine eo_some ?_ | refine ea_nil ?_ | refine ea_cons ?_ | refine ev_call ?_
  | refine ow_mulBS ?_ ?_ | refine ow_addI ?_ | refine ow_addFI ?_ | refine ow_mulFS ?_ ?_ | refine ow_isB ?_ | refine ow_notB ?_ | refine ow_I0 ?_ | refine ow_B0 ?_ | refine ow_eqI ?_ | refine ow_neI ?_ | refine uw_neg ?_
  | refine ow_mod (by decide +kernel) ?_ | refine ow_powC (by decide +kernel) ?_ | refine ow_inTI ?_ | refine ow_ninTI ?_ | refine ow_isN ?_ | refine ow_notN ?_
  | refine cw_lenT ?_ | refine cw_lenL ?_ | refine cw_int ?_ | refine cw_abs ?_ | refine cw_max2 ?_ | refine cw_min2 ?_ | refine cw_tupL ?_
  | refine gj_name (by decide) ?_ | refine g_name ?_ | refine gjs_nil ?_ | refine gjs_cons ?_
  | refine isi_int (b := true) (by decide +kernel) ?_ | refine isi_int (b := false) (by decide +kernel) ?_ | refine isi_bool (b := true) (by decide +kernel) ?_ | refine isi_bool (b := false) (by decide +kernel) ?_ | refine isi_str (b := true) (by decide +kernel) ?_ | refine isi_str (b := false) (by decide +kernel) ?_ | refine isi_tup (b := true) (by decide +kernel) ?_ | refine isi_tup (b := false) (by decide +kernel) ?_ | refine isi_lst (b := true) (by decide +kernel) ?_ | refine isi_lst (b := false) (by decide +kernel) ?_ | refine isi_non (b := true) (by decide +kernel) ?_ | refine isi_non (b := false) (by decide +kernel) ?_ | refine aret_rt ?_ | refine aret_nx ?_ | rw [if_pos rfl] | rw [if_pos nf_true] | rw [if_neg nt_true] | rw [if_neg Bool.false_ne_true] | refine ⟨_, rfl, ?_⟩) <;> try dsimp only [Bool.not_true, Bool.not_false, List.set])
local macro_rules | `(tactic| walk_at "ss") => `(tactic| repeat (any_goals walk_at "s"))
local macro_rules | `(tactic| walk_at "n") => `(tactic| try dsimp only [wipeA, List.map_cons, List.map_nil, List.set, srcN])
local macro_rules | `(tactic| walk_at "sr") => `(tactic| (with_reducible first | refine ev_var rfl ?_ | walk_at "s"))
local macro_rules | `(tactic| walk_at "ssr") => `(tactic| repeat (any_goals walk_at "sr"))

section
variable {P : Program} {w : World} {K : PySem.W.Frag} {T : List Addr} {mg : Str → Option Value} {base : Heap}
open Cw
theorem isw_snoc : ∀ {b ws : List Int} {m x : Int}, Cw.IsW b ws → 0 ≤ x → x < m → Cw.IsW (b ++ [m]) (ws ++ [x])
  | _, _, _, _, .nil, h0, h1 => .cons h0 h1 .nil
  | _, _, _, _, .cons a c h, h0, h1 => .cons a c (isw_snoc h h0 h1)
theorem cl_tw (k : Nat) {ws : List Int} (h : ws.length ≤ 100000) : Cl (k + 1) (tw ws) := .inr ⟨twl ws, .inr rfl, by rw [List.length_map]; exact h, fun x hx => by
  obtain ⟨y, _, rfl⟩ := List.mem_map.mp hx
  exact Cl.flt trivial⟩
theorem cl_lw (k : Nat) {ws : List Int} (h : ws.length ≤ 100000) : Cl (k + 1) (lw ws) := .inr ⟨twl ws, .inl rfl, by rw [List.length_map]; exact h, fun x hx => by
  obtain ⟨y, _, rfl⟩ := List.mem_map.mp hx
  exact Cl.flt trivial⟩
abbrev natD (l : List Nat) : List PyData := List.map (fun (k : Nat) => PyData.int (k : Int)) l
theorem cnt_succ (l m : List Int) (i : Nat) : cntD l m (i + 1) = if l.getD i 0 = m.getD i 0 then cntD l m i else cntD l m i ++ [i] := by
  unfold cntD
  rw [List.range_succ, List.filter_append]
  by_cases h : l.getD i 0 = m.getD i 0
  · rw [if_pos h, List.filter_cons, if_neg (by rw [decide_eq_true h]; decide), List.filter_nil, List.append_nil]
  · rw [if_neg h, List.filter_cons, if_pos (by rw [decide_eq_false h]; rfl), List.filter_nil]
theorem cnt_le (l m : List Int) (i : Nat) : (cntD l m i).length ≤ i := Nat.le_trans (List.length_filter_le _ _) (by rw [List.length_range]; exact Nat.le_refl _)
theorem sum_succ (l m : List Int) (i : Nat) : sumD l m (i + 1) = sumD l m i ++ [absI (l.getD i 0 - m.getD i 0)] := by
  unfold sumD
  rw [List.range_succ, List.map_append, List.map_singleton]
theorem flat_tw (ws : List Int) : ∀ l, tw ws = .tuple l → ∀ x ∈ l, flatD x = true := fun l e x hx => by
  have e2 : twl ws = l := PyData.tuple.inj e
  subst e2
  obtain ⟨y, _, rfl⟩ := List.mem_map.mp hx
  rfl
theorem sizes7 {y : Int} (h0 : 0 ≤ y) (h1 : y < 7) : ∃ n : Nat, 1 ≤ n ∧ n ≤ 20 ∧ atI [PyData.int 1, .int 2, .int 4, .int 5, .int 9, .int 20, .int 20] y = some (.int (n : Int)) := by
  rcases (show y = 0 ∨ y = 1 ∨ y = 2 ∨ y = 3 ∨ y = 4 ∨ y = 5 ∨ y = 6 by omega) with rfl | rfl | rfl | rfl | rfl | rfl | rfl
  · exact ⟨1, by omega, by omega, rfl⟩
  · exact ⟨2, by omega, by omega, rfl⟩
  · exact ⟨4, by omega, by omega, rfl⟩
  · exact ⟨5, by omega, by omega, rfl⟩
  · exact ⟨9, by omega, by omega, rfl⟩
  · exact ⟨20, by omega, by omega, rfl⟩
  · exact ⟨20, by omega, by omega, rfl⟩
theorem sizes3 {y : Int} (h0 : 0 ≤ y) (h1 : y < 3) : ∃ n : Int, 1 ≤ n ∧ n ≤ 9 ∧ atI [PyData.int 1, .int 3, .int 9] y = some (.int n) := by
  rcases (show y = 0 ∨ y = 1 ∨ y = 2 by omega) with rfl | rfl | rfl
  · exact ⟨1, by omega, by omega, rfl⟩
  · exact ⟨3, by omega, by omega, rfl⟩
  · exact ⟨9, by omega, by omega, rfl⟩
theorem pick3 {x m y : Int} (hx : 0 ≤ x ∧ x < m) (h0 : 0 ≤ y) (h1 : y < 3) : ∃ n : Int, 0 ≤ n ∧ n < m ∧ atI [PyData.int x, .int (m - 1), .int 0] y = some (.int n) := by
  rcases (show y = 0 ∨ y = 1 ∨ y = 2 by omega) with rfl | rfl | rfl
  · exact ⟨x, by omega, by omega, rfl⟩
  · exact ⟨m - 1, by omega, by omega, rfl⟩
  · exact ⟨0, by omega, by omega, rfl⟩
def Sp_words : FSp := fun as O Φ Ψ => ∃ (q : Addr) (r : List Int), as = [.v (.ref q)] ∧ O q = some (drw r) ∧ ∀ (r' : List Int), Φ (.d (.bool true)) (updO O q (drw r'))
theorem ok__law_words (X : Txt K mg) (tb : Tabs X T base) : FnOk P w K mg base (L2N.CX P w) (9 + 1) X._law_words.f X._law_words.fd P__law_words (spOf K T Sp_words) := by
  refine ok_fnX X._law_words.F sc__law_words (fun as O Φ Ψ ⟨q, r, e, _⟩ => by rw [e]; rfl) fun cdv A outer s H E hr => ⟨_, (pss_cons (ps_set (i := 1) sc__law_words.nd rfl (by first | exact Or.inl rfl | exact Or.inr rfl) (pe_callTy (tupB K rfl) (by rfl) X.b_tuple bt_tuple (pa_cons (pe_lc (own := [("k", 8)]) rfl sc__law_words.nd (pi_range1 (by rfl) X.b_range (pa_cons (pe_ix (ixB K rfl hr) (pe_lst (pa_cons pe_int (pa_cons pe_int (pa_cons pe_int (pa_cons pe_int (pa_cons pe_int (pa_cons pe_int (pa_cons pe_int pa_nil)))))))) (pe_call (ok__law_take (T := T) X) (hr.mono (by decide)) (by rfl) X._law_take.m X._law_take.F.kp X._law_take.b .nil pass0 (pa_cons (pv 0) (pa_cons pe_int pa_nil))) (fun _ _ => rfl)) pa_nil)) (blkOk_by (N := N__law_words) (sc := defScope s__law_words) (by decide +kernel)) (fun _ _ _ _ _ => (pg_name (i := 8) sc__law_words.nd rfl (by first | exact Or.inl rfl | exact Or.inr rfl))) (fun _ _ _ _ _ => pts_nil) (fun _ _ _ _ _ => (pe_op (addA K rfl) pe_int (pe_call (ok__law_take (T := T) X) (hr.mono (by decide)) (by rfl) X._law_take.m X._law_take.F.kp X._law_take.b .nil pass0 (pa_cons (pv 0) (pa_cons (pe_ix (ixB K rfl hr) (pe_lst (pa_cons pe_int (pa_cons pe_int (pa_cons pe_int pa_nil)))) (pe_call (ok__law_take (T := T) X) (hr.mono (by decide)) (by rfl) X._law_take.m X._law_take.F.kp X._law_take.b .nil pass0 (pa_cons (pv 0) (pa_cons pe_int pa_nil))) (fun _ _ => rfl)) pa_nil)))))) pa_nil))) (pss_cons (ps_set (i := 2) sc__law_words.nd rfl (by first | exact Or.inl rfl | exact Or.inr rfl) (pe_call (ok__law_whole (T := T) X) (hr.mono (by decide)) (by rfl) X._law_whole.m X._law_whole.F.kp X._law_whole.b .nil pass0 (pa_cons (pv 1) pa_nil))) (pss_cons (ps_for (passes_of rfl) rfl (pi_range1 (by rfl) X.b_range (pa_cons pe_int pa_nil)) (pg_name (i := 3) sc__law_words.nd rfl (by first | exact Or.inl rfl | exact Or.inr rfl)) (pss_cons (ps_set (i := 5) sc__law_words.nd rfl (by first | exact Or.inl rfl | exact Or.inr rfl) (pe_callTy (tupB K rfl) (by rfl) X.b_tuple bt_tuple (pa_cons (pe_lc (own := [("number", 9)]) rfl sc__law_words.nd (seqA K rfl (pv 1)) (blkOk_by (N := N__law_words) (sc := defScope s__law_words) (by decide +kernel)) (fun _ _ _ _ _ => (pg_name (i := 9) sc__law_words.nd rfl (by first | exact Or.inl rfl | exact Or.inr rfl))) (fun _ _ _ _ _ => pts_nil) (fun _ _ _ _ _ => (pe_ix (ixB K rfl hr) (pe_lst (pa_cons (pe_call (ok__law_take (T := T) X) (hr.mono (by decide)) (by rfl) X._law_take.m X._law_take.F.kp X._law_take.b .nil pass0 (pa_cons (pv 0) (pa_cons (pv 9) pa_nil))) (pa_cons (pe_op op_sub (pv 9) pe_int) (pa_cons pe_int pa_nil)))) (pe_call (ok__law_take (T := T) X) (hr.mono (by decide)) (by rfl) X._law_take.m X._law_take.F.kp X._law_take.b .nil pass0 (pa_cons (pv 0) (pa_cons pe_int pa_nil))) (fun _ _ => rfl)))) pa_nil))) (pss_cons (ps_set (i := 6) sc__law_words.nd rfl (by first | exact Or.inl rfl | exact Or.inr rfl) (pe_call (ok__law_word_place (T := T) X) (hr.mono (by decide)) (by rfl) X._law_word_place.m X._law_word_place.F.kp X._law_word_place.b .nil pass0 (pa_cons (pv 1) (pa_cons (pv 5) pa_nil)))) (pss_cons (ps_if (pt_not (pt_val (pe_call (ok__law_alike (T := T) X 8) (hr.mono (by decide)) (by rfl) X._law_alike.m X._law_alike.F.kp X._law_alike.b .nil pass0 (pa_cons (pe_lst (pa_cons (pe_call (ok_is_code_word (T := T) X tb) (hr.mono (by decide)) (by rfl) X.is_code_word.m X.is_code_word.F.kp X.is_code_word.b .nil pass0 (pa_cons (pv 1) (pa_cons (pv 5) pa_nil))) (pa_cons (pe_call (ok_place_of_word (T := T) X) (hr.mono (by decide)) (by rfl) X.place_of_word.m X.place_of_word.F.kp X.place_of_word.b .nil pass0 (pa_cons (pv 1) (pa_cons (pv 5) pa_nil))) (pa_cons (pe_callS (ok_word_at (T := T) X) (hr.mono (by decide)) (by rfl) X.word_at.m X.word_at.F.kp X.word_at.b (fun σ => L2N.passAt (L2N.takes_of rfl rfl rfl rfl) σ) (pa_cons (pv 1) (pa_cons (pv 6) pa_nil))) pa_nil)))) (pa_cons (pe_lst (pa_cons pe_bl (pa_cons (pv 6) (pa_cons (pv 5) pa_nil)))) pa_nil))))) (pss_one (ps_ret pe_bl)) pss_nil) (pss_one (ps_if (pt_cmpR op_lt (pe_op (addA K rfl) (pv 6) pe_int) (pv 2) (nomark _)) (pss_cons (ps_set (i := 7) sc__law_words.nd rfl (by first | exact Or.inl rfl | exact Or.inr rfl) (pe_callS (ok_word_at (T := T) X) (hr.mono (by decide)) (by rfl) X.word_at.m X.word_at.F.kp X.word_at.b (fun σ => L2N.passAt (L2N.takes_of rfl rfl rfl rfl) σ) (pa_cons (pv 1) (pa_cons (pe_op (addA K rfl) (pv 6) pe_int) pa_nil)))) (pss_one (ps_if (pw_or (pt_cmpR (neA K rfl hr) (pe_call (ok__law_word_place (T := T) X) (hr.mono (by decide)) (by rfl) X._law_word_place.m X._law_word_place.F.kp X._law_word_place.b .nil pass0 (pa_cons (pv 1) (pa_cons (pv 7) pa_nil))) (pe_op (addA K rfl) (pv 6) pe_int) (nomark _)) (pw_or (pt_cmpR (neA K rfl hr) (pe_callB (lenA K rfl) (by rfl) X.b_len bt_len (pa_cons (pe_lc (own := [("k", 8)]) rfl sc__law_words.nd (pi_range1 (by rfl) X.b_range (pa_cons (pe_callB (lenA K rfl) (by rfl) X.b_len bt_len (pa_cons (pv 1) pa_nil)) pa_nil)) (blkOk_by (N := N__law_words) (sc := defScope s__law_words) (by decide +kernel)) (fun _ _ _ _ _ => (pg_name (i := 8) sc__law_words.nd rfl (by first | exact Or.inl rfl | exact Or.inr rfl))) (fun _ _ _ _ _ => (pts_one (pt_cmpR (neA K rfl hr) (pe_ix (ixB K rfl hr) (pv 5) (pv 8) (fun _ _ => rfl)) (pe_ix (ixB K rfl hr) (pv 7) (pv 8) (fun _ _ => rfl)) (nomark _)))) (fun _ _ _ _ _ => (pv 8))) pa_nil)) pe_int (nomark _)) (pw_or1 (pt_cmpR (neA K rfl hr) (pe_callB (sumA K rfl rfl) (by rfl) X.b_sum bt_sum (pa_cons (pe_lc (own := [("k", 8)]) rfl sc__law_words.nd (pi_range1 (by rfl) X.b_range (pa_cons (pe_callB (lenA K rfl) (by rfl) X.b_len bt_len (pa_cons (pv 1) pa_nil)) pa_nil)) (blkOk_by (N := N__law_words) (sc := defScope s__law_words) (by decide +kernel)) (fun _ _ _ _ _ => (pg_name (i := 8) sc__law_words.nd rfl (by first | exact Or.inl rfl | exact Or.inr rfl))) (fun _ _ _ _ _ => pts_nil) (fun _ _ _ _ _ => (pe_callB call_abs (by rfl) X.b_abs bt_abs (pa_cons (pe_op op_sub (pe_ix (ixB K rfl hr) (pv 5) (pv 8) (fun _ _ => rfl)) (pe_ix (ixB K rfl hr) (pv 7) (pv 8) (fun _ _ => rfl))) pa_nil)))) pa_nil)) pe_int (nomark _))))).pt (pss_one (ps_ret pe_bl)) pss_nil))) pss_nil)))))) (pss_cons (ps_set (i := 4) sc__law_words.nd rfl (by first | exact Or.inl rfl | exact Or.inr rfl) (pe_lst (pa_cons (pe_op (addA K rfl) (pe_tup (pa_cons (pe_ix (ixB K rfl hr) (pv 1) pe_int (fun _ _ => rfl)) pa_nil)) (pe_op (mulC K rfl) (pe_tup (pa_cons pe_int pa_nil)) (pe_op op_sub (pe_callB (lenA K rfl) (by rfl) X.b_len bt_len (pa_cons (pv 1) pa_nil)) pe_int))) (pa_cons (pe_op (mulC K rfl) (pe_tup (pa_cons pe_int pa_nil)) (pe_op (addA K rfl) (pe_callB (lenA K rfl) (by rfl) X.b_len bt_len (pa_cons (pv 1) pa_nil)) pe_int)) (pa_cons (pe_op (addA K rfl) (pe_tup (pa_cons (pe_un un_neg pe_int) pa_nil)) (pe_op (mulC K rfl) (pe_tup (pa_cons pe_int pa_nil)) (pe_op op_sub (pe_callB (lenA K rfl) (by rfl) X.b_len bt_len (pa_cons (pv 1) pa_nil)) pe_int))) (pa_cons (pe_op (mulC K rfl) (pe_lst (pa_cons pe_int pa_nil)) (pe_callB (lenA K rfl) (by rfl) X.b_len bt_len (pa_cons (pv 1) pa_nil))) (pa_cons (pe_op (addA K rfl) (pe_tup (pa_cons pe_bl pa_nil)) (pe_op (mulC K rfl) (pe_tup (pa_cons pe_int pa_nil)) (pe_op op_sub (pe_callB (lenA K rfl) (by rfl) X.b_len bt_len (pa_cons (pv 1) pa_nil)) pe_int))) pa_nil))))))) (pss_cons (ps_if (pw_or (pt_cmpR (neA K rfl hr) (pe_lc (own := [("value", 10)]) rfl sc__law_words.nd (seqA K rfl (pv 4)) (blkOk_by (N := N__law_words) (sc := defScope s__law_words) (by decide +kernel)) (fun _ _ _ _ _ => (pg_name (i := 10) sc__law_words.nd rfl (by first | exact Or.inl rfl | exact Or.inr rfl))) (fun _ _ _ _ _ => (pts_one (pt_cmpR op_notBl (pe_call (ok_is_code_word (T := T) X tb) (hr.mono (by decide)) (by rfl) X.is_code_word.m X.is_code_word.F.kp X.is_code_word.b .nil pass0 (pa_cons (pv 1) (pa_cons (pv 10) pa_nil))) pe_bl (nomark _)))) (fun _ _ _ _ _ => (pv 10))) (pe_lst pa_nil) (nomark _)) (pw_or1 (pt_cmpR op_notBl (pe_call (ok_is_code_word (T := T) X tb) (hr.mono (by decide)) (by rfl) X.is_code_word.m X.is_code_word.F.kp X.is_code_word.b .nil pass0 (pa_cons (pv 1) (pa_cons (pe_op (mulC K rfl) (pe_tup (pa_cons pe_int pa_nil)) (pe_op op_sub (pe_callB (lenA K rfl) (by rfl) X.b_len bt_len (pa_cons (pv 1) pa_nil)) pe_int)) pa_nil))) pe_bl (nomark _)))).pt (pss_one (ps_ret pe_bl)) pss_nil) (pss_cons (ps_if (pw_or (pt_cmpR (neA K rfl hr) (pe_lc (own := [("place", 6)]) rfl sc__law_words.nd (seqA K rfl (pe_lst (pa_cons (pe_un un_neg pe_int) (pa_cons (pv 2) (pa_cons (pe_op (addA K rfl) (pv 2) pe_int) pa_nil))))) (blkOk_by (N := N__law_words) (sc := defScope s__law_words) (by decide +kernel)) (fun _ _ _ _ _ => (pg_name (i := 6) sc__law_words.nd rfl (by first | exact Or.inl rfl | exact Or.inr rfl))) (fun _ _ _ _ _ => pts_nil) (fun _ _ _ _ _ => (pe_call (ok__law_told (T := T) X) (hr.mono (by decide)) (by rfl) X._law_told.m X._law_told.F.kp X._law_told.b .nil pass0 (pa_cons pe_int (pa_cons (pv 1) (pa_cons (pv 6) pa_nil)))))) (pe_op (mulC K rfl) (pe_lst (pa_cons pe_str pa_nil)) pe_int) (nomark _)) (pw_or1 (pt_not (pt_val (pe_call (ok__law_alike (T := T) X 8) (hr.mono (by decide)) (by rfl) X._law_alike.m X._law_alike.F.kp X._law_alike.b .nil pass0 (pa_cons (pe_callS (ok_word_at (T := T) X) (hr.mono (by decide)) (by rfl) X.word_at.m X.word_at.F.kp X.word_at.b (fun σ => L2N.passAt (L2N.takes_of rfl rfl rfl rfl) σ) (pa_cons (pv 1) (pa_cons pe_int pa_nil))) (pa_cons (pe_op (mulC K rfl) (pe_tup (pa_cons pe_int pa_nil)) (pe_callB (lenA K rfl) (by rfl) X.b_len bt_len (pa_cons (pv 1) pa_nil))) pa_nil))))))).pt (pss_one (ps_ret pe_bl)) pss_nil) (pss_one (ps_ret (pe_and (pe_cmpR op_isBl (pe_call (ok_is_base (T := T) X tb) (hr.mono (by decide)) (by rfl) X.is_base.m X.is_base.F.kp X.is_base.b .nil pass0 (pa_cons (pv 1) pa_nil)) pe_bl (nomark _)) (pe_one (pe_cmpR (eqA K rfl hr) (pe_lc (own := [("value", 10)]) rfl sc__law_words.nd (seqA K rfl (pe_lst (pa_cons (pe_tup pa_nil) (pa_cons (pe_op (mulC K rfl) (pe_tup (pa_cons pe_int pa_nil)) pe_int) (pa_cons (pe_tup (pa_cons pe_int pa_nil)) (pa_cons (pe_tup (pa_cons pe_int pa_nil)) (pa_cons (pe_op (addA K rfl) (pe_slice (slB K rfl) (pv 1) (po_some pe_int) po_none) (pe_tup (pa_cons pe_int pa_nil))) (pa_cons (pe_callTy (listA K rfl) (by rfl) X.b_list bt_list (pa_cons (pv 1) pa_nil)) (pa_cons (pe_tup (pa_cons pe_int (pa_cons pe_bl pa_nil))) (pa_cons pe_non pa_nil)))))))))) (blkOk_by (N := N__law_words) (sc := defScope s__law_words) (by decide +kernel)) (fun _ _ _ _ _ => (pg_name (i := 10) sc__law_words.nd rfl (by first | exact Or.inl rfl | exact Or.inr rfl))) (fun _ _ _ _ _ => (pts_one (pt_cmpR op_notBl (pe_call (ok_is_base (T := T) X tb) (hr.mono (by decide)) (by rfl) X.is_base.m X.is_base.F.kp X.is_base.b .nil pass0 (pa_cons (pv 10) pa_nil)) pe_bl (nomark _)))) (fun _ _ _ _ _ => (pv 10))) (pe_lst pa_nil) (nomark _)))))))))))), fun as O Φ Ψ ⟨dq, r, e, hq, hΦ⟩ => ?_⟩
  subst e
  show StW _ _ [some _, none, none, none, none, none, none, none, none, none, none] _ _
  walk_at "ss"
  refine ev_lc (is_rngN ?_)
  walk_at "ss"
  refine ev_lstD ?_
  walk_at "ss"
  refine ⟨_, .cons (.cons (.cons (.cons (.cons (.cons (.cons .nil)))))), by show 7 ≤ 1000; decide, ?_⟩
  walk_at "ss"
  refine ⟨dq, 7, r, rfl, by decide, hq, fun y r h0 h1 => ?_⟩
  obtain ⟨n, hn1, hn2, hix⟩ := sizes7 h0 h1
  refine ow_ixBL hix ?_
  walk_at "ss"
  refine ⟨by omega, fun i acc O' => ∃ (b r : List Int), Base b ∧ b.length = i ∧ acc = ds (twl b) ∧ O' = updO O dq (drw r), ⟨[], r, fun x hx => (by cases hx), rfl, rfl, rfl⟩, fun _ _ _ _ _ _ _ => trivial, ?_, ?_⟩
  · rintro q2 i acc O' hi ⟨b, r, hb, hlen, rfl, rfl⟩ hq2
    have hi' : i < n := hi
    have hne : q2 ≠ dq := fun z => by rw [z, updO_same] at hq2; cases hq2
    refine ⟨by rw [List.length_map, List.length_map, sizeLine_eq]; omega, ?_⟩
    walk_at "n"
    walk_at "ss"
    refine ev_lstD ?_
    walk_at "ss"
    refine ⟨_, .cons (.cons (.cons .nil)), by show 3 ≤ 1000; decide, ?_⟩
    walk_at "ss"
    refine ⟨dq, 3, r, rfl, by decide, by rw [updO_ne hne.symm, updO_same], fun y r h0 h1 => ?_⟩
    obtain ⟨m, hm1, hm2, hix⟩ := sizes3 h0 h1
    refine ow_ixBL hix ?_
    walk_at "ss"
    refine ⟨dq, m, r, rfl, hm1, updO_same, fun y r h0 h1 => ?_⟩
    walk_at "ss"
    refine ⟨updO O dq (drw r), by rw [updO_updO, updO_comm hne.symm, updO_updO, updO_comm hne], by rw [updO_ne hne]; rw [updO_ne hne] at hq2; exact hq2, b ++ [2 + y], r, fun z hz => ?_, by rw [List.length_append, hlen]; rfl, by rw [ds_snoc, twl, twl, List.map_append]; rfl, rfl⟩
    rcases List.mem_append.mp hz with hz | hz
    · exact hb z hz
    · rw [List.mem_singleton.mp hz]; omega
  rintro q2 acc O' ⟨b, r, hb, hlen, rfl, rfl⟩ hq2
  have hlen : b.length = n := hlen
  refine .inr ⟨_, rfl, ?_⟩
  walk_at "ss"
  refine ⟨b, rfl, hb, by omega, ?_⟩
  walk_at "ss"
  have hW := whole_lt hb (by omega)
  have hW1 := whole_pos hb
  refine st_for (is_rngN ?_)
  walk_at "ss"
  refine ⟨by omega, fun i ps' O' => ∃ (r : List Int) (z3 z5 z6 z7 z8 z9 z10 : Option AV), O' = updO O dq (drw r) ∧ ps' = [some (.v (.ref dq)), some (.d (tw b)), some (.d (.int (whole b))), z3, none, z5, z6, z7, z8, z9, z10], ⟨r, none, none, none, none, none, none, none, rfl, rfl⟩, fun _ _ _ _ _ => trivial, ?_, ?_⟩
  · rintro i ps' O' hi ⟨r, z3, z5, z6, z7, z8, z9, z10, rfl, rfl⟩
    walk_at "ss"
    refine ev_lc (is_seq (ev_var rfl ⟨_, .inr rfl, ?_⟩))
    refine ⟨fun i acc O' => ∃ (ws r : List Int), Cw.IsW (b.take i) ws ∧ acc = ds (twl ws) ∧ O' = updO O dq (drw r), ⟨[], r, by rw [List.take_zero]; exact .nil, rfl, rfl⟩, fun _ _ _ _ _ _ _ => trivial, ?_, ?_⟩
    · rintro q2 i acc O' hi ⟨ws, r, hw, rfl, rfl⟩ hq2
      have hi' : i < b.length := by
        have : i < (twl b).length := hi
        rwa [List.length_map] at this
      have hne : q2 ≠ dq := fun z => by rw [z, updO_same] at hq2; cases hq2
      have hm := hb b[i] (List.getElem_mem hi')
      have hwl := isw_len hw
      rw [List.length_take] at hwl
      have e2 : b.take (i + 1) = b.take i ++ [b[i]] := by rw [List.take_succ, List.getElem?_eq_getElem hi']; rfl
      refine ⟨by rw [List.length_map, List.length_map, sizeLine_eq]; omega, ?_⟩
      show GWj _ _ (.d ((twl b).getD i .none)) _ _ _ _
      rw [twl_getD hi']
      walk_at "n"
      walk_at "ss"
      refine ev_lstD ?_
      walk_at "ss"
      refine ⟨dq, _, r, rfl, by omega, by rw [updO_ne hne.symm, updO_same], fun x r hx0 hx1 => ?_⟩
      walk_at "ss"
      refine ⟨_, .cons (.cons (.cons .nil)), by show 3 ≤ 1000; decide, ?_⟩
      walk_at "ss"
      refine ⟨dq, 3, r, rfl, by decide, updO_same, fun y r h0 h1 => ?_⟩
      obtain ⟨m, hm1, hm2, hix⟩ := pick3 ⟨hx0, hx1⟩ h0 h1
      refine ow_ixBL hix ?_
      refine ⟨updO O dq (drw r), by rw [updO_updO, updO_comm hne.symm, updO_updO, updO_comm hne], by rw [updO_ne hne]; rw [updO_ne hne] at hq2; exact hq2, ws ++ [m], r, by rw [e2]; exact isw_snoc hw hm1 hm2, by rw [ds_snoc, twl, twl, List.map_append]; rfl, rfl⟩
    rintro q2 acc O' ⟨ws, r, hw, rfl, rfl⟩ hq2
    have hw : Cw.IsW b ws := by
      have e : b.take (srcD (twl b)).n = b := List.take_of_length_le (by show _ ≤ (twl b).length; rw [List.length_map]; exact Nat.le_refl _)
      rwa [e] at hw
    have hbd := plc_bd hb hw
    have hwp := wrd_plc hb hw
    have hlenw := isw_len hw
    refine .inr ⟨_, rfl, ?_⟩
    walk_at "ss"
    refine ⟨b, ws, rfl, hb, hw, by omega, ?_⟩
    walk_at "ss"
    refine ev_lstD ?_
    walk_at "ss"
    refine ⟨b, _, rfl, fun _ z => (by cases z), flat_tw ws, ?_⟩
    rw [wordOf_tw hw]
    walk_at "ss"
    refine ⟨b, ws, rfl, hb, hw, by omega, ?_⟩
    walk_at "ss"
    refine ev_callS esc_X ?_
    walk_at "ss"
    refine ⟨b, plc b ws, rfl, hb, by omega, fun _ _ => ?_, fun z => absurd hbd z⟩
    rw [hwp]
    walk_at "ss"
    refine ⟨_, .cons (.cons (.cons .nil)), by show 3 ≤ 1000; decide, ?_⟩
    walk_at "ss"
    refine ev_lstD ?_
    walk_at "ss"
    refine ⟨_, .cons (.cons (.cons .nil)), by show 3 ≤ 1000; decide, ?_⟩
    walk_at "ss"
    refine ⟨_, rfl, .inr ⟨_, .inl rfl, by show 3 ≤ 100000; decide, fun x hx => ?_⟩, ?_⟩
    · simp only [List.mem_cons, List.not_mem_nil, or_false] at hx
      rcases hx with rfl | rfl | rfl
      · exact Cl.flt trivial
      · exact Cl.flt trivial
      · exact cl_tw _ (by omega)
    walk_at "ss"
    refine ite_dec (fun hlast => ?_) (fun hlast => ?_)
    rotate_left
    · walk_at "ss"
      exact ⟨r, _, _, _, _, _, _, _, rfl, rfl⟩
    walk_at "ss"
    refine ev_callS esc_X ?_
    walk_at "ss"
    refine ⟨b, plc b ws + 1, rfl, hb, by omega, fun _ _ => ?_, fun z => absurd ⟨by omega, hlast⟩ z⟩
    have hnb := next hb hbd.1 hlast
    rw [hwp] at hnb
    have hlw := wrd_ok (p := plc b ws + 1) hb (by omega) hlast
    have hpl := plc_wrd (p := plc b ws + 1) hb (by omega) hlast
    generalize wrd b (plc b ws + 1) = lt at hnb hlw hpl
    have hlenl := isw_len hlw
    obtain ⟨hc1, hc2⟩ := nb_cnt hnb
    rw [← hlenw] at hc1 hc2
    walk_at "ss"
    refine ⟨b, lt, rfl, hb, hlw, by omega, ?_⟩
    rw [hpl]
    walk_at "ss"
    refine ite_no (by rw [decide_eq_true rfl]; rfl) ?_
    walk_at "ss"
    refine ev_lc (is_rngN ?_)
    walk_at "ss"
    rw [List.length_map]
    refine ⟨by omega, fun i acc O' => O' = updO O dq (drw r) ∧ acc = ds (natD (cntD ws lt i)), ⟨rfl, rfl⟩, fun _ _ _ _ _ _ _ => trivial, ?_, ?_⟩
    · rintro q2 i acc O' hi ⟨rfl, rfl⟩ hq2
      have hi' : i < b.length := hi
      refine ⟨by rw [List.length_map, List.length_map, sizeLine_eq]; have := cnt_le ws lt i; omega, ?_⟩
      walk_at "n"
      walk_at "ss"
      refine ow_ixTI (by omega) ?_
      walk_at "ss"
      refine ow_ixTI (by omega) ?_
      walk_at "ss"
      rw [cnt_succ]
      by_cases hd : ws.getD i 0 = lt.getD i 0
      · refine ite_no (by rw [decide_eq_true hd]; rfl) ?_
        rw [if_pos hd]
        exact ⟨_, rfl, hq2, rfl, rfl⟩
      · refine ite_yes (by rw [decide_eq_false hd]; rfl) ?_
        rw [if_neg hd]
        walk_at "ss"
        exact ⟨hq2, rfl, by rw [ds_snoc, natD, natD, List.map_append]; rfl⟩
    rintro q2 acc O' ⟨rfl, rfl⟩ hq2
    refine .inr ⟨_, rfl, ?_⟩
    walk_at "ss"
    rw [List.length_map, show (cntD ws lt (srcN b.length).n).length = 1 from hc1]
    refine ite_no (by rfl) ?_
    walk_at "ss"
    refine ev_lc (is_rngN ?_)
    walk_at "ss"
    rw [List.length_map]
    refine ⟨by omega, fun i acc O' => O' = updO O dq (drw r) ∧ acc = ds (twl (sumD ws lt i)), ⟨rfl, rfl⟩, fun _ _ _ _ _ _ _ => trivial, ?_, ?_⟩
    · rintro q2 i acc O' hi ⟨rfl, rfl⟩ hq2
      have hi' : i < b.length := hi
      refine ⟨by rw [List.length_map, List.length_map, sizeLine_eq]; unfold sumD; rw [List.length_map, List.length_range]; omega, ?_⟩
      walk_at "n"
      walk_at "ss"
      refine ow_ixTI (by omega) ?_
      walk_at "ss"
      refine ow_ixTI (by omega) ?_
      walk_at "ss"
      exact ⟨hq2, rfl, by rw [sum_succ, ds_snoc, twl, twl, List.map_append]; rfl⟩
    rintro q2 acc O' ⟨rfl, rfl⟩ hq2
    refine .inr ⟨_, rfl, ?_⟩
    walk_at "ss"
    refine cw_sum ?_
    walk_at "ss"
    rw [show (sumD ws lt (srcN b.length).n).sum = 1 from hc2]
    refine ite_no (by rfl) ?_
    exact st_next ⟨r, _, _, _, _, _, _, _, rfl, rfl⟩
  · rintro ps' O' ⟨r, z3, z5, z6, z7, z8, z9, z10, rfl, rfl⟩
    obtain ⟨m, bt, rfl⟩ : ∃ m bt, b = m :: bt := by
      cases b with
      | nil => rw [List.length_nil] at hlen; omega
      | cons m bt => exact ⟨m, bt, rfl⟩
    have hm := hb m List.mem_cons_self
    have hbl : bt.length + 1 ≤ 20 := by rw [List.length_cons] at hlen; omega
    have eL : ((twl (m :: bt)).length : Int) = (bt.length : Int) + 1 := by rw [List.length_map, List.length_cons]; rfl
    have eL1 : ((twl (m :: bt)).length : Int) - 1 = (bt.length : Int) := by omega
    walk_at "ss"
    refine ev_lstD ?_
    walk_at "ss"
    refine ev_tupD ?_
    walk_at "ss"
    refine ow_ixTI (t := m :: bt) (d := 0) (by simp) ?_
    walk_at "ss"
    refine ⟨_, .cons .nil, by show 1 ≤ 1000; decide, ?_⟩
    walk_at "ss"
    refine ev_tupD ?_
    walk_at "ss"
    refine ⟨_, .cons .nil, by show 1 ≤ 1000; decide, ?_⟩
    walk_at "ss"
    rw [eL1]
    refine ow_mulCT (by simp) (by omega) (by omega) (by show 1 ≤ 1000; decide) ?_
    rw [Int.toNat_natCast, rep_tw]
    refine ow_addT (by rw [List.length_map, List.length_replicate, sizeLine_eq]; show 1 + _ ≤ _; omega) ?_
    walk_at "ss"
    refine ev_tupD ?_
    walk_at "ss"
    refine ⟨_, .cons .nil, by show 1 ≤ 1000; decide, ?_⟩
    walk_at "ss"
    rw [eL, show (bt.length : Int) + 1 + 1 = ((bt.length + 2 : Nat) : Int) by omega]
    refine ow_mulCT (by simp) (by omega) (by omega) (by show 1 ≤ 1000; decide) ?_
    rw [Int.toNat_natCast, rep_tw]
    walk_at "ss"
    refine ev_tupD ?_
    walk_at "ss"
    refine ⟨_, .cons .nil, by show 1 ≤ 1000; decide, ?_⟩
    walk_at "ss"
    refine ev_tupD ?_
    walk_at "ss"
    refine ⟨_, .cons .nil, by show 1 ≤ 1000; decide, ?_⟩
    walk_at "ss"
    rw [eL1]
    refine ow_mulCT (by simp) (by omega) (by omega) (by show 1 ≤ 1000; decide) ?_
    rw [Int.toNat_natCast, rep_tw]
    refine ow_addT (by rw [List.length_map, List.length_replicate, sizeLine_eq]; show 1 + _ ≤ _; omega) ?_
    walk_at "ss"
    refine ev_lstD ?_
    walk_at "ss"
    refine ⟨_, .cons .nil, by show 1 ≤ 1000; decide, ?_⟩
    walk_at "ss"
    rw [eL, show (bt.length : Int) + 1 = ((bt.length + 1 : Nat) : Int) by omega]
    refine ow_mulCL (by omega) (by omega) (by rw [Int.toNat_natCast, sizeLine_eq]; show 1 * _ ≤ _; omega) ?_
    rw [Int.toNat_natCast, rep_tw]
    walk_at "ss"
    refine ev_tupD ?_
    walk_at "ss"
    refine ⟨_, .cons .nil, by show 1 ≤ 1000; decide, ?_⟩
    walk_at "ss"
    refine ev_tupD ?_
    walk_at "ss"
    refine ⟨_, .cons .nil, by show 1 ≤ 1000; decide, ?_⟩
    walk_at "ss"
    rw [eL1]
    refine ow_mulCT (by simp) (by omega) (by omega) (by show 1 ≤ 1000; decide) ?_
    rw [Int.toNat_natCast, rep_tw]
    refine ow_addT (by rw [List.length_map, List.length_replicate, sizeLine_eq]; show 1 + _ ≤ _; omega) ?_
    walk_at "ss"
    refine ⟨_, .cons (.cons (.cons (.cons (.cons .nil)))), by show 5 ≤ 1000; decide, ?_⟩
    walk_at "ss"
    have hbad : ∀ d ∈ [PyData.tuple ([.int ((m :: bt).getD 0 0)] ++ twl (List.replicate bt.length 0)), .tuple (twl (List.replicate (bt.length + 2) 0)), .tuple ([.int (-1)] ++ twl (List.replicate bt.length 0)), .list (twl (List.replicate (bt.length + 1) 0)), .tuple ([.bool true] ++ twl (List.replicate bt.length 0))], (∀ kvs, d ≠ .dict kvs) ∧ (∀ l, d = .tuple l → ∀ x ∈ l, flatD x = true) ∧ wordOf (m :: bt) d = false := by
      intro d hd
      simp only [List.mem_cons, List.not_mem_nil, or_false] at hd
      have fl : ∀ {x : PyData} {l : List Int} {l2 : List PyData}, flatD x = true → PyData.tuple ([x] ++ twl l) = .tuple l2 → ∀ y ∈ l2, flatD y = true := by
        intro x l l2 hx e y hy
        have e2 := PyData.tuple.inj e
        subst e2
        rcases List.mem_append.mp hy with hy | hy
        · rw [List.mem_singleton.mp hy]; exact hx
        · exact flat_tw l _ rfl y hy
      rcases hd with rfl | rfl | rfl | rfl | rfl
      · refine ⟨fun _ z => (by cases z), fun l e => fl rfl e, wordOf_hd ?_⟩
        show (decide (0 ≤ m) && decide (m ≤ m - 1)) = false
        rw [decide_eq_false (show ¬ m ≤ m - 1 by omega), Bool.and_false]
      · refine ⟨fun _ z => (by cases z), flat_tw _, wordOf_len ?_⟩
        rw [List.length_map, List.length_replicate, List.length_cons]; omega
      · refine ⟨fun _ z => (by cases z), fun l e => fl rfl e, wordOf_hd ?_⟩
        show (decide ((0 : Int) ≤ -1) && decide ((-1 : Int) ≤ m - 1)) = false
        rw [decide_eq_false (show ¬ (0 : Int) ≤ -1 by omega), Bool.false_and]
      · exact ⟨fun _ z => (by cases z), fun l e => (by cases e), rfl⟩
      · exact ⟨fun _ z => (by cases z), fun l e => fl rfl e, wordOf_hd rfl⟩
    have h5 : [PyData.tuple ([.int ((m :: bt).getD 0 0)] ++ twl (List.replicate bt.length 0)), .tuple (twl (List.replicate (bt.length + 2) 0)), .tuple ([.int (-1)] ++ twl (List.replicate bt.length 0)), .list (twl (List.replicate (bt.length + 1) 0)), .tuple ([.bool true] ++ twl (List.replicate bt.length 0))].length = 5 := rfl
    generalize [PyData.tuple ([.int ((m :: bt).getD 0 0)] ++ twl (List.replicate bt.length 0)), .tuple (twl (List.replicate (bt.length + 2) 0)), .tuple ([.int (-1)] ++ twl (List.replicate bt.length 0)), .list (twl (List.replicate (bt.length + 1) 0)), .tuple ([.bool true] ++ twl (List.replicate bt.length 0))] = bad at hbad h5 ⊢
    walk_at "ss"
    refine none_lc (c := cbX K T Ψ E) (l := bad) (fun Φ' h => ev_var rfl h) (fun d hd O' Φ' h => ?_) ?_
    · walk_at "ss"
      refine ⟨m :: bt, d, rfl, (hbad d hd).1, (hbad d hd).2.1, ?_⟩
      rw [(hbad d hd).2.2]
      exact h
    refine ev_lstD ?_
    walk_at "ss"
    refine ⟨[], .nil, by show 0 ≤ 1000; decide, ?_⟩
    refine ow_neD rfl rfl ?_
    walk_at "ss"
    refine ite_no (by rfl) ?_
    walk_at "ss"
    refine ev_tupD ?_
    walk_at "ss"
    refine ⟨_, .cons .nil, by show 1 ≤ 1000; decide, ?_⟩
    walk_at "ss"
    rw [eL1]
    refine ow_mulCT (by simp) (by omega) (by omega) (by show 1 ≤ 1000; decide) ?_
    rw [Int.toNat_natCast, rep_tw]
    walk_at "ss"
    refine ⟨m :: bt, _, rfl, fun _ z => (by cases z), flat_tw _, ?_⟩
    rw [wordOf_len (by rw [List.length_map, List.length_replicate, List.length_cons]; omega)]
    walk_at "ss"
    refine ite_no (by rfl) ?_
    walk_at "ss"
    refine same_lc (c := cbX K T Ψ E) (n := 3) (z := "range") (l := [.int (-1), .int (whole (m :: bt)), .int (whole (m :: bt) + 5)]) rfl (by decide) (fun Φ' h => ?_) (fun d hd O' Φ' h => ?_) ?_
    · refine ev_lstD ?_
      walk_at "ss"
      exact ⟨_, .cons (.cons (.cons .nil)), by show 3 ≤ 1000; decide, h⟩
    · simp only [List.mem_cons, List.not_mem_nil, or_false] at hd
      rcases hd with rfl | rfl | rfl
      · walk_at "ss"
        exact ⟨_, .word (m :: bt) _ hb (by rw [List.length_cons]; omega) (by omega), h⟩
      · walk_at "ss"
        exact ⟨_, .word (m :: bt) _ hb (by rw [List.length_cons]; omega) (by omega), h⟩
      · walk_at "ss"
        exact ⟨_, .word (m :: bt) _ hb (by rw [List.length_cons]; omega) (by omega), h⟩
    walk_at "ss"
    refine ev_lstD ?_
    walk_at "ss"
    refine ⟨_, .cons .nil, by show 1 ≤ 1000; decide, ?_⟩
    walk_at "ss"
    refine ow_mulCL (by decide) (by decide) (by show 1 * 3 ≤ sizeLine; rw [sizeLine_eq]; decide) ?_
    refine ow_neD (by decide +kernel) (by decide +kernel) ?_
    rw [show PyData.eqv (.list (List.replicate 3 (.str "range"))) (.list (List.replicate (Int.toNat 3) [PyData.str "range"]).flatten) = true from by decide +kernel]
    walk_at "ss"
    refine ev_callS esc_X ?_
    walk_at "ss"
    refine ⟨m :: bt, 0, rfl, hb, by rw [List.length_cons]; omega, fun _ _ => ?_, fun z => absurd ⟨by omega, by omega⟩ z⟩
    rw [wrd_zero _ hb]
    walk_at "ss"
    refine ev_tupD ?_
    walk_at "ss"
    refine ⟨_, .cons .nil, by show 1 ≤ 1000; decide, ?_⟩
    walk_at "ss"
    rw [eL, show (bt.length : Int) + 1 = ((bt.length + 1 : Nat) : Int) by omega]
    refine ow_mulCT (by simp) (by omega) (by omega) (by show 1 ≤ 1000; decide) ?_
    rw [Int.toNat_natCast, rep_tw]
    walk_at "ss"
    refine ⟨_, rfl, cl_tw _ (by rw [List.length_replicate, List.length_cons]; omega), ?_⟩
    walk_at "ss"
    refine ⟨_, rfl, fun _ z => (by cases z), flat_tw _, ?_⟩
    rw [base_all hb (by rw [List.length_cons]; omega) (by rw [List.length_cons]; omega)]
    walk_at "ss"
    refine ite_yes (by rfl) ?_
    walk_at "ss"
    have hbad2 : ∀ d ∈ [PyData.tuple [], .tuple (twl (List.replicate 21 2)), .tuple [.int 1], .tuple [.int 11], .tuple (twl (bt ++ [1])), .list (twl (m :: bt)), .tuple [.int 2, .bool true], .none], (∀ kvs, d ≠ .dict kvs) ∧ (∀ l, d = .tuple l → ∀ x ∈ l, flatD x = true) ∧ allIn 2 10 20 d = false := by
      intro d hd
      simp only [List.mem_cons, List.not_mem_nil, or_false] at hd
      rcases hd with rfl | rfl | rfl | rfl | rfl | rfl | rfl | rfl
      · exact ⟨fun _ z => (by cases z), flat_tw [], rfl⟩
      · exact ⟨fun _ z => (by cases z), flat_tw _, allIn_len (by rw [List.length_map, List.length_replicate]; decide)⟩
      · exact ⟨fun _ z => (by cases z), flat_tw [1], rfl⟩
      · exact ⟨fun _ z => (by cases z), flat_tw [11], rfl⟩
      · exact ⟨fun _ z => (by cases z), flat_tw _, allIn_bad (d := .int 1) (by simp) rfl⟩
      · exact ⟨fun _ z => (by cases z), fun l e => (by cases e), rfl⟩
      · refine ⟨fun _ z => (by cases z), fun l e x hx => ?_, rfl⟩
        have e2 := PyData.tuple.inj e
        subst e2
        simp only [List.mem_cons, List.not_mem_nil, or_false] at hx
        rcases hx with rfl | rfl <;> rfl
      · exact ⟨fun _ z => (by cases z), fun l e => (by cases e), rfl⟩
    refine none_lc (c := cbX K T Ψ E) (l := [PyData.tuple [], .tuple (twl (List.replicate 21 2)), .tuple [.int 1], .tuple [.int 11], .tuple (twl (bt ++ [1])), .list (twl (m :: bt)), .tuple [.int 2, .bool true], .none]) (fun Φ' h => ?_) (fun d hd O' Φ' h => ?_) ?_
    · refine ev_lstD ?_
      walk_at "ss"
      refine ev_tupD ?_
      walk_at "ss"
      refine ⟨[], .nil, by show 0 ≤ 1000; decide, ?_⟩
      walk_at "ss"
      refine ev_tupD ?_
      walk_at "ss"
      refine ⟨_, .cons .nil, by show 1 ≤ 1000; decide, ?_⟩
      walk_at "ss"
      refine ow_mulCT (by simp) (by omega) (by omega) (by show 1 ≤ 1000; decide) ?_
      rw [show (List.replicate (Int.toNat 21) [PyData.int 2]).flatten = twl (List.replicate 21 2) from rep_tw 2 21]
      walk_at "ss"
      refine ev_tupD ?_
      walk_at "ss"
      refine ⟨_, .cons .nil, by show 1 ≤ 1000; decide, ?_⟩
      walk_at "ss"
      refine ev_tupD ?_
      walk_at "ss"
      refine ⟨_, .cons .nil, by show 1 ≤ 1000; decide, ?_⟩
      walk_at "ss"
      refine sw_dropT (d := 1) (by omega) (by rw [List.length_cons]; omega) ?_
      walk_at "ss"
      refine ev_tupD ?_
      walk_at "ss"
      refine ⟨_, .cons .nil, by show 1 ≤ 1000; decide, ?_⟩
      refine ow_addTI (s := [1]) (by rw [List.length_drop, List.length_cons]; show _ + 1 ≤ 1000; omega) ?_
      walk_at "ss"
      refine cw_listT ?_
      walk_at "ss"
      refine ev_tupD ?_
      walk_at "ss"
      refine ⟨_, .cons (.cons .nil), by show 2 ≤ 1000; decide, ?_⟩
      walk_at "ss"
      exact ⟨_, .cons (.cons (.cons (.cons (.cons (.cons (.cons (.cons .nil))))))), by show 8 ≤ 1000; decide, h⟩
    · walk_at "ss"
      refine ⟨d, rfl, (hbad2 d hd).1, (hbad2 d hd).2.1, ?_⟩
      rw [(hbad2 d hd).2.2]
      exact h
    refine ev_lstD ?_
    walk_at "ss"
    refine ⟨[], .nil, by show 0 ≤ 1000; decide, ?_⟩
    refine ow_eqD rfl rfl ?_
    exact aret_rt (hΦ r)
end
end BL

set_option Elab.async false
set_option linter.all false
set_option maxRecDepth 100000
set_option maxHeartbeats 8000000
namespace BL
open PySem PySem.Spec PyProof.Rows L2 HotX L2H RZ
local macro_rules | `(tactic| walk_at "s") => `(tactic| (with_reducible first
  | refine st_seq ?_ | refine st_set ?_ | refine st_asg ?_ | refine st_ret ?_ | refine st_retN ?_ | refine st_if ?_ | refine st_next ?_ | refine st_drop ?_ | refine st_cont ?_ | refine st_brk ?_ | refine st_par ?_ | refine st_par3 ?_
  | refine ev_varF rfl ?_ | refine ev_varP rfl ?_ | refine ev_var rfl ?_ | refine ev_int ?_ | refine ev_str ?_ | refine ev_bl ?_ | refine ev_non ?_ | refine ev_raw ?_
  | refine ev_if ?_ | refine ev_andV ?_ | refine ev_orV ?_ | refine ev_notV ?_ | refine et_test ?_ | refine et_B ?_ | refine et_and ?_ | refine et_or ?_ | refine et_not ?_ | refine et_yes ?_
  | refine ev_chain ?_ | refine ev_op ?_ | refine ev_un ?_ | refine ev_cb ?_ | refine ev_sl ?_ | refine eo_none ?_ | refine eo_some ?_ | refine ea_nil ?_ | refine ea_cons ?_ | refine ev_call ?_
  | refine ow_mulBS ?_ ?_ | refine ow_addI ?_ | refine ow_addFI ?_ | refine ow_mulFS ?_ ?_ | refine ow_isB ?_ | refine ow_notB ?_ | refine ow_I0 ?_ | refine ow_B0 ?_ | refine ow_eqI ?_ | refine ow_neI ?_ | refine uw_neg ?_
  | refine ow_mod (by decide +kernel) ?_ | refine ow_powC (by decide +kernel) ?_ | refine ow_inTI ?_ | refine ow_ninTI ?_ | refine ow_isN ?_ | refine ow_notN ?_
  | refine cw_lenT ?_ | refine cw_lenL ?_ | refine cw_int ?_ | refine cw_abs ?_ | refine cw_max2 ?_ | refine cw_min2 ?_ | refine cw_tupL ?_
  | refine gj_name (by decide) ?_ | refine g_name ?_ | refine gjs_nil ?_ | refine gjs_cons ?_
  | refine isi_int (b := true) (by decide +kernel) ?_ | refine isi_int (b := false) (by decide +kernel) ?_ | refine isi_bool (b := true) (by decide +kernel) ?_ | refine isi_bool (b := false) (by decide +kernel) ?_ | refine isi_str (b := true) (by decide +kernel) ?_ | refine isi_str (b := false) (by decide +kernel) ?_ | refine isi_tup (b := true) (by decide +kernel) ?_ | refine isi_tup (b := false) (by decide +kernel) ?_ | refine isi_lst (b := true) (by decide +kernel) ?_ | refine isi_lst (b := false) (by decide +kernel) ?_ | refine isi_non (b := true) (by decide +kernel) ?_ | refine isi_non (b := false) (by decide +kernel) ?_ | refine aret_rt ?_ | refine aret_nx ?_ | rw [if_pos rfl] | rw [if_pos nf_true] | rw [if_neg nt_true] | rw [if_neg Bool.false_ne_true] | refine ⟨_, rfl, ?_⟩) <;> try dsimp only [Bool.not_true, Bool.not_false, List.set])
local macro_rules | `(tactic| walk_at "ss") => `(tactic| repeat (any_goals walk_at "s"))
local macro_rules | `(tactic| walk_at "n") => `(tactic| try dsimp only [wipeA, List.map_cons, List.map_nil, List.set, srcN])
local macro_rules | `(tactic| walk_at "sr") => `(tactic| (with_reducible first | refine ev_var rfl ?_ | walk_at "s"))
local macro_rules | `(tactic| walk_at "ssr") => `(tactic| repeat (any_goals walk_at "sr"))

section
variable {P : Program} {w : World} {K : PySem.W.Frag} {T : List Addr} {mg : Str → Option Value} {base : Heap}
open Bar
abbrev prs (x : Int × Int) : PyData := .tuple [.int x.1, .int x.2]
theorem prs_at {l : List (Int × Int)} {i : Nat} (h : i < l.length) : (l.map prs).getD i .none = .tuple [.int l[i].1, .int l[i].2] := by
  rw [List.getD_eq_getElem?_getD, List.getElem?_map, List.getElem?_eq_getElem h]; rfl
def Sp_law : FSp := fun as O Φ Ψ => ∃ (ns : List Int), as = [.s ns] ∧ ns.length ≤ 63 ∧ Φ (.d (.bool true)) O
theorem ok_law (X : Txt K mg) (tb : Tabs X T base) : FnOk P w K mg base CX0 (10 + 1) X.law.f X.law.fd P_law (spOf K T Sp_law) := by
  refine ok_fn X.law.F sc_law (fun as O Φ Ψ ⟨ns, e, _⟩ => by rw [e]; rfl) fun cdv A outer s H E hr => ⟨_, (pss_cons (ps_set (i := 1) sc_law.nd rfl (by first | exact Or.inl rfl | exact Or.inr rfl) (pe_call (ok__law_draws (T := T) X) (hr.mono (by decide)) (by rfl) X._law_draws.m X._law_draws.F.kp X._law_draws.b .nil pass0 (pa_cons (pv 0) pa_nil))) (pss_cons (ps_set (i := 2) sc_law.nd rfl (by first | exact Or.inl rfl | exact Or.inr rfl) (pe_ix (ixB K rfl hr) (pe_lst (pa_cons pe_int (pa_cons pe_int (pa_cons pe_int (pa_cons pe_int (pa_cons pe_int (pa_cons pe_int (pa_cons pe_int (pa_cons pe_int pa_nil))))))))) (pe_call (ok__law_take (T := T) X) (hr.mono (by decide)) (by rfl) X._law_take.m X._law_take.F.kp X._law_take.b .nil pass0 (pa_cons (pv 1) (pa_cons pe_int pa_nil))) (fun _ _ => rfl))) (pss_cons (ps_asg (pe_tup (pa_cons (pe_call (ok__law_bar (T := T) X) (hr.mono (by decide)) (by rfl) X._law_bar.m X._law_bar.F.kp X._law_bar.b .nil pass0 (pa_cons (pv 1) (pa_cons (pv 2) pa_nil))) (pa_cons (pe_call (ok__law_bar (T := T) X) (hr.mono (by decide)) (by rfl) X._law_bar.m X._law_bar.F.kp X._law_bar.b .nil pass0 (pa_cons (pv 1) (pa_cons (pv 2) pa_nil))) pa_nil))) (tupA (n := 2) K rfl rfl (pgs_cons (pg_name (i := 7) sc_law.nd rfl (by first | exact Or.inl rfl | exact Or.inr rfl)) (pgs_cons (pg_name (i := 8) sc_law.nd rfl (by first | exact Or.inl rfl | exact Or.inr rfl)) pgs_nil)))) (pss_cons (ps_if (pt_cmpR (eqA K rfl hr) (pe_call (ok__law_take (T := T) X) (hr.mono (by decide)) (by rfl) X._law_take.m X._law_take.F.kp X._law_take.b .nil pass0 (pa_cons (pv 1) (pa_cons pe_int pa_nil))) pe_int (nomark _)) (pss_one (ps_set (i := 8) sc_law.nd rfl (by first | exact Or.inl rfl | exact Or.inr rfl) (pe_call (ok__law_behind (T := T) X) (hr.mono (by decide)) (by rfl) X._law_behind.m X._law_behind.F.kp X._law_behind.b .nil pass0 (pa_cons (pv 7) (pa_cons (pe_call (ok__law_take (T := T) X) (hr.mono (by decide)) (by rfl) X._law_take.m X._law_take.F.kp X._law_take.b .nil pass0 (pa_cons (pv 1) (pa_cons (pv 2) pa_nil))) pa_nil))))) pss_nil) (pss_cons (ps_par (i := 9) (j := 10) rfl sc_law.nd rfl rfl (by decide) rfl rfl (pa_cons (pe_call (ok__law_place (T := T) X) (hr.mono (by decide)) (by rfl) X._law_place.m X._law_place.F.kp X._law_place.b .nil pass0 (pa_cons (pv 7) pa_nil)) (pa_cons (pe_call (ok__law_place (T := T) X) (hr.mono (by decide)) (by rfl) X._law_place.m X._law_place.F.kp X._law_place.b .nil pass0 (pa_cons (pv 8) pa_nil)) pa_nil)) (by rfl)) (pss_cons (ps_if (pt_not (pt_val (pe_call (ok__law_alike (T := T) X 8) (hr.mono (by decide)) (by rfl) X._law_alike.m X._law_alike.F.kp X._law_alike.b .nil pass0 (pa_cons (pe_lst (pa_cons (pe_call (ok_place_of_bar (T := T) X) (hr.mono (by decide)) (by rfl) X.place_of_bar.m X.place_of_bar.F.kp X.place_of_bar.b .nil pass0 (pa_cons (pv 7) pa_nil)) (pa_cons (pe_call (ok_place_of_bar (T := T) X) (hr.mono (by decide)) (by rfl) X.place_of_bar.m X.place_of_bar.F.kp X.place_of_bar.b .nil pass0 (pa_cons (pv 8) pa_nil)) (pa_cons (pe_callS (ok_bar_at (T := T) X) (hr.mono (by decide)) (by rfl) X.bar_at.m X.bar_at.F.kp X.bar_at.b (fun σ => L2N.passAt takes0N σ) (pa_cons (pv 2) (pa_cons (pv 9) pa_nil))) (pa_cons (pe_call (ok_may_turn (T := T) X) (hr.mono (by decide)) (by rfl) X.may_turn.m X.may_turn.F.kp X.may_turn.b .nil pass0 (pa_cons (pv 7) pa_nil)) (pa_cons (pe_call (ok_turns (T := T) X) (hr.mono (by decide)) (by rfl) X.turns.m X.turns.F.kp X.turns.b .nil pass0 (pa_cons (pv 7) (pa_cons (pv 8) pa_nil))) pa_nil)))))) (pa_cons (pe_lst (pa_cons (pv 9) (pa_cons (pv 10) (pa_cons (pv 7) (pa_cons (pe_call (ok__law_may (T := T) X) (hr.mono (by decide)) (by rfl) X._law_may.m X._law_may.F.kp X._law_may.b .nil pass0 (pa_cons (pv 7) pa_nil)) (pa_cons (pe_callB call_abs (by rfl) X.b_abs bt_abs (pa_cons (pe_op op_sub (pv 9) (pv 10)) pa_nil)) pa_nil)))))) pa_nil))))) (pss_one (ps_ret pe_bl)) pss_nil) (pss_cons (ps_if (pt_cmpR (neA K rfl hr) (pe_lc (own := [("ring", 11)]) rfl sc_law.nd (pi_range2 (by rfl) X.b_range (pa_cons (pe_un un_neg pe_int) (pa_cons (pe_op (addA K rfl) (pv 2) pe_int) pa_nil))) (blkOk_by (N := N_law) (sc := defScope s_law) (by decide +kernel)) (fun _ _ _ _ _ => (pg_name (i := 11) sc_law.nd rfl (by first | exact Or.inl rfl | exact Or.inr rfl))) (fun _ _ _ _ _ => (pts_one (pt_cmpR (neA K rfl hr) (pe_call (ok__law_told (T := T) X) (hr.mono (by decide)) (by rfl) X._law_told.m X._law_told.F.kp X._law_told.b .nil pass0 (pa_cons pe_int (pa_cons (pv 7) (pa_cons (pv 11) pa_nil)))) (pe_ifExp (pt_cmpR (inB K rfl hr) (pv 11) (pe_call (ok__law_may (T := T) X) (hr.mono (by decide)) (by rfl) X._law_may.m X._law_may.F.kp X._law_may.b .nil pass0 (pa_cons (pv 7) pa_nil)) (by with_unfolding_all rfl)) (pe_call (ok__law_behind (T := T) X) (hr.mono (by decide)) (by rfl) X._law_behind.m X._law_behind.F.kp X._law_behind.b .nil pass0 (pa_cons (pv 7) (pa_cons (pv 11) pa_nil))) pe_str) (nomark _)))) (fun _ _ _ _ _ => (pv 11))) (pe_lst pa_nil) (nomark _)) (pss_one (ps_ret pe_bl)) pss_nil) (pss_cons (ps_set (i := 3) sc_law.nd rfl (by first | exact Or.inl rfl | exact Or.inr rfl) (pv 7)) (pss_cons (ps_for PassesOwn.never rfl (pi_range1 (by rfl) X.b_range (pa_cons (pe_callB (call_min2 rfl) (by rfl) X.b_min bt_min (pa_cons (pe_callB call_abs (by rfl) X.b_abs bt_abs (pa_cons (pe_op op_sub (pv 9) (pv 10)) pa_nil)) (pa_cons pe_int pa_nil))) pa_nil)) (pg_name (i := 4) sc_law.nd rfl (by first | exact Or.inl rfl | exact Or.inr rfl)) (pss_cons (ps_set (i := 11) sc_law.nd rfl (by first | exact Or.inl rfl | exact Or.inr rfl) (pe_callS (ok_first_ring (T := T) X) (hr.mono (by decide)) (by rfl) X.first_ring.m X.first_ring.F.kp X.first_ring.b (fun σ => L2N.passAt takes0N σ) (pa_cons (pv 3) (pa_cons (pv 8) pa_nil)))) (pss_cons (ps_if (pt_cmpR (ninB K rfl hr) (pv 11) (pe_call (ok__law_may (T := T) X) (hr.mono (by decide)) (by rfl) X._law_may.m X._law_may.F.kp X._law_may.b .nil pass0 (pa_cons (pv 3) pa_nil)) (by with_unfolding_all rfl)) (pss_one (ps_ret pe_bl)) pss_nil) (pss_cons (ps_set (i := 3) sc_law.nd rfl (by first | exact Or.inl rfl | exact Or.inr rfl) (pe_call (ok__law_behind (T := T) X) (hr.mono (by decide)) (by rfl) X._law_behind.m X._law_behind.F.kp X._law_behind.b .nil pass0 (pa_cons (pv 3) (pa_cons (pv 11) pa_nil)))) (pss_one (ps_if (pt_cmpR (neA K rfl hr) (pe_callB call_abs (by rfl) X.b_abs bt_abs (pa_cons (pe_op op_sub (pe_call (ok__law_place (T := T) X) (hr.mono (by decide)) (by rfl) X._law_place.m X._law_place.F.kp X._law_place.b .nil pass0 (pa_cons (pv 3) pa_nil)) (pv 10)) pa_nil)) (pe_op op_sub (pe_op op_sub (pe_callB call_abs (by rfl) X.b_abs bt_abs (pa_cons (pe_op op_sub (pv 9) (pv 10)) pa_nil)) pe_int) (pe_callTy call_intA (by rfl) X.b_int bt_int (pa_cons (pv 4) pa_nil))) (nomark _)) (pss_one (ps_ret pe_bl)) pss_nil)))))) (pss_cons (ps_if (pw_or (pt_cmpR op_notN (pe_callS (ok_first_ring (T := T) X) (hr.mono (by decide)) (by rfl) X.first_ring.m X.first_ring.F.kp X.first_ring.b (fun σ => L2N.passAt takes0N σ) (pa_cons (pv 8) (pa_cons (pv 8) pa_nil))) pe_non (nomark _)) (pw_or1 (pt_not (pt_val (pe_call (ok__law_alike (T := T) X 8) (hr.mono (by decide)) (by rfl) X._law_alike.m X._law_alike.F.kp X._law_alike.b .nil pass0 (pa_cons (pe_callS (ok_bar_at (T := T) X) (hr.mono (by decide)) (by rfl) X.bar_at.m X.bar_at.F.kp X.bar_at.b (fun σ => L2N.passAt takes0N σ) (pa_cons (pv 2) (pa_cons (pv 10) pa_nil))) (pa_cons (pv 8) pa_nil))))))).pt (pss_one (ps_ret pe_bl)) pss_nil) (pss_cons (ps_set (i := 5) sc_law.nd rfl (by first | exact Or.inl rfl | exact Or.inr rfl) (pe_call (ok__law_whole (T := T) X) (hr.mono (by decide)) (by rfl) X._law_whole.m X._law_whole.F.kp X._law_whole.b .nil pass0 (pa_cons (pe_op (mulB K rfl) (pe_tup (pa_cons pe_int pa_nil)) (pv 2)) pa_nil))) (pss_cons (ps_if (pw_or (pt_cmpR (neA K rfl hr) (pe_lc (own := [("number", 12), ("place", 6)]) rfl sc_law.nd (seqA K rfl (pe_lst (pa_cons (pe_tup (pa_cons (pv 2) (pa_cons (pv 5) pa_nil))) (pa_cons (pe_tup (pa_cons (pv 2) (pa_cons (pe_un un_neg pe_int) pa_nil))) (pa_cons (pe_tup (pa_cons pe_int (pa_cons pe_int pa_nil))) (pa_cons (pe_tup (pa_cons pe_int (pa_cons pe_int pa_nil))) pa_nil)))))) (blkOk_by (N := N_law) (sc := defScope s_law) (by decide +kernel)) (fun _ _ _ _ _ => (tupA (n := 2) K rfl rfl (pgs_cons (pg_name (i := 12) sc_law.nd rfl (by first | exact Or.inl rfl | exact Or.inr rfl)) (pgs_cons (pg_name (i := 6) sc_law.nd rfl (by first | exact Or.inl rfl | exact Or.inr rfl)) pgs_nil)))) (fun _ _ _ _ _ => pts_nil) (fun _ _ _ _ _ => (pe_call (ok__law_told (T := T) X) (hr.mono (by decide)) (by rfl) X._law_told.m X._law_told.F.kp X._law_told.b .nil pass0 (pa_cons pe_int (pa_cons (pv 12) (pa_cons (pv 6) pa_nil)))))) (pe_op (mulB K rfl) (pe_lst (pa_cons pe_str pa_nil)) pe_int) (nomark _)) (pw_or1 (pt_not (pt_val (pe_call (ok__law_alike (T := T) X 8) (hr.mono (by decide)) (by rfl) X._law_alike.m X._law_alike.F.kp X._law_alike.b .nil pass0 (pa_cons (pe_callS (ok_bar_at (T := T) X) (hr.mono (by decide)) (by rfl) X.bar_at.m X.bar_at.F.kp X.bar_at.b (fun σ => L2N.passAt takes0N σ) (pa_cons (pv 2) (pa_cons (pe_op op_sub (pv 5) pe_int) pa_nil))) (pa_cons (pe_call (ok__law_bar_of (T := T) X) (hr.mono (by decide)) (by rfl) X._law_bar_of.m X._law_bar_of.F.kp X._law_bar_of.b .nil pass0 (pa_cons (pv 2) (pa_cons (pe_op op_sub (pv 5) pe_int) pa_nil))) pa_nil))))))).pt (pss_one (ps_ret pe_bl)) pss_nil) (pss_cons (ps_if (pt_cmpR (neA K rfl hr) (pe_lc (own := [("value", 13)]) rfl sc_law.nd (seqA K rfl (pe_lst (pa_cons (pe_tup pa_nil) (pa_cons (pe_op (addA K rfl) (pv 7) (pe_op (mulB K rfl) (pe_tup (pa_cons pe_int pa_nil)) pe_int)) (pa_cons (pe_callTy (listA K rfl) (by rfl) X.b_list bt_list (pa_cons (pv 7) pa_nil)) (pa_cons (pe_op (addA K rfl) (pe_slice (slB K rfl) (pv 7) (po_some pe_int) po_none) (pe_tup (pa_cons pe_int pa_nil))) (pa_cons (pe_op (addA K rfl) (pe_slice (slB K rfl) (pv 7) (po_some pe_int) po_none) (pe_tup (pa_cons (pe_un un_neg pe_int) pa_nil))) (pa_cons (pe_op (addA K rfl) (pe_slice (slB K rfl) (pv 7) (po_some pe_int) po_none) (pe_tup (pa_cons pe_bl pa_nil))) pa_nil)))))))) (blkOk_by (N := N_law) (sc := defScope s_law) (by decide +kernel)) (fun _ _ _ _ _ => (pg_name (i := 13) sc_law.nd rfl (by first | exact Or.inl rfl | exact Or.inr rfl))) (fun _ _ _ _ _ => (pts_one (pt_cmpR op_notBl (pe_call (ok_is_bar (T := T) X tb) (hr.mono (by decide)) (by rfl) X.is_bar.m X.is_bar.F.kp X.is_bar.b .nil pass0 (pa_cons (pv 13) pa_nil)) pe_bl (nomark _)))) (fun _ _ _ _ _ => (pv 13))) (pe_lst pa_nil) (nomark _)) (pss_one (ps_ret pe_bl)) pss_nil) (pss_cons (ps_set (i := 6) sc_law.nd rfl (by first | exact Or.inl rfl | exact Or.inr rfl) (pe_op op_mod (pe_op (mulB K rfl) (pe_op (mulB K rfl) (pe_call (ok__law_take (T := T) X) (hr.mono (by decide)) (by rfl) X._law_take.m X._law_take.F.kp X._law_take.b .nil pass0 (pa_cons (pv 1) (pa_cons pe_int pa_nil))) (pe_call (ok__law_take (T := T) X) (hr.mono (by decide)) (by rfl) X._law_take.m X._law_take.F.kp X._law_take.b .nil pass0 (pa_cons (pv 1) (pa_cons pe_int pa_nil)))) (pe_call (ok__law_take (T := T) X) (hr.mono (by decide)) (by rfl) X._law_take.m X._law_take.F.kp X._law_take.b .nil pass0 (pa_cons (pv 1) (pa_cons pe_int pa_nil)))) (pv 5))) (pss_one (ps_ret (pe_and (pe_call (ok__law_alike (T := T) X 8) (hr.mono (by decide)) (by rfl) X._law_alike.m X._law_alike.F.kp X._law_alike.b .nil pass0 (pa_cons (pe_lst (pa_cons (pe_callS (ok_bar_at (T := T) X) (hr.mono (by decide)) (by rfl) X.bar_at.m X.bar_at.F.kp X.bar_at.b (fun σ => L2N.passAt takes0N σ) (pa_cons (pv 2) (pa_cons (pv 6) pa_nil))) (pa_cons (pe_call (ok_place_of_bar (T := T) X) (hr.mono (by decide)) (by rfl) X.place_of_bar.m X.place_of_bar.F.kp X.place_of_bar.b .nil pass0 (pa_cons (pe_callS (ok_bar_at (T := T) X) (hr.mono (by decide)) (by rfl) X.bar_at.m X.bar_at.F.kp X.bar_at.b (fun σ => L2N.passAt takes0N σ) (pa_cons (pv 2) (pa_cons (pv 6) pa_nil))) pa_nil)) pa_nil))) (pa_cons (pe_lst (pa_cons (pe_call (ok__law_bar_of (T := T) X) (hr.mono (by decide)) (by rfl) X._law_bar_of.m X._law_bar_of.F.kp X._law_bar_of.b .nil pass0 (pa_cons (pv 2) (pa_cons (pv 6) pa_nil))) (pa_cons (pv 6) pa_nil))) pa_nil))) (pe_one (pe_callS (ok__law_words (T := T) X tb) (hr.mono (by decide)) (by rfl) X._law_words.m X._law_words.F.kp X._law_words.b (fun σ => L2N.passAt takes0N σ) (pa_cons (pv 1) pa_nil)))))))))))))))))))), fun as O0 Φ Ψ ⟨ns, e, hns, hΦ⟩ => ?_⟩
  subst e
  show StW _ _ [some _, none, none, none, none, none, none, none, none, none, none, none, none, none] _ _
  walk_at "ss"
  refine ⟨ns, rfl, hns, fun dq r hdq => ?_⟩
  walk_at "ss"
  refine ev_lstD ?_
  walk_at "ss"
  refine ⟨_, .cons (.cons (.cons (.cons (.cons (.cons (.cons (.cons .nil))))))), by show 8 ≤ 1000; decide, ?_⟩
  walk_at "ss"
  refine ⟨dq, 8, r, rfl, by decide, updO_same, fun x r h0 h1 => ?_⟩
  rw [updO_updO]
  obtain ⟨n, hn1, hn2, hix⟩ := sizes8 h0 h1
  refine ow_ixBL hix ?_
  have hpn := pow60 hn2
  have hpn0 : (0 : Int) < 2 ^ n := Int.pow_pos (by decide)
  refine st_seq (st_pairA ?_)
  walk_at "ss"
  refine ⟨dq, n, r, rfl, hn1, hn2, updO_same, fun l r hl hlen => ?_⟩
  rw [updO_updO]
  walk_at "ss"
  refine ⟨dq, n, r, rfl, hn1, hn2, updO_same, fun m0 r hm0 hmlen0 => ?_⟩
  rw [updO_updO]
  walk_at "s"
  refine ⟨_, _, rfl, ?_⟩
  walk_at "n"
  refine st_cut (fun ps' O' => ∃ (m : List Int) (r : List Int), Ok m ∧ m.length = n ∧ O' = updO O0 dq (drw r) ∧ ps' = [some (.s ns), some (.v (.ref dq)), some (.d (.int (n : Int))), none, none, none, none, some (.f (twl l)), some (.f (twl m)), none, none, none, none, none]) ?_ ?_
  · walk_at "ss"
    refine ⟨dq, 2, r, rfl, by decide, updO_same, fun x r h0 h1 => ?_⟩
    rw [updO_updO]
    walk_at "ss"
    refine ite_dec (fun hx => ?_) (fun hx => ?_)
    · walk_at "ss"
      refine ⟨dq, n, r, rfl, by omega, updO_same, fun y r h0 h1 => ?_⟩
      rw [updO_updO]
      obtain ⟨j, rfl⟩ := Int.eq_ofNat_of_zero_le h0
      walk_at "ss"
      refine ⟨l, j, rfl, by omega, by omega, ?_⟩
      exact ⟨beh l j, r, beh_ok hl j, by rw [beh_len]; exact hlen, rfl, rfl⟩
    · exact st_next ⟨m0, r, hm0, hmlen0, rfl, rfl⟩
  rintro ps' O' ⟨m, r, hm, hmlen, rfl, rfl⟩
  have hbl := place_bd hl
  have hbm := place_bd hm
  rw [hlen] at hbl
  rw [hmlen] at hbm
  have hlne : l ≠ [] := fun z => by rw [z, List.length_nil] at hlen; omega
  have hmne : m ≠ [] := fun z => by rw [z, List.length_nil] at hmlen; omega
  walk_at "ss"
  refine ⟨l, rfl, hl, by omega, ?_⟩
  walk_at "ss"
  refine ⟨m, rfl, hm, by omega, ?_⟩
  refine ea_nil ⟨_, _, rfl, ?_⟩
  walk_at "n"
  walk_at "ss"
  refine ev_lstD ?_
  walk_at "ss"
  refine ⟨l, rfl, hl, by omega, ?_⟩
  walk_at "ss"
  refine ⟨m, rfl, hm, by omega, ?_⟩
  walk_at "ss"
  refine ev_callS (Ξ := fun _ _ _ => False) (esc0 fun _ _ _ z => z) ?_
  walk_at "ss"
  refine ⟨n, place l, rfl, fun k e _ _ _ _ => ?_, fun z => z ⟨by omega, by omega, hbl.1, by rw [Int.toNat_natCast]; exact hbl.2⟩⟩
  have ek : n = k := by omega
  subst ek
  have eb := barOf_place hl
  rw [hlen] at eb
  rw [eb]
  refine ea_cons (ev_call (ea_cons (ev_var rfl (ea_nil ⟨l, rfl, ?_⟩))))
  walk_at "ss"
  refine ⟨l, m, rfl, hl, hm, by omega, by omega, ?_⟩
  walk_at "ss"
  refine ⟨_, .cons (.cons (.cons (.cons (.cons .nil)))), by show 5 ≤ 1000; decide, ?_⟩
  walk_at "ss"
  refine ev_lstD ?_
  walk_at "ss"
  refine ⟨l, rfl, by omega, ?_⟩
  walk_at "ss"
  refine ⟨_, .cons (.cons (.cons (.cons (.cons .nil)))), by show 5 ≤ 1000; decide, ?_⟩
  walk_at "ss"
  refine ⟨_, rfl, .inr ⟨_, .inl rfl, by show 5 ≤ 100000; decide, fun x hx => ?_⟩, ?_⟩
  · simp only [List.mem_cons, List.not_mem_nil, or_false] at hx
    rcases hx with rfl | rfl | rfl | rfl | rfl
    · exact Cl.flt trivial
    · exact Cl.flt trivial
    · exact cl_tw _ (by omega)
    · exact cl_lw _ (by have := mayI_len l; omega)
    · exact Cl.flt trivial
  walk_at "ss"
  refine ev_lc (is_rng2 ?_)
  walk_at "ss"
  refine ⟨-1, (n : Int) + 2, rfl, by omega, ?_⟩
  refine ⟨fun i acc O' => O' = updO O0 dq (drw r) ∧ acc = [], ⟨rfl, rfl⟩, fun _ _ _ _ _ _ _ => trivial, ?_, ?_⟩
  · rintro q2 i acc O' hi ⟨rfl, rfl⟩ hq2
    refine ⟨by show 0 < sizeLine; decide, ?_⟩
    show GWj _ _ (.d (.int (-1 + (i : Int)))) _ _ _ _
    generalize -1 + (i : Int) = ring
    walk_at "n"
    refine gj_name (by decide) (et_test (ev_op (ev_call (ea_cons (ev_int (ea_cons (ev_var rfl (ea_cons (ev_var rfl (ea_nil ?_)))))))))) 
    by_cases hmem : ring ∈ mayI l
    · obtain ⟨k, hk, rfl⟩ := mem_mayI.mp hmem
      have hkl := mayL_lt hlne hk
      refine ⟨_, .turn l k hlne (by omega) hk, ?_⟩
      walk_at "ss"
      refine ⟨l, rfl, by omega, ?_⟩
      refine ow_inLI ?_
      walk_at "ss"
      refine ite_yes (decide_eq_true hmem) ?_
      walk_at "ss"
      refine ⟨l, k, rfl, hkl, by omega, ?_⟩
      refine ow_fr (ow_neTw ?_)
      walk_at "ss"
      refine ite_no (by rw [decide_eq_true rfl]; rfl) ?_
      exact ⟨_, rfl, hq2, rfl, rfl⟩
    · refine ⟨_, .refused l ring hlne (by omega) hmem, ?_⟩
      walk_at "ss"
      refine ⟨l, rfl, by omega, ?_⟩
      refine ow_inLI ?_
      walk_at "ss"
      refine ite_no (decide_eq_false hmem) ?_
      walk_at "ss"
      refine ow_neD (by decide +kernel) (by decide +kernel) ?_
      walk_at "ss"
      refine ite_no (by decide +kernel) ?_
      exact ⟨_, rfl, hq2, rfl, rfl⟩
  rintro q2 acc O' ⟨rfl, rfl⟩ hq2
  refine .inr ⟨[], rfl, ?_⟩
  refine ev_lstD ?_
  walk_at "ss"
  refine ⟨[], .nil, by show 0 ≤ 1000; decide, ?_⟩
  refine ow_neD rfl rfl ?_
  refine ⟨_, rfl, ?_⟩
  refine ite_no (by rfl) ?_
  refine st_next ?_
  refine st_seq (st_set (ev_var rfl ?_))
  walk_at "n"
  walk_at "s"
  refine st_for (is_rngN ?_)
  walk_at "ss"
  have eD : ∀ a b : List Int, (if place a - place b < 0 then -(place a - place b) else place a - place b) = dist a b := fun _ _ => rfl
  have hD0 := dist_nn l m
  rw [eD]
  obtain ⟨N, hN, hNle, hN60⟩ : ∃ N : Nat, (if 60 < dist l m then 60 else dist l m) = (N : Int) ∧ (N : Int) ≤ dist l m ∧ N ≤ 60 := by
    by_cases h : 60 < dist l m
    · exact ⟨60, by rw [if_pos h]; rfl, by omega, by omega⟩
    · exact ⟨(dist l m).toNat, by rw [if_neg h]; omega, by omega, by omega⟩
  rw [hN]
  refine ⟨N, rfl, by omega, ?_⟩
  refine ⟨fun i ps' O' => ∃ (l' : List Int) (z4 z11 : Option AV), Ok l' ∧ l'.length = n ∧ dist l' m = dist l m - (i : Int) ∧ O' = updO O0 dq (drw r) ∧ ps' = [some (.s ns), some (.v (.ref dq)), some (.d (.int (n : Int))), some (.f (twl l')), z4, none, none, some (.f (twl l)), some (.f (twl m)), some (.d (.int (place l))), some (.d (.int (place m))), z11, none, none], ⟨l, none, none, hl, hlen, by omega, rfl, rfl⟩, fun _ _ _ _ _ => trivial, ?_, ?_⟩
  · rintro i ps' O' hi ⟨l', z4, z11, hl', hlen', hd', rfl, rfl⟩
    have hi' : i < N := hi
    have hne : l' ≠ m := fun z => by rw [z, dist_self] at hd'; omega
    have hlne' : l' ≠ [] := fun z => by rw [z, List.length_nil] at hlen'; omega
    refine g_name ?_
    walk_at "n"
    refine st_seq (st_set (ev_callS (Ξ := fun _ _ _ => False) (esc0 fun _ _ _ z => z) (ea_cons (ev_var rfl (ea_cons (ev_varF rfl (ea_nil ?_)))))))
    refine ⟨l', m, rfl, hl', hm, by omega, by omega, fun z => absurd z hne, fun _ k hk hdk => ?_⟩
    have hkl := mayL_lt hlne' hk
    walk_at "ss"
    refine ⟨l', rfl, by omega, ?_⟩
    refine ow_ninLI ?_
    walk_at "ss"
    refine ite_no (by rw [decide_eq_true (mem_mayI.mpr ⟨k, hk, rfl⟩)]; rfl) ?_
    walk_at "ss"
    refine ⟨l', k, rfl, hkl, by omega, ?_⟩
    walk_at "ss"
    refine ⟨beh l' k, rfl, beh_ok hl' k, by rw [beh_len]; omega, ?_⟩
    walk_at "ss"
    rw [eD, eD, hdk, hd']
    refine ite_no (by rw [decide_eq_true (by omega)]; rfl) ?_
    exact st_next ⟨beh l' k, _, _, beh_ok hl' k, by rw [beh_len]; exact hlen', by rw [hdk, hd']; omega, rfl, rfl⟩
  rintro ps' O' ⟨l', z4, z11, hl', hlen', hd', rfl, rfl⟩
  refine st_seq ?_
  walk_at "s"
  walk_at "s"
  refine et_test (ev_op (ev_callS (Ξ := fun _ _ _ => False) (esc0 fun _ _ _ z => z) (ea_cons (ev_var rfl (ea_cons (ev_varF rfl (ea_nil ?_)))))))
  refine ⟨m, m, rfl, hm, hm, by omega, rfl, fun _ => ?_, fun z => absurd rfl z⟩
  walk_at "ss"
  refine ite_no (by rfl) ?_
  walk_at "ss"
  refine ev_callS (Ξ := fun _ _ _ => False) (esc0 fun _ _ _ z => z) ?_
  walk_at "ss"
  refine ⟨n, place m, rfl, fun k e _ _ _ _ => ?_, fun z => z ⟨by omega, by omega, hbm.1, by rw [Int.toNat_natCast]; exact hbm.2⟩⟩
  have ek : n = k := by omega
  subst ek
  have ebm := barOf_place hm
  rw [hmlen] at ebm
  rw [ebm]
  walk_at "ss"
  refine ⟨_, rfl, cl_tw _ (by omega), ?_⟩
  walk_at "ss"
  refine ev_tupD ?_
  walk_at "ss"
  refine ⟨_, .cons .nil, by show 1 ≤ 1000; decide, ?_⟩
  walk_at "ss"
  refine ow_mulBT (by simp) (by omega) (by omega) (by show 1 ≤ 1000; decide) ?_
  rw [Int.toNat_natCast, rep_tw]
  walk_at "ss"
  refine ⟨_, rfl, Cw.base_two n, by rw [List.length_replicate]; omega, ?_⟩
  rw [Cw.whole_two]
  walk_at "ss"
  refine ev_lc (is_seq (ev_lstD ?_))
  walk_at "ss"
  refine ev_tupD ?_
  walk_at "ss"
  refine ⟨_, .cons (.cons .nil), by show 2 ≤ 1000; decide, ?_⟩
  walk_at "ss"
  refine ev_tupD ?_
  walk_at "ss"
  refine ⟨_, .cons (.cons .nil), by show 2 ≤ 1000; decide, ?_⟩
  walk_at "ss"
  refine ev_tupD ?_
  walk_at "ss"
  refine ⟨_, .cons (.cons .nil), by show 2 ≤ 1000; decide, ?_⟩
  walk_at "ss"
  refine ev_tupD ?_
  walk_at "ss"
  refine ⟨_, .cons (.cons .nil), by show 2 ≤ 1000; decide, ?_⟩
  walk_at "ss"
  refine ⟨_, .cons (.cons (.cons (.cons .nil))), by show 4 ≤ 1000; decide, ?_⟩
  refine ⟨[((n : Int), (2 : Int) ^ n), ((n : Int), -1), (0, 0), (61, 0)].map prs, .inl rfl, ?_⟩
  have hbad : ∀ x ∈ [((n : Int), (2 : Int) ^ n), ((n : Int), -1), (0, 0), (61, 0)], ¬ (1 ≤ x.1 ∧ x.1 ≤ 60 ∧ 0 ≤ x.2 ∧ x.2 < 2 ^ x.1.toNat) := by
    intro x hx
    simp only [List.mem_cons, List.not_mem_nil, or_false] at hx
    rcases hx with rfl | rfl | rfl | rfl
    · intro z
      have := z.2.2.2
      rw [Int.toNat_natCast] at this
      omega
    · intro z
      have := z.2.2.1
      omega
    · intro z
      have := z.1
      omega
    · intro z
      have := z.2.1
      omega
  have h4 : [((n : Int), (2 : Int) ^ n), ((n : Int), -1), (0, 0), (61, 0)].length = 4 := rfl
  generalize [((n : Int), (2 : Int) ^ n), ((n : Int), -1), (0, 0), (61, 0)] = Ls at hbad h4 ⊢
  refine ⟨fun i acc O' => O' = updO O0 dq (drw r) ∧ acc = ds (List.replicate i (.str "range")), ⟨rfl, rfl⟩, fun _ _ _ _ _ _ _ => trivial, ?_, ?_⟩
  · rintro q2 i acc O' hi ⟨rfl, rfl⟩ hq2
    have hi' : i < Ls.length := by
      have : i < (Ls.map prs).length := hi
      rwa [List.length_map] at this
    refine ⟨by rw [List.length_map, List.length_replicate, sizeLine_eq]; omega, ?_⟩
    show GWj _ _ (.d ((Ls.map prs).getD i .none)) _ _ _ _
    rw [prs_at hi']
    walk_at "n"
    refine gj_pair ?_
    walk_at "ss"
    refine ⟨_, .bar _ _ (hbad _ (List.getElem_mem hi')), ?_⟩
    refine ⟨_, rfl, hq2, rfl, ?_⟩
    rw [ds_snoc, List.replicate_succ']
  rintro q2 acc O' ⟨rfl, rfl⟩ hq2
  refine .inr ⟨_, rfl, ?_⟩
  rw [List.length_map, h4]
  walk_at "ss"
  refine ev_lstD ?_
  walk_at "ss"
  refine ⟨_, .cons .nil, by show 1 ≤ 1000; decide, ?_⟩
  walk_at "ss"
  refine ow_mulBL (by decide) (by decide) (by show 1 * 4 ≤ sizeLine; rw [sizeLine_eq]; decide) ?_
  refine ow_neD (by decide +kernel) (by decide +kernel) ?_
  rw [show PyData.eqv (.list (List.replicate 4 (.str "range"))) (.list (List.replicate (Int.toNat 4) [PyData.str "range"]).flatten) = true from by decide +kernel]
  walk_at "ss"
  refine ev_callS (Ξ := fun _ _ _ => False) (esc0 fun _ _ _ z => z) ?_
  walk_at "ss"
  refine ⟨n, 2 ^ n - 1, rfl, fun k e _ _ _ _ => ?_, fun z => z ⟨by omega, by omega, by omega, by rw [Int.toNat_natCast]; omega⟩⟩
  have ek : n = k := by omega
  subst ek
  walk_at "ss"
  refine ⟨n, 2 ^ n - 1, rfl, hn2, by omega, by omega, ?_⟩
  walk_at "ss"
  refine ⟨_, rfl, cl_tw _ (by rw [barOf_len]; omega), ?_⟩
  walk_at "ss"
  have fl : ∀ {x : PyData} {t : List Int} {l2 : List PyData}, flatD x = true → PyData.tuple (twl t ++ [x]) = .tuple l2 → ∀ y ∈ l2, flatD y = true := by
    intro x t l2 hx e y hy
    have e2 := PyData.tuple.inj e
    subst e2
    rcases List.mem_append.mp hy with hy | hy
    · exact flat_tw t _ rfl y hy
    · rw [List.mem_singleton.mp hy]; exact hx
  have hbad2 : ∀ d ∈ [PyData.tuple [], tw (l ++ List.replicate 61 0), lw l, .tuple (twl (l.drop 1) ++ [.int 2]), .tuple (twl (l.drop 1) ++ [.int (-1)]), .tuple (twl (l.drop 1) ++ [.bool true])], (∀ kvs, d ≠ .dict kvs) ∧ (∀ l, d = .tuple l → ∀ x ∈ l, flatD x = true) ∧ allIn 0 1 60 d = false := by
    intro d hd
    simp only [List.mem_cons, List.not_mem_nil, or_false] at hd
    rcases hd with rfl | rfl | rfl | rfl | rfl | rfl
    · exact ⟨fun _ z => (by cases z), flat_tw [], rfl⟩
    · exact ⟨fun _ z => (by cases z), flat_tw _, Cw.allIn_len (by rw [List.length_map, List.length_append, List.length_replicate]; omega)⟩
    · exact ⟨fun _ z => (by cases z), fun l e => (by cases e), rfl⟩
    · exact ⟨fun _ z => (by cases z), fun l e => fl rfl e, Cw.allIn_bad (d := .int 2) (by simp) rfl⟩
    · exact ⟨fun _ z => (by cases z), fun l e => fl rfl e, Cw.allIn_bad (d := .int (-1)) (by simp) rfl⟩
    · exact ⟨fun _ z => (by cases z), fun l e => fl rfl e, Cw.allIn_bad (d := .bool true) (by simp) rfl⟩
  refine none_lc (c := cb0 K T) (l := [PyData.tuple [], tw (l ++ List.replicate 61 0), lw l, .tuple (twl (l.drop 1) ++ [.int 2]), .tuple (twl (l.drop 1) ++ [.int (-1)]), .tuple (twl (l.drop 1) ++ [.bool true])]) (fun Φ' h => ?_) (fun d hd O' Φ' h => ?_) ?_
  · refine ev_lstD ?_
    walk_at "ss"
    refine ev_tupD ?_
    walk_at "ss"
    refine ⟨[], .nil, by show 0 ≤ 1000; decide, ?_⟩
    walk_at "ss"
    refine ev_tupD ?_
    walk_at "ss"
    refine ⟨_, .cons .nil, by show 1 ≤ 1000; decide, ?_⟩
    walk_at "ss"
    refine ow_mulBT (by simp) (by omega) (by omega) (by show 1 ≤ 1000; decide) ?_
    rw [show (List.replicate (Int.toNat 61) [PyData.int 0]).flatten = twl (List.replicate 61 0) from rep_tw 0 61]
    refine ow_addTI (by rw [List.length_replicate]; omega) ?_
    walk_at "ss"
    refine cw_listT ?_
    walk_at "ss"
    refine sw_dropT (d := 1) (by omega) (by omega) ?_
    walk_at "ss"
    refine ev_tupD ?_
    walk_at "ss"
    refine ⟨_, .cons .nil, by show 1 ≤ 1000; decide, ?_⟩
    refine ow_addT (by rw [List.length_map, List.length_drop, sizeLine_eq]; show _ + 1 ≤ _; omega) ?_
    walk_at "ss"
    refine sw_dropT (d := 1) (by omega) (by omega) ?_
    walk_at "ss"
    refine ev_tupD ?_
    walk_at "ss"
    refine ⟨_, .cons .nil, by show 1 ≤ 1000; decide, ?_⟩
    refine ow_addT (by rw [List.length_map, List.length_drop, sizeLine_eq]; show _ + 1 ≤ _; omega) ?_
    walk_at "ss"
    refine sw_dropT (d := 1) (by omega) (by omega) ?_
    walk_at "ss"
    refine ev_tupD ?_
    walk_at "ss"
    refine ⟨_, .cons .nil, by show 1 ≤ 1000; decide, ?_⟩
    refine ow_addT (by rw [List.length_map, List.length_drop, sizeLine_eq]; show _ + 1 ≤ _; omega) ?_
    walk_at "ss"
    exact ⟨_, .cons (.cons (.cons (.cons (.cons (.cons .nil))))), by show 6 ≤ 1000; decide, h⟩
  · walk_at "ss"
    refine ⟨d, rfl, (hbad2 d hd).1, (hbad2 d hd).2.1, ?_⟩
    rw [(hbad2 d hd).2.2]
    exact h
  refine ev_lstD ?_
  walk_at "ss"
  refine ⟨[], .nil, by show 0 ≤ 1000; decide, ?_⟩
  refine ow_neD rfl rfl ?_
  walk_at "ss"
  refine ite_no (by rfl) ?_
  walk_at "ss"
  refine ⟨dq, 1000003, r, rfl, by decide, updO_same, fun x1 r a1 b1 => ?_⟩
  rw [updO_updO]
  walk_at "ss"
  refine ⟨dq, 1000003, r, rfl, by decide, updO_same, fun x2 r a2 b2 => ?_⟩
  rw [updO_updO]
  walk_at "ss"
  · exact cm_l (by omega) (by omega)
  refine ⟨dq, 1000003, r, rfl, by decide, updO_same, fun x3 r a3 b3 => ?_⟩
  rw [updO_updO]
  refine ow_mulBS (cm_r (by omega) (by omega)) ?_
  walk_at "ss"
  refine ow_I (by omega) ?_
  have m0 := Int.emod_nonneg (x1 * x2 * x3) (show (2 : Int) ^ n ≠ 0 by omega)
  have m1 := Int.emod_lt_of_pos (x1 * x2 * x3) hpn0
  generalize x1 * x2 * x3 % 2 ^ n = pp at m0 m1
  walk_at "ss"
  refine ev_lstD ?_
  walk_at "ss"
  refine ev_callS (Ξ := fun _ _ _ => False) (esc0 fun _ _ _ z => z) ?_
  walk_at "ss"
  refine ⟨n, pp, rfl, fun k e _ _ _ _ => ?_, fun z => z ⟨by omega, by omega, m0, by rw [Int.toNat_natCast]; exact m1⟩⟩
  have ek : n = k := by omega
  subst ek
  walk_at "ss"
  refine ev_callS (Ξ := fun _ _ _ => False) (esc0 fun _ _ _ z => z) ?_
  walk_at "ss"
  refine ⟨n, pp, rfl, fun k e _ _ _ _ => ?_, fun z => z ⟨by omega, by omega, m0, by rw [Int.toNat_natCast]; exact m1⟩⟩
  have ek : n = k := by omega
  subst ek
  walk_at "ss"
  refine ⟨barOf n pp, rfl, barOf_ok n pp, by rw [barOf_len]; omega, ?_⟩
  rw [place_barOf n pp m0 m1]
  walk_at "ss"
  refine ⟨_, .cons (.cons .nil), by show 2 ≤ 1000; decide, ?_⟩
  walk_at "ss"
  refine ev_lstD ?_
  walk_at "ss"
  refine ⟨n, pp, rfl, hn2, m0, m1, ?_⟩
  walk_at "ss"
  refine ⟨_, .cons (.cons .nil), by show 2 ≤ 1000; decide, ?_⟩
  walk_at "ss"
  refine ⟨_, rfl, .inr ⟨_, .inl rfl, by show 2 ≤ 100000; decide, fun x hx => ?_⟩, ?_⟩
  · simp only [List.mem_cons, List.not_mem_nil, or_false] at hx
    rcases hx with rfl | rfl
    · exact cl_tw _ (by rw [barOf_len]; omega)
    · exact Cl.flt trivial
  walk_at "ss"
  refine ev_callS (Ξ := fun _ _ _ => False) (esc0 fun _ _ _ z => z) ?_
  walk_at "ss"
  refine ⟨dq, r, rfl, updO_same, fun r => ?_⟩
  rw [updO_updO]
  exact ⟨O0, OLe.up hdq, hΦ⟩
end
end BL

set_option Elab.async false
set_option linter.all false
set_option maxRecDepth 100000
set_option maxHeartbeats 4000000
namespace BL
open PySem PySem.Spec PyProof.Rows L2 HotX L2H
theorem cls_ref {K : PySem.W.Frag} {C D : Addr} {v : Bool} (h1 : PySem.W.isClsIn K D = true) (h2 : PySem.W.typeIn K (.ref D) = some (.type "type")) (h3 : PySem.W.subIn K (.ref C) (.ref D) = some v) : PySem.W.kitCls K (.ref C) (.ref D) = some v := by
  have h1' : (PySem.W.clsIn K D).isSome = true := h1
  have e : ((PySem.W.clsIn K D).isSome && PySem.W.typeIn K (.ref D) == some (.type "type")) = true := by rw [h1', h2]; rfl
  show (if ((PySem.W.clsIn K D).isSome && PySem.W.typeIn K (.ref D) == some (.type "type")) = true then PySem.W.subIn K (.ref C) (.ref D) else none) = some v
  rw [if_pos e]; exact h3
theorem exm_ref {K : PySem.W.Frag} {C D : Addr} {v : Bool} (h1 : PySem.W.isClsIn K D = true) (h2 : PySem.W.typeIn K (.ref D) = some (.type "type")) (h4 : PySem.W.subIn K (.ref D) (.type "BaseException") = some true) (h3 : PySem.W.subIn K (.ref C) (.ref D) = some v) : PySem.W.exmOne K (.ref C) (.ref D) = some v := by
  unfold PySem.W.exmOne
  rw [if_pos (by rw [h4]; rfl)]
  exact cls_ref h1 h2 h3
theorem kit_ref {K : PySem.W.Frag} {C D : Addr} {v : Bool} (h1 : PySem.W.isClsIn K D = true) (h2 : PySem.W.typeIn K (.ref D) = some (.type "type")) (h0 : PySem.W.subIn K (.ref C) (.ref C) = some true) (h3 : PySem.W.subIn K (.ref C) (.ref D) = some v) : PySem.W.kitOne K (.ref C) (.ref D) = some v := by
  unfold PySem.W.kitOne
  by_cases e : (Value.ref C == Value.ref D) = true
  · rw [if_pos e]
    have e2 : Value.ref C = Value.ref D := eq_of_beq e
    cases e2
    exact h0.symm.trans h3
  · rw [if_neg e]
    exact cls_ref h1 h2 h3
theorem kit_ty {K : PySem.W.Frag} {C : Addr} {T : String} (h1 : PySem.W.kitMeta T = true) (h3 : PySem.W.subIn K (.ref C) (.type T) = some true) : PySem.W.kitOne K (.ref C) (.type T) = some true := by
  unfold PySem.W.kitOne
  split
  · rfl
  · show (if PySem.W.kitMeta T = true then PySem.W.subIn K (.ref C) (.type T) else none) = some true
    rw [if_pos h1]; exact h3
/-- no table of a code object that has not run is among K's objects -/
def noTabO : Obj → Bool
  | ⟨.none, _, .fields vs, _⟩ => !vs.isEmpty
  | _ => true
def noTab (K : PySem.W.Frag) : Bool := K.all fun e => noTabO e.2
theorem look_mem {K : PySem.W.Frag} {a : Addr} {o : Obj} (h : K.lookup a = some o) : ∃ b, (b, o) ∈ K := by
  induction K with
  | nil => cases h
  | cons e K ih =>
    obtain ⟨b, u⟩ := e
    rw [List.lookup_cons] at h
    split at h
    · cases h
      exact ⟨b, List.mem_cons_self⟩
    · obtain ⟨b, hb⟩ := ih h
      exact ⟨b, List.mem_cons_of_mem _ hb⟩
theorem no_tab {K : PySem.W.Frag} {h : Heap} {P : Addr} (nt : noTab K = true) (X : K.In h) (hP : h.get? P = some { cls := .none, data := .fields #[] }) : K.lookup P = none := by
  cases e : K.lookup P with
  | none => rfl
  | some o =>
    have e2 := X _ _ e
    rw [hP] at e2
    cases e2
    obtain ⟨b, hb⟩ := look_mem e
    have := List.all_eq_true.mp nt _ hb
    cases this
theorem tab_at {q : Program} {loose : List Str} {mean : ExcName → Option Value} {mg mb : Str → Option Value} {h : Heap} {K : PySem.W.Frag} {d : DefRec} {x : Str} {f : Addr} {oc : Value} {od : Option Addr} {fd : FuncData} {sl : Array (Option Value)} (T : Top q loose mean mg mb h) (X : K.In h) (hr : (recsOf q).find? (fun e => e.name == x) = some d)
    (hm : mg x = some (.ref f)) (hl : K.lookup f = some ⟨oc, od, .func fd, sl⟩) : ∃ c P, fd.code = .ref c ∧ PySem.W.CodeHd h c P ∧ h.get? P = some { cls := .none, data := .fields #[] } := by
  have hn : d.name = x := beq_iff_eq.mp (List.find?_some (p := fun e : DefRec => e.name == x) hr)
  obtain ⟨a, o, fd', c', P', h1, h2, h3, h4, h5, h6⟩ := T.tab d (List.mem_of_find?_eq_some hr)
  rw [hn, hm] at h1
  cases h1
  rw [X _ _ hl] at h2
  cases h2
  cases h3
  have h6' := h6
  obtain ⟨⟨oc, vs, g1, g2, g3, g4⟩, g5⟩ := h6'
  exact ⟨c', P', h4, PySem.W.CodeHd.of h5 h6, g5⟩
theorem all_mk {l : PySem.W.OpenLaw} {q : Program} {loose : List Str} {mean : ExcName → Option Value} {mb : Str → Option Value} {w : World} {K : PySem.W.Frag} {h : Heap} {mg : Str → Option Value} {fa : Addr} (Tp : Top q loose mean mg mb h) (X : K.In h) (G : h.Ns mainGlobals mg) (hfa : mg "law" = some (.ref fa))
    {f_is_number f_is_bar f_is_base f_is_code_word f_may_turn f_turned f_place_of_bar f_bar_at f_turns f_first_ring f_count_words f_word_at f_place_of_word f__law_draws f__law_take f__law_alike f__law_word f__law_place f__law_may f__law_behind f__law_bar_of f__law_word_place f__law_whole f__law_told f__law_bar f__law_words f_law C_RightError C_OutOfRange C_Malformed C_NotThere C_Refused C_TooMuch : Addr} {od_is_number an_is_number od_is_bar an_is_bar od_is_base an_is_base od_is_code_word an_is_code_word od_may_turn an_may_turn od_turned an_turned od_place_of_bar an_place_of_bar od_bar_at an_bar_at od_turns an_turns od_first_ring an_first_ring od_count_words an_count_words od_word_at an_word_at od_place_of_word an_place_of_word od__law_draws an__law_draws od__law_take an__law_take od__law_alike an__law_alike od__law_word an__law_word od__law_place an__law_place od__law_may an__law_may od__law_behind an__law_behind od__law_bar_of an__law_bar_of od__law_word_place an__law_word_place od__law_whole an__law_whole od__law_told an__law_told od__law_bar an__law_bar od__law_words an__law_words od_law an_law : Option Addr} {sl_is_number sl_is_bar sl_is_base sl_is_code_word sl_may_turn sl_turned sl_place_of_bar sl_bar_at sl_turns sl_first_ring sl_count_words sl_word_at sl_place_of_word sl__law_draws sl__law_take sl__law_alike sl__law_word sl__law_place sl__law_may sl__law_behind sl__law_bar_of sl__law_word_place sl__law_whole sl__law_told sl__law_bar sl__law_words sl_law : Array (Option Value)} {oc_is_number kV_is_number dc_is_number pm_is_number cd_is_number ct_is_number oc_is_bar kV_is_bar dc_is_bar pm_is_bar cd_is_bar ct_is_bar oc_is_base kV_is_base dc_is_base pm_is_base cd_is_base ct_is_base oc_is_code_word kV_is_code_word dc_is_code_word pm_is_code_word cd_is_code_word ct_is_code_word oc_may_turn kV_may_turn dc_may_turn pm_may_turn cd_may_turn ct_may_turn oc_turned kV_turned dc_turned pm_turned cd_turned ct_turned oc_place_of_bar kV_place_of_bar dc_place_of_bar pm_place_of_bar cd_place_of_bar ct_place_of_bar oc_bar_at kV_bar_at dc_bar_at pm_bar_at cd_bar_at ct_bar_at oc_turns kV_turns dc_turns pm_turns cd_turns ct_turns oc_first_ring kV_first_ring dc_first_ring pm_first_ring cd_first_ring ct_first_ring oc_count_words kV_count_words dc_count_words pm_count_words cd_count_words ct_count_words oc_word_at kV_word_at dc_word_at pm_word_at cd_word_at ct_word_at oc_place_of_word kV_place_of_word dc_place_of_word pm_place_of_word cd_place_of_word ct_place_of_word oc__law_draws kV__law_draws dc__law_draws pm__law_draws cd__law_draws ct__law_draws oc__law_take kV__law_take dc__law_take pm__law_take cd__law_take ct__law_take oc__law_alike kV__law_alike dc__law_alike pm__law_alike cd__law_alike ct__law_alike oc__law_word kV__law_word dc__law_word pm__law_word cd__law_word ct__law_word oc__law_place kV__law_place dc__law_place pm__law_place cd__law_place ct__law_place oc__law_may kV__law_may dc__law_may pm__law_may cd__law_may ct__law_may oc__law_behind kV__law_behind dc__law_behind pm__law_behind cd__law_behind ct__law_behind oc__law_bar_of kV__law_bar_of dc__law_bar_of pm__law_bar_of cd__law_bar_of ct__law_bar_of oc__law_word_place kV__law_word_place dc__law_word_place pm__law_word_place cd__law_word_place ct__law_word_place oc__law_whole kV__law_whole dc__law_whole pm__law_whole cd__law_whole ct__law_whole oc__law_told kV__law_told dc__law_told pm__law_told cd__law_told ct__law_told oc__law_bar kV__law_bar dc__law_bar pm__law_bar cd__law_bar ct__law_bar oc__law_words kV__law_words dc__law_words pm__law_words cd__law_words ct__law_words oc_law kV_law dc_law pm_law cd_law ct_law : Value} {d_is_bar : DefRec} {d_is_base : DefRec} {d_is_code_word : DefRec}
    (a_is_number : PySem.W.nsIn K mainGlobals "is_number" = some (some (.ref f_is_number)))
    (l_is_number : K.lookup f_is_number = some ⟨oc_is_number, od_is_number, .func (PySem.W.fnOf "is_number" "is_number" (defArgs s_is_number) (defBody s_is_number) (defScope s_is_number) .none kV_is_number dc_is_number pm_is_number an_is_number cd_is_number ct_is_number), sl_is_number⟩)
    (c_is_number : PySem.W.codeIn K cd_is_number "is_number" = true)
    (k_is_number : PySem.W.keepIn K (.ref f_is_number) = true)
    (a_is_bar : PySem.W.nsIn K mainGlobals "is_bar" = some (some (.ref f_is_bar)))
    (l_is_bar : K.lookup f_is_bar = some ⟨oc_is_bar, od_is_bar, .func (PySem.W.fnOf "is_bar" "is_bar" (defArgs s_is_bar) (defBody s_is_bar) (defScope s_is_bar) .none kV_is_bar dc_is_bar pm_is_bar an_is_bar cd_is_bar ct_is_bar), sl_is_bar⟩)
    (c_is_bar : PySem.W.codeIn K cd_is_bar "is_bar" = true)
    (k_is_bar : PySem.W.keepIn K (.ref f_is_bar) = true)
    (a_is_base : PySem.W.nsIn K mainGlobals "is_base" = some (some (.ref f_is_base)))
    (l_is_base : K.lookup f_is_base = some ⟨oc_is_base, od_is_base, .func (PySem.W.fnOf "is_base" "is_base" (defArgs s_is_base) (defBody s_is_base) (defScope s_is_base) .none kV_is_base dc_is_base pm_is_base an_is_base cd_is_base ct_is_base), sl_is_base⟩)
    (c_is_base : PySem.W.codeIn K cd_is_base "is_base" = true)
    (k_is_base : PySem.W.keepIn K (.ref f_is_base) = true)
    (a_is_code_word : PySem.W.nsIn K mainGlobals "is_code_word" = some (some (.ref f_is_code_word)))
    (l_is_code_word : K.lookup f_is_code_word = some ⟨oc_is_code_word, od_is_code_word, .func (PySem.W.fnOf "is_code_word" "is_code_word" (defArgs s_is_code_word) (defBody s_is_code_word) (defScope s_is_code_word) .none kV_is_code_word dc_is_code_word pm_is_code_word an_is_code_word cd_is_code_word ct_is_code_word), sl_is_code_word⟩)
    (c_is_code_word : PySem.W.codeIn K cd_is_code_word "is_code_word" = true)
    (k_is_code_word : PySem.W.keepIn K (.ref f_is_code_word) = true)
    (a_may_turn : PySem.W.nsIn K mainGlobals "may_turn" = some (some (.ref f_may_turn)))
    (l_may_turn : K.lookup f_may_turn = some ⟨oc_may_turn, od_may_turn, .func (PySem.W.fnOf "may_turn" "may_turn" (defArgs s_may_turn) (defBody s_may_turn) (defScope s_may_turn) .none kV_may_turn dc_may_turn pm_may_turn an_may_turn cd_may_turn ct_may_turn), sl_may_turn⟩)
    (c_may_turn : PySem.W.codeIn K cd_may_turn "may_turn" = true)
    (k_may_turn : PySem.W.keepIn K (.ref f_may_turn) = true)
    (a_turned : PySem.W.nsIn K mainGlobals "turned" = some (some (.ref f_turned)))
    (l_turned : K.lookup f_turned = some ⟨oc_turned, od_turned, .func (PySem.W.fnOf "turned" "turned" (defArgs s_turned) (defBody s_turned) (defScope s_turned) .none kV_turned dc_turned pm_turned an_turned cd_turned ct_turned), sl_turned⟩)
    (c_turned : PySem.W.codeIn K cd_turned "turned" = true)
    (k_turned : PySem.W.keepIn K (.ref f_turned) = true)
    (a_place_of_bar : PySem.W.nsIn K mainGlobals "place_of_bar" = some (some (.ref f_place_of_bar)))
    (l_place_of_bar : K.lookup f_place_of_bar = some ⟨oc_place_of_bar, od_place_of_bar, .func (PySem.W.fnOf "place_of_bar" "place_of_bar" (defArgs s_place_of_bar) (defBody s_place_of_bar) (defScope s_place_of_bar) .none kV_place_of_bar dc_place_of_bar pm_place_of_bar an_place_of_bar cd_place_of_bar ct_place_of_bar), sl_place_of_bar⟩)
    (c_place_of_bar : PySem.W.codeIn K cd_place_of_bar "place_of_bar" = true)
    (k_place_of_bar : PySem.W.keepIn K (.ref f_place_of_bar) = true)
    (a_bar_at : PySem.W.nsIn K mainGlobals "bar_at" = some (some (.ref f_bar_at)))
    (l_bar_at : K.lookup f_bar_at = some ⟨oc_bar_at, od_bar_at, .func (PySem.W.fnOf "bar_at" "bar_at" (defArgs s_bar_at) (defBody s_bar_at) (defScope s_bar_at) .none kV_bar_at dc_bar_at pm_bar_at an_bar_at cd_bar_at ct_bar_at), sl_bar_at⟩)
    (c_bar_at : PySem.W.codeIn K cd_bar_at "bar_at" = true)
    (k_bar_at : PySem.W.keepIn K (.ref f_bar_at) = true)
    (a_turns : PySem.W.nsIn K mainGlobals "turns" = some (some (.ref f_turns)))
    (l_turns : K.lookup f_turns = some ⟨oc_turns, od_turns, .func (PySem.W.fnOf "turns" "turns" (defArgs s_turns) (defBody s_turns) (defScope s_turns) .none kV_turns dc_turns pm_turns an_turns cd_turns ct_turns), sl_turns⟩)
    (c_turns : PySem.W.codeIn K cd_turns "turns" = true)
    (k_turns : PySem.W.keepIn K (.ref f_turns) = true)
    (a_first_ring : PySem.W.nsIn K mainGlobals "first_ring" = some (some (.ref f_first_ring)))
    (l_first_ring : K.lookup f_first_ring = some ⟨oc_first_ring, od_first_ring, .func (PySem.W.fnOf "first_ring" "first_ring" (defArgs s_first_ring) (defBody s_first_ring) (defScope s_first_ring) .none kV_first_ring dc_first_ring pm_first_ring an_first_ring cd_first_ring ct_first_ring), sl_first_ring⟩)
    (c_first_ring : PySem.W.codeIn K cd_first_ring "first_ring" = true)
    (k_first_ring : PySem.W.keepIn K (.ref f_first_ring) = true)
    (a_count_words : PySem.W.nsIn K mainGlobals "count_words" = some (some (.ref f_count_words)))
    (l_count_words : K.lookup f_count_words = some ⟨oc_count_words, od_count_words, .func (PySem.W.fnOf "count_words" "count_words" (defArgs s_count_words) (defBody s_count_words) (defScope s_count_words) .none kV_count_words dc_count_words pm_count_words an_count_words cd_count_words ct_count_words), sl_count_words⟩)
    (c_count_words : PySem.W.codeIn K cd_count_words "count_words" = true)
    (k_count_words : PySem.W.keepIn K (.ref f_count_words) = true)
    (a_word_at : PySem.W.nsIn K mainGlobals "word_at" = some (some (.ref f_word_at)))
    (l_word_at : K.lookup f_word_at = some ⟨oc_word_at, od_word_at, .func (PySem.W.fnOf "word_at" "word_at" (defArgs s_word_at) (defBody s_word_at) (defScope s_word_at) .none kV_word_at dc_word_at pm_word_at an_word_at cd_word_at ct_word_at), sl_word_at⟩)
    (c_word_at : PySem.W.codeIn K cd_word_at "word_at" = true)
    (k_word_at : PySem.W.keepIn K (.ref f_word_at) = true)
    (a_place_of_word : PySem.W.nsIn K mainGlobals "place_of_word" = some (some (.ref f_place_of_word)))
    (l_place_of_word : K.lookup f_place_of_word = some ⟨oc_place_of_word, od_place_of_word, .func (PySem.W.fnOf "place_of_word" "place_of_word" (defArgs s_place_of_word) (defBody s_place_of_word) (defScope s_place_of_word) .none kV_place_of_word dc_place_of_word pm_place_of_word an_place_of_word cd_place_of_word ct_place_of_word), sl_place_of_word⟩)
    (c_place_of_word : PySem.W.codeIn K cd_place_of_word "place_of_word" = true)
    (k_place_of_word : PySem.W.keepIn K (.ref f_place_of_word) = true)
    (a__law_draws : PySem.W.nsIn K mainGlobals "_law_draws" = some (some (.ref f__law_draws)))
    (l__law_draws : K.lookup f__law_draws = some ⟨oc__law_draws, od__law_draws, .func (PySem.W.fnOf "_law_draws" "_law_draws" (defArgs s__law_draws) (defBody s__law_draws) (defScope s__law_draws) .none kV__law_draws dc__law_draws pm__law_draws an__law_draws cd__law_draws ct__law_draws), sl__law_draws⟩)
    (c__law_draws : PySem.W.codeIn K cd__law_draws "_law_draws" = true)
    (k__law_draws : PySem.W.keepIn K (.ref f__law_draws) = true)
    (a__law_take : PySem.W.nsIn K mainGlobals "_law_take" = some (some (.ref f__law_take)))
    (l__law_take : K.lookup f__law_take = some ⟨oc__law_take, od__law_take, .func (PySem.W.fnOf "_law_take" "_law_take" (defArgs s__law_take) (defBody s__law_take) (defScope s__law_take) .none kV__law_take dc__law_take pm__law_take an__law_take cd__law_take ct__law_take), sl__law_take⟩)
    (c__law_take : PySem.W.codeIn K cd__law_take "_law_take" = true)
    (k__law_take : PySem.W.keepIn K (.ref f__law_take) = true)
    (a__law_alike : PySem.W.nsIn K mainGlobals "_law_alike" = some (some (.ref f__law_alike)))
    (l__law_alike : K.lookup f__law_alike = some ⟨oc__law_alike, od__law_alike, .func (PySem.W.fnOf "_law_alike" "_law_alike" (defArgs s__law_alike) (defBody s__law_alike) (defScope s__law_alike) .none kV__law_alike dc__law_alike pm__law_alike an__law_alike cd__law_alike ct__law_alike), sl__law_alike⟩)
    (c__law_alike : PySem.W.codeIn K cd__law_alike "_law_alike" = true)
    (k__law_alike : PySem.W.keepIn K (.ref f__law_alike) = true)
    (a__law_word : PySem.W.nsIn K mainGlobals "_law_word" = some (some (.ref f__law_word)))
    (l__law_word : K.lookup f__law_word = some ⟨oc__law_word, od__law_word, .func (PySem.W.fnOf "_law_word" "_law_word" (defArgs s__law_word) (defBody s__law_word) (defScope s__law_word) .none kV__law_word dc__law_word pm__law_word an__law_word cd__law_word ct__law_word), sl__law_word⟩)
    (c__law_word : PySem.W.codeIn K cd__law_word "_law_word" = true)
    (k__law_word : PySem.W.keepIn K (.ref f__law_word) = true)
    (a__law_place : PySem.W.nsIn K mainGlobals "_law_place" = some (some (.ref f__law_place)))
    (l__law_place : K.lookup f__law_place = some ⟨oc__law_place, od__law_place, .func (PySem.W.fnOf "_law_place" "_law_place" (defArgs s__law_place) (defBody s__law_place) (defScope s__law_place) .none kV__law_place dc__law_place pm__law_place an__law_place cd__law_place ct__law_place), sl__law_place⟩)
    (c__law_place : PySem.W.codeIn K cd__law_place "_law_place" = true)
    (k__law_place : PySem.W.keepIn K (.ref f__law_place) = true)
    (a__law_may : PySem.W.nsIn K mainGlobals "_law_may" = some (some (.ref f__law_may)))
    (l__law_may : K.lookup f__law_may = some ⟨oc__law_may, od__law_may, .func (PySem.W.fnOf "_law_may" "_law_may" (defArgs s__law_may) (defBody s__law_may) (defScope s__law_may) .none kV__law_may dc__law_may pm__law_may an__law_may cd__law_may ct__law_may), sl__law_may⟩)
    (c__law_may : PySem.W.codeIn K cd__law_may "_law_may" = true)
    (k__law_may : PySem.W.keepIn K (.ref f__law_may) = true)
    (a__law_behind : PySem.W.nsIn K mainGlobals "_law_behind" = some (some (.ref f__law_behind)))
    (l__law_behind : K.lookup f__law_behind = some ⟨oc__law_behind, od__law_behind, .func (PySem.W.fnOf "_law_behind" "_law_behind" (defArgs s__law_behind) (defBody s__law_behind) (defScope s__law_behind) .none kV__law_behind dc__law_behind pm__law_behind an__law_behind cd__law_behind ct__law_behind), sl__law_behind⟩)
    (c__law_behind : PySem.W.codeIn K cd__law_behind "_law_behind" = true)
    (k__law_behind : PySem.W.keepIn K (.ref f__law_behind) = true)
    (a__law_bar_of : PySem.W.nsIn K mainGlobals "_law_bar_of" = some (some (.ref f__law_bar_of)))
    (l__law_bar_of : K.lookup f__law_bar_of = some ⟨oc__law_bar_of, od__law_bar_of, .func (PySem.W.fnOf "_law_bar_of" "_law_bar_of" (defArgs s__law_bar_of) (defBody s__law_bar_of) (defScope s__law_bar_of) .none kV__law_bar_of dc__law_bar_of pm__law_bar_of an__law_bar_of cd__law_bar_of ct__law_bar_of), sl__law_bar_of⟩)
    (c__law_bar_of : PySem.W.codeIn K cd__law_bar_of "_law_bar_of" = true)
    (k__law_bar_of : PySem.W.keepIn K (.ref f__law_bar_of) = true)
    (a__law_word_place : PySem.W.nsIn K mainGlobals "_law_word_place" = some (some (.ref f__law_word_place)))
    (l__law_word_place : K.lookup f__law_word_place = some ⟨oc__law_word_place, od__law_word_place, .func (PySem.W.fnOf "_law_word_place" "_law_word_place" (defArgs s__law_word_place) (defBody s__law_word_place) (defScope s__law_word_place) .none kV__law_word_place dc__law_word_place pm__law_word_place an__law_word_place cd__law_word_place ct__law_word_place), sl__law_word_place⟩)
    (c__law_word_place : PySem.W.codeIn K cd__law_word_place "_law_word_place" = true)
    (k__law_word_place : PySem.W.keepIn K (.ref f__law_word_place) = true)
    (a__law_whole : PySem.W.nsIn K mainGlobals "_law_whole" = some (some (.ref f__law_whole)))
    (l__law_whole : K.lookup f__law_whole = some ⟨oc__law_whole, od__law_whole, .func (PySem.W.fnOf "_law_whole" "_law_whole" (defArgs s__law_whole) (defBody s__law_whole) (defScope s__law_whole) .none kV__law_whole dc__law_whole pm__law_whole an__law_whole cd__law_whole ct__law_whole), sl__law_whole⟩)
    (c__law_whole : PySem.W.codeIn K cd__law_whole "_law_whole" = true)
    (k__law_whole : PySem.W.keepIn K (.ref f__law_whole) = true)
    (a__law_told : PySem.W.nsIn K mainGlobals "_law_told" = some (some (.ref f__law_told)))
    (l__law_told : K.lookup f__law_told = some ⟨oc__law_told, od__law_told, .func (PySem.W.fnOf "_law_told" "_law_told" (defArgs s__law_told) (defBody s__law_told) (defScope s__law_told) .none kV__law_told dc__law_told pm__law_told an__law_told cd__law_told ct__law_told), sl__law_told⟩)
    (c__law_told : PySem.W.codeIn K cd__law_told "_law_told" = true)
    (k__law_told : PySem.W.keepIn K (.ref f__law_told) = true)
    (a__law_bar : PySem.W.nsIn K mainGlobals "_law_bar" = some (some (.ref f__law_bar)))
    (l__law_bar : K.lookup f__law_bar = some ⟨oc__law_bar, od__law_bar, .func (PySem.W.fnOf "_law_bar" "_law_bar" (defArgs s__law_bar) (defBody s__law_bar) (defScope s__law_bar) .none kV__law_bar dc__law_bar pm__law_bar an__law_bar cd__law_bar ct__law_bar), sl__law_bar⟩)
    (c__law_bar : PySem.W.codeIn K cd__law_bar "_law_bar" = true)
    (k__law_bar : PySem.W.keepIn K (.ref f__law_bar) = true)
    (a__law_words : PySem.W.nsIn K mainGlobals "_law_words" = some (some (.ref f__law_words)))
    (l__law_words : K.lookup f__law_words = some ⟨oc__law_words, od__law_words, .func (PySem.W.fnOf "_law_words" "_law_words" (defArgs s__law_words) (defBody s__law_words) (defScope s__law_words) .none kV__law_words dc__law_words pm__law_words an__law_words cd__law_words ct__law_words), sl__law_words⟩)
    (c__law_words : PySem.W.codeIn K cd__law_words "_law_words" = true)
    (k__law_words : PySem.W.keepIn K (.ref f__law_words) = true)
    (a_law : PySem.W.nsIn K mainGlobals "law" = some (some (.ref f_law)))
    (l_law : K.lookup f_law = some ⟨oc_law, od_law, .func (PySem.W.fnOf "law" "law" (defArgs s_law) (defBody s_law) (defScope s_law) .none kV_law dc_law pm_law an_law cd_law ct_law), sl_law⟩)
    (c_law : PySem.W.codeIn K cd_law "law" = true)
    (k_law : PySem.W.keepIn K (.ref f_law) = true)
    (m_RightError : PySem.W.nsIn K mainGlobals "RightError" = some (some (.ref C_RightError)))
    (i_RightError : PySem.W.isClsIn K C_RightError = true)
    (q_RightError : PySem.W.excIn K C_RightError [Value.type "ValueError", Value.type "Exception", Value.type "BaseException", Value.type "object"] "ValueError.__new__" = true)
    (kc_RightError : PySem.W.keepIn K (.ref C_RightError) = true)
    (bc_RightError : PySem.W.subIn K (.ref C_RightError) (.type "BaseException") = some true)
    (tc_RightError : PySem.W.typeIn K (.ref C_RightError) = some (.type "type"))
    (e1_RightError : PySem.W.findIn K (.ref C_RightError) "__getattribute__" = some (some (.builtin "BaseException.__getattribute__")))
    (e2_RightError : PySem.W.findIn K (.ref C_RightError) "__getattr__" = some none)
    (e3_RightError : PySem.W.hasDictIn K C_RightError = true)
    (e4_RightError : PySem.W.findIn K (.ref C_RightError) "__class__" = some (some (.builtin "object.__class__")))
    (e5_RightError : PySem.W.mroIn K C_RightError (.type "object") = some true)
    (v_RightError : PySem.W.subIn K (.ref C_RightError) (.type "ValueError") = some true)
    (m_OutOfRange : PySem.W.nsIn K mainGlobals "OutOfRange" = some (some (.ref C_OutOfRange)))
    (i_OutOfRange : PySem.W.isClsIn K C_OutOfRange = true)
    (q_OutOfRange : PySem.W.excIn K C_OutOfRange [Value.type "ValueError", Value.type "Exception", Value.type "BaseException", Value.type "object"] "ValueError.__new__" = true)
    (kc_OutOfRange : PySem.W.keepIn K (.ref C_OutOfRange) = true)
    (bc_OutOfRange : PySem.W.subIn K (.ref C_OutOfRange) (.type "BaseException") = some true)
    (tc_OutOfRange : PySem.W.typeIn K (.ref C_OutOfRange) = some (.type "type"))
    (e1_OutOfRange : PySem.W.findIn K (.ref C_OutOfRange) "__getattribute__" = some (some (.builtin "BaseException.__getattribute__")))
    (e2_OutOfRange : PySem.W.findIn K (.ref C_OutOfRange) "__getattr__" = some none)
    (e3_OutOfRange : PySem.W.hasDictIn K C_OutOfRange = true)
    (e4_OutOfRange : PySem.W.findIn K (.ref C_OutOfRange) "__class__" = some (some (.builtin "object.__class__")))
    (e5_OutOfRange : PySem.W.mroIn K C_OutOfRange (.type "object") = some true)
    (v_OutOfRange : PySem.W.subIn K (.ref C_OutOfRange) (.type "ValueError") = some true)
    (m_Malformed : PySem.W.nsIn K mainGlobals "Malformed" = some (some (.ref C_Malformed)))
    (i_Malformed : PySem.W.isClsIn K C_Malformed = true)
    (q_Malformed : PySem.W.excIn K C_Malformed [Value.type "ValueError", Value.type "Exception", Value.type "BaseException", Value.type "object"] "ValueError.__new__" = true)
    (kc_Malformed : PySem.W.keepIn K (.ref C_Malformed) = true)
    (bc_Malformed : PySem.W.subIn K (.ref C_Malformed) (.type "BaseException") = some true)
    (tc_Malformed : PySem.W.typeIn K (.ref C_Malformed) = some (.type "type"))
    (e1_Malformed : PySem.W.findIn K (.ref C_Malformed) "__getattribute__" = some (some (.builtin "BaseException.__getattribute__")))
    (e2_Malformed : PySem.W.findIn K (.ref C_Malformed) "__getattr__" = some none)
    (e3_Malformed : PySem.W.hasDictIn K C_Malformed = true)
    (e4_Malformed : PySem.W.findIn K (.ref C_Malformed) "__class__" = some (some (.builtin "object.__class__")))
    (e5_Malformed : PySem.W.mroIn K C_Malformed (.type "object") = some true)
    (v_Malformed : PySem.W.subIn K (.ref C_Malformed) (.type "ValueError") = some true)
    (m_NotThere : PySem.W.nsIn K mainGlobals "NotThere" = some (some (.ref C_NotThere)))
    (i_NotThere : PySem.W.isClsIn K C_NotThere = true)
    (q_NotThere : PySem.W.excIn K C_NotThere [Value.type "ValueError", Value.type "Exception", Value.type "BaseException", Value.type "object"] "ValueError.__new__" = true)
    (kc_NotThere : PySem.W.keepIn K (.ref C_NotThere) = true)
    (bc_NotThere : PySem.W.subIn K (.ref C_NotThere) (.type "BaseException") = some true)
    (tc_NotThere : PySem.W.typeIn K (.ref C_NotThere) = some (.type "type"))
    (e1_NotThere : PySem.W.findIn K (.ref C_NotThere) "__getattribute__" = some (some (.builtin "BaseException.__getattribute__")))
    (e2_NotThere : PySem.W.findIn K (.ref C_NotThere) "__getattr__" = some none)
    (e3_NotThere : PySem.W.hasDictIn K C_NotThere = true)
    (e4_NotThere : PySem.W.findIn K (.ref C_NotThere) "__class__" = some (some (.builtin "object.__class__")))
    (e5_NotThere : PySem.W.mroIn K C_NotThere (.type "object") = some true)
    (v_NotThere : PySem.W.subIn K (.ref C_NotThere) (.type "ValueError") = some true)
    (m_Refused : PySem.W.nsIn K mainGlobals "Refused" = some (some (.ref C_Refused)))
    (i_Refused : PySem.W.isClsIn K C_Refused = true)
    (q_Refused : PySem.W.excIn K C_Refused [Value.type "ValueError", Value.type "Exception", Value.type "BaseException", Value.type "object"] "ValueError.__new__" = true)
    (kc_Refused : PySem.W.keepIn K (.ref C_Refused) = true)
    (bc_Refused : PySem.W.subIn K (.ref C_Refused) (.type "BaseException") = some true)
    (tc_Refused : PySem.W.typeIn K (.ref C_Refused) = some (.type "type"))
    (e1_Refused : PySem.W.findIn K (.ref C_Refused) "__getattribute__" = some (some (.builtin "BaseException.__getattribute__")))
    (e2_Refused : PySem.W.findIn K (.ref C_Refused) "__getattr__" = some none)
    (e3_Refused : PySem.W.hasDictIn K C_Refused = true)
    (e4_Refused : PySem.W.findIn K (.ref C_Refused) "__class__" = some (some (.builtin "object.__class__")))
    (e5_Refused : PySem.W.mroIn K C_Refused (.type "object") = some true)
    (v_Refused : PySem.W.subIn K (.ref C_Refused) (.type "ValueError") = some true)
    (m_TooMuch : PySem.W.nsIn K mainGlobals "TooMuch" = some (some (.ref C_TooMuch)))
    (i_TooMuch : PySem.W.isClsIn K C_TooMuch = true)
    (q_TooMuch : PySem.W.excIn K C_TooMuch [Value.type "ValueError", Value.type "Exception", Value.type "BaseException", Value.type "object"] "ValueError.__new__" = true)
    (kc_TooMuch : PySem.W.keepIn K (.ref C_TooMuch) = true)
    (bc_TooMuch : PySem.W.subIn K (.ref C_TooMuch) (.type "BaseException") = some true)
    (tc_TooMuch : PySem.W.typeIn K (.ref C_TooMuch) = some (.type "type"))
    (e1_TooMuch : PySem.W.findIn K (.ref C_TooMuch) "__getattribute__" = some (some (.builtin "BaseException.__getattribute__")))
    (e2_TooMuch : PySem.W.findIn K (.ref C_TooMuch) "__getattr__" = some none)
    (e3_TooMuch : PySem.W.hasDictIn K C_TooMuch = true)
    (e4_TooMuch : PySem.W.findIn K (.ref C_TooMuch) "__class__" = some (some (.builtin "object.__class__")))
    (e5_TooMuch : PySem.W.mroIn K C_TooMuch (.type "object") = some true)
    (v_TooMuch : PySem.W.subIn K (.ref C_TooMuch) (.type "ValueError") = some true)
    (hn : PySem.W.specialIn K (.builtin "object.__class__") "__get__" = some (some (.builtin "getset_descriptor.__get__")))
    (ht : PySem.W.takesIn K (.builtin "object.__class__") = some true)
    (x_OutOfRange : PySem.W.subIn K (.ref C_OutOfRange) (.ref C_RightError) = some true)
    (x_Malformed : PySem.W.subIn K (.ref C_Malformed) (.ref C_RightError) = some true)
    (x_NotThere : PySem.W.subIn K (.ref C_NotThere) (.ref C_RightError) = some true)
    (x_Refused : PySem.W.subIn K (.ref C_Refused) (.ref C_RightError) = some true)
    (x_TooMuch : PySem.W.subIn K (.ref C_TooMuch) (.ref C_RightError) = some true)
    (kkk_OutOfRange_OutOfRange : PySem.W.subIn K (.ref C_OutOfRange) (.ref C_OutOfRange) = some true)
    (kkk_OutOfRange_Malformed : PySem.W.subIn K (.ref C_OutOfRange) (.ref C_Malformed) = some false)
    (kkk_OutOfRange_NotThere : PySem.W.subIn K (.ref C_OutOfRange) (.ref C_NotThere) = some false)
    (kkk_OutOfRange_Refused : PySem.W.subIn K (.ref C_OutOfRange) (.ref C_Refused) = some false)
    (kkk_OutOfRange_TooMuch : PySem.W.subIn K (.ref C_OutOfRange) (.ref C_TooMuch) = some false)
    (kkk_Malformed_OutOfRange : PySem.W.subIn K (.ref C_Malformed) (.ref C_OutOfRange) = some false)
    (kkk_Malformed_Malformed : PySem.W.subIn K (.ref C_Malformed) (.ref C_Malformed) = some true)
    (kkk_Malformed_NotThere : PySem.W.subIn K (.ref C_Malformed) (.ref C_NotThere) = some false)
    (kkk_Malformed_Refused : PySem.W.subIn K (.ref C_Malformed) (.ref C_Refused) = some false)
    (kkk_Malformed_TooMuch : PySem.W.subIn K (.ref C_Malformed) (.ref C_TooMuch) = some false)
    (kkk_NotThere_OutOfRange : PySem.W.subIn K (.ref C_NotThere) (.ref C_OutOfRange) = some false)
    (kkk_NotThere_Malformed : PySem.W.subIn K (.ref C_NotThere) (.ref C_Malformed) = some false)
    (kkk_NotThere_NotThere : PySem.W.subIn K (.ref C_NotThere) (.ref C_NotThere) = some true)
    (kkk_NotThere_Refused : PySem.W.subIn K (.ref C_NotThere) (.ref C_Refused) = some false)
    (kkk_NotThere_TooMuch : PySem.W.subIn K (.ref C_NotThere) (.ref C_TooMuch) = some false)
    (kkk_Refused_OutOfRange : PySem.W.subIn K (.ref C_Refused) (.ref C_OutOfRange) = some false)
    (kkk_Refused_Malformed : PySem.W.subIn K (.ref C_Refused) (.ref C_Malformed) = some false)
    (kkk_Refused_NotThere : PySem.W.subIn K (.ref C_Refused) (.ref C_NotThere) = some false)
    (kkk_Refused_Refused : PySem.W.subIn K (.ref C_Refused) (.ref C_Refused) = some true)
    (kkk_Refused_TooMuch : PySem.W.subIn K (.ref C_Refused) (.ref C_TooMuch) = some false)
    (kkk_TooMuch_OutOfRange : PySem.W.subIn K (.ref C_TooMuch) (.ref C_OutOfRange) = some false)
    (kkk_TooMuch_Malformed : PySem.W.subIn K (.ref C_TooMuch) (.ref C_Malformed) = some false)
    (kkk_TooMuch_NotThere : PySem.W.subIn K (.ref C_TooMuch) (.ref C_NotThere) = some false)
    (kkk_TooMuch_Refused : PySem.W.subIn K (.ref C_TooMuch) (.ref C_Refused) = some false)
    (kkk_TooMuch_TooMuch : PySem.W.subIn K (.ref C_TooMuch) (.ref C_TooMuch) = some true)
    (b_ValueError : PySem.W.nsIn K mainGlobals "ValueError" = some none)
    (b_abs : PySem.W.nsIn K mainGlobals "abs" = some none)
    (b_all : PySem.W.nsIn K mainGlobals "all" = some none)
    (b_bool : PySem.W.nsIn K mainGlobals "bool" = some none)
    (b_divmod : PySem.W.nsIn K mainGlobals "divmod" = some none)
    (b_int : PySem.W.nsIn K mainGlobals "int" = some none)
    (b_isinstance : PySem.W.nsIn K mainGlobals "isinstance" = some none)
    (b_len : PySem.W.nsIn K mainGlobals "len" = some none)
    (b_list : PySem.W.nsIn K mainGlobals "list" = some none)
    (b_min : PySem.W.nsIn K mainGlobals "min" = some none)
    (b_range : PySem.W.nsIn K mainGlobals "range" = some none)
    (b_reversed : PySem.W.nsIn K mainGlobals "reversed" = some none)
    (b_str : PySem.W.nsIn K mainGlobals "str" = some none)
    (b_sum : PySem.W.nsIn K mainGlobals "sum" = some none)
    (b_tuple : PySem.W.nsIn K mainGlobals "tuple" = some none)
    (b_zip : PySem.W.nsIn K mainGlobals "zip" = some none)
    (r_is_bar : (recsOf q).find? (fun e => e.name == ("is_bar" : Str)) = some d_is_bar)
    (r_is_base : (recsOf q).find? (fun e => e.name == ("is_base" : Str)) = some d_is_base)
    (r_is_code_word : (recsOf q).find? (fun e => e.name == ("is_code_word" : Str)) = some d_is_code_word)
    (nt : noTab K = true) :
    ∃ (fd : FuncData) (cs : List (Addr × Addr)), (∀ p ∈ cs, h.get? p.2 = some { cls := .none, data := .fields #[] }) ∧ (∀ p ∈ cs, K.lookup p.2 = none) ∧ (∀ p ∈ cs, PySem.W.CodeHd h p.1 p.2) ∧ (∀ (s : Shared) (v : Value), BindsTo s fd ⟨[v], []⟩ [("script", v)]) ∧ ∀ base : Heap, K.In base → base.Ns mainGlobals mg → (∀ p ∈ cs, LamX.TabB base mg p.1 p.2) → FnOk l.prog w K mg base CX0 11 fa fd ["script"] (spOf K (cs.map (·.2)) Sp_law) := by
  have e := hfa.symm.trans (PySem.W.mg_of X G a_law)
  cases e
  obtain ⟨tc_is_bar, tp_is_bar, te_is_bar, th_is_bar, tg_is_bar⟩ := tab_at Tp X r_is_bar (PySem.W.mg_of X G a_is_bar) l_is_bar
  obtain ⟨tc_is_base, tp_is_base, te_is_base, th_is_base, tg_is_base⟩ := tab_at Tp X r_is_base (PySem.W.mg_of X G a_is_base) l_is_base
  obtain ⟨tc_is_code_word, tp_is_code_word, te_is_code_word, th_is_code_word, tg_is_code_word⟩ := tab_at Tp X r_is_code_word (PySem.W.mg_of X G a_is_code_word) l_is_code_word
  have hT : ∀ p ∈ [(tc_is_bar, tp_is_bar), (tc_is_base, tp_is_base), (tc_is_code_word, tp_is_code_word)], h.get? p.2 = some { cls := .none, data := .fields #[] } := by
    intro p hp
    simp only [List.mem_cons, List.not_mem_nil, or_false] at hp
    rcases hp with rfl | rfl | rfl
    · exact tg_is_bar
    · exact tg_is_base
    · exact tg_is_code_word
  have hC : ∀ p ∈ [(tc_is_bar, tp_is_bar), (tc_is_base, tp_is_base), (tc_is_code_word, tp_is_code_word)], PySem.W.CodeHd h p.1 p.2 := by
    intro p hp
    simp only [List.mem_cons, List.not_mem_nil, or_false] at hp
    rcases hp with rfl | rfl | rfl
    · exact th_is_bar
    · exact th_is_base
    · exact th_is_code_word
  refine ⟨PySem.W.fnOf "law" "law" (defArgs s_law) (defBody s_law) (defScope s_law) .none kV_law dc_law pm_law an_law cd_law ct_law, [(tc_is_bar, tp_is_bar), (tc_is_base, tp_is_base), (tc_is_code_word, tp_is_code_word)], hT, fun p hp => no_tab nt X (hT p hp), hC, fun s v => .of_eq rfl, fun base _ _ hB => ?_⟩
  exact ok_law (T := [(tc_is_bar, tp_is_bar), (tc_is_base, tp_is_base), (tc_is_code_word, tp_is_code_word)].map (·.2)) (X := ({
    is_number := ⟨_, _, fun_mk (st := s_is_number) l_is_number c_is_number k_is_number, PySem.W.mg_of X G a_is_number, (fun_mk (st := s_is_number) l_is_number c_is_number k_is_number).binds (ps := P_is_number) fun _ _ _ _ _ _ us hl => match us, hl with | [_, _, _], _ => rfl⟩
    is_bar := ⟨_, _, fun_mk (st := s_is_bar) l_is_bar c_is_bar k_is_bar, PySem.W.mg_of X G a_is_bar, (fun_mk (st := s_is_bar) l_is_bar c_is_bar k_is_bar).binds (ps := P_is_bar) fun _ _ _ _ _ _ us hl => match us, hl with | [_], _ => rfl⟩
    is_base := ⟨_, _, fun_mk (st := s_is_base) l_is_base c_is_base k_is_base, PySem.W.mg_of X G a_is_base, (fun_mk (st := s_is_base) l_is_base c_is_base k_is_base).binds (ps := P_is_base) fun _ _ _ _ _ _ us hl => match us, hl with | [_], _ => rfl⟩
    is_code_word := ⟨_, _, fun_mk (st := s_is_code_word) l_is_code_word c_is_code_word k_is_code_word, PySem.W.mg_of X G a_is_code_word, (fun_mk (st := s_is_code_word) l_is_code_word c_is_code_word k_is_code_word).binds (ps := P_is_code_word) fun _ _ _ _ _ _ us hl => match us, hl with | [_, _], _ => rfl⟩
    may_turn := ⟨_, _, fun_mk (st := s_may_turn) l_may_turn c_may_turn k_may_turn, PySem.W.mg_of X G a_may_turn, (fun_mk (st := s_may_turn) l_may_turn c_may_turn k_may_turn).binds (ps := P_may_turn) fun _ _ _ _ _ _ us hl => match us, hl with | [_], _ => rfl⟩
    turned := ⟨_, _, fun_mk (st := s_turned) l_turned c_turned k_turned, PySem.W.mg_of X G a_turned, (fun_mk (st := s_turned) l_turned c_turned k_turned).binds (ps := P_turned) fun _ _ _ _ _ _ us hl => match us, hl with | [_, _], _ => rfl⟩
    place_of_bar := ⟨_, _, fun_mk (st := s_place_of_bar) l_place_of_bar c_place_of_bar k_place_of_bar, PySem.W.mg_of X G a_place_of_bar, (fun_mk (st := s_place_of_bar) l_place_of_bar c_place_of_bar k_place_of_bar).binds (ps := P_place_of_bar) fun _ _ _ _ _ _ us hl => match us, hl with | [_], _ => rfl⟩
    bar_at := ⟨_, _, fun_mk (st := s_bar_at) l_bar_at c_bar_at k_bar_at, PySem.W.mg_of X G a_bar_at, (fun_mk (st := s_bar_at) l_bar_at c_bar_at k_bar_at).binds (ps := P_bar_at) fun _ _ _ _ _ _ us hl => match us, hl with | [_, _], _ => rfl⟩
    turns := ⟨_, _, fun_mk (st := s_turns) l_turns c_turns k_turns, PySem.W.mg_of X G a_turns, (fun_mk (st := s_turns) l_turns c_turns k_turns).binds (ps := P_turns) fun _ _ _ _ _ _ us hl => match us, hl with | [_, _], _ => rfl⟩
    first_ring := ⟨_, _, fun_mk (st := s_first_ring) l_first_ring c_first_ring k_first_ring, PySem.W.mg_of X G a_first_ring, (fun_mk (st := s_first_ring) l_first_ring c_first_ring k_first_ring).binds (ps := P_first_ring) fun _ _ _ _ _ _ us hl => match us, hl with | [_, _], _ => rfl⟩
    count_words := ⟨_, _, fun_mk (st := s_count_words) l_count_words c_count_words k_count_words, PySem.W.mg_of X G a_count_words, (fun_mk (st := s_count_words) l_count_words c_count_words k_count_words).binds (ps := P_count_words) fun _ _ _ _ _ _ us hl => match us, hl with | [_], _ => rfl⟩
    word_at := ⟨_, _, fun_mk (st := s_word_at) l_word_at c_word_at k_word_at, PySem.W.mg_of X G a_word_at, (fun_mk (st := s_word_at) l_word_at c_word_at k_word_at).binds (ps := P_word_at) fun _ _ _ _ _ _ us hl => match us, hl with | [_, _], _ => rfl⟩
    place_of_word := ⟨_, _, fun_mk (st := s_place_of_word) l_place_of_word c_place_of_word k_place_of_word, PySem.W.mg_of X G a_place_of_word, (fun_mk (st := s_place_of_word) l_place_of_word c_place_of_word k_place_of_word).binds (ps := P_place_of_word) fun _ _ _ _ _ _ us hl => match us, hl with | [_, _], _ => rfl⟩
    _law_draws := ⟨_, _, fun_mk (st := s__law_draws) l__law_draws c__law_draws k__law_draws, PySem.W.mg_of X G a__law_draws, (fun_mk (st := s__law_draws) l__law_draws c__law_draws k__law_draws).binds (ps := P__law_draws) fun _ _ _ _ _ _ us hl => match us, hl with | [_], _ => rfl⟩
    _law_take := ⟨_, _, fun_mk (st := s__law_take) l__law_take c__law_take k__law_take, PySem.W.mg_of X G a__law_take, (fun_mk (st := s__law_take) l__law_take c__law_take k__law_take).binds (ps := P__law_take) fun _ _ _ _ _ _ us hl => match us, hl with | [_, _], _ => rfl⟩
    _law_alike := ⟨_, _, fun_mk (st := s__law_alike) l__law_alike c__law_alike k__law_alike, PySem.W.mg_of X G a__law_alike, (fun_mk (st := s__law_alike) l__law_alike c__law_alike k__law_alike).binds (ps := P__law_alike) fun _ _ _ _ _ _ us hl => match us, hl with | [_, _], _ => rfl⟩
    _law_word := ⟨_, _, fun_mk (st := s__law_word) l__law_word c__law_word k__law_word, PySem.W.mg_of X G a__law_word, (fun_mk (st := s__law_word) l__law_word c__law_word k__law_word).binds (ps := P__law_word) fun _ _ _ _ _ _ us hl => match us, hl with | [_], _ => rfl⟩
    _law_place := ⟨_, _, fun_mk (st := s__law_place) l__law_place c__law_place k__law_place, PySem.W.mg_of X G a__law_place, (fun_mk (st := s__law_place) l__law_place c__law_place k__law_place).binds (ps := P__law_place) fun _ _ _ _ _ _ us hl => match us, hl with | [_], _ => rfl⟩
    _law_may := ⟨_, _, fun_mk (st := s__law_may) l__law_may c__law_may k__law_may, PySem.W.mg_of X G a__law_may, (fun_mk (st := s__law_may) l__law_may c__law_may k__law_may).binds (ps := P__law_may) fun _ _ _ _ _ _ us hl => match us, hl with | [_], _ => rfl⟩
    _law_behind := ⟨_, _, fun_mk (st := s__law_behind) l__law_behind c__law_behind k__law_behind, PySem.W.mg_of X G a__law_behind, (fun_mk (st := s__law_behind) l__law_behind c__law_behind k__law_behind).binds (ps := P__law_behind) fun _ _ _ _ _ _ us hl => match us, hl with | [_, _], _ => rfl⟩
    _law_bar_of := ⟨_, _, fun_mk (st := s__law_bar_of) l__law_bar_of c__law_bar_of k__law_bar_of, PySem.W.mg_of X G a__law_bar_of, (fun_mk (st := s__law_bar_of) l__law_bar_of c__law_bar_of k__law_bar_of).binds (ps := P__law_bar_of) fun _ _ _ _ _ _ us hl => match us, hl with | [_, _], _ => rfl⟩
    _law_word_place := ⟨_, _, fun_mk (st := s__law_word_place) l__law_word_place c__law_word_place k__law_word_place, PySem.W.mg_of X G a__law_word_place, (fun_mk (st := s__law_word_place) l__law_word_place c__law_word_place k__law_word_place).binds (ps := P__law_word_place) fun _ _ _ _ _ _ us hl => match us, hl with | [_, _], _ => rfl⟩
    _law_whole := ⟨_, _, fun_mk (st := s__law_whole) l__law_whole c__law_whole k__law_whole, PySem.W.mg_of X G a__law_whole, (fun_mk (st := s__law_whole) l__law_whole c__law_whole k__law_whole).binds (ps := P__law_whole) fun _ _ _ _ _ _ us hl => match us, hl with | [_], _ => rfl⟩
    _law_told := ⟨_, _, fun_mk (st := s__law_told) l__law_told c__law_told k__law_told, PySem.W.mg_of X G a__law_told, (fun_mk (st := s__law_told) l__law_told c__law_told k__law_told).binds (ps := P__law_told) fun _ _ _ _ _ _ us hl => match us, hl with | [_, _, _], _ => rfl⟩
    _law_bar := ⟨_, _, fun_mk (st := s__law_bar) l__law_bar c__law_bar k__law_bar, PySem.W.mg_of X G a__law_bar, (fun_mk (st := s__law_bar) l__law_bar c__law_bar k__law_bar).binds (ps := P__law_bar) fun _ _ _ _ _ _ us hl => match us, hl with | [_, _], _ => rfl⟩
    _law_words := ⟨_, _, fun_mk (st := s__law_words) l__law_words c__law_words k__law_words, PySem.W.mg_of X G a__law_words, (fun_mk (st := s__law_words) l__law_words c__law_words k__law_words).binds (ps := P__law_words) fun _ _ _ _ _ _ us hl => match us, hl with | [_], _ => rfl⟩
    law := ⟨_, _, fun_mk (st := s_law) l_law c_law k_law, PySem.W.mg_of X G a_law, (fun_mk (st := s_law) l_law c_law k_law).binds (ps := P_law) fun _ _ _ _ _ _ us hl => match us, hl with | [_], _ => rfl⟩
    RightError := ⟨_, PySem.W.mg_of X G m_RightError, q_RightError, kc_RightError, bc_RightError, tc_RightError, ⟨e1_RightError, e2_RightError, bc_RightError, e3_RightError, e4_RightError, hn, ht, e5_RightError⟩, kit_ty (by decide +kernel) v_RightError⟩
    OutOfRange := ⟨_, PySem.W.mg_of X G m_OutOfRange, q_OutOfRange, kc_OutOfRange, bc_OutOfRange, tc_OutOfRange, ⟨e1_OutOfRange, e2_OutOfRange, bc_OutOfRange, e3_OutOfRange, e4_OutOfRange, hn, ht, e5_OutOfRange⟩, kit_ty (by decide +kernel) v_OutOfRange⟩
    Malformed := ⟨_, PySem.W.mg_of X G m_Malformed, q_Malformed, kc_Malformed, bc_Malformed, tc_Malformed, ⟨e1_Malformed, e2_Malformed, bc_Malformed, e3_Malformed, e4_Malformed, hn, ht, e5_Malformed⟩, kit_ty (by decide +kernel) v_Malformed⟩
    NotThere := ⟨_, PySem.W.mg_of X G m_NotThere, q_NotThere, kc_NotThere, bc_NotThere, tc_NotThere, ⟨e1_NotThere, e2_NotThere, bc_NotThere, e3_NotThere, e4_NotThere, hn, ht, e5_NotThere⟩, kit_ty (by decide +kernel) v_NotThere⟩
    Refused := ⟨_, PySem.W.mg_of X G m_Refused, q_Refused, kc_Refused, bc_Refused, tc_Refused, ⟨e1_Refused, e2_Refused, bc_Refused, e3_Refused, e4_Refused, hn, ht, e5_Refused⟩, kit_ty (by decide +kernel) v_Refused⟩
    TooMuch := ⟨_, PySem.W.mg_of X G m_TooMuch, q_TooMuch, kc_TooMuch, bc_TooMuch, tc_TooMuch, ⟨e1_TooMuch, e2_TooMuch, bc_TooMuch, e3_TooMuch, e4_TooMuch, hn, ht, e5_TooMuch⟩, kit_ty (by decide +kernel) v_TooMuch⟩
    t_is_bar := ⟨tc_is_bar, tp_is_bar, te_is_bar⟩
    t_is_base := ⟨tc_is_base, tp_is_base, te_is_base⟩
    t_is_code_word := ⟨tc_is_code_word, tp_is_code_word, te_is_code_word⟩
    x_OutOfRange := exm_ref i_RightError tc_RightError bc_RightError x_OutOfRange
    x_Malformed := exm_ref i_RightError tc_RightError bc_RightError x_Malformed
    x_NotThere := exm_ref i_RightError tc_RightError bc_RightError x_NotThere
    x_Refused := exm_ref i_RightError tc_RightError bc_RightError x_Refused
    x_TooMuch := exm_ref i_RightError tc_RightError bc_RightError x_TooMuch
    k_OutOfRange_OutOfRange := kit_ref i_OutOfRange tc_OutOfRange kkk_OutOfRange_OutOfRange kkk_OutOfRange_OutOfRange
    k_OutOfRange_Malformed := kit_ref i_Malformed tc_Malformed kkk_OutOfRange_OutOfRange kkk_OutOfRange_Malformed
    k_OutOfRange_NotThere := kit_ref i_NotThere tc_NotThere kkk_OutOfRange_OutOfRange kkk_OutOfRange_NotThere
    k_OutOfRange_Refused := kit_ref i_Refused tc_Refused kkk_OutOfRange_OutOfRange kkk_OutOfRange_Refused
    k_OutOfRange_TooMuch := kit_ref i_TooMuch tc_TooMuch kkk_OutOfRange_OutOfRange kkk_OutOfRange_TooMuch
    k_Malformed_OutOfRange := kit_ref i_OutOfRange tc_OutOfRange kkk_Malformed_Malformed kkk_Malformed_OutOfRange
    k_Malformed_Malformed := kit_ref i_Malformed tc_Malformed kkk_Malformed_Malformed kkk_Malformed_Malformed
    k_Malformed_NotThere := kit_ref i_NotThere tc_NotThere kkk_Malformed_Malformed kkk_Malformed_NotThere
    k_Malformed_Refused := kit_ref i_Refused tc_Refused kkk_Malformed_Malformed kkk_Malformed_Refused
    k_Malformed_TooMuch := kit_ref i_TooMuch tc_TooMuch kkk_Malformed_Malformed kkk_Malformed_TooMuch
    k_NotThere_OutOfRange := kit_ref i_OutOfRange tc_OutOfRange kkk_NotThere_NotThere kkk_NotThere_OutOfRange
    k_NotThere_Malformed := kit_ref i_Malformed tc_Malformed kkk_NotThere_NotThere kkk_NotThere_Malformed
    k_NotThere_NotThere := kit_ref i_NotThere tc_NotThere kkk_NotThere_NotThere kkk_NotThere_NotThere
    k_NotThere_Refused := kit_ref i_Refused tc_Refused kkk_NotThere_NotThere kkk_NotThere_Refused
    k_NotThere_TooMuch := kit_ref i_TooMuch tc_TooMuch kkk_NotThere_NotThere kkk_NotThere_TooMuch
    k_Refused_OutOfRange := kit_ref i_OutOfRange tc_OutOfRange kkk_Refused_Refused kkk_Refused_OutOfRange
    k_Refused_Malformed := kit_ref i_Malformed tc_Malformed kkk_Refused_Refused kkk_Refused_Malformed
    k_Refused_NotThere := kit_ref i_NotThere tc_NotThere kkk_Refused_Refused kkk_Refused_NotThere
    k_Refused_Refused := kit_ref i_Refused tc_Refused kkk_Refused_Refused kkk_Refused_Refused
    k_Refused_TooMuch := kit_ref i_TooMuch tc_TooMuch kkk_Refused_Refused kkk_Refused_TooMuch
    k_TooMuch_OutOfRange := kit_ref i_OutOfRange tc_OutOfRange kkk_TooMuch_TooMuch kkk_TooMuch_OutOfRange
    k_TooMuch_Malformed := kit_ref i_Malformed tc_Malformed kkk_TooMuch_TooMuch kkk_TooMuch_Malformed
    k_TooMuch_NotThere := kit_ref i_NotThere tc_NotThere kkk_TooMuch_TooMuch kkk_TooMuch_NotThere
    k_TooMuch_Refused := kit_ref i_Refused tc_Refused kkk_TooMuch_TooMuch kkk_TooMuch_Refused
    k_TooMuch_TooMuch := kit_ref i_TooMuch tc_TooMuch kkk_TooMuch_TooMuch kkk_TooMuch_TooMuch
    b_ValueError := PySem.W.mg_none_of X G b_ValueError
    b_abs := PySem.W.mg_none_of X G b_abs
    b_all := PySem.W.mg_none_of X G b_all
    b_bool := PySem.W.mg_none_of X G b_bool
    b_divmod := PySem.W.mg_none_of X G b_divmod
    b_int := PySem.W.mg_none_of X G b_int
    b_isinstance := PySem.W.mg_none_of X G b_isinstance
    b_len := PySem.W.mg_none_of X G b_len
    b_list := PySem.W.mg_none_of X G b_list
    b_min := PySem.W.mg_none_of X G b_min
    b_range := PySem.W.mg_none_of X G b_range
    b_reversed := PySem.W.mg_none_of X G b_reversed
    b_str := PySem.W.mg_none_of X G b_str
    b_sum := PySem.W.mg_none_of X G b_sum
    b_tuple := PySem.W.mg_none_of X G b_tuple
    b_zip := PySem.W.mg_none_of X G b_zip
  } : Txt K mg)) ⟨⟨(hB _ (.head _)).code, (hB _ (.head _)).bm, (hB _ (.head _)).gP⟩, (.head _), ⟨(hB _ (.tail _ (.head _))).code, (hB _ (.tail _ (.head _))).bm, (hB _ (.tail _ (.head _))).gP⟩, (.tail _ (.head _)), ⟨(hB _ (.tail _ (.tail _ (.head _)))).code, (hB _ (.tail _ (.tail _ (.head _)))).bm, (hB _ (.tail _ (.tail _ (.head _)))).gP⟩, (.tail _ (.tail _ (.head _)))⟩
theorem sp_in {K : PySem.W.Frag} {T : List Addr} {H : Hp} {a : Addr} {ns : List Int} (hl : ns.length ≤ 63) (hH : ∀ p ∈ T, H p = some (.tbl #[])) (hS : SqL K H a (ns.map V.int)) : spOf K T Sp_law [.ref a] H (fun v _ => v = .bl true) fun _ _ _ => False := by
  refine ⟨fun x => if x ∈ T then none else H x, fun _ => none, [.s ns], fun x _ => x = .d (.bool true), fun _ _ => False, (.cons ⟨a, rfl, ?_⟩ .nil), ⟨fun x o e => ?_, fun p ao e => (by cases e), fun p hp => ⟨if_pos hp, rfl, #[], hH p hp, trivial⟩⟩, ⟨ns, rfl, hl, rfl⟩, fun x O' B' u H' e _ _ r => ?_, fun _ _ _ _ z => z.elim⟩
  · rcases hS with hS | hS
    · refine .inl ?_
      have ha : a ∉ T := fun z => by
        have := hH a z
        rcases hS with h | ⟨o, h⟩
        · rw [this] at h; cases h
        · rw [this] at h; cases h
      rcases hS with h | ⟨o, h⟩
      · exact .inl ((if_neg ha).trans h)
      · exact .inr ⟨o, (if_neg ha).trans h⟩
    · exact .inr hS
  · by_cases hx : x ∈ T
    · have e' : (none : Option HO) = some o := by rw [← e]; exact (if_pos hx).symm
      cases e'
    · rw [← e]; exact (if_neg hx).symm
  · subst e
    cases r
    rfl
theorem walk {l : PySem.W.OpenLaw} {q : Program} {loose : List Str} {XP : (Str → Option Value) → Heap → Prop} {YP : World → Heap → Prop} {d : DefRec} {K : Params → PySem.W.Frag} (hn : l.most = some 63) (hdf : d.params.defaults = [])
    (hY : ∀ (w : World) (h : Heap), YP w h → (K w.params).In h)
    (F : ∀ (w : World) (mean : ExcName → Option Value) (mg mb : Str → Option Value) (fa : Addr) (h : Heap), Top q (PySem.W.looseW q loose) mean mg mb h → (K w.params).In h → h.Ns mainGlobals mg → mg d.name = some (.ref fa) →
      ∃ (fd : FuncData) (cs : List (Addr × Addr)), (∀ p ∈ cs, h.get? p.2 = some { cls := .none, data := .fields #[] }) ∧ (∀ p ∈ cs, (K w.params).lookup p.2 = none) ∧ (∀ p ∈ cs, PySem.W.CodeHd h p.1 p.2) ∧ (∀ (s : Shared) (v : Value), BindsTo s fd ⟨[v], []⟩ [("script", v)]) ∧ ∀ base : Heap, (K w.params).In base → base.Ns mainGlobals mg → (∀ p ∈ cs, LamX.TabB base mg p.1 p.2) → FnOk l.prog w (K w.params) mg base CX0 11 fa fd ["script"] (spOf (K w.params) (cs.map (·.2)) Sp_law)) :
    PySem.W.WalkO q loose XP YP l.row.toRowW d [] (fun f vs => PySem.call f vs) := by
  refine Att.attach_callB hn hdf fun w s₀ s₁ mg mb fa o pm cd doc a vs ns G Y ho hd hcd hmg hobj hints hlen hbits hg => ?_
  have KX := hY w _ Y
  obtain ⟨fd, cs, hT, nT, C, hb, hF⟩ := F w _ mg mb fa _ G.T KX G.T.g hmg
  exact LamX.law_callTs KX G.T.g G.T.b G.T.builtins G.T.nolimit hg hT nT C G.T.bmain hobj hints (Nat.le_trans hlen (by decide)) ⟨rfl, by decide, by decide⟩ hF hb (fun H hH hS => sp_in hlen (fun p hp => by
    obtain ⟨e, he, rfl⟩ := List.mem_map.mp hp
    exact hH e he) hS) fun H e s' z => z
end BL

set_option Elab.async false
set_option linter.all false
open PySem PySem.W PyProof.Rows in
set_option maxRecDepth 100000 in
set_option maxHeartbeats 0 in
theorem PySem.Challenge.cw_setright_k36_whole_bars_and_long_code_wo_holds : PySem.Challenge.rw_setright_k36_whole_bars_and_long_code_wo.Holds := by
  w_on; o_law; k_head; (case hw => w_witness2)
  k_fill
  refine BL.walk (l := PySem.Challenge.rw_setright_k36_whole_bars_and_long_code_wo) rfl rfl (fun w h Y => PySem.W.kIn_of Y) ?F
  case F =>
    intro w mean mg mb fa h Tp KX G hmg
    refine' BL.all_mk Tp KX G hmg ?a_is_number ?l_is_number ?c_is_number ?k_is_number ?a_is_bar ?l_is_bar ?c_is_bar ?k_is_bar ?a_is_base ?l_is_base ?c_is_base ?k_is_base ?a_is_code_word ?l_is_code_word ?c_is_code_word ?k_is_code_word ?a_may_turn ?l_may_turn ?c_may_turn ?k_may_turn ?a_turned ?l_turned ?c_turned ?k_turned ?a_place_of_bar ?l_place_of_bar ?c_place_of_bar ?k_place_of_bar ?a_bar_at ?l_bar_at ?c_bar_at ?k_bar_at ?a_turns ?l_turns ?c_turns ?k_turns ?a_first_ring ?l_first_ring ?c_first_ring ?k_first_ring ?a_count_words ?l_count_words ?c_count_words ?k_count_words ?a_word_at ?l_word_at ?c_word_at ?k_word_at ?a_place_of_word ?l_place_of_word ?c_place_of_word ?k_place_of_word ?a__law_draws ?l__law_draws ?c__law_draws ?k__law_draws ?a__law_take ?l__law_take ?c__law_take ?k__law_take ?a__law_alike ?l__law_alike ?c__law_alike ?k__law_alike ?a__law_word ?l__law_word ?c__law_word ?k__law_word ?a__law_place ?l__law_place ?c__law_place ?k__law_place ?a__law_may ?l__law_may ?c__law_may ?k__law_may ?a__law_behind ?l__law_behind ?c__law_behind ?k__law_behind ?a__law_bar_of ?l__law_bar_of ?c__law_bar_of ?k__law_bar_of ?a__law_word_place ?l__law_word_place ?c__law_word_place ?k__law_word_place ?a__law_whole ?l__law_whole ?c__law_whole ?k__law_whole ?a__law_told ?l__law_told ?c__law_told ?k__law_told ?a__law_bar ?l__law_bar ?c__law_bar ?k__law_bar ?a__law_words ?l__law_words ?c__law_words ?k__law_words ?a_law ?l_law ?c_law ?k_law ?m_RightError ?i_RightError ?q_RightError ?kc_RightError ?bc_RightError ?tc_RightError ?e1_RightError ?e2_RightError ?e3_RightError ?e4_RightError ?e5_RightError ?v_RightError ?m_OutOfRange ?i_OutOfRange ?q_OutOfRange ?kc_OutOfRange ?bc_OutOfRange ?tc_OutOfRange ?e1_OutOfRange ?e2_OutOfRange ?e3_OutOfRange ?e4_OutOfRange ?e5_OutOfRange ?v_OutOfRange ?m_Malformed ?i_Malformed ?q_Malformed ?kc_Malformed ?bc_Malformed ?tc_Malformed ?e1_Malformed ?e2_Malformed ?e3_Malformed ?e4_Malformed ?e5_Malformed ?v_Malformed ?m_NotThere ?i_NotThere ?q_NotThere ?kc_NotThere ?bc_NotThere ?tc_NotThere ?e1_NotThere ?e2_NotThere ?e3_NotThere ?e4_NotThere ?e5_NotThere ?v_NotThere ?m_Refused ?i_Refused ?q_Refused ?kc_Refused ?bc_Refused ?tc_Refused ?e1_Refused ?e2_Refused ?e3_Refused ?e4_Refused ?e5_Refused ?v_Refused ?m_TooMuch ?i_TooMuch ?q_TooMuch ?kc_TooMuch ?bc_TooMuch ?tc_TooMuch ?e1_TooMuch ?e2_TooMuch ?e3_TooMuch ?e4_TooMuch ?e5_TooMuch ?v_TooMuch ?hn ?ht ?x_OutOfRange ?x_Malformed ?x_NotThere ?x_Refused ?x_TooMuch ?kkk_OutOfRange_OutOfRange ?kkk_OutOfRange_Malformed ?kkk_OutOfRange_NotThere ?kkk_OutOfRange_Refused ?kkk_OutOfRange_TooMuch ?kkk_Malformed_OutOfRange ?kkk_Malformed_Malformed ?kkk_Malformed_NotThere ?kkk_Malformed_Refused ?kkk_Malformed_TooMuch ?kkk_NotThere_OutOfRange ?kkk_NotThere_Malformed ?kkk_NotThere_NotThere ?kkk_NotThere_Refused ?kkk_NotThere_TooMuch ?kkk_Refused_OutOfRange ?kkk_Refused_Malformed ?kkk_Refused_NotThere ?kkk_Refused_Refused ?kkk_Refused_TooMuch ?kkk_TooMuch_OutOfRange ?kkk_TooMuch_Malformed ?kkk_TooMuch_NotThere ?kkk_TooMuch_Refused ?kkk_TooMuch_TooMuch ?b_ValueError ?b_abs ?b_all ?b_bool ?b_divmod ?b_int ?b_isinstance ?b_len ?b_list ?b_min ?b_range ?b_reversed ?b_str ?b_sum ?b_tuple ?b_zip ?r_is_bar ?r_is_base ?r_is_code_word ?nt
    (case a_is_number => k_is)
    (case l_is_number => k_is)
    (case c_is_number => k_is)
    (case k_is_number => k_is)
    (case a_is_bar => k_is)
    (case l_is_bar => k_is)
    (case c_is_bar => k_is)
    (case k_is_bar => k_is)
    (case a_is_base => k_is)
    (case l_is_base => k_is)
    (case c_is_base => k_is)
    (case k_is_base => k_is)
    (case a_is_code_word => k_is)
    (case l_is_code_word => k_is)
    (case c_is_code_word => k_is)
    (case k_is_code_word => k_is)
    (case a_may_turn => k_is)
    (case l_may_turn => k_is)
    (case c_may_turn => k_is)
    (case k_may_turn => k_is)
    (case a_turned => k_is)
    (case l_turned => k_is)
    (case c_turned => k_is)
    (case k_turned => k_is)
    (case a_place_of_bar => k_is)
    (case l_place_of_bar => k_is)
    (case c_place_of_bar => k_is)
    (case k_place_of_bar => k_is)
    (case a_bar_at => k_is)
    (case l_bar_at => k_is)
    (case c_bar_at => k_is)
    (case k_bar_at => k_is)
    (case a_turns => k_is)
    (case l_turns => k_is)
    (case c_turns => k_is)
    (case k_turns => k_is)
    (case a_first_ring => k_is)
    (case l_first_ring => k_is)
    (case c_first_ring => k_is)
    (case k_first_ring => k_is)
    (case a_count_words => k_is)
    (case l_count_words => k_is)
    (case c_count_words => k_is)
    (case k_count_words => k_is)
    (case a_word_at => k_is)
    (case l_word_at => k_is)
    (case c_word_at => k_is)
    (case k_word_at => k_is)
    (case a_place_of_word => k_is)
    (case l_place_of_word => k_is)
    (case c_place_of_word => k_is)
    (case k_place_of_word => k_is)
    (case a__law_draws => k_is)
    (case l__law_draws => k_is)
    (case c__law_draws => k_is)
    (case k__law_draws => k_is)
    (case a__law_take => k_is)
    (case l__law_take => k_is)
    (case c__law_take => k_is)
    (case k__law_take => k_is)
    (case a__law_alike => k_is)
    (case l__law_alike => k_is)
    (case c__law_alike => k_is)
    (case k__law_alike => k_is)
    (case a__law_word => k_is)
    (case l__law_word => k_is)
    (case c__law_word => k_is)
    (case k__law_word => k_is)
    (case a__law_place => k_is)
    (case l__law_place => k_is)
    (case c__law_place => k_is)
    (case k__law_place => k_is)
    (case a__law_may => k_is)
    (case l__law_may => k_is)
    (case c__law_may => k_is)
    (case k__law_may => k_is)
    (case a__law_behind => k_is)
    (case l__law_behind => k_is)
    (case c__law_behind => k_is)
    (case k__law_behind => k_is)
    (case a__law_bar_of => k_is)
    (case l__law_bar_of => k_is)
    (case c__law_bar_of => k_is)
    (case k__law_bar_of => k_is)
    (case a__law_word_place => k_is)
    (case l__law_word_place => k_is)
    (case c__law_word_place => k_is)
    (case k__law_word_place => k_is)
    (case a__law_whole => k_is)
    (case l__law_whole => k_is)
    (case c__law_whole => k_is)
    (case k__law_whole => k_is)
    (case a__law_told => k_is)
    (case l__law_told => k_is)
    (case c__law_told => k_is)
    (case k__law_told => k_is)
    (case a__law_bar => k_is)
    (case l__law_bar => k_is)
    (case c__law_bar => k_is)
    (case k__law_bar => k_is)
    (case a__law_words => k_is)
    (case l__law_words => k_is)
    (case c__law_words => k_is)
    (case k__law_words => k_is)
    (case a_law => k_is)
    (case l_law => k_is)
    (case c_law => k_is)
    (case k_law => k_is)
    (case m_RightError => k_is)
    (case i_RightError => k_is)
    (case q_RightError => k_exc)
    (case kc_RightError => k_is)
    (case bc_RightError => k_is)
    (case tc_RightError => k_is)
    (case e1_RightError => k_is)
    (case e2_RightError => k_is)
    (case e3_RightError => k_is)
    (case e4_RightError => k_is)
    (case e5_RightError => k_is)
    (case v_RightError => k_is)
    (case m_OutOfRange => k_is)
    (case i_OutOfRange => k_is)
    (case q_OutOfRange => k_exc)
    (case kc_OutOfRange => k_is)
    (case bc_OutOfRange => k_is)
    (case tc_OutOfRange => k_is)
    (case e1_OutOfRange => k_is)
    (case e2_OutOfRange => k_is)
    (case e3_OutOfRange => k_is)
    (case e4_OutOfRange => k_is)
    (case e5_OutOfRange => k_is)
    (case v_OutOfRange => k_is)
    (case m_Malformed => k_is)
    (case i_Malformed => k_is)
    (case q_Malformed => k_exc)
    (case kc_Malformed => k_is)
    (case bc_Malformed => k_is)
    (case tc_Malformed => k_is)
    (case e1_Malformed => k_is)
    (case e2_Malformed => k_is)
    (case e3_Malformed => k_is)
    (case e4_Malformed => k_is)
    (case e5_Malformed => k_is)
    (case v_Malformed => k_is)
    (case m_NotThere => k_is)
    (case i_NotThere => k_is)
    (case q_NotThere => k_exc)
    (case kc_NotThere => k_is)
    (case bc_NotThere => k_is)
    (case tc_NotThere => k_is)
    (case e1_NotThere => k_is)
    (case e2_NotThere => k_is)
    (case e3_NotThere => k_is)
    (case e4_NotThere => k_is)
    (case e5_NotThere => k_is)
    (case v_NotThere => k_is)
    (case m_Refused => k_is)
    (case i_Refused => k_is)
    (case q_Refused => k_exc)
    (case kc_Refused => k_is)
    (case bc_Refused => k_is)
    (case tc_Refused => k_is)
    (case e1_Refused => k_is)
    (case e2_Refused => k_is)
    (case e3_Refused => k_is)
    (case e4_Refused => k_is)
    (case e5_Refused => k_is)
    (case v_Refused => k_is)
    (case m_TooMuch => k_is)
    (case i_TooMuch => k_is)
    (case q_TooMuch => k_exc)
    (case kc_TooMuch => k_is)
    (case bc_TooMuch => k_is)
    (case tc_TooMuch => k_is)
    (case e1_TooMuch => k_is)
    (case e2_TooMuch => k_is)
    (case e3_TooMuch => k_is)
    (case e4_TooMuch => k_is)
    (case e5_TooMuch => k_is)
    (case v_TooMuch => k_is)
    (case hn => k_is)
    (case ht => k_is)
    (case x_OutOfRange => k_is)
    (case x_Malformed => k_is)
    (case x_NotThere => k_is)
    (case x_Refused => k_is)
    (case x_TooMuch => k_is)
    (case kkk_OutOfRange_OutOfRange => k_is)
    (case kkk_OutOfRange_Malformed => k_is)
    (case kkk_OutOfRange_NotThere => k_is)
    (case kkk_OutOfRange_Refused => k_is)
    (case kkk_OutOfRange_TooMuch => k_is)
    (case kkk_Malformed_OutOfRange => k_is)
    (case kkk_Malformed_Malformed => k_is)
    (case kkk_Malformed_NotThere => k_is)
    (case kkk_Malformed_Refused => k_is)
    (case kkk_Malformed_TooMuch => k_is)
    (case kkk_NotThere_OutOfRange => k_is)
    (case kkk_NotThere_Malformed => k_is)
    (case kkk_NotThere_NotThere => k_is)
    (case kkk_NotThere_Refused => k_is)
    (case kkk_NotThere_TooMuch => k_is)
    (case kkk_Refused_OutOfRange => k_is)
    (case kkk_Refused_Malformed => k_is)
    (case kkk_Refused_NotThere => k_is)
    (case kkk_Refused_Refused => k_is)
    (case kkk_Refused_TooMuch => k_is)
    (case kkk_TooMuch_OutOfRange => k_is)
    (case kkk_TooMuch_Malformed => k_is)
    (case kkk_TooMuch_NotThere => k_is)
    (case kkk_TooMuch_Refused => k_is)
    (case kkk_TooMuch_TooMuch => k_is)
    (case b_ValueError => k_is)
    (case b_abs => k_is)
    (case b_all => k_is)
    (case b_bool => k_is)
    (case b_divmod => k_is)
    (case b_int => k_is)
    (case b_isinstance => k_is)
    (case b_len => k_is)
    (case b_list => k_is)
    (case b_min => k_is)
    (case b_range => k_is)
    (case b_reversed => k_is)
    (case b_str => k_is)
    (case b_sum => k_is)
    (case b_tuple => k_is)
    (case b_zip => k_is)
    (case r_is_bar => rfl)
    (case r_is_base => rfl)
    (case r_is_code_word => rfl)
    (case nt => kernel_rfl)

