import PyProof.Rows.All
import Wide.All
import OpenK.AllK
import Wide.FinOn
import HandS.ForMost
import HandS.TupAny
import HandS.TupMul
import HandS.Deep
import HandS.Zip
import HandS.Walk
import HandS.More
import HandS.IsInst
import HandS.Conv
import HandS.DictComp
import HandS.SortInts
import HandS.SortRule
import HandS.Wide
import HandS.Flow
import HandS.RaiseMore
import PyProof.ReprRoads
import KE.GoesNew
import KE.GoesMore
import KE.GoesEnum
import HandS.Style
import HandS.Small
import HandS.Words
import HandS.Ends
import HandS.Codes
import KE.KDictZip
import KE.KDictItemsList
import KE.GoesZip
import HandS.IterVal
import HandS.Dict
import KE.SortData
import KE.KRevSl
import OpenK.KEqL
import KE.DataMinMax
import HandS.Defaults
import HandS.TupLen
import KE.KTupSum
import PySem.Challenge.RW_skywrought_k32_whole_aisles
set_option Elab.async false
set_option linter.all false
set_option maxRecDepth 100000
/-! EV0: plain data for values, environments of data, and how they stand in the hand layer's heap. -/
namespace EV
open PySem PySem.Spec L2

abbrev D := PyData
/-- what a slot of a frame holds: nothing known, a datum that is never changed any more, or a list or dict of its own (p: it is a parameter's) -/
inductive Slot where
  | emp
  | val (d : D)
  | own (p : Bool) (d : D)
abbrev Sg := List Slot
def kD : Key → D
  | .inl i => .int i
  | .inr x => .str x

mutual
inductive Rp (K : PySem.W.Frag) (H : Hp) : V → D → Prop
  | non : Rp K H .non .none
  | bl (b : Bool) : Rp K H (.bl b) (.bool b)
  | int (i : Int) : Rp K H (.int i) (.int i)
  | str (x : Str) : Rp K H (.str x) (.str x)
  | lst {a : Addr} {vs : List V} {ds : List D} : H a = some (.lst vs) → RpL K H vs ds → Rp K H (.ref a) (.list ds)
  | tup {a : Addr} {vs : List V} {ds : List D} : SqT K H a vs → RpL K H vs ds → Rp K H (.ref a) (.tuple ds)
  | dic {a : Addr} {kvs : List (Key × V)} {ds : List (D × D)} : Rd H a (.dK kvs) → RpK K H kvs ds → Rp K H (.ref a) (.dict ds)
  | scr {a : Addr} {ns : List Int} : SqL K H a (ns.map V.int) → Rp K H (.ref a) (.dict [(.none, .list (ns.map PyData.int))])
inductive RpL (K : PySem.W.Frag) (H : Hp) : List V → List D → Prop
  | nil : RpL K H [] []
  | cons {v : V} {vs : List V} {d : D} {ds : List D} : Rp K H v d → RpL K H vs ds → RpL K H (v :: vs) (d :: ds)
inductive RpK (K : PySem.W.Frag) (H : Hp) : List (Key × V) → List (D × D) → Prop
  | nil : RpK K H [] []
  | cons {k : Key} {v : V} {vs : List (Key × V)} {d : D} {ds : List (D × D)} : Rp K H v d → RpK K H vs ds → RpK K H ((k, v) :: vs) ((kD k, d) :: ds)
end

/-- all that a datum leans on stays -/
structure Ext (H H' : Hp) : Prop where
  t : ∀ b xs, Rd H b (.tup xs) → Rd H' b (.tup xs)
  l : ∀ b xs, H b = some (.lst xs) → H' b = some (.lst xs)
  s : ∀ b xs, Rd H b (.lst xs) → Rd H' b (.lst xs)
  d : ∀ b xs, Rd H b (.dK xs) → Rd H' b (.dK xs)
abbrev Grow (H H' : Hp) : Prop := ∀ b o, H b = some o → H' b = some o
theorem Grow.rd {H H' : Hp} (g : Grow H H') {b : Addr} {u : HO} (r : Rd H b u) : Rd H' b u := by
  rcases r with r | ⟨o, r⟩
  · exact .inl (g _ _ r)
  · exact .inr ⟨o, g _ _ r⟩
theorem Grow.ext {H H' : Hp} (g : Grow H H') : Ext H H' := ⟨fun _ _ r => g.rd r, fun _ _ r => g _ _ r, fun _ _ r => g.rd r, fun _ _ r => g.rd r⟩
theorem Grow.trans {H H1 H2 : Hp} (a : Grow H H1) (b : Grow H1 H2) : Grow H H2 := fun c o h => b c o (a c o h)
theorem Ext.sqT {K : PySem.W.Frag} {H H' : Hp} (e : Ext H H') {a : Addr} {xs : List V} (h : SqT K H a xs) : SqT K H' a xs := h.elim (fun r => .inl (e.t _ _ r)) .inr
theorem Ext.sqL {K : PySem.W.Frag} {H H' : Hp} (e : Ext H H') {a : Addr} {xs : List V} (h : SqL K H a xs) : SqL K H' a xs := h.elim (fun r => .inl (e.s _ _ r)) .inr
section
variable {K : PySem.W.Frag} {H H' : Hp}
mutual
theorem Rp.mono (e : Ext H H') : ∀ {v : V} {d : D}, Rp K H v d → Rp K H' v d
  | _, _, .non => .non
  | _, _, .bl b => .bl b
  | _, _, .int i => .int i
  | _, _, .str x => .str x
  | _, _, .lst h r => .lst (e.l _ _ h) (RpL.mono e r)
  | _, _, .tup h r => .tup (e.sqT h) (RpL.mono e r)
  | _, _, .dic h r => .dic (e.d _ _ h) (RpK.mono e r)
  | _, _, .scr h => .scr (e.sqL h)
theorem RpL.mono (e : Ext H H') : ∀ {vs : List V} {ds : List D}, RpL K H vs ds → RpL K H' vs ds
  | _, _, .nil => .nil
  | _, _, .cons a r => .cons (Rp.mono e a) (RpL.mono e r)
theorem RpK.mono (e : Ext H H') : ∀ {vs : List (Key × V)} {ds : List (D × D)}, RpK K H vs ds → RpK K H' vs ds
  | _, _, .nil => .nil
  | _, _, .cons a r => .cons (Rp.mono e a) (RpK.mono e r)
end
theorem RpL.length : ∀ {vs : List V} {ds : List D}, RpL K H vs ds → vs.length = ds.length
  | _, _, .nil => rfl
  | _, _, .cons _ r => by simp [RpL.length r]
theorem RpK.length : ∀ {vs : List (Key × V)} {ds : List (D × D)}, RpK K H vs ds → vs.length = ds.length
  | _, _, .nil => rfl
  | _, _, .cons _ r => by simp [RpK.length r]
theorem RpL.append : ∀ {vs ws : List V} {ds es : List D}, RpL K H vs ds → RpL K H ws es → RpL K H (vs ++ ws) (ds ++ es)
  | _, _, _, _, .nil, s => s
  | _, _, _, _, .cons a r, s => .cons a (RpL.append r s)
theorem RpL.get : ∀ {vs : List V} {ds : List D} {i : Nat} {v : V}, RpL K H vs ds → vs[i]? = some v → ∃ d, ds[i]? = some d ∧ Rp K H v d
  | _, _, _, _, .nil, e => by simp at e
  | _, _, 0, _, .cons a _, e => by simp at e; subst e; exact ⟨_, rfl, a⟩
  | _, _, i + 1, _, .cons _ r, e => by
    obtain ⟨d, h1, h2⟩ := RpL.get (i := i) r (by simpa using e)
    exact ⟨d, by simpa using h1, h2⟩
theorem RpL.getD' : ∀ {vs : List V} {ds : List D} {i : Nat} {d : D}, RpL K H vs ds → ds[i]? = some d → ∃ v, vs[i]? = some v ∧ Rp K H v d
  | _, _, _, _, .nil, e => by simp at e
  | _, _, 0, _, .cons a _, e => by simp at e; subst e; exact ⟨_, rfl, a⟩
  | _, _, i + 1, _, .cons _ r, e => by
    obtain ⟨v, h1, h2⟩ := RpL.getD' (i := i) r (by simpa using e)
    exact ⟨v, by simpa using h1, h2⟩
theorem RpL.take : ∀ {vs : List V} {ds : List D} (n : Nat), RpL K H vs ds → RpL K H (vs.take n) (ds.take n)
  | _, _, 0, _ => by simp; exact .nil
  | _, _, _ + 1, .nil => by simp; exact .nil
  | _, _, n + 1, .cons a r => by simp; exact .cons a (RpL.take n r)
theorem RpL.drop : ∀ {vs : List V} {ds : List D} (n : Nat), RpL K H vs ds → RpL K H (vs.drop n) (ds.drop n)
  | _, _, 0, r => by simpa using r
  | _, _, _ + 1, .nil => by simp; exact .nil
  | _, _, n + 1, .cons _ r => by simp; exact RpL.drop n r
theorem RpL.set {v : V} {d : D} (a : Rp K H v d) : ∀ {vs : List V} {ds : List D} (i : Nat), RpL K H vs ds → RpL K H (vs.set i v) (ds.set i d)
  | _, _, _, .nil => by simp; exact .nil
  | _, _, 0, .cons _ r => by simp; exact .cons a r
  | _, _, i + 1, .cons b r => by simp; exact .cons b (RpL.set a i r)
theorem RpL.reverse : ∀ {vs : List V} {ds : List D}, RpL K H vs ds → RpL K H vs.reverse ds.reverse
  | _, _, .nil => by simp; exact .nil
  | _, _, .cons a r => by simp only [List.reverse_cons]; exact (RpL.reverse r).append (.cons a .nil)
theorem RpL.ints : ∀ {vs : List V} {ns : List Int}, RpL K H vs (ns.map PyData.int) → vs = ns.map V.int
  | _, [], .nil => rfl
  | _, _ :: _, .cons a r => by cases a; rw [RpL.ints r]; rfl
theorem RpL.ofInts : ∀ (ns : List Int), RpL K H (ns.map V.int) (ns.map PyData.int)
  | [] => .nil
  | n :: r => .cons (.int n) (RpL.ofInts r)
end

/-! ### hidden addresses -/
open Classical in
/-- the heap without the addresses of P -/
noncomputable def hid (P : Addr → Prop) (H : Hp) : Hp := fun b => if P b then none else H b
theorem hid_vis {P : Addr → Prop} {H : Hp} {b : Addr} (h : ¬ P b) : hid P H b = H b := if_neg h
theorem hid_iff {P : Addr → Prop} {H : Hp} {b : Addr} {o : HO} : hid P H b = some o ↔ ¬ P b ∧ H b = some o := by
  unfold hid
  by_cases h : P b
  · simp [h]
  · simp [h]
theorem hid_grow {P P' : Addr → Prop} {H H' : Hp} (hp : ∀ b o, H b = some o → P' b → P b) (g : ∀ b o, ¬ P b → H b = some o → H' b = some o) : Grow (hid P H) (hid P' H') := fun b o e => by
  obtain ⟨n, e⟩ := hid_iff.mp e
  exact hid_iff.mpr ⟨fun z => n (hp b o e z), g b o n e⟩
theorem hid_sub {P : Addr → Prop} {H : Hp} : Grow (hid P H) H := fun _ _ e => (hid_iff.mp e).2

/-- slots' own addresses and others that are hidden -/
abbrev Mp := Nat → Option Addr
def Hd (m : Mp) (ex : Addr → Prop) (b : Addr) : Prop := ex b ∨ ∃ i, m i = some b

/-- a list or dict that stands at a for the datum; G: what its items lean on -/
inductive Ow (K : PySem.W.Frag) (G H : Hp) (a : Addr) : D → Prop
  | lst {vs : List V} {ds : List D} : H a = some (.lst vs) → RpL K G vs ds → Ow K G H a (.list ds)
  | dic {kvs : List (Key × V)} {ds : List (D × D)} : H a = some (.dK kvs) → RpK K G kvs ds → Ow K G H a (.dict ds)
theorem Ow.mono {K : PySem.W.Frag} {G G' H H' : Hp} {a : Addr} {d : D} (e : Ext G G') (h : H' a = H a) : Ow K G H a d → Ow K G' H' a d
  | .lst q r => .lst (by rw [h]; exact q) (r.mono e)
  | .dic q r => .dic (by rw [h]; exact q) (r.mono e)
theorem Ow.rp {K : PySem.W.Frag} {G H : Hp} {a : Addr} {d : D} (g : Grow G H) : Ow K G H a d → Rp K H (.ref a) d
  | .lst q r => .lst q (r.mono g.ext)
  | .dic q r => .dic (.inl q) (r.mono g.ext)
theorem Ow.some {K : PySem.W.Frag} {G H : Hp} {a : Addr} {d : D} : Ow K G H a d → ∃ o, H a = some o
  | .lst q _ => ⟨_, q⟩
  | .dic q _ => ⟨_, q⟩

def SlotR (K : PySem.W.Frag) (G H : Hp) (m : Mp) (σ : L2.St) (i : Nat) : Slot → Prop
  | .emp => True
  | .val d => ∃ v, σ[i]? = some (some v) ∧ Rp K G v d
  | .own _ d => ∃ a, m i = some a ∧ σ[i]? = some (some (.ref a)) ∧ Ow K G H a d

/-- the frame's slots σ and the heap H bear the environment g -/
structure SR (K : PySem.W.Frag) (m : Mp) (ex : Addr → Prop) (σ : L2.St) (H : Hp) (g : Sg) : Prop where
  len : σ.length = g.length
  inj : ∀ i j a, m i = some a → m j = some a → i = j
  nex : ∀ i a, m i = some a → ¬ ex a
  exl : ∀ a, ex a → ∃ o, H a = some o
  own : ∀ i a, m i = some a → ∃ p d, g[i]? = some (.own p d)
  slot : ∀ i s, g[i]? = some s → SlotR K (hid (Hd m ex) H) H m σ i s
section
variable {K : PySem.W.Frag} {m : Mp} {ex : Addr → Prop} {σ : L2.St} {H H' : Hp} {g g' : Sg}
theorem SR.hdl (S : SR K m ex σ H g) {a : Addr} (h : Hd m ex a) : ∃ o, H a = some o := by
  rcases h with h | ⟨i, h⟩
  · exact S.exl a h
  · obtain ⟨p, d, e⟩ := S.own i a h
    obtain ⟨b, e1, _, w⟩ := S.slot i _ e
    rw [h] at e1; cases e1
    exact w.some
theorem SR.fresh (S : SR K m ex σ H g) {a : Addr} (h : H a = none) : ¬ Hd m ex a := fun z => by
  obtain ⟨o, e⟩ := S.hdl z
  rw [h] at e; cases e
/-- everything stays, more may come -/
theorem SR.grow (S : SR K m ex σ H g) (gr : Grow H H') : SR K m ex σ H' g := by
  have e : Ext (hid (Hd m ex) H) (hid (Hd m ex) H') := (hid_grow (fun _ _ _ z => z) fun b o _ q => gr b o q).ext
  refine ⟨S.len, S.inj, S.nex, fun a h => (S.exl a h).imp fun o q => gr a o q, S.own, fun i s q => ?_⟩
  have := S.slot i s q
  cases s with
  | emp => trivial
  | val d => obtain ⟨v, h1, h2⟩ := this; exact ⟨v, h1, h2.mono e⟩
  | own p d =>
    obtain ⟨a, h1, h2, h3⟩ := this
    obtain ⟨o, ho⟩ := h3.some
    exact ⟨a, h1, h2, h3.mono e (by rw [ho]; exact gr a o ho)⟩
/-- a slot gets a datum; what it owned is let go -/
def del (m : Mp) (i : Nat) : Mp := fun j => if j = i then none else m j
theorem del_sub {i j : Nat} {a : Addr} (h : del m i j = some a) : j ≠ i ∧ m j = some a := by
  unfold del at h
  split at h
  · cases h
  · exact ⟨‹_›, h⟩
theorem del_hd {i : Nat} {a : Addr} (h : Hd (del m i) ex a) : Hd m ex a := by
  rcases h with h | ⟨j, h⟩
  · exact .inl h
  · exact .inr ⟨j, (del_sub h).2⟩
theorem SR.setv (S : SR K m ex σ H g) {i : Nat} {v : V} {d : D} (r : Rp K (hid (Hd m ex) H) v d) : SR K (del m i) ex (σ.set i (some v)) H (g.set i (.val d)) := by
  have gr : Grow (hid (Hd m ex) H) (hid (Hd (del m i) ex) H) := hid_grow (fun _ _ _ z => del_hd z) fun _ _ _ q => q
  refine ⟨by simp [S.len], fun a b c h1 h2 => S.inj a b c (del_sub h1).2 (del_sub h2).2, fun a b h => S.nex a b (del_sub h).2, S.exl, fun a b h => ?_, fun j s q => ?_⟩
  · obtain ⟨h1, h2⟩ := del_sub h
    obtain ⟨p, e, q⟩ := S.own a b h2
    exact ⟨p, e, by rw [List.getElem?_set_ne (Ne.symm h1)]; exact q⟩
  · by_cases hj : i = j
    · subst hj
      rw [List.getElem?_set] at q
      split at q
      · split at q
        · cases q
          refine ⟨v, ?_, r.mono gr.ext⟩
          rw [List.getElem?_set_self (by rw [S.len]; assumption)]
        · cases q
      · contradiction
    · rw [List.getElem?_set_ne hj] at q
      have := S.slot j s q
      cases s with
      | emp => trivial
      | val d => obtain ⟨w, h1, h2⟩ := this; exact ⟨w, by rw [List.getElem?_set_ne hj]; exact h1, h2.mono gr.ext⟩
      | own p d =>
        obtain ⟨a, h1, h2, h3⟩ := this
        exact ⟨a, by unfold del; rw [if_neg (Ne.symm hj)]; exact h1, by rw [List.getElem?_set_ne hj]; exact h2, h3.mono gr.ext rfl⟩
/-- forgetting a slot -/
theorem SR.sete (S : SR K m ex σ H g) {i : Nat} {x : Option V} : SR K (del m i) ex (σ.set i x) H (g.set i .emp) := by
  have gr : Grow (hid (Hd m ex) H) (hid (Hd (del m i) ex) H) := hid_grow (fun _ _ _ z => del_hd z) fun _ _ _ q => q
  refine ⟨by simp [S.len], fun a b c h1 h2 => S.inj a b c (del_sub h1).2 (del_sub h2).2, fun a b h => S.nex a b (del_sub h).2, S.exl, fun a b h => ?_, fun j s q => ?_⟩
  · obtain ⟨h1, h2⟩ := del_sub h
    obtain ⟨p, e, q⟩ := S.own a b h2
    exact ⟨p, e, by rw [List.getElem?_set_ne (Ne.symm h1)]; exact q⟩
  · by_cases hj : i = j
    · subst hj
      rw [List.getElem?_set] at q
      split at q
      · split at q
        · cases q; trivial
        · cases q
      · contradiction
    · rw [List.getElem?_set_ne hj] at q
      have := S.slot j s q
      cases s with
      | emp => trivial
      | val d => obtain ⟨w, h1, h2⟩ := this; exact ⟨w, by rw [List.getElem?_set_ne hj]; exact h1, h2.mono gr.ext⟩
      | own p d =>
        obtain ⟨a, h1, h2, h3⟩ := this
        exact ⟨a, by unfold del; rw [if_neg (Ne.symm hj)]; exact h1, by rw [List.getElem?_set_ne hj]; exact h2, h3.mono gr.ext rfl⟩
/-- a new hidden thing -/
def exP (ex : Addr → Prop) (p : Addr) : Addr → Prop := fun a => ex a ∨ a = p
theorem exP_hd {p a : Addr} : Hd m (exP ex p) a ↔ Hd m ex a ∨ a = p := by
  unfold Hd exP
  constructor
  · rintro ((h | h) | h)
    · exact .inl (.inl h)
    · exact .inr h
    · exact .inl (.inr h)
  · rintro ((h | h) | h)
    · exact .inl (.inl h)
    · exact .inr h
    · exact .inl (.inr h)
theorem SR.hide (S : SR K m ex σ H g) {p : Addr} {o : HO} (hp : H p = none) : SR K m (exP ex p) σ (upd H p o) g := by
  have ne : ∀ a u, H a = some u → a ≠ p := fun a u e z => by rw [z, hp] at e; cases e
  have gr : Grow (hid (Hd m ex) H) (hid (Hd m (exP ex p)) (upd H p o)) := hid_grow (fun b u e z => by
    rcases exP_hd.mp z with z | z
    · exact z
    · exact absurd z (ne b u e)) fun b u _ e => by rw [upd_ne (ne b u e)]; exact e
  refine ⟨S.len, S.inj, fun i a h z => ?_, fun a h => ?_, S.own, fun i s q => ?_⟩
  · rcases z with z | z
    · exact S.nex i a h z
    · obtain ⟨u, e⟩ := S.hdl (.inr ⟨i, h⟩)
      exact ne a u e z
  · rcases h with h | h
    · obtain ⟨u, e⟩ := S.exl a h
      exact ⟨u, by rw [upd_ne (ne a u e)]; exact e⟩
    · exact ⟨o, by rw [h]; exact upd_same⟩
  · have := S.slot i s q
    cases s with
    | emp => trivial
    | val d => obtain ⟨w, h1, h2⟩ := this; exact ⟨w, h1, h2.mono gr.ext⟩
    | own p' d =>
      obtain ⟨a, h1, h2, h3⟩ := this
      obtain ⟨u, e⟩ := h3.some
      exact ⟨a, h1, h2, h3.mono gr.ext (upd_ne (ne a u e))⟩
/-- what was hidden besides is shown -/
theorem SR.show (S : SR K m (exP ex p) σ H g) : SR K m ex σ H g := by
  have gr : Grow (hid (Hd m (exP ex p)) H) (hid (Hd m ex) H) := hid_grow (fun b u e z => exP_hd.mpr (.inl z)) fun _ _ _ q => q
  refine ⟨S.len, S.inj, fun i a h z => S.nex i a h (.inl z), fun a h => S.exl a (.inl h), S.own, fun i s q => ?_⟩
  have := S.slot i s q
  cases s with
  | emp => trivial
  | val d => obtain ⟨w, h1, h2⟩ := this; exact ⟨w, h1, h2.mono gr.ext⟩
  | own p' d => obtain ⟨a, h1, h2, h3⟩ := this; exact ⟨a, h1, h2, h3.mono gr.ext rfl⟩
/-- a hidden thing is changed -/
theorem SR.wrex (S : SR K m ex σ H g) {p : Addr} {o : HO} (hp : ex p) : SR K m ex σ (upd H p o) g := by
  have hh : Hd m ex p := .inl hp
  have gr : Grow (hid (Hd m ex) H) (hid (Hd m ex) (upd H p o)) := hid_grow (fun _ _ _ z => z) fun b u n e => by rw [upd_ne (fun z => n (by rw [z]; exact hh))]; exact e
  refine ⟨S.len, S.inj, S.nex, fun a h => ?_, S.own, fun i s q => ?_⟩
  · by_cases e : a = p
    · exact ⟨o, by rw [e]; exact upd_same⟩
    · obtain ⟨u, z⟩ := S.exl a h
      exact ⟨u, by rw [upd_ne e]; exact z⟩
  · have := S.slot i s q
    cases s with
    | emp => trivial
    | val d => obtain ⟨w, h1, h2⟩ := this; exact ⟨w, h1, h2.mono gr.ext⟩
    | own p' d =>
      obtain ⟨a, h1, h2, h3⟩ := this
      refine ⟨a, h1, h2, h3.mono gr.ext (upd_ne fun z => ?_)⟩
      subst z
      exact S.nex i _ h1 hp
/-- a slot's own thing is changed -/
theorem SR.wr (S : SR K m ex σ H g) {i : Nat} {a : Addr} {p : Bool} {d0 d : D} {o : HO} (hm : m i = some a) (hg : g[i]? = some (.own p d0)) (w : ∀ G, Ext (hid (Hd m ex) H) G → Ow K G (upd H a o) a d) : SR K m ex σ (upd H a o) (g.set i (.own p d)) := by
  have hh : Hd m ex a := .inr ⟨i, hm⟩
  have gr : Grow (hid (Hd m ex) H) (hid (Hd m ex) (upd H a o)) := hid_grow (fun _ _ _ z => z) fun b u n e => by rw [upd_ne (fun z => n (by rw [z]; exact hh))]; exact e
  have hi : i < g.length := (List.getElem?_eq_some_iff.mp hg).1
  refine ⟨by simp [S.len], S.inj, S.nex, fun b h => ?_, fun j b h => ?_, fun j s q => ?_⟩
  · obtain ⟨u, z⟩ := S.exl b h
    exact ⟨u, by rw [upd_ne (fun e => S.nex i a hm (by rw [← e]; exact h))]; exact z⟩
  · by_cases hj : i = j
    · subst hj
      exact ⟨p, d, List.getElem?_set_self hi⟩
    · rw [List.getElem?_set_ne hj]; exact S.own j b h
  · by_cases hj : i = j
    · subst hj
      rw [List.getElem?_set_self hi] at q
      cases q
      obtain ⟨b, e1, e2, _⟩ := S.slot i _ hg
      rw [hm] at e1; cases e1
      exact ⟨a, hm, e2, w _ gr.ext⟩
    · rw [List.getElem?_set_ne hj] at q
      have := S.slot j s q
      cases s with
      | emp => trivial
      | val d => obtain ⟨v, h1, h2⟩ := this; exact ⟨v, h1, h2.mono gr.ext⟩
      | own p' d' =>
        obtain ⟨b, h1, h2, h3⟩ := this
        exact ⟨b, h1, h2, h3.mono gr.ext (upd_ne fun z => hj (S.inj i j a hm (by rw [← z]; exact h1)))⟩
/-- a slot takes the hidden thing at p as its own -/
theorem SR.seto (S : SR K m (exP ex p) σ H g) {i : Nat} {d : D} (hi : i < g.length) (nx : ¬ ex p) (nm : ∀ j, m j ≠ some p) (w : Ow K (hid (Hd m (exP ex p)) H) H p d) :
    SR K (fun j => if j = i then some p else m j) ex (σ.set i (some (.ref p))) H (g.set i (.own false d)) := by
  have hd : ∀ b, Hd (fun j => if j = i then some p else m j) ex b → Hd m (exP ex p) b := fun b h => by
    rcases h with h | ⟨j, h⟩
    · exact .inl (.inl h)
    · simp only at h
      split at h
      · cases h; exact .inl (.inr rfl)
      · exact .inr ⟨j, h⟩
  have gr : Grow (hid (Hd m (exP ex p)) H) (hid (Hd (fun j => if j = i then some p else m j) ex) H) := hid_grow (fun b u e z => hd b z) fun _ _ _ q => q
  refine ⟨by simp [S.len], fun a b c h1 h2 => ?_, fun a b h => ?_, fun a h => S.exl a (.inl h), fun a b h => ?_, fun j s q => ?_⟩
  · split at h1 <;> split at h2
    · subst_vars; rfl
    · cases h1; exact absurd h2 (nm b)
    · cases h2; exact absurd h1 (nm a)
    · exact S.inj a b c h1 h2
  · split at h
    · cases h; exact nx
    · exact fun z => S.nex a b h (.inl z)
  · split at h
    · subst_vars; exact ⟨false, d, List.getElem?_set_self hi⟩
    · rename_i ne
      rw [List.getElem?_set_ne (Ne.symm ne)]; exact S.own a b h
  · by_cases hj : i = j
    · subst hj
      rw [List.getElem?_set_self hi] at q
      cases q
      exact ⟨p, by simp, by rw [List.getElem?_set_self (by rw [S.len]; exact hi)], w.mono gr.ext rfl⟩
    · rw [List.getElem?_set_ne hj] at q
      have := S.slot j s q
      cases s with
      | emp => trivial
      | val d => obtain ⟨v, h1, h2⟩ := this; exact ⟨v, by rw [List.getElem?_set_ne hj]; exact h1, h2.mono gr.ext⟩
      | own p' d' =>
        obtain ⟨b, h1, h2, h3⟩ := this
        exact ⟨b, by simp [Ne.symm hj, h1], by rw [List.getElem?_set_ne hj]; exact h2, h3.mono gr.ext rfl⟩
end
end EV

set_option Elab.async false
set_option linter.all false
set_option maxRecDepth 100000
/-! EV1: the judgements over environments of data, and the rules for expressions. -/
namespace EV
open PySem PySem.Spec L2

/-! ### contexts -/
/-- what is the same in the whole program -/
structure Gb where
  prog : Program
  w : World
  K : PySem.W.Frag
  mg : Str → Option Value
  base : Heap
abbrev gb (X : Cx) : Gb := ⟨X.prog, X.w, X.K, X.mg, X.base⟩
/-- where a piece of code stands: its names, its scope, the names whose cells are its own, the room for calls -/
structure Sx where
  N : List Str
  sc : Scope
  fn : Str → Bool
  lv : Nat
structure SX (G : Gb) (c : Sx) (X : Cx) : Prop where
  gb : gb X = G
  N : X.N = c.N
  nd : c.N.Nodup
  sc : X.env.scope = c.sc
  calm : X.calm = true
  room : Room c.lv X.A
  grd : X.A.guards = some []
  fn : X.fn = c.fn
abbrev Sf := Sg → Option (D × Sg)

/-! ### what holds behind an expression -/
structure Po (K : PySem.W.Frag) (m : Mp) (ex : Addr → Prop) (σ : L2.St) (H : Hp) (g : Sg) (π : Bool) (g' : Sg) (H' : Hp) : Prop where
  sr : SR K m ex σ H' g'
  vis : ∀ b o, ¬ Hd m ex b → H b = some o → H' b = some o
  exk : ∀ b, ex b → H' b = H b
  pur : π = true → g' = g ∧ Grow H H'
/-- a value for a datum: to be kept (τ), or to be read now -/
def Rt (K : PySem.W.Frag) (τ : Bool) (G H : Hp) (v : V) (d : D) : Prop := Rp K G v d ∨ (τ = false ∧ ∃ a, v = .ref a ∧ Ow K G H a d)
section
variable {K : PySem.W.Frag} {m : Mp} {ex : Addr → Prop} {σ : L2.St} {H H1 H2 : Hp} {g g1 g2 : Sg} {π π1 π2 τ : Bool} {v : V} {d : D} {p : Addr} {o : HO}
theorem Po.refl (S : SR K m ex σ H g) : Po K m ex σ H g π g H := ⟨S, fun _ _ _ e => e, fun _ _ => rfl, fun _ => ⟨rfl, fun _ _ e => e⟩⟩
theorem Po.grow (S : SR K m ex σ H g) (gr : Grow H H1) : Po K m ex σ H g π g H1 :=
  ⟨S.grow gr, fun _ _ _ e => gr _ _ e, fun b h => by obtain ⟨o, e⟩ := S.exl b h; rw [e]; exact gr _ _ e, fun _ => ⟨rfl, gr⟩⟩
theorem grow_new (h : H p = none) : Grow H (upd H p o) := fun b u e => by rw [upd_ne (ne_of_none e h)]; exact e
theorem Po.new (S : SR K m ex σ H g) (h : H p = none) : Po K m ex σ H g π g (upd H p o) := .grow S (grow_new h)
theorem Po.trans (a : Po K m ex σ H g π1 g1 H1) (b : Po K m ex σ H1 g1 π2 g2 H2) : Po K m ex σ H g (π1 && π2) g2 H2 :=
  ⟨b.sr, fun c o n e => b.vis c o n (a.vis c o n e), fun c h => (b.exk c h).trans (a.exk c h), fun h => by
    obtain ⟨h1, h2⟩ := Bool.and_eq_true_iff.mp h
    exact ⟨(b.pur h2).1.trans (a.pur h1).1, (a.pur h1).2.trans (b.pur h2).2⟩⟩
theorem Po.weak (a : Po K m ex σ H g π1 g1 H1) (h : π = true → π1 = true) : Po K m ex σ H g π g1 H1 := ⟨a.sr, a.vis, a.exk, fun z => a.pur (h z)⟩
theorem Po.ext (a : Po K m ex σ H g π g1 H1) : Ext (hid (Hd m ex) H) (hid (Hd m ex) H1) := (hid_grow (fun _ _ _ z => z) a.vis).ext
theorem Rt.of (r : Rp K H v d) : Rt K τ H H1 v d := .inl r
theorem Rt.strong (r : Rt K true H H1 v d) : Rp K H v d := r.elim id fun z => nomatch z.1
theorem Rt.weak (r : Rt K τ H H1 v d) : Rt K false H H1 v d := r.elim .inl fun z => .inr ⟨rfl, z.2⟩
theorem Rt.all {τ' : Bool} (r : Rt K τ H H1 v d) (h : τ' = true → τ = true) : Rt K τ' H H1 v d := by
  rcases r with r | ⟨e, z⟩
  · exact .inl r
  · refine .inr ⟨?_, z⟩
    cases τ' with
    | false => rfl
    | true => rw [h rfl] at e; cases e
theorem Rt.carry (a : Po K m ex σ H g π g1 H1) (h : τ = true ∨ π = true) (r : Rt K τ (hid (Hd m ex) H) H v d) : Rt K τ (hid (Hd m ex) H1) H1 v d := by
  rcases r with r | ⟨e, b, ev, w⟩
  · exact .inl (r.mono a.ext)
  · rcases h with h | h
    · rw [h] at e; cases e
    · obtain ⟨o, ho⟩ := w.some
      exact .inr ⟨e, b, ev, w.mono a.ext (by rw [ho]; exact (a.pur h).2 _ _ ho)⟩
end

/-! ### the readings -/
def TF (K : PySem.W.Frag) (π τ : Bool) (f : Sf) : TE := fun σ H Q => ∃ m ex g d g', SR K m ex σ H g ∧ f g = some (d, g') ∧ ∀ v H', Po K m ex σ H g π g' H' → Rt K τ (hid (Hd m ex) H') H' v d → Q v H'
def TFT (K : PySem.W.Frag) (π : Bool) (f : Sg → Option (Bool × Sg)) : TT := fun σ H Q => ∃ m ex g b g', SR K m ex σ H g ∧ f g = some (b, g') ∧ ∀ H', Po K m ex σ H g π g' H' → Q b H'
def TFA (K : PySem.W.Frag) (π : Bool) (f : Sg → Option (List D × Sg)) : TA := fun σ H Q => ∃ m ex g ds g', SR K m ex σ H g ∧ f g = some (ds, g') ∧ ∀ vs H', Po K m ex σ H g π g' H' → RpL K (hid (Hd m ex) H') vs ds → Q vs H'
/-- a new list or dict at p, hidden so far -/
structure PoF (K : PySem.W.Frag) (m : Mp) (ex : Addr → Prop) (σ : L2.St) (H : Hp) (g : Sg) (π : Bool) (g' : Sg) (p : Addr) (H' : Hp) : Prop where
  sr : SR K m (exP ex p) σ H' g'
  vis : ∀ b o, ¬ Hd m ex b → H b = some o → H' b = some o
  exk : ∀ b, ex b → H' b = H b
  pur : π = true → g' = g ∧ Grow H H'
  new : H p = none
def TFF (K : PySem.W.Frag) (π : Bool) (f : Sf) : TE := fun σ H Q => ∃ m ex g d g', SR K m ex σ H g ∧ f g = some (d, g') ∧ ∀ p H', PoF K m ex σ H g π g' p H' → Ow K (hid (Hd m (exP ex p)) H') H' p d → Q (.ref p) H'

/-- e gives f's datum -/
def J (G : Gb) (c : Sx) (π τ : Bool) (e : Expr) (f : Sf) : Prop := ∀ X, SX G c X → PE X e (TF G.K π τ f)
def JT (G : Gb) (c : Sx) (π : Bool) (e : Expr) (f : Sg → Option (Bool × Sg)) : Prop := ∀ X, SX G c X → PT X e (TFT G.K π f)
def JW (G : Gb) (c : Sx) (π : Bool) (e : Expr) (f : Sg → Option (Bool × Sg)) : Prop := ∀ X, SX G c X → PW X e (TFT G.K π f)
def JA (G : Gb) (c : Sx) (π : Bool) (es : List Expr) (f : Sg → Option (List D × Sg)) : Prop := ∀ X, SX G c X → PA X es (TFA G.K π f)
def JF (G : Gb) (c : Sx) (π : Bool) (e : Expr) (f : Sf) : Prop := ∀ X, SX G c X → PE X e (TFF G.K π f)

theorem pe_weak {X : Cx} {e : Expr} {t t' : TE} (h : PE X e t) (w : ∀ σ H Q, t' σ H Q → t σ H Q) : PE X e t' := ⟨fun pins s σ H Q I q => h.run pins s σ H Q I (w σ H Q q)⟩
theorem pt_weak {X : Cx} {e : Expr} {t t' : TT} (h : PT X e t) (w : ∀ σ H Q, t' σ H Q → t σ H Q) : PT X e t' := ⟨fun pins s σ H Q I q => h.run pins s σ H Q I (w σ H Q q)⟩
theorem pw_weak {X : Cx} {e : Expr} {t t' : TT} (h : PW X e t) (w : ∀ σ H Q, t' σ H Q → t σ H Q) : PW X e t' := ⟨fun wh pins s σ H Q I q => h.run wh pins s σ H Q I (w σ H Q q)⟩
theorem pa_weak {X : Cx} {es : List Expr} {t t' : TA} (h : PA X es t) (w : ∀ σ H Q, t' σ H Q → t σ H Q) : PA X es t' := ⟨fun pos pins s σ H Q I q => h.run pos pins s σ H Q I (w σ H Q q)⟩

section
variable {K : PySem.W.Frag} {m : Mp} {ex : Addr → Prop} {σ : L2.St} {H H1 H2 : Hp} {g g1 g2 : Sg} {π π1 π2 τ : Bool} {v : V} {d : D} {p : Addr} {o : HO}
theorem PoF.po (a : PoF K m ex σ H g π g1 p H1) : Po K m ex σ H g π g1 H1 := ⟨a.sr.show, a.vis, a.exk, a.pur⟩
theorem PoF.rp (a : PoF K m ex σ H g π g1 p H1) (w : Ow K (hid (Hd m (exP ex p)) H1) H1 p d) : Rp K (hid (Hd m ex) H1) (.ref p) d := by
  have gr : Grow (hid (Hd m (exP ex p)) H1) (hid (Hd m ex) H1) := hid_grow (fun b u e z => exP_hd.mpr (.inl z)) fun _ _ _ q => q
  have n : ¬ Hd m ex p := fun z => by
    rcases z with z | ⟨i, z⟩
    · obtain ⟨u, e⟩ := a.sr.exl p (.inl z)
      have := a.exk p z
      rw [a.new, e] at this; cases this
    · exact a.sr.nex i p z (.inr rfl)
  cases w with
  | lst q r => exact .lst (hid_iff.mpr ⟨n, q⟩) (r.mono gr.ext)
  | dic q r => exact .dic (.inl (hid_iff.mpr ⟨n, q⟩)) (r.mono gr.ext)
/-- laid by a rule -/
theorem PoF.laid (S : SR K m ex σ H g) (h : H p = none) : PoF K m ex σ H g π g p (upd H p o) :=
  ⟨S.hide h, fun b u _ e => grow_new h b u e, fun b hb => upd_ne fun z => (by obtain ⟨u, e⟩ := S.exl b hb; rw [z, h] at e; cases e), fun _ => ⟨rfl, grow_new h⟩, h⟩
theorem Po.none (a : Po K m ex σ H g π1 g1 H1) (S : SR K m (exP ex p) σ H2 g2) (n : H1 p = none) : H p = none := by
  cases q : H p with
  | none => rfl
  | some u =>
    by_cases z : Hd m ex p
    · rcases z with z | ⟨i, z⟩
      · have := a.exk p z
        rw [n, q] at this
        cases this
      · exact absurd (Or.inr rfl) (S.nex i p z)
    · have := a.vis p u z q
      rw [n] at this
      cases this
theorem PoF.after (a : Po K m ex σ H g π1 g1 H1) (b : PoF K m ex σ H1 g1 π2 g2 p H2) : PoF K m ex σ H g (π1 && π2) g2 p H2 :=
  ⟨b.sr, fun c o n e => b.vis c o n (a.vis c o n e), fun c h => (b.exk c h).trans (a.exk c h), fun h => by
    obtain ⟨h1, h2⟩ := Bool.and_eq_true_iff.mp h
    exact ⟨(b.pur h2).1.trans (a.pur h1).1, (a.pur h1).2.trans (b.pur h2).2⟩, a.none b.sr b.new⟩
theorem PoF.ow (S : SR K m ex σ H g) (h : H p = none) {xs : List V} {ds : List D} (r : RpL K (hid (Hd m ex) H) xs ds) : Ow K (hid (Hd m (exP ex p)) (upd H p (.lst xs))) (upd H p (.lst xs)) p (.list ds) :=
  .lst upd_same (r.mono (hid_grow (fun b u e z => by
    rcases exP_hd.mp z with z | z
    · exact z
    · rw [z, h] at e; cases e) fun b u _ e => grow_new h b u e).ext)
end
section
variable {G : Gb} {c : Sx} {π π1 π2 τ τ1 τ2 : Bool} {a b e : Expr} {f fa fb : Sf} {pos : Pos}
theorem JF.j (h : JF G c π e f) : J G c π τ e f := fun X s => pe_weak (h X s) fun σ H Q ⟨m, ex, g, d, g', S, e, q⟩ =>
  ⟨m, ex, g, d, g', S, e, fun p H' a w => q _ H' a.po (.of (a.rp w))⟩
theorem J.weak (h : J G c π true e f) : J G c π false e f := fun X s => pe_weak (h X s) fun σ H Q ⟨m, ex, g, d, g', S, e, q⟩ =>
  ⟨m, ex, g, d, g', S, e, fun v H' a r => q v H' a r.weak⟩

/-! ### names, constants -/
def fC (d : D) : Sf := fun g => some (d, g)
def fV (i : Nat) : Sf := fun g => match g[i]? with
  | some (.val d) => some (d, g)
  | _ => none
/-- a slot's own list or dict, to be read now -/
def fR (i : Nat) : Sf := fun g => match g[i]? with
  | some (.val d) => some (d, g)
  | some (.own _ d) => some (d, g)
  | _ => none
theorem j_int {i : Int} {k} : J G c true true (.Constant (.int i) k pos) (fC (.int i)) := fun X s => pe_weak pe_int fun σ H Q ⟨m, ex, g, d, g', S, e, q⟩ => by
  cases e; exact q _ _ (.refl S) (.of (.int i))
theorem j_bl {i : Bool} {k} : J G c true true (.Constant (.bool i) k pos) (fC (.bool i)) := fun X s => pe_weak pe_bl fun σ H Q ⟨m, ex, g, d, g', S, e, q⟩ => by
  cases e; exact q _ _ (.refl S) (.of (.bl i))
theorem j_non {k} : J G c true true (.Constant .none k pos) (fC .none) := fun X s => pe_weak pe_non fun σ H Q ⟨m, ex, g, d, g', S, e, q⟩ => by
  cases e; exact q _ _ (.refl S) (.of .non)
theorem j_str {i : Str} {k} : J G c true true (.Constant (.str i) k pos) (fC (.str i)) := fun X s => pe_weak pe_str fun σ H Q ⟨m, ex, g, d, g', S, e, q⟩ => by
  cases e; exact q _ _ (.refl S) (.of (.str i))
/-- a constant of the module -/
structure Kon (G : Gb) (x : Str) (d : D) : Prop where
  ex : ∃ u v, G.mg x = some u ∧ RelV v u ∧ ∀ H, Rp G.K H v d
theorem j_glob {x : Str} {d : D} (h : Kon G x d) (hg : c.sc.names.lookup x = some .globalImplicit := by rfl) (hd : (x == ("__debug__" : Str)) = false := by decide) : J G c true true (.Name x pos) (fC d) := fun X s => by
  obtain ⟨rfl, _, _, hs, _⟩ := s
  obtain ⟨u, v, h1, h2, h3⟩ := h.ex
  have gl : Gl X x := by show X.env.scope.names.lookup x = _; rw [hs]; exact hg
  exact pe_weak (pe_glob gl h1 h2 hd) fun σ H Q ⟨m, ex, g, d, g', S, e, q⟩ => by
    cases e; exact q _ _ (.refl S) (.of (h3 _))
theorem j_var (i : Nat) {x : Str} (hN : c.N[i]? = some x := by rfl) (hv : Vis c.sc x := by first | exact Or.inl rfl | exact Or.inr (Or.inl rfl) | exact Or.inr (Or.inr rfl))
    (hd : (x == ("__debug__" : Str)) = false := by decide) (hcd : (x == ("__classdict__" : Str)) = false := by decide) : J G c true true (.Name x pos) (fV i) := fun X s => by
  obtain ⟨rfl, hn, _, hs, _⟩ := s
  refine pe_weak (pe_var (i := i) (x := x) (by rw [hn]; exact hN) (by rw [hs]; exact hv) hd hcd) fun σ H Q ⟨m, ex, g, d, g', S, e, q⟩ => ?_
  unfold fV at e
  split at e
  · rename_i w h
    cases e
    obtain ⟨v, h1, h2⟩ := S.slot i _ h
    exact ⟨v, h1, q v H (.refl S) (.of h2)⟩
  · cases e
theorem j_rd (i : Nat) {x : Str} (hN : c.N[i]? = some x := by rfl) (hv : Vis c.sc x := by first | exact Or.inl rfl | exact Or.inr (Or.inl rfl) | exact Or.inr (Or.inr rfl))
    (hd : (x == ("__debug__" : Str)) = false := by decide) (hcd : (x == ("__classdict__" : Str)) = false := by decide) : J G c true false (.Name x pos) (fR i) := fun X s => by
  obtain ⟨rfl, hn, _, hs, _⟩ := s
  refine pe_weak (pe_var (i := i) (x := x) (by rw [hn]; exact hN) (by rw [hs]; exact hv) hd hcd) fun σ H Q ⟨m, ex, g, d, g', S, e, q⟩ => ?_
  unfold fR at e
  split at e
  · rename_i w h
    cases e
    obtain ⟨v, h1, h2⟩ := S.slot i _ h
    exact ⟨v, h1, q v H (.refl S) (.of h2)⟩
  · rename_i p w h
    cases e
    obtain ⟨a, h1, h2, h3⟩ := S.slot i _ h
    exact ⟨_, h2, q _ H (.refl S) (.inr ⟨rfl, a, rfl, h3⟩)⟩
  · cases e

/-! ### two operands -/
def f1 (op : D → Option D) (fa : Sf) : Sf := fun g => (fa g).bind fun p => (op p.1).map fun d => (d, p.2)
def f2 (op : D → D → Option D) (fa fb : Sf) : Sf := fun g => (fa g).bind fun p => (fb p.2).bind fun q => (op p.1 q.1).map fun d => (d, q.2)
abbrev Fin (K : PySem.W.Frag) (m : Mp) (ex : Addr → Prop) (σ : L2.St) (H : Hp) (g : Sg) (d : D) (Q : VK) : Prop := ∀ v H', Po K m ex σ H g true g H' → Rp K (hid (Hd m ex) H') v d → Q v H'
abbrev FinF (K : PySem.W.Frag) (m : Mp) (ex : Addr → Prop) (σ : L2.St) (H : Hp) (g : Sg) (d : D) (Q : VK) : Prop := ∀ p H', PoF K m ex σ H g true g p H' → Ow K (hid (Hd m (exP ex p)) H') H' p d → Q (.ref p) H'
def Ok1 (K : PySem.W.Frag) (r : V → Hp → VK → Prop) (op : D → Option D) : Prop := ∀ m ex σ H g v x d Q, SR K m ex σ H g → Rt K false (hid (Hd m ex) H) H v x → op x = some d → Fin K m ex σ H g d Q → r v H Q
def Ok2 (K : PySem.W.Frag) (r : R2) (op : D → D → Option D) : Prop := ∀ m ex σ H g v w x y d Q, SR K m ex σ H g → Rt K false (hid (Hd m ex) H) H v x → Rt K false (hid (Hd m ex) H) H w y → op x y = some d → Fin K m ex σ H g d Q → r v w H Q
def Ok1F (K : PySem.W.Frag) (r : V → Hp → VK → Prop) (op : D → Option D) : Prop := ∀ m ex σ H g v x d Q, SR K m ex σ H g → Rt K false (hid (Hd m ex) H) H v x → op x = some d → FinF K m ex σ H g d Q → r v H Q
def Ok2F (K : PySem.W.Frag) (r : R2) (op : D → D → Option D) : Prop := ∀ m ex σ H g v w x y d Q, SR K m ex σ H g → Rt K false (hid (Hd m ex) H) H v x → Rt K false (hid (Hd m ex) H) H w y → op x y = some d → FinF K m ex σ H g d Q → r v w H Q
theorem f2_some {op : D → D → Option D} {g g' : Sg} {d : D} (e : f2 op fa fb g = some (d, g')) : ∃ x g1 y, fa g = some (x, g1) ∧ fb g1 = some (y, g') ∧ op x y = some d := by
  unfold f2 at e
  cases h1 : fa g with
  | none => rw [h1] at e; cases e
  | some p =>
    rw [h1] at e
    cases h2 : fb p.2 with
    | none => simp [h2] at e
    | some q =>
      cases h3 : op p.1 q.1 with
      | none => simp [h2, h3] at e
      | some z =>
        simp [h2, h3] at e
        exact ⟨p.1, p.2, q.1, rfl, by rw [h2]; simp [← e.2], by rw [h3]; simp [e.1]⟩
theorem f1_some {op : D → Option D} {g g' : Sg} {d : D} (e : f1 op fa g = some (d, g')) : ∃ x, fa g = some (x, g') ∧ op x = some d := by
  unfold f1 at e
  cases h1 : fa g with
  | none => rw [h1] at e; cases e
  | some p =>
    rw [h1] at e
    cases h3 : op p.1 with
    | none => simp [h3] at e
    | some z =>
      simp [h3] at e
      exact ⟨p.1, by simp [← e.2], by rw [h3]; simp [e.1]⟩
theorem j_un {r : V → Hp → VK → Prop} {op : D → Option D} (rule : ∀ X, SX G c X → ∀ ta, PE X a ta → PE X e (tUn r ta)) (ok : Ok1 G.K r op) (ha : J G c π τ a fa) : J G c π true e (f1 op fa) := fun X s =>
  pe_weak (rule X s _ (ha X s)) fun σ H Q ⟨m, ex, g, d, g', S, e, q⟩ => by
    obtain ⟨x, e1, e3⟩ := f1_some e
    exact ⟨m, ex, g, x, g', S, e1, fun v H1 p1 r1 => ok m ex σ H1 g' v x d Q p1.sr r1.weak e3 fun w H2 p2 r2 => q w H2 ((p1.trans p2).weak (by simp)) (.of r2)⟩
theorem j_unF {r : V → Hp → VK → Prop} {op : D → Option D} (rule : ∀ X, SX G c X → ∀ ta, PE X a ta → PE X e (tUn r ta)) (ok : Ok1F G.K r op) (ha : J G c π τ a fa) : JF G c π e (f1 op fa) := fun X s =>
  pe_weak (rule X s _ (ha X s)) fun σ H Q ⟨m, ex, g, d, g', S, e, q⟩ => by
    obtain ⟨x, e1, e3⟩ := f1_some e
    exact ⟨m, ex, g, x, g', S, e1, fun v H1 p1 r1 => ok m ex σ H1 g' v x d Q p1.sr r1.weak e3 fun p H2 p2 r2 => q p H2 (by have z := p2.after p1; rwa [Bool.and_true] at z) r2⟩
theorem j_bin {r : R2} {op : D → D → Option D} (rule : ∀ X, SX G c X → ∀ ta tb, PE X a ta → PE X b tb → PE X e (tOp r ta tb)) (ok : Ok2 G.K r op) (ha : J G c π1 τ1 a fa) (hb : J G c π2 τ2 b fb) (hm : τ1 = true ∨ π2 = true := by first | exact .inl rfl | exact .inr rfl) :
    J G c (π1 && π2) true e (f2 op fa fb) := fun X s =>
  pe_weak (rule X s _ _ (ha X s) (hb X s)) fun σ H Q ⟨m, ex, g, d, g', S, e, q⟩ => by
    obtain ⟨x, g1, y, e1, e2, e3⟩ := f2_some e
    exact ⟨m, ex, g, x, g1, S, e1, fun v H1 p1 r1 => ⟨m, ex, g1, y, g', p1.sr, e2, fun w H2 p2 r2 => ok m ex σ H2 g' v w x y d Q p2.sr (r1.carry p2 hm).weak r2.weak e3 fun z H3 p3 r3 =>
      q z H3 (((p1.trans p2).trans p3).weak (by simp)) (.of r3)⟩⟩
theorem j_binF {r : R2} {op : D → D → Option D} (rule : ∀ X, SX G c X → ∀ ta tb, PE X a ta → PE X b tb → PE X e (tOp r ta tb)) (ok : Ok2F G.K r op) (ha : J G c π1 τ1 a fa) (hb : J G c π2 τ2 b fb) (hm : τ1 = true ∨ π2 = true := by first | exact .inl rfl | exact .inr rfl) :
    JF G c (π1 && π2) e (f2 op fa fb) := fun X s =>
  pe_weak (rule X s _ _ (ha X s) (hb X s)) fun σ H Q ⟨m, ex, g, d, g', S, e, q⟩ => by
    obtain ⟨x, g1, y, e1, e2, e3⟩ := f2_some e
    exact ⟨m, ex, g, x, g1, S, e1, fun v H1 p1 r1 => ⟨m, ex, g1, y, g', p1.sr, e2, fun w H2 p2 r2 => ok m ex σ H2 g' v w x y d Q p2.sr (r1.carry p2 hm).weak r2.weak e3 fun z H3 p3 r3 =>
      q z H3 (by have z := p3.after (p1.trans p2); rwa [Bool.and_true] at z) r3⟩⟩
end
end EV

set_option Elab.async false
set_option linter.all false
set_option maxRecDepth 100000
/-! EV2: operators, comparisons, tests, argument lists, displays, items and slices. -/
namespace EV
open PySem PySem.Spec L2

section
variable {K : PySem.W.Frag} {m : Mp} {ex : Addr → Prop} {σ : L2.St} {H G H' : Hp} {g : Sg} {v : V} {d : D} {ds : List D} {τ : Bool}
/-! ### what a value is -/
theorem Rt.int {i : Int} (r : Rt K τ G H v (.int i)) : v = .int i := by
  rcases r with r | ⟨_, a, _, w⟩
  · cases r; rfl
  · cases w
theorem Rt.str {i : Str} (r : Rt K τ G H v (.str i)) : v = .str i := by
  rcases r with r | ⟨_, a, _, w⟩
  · cases r; rfl
  · cases w
theorem Rt.bl {i : Bool} (r : Rt K τ G H v (.bool i)) : v = .bl i := by
  rcases r with r | ⟨_, a, _, w⟩
  · cases r; rfl
  · cases w
theorem Rt.non (r : Rt K τ G H v .none) : v = .non := by
  rcases r with r | ⟨_, a, _, w⟩
  · cases r; rfl
  · cases w
theorem Rt.tup (gr : Grow G H) (r : Rt K τ G H v (.tuple ds)) : ∃ a vs, v = .ref a ∧ SqT K H a vs ∧ RpL K G vs ds := by
  rcases r with r | ⟨_, a, _, w⟩
  · cases r with
    | tup h r => exact ⟨_, _, rfl, gr.ext.sqT h, r⟩
  · cases w
theorem Rt.lst (gr : Grow G H) (r : Rt K τ G H v (.list ds)) : ∃ a vs, v = .ref a ∧ H a = some (.lst vs) ∧ RpL K G vs ds := by
  rcases r with r | ⟨_, a, e, w⟩
  · cases r with
    | lst h r => exact ⟨_, _, rfl, gr _ _ h, r⟩
  · cases w with
    | lst h r => exact ⟨a, _, e, h, r⟩
theorem Rt.dic {ks : List (D × D)} (gr : Grow G H) (hn : ∀ x r, ks ≠ (.none, x) :: r) (r : Rt K τ G H v (.dict ks)) : ∃ a vs, v = .ref a ∧ Rd H a (.dK vs) ∧ RpK K G vs ks := by
  rcases r with r | ⟨_, a, e, w⟩
  · cases r with
    | dic h r => exact ⟨_, _, rfl, gr.rd h, r⟩
    | scr h => exact absurd rfl (hn _ _)
  · cases w with
    | dic h r => exact ⟨a, _, e, .inl h, r⟩
theorem RpK.nonone {vs : List (Key × V)} {x : D} {r : List (D × D)} (h : RpK K G vs ((.none, x) :: r)) : False := by
  generalize e : ((PyData.none, x) :: r : List (D × D)) = l at h
  cases h with
  | nil => cases e
  | @cons k _ _ _ _ _ _ =>
    injection e with e1 _
    injection e1 with e2 _
    cases k <;> cases e2
end

section
variable {G : Gb} {c : Sx} {π π1 π2 π3 τ τ1 τ2 τ3 : Bool} {a b e : Expr} {f fa fb fc : Sf} {pos : Pos}
/-! ### ints -/
def oI (f : Int → Int → Int) : D → D → Option D
  | .int i, .int j => some (.int (f i j))
  | _, _ => none
/-- .. where the operation has a bound -/
def oIc (C : Int → Int → Bool) (f : Int → Int → Int) : D → D → Option D
  | .int i, .int j => if C i j = true then some (.int (f i j)) else none
  | _, _ => none
def oP (p : Int → Int → Bool) : D → D → Option D
  | .int i, .int j => some (.bool (p i j))
  | _, _ => none
theorem ok_I {K : PySem.W.Frag} {f : Int → Int → Int} : Ok2 K (rI0 fun i j => .int (f i j)) (oI f) := fun m ex σ H g v w x y d Q S rv rw' e q => by
  unfold oI at e
  split at e
  · cases e
    exact ⟨_, _, rv.int, rw'.int, q _ _ (.refl S) (.int _)⟩
  · cases e
theorem ok_P {K : PySem.W.Frag} {p : Int → Int → Bool} : Ok2 K (rI0 fun i j => .bl (p i j)) (oP p) := fun m ex σ H g v w x y d Q S rv rw' e q => by
  unfold oP at e
  split at e
  · cases e
    exact ⟨_, _, rv.int, rw'.int, q _ _ (.refl S) (.bl _)⟩
  · cases e
theorem ok_Ic {K : PySem.W.Frag} {C : Int → Int → Bool} {C' : Int → Int → Prop} {f : Int → Int → Int} (h : ∀ i j, C i j = true → C' i j) : Ok2 K (rI C' fun i j => .int (f i j)) (oIc C f) := fun m ex σ H g v w x y d Q S rv rw' e q => by
  unfold oIc at e
  split at e
  · split at e
    · cases e
      exact ⟨_, _, rv.int, rw'.int, h _ _ ‹_›, q _ _ (.refl S) (.int _)⟩
    · cases e
  · cases e

theorem SX.units {X : Cx} (s : SX G c X) : X.A.units + 64 < cLine := s.room.units
theorem SX.units1 {X : Cx} (s : SX G c X) : X.A.units + 1 < cLine := by have := s.units; omega
theorem SX.units65 {X : Cx} (s : SX G c X) : X.A.units + 65 < cLine := by have := s.room.un; omega
/-- a binary operator by its rule and what it is on data -/
theorem j_op {op : Operator} {r : R2} {o : D → D → Option D} (ho : ∀ X, SX G c X → OpR X (binaryOp op) r) (ok : Ok2 G.K r o) (ha : J G c π1 τ1 a fa) (hb : J G c π2 τ2 b fb) (hm : τ1 = true ∨ π2 = true := by first | exact .inl rfl | exact .inr rfl) :
    J G c (π1 && π2) true (.BinOp a op b pos) (f2 o fa fb) := j_bin (fun X s _ _ h1 h2 => pe_op (ho X s) h1 h2) ok ha hb hm
theorem j_opF {op : Operator} {r : R2} {o : D → D → Option D} (ho : ∀ X, SX G c X → OpR X (binaryOp op) r) (ok : Ok2F G.K r o) (ha : J G c π1 τ1 a fa) (hb : J G c π2 τ2 b fb) (hm : τ1 = true ∨ π2 = true := by first | exact .inl rfl | exact .inr rfl) :
    JF G c (π1 && π2) (.BinOp a op b pos) (f2 o fa fb) := j_binF (fun X s _ _ h1 h2 => pe_op (ho X s) h1 h2) ok ha hb hm
def cMul (i j : Int) : Bool := decide (i.natAbs.log2 + j.natAbs.log2 < 1000000)
def cDiv (i j : Int) : Bool := decide (0 < j) && decide (j.natAbs.log2 < 9000)
def cPos (_ j : Int) : Bool := decide (0 < j)
def cNn (_ j : Int) : Bool := decide (0 ≤ j)
def cPow (i j : Int) : Bool := decide (0 ≤ j) && decide (j ≤ 1000000) && decide (i.natAbs < 2 ^ 64)
theorem j_add (ha : J G c π1 true a fa) (hb : J G c π2 τ2 b fb) : J G c (π1 && π2) true (.BinOp a .Add b pos) (f2 (oI fun i j => i + j) fa fb) := j_op (fun _ _ => op_add) ok_I ha hb
theorem j_sub (ha : J G c π1 true a fa) (hb : J G c π2 τ2 b fb) : J G c (π1 && π2) true (.BinOp a .Sub b pos) (f2 (oI fun i j => i - j) fa fb) := j_op (fun _ _ => op_sub) ok_I ha hb
theorem j_mul (ha : J G c π1 true a fa) (hb : J G c π2 τ2 b fb) : J G c (π1 && π2) true (.BinOp a .Mult b pos) (f2 (oIc cMul fun i j => i * j) fa fb) := j_op (fun _ _ => op_mulW) (ok_Ic fun i j h => by
  unfold cMul at h
  have h' := of_decide_eq_true h
  exact h') ha hb
theorem j_fdiv (ha : J G c π1 true a fa) (hb : J G c π2 τ2 b fb) : J G c (π1 && π2) true (.BinOp a .FloorDiv b pos) (f2 (oIc cDiv fun i j => i / j) fa fb) :=
  j_op (fun _ _ => op_fdivW) (ok_Ic fun i j h => by obtain ⟨h1, h2⟩ := Bool.and_eq_true_iff.mp h; exact ⟨of_decide_eq_true h1, of_decide_eq_true h2⟩) ha hb
theorem j_mod (ha : J G c π1 true a fa) (hb : J G c π2 τ2 b fb) : J G c (π1 && π2) true (.BinOp a .Mod b pos) (f2 (oIc cPos fun i j => i % j) fa fb) := j_op (fun _ _ => op_mod) (ok_Ic fun i j h => of_decide_eq_true h) ha hb
theorem cpow_ok {i j : Int} (h : cPow i j = true) : CPow i j := by
  obtain ⟨h1, h2⟩ := Bool.and_eq_true_iff.mp h
  obtain ⟨h0, h1⟩ := Bool.and_eq_true_iff.mp h1
  exact ⟨of_decide_eq_true h0, of_decide_eq_true h1, of_decide_eq_true h2⟩
theorem j_pow (ha : J G c π1 true a fa) (hb : J G c π2 τ2 b fb) : J G c (π1 && π2) true (.BinOp a .Pow b pos) (f2 (oIc cPow fun i j => i ^ j.toNat) fa fb) := j_op (fun _ _ => op_pow) (ok_Ic fun i j h => cpow_ok h) ha hb
theorem j_shl (ha : J G c π1 true a fa) (hb : J G c π2 τ2 b fb) : J G c (π1 && π2) true (.BinOp a .LShift b pos) (f2 (oIc cPow fun i j => i * 2 ^ j.toNat) fa fb) := j_op (fun _ _ => op_shl) (ok_Ic fun i j h => cpow_ok h) ha hb
theorem j_shr (ha : J G c π1 true a fa) (hb : J G c π2 τ2 b fb) : J G c (π1 && π2) true (.BinOp a .RShift b pos) (f2 (oIc cNn fun i j => i / 2 ^ j.toNat) fa fb) := j_op (fun _ _ => op_shr) (ok_Ic fun i j h => of_decide_eq_true h) ha hb
theorem j_bor (ha : J G c π1 true a fa) (hb : J G c π2 τ2 b fb) : J G c (π1 && π2) true (.BinOp a .BitOr b pos) (f2 (oI Builtin.bitOr) fa fb) := j_op (fun _ _ => op_or) ok_I ha hb
theorem j_band (ha : J G c π1 true a fa) (hb : J G c π2 τ2 b fb) : J G c (π1 && π2) true (.BinOp a .BitAnd b pos) (f2 (oI Builtin.bitAnd) fa fb) := j_op (fun _ _ => op_and) ok_I ha hb
def oNeg : D → Option D
  | .int i => some (.int (-i))
  | _ => none
theorem j_neg (ha : J G c π τ a fa) : J G c π true (.UnaryOp .USub a pos) (f1 oNeg fa) := j_un (fun X s _ h => pe_un un_neg h) (fun m ex σ H g v x d Q S rv e q => by
  unfold oNeg at e
  split at e
  · cases e; exact ⟨_, rv.int, q _ _ (.refl S) (.int _)⟩
  · cases e) ha
/-- texts put together -/
def oCatS : D → D → Option D
  | .str i, .str j => if i.length + j.length ≤ sizeLine then some (.str (i ++ j)) else none
  | _, _ => none
theorem j_catS (ha : J G c π1 true a fa) (hb : J G c π2 τ2 b fb) : J G c (π1 && π2) true (.BinOp a .Add b pos) (f2 oCatS fa fb) := j_op (fun _ _ => op_add_str) (fun m ex σ H g v w x y d Q S rv rw' e q => by
  unfold oCatS at e
  split at e
  · split at e
    · cases e; exact ⟨_, _, rv.str, rw'.str, ‹_›, q _ _ (.refl S) (.str _)⟩
    · cases e
  · cases e) ha hb
/-- tuples put together -/
def oCatT : D → D → Option D
  | .tuple xs, .tuple ys => if xs.length + ys.length ≤ sizeLine then some (.tuple (xs ++ ys)) else none
  | _, _ => none
theorem rp_new_tup {K : PySem.W.Frag} {m : Mp} {ex : Addr → Prop} {σ : L2.St} {H : Hp} {g : Sg} {p : Addr} {vs : List V} {ds : List D} (S : SR K m ex σ H g) (np : H p = none) (r : RpL K (hid (Hd m ex) H) vs ds) :
    Rp K (hid (Hd m ex) (upd H p (.tup vs))) (.ref p) (.tuple ds) := by
  have n := S.fresh np
  have gr : Grow (hid (Hd m ex) H) (hid (Hd m ex) (upd H p (.tup vs))) := hid_grow (fun _ _ _ z => z) fun b u _ e => grow_new np b u e
  exact .tup (SqT.of (hid_iff.mpr ⟨n, upd_same⟩)) (r.mono gr.ext)
theorem RpL.nil_iff {K : PySem.W.Frag} {H : Hp} {vs : List V} {ds : List D} (r : RpL K H vs ds) : vs = [] ↔ ds = [] := by
  cases r with
  | nil => simp
  | cons => simp
theorem ok_catT {K : PySem.W.Frag} : Ok2 K (rCatA K) oCatT := fun m ex σ H g v w x y d Q S rv rw' e q => by
  unfold oCatT at e
  split at e
  · rename_i xs ys
    split at e
    · cases e
      obtain ⟨a, vs, rfl, h1, r1⟩ := rv.tup hid_sub
      obtain ⟨b, ws, rfl, h2, r2⟩ := rw'.tup hid_sub
      have l1 := r1.length
      have l2 := r2.length
      refine ⟨a, b, vs, ws, rfl, rfl, h1, h2, by omega, fun e1 => ?_, fun e1 e2 => ?_, fun e1 e2 p np => ?_⟩
      · have : xs = [] := r1.nil_iff.mp e1
        subst this
        refine q _ _ (.refl S) ?_
        rcases rw' with z | ⟨_, _, _, z⟩
        · exact z
        · cases z
      · have : ys = [] := r2.nil_iff.mp e2
        subst this
        refine q _ _ (.refl S) ?_
        rw [List.append_nil]
        rcases rv with z | ⟨_, _, _, z⟩
        · exact z
        · cases z
      · exact q _ _ (.new S np) (rp_new_tup S np (r1.append r2))
    · cases e
  · cases e
theorem SX.opK {X : Cx} (s : SX G c X) : X.K = G.K := by rw [← s.gb]
theorem j_catT (ha : J G c π1 true a fa) (hb : J G c π2 τ2 b fb) : J G c (π1 && π2) true (.BinOp a .Add b pos) (f2 oCatT fa fb) := j_op (fun X s => s.opK ▸ op_catA) ok_catT ha hb
/-- lists put together -/
def oCatL : D → D → Option D
  | .list xs, .list ys => if xs.length + ys.length ≤ sizeLine then some (.list (xs ++ ys)) else none
  | _, _ => none
theorem ok_catL {K : PySem.W.Frag} : Ok2F K rCat oCatL := fun m ex σ H g v w x y d Q S rv rw' e q => by
  unfold oCatL at e
  split at e
  · split at e
    · cases e
      obtain ⟨a, vs, rfl, h1, r1⟩ := rv.lst hid_sub
      obtain ⟨b, ws, rfl, h2, r2⟩ := rw'.lst hid_sub
      have l1 := r1.length
      have l2 := r2.length
      exact ⟨a, b, vs, ws, rfl, rfl, h1, h2, by omega, fun p np => q p _ (.laid S np) (PoF.ow S np (r1.append r2))⟩
    · cases e
  · cases e
theorem j_catL (ha : J G c π1 true a fa) (hb : J G c π2 τ2 b fb) : JF G c (π1 && π2) (.BinOp a .Add b pos) (f2 oCatL fa fb) := j_opF (fun X s => op_cat) ok_catL ha hb
/-- xs * k -/
def repD (k : Nat) (xs : List D) : List D := (List.replicate k xs).flatten
theorem RpL.rep {K : PySem.W.Frag} {H : Hp} {vs : List V} {ds : List D} (r : RpL K H vs ds) : ∀ k : Nat, RpL K H (List.replicate k vs).flatten (repD k ds)
  | 0 => .nil
  | k + 1 => by
    unfold repD
    rw [List.replicate_succ, List.flatten_cons, List.replicate_succ, List.flatten_cons]
    exact r.append (RpL.rep r k)
def oRepL : D → D → Option D
  | .list xs, .int k => if k.natAbs < 2 ^ 24 ∧ xs.length * k.toNat ≤ sizeLine then some (.list (repD k.toNat xs)) else none
  | _, _ => none
theorem j_repL (ha : J G c π1 true a fa) (hb : J G c π2 τ2 b fb) : JF G c (π1 && π2) (.BinOp a .Mult b pos) (f2 oRepL fa fb) := j_opF (fun X s => op_rep) (fun m ex σ H g v w x y d Q S rv rw' e q => by
  unfold oRepL at e
  split at e
  · split at e
    · rename_i h
      cases e
      obtain ⟨a, vs, rfl, h1, r1⟩ := rv.lst hid_sub
      have l1 := r1.length
      exact ⟨a, _, vs, rfl, rw'.int, h1, by have := h.1; omega, by have := h.1; omega, by rw [l1]; exact h.2, fun p np => q p _ (.laid S np) (PoF.ow S np (r1.rep _))⟩
    · cases e
  · cases e) ha hb

/-! ### arguments, displays -/
def aN : Sg → Option (List D × Sg) := fun g => some ([], g)
def aC (fa : Sf) (fr : Sg → Option (List D × Sg)) : Sg → Option (List D × Sg) := fun g => (fa g).bind fun p => (fr p.2).bind fun q => some (p.1 :: q.1, q.2)
theorem ja_nil : JA G c true [] aN := fun X s => pa_weak pa_nil fun σ H Q ⟨m, ex, g, d, g', S, e, q⟩ => by
  cases e; exact q _ _ (.refl S) .nil
theorem ja_cons {es : List Expr} {fr : Sg → Option (List D × Sg)} (ha : J G c π1 true a fa) (hr : JA G c π2 es fr) (hs : ∀ env, starEach (a :: es) env = (false, eval a env) :: starEach es env := by intro _; rfl) : JA G c (π1 && π2) (a :: es) (aC fa fr) := fun X s =>
  pa_weak (pa_cons (ha X s) (hr X s) (hs _)) fun σ H Q ⟨m, ex, g, ds, g', S, e, q⟩ => by
    unfold aC at e
    cases h1 : fa g with
    | none => simp [h1] at e
    | some x =>
      cases h2 : fr x.2 with
      | none => simp [h1, h2] at e
      | some y =>
        simp [h1, h2] at e
        obtain ⟨rfl, rfl⟩ := e
        exact ⟨m, ex, g, x.1, x.2, S, h1, fun v H1 p1 r1 => ⟨m, ex, x.2, y.1, y.2, p1.sr, h2, fun vs H2 p2 r2 => q _ _ (p1.trans p2) (.cons (r1.strong.mono p2.ext) r2)⟩⟩
def fTup (fr : Sg → Option (List D × Sg)) : Sf := fun g => (fr g).bind fun p => if p.1.length ≤ sizeLine then some (.tuple p.1, p.2) else none
def fLst (fr : Sg → Option (List D × Sg)) : Sf := fun g => (fr g).bind fun p => if p.1.length ≤ sizeLine then some (.list p.1, p.2) else none
theorem fTup_some {fr : Sg → Option (List D × Sg)} {k : List D → D} {g g' : Sg} {d : D} (e : ((fr g).bind fun p => if p.1.length ≤ sizeLine then some (k p.1, p.2) else none) = some (d, g')) : ∃ ds, fr g = some (ds, g') ∧ ds.length ≤ sizeLine ∧ d = k ds := by
  cases h1 : fr g with
  | none => simp [h1] at e
  | some y =>
    rw [h1] at e
    simp only [Option.bind_some] at e
    split at e
    · cases e; exact ⟨_, rfl, ‹_›, rfl⟩
    · cases e
theorem j_tup {es : List Expr} {fr : Sg → Option (List D × Sg)} {k : Nat} (h : JA G c π es fr) : J G c π true (.Tuple es k pos) (fTup fr) := fun X s =>
  pe_weak (pe_tup (h X s)) fun σ H Q ⟨m, ex, g, d, g', S, e, q⟩ => by
    obtain ⟨ds, e1, hz, rfl⟩ := fTup_some e
    exact ⟨m, ex, g, ds, g', S, e1, fun vs H1 p1 r1 => ⟨by rw [r1.length]; exact hz, fun p np => q _ _ ((p1.trans (Po.new (π := true) p1.sr np)).weak (by simp)) (.of (rp_new_tup p1.sr np r1))⟩⟩
theorem j_lst {es : List Expr} {fr : Sg → Option (List D × Sg)} (h : JA G c π es fr) : JF G c π (.List es pos) (fLst fr) := fun X s =>
  pe_weak (pe_lst (h X s)) fun σ H Q ⟨m, ex, g, d, g', S, e, q⟩ => by
    obtain ⟨ds, e1, hz, rfl⟩ := fTup_some e
    exact ⟨m, ex, g, ds, g', S, e1, fun vs H1 p1 r1 => ⟨by rw [r1.length]; exact hz, fun p np => q p _ (by have z := PoF.after p1 (PoF.laid (π := true) (o := .lst vs) p1.sr np); rwa [Bool.and_true] at z) (PoF.ow p1.sr np r1)⟩⟩
/-- {} -/
theorem j_dnew : JF G c true (.Dict [] [] pos) (fC (.dict [])) := fun X s => pe_weak pe_dnewK fun σ H Q ⟨m, ex, g, d, g', S, e, q⟩ => by
  cases e
  exact fun p np => q p _ (.laid S np) (.dic upd_same .nil)

/-! ### tests -/
/-- a datum's truth -/
def truD : D → Option Bool
  | .none => some false
  | .bool b => some b
  | .int i => some (i != 0)
  | .str y => if y.length ≤ sizeLine then some ((y.length : Int) != 0) else none
  | .list xs => some (!xs.isEmpty)
  | .tuple xs => some (!xs.isEmpty)
  | .dict _ => none
def tV (fa : Sf) : Sg → Option (Bool × Sg) := fun g => (fa g).bind fun p => (truD p.1).map fun b => (b, p.2)
theorem RpL.isEmpty {K : PySem.W.Frag} {H : Hp} {vs : List V} {ds : List D} (r : RpL K H vs ds) : vs.isEmpty = ds.isEmpty := by
  cases r <;> rfl
theorem truV_of {K : PySem.W.Frag} {G' H : Hp} {τ : Bool} {v : V} {d : D} {b : Bool} (gr : Grow G' H) (r : Rt K τ G' H v d) (e : truD d = some b) : TruV K v H b := by
  cases d with
  | none => rw [r.non]; cases e; rfl
  | bool b => rw [r.bl]; cases e; rfl
  | int i => rw [r.int]; cases e; rfl
  | str y =>
    rw [r.str]
    simp only [truD] at e
    split at e
    · cases e; exact ⟨‹_›, rfl⟩
    · cases e
  | list xs =>
    obtain ⟨a, vs, rfl, h1, h2⟩ := r.lst gr
    cases e
    exact .inl ⟨vs, SqL.of h1, by rw [h2.isEmpty]⟩
  | tuple xs =>
    obtain ⟨a, vs, rfl, h1, h2⟩ := r.tup gr
    cases e
    exact .inr (.inl ⟨vs, h1, by rw [h2.isEmpty]⟩)
  | dict _ => cases e
theorem tV_some {g g' : Sg} {b : Bool} (e : tV fa g = some (b, g')) : ∃ d, fa g = some (d, g') ∧ truD d = some b := by
  unfold tV at e
  cases h1 : fa g with
  | none => simp [h1] at e
  | some y =>
    cases h2 : truD y.1 with
    | none => simp [h1, h2] at e
    | some z => simp [h1, h2] at e; exact ⟨y.1, by simp [← e.2], by rw [h2]; simp [e.1]⟩
theorem jt_tru (ha : J G c π τ a fa) (he : ∀ env whole, isTrue a env whole = (do let v ← whole; standAt a.pos; holding [v] (truthy v)) := by intro _ _; rfl) : JT G c π a (tV fa) := fun X s =>
  pt_weak (pt_truth (ha X s) (he _)) fun σ H Q ⟨m, ex, g, d, g', S, e, q⟩ => by
    obtain ⟨x, e1, e2⟩ := tV_some e
    exact ⟨m, ex, g, x, g', S, e1, fun v H1 p1 r1 => ⟨_, by rw [s.opK]; exact truV_of hid_sub r1 e2, q _ p1⟩⟩
/-- a comparison by its rule: as a value, as a test -/
theorem j_cmp {op : CmpOp} {r : R2} {o : D → D → Option D} (ho : ∀ X, SX G c X → OpR X (compareOp op) r) (ok : Ok2 G.K r o) (ha : J G c π1 τ1 a fa) (hb : J G c π2 τ2 b fb) (hm : τ1 = true ∨ π2 = true := by first | exact .inl rfl | exact .inr rfl) (hk : behindInMarks op b = false := by first | rfl | exact nomark _) :
    J G c (π1 && π2) true (.Compare a [op] [b] pos) (f2 o fa fb) := j_bin (fun X s _ _ h1 h2 => pe_cmpR (ho X s) h1 h2 hk) ok ha hb hm
def oB (o : D → D → Option Bool) : D → D → Option D := fun x y => (o x y).map .bool
def t2 (o : D → D → Option Bool) (fa fb : Sf) : Sg → Option (Bool × Sg) := fun g => (fa g).bind fun p => (fb p.2).bind fun q => (o p.1 q.1).map fun d => (d, q.2)
theorem t2_some {o : D → D → Option Bool} {g g' : Sg} {d : Bool} (e : t2 o fa fb g = some (d, g')) : ∃ x g1 y, fa g = some (x, g1) ∧ fb g1 = some (y, g') ∧ o x y = some d := by
  unfold t2 at e
  cases h1 : fa g with
  | none => rw [h1] at e; cases e
  | some p =>
    rw [h1] at e
    cases h2 : fb p.2 with
    | none => simp [h2] at e
    | some q =>
      cases h3 : o p.1 q.1 with
      | none => simp [h2, h3] at e
      | some z =>
        simp [h2, h3] at e
        exact ⟨p.1, p.2, q.1, rfl, by rw [h2]; simp [← e.2], by rw [h3]; simp [e.1]⟩
theorem jt_cmp {op : CmpOp} {r : R2} {o : D → D → Option Bool} (ho : ∀ X, SX G c X → OpR X (compareOp op) r) (ok : Ok2 G.K r (oB o)) (ha : J G c π1 τ1 a fa) (hb : J G c π2 τ2 b fb) (hm : τ1 = true ∨ π2 = true := by first | exact .inl rfl | exact .inr rfl) (hk : behindInMarks op b = false := by first | rfl | exact nomark _) :
    JT G c (π1 && π2) (.Compare a [op] [b] pos) (t2 o fa fb) := fun X s =>
  pt_weak (pt_cmpR (ho X s) (ha X s) (hb X s) hk) fun σ H Q ⟨m, ex, g, d, g', S, e, q⟩ => by
    obtain ⟨x, g1, y, e1, e2, e3⟩ := t2_some e
    exact ⟨m, ex, g, x, g1, S, e1, fun v H1 p1 r1 => ⟨m, ex, g1, y, g', p1.sr, e2, fun w H2 p2 r2 => ok m ex σ H2 g' v w x y (.bool d) _ p2.sr (r1.carry p2 hm).weak r2.weak (by unfold oB; rw [e3]; rfl) fun z H3 p3 r3 => by
      cases r3
      exact ⟨d, rfl, q H3 (((p1.trans p2).trans p3).weak (by simp))⟩⟩⟩
def oPb (p : Int → Int → Bool) : D → D → Option Bool
  | .int i, .int j => some (p i j)
  | _, _ => none
theorem ok_Pb {K : PySem.W.Frag} {p : Int → Int → Bool} : Ok2 K (rI0 fun i j => .bl (p i j)) (oB (oPb p)) := fun m ex σ H g v w x y d Q S rv rw' e q => by
  unfold oB oPb at e
  split at e
  · cases e
    exact ⟨_, _, rv.int, rw'.int, q _ _ (.refl S) (.bl _)⟩
  · cases e
theorem jt_lt (ha : J G c π1 true a fa) (hb : J G c π2 τ2 b fb) : JT G c (π1 && π2) (.Compare a [.Lt] [b] pos) (t2 (oPb fun i j => decide (i < j)) fa fb) := jt_cmp (fun _ _ => op_lt) ok_Pb ha hb
theorem jt_le (ha : J G c π1 true a fa) (hb : J G c π2 τ2 b fb) : JT G c (π1 && π2) (.Compare a [.LtE] [b] pos) (t2 (oPb fun i j => decide (i ≤ j)) fa fb) := jt_cmp (fun _ _ => op_le) ok_Pb ha hb
theorem jt_gt (ha : J G c π1 true a fa) (hb : J G c π2 τ2 b fb) : JT G c (π1 && π2) (.Compare a [.Gt] [b] pos) (t2 (oPb fun i j => decide (j < i)) fa fb) := jt_cmp (fun _ _ => op_gt) ok_Pb ha hb
theorem jt_ge (ha : J G c π1 true a fa) (hb : J G c π2 τ2 b fb) : JT G c (π1 && π2) (.Compare a [.GtE] [b] pos) (t2 (oPb fun i j => decide (j ≤ i)) fa fb) := jt_cmp (fun _ _ => op_ge) ok_Pb ha hb
theorem j_lt (ha : J G c π1 true a fa) (hb : J G c π2 τ2 b fb) : J G c (π1 && π2) true (.Compare a [.Lt] [b] pos) (f2 (oP fun i j => decide (i < j)) fa fb) := j_cmp (fun _ _ => op_lt) ok_P ha hb
theorem j_le (ha : J G c π1 true a fa) (hb : J G c π2 τ2 b fb) : J G c (π1 && π2) true (.Compare a [.LtE] [b] pos) (f2 (oP fun i j => decide (i ≤ j)) fa fb) := j_cmp (fun _ _ => op_le) ok_P ha hb
theorem j_gt (ha : J G c π1 true a fa) (hb : J G c π2 τ2 b fb) : J G c (π1 && π2) true (.Compare a [.Gt] [b] pos) (f2 (oP fun i j => decide (j < i)) fa fb) := j_cmp (fun _ _ => op_gt) ok_P ha hb
theorem j_ge (ha : J G c π1 true a fa) (hb : J G c π2 τ2 b fb) : J G c (π1 && π2) true (.Compare a [.GtE] [b] pos) (f2 (oP fun i j => decide (j ≤ i)) fa fb) := j_cmp (fun _ _ => op_ge) ok_P ha hb
/-- equal flat things (both numbers, both texts, both truth values) -/
def oEq : D → D → Option Bool
  | .int i, .int j => some (decide (i = j))
  | .str i, .str j => some (decide (i = j))
  | .bool i, .bool j => some (decide (i = j))
  | _, _ => none
theorem dec_eq_iff {p q : Prop} [Decidable p] [Decidable q] (h : p ↔ q) : decide p = decide q := decide_eq_decide.mpr h
theorem ok_eq {K : PySem.W.Frag} : Ok2 K rEq (oB oEq) := fun m ex σ H g v w x y d Q S rv rw' e q => by
  unfold oB oEq at e
  split at e
  · cases e
    rw [rv.int, rw'.int]
    exact ⟨rfl, q _ _ (.refl S) (by rw [show decide (V.int _ = V.int _) = decide (_ = _) from dec_eq_iff ⟨fun h => V.int.inj h, fun h => by rw [h]⟩]; exact .bl _)⟩
  · cases e
    rw [rv.str, rw'.str]
    exact ⟨rfl, q _ _ (.refl S) (by rw [show decide (V.str _ = V.str _) = decide (_ = _) from dec_eq_iff ⟨fun h => V.str.inj h, fun h => by rw [h]⟩]; exact .bl _)⟩
  · cases e
    rw [rv.bl, rw'.bl]
    exact ⟨rfl, q _ _ (.refl S) (by rw [show decide (V.bl _ = V.bl _) = decide (_ = _) from dec_eq_iff ⟨fun h => V.bl.inj h, fun h => by rw [h]⟩]; exact .bl _)⟩
  · cases e
def oNe (x y : D) : Option Bool := (oEq x y).map not
theorem ok_ne {K : PySem.W.Frag} : Ok2 K rNe (oB oNe) := fun m ex σ H g v w x y d Q S rv rw' e q => by
  unfold oB oNe oEq at e
  split at e
  · cases e
    rw [rv.int, rw'.int]
    exact ⟨rfl, q _ _ (.refl S) (by rw [show decide (V.int _ = V.int _) = decide (_ = _) from dec_eq_iff ⟨fun h => V.int.inj h, fun h => by rw [h]⟩]; exact .bl _)⟩
  · cases e
    rw [rv.str, rw'.str]
    exact ⟨rfl, q _ _ (.refl S) (by rw [show decide (V.str _ = V.str _) = decide (_ = _) from dec_eq_iff ⟨fun h => V.str.inj h, fun h => by rw [h]⟩]; exact .bl _)⟩
  · cases e
    rw [rv.bl, rw'.bl]
    exact ⟨rfl, q _ _ (.refl S) (by rw [show decide (V.bl _ = V.bl _) = decide (_ = _) from dec_eq_iff ⟨fun h => V.bl.inj h, fun h => by rw [h]⟩]; exact .bl _)⟩
  · cases e
theorem jt_eq (ha : J G c π1 true a fa) (hb : J G c π2 τ2 b fb) : JT G c (π1 && π2) (.Compare a [.Eq] [b] pos) (t2 oEq fa fb) := jt_cmp (fun _ _ => op_eq) ok_eq ha hb
theorem jt_ne (ha : J G c π1 true a fa) (hb : J G c π2 τ2 b fb) : JT G c (π1 && π2) (.Compare a [.NotEq] [b] pos) (t2 oNe fa fb) := jt_cmp (fun _ _ => op_ne) ok_ne ha hb
theorem j_eq (ha : J G c π1 true a fa) (hb : J G c π2 τ2 b fb) : J G c (π1 && π2) true (.Compare a [.Eq] [b] pos) (f2 (oB oEq) fa fb) := j_cmp (fun _ _ => op_eq) ok_eq ha hb
theorem j_ne (ha : J G c π1 true a fa) (hb : J G c π2 τ2 b fb) : J G c (π1 && π2) true (.Compare a [.NotEq] [b] pos) (f2 (oB oNe) fa fb) := j_cmp (fun _ _ => op_ne) ok_ne ha hb
/-! data of any depth compared -/
mutual
theorem Rp.dp {K : PySem.W.Frag} {H : Hp} : ∀ {v : V} {d : D}, Rp K H v d → d.canLay0 = true → Dp K H v d
  | _, _, .non, _ => .non
  | _, _, .bl b, _ => .bl b
  | _, _, .int i, _ => .int i
  | _, _, .str x, _ => .str x
  | _, _, .lst h r, e => .lst (SqL.of h) (RpL.dp r (by simpa [PyData.canLay0] using e))
  | _, _, .tup h r, e => .tup h (RpL.dp r (by simpa [PyData.canLay0] using e))
  | _, _, .dic h r, e => by simp [PyData.canLay0] at e
  | _, _, .scr h, e => by simp [PyData.canLay0] at e
theorem RpL.dp {K : PySem.W.Frag} {H : Hp} : ∀ {vs : List V} {ds : List D}, RpL K H vs ds → PyData.canLayAll0 ds = true → DpAll K H vs ds
  | _, _, .nil, _ => .nil
  | _, _, .cons a r, e =>
    have e' := Bool.and_eq_true_iff.mp (by simpa only [PyData.canLayAll0] using e)
    .cons (Rp.dp a e'.1) (RpL.dp r e'.2)
end
theorem Rt.dp {K : PySem.W.Frag} {G' H : Hp} {τ : Bool} {v : V} {d : D} (gr : Grow G' H) (r : Rt K τ G' H v d) (h : SeqAt.shaped d = true) : Dp K H v d := by
  have h' := SeqAt.canLay_of_shaped h
  rcases r with r | ⟨_, a, rfl, w⟩
  · exact (r.mono gr.ext).dp h'
  · exact (w.rp gr).dp h'
def oEqD (x y : D) : Option Bool := if SeqAt.shaped x = true ∧ SeqAt.shaped y = true then some (PyData.eqv x y) else none
def oNeD (x y : D) : Option Bool := if SeqAt.shaped x = true ∧ SeqAt.shaped y = true then some (!PyData.eqv x y) else none
theorem ok_eqD {K : PySem.W.Frag} : Ok2 K (rEqD K) (oB oEqD) := fun m ex σ H g v w x y d Q S rv rw' e q => by
  unfold oB oEqD at e
  split at e
  · rename_i h
    cases e
    exact ⟨x, y, rv.dp hid_sub h.1, rw'.dp hid_sub h.2, h.1, h.2, q _ _ (.refl S) (.bl _)⟩
  · cases e
theorem ok_neD {K : PySem.W.Frag} : Ok2 K (rNeD K) (oB oNeD) := fun m ex σ H g v w x y d Q S rv rw' e q => by
  unfold oB oNeD at e
  split at e
  · rename_i h
    cases e
    exact ⟨x, y, rv.dp hid_sub h.1, rw'.dp hid_sub h.2, h.1, h.2, q _ _ (.refl S) (.bl _)⟩
  · cases e
theorem jt_eqD (ha : J G c π1 τ1 a fa) (hb : J G c π2 τ2 b fb) (hm : τ1 = true ∨ π2 = true := by first | exact .inl rfl | exact .inr rfl) : JT G c (π1 && π2) (.Compare a [.Eq] [b] pos) (t2 oEqD fa fb) := jt_cmp (fun X s => s.opK ▸ op_eqD s.units) ok_eqD ha hb hm
theorem jt_neD (ha : J G c π1 τ1 a fa) (hb : J G c π2 τ2 b fb) (hm : τ1 = true ∨ π2 = true := by first | exact .inl rfl | exact .inr rfl) : JT G c (π1 && π2) (.Compare a [.NotEq] [b] pos) (t2 oNeD fa fb) := jt_cmp (fun X s => s.opK ▸ op_neD s.units) ok_neD ha hb hm
theorem j_eqD (ha : J G c π1 τ1 a fa) (hb : J G c π2 τ2 b fb) (hm : τ1 = true ∨ π2 = true := by first | exact .inl rfl | exact .inr rfl) : J G c (π1 && π2) true (.Compare a [.Eq] [b] pos) (f2 (oB oEqD) fa fb) := j_cmp (fun X s => s.opK ▸ op_eqD s.units) ok_eqD ha hb hm
theorem j_neD (ha : J G c π1 τ1 a fa) (hb : J G c π2 τ2 b fb) (hm : τ1 = true ∨ π2 = true := by first | exact .inl rfl | exact .inr rfl) : J G c (π1 && π2) true (.Compare a [.NotEq] [b] pos) (f2 (oB oNeD) fa fb) := j_cmp (fun X s => s.opK ▸ op_neD s.units) ok_neD ha hb hm
/-- is None -/
def isN : D → Bool
  | .none => true
  | _ => false
def oIsN (x y : D) : Option Bool := if isN y then some (isN x) else none
def oNotN (x y : D) : Option Bool := if isN y then some (!isN x) else none
theorem isN_of {K : PySem.W.Frag} {G' H : Hp} {τ : Bool} {v : V} {d : D} (r : Rt K τ G' H v d) : decide (v = .non) = isN d := by
  rcases r with r | ⟨_, a, rfl, w⟩
  · cases r <;> simp [isN]
  · cases w <;> simp [isN]
theorem isN_y {K : PySem.W.Frag} {G' H : Hp} {τ : Bool} {v : V} {d : D} (r : Rt K τ G' H v d) (h : isN d = true) : v = .non := by
  rw [← isN_of r] at h; exact of_decide_eq_true h
theorem ok_isN {K : PySem.W.Frag} : Ok2 K (fun x y H Q => y = .non ∧ Q (.bl (decide (x = .non))) H) (oB oIsN) := fun m ex σ H g v w x y d Q S rv rw' e q => by
  unfold oB oIsN at e
  split at e
  · cases e
    exact ⟨isN_y rw' ‹_›, by rw [isN_of rv]; exact q _ _ (.refl S) (.bl _)⟩
  · cases e
theorem ok_notN {K : PySem.W.Frag} : Ok2 K (fun x y H Q => y = .non ∧ Q (.bl (!decide (x = .non))) H) (oB oNotN) := fun m ex σ H g v w x y d Q S rv rw' e q => by
  unfold oB oNotN at e
  split at e
  · cases e
    exact ⟨isN_y rw' ‹_›, by rw [isN_of rv]; exact q _ _ (.refl S) (.bl _)⟩
  · cases e
theorem jt_isN (ha : J G c π1 τ1 a fa) (hb : J G c π2 τ2 b fb) (hm : τ1 = true ∨ π2 = true := by first | exact .inl rfl | exact .inr rfl) : JT G c (π1 && π2) (.Compare a [.Is] [b] pos) (t2 oIsN fa fb) := jt_cmp (fun X s => op_isN) ok_isN ha hb hm
theorem jt_notN (ha : J G c π1 τ1 a fa) (hb : J G c π2 τ2 b fb) (hm : τ1 = true ∨ π2 = true := by first | exact .inl rfl | exact .inr rfl) : JT G c (π1 && π2) (.Compare a [.IsNot] [b] pos) (t2 oNotN fa fb) := jt_cmp (fun X s => op_notN) ok_notN ha hb hm
theorem j_isN (ha : J G c π1 τ1 a fa) (hb : J G c π2 τ2 b fb) (hm : τ1 = true ∨ π2 = true := by first | exact .inl rfl | exact .inr rfl) : J G c (π1 && π2) true (.Compare a [.Is] [b] pos) (f2 (oB oIsN) fa fb) := j_cmp (fun X s => op_isN) ok_isN ha hb hm
theorem j_notN (ha : J G c π1 τ1 a fa) (hb : J G c π2 τ2 b fb) (hm : τ1 = true ∨ π2 = true := by first | exact .inl rfl | exact .inr rfl) : J G c (π1 && π2) true (.Compare a [.IsNot] [b] pos) (f2 (oB oNotN) fa fb) := j_cmp (fun X s => op_notN) ok_notN ha hb hm
end
end EV

set_option Elab.async false
set_option linter.all false
set_option maxRecDepth 100000
/-! EV3: and, or, not, a if t else b, chains, items, slices, calls of built-ins. -/
namespace EV
open PySem PySem.Spec L2
abbrev Tf := Sg → Option (Bool × Sg)
section
variable {G : Gb} {c : Sx} {π π1 π2 π3 τ τ1 τ2 τ3 : Bool} {a b e e3 : Expr} {f fa fb fc : Sf} {pos p : Pos} {ta tb : Tf} {rest : List Expr} {x : Str}

/-! ### and, or, not in tests -/
def tAndD (ta tb : Tf) : Tf := fun g => (ta g).bind fun p => if p.1 = true then tb p.2 else some (false, p.2)
def tOrD (ta tb : Tf) : Tf := fun g => (ta g).bind fun p => if p.1 = true then some (true, p.2) else tb p.2
def tNotD (ta : Tf) : Tf := fun g => (ta g).bind fun p => some (!p.1, p.2)
theorem jt_not (ha : JT G c π a ta) : JT G c π (.UnaryOp .Not a pos) (tNotD ta) := fun X s =>
  pt_weak (pt_not (ha X s)) fun σ H Q ⟨m, ex, g, d, g', S, e, q⟩ => by
    unfold tNotD at e
    cases h1 : ta g with
    | none => simp [h1] at e
    | some y =>
      rw [h1] at e
      cases e
      exact ⟨m, ex, g, y.1, y.2, S, h1, q⟩
theorem jw_and1 (ha : JT G c π a ta) : JW G c π (.BoolOp .And [a] pos) ta := fun X s => pw_weak (pw_and1 (ha X s)) fun _ _ _ h => h
theorem jw_or1 (ha : JT G c π a ta) : JW G c π (.BoolOp .Or [a] pos) ta := fun X s => pw_weak (pw_or1 (ha X s)) fun _ _ _ h => h
theorem JW.t (ha : JW G c π a ta) : JT G c π a ta := fun X s => (ha X s).pt
theorem jw_and (ha : JT G c π1 a ta) (hb : JW G c π2 (.BoolOp .And (b :: rest) pos) tb) : JW G c (π1 && π2) (.BoolOp .And (a :: b :: rest) pos) (tAndD ta tb) := fun X s =>
  pw_weak (pw_and (ha X s) (hb X s)) fun σ H Q ⟨m, ex, g, d, g', S, e, q⟩ => by
    unfold tAndD at e
    cases h1 : ta g with
    | none => simp [h1] at e
    | some y =>
      simp only [h1, Option.bind_some] at e
      refine ⟨m, ex, g, y.1, y.2, S, h1, fun H1 p1 => ?_⟩
      by_cases hy : y.1 = true
      · rw [if_pos hy] at e ⊢
        exact ⟨m, ex, y.2, d, g', p1.sr, e, fun H2 p2 => q H2 (p1.trans p2)⟩
      · rw [if_neg hy] at e ⊢
        cases e
        exact q H1 (p1.weak fun z => (Bool.and_eq_true_iff.mp z).1)
theorem jw_or (ha : JT G c π1 a ta) (hb : JW G c π2 (.BoolOp .Or (b :: rest) pos) tb) : JW G c (π1 && π2) (.BoolOp .Or (a :: b :: rest) pos) (tOrD ta tb) := fun X s =>
  pw_weak (pw_or (ha X s) (hb X s)) fun σ H Q ⟨m, ex, g, d, g', S, e, q⟩ => by
    unfold tOrD at e
    cases h1 : ta g with
    | none => simp [h1] at e
    | some y =>
      simp only [h1, Option.bind_some] at e
      refine ⟨m, ex, g, y.1, y.2, S, h1, fun H1 p1 => ?_⟩
      by_cases hy : y.1 = true
      · rw [if_pos hy] at e ⊢
        cases e
        exact q H1 (p1.weak fun z => (Bool.and_eq_true_iff.mp z).1)
      · rw [if_neg hy] at e ⊢
        exact ⟨m, ex, y.2, d, g', p1.sr, e, fun H2 p2 => q H2 (p1.trans p2)⟩

/-! ### .. as values -/
def fAnd (fa fb : Sf) : Sf := fun g => (fa g).bind fun p => match p.1 with
  | .bool true => fb p.2
  | .bool false => some (.bool false, p.2)
  | _ => none
def fOr (fa fb : Sf) : Sf := fun g => (fa g).bind fun p => match p.1 with
  | .bool false => fb p.2
  | .bool true => some (.bool true, p.2)
  | _ => none
theorem j_one {op} (ha : J G c π τ a fa) : J G c π τ (.BoolOp op [a] pos) fa := fun X s => pe_weak (pe_one (ha X s)) fun _ _ _ h => h
theorem j_and (ha : J G c π1 true a fa) (hb : J G c π2 true (.BoolOp .And (b :: rest) pos) fb) : J G c (π1 && π2) true (.BoolOp .And (a :: b :: rest) pos) (fAnd fa fb) := fun X s =>
  pe_weak (pe_and (ha X s) (hb X s)) fun σ H Q ⟨m, ex, g, d, g', S, e, q⟩ => by
    unfold fAnd at e
    cases h1 : fa g with
    | none => simp [h1] at e
    | some y =>
      simp only [h1, Option.bind_some] at e
      refine ⟨m, ex, g, y.1, y.2, S, h1, fun v H1 p1 r1 => ?_⟩
      split at e
      · rename_i hy
        rw [hy] at r1
        exact ⟨true, r1.bl, by rw [if_pos rfl]; exact ⟨m, ex, y.2, d, g', p1.sr, e, fun w H2 p2 r2 => q w H2 (p1.trans p2) r2⟩⟩
      · rename_i hy
        rw [hy] at r1
        cases e
        exact ⟨false, r1.bl, by rw [if_neg Bool.false_ne_true]; exact q _ H1 (p1.weak fun z => (Bool.and_eq_true_iff.mp z).1) (.of (.bl _))⟩
      · cases e
theorem j_or (ha : J G c π1 true a fa) (hb : J G c π2 true (.BoolOp .Or (b :: rest) pos) fb) : J G c (π1 && π2) true (.BoolOp .Or (a :: b :: rest) pos) (fOr fa fb) := fun X s =>
  pe_weak (pe_or (ha X s) (hb X s)) fun σ H Q ⟨m, ex, g, d, g', S, e, q⟩ => by
    unfold fOr at e
    cases h1 : fa g with
    | none => simp [h1] at e
    | some y =>
      simp only [h1, Option.bind_some] at e
      refine ⟨m, ex, g, y.1, y.2, S, h1, fun v H1 p1 r1 => ?_⟩
      split at e
      · rename_i hy
        rw [hy] at r1
        exact ⟨false, r1.bl, by rw [if_neg Bool.false_ne_true]; exact ⟨m, ex, y.2, d, g', p1.sr, e, fun w H2 p2 r2 => q w H2 (p1.trans p2) r2⟩⟩
      · rename_i hy
        rw [hy] at r1
        cases e
        exact ⟨true, r1.bl, by rw [if_pos rfl]; exact q _ H1 (p1.weak fun z => (Bool.and_eq_true_iff.mp z).1) (.of (.bl _))⟩
      · cases e
def oNot (x : D) : Option D := (truD x).map fun b => .bool (!b)
theorem j_not (ha : J G c π τ a fa) : J G c π true (.UnaryOp .Not a pos) (f1 oNot fa) := j_un (r := fun x H Q => ∃ k, TruV G.K x H k ∧ Q (.bl (!k)) H) (fun X s _ h => s.opK ▸ pe_notT h) (fun m ex σ H g v x d Q S rv e q => by
  unfold oNot at e
  cases h : truD x with
  | none => rw [h] at e; cases e
  | some k =>
    rw [h] at e
    cases e
    exact ⟨k, truV_of hid_sub rv h, q _ _ (.refl S) (.bl _)⟩) ha
/-! ### a if t else b -/
def fIf (tc : Tf) (fa fb : Sf) : Sf := fun g => (tc g).bind fun p => if p.1 = true then fa p.2 else fb p.2
theorem j_if {cc : Expr} {tc : Tf} (hc : JT G c π1 cc tc) (ha : J G c π2 τ1 a fa) (hb : J G c π3 τ2 b fb) : J G c (π1 && (π2 && π3)) (τ1 && τ2) (.IfExp cc a b pos) (fIf tc fa fb) := fun X s =>
  pe_weak (pe_ifExp (hc X s) (ha X s) (hb X s)) fun σ H Q ⟨m, ex, g, d, g', S, e, q⟩ => by
    unfold fIf at e
    cases h1 : tc g with
    | none => simp [h1] at e
    | some y =>
      simp only [h1, Option.bind_some] at e
      refine ⟨m, ex, g, y.1, y.2, S, h1, fun H1 p1 => ?_⟩
      by_cases hy : y.1 = true
      · rw [if_pos hy] at e ⊢
        exact ⟨m, ex, y.2, d, g', p1.sr, e, fun v H2 p2 r => q v H2 ((p1.trans p2).weak fun z => by simp at z; simp [z]) (r.all fun z => (Bool.and_eq_true_iff.mp z).1)⟩
      · rw [if_neg hy] at e ⊢
        exact ⟨m, ex, y.2, d, g', p1.sr, e, fun v H2 p2 r => q v H2 ((p1.trans p2).weak fun z => by simp at z; simp [z]) (r.all fun z => (Bool.and_eq_true_iff.mp z).2)⟩
/-! ### a < b < c, of ints -/
def tCh (p p' : Int → Int → Bool) (fa fb fc : Sf) : Tf := fun g => (fa g).bind fun x => (fb x.2).bind fun y => match x.1, y.1 with
  | .int i, .int j => if p i j = true then (fc y.2).bind fun z => (match z.1 with
      | .int k => some (p' j k, z.2)
      | _ => none) else some (false, y.2)
  | _, _ => none
def fCh (p p' : Int → Int → Bool) (fa fb fc : Sf) : Sf := fun g => (tCh p p' fa fb fc g).map fun x => (.bool x.1, x.2)
theorem chain_reads {K : PySem.W.Frag} {p p' : Int → Int → Bool} {σ : L2.St} {H : Hp} {Q : VK} {m : Mp} {ex : Addr → Prop} {g g' : Sg} {k : Bool} (S : SR K m ex σ H g) (e : tCh p p' fa fb fc g = some (k, g'))
    (q : ∀ H', Po K m ex σ H g (π1 && (π2 && π3)) g' H' → Q (.bl k) H') : tChain (rI0 fun i j => .bl (p i j)) (rI0 fun i j => .bl (p' i j)) (TF K π1 true fa) (TF K π2 true fb) (TF K π3 true fc) σ H Q := by
  unfold tCh at e
  cases h1 : fa g with
  | none => simp [h1] at e
  | some x =>
    cases h2 : fb x.2 with
    | none => simp [h1, h2] at e
    | some y =>
      simp only [h1, h2, Option.bind_some] at e
      refine ⟨m, ex, g, x.1, x.2, S, h1, fun v H1 p1 r1 => ⟨m, ex, x.2, y.1, y.2, p1.sr, h2, fun w H2 p2 r2 => ?_⟩⟩
      split at e
      · rename_i i j e1 e2
        rw [e1] at r1
        rw [e2] at r2
        refine ⟨i, j, r1.int, r2.int, p i j, rfl, ?_⟩
        by_cases hp : p i j = true
        · rw [if_pos hp] at e ⊢
          cases h3 : fc y.2 with
          | none => simp [h3] at e
          | some z =>
            simp only [h3, Option.bind_some] at e
            split at e
            · rename_i k' e3
              cases e
              refine ⟨m, ex, y.2, z.1, z.2, p2.sr, h3, fun u H3 p3 r3 => ?_⟩
              rw [e3] at r3
              exact ⟨j, k', r2.int, r3.int, q H3 ((p1.trans (p2.trans p3)).weak fun z => z)⟩
            · cases e
        · rw [if_neg hp] at e ⊢
          cases e
          exact q H2 ((p1.trans p2).weak fun z => by simp at z; simp [z])
      · cases e
theorem jt_chain {o o' : CmpOp} {p p' : Int → Int → Bool} (ho : ∀ X, OpR X (compareOp o) (rI0 fun i j => .bl (p i j))) (ho' : ∀ X, OpR X (compareOp o') (rI0 fun i j => .bl (p' i j))) (ha : J G c π1 true a fa) (hb : J G c π2 true b fb) (hc : J G c π3 true e3 fc)
    (hm : lastMarks [o, o'] [b, e3] = false := by with_unfolding_all rfl) : JT G c (π1 && (π2 && π3)) (.Compare a [o, o'] [b, e3] pos) (tCh p p' fa fb fc) := fun X s =>
  pt_weak (pt_chain (ho X) (ho' X) (ha X s) (hb X s) (hc X s) hm) fun σ H Q ⟨m, ex, g, d, g', S, e, q⟩ => chain_reads S e fun H' p => ⟨d, rfl, q H' p⟩
theorem j_chain {o o' : CmpOp} {p p' : Int → Int → Bool} (ho : ∀ X, OpR X (compareOp o) (rI0 fun i j => .bl (p i j))) (ho' : ∀ X, OpR X (compareOp o') (rI0 fun i j => .bl (p' i j))) (ha : J G c π1 true a fa) (hb : J G c π2 true b fb) (hc : J G c π3 true e3 fc)
    (hm : lastMarks [o, o'] [b, e3] = false := by with_unfolding_all rfl) : J G c (π1 && (π2 && π3)) true (.Compare a [o, o'] [b, e3] pos) (fCh p p' fa fb fc) := fun X s =>
  pe_weak (pe_chain (ho X) (ho' X) (ha X s) (hb X s) (hc X s) hm) fun σ H Q ⟨m, ex, g, d, g', S, e, q⟩ => by
    unfold fCh at e
    cases h1 : tCh p p' fa fb fc g with
    | none => rw [h1] at e; cases e
    | some y =>
      rw [h1] at e
      cases e
      exact chain_reads S (show _ = some (y.1, y.2) from h1) fun H' p => q _ H' p (.of (.bl _))
abbrev pLt : Int → Int → Bool := fun i j => decide (i < j)
abbrev pLe : Int → Int → Bool := fun i j => decide (i ≤ j)
theorem jt_lele (ha : J G c π1 true a fa) (hb : J G c π2 true b fb) (hc : J G c π3 true e3 fc) (hm : lastMarks [.LtE, .LtE] [b, e3] = false := by with_unfolding_all rfl) : JT G c (π1 && (π2 && π3)) (.Compare a [.LtE, .LtE] [b, e3] pos) (tCh pLe pLe fa fb fc) := jt_chain (fun _ => op_le) (fun _ => op_le) ha hb hc hm
theorem jt_lelt (ha : J G c π1 true a fa) (hb : J G c π2 true b fb) (hc : J G c π3 true e3 fc) (hm : lastMarks [.LtE, .Lt] [b, e3] = false := by with_unfolding_all rfl) : JT G c (π1 && (π2 && π3)) (.Compare a [.LtE, .Lt] [b, e3] pos) (tCh pLe pLt fa fb fc) := jt_chain (fun _ => op_le) (fun _ => op_lt) ha hb hc hm
theorem j_lele (ha : J G c π1 true a fa) (hb : J G c π2 true b fb) (hc : J G c π3 true e3 fc) (hm : lastMarks [.LtE, .LtE] [b, e3] = false := by with_unfolding_all rfl) : J G c (π1 && (π2 && π3)) true (.Compare a [.LtE, .LtE] [b, e3] pos) (fCh pLe pLe fa fb fc) := j_chain (fun _ => op_le) (fun _ => op_le) ha hb hc hm

/-! ### items -/
def oIdx : D → D → Option D
  | .list xs, .int i => atI xs i
  | .tuple xs, .int i => atI xs i
  | .str z, .int i => if z.length ≤ sizeLine then (atI z.cps.toList i).map fun c => .str ⟨#[c]⟩ else none
  | _, _ => none
theorem atI_rp {K : PySem.W.Frag} {H : Hp} {vs : List V} {ds : List D} {i : Int} {d : D} (r : RpL K H vs ds) (e : atI ds i = some d) : ∃ v, atI vs i = some v ∧ Rp K H v d := by
  unfold atI at e ⊢
  rw [r.length]
  cases h : ixN ds.length i with
  | none => rw [h] at e; cases e
  | some j =>
    rw [h] at e
    obtain ⟨v, h1, h2⟩ := r.getD' (show ds[j]? = some d from e)
    exact ⟨v, h1, h2⟩
theorem ok_idx {K : PySem.W.Frag} : Ok2 K (rIx K) oIdx := fun m ex σ H g v w x y d Q S rv rw' e q => by
  unfold oIdx at e
  split at e
  · obtain ⟨a, vs, rfl, h1, r1⟩ := rv.lst hid_sub
    obtain ⟨u, h2, r2⟩ := atI_rp r1 e
    exact .inl ⟨a, vs, _, u, rfl, rw'.int, SqL.of h1, h2, q _ _ (.refl S) r2⟩
  · obtain ⟨a, vs, rfl, h1, r1⟩ := rv.tup hid_sub
    obtain ⟨u, h2, r2⟩ := atI_rp r1 e
    exact .inr (.inl ⟨a, vs, _, u, rfl, rw'.int, h1, h2, q _ _ (.refl S) r2⟩)
  · split at e
    · rename_i z i hz
      cases h : atI z.cps.toList i with
      | none => rw [h] at e; cases e
      | some k =>
        rw [h] at e
        cases e
        exact .inr (.inr ⟨z, i, k, rv.str, rw'.int, hz, h, q _ _ (.refl S) (.str _)⟩)
    · cases e
  · cases e
theorem j_idx (ha : J G c π1 τ1 a fa) (hb : J G c π2 τ2 b fb) (hm : τ1 = true ∨ π2 = true := by first | exact .inl rfl | exact .inr rfl) (hs : PlainIx b := by intro _ _; rfl) : J G c (π1 && π2) true (.Subscript a b pos) (f2 oIdx fa fb) :=
  j_bin (r := rIx G.K) (fun X s _ _ h1 h2 => pe_ix (s.opK ▸ ix_seq) h1 h2 hs) ok_idx ha hb hm
/-- d[k] -/
def keyOf : D → Option Key
  | .int i => some (.inl i)
  | .str x => some (.inr x)
  | _ => none
def dFind (kvs : List (D × D)) (k : Key) : Option D := (kvs.find? fun kv => decide (keyOf kv.1 = some k)).map (·.2)
theorem keyOf_kD (k : Key) : keyOf (kD k) = some k := by cases k <;> rfl
theorem kD_of {d : D} {k : Key} (e : keyOf d = some k) : d = kD k := by
  unfold keyOf at e
  split at e <;> cases e <;> rfl
theorem Rt.key {K : PySem.W.Frag} {G' H : Hp} {τ : Bool} {v : V} {d : D} {k : Key} (r : Rt K τ G' H v d) (e : keyOf d = some k) : v = kV k := by
  have := kD_of e
  subst this
  cases k with
  | inl i => exact r.int
  | inr i => exact r.str
theorem RpK.find {K : PySem.W.Frag} {H : Hp} {k : Key} : ∀ {kvs : List (Key × V)} {ds : List (D × D)}, RpK K H kvs ds → (∀ d, dFind ds k = some d → ∃ v, valV kvs k = some v ∧ Rp K H v d) ∧ (dFind ds k = none → valV kvs k = none)
  | _, _, .nil => ⟨fun d e => (by cases e), fun _ => rfl⟩
  | _, _, @RpK.cons _ _ k' v vs d ds a r => by
    have ih := RpK.find (k := k) r
    unfold dFind valV at ih ⊢
    rw [List.find?_cons, List.find?_cons]
    simp only [keyOf_kD]
    by_cases hk : k' = k
    · subst hk
      simp only [decide_true]
      exact ⟨fun d' e => (by cases e; exact ⟨v, rfl, a⟩), fun e => (by cases e)⟩
    · have h1 : decide (some k' = some k) = false := decide_eq_false (fun z => hk (Option.some.inj z))
      have h2 : decide (k' = k) = false := decide_eq_false hk
      simp only [h1, h2]
      exact ih
def scrD : D → Bool
  | .dict ((.none, _) :: _) => true
  | _ => false
theorem Rt.dic' {K : PySem.W.Frag} {G' H : Hp} {τ : Bool} {v : V} {ks : List (D × D)} (gr : Grow G' H) (hn : scrD (.dict ks) = false) (r : Rt K τ G' H v (.dict ks)) : ∃ a vs, v = .ref a ∧ Rd H a (.dK vs) ∧ RpK K G' vs ks :=
  r.dic gr fun x r' z => by rw [z] at hn; cases hn
def oDGet : D → D → Option D
  | .dict ks, y => if scrD (.dict ks) = true then none else (keyOf y).bind fun k => dFind ks k
  | _, _ => none
def rDGet : R2 := fun x y H Q => ∃ a v, x = .ref a ∧ DGet H a y (some v) ∧ Q v H
theorem ok_dget {K : PySem.W.Frag} : Ok2 K rDGet oDGet := fun m ex σ H g v w x y d Q S rv rw' e q => by
  unfold oDGet at e
  split at e
  · split at e
    · cases e
    · rename_i ks _ hs
      obtain ⟨a, vs, rfl, h1, r1⟩ := rv.dic' hid_sub (by simpa using hs)
      cases hk : keyOf y with
      | none => rw [hk] at e; cases e
      | some k =>
        rw [hk] at e
        obtain ⟨u, h2, h3⟩ := (r1.find).1 d e
        exact ⟨a, u, rfl, .inl ⟨vs, k, h1, rw'.key hk, h2.symm⟩, q _ _ (.refl S) h3⟩
  · cases e
theorem j_dget (ha : J G c π1 τ1 a fa) (hb : J G c π2 τ2 b fb) (hm : τ1 = true ∨ π2 = true := by first | exact .inl rfl | exact .inr rfl) (hs : NoSl b := by intro _ _; rfl) : J G c (π1 && π2) true (.Subscript a b pos) (f2 oDGet fa fb) :=
  j_bin (r := rDGet) (fun X s _ _ h1 h2 => pe_dget s.units1 h1 h2 hs) ok_dget ha hb hm
/-- k in d, k not in d -/
def oDIn (x y : D) : Option Bool := match y with
  | .dict ks => if scrD (.dict ks) = true then none else (keyOf x).map fun k => (dFind ks k).isSome
  | _ => none
def oDNot (x y : D) : Option Bool := (oDIn x y).map not
theorem dget_opt {K : PySem.W.Frag} {m : Mp} {ex : Addr → Prop} {H : Hp} {τ τ' : Bool} {v w : V} {x y : D} {k : Bool} (rv : Rt K τ (hid (Hd m ex) H) H v x) (rw' : Rt K τ' (hid (Hd m ex) H) H w y) (e : oDIn x y = some k) : ∃ a o, w = .ref a ∧ DGet H a v o ∧ o.isSome = k := by
  unfold oDIn at e
  split at e
  · split at e
    · cases e
    · rename_i ks hs
      obtain ⟨a, vs, rfl, h1, r1⟩ := rw'.dic' hid_sub (by simpa using hs)
      cases hk : keyOf x with
      | none => rw [hk] at e; cases e
      | some k' =>
        rw [hk] at e
        cases e
        refine ⟨a, valV vs k', rfl, .inl ⟨vs, k', h1, rv.key hk, rfl⟩, ?_⟩
        show (valV vs k').isSome = (dFind ks k').isSome
        cases hf : dFind ks k' with
        | none => rw [(r1.find).2 hf]; rfl
        | some d =>
          obtain ⟨u, h2, _⟩ := (r1.find).1 d hf
          rw [h2]; rfl
  · cases e
def rDIn : R2 := fun x y H Q => ∃ a o, y = .ref a ∧ DGet H a x o ∧ Q (.bl o.isSome) H
def rDNot : R2 := fun x y H Q => ∃ a o, y = .ref a ∧ DGet H a x o ∧ Q (.bl (!o.isSome)) H
theorem ok_din {K : PySem.W.Frag} : Ok2 K rDIn (oB oDIn) := fun m ex σ H g v w x y d Q S rv rw' e q => by
  unfold oB at e
  cases h : oDIn x y with
  | none => rw [h] at e; cases e
  | some k =>
    rw [h] at e
    cases e
    obtain ⟨a, o, h1, h2, h3⟩ := dget_opt rv rw' h
    exact ⟨a, o, h1, h2, by rw [h3]; exact q _ _ (.refl S) (.bl _)⟩
theorem ok_dnot {K : PySem.W.Frag} : Ok2 K rDNot (oB oDNot) := fun m ex σ H g v w x y d Q S rv rw' e q => by
  unfold oB oDNot at e
  cases h : oDIn x y with
  | none => rw [h] at e; cases e
  | some k =>
    rw [h] at e
    cases e
    obtain ⟨a, o, h1, h2, h3⟩ := dget_opt rv rw' h
    exact ⟨a, o, h1, h2, by rw [h3]; exact q _ _ (.refl S) (.bl _)⟩
theorem j_din (ha : J G c π1 τ1 a fa) (hb : J G c π2 τ2 b fb) (hm : τ1 = true ∨ π2 = true := by first | exact .inl rfl | exact .inr rfl) (hk : behindInMarks .In b = false := by rfl) : J G c (π1 && π2) true (.Compare a [.In] [b] pos) (f2 (oB oDIn) fa fb) :=
  j_bin (r := rDIn) (fun X s _ _ h1 h2 => pe_cmp (pc_din s.units1 h1 h2) hk) ok_din ha hb hm
theorem j_dnot (ha : J G c π1 τ1 a fa) (hb : J G c π2 τ2 b fb) (hm : τ1 = true ∨ π2 = true := by first | exact .inl rfl | exact .inr rfl) (hk : behindInMarks .NotIn b = false := by rfl) : J G c (π1 && π2) true (.Compare a [.NotIn] [b] pos) (f2 (oB oDNot) fa fb) :=
  j_bin (r := rDNot) (fun X s _ _ h1 h2 => pe_cmp (pc_dnotin s.units1 h1 h2) hk) ok_dnot ha hb hm
theorem jt_pcmp {op : CmpOp} {r : R2} {o : D → D → Option Bool} (ho : ∀ X, SX G c X → ∀ ta tb, PE X a ta → PE X b tb → PC X op a b (tOp r ta tb)) (ok : Ok2 G.K r (oB o)) (ha : J G c π1 τ1 a fa) (hb : J G c π2 τ2 b fb) (hm : τ1 = true ∨ π2 = true) (hk : behindInMarks op b = false) :
    JT G c (π1 && π2) (.Compare a [op] [b] pos) (t2 o fa fb) := fun X s =>
  pt_weak (pt_cmp (ho X s _ _ (ha X s) (hb X s)) hk) fun σ H Q ⟨m, ex, g, d, g', S, e, q⟩ => by
    obtain ⟨x, g1, y, e1, e2, e3⟩ := t2_some e
    exact ⟨m, ex, g, x, g1, S, e1, fun v H1 p1 r1 => ⟨m, ex, g1, y, g', p1.sr, e2, fun w H2 p2 r2 => ok m ex σ H2 g' v w x y (.bool d) _ p2.sr (r1.carry p2 hm).weak r2.weak (by unfold oB; rw [e3]; rfl) fun z H3 p3 r3 => by
      cases r3
      exact ⟨d, rfl, q H3 (((p1.trans p2).trans p3).weak (by simp))⟩⟩⟩
theorem jt_din (ha : J G c π1 τ1 a fa) (hb : J G c π2 τ2 b fb) (hm : τ1 = true ∨ π2 = true := by first | exact .inl rfl | exact .inr rfl) (hk : behindInMarks .In b = false := by rfl) : JT G c (π1 && π2) (.Compare a [.In] [b] pos) (t2 oDIn fa fb) :=
  jt_pcmp (r := rDIn) (fun X s _ _ h1 h2 => pc_din s.units1 h1 h2) ok_din ha hb hm hk
theorem jt_dnot (ha : J G c π1 τ1 a fa) (hb : J G c π2 τ2 b fb) (hm : τ1 = true ∨ π2 = true := by first | exact .inl rfl | exact .inr rfl) (hk : behindInMarks .NotIn b = false := by rfl) : JT G c (π1 && π2) (.Compare a [.NotIn] [b] pos) (t2 oDNot fa fb) :=
  jt_pcmp (r := rDNot) (fun X s _ _ h1 h2 => pc_dnotin s.units1 h1 h2) ok_dnot ha hb hm hk
/-! ### x in xs -/
def flatD : D → Bool
  | .none => true
  | .bool _ => true
  | .int _ => true
  | .str _ => true
  | _ => false
def eqF : D → D → Bool
  | .none, .none => true
  | .bool a, .bool b => a == b
  | .bool a, .int b => (if a then 1 else 0) == b
  | .int a, .bool b => a == (if b then 1 else 0)
  | .int a, .int b => a == b
  | .str a, .str b => a == b
  | _, _ => false
theorem Rp.flat {K : PySem.W.Frag} {H : Hp} {v : V} {d : D} (r : Rp K H v d) : flatV v = flatD d := by cases r <;> rfl
theorem Rp.eqF {K : PySem.W.Frag} {H H' : Hp} {v w : V} {d e : D} (r : Rp K H v d) (s : Rp K H' w e) : eqV v w = eqF d e := by cases r <;> cases s <;> rfl
/-- x in xs (flat things) -/
def inF (x : D) (xs : List D) : Option Bool := if flatD x = true ∧ xs.all flatD = true then some (xs.any fun y => eqF y x) else none
def oIn (x y : D) : Option Bool := match y with
  | .list xs => inF x xs
  | .tuple xs => inF x xs
  | _ => none
def oNotIn (x y : D) : Option Bool := (oIn x y).map not
theorem RpL.flat {K : PySem.W.Frag} {H : Hp} : ∀ {vs : List V} {ds : List D}, RpL K H vs ds → vs.all flatV = ds.all flatD
  | _, _, .nil => rfl
  | _, _, .cons a r => by simp only [List.all_cons, a.flat, RpL.flat r]
theorem RpL.anyF {K : PySem.W.Frag} {H H' : Hp} {w : V} {e : D} (s : Rp K H' w e) : ∀ {vs : List V} {ds : List D}, RpL K H vs ds → inV w vs = ds.any fun y => EV.eqF y e
  | _, _, .nil => rfl
  | _, _, .cons a r => by
    have ih := RpL.anyF s r
    unfold inV at ih ⊢
    simp only [List.any_cons, a.eqF s, ih]
theorem in_reads {K : PySem.W.Frag} {m : Mp} {ex : Addr → Prop} {H : Hp} {τ τ' : Bool} {v w : V} {x y : D} {k : Bool} (rv : Rt K τ (hid (Hd m ex) H) H v x) (rw' : Rt K τ' (hid (Hd m ex) H) H w y) (e : oIn x y = some k) :
    ∃ p xs, w = .ref p ∧ (SqL K H p xs ∨ SqT K H p xs) ∧ flatV v = true ∧ xs.all flatV = true ∧ inV v xs = k := by
  have fl : ∀ {xs : List D}, inF x xs = some k → flatD x = true ∧ xs.all flatD = true ∧ (xs.any fun y => eqF y x) = k := fun {xs} h => by
    unfold inF at h
    split at h
    · cases h; exact ⟨(‹_ ∧ _›).1, (‹_ ∧ _›).2, rfl⟩
    · cases h
  have rx : flatD x = true → Rp K (hid (Hd m ex) H) v x := fun h => by
    rcases rv with z | ⟨_, _, _, z⟩
    · exact z
    · cases z <;> cases h
  unfold oIn at e
  split at e
  · obtain ⟨a, vs, rfl, h1, r1⟩ := rw'.lst hid_sub
    obtain ⟨f1, f2, f3⟩ := fl e
    exact ⟨a, vs, rfl, .inl (SqL.of h1), by rw [(rx f1).flat]; exact f1, by rw [r1.flat]; exact f2, by rw [RpL.anyF (rx f1) r1]; exact f3⟩
  · obtain ⟨a, vs, rfl, h1, r1⟩ := rw'.tup hid_sub
    obtain ⟨f1, f2, f3⟩ := fl e
    exact ⟨a, vs, rfl, .inr h1, by rw [(rx f1).flat]; exact f1, by rw [r1.flat]; exact f2, by rw [RpL.anyF (rx f1) r1]; exact f3⟩
  · cases e
theorem ok_in {K : PySem.W.Frag} : Ok2 K (rIn K false) (oB oIn) := fun m ex σ H g v w x y d Q S rv rw' e q => by
  unfold oB at e
  cases h : oIn x y with
  | none => rw [h] at e; cases e
  | some k =>
    rw [h] at e
    cases e
    obtain ⟨p, xs, h1, h2, h3, h4, h5⟩ := in_reads rv rw' h
    exact ⟨p, xs, h1, h2, h3, h4, by rw [h5]; exact q _ _ (.refl S) (.bl _)⟩
theorem ok_notIn {K : PySem.W.Frag} : Ok2 K (rIn K true) (oB oNotIn) := fun m ex σ H g v w x y d Q S rv rw' e q => by
  unfold oB oNotIn at e
  cases h : oIn x y with
  | none => rw [h] at e; cases e
  | some k =>
    rw [h] at e
    cases e
    obtain ⟨p, xs, h1, h2, h3, h4, h5⟩ := in_reads rv rw' h
    exact ⟨p, xs, h1, h2, h3, h4, by rw [h5]; exact q _ _ (.refl S) (.bl _)⟩
theorem j_in (ha : J G c π1 τ1 a fa) (hb : J G c π2 τ2 b fb) (hm : τ1 = true ∨ π2 = true := by first | exact .inl rfl | exact .inr rfl) (hk : behindInMarks .In b = false := by rfl) : J G c (π1 && π2) true (.Compare a [.In] [b] pos) (f2 (oB oIn) fa fb) := j_cmp (fun X s => s.opK ▸ op_in_seq) ok_in ha hb hm hk
theorem j_notIn (ha : J G c π1 τ1 a fa) (hb : J G c π2 τ2 b fb) (hm : τ1 = true ∨ π2 = true := by first | exact .inl rfl | exact .inr rfl) (hk : behindInMarks .NotIn b = false := by rfl) : J G c (π1 && π2) true (.Compare a [.NotIn] [b] pos) (f2 (oB oNotIn) fa fb) := j_cmp (fun X s => s.opK ▸ op_notIn_seq) ok_notIn ha hb hm hk
theorem jt_in (ha : J G c π1 τ1 a fa) (hb : J G c π2 τ2 b fb) (hm : τ1 = true ∨ π2 = true := by first | exact .inl rfl | exact .inr rfl) (hk : behindInMarks .In b = false := by rfl) : JT G c (π1 && π2) (.Compare a [.In] [b] pos) (t2 oIn fa fb) := jt_cmp (fun X s => s.opK ▸ op_in_seq) ok_in ha hb hm hk
theorem jt_notIn (ha : J G c π1 τ1 a fa) (hb : J G c π2 τ2 b fb) (hm : τ1 = true ∨ π2 = true := by first | exact .inl rfl | exact .inr rfl) (hk : behindInMarks .NotIn b = false := by rfl) : JT G c (π1 && π2) (.Compare a [.NotIn] [b] pos) (t2 oNotIn fa fb) := jt_cmp (fun X s => s.opK ▸ op_notIn_seq) ok_notIn ha hb hm hk
end
end EV

set_option Elab.async false
set_option linter.all false
set_option maxRecDepth 100000
/-! EV4: calls of built-ins, slices. -/
namespace EV
open PySem PySem.Spec L2
section
variable {G : Gb} {c : Sx} {π π1 π2 π3 τ τ1 τ2 τ3 : Bool} {a b e e3 : Expr} {f fa fb fc : Sf} {pos p q2 : Pos} {rest es : List Expr} {x : Str} {id T : String}
/-- a name of the module, or built in -/
abbrev GlN (c : Sx) (x : Str) : Prop := c.sc.names.lookup x = some .globalImplicit
theorem SX.gl {X : Cx} (s : SX G c X) (h : GlN c x) : Gl X x := by
  show X.env.scope.names.lookup x = _
  rw [s.sc]; exact h
theorem SX.mgN {X : Cx} (s : SX G c X) (h : G.mg x = none) : X.mg x = none := by rw [← h, ← s.gb]

/-- a built-in function of one thing -/
theorem cb1_rule {r : List V → Hp → VK → Prop} (hr : ∀ X, SX G c X → CallR X (.builtin id) r) (hm : G.mg x = none) (hv : bootBuiltins x = some (.builtin id)) (hg : GlN c x)
    (hs : ∀ env, starEach [a] env = (false, eval a env) :: starEach [] env) (hn : x ≠ "__name__") (hd : (x == ("__debug__" : Str)) = false) (hpl : ∀ env, (backTo pos (starEach ([] : List Expr) env)).any (·.1) = false := by intro _; rfl) :
    ∀ X, SX G c X → ∀ ta, PE X a ta → PE X (.Call (.Name x p) [a] [] pos) (tUn (fun v H Q => r [v] H Q) ta) := fun X s _ h =>
  pe_callB (hr X s) (s.gl hg) (s.mgN hm) hv (pa_cons h pa_nil (hs _)) hn hd (hs _) (hpl _)
theorem cty1_rule {r : List V → Hp → VK → Prop} (hr : ∀ X, SX G c X → CallR X (.type T) r) (hm : G.mg x = none) (hv : bootBuiltins x = some (.type T)) (hg : GlN c x)
    (hs : ∀ env, starEach [a] env = (false, eval a env) :: starEach [] env) (hn : x ≠ "__name__") (hd : (x == ("__debug__" : Str)) = false) (hpl : ∀ env, (backTo pos (starEach ([] : List Expr) env)).any (·.1) = false := by intro _; rfl) :
    ∀ X, SX G c X → ∀ ta, PE X a ta → PE X (.Call (.Name x p) [a] [] pos) (tUn (fun v H Q => r [v] H Q) ta) := fun X s _ h =>
  pe_callTy (hr X s) (s.gl hg) (s.mgN hm) hv (pa_cons h pa_nil (hs _)) hn hd (hs _) (hpl _)
/-- .. of several things -/
def OkN (K : PySem.W.Frag) (r : List V → Hp → VK → Prop) (op : List D → Option D) : Prop := ∀ m ex σ H g vs xs d Q, SR K m ex σ H g → RpL K (hid (Hd m ex) H) vs xs → op xs = some d → Fin K m ex σ H g d Q → r vs H Q
def fN (op : List D → Option D) (fr : Sg → Option (List D × Sg)) : Sf := fun g => (fr g).bind fun p => (op p.1).map fun d => (d, p.2)
theorem fN_some {op : List D → Option D} {fr : Sg → Option (List D × Sg)} {g g' : Sg} {d : D} (e : fN op fr g = some (d, g')) : ∃ xs, fr g = some (xs, g') ∧ op xs = some d := by
  unfold fN at e
  cases h1 : fr g with
  | none => rw [h1] at e; cases e
  | some y =>
    rw [h1] at e
    cases h3 : op y.1 with
    | none => simp [h3] at e
    | some z =>
      simp [h3] at e
      exact ⟨y.1, by simp [← e.2], by rw [h3]; simp [e.1]⟩
theorem j_cbN {r : List V → Hp → VK → Prop} {op : List D → Option D} {fr : Sg → Option (List D × Sg)} (hr : ∀ X, SX G c X → CallR X (.builtin id) r) (ok : OkN G.K r op) (hm : G.mg x = none) (hv : bootBuiltins x = some (.builtin id)) (h : JA G c π (a :: es) fr)
    (hg : GlN c x := by rfl) (hn : x ≠ "__name__" := by decide) (hd : (x == ("__debug__" : Str)) = false := by decide)
    (he : ∀ env, starEach (a :: es) env = (false, eval a env) :: starEach es env := by intro _; rfl) (hpl : ∀ env, (backTo pos (starEach es env)).any (·.1) = false := by intro _; rfl) :
    J G c π true (.Call (.Name x p) (a :: es) [] pos) (fN op fr) := fun X s =>
  pe_weak (pe_callB (hr X s) (s.gl hg) (s.mgN hm) hv (h X s) hn hd (he _) (hpl _)) fun σ H Q ⟨m, ex, g, d, g', S, e, q⟩ => by
    obtain ⟨xs, e1, e2⟩ := fN_some e
    exact ⟨m, ex, g, xs, g', S, e1, fun vs H1 p1 r1 => ok m ex σ H1 g' vs xs d Q p1.sr r1 e2 fun v H2 p2 r2 => q v H2 ((p1.trans p2).weak (by simp)) (.of r2)⟩

/-! ### len -/
def oLen : D → Option D
  | .list xs => some (.int xs.length)
  | .tuple xs => some (.int xs.length)
  | .str y => if y.length ≤ sizeLine then some (.int y.length) else none
  | _ => none
theorem j_len (hm : G.mg "len" = none) (ha : J G c π τ a fa) (hg : GlN c "len" := by rfl) (hs : ∀ env, starEach [a] env = (false, eval a env) :: starEach [] env := by intro _; rfl) :
    J G c π true (.Call (.Name "len" p) [a] [] pos) (f1 oLen fa) := j_un (cb1_rule (r := fun xs H Q => ∃ x n, xs = [x] ∧ LenV G.K x H n ∧ Q (.int n) H) (fun X s => s.opK ▸ call_len) hm PySem.boot_len hg hs (by decide) (by decide)) (fun m ex σ H g v x d Q S rv e q => by
  unfold oLen at e
  split at e
  · cases e
    obtain ⟨a, vs, rfl, h1, r1⟩ := rv.lst hid_sub
    exact ⟨_, _, rfl, .inl ⟨vs, SqL.of h1, rfl⟩, by rw [r1.length]; exact q _ _ (.refl S) (.int _)⟩
  · cases e
    obtain ⟨a, vs, rfl, h1, r1⟩ := rv.tup hid_sub
    exact ⟨_, _, rfl, .inr ⟨vs, h1, rfl⟩, by rw [r1.length]; exact q _ _ (.refl S) (.int _)⟩
  · split at e
    · cases e
      rw [rv.str]
      exact ⟨_, _, rfl, ⟨‹_›, rfl⟩, q _ _ (.refl S) (.int _)⟩
    · cases e
  · cases e) ha
/-! ### numbers -/
def oAbs : D → Option D
  | .int i => some (.int (if i < 0 then -i else i))
  | _ => none
theorem j_abs (hm : G.mg "abs" = none) (ha : J G c π τ a fa) (hg : GlN c "abs" := by rfl) (hs : ∀ env, starEach [a] env = (false, eval a env) :: starEach [] env := by intro _; rfl) :
    J G c π true (.Call (.Name "abs" p) [a] [] pos) (f1 oAbs fa) := j_un (cb1_rule (fun X s => call_abs) hm PyProof.Rows.boot_abs hg hs (by decide) (by decide)) (fun m ex σ H g v x d Q S rv e q => by
  unfold oAbs at e
  split at e
  · cases e
    exact ⟨_, by rw [rv.int], q _ _ (.refl S) (.int _)⟩
  · cases e) ha
def oInt : D → Option D
  | .int i => some (.int i)
  | _ => none
theorem j_toint (hm : G.mg "int" = none) (ha : J G c π τ a fa) (hg : GlN c "int" := by rfl) (hs : ∀ env, starEach [a] env = (false, eval a env) :: starEach [] env := by intro _; rfl) :
    J G c π true (.Call (.Name "int" p) [a] [] pos) (f1 oInt fa) := j_un (cty1_rule (fun X s => call_int1) hm (by decide +kernel) hg hs (by decide) (by decide)) (fun m ex σ H g v x d Q S rv e q => by
  unfold oInt at e
  split at e
  · cases e
    exact .inl ⟨_, by rw [rv.int], q _ _ (.refl S) (.int _)⟩
  · cases e) ha
def oStrI : D → Option D
  | .int i => if i.natAbs.log2 < 1920 then some (.str (toString i)) else none
  | _ => none
theorem j_str_int (hm : G.mg "str" = none) (ha : J G c π τ a fa) (hg : GlN c "str" := by rfl) (hs : ∀ env, starEach [a] env = (false, eval a env) :: starEach [] env := by intro _; rfl) :
    J G c π true (.Call (.Name "str" p) [a] [] pos) (f1 oStrI fa) := j_un (cty1_rule (fun X s => call_str_int) hm (by decide +kernel) hg hs (by decide) (by decide)) (fun m ex σ H g v x d Q S rv e q => by
  unfold oStrI at e
  split at e
  · split at e
    · cases e
      exact ⟨_, by rw [rv.int], ‹_›, q _ _ (.refl S) (.str _)⟩
    · cases e
  · cases e) ha
def oMax2 : List D → Option D
  | [.int i, .int j] => some (.int (if j > i then j else i))
  | _ => none
def oMin2 : List D → Option D
  | [.int i, .int j] => some (.int (if j < i then j else i))
  | _ => none
theorem rpl2 {K : PySem.W.Frag} {H : Hp} {vs : List V} {i j : Int} (r : RpL K H vs [.int i, .int j]) : vs = [.int i, .int j] := by
  cases r with
  | cons a r =>
    cases r with
    | cons b r =>
      cases r
      cases a
      cases b
      rfl
theorem j_max2 {fr : Sg → Option (List D × Sg)} (hm : G.mg "max" = none) (h : JA G c π [a, b] fr) (hg : GlN c "max" := by rfl)
    (he : ∀ env, starEach [a, b] env = (false, eval a env) :: starEach [b] env := by intro _; rfl) (hpl : ∀ env, (backTo pos (starEach [b] env)).any (·.1) = false := by intro _; rfl) :
    J G c π true (.Call (.Name "max" p) [a, b] [] pos) (fN oMax2 fr) := j_cbN (fun X s => call_max2 s.calm) (fun m ex σ H g vs xs d Q S r e q => by
  unfold oMax2 at e
  split at e
  · cases e
    exact ⟨_, _, rpl2 r, q _ _ (.refl S) (.int _)⟩
  · cases e) hm (by decide +kernel) h hg (by decide) (by decide) he hpl
theorem j_min2 {fr : Sg → Option (List D × Sg)} (hm : G.mg "min" = none) (h : JA G c π [a, b] fr) (hg : GlN c "min" := by rfl)
    (he : ∀ env, starEach [a, b] env = (false, eval a env) :: starEach [b] env := by intro _; rfl) (hpl : ∀ env, (backTo pos (starEach [b] env)).any (·.1) = false := by intro _; rfl) :
    J G c π true (.Call (.Name "min" p) [a, b] [] pos) (fN oMin2 fr) := j_cbN (fun X s => call_min2 s.calm) (fun m ex σ H g vs xs d Q S r e q => by
  unfold oMin2 at e
  split at e
  · cases e
    exact ⟨_, _, rpl2 r, q _ _ (.refl S) (.int _)⟩
  · cases e) hm (by decide +kernel) h hg (by decide) (by decide) he hpl

/-! ### tuple, list -/
def oTup : D → Option D
  | .list xs => some (.tuple xs)
  | .tuple xs => some (.tuple xs)
  | _ => none
def oLst : D → Option D
  | .list xs => some (.list xs)
  | .tuple xs => some (.list xs)
  | _ => none
theorem Rt.tupv {K : PySem.W.Frag} {G' H : Hp} {τ : Bool} {v : V} {ds : List D} (r : Rt K τ G' H v (.tuple ds)) : Rp K G' v (.tuple ds) := by
  rcases r with z | ⟨_, _, _, z⟩
  · exact z
  · cases z
theorem j_tuple (hm : G.mg "tuple" = none) (ha : J G c π τ a fa) (hg : GlN c "tuple" := by rfl) (hs : ∀ env, starEach [a] env = (false, eval a env) :: starEach [] env := by intro _; rfl) :
    J G c π true (.Call (.Name "tuple" p) [a] [] pos) (f1 oTup fa) := j_un (cty1_rule (r := fun xs H Q => ∃ p ys, xs = [.ref p] ∧ ((SqL G.K H p ys ∧ ∀ l, H l = none → Q (.ref l) (upd H l (.tup ys))) ∨ (SqT G.K H p ys ∧ Q (.ref p) H))) (fun X s => s.opK ▸ call_tuple_of) hm (by decide +kernel) hg hs (by decide) (by decide)) (fun m ex σ H g v x d Q S rv e q => by
  unfold oTup at e
  split at e
  · cases e
    obtain ⟨a, vs, rfl, h1, r1⟩ := rv.lst hid_sub
    exact ⟨a, vs, rfl, .inl ⟨SqL.of h1, fun l hl => q _ _ (.new S hl) (rp_new_tup S hl r1)⟩⟩
  · cases e
    have rp := rv.tupv
    obtain ⟨a, vs, rfl, h1, r1⟩ := rv.tup hid_sub
    exact ⟨a, vs, rfl, .inr ⟨h1, q _ _ (.refl S) rp⟩⟩
  · cases e) ha
theorem j_list (hm : G.mg "list" = none) (ha : J G c π τ a fa) (hg : GlN c "list" := by rfl) (hs : ∀ env, starEach [a] env = (false, eval a env) :: starEach [] env := by intro _; rfl) :
    JF G c π (.Call (.Name "list" p) [a] [] pos) (f1 oLst fa) := j_unF (cty1_rule (r := fun xs H Q => ∃ p ys, xs = [.ref p] ∧ (SqL G.K H p ys ∨ SqT G.K H p ys) ∧ ∀ l, H l = none → Q (.ref l) (upd H l (.lst ys))) (fun X s => s.opK ▸ call_list_of) hm (by decide +kernel) hg hs (by decide) (by decide)) (fun m ex σ H g v x d Q S rv e q => by
  unfold oLst at e
  split at e
  · cases e
    obtain ⟨a, vs, rfl, h1, r1⟩ := rv.lst hid_sub
    exact ⟨a, vs, rfl, .inl (SqL.of h1), fun l hl => q l _ (.laid S hl) (PoF.ow S hl r1)⟩
  · cases e
    obtain ⟨a, vs, rfl, h1, r1⟩ := rv.tup hid_sub
    exact ⟨a, vs, rfl, .inr h1, fun l hl => q l _ (.laid S hl) (PoF.ow S hl r1)⟩
  · cases e) ha
/-! ### lists of ints, of truth values -/
def intsOf : List D → Option (List Int)
  | [] => some []
  | .int i :: r => (intsOf r).map (i :: ·)
  | _ => none
theorem intsOf_map (ns : List Int) : intsOf (ns.map .int) = some ns := by
  induction ns with
  | nil => rfl
  | cons n r ih => simp [intsOf, ih]
theorem of_intsOf : ∀ {ds : List D} {ns : List Int}, intsOf ds = some ns → ds = ns.map .int
  | [], _, e => by cases e; rfl
  | .int i :: r, _, e => by
    unfold intsOf at e
    cases h : intsOf r with
    | none => rw [h] at e; cases e
    | some k => rw [h] at e; cases e; rw [of_intsOf h]; rfl
  | .none :: _, _, e => by cases e
  | .bool _ :: _, _, e => by cases e
  | .str _ :: _, _, e => by cases e
  | .list _ :: _, _, e => by cases e
  | .tuple _ :: _, _, e => by cases e
  | .dict _ :: _, _, e => by cases e
def boolsOf : List D → Option (List Bool)
  | [] => some []
  | .bool i :: r => (boolsOf r).map (i :: ·)
  | _ => none
theorem boolsOf_map (ns : List Bool) : boolsOf (ns.map .bool) = some ns := by
  induction ns with
  | nil => rfl
  | cons n r ih => simp [boolsOf, ih]
theorem of_boolsOf : ∀ {ds : List D} {ns : List Bool}, boolsOf ds = some ns → ds = ns.map .bool
  | [], _, e => by cases e; rfl
  | .bool i :: r, _, e => by
    unfold boolsOf at e
    cases h : boolsOf r with
    | none => rw [h] at e; cases e
    | some k => rw [h] at e; cases e; rw [of_boolsOf h]; rfl
  | .none :: _, _, e => by cases e
  | .int _ :: _, _, e => by cases e
  | .str _ :: _, _, e => by cases e
  | .list _ :: _, _, e => by cases e
  | .tuple _ :: _, _, e => by cases e
  | .dict _ :: _, _, e => by cases e
theorem RpL.bools {K : PySem.W.Frag} {H : Hp} : ∀ {vs : List V} {ns : List Bool}, RpL K H vs (ns.map PyData.bool) → vs = ns.map V.bl
  | _, [], .nil => rfl
  | _, _ :: _, .cons a r => by cases a; rw [RpL.bools r]; rfl
def maxI : List Int → Option Int
  | [] => none
  | i :: r => some (r.foldl max i)
def minI : List Int → Option Int
  | [] => none
  | i :: r => some (r.foldl min i)
theorem foldl_max_le : ∀ (r : List Int) (i : Int), i ≤ r.foldl max i ∧ (∀ y ∈ r, y ≤ r.foldl max i) ∧ (r.foldl max i = i ∨ r.foldl max i ∈ r)
  | [], i => ⟨Int.le_refl _, (fun _ h => by cases h), .inl rfl⟩
  | j :: r, i => by
    obtain ⟨h1, h2, h3⟩ := foldl_max_le r (max i j)
    refine ⟨by rw [List.foldl_cons]; omega, fun y hy => ?_, ?_⟩
    · rw [List.foldl_cons]
      rcases List.mem_cons.mp hy with rfl | hy
      · omega
      · exact h2 y hy
    · rw [List.foldl_cons]
      rcases h3 with h3 | h3
      · by_cases hij : i ≤ j
        · exact .inr (by rw [h3, Int.max_eq_right hij]; exact List.mem_cons_self)
        · exact .inl (by rw [h3, Int.max_eq_left (by omega)])
      · exact .inr (List.mem_cons_of_mem _ h3)
theorem foldl_min_le : ∀ (r : List Int) (i : Int), r.foldl min i ≤ i ∧ (∀ y ∈ r, r.foldl min i ≤ y) ∧ (r.foldl min i = i ∨ r.foldl min i ∈ r)
  | [], i => ⟨Int.le_refl _, (fun _ h => by cases h), .inl rfl⟩
  | j :: r, i => by
    obtain ⟨h1, h2, h3⟩ := foldl_min_le r (min i j)
    refine ⟨by rw [List.foldl_cons]; omega, fun y hy => ?_, ?_⟩
    · rw [List.foldl_cons]
      rcases List.mem_cons.mp hy with rfl | hy
      · omega
      · exact h2 y hy
    · rw [List.foldl_cons]
      rcases h3 with h3 | h3
      · by_cases hij : i ≤ j
        · exact .inl (by rw [h3, Int.min_eq_left hij])
        · exact .inr (by rw [h3, Int.min_eq_right (by omega)]; exact List.mem_cons_self)
      · exact .inr (List.mem_cons_of_mem _ h3)
theorem maxI_spec {ns : List Int} {m : Int} (e : maxI ns = some m) : m ∈ ns ∧ ∀ y ∈ ns, y ≤ m := by
  cases ns with
  | nil => cases e
  | cons i r =>
    cases e
    obtain ⟨h1, h2, h3⟩ := foldl_max_le r i
    exact ⟨by rcases h3 with h | h; · rw [h]; exact List.mem_cons_self
              · exact List.mem_cons_of_mem _ h, fun y hy => by
      rcases List.mem_cons.mp hy with rfl | hy
      · exact h1
      · exact h2 y hy⟩
theorem minI_spec {ns : List Int} {m : Int} (e : minI ns = some m) : m ∈ ns ∧ ∀ y ∈ ns, m ≤ y := by
  cases ns with
  | nil => cases e
  | cons i r =>
    cases e
    obtain ⟨h1, h2, h3⟩ := foldl_min_le r i
    exact ⟨by rcases h3 with h | h; · rw [h]; exact List.mem_cons_self
              · exact List.mem_cons_of_mem _ h, fun y hy => by
      rcases List.mem_cons.mp hy with rfl | hy
      · exact h1
      · exact h2 y hy⟩
/-- what one does with a list of ints -/
def oLI (k : List Int → Option D) : D → Option D
  | .list xs => (intsOf xs).bind k
  | _ => none
theorem oLI_reads {K : PySem.W.Frag} {m : Mp} {ex : Addr → Prop} {H : Hp} {τ : Bool} {v : V} {x d : D} {k : List Int → Option D} (rv : Rt K τ (hid (Hd m ex) H) H v x) (e : oLI k x = some d) : ∃ a ns, v = .ref a ∧ H a = some (.lst (ns.map V.int)) ∧ k ns = some d := by
  unfold oLI at e
  split at e
  · rename_i xs
    obtain ⟨a, vs, rfl, h1, r1⟩ := rv.lst hid_sub
    cases h : intsOf xs with
    | none => rw [h] at e; cases e
    | some ns =>
      rw [h] at e
      rw [of_intsOf h] at r1
      rw [r1.ints] at h1
      exact ⟨a, ns, rfl, h1, e⟩
  · cases e
theorem j_sum (hm : G.mg "sum" = none) (ha : J G c π τ a fa) (hg : GlN c "sum" := by rfl) (hs : ∀ env, starEach [a] env = (false, eval a env) :: starEach [] env := by intro _; rfl) :
    J G c π true (.Call (.Name "sum" p) [a] [] pos) (f1 (oLI fun ns => some (.int ns.sum)) fa) := j_un (cb1_rule (r := rSum G.K) (fun X s => s.opK ▸ cr_sum s.calm) hm (by decide +kernel) hg hs (by decide) (by decide)) (fun m ex σ H g v x d Q S rv e q => by
  obtain ⟨b, ns, rfl, h1, h2⟩ := oLI_reads rv e
  cases h2
  exact ⟨b, ns, rfl, SqL.of h1, q _ _ (.refl S) (.int _)⟩) ha
theorem j_max (hm : G.mg "max" = none) (ha : J G c π τ a fa) (hg : GlN c "max" := by rfl) (hs : ∀ env, starEach [a] env = (false, eval a env) :: starEach [] env := by intro _; rfl) :
    J G c π true (.Call (.Name "max" p) [a] [] pos) (f1 (oLI fun ns => (maxI ns).map .int) fa) := j_un (cb1_rule (r := rMax G.K) (fun X s => s.opK ▸ cr_max s.calm) hm (by decide +kernel) hg hs (by decide) (by decide)) (fun m ex σ H g v x d Q S rv e q => by
  obtain ⟨b, ns, rfl, h1, h2⟩ := oLI_reads rv e
  cases h : maxI ns with
  | none => rw [h] at h2; cases h2
  | some k =>
    rw [h] at h2
    cases h2
    obtain ⟨k1, k2⟩ := maxI_spec h
    refine ⟨b, ns, rfl, SqL.of h1, List.length_pos_of_mem k1, fun z hz hle => ?_⟩
    have : z = k := Int.le_antisymm (k2 z hz) (hle k k1)
    rw [this]
    exact q _ _ (.refl S) (.int _)) ha
theorem j_min (hm : G.mg "min" = none) (ha : J G c π τ a fa) (hg : GlN c "min" := by rfl) (hs : ∀ env, starEach [a] env = (false, eval a env) :: starEach [] env := by intro _; rfl) :
    J G c π true (.Call (.Name "min" p) [a] [] pos) (f1 (oLI fun ns => (minI ns).map .int) fa) := j_un (cb1_rule (r := rMin G.K) (fun X s => s.opK ▸ cr_min s.calm) hm (by decide +kernel) hg hs (by decide) (by decide)) (fun m ex σ H g v x d Q S rv e q => by
  obtain ⟨b, ns, rfl, h1, h2⟩ := oLI_reads rv e
  cases h : minI ns with
  | none => rw [h] at h2; cases h2
  | some k =>
    rw [h] at h2
    cases h2
    obtain ⟨k1, k2⟩ := minI_spec h
    refine ⟨b, ns, rfl, SqL.of h1, List.length_pos_of_mem k1, fun z hz hle => ?_⟩
    have : z = k := Int.le_antisymm (hle k k1) (k2 z hz)
    rw [this]
    exact q _ _ (.refl S) (.int _)) ha
/-- sorted, of ints -/
def sortI (ns : List Int) : List Int := ns.mergeSort (fun a b => decide (a ≤ b))
theorem sortI_perm (ns : List Int) : (sortI ns).Perm ns := List.mergeSort_perm ns _
theorem sortI_sorted (ns : List Int) : (sortI ns).Pairwise (· ≤ ·) := by
  have := List.pairwise_mergeSort (le := fun a b : Int => decide (a ≤ b)) (fun a b c h1 h2 => by simp at *; omega) (fun a b => by simp; omega) ns
  simpa [sortI] using this
theorem sortI_eq {ns ms : List Int} (h : ms.Perm ns) (s : ms.Pairwise (· ≤ ·)) : ms = sortI ns :=
  List.Perm.eq_of_pairwise (fun a b _ _ h1 h2 => Int.le_antisymm h1 h2) s (sortI_sorted ns) (h.trans (sortI_perm ns).symm)
theorem j_sortI (hm : G.mg "sorted" = none) (ha : J G c π τ a fa) (hg : GlN c "sorted" := by rfl) (hs : ∀ env, starEach [a] env = (false, eval a env) :: starEach [] env := by intro _; rfl) :
    JF G c π (.Call (.Name "sorted" p) [a] [] pos) (f1 (oLI fun ns => some (.list ((sortI ns).map .int))) fa) := j_unF (cb1_rule (r := rSortedI G.K) (fun X s => s.opK ▸ cr_sortedI) hm (by decide +kernel) hg hs (by decide) (by decide)) (fun m ex σ H g v x d Q S rv e q => by
  obtain ⟨b, ns, rfl, h1, h2⟩ := oLI_reads rv e
  cases h2
  refine ⟨b, ns, rfl, SqL.of h1, fun ns' p h3 h4 np => ?_⟩
  have := sortI_eq h3 h4
  subst this
  exact q p _ (.laid S np) (PoF.ow S np (RpL.ofInts _))) ha
def oLB (k : List Bool → Bool) : D → Option D
  | .list xs => (boolsOf xs).map fun bs => .bool (k bs)
  | _ => none
theorem oLB_reads {K : PySem.W.Frag} {m : Mp} {ex : Addr → Prop} {H : Hp} {τ : Bool} {v : V} {x d : D} {k : List Bool → Bool} (rv : Rt K τ (hid (Hd m ex) H) H v x) (e : oLB k x = some d) : ∃ a ns, v = .ref a ∧ H a = some (.lst (ns.map V.bl)) ∧ d = .bool (k ns) := by
  unfold oLB at e
  split at e
  · rename_i xs
    obtain ⟨a, vs, rfl, h1, r1⟩ := rv.lst hid_sub
    cases h : boolsOf xs with
    | none => rw [h] at e; cases e
    | some ns =>
      rw [h] at e
      rw [of_boolsOf h] at r1
      rw [r1.bools] at h1
      cases e
      exact ⟨a, ns, rfl, h1, rfl⟩
  · cases e
theorem j_any (hm : G.mg "any" = none) (ha : J G c π τ a fa) (hg : GlN c "any" := by rfl) (hs : ∀ env, starEach [a] env = (false, eval a env) :: starEach [] env := by intro _; rfl) :
    J G c π true (.Call (.Name "any" p) [a] [] pos) (f1 (oLB fun bs => bs.any _root_.id) fa) := j_un (cb1_rule (r := rAny G.K) (fun X s => s.opK ▸ cr_any s.calm) hm (by decide +kernel) hg hs (by decide) (by decide)) (fun m ex σ H g v x d Q S rv e q => by
  obtain ⟨b, ns, rfl, h1, rfl⟩ := oLB_reads rv e
  exact ⟨b, ns, rfl, SqL.of h1, q _ _ (.refl S) (.bl _)⟩) ha
theorem j_all (hm : G.mg "all" = none) (ha : J G c π τ a fa) (hg : GlN c "all" := by rfl) (hs : ∀ env, starEach [a] env = (false, eval a env) :: starEach [] env := by intro _; rfl) :
    J G c π true (.Call (.Name "all" p) [a] [] pos) (f1 (oLB fun bs => bs.all _root_.id) fa) := j_un (cb1_rule (r := rAll G.K) (fun X s => s.opK ▸ cr_all s.calm) hm (by decide +kernel) hg hs (by decide) (by decide)) (fun m ex σ H g v x d Q S rv e q => by
  obtain ⟨b, ns, rfl, h1, rfl⟩ := oLB_reads rv e
  exact ⟨b, ns, rfl, SqL.of h1, q _ _ (.refl S) (.bl _)⟩) ha
/-! ### isinstance -/
def tyN : D → String
  | .none => "NoneType"
  | .bool _ => "bool"
  | .int _ => "int"
  | .str _ => "str"
  | .list _ => "list"
  | .tuple _ => "tuple"
  | .dict _ => "dict"
def isiB (T : String) (d : D) : Bool := tyN d == T || (T == "int" && tyN d == "bool")
theorem tyX_of {K : PySem.W.Frag} {G' H : Hp} {τ : Bool} {v : V} {d : D} (gr : Grow G' H) (hn : scrD d = false) (r : Rt K τ G' H v d) : TyX K H v (.type (tyN d)) := by
  cases d with
  | none => rw [r.non]; exact .base .non
  | bool b => rw [r.bl]; exact .base (.bl b)
  | int b => rw [r.int]; exact .base (.int b)
  | str b => rw [r.str]; exact .base (.str b)
  | list ds => obtain ⟨a, vs, rfl, h1, _⟩ := r.lst gr; exact .base (.lst h1)
  | tuple ds =>
    obtain ⟨a, vs, rfl, h1, _⟩ := r.tup gr
    rcases h1 with (h1 | ⟨o, h1⟩) | ⟨o, its, n, h1, h2, _⟩
    · exact .base (.tup h1)
    · exact .fTuple h1
    · exact .kTuple h1 h2
  | dict ds =>
    obtain ⟨a, vs, rfl, h1, _⟩ := r.dic' gr hn
    rcases h1 with h1 | ⟨o, h1⟩
    · exact .base (.dK h1)
    · exact .fDict h1
theorem kit_tab : ∀ t ∈ ["NoneType", "bool", "int", "str", "list", "tuple", "dict"], ∀ T ∈ ["int", "bool", "str", "tuple", "list"], kitB t T = some (t == T || (T == "int" && t == "bool")) := by decide +kernel
theorem kit_isi {K : PySem.W.Frag} {T : String} (h : T ∈ ["int", "bool", "str", "tuple", "list"]) (d : D) : PySem.W.kitOne K (.type (tyN d)) (.type T) = some (isiB T d) := by
  refine kit_ty (kit_tab (tyN d) ?_ T h)
  cases d <;> simp [tyN]
def oIsi (T : String) (x : D) : Option D := if scrD x = true then none else some (.bool (isiB T x))
theorem j_isi (T : String) {tn : Str} (hm : G.mg "isinstance" = none) (hmt : G.mg tn = none) (hT : T ∈ ["int", "bool", "str", "tuple", "list"]) (hvt : bootBuiltins tn = some (.type T)) (ha : J G c π τ a fa)
    (hg : GlN c "isinstance" := by rfl) (hgt : GlN c tn := by rfl) (hs : ∀ env, starEach [a, .Name tn q2] env = (false, eval a env) :: starEach [.Name tn q2] env := by intro _; rfl) (hn : tn ≠ "__name__" := by decide) (hd : (tn == ("__debug__" : Str)) = false := by decide) :
    J G c π true (.Call (.Name "isinstance" p) [a, .Name tn q2] [] pos) (f1 (oIsi T) fa) := j_un (r := fun v H Q => rIsi G.K [v, .ty T] H Q) (fun X s _ h =>
      pe_callB (t := tCons _ (tCons (tC (.ty T)) tNil)) (s.opK ▸ call_isi) (s.gl hg) (s.mgN hm) PyProof.Rows.boot_isinstance (pa_cons h (pa_cons (pe_bltn (v := .ty T) (s.gl hgt) (s.mgN hmt) hvt rfl hn hd) pa_nil (by rfl)) (hs _)) (by decide) (by decide) (hs _) (by rfl))
    (fun m ex σ H g v x d Q S rv e q => by
      unfold oIsi at e
      split at e
      · cases e
      · rename_i hx
        cases e
        exact ⟨v, .ty T, _, .type T, isiB T x, rfl, .ty T, tyX_of hid_sub (by simpa using hx) rv, kit_isi hT x, q _ _ (.refl S) (.bl _)⟩) ha
/-! ### repr -/
def rRepr (K : PySem.W.Frag) : List V → Hp → VK → Prop := fun xs H Q => ∃ v d, xs = [v] ∧ Dp K H v d ∧ SeqAt.shaped d = true ∧ d.showable = true ∧ d.shown.length ≤ sizeLine ∧ Q (.str d.shown) H
theorem call_reprD {X : Cx} (s : SX G c X) : CallR X (.builtin "repr") (rRepr X.K) := by
  intro pins st σ H xs us Q I r h
  obtain ⟨v, d, rfl, hd, hs, hw, hz, q⟩ := h
  obtain ⟨u, rfl, ru⟩ := vals1 r
  obtain ⟨as, rd⟩ := Dp.reads I d v u hd ru
  have hl := SeqAt.canLay_of_shaped hs
  have h64 := SeqAt.depth_of_shaped hs
  have hu := s.units65
  have ref : ∀ {b : Addr}, u = .ref b → wpAny (model X.prog X.w) X.A (call (.builtin "repr") [u]) (EP X pins σ Q) X.xe st := fun {b} e => by
    subst e
    exact PySem.repr_of_reads' rd hw (PyData.noDict_hsm (PyData.hasDict_of_canLay d hl)) s.grd (by omega) (fun _ _ z => z) (fun h' t tk hk => ⟨.str _, H, I.kept (h' := h') (t' := tk) hk, ⟨t, rfl⟩, q⟩) hz
  cases hd with
  | non => cases ru; exact PySem.P.repr_of_none ⟨.str _, H, I.tok _, ⟨_, rfl⟩, q⟩
  | bl b => cases ru; exact PySem.P.repr_of_bool ⟨.str _, H, I.tok _, ⟨_, rfl⟩, q⟩
  | int i =>
    obtain ⟨t, rfl⟩ := ru
    exact PySem.P.repr_of_int (by simpa [PyData.showable] using hw) ⟨.str _, H, I.tok _, ⟨_, rfl⟩, q⟩
  | str y =>
    obtain ⟨t, rfl⟩ := ru
    exact PySem.P.repr_of_str ⟨.str _, H, I.tok _, ⟨_, rfl⟩, q⟩ hz
  | lst h1 h2 => exact ref ru
  | tup h1 h2 => exact ref ru
def oRepr (x : D) : Option D := if SeqAt.shaped x = true ∧ x.showable = true ∧ x.shown.length ≤ sizeLine then some (.str x.shown) else none
theorem j_repr (hm : G.mg "repr" = none) (ha : J G c π τ a fa) (hg : GlN c "repr" := by rfl) (hs : ∀ env, starEach [a] env = (false, eval a env) :: starEach [] env := by intro _; rfl) :
    J G c π true (.Call (.Name "repr" p) [a] [] pos) (f1 oRepr fa) := j_un (cb1_rule (r := rRepr G.K) (fun X s => s.opK ▸ call_reprD s) hm PyProof.Rows.boot_repr hg hs (by decide) (by decide)) (fun m ex σ H g v x d Q S rv e q => by
  unfold oRepr at e
  split at e
  · rename_i h
    cases e
    exact ⟨v, x, rfl, rv.dp hid_sub h.1, h.1, h.2.1, h.2.2, q _ _ (.refl S) (.str _)⟩
  · cases e) ha

/-! ### slices -/
abbrev So := Sg → Option (Option Int × Sg)
def TFO (K : PySem.W.Frag) (π : Bool) (f : So) : TO := fun σ H Q => ∃ m ex g i g', SR K m ex σ H g ∧ f g = some (i, g') ∧ ∀ H', Po K m ex σ H g π g' H' → Q i H'
def JO (G : Gb) (c : Sx) (π : Bool) (e : Option Expr) (f : So) : Prop := ∀ X, SX G c X → PO X e (TFO G.K π f)
theorem po_weak {X : Cx} {e : Option Expr} {t t' : TO} (h : PO X e t) (w : ∀ σ H Q, t' σ H Q → t σ H Q) : PO X e t' := ⟨fun pins s σ H Q I q => h.run pins s σ H Q I (w σ H Q q)⟩
def sN : So := fun g => some (none, g)
def sE (fa : Sf) : So := fun g => (fa g).bind fun p => match p.1 with
  | .int i => some (some i, p.2)
  | _ => none
theorem jo_none : JO G c true none sN := fun X s => po_weak po_none fun σ H Q ⟨m, ex, g, i, g', S, e, q⟩ => by cases e; exact q _ (.refl S)
theorem jo_some (ha : J G c π τ a fa) : JO G c π (some a) (sE fa) := fun X s => po_weak (po_some (ha X s)) fun σ H Q ⟨m, ex, g, i, g', S, e, q⟩ => by
  unfold sE at e
  cases h1 : fa g with
  | none => simp [h1] at e
  | some y =>
    simp only [h1, Option.bind_some] at e
    split at e
    · rename_i k hy
      cases e
      refine ⟨m, ex, g, y.1, y.2, S, h1, fun v H1 p1 r1 => ?_⟩
      rw [hy] at r1
      exact ⟨k, r1.int, q H1 p1⟩
    · cases e
def cutD (xs : List D) (lo hi : Option Int) : List D := (xs.drop (HT.sIx xs.length 0 lo)).take (HT.sIx xs.length xs.length hi - HT.sIx xs.length 0 lo)
theorem RpL.cut {K : PySem.W.Frag} {H : Hp} {vs : List V} {ds : List D} (r : RpL K H vs ds) (lo hi : Option Int) : RpL K H (cutV vs lo hi) (cutD ds lo hi) := by
  unfold cutV cutD
  rw [r.length]
  exact (r.drop _).take _
def fSl (o : D → Option Int → Option Int → Option D) (fa : Sf) (fl fh : So) : Sf := fun g => (fa g).bind fun p => (fl p.2).bind fun l => (fh l.2).bind fun h => (o p.1 l.1 h.1).map fun d => (d, h.2)
theorem fSl_some {o : D → Option Int → Option Int → Option D} {fl fh : So} {g g' : Sg} {d : D} (e : fSl o fa fl fh g = some (d, g')) : ∃ x g1 l g2 h, fa g = some (x, g1) ∧ fl g1 = some (l, g2) ∧ fh g2 = some (h, g') ∧ o x l h = some d := by
  unfold fSl at e
  cases h1 : fa g with
  | none => simp [h1] at e
  | some y =>
    cases h2 : fl y.2 with
    | none => simp [h1, h2] at e
    | some l =>
      cases h3 : fh l.2 with
      | none => simp [h1, h2, h3] at e
      | some h =>
        cases h4 : o y.1 l.1 h.1 with
        | none => simp [h1, h2, h3, h4] at e
        | some z =>
          simp [h1, h2, h3, h4] at e
          exact ⟨y.1, y.2, l.1, l.2, h.1, rfl, h2, by rw [h3, ← e.2], by rw [h4, e.1]⟩
def oSlT : D → Option Int → Option Int → Option D
  | .tuple xs, lo, hi => some (.tuple (cutD xs lo hi))
  | _, _, _ => none
def oSlL : D → Option Int → Option Int → Option D
  | .list xs, lo, hi => some (.list (cutD xs lo hi))
  | _, _, _ => none
/-- the script is cut, too -/
def oSlS : D → Option Int → Option Int → Option D
  | .dict [(.none, .list xs)], lo, hi => some (.list (cutD xs lo hi))
  | _, _, _ => none
theorem cut_whole {xs : List D} {lo hi : Option Int} (h : HT.sIx xs.length 0 lo = 0 ∧ HT.sIx xs.length xs.length hi = xs.length) : cutD xs lo hi = xs := by
  unfold cutD
  rw [h.1, h.2]
  simp
theorem j_slT {lo hi : Option Expr} {fl fh : So} (ha : J G c π1 true a fa) (hl : JO G c π2 lo fl) (hh : JO G c π3 hi fh) : J G c (π1 && (π2 && π3)) true (.Subscript a (.Slice lo hi none p) pos) (fSl oSlT fa fl fh) := fun X s =>
  pe_weak (pe_slice sl_tupA (ha X s) (hl X s) (hh X s)) fun σ H Q ⟨m, ex, g, d, g', S, e, q⟩ => by
    obtain ⟨x, g1, l, g2, h, e1, e2, e3, e4⟩ := fSl_some e
    refine ⟨m, ex, g, x, g1, S, e1, fun v H1 p1 r1 => ⟨m, ex, g1, l, g2, p1.sr, e2, fun H2 p2 => ⟨m, ex, g2, h, g', p2.sr, e3, fun H3 p3 => ?_⟩⟩⟩
    have pp : Po G.K m ex σ H g (π1 && (π2 && π3)) g' H3 := (p1.trans (p2.trans p3)).weak fun z => z
    have r3 := r1.carry (p2.trans p3) (.inl rfl)
    unfold oSlT at e4
    split at e4
    · rename_i xs
      cases e4
      have rp := r3.tupv
      obtain ⟨b, vs, rfl, h1, rr⟩ := r3.tup hid_sub
      refine ⟨b, vs, rfl, by rw [s.opK]; exact h1, fun hw => ?_, fun hw t nt => ?_⟩
      · rw [rr.length] at hw
        rw [cut_whole hw] at q
        exact q _ _ pp (.of rp)
      · exact q _ _ ((pp.trans (Po.new (π := true) p3.sr nt)).weak (by simp)) (.of (rp_new_tup p3.sr nt (rr.cut _ _)))
    · cases e4
theorem j_slL {lo hi : Option Expr} {fl fh : So} (ha : J G c π1 τ a fa) (hl : JO G c π2 lo fl) (hh : JO G c π3 hi fh) (hm : τ = true ∨ (π2 && π3) = true := by first | exact .inl rfl | exact .inr rfl) : JF G c (π1 && (π2 && π3)) (.Subscript a (.Slice lo hi none p) pos) (fSl oSlL fa fl fh) := fun X s =>
  pe_weak (pe_slice sl_list (ha X s) (hl X s) (hh X s)) fun σ H Q ⟨m, ex, g, d, g', S, e, q⟩ => by
    obtain ⟨x, g1, l, g2, h, e1, e2, e3, e4⟩ := fSl_some e
    refine ⟨m, ex, g, x, g1, S, e1, fun v H1 p1 r1 => ⟨m, ex, g1, l, g2, p1.sr, e2, fun H2 p2 => ⟨m, ex, g2, h, g', p2.sr, e3, fun H3 p3 => ?_⟩⟩⟩
    have pp : Po G.K m ex σ H g (π1 && (π2 && π3)) g' H3 := (p1.trans (p2.trans p3)).weak fun z => z
    have r3 := r1.carry (p2.trans p3) hm
    unfold oSlL at e4
    split at e4
    · rename_i xs
      cases e4
      obtain ⟨b, vs, rfl, h1, rr⟩ := r3.lst hid_sub
      exact ⟨b, vs, rfl, SqL.of h1, fun t nt => q t _ (by have z := PoF.after pp (PoF.laid (π := true) (o := .lst (cutV vs l h)) p3.sr nt); rwa [Bool.and_true] at z) (PoF.ow p3.sr nt (rr.cut _ _))⟩
    · cases e4
theorem j_slS {lo hi : Option Expr} {fl fh : So} (ha : J G c π1 true a fa) (hl : JO G c π2 lo fl) (hh : JO G c π3 hi fh) : JF G c (π1 && (π2 && π3)) (.Subscript a (.Slice lo hi none p) pos) (fSl oSlS fa fl fh) := fun X s =>
  pe_weak (pe_slice sl_list (ha X s) (hl X s) (hh X s)) fun σ H Q ⟨m, ex, g, d, g', S, e, q⟩ => by
    obtain ⟨x, g1, l, g2, h, e1, e2, e3, e4⟩ := fSl_some e
    refine ⟨m, ex, g, x, g1, S, e1, fun v H1 p1 r1 => ⟨m, ex, g1, l, g2, p1.sr, e2, fun H2 p2 => ⟨m, ex, g2, h, g', p2.sr, e3, fun H3 p3 => ?_⟩⟩⟩
    have pp : Po G.K m ex σ H g (π1 && (π2 && π3)) g' H3 := (p1.trans (p2.trans p3)).weak fun z => z
    have r3 := (r1.carry (p2.trans p3) (.inl rfl)).strong
    unfold oSlS at e4
    split at e4
    · rename_i xs
      cases e4
      generalize hk : (PyData.dict [(PyData.none, PyData.list xs)]) = dd at r3
      cases r3 with
      | dic h1 r1 =>
        injection hk with hk
        subst hk
        exact r1.nonone.elim
      | @scr b ns h1 =>
        injection hk with hk
        injection hk with hk _
        injection hk with _ hk
        injection hk with hk
        subst hk
        have rr : RpL G.K (hid (Hd m ex) H3) (ns.map V.int) (ns.map PyData.int) := .ofInts ns
        exact ⟨b, _, rfl, by rw [s.opK]; exact (hid_sub (P := Hd m ex)).ext.sqL h1, fun t nt => q t _ (by have z := PoF.after pp (PoF.laid (π := true) (o := .lst (cutV (ns.map V.int) l h)) p3.sr nt); rwa [Bool.and_true] at z) (PoF.ow p3.sr nt (rr.cut _ _))⟩
      | _ => cases hk
    · cases e4
end
end EV

set_option Elab.async false
set_option linter.all false
set_option maxRecDepth 100000
/-! EVz: enumerate and zip over lists and tuples in any mix, for the hand layer's loops. -/
namespace EV
open PySem PySem.Spec L2

/-! ### enumerate(v) begins -/
set_option maxHeartbeats 1000000 in
theorem meets_enum1 {v : Value} {o : Obj} {B0 : Heap → Prop} (B : Begins v o B0) :
    Meets (Builtin.«enumerate.__new__» ⟨[.type "enumerate", v], []⟩) (fun _ R s => B0 s.heap ∧
      R (.ok (.ret (.ref (s.heap.push o).objs.size))) { s with heap := (s.heap.push o).push { cls := .type "enumerate", data := .fields #[.none, .bool false, .ref s.heap.objs.size, rawInt 0, .none, .none] } }) :=
  .of_wp fun prog w A R s h => by
    obtain ⟨hp, gg, dd, tk, os⟩ := s
    obtain ⟨h1, h⟩ := h
    have hsub := sub_enumerate
    have it : ∀ {A' : Around} {E : Value → Shared → Prop} {Q : Value → Shared → Prop}, Q (.ref hp.objs.size) ⟨hp.push o, gg, dd, tk, os⟩ → wpAny (model prog w) A' (pyIter v) Q E ⟨hp, gg, dd, tk, os⟩ :=
      fun q => B.iter prog w _ _ ⟨hp, gg, dd, tk, os⟩ _ h1 q
    wp_walk using it
    refine wpAny_stack_any fun st => wpAny_pure ?_
    split
    · rename_i cc _ _ _ _ _
      cases (cc == Value.type "enumerate")
      · wp_walk using it
        exact ⟨_, rfl, h⟩
      · wp_walk using it
        exact ⟨_, rfl, h⟩
    · wp_walk using it
      exact ⟨_, rfl, h⟩
theorem call_enum1 {prog : Program} {w : World} {A : Around} {E : Value → Shared → Prop} {s : Shared} {v : Value} {o : Obj} {B0 : Heap → Prop} {Q : Value → Shared → Prop} (B : Begins v o B0) (h1 : B0 s.heap)
    (h : ∀ h', IsEnum h' (s.heap.objs.size + 1) s.heap.objs.size 0 .none → h'.get? s.heap.objs.size = some o → (∀ b u, s.heap.get? b = some u → h'.get? b = some u) → Q (.ref (s.heap.objs.size + 1)) { s with heap := h' }) :
    wpAny (model prog w) A (call (.type "enumerate") [v]) Q E s := by
  refine callType_new F.called_enumerate (by decide) (F.typeCall_enumerate_1 _) (F.newCall_enumerate_1 _) (fun obj => F.args_object_init_2 obj _) F.entry_enumerate_new (meets_enum1 B) ⟨h1, ?_⟩
  have hz : (s.heap.push o).objs.size = s.heap.objs.size + 1 := Heap.size_push ..
  show _ ∧ _
  rw [hz]
  have he : IsEnum ((s.heap.push o).push { cls := .type "enumerate", data := .fields #[.none, .bool false, .ref s.heap.objs.size, rawInt 0, .none, .none] }) (s.heap.objs.size + 1) s.heap.objs.size 0 .none := by
    have e := Heap.get?_push_size (s.heap.push o) (o := { cls := .type "enumerate", data := .fields #[.none, .bool false, .ref s.heap.objs.size, rawInt 0, .none, .none] }) rfl
    rw [hz] at e
    exact e
  exact ⟨⟨_, he, rfl⟩, h _ he (Heap.get?_push_of_some _ (Heap.get?_push_size _ B.free)) fun b u x => Heap.get?_push_of_some _ (Heap.get?_push_of_some _ x)⟩

/-! ### a list or a tuple (k) that is walked -/
def SqK (K : PySem.W.Frag) (k : Bool) (H : Hp) (a : Addr) (xs : List V) : Prop := if k = true then SqT K H a xs else SqL K H a xs
def IsK (k : Bool) (h : Heap) (a : Addr) (its : Array Value) : Prop := if k = true then h.IsTuple a its else h.IsList a its
def ItK (k : Bool) (h : Heap) (it a : Addr) (i : Nat) : Prop := if k = true then h.IsTupleIter it a i else h.IsListIter it a i
def itO (k : Bool) (a : Addr) : Obj := if k = true then { cls := .type "tuple_iterator", data := .fields #[.ref a, .int 0 0] } else { cls := .type "list_iterator", data := .fields #[.ref a, .int 0 0] }
theorem beginsK (k : Bool) (a : Addr) (its : Array Value) : Begins (.ref a) (itO k a) fun h => IsK k h a its := by
  cases k
  · exact begins_list a its
  · exact begins_tuple a its
theorem itO_at {k : Bool} {h : Heap} {it a : Addr} (e : h.get? it = some (itO k a)) : ItK k h it a 0 := by
  cases k
  · exact ⟨_, e, rfl, rfl⟩
  · exact ⟨_, e, rfl, rfl⟩
theorem drawsK {prog : Program} {w : World} {A : Around} (k : Bool) (hh : A.handled = none) (it a : Addr) (hne : a ≠ it) (its : Array Value) : Draws prog w A it [it, a] its.size (fun i v => its[i]? = some v) (fun i h => ItK k h it a i ∧ IsK k h a its) := by
  cases k
  · exact Draws.list hh it a hne its
  · exact Draws.tuple hh it a hne its
theorem ItK.at {k : Bool} {h h' : Heap} {it a : Addr} {i : Nat} (s : ItK k h it a i) (e : ∀ o, h.get? it = some o → h'.get? it = some o) : ItK k h' it a i := by
  cases k
  · exact Heap.IsListIter.at (show h.IsListIter it a i from s) e
  · exact Heap.IsTupleIter.at (show h.IsTupleIter it a i from s) e
theorem ItK.obj {k : Bool} {h : Heap} {it a : Addr} {i : Nat} (s : ItK k h it a i) : ∃ o, h.get? it = some o ∧ ∀ v, o.data ≠ .cell v := by
  cases k
  · obtain ⟨o, e, _, d⟩ := (show h.IsListIter it a i from s)
    exact ⟨o, e, fun v z => by rw [d] at z; cases z⟩
  · obtain ⟨o, e, _, d⟩ := (show h.IsTupleIter it a i from s)
    exact ⟨o, e, fun v z => by rw [d] at z; cases z⟩
section
variable {X : Cx} {pins : List (Addr × Obj)} {σ : L2.St} {H : Hp} {s : Shared}
theorem SqK.reads {k : Bool} {a : Addr} {xs : List V} (I : Inv X pins σ H s) (h : SqK X.K k H a xs) : ∃ its : List Value, Vals xs its ∧ IsK k s.heap a its.toArray := by
  cases k
  · obtain ⟨its, r, p, _⟩ := I.list (show SqL X.K H a xs from h)
    exact ⟨its, r, p.isList⟩
  · obtain ⟨its, r, p, _⟩ := I.tuple (show SqT X.K H a xs from h)
    exact ⟨its, r, p⟩
theorem SqK.inj {k : Bool} {a : Addr} {xs ys : List V} (I : Inv X pins σ H s) (h : SqK X.K k H a xs) (h' : SqK X.K k H a ys) : xs = ys := by
  cases k
  · exact I.list_inj h h'
  · exact I.tuple_inj h h'
theorem IsK.lt {k : Bool} {h : Heap} {a : Addr} {its : Array Value} (x : IsK k h a its) : a < h.objs.size := by
  cases k
  · obtain ⟨o, e, _⟩ := (show h.IsList a its from x); exact Heap.lt_size e
  · obtain ⟨o, e, _⟩ := (show h.IsTuple a its from x); exact Heap.lt_size e
end

/-- the turns of enumerate -/
def IteK (K : PySem.W.Frag) (k : Bool) (a : Addr) : L2.It :=
  ⟨fun i H => ∃ (xs : List V) (x : V), SqK K k H a xs ∧ xs[i]? = some x, fun i H v H' => ∃ T x, v = .ref T ∧ H T = none ∧ H' = upd H T (.tup [.int (i : Nat), x]) ∧ ∀ xs, SqK K k H a xs → xs[i]? = some x, fun i H => ∃ xs : List V, SqK K k H a xs ∧ xs.length = i⟩
def ItzK (K : PySem.W.Frag) (k1 k2 : Bool) (a b : Addr) : L2.It :=
  ⟨fun i H => ∃ (xs ys : List V) (x y : V), SqK K k1 H a xs ∧ SqK K k2 H b ys ∧ xs[i]? = some x ∧ ys[i]? = some y,
    fun i H v H' => ∃ T x y, v = .ref T ∧ H T = none ∧ H' = upd H T (.tup [x, y]) ∧ (∀ xs, SqK K k1 H a xs → xs[i]? = some x) ∧ ∀ ys, SqK K k2 H b ys → ys[i]? = some y,
    fun i H => ∃ xs ys : List V, SqK K k1 H a xs ∧ SqK K k2 H b ys ∧ min xs.length ys.length = i⟩
theorem new_pair {P : Program} {w : World} {H : Hp} {h : Heap} {T : Addr} {x y : V} {u v : Value} (e : h.IsTuple T #[u, v]) (r1 : RelV x u) (r2 : RelV y v) : ObjOk P w H h T (.tup [x, y]) :=
  ⟨by show 2 ≤ sizeLine; decide, [u, v], .cons r1 (.cons r2 .nil), e⟩
theorem turn_enumK {P : Program} {w : World} {K : PySem.W.Frag} {k : Bool} {elts : List Expr} {kk : Nat} {tpos : Pos} {a e it : Addr} (hei : e ≠ it) (hea : e ≠ a) (hia : a ≠ it) :
    Turn P w K (.Tuple elts kk tpos) (IteK K k a) [e, it] e (fun i h => (∃ old, IsEnum h e it ((i : Nat) : Int) old) ∧ ItK k h it a i) where
  mem := by simp
  obj := fun i h st b hb => by
    obtain ⟨⟨old, he⟩, hi⟩ := st
    have e' : b = e ∨ b = it := by simpa using hb
    rcases e' with z | z
    · rw [z]; exact ⟨_, he, fun v q => nomatch q⟩
    · rw [z]; exact hi.obj
  keep := fun i h h' st kp => by
    obtain ⟨⟨old, he⟩, hi⟩ := st
    exact ⟨⟨old, kp e (by simp) _ he⟩, hi.at fun o z => kp it (by simp) o z⟩
  item := by
    intro X hP hw hK hc i pins s σ H E I hf st hg
    subst hP hw hK
    obtain ⟨⟨old, he⟩, hi⟩ := st
    obtain ⟨xs, x, hq, hx⟩ := hg
    obtain ⟨its, rv, p⟩ := hq.reads I
    obtain ⟨u, hu, ru⟩ := rv.get hx
    have D := drawsK (prog := X.prog) (w := X.w) (A := X.A.in1) k (I.ok.hd hc) it a hia its.toArray
    have G := GoesN.enumFrom (elts := elts) (x1 := kk) (pos := tpos) 0 D e hei (by simp [hei, hea]) (by simp)
    have hlt : i < its.toArray.size := by
      have := (List.getElem?_eq_some_iff.mp hu).1
      simpa using this
    refine G.goes i s _ E hlt ⟨⟨old, by rw [Int.zero_add]; exact he⟩, hi, p⟩ fun v h' tk hY st' hk htk => ?_
    obtain ⟨T, t, y, rfl, hnew, hy, hT⟩ := hY
    obtain ⟨⟨old', he'⟩, hi', _⟩ := st'
    have hy' : y = u := by
      have e1 : its[i]? = some y := by simpa using hy
      rw [hu] at e1; exact (Option.some.inj e1).symm
    subst hy'
    rw [Int.zero_add] at hT
    have nT : H T = none := I.hok.fresh hnew
    have I1 := I.turnedNew (t' := tk) (ch := [e, it]) (fun b o hb z => hk b o hb z) hf hnew (new_pair (x := .int (i : Nat)) (y := x) hT ⟨t, rfl⟩ ru)
    refine ⟨.ref T, _, I1, rfl, ⟨T, x, rfl, nT, rfl, fun ys hys => by rw [hys.inj I hq]; exact hx⟩, ⟨⟨old', by rw [Int.zero_add] at he'; exact he'⟩, hi'⟩, fun b hb => ?_⟩
    have hlt' : b < s.heap.objs.size := by
      have e' : b = e ∨ b = it := by simpa using hb
      rcases e' with z | z
      · rw [z]; exact Heap.lt_size he
      · rw [z]; obtain ⟨o, ho, _⟩ := hi.obj; exact Heap.lt_size ho
    rw [upd_ne (Nat.ne_of_lt (Nat.lt_of_lt_of_le hlt' hnew))]
    exact (hf b hb).1
  done := by
    intro X hP hw hK hc i pins s σ H E I hf st hg
    subst hP hw hK
    obtain ⟨⟨old, he⟩, hi⟩ := st
    obtain ⟨xs, hq, hx⟩ := hg
    obtain ⟨its, rv, p⟩ := hq.reads I
    have D := drawsK (prog := X.prog) (w := X.w) (A := X.A.in1) k (I.ok.hd hc) it a hia its.toArray
    have G := GoesN.enumFrom (elts := elts) (x1 := kk) (pos := tpos) 0 D e hei (by simp [hei, hea]) (by simp)
    have hn : its.toArray.size = i := by rw [List.size_toArray, ← rv.length, hx]
    exact G.stops s (fun s1 => Inv X pins σ H s1) E (by rw [hn]; exact ⟨⟨old, by rw [Int.zero_add]; exact he⟩, hi, p⟩) fun h' tk hk htk => I.turnedL (t' := tk) (ch := [e, it]) (fun b o hb z => hk b o hb z) hf
  self := fun A i s Q E st h => let ⟨⟨_, he⟩, _⟩ := st; wpAny_pyIter_enum he h
theorem turn_zipK {P : Program} {w : World} {K : PySem.W.Frag} {k1 k2 : Bool} {elts : List Expr} {kk : Nat} {tpos : Pos} {a b z TI TO i1 i2 : Addr} (S : ZipSep2 z TI TO i1 i2 [i1, a] [i2, b]) (h1a : a ≠ i1) (h2b : b ≠ i2) :
    Turn P w K (.Tuple elts kk tpos) (ItzK K k1 k2 a b) [z, TI, TO, i1, i2] z (fun i h => IsZip h z TI TO .none ∧ IsTupOf2 h TI (.ref i1) (.ref i2) ∧ (∃ x y, IsTupOf2 h TO x y) ∧ ItK k1 h i1 a i ∧ ItK k2 h i2 b i) where
  mem := by simp
  obj := fun i h st c hc => by
    obtain ⟨hz, hTI, ⟨x, y, hTO⟩, q1, q2⟩ := st
    have e' : c = z ∨ c = TI ∨ c = TO ∨ c = i1 ∨ c = i2 := by simpa using hc
    rcases e' with q | q | q | q | q
    · rw [q]; exact ⟨_, hz, fun v q => nomatch q⟩
    · rw [q]; exact ⟨_, hTI, fun v q => nomatch q⟩
    · rw [q]; exact ⟨_, hTO, fun v q => nomatch q⟩
    · rw [q]; exact q1.obj
    · rw [q]; exact q2.obj
  keep := fun i h h' st kp => by
    obtain ⟨hz, hTI, ⟨x, y, hTO⟩, q1, q2⟩ := st
    exact ⟨kp z (by simp) _ hz, kp TI (by simp) _ hTI, ⟨x, y, kp TO (by simp) _ hTO⟩, q1.at fun o q => kp i1 (by simp) o q, q2.at fun o q => kp i2 (by simp) o q⟩
  item := by
    intro X hP hw hK hc i pins s σ H E I hf st hg
    subst hP hw hK
    obtain ⟨hz, hTI, ⟨x0, y0, hTO⟩, q1, q2⟩ := st
    obtain ⟨xs, ys, x, y, hqx, hqy, hx, hy⟩ := hg
    obtain ⟨its, rv, p⟩ := hqx.reads I
    obtain ⟨its2, rv2, p2⟩ := hqy.reads I
    obtain ⟨u, hu, ru⟩ := rv.get hx
    obtain ⟨u2, hu2, ru2⟩ := rv2.get hy
    have D1 := drawsK (prog := X.prog) (w := X.w) (A := X.A.in1) k1 (I.ok.hd hc) i1 a h1a its.toArray
    have D2 := drawsK (prog := X.prog) (w := X.w) (A := X.A.in1) k2 (I.ok.hd hc) i2 b h2b its2.toArray
    have G := GoesN.zip2 (elts := elts) (x1 := kk) (pos := tpos) S D1 D2
    have l1 : i < its.length := (List.getElem?_eq_some_iff.mp hu).1
    have l2 : i < its2.length := (List.getElem?_eq_some_iff.mp hu2).1
    refine G.goes i s _ E (by rw [List.size_toArray, List.size_toArray]; omega) ⟨hz, hTI, ⟨x0, y0, hTO⟩, ⟨q1, p⟩, q2, p2⟩ fun v h' tk hY st' hk htk => ?_
    obtain ⟨T, v1, v2, rfl, hnew, hv1, hv2, hT⟩ := hY
    obtain ⟨hz', hTI', hTO', ⟨q1', _⟩, q2', _⟩ := st'
    have e1 : v1 = u := by
      have z : its[i]? = some v1 := by simpa using hv1
      rw [hu] at z; exact (Option.some.inj z).symm
    have e2 : v2 = u2 := by
      have z : its2[i]? = some v2 := by simpa using hv2
      rw [hu2] at z; exact (Option.some.inj z).symm
    subst e1 e2
    have nT : H T = none := I.hok.fresh hnew
    have I1 := I.turnedNew (t' := tk) (ch := [z, TI, TO, i1, i2]) (fun c o hb q => hk c o (fun m => hb (by
      have m' : c = z ∨ c = TO ∨ c = i1 ∨ c = i2 := by simpa using m
      rcases m' with m' | m' | m' | m' <;> simp [m'])) q) hf hnew (new_pair (x := x) (y := y) hT ru ru2)
    refine ⟨.ref T, _, I1, rfl, ⟨T, x, y, rfl, nT, rfl, fun zs hzs => by rw [hzs.inj I hqx]; exact hx, fun zs hzs => by rw [hzs.inj I hqy]; exact hy⟩, ⟨hz', hTI', hTO', q1', q2'⟩, fun c hcm => ?_⟩
    have hlt' : c < s.heap.objs.size := by
      have e' : c = z ∨ c = TI ∨ c = TO ∨ c = i1 ∨ c = i2 := by simpa using hcm
      rcases e' with q | q | q | q | q
      · rw [q]; exact Heap.lt_size hz
      · rw [q]; exact Heap.lt_size hTI
      · rw [q]; exact Heap.lt_size hTO
      · rw [q]; obtain ⟨o, ho, _⟩ := q1.obj; exact Heap.lt_size ho
      · rw [q]; obtain ⟨o, ho, _⟩ := q2.obj; exact Heap.lt_size ho
    rw [upd_ne (Nat.ne_of_lt (Nat.lt_of_lt_of_le hlt' hnew))]
    exact (hf c hcm).1
  done := by
    intro X hP hw hK hc i pins s σ H E I hf st hg
    subst hP hw hK
    obtain ⟨hz, hTI, ⟨x0, y0, hTO⟩, q1, q2⟩ := st
    obtain ⟨xs, ys, hqx, hqy, hend⟩ := hg
    obtain ⟨its, rv, p⟩ := hqx.reads I
    obtain ⟨its2, rv2, p2⟩ := hqy.reads I
    have D1 := drawsK (prog := X.prog) (w := X.w) (A := X.A.in1) k1 (I.ok.hd hc) i1 a h1a its.toArray
    have D2 := drawsK (prog := X.prog) (w := X.w) (A := X.A.in1) k2 (I.ok.hd hc) i2 b h2b its2.toArray
    have G := GoesN.zip2 (elts := elts) (x1 := kk) (pos := tpos) S D1 D2
    have hn : min its.toArray.size its2.toArray.size = i := by rw [List.size_toArray, List.size_toArray, ← rv.length, ← rv2.length, hend]
    exact G.stops s (fun s1 => Inv X pins σ H s1) E (by rw [hn]; exact ⟨hz, hTI, ⟨x0, y0, hTO⟩, ⟨q1, p⟩, q2, p2⟩) fun h' tk hk htk => I.turnedL (t' := tk) (ch := [z, TI, TO, i1, i2]) (fun c o hb q => hk c o (fun m => hb (by
      have m' : c = z ∨ c = TO ∨ c = i1 ∨ c = i2 := by simpa using m
      rcases m' with m' | m' | m' | m' <;> simp [m'])) q) hf
  self := fun A i s Q E st h => wpAny_pyIter_zip st.1 h

/-! ### the loops' heads -/
def iEnumK (K : PySem.W.Frag) (ta : TE) : TI := fun σ H R => ta σ H fun v H1 => ∃ a k xs, [v] = [V.ref a] ∧ SqK K k H1 a xs ∧ R (IteK K k a) H1
theorem vals_one {x : V} {us : List Value} (r : Vals [x] us) : ∃ u, us = [u] ∧ RelV x u := by
  cases r with
  | cons r rr => cases rr; exact ⟨_, rfl, r⟩
theorem pi_enumK {X : Cx} {e : Expr} {ta : TE} {p pos tpos : Pos} {elts : List Expr} {kk : Nat} (hg : Gl X "enumerate") (hm : X.mg "enumerate" = none) (ha : PE X e ta) (hs : starEach [e] X.env = (false, eval e X.env) :: starEach [] X.env) :
    PI X (.Tuple elts kk tpos) (.Call (.Name "enumerate" p) [e] [] pos) (iEnumK X.K ta) := by
  refine ⟨fun pins s σ H R I h => ?_⟩
  refine PyProof.Rows.Call_ (ld_blt I hg hm PyProof.Rows.boot_enumerate (PyProof.Rows.callWith_type1 (thn ((pa_cons ha pa_nil hs).run pos pins s σ H (fun vs H1 => ∃ a k xs, vs = [.ref a] ∧ SqK X.K k H1 a xs ∧ R (IteK X.K k a) H1) I ?_) fun us s1 ⟨vs, H1, I1, r1, q1⟩ => ?_) hs rfl))
  · exact h
  · obtain ⟨a, k, xs, rfl, hq, q⟩ := q1
    obtain ⟨u, rfl, ru⟩ := vals_one r1
    cases ru
    obtain ⟨its, rv, p'⟩ := hq.reads I1
    have lt := p'.lt
    refine call_enum1 (beginsK k a its.toArray) p' fun h' he hit hk => wpAny_pyIter_enum he ?_
    have I2 : Inv X pins σ H1 { s1 with heap := h' } := I1.kept (t' := s1.toks) hk
    refine ⟨s1.heap.objs.size + 1, [s1.heap.objs.size + 1, s1.heap.objs.size], _, _, H1, rfl, I2, turn_enumK (Nat.succ_ne_self _) (Nat.ne_of_gt (Nat.lt_succ_of_lt lt)) (Nat.ne_of_lt lt), ⟨⟨.none, he⟩, itO_at hit⟩, fun b hb => ?_, q⟩
    have e' : b = s1.heap.objs.size + 1 ∨ b = s1.heap.objs.size := by simpa using hb
    have hle : s1.heap.objs.size ≤ b := by
      rcases e' with z | z
      · rw [z]; exact Nat.le_add_right _ _
      · rw [z]; exact Nat.le_refl _
    exact I1.fpOk hle (I1.hok.fresh hle)
def iZipK (K : PySem.W.Frag) (ta : TA) : TI := fun σ H R => ta σ H fun vs H1 => ∃ a b k1 k2 xs ys, vs = [.ref a, .ref b] ∧ SqK K k1 H1 a xs ∧ SqK K k2 H1 b ys ∧ R (ItzK K k1 k2 a b) H1
theorem vals_two {x y : V} {us : List Value} (r : Vals [x, y] us) : ∃ u w, us = [u, w] ∧ RelV x u ∧ RelV y w := by
  cases r with
  | cons r rr =>
    cases rr with
    | cons r' rr => cases rr; exact ⟨_, _, rfl, r, r'⟩
theorem pi_zipK {X : Cx} {e e2 : Expr} {ta : TA} {p pos tpos : Pos} {elts : List Expr} {kk : Nat} (hg : Gl X "zip") (hm : X.mg "zip" = none) (ha : PA X [e, e2] ta)
    (hs : starEach [e, e2] X.env = (false, eval e X.env) :: starEach [e2] X.env) (hpl : (backTo pos (starEach [e2] X.env)).any (·.1) = false) :
    PI X (.Tuple elts kk tpos) (.Call (.Name "zip" p) [e, e2] [] pos) (iZipK X.K ta) := by
  refine ⟨fun pins s σ H R I h => ?_⟩
  refine PyProof.Rows.Call_ (ld_blt I hg hm PyProof.Rows.boot_zip (PyProof.Rows.callWith_type1 (thn (ha.run pos pins s σ H _ I h) fun us s1 ⟨vs, H1, I1, r1, q1⟩ => ?_) hs hpl))
  obtain ⟨a, b, k1, k2, xs, ys, rfl, hqx, hqy, q⟩ := q1
  obtain ⟨u, u2, rfl, ru, ru2⟩ := vals_two r1
  cases ru
  cases ru2
  obtain ⟨its, rv, p1⟩ := hqx.reads I1
  obtain ⟨its2, rv2, p2⟩ := hqy.reads I1
  have l1 := p1.lt
  have l2 := p2.lt
  refine zip_begins2 (beginsK k1 a its.toArray) (beginsK k2 b its2.toArray) p1 p2 fun h' hz hTI hTO h1 h2 hsz hk => wpAny_pyIter_zip hz ?_
  have I2 : Inv X pins σ H1 { s1 with heap := h' } := I1.kept (t' := s1.toks) hk
  have hle : ∀ c, c ∈ [s1.heap.objs.size + 4, s1.heap.objs.size + 2, s1.heap.objs.size + 3, s1.heap.objs.size, s1.heap.objs.size + 1] → s1.heap.objs.size ≤ c := fun c hcm => by
    have e' : c = s1.heap.objs.size + 4 ∨ c = s1.heap.objs.size + 2 ∨ c = s1.heap.objs.size + 3 ∨ c = s1.heap.objs.size ∨ c = s1.heap.objs.size + 1 := by simpa using hcm
    have : ∀ N c : Nat, (c = N + 4 ∨ c = N + 2 ∨ c = N + 3 ∨ c = N ∨ c = N + 1) → N ≤ c := fun N c h => by omega
    exact this _ _ e'
  exact ⟨s1.heap.objs.size + 4, [s1.heap.objs.size + 4, s1.heap.objs.size + 2, s1.heap.objs.size + 3, s1.heap.objs.size, s1.heap.objs.size + 1], _, _, H1, rfl, I2,
    turn_zipK (zip_sep2 (fp1 := [a]) (fp2 := [b]) (fun c hc => by simp at hc; rw [hc]; exact l1) (fun c hc => by simp at hc; rw [hc]; exact l2)) (Nat.ne_of_lt l1) (Nat.ne_of_lt (Nat.lt_succ_of_lt l2)),
    ⟨hz, hTI, ⟨_, _, hTO⟩, itO_at h1, itO_at h2⟩, fun c hc => I1.fpOk (hle c hc) (I1.hok.fresh (hle c hc)), q⟩
end EV

set_option Elab.async false
set_option linter.all false
set_option maxRecDepth 100000
/-! EV5: targets, what a loop walks, list comprehensions. -/
namespace EV
open PySem PySem.Spec L2

/-! ### targets -/
abbrev Bd := D → Sg → Option Sg
/-- behind a target of the slots ts -/
structure TgP (K : PySem.W.Frag) (m : Mp) (ex : Addr → Prop) (σ : L2.St) (H : Hp) (g : Sg) (ts : List Nat) (m' : Mp) (σ' : L2.St) (g' : Sg) : Prop where
  sr : SR K m' ex σ' H g'
  so : ∀ j, j ∉ ts → σ'[j]? = σ[j]?
  go : ∀ j, j ∉ ts → g'[j]? = g[j]?
  mo : ∀ j, j ∉ ts → m' j = m j
  mi : ∀ j, j ∈ ts → m' j = none
  ls : σ'.length = σ.length
  lg : g'.length = g.length
def TFG (K : PySem.W.Frag) (ts : List Nat) (b : Bd) : TG := fun v σ H Q => ∃ m ex g d g', SR K m ex σ H g ∧ Rp K (hid (Hd m ex) H) v d ∧ b d g = some g' ∧ ∀ m' σ', TgP K m ex σ H g ts m' σ' g' → Q σ' H
def TFGs (K : PySem.W.Frag) (ts : List Nat) (b : List D → Sg → Option Sg) : TGs := fun vs σ H Q => ∃ m ex g ds g', SR K m ex σ H g ∧ RpL K (hid (Hd m ex) H) vs ds ∧ b ds g = some g' ∧ ∀ m' σ', TgP K m ex σ H g ts m' σ' g' → Q σ' H
def JG (G : Gb) (c : Sx) (tg : Expr) (ts : List Nat) (b : Bd) : Prop := ∀ X, SX G c X → PG X tg (TFG G.K ts b)
def JGs (G : Gb) (c : Sx) (tg : List Expr) (ts : List Nat) (b : List D → Sg → Option Sg) : Prop := ∀ X, SX G c X → PGs X tg (TFGs G.K ts b)
theorem pg_weak {X : Cx} {e : Expr} {t t' : TG} (h : PG X e t) (w : ∀ v σ H Q, t' v σ H Q → t v σ H Q) : PG X e t' := ⟨fun pins s σ H v u Q I r q => h.run pins s σ H v u Q I r (w v σ H Q q)⟩
theorem pgs_weak {X : Cx} {e : List Expr} {t t' : TGs} (h : PGs X e t) (w : ∀ v σ H Q, t' v σ H Q → t v σ H Q) : PGs X e t' := ⟨fun pins s σ H v u Q I r q => h.run pins s σ H v u Q I r (w v σ H Q q)⟩
/-- a name -/
def bN (i : Nat) : Bd := fun d g => if i < g.length then some (g.set i (.val d)) else none
section
variable {G : Gb} {c : Sx} {pos : Pos} {π π1 π2 τ : Bool} {e tg a b : Expr} {f fa fb : Sf} {ts : List Nat}
theorem jg_name (i : Nat) {x : Str} (hi : c.N[i]? = some x := by rfl) (hx : Loc c.sc x := by first | exact Or.inl rfl | exact Or.inr rfl) (hf : c.fn x = true ∨ c.sc.names.lookup x = some .local := by first | exact Or.inl rfl | exact Or.inr rfl) : JG G c (.Name x pos) [i] (bN i) := fun X s =>
  pg_weak (pg_name (i := i) (by rw [s.N]; exact s.nd) (by rw [s.N]; exact hi) (by rw [s.sc]; exact hx) (by rw [s.fn, s.sc]; exact hf)) fun v σ H Q ⟨m, ex, g, d, g', S, r, e, q⟩ => by
    unfold bN at e
    split at e
    · rename_i hfree
      cases e
      refine q (del m i) _ ⟨S.setv r, fun j hj => ?_, fun j hj => ?_, fun j hj => ?_, fun j hj => ?_, by simp, by simp⟩
      · exact List.getElem?_set_ne (Ne.symm (by simpa using hj))
      · exact List.getElem?_set_ne (Ne.symm (by simpa using hj))
      · unfold del; rw [if_neg (by simpa using hj)]
      · unfold del; rw [if_pos (by simpa using hj)]
    · cases e
/-- several -/
def bsN : List D → Sg → Option Sg := fun ds g => match ds with
  | [] => some g
  | _ => none
def bsC (b : Bd) (r : List D → Sg → Option Sg) : List D → Sg → Option Sg := fun ds g => match ds with
  | d :: ds => (b d g).bind (r ds)
  | [] => none
theorem TgP.refl {K : PySem.W.Frag} {m : Mp} {ex : Addr → Prop} {σ : L2.St} {H : Hp} {g : Sg} (S : SR K m ex σ H g) : TgP K m ex σ H g [] m σ g := ⟨S, fun _ _ => rfl, fun _ _ => rfl, fun _ _ => rfl, fun _ h => by simp at h, rfl, rfl⟩
theorem TgP.hd {K : PySem.W.Frag} {m m' : Mp} {ex : Addr → Prop} {σ σ' : L2.St} {H : Hp} {g g' : Sg} (p : TgP K m ex σ H g ts m' σ' g') {a : Addr} (h : Hd m' ex a) : Hd m ex a := by
  rcases h with h | ⟨j, h⟩
  · exact .inl h
  · by_cases hj : j ∈ ts
    · rw [p.mi j hj] at h; cases h
    · rw [p.mo j hj] at h; exact .inr ⟨j, h⟩
theorem TgP.ext {K : PySem.W.Frag} {m m' : Mp} {ex : Addr → Prop} {σ σ' : L2.St} {H : Hp} {g g' : Sg} (p : TgP K m ex σ H g ts m' σ' g') : Ext (hid (Hd m ex) H) (hid (Hd m' ex) H) := (hid_grow (fun _ _ _ z => p.hd z) fun _ _ _ z => z).ext
theorem TgP.trans {K : PySem.W.Frag} {m m1 m2 : Mp} {ex : Addr → Prop} {σ σ1 σ2 : L2.St} {H : Hp} {g g1 g2 : Sg} {t1 t2 : List Nat} (a : TgP K m ex σ H g t1 m1 σ1 g1) (b : TgP K m1 ex σ1 H g1 t2 m2 σ2 g2) : TgP K m ex σ H g (t1 ++ t2) m2 σ2 g2 :=
  ⟨b.sr, fun j h => (b.so j fun z => h (List.mem_append_right _ z)).trans (a.so j fun z => h (List.mem_append_left _ z)), fun j h => (b.go j fun z => h (List.mem_append_right _ z)).trans (a.go j fun z => h (List.mem_append_left _ z)),
    fun j h => (b.mo j fun z => h (List.mem_append_right _ z)).trans (a.mo j fun z => h (List.mem_append_left _ z)), fun j h => by
      by_cases h2 : j ∈ t2
      · exact b.mi j h2
      · rw [b.mo j h2]
        exact a.mi j ((List.mem_append.mp h).elim _root_.id fun z => absurd z h2), b.ls.trans a.ls, b.lg.trans a.lg⟩
theorem jgs_nil : JGs G c [] [] bsN := fun X s => pgs_weak pgs_nil fun vs σ H Q ⟨m, ex, g, ds, g', S, r, e, q⟩ => by
  unfold bsN at e
  split at e
  · cases e
    cases r
    exact ⟨rfl, q m σ (.refl S)⟩
  · cases e
theorem jgs_cons {es : List Expr} {t1 t2 : List Nat} {b : Bd} {r : List D → Sg → Option Sg} (h1 : JG G c e t1 b) (h2 : JGs G c es t2 r) (hs : ∀ env, (assignEach (e :: es) env).map (·.2) = assign e env :: (assignEach es env).map (·.2) := by intro _; rfl) : JGs G c (e :: es) (t1 ++ t2) (bsC b r) := fun X s =>
  pgs_weak (pgs_cons (h1 X s) (h2 X s) (hs _)) fun vs σ H Q ⟨m, ex, g, ds, g', S, r, e, q⟩ => by
    unfold bsC at e
    split at e
    · rename_i d ds
      cases hb : b d g with
      | none => simp [hb] at e
      | some g1 =>
        simp only [hb, Option.bind_some] at e
        cases r with
        | cons r rr =>
          exact ⟨_, _, rfl, m, ex, g, d, g1, S, r, hb, fun m1 σ1 p1 => ⟨m1, ex, g1, ds, g', p1.sr, rr.mono p1.ext, e, fun m2 σ2 p2 => q m2 σ2 (p1.trans p2)⟩⟩
    · cases e
def bT (r : List D → Sg → Option Sg) : Bd := fun d g => match d with
  | .tuple ds => r ds g
  | _ => none
def bLen (n : Nat) (r : List D → Sg → Option Sg) : List D → Sg → Option Sg := fun ds g => if ds.length = n then r ds g else none
theorem jg_tup {es : List Expr} {k n : Nat} {r : List D → Sg → Option Sg} (h : JGs G c es ts r) (hn : ∀ env, (assignEach es env).length = n := by intro _; rfl) (hst : ∀ env, (assignEach es env).findIdx? (·.1) = none := by intro _; rfl) : JG G c (.Tuple es k pos) ts (bT (bLen n r)) := fun X s =>
  pg_weak (pg_tup s.calm (h X s) (hn _) (hst _)) fun v σ H Q ⟨m, ex, g, d, g', S, r, e, q⟩ => by
    unfold bT at e
    split at e
    · unfold bLen at e
      split at e
      · rename_i hl
        cases r with
        | tup h1 h2 => exact ⟨_, _, rfl, by rw [s.opK]; exact (hid_sub (P := Hd m ex)).ext.sqT h1, h2.length.trans hl, m, ex, g, _, g', S, h2, e, q⟩
      · cases e
    · cases e

/-! ### what is walked -/
abbrev Si := Sg → Option (List D × Sg)
abbrev Keeps (P : Addr → Prop) (H0 H : Hp) : Prop := ∀ b o, ¬ P b → H0 b = some o → H b = some o
/-- the iterator J gives ds, while what was seen at H0 stays -/
def ItD (K : PySem.W.Frag) (P : Addr → Prop) (H0 : Hp) (ds : List D) (J : L2.It) : Prop := ∃ Y, Walk J ds.length (fun H => Keeps P H0 H) Y ∧
  ∀ (i : Nat) (H : Hp) (x : V) (H' : Hp) (P' : Addr → Prop), Keeps P H0 H → (∀ b o, H0 b = some o → P' b → P b) → (∀ b, P' b → ∃ o, H b = some o) → i < ds.length → Y i H x H' → Grow H H' ∧ ∃ d, ds[i]? = some d ∧ Rp K (hid P' H') x d
def TFI (K : PySem.W.Frag) (π : Bool) (f : Si) : TI := fun σ H R => ∃ m ex g ds g', SR K m ex σ H g ∧ f g = some (ds, g') ∧ ∀ J H', Po K m ex σ H g π g' H' → ItD K (Hd m ex) H' ds J → R J H'
def JI (G : Gb) (c : Sx) (π : Bool) (tg it : Expr) (f : Si) : Prop := ∀ X, SX G c X → PI X tg it (TFI G.K π f)
theorem pi_weak {X : Cx} {tg it : Expr} {t t' : TI} (h : PI X tg it t) (w : ∀ σ H Q, t' σ H Q → t σ H Q) : PI X tg it t' := ⟨fun pins s σ H R I q => h.run pins s σ H R I (w σ H R q)⟩
section
variable {K : PySem.W.Frag} {P : Addr → Prop} {H0 : Hp} {a : Addr} {vs ws : List V} {ds es : List D}
theorem keeps_ext {P' : Addr → Prop} {H : Hp} (k : Keeps P H0 H) (hp : ∀ b o, H0 b = some o → P' b → P b) : Ext (hid P H0) (hid P' H) := (hid_grow hp k).ext
theorem itD_list (n : ¬ P a) (h : H0 a = some (.lst vs)) (r : RpL K (hid P H0) vs ds) : ItD K P H0 ds (Itl K a) := by
  refine ⟨YAt vs, r.length ▸ (walk_list (K := K) (a := a) (xs := vs)).mono (fun H k => SqL.of (k a _ n h)) fun i H x H' _ _ y => y, fun i H x H' P' k hp _ hi y => ?_⟩
  obtain ⟨rfl, hx⟩ := y
  obtain ⟨d, h1, h2⟩ := r.get hx
  exact ⟨fun _ _ z => z, d, h1, h2.mono (keeps_ext k hp)⟩
theorem sqT_keeps {H : Hp} (k : Keeps P H0 H) (h : SqT K (hid P H0) a vs) : SqT K H a vs := by
  rcases h with (h | ⟨o, h⟩) | h
  · obtain ⟨n, h⟩ := hid_iff.mp h
    exact .inl (.inl (k a _ n h))
  · obtain ⟨n, h⟩ := hid_iff.mp h
    exact .inl (.inr ⟨o, k a _ n h⟩)
  · exact .inr h
theorem itD_tup (h : SqT K (hid P H0) a vs) (r : RpL K (hid P H0) vs ds) : ItD K P H0 ds (Itt K a) := by
  refine ⟨YAt vs, r.length ▸ (walk_tup (K := K) (a := a) (xs := vs)).mono (fun H k => sqT_keeps k h) fun i H x H' _ _ y => y, fun i H x H' P' k hp _ hi y => ?_⟩
  obtain ⟨rfl, hx⟩ := y
  obtain ⟨d, h1, h2⟩ := r.get hx
  exact ⟨fun _ _ z => z, d, h1, h2.mono (keeps_ext k hp)⟩
def rngD (lo c : Int) (n : Nat) : List D := (List.range n).map fun (i : Nat) => .int (lo + (i : Int) * c)
theorem rngD_get {lo c : Int} {n i : Nat} (h : i < n) : (rngD lo c n)[i]? = some (.int (lo + (i : Int) * c)) := by
  unfold rngD
  rw [List.getElem?_map, List.getElem?_range h]
  rfl
theorem rngD_len {lo c : Int} {n : Nat} : (rngD lo c n).length = n := by simp [rngD]
theorem itD_rng {lo : Int} {n : Nat} : ItD K P H0 (rngD lo 1 n) (Itr lo n) := by
  refine ⟨YFn fun i => .int (lo + i), by rw [rngD_len]; exact walk_range.mono (fun _ _ => trivial) fun i H x H' _ _ y => y, fun i H x H' P' k hp _ hi y => ?_⟩
  obtain ⟨rfl, rfl⟩ := y
  rw [rngD_len] at hi
  exact ⟨fun _ _ z => z, _, rngD_get hi, by rw [Int.mul_one]; exact .int _⟩
theorem itD_rngC {lo c : Int} {n : Nat} : ItD K P H0 (rngD lo c n) (Itc lo c n) := by
  refine ⟨YFn fun i => .int (lo + (i : Nat) * c), by rw [rngD_len]; exact walk_rangeC.mono (fun _ _ => trivial) fun i H x H' _ _ y => y, fun i H x H' P' k hp _ hi y => ?_⟩
  obtain ⟨rfl, rfl⟩ := y
  rw [rngD_len] at hi
  exact ⟨fun _ _ z => z, _, rngD_get hi, .int _⟩
/-- a list or tuple that is seen -/
def SeenK (K : PySem.W.Frag) (P : Addr → Prop) (H0 : Hp) (k : Bool) (a : Addr) (vs : List V) : Prop := if k = true then SqT K (hid P H0) a vs else (¬ P a ∧ H0 a = some (.lst vs))
theorem SeenK.sq {k : Bool} {H : Hp} (h : SeenK K P H0 k a vs) (kp : Keeps P H0 H) : SqK K k H a vs := by
  cases k
  · obtain ⟨n, e⟩ := (show ¬ P a ∧ H0 a = some (.lst vs) from h)
    exact SqL.of (kp a _ n e)
  · exact sqT_keeps kp h
theorem pair_rp {P' : Addr → Prop} {H : Hp} {T : Addr} {x y : V} {d d' : D} (live : ∀ b, P' b → ∃ o, H b = some o) (nT : H T = none) (r1 : Rp K (hid P' H) x d) (r2 : Rp K (hid P' H) y d') :
    Grow H (upd H T (.tup [x, y])) ∧ Rp K (hid P' (upd H T (.tup [x, y]))) (.ref T) (.tuple [d, d']) := by
  have nP : ¬ P' T := fun z => by obtain ⟨o, e⟩ := live T z; rw [nT] at e; cases e
  have ex : Ext (hid P' H) (hid P' (upd H T (.tup [x, y]))) := (hid_grow (fun _ _ _ z => z) fun b u _ e => grow_new nT b u e).ext
  exact ⟨grow_new nT, .tup (SqT.of (hid_iff.mpr ⟨nP, upd_same⟩)) (.cons (r1.mono ex) (.cons (r2.mono ex) .nil))⟩
def enmD (ds : List D) : List D := ds.zipIdx.map fun p => .tuple [.int (p.2 : Nat), p.1]
theorem enmD_get {i : Nat} {d : D} (h : ds[i]? = some d) : (enmD ds)[i]? = some (.tuple [.int (i : Nat), d]) := by
  unfold enmD
  rw [List.getElem?_map, List.getElem?_zipIdx, h]
  simp
theorem itD_enm {k : Bool} (h : SeenK K P H0 k a vs) (r : RpL K (hid P H0) vs ds) : ItD K P H0 (enmD ds) (IteK K k a) := by
  have hl : (enmD ds).length = vs.length := by simp [enmD, r.length]
  refine ⟨fun i H x H' => (IteK K k a).yld i H x H', ⟨fun i H hi kp => ⟨vs, vs[i]'(by omega), h.sq kp, by simp [hl ▸ hi]⟩, fun H kp => ⟨vs, h.sq kp, hl.symm⟩, fun i H x H' _ _ y => y⟩, fun i H x H' P' kp hp live hi y => ?_⟩
  obtain ⟨T, w, rfl, nT, rfl, hw⟩ := y
  obtain ⟨d, h1, h2⟩ := r.get (hw vs (h.sq kp))
  obtain ⟨g1, g2⟩ := pair_rp live nT (.int (i : Nat)) (h2.mono (keeps_ext kp hp))
  exact ⟨g1, _, enmD_get h1, g2⟩
def zipD (ds es : List D) : List D := (ds.zip es).map fun p => .tuple [p.1, p.2]
theorem itD_zip {k1 k2 : Bool} {b : Addr} (h : SeenK K P H0 k1 a vs) (r : RpL K (hid P H0) vs ds) (h' : SeenK K P H0 k2 b ws) (r' : RpL K (hid P H0) ws es) : ItD K P H0 (zipD ds es) (ItzK K k1 k2 a b) := by
  have hl : (zipD ds es).length = min vs.length ws.length := by simp [zipD, r.length, r'.length]
  refine ⟨fun i H x H' => (ItzK K k1 k2 a b).yld i H x H', ⟨fun i H hi kp => ⟨vs, ws, vs[i]'(by omega), ws[i]'(by omega), h.sq kp, h'.sq kp, by simp, by simp⟩, fun H kp => ⟨vs, ws, h.sq kp, h'.sq kp, hl.symm⟩, fun i H x H' _ _ y => y⟩, fun i H x H' P' kp hp live hi y => ?_⟩
  obtain ⟨T, w1, w2, rfl, nT, rfl, hw1, hw2⟩ := y
  obtain ⟨d, h1, h2⟩ := r.get (hw1 vs (h.sq kp))
  obtain ⟨d', h1', h2'⟩ := r'.get (hw2 ws (h'.sq kp))
  obtain ⟨g1, g2⟩ := pair_rp live nT (h2.mono (keeps_ext kp hp)) (h2'.mono (keeps_ext kp hp))
  refine ⟨g1, .tuple [d, d'], ?_, g2⟩
  unfold zipD
  have hz : (ds.zip es)[i]? = some (d, d') := List.getElem?_zip_eq_some.mpr ⟨h1, h1'⟩
  rw [List.getElem?_map, hz]
  rfl
end
/-- over a list, a tuple -/
def iSeq (fa : Sf) : Si := fun g => (fa g).bind fun p => match p.1 with
  | .list xs => some (xs, p.2)
  | .tuple xs => some (xs, p.2)
  | _ => none
theorem iSeq_some {g g' : Sg} {ds : List D} (e : iSeq fa g = some (ds, g')) : ∃ d, fa g = some (d, g') ∧ (d = .list ds ∨ d = .tuple ds) := by
  unfold iSeq at e
  cases h : fa g with
  | none => simp [h] at e
  | some y =>
    simp only [h, Option.bind_some] at e
    split at e
    · rename_i xs hy; cases e; exact ⟨y.1, rfl, .inl hy⟩
    · rename_i xs hy; cases e; exact ⟨y.1, rfl, .inr hy⟩
    · cases e
theorem pi_or {X : Cx} {tg it : Expr} {t t' : TI} (h : PI X tg it t) (h' : PI X tg it t') : PI X tg it (fun σ H R => t σ H R ∨ t' σ H R) := ⟨fun pins s σ H R I q => q.elim (h.run pins s σ H R I) (h'.run pins s σ H R I)⟩
theorem ji_seq (ha : J G c π true a fa) : JI G c π tg a (iSeq fa) := fun X s =>
  pi_weak (pi_or (pi_list (ha X s)) (pi_tup (ha X s))) fun σ H R ⟨m, ex, g, ds, g', S, e, q⟩ => by
    obtain ⟨d, e1, e2⟩ := iSeq_some e
    rcases e2 with rfl | rfl
    · refine .inl ⟨m, ex, g, _, g', S, e1, fun v H1 p1 r1 => ?_⟩
      have r := r1.strong
      cases r with
      | lst h1 h2 =>
        obtain ⟨n, h1⟩ := hid_iff.mp h1
        exact ⟨_, rfl, ⟨_, SqL.of h1⟩, s.opK ▸ q _ H1 p1 (itD_list n h1 h2)⟩
    · refine .inr ⟨m, ex, g, _, g', S, e1, fun v H1 p1 r1 => ?_⟩
      have r := r1.strong
      cases r with
      | tup h1 h2 => exact ⟨_, rfl, ⟨_, s.opK ▸ (hid_sub (P := Hd m ex)).ext.sqT h1⟩, s.opK ▸ q _ H1 p1 (itD_tup h1 h2)⟩
def okB (i : Int) : Bool := decide (i.natAbs < 2 ^ 62)
def iRng1 (fr : Sg → Option (List D × Sg)) : Si := fun g => (fr g).bind fun p => match p.1 with
  | [.int j] => if okB j = true then some (rngD 0 1 j.toNat, p.2) else none
  | _ => none
def iRng2 (fr : Sg → Option (List D × Sg)) : Si := fun g => (fr g).bind fun p => match p.1 with
  | [.int i, .int j] => if okB i = true ∧ okB j = true then some (rngD i 1 (j - i).toNat, p.2) else none
  | _ => none
def iRng3 (fr : Sg → Option (List D × Sg)) : Si := fun g => (fr g).bind fun p => match p.1 with
  | [.int i, .int j, .int k] => if okB i = true ∧ okB j = true ∧ k = -1 then some (rngD i (-1) (i - j).toNat, p.2) else none
  | _ => none
theorem okB_iff {i : Int} (h : okB i = true) : -(2 ^ 62) ≤ i ∧ i < 2 ^ 62 := by
  have := of_decide_eq_true h
  omega
theorem rpl1 {K : PySem.W.Frag} {H : Hp} {vs : List V} {i : Int} (r : RpL K H vs [.int i]) : vs = [.int i] := by
  cases r with
  | cons a r => cases r; cases a; rfl
theorem rpl3 {K : PySem.W.Frag} {H : Hp} {vs : List V} {i j k : Int} (r : RpL K H vs [.int i, .int j, .int k]) : vs = [.int i, .int j, .int k] := by
  cases r with
  | cons a r => cases a; rw [rpl2 r]
section
variable {p q0 : Pos} {fr : Sg → Option (List D × Sg)}
theorem ji_rng1 (hm : G.mg "range" = none) (h : JA G c π [a] fr) (hg : GlN c "range" := by rfl) (hs : ∀ env, starEach [a] env = [(false, eval a env)] := by intro _; rfl) : JI G c π tg (.Call (.Name "range" p) [a] [] q0) (iRng1 fr) := fun X s =>
  pi_weak (pi_range1 (s.gl hg) (s.mgN hm) (h X s) (hs _)) fun σ H R ⟨m, ex, g, ds, g', S, e, q⟩ => by
    unfold iRng1 at e
    cases hf : fr g with
    | none => simp [hf] at e
    | some y =>
      simp only [hf, Option.bind_some] at e
      refine ⟨m, ex, g, y.1, y.2, S, hf, fun vs H1 p1 r1 => ?_⟩
      split at e
      · rename_i j hy
        split at e
        · cases e
          rw [hy] at r1
          have b := okB_iff (i := j) ‹_›
          exact ⟨j, rpl1 r1, b.1, b.2, q _ H1 p1 itD_rng⟩
        · cases e
      · cases e
theorem ji_rng2 (hm : G.mg "range" = none) (h : JA G c π [a, b] fr) (hg : GlN c "range" := by rfl) (hs : ∀ env, starEach [a, b] env = [(false, eval a env), (false, eval b env)] := by intro _; rfl) (hs2 : ∀ env, starEach [b] env = [(false, eval b env)] := by intro _; rfl) : JI G c π tg (.Call (.Name "range" p) [a, b] [] q0) (iRng2 fr) := fun X s =>
  pi_weak (pi_range2 (s.gl hg) (s.mgN hm) (h X s) (hs _) (hs2 _)) fun σ H R ⟨m, ex, g, ds, g', S, e, q⟩ => by
    unfold iRng2 at e
    cases hf : fr g with
    | none => simp [hf] at e
    | some y =>
      simp only [hf, Option.bind_some] at e
      refine ⟨m, ex, g, y.1, y.2, S, hf, fun vs H1 p1 r1 => ?_⟩
      split at e
      · rename_i i j hy
        split at e
        · rename_i hb
          cases e
          rw [hy] at r1
          have b1 := okB_iff hb.1
          have b2 := okB_iff hb.2
          exact ⟨i, j, rpl2 r1, ⟨b1.1, b1.2, b2.1, b2.2⟩, q _ H1 p1 itD_rng⟩
        · cases e
      · cases e
theorem ji_rng3 {e3 : Expr} (hm : G.mg "range" = none) (h : JA G c π [a, b, e3] fr) (hg : GlN c "range" := by rfl) (hs : ∀ env, starEach [a, b, e3] env = (false, eval a env) :: starEach [b, e3] env := by intro _; rfl) (hpl : ∀ env, (backTo q0 (starEach [b, e3] env)).any (·.1) = false := by intro _; rfl) : JI G c π tg (.Call (.Name "range" p) [a, b, e3] [] q0) (iRng3 fr) := fun X s =>
  pi_weak (pi_range3 (s.gl hg) (s.mgN hm) (h X s) (hs _) (hpl _)) fun σ H R ⟨m, ex, g, ds, g', S, e, q⟩ => by
    unfold iRng3 at e
    cases hf : fr g with
    | none => simp [hf] at e
    | some y =>
      simp only [hf, Option.bind_some] at e
      refine ⟨m, ex, g, y.1, y.2, S, hf, fun vs H1 p1 r1 => ?_⟩
      split at e
      · rename_i i j k hy
        split at e
        · rename_i hb
          obtain ⟨h1, h2, rfl⟩ := hb
          cases e
          rw [hy] at r1
          have b1 := okB_iff h1
          have b2 := okB_iff h2
          exact ⟨i, j, -1, _, rpl3 r1, .neg b1.1 b1.2 b2.1 b2.2, q _ H1 p1 itD_rngC⟩
        · cases e
      · cases e
/-- enumerate, zip -/
def seqD : D → Option (List D)
  | .list xs => some xs
  | .tuple xs => some xs
  | _ => none
def iEnm (fa : Sf) : Si := fun g => (fa g).bind fun p => (seqD p.1).map fun xs => (enmD xs, p.2)
theorem seen_of {K : PySem.W.Frag} {P : Addr → Prop} {H : Hp} {v : V} {d : D} {xs : List D} (r : Rp K (hid P H) v d) (e : seqD d = some xs) : ∃ a k vs, v = .ref a ∧ SeenK K P H k a vs ∧ RpL K (hid P H) vs xs := by
  unfold seqD at e
  split at e
  · cases e
    cases r with
    | lst h1 h2 => exact ⟨_, false, _, rfl, hid_iff.mp h1, h2⟩
  · cases e
    cases r with
    | tup h1 h2 => exact ⟨_, true, _, rfl, h1, h2⟩
  · cases e
theorem ji_enm {es : List Expr} {k : Nat} {pt : Pos} (hm : G.mg "enumerate" = none) (ha : J G c π true a fa) (hg : GlN c "enumerate" := by rfl) (hs : ∀ env, starEach [a] env = (false, eval a env) :: starEach [] env := by intro _; rfl) : JI G c π (.Tuple es k pt) (.Call (.Name "enumerate" p) [a] [] q0) (iEnm fa) := fun X s =>
  pi_weak (pi_enumK (s.gl hg) (s.mgN hm) (ha X s) (hs _)) fun σ H R ⟨m, ex, g, ds, g', S, e, q⟩ => by
    unfold iEnm at e
    cases hf : fa g with
    | none => simp [hf] at e
    | some y =>
      cases h2 : seqD y.1 with
      | none => simp [hf, h2] at e
      | some xs =>
        simp only [hf, h2, Option.bind_some, Option.map_some] at e
        cases e
        refine ⟨m, ex, g, y.1, y.2, S, hf, fun v H1 p1 r1 => ?_⟩
        obtain ⟨b, k, vs, rfl, h3, h4⟩ := seen_of r1.strong h2
        exact ⟨b, k, vs, rfl, s.opK ▸ h3.sq fun _ _ _ z => z, s.opK ▸ q _ H1 p1 (itD_enm h3 h4)⟩
def iZp (fr : Sg → Option (List D × Sg)) : Si := fun g => (fr g).bind fun p => match p.1 with
  | [x, y] => (seqD x).bind fun xs => (seqD y).map fun ys => (zipD xs ys, p.2)
  | _ => none
theorem ji_zip {es : List Expr} {k : Nat} {pt : Pos} (hm : G.mg "zip" = none) (h : JA G c π [a, b] fr) (hg : GlN c "zip" := by rfl) (hs : ∀ env, starEach [a, b] env = (false, eval a env) :: starEach [b] env := by intro _; rfl) (hpl : ∀ env, (backTo q0 (starEach [b] env)).any (·.1) = false := by intro _; rfl) :
    JI G c π (.Tuple es k pt) (.Call (.Name "zip" p) [a, b] [] q0) (iZp fr) := fun X s =>
  pi_weak (pi_zipK (s.gl hg) (s.mgN hm) (h X s) (hs _) (hpl _)) fun σ H R ⟨m, ex, g, ds, g', S, e, q⟩ => by
    unfold iZp at e
    cases hf : fr g with
    | none => simp [hf] at e
    | some y =>
      simp only [hf, Option.bind_some] at e
      refine ⟨m, ex, g, y.1, y.2, S, hf, fun vs H1 p1 r1 => ?_⟩
      split at e
      · rename_i d1 d2 hy
        rw [hy] at r1
        cases h1 : seqD d1 with
        | none => simp [h1] at e
        | some xs =>
          cases h2 : seqD d2 with
          | none => simp [h1, h2] at e
          | some ys =>
            simp only [h1, h2, Option.bind_some, Option.map_some] at e
            cases e
            cases r1 with
            | cons ra rr =>
              cases rr with
              | cons rb rr =>
                cases rr
                obtain ⟨b1, k1, v1, rfl, h3, h4⟩ := seen_of ra h1
                obtain ⟨b2, k2, v2, rfl, h5, h6⟩ := seen_of rb h2
                exact ⟨b1, b2, k1, k2, v1, v2, rfl, s.opK ▸ h3.sq fun _ _ _ z => z, s.opK ▸ h5.sq fun _ _ _ z => z, s.opK ▸ q _ H1 p1 (itD_zip h3 h4 h5 h6)⟩
      · cases e
end

/-! ### list comprehensions -/
def wipeG (g : Sg) : List Nat → Sg
  | [] => g
  | v :: vs => (wipeG g vs).set v .emp
/-- the slots vs as they were -/
def backG (g g' : Sg) : List Nat → Sg
  | [] => g'
  | v :: vs => (backG g g' vs).set v (g.getD v .emp)
def noOwn (g : Sg) (vs : List Nat) : Bool := vs.all fun v => match g[v]? with
  | some (.own _ _) => false
  | _ => true
def lcGo (b : Bd) (tt : Tf) (te : Sf) (vs : List Nat) : List D → Sg → Option (List D × Sg)
  | [], g => some ([], g)
  | d :: ds, g => (b d g).bind fun g1 => (tt g1).bind fun p => if p.1 = true then (te p.2).bind fun q => (lcGo b tt te vs ds (wipeG q.2 vs)).bind fun r => some (q.1 :: r.1, r.2) else lcGo b tt te vs ds (wipeG p.2 vs)
def fLc (it : Si) (b : Bd) (tt : Tf) (te : Sf) (vs : List Nat) : Sf := fun g => (it g).bind fun p => if noOwn p.2 vs = true then (lcGo b tt te vs p.1 (wipeG p.2 vs)).bind fun r => if r.1.length ≤ sizeLine then some (.list r.1, backG p.2 r.2 vs) else none else none
theorem wipeG_get {g : Sg} {j : Nat} : ∀ {vs : List Nat}, (wipeG g vs)[j]? = if j ∈ vs then (g[j]?).map fun _ => .emp else g[j]?
  | [] => by simp [wipeG]
  | v :: vs => by
    unfold wipeG
    have ih := wipeG_get (g := g) (j := j) (vs := vs)
    by_cases h : v = j
    · subst h
      rw [List.getElem?_set]
      have hl : (wipeG g vs).length = g.length := by
        clear ih
        induction vs with
        | nil => rfl
        | cons w ws ih => unfold wipeG; rw [List.length_set, ih]
      rw [hl]
      by_cases hv : v < g.length <;> simp [hv]
    · rw [List.getElem?_set_ne h, ih]
      by_cases h2 : j ∈ vs
      · simp [h2]
      · simp [h2, Ne.symm h]
theorem wipeG_len {g : Sg} : ∀ {vs : List Nat}, (wipeG g vs).length = g.length
  | [] => rfl
  | v :: vs => by unfold wipeG; rw [List.length_set, wipeG_len]
theorem wipeG_eq {g g' : Sg} {vs : List Nat} (hl : g'.length = g.length) (h : ∀ j, j ∉ vs → g'[j]? = g[j]?) : wipeG g' vs = wipeG g vs := by
  apply List.ext_getElem?
  intro j
  rw [wipeG_get, wipeG_get]
  by_cases hj : j ∈ vs
  · rw [if_pos hj, if_pos hj]
    by_cases hlt : j < g.length
    · rw [List.getElem?_eq_getElem hlt, List.getElem?_eq_getElem (by rw [hl]; exact hlt)]; rfl
    · rw [List.getElem?_eq_none (by omega), List.getElem?_eq_none (by omega)]
  · rw [if_neg hj, if_neg hj]; exact h j hj
theorem wipeG_idem {g : Sg} {vs : List Nat} : wipeG (wipeG g vs) vs = wipeG g vs := wipeG_eq wipeG_len fun j hj => by rw [wipeG_get, if_neg hj]
theorem wipe_get' {σ : L2.St} {j : Nat} : ∀ {vs : List Nat}, (wipe σ vs)[j]? = if j ∈ vs then (σ[j]?).map fun _ => none else σ[j]?
  | [] => by simp [wipe]
  | v :: vs => by
    unfold wipe
    have ih := wipe_get' (σ := σ) (j := j) (vs := vs)
    by_cases h : v = j
    · subst h
      rw [List.getElem?_set, wipe_length]
      by_cases hv : v < σ.length <;> simp [hv]
    · rw [List.getElem?_set_ne h, ih]
      by_cases h2 : j ∈ vs
      · simp [h2]
      · simp [h2, Ne.symm h]
theorem wipe_eq {σ σ' : L2.St} {vs : List Nat} (hl : σ'.length = σ.length) (h : ∀ j, j ∉ vs → σ'[j]? = σ[j]?) : wipe σ' vs = wipe σ vs := by
  apply List.ext_getElem?
  intro j
  rw [wipe_get', wipe_get']
  by_cases hj : j ∈ vs
  · rw [if_pos hj, if_pos hj]
    by_cases hlt : j < σ.length
    · rw [List.getElem?_eq_getElem hlt, List.getElem?_eq_getElem (by rw [hl]; exact hlt)]; rfl
    · rw [List.getElem?_eq_none (by omega), List.getElem?_eq_none (by omega)]
  · rw [if_neg hj, if_neg hj]; exact h j hj
theorem wipe_idem {σ : L2.St} {vs : List Nat} : wipe (wipe σ vs) vs = wipe σ vs := wipe_eq (wipe_length _ _) fun j hj => by rw [wipe_get', if_neg hj]
theorem backG_get {g g' : Sg} {j : Nat} (hl : g'.length = g.length) : ∀ {vs : List Nat}, (backG g g' vs)[j]? = if j ∈ vs then g[j]? else g'[j]?
  | [] => by simp [backG]
  | v :: vs => by
    unfold backG
    have ih := backG_get (g := g) (g' := g') (j := j) hl (vs := vs)
    have hl2 : ∀ ws : List Nat, (backG g g' ws).length = g.length := fun ws => by
      induction ws with
      | nil => exact hl
      | cons w ws ih => unfold backG; rw [List.length_set, ih]
    by_cases h : v = j
    · subst h
      rw [List.getElem?_set, hl2]
      by_cases hv : v < g.length
      · simp [hv]
      · simp [hv]
    · rw [List.getElem?_set_ne h, ih]
      by_cases h2 : j ∈ vs
      · simp [h2]
      · simp [h2, Ne.symm h]
theorem backG_len {g g' : Sg} (hl : g'.length = g.length) : ∀ {vs : List Nat}, (backG g g' vs).length = g.length
  | [] => hl
  | w :: ws => by unfold backG; rw [List.length_set, backG_len hl]
theorem backG_self {g : Sg} {vs : List Nat} : backG g (wipeG g vs) vs = g := by
  apply List.ext_getElem?
  intro j
  rw [backG_get wipeG_len, wipeG_get]
  by_cases hj : j ∈ vs <;> simp [hj]
section
variable {K : PySem.W.Frag} {m : Mp} {ex : Addr → Prop} {σ : L2.St} {H : Hp} {g : Sg} {vs : List Nat}
theorem SR.wipe (S : SR K m ex σ H g) (hv : ∀ v ∈ vs, m v = none) : SR K m ex (L2.wipe σ vs) H (wipeG g vs) := by
  refine ⟨by rw [wipe_length, wipeG_len, S.len], S.inj, S.nex, S.exl, fun i a h => ?_, fun i s e => ?_⟩
  · have ni : i ∉ vs := fun z => by rw [hv i z] at h; cases h
    obtain ⟨p, d, e⟩ := S.own i a h
    exact ⟨p, d, by rw [wipeG_get, if_neg ni]; exact e⟩
  · rw [wipeG_get] at e
    by_cases hi : i ∈ vs
    · rw [if_pos hi] at e
      cases hg : g[i]? with
      | none => rw [hg] at e; cases e
      | some x => rw [hg] at e; cases e; trivial
    · rw [if_neg hi] at e
      have z := S.slot i s e
      have eσ : (L2.wipe σ vs)[i]? = σ[i]? := by rw [wipe_get', if_neg hi]
      cases s with
      | emp => trivial
      | val d => obtain ⟨v, h1, h2⟩ := z; exact ⟨v, by rw [eσ]; exact h1, h2⟩
      | own p d => obtain ⟨a, h1, h2, h3⟩ := z; exact ⟨a, h1, by rw [eσ]; exact h2, h3⟩
theorem noOwn_m (S : SR K m ex σ H g) (h : noOwn g vs = true) : ∀ v ∈ vs, m v = none := fun v hv => by
  cases e : m v with
  | none => rfl
  | some a =>
    obtain ⟨p, d, z⟩ := S.own v a e
    have q := List.all_eq_true.mp h v hv
    simp [z] at q
/-- behind a block: the own names' slots as they were -/
theorem SR.back {H' : Hp} {g' : Sg} (S : SR K m ex σ H g) (S' : SR K m ex (L2.wipe σ vs) H' g') (hv : ∀ v ∈ vs, m v = none) (kp : ∀ b o, ¬ Hd m ex b → H b = some o → H' b = some o) : SR K m ex σ H' (backG g g' vs) := by
  have hl : g'.length = g.length := by rw [← S'.len, wipe_length, S.len]
  have e : Ext (hid (Hd m ex) H) (hid (Hd m ex) H') := (hid_grow (fun _ _ _ z => z) kp).ext
  refine ⟨by rw [backG_len hl, S.len], S.inj, S.nex, S'.exl, fun i a h => ?_, fun i s q => ?_⟩
  · have ni : i ∉ vs := fun z => by rw [hv i z] at h; cases h
    obtain ⟨p, d, z⟩ := S'.own i a h
    exact ⟨p, d, by rw [backG_get hl, if_neg ni]; exact z⟩
  · rw [backG_get hl] at q
    by_cases hi : i ∈ vs
    · rw [if_pos hi] at q
      have z := S.slot i s q
      cases s with
      | emp => trivial
      | val d => obtain ⟨v, h1, h2⟩ := z; exact ⟨v, h1, h2.mono e⟩
      | own p d => obtain ⟨a, h1, _⟩ := z; rw [hv i hi] at h1; cases h1
    · rw [if_neg hi] at q
      have z := S'.slot i s q
      have eσ : (L2.wipe σ vs)[i]? = σ[i]? := by rw [wipe_get', if_neg hi]
      cases s with
      | emp => trivial
      | val d => obtain ⟨v, h1, h2⟩ := z; exact ⟨v, by rw [← eσ]; exact h1, h2⟩
      | own p d => obtain ⟨a, h1, h2, h3⟩ := z; exact ⟨a, h1, by rw [← eσ]; exact h2, h3⟩
end
/-- a clause's tests -/
def JTs (G : Gb) (c : Sx) (π : Bool) (es : List Expr) (f : Tf) : Prop := ∀ X, SX G c X → PTs X es (TFT G.K π f)
def tY : Tf := fun g => some (true, g)
theorem pts_weak {X : Cx} {es : List Expr} {t t' : TT} (h : PTs X es t) (w : ∀ σ H Q, t' σ H Q → t σ H Q) : PTs X es t' := ⟨fun pins s σ H Q I q => h.run pins s σ H Q I (w σ H Q q)⟩
theorem jts_nil : JTs G c true [] tY := fun X s => pts_weak pts_nil fun σ H Q ⟨m, ex, g, d, g', S, e, q⟩ => by cases e; exact q _ (.refl S)
theorem jts_one {ta : Tf} (h : JT G c π a ta) : JTs G c π [a] ta := fun X s => pts_one (h X s)
/-- where a comprehension's block stands -/
def blkX (c : Sx) (scope : Scope) : Sx := ⟨c.N, relS scope c.sc, fun x => scope.names.lookup x == some .cell, c.lv⟩
theorem SX.blk {X : Cx} (s : SX G c X) (st : Shared) (H : Hp) (scope : Scope) (C : Addr) (cl : List (Str × Addr)) (fp : List Addr) : SX G (blkX c scope) (X.blk st H scope (compEnvC scope cl C X.env) fp) :=
  ⟨s.gb, s.N, s.nd, by show relS scope X.env.scope = relS scope c.sc; rw [s.sc], s.calm, s.room, s.grd, rfl⟩
end
end EV

set_option Elab.async false
set_option linter.all false
set_option maxRecDepth 100000
/-! EV6: list and dict comprehensions. -/
namespace EV
open PySem PySem.Spec L2
section
variable {K : PySem.W.Frag} {π1 π2 π3 : Bool} {fit : Si} {b : Bd} {tt : Tf} {te tk : Sf} {ts vs : List Nat} {m : Mp} {ex : Addr → Prop} {σ : L2.St} {g1 : Sg} {H H1 : Hp} {p : Addr}

theorem fLc_some {g g' : Sg} {d : D} (e : fLc fit b tt te vs g = some (d, g')) : ∃ ds g1 rs gE, fit g = some (ds, g1) ∧ noOwn g1 vs = true ∧ lcGo b tt te vs ds (wipeG g1 vs) = some (rs, gE) ∧ rs.length ≤ sizeLine ∧ d = .list rs ∧ g' = backG g1 gE vs := by
  unfold fLc at e
  cases h1 : fit g with
  | none => simp [h1] at e
  | some y =>
    simp only [h1, Option.bind_some] at e
    split at e
    · rename_i hn
      cases h2 : lcGo b tt te vs y.1 (wipeG y.2 vs) with
      | none => simp [h2] at e
      | some r =>
        simp only [h2, Option.bind_some] at e
        split at e
        · cases e
          exact ⟨y.1, y.2, r.1, r.2, rfl, hn, h2, ‹_›, rfl, rfl⟩
        · cases e
    · cases e
/-- what stands between two turns, the new thing at p (o: what it holds) -/
structure LcI (K : PySem.W.Frag) (m : Mp) (ex : Addr → Prop) (σ : L2.St) (H1 : Hp) (g1 : Sg) (vs : List Nat) (p : Addr) (π : Bool) (H : Hp) (gi : Sg) (o : HO) : Prop where
  sr : SR K m (exP ex p) (L2.wipe σ vs) H gi
  wp : wipeG gi vs = gi
  at' : H p = some o
  vis : ∀ c u, ¬ Hd m ex c → H1 c = some u → H c = some u
  exk : ∀ c, ex c → H c = H1 c
  pur : π = true → gi = wipeG g1 vs ∧ Grow H1 H
theorem LcI.start {π : Bool} {o : HO} (S : SR K m ex σ H1 g1) (np : H1 p = none) (mv : ∀ v ∈ vs, m v = none) : LcI K m ex σ H1 g1 vs p π (upd H1 p o) (wipeG g1 vs) o :=
  ⟨(S.hide np).wipe mv, wipeG_idem, upd_same, fun c u _ e => grow_new np c u e, fun c hc => upd_ne fun z => (by obtain ⟨u, e⟩ := S.exl c hc; rw [z, np] at e; cases e), fun _ => ⟨rfl, grow_new np⟩⟩
theorem ne_p (S : SR K m ex σ H1 g1) (np : H1 p = none) {c : Addr} (hc : ex c) : c ≠ p := fun z => by
  obtain ⟨u, e⟩ := S.exl c hc
  rw [z, np] at e; cases e
/-- a turn's end: what ran from H' on, the thing at p then holds o' -/
theorem LcI.turn {π : Bool} {gi g2 g3 : Sg} {σ2 : L2.St} {H' H3 : Hp} {o o' : HO} (S1 : SR K m ex σ H1 g1) (np : H1 p = none) (mv : ∀ v ∈ vs, m v = none) (hts : ∀ t ∈ ts, t ∈ vs) (I : LcI K m ex σ H1 g1 vs p π H gi o) (gr : Grow H H')
    (pt : TgP K m (exP ex p) (L2.wipe σ vs) H' gi ts m σ2 g2) (pp : Po K m (exP ex p) σ2 H' g2 π g3 H3) : LcI K m ex σ H1 g1 vs p π (upd H3 p o') (wipeG g3 vs) o' := by
  have hp : exP ex p p := .inr rfl
  have hw : L2.wipe σ2 vs = L2.wipe σ vs := by
    rw [← wipe_idem (σ := σ)]
    exact wipe_eq pt.ls fun j hj => pt.so j fun z => hj (hts j z)
  refine ⟨?_, wipeG_idem, upd_same, fun c u nc e => ?_, fun c hc => ?_, fun hπ => ?_⟩
  · rw [← hw]
    exact (pp.sr.wrex hp).wipe mv
  · have ne : c ≠ p := fun z => by rw [z, np] at e; cases e
    have nx : ¬ Hd m (exP ex p) c := fun z => (exP_hd.mp z).elim nc ne
    rw [upd_ne ne]
    exact pp.vis c u nx (gr c u (I.vis c u nc e))
  · have ne := ne_p S1 np hc
    rw [upd_ne ne, pp.exk c (.inl hc)]
    obtain ⟨u, e⟩ := S1.exl c hc
    have e2 : H c = some u := by rw [I.exk c hc]; exact e
    rw [gr c u e2, e]
  · obtain ⟨e1, e2⟩ := I.pur hπ
    obtain ⟨e3, e4⟩ := pp.pur hπ
    refine ⟨?_, fun c u e => ?_⟩
    · rw [e3, wipeG_eq pt.lg fun j hj => pt.go j fun z => hj (hts j z), I.wp, e1]
    · have ne : c ≠ p := fun z => by rw [z, np] at e; cases e
      rw [upd_ne ne]
      exact e4 c u (gr c u (e2 c u e))
theorem LcI.fin {π0 π : Bool} {H0 : Hp} {g gi : Sg} {o : HO} (p1 : Po K m ex σ H0 g π0 g1 H1) (np : H1 p = none) (mv : ∀ v ∈ vs, m v = none) (I : LcI K m ex σ H1 g1 vs p π H gi o) : PoF K m ex σ H0 g (π0 && π) (backG g1 gi vs) p H := by
  refine ⟨(p1.sr.hide (o := o) np).back I.sr mv fun c u nc e => ?_, fun c u nc e => I.vis c u nc (p1.vis c u nc e), fun c hc => (I.exk c hc).trans (p1.exk c hc), fun h => ?_, p1.none (p1.sr.hide (o := o) np) np⟩
  · have ne : c ≠ p := fun z => nc (exP_hd.mpr (.inr z))
    rw [upd_ne ne] at e
    exact I.vis c u (fun z => nc (exP_hd.mpr (.inl z))) e
  · obtain ⟨h1, h2⟩ := Bool.and_eq_true_iff.mp h
    obtain ⟨e1, e2⟩ := p1.pur h1
    obtain ⟨e3, e4⟩ := I.pur h2
    exact ⟨by rw [e3, backG_self, e1], e2.trans e4⟩
theorem drop_cons {α : Type} {xs : List α} {i : Nat} {x : α} (h : xs[i]? = some x) : xs.drop i = x :: xs.drop (i + 1) := by
  obtain ⟨hl, e⟩ := List.getElem?_eq_some_iff.mp h
  rw [List.drop_eq_getElem_cons hl, e]
theorem wr_ext {p : Addr} {o : HO} : Ext (hid (Hd m (exP ex p)) H) (hid (Hd m (exP ex p)) (upd H p o)) :=
  (hid_grow (fun _ _ _ z => z) fun c u n e => by rw [upd_ne fun z => n (exP_hd.mpr (.inr z))]; exact e).ext
/-- a list comprehension's turns, over what gives ds -/
theorem tlc_core (hts : ∀ t ∈ ts, t ∈ vs) {Q : VK} {J : L2.It} {ds rs : List D} {gE : Sg} (S1 : SR K m ex σ H1 g1) (itd : ItD K (Hd m ex) H1 ds J) (hno : noOwn g1 vs = true) (e2 : lcGo b tt te vs ds (wipeG g1 vs) = some (rs, gE)) (hz : rs.length ≤ sizeLine)
    (q : ∀ p H', PoF K m ex σ H1 g1 (π2 && π3) (backG g1 gE vs) p H' → Ow K (hid (Hd m (exP ex p)) H') H' p (.list rs) → Q (.ref p) H') :
    tLc (fun _ _ R => R J H1) (TFG K ts b) (TFT K π2 tt) (TF K π3 true te) vs σ H Q := by
  refine fun p np => ?_
  have p1 : Po K m ex σ H1 g1 true g1 H1 := .refl S1
  obtain ⟨Y, wk, hY⟩ := itd
  have mv := noOwn_m p1.sr hno
  have hp : exP ex p p := .inr rfl
  refine lc_it wk (fun i H => ∃ gi acc accD rest, LcI K m ex σ H1 g1 vs p (π2 && π3) H gi (.lst acc) ∧ RpL K (hid (Hd m (exP ex p)) H) acc accD ∧ lcGo b tt te vs (ds.drop i) gi = some (rest, gE) ∧ accD ++ rest = rs)
    ⟨_, [], [], rs, .start p1.sr np mv, .nil, e2, rfl⟩ (fun i H _ ⟨gi, acc, accD, rest, I, _⟩ => I.vis) ?_ ?_
  · rintro i x H H' hlt ⟨gi, acc, accD, rest, I, racc, e3, e4⟩ y
    obtain ⟨gr, dd, hdd, rx⟩ := hY i H x H' (Hd m (exP ex p)) I.vis (fun c u e z => (exP_hd.mp z).elim _root_.id fun z => by rw [z, np] at e; cases e) (fun c z => I.sr.hdl z) hlt y
    rw [drop_cons hdd] at e3
    unfold lcGo at e3
    cases hb : b dd gi with
    | none => simp [hb] at e3
    | some g2 =>
      cases ht : tt g2 with
      | none => simp [hb, ht] at e3
      | some tp =>
        simp only [hb, ht, Option.bind_some] at e3
        refine ⟨m, exP ex p, gi, dd, g2, I.sr.grow gr, rx, hb, fun m' σ2 pt => ?_⟩
        have em : m' = m := by
          funext j
          by_cases hj : j ∈ ts
          · rw [pt.mi j hj, mv j (hts j hj)]
          · exact pt.mo j hj
        subst em
        refine ⟨?_, m', exP ex p, g2, tp.1, tp.2, pt.sr, ht, fun H3 p3 => ?_⟩
        · rw [← wipe_idem (σ := σ)]
          exact wipe_eq pt.ls fun j hj => pt.so j fun z => hj (hts j z)
        have a' : H' p = some (.lst acc) := gr _ _ I.at'
        have a3 : H3 p = some (.lst acc) := by rw [p3.exk p hp]; exact a'
        have x1 : Ext (hid (Hd m' (exP ex p)) H) (hid (Hd m' (exP ex p)) H3) := ⟨fun c u r => p3.ext.t _ _ ((hid_grow (fun _ _ _ z => z) fun c u _ e => gr c u e).ext.t _ _ r), fun c u r => p3.ext.l _ _ ((hid_grow (fun _ _ _ z => z) fun c u _ e => gr c u e).ext.l _ _ r),
          fun c u r => p3.ext.s _ _ ((hid_grow (fun _ _ _ z => z) fun c u _ e => gr c u e).ext.s _ _ r), fun c u r => p3.ext.d _ _ ((hid_grow (fun _ _ _ z => z) fun c u _ e => gr c u e).ext.d _ _ r)⟩
        by_cases ht1 : tp.1 = true
        · rw [if_pos ht1] at e3
          dsimp only
          rw [if_pos ht1]
          cases hq : te tp.2 with
          | none => simp [hq] at e3
          | some tq =>
            cases hr : lcGo b tt te vs (ds.drop (i + 1)) (wipeG tq.2 vs) with
            | none => simp [hq, hr] at e3
            | some rr =>
              simp only [hq, hr, Option.bind_some] at e3
              cases e3
              refine ⟨m', exP ex p, tp.2, tq.1, tq.2, p3.sr, hq, fun yv H4 p4 r4 => ⟨acc, by rw [p4.exk p hp]; exact a3, ?_, wipeG tq.2 vs, acc ++ [yv], accD ++ [tq.1], rr.1, ?_, ?_, ?_, ?_⟩⟩
              · have l1 := racc.length
                rw [← e4] at hz
                simp at hz
                omega
              · exact I.turn p1.sr np mv hts gr pt (p3.trans p4)
              · exact ((racc.mono x1).mono p4.ext).mono wr_ext |>.append (.cons (r4.strong.mono wr_ext) .nil)
              · exact hr
              · rw [List.append_assoc]; exact e4
        · rw [if_neg ht1] at e3
          dsimp only
          rw [if_neg ht1]
          have z := I.turn (o' := .lst acc) p1.sr np mv hts gr pt (p3.weak (π := π2 && π3) fun z => (Bool.and_eq_true_iff.mp z).1)
          have eu : upd H3 p (.lst acc) = H3 := by
            funext c
            by_cases hc : c = p
            · rw [hc, upd_same, a3]
            · exact upd_ne hc
          rw [eu] at z
          exact ⟨_, acc, accD, rest, z, racc.mono x1, e3, e4⟩
  · rintro H ⟨gi, acc, accD, rest, I, racc, e3, e4⟩
    rw [List.drop_length] at e3
    cases e3
    rw [List.append_nil] at e4
    subst e4
    exact q p H (by have z := I.fin p1 np mv; rwa [Bool.true_and] at z) (.lst I.at' racc)
/-- a list comprehension's reading -/
theorem tlc_reads (hts : ∀ t ∈ ts, t ∈ vs) {Q : VK} (h : TFF K (π1 && (π2 && π3)) (fLc fit b tt te vs) σ H Q) : tLc (TFI K π1 fit) (TFG K ts b) (TFT K π2 tt) (TF K π3 true te) vs σ H Q := by
  obtain ⟨m, ex, g, d, g', S, e, q⟩ := h
  obtain ⟨ds, g1, rs, gE, e1, hno, e2, hz, rfl, rfl⟩ := fLc_some e
  exact ⟨m, ex, g, ds, g1, S, e1, fun J H1 p1 itd => tlc_core (H := H1) hts p1.sr itd hno e2 hz fun p H' a w => q p H' (a.after p1) w⟩
end
section
variable {G : Gb} {c : Sx} {pos : Pos} {π1 π2 π3 : Bool} {elt tg it : Expr} {ifs : List Expr} {scope : Scope} {own : List (Str × Nat)} {fit : Si} {b : Bd} {tt : Tf} {te : Sf} {ts : List Nat}
/-- [elt for tg in it if ..] -/
theorem jf_lc (own : List (Str × Nat)) (hi : JI G c π1 tg it fit) (hg : JG G (blkX c scope) tg ts b) (ht : JTs G (blkX c scope) π2 ifs tt) (he : J G (blkX c scope) π3 true elt te) (ok : blkC c.N c.sc scope own = true := by decide +kernel) (hts : ∀ t ∈ ts, t ∈ own.map (·.2) := by decide)
    (hs : ∀ env x, foldedSetIterable it env x = pure x := by intro _ _; rfl) : JF G c (π1 && (π2 && π3)) (.ListComp elt [⟨tg, it, ifs, 0⟩] scope pos) (fLc fit b tt te (own.map (·.2))) := fun X s =>
  pe_weak (pe_lc s.calm (by rw [s.N]; exact s.nd) (hi X s) (by rw [s.N, s.sc]; exact blkOk_by ok) (fun st H C cl fp => hg _ (s.blk st H scope C cl fp)) (fun st H C cl fp => ht _ (s.blk st H scope C cl fp)) (fun st H C cl fp => he _ (s.blk st H scope C cl fp)) (hs _)) fun σ H Q h => tlc_reads hts h
end
end EV

set_option Elab.async false
set_option linter.all false
set_option maxRecDepth 100000
/-! EV7: statements. -/
namespace EV
open PySem PySem.Spec L2

inductive Out where
  | nx (g : Sg)
  | rt (d : D) (g : Sg)
  | bk (g : Sg)
  | ct (g : Sg)
abbrev Ss := Sg → Option Out

/-- behind a statement; pn: the slots that keep what they own -/
structure StP (K : PySem.W.Frag) (pn : List Nat) (m : Mp) (ex ex' : Addr → Prop) (H : Hp) (m' : Mp) (σ' : L2.St) (H' : Hp) (g' : Sg) : Prop where
  sr : SR K m' ex' σ' H' g'
  vis : ∀ b o, ¬ Hd m ex b → H b = some o → H' b = some o
  exk : ∀ b, ex b → H' b = H b
  own : ∀ i a, m' i = some a → (∃ j, m j = some a) ∨ H a = none
  pin : ∀ i ∈ pn, m' i = m i
  non : ∀ b, H' b = none → H b = none
section
variable {K : PySem.W.Frag} {pn ts : List Nat} {m m' m1 m2 : Mp} {ex ex' : Addr → Prop} {σ σ1 σ2 : L2.St} {H H1 H2 : Hp} {g g1 g2 : Sg} {π : Bool} {p a : Addr} {d : D} {i : Nat}
theorem non_of {H' : Hp} (hd : ∀ b, Hd m ex b → ∃ o, H' b = some o) (vis : ∀ b o, ¬ Hd m ex b → H b = some o → H' b = some o) : ∀ b, H' b = none → H b = none := fun b n => by
  cases e : H b with
  | none => rfl
  | some o =>
    by_cases hb : Hd m ex b
    · obtain ⟨u, z⟩ := hd b hb
      rw [n] at z; cases z
    · rw [vis b o hb e] at n; cases n
theorem StP.refl (S : SR K m ex σ H g) : StP K pn m ex ex H m σ H g := ⟨S, fun _ _ _ e => e, fun _ _ => rfl, fun i a h => .inl ⟨i, h⟩, fun _ _ => rfl, fun _ h => h⟩
theorem StP.po (p : Po K m ex σ H g π g1 H1) : StP K pn m ex ex H m σ H1 g1 := ⟨p.sr, p.vis, p.exk, fun i a h => .inl ⟨i, h⟩, fun _ _ => rfl, non_of (fun b h => p.sr.hdl h) p.vis⟩
theorem StP.pof (q : PoF K m ex σ H g π g1 p H1) : StP K pn m ex (exP ex p) H m σ H1 g1 :=
  ⟨q.sr, q.vis, q.exk, fun i a h => .inl ⟨i, h⟩, fun _ _ => rfl, non_of (fun b h => q.sr.hdl (exP_hd.mpr (.inl h))) q.vis⟩
theorem StP.tg (t : TgP K m ex σ H g ts m1 σ1 g1) (hd : ∀ i ∈ ts, i ∉ pn) : StP K pn m ex ex H m1 σ1 H g1 :=
  ⟨t.sr, fun _ _ _ e => e, fun _ _ => rfl, fun i a h => by
    by_cases hi : i ∈ ts
    · rw [t.mi i hi] at h; cases h
    · rw [t.mo i hi] at h; exact .inl ⟨i, h⟩, fun i hi => t.mo i fun z => hd i z hi, fun _ h => h⟩
theorem StP.hd' (a : StP K pn m ex ex H m1 σ1 H1 g1) {b : Addr} {o : HO} (n : ¬ Hd m ex b) (e : H b = some o) : ¬ Hd m1 ex b := fun z => by
  rcases z with z | ⟨i, z⟩
  · exact n (.inl z)
  · rcases a.own i b z with ⟨j, q⟩ | q
    · exact n (.inr ⟨j, q⟩)
    · rw [q] at e; cases e
theorem StP.trans (a : StP K pn m ex ex H m1 σ1 H1 g1) (b : StP K pn m1 ex ex' H1 m2 σ2 H2 g2) : StP K pn m ex ex' H m2 σ2 H2 g2 := by
  refine ⟨b.sr, fun c o n e => b.vis c o (a.hd' n e) (a.vis c o n e), fun c h => (b.exk c h).trans (a.exk c h), fun i c h => ?_, fun i hi => (b.pin i hi).trans (a.pin i hi), fun c h => a.non c (b.non c h)⟩
  rcases b.own i c h with ⟨j, q⟩ | q
  · exact a.own j c q
  · exact .inr (a.non c q)
/-- a value is given back: one to keep, or (ρ) a list or dict of its own -/
def RtP (K : PySem.W.Frag) (pn : List Nat) (ρ : Bool) (m : Mp) (ex : Addr → Prop) (H : Hp) (g' : Sg) (d : D) (v : V) (H' : Hp) : Prop := ∃ m' σ',
  (ρ = false ∧ StP K pn m ex ex H m' σ' H' g' ∧ Rp K (hid (Hd m' ex) H') v d) ∨
  (ρ = true ∧ ∃ p, v = .ref p ∧ StP K pn m ex (exP ex p) H m' σ' H' g' ∧ Ow K (hid (Hd m' (exP ex p)) H') H' p d ∧ ((∃ j, j ∉ pn ∧ m j = some p) ∨ H p = none))
theorem RtP.after {ρ : Bool} {v : V} (a : StP K pn m ex ex H m1 σ1 H1 g1) (b : RtP K pn ρ m1 ex H1 g2 d v H2) : RtP K pn ρ m ex H g2 d v H2 := by
  obtain ⟨m', σ', b⟩ := b
  refine ⟨m', σ', ?_⟩
  rcases b with ⟨h, b, r⟩ | ⟨h, p, e, b, w, f⟩
  · exact .inl ⟨h, a.trans b, r⟩
  · refine .inr ⟨h, p, e, a.trans b, w, ?_⟩
    rcases f with ⟨j, nj, f⟩ | f
    · rcases a.own j p f with ⟨k, z⟩ | z
      · refine .inl ⟨k, fun hk => nj ?_, z⟩
        have := a.sr.inj j k p f ((a.pin k hk).trans z)
        rw [this]; exact hk
      · exact .inr z
    · exact .inr (a.non p f)
def Aft (K : PySem.W.Frag) (pn : List Nat) (ρ : Bool) (m : Mp) (ex : Addr → Prop) (H : Hp) (D : Ends) : Out → Prop
  | .nx g' => ∀ m' σ' H', StP K pn m ex ex H m' σ' H' g' → D.nx σ' H'
  | .rt d g' => ∀ v H', RtP K pn ρ m ex H g' d v H' → D.rt v H'
  | .bk g' => ∀ m' σ' H', StP K pn m ex ex H m' σ' H' g' → D.bk σ' H'
  | .ct g' => ∀ m' σ' H', StP K pn m ex ex H m' σ' H' g' → D.ct σ' H'
theorem Aft.after {ρ : Bool} {D : Ends} {o : Out} (a : StP K pn m ex ex H m1 σ1 H1 g1) (b : Aft K pn ρ m ex H D o) : Aft K pn ρ m1 ex H1 D o := by
  cases o with
  | nx g' => exact fun m' σ' H' p => b m' σ' H' (a.trans p)
  | bk g' => exact fun m' σ' H' p => b m' σ' H' (a.trans p)
  | ct g' => exact fun m' σ' H' p => b m' σ' H' (a.trans p)
  | rt d g' => exact fun v H' p => b v H' (p.after a)
end
def TFS (K : PySem.W.Frag) (pn : List Nat) (ρ : Bool) (f : Ss) : TS := fun D σ H => ∃ m ex g o, SR K m ex σ H g ∧ f g = some o ∧ Aft K pn ρ m ex H D o
/-- where statements stand: what is pinned, whether what is returned is the caller's own -/
def JS (G : Gb) (c : Sx) (pn : List Nat) (ρ : Bool) (st : Stmt) (f : Ss) : Prop := ∀ X, SX G c X → PS X st (TFS G.K pn ρ f)
def JSs (G : Gb) (c : Sx) (pn : List Nat) (ρ : Bool) (st : List Stmt) (f : Ss) : Prop := ∀ X, SX G c X → PSs X st (TFS G.K pn ρ f)
theorem ps_weak {X : Cx} {e : Stmt} {t t' : TS} (h : PS X e t) (w : ∀ D σ H, t' D σ H → t D σ H) : PS X e t' := ⟨fun pins s σ H D I q => h.run pins s σ H D I (w D σ H q)⟩
theorem pss_weak {X : Cx} {e : List Stmt} {t t' : TS} (h : PSs X e t) (w : ∀ D σ H, t' D σ H → t D σ H) : PSs X e t' := ⟨fun pins s σ H D I q => h.run pins s σ H D I (w D σ H q)⟩
section
variable {G : Gb} {c : Sx} {pn ts : List Nat} {ρ : Bool} {st : Stmt} {sts sas sbs : List Stmt} {f fs ft : Ss} {pos : Pos} {π π1 π2 τ : Bool} {a e it tg cc : Expr} {fa fb : Sf} {b : Bd} {i : Nat}
def fNx : Ss := fun g => some (.nx g)
def fSq (f r : Ss) : Ss := fun g => (f g).bind fun o => match o with
  | .nx g1 => r g1
  | o => some o
theorem seq_reads {K : PySem.W.Frag} {D : Ends} {σ : L2.St} {H : Hp} (h : TFS K pn ρ (fSq f fs) D σ H) : tSeq (TFS K pn ρ f) (TFS K pn ρ fs) D σ H := by
  obtain ⟨m, ex, g, o, S, e, q⟩ := h
  unfold fSq at e
  cases h1 : f g with
  | none => rw [h1] at e; cases e
  | some o1 =>
    simp only [h1, Option.bind_some] at e
    refine ⟨m, ex, g, o1, S, h1, ?_⟩
    cases o1 with
    | nx g1 => exact fun m1 σ1 H1 p1 => ⟨m1, ex, g1, o, p1.sr, e, q.after p1⟩
    | rt d g1 => cases e; exact q
    | bk g1 => cases e; exact q
    | ct g1 => cases e; exact q
theorem jss_nil : JSs G c pn ρ [] fNx := fun X s => pss_weak pss_nil fun D σ H ⟨m, ex, g, o, S, e, q⟩ => by
  cases e
  exact q m σ H (.refl S)
theorem jss_cons (h1 : JS G c pn ρ st f) (h2 : JSs G c pn ρ sts fs) : JSs G c pn ρ (st :: sts) (fSq f fs) := fun X s => pss_weak (pss_cons (h1 X s) (h2 X s)) fun D σ H h => seq_reads h
theorem jss_one (h1 : JS G c pn ρ st f) : JSs G c pn ρ [st] f := fun X s => pss_one (h1 X s)
/-- a slot's own thing is only read from here on -/
def frz (i : Nat) (f : Ss) : Ss := fun g => match g[i]? with
  | some (.own _ d) => f (g.set i (.val d))
  | _ => none
theorem SR.frz {K : PySem.W.Frag} {m : Mp} {ex : Addr → Prop} {σ : L2.St} {H : Hp} {g : Sg} {p : Bool} {d : D} (S : SR K m ex σ H g) (h : g[i]? = some (.own p d)) : SR K (del (del m i) i) ex σ H (g.set i (.val d)) := by
  obtain ⟨a, h1, h2, h3⟩ := S.slot i _ h
  have nh : ¬ Hd (del m i) ex a := fun z => by
    rcases z with z | ⟨j, z⟩
    · exact S.nex i a h1 z
    · obtain ⟨n, z⟩ := del_sub z
      exact n (S.inj j i a z h1)
  have gr : Grow (hid (Hd m ex) H) (hid (Hd (del m i) ex) H) := hid_grow (fun _ _ _ z => del_hd z) fun _ _ _ q => q
  have r : Rp K (hid (Hd (del m i) ex) H) (.ref a) d := by
    cases h3 with
    | lst q r => exact .lst (hid_iff.mpr ⟨nh, q⟩) (r.mono gr.ext)
    | dic q r => exact .dic (.inl (hid_iff.mpr ⟨nh, q⟩)) (r.mono gr.ext)
  have z := (S.sete (i := i) (x := some (.ref a))).setv (i := i) (v := .ref a) (d := d) r
  have hi := (List.getElem?_eq_some_iff.mp h2)
  have e : σ.set i (some (.ref a)) = σ := by
    obtain ⟨hl, hv⟩ := hi
    rw [← hv]; exact List.set_getElem_self hl
  rw [List.set_set, List.set_set, e] at z
  exact z
theorem StP.frz {K : PySem.W.Frag} {m : Mp} {ex : Addr → Prop} {σ : L2.St} {H : Hp} {g : Sg} {p : Bool} {d : D} (S : SR K m ex σ H g) (h : g[i]? = some (.own p d)) (hp : i ∉ pn) : StP K pn m ex ex H (del (del m i) i) σ H (g.set i (.val d)) :=
  ⟨S.frz h, fun _ _ _ e => e, fun _ _ => rfl, fun j a z => .inl ⟨j, (del_sub (del_sub z).2).2⟩, fun j hj => by
    have : j ≠ i := fun z => hp (z ▸ hj)
    unfold del; rw [if_neg this, if_neg this], fun _ h => h⟩
theorem frz_reads {K : PySem.W.Frag} {D : Ends} {σ : L2.St} {H : Hp} (hp : i ∉ pn) (h : TFS K pn ρ (frz i f) D σ H) : TFS K pn ρ f D σ H := by
  obtain ⟨m, ex, g, o, S, e, q⟩ := h
  unfold EV.frz at e
  split at e
  · rename_i p d hg
    have P := StP.frz (pn := pn) S hg hp
    exact ⟨_, ex, _, o, P.sr, e, q.after P⟩
  · cases e
theorem jss_frz (i : Nat) (h : JSs G c pn ρ sts f) (hp : i ∉ pn := by decide) : JSs G c pn ρ sts (frz i f) := fun X s => pss_weak (h X s) fun D σ H h => frz_reads hp h
theorem js_frz (i : Nat) (h : JS G c pn ρ st f) (hp : i ∉ pn := by decide) : JS G c pn ρ st (frz i f) := fun X s => ps_weak (h X s) fun D σ H h => frz_reads hp h

/-! ### small ones -/
def fNo : Ss := fun _ => none
theorem js_never : JS G c pn ρ st fNo := fun X s => ps_weak ps_never fun D σ H ⟨m, ex, g, o, S, e, q⟩ => by cases e
theorem jss_never : JSs G c pn ρ sts fNo := fun X s => pss_weak pss_never fun D σ H ⟨m, ex, g, o, S, e, q⟩ => by cases e
theorem js_pass : JS G c pn ρ (.Pass pos) fNx := fun X s => ps_weak ps_pass fun D σ H ⟨m, ex, g, o, S, e, q⟩ => by cases e; exact q m σ H (.refl S)
theorem js_doc {x j pos'} : JS G c pn ρ (.Expr (.Constant (.str x) j pos) pos') fNx := fun X s => ps_weak ps_doc fun D σ H ⟨m, ex, g, o, S, e, q⟩ => by cases e; exact q m σ H (.refl S)
def fBk : Ss := fun g => some (.bk g)
def fCt : Ss := fun g => some (.ct g)
theorem js_break : JS G c pn ρ (.Break pos) fBk := fun X s => ps_weak ps_break fun D σ H ⟨m, ex, g, o, S, e, q⟩ => by cases e; exact q m σ H (.refl S)
theorem js_cont : JS G c pn ρ (.Continue pos) fCt := fun X s => ps_weak ps_continue fun D σ H ⟨m, ex, g, o, S, e, q⟩ => by cases e; exact q m σ H (.refl S)
/-- a value dropped -/
def fEx (f : Sf) : Ss := fun g => (f g).map fun p => .nx p.2
theorem js_expr (h : J G c π τ a fa) (hs : ∀ env, swapsWith a none pos.line env = pure false := by intro _; rfl) : JS G c pn ρ (.Expr a pos) (fEx fa) := fun X s => ps_weak (ps_expr (h X s) (hs _)) fun D σ H ⟨m, ex, g, o, S, e, q⟩ => by
  unfold fEx at e
  cases h1 : fa g with
  | none => rw [h1] at e; cases e
  | some y =>
    rw [h1] at e
    cases e
    exact ⟨m, ex, g, y.1, y.2, S, h1, fun v H' p r => q m σ H' (.po p)⟩
/-- return -/
def fRet (f : Sf) : Ss := fun g => (f g).map fun p => .rt p.1 p.2
theorem js_ret (h : J G c π true a fa) : JS G c pn false (.Return (some a) pos) (fRet fa) := fun X s => ps_weak (ps_ret (h X s)) fun D σ H ⟨m, ex, g, o, S, e, q⟩ => by
  unfold fRet at e
  cases h1 : fa g with
  | none => rw [h1] at e; cases e
  | some y =>
    rw [h1] at e
    cases e
    exact ⟨m, ex, g, y.1, y.2, S, h1, fun v H' p r => q v H' ⟨m, σ, .inl ⟨rfl, .po p, r.strong⟩⟩⟩
theorem js_retF (h : JF G c π a fa) : JS G c pn true (.Return (some a) pos) (fRet fa) := fun X s => ps_weak (ps_ret (h X s)) fun D σ H ⟨m, ex, g, o, S, e, q⟩ => by
  unfold fRet at e
  cases h1 : fa g with
  | none => rw [h1] at e; cases e
  | some y =>
    rw [h1] at e
    cases e
    exact ⟨m, ex, g, y.1, y.2, S, h1, fun p H' r w => q _ H' ⟨m, σ, .inr ⟨rfl, p, rfl, .pof r, w, .inr r.new⟩⟩⟩
def fRetN : Ss := fun g => some (.rt .none g)
theorem js_retN : JS G c pn false (.Return none pos) fRetN := fun X s => ps_weak ps_retN fun D σ H ⟨m, ex, g, o, S, e, q⟩ => by
  cases e
  exact q .non H ⟨m, σ, .inl ⟨rfl, .refl S, .non⟩⟩
/-- return of an own thing -/
def fRetO (i : Nat) : Ss := fun g => match g[i]? with
  | some (.own _ d) => some (.rt d (g.set i .emp))
  | _ => none
theorem SR.give {K : PySem.W.Frag} {m : Mp} {ex : Addr → Prop} {σ : L2.St} {H : Hp} {g : Sg} {p : Bool} {d : D} (S : SR K m ex σ H g) (h : g[i]? = some (.own p d)) : ∃ a, m i = some a ∧ σ[i]? = some (some (.ref a)) ∧ SR K (del m i) (exP ex a) σ H (g.set i .emp) ∧
    Ow K (hid (Hd (del m i) (exP ex a)) H) H a d := by
  obtain ⟨a, h1, h2, h3⟩ := S.slot i _ h
  have hh : ∀ b, Hd (del m i) (exP ex a) b → Hd m ex b := fun b z => by
    rcases exP_hd.mp z with z | z
    · exact del_hd z
    · rw [z]; exact .inr ⟨i, h1⟩
  have gr : Grow (hid (Hd m ex) H) (hid (Hd (del m i) (exP ex a)) H) := hid_grow (fun b _ _ z => hh b z) fun _ _ _ q => q
  refine ⟨a, h1, h2, ⟨by simp [S.len], fun x y z e1 e2 => S.inj x y z (del_sub e1).2 (del_sub e2).2, fun j b z q => ?_, fun b z => ?_, fun j b z => ?_, fun j s z => ?_⟩, h3.mono gr.ext rfl⟩
  · obtain ⟨n, z⟩ := del_sub z
    rcases q with q | q
    · exact S.nex j b z q
    · rw [q] at z; exact n (S.inj j i a z h1)
  · rcases z with z | z
    · exact S.exl b z
    · rw [z]; exact h3.some
  · obtain ⟨n, z⟩ := del_sub z
    obtain ⟨p', d', e⟩ := S.own j b z
    exact ⟨p', d', by rw [List.getElem?_set_ne (Ne.symm n)]; exact e⟩
  · by_cases hj : i = j
    · subst hj
      rw [List.getElem?_set] at z
      split at z
      · split at z
        · cases z; trivial
        · cases z
      · contradiction
    · rw [List.getElem?_set_ne hj] at z
      have := S.slot j s z
      cases s with
      | emp => trivial
      | val d => obtain ⟨w, h1, h2⟩ := this; exact ⟨w, h1, h2.mono gr.ext⟩
      | own p d =>
        obtain ⟨b, e1, e2, e3⟩ := this
        exact ⟨b, by unfold del; rw [if_neg (Ne.symm hj)]; exact e1, e2, e3.mono gr.ext rfl⟩
theorem js_retO (i : Nat) {x : Str} {k : Pos} (hN : c.N[i]? = some x := by rfl) (hv : Vis c.sc x := by first | exact Or.inl rfl | exact Or.inr (Or.inl rfl) | exact Or.inr (Or.inr rfl))
    (hd : (x == ("__debug__" : Str)) = false := by decide) (hcd : (x == ("__classdict__" : Str)) = false := by decide) (hp : i ∉ pn := by decide) : JS G c pn true (.Return (some (.Name x k)) pos) (fRetO i) := fun X s => by
  refine ps_weak (ps_ret (pe_var (i := i) (x := x) (by rw [s.N]; exact hN) (by rw [s.sc]; exact hv) hd hcd)) fun D σ H ⟨m, ex, g, o, S, e, q⟩ => ?_
  unfold fRetO at e
  split at e
  · rename_i p d hg
    cases e
    obtain ⟨a, h1, h2, h3, h4⟩ := S.give hg
    refine ⟨_, h2, q _ H ⟨del m i, σ, .inr ⟨rfl, a, rfl, ⟨h3, fun _ _ _ e => e, fun _ _ => rfl, fun j b z => .inl ⟨j, (del_sub z).2⟩, fun j hj => ?_, fun _ h => h⟩, h4, .inl ⟨i, hp, h1⟩⟩⟩⟩
    unfold del
    exact if_neg fun (z : j = i) => hp (z ▸ hj)
  · cases e

/-! ### assignments -/
/-- x = e -/
def fSet (i : Nat) (f : Sf) : Ss := fun g => (f g).bind fun p => if i < p.2.length then some (.nx (p.2.set i (.val p.1))) else none
def fOwn (i : Nat) (f : Sf) : Ss := fun g => (f g).bind fun p => if i < p.2.length then some (.nx (p.2.set i (.own false p.1))) else none
section
variable {K : PySem.W.Frag} {m : Mp} {ex : Addr → Prop} {σ : L2.St} {H H1 : Hp} {g g1 : Sg} {d : D} {D : Ends} {te : TE}
theorem StP.set {v : V} (S : SR K m ex σ H g) (r : Rp K (hid (Hd m ex) H) v d) (hp : i ∉ pn) : StP K pn m ex ex H (del m i) (σ.set i (some v)) H (g.set i (.val d)) :=
  ⟨S.setv r, fun _ _ _ e => e, fun _ _ => rfl, fun j a h => .inl ⟨j, (del_sub h).2⟩, fun j hj => by unfold del; exact if_neg fun (z : j = i) => hp (z ▸ hj), fun _ h => h⟩
theorem StP.seto {p : Addr} (S : SR K m ex σ H g) (q : PoF K m ex σ H g π g1 p H1) (w : Ow K (hid (Hd m (exP ex p)) H1) H1 p d) (hi : i < g1.length) (hp : i ∉ pn) :
    StP K pn m ex ex H (fun j => if j = i then some p else m j) (σ.set i (some (.ref p))) H1 (g1.set i (.own false d)) := by
  have n1 : ¬ Hd m ex p := S.fresh q.new
  refine ⟨q.sr.seto hi (fun z => n1 (.inl z)) (fun j z => n1 (.inr ⟨j, z⟩)) w, q.vis, q.exk, fun j a h => ?_, fun j hj => ?_, non_of (fun b h => q.sr.hdl (exP_hd.mpr (.inl h))) q.vis⟩
  · split at h
    · cases h; exact .inr q.new
    · exact .inl ⟨j, h⟩
  · exact if_neg fun (z : j = i) => hp (z ▸ hj)
theorem asgV (hw : ∀ σ H Q, TF K π true fa σ H Q → te σ H Q) (hp : i ∉ pn) (h : TFS K pn ρ (fSet i fa) D σ H) : tAsg te (gName i) D σ H := by
  obtain ⟨m, ex, g, o, S, e, q⟩ := h
  unfold fSet at e
  cases h1 : fa g with
  | none => rw [h1] at e; cases e
  | some y =>
    simp only [h1, Option.bind_some] at e
    split at e
    · cases e
      exact hw _ _ _ ⟨m, ex, g, y.1, y.2, S, h1, fun v H' p r => q _ _ _ ((StP.po p).trans (.set p.sr r.strong hp))⟩
    · cases e
theorem asgO (hw : ∀ σ H Q, TFF K π fa σ H Q → te σ H Q) (hp : i ∉ pn) (h : TFS K pn ρ (fOwn i fa) D σ H) : tAsg te (gName i) D σ H := by
  obtain ⟨m, ex, g, o, S, e, q⟩ := h
  unfold fOwn at e
  cases h1 : fa g with
  | none => rw [h1] at e; cases e
  | some y =>
    simp only [h1, Option.bind_some] at e
    split at e
    · cases e
      exact hw _ _ _ ⟨m, ex, g, y.1, y.2, S, h1, fun p H' r w => q _ _ _ (StP.seto S r w ‹_› hp)⟩
    · cases e
theorem tff_tf (h : TF K π true fa σ H Q) : TFF K π fa σ H Q := by
  obtain ⟨m, ex, g, d, g', S, e, q⟩ := h
  exact ⟨m, ex, g, d, g', S, e, fun p H' a w => q _ H' a.po (.of (a.rp w))⟩
end
theorem js_set (i : Nat) {x : Str} {pos' : Pos} (he : J G c π true e fa) (hi : c.N[i]? = some x := by rfl) (hx : Loc c.sc x := by first | exact Or.inl rfl | exact Or.inr rfl) (hf : c.fn x = true ∨ c.sc.names.lookup x = some .local := by first | exact Or.inl rfl | exact Or.inr rfl)
    (hp : i ∉ pn := by decide) (hs : ∀ env : Env, env.scope = c.sc → swapsWith e (some (.Name x pos')) pos.line env = pure false := by first | exact fun _ _ => rfl | (rintro ⟨⟩ rfl; rfl)) : JS G c pn ρ (.Assign [.Name x pos'] e pos) (fSet i fa) := fun X s =>
  ps_weak (ps_set (i := i) (by rw [s.N]; exact s.nd) (by rw [s.N]; exact hi) (by rw [s.sc]; exact hx) (he X s) (hs _ s.sc) (by rw [s.fn, s.sc]; exact hf)) fun D σ H h => asgV (fun _ _ _ h => h) hp h
theorem js_own (i : Nat) {x : Str} {pos' : Pos} (he : JF G c π e fa) (hi : c.N[i]? = some x := by rfl) (hx : Loc c.sc x := by first | exact Or.inl rfl | exact Or.inr rfl) (hf : c.fn x = true ∨ c.sc.names.lookup x = some .local := by first | exact Or.inl rfl | exact Or.inr rfl)
    (hp : i ∉ pn := by decide) (hs : ∀ env : Env, env.scope = c.sc → swapsWith e (some (.Name x pos')) pos.line env = pure false := by first | exact fun _ _ => rfl | (rintro ⟨⟩ rfl; rfl)) : JS G c pn ρ (.Assign [.Name x pos'] e pos) (fOwn i fa) := fun X s =>
  ps_weak (ps_set (i := i) (by rw [s.N]; exact s.nd) (by rw [s.N]; exact hi) (by rw [s.sc]; exact hx) (he X s) (hs _ s.sc) (by rw [s.fn, s.sc]; exact hf)) fun D σ H h => asgO (fun _ _ _ h => h) hp h
/-- x = [..] on one line, x a local -/
theorem js_setLc (i : Nat) {x : Str} {py spos : Pos} {elt : Expr} {ifs : List Expr} {scope : Scope} {fit : Si} {tt : Tf} {te : Sf} {π3 : Bool} (own : List (Str × Nat)) (hi : JI G c π1 tg it fit) (hg : JG G (blkX c scope) tg ts b) (ht : JTs G (blkX c scope) π2 ifs tt) (he : J G (blkX c scope) π3 true elt te)
    (hN : c.N[i]? = some x := by rfl) (hx : c.sc.names.lookup x = some .local := by rfl) (hk : c.sc.kind = .function := by rfl) (hl : (py.line == pos.line) = true := by rfl) (ha : (scope.names.any fun (n, k) => n == x && (k == .local || k == .cell)) = false := by decide)
    (ok : blkC c.N c.sc scope own = true := by decide +kernel) (hts : ∀ t ∈ ts, t ∈ own.map (·.2) := by decide) (hp : i ∉ pn := by decide) (hs : ∀ env x, foldedSetIterable it env x = pure x := by intro _ _; rfl) :
    JS G c pn ρ (.Assign [.Name x py] (.ListComp elt [⟨tg, it, ifs, 0⟩] scope pos) spos) (fSet i (fLc fit b tt te (own.map (·.2)))) := fun X s =>
  ps_weak (ps_setLc s.calm (by rw [s.N]; exact s.nd) (by rw [s.N]; exact hN) (by rw [s.sc]; exact hx) (sw_true (by rw [s.sc]; exact hk) (by rw [s.sc]; exact hx) hl ha) (hi X s) (by rw [s.N, s.sc]; exact blkOk_by ok)
    (fun st H C cl fp => hg _ (s.blk st H scope C cl fp)) (fun st H C cl fp => ht _ (s.blk st H scope C cl fp)) (fun st H C cl fp => he _ (s.blk st H scope C cl fp)) (hs _)) fun D σ H h => asgV (fun _ _ _ h => tlc_reads hts (tff_tf h)) hp h
theorem js_ownLc (i : Nat) {x : Str} {py spos : Pos} {elt : Expr} {ifs : List Expr} {scope : Scope} {fit : Si} {tt : Tf} {te : Sf} {π3 : Bool} (own : List (Str × Nat)) (hi : JI G c π1 tg it fit) (hg : JG G (blkX c scope) tg ts b) (ht : JTs G (blkX c scope) π2 ifs tt) (he : J G (blkX c scope) π3 true elt te)
    (hN : c.N[i]? = some x := by rfl) (hx : c.sc.names.lookup x = some .local := by rfl) (hk : c.sc.kind = .function := by rfl) (hl : (py.line == pos.line) = true := by rfl) (ha : (scope.names.any fun (n, k) => n == x && (k == .local || k == .cell)) = false := by decide)
    (ok : blkC c.N c.sc scope own = true := by decide +kernel) (hts : ∀ t ∈ ts, t ∈ own.map (·.2) := by decide) (hp : i ∉ pn := by decide) (hs : ∀ env x, foldedSetIterable it env x = pure x := by intro _ _; rfl) :
    JS G c pn ρ (.Assign [.Name x py] (.ListComp elt [⟨tg, it, ifs, 0⟩] scope pos) spos) (fOwn i (fLc fit b tt te (own.map (·.2)))) := fun X s =>
  ps_weak (ps_setLc s.calm (by rw [s.N]; exact s.nd) (by rw [s.N]; exact hN) (by rw [s.sc]; exact hx) (sw_true (by rw [s.sc]; exact hk) (by rw [s.sc]; exact hx) hl ha) (hi X s) (by rw [s.N, s.sc]; exact blkOk_by ok)
    (fun st H C cl fp => hg _ (s.blk st H scope C cl fp)) (fun st H C cl fp => ht _ (s.blk st H scope C cl fp)) (fun st H C cl fp => he _ (s.blk st H scope C cl fp)) (hs _)) fun D σ H h => asgO (fun _ _ _ h => tlc_reads hts h) hp h
/-- targets -/
def fAsg (f : Sf) (b : Bd) : Ss := fun g => (f g).bind fun p => (b p.1 p.2).map .nx
theorem js_asg (he : J G c π true e fa) (hg : JG G c tg ts b) (hp : ∀ t ∈ ts, t ∉ pn := by decide) (hs : ∀ env, swapsWithSole [tg] e pos.line env = pure false := by intro _; rfl) (hw : ∀ env : Env, env.scope = c.sc → swappedStores [tg] e env = pure none := by first | exact fun _ _ => rfl | (rintro ⟨⟩ rfl; rfl))
    (h1 : ∀ env, (assignEach [tg] env).map (·.2) = [assign tg env] := by intro _; rfl) : JS G c pn ρ (.Assign [tg] e pos) (fAsg fa b) := fun X s =>
  ps_weak (ps_asg (he X s) (hg X s) (hs _) (hw _ s.sc) (h1 _)) fun D σ H ⟨m, ex, g, o, S, e, q⟩ => by
    unfold fAsg at e
    cases h1 : fa g with
    | none => rw [h1] at e; cases e
    | some y =>
      simp only [h1, Option.bind_some] at e
      cases h2 : b y.1 y.2 with
      | none => rw [h2] at e; cases e
      | some g2 =>
        rw [h2] at e
        cases e
        exact ⟨m, ex, g, y.1, y.2, S, h1, fun v H' p r => ⟨m, ex, y.2, y.1, g2, p.sr, r.strong, h2, fun m' σ' t => q _ _ _ ((StP.po p).trans (.tg t hp))⟩⟩
/-- x, y = a, b with plain locals -/
def fPar (i j : Nat) (fr : Sg → Option (List D × Sg)) : Ss := fun g => (fr g).bind fun p => match p.1 with
  | [x, y] => some (.nx ((p.2.set i (.val x)).set j (.val y)))
  | _ => none
theorem js_par (i j : Nat) {x y : Str} {a b : Expr} {fr : Sg → Option (List D × Sg)} {px py pt : Pos} {kt k2 pt2} (h : JA G c π [a, b] fr) (hi : c.N[i]? = some x := by rfl) (hj : c.N[j]? = some y := by rfl) (hij : i ≠ j := by decide)
    (hx : c.sc.names.lookup x = some .local := by rfl) (hy : c.sc.names.lookup y = some .local := by rfl) (hp : i ∉ pn ∧ j ∉ pn := by decide)
    (hw : ∀ env : Env, env.scope = c.sc → swappedStores [.Tuple [.Name x px, .Name y py] kt pt] (.Tuple [a, b] k2 pt2) env = pure (some [x, y]) := by rintro ⟨⟩ rfl; rfl)
    (hs : ∀ env, swapsWithSole [.Tuple [.Name x px, .Name y py] kt pt] (.Tuple [a, b] k2 pt2) pos.line env = pure false := by intro _; rfl) :
    JS G c pn ρ (.Assign [.Tuple [.Name x px, .Name y py] kt pt] (.Tuple [a, b] k2 pt2) pos) (fPar i j fr) := fun X s =>
  ps_weak (ps_par s.calm (by rw [s.N]; exact s.nd) (by rw [s.N]; exact hi) (by rw [s.N]; exact hj) hij (by rw [s.sc]; exact hx) (by rw [s.sc]; exact hy) (h X s) (hw _ s.sc) (hs _)) fun D σ H ⟨m, ex, g, o, S, e, q⟩ => by
    unfold fPar at e
    cases h1 : fr g with
    | none => rw [h1] at e; cases e
    | some z =>
      simp only [h1, Option.bind_some] at e
      split at e
      · rename_i d1 d2 hz
        cases e
        refine ⟨m, ex, g, z.1, z.2, S, h1, fun vs H' p r => ?_⟩
        rw [hz] at r
        cases r with
        | cons r1 rr =>
          cases rr with
          | cons r2 rr =>
            cases rr
            have t1 := StP.set (pn := pn) (i := i) p.sr r1 hp.1
            have gr : Grow (hid (Hd m ex) H') (hid (Hd (del m i) ex) H') := hid_grow (fun _ _ _ z => del_hd z) fun _ _ _ q => q
            exact ⟨_, _, rfl, q _ _ _ (((StP.po p).trans t1).trans (.set t1.sr (r2.mono gr.ext) hp.2))⟩
      · cases e
end
end EV

set_option Elab.async false
set_option linter.all false
set_option maxRecDepth 100000
/-! EV8: if, for, while; things of one's own changed. -/
namespace EV
open PySem PySem.Spec L2
theorem PS.nox' {X : Cx} {st : Stmt} {t : TS} (h : PS X.nox st t) : PS X st t := ⟨fun pins s σ H D I hw =>
  wpAny_mono (h.run pins s σ H D (I.wish _) hw) (fun _ _ q => q.unwish) fun _ _ z => False.elim z⟩
theorem SX.nox {G : Gb} {c : Sx} {X : Cx} (s : SX G c X) : SX G c X.nox := ⟨s.gb, s.N, s.nd, s.sc, s.calm, s.room, s.grd, s.fn⟩
section
variable {G : Gb} {c : Sx} {pn ts : List Nat} {ρ : Bool} {st : Stmt} {sts sas sbs : List Stmt} {f fs ft fb : Ss} {pos : Pos} {π π1 π2 τ τ1 τ2 : Bool} {a e it tg cc : Expr} {fa fe : Sf} {b : Bd} {i : Nat} {tc : Tf} {fit : Si}
/-- if -/
def fIfS (tc : Tf) (f1 f2 : Ss) : Ss := fun g => (tc g).bind fun p => if p.1 = true then f1 p.2 else f2 p.2
theorem js_if (hc : JT G c π cc tc) (ha : JSs G c pn ρ sas f) (hb : JSs G c pn ρ sbs fs) : JS G c pn ρ (.If cc sas sbs pos) (fIfS tc f fs) := fun X s => ps_weak (ps_if (hc X s) (ha X s) (hb X s)) fun D σ H ⟨m, ex, g, o, S, e, q⟩ => by
  unfold fIfS at e
  cases h1 : tc g with
  | none => rw [h1] at e; cases e
  | some y =>
    simp only [h1, Option.bind_some] at e
    refine ⟨m, ex, g, y.1, y.2, S, h1, fun H1 p1 => ?_⟩
    by_cases hy : y.1 = true
    · rw [if_pos hy] at e ⊢
      exact ⟨m, ex, y.2, o, p1.sr, e, q.after (.po p1)⟩
    · rw [if_neg hy] at e ⊢
      exact ⟨m, ex, y.2, o, p1.sr, e, q.after (.po p1)⟩
/-- for -/
def forGo (b : Bd) (f : Ss) : List D → Ss
  | [], g => some (.nx g)
  | d :: ds, g => (b d g).bind fun g1 => (f g1).bind fun o => match o with
    | .nx g2 => forGo b f ds g2
    | .ct g2 => forGo b f ds g2
    | .bk g2 => some (.nx g2)
    | .rt d g2 => some (.rt d g2)
def fFor (it : Si) (b : Bd) (f : Ss) : Ss := fun g => (it g).bind fun p => forGo b f p.1 p.2
theorem for_reads {K : PySem.W.Frag} {D : Ends} {σ : L2.St} {H : Hp} (hts : ∀ t ∈ ts, t ∉ pn) (h : TFS K pn ρ (fFor fit b f) D σ H) : tFor (TFI K π fit) (TFG K ts b) (TFS K pn ρ f) D σ H := by
  obtain ⟨m, ex, g, o, S, e, q⟩ := h
  unfold fFor at e
  cases h1 : fit g with
  | none => rw [h1] at e; cases e
  | some y =>
    simp only [h1, Option.bind_some] at e
    refine ⟨m, ex, g, y.1, y.2, S, h1, fun J H1 p1 itd => ?_⟩
    obtain ⟨Y, wk, hY⟩ := itd
    have q1 := q.after (StP.po (pn := pn) p1)
    refine for_it wk (fun i σ' H' => ∃ m' g', StP K pn m ex ex H1 m' σ' H' g' ∧ forGo b f (y.1.drop i) g' = some o) ⟨m, y.2, .refl p1.sr, e⟩ (fun i σ' H' _ ⟨m', g', P, _⟩ => P.vis) ?_ ?_
    · rintro i x σ' H' H'' hlt ⟨m', g', P, e'⟩ yl
      obtain ⟨gr, dd, hdd, rx⟩ := hY i H' x H'' (Hd m' ex) P.vis (fun c u e z => by
        by_cases hc : Hd m ex c
        · exact hc
        · exact absurd z (P.hd' hc e)) (fun c z => P.sr.hdl z) hlt yl
      rw [drop_cons hdd] at e'
      unfold forGo at e'
      cases hb : b dd g' with
      | none => simp [hb] at e'
      | some g2 =>
        cases hf : f g2 with
        | none => simp [hb, hf] at e'
        | some o2 =>
          simp only [hb, hf, Option.bind_some] at e'
          have P1 : StP K pn m ex ex H1 m' σ' H'' g' := P.trans (.po (π := true) (.grow P.sr gr))
          refine ⟨m', ex, g', dd, g2, P1.sr, rx, hb, fun m2 σ2 pt => ?_⟩
          have P2 := P1.trans (.tg pt hts)
          refine ⟨m2, ex, g2, o2, pt.sr, hf, ?_⟩
          cases o2 with
          | nx g3 => exact fun m3 σ3 H3 p3 => ⟨m3, g3, P2.trans p3, e'⟩
          | ct g3 => exact fun m3 σ3 H3 p3 => ⟨m3, g3, P2.trans p3, e'⟩
          | bk g3 =>
            cases e'
            exact fun m3 σ3 H3 p3 => q1 m3 σ3 H3 (P2.trans p3)
          | rt d g3 =>
            cases e'
            exact fun v H3 p3 => q1 v H3 (p3.after P2)
    · rintro σ' H' ⟨m', g', P, e'⟩
      rw [List.drop_length] at e'
      cases e'
      exact q1 m' σ' H' P
theorem js_for (hi : JI G c π tg it fit) (hg : JG G c tg ts b) (hb : JSs G c pn ρ sts f) (hts : ∀ t ∈ ts, t ∉ pn := by decide) (hs : ∀ env x, foldedSetIterable it env x = pure x := by intro _ _; rfl) : JS G c pn ρ (.For tg it sts [] pos) (fFor fit b f) := fun X s =>
  ps_weak (PS.nox' (ps_for (X := X.nox) PassesOwn.never s.calm (hi _ s.nox) (hg _ s.nox) (hb _ s.nox) (hs _))) fun D σ H h => for_reads hts h
/-- while, of at most n turns -/
def whl (tc : Tf) (f : Ss) : Nat → Ss
  | 0, _ => none
  | n + 1, g => (tc g).bind fun p => if p.1 = true then (f p.2).bind (fun o => match o with
      | .nx g2 => whl tc f n g2
      | .ct g2 => whl tc f n g2
      | .bk g2 => some (.nx g2)
      | .rt d g2 => some (.rt d g2)) else some (.nx p.2)
theorem whl_reads {K : PySem.W.Frag} {D : Ends} {σ : L2.St} {H : Hp} (n : Nat) (h : TFS K pn ρ (whl tc f n) D σ H) : tWhile (TFT K π tc) (TFS K pn ρ f) D σ H := by
  obtain ⟨m, ex, g, o, S, e, q⟩ := h
  refine ⟨fun k σ' H' => ∃ m' g', StP K pn m ex ex H m' σ' H' g' ∧ whl tc f k g' = some o, ⟨n, m, g, .refl S, e⟩, ?_⟩
  rintro k σ' H' ⟨m', g', P, e'⟩
  cases k with
  | zero => cases e'
  | succ k =>
    unfold whl at e'
    cases h1 : tc g' with
    | none => rw [h1] at e'; cases e'
    | some y =>
      simp only [h1, Option.bind_some] at e'
      refine ⟨m', ex, g', y.1, y.2, P.sr, h1, fun H1 p1 => ?_⟩
      have P1 := P.trans (.po p1)
      by_cases hy : y.1 = true
      · rw [if_pos hy] at e'
        dsimp only
        rw [if_pos hy]
        cases hf : f y.2 with
        | none => simp [hf] at e'
        | some o2 =>
          simp only [hf, Option.bind_some] at e'
          refine ⟨fun σ3 H3 => ∃ m3 g3, StP K pn m ex ex H m3 σ3 H3 g3 ∧ whl tc f k g3 = some o, fun σ3 H3 z => ⟨k, Nat.lt_succ_self k, z⟩, m', ex, y.2, o2, p1.sr, hf, ?_⟩
          cases o2 with
          | nx g3 => exact fun m3 σ3 H3 p3 => ⟨m3, g3, P1.trans p3, e'⟩
          | ct g3 => exact fun m3 σ3 H3 p3 => ⟨m3, g3, P1.trans p3, e'⟩
          | bk g3 =>
            cases e'
            exact fun m3 σ3 H3 p3 => q m3 σ3 H3 (P1.trans p3)
          | rt d g3 =>
            cases e'
            exact fun v H3 p3 => q v H3 (p3.after P1)
      · rw [if_neg hy] at e'
        dsimp only
        rw [if_neg hy]
        cases e'
        exact q _ _ _ P1
theorem js_while (n : Nat) (hc : JT G c π cc tc) (hb : JSs G c pn ρ sts f) : JS G c pn ρ (.While cc sts [] pos) (whl tc f n) := fun X s =>
  ps_weak (PS.nox' (ps_while (X := X.nox) PassesOwn.never (hc _ s.nox) (hb _ s.nox))) fun D σ H h => whl_reads n h

/-! ### own things changed -/
/-- the own thing of slot i -/
def ownAt (g : Sg) (i : Nat) : Option (Bool × D) := match g[i]? with
  | some (.own p d) => some (p, d)
  | _ => none
theorem ownAt_some {g : Sg} {p : Bool} {d : D} (e : ownAt g i = some (p, d)) : g[i]? = some (.own p d) := by
  unfold ownAt at e
  split at e
  · cases e; assumption
  · cases e
/-- behind a change of the own thing at a -/
theorem StP.wr {K : PySem.W.Frag} {m : Mp} {ex : Addr → Prop} {σ : L2.St} {H : Hp} {g : Sg} {p : Bool} {d0 d : D} {o : HO} {a : Addr} (S : SR K m ex σ H g) (hm : m i = some a) (hg : g[i]? = some (.own p d0)) (w : ∀ G, Ext (hid (Hd m ex) H) G → Ow K G (upd H a o) a d) :
    StP K pn m ex ex H m σ (upd H a o) (g.set i (.own p d)) := by
  have hh : Hd m ex a := .inr ⟨i, hm⟩
  have S' := S.wr (o := o) hm hg w
  refine ⟨S', fun b u n e => by rw [upd_ne fun z => n (by rw [z]; exact hh)]; exact e, fun b hb => upd_ne fun z => S.nex i a hm (by rw [← z]; exact hb), fun j b h => .inl ⟨j, h⟩, fun _ _ => rfl, fun b n => ?_⟩
  by_cases hb : b = a
  · rw [hb, upd_same] at n; cases n
  · rwa [upd_ne hb] at n
theorem SR.ownl {K : PySem.W.Frag} {m : Mp} {ex : Addr → Prop} {σ : L2.St} {H : Hp} {g : Sg} {p : Bool} {ds : List D} (S : SR K m ex σ H g) (h : g[i]? = some (.own p (.list ds))) :
    ∃ a vs, m i = some a ∧ σ[i]? = some (some (.ref a)) ∧ H a = some (.lst vs) ∧ RpL K (hid (Hd m ex) H) vs ds := by
  obtain ⟨a, h1, h2, h3⟩ := S.slot i _ h
  cases h3 with
  | lst q r => exact ⟨a, _, h1, h2, q, r⟩
theorem SR.same {K : PySem.W.Frag} {m : Mp} {ex : Addr → Prop} {σ : L2.St} {H H' : Hp} {g g' : Sg} {p p' : Bool} {d d' : D} {a : Addr} (S : SR K m ex σ H g) (S' : SR K m ex σ H' g') (h : g[i]? = some (.own p d)) (h' : g'[i]? = some (.own p' d')) (e : σ[i]? = some (some (.ref a))) : m i = some a := by
  obtain ⟨b, h1, h2, _⟩ := S.slot i _ h
  rw [e] at h2; cases h2; exact h1
/-- x.append(e) -/
def fApp (i : Nat) (f : Sf) : Ss := fun g => match ownAt g i with
  | some (_, .list _) => (f g).bind fun p => match ownAt p.2 i with
    | some (q, .list ds) => if ds.length < sizeLine then some (.nx (p.2.set i (.own q (.list (ds ++ [p.1]))))) else none
    | _ => none
  | _ => none
theorem js_app (i : Nat) {x : Str} {k apos cpos : Pos} (ha : J G c π true a fa) (hN : c.N[i]? = some x := by rfl) (hv : Vis c.sc x := by first | exact Or.inl rfl | exact Or.inr (Or.inl rfl) | exact Or.inr (Or.inr rfl))
    (hd : (x == ("__debug__" : Str)) = false := by decide) (hcd : (x == ("__classdict__" : Str)) = false := by decide)
    (hbase : ∀ env, attributeBase (.Name x k) "append" env (eval (.Name x k) env) = eval (.Name x k) env := by intro _; rfl) (hline : (apos.endLine == cpos.line) = true := by rfl)
    (hs : ∀ env, starEach [a] env = (false, eval a env) :: starEach [] env := by intro _; rfl)
    (hfew : ∀ env, ((backTo cpos (starEach [a] env)).all (fun x => !x.1) && (backToKw cpos (keywordEach [] env)).all (fun x => x.1.isSome)
      && decide ([a].length + ([] : List Keyword).length + (if ([] : List Keyword).isEmpty then 0 else 1) < 30)) = true := by intro _; rfl)
    (hsw : ∀ env, swapsWith (.Call (.Attribute (.Name x k) "append" apos) [a] [] cpos) none pos.line env = pure false := by intro _; rfl) :
    JS G c pn ρ (.Expr (.Call (.Attribute (.Name x k) "append" apos) [a] [] cpos) pos) (fApp i fa) := fun X s => by
  have hvar := pe_var (X := X) (i := i) (x := x) (pos := k) (by rw [s.N]; exact hN) (by rw [s.sc]; exact hv) hd hcd
  refine ps_weak (ps_expr (pe_bm PySem.F.plainAttrs_list PySem.F.slot_list_append PySem.F.type_list_append mt_append hvar (pa_cons (ha X s) pa_nil (hs _)) (hbase _) (hfew _) hline (hs _) rfl) (hsw _)) fun D σ H ⟨m, ex, g, o, S, e, q⟩ => ?_
  unfold fApp at e
  split at e
  · rename_i p0 ds0 h0
    have h0 := ownAt_some h0
    obtain ⟨b, vs0, mi, sb, hb, _⟩ := S.ownl h0
    cases h1 : fa g with
    | none => rw [h1] at e; cases e
    | some y =>
      simp only [h1, Option.bind_some] at e
      split at e
      · rename_i p ds hg
        have hg := ownAt_some hg
        split at e
        · rename_i hz
          cases e
          refine ⟨_, sb, .inl ⟨rfl, vs0, SqL.of hb⟩, m, ex, g, y.1, y.2, S, h1, fun v H' p' r => ?_⟩
          obtain ⟨b', vs, mi', sb', hb', rl⟩ := p'.sr.ownl hg
          rw [sb] at sb'; cases sb'
          refine ⟨b, vs, v, rfl, rfl, hb', by rw [rl.length]; exact hz, ?_⟩
          exact q _ _ _ ((StP.po p').trans (.wr p'.sr mi hg fun G' x => .lst upd_same ((rl.append (.cons r.strong .nil)).mono x)))
        · cases e
      · cases e
  · cases e
/-- x += e: ints; lists -/
def fAug (op : D → D → Option D) (i : Nat) (f : Sf) : Ss := fun g => match g[i]? with
  | some (.val d) => (f g).bind fun p => (op d p.1).bind fun z => if i < p.2.length then some (.nx (p.2.set i (.val z))) else none
  | _ => none
theorem js_aug (i : Nat) {x : Str} {pos' : Pos} {o : Operator} {r : R2} {op : D → D → Option D} (hop : ∀ X, SX G c X → PIp X o r) (ok : Ok2 G.K r op) (ha : J G c π τ a fa) (hi : c.N[i]? = some x := by rfl) (hx : Loc c.sc x := by first | exact Or.inl rfl | exact Or.inr rfl) (hf : c.fn x = true ∨ c.sc.names.lookup x = some .local := by first | exact Or.inl rfl | exact Or.inr rfl)
    (hp : i ∉ pn := by decide) : JS G c pn ρ (.AugAssign (.Name x pos') o a pos) (fAug op i fa) := fun X s =>
  ps_weak (ps_aug (i := i) (by rw [s.N]; exact s.nd) (by rw [s.N]; exact hi) (by rw [s.sc]; exact hx) (ha X s) (hop X s) (by rw [s.fn, s.sc]; exact hf)) fun D σ H ⟨m, ex, g, o, S, e, q⟩ => by
    unfold fAug at e
    split at e
    · rename_i d hg
      obtain ⟨v, hv, rv⟩ := S.slot i _ hg
      cases h1 : fa g with
      | none => rw [h1] at e; cases e
      | some y =>
        cases h2 : op d y.1 with
        | none => simp [h1, h2] at e
        | some z =>
          simp only [h1, h2, Option.bind_some] at e
          split at e
          · cases e
            refine ⟨v, hv, m, ex, g, y.1, y.2, S, h1, fun w H1 p1 r1 => ok m ex σ H1 y.2 v w d y.1 z _ p1.sr (.inl (rv.mono p1.ext)) r1.weak h2 fun u H2 p2 r2 => ?_⟩
            exact q _ _ _ (((StP.po p1).trans (.po p2)).trans (.set p2.sr r2 hp))
          · cases e
    · cases e
theorem js_addI (i : Nat) {x : Str} {pos' : Pos} (ha : J G c π τ a fa) (hi : c.N[i]? = some x := by rfl) (hx : Loc c.sc x := by first | exact Or.inl rfl | exact Or.inr rfl) (hf : c.fn x = true ∨ c.sc.names.lookup x = some .local := by first | exact Or.inl rfl | exact Or.inr rfl)
    (hp : i ∉ pn := by decide) : JS G c pn ρ (.AugAssign (.Name x pos') .Add a pos) (fAug (oI fun i j => i + j) i fa) := js_aug i (fun X s => iop_add) ok_I ha hi hx hf hp
theorem js_subI (i : Nat) {x : Str} {pos' : Pos} (ha : J G c π τ a fa) (hi : c.N[i]? = some x := by rfl) (hx : Loc c.sc x := by first | exact Or.inl rfl | exact Or.inr rfl) (hf : c.fn x = true ∨ c.sc.names.lookup x = some .local := by first | exact Or.inl rfl | exact Or.inr rfl)
    (hp : i ∉ pn := by decide) : JS G c pn ρ (.AugAssign (.Name x pos') .Sub a pos) (fAug (oI fun i j => i - j) i fa) := js_aug i (fun X s => iop_sub) ok_I ha hi hx hf hp
def fExt (i : Nat) (f : Sf) : Ss := fun g => match ownAt g i with
  | some (_, .list _) => (f g).bind fun p => match ownAt p.2 i, p.1 with
    | some (q, .list ds), .list es => if ds.length + es.length ≤ sizeLine then some (.nx (p.2.set i (.own q (.list (ds ++ es))))) else none
    | _, _ => none
  | _ => none
theorem js_ext (i : Nat) {x : Str} {pos' : Pos} (ha : J G c π true a fa) (hi : c.N[i]? = some x := by rfl) (hx : Loc c.sc x := by first | exact Or.inl rfl | exact Or.inr rfl) (hf : c.fn x = true ∨ c.sc.names.lookup x = some .local := by first | exact Or.inl rfl | exact Or.inr rfl) :
    JS G c pn ρ (.AugAssign (.Name x pos') .Add a pos) (fExt i fa) := fun X s =>
  ps_weak (ps_aug (i := i) (ti := rExt2) (by rw [s.N]; exact s.nd) (by rw [s.N]; exact hi) (by rw [s.sc]; exact hx) (ha X s) iop_ext (by rw [s.fn, s.sc]; exact hf)) fun D σ H ⟨m, ex, g, o, S, e, q⟩ => by
    unfold fExt at e
    split at e
    · rename_i p0 ds0 h0
      have h0 := ownAt_some h0
      obtain ⟨b, vs0, mi, sb, hb, _⟩ := S.ownl h0
      cases h1 : fa g with
      | none => rw [h1] at e; cases e
      | some y =>
        simp only [h1, Option.bind_some] at e
        split at e
        · rename_i p ds es hg he
          have hg := ownAt_some hg
          split at e
          · rename_i hz
            cases e
            refine ⟨.ref b, sb, m, ex, g, y.1, y.2, S, h1, fun v H' p' r => ?_⟩
            obtain ⟨b', vs, mi', sb', hb', rl⟩ := p'.sr.ownl hg
            rw [sb] at sb'; cases sb'
            rw [he] at r
            have r := r.strong
            cases r with
            | lst k1 k2 =>
              refine ⟨b, _, vs, _, rfl, rfl, hb', hid_sub _ _ k1, by rw [rl.length, k2.length]; exact hz, ?_⟩
              have P := (StP.po (pn := pn) p').trans (.wr p'.sr mi hg fun G' x => .lst upd_same ((rl.append k2).mono x))
              have es : σ.set i (some (.ref b)) = σ := by
                obtain ⟨hl, hv⟩ := List.getElem?_eq_some_iff.mp sb
                rw [← hv]; exact List.set_getElem_self hl
              show D.nx (σ.set i (some (.ref b))) _
              rw [es]
              exact q _ _ _ P
          · cases e
        · cases e
    · cases e
/-- x[k] = e -/
def fPut (i : Nat) (fk fe : Sf) : Ss := fun g => (fe g).bind fun p => match ownAt p.2 i with
  | some (_, .list _) => (fk p.2).bind fun r => match ownAt r.2 i, r.1 with
    | some (q, .list ds), .int k => (ixN ds.length k).map fun j => .nx (r.2.set i (.own q (.list (ds.set j p.1))))
    | _, _ => none
  | _ => none
theorem js_put (i : Nat) {x : Str} {k tpos : Pos} {fk : Sf} (hk : J G c π1 τ a fk) (he : J G c π2 true e fe) (hN : c.N[i]? = some x := by rfl) (hv : Vis c.sc x := by first | exact Or.inl rfl | exact Or.inr (Or.inl rfl) | exact Or.inr (Or.inr rfl))
    (hd : (x == ("__debug__" : Str)) = false := by decide) (hcd : (x == ("__classdict__" : Str)) = false := by decide)
    (hs : ∀ env, swapsWithSole [.Subscript (.Name x k) a tpos] e pos.line env = pure false := by intro _; rfl) (hw : ∀ env, swappedStores [.Subscript (.Name x k) a tpos] e env = pure none := by intro _; rfl)
    (h1 : ∀ env, (assignEach [.Subscript (.Name x k) a tpos] env).map (·.2) = [assign (.Subscript (.Name x k) a tpos) env] := by intro _; rfl)
    (hsub : ∀ env v, assign (.Subscript (.Name x k) a tpos) env v = (do
      let ov ← holding [v] (eval (.Name x k) env)
      let iv ← holding [v, ov] (eval a env)
      standAt tpos
      holding [v, ov, iv] (setItem ov iv v)
      release [v, ov, iv] []) := by intro _ _; rfl) : JS G c pn ρ (.Assign [.Subscript (.Name x k) a tpos] e pos) (fPut i fk fe) := fun X s => by
  have hvar := pe_var (X := X) (i := i) (x := x) (pos := k) (by rw [s.N]; exact hN) (by rw [s.sc]; exact hv) hd hcd
  refine ps_weak (ps_asg (he X s) (pg_sub hvar (hk X s) set_list (hsub _)) (hs _) (hw _) (h1 _)) fun D σ H ⟨m, ex, g, o, S, e, q⟩ => ?_
  unfold fPut at e
  cases h1 : fe g with
  | none => rw [h1] at e; cases e
  | some y =>
    simp only [h1, Option.bind_some] at e
    split at e
    · rename_i p0 ds0 h0
      have h0 := ownAt_some h0
      cases h2 : fk y.2 with
      | none => rw [h2] at e; cases e
      | some z =>
        simp only [h2, Option.bind_some] at e
        split at e
        · rename_i p ds kk hg hk'
          have hg := ownAt_some hg
          cases h3 : ixN ds.length kk with
          | none => rw [h3] at e; cases e
          | some j =>
            rw [h3] at e
            cases e
            refine ⟨m, ex, g, y.1, y.2, S, h1, fun v H1 p1 r1 => ?_⟩
            obtain ⟨b, vs0, mi, sb, hb, _⟩ := p1.sr.ownl h0
            refine ⟨_, sb, m, ex, y.2, z.1, z.2, p1.sr, h2, fun w H2 p2 r2 => ?_⟩
            obtain ⟨b', vs, mi', sb', hb', rl⟩ := p2.sr.ownl hg
            rw [sb] at sb'; cases sb'
            rw [hk'] at r2
            refine ⟨b, vs, kk, j, rfl, r2.int, hb', by rw [rl.length]; exact h3, ?_⟩
            exact q _ _ _ (((StP.po p1).trans (.po p2)).trans (.wr p2.sr mi hg fun G' x => .lst upd_same ((rl.set (r1.strong.mono p2.ext) j).mono x)))
        · cases e
    · cases e
/-- x[k] += e of a list -/
def rGetL : V → V → Hp → VK → Prop := fun x y H Q => ∃ p xs i v, x = .ref p ∧ y = .int i ∧ H p = some (.lst xs) ∧ atI xs i = some v ∧ Q v H
theorem get_list {X : Cx} : PGet X rGetL := by
  rintro pins s σ H x y v u Q I rx ry ⟨p, xs, i, z, rfl, rfl, hq, he, q⟩
  cases rx
  obtain ⟨t, rfl⟩ := ry
  obtain ⟨its, r, pl, hz⟩ := I.list (SqL.of hq)
  obtain ⟨j, e1, e2, e3, e4, e5⟩ := atI_get he
  obtain ⟨w, ew, rw'⟩ := r.get e2
  have hl := r.length
  have hn := line63
  have fin : EP X pins σ Q w s := ⟨z, H, I, rw', q⟩
  by_cases pos0 : 0 ≤ i
  · have hj : i.toNat = j := by
      rw [PySem.seqIndex_of pos0 e5] at e1
      exact Option.some.inj e1
    exact PySem.wpAny_getItem_list pl.isList pos0 (by omega) (by rw [hj]; simpa using ew) fin
  · have hj : (i + (its.toArray.size : Int)).toNat = j := by
      rw [PySem.seqIndex_neg (by omega) e4] at e1
      rw [List.size_toArray, ← hl]
      exact Option.some.inj e1
    exact PySem.wpAny_getItem_list_neg pl.isList (by omega) (by rw [List.size_toArray] <;> omega) (by omega) (by rw [hj]; simpa using ew) fin
def fAugI (op : D → D → Option D) (i : Nat) (fk fe : Sf) : Ss := fun g => match ownAt g i with
  | some (_, .list _) => (fk g).bind fun r => match ownAt r.2 i, r.1 with
    | some (_, .list ds), .int k => (atI ds k).bind fun d => (fe r.2).bind fun p => match ownAt p.2 i with
      | some (q, .list es) => (op d p.1).bind fun z => (ixN es.length k).map fun j => .nx (p.2.set i (.own q (.list (es.set j z))))
      | _ => none
    | _, _ => none
  | _ => none
theorem js_augI (i : Nat) {x : Str} {k tpos : Pos} {fk : Sf} {o : Operator} {r : R2} {op : D → D → Option D} (hop : ∀ X, SX G c X → PIp X o r) (ok : Ok2 G.K r op) (hk : J G c π1 true a fk) (he : J G c π2 τ e fe) (hN : c.N[i]? = some x := by rfl) (hv : Vis c.sc x := by first | exact Or.inl rfl | exact Or.inr (Or.inl rfl) | exact Or.inr (Or.inr rfl))
    (hd : (x == ("__debug__" : Str)) = false := by decide) (hcd : (x == ("__classdict__" : Str)) = false := by decide)
    (hau : ∀ ov iv new, augStore a ov iv new = (do holding [new, ov, iv] (setItem ov iv new); release [new, ov, iv] []; pure .next) := by intros; rfl) : JS G c pn ρ (.AugAssign (.Subscript (.Name x k) a tpos) o e pos) (fAugI op i fk fe) := fun X s => by
  have hvar := pe_var (X := X) (i := i) (x := x) (pos := k) (by rw [s.N]; exact hN) (by rw [s.sc]; exact hv) hd hcd
  refine ps_weak (ps_augS hvar (hk X s) get_list (he X s) (hop X s) set_list hau) fun D σ H ⟨m, ex, g, o, S, e, q⟩ => ?_
  unfold fAugI at e
  split at e
  · rename_i p0 ds0 h0
    have h0 := ownAt_some h0
    obtain ⟨b, vs0, mi, sb, hb, _⟩ := S.ownl h0
    cases h1 : fk g with
    | none => rw [h1] at e; cases e
    | some y =>
      simp only [h1, Option.bind_some] at e
      split at e
      · rename_i p1 ds kk hg1 hk'
        have hg1 := ownAt_some hg1
        cases h2 : atI ds kk with
        | none => rw [h2] at e; cases e
        | some d =>
          cases h3 : fe y.2 with
          | none => simp [h2, h3] at e
          | some z =>
            simp only [h2, h3, Option.bind_some] at e
            split at e
            · rename_i p2 es hg2
              have hg2 := ownAt_some hg2
              cases h4 : op d z.1 with
              | none => rw [h4] at e; cases e
              | some dz =>
                cases h5 : ixN es.length kk with
                | none => simp [h4, h5] at e
                | some j =>
                  simp only [h4, h5, Option.bind_some, Option.map_some] at e
                  cases e
                  refine ⟨_, sb, m, ex, g, y.1, y.2, S, h1, fun w H1 q1 r1 => ?_⟩
                  obtain ⟨b1, vs1, mi1, sb1, hb1, rl1⟩ := q1.sr.ownl hg1
                  rw [sb] at sb1; cases sb1
                  rw [hk'] at r1
                  obtain ⟨v1, hv1, rv1⟩ := atI_rp rl1 h2
                  refine ⟨b, vs1, kk, v1, rfl, r1.int, hb1, hv1, m, ex, y.2, z.1, z.2, q1.sr, h3, fun w2 H2 q2 r2 => ?_⟩
                  refine ok m ex σ H2 z.2 v1 w2 d z.1 dz _ q2.sr (.inl (rv1.mono q2.ext)) r2.weak h4 fun u H3 q3 r3 => ?_
                  have eg : z.2 = z.2 := rfl
                  obtain ⟨b3, vs3, mi3, sb3, hb3, rl3⟩ := q3.sr.ownl hg2
                  rw [sb] at sb3; cases sb3
                  refine ⟨b, vs3, kk, j, rfl, r1.int, hb3, by rw [rl3.length]; exact h5, ?_⟩
                  exact q _ _ _ ((((StP.po q1).trans (.po q2)).trans (.po q3)).trans (.wr q3.sr mi hg2 fun G' x => .lst upd_same ((rl3.set r3 j).mono x)))
            · cases e
      · cases e
  · cases e
/-- x[k] = e of a dict -/
def dPut (ks : List (D × D)) (k : Key) (d : D) : List (D × D) := if (ks.any fun kv => decide (keyOf kv.1 = some k)) = true then ks.map (fun kv => if keyOf kv.1 = some k then (kv.1, d) else kv) else ks ++ [(kD k, d)]
theorem RpK.put {K : PySem.W.Frag} {H : Hp} {k : Key} {v : V} {d : D} (a : Rp K H v d) {kvs : List (Key × V)} {ds : List (D × D)} (r : RpK K H kvs ds) : RpK K H (putK kvs k v) (dPut ds k d) := by
  have any : (kvs.any fun kv => decide (kv.1 = k)) = (ds.any fun kv => decide (keyOf kv.1 = some k)) := by
    clear a
    induction kvs generalizing ds with
    | nil => cases r; rfl
    | cons kv kvs ih =>
      cases r with
      | cons a r =>
        rw [List.any_cons, List.any_cons, ih r]
        congr 1
        simp only [keyOf_kD, Option.some.injEq]
  unfold putK dPut
  rw [any]
  split
  · clear any
    rename_i h
    clear h
    induction kvs generalizing ds with
    | nil => cases r; exact .nil
    | cons kv kvs ih =>
      cases r with
      | @cons k' v' vs d' ds' b r =>
        rw [List.map_cons, List.map_cons]
        simp only [keyOf_kD, Option.some.injEq]
        by_cases hk : k' = k
        · rw [if_pos hk, if_pos hk]; exact .cons a (ih r)
        · rw [if_neg hk, if_neg hk]; exact .cons b (ih r)
  · clear any
    rename_i h
    clear h
    induction kvs generalizing ds with
    | nil => cases r; exact .cons a .nil
    | cons kv kvs ih =>
      cases r with
      | cons b r => exact .cons b (ih r)
theorem SR.ownd {K : PySem.W.Frag} {m : Mp} {ex : Addr → Prop} {σ : L2.St} {H : Hp} {g : Sg} {p : Bool} {ds : List (D × D)} (S : SR K m ex σ H g) (h : g[i]? = some (.own p (.dict ds))) :
    ∃ a vs, m i = some a ∧ σ[i]? = some (some (.ref a)) ∧ H a = some (.dK vs) ∧ RpK K (hid (Hd m ex) H) vs ds := by
  obtain ⟨a, h1, h2, h3⟩ := S.slot i _ h
  cases h3 with
  | dic q r => exact ⟨a, _, h1, h2, q, r⟩
def fDPut (i : Nat) (fk fe : Sf) : Ss := fun g => (fe g).bind fun p => match ownAt p.2 i with
  | some (_, .dict _) => (fk p.2).bind fun r => match ownAt r.2 i, keyOf r.1 with
    | some (q, .dict ds), some k => if ds.length < sizeLine then some (.nx (r.2.set i (.own q (.dict (dPut ds k p.1))))) else none
    | _, _ => none
  | _ => none
theorem js_dput (i : Nat) {x : Str} {k tpos : Pos} {fk : Sf} (hk : J G c π1 true a fk) (he : J G c π2 true e fe) (hN : c.N[i]? = some x := by rfl) (hv : Vis c.sc x := by first | exact Or.inl rfl | exact Or.inr (Or.inl rfl) | exact Or.inr (Or.inr rfl))
    (hd : (x == ("__debug__" : Str)) = false := by decide) (hcd : (x == ("__classdict__" : Str)) = false := by decide)
    (hs : ∀ env, swapsWith e (some (.Subscript (.Name x k) a tpos)) pos.line env = pure false := by intro _; rfl) : JS G c pn ρ (.Assign [.Subscript (.Name x k) a tpos] e pos) (fDPut i fk fe) := fun X s => by
  have hvar := pe_var (X := X) (i := i) (x := x) (pos := k) (by rw [s.N]; exact hN) (by rw [s.sc]; exact hv) hd hcd
  refine ps_weak (ps_dput (by have := s.room.units; omega) hvar (hk X s) (he X s) (hs _)) fun D σ H ⟨m, ex, g, o, S, e, q⟩ => ?_
  unfold fDPut at e
  cases h1 : fe g with
  | none => rw [h1] at e; cases e
  | some y =>
    simp only [h1, Option.bind_some] at e
    split at e
    · rename_i p0 ds0 h0
      have h0 := ownAt_some h0
      cases h2 : fk y.2 with
      | none => rw [h2] at e; cases e
      | some z =>
        simp only [h2, Option.bind_some] at e
        split at e
        · rename_i p ds kk hg hk'
          have hg := ownAt_some hg
          split at e
          · rename_i hz
            cases e
            refine ⟨m, ex, g, y.1, y.2, S, h1, fun v H1 p1 r1 => ?_⟩
            obtain ⟨b, vs0, mi, sb, hb, _⟩ := p1.sr.ownd h0
            refine ⟨_, sb, m, ex, y.2, z.1, z.2, p1.sr, h2, fun w H2 p2 r2 => ?_⟩
            obtain ⟨b', vs, mi', sb', hb', rl⟩ := p2.sr.ownd hg
            rw [sb] at sb'; cases sb'
            have ek := r2.key hk'
            subst ek
            refine ⟨b, _, rfl, .k hb' (by rw [rl.length]; exact hz), ?_⟩
            exact q _ _ _ (((StP.po p1).trans (.po p2)).trans (.wr p2.sr mi hg fun G' x => .dic upd_same ((RpK.put (r1.strong.mono p2.ext) rl).mono x)))
          · cases e
        · cases e
    · cases e
end
end EV

set_option Elab.async false
set_option linter.all false
set_option maxRecDepth 100000
/-! EV9: functions: what a def promises over data, its call, its body. -/
namespace EV
open PySem PySem.Spec L2
theorem deeper_guards {A : Around} {env : Env} (h : A.guards = some []) : (A.deeper env).guards = some [] := h

/-! ### promises -/
abbrev Fs := List Slot → Option (D × Sg)
/-- behind a call of a def -/
def FnP (K : PySem.W.Frag) (ρ : Bool) (m : Mp) (ex : Addr → Prop) (H : Hp) (d : D) (g' : Sg) (v : V) (H' : Hp) : Prop := ∃ ex' : Addr → Prop,
  (∀ b o, ¬ Hd m ex b → H b = some o → H' b = some o) ∧ (∀ b, ex b → H' b = H b) ∧
  (∀ i a, m i = some a → ∃ p d', g'[i]? = some (.own p d') ∧ Ow K (hid (Hd m ex') H') H' a d') ∧
  ((ρ = false ∧ ex' = ex ∧ Rp K (hid (Hd m ex') H') v d) ∨ (ρ = true ∧ ∃ p, ex' = exP ex p ∧ v = .ref p ∧ H p = none ∧ Ow K (hid (Hd m ex') H') H' p d))
/-- F: what a def of n parameters makes of its slots -/
def spD (K : PySem.W.Frag) (ρ : Bool) (n : Nat) (F : Fs) : Sp := fun vs H Q _ => vs.length = n ∧ ∃ m ex ss d g', SR K m ex (vs.map some) H ss ∧ F ss = some (d, g') ∧ ∀ v H', FnP K ρ m ex H d g' v H' → Q v H'
def pinsOk (pn : List Nat) : Nat → List Slot → Bool
  | _, [] => true
  | i, .own _ _ :: ss => pn.contains i && pinsOk pn (i + 1) ss
  | i, _ :: ss => pinsOk pn (i + 1) ss
theorem pinsOk_get {pn : List Nat} {p : Bool} {d : D} : ∀ {ss : List Slot} {i j : Nat}, pinsOk pn i ss = true → ss[j]? = some (.own p d) → i + j ∈ pn
  | [], _, _, _, e => by simp at e
  | s :: ss, i, 0, h, e => by
    simp at e; subst e
    unfold pinsOk at h
    simp at h
    simpa using h.1
  | s :: ss, i, j + 1, h, e => by
    have h' : pinsOk pn (i + 1) ss = true := by
      cases s with
      | emp => exact h
      | val d => exact h
      | own p d => exact (Bool.and_eq_true_iff.mp h).2
    have := pinsOk_get (j := j) h' (by simpa using e)
    rwa [Nat.add_assoc, Nat.add_comm 1 j] at this
/-- a def's body, at its parameters' slots and l others -/
def fnF (pn : List Nat) (ρ : Bool) (l : Nat) (fb : Ss) : Fs := fun ss => if pinsOk pn 0 ss = true then (fb (ss ++ List.replicate l .emp)).bind (fun o => match o with
  | .rt d g => some (d, g)
  | .nx g => if ρ = true then none else some (.none, g)
  | _ => none) else none
section
variable {K : PySem.W.Frag} {m : Mp} {ex : Addr → Prop} {σ : L2.St} {H H' : Hp} {g : Sg} {pn : List Nat} {ρ : Bool}
theorem SR.pad (S : SR K m ex σ H g) (l : Nat) : SR K m ex (σ ++ List.replicate l none) H (g ++ List.replicate l .emp) := by
  have lt : ∀ {i s}, g[i]? = some s → i < g.length := fun h => (List.getElem?_eq_some_iff.mp h).1
  refine ⟨by simp [S.len], S.inj, S.nex, S.exl, fun i a h => ?_, fun i s e => ?_⟩
  · obtain ⟨p, d, z⟩ := S.own i a h
    exact ⟨p, d, by rw [List.getElem?_append_left (lt z)]; exact z⟩
  · by_cases hi : i < g.length
    · rw [List.getElem?_append_left hi] at e
      have z := S.slot i s e
      have es : (σ ++ List.replicate l none)[i]? = σ[i]? := List.getElem?_append_left (by rw [S.len]; exact hi)
      cases s with
      | emp => trivial
      | val d => obtain ⟨v, h1, h2⟩ := z; exact ⟨v, by rw [es]; exact h1, h2⟩
      | own p d => obtain ⟨a, h1, h2, h3⟩ := z; exact ⟨a, h1, by rw [es]; exact h2, h3⟩
    · rw [List.getElem?_append_right (by omega), List.getElem?_replicate] at e
      split at e <;> cases e
      trivial
theorem pins_m {ss : List Slot} (S : SR K m ex σ H ss) (h : pinsOk pn 0 ss = true) {i : Nat} {a : Addr} (e : m i = some a) : i ∈ pn := by
  obtain ⟨p, d, z⟩ := S.own i a e
  have := pinsOk_get h z
  rwa [Nat.zero_add] at this
/-- what a body gives back, told to its caller -/
theorem RtP.fn {m0 : Mp} {d : D} {v : V} {g' : Sg} (hp : ∀ i a, m i = some a → i ∈ pn) (r : RtP K pn ρ m ex H g' d v H') : FnP K ρ m ex H d g' v H' := by
  obtain ⟨m', σ', r⟩ := r
  have hh : ∀ {ex' ex0 : Addr → Prop}, StP K pn m ex ex' H m' σ' H' g' → ∀ b, Hd m ex' b → Hd m' ex' b := fun P b z => by
    rcases z with z | ⟨i, z⟩
    · exact .inl z
    · exact .inr ⟨i, by rw [P.pin i (hp i b z)]; exact z⟩
  have ow : ∀ {ex' : Addr → Prop}, StP K pn m ex ex' H m' σ' H' g' → ∀ i a, m i = some a → ∃ p d', g'[i]? = some (.own p d') ∧ Ow K (hid (Hd m ex') H') H' a d' := fun {ex'} P i a e => by
    have e' : m' i = some a := by rw [P.pin i (hp i a e)]; exact e
    obtain ⟨p, d', z⟩ := P.sr.own i a e'
    obtain ⟨b, h1, h2, h3⟩ := P.sr.slot i _ z
    rw [e'] at h1; cases h1
    exact ⟨p, d', z, h3.mono (hid_grow (fun b _ _ z => hh (ex0 := ex) P b z) fun _ _ _ q => q).ext rfl⟩
  rcases r with ⟨hr, P, r⟩ | ⟨hr, p, rfl, P, w, f⟩
  · exact ⟨ex, P.vis, P.exk, ow P, .inl ⟨hr, rfl, r.mono (hid_grow (fun b _ _ z => hh (ex0 := ex) P b z) fun _ _ _ q => q).ext⟩⟩
  · refine ⟨exP ex p, P.vis, P.exk, ow P, .inr ⟨hr, p, rfl, rfl, ?_, w.mono (hid_grow (fun b _ _ z => hh (ex0 := ex) P b z) fun _ _ _ q => q).ext rfl⟩⟩
    rcases f with ⟨j, nj, f⟩ | f
    · exact absurd (hp j p f) nj
    · exact f
/-- the body's reading at the entry -/
theorem entry_reads {N : List Str} {n : Nat} {vs : List V} {Q : VK} {fb : Ss} (hl : vs.length = n) (h : spD K ρ n (fnF pn ρ (N.length - n) fb) vs H Q E0) : TFS K pn ρ fb { nx := fun _ H' => Q .non H', rt := Q } (L2.start N vs) H := by
  obtain ⟨_, m, ex, ss, d, g', S, e, q⟩ := h
  unfold fnF at e
  split at e
  · rename_i hp
    cases h1 : fb (ss ++ List.replicate (N.length - n) .emp) with
    | none => rw [h1] at e; cases e
    | some o =>
      simp only [h1, Option.bind_some] at e
      have S' := S.pad (N.length - n)
      have hpm : ∀ i a, m i = some a → i ∈ pn := fun i a e => pins_m S hp e
      refine ⟨m, ex, _, o, by unfold L2.start; rw [hl]; exact S', h1, ?_⟩
      cases o with
      | rt d2 g2 =>
        cases e
        exact fun v H' r => q v H' (r.fn (m0 := m) hpm)
      | nx g2 =>
        simp only at e
        split at e
        · cases e
        · rename_i hr
          cases e
          exact fun m' σ' H' P => q .non H' (RtP.fn (m0 := m) hpm ⟨m', σ', .inl ⟨by simpa using hr, P, .non⟩⟩)
      | bk g2 => cases e
      | ct g2 => cases e
  · cases e
end

/-! ### a def of the text -/
structure FnG (G : Gb) (k : Nat) (f : Addr) (fd : FuncData) (ps : List Str) (sp : Sp) : Prop where
  len : ∀ vs H Q, sp vs H Q E0 → vs.length = ps.length
  run : ∀ {A : Around} {outer : List Env} {s : Shared} {H : Hp} {args : Args} {us : List Value} {vs : List V} {Q : VK}, A.guards = some [] → Room k A → Env0 G.prog G.w G.K G.mg G.base A outer s H →
    BindsTo s fd args (ps.zip us) → Vals vs us → sp vs H Q E0 → codeAny (model G.prog G.w) A (.call (.ref f) args) (CR CX0 outer G.prog G.w H s Q E0) s
structure Fd (K : PySem.W.Frag) (x : Str) (st : Stmt) (f : Addr) (fd : FuncData) (dV : Value) : Prop where
  ex : ∃ (oc : Value) (od : Option Addr) (kV doc pm : Value) (an : Option Addr) (cdv ct : Value) (osl : Array (Option Value)),
    fd = PySem.W.fnOf x x (defArgs st) (defBody st) (defScope st) dV kV doc pm an cdv ct ∧ K.lookup f = some ⟨oc, od, .func fd, osl⟩ ∧ PySem.W.codeIn K cdv x = true
theorem FnG.of {G : Gb} {x : Str} {st : Stmt} {f : Addr} {fd : FuncData} {dV : Value} {N ps : List Str} {k : Nat} {pn : List Nat} {ρ : Bool} {fb : Ss} (F : Fd G.K x st f fd dV) (S : FnScope N ps (defScope st))
    (body : JSs G ⟨N, defScope st, fun _ => true, k⟩ pn ρ (defBody st) fb) : FnG G (k + 1) f fd ps (spD G.K ρ ps.length (fnF pn ρ (N.length - ps.length) fb)) := by
  obtain ⟨oc, od, kV, doc, pm, an, cdv, ct, osl, rfl, lk, code⟩ := F.ex
  refine ⟨fun vs H Q h => h.1, fun {A outer s H args us vs Q} gd room e0 bt rel h => ?_⟩
  have kin : G.K.In s.heap := e0.mod.kin.keeps fun b o e => (e0.bs b o e).1
  have nl : s.heap.NoLimit := e0.mod.nolimit.keeps fun b o e => (e0.bs b o e).1
  have par : ∀ y ∈ ps.zip us, (defScope st).names.lookup y.1 = some .local ∨ ((defScope st).names.lookup y.1 = some .cell ∧ ((cellsFrom (s.heap.objs.size + 1) (defScope st).names []).lookup y.1).isSome = true) := by
    rintro ⟨n, v⟩ hy
    exact (S.par n (List.of_mem_zip hy).1).imp _root_.id fun q => ⟨q, PySem.W.cellsFrom_some _ _ _ (.inl q)⟩
  refine PySem.codeAny_call_function room.depth (kin _ _ lk) rfl S.co S.gen rfl (PySem.W.codeRec_of kin code) (bt _ _ _ _ ?_)
  refine PySem.wpAny_newFunctionEnv_cells S.kind par fun env henv st1 inc => ?_
  subst henv
  refine ⟨nl.keeps inc.toInCall.keep, PySem.codeAny_func ?_⟩
  have I0 : Inv (cxOf CX0 G.prog G.w G.K G.mg G.base N x (defScope st) f cdv A outer s H E0) [] (L2.start N vs) H st1 := inv_start S room.hd e0 h.1 rel inc
  have sx : SX G ⟨N, defScope st, fun _ => true, k⟩ (cxOf CX0 G.prog G.w G.K G.mg G.base N x (defScope st) f cdv A outer s H E0) := ⟨rfl, rfl, S.nd, rfl, rfl, room.deeper _, deeper_guards gd, rfl⟩
  refine wpAny_mono ((body _ sx).run [] st1 (L2.start N vs) H _ I0 (entry_reads h.1 h)) (fun fl s2 done => ?_) fun e s2 z => z
  cases fl with
  | ret u => obtain ⟨v, σ', H', J, rv, q⟩ := done; exact ⟨v, H', J.os, J.bare, J.base, J.hok, rv, q⟩
  | next => obtain ⟨σ', H', J, q⟩ := done; exact ⟨.non, H', J.os, J.bare, J.base, J.hok, rfl, q⟩
  | brk => obtain ⟨_, _, _, q⟩ := done; exact False.elim q
  | cont => obtain ⟨_, _, _, q⟩ := done; exact False.elim q

/-! ### calls -/
inductive Ag where
  | v (d : D)
  | r (i : Nat)
inductive AgR (K : PySem.W.Frag) (m : Mp) (G : Hp) : V → Ag → Prop
  | v {v : V} {d : D} : Rp K G v d → AgR K m G v (.v d)
  | r {a : Addr} {i : Nat} : m i = some a → AgR K m G (.ref a) (.r i)
inductive AgsR (K : PySem.W.Frag) (m : Mp) (G : Hp) : List V → List Ag → Prop
  | nil : AgsR K m G [] []
  | cons {v : V} {vs : List V} {a : Ag} {as : List Ag} : AgR K m G v a → AgsR K m G vs as → AgsR K m G (v :: vs) (a :: as)
def slotOf (g : Sg) : Ag → Option Slot
  | .v d => some (.val d)
  | .r i => (ownAt g i).map fun p => .own true p.2
def slotsOf (g : Sg) : List Ag → Option (List Slot)
  | [] => some []
  | a :: as => (slotOf g a).bind fun s => (slotsOf g as).map (s :: ·)
def refsOf : List Ag → List Nat
  | [] => []
  | .v _ :: as => refsOf as
  | .r i :: as => i :: refsOf as
def backS (g' : Sg) : Nat → List Ag → Sg → Option Sg
  | _, [], g => some g
  | j, .v _ :: as, g => backS g' (j + 1) as g
  | j, .r i :: as, g => (ownAt g' j).bind fun p => (ownAt g i).bind fun q => backS g' (j + 1) as (g.set i (.own q.1 p.2))
def fCall (F : Fs) (dfl : List D) (fr : Sg → Option (List Ag × Sg)) : Sf := fun g => (fr g).bind fun p => if (refsOf p.1).Nodup then (slotsOf p.2 (p.1 ++ dfl.map .v)).bind fun ss => (F ss).bind fun r => (backS r.2 0 p.1 p.2).map fun g2 => (r.1, g2) else none
def TFB (K : PySem.W.Frag) (π : Bool) (f : Sg → Option (List Ag × Sg)) : TA := fun σ H Q => ∃ m ex g as g', SR K m ex σ H g ∧ f g = some (as, g') ∧ ∀ vs H', Po K m ex σ H g π g' H' → (π = true → refsOf as = []) → AgsR K m (hid (Hd m ex) H') vs as → Q vs H'
def JB (G : Gb) (c : Sx) (π : Bool) (es : List Expr) (f : Sg → Option (List Ag × Sg)) : Prop := ∀ X, SX G c X → PA X es (TFB G.K π f)
theorem AgR.mono {K : PySem.W.Frag} {m : Mp} {G G' : Hp} (x : Ext G G') {v : V} {a : Ag} (h : AgR K m G v a) : AgR K m G' v a := by
  cases h with
  | v r => exact .v (r.mono x)
  | r e => exact .r e
section
variable {G : Gb} {c : Sx} {π π1 π2 : Bool} {a e : Expr} {es : List Expr} {fa : Sf} {fr : Sg → Option (List Ag × Sg)} {pos : Pos}
def bNil : Sg → Option (List Ag × Sg) := fun g => some ([], g)
def bCons (f : Sf) (r : Sg → Option (List Ag × Sg)) : Sg → Option (List Ag × Sg) := fun g => (f g).bind fun p => (r p.2).map fun q => (.v p.1 :: q.1, q.2)
def bRef (i : Nat) (r : Sg → Option (List Ag × Sg)) : Sg → Option (List Ag × Sg) := fun g => (ownAt g i).bind fun _ => (r g).map fun q => (.r i :: q.1, q.2)
theorem jb_nil : JB G c true [] bNil := fun X s => pa_weak pa_nil fun σ H Q ⟨m, ex, g, as, g', S, e, q⟩ => by
  cases e
  exact q [] H (.refl S) (fun _ => rfl) .nil
theorem jb_cons (h1 : J G c π1 true a fa) (h2 : JB G c π2 es fr) (hs : ∀ env, starEach (a :: es) env = (false, eval a env) :: starEach es env := by intro _; rfl) : JB G c (π1 && π2) (a :: es) (bCons fa fr) := fun X s =>
  pa_weak (pa_cons (h1 X s) (h2 X s) (hs _)) fun σ H Q ⟨m, ex, g, as, g', S, e, q⟩ => by
    unfold bCons at e
    cases h1 : fa g with
    | none => rw [h1] at e; cases e
    | some y =>
      cases h2 : fr y.2 with
      | none => simp [h1, h2] at e
      | some z =>
        simp only [h1, h2, Option.bind_some, Option.map_some] at e
        cases e
        refine ⟨m, ex, g, y.1, y.2, S, h1, fun v H1 p1 r1 => ⟨m, ex, y.2, z.1, z.2, p1.sr, h2, fun vs H2 p2 n2 r2 => ?_⟩⟩
        exact q _ H2 (p1.trans p2) (fun hπ => n2 (Bool.and_eq_true_iff.mp hπ).2) (.cons (.v (r1.strong.mono p2.ext)) r2)
theorem jb_ref (i : Nat) {x : Str} {k : Pos} (h2 : JB G c π2 es fr) (hN : c.N[i]? = some x := by rfl) (hv : Vis c.sc x := by first | exact Or.inl rfl | exact Or.inr (Or.inl rfl) | exact Or.inr (Or.inr rfl))
    (hd : (x == ("__debug__" : Str)) = false := by decide) (hcd : (x == ("__classdict__" : Str)) = false := by decide) (hs : ∀ env, starEach (.Name x k :: es) env = (false, eval (.Name x k) env) :: starEach es env := by intro _; rfl) : JB G c false (.Name x k :: es) (bRef i fr) := fun X s =>
  pa_weak (pa_cons (pe_var (i := i) (x := x) (by rw [s.N]; exact hN) (by rw [s.sc]; exact hv) hd hcd) (h2 X s) (hs _)) fun σ H Q ⟨m, ex, g, as, g', S, e, q⟩ => by
    unfold bRef at e
    cases h1 : ownAt g i with
    | none => rw [h1] at e; cases e
    | some y =>
      cases h2 : fr g with
      | none => simp [h1, h2] at e
      | some z =>
        simp only [h1, h2, Option.bind_some, Option.map_some] at e
        cases e
        obtain ⟨b, mi, sb, _⟩ := S.slot i _ (ownAt_some (p := y.1) (d := y.2) h1)
        exact ⟨_, sb, m, ex, g, z.1, z.2, S, h2, fun vs H2 p2 n2 r2 => q _ H2 (p2.weak fun z => (by cases z)) (fun z => (by cases z)) (.cons (.r mi) r2)⟩
end
section
variable {K : PySem.W.Frag} {m : Mp} {ex : Addr → Prop} {σ : L2.St} {H H' : Hp} {g g2 gc : Sg} {as : List Ag} {vs : List V} {ss : List Slot}
theorem AgsR.get {G : Hp} : ∀ {vs : List V} {as : List Ag} {j : Nat} {a : Ag}, AgsR K m G vs as → as[j]? = some a → ∃ v, vs[j]? = some v ∧ AgR K m G v a
  | _, _, _, _, .nil, e => by simp at e
  | _, _, 0, _, .cons h _, e => by simp at e; subst e; exact ⟨_, rfl, h⟩
  | _, _, j + 1, _, .cons _ r, e => by simpa using AgsR.get (j := j) r (by simpa using e)
theorem AgsR.length {G : Hp} : ∀ {vs : List V} {as : List Ag}, AgsR K m G vs as → vs.length = as.length
  | _, _, .nil => rfl
  | _, _, .cons _ r => by simp [AgsR.length r]
theorem AgsR.app {G : Hp} {ws : List V} {ds : List D} (r : RpL K G ws ds) : ∀ {vs : List V} {as : List Ag}, AgsR K m G vs as → AgsR K m G (vs ++ ws) (as ++ ds.map .v)
  | _, _, .nil => by
    simp only [List.nil_append]
    induction ds generalizing ws with
    | nil => cases r; exact .nil
    | cons d ds ih => cases r with
      | cons a r => exact .cons (.v a) (ih r)
  | _, _, .cons h t => .cons h (AgsR.app r t)
theorem slotsOf_get : ∀ {as : List Ag} {ss : List Slot}, slotsOf g as = some ss → ss.length = as.length ∧ ∀ (j : Nat) s, ss[j]? = some s → ∃ a, as[j]? = some a ∧ slotOf g a = some s
  | [], ss, e => by
    unfold slotsOf at e
    cases e
    exact ⟨rfl, fun j s e => by simp at e⟩
  | a :: as, ss, e => by
    unfold slotsOf at e
    cases h1 : slotOf g a with
    | none => rw [h1] at e; cases e
    | some s0 =>
      cases h2 : slotsOf g as with
      | none => simp [h1, h2] at e
      | some ss0 =>
        simp only [h1, h2, Option.bind_some, Option.map_some] at e
        cases e
        obtain ⟨l, f⟩ := slotsOf_get h2
        refine ⟨by simp [l], fun j s e => ?_⟩
        cases j with
        | zero => simp at e; subst e; exact ⟨a, rfl, h1⟩
        | succ j => simpa using f j s (by simpa using e)
/-- the callee's own things -/
def mC (m : Mp) (as : List Ag) : Mp := fun j => match as[j]? with
  | some (.r i) => m i
  | _ => none
def exC (m : Mp) (ex : Addr → Prop) (as : List Ag) : Addr → Prop := fun b => Hd m ex b ∧ ∀ j, mC m as j ≠ some b
theorem mC_some {j : Nat} {a : Addr} (h : mC m as j = some a) : ∃ i, as[j]? = some (.r i) ∧ m i = some a := by
  unfold mC at h
  split at h
  · exact ⟨_, ‹_›, h⟩
  · cases h
theorem hdC {b : Addr} : Hd (mC m as) (exC m ex as) b ↔ Hd m ex b := by
  constructor
  · rintro (h | ⟨j, h⟩)
    · exact h.1
    · obtain ⟨i, _, e⟩ := mC_some h
      exact .inr ⟨i, e⟩
  · intro h
    by_cases z : ∃ j, mC m as j = some b
    · exact .inr z
    · exact .inl ⟨h, fun j e => z ⟨j, e⟩⟩
theorem refs_mem {i j : Nat} : ∀ {as : List Ag} {j : Nat}, as[j]? = some (.r i) → i ∈ refsOf as
  | [], _, e => by simp at e
  | .v _ :: as, 0, e => by simp at e
  | .r k :: as, 0, e => by simp at e; subst e; exact List.mem_cons_self
  | .v _ :: as, j + 1, e => refs_mem (j := j) (i := i) (as := as) (by simpa using e)
  | .r k :: as, j + 1, e => List.mem_cons_of_mem _ (refs_mem (j := j) (i := i) (as := as) (by simpa using e))
theorem refs_inj {i : Nat} : ∀ {as : List Ag} {j k : Nat}, (refsOf as).Nodup → as[j]? = some (.r i) → as[k]? = some (.r i) → j = k
  | [], _, _, _, e, _ => by simp at e
  | .v _ :: as, 0, _, _, e, _ => by simp at e
  | .v _ :: as, _ + 1, 0, _, _, e => by simp at e
  | .v _ :: as, j + 1, k + 1, n, e1, e2 => congrArg (· + 1) (refs_inj (as := as) n (by simpa using e1) (by simpa using e2))
  | .r x :: as, 0, 0, _, _, _ => rfl
  | .r x :: as, 0, k + 1, n, e1, e2 => by
    simp at e1; subst e1
    exact absurd (refs_mem (j := 0) (as := as) (i := x) (by simpa using e2)) (List.nodup_cons.mp n).1
  | .r x :: as, j + 1, 0, n, e1, e2 => by
    simp at e2; subst e2
    exact absurd (refs_mem (j := 0) (as := as) (i := x) (by simpa using e1)) (List.nodup_cons.mp n).1
  | .r x :: as, j + 1, k + 1, n, e1, e2 => congrArg (· + 1) (refs_inj (as := as) (List.nodup_cons.mp n).2 (by simpa using e1) (by simpa using e2))
theorem refs_app : ∀ {as : List Ag} {ds : List D}, refsOf (as ++ ds.map .v) = refsOf as
  | [], ds => by induction ds with
    | nil => rfl
    | cons d ds ih => exact ih
  | .v _ :: as, ds => refs_app (as := as) (ds := ds)
  | .r i :: as, ds => congrArg (i :: ·) (refs_app (as := as) (ds := ds))
theorem SR.callee (S : SR K m ex σ H g) (r : AgsR K m (hid (Hd m ex) H) vs as) (e : slotsOf g as = some ss) (n : (refsOf as).Nodup) : SR K (mC m as) (exC m ex as) (vs.map some) H ss := by
  obtain ⟨hl, hs⟩ := slotsOf_get e
  have gr : Grow (hid (Hd m ex) H) (hid (Hd (mC m as) (exC m ex as)) H) := hid_grow (fun b _ _ z => hdC.mp z) fun _ _ _ q => q
  have get : ∀ {j i : Nat}, as[j]? = some (.r i) → ∃ d, ss[j]? = some (.own true d) := fun {j i} h => by
    have hj : j < ss.length := by rw [hl]; exact (List.getElem?_eq_some_iff.mp h).1
    obtain ⟨a, h1, h2⟩ := hs j ss[j] (List.getElem?_eq_getElem hj)
    rw [h] at h1; cases h1
    have h2 : ((ownAt g i).map fun p => Slot.own true p.2) = some ss[j] := h2
    cases h3 : ownAt g i with
    | none => rw [h3] at h2; cases h2
    | some y =>
      rw [h3] at h2
      simp only [Option.map_some, Option.some.injEq] at h2
      exact ⟨y.2, by rw [List.getElem?_eq_getElem hj, ← h2]⟩
  refine ⟨by rw [List.length_map, r.length, hl], fun j k a h1 h2 => ?_, fun j a h z => z.2 j h, fun b z => S.hdl z.1, fun j a h => ?_, fun j s q => ?_⟩
  · obtain ⟨i1, e1, m1⟩ := mC_some h1
    obtain ⟨i2, e2, m2⟩ := mC_some h2
    have := S.inj i1 i2 a m1 m2
    subst this
    exact refs_inj n e1 e2
  · obtain ⟨i, e1, m1⟩ := mC_some h
    obtain ⟨d, h⟩ := get e1
    exact ⟨true, d, h⟩
  · obtain ⟨a, h1, h2⟩ := hs j s q
    obtain ⟨v, h3, h4⟩ := r.get h1
    have hv : (vs.map some)[j]? = some (some v) := by rw [List.getElem?_map, h3]; rfl
    cases h4 with
    | v rv =>
      unfold slotOf at h2
      cases h2
      exact ⟨v, hv, rv.mono gr.ext⟩
    | @r b i mi =>
      have h2 : ((ownAt g i).map fun p => Slot.own true p.2) = some s := h2
      cases h5 : ownAt g i with
      | none => rw [h5] at h2; cases h2
      | some y =>
        rw [h5] at h2
        cases h2
        obtain ⟨b', e1, e2, e3⟩ := S.slot i _ (ownAt_some (p := y.1) (d := y.2) h5)
        rw [mi] at e1; cases e1
        exact ⟨b, by unfold mC; rw [h1]; exact mi, hv, e3.mono gr.ext rfl⟩
theorem backS_get : ∀ {as : List Ag} {j : Nat} {g g2 : Sg}, backS gc j as g = some g2 → (refsOf as).Nodup → g2.length = g.length ∧ (∀ i, i ∉ refsOf as → g2[i]? = g[i]?) ∧
    ∀ (t i : Nat), as[t]? = some (.r i) → ∃ p d q d0, gc[j + t]? = some (.own p d) ∧ g[i]? = some (.own q d0) ∧ g2[i]? = some (.own q d)
  | [], j, g, g2, e, n => by
    unfold backS at e
    cases e
    exact ⟨rfl, fun _ _ => rfl, fun t i e => by simp at e⟩
  | .v d :: as, j, g, g2, e, n => by
    obtain ⟨h0, h1, h2⟩ := backS_get (as := as) (j := j + 1) (show backS gc (j + 1) as g = some g2 from e) n
    refine ⟨h0, h1, fun t i e => ?_⟩
    cases t with
    | zero => simp at e
    | succ t => have := h2 t i (by simpa using e); rwa [Nat.add_assoc, Nat.add_comm 1 t] at this
  | .r i0 :: as, j, g, g2, e, n => by
    unfold backS at e
    cases h1 : ownAt gc j with
    | none => rw [h1] at e; cases e
    | some p =>
      cases h2 : ownAt g i0 with
      | none => simp [h1, h2] at e
      | some q =>
        simp only [h1, h2, Option.bind_some] at e
        have g1 := ownAt_some (p := q.1) (d := q.2) h2
        have hi : i0 < g.length := (List.getElem?_eq_some_iff.mp g1).1
        obtain ⟨n1, n2⟩ := List.nodup_cons.mp n
        obtain ⟨k0, k1, k2⟩ := backS_get (as := as) (j := j + 1) e n2
        refine ⟨by rw [k0, List.length_set], fun i hi' => ?_, fun t i et => ?_⟩
        · have : i ≠ i0 ∧ i ∉ refsOf as := ⟨fun z => hi' (by rw [z]; exact List.mem_cons_self), fun z => hi' (List.mem_cons_of_mem _ z)⟩
          rw [k1 i this.2, List.getElem?_set_ne (Ne.symm this.1)]
        · cases t with
          | zero =>
            simp at et; subst et
            refine ⟨p.1, p.2, q.1, q.2, ownAt_some (p := p.1) (d := p.2) h1, g1, ?_⟩
            rw [k1 i0 n1, List.getElem?_set_self hi]
          | succ t =>
            have et : as[t]? = some (.r i) := by simpa using et
            have ne : i0 ≠ i := fun z => n1 (by rw [z]; exact refs_mem (j := t) et)
            obtain ⟨p', d', q', d0', e1, e2, e3⟩ := k2 t i et
            rw [List.getElem?_set_ne ne] at e2
            rw [Nat.add_assoc, Nat.add_comm 1 t] at e1
            exact ⟨p', d', q', d0', e1, e2, e3⟩
theorem refs_has {i : Nat} : ∀ {as : List Ag}, i ∈ refsOf as → ∃ t : Nat, as[t]? = some (.r i)
  | [], h => by cases h
  | .v _ :: as, h => by
    obtain ⟨t, e⟩ := refs_has (as := as) h
    exact ⟨t + 1, by simpa using e⟩
  | .r k :: as, h => by
    rcases List.mem_cons.mp h with z | z
    · exact ⟨0, by simp [z]⟩
    · obtain ⟨t, e⟩ := refs_has (as := as) z
      exact ⟨t + 1, by simpa using e⟩
/-- the caller's frame behind a call; exN: with what is new -/
theorem SR.caller {exN : Addr → Prop} (S : SR K m ex σ H g) (n : (refsOf as).Nodup) (hb : backS gc 0 as g = some g2) (vis : ∀ b o, ¬ Hd m ex b → H b = some o → H' b = some o) (exk : ∀ b, exC m ex as b → H' b = H b)
    (own : ∀ j a, mC m as j = some a → ∃ p d', gc[j]? = some (.own p d') ∧ Ow K (hid (Hd m exN) H') H' a d') (h1 : ∀ b, ex b → exN b) (h2 : ∀ b, exN b → ex b ∨ H b = none) (h3 : ∀ b, exN b → ∃ o, H' b = some o) : SR K m exN σ H' g2 := by
  obtain ⟨k0, k1, k2⟩ := backS_get hb n
  have x : Ext (hid (Hd m ex) H) (hid (Hd m exN) H') := (hid_grow (fun b o e z => by
    rcases z with z | z
    · rcases h2 b z with z | z
      · exact .inl z
      · rw [z] at e; cases e
    · exact .inr z) vis).ext
  have live : ∀ i a, m i = some a → ∃ o, H a = some o := fun i a e => S.hdl (.inr ⟨i, e⟩)
  refine ⟨by rw [S.len, k0], S.inj, fun i a e z => ?_, h3, fun i a e => ?_, fun i s e => ?_⟩
  · rcases h2 a z with z | z
    · exact S.nex i a e z
    · obtain ⟨o, q⟩ := live i a e
      rw [z] at q; cases q
  · by_cases hi : i ∈ refsOf as
    · obtain ⟨t, et⟩ := refs_has hi
      obtain ⟨p, d, q, d0, _, _, e3⟩ := k2 t i et
      exact ⟨q, d, e3⟩
    · rw [k1 i hi]; exact S.own i a e
  · by_cases hi : i ∈ refsOf as
    · obtain ⟨t, et⟩ := refs_has hi
      obtain ⟨p, d, q, d0, e1, e2, e3⟩ := k2 t i et
      rw [e3] at e; cases e
      obtain ⟨a, m1, s1, w⟩ := S.slot i _ e2
      obtain ⟨p', d', e4, w'⟩ := own t a (by unfold mC; rw [et]; exact m1)
      rw [Nat.zero_add] at e1
      rw [e1] at e4; cases e4
      exact ⟨a, m1, s1, w'⟩
    · rw [k1 i hi] at e
      have z := S.slot i s e
      cases s with
      | emp => trivial
      | val d => obtain ⟨v, s1, r⟩ := z; exact ⟨v, s1, r.mono x⟩
      | own p d =>
        obtain ⟨a, m1, s1, w⟩ := z
        refine ⟨a, m1, s1, w.mono x (exk a ⟨.inr ⟨i, m1⟩, fun j q => hi ?_⟩)⟩
        obtain ⟨i', e1, e2⟩ := mC_some q
        have := S.inj i' i a e2 m1
        subst this
        exact refs_mem (j := j) e1
theorem FnP.back {ρ : Bool} {d : D} {v : V} (S : SR K m ex σ H g) (n : (refsOf as).Nodup) (hb : backS gc 0 as g = some g2) {ds : List D} (f : FnP K ρ (mC m (as ++ ds.map .v)) (exC m ex (as ++ ds.map .v)) H d gc v H') {π : Bool} (hπ : π = true → refsOf as = []) :
    (ρ = false ∧ Po K m ex σ H g π g2 H' ∧ Rp K (hid (Hd m ex) H') v d) ∨ (ρ = true ∧ ∃ p, v = .ref p ∧ PoF K m ex σ H g π g2 p H' ∧ Ow K (hid (Hd m (exP ex p)) H') H' p d) := by
  obtain ⟨ex', vis, exk, own, ret⟩ := f
  have mcE : ∀ {j a}, mC m as j = some a ↔ mC m (as ++ ds.map .v) j = some a := fun {j a} => by
    unfold mC
    by_cases hj : j < as.length
    · rw [List.getElem?_append_left hj]
    · rw [List.getElem?_append_right (by omega), List.getElem?_eq_none (by omega : as.length ≤ j), List.getElem?_map]
      cases ds[j - as.length]? <;> simp
  have exE : ∀ b, exC m ex as b ↔ exC m ex (as ++ ds.map .v) b := fun b => ⟨fun z => ⟨z.1, fun j e => z.2 j (mcE.mpr e)⟩, fun z => ⟨z.1, fun j e => z.2 j (mcE.mp e)⟩⟩
  have vis' : ∀ b o, ¬ Hd m ex b → H b = some o → H' b = some o := fun b o n e => vis b o (fun z => n (hdC.mp z)) e
  have exk' : ∀ b, ex b → H' b = H b := fun b z => exk b ⟨.inl z, fun j e => by
    obtain ⟨i, _, mi⟩ := mC_some e
    exact S.nex i b mi z⟩
  have pur : π = true → g2 = g ∧ Grow H H' := fun h => by
    have e0 := hπ h
    have eas : ∀ {j a}, mC m as j ≠ some a := fun {j a} e => by
      obtain ⟨i, h1, _⟩ := mC_some e
      have := refs_mem (j := j) h1
      rw [e0] at this; cases this
    refine ⟨?_, fun b o e => ?_⟩
    · obtain ⟨k0, k1, _⟩ := backS_get hb n
      apply List.ext_getElem?
      intro i
      exact k1 i (by rw [e0]; exact List.not_mem_nil)
    · by_cases hb : Hd m ex b
      · rw [exk b ((exE b).mp ⟨hb, fun j => eas⟩)]; exact e
      · exact vis' b o hb e
  rcases ret with ⟨hr, rfl, r⟩ | ⟨hr, p, rfl, rfl, np, w⟩
  · refine .inl ⟨hr, ⟨S.caller (exN := ex) n hb vis' (fun b z => exk b ((exE b).mp z)) (fun j a e => ?_) (fun _ z => z) (fun _ z => .inl z) (fun b z => ?_), vis', exk', pur⟩, r.mono (hid_grow (fun b _ _ z => hdC.mpr z) fun _ _ _ q => q).ext⟩
    · obtain ⟨p, d', h1, h2⟩ := own j a (mcE.mp e)
      exact ⟨p, d', h1, h2.mono (hid_grow (fun b _ _ z => hdC.mpr z) fun _ _ _ q => q).ext rfl⟩
    · rw [exk' b z]; exact S.exl b z
  · have hx : ∀ b, Hd m (exP ex p) b → Hd (mC m (as ++ ds.map .v)) (exP (exC m ex (as ++ ds.map .v)) p) b := fun b z => exP_hd.mpr ((exP_hd.mp z).imp hdC.mpr _root_.id)
    have gx : Grow (hid (Hd (mC m (as ++ ds.map .v)) (exP (exC m ex (as ++ ds.map .v)) p)) H') (hid (Hd m (exP ex p)) H') := hid_grow (fun b _ _ z => hx b z) fun _ _ _ q => q
    refine .inr ⟨hr, p, rfl, ⟨S.caller (exN := exP ex p) n hb vis' (fun b z => exk b ((exE b).mp z)) (fun j a e => ?_) (fun _ z => .inl z) (fun b z => ?_) (fun b z => ?_), vis', exk', pur, np⟩, w.mono gx.ext rfl⟩
    · obtain ⟨p, d', h1, h2⟩ := own j a (mcE.mp e)
      exact ⟨p, d', h1, h2.mono gx.ext rfl⟩
    · rcases z with z | z
      · exact .inl z
      · exact .inr (by rw [z]; exact np)
    · rcases z with z | z
      · rw [exk' b z]; exact S.exl b z
      · rw [z]; exact w.some
end
/-- a def that may be called by its name -/
structure FnD (G : Gb) (k : Nat) (x : Str) (ρ : Bool) (n : Nat) (dfl : List D) (F : Fs) : Prop where
  ex : ∃ (f : Addr) (fd : FuncData) (ps : List Str) (ds : List Value) (dvs : List V), FnG G k f fd ps (spD G.K ρ n F) ∧ G.mg x = some (.ref f) ∧ PySem.W.keepIn G.K (.ref f) = true ∧ Binds G.K fd ps ds ∧ Vals dvs ds ∧ ps.length = n ∧ ∀ H, RpL G.K H dvs dfl
theorem FnD.up {G : Gb} {k j : Nat} {x : Str} {ρ : Bool} {n : Nat} {dfl : List D} {F : Fs} (h : FnD G k x ρ n dfl F) (hk : k ≤ j) : FnD G j x ρ n dfl F := by
  obtain ⟨f, fd, ps, ds, dvs, h1, h2⟩ := h.ex
  exact ⟨f, fd, ps, ds, dvs, ⟨h1.len, fun gd r => h1.run gd (r.mono hk)⟩, h2⟩
section
variable {G : Gb} {c : Sx} {k : Nat} {x : Str} {ρ : Bool} {n : Nat} {dfl : List D} {F : Fs} {π : Bool} {e : Expr} {es : List Expr} {fr : Sg → Option (List Ag × Sg)} {p pos : Pos}
theorem pe_fn {X : Cx} {f : Addr} {fd : FuncData} {ps : List Str} {ds : List Value} {dvs : List V} {t : TA} (s : SX G c X) (h : FnG G k f fd ps (spD G.K ρ n F)) (hk : k ≤ c.lv) (hm : G.mg x = some (.ref f)) (kp : PySem.W.keepIn G.K (.ref f) = true) (hb : Binds G.K fd ps ds) (hd : Vals dvs ds)
    (hg : Gl X x) (ha : PA X (e :: es) t) (hdb : (x == ("__debug__" : Str)) = false) (he : starEach (e :: es) X.env = (false, eval e X.env) :: starEach es X.env) (hpl : (backTo pos (starEach es X.env)).any (·.1) = false) :
    PE X (.Call (.Name x p) (e :: es) [] pos) (tCall (spD G.K ρ n F) dvs E0 t) := by
  obtain ⟨rfl, hN, _, hsc, _, hroom, hgd, _⟩ := s
  refine ⟨fun pins st σ H Q I hw => PySem.wpAny_Call_Name_kw (ld_glob I hg hm ?_ hdb)⟩
  refine PySem.W.callWith_K (h₀ := X.base) I.ok.mod.kin kp (wpAny_mono (ha.run pos pins st σ H _ I hw) (fun us st1 ⟨vs, H1, I1, rel, hsp⟩ => ⟨I1.kIn, ?_⟩) fun _ _ z => z) he hpl
  have rel2 := rel.append hd
  have hlen : (us ++ ds).length = ps.length := by rw [← rel2.length]; exact h.len _ _ _ hsp
  refine PySem.wpAny_call (codeAny_mono (h.run (us := us ++ ds) hgd (hroom.mono hk) I1.env0 (hb st1 us I1.kIn hlen) rel2 hsp) fun res st2 hres => ?_)
  cases res with
  | error ee => exact False.elim hres
  | ok fl =>
    cases fl with
    | ret u => exact I1.after hres
    | next => exact False.elim hres
    | brk => exact False.elim hres
    | cont => exact False.elim hres
theorem call_reads {K : PySem.W.Frag} {σ : L2.St} {H : Hp} {Q : VK} {dvs : List V} (hd : ∀ H, RpL K H dvs dfl) {m : Mp} {ex : Addr → Prop} {g g' : Sg} {d : D} (S : SR K m ex σ H g) (hn : ∀ as g1, fr g = some (as, g1) → (as.length + dfl.length = n)) (e : fCall F dfl fr g = some (d, g'))
    (q : ∀ v H', ((ρ = false ∧ Po K m ex σ H g π g' H' ∧ Rp K (hid (Hd m ex) H') v d) ∨ (ρ = true ∧ ∃ p, v = .ref p ∧ PoF K m ex σ H g π g' p H' ∧ Ow K (hid (Hd m (exP ex p)) H') H' p d)) → Q v H') : tCall (spD K ρ n F) dvs E0 (TFB K π fr) σ H Q := by
  unfold fCall at e
  cases h1 : fr g with
  | none => rw [h1] at e; cases e
  | some y =>
    simp only [h1, Option.bind_some] at e
    split at e
    · rename_i nd
      cases h2 : slotsOf y.2 (y.1 ++ dfl.map .v) with
      | none => rw [h2] at e; cases e
      | some ss =>
        cases h3 : F ss with
        | none => simp [h2, h3] at e
        | some r =>
          cases h4 : backS r.2 0 y.1 y.2 with
          | none => simp [h2, h3, h4] at e
          | some g2 =>
            simp only [h2, h3, h4, Option.bind_some, Option.map_some] at e
            cases e
            refine ⟨m, ex, g, y.1, y.2, S, h1, fun vs H1 p1 n1 r1 => ?_⟩
            refine ⟨by rw [List.length_append, r1.length, (hd H).length]; exact hn _ _ h1, _, _, ss, r.1, r.2, p1.sr.callee (r1.app (hd _)) h2 (by rw [refs_app]; exact nd), h3, fun v H' f => q v H' ?_⟩
            rcases f.back p1.sr nd h4 n1 with ⟨hr, p2, r2⟩ | ⟨hr, p, ev, p2, w⟩
            · exact .inl ⟨hr, by have z := p1.trans p2; rwa [Bool.and_self] at z, r2⟩
            · exact .inr ⟨hr, p, ev, by have z := p2.after p1; rwa [Bool.and_self] at z, w⟩
    · cases e
theorem bcons_len {f : Sf} {r : Sg → Option (List Ag × Sg)} {n : Nat} (h : ∀ g as g1, r g = some (as, g1) → as.length = n) : ∀ g as g1, bCons f r g = some (as, g1) → as.length = n + 1 := fun g as g1 e => by
  unfold bCons at e
  cases h1 : f g with
  | none => rw [h1] at e; cases e
  | some y =>
    cases h2 : r y.2 with
    | none => simp [h1, h2] at e
    | some z =>
      simp only [h1, h2, Option.bind_some, Option.map_some] at e
      cases e
      simp [h _ _ _ h2]
theorem bref_len {i : Nat} {r : Sg → Option (List Ag × Sg)} {n : Nat} (h : ∀ g as g1, r g = some (as, g1) → as.length = n) : ∀ g as g1, bRef i r g = some (as, g1) → as.length = n + 1 := fun g as g1 e => by
  unfold bRef at e
  cases h1 : ownAt g i with
  | none => rw [h1] at e; cases e
  | some y =>
    cases h2 : r g with
    | none => simp [h1, h2] at e
    | some z =>
      simp only [h1, h2, Option.bind_some, Option.map_some] at e
      cases e
      simp [h _ _ _ h2]
theorem bnil_len : ∀ g as g1, bNil g = some (as, g1) → as.length = 0 := fun g as g1 e => by cases e; rfl
theorem j_call (h : FnD G k x false n dfl F) (ha : JB G c π (e :: es) fr) (hk : k ≤ c.lv := by decide) (hg : GlN c x := by rfl) (hl : ∀ g as g1, fr g = some (as, g1) → as.length = n - dfl.length := by repeat (first | exact bnil_len | apply bcons_len | apply bref_len)) (hn : dfl.length ≤ n := by decide)
    (hdb : (x == ("__debug__" : Str)) = false := by decide) (he : ∀ env, starEach (e :: es) env = (false, eval e env) :: starEach es env := by intro _; rfl) (hpl : ∀ env, (backTo pos (starEach es env)).any (·.1) = false := by intro _; rfl) :
    J G c π true (.Call (.Name x p) (e :: es) [] pos) (fCall F dfl fr) := fun X s => by
  obtain ⟨f, fd, ps, ds, dvs, h1, h2, h3, h4, h5, h6, h7⟩ := h.ex
  refine pe_weak (pe_fn s h1 hk h2 h3 h4 h5 (s.gl hg) (ha X s) hdb (he _) (hpl _)) fun σ H Q ⟨m, ex, g, d, g', S, e, q⟩ => ?_
  refine call_reads h7 S (fun as g1 e => by rw [hl _ _ _ e]; omega) e fun v H' z => ?_
  rcases z with ⟨_, p, r⟩ | ⟨z, _⟩
  · exact q v H' p (.of r)
  · cases z
theorem jf_call (h : FnD G k x true n dfl F) (ha : JB G c π (e :: es) fr) (hk : k ≤ c.lv := by decide) (hg : GlN c x := by rfl) (hl : ∀ g as g1, fr g = some (as, g1) → as.length = n - dfl.length := by repeat (first | exact bnil_len | apply bcons_len | apply bref_len)) (hn : dfl.length ≤ n := by decide)
    (hdb : (x == ("__debug__" : Str)) = false := by decide) (he : ∀ env, starEach (e :: es) env = (false, eval e env) :: starEach es env := by intro _; rfl) (hpl : ∀ env, (backTo pos (starEach es env)).any (·.1) = false := by intro _; rfl) :
    JF G c π (.Call (.Name x p) (e :: es) [] pos) (fCall F dfl fr) := fun X s => by
  obtain ⟨f, fd, ps, ds, dvs, h1, h2, h3, h4, h5, h6, h7⟩ := h.ex
  refine pe_weak (pe_fn s h1 hk h2 h3 h4 h5 (s.gl hg) (ha X s) hdb (he _) (hpl _)) fun σ H Q ⟨m, ex, g, d, g', S, e, q⟩ => ?_
  refine call_reads h7 S (fun as g1 e => by rw [hl _ _ _ e]; omega) e fun v H' z => ?_
  rcases z with ⟨z, _⟩ | ⟨_, p, rfl, po, w⟩
  · cases z
  · exact q p H' po w
end
end EV

set_option Elab.async false
set_option linter.all false
set_option maxRecDepth 100000
/-! EVa: the end of a law: what its def promises over every script. -/
namespace EV
open PySem PySem.Spec L2
/-- the script as a datum -/
def scr (ns : List Int) : D := .dict [(.none, .list (ns.map PyData.int))]
/-- the law's promise at the script -/
theorem law_reads {K : PySem.W.Frag} {H : Hp} {a : Addr} {ns : List Int} {F : Fs} {g' : Sg} (hS : SqL K H a (ns.map V.int)) (e : F [.val (scr ns)] = some (.bool true, g')) : spD K false 1 F [.ref a] H (fun v _ => v = .bl true) E0 := by
  have nh : ∀ b, ¬ Hd (fun _ => none) (fun _ => False) b := fun b z => by
    rcases z with z | ⟨i, z⟩
    · exact z
    · cases z
  have gr : Grow H (hid (Hd (fun _ => none) (fun _ => False)) H) := fun b o q => hid_iff.mpr ⟨nh b, q⟩
  refine ⟨rfl, fun _ => none, fun _ => False, [.val (scr ns)], .bool true, g', ⟨rfl, fun i j a h => (by cases h), fun i a h => (by cases h), fun a h => h.elim, fun i a h => (by cases h), fun i s h => ?_⟩, e, fun v H' f => ?_⟩
  · cases i with
    | zero =>
      simp at h; subst h
      exact ⟨_, rfl, .scr (gr.ext.sqL hS)⟩
    | succ i => simp at h
  · obtain ⟨ex', _, _, _, r⟩ := f
    rcases r with ⟨_, _, r⟩ | ⟨z, _⟩
    · cases r; rfl
    · cases z
/-- a def's promise where only the module knows the program -/
theorem top_call {G : Heap → Gb} {P : Program} {w : World} {K : PySem.W.Frag} {mg mb : Str → Option Value} (hG : ∀ base, G base = ⟨P, w, K, mg, base⟩) {k : Nat} {fa a : Addr} {fd : FuncData} {x : Str} {F : Fs} {g' : Sg} {s₁ : Shared} {vs : List Value} {ns : List Int}
    (KX : K.In s₁.heap) (nm : s₁.heap.Ns mainGlobals mg) (nb : s₁.heap.Ns builtinsNs mb) (bb : ∀ x : Str, x ≠ "__name__" → mb x = bootBuiltins x) (nl : s₁.heap.NoLimit) (gens : s₁.gens = #[])
    (obj : s₁.heap.get? a = some { cls := .type "list", data := .seq vs.toArray }) (iv : PyProof.Rows.IntsAre vs ns) (len : ns.length ≤ sizeLine) (room : Room k callerA)
    (fn : ∀ base : Heap, K.In base → base.Ns mainGlobals mg → FnG (G base) k fa fd [x] (spD K false 1 F)) (bind : ∀ (s : Shared) (u : Value), BindsTo s fd ⟨[u], []⟩ [(x, u)]) (e : F [.val (scr ns)] = some (.bool true, g')) :
    codeAny (model P w) callerA (.call (.ref fa) ⟨[.ref a], []⟩) (fun r s' => r = .ok (.ret (.bool true)) ∧ OldK s₁.heap s'.heap ∧ s'.os = s₁.os ∧ PyProof.Rows.AllBare s'.gens) s₁ := by
  have rel := vals_ints iv
  -- the script tracked (o), or an object of the module
  have go : ∀ H : Hp, SqL K H a (ns.map V.int) → HOk P w H s₁.heap → (∀ b u, H b = some u → b = a ∧ K.lookup a = none ∧ ∃ ob xs, u = .frz ob (.lst xs)) →
      codeAny (model P w) callerA (.call (.ref fa) ⟨[.ref a], []⟩) (fun r s' => r = .ok (.ret (.bool true)) ∧ OldK s₁.heap s'.heap ∧ s'.os = s₁.os ∧ PyProof.Rows.AllBare s'.gens) s₁ := by
    intro H sq ok only
    have hide : ∀ {b : Addr} {o : Obj}, s₁.heap.get? b = some o → (∀ its n, o.data ≠ .seq its n) ∨ K.lookup b = some o → (hidT s₁.heap H).get? b = some o := fun {b o} q h => by
      cases hb : H b with
      | none => exact hidT_get q hb
      | some u =>
        obtain ⟨rfl, hk, _⟩ := only b u hb
        rcases h with h | h
        · rw [obj] at q; cases q; exact absurd rfl (h _ _)
        · rw [hk] at h; cases h
    have kin : K.In (hidT s₁.heap H) := fun b o q => hide (KX b o q) (.inr q)
    have ns' : ∀ {b : Addr} {m : Str → Option Value}, s₁.heap.Ns b m → (hidT s₁.heap H).Ns b m := fun {b m} ⟨o, es, ep, q, d, r⟩ => ⟨o, es, ep, hide q (.inl fun its n z => by rw [d] at z; cases z), d, r⟩
    have mod : Mod K mg (hidT s₁.heap H) := ⟨kin, ns' nm, ⟨mb, ns' nb, bb⟩, let ⟨mc, h1, h2⟩ := nl; ⟨mc, ns' h1, h2⟩⟩
    have env : Env0 P w K mg (hidT s₁.heap H) callerA [] s₁ H := ⟨rfl, mod, fun b o q => of_hidT q, Nat.le_of_eq (hidT_size _ _), trivial, fun b z => absurd (show b ∈ ([] : List Addr) from z) (by simp), ok, .of_eq gens⟩
    have fnb := fn _ kin (ns' nm)
    have run := fnb.run (outer := []) (s := s₁) (H := H) (args := ⟨[.ref a], []⟩) (us := [.ref a]) (vs := [.ref a]) (Q := fun v _ => v = .bl true) (A := callerA)
    rw [hG] at run
    refine codeAny_mono (run rfl room env (bind s₁ (.ref a)) (.cons rfl .nil) (law_reads sq e)) fun res s' h => ?_
    cases res with
    | error er => exact False.elim h
    | ok fl =>
      cases fl with
      | next => exact False.elim h
      | brk => exact False.elim h
      | cont => exact False.elim h
      | ret u =>
        obtain ⟨v, H', os, bare, un, ok', r, q⟩ := h
        subst q
        obtain rfl : u = Value.bool true := r
        refine ⟨rfl, OldK.of_keep fun b o q => ?_, os, bare⟩
        cases hb : H b with
        | none => exact un.keep b o q hb (fun z => absurd (show b ∈ ([] : List Addr) from z) (by simp)) (by simp)
        | some u =>
          obtain ⟨_, _, ob, xs, rfl⟩ := only b u hb
          have o1 := (ok b _ hb).1
          have o2 := (ok' b _ (un.frzs b ob _ hb)).1
          rw [q] at o1; cases o1
          exact o2
  cases hk : K.lookup a with
  | some o =>
    have q := KX a o hk
    rw [obj] at q; cases q
    exact go (fun _ => none) (.inr ⟨_, vs.toArray, _, hk, rfl, rfl, rfl, by rw [List.size_toArray, iv.length]; exact len, by simpa using rel⟩) (fun b u z => by simp at z) (fun b u z => by simp at z)
  | none =>
    have one : ∀ b u, (if b = a then some (HO.frz { cls := .type "list", data := .seq vs.toArray } (.lst (ns.map V.int))) else none) = some u → b = a ∧ u = HO.frz { cls := .type "list", data := .seq vs.toArray } (.lst (ns.map V.int)) := fun b u z => by
      split at z
      · cases z; exact ⟨‹_›, rfl⟩
      · cases z
    refine go (fun b => if b = a then some (.frz { cls := .type "list", data := .seq vs.toArray } (.lst (ns.map V.int))) else none) (.inl (.inr ⟨_, if_pos rfl⟩)) (fun b u z => ?_) fun b u z => ?_
    · obtain ⟨rfl, rfl⟩ := one b u z
      exact ⟨obj, by rw [List.length_map]; exact len, vs, _, rel, obj⟩
    · obtain ⟨rfl, rfl⟩ := one b u z
      exact ⟨rfl, hk, _, _, rfl⟩
/-- the goal behind the law's head, from the law's def over data -/
theorem walk_ofG {l : PySem.W.OpenLaw} {n k : Nat} {q : Program} {loose : List Str} {XP : (Str → Option Value) → Heap → Prop} {YP : World → Heap → Prop} {d : DefRec} {K : Params → PySem.W.Frag} {x : Str} {F : Fs}
    (hn : l.most = some n) (hn2 : n ≤ sizeLine) (hdf : d.params.defaults = []) (hr : Room k callerA) (hY : ∀ (w : World) (h : Heap), YP w h → (K w.params).In h)
    (fn : ∀ (w : World) (mg : Str → Option Value) (fa : Addr) (h : Heap), (K w.params).In h → h.Ns mainGlobals mg → mg d.name = some (.ref fa) →
      ∃ fd : FuncData, (∀ (s : Shared) (u : Value), BindsTo s fd ⟨[u], []⟩ [(x, u)]) ∧ ∀ base : Heap, (K w.params).In base → base.Ns mainGlobals mg → FnG ⟨l.prog, w, K w.params, mg, base⟩ k fa fd [x] (spD (K w.params) false 1 F))
    (tr : ∀ ns : List Int, ns.length ≤ n → ∃ g', F [.val (scr ns)] = some (.bool true, g')) :
    PySem.W.WalkO q loose XP YP l.row.toRowW d [] (fun f vs => PySem.call f vs) := by
  refine Att.attach_call hn hdf fun w s₀ s₁ mg mb fa o pm cd doc a vs ns W Y ho hd hcd hmg hobj hints hlen hg => ?_
  have kx := hY w _ Y
  obtain ⟨fd, hb, hF⟩ := fn w mg fa _ kx W.T.g hmg
  obtain ⟨g', e⟩ := tr ns hlen
  exact top_call (G := fun base => ⟨l.prog, w, K w.params, mg, base⟩) (fun _ => rfl) kx W.T.g W.T.b W.T.builtins W.T.nolimit hg hobj hints (Nat.le_trans hlen hn2) hr hF hb e
end EV

set_option Elab.async false
set_option linter.all false
set_option maxRecDepth 100000
/-! EVb: short names; how a def of the text becomes a promise. -/
namespace EV
open PySem PySem.Spec L2
abbrev oAdd := oI fun i j => i + j
abbrev oSub := oI fun i j => i - j
abbrev oMul := oIc cMul fun i j => i * j
abbrev oFdiv := oIc cDiv fun i j => i / j
abbrev oMod := oIc cPos fun i j => i % j
abbrev oPow := oIc cPow fun i j => i ^ j.toNat
abbrev oShl := oIc cPow fun i j => i * 2 ^ j.toNat
abbrev oShr := oIc cNn fun i j => i / 2 ^ j.toNat
abbrev oBor := oI Builtin.bitOr
abbrev oBand := oI Builtin.bitAnd
abbrev pbLt := oPb fun i j => decide (i < j)
abbrev pbLe := oPb fun i j => decide (i ≤ j)
abbrev pbGt := oPb fun i j => decide (j < i)
abbrev pbGe := oPb fun i j => decide (j ≤ i)
abbrev pLtD := oP fun i j => decide (i < j)
abbrev pLeD := oP fun i j => decide (i ≤ j)
abbrev pGtD := oP fun i j => decide (j < i)
abbrev pGeD := oP fun i j => decide (j ≤ i)
abbrev oSum := oLI fun ns => some (.int ns.sum)
abbrev oMax := oLI fun ns => (maxI ns).map .int
abbrev oMin := oLI fun ns => (minI ns).map .int
abbrev oSortI := oLI fun ns => some (.list ((sortI ns).map .int))
abbrev oAny := oLB fun bs => bs.any _root_.id
abbrev oAll := oLB fun bs => bs.all _root_.id
/-- a def of the module that takes all its arguments -/
structure Df (G : Gb) (x : Str) (st : Stmt) (ps : List Str) : Prop where
  ex : ∃ (f : Addr) (fd : FuncData), Fd G.K x st f fd .none ∧ G.mg x = some (.ref f) ∧ PySem.W.keepIn G.K (.ref f) = true ∧ Binds G.K fd ps []
theorem mkD {G : Gb} {x : Str} {st : Stmt} {ps N : List Str} {k : Nat} {pn : List Nat} {ρ : Bool} {fb : Ss} (d : Df G x st ps) (S : FnScope N ps (defScope st)) (body : JSs G ⟨N, defScope st, fun _ => true, k⟩ pn ρ (defBody st) fb) :
    FnD G (k + 1) x ρ ps.length [] (fnF pn ρ (N.length - ps.length) fb) := by
  obtain ⟨f, fd, h1, h2, h3, h4⟩ := d.ex
  exact ⟨f, fd, ps, [], [], FnG.of h1 S body, h2, h3, h4, .nil, rfl, fun _ => .nil⟩
theorem konI {G : Gb} {x : Str} {i : Int} {t : Tok} (h : G.mg x = some (.int i t)) : Kon G x (.int i) := ⟨_, .int i, h, ⟨t, rfl⟩, fun _ => .int i⟩
end EV

set_option Elab.async false
set_option linter.all false
set_option maxRecDepth 100000
/-! EVc: more rules. -/
namespace EV
open PySem PySem.Spec L2
section
variable {G : Gb} {c : Sx} {pn : List Nat} {ρ : Bool} {pos : Pos} {π π1 π2 τ : Bool} {a e : Expr} {fa fe fk : Sf}
theorem js_addAt (i : Nat) {x : Str} {k tpos : Pos} (hk : J G c π1 true a fk) (he : J G c π2 τ e fe) (hN : c.N[i]? = some x := by rfl) (hv : Vis c.sc x := by first | exact Or.inl rfl | exact Or.inr (Or.inl rfl) | exact Or.inr (Or.inr rfl))
    (hd : (x == ("__debug__" : Str)) = false := by decide) (hcd : (x == ("__classdict__" : Str)) = false := by decide)
    (hau : ∀ ov iv new, augStore a ov iv new = (do holding [new, ov, iv] (setItem ov iv new); release [new, ov, iv] []; pure .next) := by intros; rfl) : JS G c pn ρ (.AugAssign (.Subscript (.Name x k) a tpos) .Add e pos) (fAugI oAdd i fk fe) :=
  js_augI i (fun X s => iop_add) ok_I hk he hN hv hd hcd hau
theorem js_subAt (i : Nat) {x : Str} {k tpos : Pos} (hk : J G c π1 true a fk) (he : J G c π2 τ e fe) (hN : c.N[i]? = some x := by rfl) (hv : Vis c.sc x := by first | exact Or.inl rfl | exact Or.inr (Or.inl rfl) | exact Or.inr (Or.inr rfl))
    (hd : (x == ("__debug__" : Str)) = false := by decide) (hcd : (x == ("__classdict__" : Str)) = false := by decide)
    (hau : ∀ ov iv new, augStore a ov iv new = (do holding [new, ov, iv] (setItem ov iv new); release [new, ov, iv] []; pure .next) := by intros; rfl) : JS G c pn ρ (.AugAssign (.Subscript (.Name x k) a tpos) .Sub e pos) (fAugI oSub i fk fe) :=
  js_augI i (fun X s => iop_sub) ok_I hk he hN hv hd hcd hau
end
end EV

set_option Elab.async false
set_option linter.all false
set_option maxRecDepth 100000
set_option maxHeartbeats 1000000
/-! EVd: list(zip(..)) over lists and tuples. -/
namespace EV
open PySem PySem.Spec L2
section
variable {prog : Program} {w : World} {A : Around} {E : Value → Shared → Prop} {s : Shared} {z TI TO i1 i2 T : Addr} {f : Bool} {oT : Obj} {fp1 fp2 : List Addr} {n1 n2 i : Nat} {P1 P2 : Nat → Value → Prop} {St1 St2 : Nat → Heap → Prop}
abbrev Held (h : Heap) (z TI TO T : Addr) (f : Bool) : Prop := h.get? z = some { cls := .type "zip", dict := none, data := .fields #[rawInt T, .bool f, .bool false, .ref TI, .ref TO], slots := #[] }
theorem zh_item {Q : Value → Shared → Prop} (S : ZipSep2 z TI TO i1 i2 fp1 fp2) (D1 : Draws prog w A i1 fp1 n1 P1 St1) (D2 : Draws prog w A i2 fp2 n2 P2 St2) (hz : Held s.heap z TI TO T f) (hT : s.heap.get? T = some oT) (hTI : IsTupOf2 s.heap TI (.ref i1) (.ref i2))
    (st1 : St1 i s.heap) (st2 : St2 i s.heap) (l1 : i < n1) (l2 : i < n2)
    (hQ : ∀ x y h' tk, P1 i x → P2 i y → Held h' z TI TO T true → St1 (i + 1) h' → St2 (i + 1) h' → IsTupOf2 h' s.heap.objs.size x y → h'.objs.size = s.heap.objs.size + 1 →
      (∀ c o, c ≠ z → c ≠ i1 → c ≠ i2 → s.heap.get? c = some o → h'.get? c = some o) → Q (.ref s.heap.objs.size) { s with heap := h', toks := tk }) :
    wpAny (model prog w) A (Builtin.«zip.__next__» ⟨[.ref z], []⟩) (fun fin s' => ∃ v, fin = .done (.ret v) ∧ Q v s') E s := by
  obtain ⟨hp, gg, dd, tk0, os⟩ := s
  show wpAny _ _ (field (.ref z) 2 >>= _) _ _ _
  refine wpAny_bind (wpAny_field hz rfl (x := .bool false) rfl ?_)
  show wpAny _ _ (field (.ref z) 3 >>= _) _ _ _
  refine wpAny_bind (wpAny_field hz rfl (x := .ref TI) rfl ?_)
  refine wpAny_bind (wpAny_seqItems hTI rfl ?_)
  show wpAny _ _ (Builtin.SmallTypes.ownedTupleIsFree (.ref z) >>= _) _ _ _
  refine wpAny_bind (PySem.wpAny_tupleHeld_zip hz hT fun g0 hz0 hs0 => ?_)
  replace hs0 : Heap.SameBut z hp g0 := hs0
  simp only [Bool.false_eq_true, if_false]
  refine wpAny_bind ?_
  rw [← Array.forIn_toList]
  simp only [List.forIn_cons, List.forIn_nil]
  refine wpAny_bind (wpAny_bind (wpAny_holding ?_))
  show wpAny _ _ (Builtin.SmallTypes.nextOf (.ref i1) >>= _) _ _ ⟨g0, gg, dd, tk0, os⟩
  refine wpAny_bind (D1.item i _ _ _ l1 (D1.over st1 hs0 S.zf1) fun x p1 tk1 hx sn1 hp1 => wpAny_pure ?_)
  replace hp1 : Heap.SameBut i1 g0 p1 := hp1
  refine wpAny_pure ?_
  refine wpAny_bind (wpAny_bind (wpAny_holding ?_))
  show wpAny _ _ (Builtin.SmallTypes.nextOf (.ref i2) >>= _) _ _ ⟨p1, gg, dd, tk1, os⟩
  refine wpAny_bind (D2.item i _ _ _ l2 (D2.over (D2.over st2 hs0 S.zf2) hp1 S.sep1_2) fun y p2 tk2 hy sn2 hp2 => wpAny_pure ?_)
  replace hp2 : Heap.SameBut i2 p1 p2 := hp2
  refine wpAny_pure (wpAny_pure ?_)
  show wpAny _ _ (newTuple [x, y] >>= _) _ _ ⟨p2, gg, dd, tk2, os⟩
  refine wpAny_bind (wpAny_newTuple ?_)
  have hsz : p2.objs.size = hp.objs.size := by rw [hp2.1, hp1.1, hs0.1]
  have hz3 : Held p2 z TI TO T true := hp2.extBut _ _ S.zi2 (hp1.extBut _ _ S.zi1 hz0)
  have hk : ∀ c o, c ≠ z → c ≠ i1 → c ≠ i2 → hp.get? c = some o → p2.get? c = some o := fun c o c1 c2 c3 e => hp2.extBut _ _ c3 (hp1.extBut _ _ c2 (hs0.extBut _ _ c1 e))
  refine wpAny_pure ⟨_, rfl, ?_⟩
  show Q (.ref p2.objs.size) _
  have hpair : IsTupOf2 (p2.push { cls := .type "tuple", data := .seq #[x, y] }) p2.objs.size x y := Heap.get?_push_size _ rfl
  have hz4 : (p2.push { cls := .type "tuple", data := .seq #[x, y] }).objs.size = p2.objs.size + 1 := Heap.size_push ..
  rw [hsz] at hpair hz4 ⊢
  exact hQ x y _ tk2 hx hy (Heap.get?_push_of_some _ hz3) (D1.frame _ _ _ (D1.over sn1 hp2 S.sep2_1) fun b hb o e => Heap.get?_push_of_some _ e) (D2.frame _ _ _ sn2 fun b hb o e => Heap.get?_push_of_some _ e) hpair hz4
    fun c o c1 c2 c3 e => Heap.get?_push_of_some _ (hk c o c1 c2 c3 e)
theorem zh_end {Q : PySem.Fin → Shared → Prop} (S : ZipSep2 z TI TO i1 i2 fp1 fp2) (D1 : Draws prog w A i1 fp1 n1 P1 St1) (D2 : Draws prog w A i2 fp2 n2 P2 St2) (hz : Held s.heap z TI TO T f) (hT : s.heap.get? T = some oT) (hTI : IsTupOf2 s.heap TI (.ref i1) (.ref i2))
    (st1 : St1 i s.heap) (st2 : St2 i s.heap) (l1 : i ≤ n1) (l2 : i ≤ n2) (he : i = n1 ∨ i = n2)
    (hE : ∀ h' tk e, (∀ c o, c ≠ z → c ≠ i1 → c ≠ i2 → s.heap.get? c = some o → h'.get? c = some o) → (∃ o, h'.get? e = some o ∧ o.cls = .type "StopIteration") → E (.ref e) { s with heap := h', toks := tk }) :
    wpAny (model prog w) A (Builtin.«zip.__next__» ⟨[.ref z], []⟩) Q E s := by
  obtain ⟨hp, gg, dd, tk0, os⟩ := s
  show wpAny _ _ (field (.ref z) 2 >>= _) _ _ _
  refine wpAny_bind (wpAny_field hz rfl (x := .bool false) rfl ?_)
  show wpAny _ _ (field (.ref z) 3 >>= _) _ _ _
  refine wpAny_bind (wpAny_field hz rfl (x := .ref TI) rfl ?_)
  refine wpAny_bind (wpAny_seqItems hTI rfl ?_)
  show wpAny _ _ (Builtin.SmallTypes.ownedTupleIsFree (.ref z) >>= _) _ _ _
  refine wpAny_bind (PySem.wpAny_tupleHeld_zip hz hT fun g0 hz0 hs0 => ?_)
  replace hs0 : Heap.SameBut z hp g0 := hs0
  simp only [Bool.false_eq_true, if_false]
  refine wpAny_bind ?_
  rw [← Array.forIn_toList]
  simp only [List.forIn_cons, List.forIn_nil]
  refine wpAny_bind (wpAny_bind (wpAny_holding ?_))
  show wpAny _ _ (Builtin.SmallTypes.nextOf (.ref i1) >>= _) _ _ ⟨g0, gg, dd, tk0, os⟩
  by_cases hlt : i < n1
  · refine wpAny_bind (D1.item i _ _ _ hlt (D1.over st1 hs0 S.zf1) fun x p1 tk1 hx sn1 hp1 => wpAny_pure ?_)
    replace hp1 : Heap.SameBut i1 g0 p1 := hp1
    have e2 : i = n2 := by omega
    refine wpAny_pure ?_
    refine wpAny_bind (wpAny_bind (wpAny_holding ?_))
    show wpAny _ _ (Builtin.SmallTypes.nextOf (.ref i2) >>= _) _ _ ⟨p1, gg, dd, tk1, os⟩
    refine wpAny_bind (D2.done ⟨p1, gg, dd, tk1, os⟩ _ _ (by rw [← e2]; exact D2.over (D2.over st2 hs0 S.zf2) hp1 S.sep1_2) fun q e hq he' => ?_)
    exact hE q tk1 e (fun c o c1 c2 c3 x => hq _ _ c3 (hp1.extBut _ _ c2 (hs0.extBut _ _ c1 x))) he'
  · have e1 : i = n1 := by omega
    refine wpAny_bind (D1.done ⟨g0, gg, dd, tk0, os⟩ _ _ (by rw [← e1]; exact D1.over st1 hs0 S.zf1) fun q e hq he' => ?_)
    exact hE q tk0 e (fun c o c1 c2 _ x => hq _ _ c2 (hs0.extBut _ _ c1 x)) he'
theorem zh_next {Q : Option Value → Shared → Prop} (S : ZipSep2 z TI TO i1 i2 fp1 fp2) (D1 : Draws prog w A.in1 i1 fp1 n1 P1 St1) (D2 : Draws prog w A.in1 i2 fp2 n2 P2 St2) (hz : Held s.heap z TI TO T f) (hT : s.heap.get? T = some oT) (hTI : IsTupOf2 s.heap TI (.ref i1) (.ref i2))
    (st1 : St1 i s.heap) (st2 : St2 i s.heap) (l1 : i < n1) (l2 : i < n2)
    (hQ : ∀ x y h' tk, P1 i x → P2 i y → Held h' z TI TO T true → St1 (i + 1) h' → St2 (i + 1) h' → IsTupOf2 h' s.heap.objs.size x y → h'.objs.size = s.heap.objs.size + 1 →
      (∀ c o, c ≠ z → c ≠ i1 → c ≠ i2 → s.heap.get? c = some o → h'.get? c = some o) → Q (some (.ref s.heap.objs.size)) { s with heap := h', toks := tk }) :
    wpAny (model prog w) A (pyNext (.ref z)) Q E s := by
  have ty : s.TypeIs (.ref z) "zip" := ⟨_, hz, rfl⟩
  unfold pyNext
  exact wpAny_bind (wpAny_attempt (wpAny_callSpecial?_slot (name := Str.ofString "__next__") ty PySem.F.slot_zip_next
    (wpAny_call_entry PySem.F.slot_zip_next ty PySem.F.entry_zip_next (zh_item S D1 D2 hz hT hTI st1 st2 l1 l2 fun x y h' tk a1 a2 a3 a4 a5 a6 a7 a8 => wpAny_pure (hQ x y h' tk a1 a2 a3 a4 a5 a6 a7 a8)) (PySem.F.args_zip_next_1 _))))
theorem zh_stop {Q : Option Value → Shared → Prop} (S : ZipSep2 z TI TO i1 i2 fp1 fp2) (D1 : Draws prog w A.in1 i1 fp1 n1 P1 St1) (D2 : Draws prog w A.in1 i2 fp2 n2 P2 St2) (hz : Held s.heap z TI TO T f) (hT : s.heap.get? T = some oT) (hTI : IsTupOf2 s.heap TI (.ref i1) (.ref i2))
    (st1 : St1 i s.heap) (st2 : St2 i s.heap) (l1 : i ≤ n1) (l2 : i ≤ n2) (he : i = n1 ∨ i = n2) (hQ : ∀ h' tk, (∀ c o, c ≠ z → c ≠ i1 → c ≠ i2 → s.heap.get? c = some o → h'.get? c = some o) → Q none { s with heap := h', toks := tk }) :
    wpAny (model prog w) A (pyNext (.ref z)) Q E s := by
  have ty : s.TypeIs (.ref z) "zip" := ⟨_, hz, rfl⟩
  unfold pyNext
  refine wpAny_bind (wpAny_attempt (wpAny_callSpecial?_slot (name := Str.ofString "__next__") ty PySem.F.slot_zip_next
    (wpAny_call_entry PySem.F.slot_zip_next ty PySem.F.entry_zip_next (zh_end S D1 D2 hz hT hTI st1 st2 l1 l2 he fun h' tk e hk ee => ?_) (PySem.F.args_zip_next_1 _))))
  obtain ⟨o, ho, hc⟩ := ee
  refine wpAny_bind (wpAny_isInstance (T := "StopIteration") (b := true) ⟨o, ho, hc⟩ isSubtype_stop ?_)
  exact wpAny_pure (hQ _ _ hk)
end

/-! ### gathered into a list -/
/-- a zip of two things that draw, i turns done; L: the list that is filled -/
structure ZAt (St1 St2 : Nat → Heap → Prop) (z TI TO i1 i2 L : Addr) (i : Nat) (h : Heap) : Prop where
  ti : IsTupOf2 h TI (.ref i1) (.ref i2)
  s1 : St1 i h
  s2 : St2 i h
  zs : (IsZip h z TI TO .none ∧ ∃ x y, IsTupOf2 h TO x y) ∨ ∃ T f, Held h z TI TO T f ∧ (∃ o, h.get? T = some o) ∧ T ≠ z ∧ T ≠ i1 ∧ T ≠ i2 ∧ T ≠ L
section
variable {prog : Program} {w : World} {A : Around} {z TI TO i1 i2 L : Addr} {fp1 fp2 : List Addr} {n1 n2 : Nat} {P1 P2 : Nat → Value → Prop} {St1 St2 : Nat → Heap → Prop}
theorem ZAt.keep {h h' : Heap} {i : Nat} (D1 : Draws prog w A i1 fp1 n1 P1 St1) (D2 : Draws prog w A i2 fp2 n2 P2 St2) (q : ZAt St1 St2 z TI TO i1 i2 L i h) (nz : L ≠ z) (nI : L ≠ TI) (nO : L ≠ TO) (f1 : L ∉ fp1) (f2 : L ∉ fp2)
    (k : ∀ b o, b ≠ L → h.get? b = some o → h'.get? b = some o) : ZAt St1 St2 z TI TO i1 i2 L i h' := by
  refine ⟨k _ _ (Ne.symm nI) q.ti, D1.frame _ _ _ q.s1 fun b hb o e => k b o (fun x => f1 (x ▸ hb)) e, D2.frame _ _ _ q.s2 fun b hb o e => k b o (fun x => f2 (x ▸ hb)) e, ?_⟩
  rcases q.zs with ⟨e, x, y, t⟩ | ⟨T, f, e, ⟨o, ho⟩, r1, r2, r3, r4⟩
  · exact .inl ⟨k _ _ (Ne.symm nz) e, x, y, k _ _ (Ne.symm nO) t⟩
  · exact .inr ⟨T, f, k _ _ (Ne.symm nz) e, ⟨o, k _ _ r4 ho⟩, r1, r2, r3, r4⟩
theorem zat_item {E : Value → Shared → Prop} {s : Shared} {i : Nat} {Q : Option Value → Shared → Prop} (S : ZipSep2 z TI TO i1 i2 fp1 fp2) (D1 : Draws prog w A.in1 i1 fp1 n1 P1 St1) (D2 : Draws prog w A.in1 i2 fp2 n2 P2 St2) (q : ZAt St1 St2 z TI TO i1 i2 L i s.heap) (hL : L < s.heap.objs.size)
    (l1 : i < n1) (l2 : i < n2) (hQ : ∀ x y h' tk, P1 i x → P2 i y → ZAt St1 St2 z TI TO i1 i2 L (i + 1) h' → IsTupOf2 h' s.heap.objs.size x y → (∀ c o, c ≠ z → c ≠ TO → c ≠ i1 → c ≠ i2 → s.heap.get? c = some o → h'.get? c = some o) → Q (some (.ref s.heap.objs.size)) { s with heap := h', toks := tk }) :
    wpAny (model prog w) A (pyNext (.ref z)) Q E s := by
  have new : ∀ {c o}, s.heap.get? c = some o → s.heap.objs.size ≠ c := fun e => Nat.ne_of_gt (Heap.lt_size e)
  have ni1 : s.heap.objs.size ≠ i1 := let ⟨_, e⟩ := D1.live _ _ q.s1; new e
  have ni2 : s.heap.objs.size ≠ i2 := let ⟨_, e⟩ := D2.live _ _ q.s2; new e
  rcases q.zs with ⟨e, x0, y0, t⟩ | ⟨T, f, e, ⟨o, ho⟩, r1, r2, r3, r4⟩
  · refine wpAny_pyNext_zipD2_item S D1 D2 e q.ti t q.s1 q.s2 l1 l2 fun x y h' tk a1 a2 a3 a4 a5 a6 a7 a8 hk => ?_
    exact hQ x y h' tk a1 a2 ⟨hk _ _ S.TIz S.TITO S.TIi1 S.TIi2 q.ti, a5, a6, .inr ⟨_, false, a3, ⟨_, a7⟩, new e, ni1, ni2, Nat.ne_of_gt hL⟩⟩ a7 hk
  · refine zh_next S D1 D2 e ho q.ti q.s1 q.s2 l1 l2 fun x y h' tk a1 a2 a3 a4 a5 a6 a7 hk => ?_
    exact hQ x y h' tk a1 a2 ⟨hk _ _ S.TIz S.TIi1 S.TIi2 q.ti, a4, a5, .inr ⟨T, true, a3, ⟨o, hk _ _ r1 r2 r3 ho⟩, r1, r2, r3, r4⟩⟩ a6 fun c u c1 _ c2 c3 z => hk c u c1 c2 c3 z
theorem zat_done {E : Value → Shared → Prop} {s : Shared} {i : Nat} {Q : Option Value → Shared → Prop} (S : ZipSep2 z TI TO i1 i2 fp1 fp2) (D1 : Draws prog w A.in1 i1 fp1 n1 P1 St1) (D2 : Draws prog w A.in1 i2 fp2 n2 P2 St2) (q : ZAt St1 St2 z TI TO i1 i2 L i s.heap)
    (hi : i = min n1 n2) (hQ : ∀ h' tk, (∀ c o, c ≠ z → c ≠ TO → c ≠ i1 → c ≠ i2 → s.heap.get? c = some o → h'.get? c = some o) → Q none { s with heap := h', toks := tk }) : wpAny (model prog w) A (pyNext (.ref z)) Q E s := by
  have a1 : i ≤ n1 := by omega
  have a2 : i ≤ n2 := by omega
  have a3 : i = n1 ∨ i = n2 := by omega
  rcases q.zs with ⟨e, x0, y0, t⟩ | ⟨T, f, e, ⟨o, ho⟩, _⟩
  · exact wpAny_pyNext_zipD2_end S D1 D2 e q.ti t q.s1 q.s2 a1 a2 a3 hQ
  · exact zh_stop S D1 D2 e ho q.ti q.s1 q.s2 a1 a2 a3 fun h' tk hk => hQ h' tk fun c u c1 _ c2 c3 z => hk c u c1 c2 c3 z
/-- the pairs gathered so far: new ones, as they were laid -/
structure Gath (P1 P2 : Nat → Value → Prop) (lo : Addr) (h : Heap) (as : List Addr) : Prop where
  up : ∀ a ∈ as, lo ≤ a
  nd : as.Nodup
  pr : ∀ (j : Nat) a, as[j]? = some a → ∃ x y, P1 j x ∧ P2 j y ∧ IsTupOf2 h a x y
theorem zip_loop {s : Shared} {R : Result → Shared → Prop} (hh : A.handled = none) (S : ZipSep2 z TI TO i1 i2 fp1 fp2) (D1 : Draws prog w A.in1.in1 i1 fp1 n1 P1 St1) (D2 : Draws prog w A.in1.in1 i2 fp2 n2 P2 St2) (nz : L ≠ z) (nI : L ≠ TI) (nO : L ≠ TO) (f1 : L ∉ fp1) (f2 : L ∉ fp2)
    (hn : min n1 n2 ≤ sizeLine) (lo : Addr) (hlo : ∀ a, a = z ∨ a = TO ∨ a = i1 ∨ a = i2 ∨ a = L → a < lo) (res : Value) {h1 : Heap}
    (hR : ∀ h' tk acc c as, (∀ b o, b ≠ L → b ≠ z → b ≠ TO → b ≠ i1 → b ≠ i2 → h1.get? b = some o → h'.get? b = some o) → h'.get? L = some { cls := .type "list", dict := none, data := .seq acc c, slots := #[] } → as.length = min n1 n2 → Gath P1 P2 lo h' as →
      acc.toList = as.map Value.ref → R (.ok (.ret res)) { s with heap := h', toks := tk }) :
    ∀ (k i : Nat) (h : Heap) (tk c : Nat) (acc : Array Value) (as : List Addr), min n1 n2 - i = k → i ≤ min n1 n2 → ZAt St1 St2 z TI TO i1 i2 L i h → (∀ b o, b ≠ L → b ≠ z → b ≠ TO → b ≠ i1 → b ≠ i2 → h1.get? b = some o → h.get? b = some o) →
      h.get? L = some { cls := .type "list", dict := none, data := .seq acc c, slots := #[] } → acc.toList = as.map Value.ref → as.length = i → Gath P1 P2 lo h as → lo ≤ h.objs.size →
      codeAny (model prog w) A (.builtin "list.extend.loop" ⟨[.ref L, .ref z, res], []⟩) R { s with heap := h, toks := tk } := by
  have nL1 : L ≠ i1 := fun e => f1 (by rw [e]; exact S.mem1)
  have nL2 : L ≠ i2 := fun e => f2 (by rw [e]; exact S.mem2)
  have hzl := hlo z (.inl rfl)
  have hTl := hlo TO (.inr (.inl rfl))
  have h1l := hlo i1 (.inr (.inr (.inl rfl)))
  have h2l := hlo i2 (.inr (.inr (.inr (.inl rfl))))
  have hLl := hlo L (.inr (.inr (.inr (.inr rfl))))
  intro k
  induction k with
  | zero =>
    intro i h tk c acc as hk hi q kp hS hacc hal hG hsz
    refine codeAny_builtin PySem.F.entry_extend_loop ?_
    rw [Around.under_plainId PySem.F.plain_extend_loop _]
    show wpAny _ A.in1 (pyNext (.ref z) >>= _) _ _ _
    refine wpAny_bind (zat_done (s := { s with heap := h, toks := tk }) (A := A.in1) S D1 D2 q (by omega) fun h' tk' he => ?_)
    refine wpAny_pure (hR h' tk' acc c as (fun b o b1 b2 b3 b4 b5 e => he b o b2 b3 b4 b5 (kp b o b1 b2 b3 b4 b5 e)) (he L _ nz nO nL1 nL2 hS) (by omega) ⟨hG.up, hG.nd, fun j a hj => ?_⟩ hacc)
    obtain ⟨x, y, p1, p2, t⟩ := hG.pr j a hj
    have := hG.up a (List.mem_of_getElem? hj)
    exact ⟨x, y, p1, p2, he a _ (Nat.ne_of_gt (Nat.lt_of_lt_of_le hzl this)) (Nat.ne_of_gt (Nat.lt_of_lt_of_le hTl this)) (Nat.ne_of_gt (Nat.lt_of_lt_of_le h1l this)) (Nat.ne_of_gt (Nat.lt_of_lt_of_le h2l this)) t⟩
  | succ k ih =>
    intro i h tk c acc as hk hi q kp hS hacc hal hG hsz
    have hasz : acc.size = i := by rw [← Array.length_toList, hacc, List.length_map, hal]
    refine codeAny_builtin PySem.F.entry_extend_loop ?_
    rw [Around.under_plainId PySem.F.plain_extend_loop _]
    show wpAny _ A.in1 (pyNext (.ref z) >>= _) _ _ _
    refine wpAny_bind (zat_item (s := { s with heap := h, toks := tk }) (A := A.in1) S D1 D2 q (Heap.lt_size hS) (by omega) (by omega) fun x y h' tk' p1 p2 q' ht hkp => ?_)
    dsimp only at ht hkp ⊢
    have hS' := hkp L _ nz nO nL1 nL2 hS
    have up : ∀ b o, b ≠ L → h'.get? b = some o → (h'.update L (Obj.mapSeq (·.push (Value.ref h.objs.size)))).get? b = some o := fun b o hb e => (Heap.get?_update_other _ _ (Ne.symm hb)).trans e
    show wpAny _ A.in1 (updateSeq L (·.push (Value.ref h.objs.size)) >>= _) _ _ _
    refine wpAny_bind ?_
    have e3 : (h'.update L (Obj.mapSeq (·.push (Value.ref h.objs.size)))).get? h.objs.size = _ := up _ _ (Nat.ne_of_gt (Heap.lt_size hS)) ht
    refine wpAny_updateSeq hS' rfl (wpAny_pure ⟨plainId_quiet PySem.F.plain_extend_loop _, ih (i + 1) _ tk' _ (acc.push (Value.ref h.objs.size)) (as ++ [h.objs.size]) (by omega) (by omega) (q'.keep D1 D2 nz nI nO f1 f2 up)
      (fun b o b1 b2 b3 b4 b5 e => up b o b1 (hkp b o b2 b3 b4 b5 (kp b o b1 b2 b3 b4 b5 e))) (Heap.get?_update_self _ hS' rfl) (by rw [Array.toList_push, hacc, List.map_append]; rfl) (by rw [List.length_append, hal]; rfl) ⟨?_, ?_, ?_⟩ ?_⟩) (by rw [hasz]; omega) (by show (acc.push (Value.ref h.objs.size)).size ≤ sizeLine + 1; rw [Array.size_push, hasz]; omega)
    · intro a ha
      rcases List.mem_append.mp ha with ha | ha
      · exact hG.up a ha
      · rw [List.mem_singleton.mp ha]; exact hsz
    · refine List.nodup_append.mpr ⟨hG.nd, by simp, fun a ha b hb e => ?_⟩
      rw [List.mem_singleton.mp hb] at e
      obtain ⟨j, hj⟩ := List.mem_iff_getElem?.mp ha
      obtain ⟨_, _, _, _, t⟩ := hG.pr j a hj
      exact absurd (Heap.lt_size t) (by rw [e]; exact Nat.lt_irrefl _)
    · intro j a hj
      rcases Nat.lt_trichotomy j as.length with g1 | g1 | g1
      · rw [List.getElem?_append_left g1] at hj
        obtain ⟨x', y', p1', p2', t⟩ := hG.pr j a hj
        have ga := hG.up a (List.mem_of_getElem? hj)
        exact ⟨x', y', p1', p2', up a _ (Nat.ne_of_gt (Nat.lt_of_lt_of_le hLl ga)) (hkp a _ (Nat.ne_of_gt (Nat.lt_of_lt_of_le hzl ga)) (Nat.ne_of_gt (Nat.lt_of_lt_of_le hTl ga)) (Nat.ne_of_gt (Nat.lt_of_lt_of_le h1l ga)) (Nat.ne_of_gt (Nat.lt_of_lt_of_le h2l ga)) t)⟩
      · subst g1
        have hb : h.objs.size = a := by simpa using hj
        subst hb
        exact ⟨x, y, hal ▸ p1, hal ▸ p2, e3⟩
      · have : (as ++ [h.objs.size])[j]? = none := List.getElem?_eq_none (by rw [List.length_append, List.length_singleton]; omega)
        rw [this] at hj; cases hj
    · exact Nat.le_of_lt (Nat.lt_of_le_of_lt hsz (Heap.lt_size e3))
theorem zip_no_len : typeLookup (.type "zip") "__len__" = pure none := by rw [typeLookup_type, builtinLookup_eq_fast]; kernel_rfl
theorem zip_no_hint : typeLookup (.type "zip") "__length_hint__" = pure none := by rw [typeLookup_type, builtinLookup_eq_fast]; kernel_rfl
theorem ZAt.ty {h : Heap} {i : Nat} {s : Shared} (q : ZAt St1 St2 z TI TO i1 i2 L i h) (e : s.heap = h) : s.TypeIs (.ref z) "zip" := by
  subst e
  rcases q.zs with ⟨e, _⟩ | ⟨T, f, e, _⟩
  · exact ⟨_, e, rfl⟩
  · exact ⟨_, e, rfl⟩
theorem zip_fill {s : Shared} {R : Result → Shared → Prop} (hh : A.handled = none) (S : ZipSep2 z TI TO i1 i2 fp1 fp2) (D1 : Draws prog w A.in1.in1 i1 fp1 n1 P1 St1) (D2 : Draws prog w A.in1.in1 i2 fp2 n2 P2 St2) (nz : L ≠ z) (nI : L ≠ TI) (nO : L ≠ TO) (f1 : L ∉ fp1) (f2 : L ∉ fp2) (hn : min n1 n2 ≤ sizeLine)
    (q : ZAt St1 St2 z TI TO i1 i2 L 0 s.heap) (q0 : IsZip s.heap z TI TO .none) (c0 : Nat) (hS : s.heap.get? L = some { cls := .type "list", data := .seq #[] c0 }) (hlo : ∀ a, a = z ∨ a = TO ∨ a = i1 ∨ a = i2 ∨ a = L → a < s.heap.objs.size) (res : Value)
    (hR : ∀ h' tk acc c as, (∀ b o, b ≠ L → b ≠ z → b ≠ TO → b ≠ i1 → b ≠ i2 → s.heap.get? b = some o → h'.get? b = some o) → h'.get? L = some { cls := .type "list", dict := none, data := .seq acc c, slots := #[] } → as.length = min n1 n2 → Gath P1 P2 s.heap.objs.size h' as →
      acc.toList = as.map Value.ref → R (.ok (.ret res)) { s with heap := h', toks := tk }) :
    wpAny (model prog w) A.in1 (Builtin.List.listExtendWith (.ref L) (.ref z) res)
      (fun fin s' => match fin with | .done f => R (.ok f) s' | .again c' => c'.quiet = true ∧ codeAny (model prog w) A c' R s') (fun e s' => R (.error e) s') s := by
  unfold Builtin.List.listExtendWith
  refine wpAny_bind (wpAny_typeOf (q.ty rfl) ?_)
  have e1 : Builtin.List.listSameRef (.ref L) (.ref z) = false := by simp [Builtin.List.listSameRef, nz]
  have e2 : (Value.type "zip" == Value.type "list") = false := by decide
  have e3 : (Value.type "zip" == Value.type "tuple") = false := by decide
  simp only [e1, e2, e3, Bool.or_false, Bool.false_eq_true, if_false]
  refine wpAny_bind (wpAny_pyIter_zip q0 ?_)
  refine wpAny_bind (wpAny_holding ?_)
  unfold Builtin.List.listLengthHint
  refine wpAny_bind (wpAny_specialOf (q.ty rfl) zip_no_len ?_)
  show wpAny _ A.in1 (specialOf (Value.ref z) (Str.ofString "__length_hint__") >>= _) _ _ _
  refine wpAny_bind (wpAny_specialOf (q.ty rfl) zip_no_hint ?_)
  refine wpAny_pure ?_
  show wpAny _ A.in1 (rule "list.extend.makes-room" >>= fun _ => Builtin.List.listTouch (.ref L) >>= fun _ => again (.builtin "list.extend.loop" ⟨[.ref L, .ref z, res], []⟩)) _ _ _
  refine wpAny_bind (wpAny_rule ?_)
  refine wpAny_bind ?_
  show wpAny _ A.in1 (updateSeq L (·.push .none) >>= fun _ => updateSeq L (·.pop)) _ _ _
  refine wpAny_bind (wpAny_updateSeq hS rfl ?_)
  have hS2 := Heap.get?_update_self (Obj.mapSeq (·.push Value.none)) hS rfl
  refine wpAny_updateSeq (hz := by seq_fits) hS2 rfl ?_
  have hS3 := Heap.get?_update_self (Obj.mapSeq (·.pop)) hS2 rfl
  have oth : ∀ b o, b ≠ L → s.heap.get? b = some o → ((s.heap.update L (Obj.mapSeq (·.push Value.none))).update L (Obj.mapSeq (·.pop))).get? b = some o :=
    fun b o hb e => (Heap.get?_update_other _ _ (Ne.symm hb)).trans ((Heap.get?_update_other _ _ (Ne.symm hb)).trans e)
  refine wpAny_pure ⟨plainId_quiet PySem.F.plain_extend_loop _, zip_loop (h1 := s.heap) hh S D1 D2 nz nI nO f1 f2 hn s.heap.objs.size hlo res hR (min n1 n2) 0 _ s.toks _ #[] [] (Nat.sub_zero _) (Nat.zero_le _) (q.keep D1 D2 nz nI nO f1 f2 oth)
    (fun b o b1 _ _ _ _ e => oth b o b1 e) hS3 rfl rfl ⟨(fun _ h => nomatch h), List.nodup_nil, fun j a hj => by simp at hj⟩ ?_⟩
  show s.heap.objs.size ≤ _
  rw [Heap.size_update, Heap.size_update]
  exact Nat.le_refl _
theorem zip_list {E : Value → Shared → Prop} {s : Shared} {Q : Value → Shared → Prop} (hh : A.handled = none) (S : ZipSep2 z TI TO i1 i2 fp1 fp2) (D1 : Draws prog w A.in1.in1.in1 i1 fp1 n1 P1 St1) (D2 : Draws prog w A.in1.in1.in1 i2 fp2 n2 P2 St2) (hn : min n1 n2 ≤ sizeLine)
    (q : ∀ L, ZAt St1 St2 z TI TO i1 i2 L 0 s.heap) (q0 : IsZip s.heap z TI TO .none) (lt : ∀ a, a = z ∨ a = TI ∨ a = TO ∨ a ∈ fp1 ∨ a ∈ fp2 → a < s.heap.objs.size)
    (hQ : ∀ h' tk acc c as, (∀ b o, b ≠ z → b ≠ TO → b ≠ i1 → b ≠ i2 → s.heap.get? b = some o → h'.get? b = some o) → h'.get? s.heap.objs.size = some { cls := .type "list", dict := none, data := .seq acc c, slots := #[] } → as.length = min n1 n2 →
      Gath P1 P2 (s.heap.objs.size + 1) h' as → acc.toList = as.map Value.ref → Q (.ref s.heap.objs.size) { s with heap := h', toks := tk }) : wpAny (model prog w) A (call (.type "list") [.ref z]) Q E s := by
  refine callType_codes (Q₁ := fun obj s₁ => obj = .ref s.heap.objs.size ∧ s₁ = { s with heap := s.heap.push { cls := .type "list", data := .seq #[] } }) PySem.F.called_list (PySem.F.typeCall_list_1 _) PySem.F.entry_list_init
    (code_list_new _ ⟨rfl, rfl⟩) fun obj s₁ h₁ => ?_
  obtain ⟨rfl, rfl⟩ := h₁
  have hS : (s.heap.push { cls := .type "list", data := .seq #[] }).get? s.heap.objs.size = some { cls := .type "list", data := .seq #[] } := Heap.get?_push_size _ rfl
  have ne : ∀ a, a = z ∨ a = TI ∨ a = TO ∨ a ∈ fp1 ∨ a ∈ fp2 → s.heap.objs.size ≠ a := fun a h => Nat.ne_of_gt (lt a h)
  have nz := ne z (.inl rfl)
  have nI := ne TI (.inr (.inl rfl))
  have nO := ne TO (.inr (.inr (.inl rfl)))
  have f1 : s.heap.objs.size ∉ fp1 := fun h => ne _ (.inr (.inr (.inr (.inl h)))) rfl
  have f2 : s.heap.objs.size ∉ fp2 := fun h => ne _ (.inr (.inr (.inr (.inr h)))) rfl
  refine ⟨⟨_, hS, rfl⟩, PySem.F.args_list_init_2 _ _, ?_⟩
  show wpAny _ _ (do let old ← Builtin.List.listItems (.ref s.heap.objs.size); Builtin.List.listUpdate (.ref s.heap.objs.size) (fun _ => #[]); letGo old.toList.reverse; Builtin.List.listExtendWith (.ref s.heap.objs.size) (.ref z) .none) _ _ _
  refine wpAny_bind ?_
  unfold Builtin.List.listItems
  refine wpAny_bind (wpAny_seqItems hS rfl (wpAny_pure ?_))
  show wpAny _ _ (updateSeq s.heap.objs.size (fun _ => #[]) >>= fun _ => letGo (#[] : Array Value).toList.reverse >>= fun _ => Builtin.List.listExtendWith (.ref s.heap.objs.size) (.ref z) .none) _ _ _
  refine wpAny_bind (wpAny_updateSeq hS rfl ?_)
  have hS2 := Heap.get?_update_self (Obj.mapSeq (fun _ => (#[] : Array Value))) hS rfl
  have oth : ∀ b o, b ≠ s.heap.objs.size → s.heap.get? b = some o → ((s.heap.push { cls := .type "list", data := .seq #[] }).update s.heap.objs.size (Obj.mapSeq (fun _ => (#[] : Array Value)))).get? b = some o :=
    fun b o hb e => (Heap.get?_update_other _ _ (Ne.symm hb)).trans (Heap.get?_push_of_some _ e)
  have hsz : ((s.heap.push { cls := .type "list", data := .seq #[] }).update s.heap.objs.size (Obj.mapSeq (fun _ => (#[] : Array Value)))).objs.size = s.heap.objs.size + 1 := by rw [Heap.size_update, Heap.size_push]
  refine wpAny_bind (wpAny_letGo ?_)
  refine zip_fill (A := A.in1) (L := s.heap.objs.size) hh S D1 D2 nz nI nO f1 f2 hn ((q s.heap.objs.size).keep D1 D2 nz nI nO f1 f2 oth) (oth _ _ (Ne.symm nz) q0) _ hS2 (fun a ha => ?_) .none (fun h' tk acc c as hk hS' hl hG hacc => ?_)
  · have h1 : a < s.heap.objs.size + 1 := by
      rcases ha with h | h | h | h | h
      · exact Nat.lt_succ_of_lt (lt a (.inl h))
      · exact Nat.lt_succ_of_lt (lt a (.inr (.inr (.inl h))))
      · exact Nat.lt_succ_of_lt (lt a (.inr (.inr (.inr (.inl (h ▸ S.mem1))))))
      · exact Nat.lt_succ_of_lt (lt a (.inr (.inr (.inr (.inr (h ▸ S.mem2))))))
      · rw [h]; exact Nat.lt_succ_self _
    rw [← hsz] at h1
    exact h1
  · replace hG : Gath P1 P2 (s.heap.objs.size + 1) h' as := by
      have := hG
      rw [hsz] at this
      exact this
    exact ⟨rfl, hQ h' tk acc c as (fun b o b1 b2 b3 b4 e => hk b o (Nat.ne_of_lt (Heap.lt_size e)) b1 b2 b3 b4 (oth b o (Nat.ne_of_lt (Heap.lt_size e)) e)) hS' hl hG hacc⟩
end

/-! ### the rule -/
theorem Inv.grown {X : Cx} {pins : List (Addr × Obj)} {σ : L2.St} {H H' : Hp} {s : Shared} {h' : Heap} {t' : Nat} (I : Inv X pins σ H s) (k : ∀ b u, s.heap.get? b = some u → h'.get? b = some u) (gr : Grow H H')
    (n : ∀ b o, H' b = some o → H b = some o ∨ (s.heap.objs.size ≤ b ∧ ObjOk X.prog X.w H' h' b o)) : Inv X pins σ H' { s with heap := h', toks := t' } := by
  refine I.un ⟨fun b o e _ _ _ => k b o e, fun b o e _ _ _ => ⟨o.slots, k b o e⟩, fun b o e hn _ => ?_, fun b o e _ => ⟨o, k b o e⟩, fun b xs e => gr _ _ e, fun b o u e => gr _ _ e, fun b ps e => ⟨#[], by rw [gr _ _ e]; simp⟩⟩ fun b o e => ?_
  · cases q : H' b with
    | none => rfl
    | some u =>
      rcases n b u q with z | ⟨z, _⟩
      · rw [hn] at z; cases z
      · exact absurd (Nat.lt_of_lt_of_le (Heap.lt_size e) z) (Nat.lt_irrefl _)
  · rcases n b o e with z | ⟨_, z⟩
    · exact (I.hok b o z).stay (fun c v _ q => k c v q) (fun c q => gr _ _ q) fun c xs q => gr _ _ q
    · exact z
open Classical in
/-- a list at L of the pairs at as, of the items of xs and ys -/
noncomputable def layZ (H : Hp) (L : Addr) (as : List Addr) (xs ys : List V) : Hp := fun b => if b = L then some (.lst (as.map V.ref)) else
  if h : ∃ p : V × V, ∃ j : Nat, as[j]? = some b ∧ xs[j]? = some p.1 ∧ ys[j]? = some p.2 then some (.tup [(choose h).1, (choose h).2]) else H b
theorem layZ_L {H : Hp} {L : Addr} {as : List Addr} {xs ys : List V} : layZ H L as xs ys L = some (.lst (as.map V.ref)) := if_pos rfl
theorem layZ_at {H : Hp} {L : Addr} {as : List Addr} {xs ys : List V} (nd : as.Nodup) {j : Nat} {a : Addr} {x y : V} (hL : a ≠ L) (ha : as[j]? = some a) (hx : xs[j]? = some x) (hy : ys[j]? = some y) : layZ H L as xs ys a = some (.tup [x, y]) := by
  have h : ∃ p : V × V, ∃ j : Nat, as[j]? = some a ∧ xs[j]? = some p.1 ∧ ys[j]? = some p.2 := ⟨(x, y), j, ha, hx, hy⟩
  unfold layZ
  rw [if_neg hL, dif_pos h]
  obtain ⟨j', h1, h2, h3⟩ := Classical.choose_spec h
  have e : j' = j := by
    obtain ⟨g1, e1⟩ := List.getElem?_eq_some_iff.mp h1
    obtain ⟨g2, e2⟩ := List.getElem?_eq_some_iff.mp ha
    exact (List.getElem_inj nd).mp (e1.trans e2.symm)
  subst e
  rw [hx] at h2; rw [hy] at h3
  rw [← Option.some.inj h2, ← Option.some.inj h3]
theorem layZ_old {H : Hp} {L : Addr} {as : List Addr} {xs ys : List V} {b : Addr} (hL : b ≠ L) (ha : b ∉ as) : layZ H L as xs ys b = H b := by
  unfold layZ
  rw [if_neg hL, dif_neg]
  rintro ⟨p, j, h, _⟩
  exact ha (List.mem_of_getElem? h)
theorem layZ_new {H : Hp} {L : Addr} {as : List Addr} {xs ys : List V} {b : Addr} {o : HO} (e : layZ H L as xs ys b = some o) : H b = some o ∨ (b = L ∧ o = .lst (as.map V.ref)) ∨ ∃ (j : Nat) (x y : V), as[j]? = some b ∧ xs[j]? = some x ∧ ys[j]? = some y ∧ o = .tup [x, y] := by
  unfold layZ at e
  split at e
  · cases e; exact .inr (.inl ⟨‹_›, rfl⟩)
  · split at e
    · rename_i h
      cases e
      obtain ⟨j, h1, h2, h3⟩ := Classical.choose_spec h
      exact .inr (.inr ⟨j, _, _, h1, h2, h3, rfl⟩)
    · exact .inl e
def tLzip (K : PySem.W.Frag) (ta : TA) : TE := fun σ H Q => ta σ H fun vs H1 => ∃ a b k1 k2 xs ys, vs = [.ref a, .ref b] ∧ SqK K k1 H1 a xs ∧ SqK K k2 H1 b ys ∧
  ∀ (L : Addr) (as : List Addr) (H' : Hp), H1 L = none → Grow H1 H' → H' L = some (.lst (as.map V.ref)) → as.length = min xs.length ys.length → (∀ (j : Nat) a x y, as[j]? = some a → xs[j]? = some x → ys[j]? = some y → a ≠ L ∧ H1 a = none ∧ H' a = some (.tup [x, y])) → Q (.ref L) H'
theorem SqK.size {X : Cx} {pins : List (Addr × Obj)} {σ : L2.St} {H : Hp} {s : Shared} {k : Bool} {a : Addr} {xs : List V} (I : Inv X pins σ H s) (h : SqK X.K k H a xs) : xs.length ≤ sizeLine := by
  cases k
  · exact (I.list (show SqL X.K H a xs from h)).choose_spec.2.2
  · exact (I.tuple (show SqT X.K H a xs from h)).choose_spec.2.2
theorem pe_lzip {X : Cx} {e e2 : Expr} {ta : TA} {p pz pos q : Pos} (hc : X.calm = true) (hgl : Gl X "list") (hml : X.mg "list" = none) (hg : Gl X "zip") (hm : X.mg "zip" = none) (ha : PA X [e, e2] ta)
    (hs : starEach [e, e2] X.env = (false, eval e X.env) :: starEach [e2] X.env) (hpl : (backTo q (starEach [e2] X.env)).any (·.1) = false) (hs0 : starEach [.Call (.Name "zip" pz) [e, e2] [] q] X.env = (false, eval (.Call (.Name "zip" pz) [e, e2] [] q) X.env) :: starEach [] X.env) :
    PE X (.Call (.Name "list" p) [.Call (.Name "zip" pz) [e, e2] [] q] [] pos) (tLzip X.K ta) := by
  refine ⟨fun pins s σ H Q I h => ?_⟩
  refine PyProof.Rows.Call_ (ld_blt I hgl hml PyProof.Rows.boot_list (PyProof.Rows.callWith_type1 ?_ hs0 rfl))
  rw [hs0]
  show wpAny _ _ (spliced ((false, eval (.Call (.Name "zip" pz) [e, e2] [] q) X.env) :: backTo pos (starEach [] X.env))) _ _ s
  refine Calls.spliced_cons ?_
  refine PyProof.Rows.Call_ (ld_blt I hg hm PyProof.Rows.boot_zip (PyProof.Rows.callWith_type1 (thn (ha.run q pins s σ H _ I h) fun us s1 ⟨vs, H1, I1, r1, q1⟩ => ?_) hs hpl))
  obtain ⟨a, b, k1, k2, xs, ys, rfl, hqx, hqy, qq⟩ := q1
  obtain ⟨u, u2, rfl, ru, ru2⟩ := vals_two r1
  cases ru
  cases ru2
  obtain ⟨its, rv, p1⟩ := hqx.reads I1
  obtain ⟨its2, rv2, p2⟩ := hqy.reads I1
  have l1 := p1.lt
  have l2 := p2.lt
  have n1 : its.toArray.size = xs.length := by rw [List.size_toArray, rv.length]
  have n2 : its2.toArray.size = ys.length := by rw [List.size_toArray, rv2.length]
  refine zip_begins2 (beginsK k1 a its.toArray) (beginsK k2 b its2.toArray) p1 p2 fun h' hz hTI hTO h1 h2 hsz hk => Calls.spliced_nil ?_
  have keepK : ∀ {k : Bool} {c : Addr} {its : Array Value}, IsK k s1.heap c its → IsK k h' c its := fun {k c its} x => by
    cases k
    · obtain ⟨o, e, r⟩ := (show s1.heap.IsList c its from x); exact ⟨o, hk _ _ e, r⟩
    · obtain ⟨o, e, r⟩ := (show s1.heap.IsTuple c its from x); exact ⟨o, hk _ _ e, r⟩
  have lt2 : ∀ c, c = s1.heap.objs.size + 4 ∨ c = s1.heap.objs.size + 2 ∨ c = s1.heap.objs.size + 3 ∨ c ∈ [s1.heap.objs.size, a] ∨ c ∈ [s1.heap.objs.size + 1, b] → c < h'.objs.size := by
    have key : ∀ N A B c z : Nat, z = N + 5 → A < N → B < N → (c = N + 4 ∨ c = N + 2 ∨ c = N + 3 ∨ (c = N ∨ c = A) ∨ (c = N + 1 ∨ c = B)) → c < z := fun N A B c z h1 h2 h3 h => by omega
    intro c hc
    exact key _ a b c _ hsz l1 l2 (by simpa using hc)
  have hh : X.A.handled = none := I1.ok.hd hc
  refine zip_list (A := X.A) (s := { s1 with heap := h' }) (TI := s1.heap.objs.size + 2) (TO := s1.heap.objs.size + 3) (i1 := s1.heap.objs.size) (i2 := s1.heap.objs.size + 1) (fp1 := [s1.heap.objs.size, a]) (fp2 := [s1.heap.objs.size + 1, b]) (n1 := its.toArray.size) (n2 := its2.toArray.size) hh
    (zip_sep2 (fp1 := [a]) (fp2 := [b]) (fun c hc => by simp at hc; rw [hc]; exact l1) (fun c hc => by simp at hc; rw [hc]; exact l2))
    (drawsK (prog := X.prog) (w := X.w) (A := X.A.in1.in1.in1) k1 hh s1.heap.objs.size a (Nat.ne_of_lt l1) its.toArray) (drawsK (prog := X.prog) (w := X.w) (A := X.A.in1.in1.in1) k2 hh (s1.heap.objs.size + 1) b (Nat.ne_of_lt (Nat.lt_succ_of_lt l2)) its2.toArray)
    (by rw [n1]; exact Nat.le_trans (Nat.min_le_left _ _) (hqx.size I1))
    (fun L => ⟨hTI, ⟨itO_at h1, keepK p1⟩, ⟨itO_at h2, keepK p2⟩, .inl ⟨hz, _, _, hTO⟩⟩) hz lt2 fun h3 tk acc cc as kp hL hal hG hacc => ?_
  have hkk : ∀ c o, s1.heap.get? c = some o → h3.get? c = some o := fun c o e => by
    have lt := Heap.lt_size e
    exact kp c o (Nat.ne_of_lt (Nat.lt_of_lt_of_le lt (Nat.le_add_right _ _))) (Nat.ne_of_lt (Nat.lt_of_lt_of_le lt (Nat.le_add_right _ _))) (Nat.ne_of_lt lt) (Nat.ne_of_lt (Nat.lt_of_lt_of_le lt (Nat.le_add_right _ _))) (hk c o e)
  have hle : s1.heap.objs.size ≤ h'.objs.size := by rw [hsz]; exact Nat.le_add_right _ _
  have fresh : ∀ c, s1.heap.objs.size ≤ c → H1 c = none := fun c hc => I1.hok.fresh hc
  have asn : ∀ c ∈ as, s1.heap.objs.size ≤ c ∧ c ≠ h'.objs.size := fun c hc => by
    have := hG.up c hc
    exact ⟨Nat.le_trans hle (Nat.le_of_succ_le this), Nat.ne_of_gt this⟩
  have alen : as.length = min xs.length ys.length := by rw [hal, n1, n2]
  have relOf : ∀ (j : Nat) c x y, as[j]? = some c → xs[j]? = some x → ys[j]? = some y → ObjOk X.prog X.w (layZ H1 h'.objs.size as xs ys) h3 c (.tup [x, y]) := fun j c x y e1 e2 e3 => by
    obtain ⟨v1, v2, q1, q2, t⟩ := hG.pr j c e1
    obtain ⟨w1, g1, r1⟩ := rv.get e2
    obtain ⟨w2, g2, r2⟩ := rv2.get e3
    have e4 : v1 = w1 := by
      have z : its[j]? = some v1 := by simpa using q1
      rw [g1] at z; exact (Option.some.inj z).symm
    have e5 : v2 = w2 := by
      have z : its2[j]? = some v2 := by simpa using q2
      rw [g2] at z; exact (Option.some.inj z).symm
    subst e4 e5
    exact new_pair ⟨_, t, rfl, _, rfl⟩ r1 r2
  have refs : Vals (as.map V.ref) acc.toList := by
    rw [hacc]
    clear hacc hal hG alen relOf asn
    induction as with
    | nil => exact .nil
    | cons c cs ih => exact .cons rfl ih
  have gr : Grow H1 (layZ H1 h'.objs.size as xs ys) := fun c o e => by
    rw [layZ_old]
    · exact e
    · rintro rfl; rw [fresh _ hle] at e; cases e
    · intro hc; rw [fresh _ (asn c hc).1] at e; cases e
  have I3 : Inv X pins σ (layZ H1 h'.objs.size as xs ys) { s1 with heap := h3, toks := tk } := Inv.grown I1 hkk gr fun c o e => by
    rcases layZ_new e with z | ⟨rfl, rfl⟩ | ⟨j, x, y, e1, e2, e3, rfl⟩
    · exact .inl z
    · exact .inr ⟨hle, by rw [List.length_map, alen]; exact Nat.le_trans (Nat.min_le_left _ _) (hqx.size I1), acc.toList, cc, refs, by rw [Array.toArray_toList]; exact hL⟩
    · exact .inr ⟨(asn c (List.mem_of_getElem? e1)).1, relOf j c x y e1 e2 e3⟩
  exact ⟨.ref h'.objs.size, _, I3, rfl, qq h'.objs.size as _ (fresh _ hle) gr layZ_L alen fun j c x y e1 e2 e3 => ⟨(asn c (List.mem_of_getElem? e1)).2, fresh _ (asn c (List.mem_of_getElem? e1)).1, layZ_at hG.nd (asn c (List.mem_of_getElem? e1)).2 e1 e2 e3⟩⟩
theorem RpL.of_get {K : PySem.W.Frag} {H : Hp} : ∀ {vs : List V} {ds : List D}, vs.length = ds.length → (∀ (j : Nat) v d, vs[j]? = some v → ds[j]? = some d → Rp K H v d) → RpL K H vs ds
  | [], [], _, _ => .nil
  | v :: vs, d :: ds, hl, h => .cons (h 0 v d rfl rfl) (RpL.of_get (by simpa using hl) fun j v d h1 h2 => h (j + 1) v d (by simpa using h1) (by simpa using h2))
  | [], _ :: _, hl, _ => by simp at hl
  | _ :: _, [], hl, _ => by simp at hl
/-- what is new at p is hidden -/
theorem SR.hideG {K : PySem.W.Frag} {m : Mp} {ex : Addr → Prop} {σ : L2.St} {H H' : Hp} {g : Sg} {p : Addr} {o : HO} (S : SR K m ex σ H g) (gr : Grow H H') (hp : H p = none) (hp' : H' p = some o) : SR K m (exP ex p) σ H' g := by
  have S' := S.grow gr
  have x : Ext (hid (Hd m ex) H) (hid (Hd m (exP ex p)) H') := (hid_grow (fun b u e z => by
    rcases exP_hd.mp z with z | z
    · exact z
    · rw [z, hp] at e; cases e) fun b u _ e => gr b u e).ext
  refine ⟨S.len, S.inj, fun i a h z => ?_, fun a h => ?_, S.own, fun i s q => ?_⟩
  · rcases z with z | z
    · exact S.nex i a h z
    · obtain ⟨u, e⟩ := S.hdl (.inr ⟨i, h⟩)
      rw [z, hp] at e; cases e
  · rcases h with h | h
    · exact S'.exl a h
    · rw [h]; exact ⟨o, hp'⟩
  · have := S.slot i s q
    cases s with
    | emp => trivial
    | val d => obtain ⟨w, h1, h2⟩ := this; exact ⟨w, h1, h2.mono x⟩
    | own p' d =>
      obtain ⟨a, h1, h2, h3⟩ := this
      obtain ⟨u, e⟩ := h3.some
      exact ⟨a, h1, h2, h3.mono x (by rw [e]; exact gr _ _ e)⟩
theorem PoF.gnew {K : PySem.W.Frag} {m : Mp} {ex : Addr → Prop} {σ : L2.St} {H H' : Hp} {g : Sg} {p : Addr} {o : HO} {π : Bool} (S : SR K m ex σ H g) (gr : Grow H H') (hp : H p = none) (hp' : H' p = some o) : PoF K m ex σ H g π g p H' :=
  ⟨S.hideG gr hp hp', fun b u _ e => gr b u e, fun b hb => by obtain ⟨u, e⟩ := S.exl b hb; rw [e]; exact gr _ _ e, fun _ => ⟨rfl, gr⟩, hp⟩
def fLzip (fr : Sg → Option (List D × Sg)) : Sf := fun g => (fr g).bind fun p => match p.1 with
  | [x, y] => (seqD x).bind fun xs => (seqD y).map fun ys => (.list (zipD xs ys), p.2)
  | _ => none
theorem j_lzip {G : Gb} {c : Sx} {π : Bool} {a b : Expr} {fr : Sg → Option (List D × Sg)} {p pz pos q : Pos} (hml : G.mg "list" = none) (hm : G.mg "zip" = none) (h : JA G c π [a, b] fr) (hgl : GlN c "list" := by rfl) (hg : GlN c "zip" := by rfl)
    (hs : ∀ env, starEach [a, b] env = (false, eval a env) :: starEach [b] env := by intro _; rfl) (hpl : ∀ env, (backTo q (starEach [b] env)).any (·.1) = false := by intro _; rfl)
    (hs0 : ∀ env, starEach [.Call (.Name "zip" pz) [a, b] [] q] env = (false, eval (.Call (.Name "zip" pz) [a, b] [] q) env) :: starEach [] env := by intro _; rfl) : JF G c π (.Call (.Name "list" p) [.Call (.Name "zip" pz) [a, b] [] q] [] pos) (fLzip fr) := fun X s =>
  pe_weak (pe_lzip s.calm (s.gl hgl) (s.mgN hml) (s.gl hg) (s.mgN hm) (h X s) (hs _) (hpl _) (hs0 _)) fun σ H Q ⟨m, ex, g, d, g', S, e, q⟩ => by
    unfold fLzip at e
    cases hf : fr g with
    | none => simp [hf] at e
    | some y =>
      simp only [hf, Option.bind_some] at e
      refine ⟨m, ex, g, y.1, y.2, S, hf, fun vs H1 p1 r1 => ?_⟩
      split at e
      · rename_i d1 d2 hy
        rw [hy] at r1
        cases h1 : seqD d1 with
        | none => simp [h1] at e
        | some xs =>
          cases h2 : seqD d2 with
          | none => simp [h1, h2] at e
          | some ys =>
            simp only [h1, h2, Option.bind_some, Option.map_some] at e
            cases e
            cases r1 with
            | cons ra rr =>
              cases rr with
              | cons rb rr =>
                cases rr
                obtain ⟨b1, k1, v1, rfl, h3, h4⟩ := seen_of ra h1
                obtain ⟨b2, k2, v2, rfl, h5, h6⟩ := seen_of rb h2
                refine ⟨b1, b2, k1, k2, v1, v2, rfl, s.opK ▸ h3.sq fun _ _ _ z => z, s.opK ▸ h5.sq fun _ _ _ z => z, fun L as H' hL gr hL' hal hat => ?_⟩
                have z := PoF.after p1 (PoF.gnew (π := true) p1.sr gr hL hL')
                rw [Bool.and_true] at z
                refine q L H' z (.lst hL' (RpL.of_get ?_ fun j v d e1 e2 => ?_))
                · rw [List.length_map, hal, h4.length, h6.length]; simp [zipD]
                · rw [List.getElem?_map] at e1
                  cases ej : as[j]? with
                  | none => rw [ej] at e1; cases e1
                  | some aj =>
                    rw [ej] at e1
                    cases e1
                    unfold zipD at e2
                    rw [List.getElem?_map] at e2
                    cases ez : (xs.zip ys)[j]? with
                    | none => rw [ez] at e2; cases e2
                    | some pr =>
                      rw [ez] at e2
                      cases e2
                      obtain ⟨q1, q2⟩ := List.getElem?_zip_eq_some.mp ez
                      obtain ⟨x, hx, rx⟩ := h4.getD' q1
                      obtain ⟨y', hy', ry⟩ := h6.getD' q2
                      obtain ⟨a1, a2, a3⟩ := hat j aj x y' ej hx hy'
                      have xx : Ext (hid (Hd m ex) H1) (hid (Hd m (exP ex L)) H') := (hid_grow (fun b u e z => by
                        rcases exP_hd.mp z with z | z
                        · exact z
                        · rw [z, hL] at e; cases e) fun b u _ e => gr b u e).ext
                      have nh : ¬ Hd m (exP ex L) aj := fun z => by
                        rcases exP_hd.mp z with z | z
                        · obtain ⟨u, e⟩ := p1.sr.hdl z; rw [a2] at e; cases e
                        · exact a1 z
                      exact .tup (SqT.of (hid_iff.mpr ⟨nh, a3⟩)) (.cons (rx.mono xx) (.cons (ry.mono xx) .nil))
      · cases e
end EV

set_option Elab.async false
set_option linter.all false
set_option maxRecDepth 100000
set_option maxHeartbeats 1000000
/-! EVe: zip(..) kept in a name and walked once. -/
namespace EV
open PySem PySem.Spec L2
/-- at b stands just this object -/
def Obx (b : Addr) (o : Obj) : HO := .ext fun h => h.get? b = some o
theorem obx_ok {P : Program} {w : World} {H : Hp} {h : Heap} {b : Addr} {o : Obj} (e : h.get? b = some o) : ObjOk P w H h b (Obx b o) := ⟨e, ⟨_, e⟩, fun h1 h2 q k => k _ q⟩
/-- the objects of a new zip -/
def zob (N a b : Addr) (k1 k2 : Bool) : Nat → Obj
  | 0 => itO k1 a
  | 1 => itO k2 b
  | 2 => { cls := .type "tuple", data := .seq #[.ref N, .ref (N + 1)] }
  | 3 => { cls := .type "tuple", data := .seq #[.none, .none] }
  | _ => { cls := .type "zip", data := .fields #[.none, .bool false, .bool false, .ref (N + 2), .ref (N + 3)] }
def Zr (N c : Addr) : Prop := N ≤ c ∧ c < N + 5
instance {N c : Addr} : Decidable (Zr N c) := inferInstanceAs (Decidable (_ ∧ _))
def layV (H : Hp) (N a b : Addr) (k1 k2 : Bool) : Hp := fun c => if Zr N c then some (Obx c (zob N a b k1 k2 (c - N))) else H c
def dropV (H : Hp) (N : Addr) : Hp := fun c => if Zr N c then none else H c
section
variable {X : Cx} {pins : List (Addr × Obj)} {σ : L2.St} {H : Hp} {s : Shared} {N a b : Addr} {k1 k2 : Bool}
theorem dropV_nest : dropV H N = ItX.dropH (ItX.dropH (ItX.dropH (ItX.dropH (ItX.dropH H N) (N + 1)) (N + 2)) (N + 3)) (N + 4) := by
  funext c
  unfold dropV ItX.dropH
  have key : ∀ N c : Nat, (N ≤ c ∧ c < N + 5) ↔ (c = N + 4 ∨ c = N + 3 ∨ c = N + 2 ∨ c = N + 1 ∨ c = N) := fun N c => by omega
  by_cases h : Zr N c
  · rw [if_pos h]
    rcases (key N c).mp h with z | z | z | z | z <;> subst z <;> simp
  · rw [if_neg h]
    have h' := fun z => h ((key N c).mpr z)
    have n4 : ¬ c = N + 4 := fun z => h' (.inl z)
    have n3 : ¬ c = N + 3 := fun z => h' (.inr (.inl z))
    have n2 : ¬ c = N + 2 := fun z => h' (.inr (.inr (.inl z)))
    have n1 : ¬ c = N + 1 := fun z => h' (.inr (.inr (.inr (.inl z))))
    have n0 : ¬ c = N := fun z => h' (.inr (.inr (.inr (.inr z))))
    simp only [n4, n3, n2, n1, n0, if_false]
theorem zr_add (i : Nat) (h : i < 5) : Zr N (N + i) := ⟨Nat.le_add_right _ _, Nat.add_lt_add_left h _⟩
theorem inv_dropV (I : Inv X pins σ H s) (h : ∀ i, i < 5 → H (N + i) = some (Obx (N + i) (zob N a b k1 k2 i))) : Inv X pins σ (dropV H N) s := by
  rw [dropV_nest]
  have ne : ∀ i j : Nat, i ≠ j → N + i ≠ N + j := fun i j h e => h (Nat.add_left_cancel e)
  have I0 := ItX.inv_drop (a := N) I (h 0 (by decide))
  have I1 := ItX.inv_drop (a := N + 1) I0 (by rw [ItX.dropH_ne (show N + 1 ≠ N from ne 1 0 (by decide))]; exact h 1 (by decide))
  have I2 := ItX.inv_drop (a := N + 2) I1 (by rw [ItX.dropH_ne (ne 2 1 (by decide)), ItX.dropH_ne (show N + 2 ≠ N from ne 2 0 (by decide))]; exact h 2 (by decide))
  have I3 := ItX.inv_drop (a := N + 3) I2 (by rw [ItX.dropH_ne (ne 3 2 (by decide)), ItX.dropH_ne (ne 3 1 (by decide)), ItX.dropH_ne (show N + 3 ≠ N from ne 3 0 (by decide))]; exact h 3 (by decide))
  exact ItX.inv_drop (a := N + 4) I3 (by rw [ItX.dropH_ne (ne 4 3 (by decide)), ItX.dropH_ne (ne 4 2 (by decide)), ItX.dropH_ne (ne 4 1 (by decide)), ItX.dropH_ne (show N + 4 ≠ N from ne 4 0 (by decide))]; exact h 4 (by decide))
/-- zip(a, b) as a value -/
def tZv (K : PySem.W.Frag) (n : Nat) (ta : TA) : TE := fun σ H Q => ta σ H fun vs H1 => ∃ a b k1 k2 xs ys, vs = [.ref a, .ref b] ∧ SqK K k1 H1 a xs ∧ SqK K k2 H1 b ys ∧
  ∀ N : Addr, n ≤ N → (∀ c, N ≤ c → H1 c = none) → a < N → b < N → Q (.ref (N + 4)) (layV H1 N a b k1 k2)
theorem pe_zipv {e e2 : Expr} {ta : TA} {p q : Pos} (hg : Gl X "zip") (hm : X.mg "zip" = none) (ha : PA X [e, e2] ta) (hs : starEach [e, e2] X.env = (false, eval e X.env) :: starEach [e2] X.env) (hpl : (backTo q (starEach [e2] X.env)).any (·.1) = false) :
    PE X (.Call (.Name "zip" p) [e, e2] [] q) (tZv X.K X.s_0.heap.objs.size ta) := by
  refine ⟨fun pins s σ H Q I h => ?_⟩
  refine PyProof.Rows.Call_ (ld_blt I hg hm PyProof.Rows.boot_zip (PyProof.Rows.callWith_type1 (thn (ha.run q pins s σ H _ I h) fun us s1 ⟨vs, H1, I1, r1, q1⟩ => ?_) hs hpl))
  obtain ⟨a, b, k1, k2, xs, ys, rfl, hqx, hqy, qq⟩ := q1
  obtain ⟨u, u2, rfl, ru, ru2⟩ := vals_two r1
  cases ru
  cases ru2
  obtain ⟨its, rv, p1⟩ := hqx.reads I1
  obtain ⟨its2, rv2, p2⟩ := hqy.reads I1
  refine zip_begins2 (beginsK k1 a its.toArray) (beginsK k2 b its2.toArray) p1 p2 fun h' hz hTI hTO h1 h2 hsz hk => ?_
  have fr : ∀ c, s1.heap.objs.size ≤ c → H1 c = none := fun c hc => I1.hok.fresh hc
  have at5 : ∀ i, i < 5 → h'.get? (s1.heap.objs.size + i) = some (zob s1.heap.objs.size a b k1 k2 i) := fun i hi => by
    match i, hi with
    | 0, _ => exact h1
    | 1, _ => exact h2
    | 2, _ => exact hTI
    | 3, _ => exact hTO
    | 4, _ => exact hz
  have I2 : Inv X pins σ (layV H1 s1.heap.objs.size a b k1 k2) { s1 with heap := h' } := Inv.grown (t' := s1.toks) I1 hk (fun c o e => by
    unfold layV
    rw [if_neg]
    · exact e
    · rintro ⟨z, _⟩
      rw [fr c z] at e; cases e) fun c o e => by
    unfold layV at e
    split at e
    · rename_i hc
      cases e
      refine .inr ⟨hc.1, obx_ok ?_⟩
      have hc2 : c - s1.heap.objs.size < 5 := by
        have key : ∀ N c : Nat, N ≤ c → c < N + 5 → c - N < 5 := fun N c h1 h2 => by omega
        exact key _ _ hc.1 hc.2
      have := at5 _ hc2
      rwa [Nat.add_sub_cancel' hc.1] at this
    · exact .inl e
  exact ⟨.ref (s1.heap.objs.size + 4), _, I2, rfl, qq _ I1.sz fr p1.lt p2.lt⟩
/-- over the zip in a slot; behind it it is forgotten -/
def iZv (K : PySem.W.Frag) (n k : Nat) : TI := fun σ H R => ∃ (N a b : Addr) (k1 k2 : Bool), σ[k]? = some (some (.ref (N + 4))) ∧ n ≤ N ∧ a < N ∧ b < N ∧ (∀ i, i < 5 → H (N + i) = some (Obx (N + i) (zob N a b k1 k2 i))) ∧ R (ItzK K k1 k2 a b) (dropV H N)
theorem pi_zv {elts : List Expr} {kk k : Nat} {tpos p : Pos} {x : Str} (hN : X.N[k]? = some x) (hv : Vis X.env.scope x) (hd : (x == ("__debug__" : Str)) = false) (hcd : (x == ("__classdict__" : Str)) = false) :
    PI X (.Tuple elts kk tpos) (.Name x p) (iZv X.K X.s_0.heap.objs.size k) := by
  refine ⟨fun pins s σ H R I h => ?_⟩
  obtain ⟨N, a, b, k1, k2, hσ, hn, ha, hb, h5, q⟩ := h
  refine thn ((pe_var (pos := p) (i := k) hN hv hd hcd).run pins s σ H (fun v H1 => v = .ref (N + 4) ∧ H1 = H) I ⟨_, hσ, rfl, rfl⟩) fun u s1 ⟨v, H1, I1, r1, ev, eH⟩ => ?_
  subst ev
  rw [eH] at I1
  cases r1
  have ob : ∀ i, i < 5 → s1.heap.get? (N + i) = some (zob N a b k1 k2 i) := fun i hi => (I1.hok _ _ (h5 i hi)).1
  have ti : ∀ i, i < 5 → FpOk X pins (ItX.dropH H (N + i)) (N + i) := fun i hi => ItX.inv_fp I1 (h5 i hi) (Nat.le_trans hn (Nat.le_add_right _ _))
  have st : IsZip s1.heap (N + 4) (N + 2) (N + 3) .none ∧ IsTupOf2 s1.heap (N + 2) (.ref N) (.ref (N + 1)) ∧ (∃ x y, IsTupOf2 s1.heap (N + 3) x y) ∧ ItK k1 s1.heap N a 0 ∧ ItK k2 s1.heap (N + 1) b 0 :=
    ⟨ob 4 (by decide), ob 2 (by decide), ⟨_, _, ob 3 (by decide)⟩, itO_at (ob 0 (by decide)), itO_at (ob 1 (by decide))⟩
  refine wpAny_pyIter_zip st.1 ?_
  refine ⟨N + 4, [N + 4, N + 2, N + 3, N, N + 1], _, _, dropV H N, rfl, inv_dropV I1 h5,
    turn_zipK (zip_sep2 (fp1 := [a]) (fp2 := [b]) (fun c hc => by simp at hc; rw [hc]; exact ha) (fun c hc => by simp at hc; rw [hc]; exact hb)) (Nat.ne_of_lt ha) (Nat.ne_of_lt (Nat.lt_succ_of_lt hb)), st, fun c hc => ?_, q⟩
  have go : ∀ i, i < 5 → FpOk X pins (dropV H N) (N + i) := fun i hi => ⟨if_pos (zr_add i hi), (ti i hi).2⟩
  have e' : c = N + 4 ∨ c = N + 2 ∨ c = N + 3 ∨ c = N ∨ c = N + 1 := by simpa using hc
  rcases e' with z | z | z | z | z
  · rw [z]; exact go 4 (by decide)
  · rw [z]; exact go 2 (by decide)
  · rw [z]; exact go 3 (by decide)
  · rw [z]; exact go 0 (by decide)
  · rw [z]; exact go 1 (by decide)
end

/-! ### the two statements: x = zip(a, b); return max([..] + [e for .. in x ..]) -/
section
variable {K : PySem.W.Frag} {m : Mp} {ex : Addr → Prop} {σ : L2.St} {H H1 H2 H3 : Hp} {g g1 g2 : Sg} {N : Addr} {π : Bool} {pn : List Nat}
theorem ext_dropV {P : Addr → Prop} (hx : ∀ c, Zr N c → ∃ φ, H c = some (.ext φ)) : Ext (hid P H) (hid P (EV.dropV H N)) := by
  have same : ∀ c u, H c = some u → (∀ φ, u ≠ .ext φ) → EV.dropV H N c = some u := fun c u e n => by
    unfold EV.dropV
    rw [if_neg]
    · exact e
    · intro z
      obtain ⟨φ, q⟩ := hx c z
      rw [e] at q
      exact n φ (Option.some.inj q)
  have sv : ∀ c u, hid P H c = some u → (∀ φ, u ≠ .ext φ) → hid P (EV.dropV H N) c = some u := fun c u e n => by
    obtain ⟨e1, e2⟩ := hid_iff.mp e
    exact hid_iff.mpr ⟨e1, same c u e2 n⟩
  have rd : ∀ c u, Rd (hid P H) c u → (∀ φ, u ≠ .ext φ) → Rd (hid P (EV.dropV H N)) c u := fun c u e n => by
    rcases e with e | ⟨o, e⟩
    · exact .inl (sv c u e n)
    · exact .inr ⟨o, sv c _ e fun φ z => nomatch z⟩
  exact ⟨fun c xs r => rd c _ r fun φ z => (nomatch z), fun c xs r => sv c _ r fun φ z => (nomatch z), fun c xs r => rd c _ r fun φ z => (nomatch z), fun c xs r => rd c _ r fun φ z => nomatch z⟩
theorem SR.dropV (S : SR K m ex σ H g) (hx : ∀ c, Zr N c → ∃ φ, H c = some (.ext φ)) (hn : ∀ c, ex c → ¬ Zr N c) : SR K m ex σ (dropV H N) g := by
  have same : ∀ c u, H c = some u → (∀ φ, u ≠ .ext φ) → EV.dropV H N c = some u := fun c u e n => by
    unfold EV.dropV
    rw [if_neg]
    · exact e
    · intro z
      obtain ⟨φ, q⟩ := hx c z
      rw [e] at q
      exact n φ (Option.some.inj q)
  have x : Ext (hid (Hd m ex) H) (hid (Hd m ex) (EV.dropV H N)) := ext_dropV hx
  refine ⟨S.len, S.inj, S.nex, fun a h => ?_, S.own, fun i s q => ?_⟩
  · obtain ⟨o, e⟩ := S.exl a h
    exact ⟨o, by unfold EV.dropV; rw [if_neg (hn a h)]; exact e⟩
  · have := S.slot i s q
    cases s with
    | emp => trivial
    | val d => obtain ⟨w, h1, h2⟩ := this; exact ⟨w, h1, h2.mono x⟩
    | own p d =>
      obtain ⟨a, h1, h2, h3⟩ := this
      refine ⟨a, h1, h2, h3.mono x ?_⟩
      cases h3 with
      | lst e _ => rw [same a _ e fun φ z => (nomatch z), e]
      | dic e _ => rw [same a _ e fun φ z => (nomatch z), e]
theorem StP.dropV {a b : Addr} {k1 k2 : Bool} (S : SR K m ex σ H1 g1) (fr : ∀ c, N ≤ c → H1 c = none) (p : Po K m ex σ (layV H1 N a b k1 k2) g1 π g2 H3) : StP K pn m ex ex H1 m σ (EV.dropV H3 N) g2 := by
  have nz : ∀ c o, H1 c = some o → ¬ Zr N c := fun c o e z => by rw [fr c z.1] at e; cases e
  have lay : ∀ c, ¬ Zr N c → layV H1 N a b k1 k2 c = H1 c := fun c z => if_neg z
  have dr : ∀ c, ¬ Zr N c → EV.dropV H3 N c = H3 c := fun c z => if_neg z
  have vis : ∀ c o, ¬ Hd m ex c → H1 c = some o → EV.dropV H3 N c = some o := fun c o n e => by
    rw [dr c (nz c o e)]
    exact p.vis c o n (by rw [lay c (nz c o e)]; exact e)
  have lv : ∀ c, Hd m ex c → ¬ Zr N c := fun c h => by obtain ⟨o, e⟩ := S.hdl h; exact nz c o e
  refine ⟨p.sr.dropV (fun c z => ⟨_, p.vis c _ (fun h => lv c h z) (if_pos z)⟩) fun c h => lv c (.inl h), vis, fun c h => ?_, fun i c h => .inl ⟨i, h⟩, fun _ _ => rfl, fun c e => ?_⟩
  · rw [dr c (lv c (.inl h)), p.exk c h, lay c (lv c (.inl h))]
  · by_cases z : Zr N c
    · exact fr c z.1
    · rw [dr c z] at e
      have := non_of (fun b h => p.sr.hdl h) p.vis c e
      rwa [lay c z] at this
end
theorem SeenK.mono {K : PySem.W.Frag} {P P' : Addr → Prop} {H H' : Hp} {k : Bool} {a : Addr} {vs : List V} (h : SeenK K P H k a vs) (x : Ext (hid P H) (hid P' H')) : SeenK K P' H' k a vs := by
  cases k
  · obtain ⟨n, e⟩ := (show ¬ P a ∧ H a = some (.lst vs) from h)
    exact hid_iff.mp (x.l a vs (hid_iff.mpr ⟨n, e⟩))
  · exact x.sqT (show SqT K (hid P H) a vs from h)
section
variable {G : Gb} {c : Sx} {pn : List Nat} {tgs : List Expr} {π πl π2 π3 : Bool} {a b elt lst : Expr} {ifs : List Expr} {scope : Scope} {fr : Sg → Option (List D × Sg)} {bb : Bd} {tt : Tf} {te fl : Sf} {ts : List Nat}
/-- max(l + [..]) of what a zip in slot i gives -/
def fZmax (i : Nat) (fr : Sg → Option (List D × Sg)) (fl : Sf) (bb : Bd) (tt : Tf) (te : Sf) (vs : List Nat) : Ss := fun g => (fr g).bind fun p => match p.1 with
  | [x, y] => (seqD x).bind fun xs => (seqD y).bind fun ys => if i < p.2.length then (fl (p.2.set i .emp)).bind fun l => if noOwn l.2 vs = true then (lcGo bb tt te vs (zipD xs ys) (wipeG l.2 vs)).bind fun r =>
      match l.1 with
      | .list l0 => if r.1.length ≤ sizeLine ∧ l0.length + r.1.length ≤ sizeLine then (oLI (fun ns => (maxI ns).map .int) (.list (l0 ++ r.1))).map fun d => .rt d (backG l.2 r.2 vs) else none
      | _ => none
    else none else none
  | _ => none
theorem jss_zmax (i : Nat) {x : Str} (own : List (Str × Nat)) {px pz q p2 pm pb plc pret pt pit pas : Pos} {kt : Nat} (hm : G.mg "zip" = none) (hmm : G.mg "max" = none) (h : JA G c π [a, b] fr) (hl : J G c πl true lst fl) (hg : JG G (blkX c scope) (.Tuple tgs kt pt) ts bb) (ht : JTs G (blkX c scope) π2 ifs tt) (he : J G (blkX c scope) π3 true elt te)
    (hN : c.N[i]? = some x := by rfl) (hx : Loc c.sc x := by first | exact Or.inl rfl | exact Or.inr rfl) (hv : Vis c.sc x := by first | exact Or.inl rfl | exact Or.inr (Or.inl rfl) | exact Or.inr (Or.inr rfl)) (hf : c.fn x = true ∨ c.sc.names.lookup x = some .local := by first | exact Or.inl rfl | exact Or.inr rfl)
    (hd : (x == ("__debug__" : Str)) = false := by decide) (hcd : (x == ("__classdict__" : Str)) = false := by decide) (hp : i ∉ pn := by decide) (hgz : GlN c "zip" := by rfl) (hgm : GlN c "max" := by rfl)
    (hs : ∀ env, starEach [a, b] env = (false, eval a env) :: starEach [b] env := by intro _; rfl) (hpl : ∀ env, (backTo q (starEach [b] env)).any (·.1) = false := by intro _; rfl)
    (hsw : ∀ env, swapsWith (.Call (.Name "zip" pz) [a, b] [] q) (some (.Name x px)) pas.line env = pure false := by intro _; rfl)
    (hs2 : ∀ env, starEach [.BinOp lst .Add (.ListComp elt [⟨.Tuple tgs kt pt, .Name x pit, ifs, 0⟩] scope plc) pb] env = (false, eval (.BinOp lst .Add (.ListComp elt [⟨.Tuple tgs kt pt, .Name x pit, ifs, 0⟩] scope plc) pb) env) :: starEach [] env := by intro _; rfl)
    (ok : blkC c.N c.sc scope own = true := by decide +kernel) (hts : ∀ t ∈ ts, t ∈ own.map (·.2) := by decide) (hfs : ∀ env y, foldedSetIterable (.Name x pit) env y = pure y := by intro _ _; rfl) :
    JSs G c pn false [.Assign [.Name x px] (.Call (.Name "zip" pz) [a, b] [] q) pas, .Return (some (.Call (.Name "max" pm) [.BinOp lst .Add (.ListComp elt [⟨.Tuple tgs kt pt, .Name x pit, ifs, 0⟩] scope plc) pb] [] p2)) pret]
      (fZmax i fr fl bb tt te (own.map (·.2))) := fun X s => by
  have r1 := ps_set (pos := pas) (pos' := px) (i := i) (by rw [s.N]; exact s.nd) (by rw [s.N]; exact hN) (by rw [s.sc]; exact hx) (pe_zipv (q := q) (p := pz) (s.gl hgz) (s.mgN hm) (h X s) (hs _) (hpl _)) (hsw _) (by rw [s.fn, s.sc]; exact hf)
  have pz : PI X (.Tuple tgs kt pt) (.Name x pit) (iZv G.K X.s_0.heap.objs.size i) := s.opK ▸ pi_zv (X := X) (elts := tgs) (kk := kt) (tpos := pt) (p := pit) (k := i) (by rw [s.N]; exact hN) (by rw [s.sc]; exact hv) hd hcd
  have lc := pe_lc (pos := plc) (scope := scope) (own := own) s.calm (by rw [s.N]; exact s.nd) pz (by rw [s.N, s.sc]; exact blkOk_by ok)
    (fun st H C cl fp => hg _ (s.blk st H scope C cl fp)) (fun st H C cl fp => ht _ (s.blk st H scope C cl fp)) (fun st H C cl fp => he _ (s.blk st H scope C cl fp)) (hfs _)
  have mx := (cb1_rule (G := G) (c := c) (p := pm) (pos := p2) (r := rMax G.K) (fun X s => s.opK ▸ cr_max s.calm) hmm (by decide +kernel) hgm hs2 (by decide) (by decide)) X s _ (pe_op op_cat (hl X s) lc)
  refine pss_weak (pss_cons r1 (pss_one (ps_ret (pos := pret) mx))) fun D σ H ⟨m, ex, g, o, S, e, q⟩ => ?_
  unfold fZmax at e
  cases h1 : fr g with
  | none => rw [h1] at e; cases e
  | some y =>
    simp only [h1, Option.bind_some] at e
    split at e
    · rename_i d1 d2 hy
      cases h2 : seqD d1 with
      | none => simp [h2] at e
      | some xs =>
        cases h3 : seqD d2 with
        | none => simp [h2, h3] at e
        | some ys =>
          simp only [h2, h3, Option.bind_some] at e
          split at e
          · rename_i hlt
            cases h4 : fl (y.2.set i .emp) with
            | none => rw [h4] at e; cases e
            | some l =>
              simp only [h4, Option.bind_some] at e
              split at e
              · rename_i hno
                cases h5 : lcGo bb tt te (own.map (·.2)) (zipD xs ys) (wipeG l.2 (own.map (·.2))) with
                | none => rw [h5] at e; cases e
                | some r =>
                  simp only [h5, Option.bind_some] at e
                  split at e
                  · rename_i l0 hl0
                    split at e
                    · rename_i hz
                      cases h6 : oLI (fun ns => (maxI ns).map PyData.int) (.list (l0 ++ r.1)) with
                      | none => rw [h6] at e; cases e
                      | some dz =>
                        rw [h6] at e
                        cases e
                        refine ⟨m, ex, g, y.1, y.2, S, h1, fun vs H1 p1 ra => ?_⟩
                        rw [hy] at ra
                        cases ra with
                        | cons rA rr =>
                          cases rr with
                          | cons rB rr =>
                            cases rr
                            obtain ⟨b1, k1, v1, rfl, g3, g4⟩ := seen_of rA h2
                            obtain ⟨b2, k2, v2, rfl, g5, g6⟩ := seen_of rB h3
                            refine ⟨b1, b2, k1, k2, v1, v2, rfl, s.opK ▸ g3.sq fun _ _ _ z => z, s.opK ▸ g5.sq fun _ _ _ z => z, fun N hn frN ha hb => ?_⟩
                            have P1 := StP.po (pn := pn) p1
                            have S2 : SR G.K (del m i) ex (σ.set i (some (.ref (N + 4)))) H1 (y.2.set i .emp) := p1.sr.sete
                            have P2 : StP G.K pn (del m i) ex ex H1 (del m i) (σ.set i (some (.ref (N + 4)))) H1 (y.2.set i .emp) := .refl S2
                            have P12 : StP G.K pn m ex ex H1 (del m i) (σ.set i (some (.ref (N + 4)))) H1 (y.2.set i .emp) :=
                              ⟨S2, fun _ _ _ e => e, fun _ _ => rfl, fun j a z => .inl ⟨j, (del_sub z).2⟩, fun j hj => by unfold del; exact if_neg fun (z : j = i) => hp (z ▸ hj), fun _ h => h⟩
                            have grow2 : Grow H1 (layV H1 N b1 b2 k1 k2) := fun c o e => by
                              unfold layV
                              rw [if_neg]
                              · exact e
                              · rintro ⟨z, _⟩; rw [frN c z] at e; cases e
                            refine ⟨del m i, ex, _, l.1, l.2, S2.grow grow2, h4, fun w H3 p3 r3 => ?_⟩
                            rw [hl0] at r3
                            have r3 := r3.strong
                            have P3 := StP.dropV (pn := pn) S2 frN p3
                            have nhd : ∀ c, Zr N c → ¬ Hd (del m i) ex c := fun c z h => by
                              obtain ⟨o, e⟩ := S2.hdl h
                              rw [frN c z.1] at e; cases e
                            have at5 : ∀ j, j < 5 → H3 (N + j) = some (Obx (N + j) (zob N b1 b2 k1 k2 j)) := fun j hj => by
                              refine p3.vis _ _ (nhd _ (zr_add j hj)) ?_
                              unfold layV
                              rw [if_pos (zr_add j hj), Nat.add_sub_cancel_left]
                            have σi : (σ.set i (some (V.ref (N + 4))))[i]? = some (some (.ref (N + 4))) := List.getElem?_set_self (by have := p1.sr.len; omega)
                            refine ⟨N, b1, b2, k1, k2, σi, hn, ha, hb, at5, ?_⟩
                            have grd : Grow (hid (Hd m ex) H1) (hid (Hd (del m i) ex) H1) := hid_grow (fun _ _ _ z => del_hd z) fun _ _ _ q => q
                            have xx : Ext (hid (Hd (del m i) ex) H1) (hid (Hd (del m i) ex) (dropV H3 N)) := (hid_grow (fun _ _ _ z => z) P3.vis).ext
                            have sA : SeenK G.K (Hd (del m i) ex) (dropV H3 N) k1 b1 v1 := (g3.mono grd.ext).mono xx
                            have sB : SeenK G.K (Hd (del m i) ex) (dropV H3 N) k2 b2 v2 := (g5.mono grd.ext).mono xx
                            refine tlc_core (Q := fun y H2 => rCat w y H2 fun v H => rMax G.K [v] H D.rt) (H := dropV H3 N) (π2 := π2) (π3 := π3) (K := G.K) hts P3.sr (itD_zip sA ((g4.mono grd.ext).mono xx) sB ((g6.mono grd.ext).mono xx)) hno h5 hz.1 fun p H4 q4 w4 => ?_
                            have XD : Ext (hid (Hd (del m i) ex) H3) (hid (Hd (del m i) ex) (dropV H3 N)) := ext_dropV fun c z => ⟨_, p3.vis c _ (nhd c z) (if_pos z)⟩
                            have X4 : Ext (hid (Hd (del m i) ex) (dropV H3 N)) (hid (Hd (del m i) ex) H4) := q4.po.ext
                            cases r3 with
                            | lst ea rr1 =>
                              obtain ⟨na, ea2⟩ := hid_iff.mp (X4.l _ _ (XD.l _ _ ea))
                              have R1 := (rr1.mono XD).mono X4
                              have Rp4 := q4.rp w4
                              cases Rp4 with
                              | lst ep rr2 =>
                                refine ⟨_, p, _, _, rfl, rfl, ea2, (hid_iff.mp ep).2, ?_, fun pq np => ?_⟩
                                · rw [R1.length, rr2.length]; exact hz.2
                                · have S4 := q4.po.sr
                                  have W := PoF.ow S4 np (R1.append rr2)
                                  obtain ⟨b, ns, eb, eb2, hk⟩ := oLI_reads (v := .ref pq) (Rt.of (τ := true) ((PoF.laid (π := true) S4 np).rp W)) h6
                                  cases eb
                                  cases hm : maxI ns with
                                  | none => rw [hm] at hk; cases hk
                                  | some k =>
                                    rw [hm] at hk
                                    cases hk
                                    obtain ⟨k1, k2⟩ := maxI_spec hm
                                    refine ⟨_, ns, rfl, SqL.of eb2, List.length_pos_of_mem k1, fun z hz hle => ?_⟩
                                    have : z = k := Int.le_antisymm (k2 z hz) (hle k k1)
                                    rw [this]
                                    exact q _ _ ⟨_, _, .inl ⟨rfl, P1.trans (P12.trans (P3.trans ((StP.po q4.po).trans (StP.po (PoF.laid (π := true) S4 np).po)))), .int k⟩⟩
                    · cases e
                  · cases e
              · cases e
          · cases e
    · cases e
end
end EV

set_option Elab.async false
set_option linter.all false
set_option maxRecDepth 100000
set_option maxHeartbeats 1000000
/-! EVf: dict comprehensions and displays, sorted of dicts and tuples, tuples so many times. -/
namespace EV
open PySem PySem.Spec L2
section
variable {G : Gb} {c : Sx} {pos p : Pos} {π π1 π2 π3 π4 τ τ1 τ2 : Bool} {a b e : Expr} {fa fb : Sf}
/-! ### tuples so many times -/
def oRepT : D → D → Option D
  | .tuple xs, .int k => if 0 < xs.length ∧ 2 ≤ k ∧ k ≤ 1000 ∧ xs.length ≤ 1000 then some (.tuple (repD k.toNat xs)) else none
  | _, _ => none
theorem j_repT (ha : J G c π1 true a fa) (hb : J G c π2 τ2 b fb) : J G c (π1 && π2) true (.BinOp a .Mult b pos) (f2 oRepT fa fb) := j_op (fun X s => s.opK ▸ op_repT) (fun m ex σ H g v w x y d Q S rv rw' e q => by
  unfold oRepT at e
  split at e
  · rename_i xs k
    split at e
    · rename_i h
      cases e
      obtain ⟨a, vs, rfl, h1, r1⟩ := rv.tup hid_sub
      have l1 := r1.length
      refine ⟨a, k, vs, rfl, rw'.int, h1, ?_, h.2.1, h.2.2.1, by omega, fun p np => q _ _ (.new S np) (rp_new_tup S np (r1.rep _))⟩
      intro z
      rw [z] at l1
      have := h.1
      rw [← l1] at this
      exact absurd this (by decide)
    · cases e
  · cases e) ha hb
/-! ### sorted(dict), sorted(tuple): ints -/
theorem RpK.keysI {K : PySem.W.Frag} {H : Hp} : ∀ {kvs : List (Key × V)} {ds : List (D × D)} {ns : List Int}, RpK K H kvs ds → intsOf (ds.map (·.1)) = some ns → kvs.map (·.1) = ns.map Sum.inl
  | _, _, ns, .nil, e => by
    have : ns = [] := by simpa [intsOf] using e.symm
    rw [this]; rfl
  | _, _, ns, @RpK.cons _ _ k v vs d ds a r, e => by
    have e2 := of_intsOf e
    cases ns with
    | nil => cases e2
    | cons n ns =>
      rw [List.map_cons, List.map_cons] at e2
      injection e2 with e3 e4
      have ek : k = Sum.inl n := by
        cases k with
        | inl i => injection e3 with e3; rw [e3]
        | inr i => cases e3
      rw [List.map_cons, List.map_cons, ek, RpK.keysI r (ns := ns) (by rw [e4]; exact intsOf_map ns)]
def oSortDI : D → Option D
  | .dict ks => if scrD (.dict ks) = true then none else (intsOf (ks.map (·.1))).bind fun ns => if ns.length < 64 then some (.list ((sortI ns).map .int)) else none
  | _ => none
theorem j_sortDI (hm : G.mg "sorted" = none) (ha : J G c π τ a fa) (hg : GlN c "sorted" := by rfl) (hs : ∀ env, starEach [a] env = (false, eval a env) :: starEach [] env := by intro _; rfl) :
    JF G c π (.Call (.Name "sorted" p) [a] [] pos) (f1 oSortDI fa) := j_unF (cb1_rule (r := fun xs H Q => ∃ (a : Addr) (kvs : List (Key × V)) (ks : List Int), xs = [.ref a] ∧ Rd H a (.dK kvs) ∧ kvs.map (·.1) = ks.map Sum.inl ∧ ks.length < 64 ∧
    ∀ (ys : List Int) (p : Addr), ys.Perm ks → ys.Pairwise (· ≤ ·) → H p = none → Q (.ref p) (upd H p (.lst (ys.map V.int)))) (fun X s => call_sortedDI s.calm) hm (by decide +kernel) hg hs (by decide) (by decide)) (fun m ex σ H g v x d Q S rv e q => by
  unfold oSortDI at e
  split at e
  · rename_i ks
    split at e
    · cases e
    · rename_i hn
      cases h : intsOf (ks.map (·.1)) with
      | none => simp [h] at e
      | some ns =>
        simp only [h, Option.bind_some] at e
        split at e
        · rename_i hz
          cases e
          obtain ⟨b, vs, rfl, h1, r1⟩ := rv.dic' hid_sub (by simpa using hn)
          refine ⟨b, vs, ns, rfl, h1, r1.keysI h, hz, fun ys p h3 h4 np => ?_⟩
          have := sortI_eq h3 h4
          subst this
          exact q p _ (.laid S np) (PoF.ow S np (RpL.ofInts _))
        · cases e
  · cases e) ha
/-- sorted(xs), a tuple of ints -/
def rSortedTI (K : PySem.W.Frag) : List V → Hp → VK → Prop := fun vs H Q => ∃ (a : Addr) (ns : List Int), vs = [V.ref a] ∧ SqT K H a (ns.map V.int) ∧
  ∀ (ns' : List Int) (p : Addr), ns'.Perm ns → ns'.Pairwise (· ≤ ·) → H p = none → Q (.ref p) (upd H p (.lst (ns'.map V.int)))
theorem cr_sortedTI {X : Cx} : CallR X (.builtin "sorted") (rSortedTI X.K) := by
  intro pins s σ H vs us Q I r h
  obtain ⟨a, ns, rfl, hs, q⟩ := h
  obtain ⟨its, rv, ⟨o, ho, hc, n, hd⟩, hz⟩ := I.tuple hs
  rw [Vals.ref1 r]
  have hi := rv.ints
  have hz' : its.length ≤ sizeLine := by rw [← rv.length]; exact hz
  refine Calls.call_function_entry PyProof.Rows.kind_sorted PyProof.Rows.plain_sorted PyProof.Rows.entry_sorted (PyProof.Rows.args_sorted1 _) ?_
  unfold Builtin.«sorted»
  refine wpAny_bind (m := checkCount "sorted" 1 1 _) (wpAny_pure ?_)
  refine wpAny_bind (wpAny_collect_seq a (.inr rfl) ho hc hd (fun h' hk => ?_) (by rw [List.size_toArray]; exact hz'))
  have I1 : Inv X pins σ H { s with heap := h', toks := s.toks } := I.kept (t' := s.toks) hk
  rw [List.toList_toArray]
  refine wpAny_bind (wpAny_newList ?_ hz')
  have hoL : (h'.push (PyProof.Rows.seqObj "list" its.toArray 0)).get? h'.objs.size = some (PyProof.Rows.seqObj "list" its.toArray 0) := Heap.get?_push_size _ rfl
  show wpAny _ _ _ _ _ { s with heap := h'.push (PyProof.Rows.seqObj "list" its.toArray 0) }
  refine wpAny_bind (wpAny_holding (wpAny_call_entry PyProof.Rows.slot_list_sort ⟨_, hoL, rfl⟩ PyProof.Rows.entry_list_sort
    (SrtO.list_sort_ord SrtO.swo_int hoL hz' (fun h2 => SrtO.ints_sortable hi h2) fun out h1 h2 => ⟨_, rfl, ?_⟩) (PyProof.Rows.args_list_sort _)))
  obtain ⟨k1, k2, k3⟩ := SrtO.ints_out hi h1 h2
  obtain ⟨ep, he'⟩ := PyProof.Rows.sortedHeap_at (vs := its) (out := out.toArray) hoL
  have hlen : ((out.map SrtO.iv).map V.int).length ≤ sizeLine := by
    rw [List.length_map, k2.length_eq]
    rw [List.length_map] at hz
    exact hz
  refine wpAny_pure ⟨_, rfl, .ref h'.objs.size, upd H h'.objs.size (.lst ((out.map SrtO.iv).map V.int)), I1.laid (t' := s.toks) (fun b u e => ?_) (Nat.le_refl _)
    (show ObjOk X.prog X.w _ _ _ (.lst ((out.map SrtO.iv).map V.int)) from ⟨hlen, out, ep, vals_of_ints k1, he'⟩), rfl, q _ _ k2 k3 (I1.hok.fresh (Nat.le_refl _))⟩
  have hb : b < h'.objs.size := Heap.lt_size e
  rw [PyProof.Rows.sortedHeap_old (Nat.ne_of_lt hb) (by rw [PyProof.Rows.size_push']; exact Nat.lt_succ_of_lt hb)]
  exact Heap.get?_push_of_some _ e
def oSortT : D → Option D
  | .tuple xs => (intsOf xs).map fun ns => .list ((sortI ns).map .int)
  | _ => none
theorem j_sortT (hm : G.mg "sorted" = none) (ha : J G c π τ a fa) (hg : GlN c "sorted" := by rfl) (hs : ∀ env, starEach [a] env = (false, eval a env) :: starEach [] env := by intro _; rfl) :
    JF G c π (.Call (.Name "sorted" p) [a] [] pos) (f1 oSortT fa) := j_unF (cb1_rule (r := rSortedTI G.K) (fun X s => s.opK ▸ cr_sortedTI) hm (by decide +kernel) hg hs (by decide) (by decide)) (fun m ex σ H g v x d Q S rv e q => by
  unfold oSortT at e
  split at e
  · rename_i xs
    cases h : intsOf xs with
    | none => simp [h] at e
    | some ns =>
      rw [h] at e
      cases e
      obtain ⟨b, vs, rfl, h1, r1⟩ := rv.tup hid_sub
      rw [of_intsOf h] at r1
      rw [r1.ints] at h1
      refine ⟨b, ns, rfl, h1, fun ns' p h3 h4 np => ?_⟩
      have := sortI_eq h3 h4
      subst this
      exact q p _ (.laid S np) (PoF.ow S np (RpL.ofInts _))
  · cases e) ha
/-! ### {k: v, ..}.get(x, y), the pairs plain -/
/-- a plain datum of a text -/
structure Pl (e : Expr) (v : V) (d : D) : Prop where
  run : ∀ X : Cx, PE X e (tC v)
  rp : ∀ K H, Rp K H v d
theorem pl_int {i : Int} {k} : Pl (.Constant (.int i) k pos) (.int i) (.int i) := ⟨fun X => pe_int, fun K H => .int i⟩
theorem pl_str {i : Str} {k} : Pl (.Constant (.str i) k pos) (.str i) (.str i) := ⟨fun X => pe_str, fun K H => .str i⟩
theorem pl_bl {i : Bool} {k} : Pl (.Constant (.bool i) k pos) (.bl i) (.bool i) := ⟨fun X => pe_bl, fun K H => .bl i⟩
inductive Pls : List (Option Expr) → List Expr → List (Key × V) → List (D × D) → Prop
  | nil : Pls [] [] [] []
  | cons {ek ev : Expr} {ks : List (Option Expr)} {vs : List Expr} {k : Key} {v : V} {d : D} {kvs : List (Key × V)} {ds : List (D × D)} : Pl ek (kV k) (kD k) → Pl ev v d → Pls ks vs kvs ds → Pls (some ek :: ks) (ev :: vs) ((k, v) :: kvs) ((kD k, d) :: ds)
theorem pls_s {i : Str} {u : Nat} {q : Pos} {ev : Expr} {ks : List (Option Expr)} {vs : List Expr} {v : V} {d : D} {kvs : List (Key × V)} {ds : List (D × D)} (h : Pl ev v d) (r : Pls ks vs kvs ds) : Pls (some (.Constant (.str i) u q) :: ks) (ev :: vs) ((.inr i, v) :: kvs) ((.str i, d) :: ds) := .cons (k := .inr i) pl_str h r
theorem pls_i {i : Int} {u : Nat} {q : Pos} {ev : Expr} {ks : List (Option Expr)} {vs : List Expr} {v : V} {d : D} {kvs : List (Key × V)} {ds : List (D × D)} (h : Pl ev v d) (r : Pls ks vs kvs ds) : Pls (some (.Constant (.int i) u q) :: ks) (ev :: vs) ((.inl i, v) :: kvs) ((.int i, d) :: ds) := .cons (k := .inl i) pl_int h r
theorem Pls.pps {X : Cx} {ks : List (Option Expr)} {vs : List Expr} {kvs : List (Key × V)} {ds : List (D × D)} (h : Pls ks vs kvs ds) : PPs X pos ks vs (kvs.map fun kv => (tC (kV kv.1), tC kv.2)) := by
  induction h with
  | nil => exact pps_nil
  | cons a b _ ih => exact pps_cons (a.run X) (b.run X) ih
theorem pls_pairs {σ : L2.St} {H : Hp} {Q : List (V × V) → Hp → Prop} : ∀ {kvs : List (Key × V)}, Q (kvs.map fun kv => (kV kv.1, kv.2)) H → tPairs (kvs.map fun kv => (tC (kV kv.1), tC kv.2)) σ H Q
  | [], h => h
  | _ :: kvs, h => pls_pairs (kvs := kvs) h
theorem Pls.rp {K : PySem.W.Frag} {H : Hp} {ks : List (Option Expr)} {vs : List Expr} {kvs : List (Key × V)} {ds : List (D × D)} (h : Pls ks vs kvs ds) : RpK K H kvs ds := by
  induction h with
  | nil => exact .nil
  | cons a b _ ih => exact .cons (b.rp _ _) ih
theorem upd_upd {H : Hp} {p : Addr} {o o' : HO} : upd (upd H p o) p o' = upd H p o' := by
  funext b
  by_cases hb : b = p
  · rw [hb, upd_same, upd_same]
  · rw [upd_ne hb, upd_ne hb, upd_ne hb]
def fDisp (ks : List (D × D)) (fa fb : Sf) : Sf := fun g => (fa g).bind fun p => (fb p.2).bind fun q => (keyOf p.1).map fun k => ((dFind ks k).getD q.1, q.2)
theorem j_disp {keys : List (Option Expr)} {vals : List Expr} {kvs : List (Key × V)} {ks : List (D × D)} {pd apos : Pos} (h : Pls keys vals kvs ks) (ha : J G c π1 τ1 a fa) (hb : J G c π2 true b fb)
    (hk : mergeK [] kvs = kvs := by rfl) (hall : keys.all (·.isSome) = true := by rfl) (hl : keys.length = vals.length := by rfl) (h0 : keys ≠ [] := by simp) (h15 : keys.length ≤ 15 := by decide) (h15' : kvs.length ≤ 15 := by decide)
    (hM : ∀ X : Cx, M2 X (.Dict keys vals pd) "get" apos a b pos := by intro X; exact ⟨rfl, rfl, rfl, rfl⟩) : J G c (π1 && π2) true (.Call (.Attribute (.Dict keys vals pd) "get" apos) [a, b] [] pos) (fDisp ks fa fb) := fun X s =>
  pe_weak (pe_dget2 s.units1 (pe_disp h.pps hall hl h0 h15) (ha X s) (hb X s) (hM X)) fun σ H Q ⟨m, ex, g, d, g', S, e, q⟩ => by
    unfold fDisp at e
    cases h1 : fa g with
    | none => simp [h1] at e
    | some y =>
      simp only [h1, Option.bind_some] at e
      cases h2 : fb y.2 with
      | none => simp [h2] at e
      | some z =>
        simp only [h2, Option.bind_some] at e
        cases h3 : keyOf y.1 with
        | none => simp [h3] at e
        | some k =>
          rw [h3] at e
          cases e
          refine fun p np => pls_pairs ⟨upd_same, kvs, rfl, h15', p, rfl, .inl ⟨kvs, .inl (by rw [hk]; exact upd_same)⟩, ?_⟩
          rw [hk, upd_upd]
          have P0 : Po G.K m ex σ H g true g (upd H p (.dK kvs)) := .new S np
          refine ⟨m, ex, g, y.1, y.2, P0.sr, h1, fun v H2 p1 r1 => ⟨m, ex, y.2, z.1, z.2, p1.sr, h2, fun w H3 p2 r2 => ?_⟩⟩
          have ev := r1.key h3
          have np' := S.fresh np
          have e3 : H3 p = some (.dK kvs) := p2.vis _ _ np' (p1.vis _ _ np' upd_same)
          have P : Po G.K m ex σ H g (π1 && π2) z.2 H3 := (P0.trans p1).trans p2
          refine ⟨valV kvs k, .inl ⟨kvs, k, .inl e3, ev, rfl⟩, ?_⟩
          obtain ⟨f1, f2⟩ := RpK.find (k := k) (h.rp (K := G.K) (H := hid (Hd m ex) H3))
          cases hf : dFind ks k with
          | none => rw [hf] at q; rw [f2 hf]; exact q w H3 P r2
          | some dd =>
            rw [hf] at q
            obtain ⟨x, hx, rx⟩ := f1 dd hf
            rw [hx]
            exact q x H3 P (.of rx)
/-! ### dict comprehensions -/
/-- a dict comprehension over it: Pv by the turn and the heap (the new dict at D within) -/
theorem dc_it {J : L2.It} {n : Nat} {Gd : Hp → Prop} {Y : Nat → Hp → V → Hp → Prop} (w : Walk J n Gd Y) {g : TG} {tt : TT} {tk tv : TE} {vs : List Nat} {σ : L2.St} {H1 : Hp} {D : Addr} {Qd : Hp → Prop} (Pv : Nat → Hp → Prop) (h0 : Pv 0 (upd H1 D (.dK []))) (hG : ∀ i H, i ≤ n → Pv i H → Gd H)
    (hs : ∀ i x H H', i < n → Pv i H → Y i H x H' → g x (L2.wipe σ vs) H' fun σ2 H2 => L2.wipe σ2 vs = L2.wipe σ vs ∧ tt σ2 H2 fun b H3 =>
      if b = true then tk σ2 H3 fun y H4 => tv σ2 H4 fun z H5 => ∃ kvs k, y = kV k ∧ H5 D = some (.dK kvs) ∧ kvs.length < sizeLine ∧ Pv (i + 1) (upd H5 D (.dK (putK kvs k z))) else Pv (i + 1) H3) (hd : ∀ H, Pv n H → Qd H) :
    ∃ W : Nat → Nat → Hp → Prop, (∃ m, W 0 m (upd H1 D (.dK []))) ∧ ∀ i m H, W i m H →
      (J.stop i H ∧ Qd H) ∨ (J.go i H ∧ ∃ Nx : Hp → Prop, (∀ H', Nx H' → ∃ m', m' < m ∧ W (i + 1) m' H') ∧ ∀ x H', J.yld i H x H' → g x (L2.wipe σ vs) H' fun σ2 H2 => L2.wipe σ2 vs = L2.wipe σ vs ∧ tt σ2 H2 fun b H3 =>
        if b = true then tk σ2 H3 fun y H4 => tv σ2 H4 fun z H5 => ∃ kvs k, y = kV k ∧ H5 D = some (.dK kvs) ∧ kvs.length < sizeLine ∧ Nx (upd H5 D (.dK (putK kvs k z))) else Nx H3) := by
  refine ⟨fun i m H => m = n - i ∧ i ≤ n ∧ Pv i H, ⟨n, by simp, Nat.zero_le _, h0⟩, ?_⟩
  rintro i m H ⟨rfl, hi, p⟩
  have q := hG i H hi p
  by_cases hlt : i < n
  · refine .inr ⟨w.goes i H hlt q, Pv (i + 1), fun H' p' => ⟨n - (i + 1), by omega, rfl, hlt, p'⟩, fun x H' y => hs i x H H' hlt p (w.yields i H x H' hlt q y)⟩
  · have e : i = n := by omega
    subst e
    exact .inl ⟨w.stops H q, hd H p⟩
end
def dcGo (b : Bd) (tt : Tf) (tk tv : Sf) (vs : List Nat) : List D → List (D × D) → Sg → Option (List (D × D) × Sg)
  | [], acc, g => some (acc, g)
  | d :: ds, acc, g => (b d g).bind fun g1 => (tt g1).bind fun p => if p.1 = true then (tk p.2).bind fun x => (tv x.2).bind fun y => (keyOf x.1).bind fun k => if acc.length < sizeLine then dcGo b tt tk tv vs ds (dPut acc k y.1) (wipeG y.2 vs) else none else dcGo b tt tk tv vs ds acc (wipeG p.2 vs)
def fDc (it : Si) (b : Bd) (tt : Tf) (tk tv : Sf) (vs : List Nat) : Sf := fun g => (it g).bind fun p => if noOwn p.2 vs = true then (dcGo b tt tk tv vs p.1 [] (wipeG p.2 vs)).map fun r => (.dict r.1, backG p.2 r.2 vs) else none
section
variable {K : PySem.W.Frag} {π1 π2 π3 π4 τ : Bool} {fit : Si} {b : Bd} {tt : Tf} {tk tv : Sf} {ts vs : List Nat} {m : Mp} {ex : Addr → Prop} {σ : L2.St} {g1 : Sg} {H H1 : Hp} {p : Addr}
theorem tdc_core (hts : ∀ t ∈ ts, t ∈ vs) {Q : VK} {J : L2.It} {ds : List D} {rs : List (D × D)} {gE : Sg} (S1 : SR K m ex σ H1 g1) (itd : ItD K (Hd m ex) H1 ds J) (hno : noOwn g1 vs = true) (e2 : dcGo b tt tk tv vs ds [] (wipeG g1 vs) = some (rs, gE))
    (q : ∀ p H', PoF K m ex σ H1 g1 ((π2 && π3) && π4) (backG g1 gE vs) p H' → Ow K (hid (Hd m (exP ex p)) H') H' p (.dict rs) → Q (.ref p) H') :
    tDc (fun _ _ R => R J H1) (TFG K ts b) (TFT K π2 tt) (TF K π3 τ tk) (TF K π4 true tv) vs σ H Q := by
  refine fun p np => ?_
  have p1 : Po K m ex σ H1 g1 true g1 H1 := .refl S1
  obtain ⟨Y, wk, hY⟩ := itd
  have mv := noOwn_m p1.sr hno
  have hp : exP ex p p := .inr rfl
  refine dc_it wk (fun i H => ∃ gi acc accD, LcI K m ex σ H1 g1 vs p ((π2 && π3) && π4) H gi (.dK acc) ∧ RpK K (hid (Hd m (exP ex p)) H) acc accD ∧ dcGo b tt tk tv vs (ds.drop i) accD gi = some (rs, gE))
    ⟨_, [], [], .start p1.sr np mv, .nil, e2⟩ (fun i H _ ⟨gi, acc, accD, I, _⟩ => I.vis) ?_ ?_
  · rintro i x H H' hlt ⟨gi, acc, accD, I, racc, e3⟩ y
    obtain ⟨gr, dd, hdd, rx⟩ := hY i H x H' (Hd m (exP ex p)) I.vis (fun c u e z => (exP_hd.mp z).elim _root_.id fun z => by rw [z, np] at e; cases e) (fun c z => I.sr.hdl z) hlt y
    rw [drop_cons hdd] at e3
    unfold dcGo at e3
    cases hb : b dd gi with
    | none => simp [hb] at e3
    | some g2 =>
      cases ht : tt g2 with
      | none => simp [hb, ht] at e3
      | some tp =>
        simp only [hb, ht, Option.bind_some] at e3
        refine ⟨m, exP ex p, gi, dd, g2, I.sr.grow gr, rx, hb, fun m' σ2 pt => ?_⟩
        have em : m' = m := by
          funext j
          by_cases hj : j ∈ ts
          · rw [pt.mi j hj, mv j (hts j hj)]
          · exact pt.mo j hj
        subst em
        refine ⟨?_, m', exP ex p, g2, tp.1, tp.2, pt.sr, ht, fun H3 p3 => ?_⟩
        · rw [← wipe_idem (σ := σ)]
          exact wipe_eq pt.ls fun j hj => pt.so j fun z => hj (hts j z)
        have a' : H' p = some (.dK acc) := gr _ _ I.at'
        have a3 : H3 p = some (.dK acc) := by rw [p3.exk p hp]; exact a'
        have x0 : Ext (hid (Hd m' (exP ex p)) H) (hid (Hd m' (exP ex p)) H') := (hid_grow (fun _ _ _ z => z) fun c u _ e => gr c u e).ext
        by_cases ht1 : tp.1 = true
        · rw [if_pos ht1] at e3
          dsimp only
          rw [if_pos ht1]
          cases hq : tk tp.2 with
          | none => simp [hq] at e3
          | some tq =>
            simp only [hq, Option.bind_some] at e3
            cases hq2 : tv tq.2 with
            | none => simp [hq2] at e3
            | some tw =>
              simp only [hq2, Option.bind_some] at e3
              cases hk : keyOf tq.1 with
              | none => simp [hk] at e3
              | some k =>
                simp only [hk, Option.bind_some] at e3
                split at e3
                · rename_i hz
                  refine ⟨m', exP ex p, tp.2, tq.1, tq.2, p3.sr, hq, fun yv H4 p4 r4 => ⟨m', exP ex p, tq.2, tw.1, tw.2, p4.sr, hq2, fun zv H5 p5 r5 => ⟨acc, k, r4.key hk, by rw [p5.exk p hp, p4.exk p hp]; exact a3, by rw [racc.length]; exact hz, wipeG tw.2 vs, putK acc k zv, dPut accD k tw.1, ?_, ?_, e3⟩⟩⟩
                  · exact I.turn p1.sr np mv hts gr pt ((p3.trans p4).trans p5)
                  · exact RpK.put (r5.strong.mono wr_ext) (((((racc.mono x0).mono p3.ext).mono p4.ext).mono p5.ext).mono wr_ext)
                · cases e3
        · rw [if_neg ht1] at e3
          dsimp only
          rw [if_neg ht1]
          have z := I.turn (o' := .dK acc) p1.sr np mv hts gr pt (p3.weak (π := (π2 && π3) && π4) fun z => (Bool.and_eq_true_iff.mp (Bool.and_eq_true_iff.mp z).1).1)
          have eu : upd H3 p (.dK acc) = H3 := by
            funext c
            by_cases hc : c = p
            · rw [hc, upd_same, a3]
            · exact upd_ne hc
          rw [eu] at z
          exact ⟨_, acc, accD, z, (racc.mono x0).mono p3.ext, e3⟩
  · rintro H ⟨gi, acc, accD, I, racc, e3⟩
    rw [List.drop_length] at e3
    cases e3
    exact q p H (by have z := I.fin p1 np mv; rwa [Bool.true_and] at z) (.dic I.at' racc)
end
section
variable {G : Gb} {c : Sx} {pos : Pos} {π1 π2 π3 π4 τ : Bool} {kx vx tg it : Expr} {ifs : List Expr} {scope : Scope} {fit : Si} {b : Bd} {tt : Tf} {tk tv : Sf} {ts : List Nat}
/-- {k: v for tg in it if ..} -/
theorem jf_dc (own : List (Str × Nat)) (hi : JI G c π1 tg it fit) (hg : JG G (blkX c scope) tg ts b) (ht : JTs G (blkX c scope) π2 ifs tt) (hk : J G (blkX c scope) π3 τ kx tk) (he : J G (blkX c scope) π4 true vx tv) (ok : blkC c.N c.sc scope own = true := by decide +kernel) (hts : ∀ t ∈ ts, t ∈ own.map (·.2) := by decide)
    (hs : ∀ env x, foldedSetIterable it env x = pure x := by intro _ _; rfl) : JF G c (π1 && ((π2 && π3) && π4)) (.DictComp kx vx [⟨tg, it, ifs, 0⟩] scope pos) (fDc fit b tt tk tv (own.map (·.2))) := fun X s =>
  pe_weak (pe_dc s.calm (by rw [s.N]; exact s.nd) (hi X s) (by rw [s.N, s.sc]; exact blkOk_by ok) (fun st H C cl fp => hg _ (s.blk st H scope C cl fp)) (fun st H C cl fp => ht _ (s.blk st H scope C cl fp)) (fun st H C cl fp => hk _ (s.blk st H scope C cl fp)) (fun st H C cl fp => he _ (s.blk st H scope C cl fp)) (hs _)) fun σ H Q h => by
    obtain ⟨m, ex, g, d, g', S, e, q⟩ := h
    unfold fDc at e
    cases h1 : fit g with
    | none => simp [h1] at e
    | some y =>
      simp only [h1, Option.bind_some] at e
      split at e
      · rename_i hno
        cases h2 : dcGo b tt tk tv (own.map (·.2)) y.1 [] (wipeG y.2 (own.map (·.2))) with
        | none => simp [h2] at e
        | some r =>
          rw [h2] at e
          cases e
          exact ⟨m, ex, g, y.1, y.2, S, h1, fun J H1 p1 itd => tdc_core (H := H1) hts p1.sr itd hno h2 fun p H' a w => q p H' (a.after p1) w⟩
      · cases e
end
end EV

set_option Elab.async false
set_option linter.all false
set_option maxRecDepth 100000
set_option maxHeartbeats 1000000
/-! EVg: *= of ints, reversed slices, sorted of data, membership of data. -/
namespace EV
open PySem PySem.Spec L2
/-! ### t[::-1] -/
section
variable {prog : Program} {w : World} {A : Around} {E : Value → Shared → Prop} {s : Shared}
theorem sliceApplied_rev {sl : Addr} {vl vu : Value} {t : Tok} {n : Nat} {Q : Int × Int × Nat → Shared → Prop} (hs : s.heap.IsSliceOf sl vl vu (.int (-1) t)) (pl : IsPart vl none) (pu : IsPart vu none)
    (h : Q ((n : Int) - 1, -1, n) s) : wpAny (model prog w) A (Builtin.Slice.sliceApplied (.ref sl) (pure (n : Int))) Q E s := by
  obtain ⟨os, hos, hcs, hds⟩ := id hs
  unfold Builtin.Slice.sliceApplied Builtin.Slice.sliceFields
  refine wpAny_bind (wpAny_bind (wpAny_field hos hds (x := vl) rfl (wpAny_bind (wpAny_field hos hds (x := vu) rfl (wpAny_bind (wpAny_field hos hds (x := .int (-1) t) rfl (wpAny_pure ?_)))))))
  refine wpAny_bind (HT.slicePart_ (.int (-1) t) ?_)
  show wpAny _ _ (if ((-1 : Int) == 0) = true then _ else _) _ _ s
  rw [if_neg (by decide)]
  refine wpAny_bind (HT.slicePart_ pl (wpAny_bind (HT.slicePart_ pu (wpAny_bind (wpAny_pure ?_)))))
  show wpAny _ _ (pure (((n : Int) - 1), (-1 : Int), Builtin.Slice.slicePlaces ((n : Int) - 1) (-1) (-1))) _ _ s
  have e : Builtin.Slice.slicePlaces ((n : Int) - 1) (-1) (-1) = n := by
    unfold Builtin.Slice.slicePlaces
    rw [if_neg (by decide), show (- (-1) : Int) = 1 by decide, Int.ediv_one]
    split <;> omega
  rw [e]
  exact wpAny_pure h
theorem pick_rev (xs : Array Value) : ((List.range xs.size).filterMap fun (m : Nat) => xs[(((xs.size : Int) - 1) + (m : Int) * (-1)).toNat]?).toArray = xs.toList.reverse.toArray := by
  have e : (List.range xs.size).filterMap (fun (m : Nat) => xs[(((xs.size : Int) - 1) + (m : Int) * (-1)).toNat]?) = ((List.range xs.size).map fun k => xs.size - 1 - k).filterMap (xs[·]?) := by
    rw [List.filterMap_map]
    refine congrArg (fun f => List.filterMap f (List.range xs.size)) (funext fun m => ?_)
    show xs[(((xs.size : Int) - 1) + (m : Int) * (-1)).toNat]? = xs[xs.size - 1 - m]?
    congr 1
    omega
  rw [e, PySem.W.krv_range, List.filterMap_reverse, PySem.W.krv_all]
theorem getItem_tuple_rev {t sl : Addr} {items : Array Value} {vl vu : Value} {tk : Tok} {Q : Value → Shared → Prop} (ht : PyProof.Rows.IsTup s.heap t items) (hs : s.heap.IsSliceOf sl vl vu (.int (-1) tk)) (pl : IsPart vl none) (pu : IsPart vu none)
    (h : Q (.ref s.heap.objs.size) { s with heap := s.heap.push { cls := .type "tuple", data := .seq items.toList.reverse.toArray } })
    (hsz : items.size ≤ sizeLine) : wpAny (model prog w) A (getItem (.ref t) (.ref sl)) Q E s := by
  have htake : sizeOk (.seq items.toList.reverse.toArray) := by
    show items.toList.reverse.toArray.size ≤ sizeLine
    rw [List.size_toArray, List.length_reverse, Array.length_toList]
    exact hsz
  obtain ⟨os, hos, hcs, hds⟩ := id hs
  have hTs : s.TypeIs (.ref sl) "slice" := ⟨os, hos, hcs⟩
  unfold getItem
  try with_reducible refine wpAny_holding ?_
  first | refine wpAny_bind (wpAny_pure ?_) | skip
  refine wpAny_bind (wpAny_sequenceKey ht.typeIs (by decide) ?_)
  refine wpAny_bind (wpAny_callSpecial?_slot (name := Str.ofString "__getitem__") ht.typeIs PyProof.Rows.slot_tuple_getitem
    (wpAny_call_entry PyProof.Rows.slot_tuple_getitem ht.typeIs PyProof.Rows.entry_tuple_getitem ?_ (PyProof.Rows.args_tuple_getitem _ _)))
  show wpAny _ _ (Builtin.Tuple.tupleItemsOf (.ref t) >>= _) _ _ s
  refine wpAny_bind (PyProof.Rows.tupleItemsOf_ ht ?_)
  refine wpAny_bind (wpAny_typeOf hTs ?_)
  rw [if_pos (by decide)]
  refine wpAny_bind (sliceApplied_rev hs pl pu ?_)
  have hno : ¬ ((((items.size : Int) - 1) == 0 && (-1 : Int) == 1 && items.size == items.size) = true) := by
    intro q
    rw [Bool.and_eq_true, Bool.and_eq_true] at q
    exact absurd (eq_of_beq q.1.2) (by decide)
  show wpAny _ _ (if (((items.size : Int) - 1) == 0 && (-1 : Int) == 1 && items.size == items.size) = true then _ else _) _ _ s
  rw [if_neg hno, pick_rev]
  first
    | exact wpAny_bind (m := Builtin.Tuple.tupleExact _) (wpAny_newObj_type (wpAny_pure ⟨_, rfl, wpAny_pure h⟩) htake)
    | exact wpAny_bind (m := Builtin.Tuple.tupleExact _) (wpAny_newObj_type (wpAny_bind (wpAny_pure (wpAny_pure ⟨_, rfl, wpAny_pure h⟩))) htake)
    | exact wpAny_bind (wpAny_bind (m := Builtin.Tuple.tupleExact _) (wpAny_newObj_type (wpAny_pure (wpAny_pure ⟨_, rfl, wpAny_pure h⟩)) htake))
    | exact wpAny_bind (wpAny_bind (m := Builtin.Tuple.tupleExact _) (wpAny_newObj_type (wpAny_pure ⟨_, rfl, wpAny_pure h⟩) htake))
end
def tRevT (K : PySem.W.Frag) (te : TE) : TE := fun σ H Q => te σ H fun x H1 => ∃ a xs, x = .ref a ∧ SqT K H1 a xs ∧ ∀ p, H1 p = none → Q (.ref p) (upd H1 p (.tup xs.reverse))
theorem pe_revT {X : Cx} {e : Expr} {te : TE} {k : Nat} {p1 p2 p3 pos : Pos} (he : PE X e te) : PE X (.Subscript e (.Slice none none (some (.UnaryOp .USub (.Constant (.int 1) k p1) p2)) p3) pos) (tRevT X.K te) := by
  refine ⟨fun pins s σ H Q I h => ?_⟩
  refine PyProof.Rows.Subscript_ (thn (he.run pins s σ H _ I h) fun v s1 ⟨x, H1, I1, r1, q1⟩ => ?_)
  obtain ⟨a, xs, ex, hx, q⟩ := q1
  subst ex
  cases r1
  have hst : PO X (some (.UnaryOp .USub (.Constant (.int 1) k p1) p2)) (tPart (tUn (rU fun i => .int (-i)) (tC (.int 1)))) := po_some (pe_un un_neg pe_int)
  refine wpAny_Slice (thn (po_none.run pins s1 σ H1 (fun o H2 => o = none ∧ H2 = H1) I1 ⟨rfl, rfl⟩) fun vl s2 ⟨l, H2, I2, pl, el, e2⟩ => ?_)
  subst el e2
  refine thn (po_none.run pins s2 σ H2 (fun o H3 => o = none ∧ H3 = H2) I2 ⟨rfl, rfl⟩) fun vu s3 ⟨u, H3, I3, pu, eu, e3⟩ => ?_
  subst eu e3
  refine thn (hst.run pins s3 σ H3 (fun o H4 => o = some (-1) ∧ H4 = H3) I3 ⟨1, rfl, -1, rfl, rfl, rfl⟩) fun vs s4 ⟨o, H4, I4, ps, eo, e4⟩ => ?_
  subst eo e4
  obtain ⟨tk, rfl⟩ : ∃ tk, vs = .int (-1) tk := by cases ps; exact ⟨_, rfl⟩
  have I5 : Inv X pins σ H4 { s4 with heap := s4.heap.push { cls := .type "slice", data := .fields #[vl, vu, .int (-1) tk] } } := I4.kept (t' := s4.toks) fun b ob q => Heap.get?_push_of_some _ q
  obtain ⟨its, r, ht, hz⟩ := I5.tuple hx
  have hlen := r.length
  show wpAny (model X.prog X.w) X.A (PyProof.Rows.subscriptTail e (.Slice none none (some (.UnaryOp .USub (.Constant (.int 1) k p1) p2)) p3) (.ref a) (.ref s4.heap.objs.size)) (EP X pins σ Q) X.xe { s4 with heap := s4.heap.push { cls := .type "slice", data := .fields #[vl, vu, .int (-1) tk] } }
  refine PyProof.Rows.tail_any (ops := [.ref a, .ref s4.heap.objs.size]) ht.typeIs PyProof.Rows.slot_tuple_getitem.lookup ?_ (by with_unfolding_all rfl)
  refine getItem_tuple_rev ht (Heap.IsSliceOf.new _ vl vu (.int (-1) tk)) pl pu ?_ (by rw [List.size_toArray]; omega)
  refine ⟨.ref _, _, I5.laid (t' := s4.toks) (o := .tup xs.reverse) (fun b ob q => Heap.get?_push_of_some _ q) (Nat.le_refl _) ?_, rfl, q _ (I5.hok.fresh (Nat.le_refl _))⟩
  exact ⟨by rw [List.length_reverse]; exact hz, _, r.reverse, ⟨_, Heap.get?_push_size _ rfl, rfl, _, rfl⟩⟩
section
variable {G : Gb} {c : Sx} {pn : List Nat} {ρ : Bool} {pos : Pos} {π π1 π2 τ τ1 τ2 : Bool} {a b e : Expr} {fa fb fe fk : Sf} {p p1 p2 p3 : Pos} {k : Nat}
def oRevT : D → Option D
  | .tuple xs => some (.tuple xs.reverse)
  | _ => none
theorem j_revT (ha : J G c π τ a fa) : J G c π true (.Subscript a (.Slice none none (some (.UnaryOp .USub (.Constant (.int 1) k p1) p2)) p3) pos) (f1 oRevT fa) := fun X s =>
  pe_weak (pe_revT (ha X s)) fun σ H Q ⟨m, ex, g, d, g', S, e, q⟩ => by
    obtain ⟨x, e1, e2⟩ := f1_some e
    refine ⟨m, ex, g, x, g', S, e1, fun v H1 p1 r1 => ?_⟩
    unfold oRevT at e2
    split at e2
    · cases e2
      obtain ⟨b, vs, rfl, h1, rr⟩ := r1.tup hid_sub
      refine ⟨b, vs, rfl, by rw [s.opK]; exact h1, fun t nt => ?_⟩
      exact q _ _ ((p1.trans (Po.new (π := true) p1.sr nt)).weak (by simp)) (.of (rp_new_tup p1.sr nt rr.reverse))
    · cases e2
def oRevL : D → Option D
  | .list xs => some (.list xs.reverse)
  | _ => none
theorem j_revL (ha : J G c π τ a fa) : JF G c π (.Subscript a (.Slice none none (some (.UnaryOp .USub (.Constant (.int 1) k p1) p2)) p3) pos) (f1 oRevL fa) := fun X s =>
  pe_weak (pe_revL (ha X s)) fun σ H Q ⟨m, ex, g, d, g', S, e, q⟩ => by
    obtain ⟨x, e1, e2⟩ := f1_some e
    refine ⟨m, ex, g, x, g', S, e1, fun v H1 p1 r1 => ?_⟩
    unfold oRevL at e2
    split at e2
    · cases e2
      obtain ⟨b, vs, rfl, h1, rr⟩ := r1.lst hid_sub
      refine ⟨b, vs, rfl, SqL.of h1, fun t nt => ?_⟩
      have z := PoF.after p1 (PoF.laid (o := .lst vs.reverse) (π := true) p1.sr nt)
      rw [Bool.and_true] at z
      exact q _ _ z (PoF.ow p1.sr nt rr.reverse)
    · cases e2
/-! ### x *= e -/
theorem iop_mulW {X : Cx} : OpR X (inplaceOp .Mult) (rI CMulW fun i j => .int (i * j)) := opI fun _ _ _ _ _ _ _ hc q => PyProof.Rows.imul_int q hc.ok
theorem js_mulI (i : Nat) {x : Str} {pos' : Pos} (ha : J G c π τ a fa) (hi : c.N[i]? = some x := by rfl) (hx : Loc c.sc x := by first | exact Or.inl rfl | exact Or.inr rfl) (hf : c.fn x = true ∨ c.sc.names.lookup x = some .local := by first | exact Or.inl rfl | exact Or.inr rfl)
    (hp : i ∉ pn := by decide) : JS G c pn ρ (.AugAssign (.Name x pos') .Mult a pos) (fAug oMul i fa) := js_aug i (fun X s => iop_mulW) (ok_Ic fun i j h => by
  unfold cMul at h
  have h' := of_decide_eq_true h
  exact h') ha hi hx hf hp
/-! ### x in t, data of any depth -/
def rInT (K : PySem.W.Frag) (no : Bool) : R2 := fun x y H Q => ∃ d ds, Dp K H x d ∧ Dp K H y (.tuple ds) ∧ SeqAt.shaped d = true ∧ SeqAt.shaped (.tuple ds) = true ∧ Q (.bl (no != ds.any fun z => PyData.eqv z d)) H
theorem op_inT {X : Cx} (hu : X.A.units + 65 < cLine) : OpR X (compareOp .In) (rInT X.K false) := by
  intro pins s σ H x y v u Q I rx ry h
  obtain ⟨d, ds, hd, he, sd, se, q⟩ := h
  obtain ⟨as, r1⟩ := Dp.reads I d x v hd rx
  obtain ⟨bs, r2⟩ := Dp.reads I (.tuple ds) y u he ry
  exact SeqAt.in_tuple_reads r2 r1 (SeqAt.canLay_of_shaped se) (SeqAt.canLay_of_shaped sd) (PyProof.Rows.room_in_shaped sd hu) ⟨.bl _, H, I, rfl, by rw [Bool.false_bne] at q; exact q⟩
theorem op_notInT {X : Cx} (hu : X.A.units + 65 < cLine) : OpR X (compareOp .NotIn) (rInT X.K true) := by
  intro pins s σ H x y v u Q I rx ry h
  obtain ⟨d, ds, hd, he, sd, se, q⟩ := h
  obtain ⟨as, r1⟩ := Dp.reads I d x v hd rx
  obtain ⟨bs, r2⟩ := Dp.reads I (.tuple ds) y u he ry
  exact SeqAt.notIn_tuple_reads r2 r1 (SeqAt.canLay_of_shaped se) (SeqAt.canLay_of_shaped sd) (PyProof.Rows.room_in_shaped sd hu) ⟨.bl _, H, I, rfl, by rw [Bool.true_bne] at q; exact q⟩
def oInP (x y : D) : Option Bool := match y with
  | .list ds => if SeqAt.shaped x = true ∧ SeqAt.shaped (.list ds) = true then some (ds.any fun z => PyData.eqv z x) else none
  | .tuple ds => if SeqAt.shaped x = true ∧ SeqAt.shaped (.tuple ds) = true then some (ds.any fun z => PyData.eqv z x) else none
  | _ => none
def oNotInP (x y : D) : Option Bool := (oInP x y).map not
theorem ok_inP {K : PySem.W.Frag} : Ok2 K (fun x y H Q => rInD K x y H Q ∨ rInT K false x y H Q) (oB oInP) := fun m ex σ H g v w x y d Q S rv rw' e q => by
  unfold oB oInP at e
  split at e
  · split at e
    · rename_i h
      cases e
      exact .inl ⟨x, _, rv.dp hid_sub h.1, rw'.dp hid_sub h.2, h.1, h.2, q _ _ (.refl S) (.bl _)⟩
    · cases e
  · split at e
    · rename_i h
      cases e
      exact .inr ⟨x, _, rv.dp hid_sub h.1, rw'.dp hid_sub h.2, h.1, h.2, by rw [Bool.false_bne]; exact q _ _ (.refl S) (.bl _)⟩
    · cases e
  · cases e
theorem ok_notInP {K : PySem.W.Frag} : Ok2 K (fun x y H Q => rNotInD K x y H Q ∨ rInT K true x y H Q) (oB oNotInP) := fun m ex σ H g v w x y d Q S rv rw' e q => by
  unfold oB oNotInP oInP at e
  split at e
  · split at e
    · rename_i h
      cases e
      exact .inl ⟨x, _, rv.dp hid_sub h.1, rw'.dp hid_sub h.2, h.1, h.2, q _ _ (.refl S) (.bl _)⟩
    · cases e
  · split at e
    · rename_i h
      cases e
      exact .inr ⟨x, _, rv.dp hid_sub h.1, rw'.dp hid_sub h.2, h.1, h.2, by rw [Bool.true_bne]; exact q _ _ (.refl S) (.bl _)⟩
    · cases e
  · cases e
theorem opr_or {X : Cx} {op : Value → Value → Sem Value} {r r' : R2} (h : OpR X op r) (h' : OpR X op r') : OpR X op (fun x y H Q => r x y H Q ∨ r' x y H Q) := fun pins s σ H x y v u Q I rx ry q => q.elim (h pins s σ H x y v u Q I rx ry) (h' pins s σ H x y v u Q I rx ry)
theorem jt_inP (ha : J G c π1 τ1 a fa) (hb : J G c π2 τ2 b fb) (hm : τ1 = true ∨ π2 = true := by first | exact .inl rfl | exact .inr rfl) (hk : behindInMarks .In b = false := by rfl) : JT G c (π1 && π2) (.Compare a [.In] [b] pos) (t2 oInP fa fb) := jt_cmp (fun X s => s.opK ▸ opr_or (op_inD s.units65) (op_inT s.units65)) ok_inP ha hb hm hk
theorem jt_notInP (ha : J G c π1 τ1 a fa) (hb : J G c π2 τ2 b fb) (hm : τ1 = true ∨ π2 = true := by first | exact .inl rfl | exact .inr rfl) (hk : behindInMarks .NotIn b = false := by rfl) : JT G c (π1 && π2) (.Compare a [.NotIn] [b] pos) (t2 oNotInP fa fb) := jt_cmp (fun X s => s.opK ▸ opr_or (op_notInD s.units65) (op_notInT s.units65)) ok_notInP ha hb hm hk
theorem j_inP (ha : J G c π1 τ1 a fa) (hb : J G c π2 τ2 b fb) (hm : τ1 = true ∨ π2 = true := by first | exact .inl rfl | exact .inr rfl) (hk : behindInMarks .In b = false := by rfl) : J G c (π1 && π2) true (.Compare a [.In] [b] pos) (f2 (oB oInP) fa fb) := j_cmp (fun X s => s.opK ▸ opr_or (op_inD s.units65) (op_inT s.units65)) ok_inP ha hb hm hk
theorem j_notInP (ha : J G c π1 τ1 a fa) (hb : J G c π2 τ2 b fb) (hm : τ1 = true ∨ π2 = true := by first | exact .inl rfl | exact .inr rfl) (hk : behindInMarks .NotIn b = false := by rfl) : J G c (π1 && π2) true (.Compare a [.NotIn] [b] pos) (f2 (oB oNotInP) fa fb) := j_cmp (fun X s => s.opK ▸ opr_or (op_notInD s.units65) (op_notInT s.units65)) ok_notInP ha hb hm hk
/-! ### sorted, of tuples -/
inductive EachP (P : V → D → Prop) : List V → List D → Prop
  | nil : EachP P [] []
  | cons {v : V} {d : D} {vs : List V} {ds : List D} : P v d → EachP P vs ds → EachP P (v :: vs) (d :: ds)
theorem EachP.length {P : V → D → Prop} {vs : List V} {ds : List D} (h : EachP P vs ds) : vs.length = ds.length := by
  induction h with
  | nil => rfl
  | cons _ _ ih => rw [List.length_cons, List.length_cons, ih]
def okS (ds : List D) : Bool := ds.all (fun d => SeqAt.shaped d && decide (d.depth ≤ 60) && (match d with | .tuple (_ :: _) => true | _ => false)) && ds.all fun x => ds.all fun y => PySem.W.alike x y
abbrev sortD (ds : List D) : List D := ds.mergeSort (PySem.W.dataLe false (fun d : D => d))
def rSortedD (K : PySem.W.Frag) : List V → Hp → VK → Prop := fun vs H Q => ∃ (a : Addr) (xs : List V) (ds : List D) (P : V → D → Prop), vs = [V.ref a] ∧ SqL K H a xs ∧ DpAll K H xs ds ∧ EachP P xs ds ∧ okS ds = true ∧
  ∀ (ys : List V) (p : Addr), EachP P ys (sortD ds) → H p = none → Q (.ref p) (upd H p (.lst ys))
theorem cr_sortedD {X : Cx} (hu : X.A.units + 65 < cLine) : CallR X (.builtin "sorted") (rSortedD X.K) := by
  intro pins s σ H vs us Q I r h
  obtain ⟨a, xs, ds, P, rfl, hs, hd, hP, ok, q⟩ := h
  obtain ⟨its, rv, hl, hz⟩ := I.list hs
  rw [Vals.ref1 r]
  obtain ⟨ok1, ok2⟩ := Bool.and_eq_true_iff.mp ok
  have o1 : ∀ d ∈ ds, SeqAt.shaped d = true ∧ d.depth ≤ 60 ∧ ∃ x r, d = .tuple (x :: r) := fun d hd => by
    have := List.all_eq_true.mp ok1 d hd
    obtain ⟨h1, h2⟩ := Bool.and_eq_true_iff.mp this
    obtain ⟨h3, h4⟩ := Bool.and_eq_true_iff.mp h1
    refine ⟨h3, of_decide_eq_true h4, ?_⟩
    cases d with
    | tuple ys =>
      cases ys with
      | nil => cases h2
      | cons x r => exact ⟨x, r, rfl⟩
    | _ => cases h2
  have e1 : ∀ {xs : List V} {ds : List D} {its : List Value}, Vals xs its → EachP P xs ds → PySem.W.EachIs (fun u d => ∃ x, RelV x u ∧ P x d) its ds := by
    intro xs ds its rv hP
    induction hP generalizing its with
    | nil => cases rv; exact .nil
    | cons h _ ih =>
      cases rv with
      | cons r1 r2 => exact .cons ⟨_, r1, h⟩ (ih r2)
  have e2 : ∀ {xs : List V} {ds : List D} {its : List Value}, Vals xs its → DpAll X.K H xs ds → PySem.W.EachIs (fun u d => ∃ as, Reads s.heap u d as) its ds := by
    intro xs ds its rv hd
    induction its generalizing xs ds with
    | nil => cases rv; cases hd; exact .nil
    | cons u us ih =>
      cases rv with
      | cons r1 r2 =>
        cases hd with
        | cons h1 h2 => exact .cons (Dp.reads I _ _ _ h1 r1) (ih r2 h2)
  have dl : ds.length ≤ sizeLine := by rw [← hP.length]; exact hz
  refine PySem.W.sorted_data (bs := ds) (enc := fun d => d) hl.isList (e1 rv hP) (e2 rv hd) ?_ ?_ dl (fun b hb => ?_) fun out ho eo => ?_
  · rw [List.map_id']
    intro x hx y hy
    exact List.all_eq_true.mp (List.all_eq_true.mp ok2 x hx) y hy
  · rw [List.map_id']
    exact .inl fun d hd => (o1 d hd).2.2
  · have := (o1 b hb).2.1
    omega
  · obtain ⟨ep, he'⟩ := PyProof.Rows.sortedAll_at s.heap its out.toArray
    have back : ∀ {out : List Value} {ds : List D}, PySem.W.EachIs (fun u d => ∃ x, RelV x u ∧ P x d) out ds → ∃ ys, Vals ys out ∧ EachP P ys ds := by
      intro out ds h
      induction h with
      | nil => exact ⟨[], .nil, .nil⟩
      | cons h _ ih =>
        obtain ⟨x, h1, h2⟩ := h
        obtain ⟨ys, h3, h4⟩ := ih
        exact ⟨x :: ys, .cons h1 h3, .cons h2 h4⟩
    obtain ⟨ys, y1, y2⟩ := back eo
    have yl : ys.length ≤ sizeLine := by
      rw [y2.length, List.length_mergeSort]; exact dl
    exact ⟨.ref _, upd H (s.heap.objs.size + 1) (.lst ys), I.laid (t' := s.toks) (fun _ _ => PyProof.Rows.sortedAll_old) (Nat.le_succ _) ⟨yl, out, ep, y1, he'⟩, rfl, q _ _ y2 (I.hok.fresh (Nat.le_succ _))⟩
theorem RpL.each {K : PySem.W.Frag} {H : Hp} : ∀ {vs : List V} {ds : List D}, RpL K H vs ds → EachP (Rp K H) vs ds
  | _, _, .nil => .nil
  | _, _, .cons a r => .cons a r.each
theorem EachP.rpl {K : PySem.W.Frag} {H : Hp} {vs : List V} {ds : List D} (h : EachP (Rp K H) vs ds) : RpL K H vs ds := by
  induction h with
  | nil => exact .nil
  | cons a _ ih => exact .cons a ih
def oSortP : D → Option D
  | .list xs => if okS xs = true then some (.list (sortD xs)) else none
  | _ => none
theorem shapedAll : ∀ {ds : List D}, (∀ d ∈ ds, SeqAt.shaped d = true) → PyData.canLayAll0 ds = true
  | [], _ => rfl
  | d :: ds, h => by
    simp only [PyData.canLayAll0]
    rw [SeqAt.canLay_of_shaped (h d List.mem_cons_self), shapedAll fun x hx => h x (List.mem_cons_of_mem _ hx)]; rfl
theorem j_sortP (hm : G.mg "sorted" = none) (ha : J G c π τ a fa) (hg : GlN c "sorted" := by rfl) (hs : ∀ env, starEach [a] env = (false, eval a env) :: starEach [] env := by intro _; rfl) :
    JF G c π (.Call (.Name "sorted" p) [a] [] pos) (f1 oSortP fa) := j_unF (cb1_rule (r := rSortedD G.K) (fun X s => s.opK ▸ cr_sortedD s.units65) hm (by decide +kernel) hg hs (by decide) (by decide)) (fun m ex σ H g v x d Q S rv e q => by
  unfold oSortP at e
  split at e
  · rename_i xs
    split at e
    · rename_i ok
      cases e
      obtain ⟨b, vs, rfl, h1, r1⟩ := rv.lst hid_sub
      have o1 : ∀ d ∈ xs, SeqAt.shaped d = true := fun d hd => by
        have := List.all_eq_true.mp (Bool.and_eq_true_iff.mp ok).1 d hd
        exact (Bool.and_eq_true_iff.mp (Bool.and_eq_true_iff.mp this).1).1
      refine ⟨b, vs, xs, Rp G.K (hid (Hd m ex) H), rfl, SqL.of h1, (r1.mono hid_sub.ext).dp (shapedAll o1), r1.each, ok, fun ys p h3 np => ?_⟩
      exact q p _ (.laid S np) (PoF.ow S np h3.rpl)
    · cases e
  · cases e) ha
/-! ### len of a dict -/
def oLenD : D → Option D
  | .dict ks => if scrD (.dict ks) = true then none else some (.int ks.length)
  | _ => none
end
end EV

set_option Elab.async false
set_option linter.all false
set_option maxRecDepth 100000
/-! EVs: the readings as rewriting rules. -/
namespace EV
open PySem
section
variable {g : Sg} {fa fb fc fe fk : Sf} {fr : Sg → Option (List D × Sg)} {ta tb tc : Tf} {f r f1' : Ss} {d : D} {i j n : Nat} {b : Bd} {o : D → D → Option D} {o1 : D → Option D} {p : D → D → Option Bool}
@[simp] theorem e_fC : fC d g = some (d, g) := rfl
theorem e_fV (h : g[i]? = some (.val d)) : fV i g = some (d, g) := by unfold fV; rw [h]
@[simp] theorem e_fV' : fV i g = match g[i]? with | some (.val d) => some (d, g) | _ => none := rfl
@[simp] theorem e_fR : fR i g = match g[i]? with | some (.val d) => some (d, g) | some (.own _ d) => some (d, g) | _ => none := rfl
@[simp] theorem e_f1 : f1 o1 fa g = (fa g).bind fun p => (o1 p.1).map fun d => (d, p.2) := rfl
@[simp] theorem e_f2 : f2 o fa fb g = (fa g).bind fun p => (fb p.2).bind fun q => (o p.1 q.1).map fun d => (d, q.2) := rfl
@[simp] theorem e_t2 : t2 p fa fb g = (fa g).bind fun x => (fb x.2).bind fun y => (p x.1 y.1).map fun d => (d, y.2) := rfl
@[simp] theorem e_tV : tV fa g = (fa g).bind fun p => (truD p.1).map fun b => (b, p.2) := rfl
@[simp] theorem e_tAnd : tAndD ta tb g = (ta g).bind fun p => if p.1 = true then tb p.2 else some (false, p.2) := rfl
@[simp] theorem e_tOr : tOrD ta tb g = (ta g).bind fun p => if p.1 = true then some (true, p.2) else tb p.2 := rfl
@[simp] theorem e_tNot : tNotD ta g = (ta g).bind fun p => some (!p.1, p.2) := rfl
@[simp] theorem e_fAnd : fAnd fa fb g = (fa g).bind fun p => match p.1 with | .bool true => fb p.2 | .bool false => some (.bool false, p.2) | _ => none := rfl
@[simp] theorem e_fOr : fOr fa fb g = (fa g).bind fun p => match p.1 with | .bool false => fb p.2 | .bool true => some (.bool true, p.2) | _ => none := rfl
@[simp] theorem e_fIf : fIf tc fa fb g = (tc g).bind fun p => if p.1 = true then fa p.2 else fb p.2 := rfl
@[simp] theorem e_tCh {p p' : Int → Int → Bool} : tCh p p' fa fb fc g = (fa g).bind fun x => (fb x.2).bind fun y => match x.1, y.1 with
  | .int i, .int j => if p i j = true then (fc y.2).bind fun z => (match z.1 with
      | .int k => some (p' j k, z.2)
      | _ => none) else some (false, y.2)
  | _, _ => none := rfl
@[simp] theorem e_fCh {p p' : Int → Int → Bool} : fCh p p' fa fb fc g = (tCh p p' fa fb fc g).map fun x => (.bool x.1, x.2) := rfl
@[simp] theorem e_aN : aN g = some ([], g) := rfl
@[simp] theorem e_aC : aC fa fr g = (fa g).bind fun p => (fr p.2).bind fun q => some (p.1 :: q.1, q.2) := rfl
@[simp] theorem e_fTup : fTup fr g = (fr g).bind fun p => if p.1.length ≤ sizeLine then some (.tuple p.1, p.2) else none := rfl
@[simp] theorem e_fLst : fLst fr g = (fr g).bind fun p => if p.1.length ≤ sizeLine then some (.list p.1, p.2) else none := rfl
@[simp] theorem e_fN {op : List D → Option D} : fN op fr g = (fr g).bind fun p => (op p.1).map fun d => (d, p.2) := rfl
@[simp] theorem e_fSl {o : D → Option Int → Option Int → Option D} {fl fh : So} : fSl o fa fl fh g = (fa g).bind fun p => (fl p.2).bind fun l => (fh l.2).bind fun h => (o p.1 l.1 h.1).map fun d => (d, h.2) := rfl
@[simp] theorem e_sN : sN g = some (none, g) := rfl
@[simp] theorem e_sE : sE fa g = (fa g).bind fun p => match p.1 with | .int i => some (some i, p.2) | _ => none := rfl
/-! ops -/
@[simp] theorem o_I {f : Int → Int → Int} {x y : Int} : oI f (.int x) (.int y) = some (.int (f x y)) := rfl
theorem o_Ic' {C : Int → Int → Bool} {f : Int → Int → Int} {x y : Int} : oIc C f (.int x) (.int y) = if C x y = true then some (.int (f x y)) else none := rfl
@[simp] theorem o_Ic {C : Int → Int → Bool} {f : Int → Int → Int} {x y : Int} (h : C x y = true) : oIc C f (.int x) (.int y) = some (.int (f x y)) := by rw [o_Ic', if_pos h]
@[simp] theorem o_P {f : Int → Int → Bool} {x y : Int} : oP f (.int x) (.int y) = some (.bool (f x y)) := rfl
@[simp] theorem o_Pb {f : Int → Int → Bool} {x y : Int} : oPb f (.int x) (.int y) = some (f x y) := rfl
@[simp] theorem o_B {q : D → D → Option Bool} {x y : D} : oB q x y = (q x y).map .bool := rfl
@[simp] theorem o_Neg {x : Int} : oNeg (.int x) = some (.int (-x)) := rfl
@[simp] theorem o_EqI {x y : Int} : oEq (.int x) (.int y) = some (decide (x = y)) := rfl
@[simp] theorem o_NeI {x y : Int} : oNe (.int x) (.int y) = some (!decide (x = y)) := rfl
@[simp] theorem o_IsN {x : D} : oIsN x .none = some (isN x) := rfl
@[simp] theorem o_NotN {x : D} : oNotN x .none = some (!isN x) := rfl
@[simp] theorem isN_none : isN .none = true := rfl
@[simp] theorem isN_int {x : Int} : isN (.int x) = false := rfl
@[simp] theorem isN_tup {x : List D} : isN (.tuple x) = false := rfl
@[simp] theorem isN_lst {x : List D} : isN (.list x) = false := rfl
@[simp] theorem o_Abs {x : Int} : oAbs (.int x) = some (.int (if x < 0 then -x else x)) := rfl
@[simp] theorem o_Int {x : Int} : oInt (.int x) = some (.int x) := rfl
@[simp] theorem o_LenL {x : List D} : oLen (.list x) = some (.int x.length) := rfl
@[simp] theorem o_LenT {x : List D} : oLen (.tuple x) = some (.int x.length) := rfl
@[simp] theorem o_Not {x : D} : oNot x = (truD x).map fun b => .bool (!b) := rfl
@[simp] theorem tru_none : truD .none = some false := rfl
@[simp] theorem tru_bool {x : Bool} : truD (.bool x) = some x := rfl
@[simp] theorem tru_int {x : Int} : truD (.int x) = some (x != 0) := rfl
@[simp] theorem tru_lst {x : List D} : truD (.list x) = some (!x.isEmpty) := rfl
@[simp] theorem tru_tup {x : List D} : truD (.tuple x) = some (!x.isEmpty) := rfl
@[simp] theorem o_IdxL {x : List D} {k : Int} : oIdx (.list x) (.int k) = L2.atI x k := rfl
@[simp] theorem o_IdxT {x : List D} {k : Int} : oIdx (.tuple x) (.int k) = L2.atI x k := rfl
@[simp] theorem o_Max2 {x y : Int} : oMax2 [.int x, .int y] = some (.int (if y > x then y else x)) := rfl
@[simp] theorem o_Min2 {x y : Int} : oMin2 [.int x, .int y] = some (.int (if y < x then y else x)) := rfl
@[simp] theorem o_TupL {x : List D} : oTup (.list x) = some (.tuple x) := rfl
@[simp] theorem o_TupT {x : List D} : oTup (.tuple x) = some (.tuple x) := rfl
@[simp] theorem o_LstT {x : List D} : oLst (.tuple x) = some (.list x) := rfl
@[simp] theorem o_LstL {x : List D} : oLst (.list x) = some (.list x) := rfl
@[simp] theorem o_LI {k : List Int → Option D} {x : List Int} : oLI k (.list (x.map PyData.int)) = k x := by show (intsOf _).bind k = _; rw [intsOf_map]; rfl
@[simp] theorem o_LB {k : List Bool → Bool} {x : List Bool} : oLB k (.list (x.map PyData.bool)) = some (.bool (k x)) := by show (boolsOf _).map _ = _; rw [boolsOf_map]; rfl
theorem o_CatT {x y : List D} (h : x.length + y.length ≤ sizeLine) : oCatT (.tuple x) (.tuple y) = some (.tuple (x ++ y)) := if_pos h
theorem o_CatL {x y : List D} (h : x.length + y.length ≤ sizeLine) : oCatL (.list x) (.list y) = some (.list (x ++ y)) := if_pos h
@[simp] theorem o_SlT {x : List D} {lo hi : Option Int} : oSlT (.tuple x) lo hi = some (.tuple (cutD x lo hi)) := rfl
@[simp] theorem o_SlL {x : List D} {lo hi : Option Int} : oSlL (.list x) lo hi = some (.list (cutD x lo hi)) := rfl
/-! statements -/
@[simp] theorem e_fNx : fNx g = some (.nx g) := rfl
@[simp] theorem e_fSq : fSq f r g = (f g).bind fun o => match o with | .nx g1 => r g1 | o => some o := rfl
@[simp] theorem e_fNo : fNo g = none := rfl
@[simp] theorem e_fBk : fBk g = some (.bk g) := rfl
@[simp] theorem e_fCt : fCt g = some (.ct g) := rfl
@[simp] theorem e_fEx : fEx fa g = (fa g).map fun p => .nx p.2 := rfl
@[simp] theorem e_fRet : fRet fa g = (fa g).map fun p => .rt p.1 p.2 := rfl
@[simp] theorem e_fRetN : fRetN g = some (.rt .none g) := rfl
@[simp] theorem e_frz : frz i f g = match g[i]? with | some (.own _ d) => f (g.set i (.val d)) | _ => none := rfl
@[simp] theorem e_fRetO : fRetO i g = match g[i]? with | some (.own _ d) => some (.rt d (g.set i .emp)) | _ => none := rfl
@[simp] theorem e_fSet : fSet i fa g = (fa g).bind fun p => if i < p.2.length then some (.nx (p.2.set i (.val p.1))) else none := rfl
@[simp] theorem e_fOwn : fOwn i fa g = (fa g).bind fun p => if i < p.2.length then some (.nx (p.2.set i (.own false p.1))) else none := rfl
@[simp] theorem e_fAsg : fAsg fa b g = (fa g).bind fun p => (b p.1 p.2).map .nx := rfl
@[simp] theorem e_fPar : fPar i j fr g = (fr g).bind fun p => match p.1 with | [x, y] => some (.nx ((p.2.set i (.val x)).set j (.val y))) | _ => none := rfl
@[simp] theorem e_fIfS : fIfS tc f r g = (tc g).bind fun p => if p.1 = true then f p.2 else r p.2 := rfl
@[simp] theorem e_bN : bN i d g = if i < g.length then some (g.set i (.val d)) else none := rfl
@[simp] theorem e_bsN : bsN [] g = some g := rfl
@[simp] theorem e_bsC {rs : List D → Sg → Option Sg} {ds : List D} : bsC b rs (d :: ds) g = (b d g).bind (rs ds) := rfl
@[simp] theorem e_bT {rs : List D → Sg → Option Sg} {ds : List D} : bT rs (.tuple ds) g = rs ds g := rfl
@[simp] theorem e_bLen {rs : List D → Sg → Option Sg} {ds : List D} : bLen n rs ds g = if ds.length = n then rs ds g else none := rfl
@[simp] theorem e_own : ownAt g i = match g[i]? with | some (.own p d) => some (p, d) | _ => none := rfl
@[simp] theorem e_fApp : fApp i fa g = match ownAt g i with
  | some (_, .list _) => (fa g).bind fun p => match ownAt p.2 i with
    | some (q, .list ds) => if ds.length < sizeLine then some (.nx (p.2.set i (.own q (.list (ds ++ [p.1]))))) else none
    | _ => none
  | _ => none := rfl
@[simp] theorem e_fAug : fAug o i fa g = match g[i]? with
  | some (.val d) => (fa g).bind fun p => (o d p.1).bind fun z => if i < p.2.length then some (.nx (p.2.set i (.val z))) else none
  | _ => none := rfl
@[simp] theorem e_fPut : fPut i fk fe g = (fe g).bind fun p => match ownAt p.2 i with
  | some (_, .list _) => (fk p.2).bind fun r => match ownAt r.2 i, r.1 with
    | some (q, .list ds), .int k => (L2.ixN ds.length k).map fun j => .nx (r.2.set i (.own q (.list (ds.set j p.1))))
    | _, _ => none
  | _ => none := rfl
/-! calls -/
@[simp] theorem e_bNil : bNil g = some ([], g) := rfl
@[simp] theorem e_bCons {fr : Sg → Option (List Ag × Sg)} : bCons fa fr g = (fa g).bind fun p => (fr p.2).map fun q => (.v p.1 :: q.1, q.2) := rfl
@[simp] theorem e_bRef {fr : Sg → Option (List Ag × Sg)} : bRef i fr g = (ownAt g i).bind fun _ => (fr g).map fun q => (.r i :: q.1, q.2) := rfl
theorem e_fCall {F : Fs} {fr : Sg → Option (List Ag × Sg)} : fCall F [] fr g = (fr g).bind fun p => if (refsOf p.1).Nodup then (slotsOf p.2 p.1).bind fun ss => (F ss).bind fun r => (backS r.2 0 p.1 p.2).map fun g2 => (r.1, g2) else none := by
  unfold fCall
  cases fr g with
  | none => rfl
  | some y => simp only [Option.bind_some, List.map_nil, List.append_nil]
@[simp] theorem e_refs0 : refsOf [] = [] := rfl
@[simp] theorem e_refsv {as : List Ag} : refsOf (.v d :: as) = refsOf as := rfl
@[simp] theorem e_refsr {as : List Ag} : refsOf (.r i :: as) = i :: refsOf as := rfl
@[simp] theorem e_slots0 : slotsOf g [] = some [] := rfl
@[simp] theorem e_slotsv {as : List Ag} : slotsOf g (.v d :: as) = (slotsOf g as).map (.val d :: ·) := rfl
@[simp] theorem e_slotsr {as : List Ag} : slotsOf g (.r i :: as) = ((ownAt g i).map fun p => Slot.own true p.2).bind fun s => (slotsOf g as).map (s :: ·) := rfl
@[simp] theorem e_back0 {gc : Sg} {k : Nat} : backS gc k [] g = some g := rfl
@[simp] theorem e_backv {gc : Sg} {k : Nat} {as : List Ag} : backS gc k (.v d :: as) g = backS gc (k + 1) as g := rfl
@[simp] theorem e_backr {gc : Sg} {k : Nat} {as : List Ag} : backS gc k (.r i :: as) g = (ownAt gc k).bind fun p => (ownAt g i).bind fun q => backS gc (k + 1) as (g.set i (.own q.1 p.2)) := rfl
@[simp] theorem e_fnF {pn : List Nat} {ρ : Bool} {l : Nat} {fb : Ss} {ss : List Slot} : fnF pn ρ l fb ss = if pinsOk pn 0 ss = true then (fb (ss ++ List.replicate l .emp)).bind (fun o => match o with
  | .rt d g => some (d, g)
  | .nx g => if ρ = true then none else some (.none, g)
  | _ => none) else none := rfl
@[simp] theorem e_pin0 {pn : List Nat} {k : Nat} : pinsOk pn k [] = true := rfl
@[simp] theorem e_pinv {pn : List Nat} {k : Nat} {ss : List Slot} : pinsOk pn k (.val d :: ss) = pinsOk pn (k + 1) ss := rfl
@[simp] theorem e_pino {pn : List Nat} {k : Nat} {ss : List Slot} {p : Bool} : pinsOk pn k (.own p d :: ss) = (pn.contains k && pinsOk pn (k + 1) ss) := rfl
/-! loops, comprehensions -/
@[simp] theorem e_iSeq : iSeq fa g = (fa g).bind fun p => match p.1 with | .list xs => some (xs, p.2) | .tuple xs => some (xs, p.2) | _ => none := rfl
@[simp] theorem e_iEnm : iEnm fa g = (fa g).bind fun p => (seqD p.1).map fun xs => (enmD xs, p.2) := rfl
@[simp] theorem e_seqL {x : List D} : seqD (.list x) = some x := rfl
@[simp] theorem e_seqT {x : List D} : seqD (.tuple x) = some x := rfl
@[simp] theorem e_fFor {it : Si} : fFor it b f g = (it g).bind fun p => forGo b f p.1 p.2 := rfl
@[simp] theorem e_fLc {it : Si} {tt : Tf} {vs : List Nat} : fLc it b tt fe vs g = (it g).bind fun p => if noOwn p.2 vs = true then (lcGo b tt fe vs p.1 (wipeG p.2 vs)).bind fun r => if r.1.length ≤ sizeLine then some (.list r.1, backG p.2 r.2 vs) else none else none := rfl
@[simp] theorem e_tY : tY g = some (true, g) := rfl
end
end EV

set_option Elab.async false
set_option linter.all false
set_option maxRecDepth 100000
/-! EVr: readings of lists by their index; comprehensions, loops and calls as equations. -/
namespace EV
open PySem
def R (n : Nat) (h : Nat → D) : List D := (List.range n).map h
section
variable {n k : Nat} {f g h : Nat → D}
@[simp] theorem R_len : (R n h).length = n := by simp [R]
theorem R_get (hk : k < n) : (R n h)[k]? = some (h k) := by simp [R, hk]
theorem atI_R (hk : k < n) : L2.atI (R n h) (k : Int) = some (h k) := L2.atI_nat (R_get hk)
theorem atI_R' {i : Int} (h0 : 0 ≤ i) (hk : i.toNat < n) : L2.atI (R n h) i = some (h i.toNat) := by
  have := atI_R (h := h) hk
  rwa [Int.toNat_of_nonneg h0] at this
theorem R_ext {xs : List D} (hl : xs.length = n) (hh : ∀ i, i < n → xs[i]? = some (h i)) : xs = R n h := by
  refine List.ext_getElem? fun i => ?_
  by_cases hi : i < n
  · rw [hh i hi, R_get hi]
  · rw [List.getElem?_eq_none (by omega), List.getElem?_eq_none (by rw [R_len]; omega)]
theorem R_zip : zipD (R n f) (R n g) = R n fun i => .tuple [f i, g i] := R_ext (by simp [zipD]) fun i hi => by
  unfold zipD
  have := (List.getElem?_zip_eq_some (l₁ := R n f) (l₂ := R n g) (i := i) (z := (f i, g i))).mpr ⟨R_get hi, R_get hi⟩
  rw [List.getElem?_map, this]
  rfl
theorem R_zip2 {m : Nat} : zipD (R n f) (R m g) = R (min n m) fun i => .tuple [f i, g i] := R_ext (by simp [zipD]) fun i hi => by
  unfold zipD
  have := (List.getElem?_zip_eq_some (l₁ := R n f) (l₂ := R m g) (i := i) (z := (f i, g i))).mpr ⟨R_get (by omega), R_get (by omega)⟩
  rw [List.getElem?_map, this]
  rfl
theorem R_enm : enmD (R n f) = R n fun i => .tuple [.int i, f i] := R_ext (by simp [enmD]) fun i hi => by
  rw [enmD_get (R_get hi)]
theorem R_ints {f : Nat → Int} : intsOf (R n fun i => .int (f i)) = some ((List.range n).map f) := by
  have : (R n fun i => PyData.int (f i)) = ((List.range n).map f).map PyData.int := by simp [R]
  rw [this]; exact intsOf_map _
theorem R_bools {f : Nat → Bool} : boolsOf (R n fun i => .bool (f i)) = some ((List.range n).map f) := by
  have : (R n fun i => PyData.bool (f i)) = ((List.range n).map f).map PyData.bool := by simp [R]
  rw [this]; exact boolsOf_map _
theorem R_succ : R (n + 1) h = R n h ++ [h n] := by simp [R, List.range_succ]
@[simp] theorem R_zero : R 0 h = [] := rfl
theorem R_congr (e : ∀ i, i < n → f i = g i) : R n f = R n g := List.map_congr_left fun i hi => e i (List.mem_range.mp hi)
@[simp] theorem rng_R {lo : Int} : rngD lo 1 n = R n fun i => .int (lo + i) := by unfold rngD R; simp
@[simp] theorem R_isEmpty : (R n h).isEmpty = (n == 0) := by cases n <;> simp [R_succ]
end
theorem R_take {n k : Nat} {f : Nat → D} (h : k ≤ n) : (R n f).take k = R k f := by
  refine R_ext (by simp; omega) fun i hi => ?_
  rw [List.getElem?_take, if_pos hi, R_get (by omega)]
theorem R_drop {n k : Nat} {f : Nat → D} : (R n f).drop k = R (n - k) fun i => f (k + i) := by
  refine R_ext (by simp) fun i hi => ?_
  rw [List.getElem?_drop, R_get (by omega)]
theorem R_cut {n : Nat} {f : Nat → D} {lo hi : Option Int} {a b : Nat} (ha : HT.sIx n 0 lo = a) (hb : HT.sIx n n hi = b) (hn : b ≤ n) : cutD (R n f) lo hi = R (b - a) fun i => f (a + i) := by
  unfold cutD
  rw [R_len, ha, hb, R_drop, R_take (by omega)]
theorem sIx_m1 {n d : Nat} : HT.sIx n d (some (-1)) = n - 1 := by
  show (if (-1 : Int) < 0 then ((-1 : Int) + (n : Int)).toNat else min (-1 : Int).toNat n) = _
  rw [if_pos (by omega)]; omega
@[simp] theorem oLB_R {n : Nat} {f : Nat → Bool} {k : List Bool → Bool} : oLB k (.list (R n fun i => .bool (f i))) = some (.bool (k ((List.range n).map f))) := by
  show (boolsOf _).map _ = _
  rw [R_bools]; rfl
@[simp] theorem oLI_R {n : Nat} {f : Nat → Int} {k : List Int → Option D} : oLI k (.list (R n fun i => .int (f i))) = k ((List.range n).map f) := by
  show (intsOf _).bind k = _
  rw [R_ints]; rfl
/-! ### comprehensions -/
def trn (b : Bd) (tt : Tf) (te : Sf) (vs : List Nat) (d : D) (w : Sg) : Option (Option D × Sg) := (b d w).bind fun g1 => (tt g1).bind fun p => if p.1 = true then (te p.2).map fun q => (some q.1, wipeG q.2 vs) else some (none, wipeG p.2 vs)
section
variable {b : Bd} {tt : Tf} {te : Sf} {vs : List Nat} {w g : Sg} {n : Nat} {h : Nat → D} {it : Si}
theorem lcGo_eq {e : D → Option D} : ∀ {ds : List D}, (∀ d ∈ ds, trn b tt te vs d w = some (e d, w)) → lcGo b tt te vs ds w = some (ds.filterMap e, w)
  | [], _ => rfl
  | d :: ds, H => by
    have h1 := H d List.mem_cons_self
    have h2 := lcGo_eq (ds := ds) fun x hx => H x (List.mem_cons_of_mem _ hx)
    unfold trn at h1
    unfold lcGo
    cases e1 : b d w with
    | none => rw [e1] at h1; cases h1
    | some g1 =>
      simp only [e1, Option.bind_some] at h1 ⊢
      cases e2 : tt g1 with
      | none => rw [e2] at h1; cases h1
      | some p =>
        simp only [e2, Option.bind_some] at h1 ⊢
        by_cases hp : p.1 = true
        · rw [if_pos hp] at h1 ⊢
          cases e3 : te p.2 with
          | none => rw [e3] at h1; cases h1
          | some q =>
            simp only [e3, Option.map_some, Option.bind_some] at h1 ⊢
            injection h1 with h1
            injection h1 with h3 h4
            rw [h4, h2]
            simp [← h3]
        · rw [if_neg hp] at h1 ⊢
          injection h1 with h1
          injection h1 with h3 h4
          rw [h4, h2]
          simp [← h3]
theorem fLc_eq {ds : List D} {e : D → Option D} (hit : it g = some (ds, g)) (hno : noOwn g vs = true) (hn : ds.length ≤ sizeLine) (H : ∀ d ∈ ds, trn b tt te vs d (wipeG g vs) = some (e d, wipeG g vs)) :
    fLc it b tt te vs g = some (.list (ds.filterMap e), g) := by
  unfold fLc
  rw [hit]
  simp only [Option.bind_some, hno, if_true, lcGo_eq H]
  rw [if_pos (Nat.le_trans (List.length_filterMap_le _ _) hn), backG_self]
theorem lcGo_R {e : Nat → Option D} (H : ∀ i, i < n → trn b tt te vs (h i) w = some (e i, w)) : lcGo b tt te vs (R n h) w = some ((List.range n).filterMap e, w) := by
  have : ∀ (xs : List Nat), (∀ i ∈ xs, i < n) → lcGo b tt te vs (xs.map h) w = some (xs.filterMap e, w) := by
    intro xs
    induction xs with
    | nil => intro _; rfl
    | cons x xs ih =>
      intro hx
      have i2 := ih fun i hi => hx i (List.mem_cons_of_mem _ hi)
      have h1 := H x (hx x List.mem_cons_self)
      rw [List.map_cons]
      unfold trn at h1
      unfold lcGo
      cases e1 : b (h x) w with
      | none => rw [e1] at h1; cases h1
      | some g1 =>
        simp only [e1, Option.bind_some] at h1 ⊢
        cases e2 : tt g1 with
        | none => rw [e2] at h1; cases h1
        | some p =>
          simp only [e2, Option.bind_some] at h1 ⊢
          by_cases hp : p.1 = true
          · rw [if_pos hp] at h1 ⊢
            cases e3 : te p.2 with
            | none => rw [e3] at h1; cases h1
            | some q =>
              simp only [e3, Option.map_some, Option.bind_some] at h1 ⊢
              injection h1 with h1
              injection h1 with h3 h4
              rw [h4, i2]
              simp [← h3]
          · rw [if_neg hp] at h1 ⊢
            injection h1 with h1
            injection h1 with h3 h4
            rw [h4, i2]
            simp [← h3]
  exact this _ fun i hi => List.mem_range.mp hi
theorem lcGo_map {f : Nat → D} (H : ∀ i, i < n → trn b tt te vs (h i) w = some (some (f i), w)) : lcGo b tt te vs (R n h) w = some (R n f, w) := by
  rw [lcGo_R (e := fun i => some (f i)) H]
  simp [R]
theorem fLc_R {e : Nat → Option D} (hit : it g = some (R n h, g)) (hno : noOwn g vs = true) (hn : n ≤ sizeLine) (H : ∀ i, i < n → trn b tt te vs (h i) (wipeG g vs) = some (e i, wipeG g vs)) :
    fLc it b tt te vs g = some (.list ((List.range n).filterMap e), g) := by
  unfold fLc
  rw [hit]
  simp only [Option.bind_some, hno, if_true]
  rw [lcGo_R H]
  simp only [Option.bind_some]
  rw [if_pos, backG_self]
  refine Nat.le_trans (List.length_filterMap_le _ _) ?_
  rw [List.length_range]; exact hn
/-- each gives one -/
theorem fLc_map {f : Nat → D} (hit : it g = some (R n h, g)) (hno : noOwn g vs = true) (hn : n ≤ sizeLine) (H : ∀ i, i < n → trn b tt te vs (h i) (wipeG g vs) = some (some (f i), wipeG g vs)) :
    fLc it b tt te vs g = some (.list (R n f), g) := by
  rw [fLc_R (e := fun i => some (f i)) hit hno hn H]
  simp [R]
theorem fLc_flt {p : Nat → Bool} {f : Nat → D} (hit : it g = some (R n h, g)) (hno : noOwn g vs = true) (hn : n ≤ sizeLine) (H : ∀ i, i < n → trn b tt te vs (h i) (wipeG g vs) = some (if p i = true then some (f i) else none, wipeG g vs)) :
    fLc it b tt te vs g = some (.list (((List.range n).filter p).map f), g) := by
  rw [fLc_R (e := fun i => if p i = true then some (f i) else none) hit hno hn H]
  congr 3
  induction List.range n with
  | nil => rfl
  | cons x xs ih =>
    by_cases hx : p x = true
    · simp [List.filterMap_cons, List.filter_cons, hx, ih]
    · simp [List.filterMap_cons, List.filter_cons, hx, ih]
/-- none gives any -/
theorem fLc_no (hit : it g = some (R n h, g)) (hno : noOwn g vs = true) (hn : n ≤ sizeLine) (H : ∀ i, i < n → trn b tt te vs (h i) (wipeG g vs) = some (none, wipeG g vs)) :
    fLc it b tt te vs g = some (.list [], g) := by
  rw [fLc_R (e := fun i => none) hit hno hn H]
  simp
end
/-! ### loops -/
section
variable {b : Bd} {f : Ss} {g : Sg} {n : Nat} {h : Nat → D}
theorem forGo_ind (P : Nat → Sg → Prop) (H : ∀ i g, i < n → P i g → ∃ g', ((b (h i) g).bind f) = some (.nx g') ∧ P (i + 1) g') (h0 : P 0 g) : ∃ g', forGo b f (R n h) g = some (.nx g') ∧ P n g' := by
  have : ∀ (k i : Nat) (g : Sg), i + k = n → P i g → ∃ g', forGo b f ((List.range' i k).map h) g = some (.nx g') ∧ P n g' := by
    intro k
    induction k with
    | zero => intro i g e p; exact ⟨g, rfl, by have : i = n := by omega
                                               rwa [this] at p⟩
    | succ k ih =>
      intro i g e p
      obtain ⟨g1, e1, p1⟩ := H i g (by omega) p
      obtain ⟨g2, e2, p2⟩ := ih (i + 1) g1 (by omega) p1
      refine ⟨g2, ?_, p2⟩
      rw [List.range'_succ, List.map_cons]
      unfold forGo
      cases eb : b (h i) g with
      | none => rw [eb] at e1; cases e1
      | some gb =>
        rw [eb] at e1
        simp only [Option.bind_some] at e1 ⊢
        rw [e1]
        exact e2
  have := this n 0 g (by omega) h0
  rwa [← List.range_eq_range'] at this
/-- a turn that may end all by a return -/
theorem forGo_ret (P : Nat → Sg → Prop) (T : Out → Prop) (H : ∀ i g, i < n → P i g → (∃ g', ((b (h i) g).bind f) = some (.nx g') ∧ P (i + 1) g') ∨ ∃ d g', ((b (h i) g).bind f) = some (.rt d g') ∧ T (.rt d g')) (hn : ∀ g, P n g → T (.nx g)) (h0 : P 0 g) : ∃ o, forGo b f (R n h) g = some o ∧ T o := by
  have : ∀ (k i : Nat) (g : Sg), i + k = n → P i g → ∃ o, forGo b f ((List.range' i k).map h) g = some o ∧ T o := by
    intro k
    induction k with
    | zero => intro i g e p; exact ⟨.nx g, rfl, hn g (by have : i = n := by omega
                                                         rwa [this] at p)⟩
    | succ k ih =>
      intro i g e p
      rw [List.range'_succ, List.map_cons]
      unfold forGo
      rcases H i g (by omega) p with ⟨g1, e1, p1⟩ | ⟨d, g1, e1, t1⟩
      · obtain ⟨o, e2, p2⟩ := ih (i + 1) g1 (by omega) p1
        refine ⟨o, ?_, p2⟩
        cases eb : b (h i) g with
        | none => rw [eb] at e1; cases e1
        | some gb =>
          rw [eb] at e1
          simp only [Option.bind_some] at e1 ⊢
          rw [e1]
          exact e2
      · refine ⟨_, ?_, t1⟩
        cases eb : b (h i) g with
        | none => rw [eb] at e1; cases e1
        | some gb =>
          rw [eb] at e1
          simp only [Option.bind_some] at e1 ⊢
          rw [e1]
          rfl
  have := this n 0 g (by omega) h0
  rwa [← List.range_eq_range'] at this
theorem fSq_nx {f r : Ss} {g g1 : Sg} {o : Option Out} (h1 : f g = some (.nx g1)) (h2 : r g1 = o) : fSq f r g = o := by
  unfold fSq; rw [h1]; exact h2
theorem fSq_rt {f r : Ss} {g g1 : Sg} {d : D} (h1 : f g = some (.rt d g1)) : fSq f r g = some (.rt d g1) := by
  unfold fSq; rw [h1]; rfl
theorem fIf_no {tc : Tf} {f : Ss} {g g1 : Sg} (h : tc g = some (false, g1)) : fIfS tc f fNx g = some (.nx g1) := by
  unfold fIfS; rw [h]; rfl
end
theorem forGo_lst {xs : List D} (P : List D → Sg → Prop) (H : ∀ pre d g, d ∈ xs → P pre g → ∃ g', ((b d g).bind f) = some (.nx g') ∧ P (pre ++ [d]) g') (h0 : P [] g) : ∃ g', forGo b f xs g = some (.nx g') ∧ P xs g' := by
  have : ∀ (ys pre : List D) (g : Sg), pre ++ ys = xs → P pre g → ∃ g', forGo b f ys g = some (.nx g') ∧ P xs g' := by
    intro ys
    induction ys with
    | nil => intro pre g e p; exact ⟨g, rfl, by rw [List.append_nil] at e; rwa [← e]⟩
    | cons y ys ih =>
      intro pre g e p
      obtain ⟨g1, e1, p1⟩ := H pre y g (by rw [← e]; simp) p
      obtain ⟨g2, e2, p2⟩ := ih (pre ++ [y]) g1 (by rw [← e]; simp) p1
      refine ⟨g2, ?_, p2⟩
      unfold forGo
      cases eb : b y g with
      | none => rw [eb] at e1; cases e1
      | some gb =>
        rw [eb] at e1
        simp only [Option.bind_some] at e1 ⊢
        rw [e1]
        exact e2
  exact this xs [] g rfl h0
theorem whl_until {tc : Tf} {fuel : Nat} (P : Nat → Sg → Prop) (Q : Sg → Prop) (k : Nat) (H : ∀ r g, r < k → P r g → ∃ g1, tc g = some (true, g1) ∧ ∃ g2, f g1 = some (.nx g2) ∧ P (r + 1) g2) (hk : ∀ g, P k g → ∃ g1, tc g = some (false, g1) ∧ Q g1) (hf : k < fuel) (h0 : P 0 g) : ∃ g', whl tc f fuel g = some (.nx g') ∧ Q g' := by
  have : ∀ (d r fuel : Nat) (g : Sg), r + d = k → d < fuel → P r g → ∃ g', whl tc f fuel g = some (.nx g') ∧ Q g' := by
    intro d
    induction d with
    | zero =>
      intro r fuel g e hf p
      have e' : r = k := by omega
      rw [e'] at p
      obtain ⟨g1, h1, h2⟩ := hk g p
      cases fuel with
      | zero => omega
      | succ fuel =>
        refine ⟨g1, ?_, h2⟩
        unfold whl
        rw [h1]; rfl
    | succ d ih =>
      intro r fuel g e hf p
      obtain ⟨g1, h1, g2, h2, h3⟩ := H r g (by omega) p
      cases fuel with
      | zero => omega
      | succ fuel =>
        obtain ⟨g3, h4, h5⟩ := ih (r + 1) fuel g2 (by omega) (by omega) h3
        refine ⟨g3, ?_, h5⟩
        unfold whl
        rw [h1]
        simp only [Option.bind_some, if_true, h2]
        exact h4
  exact this k 0 fuel g (by omega) hf h0
theorem log2_64 {n : Nat} (h : n < 2 ^ 64) : n.log2 < 64 := by
  by_cases h0 : n = 0
  · rw [h0]; decide
  · exact (Nat.log2_lt h0).mpr h
theorem cMul_ok {i j : Int} (h1 : i.natAbs < 2 ^ 64) (h2 : j.natAbs < 2 ^ 64) : cMul i j = true := by
  have a := log2_64 h1
  have b := log2_64 h2
  unfold cMul
  exact decide_eq_true (by omega)
theorem R_set {n k : Nat} {h : Nat → D} {v : D} : (R n h).set k v = R n fun i => if i = k then v else h i := by
  refine R_ext (by simp) fun i hi => ?_
  rw [List.getElem?_set]
  by_cases e : k = i
  · rw [if_pos e, if_pos (by rw [R_len]; omega), if_pos e.symm]
  · rw [if_neg e, R_get hi, if_neg (Ne.symm e)]
theorem R_rep {n : Nat} {v : D} : repD n [v] = R n fun _ => v := by
  refine R_ext ?_ fun i hi => ?_
  · unfold repD; simp
  · unfold repD
    have : (List.replicate n [v]).flatten = List.replicate n v := by
      clear hi
      induction n with
      | zero => rfl
      | succ n ih => rw [List.replicate_succ, List.flatten_cons, ih]; rfl
    rw [this, List.getElem?_replicate, if_pos hi]
/-! ### calls by value -/
def vF (F : Fs) (ss : List Slot) : Option D := (F ss).map (·.1)
theorem vF_some {F : Fs} {ss : List Slot} {d : D} (h : vF F ss = some d) : ∃ g', F ss = some (d, g') := by
  unfold vF at h
  cases e : F ss with
  | none => rw [e] at h; cases h
  | some r => rw [e] at h; cases h; exact ⟨r.2, rfl⟩
theorem e_vF {pn : List Nat} {ρ : Bool} {l : Nat} {fb : Ss} {ss : List Slot} : vF (fnF pn ρ l fb) ss = if pinsOk pn 0 ss = true then (fb (ss ++ List.replicate l .emp)).bind (fun o => match o with
  | .rt d _ => some d
  | .nx _ => if ρ = true then none else some .none
  | _ => none) else none := by
  unfold vF
  rw [e_fnF]
  split
  · cases fb (ss ++ List.replicate l .emp) with
    | none => rfl
    | some o =>
      cases o with
      | nx g => cases ρ <;> rfl
      | rt d g => rfl
      | bk g => rfl
      | ct g => rfl
  · rfl
section
variable {F : Fs} {fa fb fc fd fe : Sf} {g : Sg}
theorem call_aux {as : List D} {g : Sg} {k : Nat} {gc : Sg} : refsOf (as.map Ag.v) = [] ∧ slotsOf g (as.map Ag.v) = some (as.map Slot.val) ∧ backS gc k (as.map Ag.v) g = some g := by
  induction as generalizing k with
  | nil => exact ⟨rfl, rfl, rfl⟩
  | cons a as ih => exact ⟨(ih (k := 0)).1, by rw [List.map_cons, e_slotsv, (ih (k := 0)).2.1]; rfl, (ih (k := k + 1)).2.2⟩
theorem call_v {fr : Sg → Option (List Ag × Sg)} {as : List D} {g1 : Sg} (h : fr g = some (as.map Ag.v, g1)) : fCall F [] fr g = (vF F (as.map Slot.val)).map fun d => (d, g1) := by
  unfold fCall vF
  obtain ⟨h1, h2, h3⟩ := call_aux (as := as) (g := g1) (k := 0) (gc := [])
  simp only [h, Option.bind_some, h1, List.nodup_nil, if_true, List.map_nil, List.append_nil, h2]
  cases F (as.map Slot.val) with
  | none => rfl
  | some r => simp only [Option.bind_some, Option.map_some, (call_aux (as := as) (g := g1) (k := 0) (gc := r.2)).2.2]
theorem e_call1 : fCall F [] (bCons fa bNil) g = (fa g).bind fun p => (vF F [.val p.1]).map fun d => (d, p.2) := by
  cases h1 : fa g with
  | none => unfold fCall; rw [e_bCons, h1]; rfl
  | some p => exact call_v (as := [p.1]) (by rw [e_bCons, h1]; rfl)
theorem e_call2 : fCall F [] (bCons fa (bCons fb bNil)) g = (fa g).bind fun p => (fb p.2).bind fun q => (vF F [.val p.1, .val q.1]).map fun d => (d, q.2) := by
  cases h1 : fa g with
  | none => unfold fCall; rw [e_bCons, h1]; rfl
  | some p =>
    cases h2 : fb p.2 with
    | none => unfold fCall; simp only [e_bCons, h1, h2, Option.bind_some]; rfl
    | some q => rw [Option.bind_some, h2]; exact call_v (as := [p.1, q.1]) (by simp only [e_bCons, h1, h2, Option.bind_some]; rfl)
theorem e_call3 : fCall F [] (bCons fa (bCons fb (bCons fc bNil))) g = (fa g).bind fun p => (fb p.2).bind fun q => (fc q.2).bind fun r => (vF F [.val p.1, .val q.1, .val r.1]).map fun d => (d, r.2) := by
  cases h1 : fa g with
  | none => unfold fCall; rw [e_bCons, h1]; rfl
  | some p =>
    cases h2 : fb p.2 with
    | none => unfold fCall; simp only [e_bCons, h1, h2, Option.bind_some]; rfl
    | some q =>
      cases h3 : fc q.2 with
      | none => unfold fCall; simp only [e_bCons, h1, h2, h3, Option.bind_some]; rfl
      | some r => simp only [Option.bind_some, h2, h3]; exact call_v (as := [p.1, q.1, r.1]) (by simp only [e_bCons, h1, h2, h3, Option.bind_some]; rfl)
theorem e_call4 : fCall F [] (bCons fa (bCons fb (bCons fc (bCons fd bNil)))) g = (fa g).bind fun p => (fb p.2).bind fun q => (fc q.2).bind fun r => (fd r.2).bind fun t => (vF F [.val p.1, .val q.1, .val r.1, .val t.1]).map fun d => (d, t.2) := by
  cases h1 : fa g with
  | none => unfold fCall; rw [e_bCons, h1]; rfl
  | some p =>
    cases h2 : fb p.2 with
    | none => unfold fCall; simp only [e_bCons, h1, h2, Option.bind_some]; rfl
    | some q =>
      cases h3 : fc q.2 with
      | none => unfold fCall; simp only [e_bCons, h1, h2, h3, Option.bind_some]; rfl
      | some r =>
        cases h4 : fd r.2 with
        | none => unfold fCall; simp only [e_bCons, h1, h2, h3, h4, Option.bind_some]; rfl
        | some t => simp only [Option.bind_some, h2, h3, h4]; exact call_v (as := [p.1, q.1, r.1, t.1]) (by simp only [e_bCons, h1, h2, h3, h4, Option.bind_some]; rfl)
theorem e_call5 : fCall F [] (bCons fa (bCons fb (bCons fc (bCons fd (bCons fe bNil))))) g = (fa g).bind fun p => (fb p.2).bind fun q => (fc q.2).bind fun r => (fd r.2).bind fun t => (fe t.2).bind fun u => (vF F [.val p.1, .val q.1, .val r.1, .val t.1, .val u.1]).map fun d => (d, u.2) := by
  cases h1 : fa g with
  | none => unfold fCall; rw [e_bCons, h1]; rfl
  | some p =>
    cases h2 : fb p.2 with
    | none => unfold fCall; simp only [e_bCons, h1, h2, Option.bind_some]; rfl
    | some q =>
      cases h3 : fc q.2 with
      | none => unfold fCall; simp only [e_bCons, h1, h2, h3, Option.bind_some]; rfl
      | some r =>
        cases h4 : fd r.2 with
        | none => unfold fCall; simp only [e_bCons, h1, h2, h3, h4, Option.bind_some]; rfl
        | some t =>
          cases h5 : fe t.2 with
          | none => unfold fCall; simp only [e_bCons, h1, h2, h3, h4, h5, Option.bind_some]; rfl
          | some u => simp only [Option.bind_some, h2, h3, h4, h5]; exact call_v (as := [p.1, q.1, r.1, t.1, u.1]) (by simp only [e_bCons, h1, h2, h3, h4, h5, Option.bind_some]; rfl)
end
/-! ### dicts of ints -/
theorem or_dec {p q r : Prop} [Decidable p] [Decidable q] [Decidable r] (h : r ↔ p ∨ q) : (decide p || decide q) = decide r := by
  by_cases hp : p
  · rw [decide_eq_true hp, decide_eq_true (h.mpr (.inl hp))]; rfl
  · rw [decide_eq_false hp, Bool.false_or]
    exact decide_eq_decide.mpr ⟨fun z => h.mpr (.inr z), fun z => (h.mp z).resolve_left hp⟩
theorem dPut_int {ns : List Int} {x : Int} {v : D} : dPut (ns.map fun y => (.int y, v)) (.inl x) v = (if x ∈ ns then ns else ns ++ [x]).map fun y => (PyData.int y, v) := by
  unfold dPut
  have e : ((ns.map fun y => (PyData.int y, v)).any fun kv => decide (keyOf kv.1 = some (Sum.inl x))) = decide (x ∈ ns) := by
    induction ns with
    | nil => rfl
    | cons n ns ih =>
      rw [List.map_cons, List.any_cons, ih]
      have : decide (keyOf (PyData.int n) = some (Sum.inl x)) = decide (n = x) := by
        apply decide_eq_decide.mpr
        show some (Sum.inl n) = some (Sum.inl x) ↔ n = x
        simp
      rw [this]
      exact or_dec (by rw [List.mem_cons]; exact ⟨fun h => h.imp Eq.symm _root_.id, fun h => h.imp Eq.symm _root_.id⟩)
  rw [e]
  by_cases h : x ∈ ns
  · rw [if_pos (decide_eq_true h), if_pos h, List.map_map]
    refine List.map_congr_left fun y _ => ?_
    show (if keyOf (PyData.int y) = some (Sum.inl x) then (PyData.int y, v) else (PyData.int y, v)) = _
    split <;> rfl
  · rw [if_neg (by simp [h]), if_neg h, List.map_append]
    rfl
theorem dcGo_int {b : Bd} {tt : Tf} {tk tv : Sf} {vs : List Nat} {w : Sg} {v : D} : ∀ {xs : List Int}, (∀ x ∈ xs, ∃ g1 g2 g3 g4, b (.int x) w = some g1 ∧ tt g1 = some (true, g2) ∧ tk g2 = some (.int x, g3) ∧ tv g3 = some (v, g4) ∧ wipeG g4 vs = w) →
    ∀ ns : List Int, ns.length + xs.length ≤ sizeLine → ∃ ns' : List Int, dcGo b tt tk tv vs (xs.map PyData.int) (ns.map fun y => (PyData.int y, v)) w = some (ns'.map fun y => (PyData.int y, v), w) ∧ ns'.length ≤ ns.length + xs.length ∧ ∀ y, y ∈ ns' ↔ y ∈ ns ∨ y ∈ xs
  | [], _, ns, _ => ⟨ns, rfl, Nat.le_refl _, fun y => by simp⟩
  | x :: xs, H, ns, hl => by
    obtain ⟨g1, g2, g3, g4, h1, h2, h3, h4, h5⟩ := H x List.mem_cons_self
    rw [List.length_cons] at hl
    have hlen : (if x ∈ ns then ns else ns ++ [x]).length ≤ ns.length + 1 := by split <;> simp
    obtain ⟨ns', e1, e2, e3⟩ := dcGo_int (xs := xs) (fun y hy => H y (List.mem_cons_of_mem _ hy)) (if x ∈ ns then ns else ns ++ [x]) (by omega)
    refine ⟨ns', ?_, by rw [List.length_cons]; omega, fun y => ?_⟩
    · rw [List.map_cons]
      unfold dcGo
      simp only [h1, h2, h3, h4, Option.bind_some, if_true, h5, show keyOf (PyData.int x) = some (Sum.inl x) from rfl]
      rw [if_pos (by rw [List.length_map]; omega), dPut_int]
      exact e1
    · rw [e3, List.mem_cons]
      by_cases hx : x ∈ ns
      · rw [if_pos hx]
        exact ⟨fun h => h.elim .inl fun h => .inr (.inr h), fun h => h.elim .inl fun h => h.elim (fun h => .inl (h ▸ hx)) .inr⟩
      · rw [if_neg hx, List.mem_append, List.mem_singleton]
        exact ⟨fun h => h.elim (fun h => h.elim .inl fun h => .inr (.inl h)) fun h => .inr (.inr h), fun h => h.elim (fun h => .inl (.inl h)) fun h => h.elim (fun h => .inl (.inr h)) .inr⟩
/-! ### more readings -/
section
variable {g : Sg} {fa fb : Sf} {fr : Sg → Option (List D × Sg)}
@[simp] theorem e_iRng1 : iRng1 fr g = (fr g).bind fun p => match p.1 with | [.int j] => if okB j = true then some (rngD 0 1 j.toNat, p.2) else none | _ => none := rfl
@[simp] theorem e_iZp : iZp fr g = (fr g).bind fun p => match p.1 with
  | [x, y] => (seqD x).bind fun xs => (seqD y).map fun ys => (zipD xs ys, p.2)
  | _ => none := by first | rfl | (unfold iZp; rfl)
@[simp] theorem o_Isi {T : String} {x : D} : oIsi T x = if scrD x = true then none else some (.bool (isiB T x)) := rfl
@[simp] theorem tY_g : tY g = some (true, g) := rfl
@[simp] theorem e_iRng2 : iRng2 fr g = (fr g).bind fun p => match p.1 with | [.int i, .int j] => if okB i = true ∧ okB j = true then some (rngD i 1 (j - i).toNat, p.2) else none | _ => none := rfl
theorem okB_of {i : Int} (h1 : -1000000 ≤ i) (h2 : i ≤ 1000000) : okB i = true := by
  unfold okB
  exact decide_eq_true (by omega)
end
end EV

set_option Elab.async false
set_option linter.all false
set_option maxRecDepth 100000
/-! EVt: == and repr of tuples of ints. -/
namespace EV
open PySem
theorem shaped_tupI (ns : List Int) : SeqAt.shaped (.tuple (ns.map PyData.int)) = true := by
  have h1 := PySem.W.depthAll_ints ns
  have h2 : PyData.depth (.tuple (ns.map PyData.int)) ≤ 64 := by simp only [PyData.depth]; omega
  show (PyData.canLay0 (.tuple (ns.map PyData.int)) && decide (PyData.depth (.tuple (ns.map PyData.int)) ≤ 64)) = true
  rw [Bool.and_eq_true]
  exact ⟨by simp only [PyData.canLay0]; exact PySem.W.canLayAll0_ints ns, decide_eq_true h2⟩
theorem shaped_R {n : Nat} {f : Nat → Int} : SeqAt.shaped (.tuple (R n fun i => .int (f i))) = true := by
  have : (R n fun i => PyData.int (f i)) = ((List.range n).map f).map PyData.int := by simp [R]
  rw [this]; exact shaped_tupI _
theorem eqv_same {d : D} (h : SeqAt.shaped d = true) : PyData.eqv d d = true := SeqAt.eqv_refl d (SeqAt.canLay_of_shaped h)
theorem oNeD_same {n : Nat} {f : Nat → Int} : oNeD (.tuple (R n fun i => .int (f i))) (.tuple (R n fun i => .int (f i))) = some false := by
  unfold oNeD
  rw [if_pos ⟨shaped_R, shaped_R⟩, eqv_same shaped_R]; rfl
theorem oEqD_same {n : Nat} {f : Nat → Int} : oEqD (.tuple (R n fun i => .int (f i))) (.tuple (R n fun i => .int (f i))) = some true := by
  unfold oEqD
  rw [if_pos ⟨shaped_R, shaped_R⟩, eqv_same shaped_R]
theorem piled_ints {k : Nat} : ∀ {ns : List Int}, (∀ x ∈ ns, x.natAbs < 10 ^ (k + 1)) → piled (PyData.shownAll (ns.map PyData.int)) ≤ ns.length * (k + 4)
  | [], _ => by rw [show PyData.shownAll (([] : List Int).map PyData.int) = [] from rfl, piled_nil]; exact Nat.zero_le _
  | n :: r, h => by
    have h1 := piled_ints (ns := r) fun x hx => h x (List.mem_cons_of_mem _ hx)
    have h2 := int_text_length_le10 (k := k + 1) (Nat.succ_pos k) (h n List.mem_cons_self)
    rw [List.map_cons, show PyData.shownAll (PyData.int n :: r.map PyData.int) = Str.ofString (toString n) :: PyData.shownAll (r.map PyData.int) from rfl, piled_cons, ofString_length, List.length_cons, Nat.add_mul]
    omega
theorem tupleText_le (ts : List Str) : (tupleText ts).length ≤ piled ts + 3 := by
  unfold tupleText
  rw [strLen_append, strLen_append]
  have h1 : ((if ts.length == 1 then ",)" else ")" : String) : Str).length ≤ 2 := by split <;> decide
  have h2 : (("(" : String) : Str).length = 1 := rfl
  by_cases h : ts = []
  · subst h
    have : (Str.join ", " ([] : List Str)).length = 0 := rfl
    rw [this, h2]; omega
  · have := join_length_add ts h
    rw [h2]; omega
theorem showable_ints {ns : List Int} (h : ∀ x ∈ ns, x.natAbs.log2 < 1920) : PyData.showableAll (ns.map PyData.int) = true := by
  induction ns with
  | nil => rfl
  | cons n r ih =>
    rw [List.map_cons]
    simp only [PyData.showableAll, PyData.showable]
    rw [ih fun x hx => h x (List.mem_cons_of_mem _ hx), decide_eq_true (h n List.mem_cons_self)]; rfl
theorem oRepr_R {n : Nat} {f : Nat → Int} (hn : n ≤ 1000) (h : ∀ i, i < n → (f i).natAbs < 10 ^ 10) : ∃ x, oRepr (.tuple (R n fun i => .int (f i))) = some (.str x) := by
  have e : (R n fun i => PyData.int (f i)) = ((List.range n).map f).map PyData.int := by simp [R]
  have hb : ∀ x ∈ (List.range n).map f, x.natAbs < 10 ^ (9 + 1) := fun x hx => by
    obtain ⟨i, hi, rfl⟩ := List.mem_map.mp hx
    exact h i (List.mem_range.mp hi)
  have h1 := piled_ints hb
  have h2 := tupleText_le (PyData.shownAll (((List.range n).map f).map PyData.int))
  rw [List.length_map, List.length_range] at h1
  refine ⟨PyData.shown (.tuple (R n fun i => .int (f i))), ?_⟩
  unfold oRepr
  rw [if_pos]
  refine ⟨shaped_R, ?_, ?_⟩
  · rw [e]
    exact showable_ints fun x hx => Nat.lt_of_lt_of_le (log2_64 (Nat.lt_of_lt_of_le (hb x hx) (by decide))) (by decide)
  · rw [e]
    show (tupleText (PyData.shownAll (((List.range n).map f).map PyData.int))).length ≤ sizeLine
    rw [sizeLine_eq]; omega
end EV

set_option Elab.async false
set_option linter.all false
set_option maxRecDepth 100000
/-! EVh: from what the top has written to the promises. -/
namespace EV
open PySem PySem.Spec L2
theorem mk_df {P : Program} {w : World} {K : PySem.W.Frag} {base h : Heap} {mg : Str → Option Value} {x : Str} {st : Stmt} {ps : List Str} (X : K.In h) (Gn : h.Ns mainGlobals mg) {f : Addr} {od an : Option Addr} {sl : Array (Option Value)} {oc kV dc pm cd ct : Value}
    (a : PySem.W.nsIn K mainGlobals x = some (some (.ref f))) (l : K.lookup f = some ⟨oc, od, .func (PySem.W.fnOf x x (defArgs st) (defBody st) (defScope st) .none kV dc pm an cd ct), sl⟩) (c : PySem.W.codeIn K cd x = true) (k : PySem.W.keepIn K (.ref f) = true)
    (b : ∀ (kV doc pm : Value) (an : Option Addr) (cdv ct : Value) (us : List Value), us.length = ps.length → bindArgs (PySem.W.fnOf x x (defArgs st) (defBody st) (defScope st) .none kV doc pm an cdv ct) ⟨us, []⟩ = pure (ps.zip us)) : Df ⟨P, w, K, mg, base⟩ x st ps :=
  ⟨f, _, ⟨oc, od, kV, dc, pm, an, cd, ct, sl, rfl, l, c⟩, PySem.W.mg_of X Gn a, k, .all (b kV dc pm an cd ct)⟩
theorem with_df {C : Prop} {P : Program} {w : World} {K : PySem.W.Frag} {h : Heap} {mg : Str → Option Value} (x : Str) (st : Stmt) (ps : List Str) (X : K.In h) (Gn : h.Ns mainGlobals mg) {f : Addr} {od an : Option Addr} {sl : Array (Option Value)} {oc kV dc pm cd ct : Value}
    (a : PySem.W.nsIn K mainGlobals x = some (some (.ref f))) (l : K.lookup f = some ⟨oc, od, .func (PySem.W.fnOf x x (defArgs st) (defBody st) (defScope st) .none kV dc pm an cd ct), sl⟩) (c : PySem.W.codeIn K cd x = true) (k : PySem.W.keepIn K (.ref f) = true)
    (b : ∀ (kV doc pm : Value) (an : Option Addr) (cdv ct : Value) (us : List Value), us.length = ps.length → bindArgs (PySem.W.fnOf x x (defArgs st) (defBody st) (defScope st) .none kV doc pm an cdv ct) ⟨us, []⟩ = pure (ps.zip us)) (h : (∀ base, Df ⟨P, w, K, mg, base⟩ x st ps) → C) : C :=
  h fun base => mk_df X Gn a l c k b
theorem with_none {C : Prop} {K : PySem.W.Frag} {h : Heap} {mg : Str → Option Value} (x : Str) (X : K.In h) (Gn : h.Ns mainGlobals mg) (a : PySem.W.nsIn K mainGlobals x = some none) (h : mg x = none → C) : C := h (PySem.W.mg_none_of X Gn a)
theorem with_int {C : Prop} {P : Program} {w : World} {K : PySem.W.Frag} {h : Heap} {mg : Str → Option Value} {t : Tok} (x : Str) (i : Int) (X : K.In h) (Gn : h.Ns mainGlobals mg) (a : PySem.W.nsIn K mainGlobals x = some (some (.int i t))) (h : (∀ base, Kon ⟨P, w, K, mg, base⟩ x (.int i)) → C) : C :=
  h fun base => konI (PySem.W.mg_of X Gn a)
theorem with_pair {C : Prop} {P : Program} {w : World} {K : PySem.W.Frag} {h : Heap} {mg : Str → Option Value} {f : Addr} {od : Option Addr} {sl : Array (Option Value)} {t1 t2 : Tok} {n : Nat} (x : Str) (i j : Int) (X : K.In h) (Gn : h.Ns mainGlobals mg) (a : PySem.W.nsIn K mainGlobals x = some (some (.ref f))) (l : K.lookup f = some ⟨.type "tuple", od, .seq #[.int i t1, .int j t2] n, sl⟩) (h : (∀ base, Kon ⟨P, w, K, mg, base⟩ x (.tuple [.int i, .int j])) → C) : C :=
  h fun base => ⟨_, .ref f, PySem.W.mg_of X Gn a, rfl, fun H => Rp.tup (vs := [.int i, .int j]) (.inr ⟨_, #[.int i t1, .int j t2], n, l, rfl, rfl, by show 2 ≤ sizeLine; rw [sizeLine_eq]; omega, .cons ⟨t1, rfl⟩ (.cons ⟨t2, rfl⟩ .nil)⟩) (.cons (.int i) (.cons (.int j) .nil))⟩
theorem with_str {C : Prop} {P : Program} {w : World} {K : PySem.W.Frag} {h : Heap} {mg : Str → Option Value} {t : Tok} (x : Str) (i : Str) (X : K.In h) (Gn : h.Ns mainGlobals mg) (a : PySem.W.nsIn K mainGlobals x = some (some (.str i t))) (h : (∀ base, Kon ⟨P, w, K, mg, base⟩ x (.str i)) → C) : C :=
  h fun base => ⟨_, .str i, PySem.W.mg_of X Gn a, ⟨t, rfl⟩, fun H => .str i⟩
theorem mk_law {l : PySem.W.OpenLaw} {w : World} {K : PySem.W.Frag} {h : Heap} {mg : Str → Option Value} {fa : Addr} {st : Stmt} {N : List Str} {k : Nat} {fb : Ss} (X : K.In h) (Gn : h.Ns mainGlobals mg) (hfa : mg "law" = some (.ref fa)) {f : Addr} {od an : Option Addr} {sl : Array (Option Value)} {oc kV dc pm cd ct : Value}
    (a : PySem.W.nsIn K mainGlobals "law" = some (some (.ref f))) (lk : K.lookup f = some ⟨oc, od, .func (PySem.W.fnOf "law" "law" (defArgs st) (defBody st) (defScope st) .none kV dc pm an cd ct), sl⟩) (c : PySem.W.codeIn K cd "law" = true)
    (S : FnScope N ["script"] (defScope st)) (body : ∀ base, JSs ⟨l.prog, w, K, mg, base⟩ ⟨N, defScope st, fun _ => true, k⟩ [] false (defBody st) fb)
    (b : ∀ (s : Shared) (u : Value), BindsTo s (PySem.W.fnOf "law" "law" (defArgs st) (defBody st) (defScope st) .none kV dc pm an cd ct) ⟨[u], []⟩ [("script", u)]) :
    ∃ fd : FuncData, (∀ (s : Shared) (u : Value), BindsTo s fd ⟨[u], []⟩ [("script", u)]) ∧ ∀ base : Heap, K.In base → base.Ns mainGlobals mg → FnG ⟨l.prog, w, K, mg, base⟩ (k + 1) fa fd ["script"] (spD K false 1 (fnF [] false (N.length - 1) fb)) := by
  have e := hfa.symm.trans (PySem.W.mg_of X Gn a)
  cases e
  exact ⟨_, b, fun base _ _ => FnG.of (G := ⟨l.prog, w, K, mg, base⟩) (ps := ["script"]) ⟨oc, od, kV, dc, pm, an, cd, ct, sl, rfl, lk, c⟩ S (body base)⟩
end EV

set_option Elab.async false
set_option linter.all false
set_option maxRecDepth 100000
/-! EVi: two names at once of which the second takes an own list; a display of a dict, own. -/
namespace EV
open PySem PySem.Spec L2
section
variable {G : Gb} {c : Sx} {pn : List Nat} {ρ : Bool} {pos : Pos} {π π1 π2 : Bool} {fa fb : Sf}
def fParO (i j : Nat) (fa fb : Sf) : Ss := fun g => (fa g).bind fun p => (fb p.2).bind fun q => if j < q.2.length then some (.nx ((q.2.set j (.own false q.1)).set i (.val p.1))) else none
theorem js_parO (i j : Nat) {x y : Str} {a b : Expr} {px py pt : Pos} {kt k2 pt2} (ha : J G c π1 true a fa) (hb : JF G c π2 b fb) (hi : c.N[i]? = some x := by rfl) (hj : c.N[j]? = some y := by rfl) (hij : i ≠ j := by decide)
    (hx : c.sc.names.lookup x = some .local := by rfl) (hy : c.sc.names.lookup y = some .local := by rfl) (hp : i ∉ pn ∧ j ∉ pn := by decide)
    (hsa : ∀ env, starEach [a, b] env = (false, eval a env) :: starEach [b] env := by intro _; rfl) (hsb : ∀ env, starEach [b] env = (false, eval b env) :: starEach [] env := by intro _; rfl)
    (hw : ∀ env : Env, env.scope = c.sc → swappedStores [.Tuple [.Name x px, .Name y py] kt pt] (.Tuple [a, b] k2 pt2) env = pure (some [x, y]) := by rintro ⟨⟩ rfl; rfl)
    (hs : ∀ env, swapsWithSole [.Tuple [.Name x px, .Name y py] kt pt] (.Tuple [a, b] k2 pt2) pos.line env = pure false := by intro _; rfl) :
    JS G c pn ρ (.Assign [.Tuple [.Name x px, .Name y py] kt pt] (.Tuple [a, b] k2 pt2) pos) (fParO i j fa fb) := fun X s =>
  ps_weak (ps_par s.calm (by rw [s.N]; exact s.nd) (by rw [s.N]; exact hi) (by rw [s.N]; exact hj) hij (by rw [s.sc]; exact hx) (by rw [s.sc]; exact hy) (pa_cons (ha X s) (pa_cons (hb X s) pa_nil (hsb _)) (hsa _)) (hw _ s.sc) (hs _)) fun D σ H ⟨m, ex, g, o, S, e, q⟩ => by
    unfold fParO at e
    cases h1 : fa g with
    | none => rw [h1] at e; cases e
    | some y =>
      simp only [h1, Option.bind_some] at e
      cases h2 : fb y.2 with
      | none => rw [h2] at e; cases e
      | some z =>
        simp only [h2, Option.bind_some] at e
        split at e
        · rename_i hlen
          cases e
          refine ⟨m, ex, g, y.1, y.2, S, h1, fun v H1 p1 r1 => ⟨m, ex, y.2, z.1, z.2, p1.sr, h2, fun p H2 p2 w2 => ⟨_, _, rfl, ?_⟩⟩⟩
          have t1 := StP.seto (pn := pn) (i := j) p1.sr p2 w2 hlen hp.2
          have gr : Grow (hid (Hd m ex) H1) (hid (Hd (fun k => if k = j then some p else m k) ex) H2) := hid_grow (fun b u e z => Classical.byContradiction fun n => t1.hd' n e z) fun b u n e => t1.vis b u n e
          have t2 := StP.set (pn := pn) (i := i) t1.sr (r1.strong.mono gr.ext) hp.1
          have es : (σ.set j (some (V.ref p))).set i (some v) = (σ.set i (some v)).set j (some (V.ref p)) := List.set_comm _ _ (Ne.symm hij)
          rw [es] at t2
          exact q _ _ _ (((StP.po p1).trans t1).trans t2)
        · cases e
theorem jf_dispC {keys : List (Option Expr)} {vals : List Expr} {kvs : List (Key × V)} {ks : List (D × D)} {pd : Pos} (h : Pls keys vals kvs ks)
    (hk : mergeK [] kvs = kvs := by rfl) (hall : keys.all (·.isSome) = true := by rfl) (hl : keys.length = vals.length := by rfl) (h0 : keys ≠ [] := by simp) (h15 : keys.length ≤ 15 := by decide) (h15' : kvs.length ≤ 15 := by decide) :
    JF G c true (.Dict keys vals pd) (fC (.dict ks)) := fun X s =>
  pe_weak (pe_disp h.pps hall hl h0 h15) fun σ H Q ⟨m, ex, g, d, g', S, e, q⟩ => by
    cases e
    refine fun p np => pls_pairs ⟨upd_same, kvs, rfl, h15', ?_⟩
    rw [hk, upd_upd]
    exact q p _ (.laid S np) (.dic upd_same h.rp)
end
end EV

set_option Elab.async false
set_option linter.all false
set_option maxRecDepth 100000
set_option maxHeartbeats 4000000
/-! EVj: a tuple once, and no times. -/
namespace L2
open PySem PySem.Spec PyProof.Rows
theorem tuple_mul1 (l : Addr) (items : Array Value) (n : Nat) (dd : Option Addr) (sl : Array (Option Value)) (u : Tok) :
    Meets (Builtin.«tuple.__mul__» ⟨[.ref l, .int 1 u], []⟩) (fun _ R s => s.heap.get? l = some { cls := .type "tuple", dict := dd, data := .seq items n, slots := sl } ∧
      R (.ok (.ret (Value.ref l))) s) :=
  .of_wp fun prog w A R s h => by
    obtain ⟨hp, g, d, tk, os⟩ := s
    obtain ⟨hl, h⟩ := h
    have f1 := AutoSeq1.idx_int
    have c1 : (items.isEmpty || ((1 : Int) == 1)) = true := by rw [Bool.or_eq_true]; exact .inr rfl
    wp_walk using wpAny_loadPart' hl
    repeat (first
      | (refine wpAny_ite_true (decide_eq_true c1) ?_; wp_walk using wpAny_loadPart' hl))
    exact ⟨_, rfl, h⟩
theorem tuple_mul0 (l : Addr) (items : Array Value) (n : Nat) (dd : Option Addr) (sl : Array (Option Value)) (x : Int) (u : Tok) (c0 : (decide (x < -(2 ^ 63)) || decide (x ≥ 2 ^ 63)) = false) (c1 : (items.isEmpty || x == 1) = false) (c2 : (decide (x ≤ 0) || items.isEmpty) = true) :
    Meets (Builtin.«tuple.__mul__» ⟨[.ref l, .int x u], []⟩) (fun _ R s => s.heap.get? l = some { cls := .type "tuple", dict := dd, data := .seq items n, slots := sl } ∧
      R (.ok (.ret (Value.ref s.heap.objs.size))) { s with heap := s.heap.push { cls := Value.type "tuple", data := Data.seq #[] }, toks := s.toks }) :=
  .of_wp fun prog w A R s h => by
    obtain ⟨hp, g, d, tk, os⟩ := s
    obtain ⟨hl, h⟩ := h
    have f1 := AutoSeq1.idx_int
    wp_walk using wpAny_loadPart' hl
    repeat (first
      | (refine wpAny_ite_false (decide_eq_false (by rw [c0]; exact Bool.false_ne_true)) ?_; wp_walk using wpAny_loadPart' hl)
      | (refine wpAny_ite_false (decide_eq_false (by rw [c1]; exact Bool.false_ne_true)) ?_; wp_walk using wpAny_loadPart' hl)
      | (refine wpAny_ite_true (decide_eq_true c2) ?_; wp_walk using wpAny_loadPart' hl))
    exact ⟨_, rfl, h⟩
/-- once: itself; no times: () -/
def rRepT1 (K : PySem.W.Frag) : R2 := fun x y H Q => ∃ l k xs, x = .ref l ∧ y = .int k ∧ SqT K H l xs ∧ xs ≠ [] ∧ ((k = 1 ∧ Q (.ref l) H) ∨ (k ≤ 0 ∧ -1000 ≤ k ∧ ∀ p, H p = none → Q (.ref p) (upd H p (.tup []))))
section
variable {X : Cx}
theorem op_repT1 : OpR X (binaryOp .Mult) (rRepT1 X.K) := by
  intro pins s σ H x y v u Q I rx ry h
  obtain ⟨l, k, xs, rfl, rfl, hT, hne, h⟩ := h
  cases rx
  obtain ⟨t, rfl⟩ := ry
  obtain ⟨its, r, ⟨⟨cls, dd, data, sl⟩, ho, hc, n, hd⟩, hs⟩ := I.tuple hT
  simp only at hc hd
  subst hc hd
  have hle : its.length = xs.length := r.length.symm
  have hn : its ≠ [] := fun e => hne (by
    rw [e] at hle
    exact List.eq_nil_of_length_eq_zero hle.symm)
  have hi : its.toArray.isEmpty = false := by
    cases its with
    | nil => exact absurd rfl hn
    | cons a b => rfl
  rcases h with ⟨rfl, q⟩ | ⟨k0, k1, q⟩
  · refine wpAny_binaryOp_repeat_ref (T := "tuple") (U := "int") (by decide) ⟨_, ho, rfl⟩ (fun s' => typeIs_int s' 1 t) noFill_tuple_mul F.fills_int_mul F.slot_int_rmul repeat_tuple F.slot_int_index.lookup
      (call_meets F.slot_int_rmul (typeIs_int s 1 t) F.entry_int_rmul (F.args_int_rmul_2 _ _) (int_rmul_tuple 1 t l its.toArray n dd sl)
        ⟨ho, rfl, ⟨_, ho, rfl⟩, call_meets F.slot_tuple_mul ⟨_, ho, rfl⟩ F.entry_tuple_mul (F.args_tuple_mul_2 _ _) (tuple_mul1 l its.toArray n dd sl t) ⟨ho, ?_⟩⟩)
    exact ⟨.ref l, H, I, rfl, q⟩
  · have c0 : (decide (k < -(2 ^ 63)) || decide (k ≥ 2 ^ 63)) = false := by
      rw [decide_eq_false (by omega), decide_eq_false (by omega)] <;> rfl
    have c1 : (its.toArray.isEmpty || k == 1) = false := by
      rw [hi, Bool.false_or]
      exact beq_eq_false_iff_ne.mpr (by omega)
    have c2 : (decide (k ≤ 0) || its.toArray.isEmpty) = true := by
      rw [hi, Bool.or_false]
      exact decide_eq_true k0
    refine wpAny_binaryOp_repeat_ref (T := "tuple") (U := "int") (by decide) ⟨_, ho, rfl⟩ (fun s' => typeIs_int s' k t) noFill_tuple_mul F.fills_int_mul F.slot_int_rmul repeat_tuple F.slot_int_index.lookup
      (call_meets F.slot_int_rmul (typeIs_int s k t) F.entry_int_rmul (F.args_int_rmul_2 _ _) (int_rmul_tuple k t l its.toArray n dd sl)
        ⟨ho, rfl, ⟨_, ho, rfl⟩, call_meets F.slot_tuple_mul ⟨_, ho, rfl⟩ F.entry_tuple_mul (F.args_tuple_mul_2 _ _) (tuple_mul0 l its.toArray n dd sl k t c0 c1 c2) ⟨ho, ?_⟩⟩)
    refine ⟨.ref s.heap.objs.size, _, I.laid (t' := s.toks) (o := .tup []) (fun b ob q => Heap.get?_push_of_some _ q) (Nat.le_refl _) ?_, rfl, q _ (I.hok.fresh (Nat.le_refl _))⟩
    exact ⟨by rw [sizeLine_eq]; exact Nat.zero_le _, _, .nil, IsTup.new _ _⟩
end
end L2
namespace EV
open PySem PySem.Spec L2
section
variable {G : Gb} {c : Sx} {pos p : Pos} {π1 π2 τ τ2 : Bool} {a b e : Expr} {fa fb : Sf}
/-- a tuple so many times, 0 and 1 as well -/
def oRepU : D → D → Option D
  | .tuple xs, .int k => if 0 < xs.length ∧ 0 ≤ k ∧ k ≤ 1000 ∧ xs.length ≤ 1000 then some (.tuple (repD k.toNat xs)) else none
  | _, _ => none
theorem j_repU (ha : J G c π1 true a fa) (hb : J G c π2 τ2 b fb) : J G c (π1 && π2) true (.BinOp a .Mult b pos) (f2 oRepU fa fb) := j_op (fun X s => s.opK ▸ opr_or op_repT op_repT1) (fun m ex σ H g v w x y d Q S rv rw' e q => by
  unfold oRepU at e
  split at e
  · rename_i xs k
    split at e
    · rename_i h
      cases e
      obtain ⟨a, vs, rfl, h1, r1⟩ := rv.tup hid_sub
      have l1 := r1.length
      have ne : vs ≠ [] := by
        intro z
        rw [z] at l1
        have := h.1
        rw [← l1] at this
        exact absurd this (by decide)
      by_cases k2 : 2 ≤ k
      · exact .inl ⟨a, k, vs, rfl, rw'.int, h1, ne, k2, h.2.2.1, by omega, fun p np => q _ _ (.new S np) (rp_new_tup S np (r1.rep _))⟩
      · refine .inr ⟨a, k, vs, rfl, rw'.int, h1, ne, ?_⟩
        by_cases k1 : k = 1
        · refine .inl ⟨k1, ?_⟩
          have e1 : repD k.toNat xs = xs := by rw [k1]; unfold repD; simp
          rw [e1] at q
          rcases rv with r | ⟨_, a', _, w⟩
          · exact q _ _ (.refl S) r
          · cases w
        · refine .inr ⟨by omega, by omega, fun p np => ?_⟩
          have e1 : repD k.toNat xs = [] := by rw [show k.toNat = 0 by omega]; rfl
          rw [e1] at q
          exact q _ _ (.new S np) (rp_new_tup S np .nil)
    · cases e
  · cases e) ha hb
end
end EV

set_option Elab.async false
set_option linter.all false
set_option maxRecDepth 100000
/-! EVu: readings of lists by their own items; calls of more arguments; small ones. -/
namespace EV
open PySem
theorem z_size {k : Nat} (h : k ≤ 1000) : k ≤ sizeLine := by rw [sizeLine_eq]; omega
section
variable {α : Type} {b : Bd} {tt : Tf} {te : Sf} {vs : List Nat} {w g : Sg} {it : Si} {f : Ss}
theorem lcGo_l {e : α → Option D} (enc : α → D) : ∀ {xs : List α}, (∀ a ∈ xs, trn b tt te vs (enc a) w = some (e a, w)) → lcGo b tt te vs (xs.map enc) w = some (xs.filterMap e, w)
  | [], _ => rfl
  | x :: xs, H => by
    have i2 := lcGo_l enc (xs := xs) fun a ha => H a (List.mem_cons_of_mem _ ha)
    have h1 := H x List.mem_cons_self
    rw [List.map_cons]
    unfold trn at h1
    unfold lcGo
    cases e1 : b (enc x) w with
    | none => rw [e1] at h1; cases h1
    | some g1 =>
      simp only [e1, Option.bind_some] at h1 ⊢
      cases e2 : tt g1 with
      | none => rw [e2] at h1; cases h1
      | some p =>
        simp only [e2, Option.bind_some] at h1 ⊢
        by_cases hp : p.1 = true
        · rw [if_pos hp] at h1 ⊢
          cases e3 : te p.2 with
          | none => rw [e3] at h1; cases h1
          | some q =>
            simp only [e3, Option.map_some, Option.bind_some] at h1 ⊢
            injection h1 with h1
            injection h1 with h3 h4
            rw [h4, i2]
            simp [← h3]
        · rw [if_neg hp] at h1 ⊢
          injection h1 with h1
          injection h1 with h3 h4
          rw [h4, i2]
          simp [← h3]
theorem fLc_l {e : α → D} (enc : α → D) {xs : List α} (hit : it g = some (xs.map enc, g)) (hno : noOwn g vs = true) (hn : xs.length ≤ sizeLine) (H : ∀ a ∈ xs, trn b tt te vs (enc a) (wipeG g vs) = some (some (e a), wipeG g vs)) :
    fLc it b tt te vs g = some (.list (xs.map e), g) := by
  unfold fLc
  rw [hit]
  simp only [Option.bind_some, hno, if_true]
  rw [lcGo_l (e := fun a => some (e a)) enc H]
  simp only [Option.bind_some]
  have ef : xs.filterMap (fun a => some (e a)) = xs.map e := by simp
  rw [ef, if_pos (by rw [List.length_map]; exact hn), backG_self]
theorem forGo_l (enc : α → D) {xs : List α} (P : List α → Sg → Prop) (H : ∀ pre a post g, pre ++ a :: post = xs → P pre g → ∃ g', ((b (enc a) g).bind f) = some (.nx g') ∧ P (pre ++ [a]) g') (h0 : P [] g) : ∃ g', forGo b f (xs.map enc) g = some (.nx g') ∧ P xs g' := by
  have : ∀ (ys pre : List α) (g : Sg), pre ++ ys = xs → P pre g → ∃ g', forGo b f (ys.map enc) g = some (.nx g') ∧ P xs g' := by
    intro ys
    induction ys with
    | nil => intro pre g e p; exact ⟨g, rfl, by rw [List.append_nil] at e; rwa [← e]⟩
    | cons y ys ih =>
      intro pre g e p
      obtain ⟨g1, e1, p1⟩ := H pre y ys g e p
      obtain ⟨g2, e2, p2⟩ := ih (pre ++ [y]) g1 (by rw [← e]; simp) p1
      refine ⟨g2, ?_, p2⟩
      rw [List.map_cons]
      unfold forGo
      cases eb : b (enc y) g with
      | none => rw [eb] at e1; cases e1
      | some gb =>
        rw [eb] at e1
        simp only [Option.bind_some] at e1 ⊢
        rw [e1]
        exact e2
  exact this xs [] g rfl h0
end
section
variable {F : Fs} {g : Sg} {fa fb fc fd fe ff fh : Sf}
theorem e_call6 : fCall F [] (bCons fa (bCons fb (bCons fc (bCons fd (bCons fe (bCons ff bNil)))))) g = (fa g).bind fun p => (fb p.2).bind fun q => (fc q.2).bind fun r => (fd r.2).bind fun t => (fe t.2).bind fun u => (ff u.2).bind fun v => (vF F [.val p.1, .val q.1, .val r.1, .val t.1, .val u.1, .val v.1]).map fun d => (d, v.2) := by
  cases h1 : fa g with
  | none => unfold fCall; rw [e_bCons, h1]; rfl
  | some p =>
    cases h2 : fb p.2 with
    | none => unfold fCall; simp only [e_bCons, h1, h2, Option.bind_some]; rfl
    | some q =>
      cases h3 : fc q.2 with
      | none => unfold fCall; simp only [e_bCons, h1, h2, h3, Option.bind_some]; rfl
      | some r =>
        cases h4 : fd r.2 with
        | none => unfold fCall; simp only [e_bCons, h1, h2, h3, h4, Option.bind_some]; rfl
        | some t =>
          cases h5 : fe t.2 with
          | none => unfold fCall; simp only [e_bCons, h1, h2, h3, h4, h5, Option.bind_some]; rfl
          | some u =>
            cases h6 : ff u.2 with
            | none => unfold fCall; simp only [e_bCons, h1, h2, h3, h4, h5, h6, Option.bind_some]; rfl
            | some v => simp only [Option.bind_some, h2, h3, h4, h5, h6]; exact call_v (as := [p.1, q.1, r.1, t.1, u.1, v.1]) (by simp only [e_bCons, h1, h2, h3, h4, h5, h6, Option.bind_some]; rfl)
theorem e_call7 : fCall F [] (bCons fa (bCons fb (bCons fc (bCons fd (bCons fe (bCons ff (bCons fh bNil))))))) g = (fa g).bind fun p => (fb p.2).bind fun q => (fc q.2).bind fun r => (fd r.2).bind fun t => (fe t.2).bind fun u => (ff u.2).bind fun v => (fh v.2).bind fun w => (vF F [.val p.1, .val q.1, .val r.1, .val t.1, .val u.1, .val v.1, .val w.1]).map fun d => (d, w.2) := by
  cases h1 : fa g with
  | none => unfold fCall; rw [e_bCons, h1]; rfl
  | some p =>
    cases h2 : fb p.2 with
    | none => unfold fCall; simp only [e_bCons, h1, h2, Option.bind_some]; rfl
    | some q =>
      cases h3 : fc q.2 with
      | none => unfold fCall; simp only [e_bCons, h1, h2, h3, Option.bind_some]; rfl
      | some r =>
        cases h4 : fd r.2 with
        | none => unfold fCall; simp only [e_bCons, h1, h2, h3, h4, Option.bind_some]; rfl
        | some t =>
          cases h5 : fe t.2 with
          | none => unfold fCall; simp only [e_bCons, h1, h2, h3, h4, h5, Option.bind_some]; rfl
          | some u =>
            cases h6 : ff u.2 with
            | none => unfold fCall; simp only [e_bCons, h1, h2, h3, h4, h5, h6, Option.bind_some]; rfl
            | some v =>
              cases h7 : fh v.2 with
              | none => unfold fCall; simp only [e_bCons, h1, h2, h3, h4, h5, h6, h7, Option.bind_some]; rfl
              | some w => simp only [Option.bind_some, h2, h3, h4, h5, h6, h7]; exact call_v (as := [p.1, q.1, r.1, t.1, u.1, v.1, w.1]) (by simp only [e_bCons, h1, h2, h3, h4, h5, h6, h7, Option.bind_some]; rfl)
end
/-- a comprehension whose turns change the slots -/
theorem lcGo_ind {b : Bd} {te : Sf} {vs : List Nat} {n : Nat} {h : Nat → D} {g : Sg} (P : Nat → List D → Sg → Prop) (H : ∀ i ds g, i < n → P i ds g → ∃ d g', ((b (h i) g).bind te) = some (d, g') ∧ P (i + 1) (ds ++ [d]) (wipeG g' vs)) (h0 : P 0 [] g) : ∃ ds g', lcGo b tY te vs (R n h) g = some (ds, g') ∧ P n ds g' := by
  have : ∀ (k i : Nat) (pre : List D) (g : Sg), i + k = n → P i pre g → ∃ ds g', lcGo b tY te vs ((List.range' i k).map h) g = some (ds, g') ∧ P n (pre ++ ds) g' := by
    intro k
    induction k with
    | zero =>
      intro i pre g e p
      have e' : i = n := by omega
      rw [e'] at p
      exact ⟨[], g, rfl, by rwa [List.append_nil]⟩
    | succ k ih =>
      intro i pre g e p
      obtain ⟨d, g1, e1, p1⟩ := H i pre g (by omega) p
      obtain ⟨ds, g2, e2, p2⟩ := ih (i + 1) (pre ++ [d]) (wipeG g1 vs) (by omega) p1
      refine ⟨d :: ds, g2, ?_, by rw [List.append_assoc] at p2; exact p2⟩
      rw [List.range'_succ, List.map_cons]
      unfold lcGo
      cases eb : b (h i) g with
      | none => rw [eb] at e1; cases e1
      | some gb =>
        rw [eb] at e1
        simp only [Option.bind_some] at e1 ⊢
        rw [tY_g]
        simp only [Option.bind_some, if_true]
        rw [e1]
        simp only [Option.bind_some, e2]
  obtain ⟨ds, g', e, p⟩ := this n 0 [] g (by omega) h0
  rw [← List.range_eq_range'] at e
  exact ⟨ds, g', e, p⟩

theorem fLc_lf {α : Type} {b : Bd} {tt : Tf} {te : Sf} {vs : List Nat} {g : Sg} {it : Si} {p : α → Bool} {e : α → D} (enc : α → D) {xs : List α} (hit : it g = some (xs.map enc, g)) (hno : noOwn g vs = true) (hn : xs.length ≤ sizeLine) (H : ∀ a ∈ xs, trn b tt te vs (enc a) (wipeG g vs) = some (if p a = true then some (e a) else none, wipeG g vs)) :
    fLc it b tt te vs g = some (.list ((xs.filter p).map e), g) := by
  unfold fLc
  rw [hit]
  simp only [Option.bind_some, hno, if_true]
  rw [lcGo_l (e := fun a => if p a = true then some (e a) else none) enc H]
  have ef : xs.filterMap (fun a => if p a = true then some (e a) else none) = (xs.filter p).map e := by
    clear H hit hn
    induction xs with
    | nil => rfl
    | cons x xs ih =>
      by_cases hx : p x = true
      · simp [List.filterMap_cons, List.filter_cons, hx, ih]
      · simp [List.filterMap_cons, List.filter_cons, hx, ih]
  simp only [Option.bind_some, ef]
  rw [if_pos (Nat.le_trans (by rw [List.length_map]; exact List.length_filter_le _ _) hn), backG_self]
theorem ixN_nat {m l : Nat} (h : l < m) : L2.ixN m (l : Int) = some l := by
  unfold L2.ixN
  rw [if_pos (by omega), if_pos (by omega), Int.toNat_natCast]
theorem sum_cast : ∀ {xs : List Nat}, (xs.map fun (n : Nat) => (n : Int)).sum = ((xs.sum : Nat) : Int)
  | [] => rfl
  | x :: xs => by rw [List.map_cons, List.sum_cons, List.sum_cons, sum_cast]; omega
theorem oSum_nat {α : Type} {xs : List α} {f : α → Nat} : oSum (.list (xs.map fun a => PyData.int (f a : Nat))) = some (.int ((xs.map f).sum : Nat)) := by
  have : (xs.map fun a => PyData.int (f a : Nat)) = ((xs.map f).map fun (n : Nat) => (n : Int)).map PyData.int := by simp
  rw [this]
  show oLI (fun ns => some (PyData.int ns.sum)) _ = _
  rw [o_LI, sum_cast]
theorem oAll_t {α : Type} {xs : List α} : oAll (.list (xs.map fun _ => PyData.bool true)) = some (.bool true) := by
  have : (xs.map fun _ => PyData.bool true) = (xs.map fun _ => true).map PyData.bool := by simp
  rw [this]
  show oLB (fun bs => bs.all _root_.id) _ = _
  rw [o_LB]; simp
theorem oAny_f {α : Type} {xs : List α} : oAny (.list (xs.map fun _ => PyData.bool false)) = some (.bool false) := by
  have : (xs.map fun _ => PyData.bool false) = (xs.map fun _ => false).map PyData.bool := by simp
  rw [this]
  show oLB (fun bs => bs.any _root_.id) _ = _
  rw [o_LB]; simp
theorem map_Rg {α : Type} {xs : List α} {enc : α → D} {d : α} : xs.map enc = R xs.length fun i => enc (xs.getD i d) := R_ext (by simp) fun i hi => by
  rw [List.getElem?_map, List.getElem?_eq_getElem hi, Option.map_some, List.getD_eq_getElem?_getD, List.getElem?_eq_getElem hi]; rfl
theorem R_init {n : Nat} {h : Nat → D} : cutD (R n h) none (some (-1)) = R (n - 1) h := by
  rw [R_cut (a := 0) (b := n - 1) rfl sIx_m1 (by omega), Nat.sub_zero]
  exact R_congr fun i _ => by rw [Nat.zero_add]
theorem R_tail {n : Nat} {h : Nat → D} : cutD (R n h) (some 1) none = R (n - 1) fun i => h (i + 1) := by
  have h1 : HT.sIx n 0 (some 1) = min 1 n := HT.sIx_nat n 0 1
  rw [R_cut (a := min 1 n) (b := n) h1 rfl (Nat.le_refl _)]
  by_cases hn : n = 0
  · subst hn; rfl
  · rw [show min 1 n = 1 by omega]
    exact R_congr fun i _ => by rw [Nat.add_comm]
/-- neighbours -/
theorem R_nb {n : Nat} {h : Nat → D} : zipD (cutD (R n h) none (some (-1))) (cutD (R n h) (some 1) none) = R (n - 1) fun i => .tuple [h i, h (i + 1)] := by rw [R_init, R_tail, R_zip]
theorem R_rev {n : Nat} {f : Nat → D} : (R n f).reverse = R n fun i => f (n - 1 - i) := R_ext (by simp) fun i hi => by
  rw [List.getElem?_reverse (by rw [R_len]; exact hi), R_len, R_get (by omega)]
section
variable {i : Nat} {fk fe f : Sf} {g : Sg} {op : D → D → Option D}
@[simp] theorem e_fExt : fExt i f g = match ownAt g i with
  | some (_, .list _) => (f g).bind fun p => match ownAt p.2 i, p.1 with
    | some (q, .list ds), .list es => if ds.length + es.length ≤ sizeLine then some (.nx (p.2.set i (.own q (.list (ds ++ es))))) else none
    | _, _ => none
  | _ => none := rfl
@[simp] theorem e_fDPut : fDPut i fk fe g = (fe g).bind fun p => match ownAt p.2 i with
  | some (_, .dict _) => (fk p.2).bind fun r => match ownAt r.2 i, keyOf r.1 with
    | some (q, .dict ds), some k => if ds.length < sizeLine then some (.nx (r.2.set i (.own q (.dict (dPut ds k p.1))))) else none
    | _, _ => none
  | _ => none := rfl
@[simp] theorem e_fAugI : fAugI op i fk fe g = match ownAt g i with
  | some (_, .list _) => (fk g).bind fun r => match ownAt r.2 i, r.1 with
    | some (_, .list ds), .int k => (L2.atI ds k).bind fun d => (fe r.2).bind fun p => match ownAt p.2 i with
      | some (q, .list es) => (op d p.1).bind fun z => (L2.ixN es.length k).map fun j => .nx (p.2.set i (.own q (.list (es.set j z))))
      | _ => none
    | _, _ => none
  | _ => none := rfl
end
@[simp] theorem e_fParO {i j : Nat} {fa fb : Sf} {g : Sg} : fParO i j fa fb g = (fa g).bind fun p => (fb p.2).bind fun q => if j < q.2.length then some (.nx ((q.2.set j (.own false q.1)).set i (.val p.1))) else none := rfl
theorem ix0 {x y : D} : L2.atI [x, y] 0 = some x := L2.atI_nat (j := 0) rfl
theorem ix1 {x y : D} : L2.atI [x, y] 1 = some y := L2.atI_nat (j := 1) rfl
theorem ix3_0 {x y z : D} : L2.atI [x, y, z] 0 = some x := L2.atI_nat (j := 0) rfl
theorem ix3_1 {x y z : D} : L2.atI [x, y, z] 1 = some y := L2.atI_nat (j := 1) rfl
theorem ix3_2 {x y z : D} : L2.atI [x, y, z] 2 = some z := L2.atI_nat (j := 2) rfl
theorem ne_same {d : D} (h : SeqAt.shaped d = true) : oNeD d d = some false := by
  unfold oNeD; rw [if_pos ⟨h, h⟩, eqv_same h]; rfl
theorem eq_same {d : D} (h : SeqAt.shaped d = true) : oEqD d d = some true := by
  unfold oEqD; rw [if_pos ⟨h, h⟩, eqv_same h]
theorem rp_ne {x : Str} : oNe (.str x) (.str x) = some false := by
  show some (!(x == x)) = some false
  simp
theorem fSq_o {f r : Ss} {g g1 : Sg} {o : Out} (h1 : f g = some (.nx g1)) (h2 : r g1 = some o) : fSq f r g = some o := fSq_nx h1 h2
theorem frz_o {i : Nat} {f : Ss} {g : Sg} {π : Bool} {d : PyData} {o : Out} (h1 : g[i]? = some (.own π d)) (h2 : f (g.set i (.val d)) = some o) : frz i f g = some o := by
  unfold frz; rw [h1]; exact h2
end EV

set_option Elab.async false
set_option linter.all false
set_option maxRecDepth 100000
/-! EVk: reprs and equality of plain data. -/
namespace EV
open PySem
/-- plain data: at most k deep, its repr at most w long -/
structure Nice (k w : Nat) (d : D) : Prop where
  lay : PyData.canLay0 d = true
  dep : PyData.depth d ≤ k
  shw : PyData.showable d = true
  len : (PyData.shown d).length ≤ w
theorem Nice.up {k w k' w' : Nat} {d : D} (h : Nice k w d) (hk : k ≤ k' := by omega) (hw : w ≤ w' := by omega) : Nice k' w' d := ⟨h.lay, Nat.le_trans h.dep hk, h.shw, Nat.le_trans h.len hw⟩
theorem Nice.int {i : Int} (h : i.natAbs < 10 ^ 10) : Nice 0 11 (.int i) := ⟨rfl, Nat.le_refl _, decide_eq_true (Nat.lt_of_lt_of_le (log2_64 (Nat.lt_of_lt_of_le h (by decide))) (by decide)), by
  have h2 := int_text_length_le10 (k := 10) (by omega) h
  show (Str.ofString (toString i)).length ≤ 11
  rw [ofString_length]; omega⟩
theorem Nice.nat {i : Nat} (h : i < 10 ^ 10) : Nice 0 11 (.int (i : Int)) := .int (by omega)
theorem Nice.non : Nice 0 11 (.none : D) := ⟨rfl, Nat.le_refl _, rfl, by decide⟩
theorem Nice.bool {b : Bool} : Nice 0 11 (.bool b) := ⟨rfl, Nat.le_refl _, rfl, by cases b <;> decide⟩
theorem nice_all {k w : Nat} : ∀ {xs : List D}, (∀ x ∈ xs, Nice k w x) → PyData.canLayAll0 xs = true ∧ PyData.depthAll xs ≤ k ∧ PyData.showableAll xs = true ∧ piled (PyData.shownAll xs) ≤ xs.length * (w + 2)
  | [], _ => ⟨rfl, Nat.zero_le _, rfl, by rw [show PyData.shownAll ([] : List D) = [] from rfl, piled_nil]; exact Nat.zero_le _⟩
  | x :: xs, h => by
    obtain ⟨h1, h2, h3, h4⟩ := nice_all (xs := xs) fun y hy => h y (List.mem_cons_of_mem _ hy)
    have hx := h x List.mem_cons_self
    refine ⟨?_, ?_, ?_, ?_⟩
    · simp only [PyData.canLayAll0]; rw [hx.lay, h1]; rfl
    · simp only [PyData.depthAll]; exact Nat.max_le.mpr ⟨hx.dep, h2⟩
    · simp only [PyData.showableAll]; rw [hx.shw, h3]; rfl
    · rw [show PyData.shownAll (x :: xs) = PyData.shown x :: PyData.shownAll xs from rfl, piled_cons, List.length_cons, Nat.add_mul]
      have := hx.len
      omega
theorem listText_le (ts : List Str) : (listText ts).length ≤ piled ts + 3 := by
  have h1 : (("[" : String) : Str).length = 1 := rfl
  have h2 : (("]" : String) : Str).length = 1 := rfl
  unfold listText
  rw [strLen_append, h2]
  cases ts with
  | nil => show (("[" : String) : Str).length + 1 ≤ _; omega
  | cons t r =>
    show (textFrom 1 ((("[" : String) : Str) ++ (if (0 : Nat) > 0 then ", " else "" : String) ++ t) r).length + 1 ≤ _
    rw [textFrom_length_pos _ _ _ (Nat.succ_pos 0), strLen_append, strLen_append, piled_cons, h1]
    have : (((if (0 : Nat) > 0 then ", " else "" : String) : String) : Str).length = 0 := rfl
    omega
theorem Nice.tup {k w : Nat} {xs : List D} (h : ∀ x ∈ xs, Nice k w x) : Nice (k + 1) (xs.length * (w + 2) + 3) (.tuple xs) := by
  obtain ⟨h1, h2, h3, h4⟩ := nice_all h
  refine ⟨by simp only [PyData.canLay0]; exact h1, by simp only [PyData.depth]; omega, by simp only [PyData.showable]; exact h3, ?_⟩
  have := tupleText_le (PyData.shownAll xs)
  show (tupleText (PyData.shownAll xs)).length ≤ _
  omega
theorem Nice.lst {k w : Nat} {xs : List D} (h : ∀ x ∈ xs, Nice k w x) : Nice (k + 1) (xs.length * (w + 2) + 3) (.list xs) := by
  obtain ⟨h1, h2, h3, h4⟩ := nice_all h
  refine ⟨by simp only [PyData.canLay0]; exact h1, by simp only [PyData.depth]; omega, by simp only [PyData.showable]; exact h3, ?_⟩
  have := listText_le (PyData.shownAll xs)
  show (listText (PyData.shownAll xs)).length ≤ _
  omega
/-- a tuple of at most n things -/
theorem Nice.tupN {k w n : Nat} {xs : List D} (hn : xs.length ≤ n) (h : ∀ x ∈ xs, Nice k w x) : Nice (k + 1) (n * (w + 2) + 3) (.tuple xs) := (Nice.tup h).up (Nat.le_refl _) (Nat.add_le_add_right (Nat.mul_le_mul_right _ hn) _)
theorem Nice.lstN {k w n : Nat} {xs : List D} (hn : xs.length ≤ n) (h : ∀ x ∈ xs, Nice k w x) : Nice (k + 1) (n * (w + 2) + 3) (.list xs) := (Nice.lst h).up (Nat.le_refl _) (Nat.add_le_add_right (Nat.mul_le_mul_right _ hn) _)
theorem Nice.tup2 {k w : Nat} {x y : D} (h1 : Nice k w x) (h2 : Nice k w y) : Nice (k + 1) (2 * (w + 2) + 3) (.tuple [x, y]) := Nice.tup fun z hz => by
  rcases List.mem_cons.mp hz with rfl | hz
  · exact h1
  · rw [List.mem_singleton.mp hz]; exact h2
theorem Nice.tup3 {k w : Nat} {x y z : D} (h1 : Nice k w x) (h2 : Nice k w y) (h3 : Nice k w z) : Nice (k + 1) (3 * (w + 2) + 3) (.tuple [x, y, z]) := Nice.tup fun u hu => by
  rcases List.mem_cons.mp hu with rfl | hu
  · exact h1
  · rcases List.mem_cons.mp hu with rfl | hu
    · exact h2
    · rw [List.mem_singleton.mp hu]; exact h3
theorem Nice.shaped {k w : Nat} {d : D} (h : Nice k w d) (hk : k ≤ 64 := by omega) : SeqAt.shaped d = true := by
  show (PyData.canLay0 d && decide (PyData.depth d ≤ 64)) = true
  rw [h.lay, decide_eq_true (Nat.le_trans h.dep hk)]; rfl
theorem Nice.repr {k w : Nat} {d : D} (h : Nice k w d) (hk : k ≤ 64 := by omega) (hw : w ≤ 1000000 := by omega) : oRepr d = some (.str (PyData.shown d)) := by
  unfold oRepr
  rw [if_pos]
  exact ⟨h.shaped hk, h.shw, by rw [sizeLine_eq]; exact Nat.le_trans h.len (Nat.le_trans hw (by decide))⟩
theorem Nice.ne {k w : Nat} {d : D} (h : Nice k w d) (hk : k ≤ 64 := by omega) : oNeD d d = some false := ne_same (h.shaped hk)
theorem Nice.eq {k w : Nat} {d : D} (h : Nice k w d) (hk : k ≤ 64 := by omega) : oEqD d d = some true := eq_same (h.shaped hk)
theorem Nice.mem {k w : Nat} {x : D} {xs : List D} (h : ∀ y ∈ xs, Nice k w y) (hx : x ∈ xs) (hk : k + 1 ≤ 64 := by omega) : oNotInP x (.tuple xs) = some false := by
  have hs := (Nice.tup h).shaped hk
  have hx1 := (h x hx).shaped (by omega)
  show (if SeqAt.shaped x = true ∧ SeqAt.shaped (.tuple xs) = true then some (xs.any fun z => PyData.eqv z x) else none).map not = _
  rw [if_pos ⟨hx1, hs⟩]
  have : (xs.any fun z => PyData.eqv z x) = true := List.any_eq_true.mpr ⟨x, hx, eqv_same hx1⟩
  rw [this]; rfl
/-! ### numbers or nothing -/
abbrev noD : Option Nat → D
  | none => .none
  | some k => .int (k : Nat)
theorem shaped_noD : ∀ {a : Option Nat}, SeqAt.shaped (noD a) = true
  | none => rfl
  | some k => rfl
theorem eqv_noD : ∀ {a b : Option Nat}, PyData.eqv (noD a) (noD b) = decide (a = b)
  | none, none => rfl
  | none, some k => rfl
  | some k, none => rfl
  | some j, some k => by
    show (((j : Nat) : Int) == ((k : Nat) : Int)) = _
    by_cases h : j = k
    · subst h; simp
    · have : ¬ (j : Int) = (k : Int) := by omega
      simp [h, this]
theorem oNeD_no {a b : Option Nat} : oNeD (noD a) (noD b) = some (!decide (a = b)) := by
  unfold oNeD; rw [if_pos ⟨shaped_noD, shaped_noD⟩, eqv_noD]
theorem oEqD_no {a b : Option Nat} : oEqD (noD a) (noD b) = some (decide (a = b)) := by
  unfold oEqD; rw [if_pos ⟨shaped_noD, shaped_noD⟩, eqv_noD]
theorem Nice.no {a : Option Nat} (h : ∀ k, a = some k → k < 10 ^ 10) : Nice 0 11 (noD a) := by
  cases a with
  | none => exact Nice.non
  | some k => exact Nice.nat (h k rfl)
theorem isN_no : ∀ {a : Option Nat}, isN (noD a) = a.isNone
  | none => rfl
  | some k => rfl
/-! ### sorted keys of a dict -/
theorem sortI_lt {ns : List Int} (h : ns.Nodup) : (sortI ns).Pairwise (· < ·) := by
  have h1 : (sortI ns).Nodup := (sortI_perm ns).nodup_iff.mpr h
  exact List.Pairwise.imp₂ (fun a b (h1 : a ≤ b) (h2 : a ≠ b) => by omega) (sortI_sorted ns) h1
theorem oSortDI_ns {ns : List Int} {v : D} (hn : ns.length < 64) : oSortDI (.dict (ns.map fun y => (.int y, v))) = some (.list ((sortI ns).map .int)) := by
  have e : scrD (.dict (ns.map fun y => (PyData.int y, v))) = false := by
    cases ns <;> rfl
  show (if scrD (.dict (ns.map fun y => (PyData.int y, v))) = true then none else (intsOf ((ns.map fun y => (PyData.int y, v)).map (·.1))).bind fun ns => if ns.length < 64 then some (PyData.list ((sortI ns).map .int)) else none) = _
  rw [e, List.map_map]
  show (if false = true then none else (intsOf (ns.map PyData.int)).bind _) = _
  rw [intsOf_map]
  simp [hn]
@[simp] theorem e_iRng3 {fr : Sg → Option (List D × Sg)} {g : Sg} : iRng3 fr g = (fr g).bind fun p => match p.1 with | [.int i, .int j, .int k] => if okB i = true ∧ okB j = true ∧ k = -1 then some (rngD i (-1) (i - j).toNat, p.2) else none | _ => none := rfl
theorem rngD_R {lo c : Int} {n : Nat} : rngD lo c n = R n fun i => .int (lo + (i : Int) * c) := rfl
@[simp] theorem o_RevL {xs : List D} : oRevL (.list xs) = some (.list xs.reverse) := rfl
@[simp] theorem o_RevT {xs : List D} : oRevT (.tuple xs) = some (.tuple xs.reverse) := rfl
@[simp] theorem o_RepU {xs : List D} {k : Int} : oRepU (.tuple xs) (.int k) = if 0 < xs.length ∧ 0 ≤ k ∧ k ≤ 1000 ∧ xs.length ≤ 1000 then some (.tuple (repD k.toNat xs)) else none := rfl
theorem atI_m1 {xs : List D} {x : D} : L2.atI (xs ++ [x]) (-1) = some x := by
  have h : (xs ++ [x])[xs.length]? = some x := by simp
  unfold L2.atI L2.ixN
  rw [if_neg (by omega)]
  have hl : (xs ++ [x]).length = xs.length + 1 := by simp
  rw [hl, if_pos (by omega)]
  show (xs ++ [x])[((-1 : Int) + ((xs.length + 1 : Nat) : Int)).toNat]? = some x
  rw [show ((-1 : Int) + ((xs.length + 1 : Nat) : Int)).toNat = xs.length by omega]
  exact h
/-- a slot that is no own thing -/
abbrev Vl (s : Slot) : Prop := s = .emp ∨ ∃ d, s = .val d
theorem Vl.emp : Vl .emp := .inl rfl
theorem Vl.val {d : D} : Vl (.val d) := .inr ⟨d, rfl⟩
end EV

set_option Elab.async false
set_option linter.all false
set_option maxRecDepth 100000
/-! EVl: max and min of lists of tuples; defs with defaults; defs that call themselves. -/
namespace EV
open PySem PySem.Spec L2
/-- the best of a list: f picks one of its items -/
def rBestD (K : PySem.W.Frag) (f : D → List D → D) : List V → Hp → VK → Prop := fun vs H Q => ∃ (a : Addr) (xs : List V) (d : D) (ds : List D) (P : V → D → Prop), vs = [V.ref a] ∧ SqL K H a xs ∧ DpAll K H xs (d :: ds) ∧ EachP P xs (d :: ds) ∧ okS (d :: ds) = true ∧ ∀ v, P v (f d ds) → Q v H
theorem fold_mem {p : D → D → Bool} : ∀ {ds : List D} {d : D}, ds.foldl (fun a y => if p a y = true then y else a) d ∈ d :: ds
  | [], d => List.mem_singleton.mpr rfl
  | y :: ys, d => by
    rw [List.foldl_cons]
    have h := fold_mem (p := p) (ds := ys) (d := if p d y = true then y else d)
    rcases List.mem_cons.mp h with h | h
    · rw [h]
      split
      · exact List.mem_cons_of_mem _ List.mem_cons_self
      · exact List.mem_cons_self
    · exact List.mem_cons_of_mem _ (List.mem_cons_of_mem _ h)
theorem EachP.get {P : V → D → Prop} {vs : List V} {ds : List D} (h : EachP P vs ds) : ∀ {i : Nat} {v : V}, vs[i]? = some v → ∃ d, ds[i]? = some d ∧ P v d := by
  induction h with
  | nil => intro i v e; simp at e
  | cons h _ ih =>
    intro i v e
    cases i with
    | zero => simp at e; subst e; exact ⟨_, rfl, h⟩
    | succ i => simpa using ih (by simpa using e)
theorem okS_one {ds : List D} (ok : okS ds = true) : (∀ d ∈ ds, SeqAt.shaped d = true ∧ d.depth ≤ 60 ∧ d ≠ .none) ∧ ∀ x ∈ ds, ∀ y ∈ ds, PySem.W.alike x y = true := by
  obtain ⟨ok1, ok2⟩ := Bool.and_eq_true_iff.mp ok
  refine ⟨fun d hd => ?_, fun x hx y hy => List.all_eq_true.mp (List.all_eq_true.mp ok2 x hx) y hy⟩
  obtain ⟨h1, h2⟩ := Bool.and_eq_true_iff.mp (List.all_eq_true.mp ok1 d hd)
  obtain ⟨h3, h4⟩ := Bool.and_eq_true_iff.mp h1
  refine ⟨h3, of_decide_eq_true h4, fun z => ?_⟩
  subst z
  cases h2
theorem depthAll_le {k : Nat} : ∀ {ds : List D}, (∀ d ∈ ds, d.depth ≤ k) → PyData.depthAll ds ≤ k
  | [], _ => Nat.zero_le _
  | d :: ds, h => by
    simp only [PyData.depthAll]
    exact Nat.max_le.mpr ⟨h d List.mem_cons_self, depthAll_le fun x hx => h x (List.mem_cons_of_mem _ hx)⟩
section
variable {X : Cx}
theorem best_item {pins : List (Addr × Obj)} {σ : L2.St} {H : Hp} {s : Shared} {xs : List V} {its : List Value} {ds : List D} {as : List Addr} {P : V → D → Prop} {e : D} {h' : Heap} {i : Nat} {v : Value} {bs : List Addr} (rv : Vals xs its) (hr : ReadsAll s.heap its ds as) (hP : EachP P xs ds)
    (hsh : ∀ d ∈ ds, SeqAt.shaped d = true) (he : SeqAt.shaped e = true) (hv : its[i]? = some v) (hrd : Reads h' v e bs) (hk : ∀ b o, s.heap.get? b = some o → h'.get? b = some o) : ∃ x, RelV x v ∧ P x e := by
  have hi : i < its.length := (List.getElem?_eq_some_iff.mp hv).1
  have hl := rv.length
  have hx : xs[i]? = some xs[i] := List.getElem?_eq_getElem (by omega)
  obtain ⟨u, hu, ru⟩ := rv.get hx
  rw [hv] at hu
  cases hu
  obtain ⟨d, hd, hp⟩ := hP.get hx
  obtain ⟨cs, r1, r2, r3, _⟩ := PySem.W.readsAll_at hr i v hv
  have ed : ds.getD i .none = d := by rw [List.getD_eq_getElem?_getD, hd]; rfl
  rw [ed] at r1 r3
  have e1 := SeqAt.readOf_eq (SeqAt.canLay_of_shaped (hsh d r3)) (PySem.W.reads_keeps hk r1)
  have e2 := SeqAt.readOf_eq (SeqAt.canLay_of_shaped he) hrd
  rw [e1] at e2
  rw [e2] at hp
  exact ⟨_, ru, hp⟩
theorem cr_maxP (hc : X.calm = true) (hu : X.A.units + 65 < cLine) : CallR X (.builtin "max") (rBestD X.K PySem.W.maxD) := by
  intro pins s σ H vs us Q I r h
  obtain ⟨a, xs, d, ds, P, rfl, hs, hd, hP, ok, q⟩ := h
  obtain ⟨its, rv, hl, hz⟩ := I.list hs
  rw [Vals.ref1 r]
  obtain ⟨as, hr⟩ := Dp.readsAll I (d :: ds) xs its hd rv
  obtain ⟨o1, o2⟩ := okS_one ok
  have hdep := depthAll_le (ds := d :: ds) (k := 60) fun x hx => (o1 x hx).2.1
  refine PySem.W.max_list_data (I.ok.hd hc) hl.isList hr ⟨o2, fun x hx => (o1 x hx).2.2⟩ (by omega) fun i v h' tk bs hv hrd hk => ?_
  have hm : PySem.W.maxD d ds ∈ d :: ds := fold_mem (p := fun a y => PySem.W.dataLt a y)
  obtain ⟨x, rx, px⟩ := best_item (pins := pins) (σ := σ) (H := H) rv hr hP (fun d hd => (o1 d hd).1) (o1 _ hm).1 (by simpa using hv) hrd hk
  exact ⟨x, H, I.kept hk, rx, q x px⟩
theorem cr_minP (hc : X.calm = true) (hu : X.A.units + 65 < cLine) : CallR X (.builtin "min") (rBestD X.K PySem.W.minD) := by
  intro pins s σ H vs us Q I r h
  obtain ⟨a, xs, d, ds, P, rfl, hs, hd, hP, ok, q⟩ := h
  obtain ⟨its, rv, hl, hz⟩ := I.list hs
  rw [Vals.ref1 r]
  obtain ⟨as, hr⟩ := Dp.readsAll I (d :: ds) xs its hd rv
  obtain ⟨o1, o2⟩ := okS_one ok
  have hdep := depthAll_le (ds := d :: ds) (k := 60) fun x hx => (o1 x hx).2.1
  refine PySem.W.min_list_data (I.ok.hd hc) hl.isList hr ⟨o2, fun x hx => (o1 x hx).2.2⟩ (by omega) fun i v h' tk bs hv hrd hk => ?_
  have hm : PySem.W.minD d ds ∈ d :: ds := fold_mem (p := fun a y => PySem.W.dataLt y a)
  obtain ⟨x, rx, px⟩ := best_item (pins := pins) (σ := σ) (H := H) rv hr hP (fun d hd => (o1 d hd).1) (o1 _ hm).1 (by simpa using hv) hrd hk
  exact ⟨x, H, I.kept hk, rx, q x px⟩
end
def oBest (f : D → List D → D) : D → Option D
  | .list (x :: xs) => if okS (x :: xs) = true then some (f x xs) else none
  | _ => none
abbrev oMaxP : D → Option D := oBest PySem.W.maxD
abbrev oMinP : D → Option D := oBest PySem.W.minD
section
variable {G : Gb} {c : Sx} {π τ : Bool} {a : Expr} {fa : Sf} {p pos : Pos}
theorem ok_best {K : PySem.W.Frag} {f : D → List D → D} : Ok1 K (fun v H Q => rBestD K f [v] H Q) (oBest f) := fun m ex σ H g v x d Q S rv e q => by
  unfold oBest at e
  split at e
  · rename_i y ys
    split at e
    · rename_i ok
      cases e
      obtain ⟨b, vs, rfl, h1, r1⟩ := rv.lst hid_sub
      exact ⟨b, vs, y, ys, Rp K (hid (Hd m ex) H), rfl, SqL.of h1, (r1.mono hid_sub.ext).dp (shapedAll fun d hd => ((okS_one ok).1 d hd).1), r1.each, ok, fun v hv => q v H (.refl S) hv⟩
    · cases e
  · cases e
theorem j_maxP (hm : G.mg "max" = none) (ha : J G c π τ a fa) (hg : GlN c "max" := by rfl) (hs : ∀ env, starEach [a] env = (false, eval a env) :: starEach [] env := by intro _; rfl) :
    J G c π true (.Call (.Name "max" p) [a] [] pos) (f1 oMaxP fa) := j_un (cb1_rule (r := rBestD G.K PySem.W.maxD) (fun X s => s.opK ▸ cr_maxP s.calm s.units65) hm (by decide +kernel) hg hs (by decide) (by decide)) ok_best ha
theorem j_minP (hm : G.mg "min" = none) (ha : J G c π τ a fa) (hg : GlN c "min" := by rfl) (hs : ∀ env, starEach [a] env = (false, eval a env) :: starEach [] env := by intro _; rfl) :
    J G c π true (.Call (.Name "min" p) [a] [] pos) (f1 oMinP fa) := j_un (cb1_rule (r := rBestD G.K PySem.W.minD) (fun X s => s.opK ▸ cr_minP s.calm s.units65) hm (by decide +kernel) hg hs (by decide) (by decide)) ok_best ha
end
/-! ### len of a dict -/
theorem call_lenD {X : Cx} : CallR X (.builtin "len") (fun xs H Q => ∃ a kvs, xs = [.ref a] ∧ Rd H a (.dK kvs) ∧ Q (.int kvs.length) H) := by
  intro pins s σ H vs us Q I r h
  obtain ⟨a, kvs, rfl, hd, q⟩ := h
  rw [Vals.ref1 r]
  exact d_len I hd fun t s' I' => ⟨.int _, H, I', ⟨t, rfl⟩, q⟩
section
variable {G : Gb} {c : Sx} {π τ : Bool} {a : Expr} {fa : Sf} {p pos : Pos}
theorem j_lenD (hm : G.mg "len" = none) (ha : J G c π τ a fa) (hg : GlN c "len" := by rfl) (hs : ∀ env, starEach [a] env = (false, eval a env) :: starEach [] env := by intro _; rfl) :
    J G c π true (.Call (.Name "len" p) [a] [] pos) (f1 oLenD fa) := j_un (cb1_rule (r := fun xs H Q => ∃ a kvs, xs = [V.ref a] ∧ Rd H a (.dK kvs) ∧ Q (.int kvs.length) H) (fun X s => call_lenD) hm PySem.boot_len hg hs (by decide) (by decide)) (fun m ex σ H g v x d Q S rv e q => by
  unfold oLenD at e
  split at e
  · split at e
    · cases e
    · rename_i hn
      cases e
      obtain ⟨b, vs, rfl, h1, r1⟩ := rv.dic' hid_sub (by simpa using hn)
      exact ⟨b, vs, rfl, h1, by rw [r1.length]; exact q _ _ (.refl S) (.int _)⟩
  · cases e) ha
end
/-! ### the signs of a text -/
def sgnD (z : Str) : List D := z.cps.toList.map fun c => .str ⟨#[c]⟩
theorem itD_str {K : PySem.W.Frag} {P : Addr → Prop} {H0 : Hp} {z : Str} : ItD K P H0 (sgnD z) (Its z) := by
  have hl : (sgnD z).length = z.cps.size := by unfold sgnD; rw [List.length_map, Array.length_toList]
  refine ⟨_, by rw [hl]; exact walk_str.mono (fun _ _ => trivial) fun i H x H' _ _ y => y, fun i H x H' P' k hp _ hi y => ?_⟩
  obtain ⟨rfl, c, hc, rfl⟩ := y
  refine ⟨fun _ _ z => z, .str ⟨#[c]⟩, ?_, .str _⟩
  unfold sgnD
  rw [List.getElem?_map, Array.getElem?_toList, hc]
  rfl
def iStrD (fa : Sf) : Si := fun g => (fa g).bind fun p => match p.1 with
  | .str z => some (sgnD z, p.2)
  | _ => none
def oInC (x y : D) : Option Bool := match x, y with
  | .str w, .str z => match w.cps.toList with
    | [c] => some (decide (c ∈ z.cps.toList))
    | _ => none
  | _, _ => none
def oNotInC (x y : D) : Option Bool := (oInC x y).map not
abbrev rInC (no : Bool) : R2 := fun x y H Q => ∃ (c : Nat) (z : Str), x = .str ⟨#[c]⟩ ∧ y = .str z ∧ Q (.bl (no != decide (c ∈ z.cps.toList))) H
theorem inC_some {x y : D} {b : Bool} (h : oInC x y = some b) : ∃ (c : Nat) (z : Str), x = .str ⟨#[c]⟩ ∧ y = .str z ∧ b = decide (c ∈ z.cps.toList) := by
  unfold oInC at h
  split at h
  · rename_i w z
    split at h
    · rename_i c e
      cases h
      obtain ⟨⟨ws⟩⟩ := w
      simp only at e
      subst e
      exact ⟨c, z, rfl, rfl, rfl⟩
    · cases h
  · cases h
theorem ok_inC {K : PySem.W.Frag} : Ok2 K (fun x y H Q => ∃ (c : Nat) (z : Str), x = .str ⟨#[c]⟩ ∧ y = .str z ∧ Q (.bl (decide (c ∈ z.cps.toList))) H) (oB oInC) := fun m ex σ H g v w x y d Q S rv rw' e q => by
  unfold oB at e
  cases h : oInC x y with
  | none => rw [h] at e; cases e
  | some k =>
    rw [h] at e
    cases e
    obtain ⟨c, z, rfl, rfl, rfl⟩ := inC_some h
    exact ⟨c, z, rv.str, rw'.str, q _ _ (.refl S) (.bl _)⟩
theorem ok_notInC {K : PySem.W.Frag} : Ok2 K (fun x y H Q => ∃ (c : Nat) (z : Str), x = .str ⟨#[c]⟩ ∧ y = .str z ∧ Q (.bl (!decide (c ∈ z.cps.toList))) H) (oB oNotInC) := fun m ex σ H g v w x y d Q S rv rw' e q => by
  unfold oB oNotInC at e
  cases h : oInC x y with
  | none => rw [h] at e; cases e
  | some k =>
    rw [h] at e
    cases e
    obtain ⟨c, z, rfl, rfl, rfl⟩ := inC_some h
    exact ⟨c, z, rv.str, rw'.str, q _ _ (.refl S) (.bl _)⟩
section
variable {G : Gb} {c : Sx} {π π1 π2 τ1 τ2 : Bool} {a b tg : Expr} {fa fb : Sf} {pos : Pos}
theorem ji_str (ha : J G c π true a fa) : JI G c π tg a (iStrD fa) := fun X s =>
  pi_weak (pi_str (ha X s)) fun σ H R ⟨m, ex, g, ds, g', S, e, q⟩ => by
    unfold iStrD at e
    cases h1 : fa g with
    | none => rw [h1] at e; cases e
    | some y =>
      obtain ⟨d, g2⟩ := y
      simp only [h1, Option.bind_some] at e
      split at e
      · cases e
        exact ⟨m, ex, g, _, g', S, h1, fun v H1 p1 r1 => ⟨_, (by have r := r1.strong; cases r; rfl), q _ H1 p1 itD_str⟩⟩
      · cases e
theorem j_inC (ha : J G c π1 τ1 a fa) (hb : J G c π2 τ2 b fb) (hm : τ1 = true ∨ π2 = true := by first | exact .inl rfl | exact .inr rfl) (hk : behindInMarks .In b = false := by rfl) : J G c (π1 && π2) true (.Compare a [.In] [b] pos) (f2 (oB oInC) fa fb) := j_cmp (fun X s => op_in_sign) ok_inC ha hb hm hk
theorem j_notInC (ha : J G c π1 τ1 a fa) (hb : J G c π2 τ2 b fb) (hm : τ1 = true ∨ π2 = true := by first | exact .inl rfl | exact .inr rfl) (hk : behindInMarks .NotIn b = false := by rfl) : J G c (π1 && π2) true (.Compare a [.NotIn] [b] pos) (f2 (oB oNotInC) fa fb) := j_cmp (fun X s => op_notIn_sign) ok_notInC ha hb hm hk
theorem jt_inC (ha : J G c π1 τ1 a fa) (hb : J G c π2 τ2 b fb) (hm : τ1 = true ∨ π2 = true := by first | exact .inl rfl | exact .inr rfl) (hk : behindInMarks .In b = false := by rfl) : JT G c (π1 && π2) (.Compare a [.In] [b] pos) (t2 oInC fa fb) := jt_cmp (fun X s => op_in_sign) ok_inC ha hb hm hk
theorem jt_notInC (ha : J G c π1 τ1 a fa) (hb : J G c π2 τ2 b fb) (hm : τ1 = true ∨ π2 = true := by first | exact .inl rfl | exact .inr rfl) (hk : behindInMarks .NotIn b = false := by rfl) : JT G c (π1 && π2) (.Compare a [.NotIn] [b] pos) (t2 oNotInC fa fb) := jt_cmp (fun X s => op_notIn_sign) ok_notInC ha hb hm hk
end
@[simp] theorem e_iStrD {fa : Sf} {g : Sg} : iStrD fa g = (fa g).bind fun p => match p.1 with | .str z => some (sgnD z, p.2) | _ => none := rfl
/-! ### a def that calls itself: nothing is promised at depth 0 -/
theorem mkN {G : Gb} {x : Str} {st : Stmt} {ps : List Str} {k : Nat} {ρ : Bool} (d : Df G x st ps) : FnD G k x ρ ps.length [] (fun _ => none) := by
  obtain ⟨f, fd, h1, h2, h3, h4⟩ := d.ex
  refine ⟨f, fd, ps, [], [], ⟨fun vs H Q h => h.1, fun {A outer s H args us vs Q} gd room e0 bt rel h => ?_⟩, h2, h3, h4, .nil, rfl, fun _ => .nil⟩
  obtain ⟨_, m, ex, ss, d, g', S, e, q⟩ := h
  cases e
/-! ### a def with defaults -/
structure DfD (G : Gb) (x : Str) (st : Stmt) (ps : List Str) (dfl : List D) : Prop where
  ex : ∃ (f : Addr) (fd : FuncData) (dV : Value) (ds : List Value) (dvs : List V), Fd G.K x st f fd dV ∧ G.mg x = some (.ref f) ∧ PySem.W.keepIn G.K (.ref f) = true ∧ Binds G.K fd ps ds ∧ Vals dvs ds ∧ ∀ H, RpL G.K H dvs dfl
theorem mkDD {G : Gb} {x : Str} {st : Stmt} {ps N : List Str} {dfl : List D} {k : Nat} {pn : List Nat} {ρ : Bool} {fb : Ss} (d : DfD G x st ps dfl) (S : FnScope N ps (defScope st)) (body : JSs G ⟨N, defScope st, fun _ => true, k⟩ pn ρ (defBody st) fb) :
    FnD G (k + 1) x ρ ps.length dfl (fnF pn ρ (N.length - ps.length) fb) := by
  obtain ⟨f, fd, dV, ds, dvs, h1, h2, h3, h4, h5, h6⟩ := d.ex
  exact ⟨f, fd, ps, ds, dvs, FnG.of h1 S body, h2, h3, h4, h5, rfl, h6⟩
/-- one default, an int: given or not -/
theorem with_dfd {C : Prop} {P : Program} {w : World} {K : PySem.W.Frag} {h : Heap} {mg : Str → Option Value} (x : Str) (st : Stmt) (ps : List Str) (i : Int) (X : K.In h) (Gn : h.Ns mainGlobals mg) {f T : Addr} {od od2 an : Option Addr} {sl sl2 : Array (Option Value)} {oc kV dc pm cd ct : Value} {t : Tok} {n : Nat}
    (a : PySem.W.nsIn K mainGlobals x = some (some (.ref f))) (l : K.lookup f = some ⟨oc, od, .func (PySem.W.fnOf x x (defArgs st) (defBody st) (defScope st) (.ref T) kV dc pm an cd ct), sl⟩) (l2 : K.lookup T = some ⟨.type "tuple", od2, .seq #[.int i t] n, sl2⟩) (c : PySem.W.codeIn K cd x = true) (k : PySem.W.keepIn K (.ref f) = true)
    (b0 : ∀ (T : Addr) (kV doc pm : Value) (an : Option Addr) (cdv ct : Value) (us its : List Value), us.length = ps.length → its.length = 1 →
      ∃ k, bindArgs (PySem.W.fnOf x x (defArgs st) (defBody st) (defScope st) (.ref T) kV doc pm an cdv ct) ⟨us, []⟩ = seqItems? (.ref T) >>= k ∧ k (some its.toArray) = pure (ps.zip (us ++ its.drop 1)))
    (b1 : ∀ (T : Addr) (kV doc pm : Value) (an : Option Addr) (cdv ct : Value) (us its : List Value), us.length = ps.length - 1 → its.length = 1 →
      ∃ k, bindArgs (PySem.W.fnOf x x (defArgs st) (defBody st) (defScope st) (.ref T) kV doc pm an cdv ct) ⟨us, []⟩ = seqItems? (.ref T) >>= k ∧ k (some its.toArray) = pure (ps.zip (us ++ its.drop 0)))
    (hp : 1 ≤ ps.length) (q : (∀ base, DfD ⟨P, w, K, mg, base⟩ x st ps []) → (∀ base, DfD ⟨P, w, K, mg, base⟩ x st ps [.int i]) → C) : C := by
  have F : FunD K x x (defArgs st) (defBody st) (defScope st) [V.int i] [] f (PySem.W.fnOf x x (defArgs st) (defBody st) (defScope st) (.ref T) kV dc pm an cd ct) :=
    ⟨⟨oc, od, .ref T, kV, dc, pm, an, cd, ct, sl, rfl, l, c, .inr ⟨by simp, T, _, [.int i t], n, rfl, l2, rfl, .cons ⟨t, rfl⟩ .nil⟩, .inl rfl⟩, k⟩
  have Fx : Fd K x st f (PySem.W.fnOf x x (defArgs st) (defBody st) (defScope st) (.ref T) kV dc pm an cd ct) (.ref T) := ⟨oc, od, kV, dc, pm, an, cd, ct, sl, rfl, l, c⟩
  obtain ⟨d0, v0, B0⟩ := F.binds1 (ps := ps) ps.length 1 (by simp) (by simp) b0
  obtain ⟨d1, v1, B1⟩ := F.binds1 (ps := ps) (ps.length - 1) 0 (by simp) (by show ps.length - 1 + (1 - 0) = ps.length; omega) b1
  exact q (fun base => ⟨f, _, _, d0, _, Fx, PySem.W.mg_of X Gn a, k, B0, v0, fun H => .nil⟩) (fun base => ⟨f, _, _, d1, _, Fx, PySem.W.mg_of X Gn a, k, B1, v1, fun H => .cons (.int i) .nil⟩)
/-! ### calls that leave arguments out -/
theorem call_vd {F : Fs} {g : Sg} {fr : Sg → Option (List Ag × Sg)} {as dfl : List D} {g1 : Sg} (h : fr g = some (as.map Ag.v, g1)) : fCall F dfl fr g = (vF F (as.map Slot.val ++ dfl.map Slot.val)).map fun d => (d, g1) := by
  unfold fCall vF
  obtain ⟨h1, h2, h3⟩ := call_aux (as := as) (g := g1) (k := 0) (gc := [])
  have h4 : slotsOf g1 (as.map Ag.v ++ dfl.map Ag.v) = some (as.map Slot.val ++ dfl.map Slot.val) := by
    rw [← List.map_append, ← List.map_append]
    exact (call_aux (as := as ++ dfl) (g := g1) (k := 0) (gc := [])).2.1
  simp only [h, Option.bind_some, h1, List.nodup_nil, if_true, h4]
  cases F (as.map Slot.val ++ dfl.map Slot.val) with
  | none => rfl
  | some r => simp only [Option.bind_some, Option.map_some, (call_aux (as := as) (g := g1) (k := 0) (gc := r.2)).2.2]
theorem e_call2d {F : Fs} {g : Sg} {fa fb : Sf} {d : D} : fCall F [d] (bCons fa (bCons fb bNil)) g = (fa g).bind fun p => (fb p.2).bind fun q => (vF F [.val p.1, .val q.1, .val d]).map fun d => (d, q.2) := by
  cases h1 : fa g with
  | none => unfold fCall; rw [e_bCons, h1]; rfl
  | some p =>
    cases h2 : fb p.2 with
    | none => unfold fCall; simp only [e_bCons, h1, h2, Option.bind_some]; rfl
    | some q => rw [Option.bind_some, h2]; exact call_vd (as := [p.1, q.1]) (dfl := [d]) (by simp only [e_bCons, h1, h2, Option.bind_some]; rfl)
theorem oAny_b {α : Type} {xs : List α} {q : α → Bool} : oAny (.list (xs.map fun a => PyData.bool (q a))) = some (.bool (xs.any q)) := by
  have : (xs.map fun a => PyData.bool (q a)) = (xs.map q).map PyData.bool := by rw [List.map_map]; rfl
  rw [this]
  show oLB (fun bs => bs.any _root_.id) _ = _
  rw [o_LB]
  simp [List.any_map, Function.comp_def]
theorem oAll_b {α : Type} {xs : List α} {q : α → Bool} : oAll (.list (xs.map fun a => PyData.bool (q a))) = some (.bool (xs.all q)) := by
  have : (xs.map fun a => PyData.bool (q a)) = (xs.map q).map PyData.bool := by rw [List.map_map]; rfl
  rw [this]
  show oLB (fun bs => bs.all _root_.id) _ = _
  rw [o_LB]
  simp [List.all_map, Function.comp_def]
@[simp] theorem o_MaxP {x : D} {xs : List D} : oMaxP (.list (x :: xs)) = if okS (x :: xs) = true then some (PySem.W.maxD x xs) else none := rfl
@[simp] theorem o_MinP {x : D} {xs : List D} : oMinP (.list (x :: xs)) = if okS (x :: xs) = true then some (PySem.W.minD x xs) else none := rfl
@[simp] theorem o_LenD {ks : List (D × D)} : oLenD (.dict ks) = if scrD (.dict ks) = true then none else some (.int ks.length) := rfl
@[simp] theorem isi_tup {xs : List D} : oIsi "tuple" (.tuple xs) = some (.bool true) := rfl
@[simp] theorem isi_str {x : Str} : oIsi "str" (.str x) = some (.bool true) := rfl
@[simp] theorem isi_int {i : Int} : oIsi "int" (.int i) = some (.bool true) := rfl
@[simp] theorem isi_boi {i : Int} : oIsi "bool" (.int i) = some (.bool false) := rfl
@[simp] theorem isi_lst {xs : List D} : oIsi "list" (.list xs) = some (.bool true) := rfl
theorem okS_ii {xs : List (Int × Int)} : okS (xs.map fun a => .tuple [.int a.1, .int a.2]) = true := by
  unfold okS
  rw [Bool.and_eq_true]
  constructor
  · rw [List.all_eq_true]
    intro d hd
    obtain ⟨a, _, rfl⟩ := List.mem_map.mp hd
    have h1 : SeqAt.shaped (PyData.tuple [.int a.1, .int a.2]) = true := shaped_tupI [a.1, a.2]
    rw [h1]; rfl
  · rw [List.all_eq_true]
    intro d hd
    rw [List.all_eq_true]
    intro e he
    obtain ⟨a, _, rfl⟩ := List.mem_map.mp hd
    obtain ⟨b, _, rfl⟩ := List.mem_map.mp he
    simp [PySem.W.alike, PySem.W.alikeAll]
theorem okS_R {n : Nat} {f g : Nat → Int} : okS (R n fun i => .tuple [.int (f i), .int (g i)]) = true := by
  have : (R n fun i => PyData.tuple [.int (f i), .int (g i)]) = ((List.range n).map fun i => (f i, g i)).map fun a => .tuple [.int a.1, .int a.2] := by rw [List.map_map]; rfl
  rw [this]; exact okS_ii
theorem R_cons {n : Nat} {h : Nat → D} : R (n + 1) h = h 0 :: (List.range' 1 n).map h := by
  unfold R
  rw [List.range_eq_range', List.range'_succ]; rfl
/-- the fold that picks the best of h 0, h 1 .. -/
theorem best_R {p : D → D → Bool} {h : Nat → D} {b : Nat → Nat} (b0 : b 0 = 0) (hb : ∀ k, b (k + 1) = if p (h (b k)) (h (k + 1)) = true then k + 1 else b k) : ∀ {n : Nat}, ((List.range' 1 n).map h).foldl (fun a y => if p a y = true then y else a) (h 0) = h (b n)
  | 0 => by rw [b0]; rfl
  | n + 1 => by
    have e : List.range' 1 (n + 1) = List.range' 1 n ++ [n + 1] := by rw [List.range'_concat]; simp [Nat.add_comm]
    rw [e, List.map_append, List.foldl_append, best_R b0 hb, hb]
    show (if p (h (b n)) (h (n + 1)) = true then h (n + 1) else h (b n)) = _
    split <;> rfl
/-! ### two names at once, both with own things -/
section
variable {G : Gb} {c : Sx} {pn : List Nat} {ρ : Bool} {pos : Pos} {π1 π2 : Bool} {fa fb : Sf}
def fParOO (i j : Nat) (fa fb : Sf) : Ss := fun g => (fa g).bind fun p => (fb p.2).bind fun q => if i < q.2.length ∧ j < q.2.length then some (.nx ((q.2.set j (.own false q.1)).set i (.own false p.1))) else none
theorem js_parOO (i j : Nat) {x y : Str} {a b : Expr} {px py pt : Pos} {kt k2 pt2} (ha : JF G c π1 a fa) (hb : JF G c π2 b fb) (hi : c.N[i]? = some x := by rfl) (hj : c.N[j]? = some y := by rfl) (hij : i ≠ j := by decide)
    (hx : c.sc.names.lookup x = some .local := by rfl) (hy : c.sc.names.lookup y = some .local := by rfl) (hp : i ∉ pn ∧ j ∉ pn := by decide)
    (hsa : ∀ env, starEach [a, b] env = (false, eval a env) :: starEach [b] env := by intro _; rfl) (hsb : ∀ env, starEach [b] env = (false, eval b env) :: starEach [] env := by intro _; rfl)
    (hw : ∀ env : Env, env.scope = c.sc → swappedStores [.Tuple [.Name x px, .Name y py] kt pt] (.Tuple [a, b] k2 pt2) env = pure (some [x, y]) := by rintro ⟨⟩ rfl; rfl)
    (hs : ∀ env, swapsWithSole [.Tuple [.Name x px, .Name y py] kt pt] (.Tuple [a, b] k2 pt2) pos.line env = pure false := by intro _; rfl) :
    JS G c pn ρ (.Assign [.Tuple [.Name x px, .Name y py] kt pt] (.Tuple [a, b] k2 pt2) pos) (fParOO i j fa fb) := fun X s =>
  ps_weak (ps_par s.calm (by rw [s.N]; exact s.nd) (by rw [s.N]; exact hi) (by rw [s.N]; exact hj) hij (by rw [s.sc]; exact hx) (by rw [s.sc]; exact hy) (pa_cons (ha X s) (pa_cons (hb X s) pa_nil (hsb _)) (hsa _)) (hw _ s.sc) (hs _)) fun D σ H ⟨m, ex, g, o, S, e, q⟩ => by
    unfold fParOO at e
    cases h1 : fa g with
    | none => rw [h1] at e; cases e
    | some y =>
      simp only [h1, Option.bind_some] at e
      cases h2 : fb y.2 with
      | none => rw [h2] at e; cases e
      | some z =>
        simp only [h2, Option.bind_some] at e
        split at e
        · rename_i hlen
          cases e
          refine ⟨m, ex, g, y.1, y.2, S, h1, fun p H1 p1 w1 => ⟨m, exP ex p, y.2, z.1, z.2, p1.sr, h2, fun p' H2 p2 w2 => ⟨_, _, rfl, ?_⟩⟩⟩
          have n1 : ¬ Hd m ex p := S.fresh p1.new
          have n2 : ¬ Hd m (exP ex p) p' := p1.sr.fresh p2.new
          have hpp : p ≠ p' := fun z => n2 (.inl (.inr z.symm))
          have t1 := p2.sr.seto (i := j) hlen.2 (fun z => n2 (.inl z)) (fun k z => n2 (.inr ⟨k, z⟩)) w2
          have ext : Ext (hid (Hd m (exP ex p)) H1) (hid (Hd (fun k => if k = j then some p' else m k) (exP ex p)) H2) := (hid_grow (fun b o e z => by
            rcases z with z | ⟨k, z⟩
            · exact .inl z
            · have z : (if k = j then some p' else m k) = some b := z
              by_cases hk : k = j
              · rw [if_pos hk] at z
                cases z
                rw [p2.new] at e; cases e
              · rw [if_neg hk] at z
                exact .inr ⟨k, z⟩) p2.vis).ext
          have w1' := w1.mono ext (p2.exk p (.inr rfl))
          have t2 := t1.seto (i := i) (by rw [List.length_set]; exact hlen.1) (fun z => n1 (.inl z)) (fun k z => by
            have z : (if k = j then some p' else m k) = some p := z
            by_cases hk : k = j
            · rw [if_pos hk] at z
              cases z; exact hpp rfl
            · rw [if_neg hk] at z
              exact n1 (.inr ⟨k, z⟩)) w1'
          have es : (σ.set j (some (V.ref p'))).set i (some (V.ref p)) = (σ.set i (some (V.ref p))).set j (some (V.ref p')) := List.set_comm _ _ (Ne.symm hij)
          rw [es] at t2
          have vis : ∀ b o, ¬ Hd m ex b → H b = some o → H2 b = some o := fun b o nb e => p2.vis b o (fun z => by
            rcases exP_hd.mp z with z | z
            · exact nb z
            · rw [z, p1.new] at e; cases e) (p1.vis b o nb e)
          have new2 : H p' = none := by
            cases e : H p' with
            | none => rfl
            | some o =>
              by_cases hb : Hd m ex p'
              · exact absurd (exP_hd.mpr (.inl hb)) n2
              · have := p1.vis p' o hb e
                rw [p2.new] at this; cases this
          refine q _ _ _ ⟨t2, vis, fun b z => (p2.exk b (.inl z)).trans (p1.exk b z), fun k a hk => ?_, fun k hk => ?_, non_of (fun b hb => p2.sr.hdl (exP_hd.mpr (.inl (exP_hd.mpr (.inl hb))))) vis⟩
          · have hk : (if k = i then some p else if k = j then some p' else m k) = some a := hk
            by_cases k1 : k = i
            · rw [if_pos k1] at hk; cases hk; exact .inr p1.new
            · rw [if_neg k1] at hk
              by_cases k2 : k = j
              · rw [if_pos k2] at hk; cases hk; exact .inr new2
              · rw [if_neg k2] at hk; exact .inl ⟨k, hk⟩
          · show (if k = i then some p else if k = j then some p' else m k) = m k
            rw [if_neg fun (z : k = i) => hp.1 (z ▸ hk), if_neg fun (z : k = j) => hp.2 (z ▸ hk)]
        · cases e
@[simp] theorem e_fParOO {i j : Nat} {g : Sg} : fParOO i j fa fb g = (fa g).bind fun p => (fb p.2).bind fun q => if i < q.2.length ∧ j < q.2.length then some (.nx ((q.2.set j (.own false q.1)).set i (.own false p.1))) else none := rfl
end
/-- a loop that ends at the first that does -/
theorem forGo_find {α : Type} {b : Bd} {f : Ss} (enc : α → D) (ok : α → Bool) (P : Sg → Prop) (res : α → D) : ∀ {xs : List α} {g : Sg}, (∀ a ∈ xs, ∀ g, P g → if ok a = true then ∃ g', ((b (enc a) g).bind f) = some (.rt (res a) g') else ∃ g', ((b (enc a) g).bind f) = some (.nx g') ∧ P g') → P g →
    match xs.find? ok with | some a => ∃ g', forGo b f (xs.map enc) g = some (.rt (res a) g') | none => ∃ g', forGo b f (xs.map enc) g = some (.nx g') ∧ P g'
  | [], g, _, h0 => ⟨g, rfl, h0⟩
  | x :: xs, g, H, h0 => by
    have h := H x List.mem_cons_self g h0
    rw [List.find?_cons, List.map_cons]
    unfold forGo
    cases hx : ok x with
    | true =>
      rw [hx, if_pos rfl] at h
      obtain ⟨g', e⟩ := h
      refine ⟨g', ?_⟩
      cases eb : b (enc x) g with
      | none => rw [eb] at e; cases e
      | some gb =>
        rw [eb] at e
        simp only [Option.bind_some] at e ⊢
        rw [e]; rfl
    | false =>
      rw [hx, if_neg (by decide)] at h
      obtain ⟨g', e, p⟩ := h
      have ih := forGo_find enc ok P res (xs := xs) (g := g') (fun a ha => H a (List.mem_cons_of_mem _ ha)) p
      cases eb : b (enc x) g with
      | none => rw [eb] at e; cases e
      | some gb =>
        rw [eb] at e
        simp only [Option.bind_some] at e ⊢
        rw [e]
        exact ih
theorem cut_take {xs : List D} {k : Nat} (h : k ≤ xs.length) : cutD xs none (some (k : Int)) = xs.take k := by
  unfold cutD
  rw [HT.sIx_nat]
  show (xs.drop 0).take (min k xs.length - 0) = _
  rw [List.drop_zero, Nat.sub_zero, Nat.min_eq_left h]
theorem cut_drop {xs : List D} {k : Nat} (h : k ≤ xs.length) : cutD xs (some (k : Int)) none = xs.drop k := by
  unfold cutD
  rw [HT.sIx_nat]
  show (xs.drop (min k xs.length)).take (xs.length - min k xs.length) = _
  rw [Nat.min_eq_left h]
  exact List.take_of_length_le (by rw [List.length_drop]; omega)
theorem cut_mid {xs : List D} {j k : Nat} (hj : j ≤ xs.length) (hk : k ≤ xs.length) : cutD xs (some (j : Int)) (some (k : Int)) = (xs.drop j).take (k - j) := by
  unfold cutD
  rw [HT.sIx_nat, HT.sIx_nat, Nat.min_eq_left hj, Nat.min_eq_left hk]
@[simp] theorem e_fDisp {ks : List (D × D)} {fa fb : Sf} {g : Sg} : fDisp ks fa fb g = (fa g).bind fun p => (fb p.2).bind fun q => (keyOf p.1).map fun k => ((dFind ks k).getD q.1, q.2) := rfl
end EV

set_option Elab.async false
set_option linter.all false
set_option maxRecDepth 100000
/-! EVm: dict(list of pairs). -/
namespace EV
open PySem PySem.Spec L2
/-- key and value of a pair -/
def pairD : D → Option (Key × D)
  | .tuple [k, v] => (keyOf k).map fun q => (q, v)
  | _ => none
def pairsD : List D → Option (List (Key × D))
  | [] => some []
  | d :: ds => (pairD d).bind fun p => (pairsD ds).map (p :: ·)
def oDictP : D → Option D
  | .list xs => (pairsD xs).map fun ps => .dict (ps.foldl (fun acc kv => dPut acc kv.1 kv.2) [])
  | _ => none
theorem kpair_rp {K : PySem.W.Frag} {G H : Hp} (gr : Grow G H) {v : V} {d : D} {p : Key × D} (r : Rp K G v d) (e : pairD d = some p) : ∃ a x, v = .ref a ∧ SqT K H a [kV p.1, x] ∧ Rp K G x p.2 := by
  unfold pairD at e
  split at e
  · rename_i k w
    cases hk : keyOf k with
    | none => rw [hk] at e; cases e
    | some q =>
      rw [hk] at e
      cases e
      obtain ⟨a, vs, rfl, h1, r1⟩ := Rt.tup (τ := false) gr (.inl r)
      cases r1 with
      | cons x1 t1 =>
        cases t1 with
        | cons x2 t2 =>
          cases t2
          have := Rt.key (τ := false) (H := H) (.inl x1) hk
          subst this
          exact ⟨a, _, rfl, h1, x2⟩
  · cases e
theorem kpairs_rp {K : PySem.W.Frag} {G H : Hp} (gr : Grow G H) : ∀ {vs : List V} {xs : List D} {ps : List (Key × D)}, RpL K G vs xs → pairsD xs = some ps →
    ∃ (as : List Addr) (kvs : List (Key × V)), vs = as.map V.ref ∧ Paired (fun p kv => SqT K H p [kV kv.1, kv.2]) as kvs ∧ ∀ accV accD, RpK K G accV accD → RpK K G (kvs.foldl (fun acc kv => putK acc kv.1 kv.2) accV) (ps.foldl (fun acc kv => dPut acc kv.1 kv.2) accD)
  | _, _, ps, .nil, e => by
    cases e
    exact ⟨[], [], rfl, .nil, fun _ _ r => r⟩
  | _, _, ps, .cons (d := d) r t, e => by
    unfold pairsD at e
    cases h1 : pairD d with
    | none => rw [h1] at e; cases e
    | some p =>
      rw [h1] at e
      simp only [Option.bind_some, Option.map_eq_some_iff] at e
      obtain ⟨ps', h2, rfl⟩ := e
      obtain ⟨a, x, rfl, s1, r1⟩ := kpair_rp gr r h1
      obtain ⟨as, kvs, rfl, s2, f⟩ := kpairs_rp gr t h2
      exact ⟨a :: as, (p.1, x) :: kvs, rfl, .cons s1 s2, fun accV accD ra => f _ _ (RpK.put r1 ra)⟩
section
variable {G : Gb} {c : Sx} {π τ : Bool} {a : Expr} {fa : Sf} {pos p : Pos}
theorem j_dictP (hm : G.mg "dict" = none) (ha : J G c π τ a fa) (hg : GlN c "dict" := by rfl) (hs : ∀ env, starEach [a] env = (false, eval a env) :: starEach [] env := by intro _; rfl) :
    JF G c π (.Call (.Name "dict" p) [a] [] pos) (f1 oDictP fa) := j_unF (cty1_rule (r := fun xs H Q => ∃ (a : Addr) (ps : List Addr) (kvs : List (Key × V)), xs = [.ref a] ∧ SqL G.K H a (ps.map V.ref) ∧ Paired (fun p kv => SqT G.K H p [kV kv.1, kv.2]) ps kvs ∧ ∀ p, H p = none → Q (.ref p) (upd H p (.dK (mergeK [] kvs)))) (fun X s => s.opK ▸ call_dictP s.calm) hm (by decide +kernel) hg hs (by decide) (by decide)) (fun m ex σ H g v x d Q S rv e q => by
  unfold oDictP at e
  split at e
  · rename_i xs
    cases h : pairsD xs with
    | none => rw [h] at e; cases e
    | some ps =>
      rw [h] at e
      cases e
      obtain ⟨a, vs, rfl, h1, r1⟩ := rv.lst hid_sub
      obtain ⟨as, kvs, rfl, s2, f⟩ := kpairs_rp hid_sub r1 h
      refine ⟨a, as, kvs, rfl, SqL.of h1, s2, fun l hl => q l _ (.laid S hl) (.dic upd_same ((f _ _ .nil).mono (hid_grow (fun b u e z => ?_) fun b u _ e => grow_new hl b u e).ext))⟩
      rcases exP_hd.mp z with z | z
      · exact z
      · rw [z, hl] at e; cases e
  · cases e) ha
end
/-! ### list(range(n)), tuple(range(n)) -/
abbrev rgD (n : Int) : List D := ((List.range n.toNat).map fun i => (0 : Int) + (i : Nat)).map PyData.int
def oRgL : D → Option D
  | .int n => if 0 ≤ n ∧ n ≤ 1000 then some (.list (rgD n)) else none
  | _ => none
def oRgT : D → Option D
  | .int n => if 0 ≤ n ∧ n ≤ 1000 then some (.tuple (rgD n)) else none
  | _ => none
theorem rg_ok {n : Int} (h : 0 ≤ n ∧ n ≤ 1000) : RgOk 0 n := .of_le (by omega) (by omega) (by omega) (by omega)
theorem rgV_ints {n : Int} : rgV 0 n = ((List.range n.toNat).map fun i => (0 : Int) + (i : Nat)).map V.int := by
  unfold rgV
  rw [List.map_map, Int.sub_zero]; rfl
section
variable {G : Gb} {c : Sx} {π τ : Bool} {a : Expr} {fa : Sf} {pos p pos2 p2 : Pos}
theorem j_lrng1 (hm : G.mg "list" = none) (hm2 : G.mg "range" = none) (ha : J G c π τ a fa) (hg : GlN c "list" := by rfl) (hg2 : GlN c "range" := by rfl) (na : ∀ env, starEach [.Call (.Name "range" p2) [a] [] pos2] env = (false, eval (.Call (.Name "range" p2) [a] [] pos2) env) :: starEach [] env := by intro _; rfl) (nb : ∀ env, starEach [a] env = (false, eval a env) :: starEach [] env := by intro _; rfl) :
    JF G c π (.Call (.Name "list" p) [.Call (.Name "range" p2) [a] [] pos2] [] pos) (f1 oRgL fa) :=
  j_unF (r := fun x H Q => ∃ n, x = .int n ∧ RgOk 0 n ∧ ∀ q, H q = none → Q (.ref q) (upd H q (.lst (rgV 0 n)))) (fun X s ta h => pe_listRg s.calm (s.gl hg) (s.mgN hm) (prg_1 (s.gl hg2) (s.mgN hm2) h (nb _)) (na _)) (fun m ex σ H g v x d Q S rv e q => by
    unfold oRgL at e
    split at e
    · rename_i n
      split at e
      · rename_i hn
        cases e
        refine ⟨n, rv.int, rg_ok hn, fun l hl => q l _ (.laid S hl) ?_⟩
        rw [rgV_ints]
        exact PoF.ow S hl (RpL.ofInts _)
      · cases e
    · cases e) ha
theorem j_trng1 (hm : G.mg "tuple" = none) (hm2 : G.mg "range" = none) (ha : J G c π τ a fa) (hg : GlN c "tuple" := by rfl) (hg2 : GlN c "range" := by rfl) (na : ∀ env, starEach [.Call (.Name "range" p2) [a] [] pos2] env = (false, eval (.Call (.Name "range" p2) [a] [] pos2) env) :: starEach [] env := by intro _; rfl) (nb : ∀ env, starEach [a] env = (false, eval a env) :: starEach [] env := by intro _; rfl) :
    J G c π true (.Call (.Name "tuple" p) [.Call (.Name "range" p2) [a] [] pos2] [] pos) (f1 oRgT fa) :=
  j_un (r := fun x H Q => ∃ n, x = .int n ∧ RgOk 0 n ∧ ∀ q, H q = none → Q (.ref q) (upd H q (.tup (rgV 0 n)))) (fun X s ta h => pe_tupRg s.calm (s.gl hg) (s.mgN hm) (prg_1 (s.gl hg2) (s.mgN hm2) h (nb _)) (na _)) (fun m ex σ H g v x d Q S rv e q => by
    unfold oRgT at e
    split at e
    · rename_i n
      split at e
      · rename_i hn
        cases e
        refine ⟨n, rv.int, rg_ok hn, fun l hl => ?_⟩
        rw [rgV_ints]
        exact q _ _ (.new S hl) (rp_new_tup S hl (RpL.ofInts _))
      · cases e
    · cases e) ha
end
theorem rgD_R {n : Nat} : rgD (n : Int) = R n fun i => .int (i : Nat) := by
  show ((List.range (n : Int).toNat).map _).map _ = _
  rw [List.map_map, Int.toNat_natCast]
  exact List.map_congr_left fun i _ => by show PyData.int (0 + (i : Int)) = .int (i : Nat); rw [Int.zero_add]
theorem o_RgL {n : Nat} (h : n ≤ 1000) : oRgL (.int (n : Nat)) = some (.list (R n fun i => .int (i : Nat))) := by
  show (if 0 ≤ (n : Int) ∧ (n : Int) ≤ 1000 then some (PyData.list (rgD n)) else none) = _
  rw [if_pos ⟨by omega, by omega⟩, rgD_R]
theorem o_RgT {n : Nat} (h : n ≤ 1000) : oRgT (.int (n : Nat)) = some (.tuple (R n fun i => .int (i : Nat))) := by
  show (if 0 ≤ (n : Int) ∧ (n : Int) ≤ 1000 then some (PyData.tuple (rgD n)) else none) = _
  rw [if_pos ⟨by omega, by omega⟩, rgD_R]
/-! ### d.get(k, x) -/
def fDGet2 (fo fa fb : Sf) : Sf := fun g => (fo g).bind fun p => (fa p.2).bind fun q => (fb q.2).bind fun r => match p.1 with
  | .dict ks => if scrD (.dict ks) = true then none else (keyOf q.1).map fun k => ((dFind ks k).getD r.1, r.2)
  | _ => none
theorem j_dget2 {G : Gb} {c : Sx} {π1 τ1 τ2 : Bool} {o a b : Expr} {fo fa fb : Sf} {pos apos : Pos} (ho : J G c π1 τ1 o fo) (ha : J G c true τ2 a fa) (hb : J G c true true b fb) (hM : ∀ X : Cx, M2 X o "get" apos a b pos := by intro X; exact ⟨rfl, rfl, rfl, rfl⟩) :
    J G c π1 true (.Call (.Attribute o "get" apos) [a, b] [] pos) (fDGet2 fo fa fb) := fun X s =>
  pe_weak (pe_dget2 s.units1 (ho X s) (ha X s) (hb X s) (hM X)) fun σ H Q ⟨m, ex, g, d, g', S, e, q⟩ => by
    unfold fDGet2 at e
    cases h1 : fo g with
    | none => simp [h1] at e
    | some y =>
      simp only [h1, Option.bind_some] at e
      cases h2 : fa y.2 with
      | none => simp [h2] at e
      | some z =>
        simp only [h2, Option.bind_some] at e
        cases h3 : fb z.2 with
        | none => simp [h3] at e
        | some w =>
          simp only [h3, Option.bind_some] at e
          split at e
          · rename_i ks hks
            split at e
            · cases e
            · rename_i hs
              have hs : scrD (.dict ks) = false := by simpa using hs
              cases hk : keyOf z.1 with
              | none => rw [hk] at e; cases e
              | some k =>
                rw [hk] at e
                cases e
                refine ⟨m, ex, g, y.1, y.2, S, h1, fun v H1 p1 r1 => ?_⟩
                rw [hks] at r1
                obtain ⟨a, vs, rfl, h4, _⟩ := r1.weak.dic' hid_sub hs
                refine ⟨a, rfl, .inl ⟨vs, h4⟩, m, ex, y.2, z.1, z.2, p1.sr, h2, fun u H2 p2 r2 => ⟨m, ex, z.2, w.1, w.2, p2.sr, h3, fun x H3 p3 r3 => ?_⟩⟩
                have rr := (r1.carry p2 (.inr rfl)).carry p3 (.inr rfl)
                obtain ⟨a', vs', e', h5, rk⟩ := rr.weak.dic' hid_sub hs
                cases e'
                have ev := r2.key hk
                have P : Po G.K m ex σ H g π1 w.2 H3 := ((p1.trans p2).trans p3).weak (by simp)
                refine ⟨valV vs' k, .inl ⟨vs', k, h5, ev, rfl⟩, ?_⟩
                obtain ⟨f1, f2⟩ := RpK.find (k := k) rk
                cases hf : dFind ks k with
                | none => rw [hf] at q; rw [f2 hf]; exact q x H3 P r3
                | some dd =>
                  rw [hf] at q
                  obtain ⟨x', hx, rx⟩ := f1 dd hf
                  rw [hx]
                  exact q x' H3 P (.of rx)
          · cases e
@[simp] theorem e_fDGet2 {fo fa fb : Sf} {g : Sg} : fDGet2 fo fa fb g = (fo g).bind fun p => (fa p.2).bind fun q => (fb q.2).bind fun r => match p.1 with
  | .dict ks => if scrD (.dict ks) = true then none else (keyOf q.1).map fun k => ((dFind ks k).getD r.1, r.2)
  | _ => none := rfl
/-! ### t < u, tuples of whole numbers -/
def oLtT : D → D → Option Bool
  | .tuple xs, .tuple ys => (intsOf xs).bind fun ns => (intsOf ys).map fun ms => HT.lexLt ns ms
  | _, _ => none
theorem ok_ltT {K : PySem.W.Frag} : Ok2 K (rLtT K) (oB oLtT) := fun m ex σ H g v w x y d Q S rv rw' e q => by
  unfold oB oLtT at e
  split at e
  · rename_i xs ys
    cases h1 : intsOf xs with
    | none => rw [h1] at e; cases e
    | some ns =>
      cases h2 : intsOf ys with
      | none => rw [h1, h2] at e; cases e
      | some ms =>
        rw [h1, h2] at e
        cases e
        have e1 := of_intsOf h1
        have e2 := of_intsOf h2
        subst e1; subst e2
        obtain ⟨a, vs, rfl, t1, r1⟩ := rv.tup hid_sub
        obtain ⟨b, ws, rfl, t2, r2⟩ := rw'.tup hid_sub
        rw [RpL.ints r1] at t1
        rw [RpL.ints r2] at t2
        exact ⟨a, b, ns, ms, rfl, rfl, t1, t2, q _ _ (.refl S) (.bl _)⟩
  · cases e
theorem jt_ltT {G : Gb} {c : Sx} {π1 π2 τ2 : Bool} {a b : Expr} {fa fb : Sf} {pos : Pos} (ha : J G c π1 true a fa) (hb : J G c π2 τ2 b fb) : JT G c (π1 && π2) (.Compare a [.Lt] [b] pos) (t2 oLtT fa fb) := jt_cmp (fun X s => s.opK ▸ op_ltT (by have := s.units65; omega)) ok_ltT ha hb
theorem o_LtT {ns ms : List Int} : oLtT (.tuple (ns.map .int)) (.tuple (ms.map .int)) = some (HT.lexLt ns ms) := by
  show ((intsOf _).bind fun ns => (intsOf _).map fun ms => HT.lexLt ns ms) = _
  rw [intsOf_map, intsOf_map]; rfl
end EV

set_option Elab.async false
set_option linter.all false
set_option maxRecDepth 100000
/-! EVn: len({x[:2]: True for x in it}), keys that are tuples. -/
namespace L2
open PySem PySem.Spec PyProof.Rows
/-- D[y] = v by a comprehension, D a dict with tuple keys -/
theorem d_dictSetT {X : Cx} {pins : List (Addr × Obj)} {σ : St} {H H' : Hp} {s : Shared} {E : Value → Shared → Prop} {D : Addr} {y v : V} {u r : Value} {Q : Unit → Shared → Prop} (hu : X.A.units + 1 < cLine) (I : Inv X pins σ H s)
    (g : ∃ kvs k b, H D = some (.dT kvs) ∧ y = .ref b ∧ H b = some (.tup (k.map kV)) ∧ kvs.length < sizeLine ∧ H' = upd H D (.dT (putK kvs k v))) (ry : RelV y u) (rv : RelV v r) (h : ∀ s', Inv X pins σ H' s' → Q () s') : wpAny (model X.prog X.w) X.A (dictSet D u r) Q E s := by
  obtain ⟨kvs, k, b, isD, rfl, isK, room, rfl⟩ := g
  have eu : u = Value.ref b := ry
  obtain ⟨_, lo, ent, same, held⟩ := dt_of I.hok isD
  have few : ent.length ≤ sizeLine := Paired.length same ▸ Nat.le_of_lt room
  have grown := Nat.le_trans (length_putK kvs k v) (show kvs.length + 1 ≤ sizeLine from room)
  rw [eu]
  refine wpAny_dictSet_heap (hsz := few) (show X.A.units < cLine by omega) (key_of I.hok isK) held fun h2 d2 but => h _ ?_
  obtain ⟨ob, es, ep, at2, ex2, dat2, ent2, _, nod⟩ := d2
  have tups : ∀ c ys, H c = some (.tup ys) → upd H D (.dT (putK kvs k v)) c = some (.tup ys) := fun c ys ec => (upd_ne (ne_of ec isD nofun)).trans ec
  exact d_write I (isD ▸ True.intro) but ⟨ob, at2⟩ ⟨grown, lo, _, (same.put k isK rv).keeps tups, ob, es, ep, at2, ex2, dat2, ent2, nod⟩
section
variable {X : Cx}
/-- something of every block of the comprehension -/
def Bk (X : Cx) (scope : Scope) (P : Cx → Prop) : Prop := ∀ s H C cl fp, P (X.blk s H scope (compEnvC scope cl C X.env) fp)
/-- {key: v for target in it}, the keys new tuples: D the dict, W the turns -/
def tKeys (wi : TI) (g : TG) (tk : TE) (v : V) (vs : List Nat) : TE := fun σ H Q => wi σ H fun J H1 => ∀ D, H1 D = none →
  ∃ W : Nat → Nat → Hp → Prop, (∃ m, W 0 m (upd H1 D (.dT []))) ∧ ∀ i m H, W i m H → (J.stop i H ∧ Q (.ref D) H) ∨
    (J.go i H ∧ ∃ N : Hp → Prop, (∀ H', N H' → ∃ m', m' < m ∧ W (i + 1) m' H') ∧ ∀ x H', J.yld i H x H' → g x (wipe σ vs) H' fun σ2 H2 =>
      wipe σ2 vs = wipe σ vs ∧ tk σ2 H2 fun y H3 => ∃ H4, (∃ kvs k b, H3 D = some (.dT kvs) ∧ y = .ref b ∧ H3 b = some (.tup (k.map kV)) ∧ kvs.length < sizeLine ∧ H4 = upd H3 D (.dT (putK kvs k v))) ∧ N H4)
theorem pe_keys {kx vx tg it : Expr} {scope : Scope} {own : List (Str × Nat)} {pos : Pos} {wi : TI} {g : TG} {tk : TE} {v : V} (room : X.A.units + 1 < cLine) (calm : X.calm = true) (nd : X.N.Nodup) (bo : BlkOk X.N X.env.scope scope own)
    (pi : PI X tg it wi) (pg : Bk X scope fun Y => PG Y tg g) (pk : Bk X scope fun Y => PE Y kx tk) (pv : Bk X scope fun Y => PE Y vx (tC v)) (fold : ∀ x, foldedSetIterable it X.env x = pure x) :
    PE X (.DictComp kx vx [⟨tg, it, [], 0⟩] scope pos) (tKeys wi g tk v (own.map (·.2))) := ⟨fun pins s σ H Q I want => by
  rw [arm_eval_DictComp]
  refine wpAny_comprehension_free rfl fold (closure_ok fun y hy e => (bo.free y hy e).elim (fun z => I.ok.has _ (.inl z)) fun z => I.ok.has _ (.inr z)) bo.kind (fun y hy e => by rw [bo.uniq y hy, e]) ?_
  refine thn (pi.run pins s σ H _ I want) fun _ s1 w1 => thn w1 fun _ s2 ⟨at', fp, tn, J, Ha, ev, Ia, T, ta, fa, want2⟩ => ?_
  cases ev
  refine wpAny_newObj_type (newEnv_comp ?_)
  have fresh : Ha s2.heap.objs.size = none := Ia.hok.fresh (Nat.le_refl _)
  obtain ⟨W, ⟨m0, first⟩, turns⟩ := want2 _ fresh
  -- the heap with the new dict
  have big : ∀ b o, s2.heap.get? b = some o → (s2.heap.push { cls := .type "dict", data := .dict #[] }).get? b = some o := fun _ _ e => Heap.get?_push_of_some _ e
  obtain ⟨sb, hsb⟩ : ∃ sb : Shared, sb = { s2 with heap := s2.heap.push { cls := .type "dict", data := .dict #[] } } := ⟨_, rfl⟩
  obtain ⟨Hb, hHb⟩ : ∃ Hb, Hb = upd Ha s2.heap.objs.size (.dT []) := ⟨_, rfl⟩
  have Ib : Inv X pins σ Hb sb := by subst hsb hHb; exact Ia.laid (t' := s2.toks) big (Nat.le_refl _) (dt_empty s2.heap Ia.big)
  have low : ∀ b ∈ fp, b < s2.heap.objs.size := fun b hb => let ⟨_, e, _⟩ := T.obj _ _ ta b hb; Heap.lt_size e
  have fb : ∀ b ∈ fp, FpOk X pins Hb b ∧ b < sb.heap.objs.size := fun b hb => by
    have lt := low b hb
    have h1 : Hb b = none := by subst hHb; rw [upd_ne (Nat.ne_of_lt lt)]; exact (fa b hb).1
    have h2 : b < sb.heap.objs.size := by subst hsb; exact Nat.lt_of_lt_of_le lt (by rw [Heap.size_push]; exact Nat.le_succ _)
    exact ⟨⟨h1, (fa b hb).2⟩, h2⟩
  have tb : tn 0 sb.heap := by subst hsb; exact T.keep _ _ _ ta fun b _ o e => big b o e
  have Ic := block_start Ib bo nd fb
  obtain ⟨cells, hcells⟩ : ∃ cells, cells = cellsFrom (sb.heap.objs.size + 1) scope.names (cloFrom X.env.cells scope.names []) := ⟨_, rfl⟩
  have gG := pg sb Hb sb.heap.objs.size cells fp
  have gK := pk sb Hb sb.heap.objs.size cells fp
  have gV := pv sb Hb sb.heap.objs.size cells fp
  rw [← hcells] at Ic
  obtain ⟨env, henv⟩ : ∃ env, env = compEnvC scope cells sb.heap.objs.size X.env := ⟨_, rfl⟩
  have le : env.locals = sb.heap.objs.size := by subst henv; rfl
  obtain ⟨sc, hsc⟩ : ∃ sc : Shared, sc = { sb with heap := pushCells (sb.heap.push { cls := .type "dict", data := .dict #[] }) scope.names } := ⟨_, rfl⟩
  rw [← henv] at Ic gG gK gV
  rw [← hsc] at Ic
  have tc : tn 0 sc.heap := by subst hsc; exact T.keep _ _ _ tb fun b _ o e => pushCells_keeps _ _ _ _ (Heap.get?_push_of_some _ e)
  have okp : ∀ {σ' : St} {H' : Hp} {s' : Shared}, Inv (X.blk sb Hb scope env fp) [] σ' H' s' → (∀ b ∈ fp, H' b = none) → ∀ b ∈ fp, FpOk (X.blk sb Hb scope env fp) [] H' b := fun I' no b hb =>
    ⟨no b hb, (I'.ok.exf b hb).1, I'.ok.exfs b hb, .inl hb, fun x c e => (I'.ok.exf b hb).2 x c e, fun p hp => absurd hp (by intro z; cases z)⟩
  have run : codeAny (model X.prog X.w) X.A (.compLoop (.DictComp kx vx [⟨tg, it, [], 0⟩] scope pos) 0 (.ref at') (.ref s2.heap.objs.size) env)
      (compPost (model X.prog X.w) X.A X.xe none (EP X pins σ Q) (.ref s2.heap.objs.size) sb.heap.objs.size) sc := by
    refine compLoop_anyD (fun n s' => ∃ i Hn, Inv (X.blk sb Hb scope env fp) [] (wipe σ (own.map (·.2))) Hn s' ∧ tn i s'.heap ∧ (∀ b ∈ fp, Hn b = none) ∧ W i n Hn) ?_ m0 ⟨0, Hb, Ic, tc, fun b hb => (fb b hb).1.1, by subst hHb; exact first⟩
    rintro n s5 ⟨i, Hn, In, tN, no, wN⟩
    rcases turns i n Hn wN with ⟨halt, done⟩ | ⟨more, N, down, step⟩
    · -- the end
      refine thnF (T.done (X.blk sb Hb scope env fp) rfl rfl rfl calm i [] s5 _ Hn (fun _ _ => False) In (okp In no) tN halt) fun r s6 ⟨er, Ie⟩ => ?_
      cases er
      have back : Inv X pins σ Hn s6 := Ib.call' (ch := fp) Ie.os Ie.base Ie.hok Ie.bare fun b hb => let f := (fb b hb).1; ⟨f.2.2.2.1, f.2.1, f.2.2.2.2.1, f.2.2.2.2.2⟩
      have nL : Hn sb.heap.objs.size = none := le ▸ (Ie.free : Hn env.locals = none)
      obtain ⟨mm, loc, _⟩ := Ie.loc
      have loc : s6.heap.Ns sb.heap.objs.size mm := le ▸ (loc : s6.heap.Ns env.locals mm)
      obtain ⟨f0, f1, f2, f3, f4, f5⟩ := Ib.fpOk (Nat.le_refl _) nL
      exact ⟨mm, loc, fun h'' same => ⟨.ref s2.heap.objs.size, Hn, back.turned (t' := s6.toks) (fun b o nb e => (same.2 b nb).trans e) f0 f1 f3 f4 f5, rfl, done⟩⟩
    · -- a turn
      refine thnF (T.item (X.blk sb Hb scope env fp) rfl rfl rfl calm i [] s5 _ Hn (fun _ _ => False) In (okp In no) tN more) fun r s6 ⟨u, er, w6⟩ => ?_
      cases er
      refine thnF w6 fun _ s7 ⟨x, H7, I7, rx, yx, t7, no7⟩ => thnF (gG.run _ s7 _ H7 x u _ (I7.pinned (okp I7 no7) (T.obj _ _ t7)) rx (step x H7 yx)) fun _ s8 ⟨σ8, H8, I8, wsame, w8⟩ => ?_
      refine wpAny_pure ?_
      rw [if_pos rfl]
      refine thnF (gK.run _ s8 σ8 H8 _ I8 w8) fun y9 s9 ⟨yk, H9, I9, r9, H10, dp, nx⟩ => thnF (gV.run _ s9 σ8 H9 (fun z Hz => z = v ∧ Hz = H9) I9 ⟨rfl, rfl⟩) fun z9 s10 ⟨yv, Hz, I10, r10, ez, eH⟩ => ?_
      cases ez
      subst eH
      refine d_dictSetT (X := X.blk sb Hb scope env fp) room I10 dp r9 r10 fun s11 I11 => ?_
      obtain ⟨m', lt, wNext⟩ := down _ nx
      have keep : ∀ b ∈ fp, ∀ o, s7.heap.get? b = some o → s11.heap.get? b = some o ∧ H10 b = none := fun b hb o e =>
        let z := I11.pin (b, o) (List.mem_append_right _ (List.mem_append_right _ (mem_pinsAt hb e))); ⟨z.1, z.2.1⟩
      refine ⟨m', lt, i + 1, H10, (I11.unpinned (pins := [])).weak (by rw [← wsame, wipe_length]) (fun j w e => (wipe_some (wsame ▸ e)).1), T.keep _ _ _ t7 fun b hb o e => (keep b hb o e).1, fun b hb => ?_, wNext⟩
      obtain ⟨o, e, _⟩ := T.obj _ _ t7 b hb
      exact (keep b hb o e).2
  have fin := codeAny_compStart_dict (rest := []) run (T.self X.A 0 _ _ _ tc run)
  subst hsc henv hcells hsb
  exact fin⟩
end
end L2
namespace EV
open PySem PySem.Spec L2
/-- a key that is a new tuple -/
def TK (K : PySem.W.Frag) (f : Sg → Option (List Key × Sg)) : TE := fun σ H Q => ∃ m ex g ks g', SR K m ex σ H g ∧ f g = some (ks, g') ∧ ∀ b H', Po K m ex σ H g true g' H' → H' b = some (.tup (ks.map kV)) → ¬ Hd m ex b → Q (.ref b) H'
def JK (G : Gb) (c : Sx) (e : Expr) (f : Sg → Option (List Key × Sg)) : Prop := ∀ X, SX G c X → PE X e (TK G.K f)
/-- x[:2] -/
def fSl2 (fa : Sf) : Sg → Option (List Key × Sg) := fun g => (fa g).bind fun p => match p.1 with
  | .tuple (d1 :: d2 :: _ :: _) => (keyOf d1).bind fun k1 => (keyOf d2).map fun k2 => ([k1, k2], p.2)
  | _ => none
theorem jk_sl2 {G : Gb} {c : Sx} {a : Expr} {fa : Sf} {kk : Nat} {p q pos : Pos} (ha : J G c true true a fa) : JK G c (.Subscript a (.Slice none (some (.Constant (.int 2) kk q)) none p) pos) (fSl2 fa) := fun X s =>
  pe_weak (pe_slice sl_tup (ha X s) po_none (po_some pe_int)) fun σ H Q ⟨m, ex, g, ks, g', S, e, w⟩ => by
    unfold fSl2 at e
    cases h1 : fa g with
    | none => simp [h1] at e
    | some y =>
      simp only [h1, Option.bind_some] at e
      split at e
      · rename_i d1 d2 d3 dr hy
        cases hk1 : keyOf d1 with
        | none => simp [hk1] at e
        | some k1 =>
          cases hk2 : keyOf d2 with
          | none => simp [hk1, hk2] at e
          | some k2 =>
            simp only [hk1, hk2, Option.bind_some, Option.map_some, Option.some.injEq] at e
            cases e
            refine ⟨m, ex, g, y.1, y.2, S, h1, fun v H1 p1 r1 => ?_⟩
            rw [hy] at r1
            obtain ⟨t, vs, rfl, h2, rr⟩ := r1.weak.tup hid_sub
            cases rr with
            | cons x1 t1 =>
              cases t1 with
              | cons x2 t2 =>
                have e1 := Rt.key (τ := false) (H := H1) (.inl x1) hk1
                have e2 := Rt.key (τ := false) (H := H1) (.inl x2) hk2
                subst e1; subst e2
                rename_i vr
                have hl : vr.length = dr.length + 1 := by have := t2.length; simpa using this
                refine ⟨2, rfl, t, _, rfl, by rw [s.opK]; exact h2, ?_, fun b nb => ?_⟩
                · rintro ⟨_, z⟩
                  have : HT.sIx (kV k1 :: kV k2 :: vr).length (kV k1 :: kV k2 :: vr).length (some ((2 : Nat) : Int)) = (kV k1 :: kV k2 :: vr).length := z
                  rw [HT.sIx_nat] at this
                  simp only [List.length_cons] at this
                  omega
                · have ec : cutV (kV k1 :: kV k2 :: vr) none (some ((2 : Nat) : Int)) = [k1, k2].map kV := by
                    unfold cutV
                    rw [HT.sIx_nat]
                    show (List.take _ (List.drop 0 _)) = _
                    rw [Nat.min_eq_left (by simp only [List.length_cons]; omega)]
                    rfl
                  have ec : cutV (kV k1 :: kV k2 :: vr) none (some (2 : Int)) = [k1, k2].map kV := ec
                  rw [ec]
                  have nh : ¬ Hd m ex b := fun z => by
                    obtain ⟨u, eu⟩ := p1.sr.hdl z
                    rw [nb] at eu; cases eu
                  exact w b _ ((p1.trans (Po.new (π := true) p1.sr nb)).weak (by simp)) upd_same nh
      · cases e
def dcKGo (b : Bd) (fk : Sg → Option (List Key × Sg)) (vs : List Nat) : List D → List (List Key) → Sg → Option (List (List Key) × Sg)
  | [], acc, g => some (acc, g)
  | d :: ds, acc, g => (b d g).bind fun g1 => (fk g1).bind fun p => if acc.length < sizeLine then dcKGo b fk vs ds (if (acc.any fun x => decide (x = p.1)) = true then acc else acc ++ [p.1]) (wipeG p.2 vs) else none
def fLenDc (it : Si) (b : Bd) (fk : Sg → Option (List Key × Sg)) (vs : List Nat) : Sf := fun g => (it g).bind fun p => if noOwn p.2 vs = true then (dcKGo b fk vs p.1 [] (wipeG p.2 vs)).map fun r => (.int (r.1.length : Nat), backG p.2 r.2 vs) else none
theorem keys_putK {kvs : List (List Key × V)} {k : List Key} {v : V} : (putK kvs k v).map (·.1) = if ((kvs.map (·.1)).any fun x => decide (x = k)) = true then kvs.map (·.1) else kvs.map (·.1) ++ [k] := by
  unfold putK
  rw [List.any_map]
  by_cases h : (kvs.any fun kv => decide (kv.1 = k)) = true
  · rw [if_pos h, if_pos (by exact h), List.map_map]
    refine List.map_congr_left fun p _ => ?_
    show (if p.1 = k then (p.1, v) else p).1 = p.1
    split <;> rfl
  · rw [if_neg h, if_neg (by exact h), List.map_append]; rfl
/-- a comprehension of tuple keys over it -/
theorem dct_it {J : L2.It} {n : Nat} {Gd : Hp → Prop} {Y : Nat → Hp → V → Hp → Prop} (w : Walk J n Gd Y) {g : TG} {tk : TE} {v : V} {vs : List Nat} {σ : L2.St} {H1 : Hp} {D : Addr} {Qd : Hp → Prop} (Pv : Nat → Hp → Prop) (h0 : Pv 0 (upd H1 D (.dT []))) (hG : ∀ i H, i ≤ n → Pv i H → Gd H)
    (hs : ∀ i x H H', i < n → Pv i H → Y i H x H' → g x (L2.wipe σ vs) H' fun σ2 H2 => L2.wipe σ2 vs = L2.wipe σ vs ∧ tk σ2 H2 fun y H3 => ∃ H4, (∃ kvs k b, H3 D = some (.dT kvs) ∧ y = .ref b ∧ H3 b = some (.tup (k.map kV)) ∧ kvs.length < sizeLine ∧ H4 = upd H3 D (.dT (putK kvs k v))) ∧ Pv (i + 1) H4) (hd : ∀ H, Pv n H → Qd H) :
    ∃ W : Nat → Nat → Hp → Prop, (∃ m, W 0 m (upd H1 D (.dT []))) ∧ ∀ i m H, W i m H →
      (J.stop i H ∧ Qd H) ∨ (J.go i H ∧ ∃ Nx : Hp → Prop, (∀ H', Nx H' → ∃ m', m' < m ∧ W (i + 1) m' H') ∧ ∀ x H', J.yld i H x H' → g x (L2.wipe σ vs) H' fun σ2 H2 => L2.wipe σ2 vs = L2.wipe σ vs ∧ tk σ2 H2 fun y H3 => ∃ H4, (∃ kvs k b, H3 D = some (.dT kvs) ∧ y = .ref b ∧ H3 b = some (.tup (k.map kV)) ∧ kvs.length < sizeLine ∧ H4 = upd H3 D (.dT (putK kvs k v))) ∧ Nx H4) := by
  refine ⟨fun i m H => m = n - i ∧ i ≤ n ∧ Pv i H, ⟨n, by simp, Nat.zero_le _, h0⟩, ?_⟩
  rintro i m H ⟨rfl, hi, p⟩
  have q := hG i H hi p
  by_cases hlt : i < n
  · exact .inr ⟨w.goes i H hlt q, Pv (i + 1), fun H' p' => ⟨n - (i + 1), by omega, rfl, hlt, p'⟩, fun x H' y => hs i x H H' hlt p (w.yields i H x H' hlt q y)⟩
  · have e : i = n := by omega
    subst e
    exact .inl ⟨w.stops H q, hd H p⟩
section
variable {G : Gb} {c : Sx} {pos pos3 p : Pos} {π1 : Bool} {kx tg it : Expr} {scope : Scope} {fit : Si} {b : Bd} {fk : Sg → Option (List Key × Sg)} {ts : List Nat} {bv : Bool} {kk : Nat} {q : Pos}
theorem j_lenDc (own : List (Str × Nat)) (hm : G.mg "len" = none) (hi : JI G c π1 tg it fit) (hg : JG G (blkX c scope) tg ts b) (hk : JK G (blkX c scope) kx fk) (ok : blkC c.N c.sc scope own = true := by decide +kernel) (hts : ∀ t ∈ ts, t ∈ own.map (·.2) := by decide)
    (hs : ∀ env x, foldedSetIterable it env x = pure x := by intro _ _; rfl) (hgl : GlN c "len" := by rfl) (hse : ∀ env, starEach [.DictComp kx (.Constant (.bool bv) kk q) [⟨tg, it, [], 0⟩] scope pos3] env = (false, eval (.DictComp kx (.Constant (.bool bv) kk q) [⟨tg, it, [], 0⟩] scope pos3) env) :: starEach [] env := by intro _; rfl) :
    J G c π1 true (.Call (.Name "len" p) [.DictComp kx (.Constant (.bool bv) kk q) [⟨tg, it, [], 0⟩] scope pos3] [] pos) (fLenDc fit b fk (own.map (·.2))) := fun X s =>
  pe_weak (cb1_rule (r := rLenT) (fun X s => call_len_dT) hm PySem.boot_len hgl hse (by decide) (by decide) (by intro _; rfl) X s _ (pe_keys (v := .bl bv) s.units1 s.calm (by rw [s.N]; exact s.nd) (by rw [s.N, s.sc]; exact blkOk_by ok) (hi X s) (fun st H C cl fp => hg _ (s.blk st H scope C cl fp)) (fun st H C cl fp => hk _ (s.blk st H scope C cl fp)) (fun st H C cl fp => pe_bl) (hs _))) fun σ H Q h => by
    obtain ⟨m, ex, g, d, g', S, e, qq⟩ := h
    unfold fLenDc at e
    cases h1 : fit g with
    | none => simp [h1] at e
    | some y =>
      simp only [h1, Option.bind_some] at e
      split at e
      · rename_i hno
        cases h2 : dcKGo b fk (own.map (·.2)) y.1 [] (wipeG y.2 (own.map (·.2))) with
        | none => simp [h2] at e
        | some r =>
          rw [h2] at e
          cases e
          refine ⟨m, ex, g, y.1, y.2, S, h1, fun J H1 p1 itd => ?_⟩
          intro D nD
          obtain ⟨Y, wk, hY⟩ := itd
          have mv := noOwn_m p1.sr hno
          have hp : exP ex D D := .inr rfl
          refine dct_it wk (fun i H => ∃ gi acc, LcI G.K m ex σ H1 y.2 (own.map (·.2)) D true H gi (.dT acc) ∧ dcKGo b fk (own.map (·.2)) (y.1.drop i) (acc.map (·.1)) gi = some r)
            ⟨_, [], .start p1.sr nD mv, h2⟩ (fun i H _ ⟨gi, acc, I, _⟩ => I.vis) ?_ ?_
          · rintro i x H H' hlt ⟨gi, acc, I, e3⟩ yy
            obtain ⟨gr, dd, hdd, rx⟩ := hY i H x H' (Hd m (exP ex D)) I.vis (fun c u e z => (exP_hd.mp z).elim _root_.id fun z => by rw [z, nD] at e; cases e) (fun c z => I.sr.hdl z) hlt yy
            rw [drop_cons hdd] at e3
            unfold dcKGo at e3
            cases hb : b dd gi with
            | none => simp [hb] at e3
            | some g2 =>
              cases hq : fk g2 with
              | none => simp [hb, hq] at e3
              | some tq =>
                simp only [hb, hq, Option.bind_some] at e3
                split at e3
                · rename_i hz
                  refine ⟨m, exP ex D, gi, dd, g2, I.sr.grow gr, rx, hb, fun m' σ2 pt => ?_⟩
                  have em : m' = m := by
                    funext j
                    by_cases hj : j ∈ ts
                    · rw [pt.mi j hj, mv j (hts j hj)]
                    · exact pt.mo j hj
                  subst em
                  refine ⟨?_, m', exP ex D, g2, tq.1, tq.2, pt.sr, hq, fun kb H4 p4 hb4 nb => ?_⟩
                  · rw [← wipe_idem (σ := σ)]
                    exact wipe_eq pt.ls fun j hj => pt.so j fun z => hj (hts j z)
                  have a' : H' D = some (.dT acc) := gr _ _ I.at'
                  refine ⟨_, ⟨acc, tq.1, kb, by rw [p4.exk D hp]; exact a', rfl, hb4, by rw [← List.length_map (·.1)]; exact hz, rfl⟩, wipeG tq.2 (own.map (·.2)), putK acc tq.1 (.bl bv), ?_, ?_⟩
                  · exact I.turn p1.sr nD mv hts gr pt p4
                  · rw [keys_putK]; exact e3
                · cases e3
          · rintro H2 ⟨gi, acc, I, e3⟩
            rw [List.drop_length] at e3
            cases e3
            refine ⟨D, acc, rfl, I.at', ?_⟩
            have po := (I.fin p1 nD mv).po
            rw [Bool.and_true] at po
            have el : acc.length = (acc.map (·.1)).length := (List.length_map ..).symm
            rw [el]
            exact qq _ _ po (.of (.int _))
      · cases e
end
/-! ### sum of a tuple -/
def rSumT (K : PySem.W.Frag) : List V → Hp → VK → Prop := fun vs H Q => ∃ (a : Addr) (ns : List Int), vs = [V.ref a] ∧ SqT K H a (ns.map V.int) ∧ Q (.int ns.sum) H
theorem cr_sumT {X : Cx} (calm : X.calm = true) : CallR X (.builtin "sum") (rSumT X.K) := by
  intro pins s σ H vs us Q I r w
  obtain ⟨a, ns, rfl, isT, q⟩ := w
  obtain ⟨its, same, tup, _⟩ := I.tuple isT
  obtain ⟨xs, eq⟩ := same.ints.allInts.items
  have nums : numsOf (intItems xs).toList = ns := eq ▸ same.ints.numsOf
  rw [nums_intItems] at nums
  obtain ⟨o, ho, hc, k, hd⟩ := tup
  rw [Vals.ref1 r]
  refine PySem.W.ktm_sumG (xs := xs) (I.ok.hd calm) ⟨o, ho, hc, k, eq ▸ hd⟩ fun h' tk t' keep => ?_
  rw [preSum_eq, List.take_of_length_le (by simp), nums]
  exact ⟨.int _, H, I.kept keep, ⟨_, rfl⟩, q⟩
def oSumT : D → Option D
  | .tuple xs => (intsOf xs).map fun ns => .int ns.sum
  | _ => none
theorem j_sumT {G : Gb} {c : Sx} {π τ : Bool} {a : Expr} {fa : Sf} {p pos : Pos} (hm : G.mg "sum" = none) (ha : J G c π τ a fa) (hg : GlN c "sum" := by rfl) (hs : ∀ env, starEach [a] env = (false, eval a env) :: starEach [] env := by intro _; rfl) :
    J G c π true (.Call (.Name "sum" p) [a] [] pos) (f1 oSumT fa) := j_un (cb1_rule (r := rSumT G.K) (fun X s => s.opK ▸ cr_sumT s.calm) hm (by decide +kernel) hg hs (by decide) (by decide)) (fun m ex σ H g v x d Q S rv e q => by
  unfold oSumT at e
  split at e
  · rename_i xs
    cases h : intsOf xs with
    | none => rw [h] at e; cases e
    | some ns =>
      rw [h] at e
      cases e
      have en := of_intsOf h
      subst en
      obtain ⟨t, vs, rfl, h1, r1⟩ := rv.tup hid_sub
      rw [RpL.ints r1] at h1
      exact ⟨t, ns, rfl, h1, q _ _ (.refl S) (.int _)⟩
  · cases e) ha
theorem o_SumT {ns : List Int} : oSumT (.tuple (ns.map .int)) = some (.int ns.sum) := by
  show (intsOf _).map _ = _
  rw [intsOf_map]; rfl
end EV

set_option Elab.async false
set_option linter.all false
/-! N32: guests in one aisle; plain. -/
namespace W32
abbrev Gu := Nat × Int × Nat
def gG (gs : List Gu) (k : Nat) : Gu := gs.getD k (0, 0, 0)
/-- how far a seat is from the aisle -/
def ab (x : Int) : Int := if x < 0 then -x else x
def inW (g o : Gu) : Bool := decide (o.1 = g.1) && (decide (0 < o.2.1 * g.2.1) && decide (ab o.2.1 < ab g.2.1))
def stn (pre : List Gu) (g : Gu) : Nat := (pre.filter (inW g)).length
/-! ### the aisle -/
section
variable (row w : Nat → Nat)
def mn (fr : Nat → Nat) : Nat → Nat
  | 0 => fr 1
  | j + 1 => if mn fr j + 1 < fr (j + 2) then fr (j + 2) else mn fr j + 1
def nx (fr : Nat → Nat) (r s p : Nat) : Nat := if p = r then s else if 1 ≤ p ∧ p < r then mn fr p else fr p
def Fq : Nat → Nat → Nat
  | 0 => fun _ => 0
  | k + 1 => nx (Fq k) (row k) (mn (Fq k) (row k - 1) + w k)
def Mq (k j : Nat) : Nat := mn (Fq row w k) j
def Sq (k : Nat) : Nat := mn (Fq row w k) (row k - 1) + w k
end
def mx (f : Nat → Nat) : Nat → Nat
  | 0 => 0
  | n + 1 => if mx f n < f n then f n else mx f n
theorem mx_ge {f : Nat → Nat} : ∀ {n k : Nat}, k < n → f k ≤ mx f n
  | n + 1, k, h => by
    show f k ≤ if mx f n < f n then f n else mx f n
    by_cases e : k = n
    · rw [e]; split <;> omega
    · have := mx_ge (f := f) (n := n) (k := k) (by omega)
      split <;> omega
theorem mx_le {f : Nat → Nat} {b : Nat} : ∀ {n : Nat}, (∀ k, k < n → f k ≤ b) → mx f n ≤ b
  | 0, _ => Nat.zero_le _
  | n + 1, h => by
    have h1 := h n (by omega)
    have h2 := mx_le (f := f) (b := b) (n := n) fun k hk => h k (by omega)
    show (if mx f n < f n then f n else mx f n) ≤ b
    split <;> omega
theorem mx_congr {f g : Nat → Nat} : ∀ {n : Nat}, (∀ k, k < n → f k = g k) → mx f n = mx g n
  | 0, _ => rfl
  | n + 1, h => by
    show (if mx f n < f n then f n else mx f n) = if mx g n < g n then g n else mx g n
    rw [mx_congr (n := n) fun k hk => h k (by omega), h n (by omega)]
section
variable {row w row' w' : Nat → Nat} {fr fr' : Nat → Nat} {i j k n p r s : Nat}
theorem mn_ge : fr (j + 1) ≤ mn fr j := by
  cases j with
  | zero => exact Nat.le_refl _
  | succ j => show fr (j + 2) ≤ if mn fr j + 1 < fr (j + 2) then fr (j + 2) else mn fr j + 1; split <;> omega
theorem mn_lt : mn fr j + 1 ≤ mn fr (j + 1) := by
  show _ ≤ if mn fr j + 1 < fr (j + 2) then fr (j + 2) else mn fr j + 1
  split <;> omega
theorem mn_up : ∀ {d : Nat}, mn fr j + d ≤ mn fr (j + d)
  | 0 => Nat.le_refl _
  | d + 1 => by
    have h1 := mn_up (d := d)
    have h2 := mn_lt (fr := fr) (j := j + d)
    show _ ≤ mn fr (j + d + 1)
    omega
theorem mn_idx : j ≤ mn fr j := by have := mn_up (fr := fr) (j := 0) (d := j); rw [Nat.zero_add] at this; omega
theorem mn_mono (h : ∀ p, fr p ≤ fr' p) : mn fr j ≤ mn fr' j := by
  induction j with
  | zero => exact h 1
  | succ j ih =>
    have := h (j + 2)
    show (if mn fr j + 1 < fr (j + 2) then fr (j + 2) else mn fr j + 1) ≤ if mn fr' j + 1 < fr' (j + 2) then fr' (j + 2) else mn fr' j + 1
    split <;> split <;> omega
theorem mn_zero : mn (fun _ => 0) j = j := by
  induction j with
  | zero => rfl
  | succ j ih =>
    show (if mn (fun _ => 0) j + 1 < 0 then 0 else mn (fun _ => 0) j + 1) = _
    rw [if_neg (by omega), ih]
theorem nx_mono (h : ∀ p, fr p ≤ fr' p) (hs : s ≤ s') : nx fr r s p ≤ nx fr' r s' p := by
  unfold nx
  split
  · exact hs
  · split
    · exact mn_mono h
    · exact h p
/-- what is free grows -/
theorem nx_grow (hr : 1 ≤ r) (hs : mn fr (r - 1) ≤ s) : fr p ≤ nx fr r s p := by
  unfold nx
  split
  · rename_i e
    have := mn_ge (fr := fr) (j := r - 1)
    rw [show r - 1 + 1 = r by omega] at this
    rw [e]; omega
  · split
    · rename_i h
      have h1 := mn_ge (fr := fr) (j := p - 1)
      have h2 := mn_lt (fr := fr) (j := p - 1)
      rw [show p - 1 + 1 = p by omega] at h1 h2
      omega
    · exact Nat.le_refl _
theorem Fq_grow (hr : ∀ i, i < n → 1 ≤ row i) : ∀ {d k : Nat}, k + d ≤ n → Fq row w k p ≤ Fq row w (k + d) p
  | 0, k, _ => Nat.le_refl _
  | d + 1, k, h => by
    have h1 := Fq_grow hr (d := d) (k := k) (by omega)
    have h2 := nx_grow (fr := Fq row w (k + d)) (r := row (k + d)) (s := mn (Fq row w (k + d)) (row (k + d) - 1) + w (k + d)) (p := p) (hr _ (by omega)) (Nat.le_add_right _ _)
    exact Nat.le_trans h1 h2
theorem Fq_congr : ∀ {k : Nat}, (∀ i, i < k → row i = row' i ∧ w i = w' i) → Fq row w k = Fq row' w' k
  | 0, _ => rfl
  | k + 1, h => by
    have e := Fq_congr (k := k) fun i hi => h i (by omega)
    have h1 := h k (by omega)
    show nx (Fq row w k) (row k) (mn (Fq row w k) (row k - 1) + w k) = nx (Fq row' w' k) (row' k) (mn (Fq row' w' k) (row' k - 1) + w' k)
    rw [e, h1.1, h1.2]
theorem Sq_congr (h : ∀ i, i ≤ k → row i = row' i ∧ w i = w' i) : Sq row w k = Sq row' w' k := by
  unfold Sq
  rw [Fq_congr fun i hi => h i (by omega), (h k (Nat.le_refl _)).1, (h k (Nat.le_refl _)).2]
theorem Mq_congr (h : ∀ i, i < k → row i = row' i ∧ w i = w' i) : Mq row w k j = Mq row' w' k j := by
  unfold Mq; rw [Fq_congr h]
/-- fewer guests, who stand shorter -/
theorem Fq_less {e : Nat → Nat} {n m : Nat} (hr : ∀ i, i < m → 1 ≤ row i) (he : ∀ k, k < n → e k < m) (hup : ∀ k, k + 1 < n → e k + 1 ≤ e (k + 1)) (h : ∀ k, k < n → row' k = row (e k) ∧ w' k ≤ w (e k)) : ∀ {k : Nat}, k < n → ∀ p, Fq row' w' k p ≤ Fq row w (e k) p
  | 0, hk, p => Nat.zero_le _
  | k + 1, hk, p => by
    have ih := Fq_less hr he hup h (k := k) (by omega)
    have h1 := h k (by omega)
    have h2 : nx (Fq row' w' k) (row' k) (mn (Fq row' w' k) (row' k - 1) + w' k) p ≤ nx (Fq row w (e k)) (row (e k)) (mn (Fq row w (e k)) (row (e k) - 1) + w (e k)) p := by
      rw [h1.1]
      exact nx_mono ih (Nat.add_le_add (mn_mono ih) h1.2)
    have h3 := Fq_grow (w := w) (p := p) (n := m) hr (d := e (k + 1) - (e k + 1)) (k := e k + 1) (by have := he (k + 1) hk; have := hup k hk; omega)
    rw [show e k + 1 + (e (k + 1) - (e k + 1)) = e (k + 1) by have := hup k hk; omega] at h3
    exact Nat.le_trans h2 h3
theorem Sq_less {e : Nat → Nat} {n m : Nat} (hr : ∀ i, i < m → 1 ≤ row i) (he : ∀ k, k < n → e k < m) (hup : ∀ k, k + 1 < n → e k + 1 ≤ e (k + 1)) (h : ∀ k, k < n → row' k = row (e k) ∧ w' k ≤ w (e k)) {k : Nat} (hk : k < n) : Sq row' w' k ≤ Sq row w (e k) := by
  unfold Sq
  rw [(h k hk).1]
  exact Nat.add_le_add (mn_mono (Fq_less hr he hup h hk)) (h k hk).2
theorem Sq_ge : row k - 1 + w k ≤ Sq row w k := by
  unfold Sq
  have := mn_idx (fr := Fq row w k) (j := row k - 1)
  omega
/-- bounds -/
theorem Fq_le {b c : Nat} (h : ∀ i, i < n → row i ≤ b ∧ w i ≤ c) : ∀ {k : Nat}, k ≤ n → ∀ p, Fq row w k p ≤ k * (b + c)
  | 0, _, p => Nat.zero_le _
  | k + 1, hk, p => by
    have ih := Fq_le h (k := k) (by omega)
    have h1 := h k (by omega)
    have key : ∀ j, j ≤ b → mn (Fq row w k) j ≤ k * (b + c) + j := by
      intro j
      induction j with
      | zero => intro _; exact ih 1
      | succ j ihj =>
        intro hj
        have := ihj (by omega)
        have := ih (j + 2)
        show (if mn (Fq row w k) j + 1 < Fq row w k (j + 2) then Fq row w k (j + 2) else mn (Fq row w k) j + 1) ≤ _
        split <;> omega
    show nx (Fq row w k) (row k) (mn (Fq row w k) (row k - 1) + w k) p ≤ _
    rw [Nat.succ_mul]
    unfold nx
    split
    · have := key (row k - 1) (by omega); omega
    · split
      · have := key p (by omega); omega
      · have := ih p; omega
theorem Mq_le {b c : Nat} (h : ∀ i, i < n → row i ≤ b ∧ w i ≤ c) (hk : k ≤ n) : Mq row w k j ≤ k * (b + c) + j := by
  have ih := Fq_le h hk
  unfold Mq
  induction j with
  | zero => exact ih 1
  | succ j ihj =>
    have := ih (j + 2)
    show (if mn (Fq row w k) j + 1 < Fq row w k (j + 2) then Fq row w k (j + 2) else mn (Fq row w k) j + 1) ≤ _
    split <;> omega
theorem Sq_le {b c : Nat} (h : ∀ i, i < n → row i ≤ b ∧ w i ≤ c) (hk : k < n) : Sq row w k ≤ (k + 1) * (b + c) := by
  have h1 := Mq_le (j := row k - 1) h (Nat.le_of_lt hk)
  have h2 := h k hk
  have h1 : mn (Fq row w k) (row k - 1) ≤ k * (b + c) + (row k - 1) := h1
  unfold Sq
  rw [Nat.succ_mul]
  omega
/-- nobody overtakes: who comes later stands further ahead -/
theorem no_pass (hr : ∀ i, i < n → 1 ≤ row i) (hij : i < j) (hj : j < n) {t pi pj : Nat} (h1 : 1 ≤ pi) (h2 : pi ≤ row i) (h3 : t < Sq row w i) (h4 : pi < row i → t < Mq row w i pi) (h5 : Mq row w j (pj - 1) ≤ t) (h6 : 1 ≤ pj) : pj < pi := by
  refine Nat.lt_of_not_le fun hle => ?_
  have a1 := mn_up (fr := Fq row w j) (j := pi - 1) (d := pj - pi)
  rw [show pi - 1 + (pj - pi) = pj - 1 by omega] at a1
  have a2 := mn_ge (fr := Fq row w j) (j := pi - 1)
  rw [show pi - 1 + 1 = pi by omega] at a2
  have a3 := Fq_grow (w := w) (p := pi) hr (k := i + 1) (d := j - (i + 1)) (by omega)
  rw [show i + 1 + (j - (i + 1)) = j by omega] at a3
  have h5 : mn (Fq row w j) (pj - 1) ≤ t := h5
  have a4 : nx (Fq row w i) (row i) (Sq row w i) pi ≤ Fq row w j pi := a3
  unfold nx at a4
  by_cases e : pi = row i
  · rw [if_pos e] at a4; omega
  · rw [if_neg e, if_pos ⟨h1, by omega⟩] at a4
    have h4 : t < mn (Fq row w i) pi := h4 (by omega)
    omega
end
/-! ### guests in the aisle -/
def rw' (gs : List Gu) (k : Nat) : Nat := (gG gs k).1
def wt (gs : List Gu) (k : Nat) : Nat := (gG gs k).2.2 + stn (gs.take k) (gG gs k)
abbrev Sg (gs : List Gu) (k : Nat) : Nat := Sq (rw' gs) (wt gs) k
abbrev Mg (gs : List Gu) (k j : Nat) : Nat := Mq (rw' gs) (wt gs) k j
abbrev En (gs : List Gu) : Nat := mx (Sg gs) gs.length
theorem gG_take {gs : List Gu} {n k : Nat} (h : k < n) : gG (gs.take n) k = gG gs k := by
  unfold gG; rw [List.getD_eq_getElem?_getD, List.getD_eq_getElem?_getD, List.getElem?_take, if_pos h]
theorem take_same {gs : List Gu} {n k : Nat} (h : k < n) : rw' (gs.take n) k = rw' gs k ∧ wt (gs.take n) k = wt gs k := by
  unfold rw' wt
  rw [gG_take h, List.take_take, Nat.min_eq_left (by omega)]
  exact ⟨rfl, rfl⟩
end W32

set_option Elab.async false
set_option linter.all false
set_option maxRecDepth 100000
set_option maxHeartbeats 4000000
namespace W
open PySem PySem.Spec L2 EV
def topS (i : Nat) : Stmt := PySem.Challenge.pw_skywrought_k32_whole_aisles.main.body.getD i (.Pass ⟨0, 0, 0, 0⟩)
/-! _law_draws -/
abbrev s__law_draws : Stmt := topS 34
def b__law_draws : Ss := (fSq (fOwn 1 (fLst aN))
  (fSq (fFor (iSeq (fSl oSlS (fV 0) sN (sE (fC (.int 63))))) (bN 2) (fSq (fSet 3 (f1 oAbs (fV 2)))
    (fIfS (t2 pbGe (fV 3) (f2 oPow (fC (.int 10)) (fC (.int 18)))) (fFor (iRng1 (aC (fC (.int 60)) aN)) (bN 4) (fIfS (t2 pbGt (fV 3) (fC (.int 0))) (fSq (fApp 1 (f2 oMod (f1 oInt (fV 3)) (fC (.int 1009))))
          (fSet 3 (f2 oFdiv (fV 3) (fC (.int 1009))))) fNx)) (fSq (fSet 5 (f2 oMod (f1 oInt (f2 oAdd (f2 oMul (fV 3) (fC (.int 48271))) (fC (.int 11)))) (fC (.int 2147483647))))
      (fFor (iRng1 (aC (fC (.int 12)) aN)) (bN 4) (fSq (fSet 5 (f2 oMod (f1 oInt (f2 oAdd (f2 oAdd (f2 oMul (fV 5) (fC (.int 16807))) (f2 oMul (fC (.int 69621)) (fV 4))) (fC (.int 5)))) (fC (.int 2147483629))))
        (fApp 1 (f2 oFdiv (fV 5) (fC (.int 1009))))))))))
  (frz 1 (fRet (fV 1)))))
def F__law_draws : Fs := fnF [] false 5 b__law_draws
/-! _law_more -/
abbrev s__law_more : Stmt := topS 35
def b__law_more : Ss := (fSq (fSet 2 (f2 oMod (f1 oInt (f2 oAdd (f2 oAdd (f2 oMul (fV 1) (fC (.int 48271))) (f1 oLen (fV 0))) (fC (.int 11)))) (fC (.int 2147483629))))
  (fSq (fFor (iRng1 (aC (fC (.int 3)) aN)) (bN 3) (fSq (fIfS (tV (fV 0)) (fSet 2 (f2 oAdd (fV 2) (f2 oIdx (fV 0) (f2 oMod (f1 oInt (f2 oAdd (f2 oMul (fV 1) (f2 oAdd (fV 3) (fC (.int 5)))) (fV 3))) (f1 oLen (fV 0)))))) fNx)
    (fSet 2 (f2 oMod (f1 oInt (f2 oAdd (f2 oAdd (f2 oMul (fV 2) (fC (.int 16807))) (f2 oMul (fC (.int 69621)) (fV 3))) (fC (.int 5)))) (fC (.int 2147483629))))))
  (fRet (f2 oFdiv (fV 2) (fC (.int 1009))))))
def F__law_more : Fs := fnF [] false 2 b__law_more
/-! _law_take -/
abbrev s__law_take : Stmt := topS 36
def b__law_take : Ss := (fSq (fSet 3 (f2 oIdx (fR 1) (fC (.int 0))))
  (fSq (fPut 1 (fC (.int 0)) (f2 oAdd (fV 3) (fC (.int 1))))
  (fRet (f2 oMod (f1 oInt (fIf (t2 pbLt (fV 3) (f1 oLen (fV 0))) (f2 oIdx (fV 0) (fV 3)) (fCall F__law_more [] (bCons (fV 0) (bCons (fV 3) bNil))))) (fV 2)))))
def F__law_take : Fs := fnF [1] false 1 b__law_take
/-! _law_one -/
abbrev s__law_one : Stmt := topS 37
def b__law_one : Ss := (fRet (f2 oIdx (fV 0) (fCall F__law_take [] (bCons (fV 1) (bRef 2 (bCons (f1 oLen (fV 0)) bNil))))))
def F__law_one : Fs := fnF [2] false 0 b__law_one
/-! _law_guests -/
abbrev s__law_guests : Stmt := topS 38
def b__law_guests : Ss := (fSq (fParO 4 5 (fTup aN) (fLst aN))
  (fSq (fFor (iRng1 (aC (fCall F__law_take [] (bCons (fV 2) (bRef 3 (bCons (f2 oAdd (fV 1) (fC (.int 1))) bNil)))) aN)) (bN 6) (fSq (fSet 7 (fTup (aC (f2 oAdd (fC (.int 1)) (fCall F__law_take [] (bCons (fV 2) (bRef 3 (bCons (fV 0) bNil))))) (aC (fCall F__law_one [] (bCons (fLst (aC (fC (.int 1)) (aC (fC (.int 2)) (aC (fC (.int 3)) (aC (f1 oNeg (fC (.int 1))) (aC (f1 oNeg (fC (.int 2))) (aC (f1 oNeg (fC (.int 3))) aN))))))) (bCons (fV 2) (bRef 3 bNil)))) aN))))
    (fIfS (t2 oNotInP (fV 7) (fR 5)) (fSq (fApp 5 (fV 7))
      (fSet 4 (f2 oCatT (fV 4) (fTup (aC (f2 oCatT (fV 7) (fTup (aC (f2 oAdd (fC (.int 1)) (fCall F__law_take [] (bCons (fV 2) (bRef 3 (bCons (fC (.int 5)) bNil))))) aN))) aN))))) fNx)))
  (fRet (fV 4))))
def F__law_guests : Fs := fnF [3] false 4 b__law_guests
/-! is_integer -/
abbrev s_is_integer : Stmt := topS 10
def b_is_integer : Ss := (fRet (fAnd (f1 (oIsi "int") (fV 0)) (f1 oNot (f1 (oIsi "bool") (fV 0)))))
def F_is_integer : Fs := fnF [] false 0 b_is_integer
/-! in_range -/
abbrev s_in_range : Stmt := topS 11
def b_in_range : Ss := (fRet (fAnd (fCall F_is_integer [] (bCons (fV 0) bNil)) (fCh pLe pLe (fV 1) (fV 0) (fV 2))))
def F_in_range : Fs := fnF [] false 0 b_in_range
/-! is_guest -/
abbrev s_is_guest : Stmt := topS 13
def b_is_guest : Ss := (fSq (fIfS (tOrD (tNotD (tV (f1 (oIsi "tuple") (fV 1)))) (tOrD (t2 oNe (f1 oLen (fV 1)) (fC (.int 3))) (tNotD (tV (fCall F_in_range [] (bCons (f2 oIdx (fV 1) (fC (.int 0))) (bCons (fC (.int 1)) (bCons (fV 0) bNil)))))))) (fRet (fC (.bool false))) fNx)
  (fRet (fAnd (fCall F_in_range [] (bCons (f2 oIdx (fV 1) (fC (.int 1))) (bCons (f1 oNeg (fC (.int 3))) (bCons (fC (.int 3)) bNil)))) (fAnd (f2 (oB oNe) (f2 oIdx (fV 1) (fC (.int 1))) (fC (.int 0))) (fCall F_in_range [] (bCons (f2 oIdx (fV 1) (fC (.int 2))) (bCons (fC (.int 1)) (bCons (fC (.int 20)) bNil))))))))
def F_is_guest : Fs := fnF [] false 0 b_is_guest
/-! demand_guests -/
abbrev s_demand_guests : Stmt := topS 14
def b_demand_guests : Ss := (fSq (fIfS (tNotD (tV (fCall F_in_range [] (bCons (fV 0) (bCons (fC (.int 1)) (bCons (fC (.int 30)) bNil)))))) fNo fNx)
  (fSq (fIfS (tOrD (tNotD (tV (f1 (oIsi "tuple") (fV 1)))) (tOrD (t2 pbGt (f1 oLen (fV 1)) (fC (.int 24))) (tNotD (tV (f1 oAll (fLc (iSeq (fV 1)) (bN 2) tY (fCall F_is_guest [] (bCons (fV 0) (bCons (fV 2) bNil))) [2])))))) fNo fNx)
  (fIfS (t2 oNe (fLenDc (iSeq (fV 1)) (bN 3) (fSl2 (fV 3)) [3]) (f1 oLen (fV 1))) fNo fNx)))
def F_demand_guests : Fs := fnF [] false 2 b_demand_guests
/-! stands_for -/
abbrev s_stands_for : Stmt := topS 15
def b_stands_for : Ss := (fSq (fAsg (f2 oIdx (fV 0) (fV 1)) (bT (bLen 3 (bsC (bN 2) (bsC (bN 3) (bsC (bN 4) bsN))))))
  (fSq (fSet 5 (fC (.int 0)))
  (fSq (fFor (iSeq (fSl oSlT (fV 0) sN (sE (fV 1)))) (bT (bLen 3 (bsC (bN 6) (bsC (bN 7) (bsC (bN 8) bsN))))) (fIfS (tAndD (t2 oEq (fV 6) (fV 2)) (tAndD (t2 pbGt (f2 oMul (fV 7) (fV 3)) (fC (.int 0))) (t2 pbLt (f1 oAbs (fV 7)) (f1 oAbs (fV 3))))) (fAug oAdd 5 (fC (.int 1))) fNx))
  (fRet (fV 5)))))
def F_stands_for : Fs := fnF [] false 7 b_stands_for
/-! times_in -/
abbrev s_times_in : Stmt := topS 16
def b_times_in : Ss := (fRet (fLc (iEnm (fV 0)) (bT (bLen 2 (bsC (bN 1) (bsC (bN 2) bsN)))) tY (f2 oAdd (f2 oIdx (fV 2) (fC (.int 2))) (fCall F_stands_for [] (bCons (fV 0) (bCons (fV 1) bNil)))) [1, 2]))
def F_times_in : Fs := fnF [] false 2 b_times_in
/-! walked -/
abbrev s_walked : Stmt := topS 17
def b_walked : Ss := (fSq (fOwn 1 (fC (.dict [])))
  (fSq (fOwn 2 (fLst aN))
  (fSq (fSet 3 (fCall F_times_in [] (bCons (fV 0) bNil)))
  (fSq (fFor (iEnm (fV 0)) (bT (bLen 2 (bsC (bN 4) (bsC (bT (bLen 3 (bsC (bN 5) (bsC (bN 6) (bsC (bN 7) bsN))))) bsN)))) (fSq (fOwn 8 (fLst aN))
    (fSq (fFor (iRng2 (aC (fC (.int 1)) (aC (f2 oAdd (fV 5) (fC (.int 1))) aN))) (bN 9) (fSq (fSet 10 (fIf (tV (fR 8)) (f2 oAdd (f2 oIdx (fR 8) (f1 oNeg (fC (.int 1)))) (fC (.int 1))) (fC (.int 0))))
      (fApp 8 (fN oMax2 (aC (fV 10) (aC (fDGet2 (fR 1) (fV 9) (fC (.int 0))) aN))))))
    (frz 8 (fSq (fSet 11 (f2 oAdd (f2 oIdx (fV 8) (f1 oNeg (fC (.int 1)))) (f2 oIdx (fV 3) (fV 4))))
    (fSq (fFor (iRng2 (aC (fC (.int 1)) (aC (fV 5) aN))) (bN 9) (fDPut 1 (fV 9) (f2 oIdx (fV 8) (fV 9))))
    (fSq (fDPut 1 (fV 5) (fV 11))
    (fApp 2 (fTup (aC (f1 oTup (fV 8)) (aC (fV 11) aN)))))))))))
  (frz 1 (frz 2 (fRet (fV 2))))))))
def F_walked : Fs := fnF [] false 11 b_walked
/-! aisle_at -/
abbrev s_aisle_at : Stmt := topS 23
def b_aisle_at : Ss := (fSq (fEx (fCall F_demand_guests [] (bCons (fV 0) (bCons (fV 1) bNil))))
  (fSq (fIfS (tNotD (tV (fCall F_in_range [] (bCons (fV 2) (bCons (fC (.int 0)) (bCons (fC (.int 100000)) bNil)))))) fNo fNx)
  (fSq (fOwn 3 (fLst aN))
  (fSq (fFor (iEnm (fCall F_walked [] (bCons (fV 1) bNil))) (bT (bLen 2 (bsC (bN 4) (bsC (bT (bLen 2 (bsC (bN 5) (bsC (bN 6) bsN)))) bsN)))) (fIfS (tCh pLe pLt (f2 oIdx (fV 5) (fC (.int 0))) (fV 2) (fV 6)) (fApp 3 (fTup (aC (f1 oNeg (f1 oMax (fLc (iEnm (fV 5)) (bT (bLen 2 (bsC (bN 7) (bsC (bN 8) bsN)))) (t2 pbLe (fV 8) (fV 2)) (f2 oAdd (fV 7) (fC (.int 1))) [7, 8]))) (aC (fV 4) aN)))) fNx))
  (frz 3 (fRet (f1 oTup (fLc (iSeq (f1 oSortP (fV 3))) (bT (bLen 2 (bsC (bN 9) (bsC (bN 4) bsN)))) tY (fTup (aC (fV 4) (aC (f1 oNeg (fV 9)) aN))) [4, 9]))))))))
def F_aisle_at : Fs := fnF [] false 7 b_aisle_at
/-! demand_few -/
abbrev s_demand_few : Stmt := topS 24
def b_demand_few : Ss := (fSq (fEx (fCall F_demand_guests [] (bCons (fV 0) (bCons (fV 1) bNil))))
  (fIfS (t2 pbGt (f1 oLen (fV 1)) (fC (.int 6))) fNo fNx))
def F_demand_few : Fs := fnF [] false 0 b_demand_few
/-! all_orders -/
abbrev s_all_orders : Stmt := topS 25
def b_all_orders : Ss := (fSq (fSet 1 (fLst (aC (fTup aN) aN)))
  (fSq (fFor (iRng1 (aC (fV 0) aN)) (bN 2) (fSq (fOwn 3 (fLst aN))
    (fSq (fFor (iSeq (f1 oLst (fV 1))) (bN 4) (fExt 3 (fLc (iRng1 (aC (fV 0) aN)) (bN 5) (t2 oNotIn (fV 5) (fV 4)) (f2 oCatT (fV 4) (fTup (aC (fV 5) aN))) [5])))
    (frz 3 (fSet 1 (fV 3))))))
  (fRet (fV 1))))
def F_all_orders : Fs := fnF [] false 5 b_all_orders
/-! end_of -/
abbrev s_end_of : Stmt := topS 19
def b_end_of : Ss := (fRet (f1 oMax (f2 oCatL (fLst (aC (fC (.int 0)) aN)) (fLc (iSeq (fCall F_walked [] (bCons (fV 0) bNil))) (bT (bLen 2 (bsC (bN 1) (bsC (bN 2) bsN)))) tY (fV 2) [1, 2]))))
def F_end_of : Fs := fnF [] false 2 b_end_of
/-! in_order -/
abbrev s_in_order : Stmt := topS 26
def b_in_order : Ss := (fRet (f1 oTup (fLc (iSeq (fV 1)) (bN 2) tY (f2 oIdx (fV 0) (fV 2)) [2])))
def F_in_order : Fs := fnF [] false 1 b_in_order
/-! best_order -/
abbrev s_best_order : Stmt := topS 27
def b_best_order : Ss := (fSq (fEx (fCall F_demand_few [] (bCons (fV 0) (bCons (fV 1) bNil))))
  (fSq (fSet 2 (fC .none))
  (fSq (fFor (iSeq (fCall F_all_orders [] (bCons (f1 oLen (fV 1)) bNil))) (bN 3) (fSq (fSet 4 (fCall F_end_of [] (bCons (fCall F_in_order [] (bCons (fV 1) (bCons (fV 3) bNil))) bNil)))
    (fIfS (tOrD (t2 oIsN (fV 2) (fC .none)) (t2 pbLt (fV 4) (f2 oIdx (fV 2) (fC (.int 0))))) (fSet 2 (fTup (aC (fV 4) (aC (fV 3) aN)))) fNx)))
  (fRet (fV 2)))))
def F_best_order : Fs := fnF [] false 3 b_best_order
/-! walks -/
abbrev s_walks : Stmt := topS 18
def b_walks : Ss := (fSq (fEx (fCall F_demand_guests [] (bCons (fV 0) (bCons (fV 1) bNil))))
  (fRet (f1 oTup (fCall F_walked [] (bCons (fV 1) bNil)))))
def F_walks : Fs := fnF [] false 0 b_walks
/-! delays -/
abbrev s_delays : Stmt := topS 22
def b_delays : Ss := (fSq (fEx (fCall F_demand_guests [] (bCons (fV 0) (bCons (fV 1) bNil))))
  (fSq (fOwn 2 (fLst aN))
  (fSq (fFor (iZp (aC (fV 1) (aC (fCall F_walked [] (bCons (fV 1) bNil)) aN))) (bT (bLen 2 (bsC (bT (bLen 3 (bsC (bN 3) (bsC (bN 4) (bsC (bN 5) bsN))))) (bsC (bT (bLen 2 (bsC (bN 6) (bsC (bN 7) bsN)))) bsN)))) (fApp 2 (f2 oSub (fV 7) (f2 oAdd (f2 oSub (fV 3) (fC (.int 1))) (fV 5)))))
  (frz 2 (fRet (f1 oTup (fV 2)))))))
def F_delays : Fs := fnF [] false 6 b_delays
/-! from_windows -/
abbrev s_from_windows : Stmt := topS 31
def b_from_windows : Ss := (fSq (fEx (fCall F_demand_guests [] (bCons (fV 0) (bCons (fV 1) bNil))))
  (fSq (fSet 2 (fLc (iEnm (fV 1)) (bT (bLen 2 (bsC (bN 3) (bsC (bN 4) bsN)))) tY (fTup (aC (f1 oNeg (f1 oAbs (f2 oIdx (fV 4) (fC (.int 1))))) (aC (f1 oNeg (f2 oIdx (fV 4) (fC (.int 0)))) (aC (f2 oIdx (fV 4) (fC (.int 1))) (aC (fV 3) aN))))) [3, 4]))
  (fRet (f1 oTup (fLc (iSeq (f1 oSortP (fV 2))) (bN 5) tY (f2 oIdx (fV 5) (fC (.int 3))) [5])))))
def F_from_windows : Fs := fnF [] false 4 b_from_windows
/-! from_behind -/
abbrev s_from_behind : Stmt := topS 30
def b_from_behind : Ss := (fSq (fEx (fCall F_demand_guests [] (bCons (fV 0) (bCons (fV 1) bNil))))
  (fSq (fSet 2 (fLc (iEnm (fV 1)) (bT (bLen 2 (bsC (bN 3) (bsC (bN 4) bsN)))) tY (fTup (aC (f1 oNeg (f2 oIdx (fV 4) (fC (.int 0)))) (aC (f1 oNeg (f1 oAbs (f2 oIdx (fV 4) (fC (.int 1))))) (aC (f2 oIdx (fV 4) (fC (.int 1))) (aC (fV 3) aN))))) [3, 4]))
  (fRet (f1 oTup (fLc (iSeq (f1 oSortP (fV 2))) (bN 5) tY (f2 oIdx (fV 5) (fC (.int 3))) [5])))))
def F_from_behind : Fs := fnF [] false 4 b_from_behind
/-! stands -/
abbrev s_stands : Stmt := topS 21
def b_stands : Ss := (fSq (fEx (fCall F_demand_guests [] (bCons (fV 0) (bCons (fV 1) bNil))))
  (fRet (f1 oTup (fLc (iRng1 (aC (f1 oLen (fV 1)) aN)) (bN 2) tY (fCall F_stands_for [] (bCons (fV 1) (bCons (fV 2) bNil))) [2]))))
def F_stands : Fs := fnF [] false 1 b_stands
/-! end -/
abbrev s_end : Stmt := topS 20
def b_end : Ss := (fSq (fEx (fCall F_demand_guests [] (bCons (fV 0) (bCons (fV 1) bNil))))
  (fRet (fCall F_end_of [] (bCons (fV 1) bNil))))
def F_end : Fs := fnF [] false 0 b_end
/-! is_order -/
abbrev s_is_order : Stmt := topS 29
def b_is_order : Ss := (fSq (fIfS (tOrD (tNotD (tV (f1 (oIsi "tuple") (fV 1)))) (t2 oNe (f1 oLen (fV 1)) (f1 oLen (fV 0)))) (fRet (fC (.bool false))) fNx)
  (fSq (fIfS (tNotD (tV (f1 oAll (fLc (iSeq (fV 1)) (bN 2) tY (fCall F_in_range [] (bCons (fV 2) (bCons (fC (.int 0)) (bCons (f2 oSub (f1 oLen (fV 0)) (fC (.int 1))) bNil)))) [2])))) (fRet (fC (.bool false))) fNx)
  (fRet (f2 (oB oEq) (f1 oLenD (fDc (iSeq (fV 1)) (bN 2) tY (fV 2) (fC (.bool true)) [2])) (f1 oLen (fV 1))))))
def F_is_order : Fs := fnF [] false 1 b_is_order
/-! accept_best_order -/
abbrev s_accept_best_order : Stmt := topS 28
def b_accept_best_order : Ss := (fSq (fEx (fCall F_demand_few [] (bCons (fV 0) (bCons (fV 1) bNil))))
  (fSq (fIfS (tOrD (tNotD (tV (f1 (oIsi "tuple") (fV 2)))) (tOrD (t2 oNe (f1 oLen (fV 2)) (fC (.int 2))) (tOrD (tNotD (tV (fCall F_is_integer [] (bCons (f2 oIdx (fV 2) (fC (.int 0))) bNil)))) (tNotD (tV (fCall F_is_order [] (bCons (fV 1) (bCons (f2 oIdx (fV 2) (fC (.int 1))) bNil)))))))) fNo fNx)
  (fSq (fIfS (t2 oNe (fCall F_end_of [] (bCons (fCall F_in_order [] (bCons (fV 1) (bCons (f2 oIdx (fV 2) (fC (.int 1))) bNil))) bNil)) (f2 oIdx (fV 2) (fC (.int 0)))) fNo fNx)
  (fIfS (t2 oNe (f2 oIdx (fV 2) (fC (.int 0))) (f2 oIdx (fCall F_best_order [] (bCons (fV 0) (bCons (fV 1) bNil))) (fC (.int 0)))) fNo fNx))))
def F_accept_best_order : Fs := fnF [] false 0 b_accept_best_order
/-! put -/
abbrev s_put : Stmt := topS 32
def b_put : Ss := (fSq (fEx (fCall F_demand_guests [] (bCons (fV 0) (bCons (fV 1) bNil))))
  (fSq (fIfS (tNotD (tV (fCall F_is_order [] (bCons (fV 1) (bCons (fV 2) bNil))))) fNo fNx)
  (fRet (fCall F_in_order [] (bCons (fV 1) (bCons (fV 2) bNil))))))
def F_put : Fs := fnF [] false 0 b_put
/-! law -/
abbrev s_law : Stmt := topS 39
def law_1 : Ss := (fSet 1 (fCall F__law_draws [] (bCons (fV 0) bNil)))
def law_2 : Ss := (fOwn 2 (fLst (aC (fC (.int 0)) aN)))
def law_3 : Ss := (fSet 3 (f2 oAdd (fC (.int 1)) (fCall F__law_take [] (bCons (fV 1) (bRef 2 (bCons (fC (.int 12)) bNil))))))
def law_4 : Ss := (fSet 4 (fCall F__law_guests [] (bCons (fV 3) (bCons (fC (.int 10)) (bCons (fV 1) (bRef 2 bNil))))))
def law_5 : Ss := (fAsg (fTup (aC (fCall F_walks [] (bCons (fV 3) (bCons (fV 4) bNil))) (aC (fCall F_delays [] (bCons (fV 3) (bCons (fV 4) bNil))) aN))) (bT (bLen 2 (bsC (bN 5) (bsC (bN 6) bsN)))))
def law_6 : Ss := (fSet 7 (f1 oTup (fLc (iSeq (fV 4)) (bT (bLen 3 (bsC (bN 8) (bsC (bN 9) (bsC (bN 10) bsN))))) tY (fTup (aC (fV 8) (aC (f2 oSub (fC (.int 0)) (fV 9)) (aC (fV 10) aN)))) [8, 9, 10])))
def law_7 : Ss := (fIfS (tOrD (t2 oNe (f1 oRepr (fCall F_walks [] (bCons (fV 3) (bCons (fV 7) bNil)))) (f1 oRepr (fV 5))) (tOrD (t2 oNeD (fCall F_stands [] (bCons (fV 3) (bCons (fV 7) bNil))) (fCall F_stands [] (bCons (fV 3) (bCons (fV 4) bNil)))) (t2 oNeD (fCall F_walks [] (bCons (f2 oAdd (fV 3) (fC (.int 1))) (bCons (fV 4) bNil))) (fV 5)))) (fRet (fC (.bool false))) fNx)
def law_8 : Ss := (fIfS (tOrD (t2 oNe (fCall F_end [] (bCons (fV 3) (bCons (fV 4) bNil))) (f1 oMax (f2 oCatL (fLst (aC (fC (.int 0)) aN)) (fLc (iSeq (fV 5)) (bT (bLen 2 (bsC (bN 11) (bsC (bN 12) bsN)))) tY (fV 12) [11, 12])))) (tV (fLc (iSeq (fV 6)) (bN 13) (t2 pbLt (fV 13) (fC (.int 0))) (fV 13) [13]))) (fRet (fC (.bool false))) fNx)
def law_9 : Ss := (fFor (iRng1 (aC (f1 oLen (fV 4)) aN)) (bN 14) (fSq (fIfS (t2 oNeD (fCall F_walks [] (bCons (fV 3) (bCons (fSl oSlT (fV 4) sN (sE (f2 oAdd (fV 14) (fC (.int 1))))) bNil))) (fSl oSlT (fV 5) sN (sE (f2 oAdd (fV 14) (fC (.int 1)))))) (fRet (fC (.bool false))) fNx)
    (fSq (fAsg (f2 oIdx (fV 5) (fV 14)) (bT (bLen 2 (bsC (bN 11) (bsC (bN 12) bsN)))))
    (fSq (fIfS (tOrD (tV (fLc (iRng2 (aC (fC (.int 1)) (aC (f1 oLen (fV 11)) aN))) (bN 15) (t2 pbLe (f2 oIdx (fV 11) (fV 15)) (f2 oIdx (fV 11) (f2 oSub (fV 15) (fC (.int 1))))) (fV 15) [15])) (tOrD (t2 pbLt (fV 12) (f2 oAdd (f2 oIdx (fV 11) (f1 oNeg (fC (.int 1)))) (f2 oIdx (f2 oIdx (fV 4) (fV 14)) (fC (.int 2))))) (t2 oNe (f1 oLen (fV 11)) (f2 oIdx (f2 oIdx (fV 4) (fV 14)) (fC (.int 0)))))) (fRet (fC (.bool false))) fNx)
    (fIfS (tOrD (t2 oNe (f2 oSub (fV 12) (f2 oIdx (fV 6) (fV 14))) (f2 oAdd (f2 oSub (f2 oIdx (f2 oIdx (fV 4) (fV 14)) (fC (.int 0))) (fC (.int 1))) (f2 oIdx (f2 oIdx (fV 4) (fV 14)) (fC (.int 2))))) (t2 oNeD (fCall F_delays [] (bCons (fV 3) (bCons (fSl oSlT (fV 4) (sE (fV 14)) (sE (f2 oAdd (fV 14) (fC (.int 1))))) bNil))) (fTup (aC (fC (.int 0)) aN)))) (fRet (fC (.bool false))) fNx)))))
def law_10 : Ss := (fSet 16 (f1 oTup (fLc (iSeq (fV 4)) (bN 13) tY (f2 oCatT (fSl oSlT (fV 13) sN (sE (fC (.int 2)))) (fTup (aC (f2 oAdd (f2 oIdx (fV 13) (fC (.int 2))) (fCall F__law_take [] (bCons (fV 1) (bRef 2 (bCons (fC (.int 3)) bNil))))) aN))) [13])))
def law_11 : Ss := (fIfS (tOrD (tV (fLc (iRng1 (aC (f1 oLen (fV 4)) aN)) (bN 14) (t2 pbLt (f2 oIdx (f2 oIdx (fCall F_walks [] (bCons (fV 3) (bCons (fV 16) bNil))) (fV 14)) (fC (.int 1))) (f2 oIdx (f2 oIdx (fV 5) (fV 14)) (fC (.int 1)))) (fV 14) [14])) (t2 pbLt (fCall F_end [] (bCons (fV 3) (bCons (fV 16) bNil))) (fCall F_end [] (bCons (fV 3) (bCons (fV 4) bNil))))) (fRet (fC (.bool false))) fNx)
def law_12 : Ss := (fSet 17 (fCall F__law_take [] (bCons (fV 1) (bRef 2 (bCons (f2 oAdd (fCall F_end [] (bCons (fV 3) (bCons (fV 4) bNil))) (fC (.int 2))) bNil)))))
def law_13 : Ss := (fSet 18 (fCall F_aisle_at [] (bCons (fV 3) (bCons (fV 4) (bCons (fV 17) bNil)))))
def law_14 : Ss := (fIfS (tOrD (t2 oNe (f1 oLenD (f1 oDictP (fLc (iSeq (fV 18)) (bT (bLen 2 (bsC (bN 19) (bsC (bN 8) bsN)))) tY (fTup (aC (fV 8) (aC (fC (.int 0)) aN))) [8, 19]))) (f1 oLen (fV 18))) (tV (fLc (iRng2 (aC (fC (.int 1)) (aC (f1 oLen (fV 18)) aN))) (bN 14) (tOrD (t2 pbGe (f2 oIdx (f2 oIdx (fV 18) (fV 14)) (fC (.int 1))) (f2 oIdx (f2 oIdx (fV 18) (f2 oSub (fV 14) (fC (.int 1)))) (fC (.int 1)))) (t2 pbLe (f2 oIdx (f2 oIdx (fV 18) (fV 14)) (fC (.int 0))) (f2 oIdx (f2 oIdx (fV 18) (f2 oSub (fV 14) (fC (.int 1)))) (fC (.int 0))))) (fV 14) [14]))) (fRet (fC (.bool false))) fNx)
def law_15 : Ss := (fIfS (t2 oNe (f1 oLen (fV 18)) (f1 oLen (fLc (iSeq (fV 5)) (bT (bLen 2 (bsC (bN 11) (bsC (bN 12) bsN)))) (tCh pLe pLt (f2 oIdx (fV 11) (fC (.int 0))) (fV 17) (fV 12)) (fC (.int 1)) [11, 12]))) (fRet (fC (.bool false))) fNx)
def law_16 : Ss := (fPar 20 21 (aC (fCall F_from_windows [] (bCons (fV 3) (bCons (fV 4) bNil))) (aC (fCall F_from_behind [] (bCons (fV 3) (bCons (fV 4) bNil))) aN)))
def law_17 : Ss := (fFor (iSeq (fTup (aC (fV 20) (aC (fV 21) aN)))) (bN 22) (fIfS (tOrD (t2 oNeD (f1 oSortT (fV 22)) (f1 oRgL (f1 oLen (fV 4)))) (t2 oNe (f1 oSumT (fCall F_stands [] (bCons (fV 3) (bCons (fCall F_put [] (bCons (fV 3) (bCons (fV 4) (bCons (fV 22) bNil)))) bNil)))) (fC (.int 0)))) (fRet (fC (.bool false))) fNx))
def law_18 : Ss := (fSet 23 (fSl oSlT (fV 4) sN (sE (fC (.int 4)))))
def law_19 : Ss := (fSet 24 (fCall F_best_order [] (bCons (fV 3) (bCons (fV 23) bNil))))
def law_20 : Ss := (fIfS (tOrD (t2 oNotN (fCall F_accept_best_order [] (bCons (fV 3) (bCons (fV 23) (bCons (fV 24) bNil)))) (fC .none)) (tOrD (t2 oNe (fCall F_end [] (bCons (fV 3) (bCons (fCall F_put [] (bCons (fV 3) (bCons (fV 23) (bCons (f2 oIdx (fV 24) (fC (.int 1))) bNil)))) bNil))) (f2 oIdx (fV 24) (fC (.int 0)))) (t2 pbGt (f2 oIdx (fV 24) (fC (.int 0))) (fCall F_end [] (bCons (fV 3) (bCons (fV 23) bNil)))))) (fRet (fC (.bool false))) fNx)
def law_21 : Ss := (fFor (iSeq (fTup (aC (fCall F_from_windows [] (bCons (fV 3) (bCons (fV 23) bNil))) (aC (fCall F_from_behind [] (bCons (fV 3) (bCons (fV 23) bNil))) (aC (f1 oRevT (f1 oRgT (f1 oLen (fV 23)))) aN))))) (bN 22) (fIfS (tOrD (t2 pbLt (fCall F_end [] (bCons (fV 3) (bCons (fCall F_put [] (bCons (fV 3) (bCons (fV 23) (bCons (fV 22) bNil)))) bNil))) (f2 oIdx (fV 24) (fC (.int 0)))) (tAndD (t2 oEq (fCall F_end [] (bCons (fV 3) (bCons (fCall F_put [] (bCons (fV 3) (bCons (fV 23) (bCons (fV 22) bNil)))) bNil))) (f2 oIdx (fV 24) (fC (.int 0)))) (t2 oLtT (fV 22) (f2 oIdx (fV 24) (fC (.int 1)))))) (fRet (fC (.bool false))) fNx))
def law_22 : Ss := (fIfS (tOrD (tAndD (tV (fV 23)) (t2 pbLt (f2 oIdx (fV 24) (fC (.int 0))) (f1 oMax (fLc (iSeq (fV 23)) (bT (bLen 3 (bsC (bN 8) (bsC (bN 9) (bsC (bN 10) bsN))))) tY (f2 oAdd (f2 oSub (fV 8) (fC (.int 1))) (fV 10)) [8, 9, 10])))) (tAndD (t2 pbGt (f1 oLen (fV 23)) (fC (.int 1))) (t2 pbGt (f2 oIdx (fCall F_best_order [] (bCons (fV 3) (bCons (fSl oSlT (fV 23) (sE (fC (.int 1))) sN) bNil))) (fC (.int 0))) (f2 oIdx (fV 24) (fC (.int 0)))))) (fRet (fC (.bool false))) fNx)
def law_23 : Ss := (fSet 25 (f1 oTup (fLc (iSeq (fTup (aC (fC (.int 1)) (aC (fC (.int 2)) (aC (fC (.int 3)) aN))))) (bN 9) tY (fTup (aC (fC (.int 1)) (aC (fV 9) (aC (fC (.int 2)) aN)))) [9])))
def law_24 : Ss := (fIfS (tOrD (t2 oNeD (fCall F_stands [] (bCons (fC (.int 2)) (bCons (fV 25) bNil))) (fTup (aC (fC (.int 0)) (aC (fC (.int 1)) (aC (fC (.int 2)) aN))))) (tOrD (t2 oNe (fCall F_end [] (bCons (fC (.int 2)) (bCons (fV 25) bNil))) (f2 oAdd (f2 oAdd (fC (.int 2)) (fC (.int 3))) (fC (.int 4)))) (tOrD (t2 oNeD (fCall F_stands [] (bCons (fC (.int 2)) (bCons (f1 oRevT (fV 25)) bNil))) (fTup (aC (fC (.int 0)) (aC (fC (.int 0)) (aC (fC (.int 0)) aN))))) (t2 oNe (fCall F_end [] (bCons (fC (.int 2)) (bCons (f1 oRevT (fV 25)) bNil))) (fC (.int 6)))))) (fRet (fC (.bool false))) fNx)
def law_25 : Ss := (fSet 26 (f1 oTup (fLc (iRng2 (aC (fC (.int 1)) (aC (fN oMin2 (aC (fC (.int 6)) (aC (fC (.int 30)) aN))) aN))) (bN 8) tY (fTup (aC (fV 8) (aC (fC (.int 1)) (aC (fC (.int 1)) aN)))) [8])))
def law_26 : Ss := (fRet (fAnd (f2 pLeD (fCall F_end [] (bCons (fC (.int 30)) (bCons (f1 oRevT (fV 26)) bNil))) (fCall F_end [] (bCons (fC (.int 30)) (bCons (fV 26) bNil)))) (f2 pLeD (f1 oLen (fV 4)) (fC (.int 24)))))
def b_law : Ss := (fSq law_1
  (fSq law_2
  (fSq law_3
  (fSq law_4
  (fSq law_5
  (fSq law_6
  (fSq law_7
  (fSq law_8
  (fSq law_9
  (fSq law_10
  (fSq law_11
  (fSq law_12
  (frz 2 (fSq law_13
  (fSq law_14
  (fSq law_15
  (fSq law_16
  (fSq law_17
  (fSq law_18
  (fSq law_19
  (fSq law_20
  (fSq law_21
  (fSq law_22
  (fSq law_23
  (fSq law_24
  (fSq law_25
  law_26))))))))))))))))))))))))))
def F_law : Fs := fnF [] false 26 b_law
end W

set_option Elab.async false
set_option linter.all false
set_option maxRecDepth 100000
set_option maxHeartbeats 4000000
namespace W
open PySem PySem.Spec L2 EV
/-- what the module has -/
structure Md (G : Gb) : Prop where
  b_abs : G.mg "abs" = none
  b_all : G.mg "all" = none
  b_bool : G.mg "bool" = none
  b_dict : G.mg "dict" = none
  b_enumerate : G.mg "enumerate" = none
  b_int : G.mg "int" = none
  b_isinstance : G.mg "isinstance" = none
  b_len : G.mg "len" = none
  b_list : G.mg "list" = none
  b_max : G.mg "max" = none
  b_min : G.mg "min" = none
  b_range : G.mg "range" = none
  b_repr : G.mg "repr" = none
  b_sorted : G.mg "sorted" = none
  b_sum : G.mg "sum" = none
  b_tuple : G.mg "tuple" = none
  b_zip : G.mg "zip" = none
  k_MAX_ABOARD : Kon G "MAX_ABOARD" (.int 24)
  k_MAX_CABIN : Kon G "MAX_CABIN" (.int 30)
  k_MAX_STOW : Kon G "MAX_STOW" (.int 20)
  k_MAX_TRYING : Kon G "MAX_TRYING" (.int 6)
  d__law_draws : Df G "_law_draws" s__law_draws ["script"]
  d__law_more : Df G "_law_more" s__law_more ["draws", "place"]
  d__law_take : Df G "_law_take" s__law_take ["draws", "at", "many"]
  d__law_one : Df G "_law_one" s__law_one ["rows", "draws", "at"]
  d__law_guests : Df G "_law_guests" s__law_guests ["rows", "most", "draws", "at"]
  d_is_integer : Df G "is_integer" s_is_integer ["value"]
  d_in_range : Df G "in_range" s_in_range ["value", "least", "most"]
  d_is_guest : Df G "is_guest" s_is_guest ["rows", "value"]
  d_demand_guests : Df G "demand_guests" s_demand_guests ["rows", "guests"]
  d_stands_for : Df G "stands_for" s_stands_for ["guests", "number"]
  d_times_in : Df G "times_in" s_times_in ["guests"]
  d_walked : Df G "walked" s_walked ["guests"]
  d_aisle_at : Df G "aisle_at" s_aisle_at ["rows", "guests", "minute"]
  d_demand_few : Df G "demand_few" s_demand_few ["rows", "guests"]
  d_all_orders : Df G "all_orders" s_all_orders ["count"]
  d_end_of : Df G "end_of" s_end_of ["guests"]
  d_in_order : Df G "in_order" s_in_order ["guests", "order"]
  d_best_order : Df G "best_order" s_best_order ["rows", "guests"]
  d_walks : Df G "walks" s_walks ["rows", "guests"]
  d_delays : Df G "delays" s_delays ["rows", "guests"]
  d_from_windows : Df G "from_windows" s_from_windows ["rows", "guests"]
  d_from_behind : Df G "from_behind" s_from_behind ["rows", "guests"]
  d_stands : Df G "stands" s_stands ["rows", "guests"]
  d_end : Df G "end" s_end ["rows", "guests"]
  d_is_order : Df G "is_order" s_is_order ["guests", "value"]
  d_accept_best_order : Df G "accept_best_order" s_accept_best_order ["rows", "guests", "told"]
  d_put : Df G "put" s_put ["rows", "guests", "order"]
theorem sc__law_draws : FnScope ["script", "draws", "cell", "rest", "k", "mixed"] ["script"] (defScope s__law_draws) := C8.fnScope_by (by decide +kernel)
theorem ok__law_draws {G : Gb} (M : Md G) : FnD G 1 "_law_draws" false 1 [] F__law_draws := by
  exact mkD (k := 0) M.d__law_draws sc__law_draws (show JSs G ⟨["script", "draws", "cell", "rest", "k", "mixed"], defScope s__law_draws, fun _ => true, 0⟩ [] false (defBody s__law_draws) b__law_draws from
    (jss_cons (js_own 1 (j_lst ja_nil))
  (jss_cons (js_for (ji_seq (JF.j (τ := true) (j_slS (j_var 0) jo_none (jo_some j_int)))) (jg_name 2) (jss_cons (js_set 3 (j_abs M.b_abs (j_var 2)))
    (jss_one (js_if (jt_ge (j_var 3) (j_pow j_int j_int)) (jss_one (js_for (ji_rng1 M.b_range (ja_cons j_int ja_nil)) (jg_name 4) (jss_one (js_if (jt_gt (j_var 3) j_int) (jss_cons (js_app 1 (j_mod (j_toint M.b_int (j_var 3)) j_int))
          (jss_one (js_set 3 (j_fdiv (j_var 3) j_int)))) jss_nil)))) (jss_cons (js_set 5 (j_mod (j_toint M.b_int (j_add (j_mul (j_var 3) j_int) j_int)) j_int))
      (jss_one (js_for (ji_rng1 M.b_range (ja_cons j_int ja_nil)) (jg_name 4) (jss_cons (js_set 5 (j_mod (j_toint M.b_int (j_add (j_add (j_mul (j_var 5) j_int) (j_mul j_int (j_var 4))) j_int)) j_int))
        (jss_one (js_app 1 (j_fdiv (j_var 5) j_int)))))))))))
  (jss_frz 1 (jss_one (js_ret (j_var 1)))))))
theorem sc__law_more : FnScope ["draws", "place", "mixed", "k"] ["draws", "place"] (defScope s__law_more) := C8.fnScope_by (by decide +kernel)
theorem ok__law_more {G : Gb} (M : Md G) : FnD G 1 "_law_more" false 2 [] F__law_more := by
  exact mkD (k := 0) M.d__law_more sc__law_more (show JSs G ⟨["draws", "place", "mixed", "k"], defScope s__law_more, fun _ => true, 0⟩ [] false (defBody s__law_more) b__law_more from
    (jss_cons (js_set 2 (j_mod (j_toint M.b_int (j_add (j_add (j_mul (j_var 1) j_int) (j_len M.b_len (j_var 0))) j_int)) j_int))
  (jss_cons (js_for (ji_rng1 M.b_range (ja_cons j_int ja_nil)) (jg_name 3) (jss_cons (js_if (jt_tru (j_var 0)) (jss_one (js_set 2 (j_add (j_var 2) (j_idx (j_var 0) (j_mod (j_toint M.b_int (j_add (j_mul (j_var 1) (j_add (j_var 3) j_int)) (j_var 3))) (j_len M.b_len (j_var 0))))))) jss_nil)
    (jss_one (js_set 2 (j_mod (j_toint M.b_int (j_add (j_add (j_mul (j_var 2) j_int) (j_mul j_int (j_var 3))) j_int)) j_int)))))
  (jss_one (js_ret (j_fdiv (j_var 2) j_int))))))
theorem sc__law_take : FnScope ["draws", "at", "many", "place"] ["draws", "at", "many"] (defScope s__law_take) := C8.fnScope_by (by decide +kernel)
theorem ok__law_take {G : Gb} (M : Md G) : FnD G 2 "_law_take" false 3 [] F__law_take := by
  have h__law_more := ok__law_more M
  exact mkD (k := 1) M.d__law_take sc__law_take (show JSs G ⟨["draws", "at", "many", "place"], defScope s__law_take, fun _ => true, 1⟩ [1] false (defBody s__law_take) b__law_take from
    (jss_cons (js_set 3 (j_idx (j_rd 1) j_int))
  (jss_cons (js_put 1 j_int (j_add (j_var 3) j_int))
  (jss_one (js_ret (j_mod (j_toint M.b_int (j_if (jt_lt (j_var 3) (j_len M.b_len (j_var 0))) (j_idx (j_var 0) (j_var 3)) (j_call h__law_more (jb_cons (j_var 0) (jb_cons (j_var 3) jb_nil))))) (j_var 2)))))))
theorem sc__law_one : FnScope ["rows", "draws", "at"] ["rows", "draws", "at"] (defScope s__law_one) := C8.fnScope_by (by decide +kernel)
theorem ok__law_one {G : Gb} (M : Md G) : FnD G 3 "_law_one" false 3 [] F__law_one := by
  have h__law_take := ok__law_take M
  exact mkD (k := 2) M.d__law_one sc__law_one (show JSs G ⟨["rows", "draws", "at"], defScope s__law_one, fun _ => true, 2⟩ [2] false (defBody s__law_one) b__law_one from
    (jss_one (js_ret (j_idx (j_var 0) (j_call h__law_take (jb_cons (j_var 1) (jb_ref 2 (jb_cons (j_len M.b_len (j_var 0)) jb_nil))))))))
theorem sc__law_guests : FnScope ["rows", "most", "draws", "at", "found", "seats", "k", "seat"] ["rows", "most", "draws", "at"] (defScope s__law_guests) := C8.fnScope_by (by decide +kernel)
theorem ok__law_guests {G : Gb} (M : Md G) : FnD G 4 "_law_guests" false 4 [] F__law_guests := by
  have h__law_take := ok__law_take M
  have h__law_one := ok__law_one M
  exact mkD (k := 3) M.d__law_guests sc__law_guests (show JSs G ⟨["rows", "most", "draws", "at", "found", "seats", "k", "seat"], defScope s__law_guests, fun _ => true, 3⟩ [3] false (defBody s__law_guests) b__law_guests from
    (jss_cons (js_parO 4 5 (j_tup ja_nil) (j_lst ja_nil))
  (jss_cons (js_for (ji_rng1 M.b_range (ja_cons (j_call h__law_take (jb_cons (j_var 2) (jb_ref 3 (jb_cons (j_add (j_var 1) j_int) jb_nil)))) ja_nil)) (jg_name 6) (jss_cons (js_set 7 (j_tup (ja_cons (j_add j_int (j_call h__law_take (jb_cons (j_var 2) (jb_ref 3 (jb_cons (j_var 0) jb_nil))))) (ja_cons (j_call h__law_one (jb_cons (JF.j (τ := true) (j_lst (ja_cons j_int (ja_cons j_int (ja_cons j_int (ja_cons (j_neg j_int) (ja_cons (j_neg j_int) (ja_cons (j_neg j_int) ja_nil)))))))) (jb_cons (j_var 2) (jb_ref 3 jb_nil)))) ja_nil))))
    (jss_one (js_if (jt_notInP (j_var 7) (j_rd 5)) (jss_cons (js_app 5 (j_var 7))
      (jss_one (js_set 4 (j_catT (j_var 4) (j_tup (ja_cons (j_catT (j_var 7) (j_tup (ja_cons (j_add j_int (j_call h__law_take (jb_cons (j_var 2) (jb_ref 3 (jb_cons j_int jb_nil))))) ja_nil))) ja_nil)))))) jss_nil))))
  (jss_one (js_ret (j_var 4))))))
theorem sc_is_integer : FnScope ["value"] ["value"] (defScope s_is_integer) := C8.fnScope_by (by decide +kernel)
theorem ok_is_integer {G : Gb} (M : Md G) : FnD G 1 "is_integer" false 1 [] F_is_integer := by
  exact mkD (k := 0) M.d_is_integer sc_is_integer (show JSs G ⟨["value"], defScope s_is_integer, fun _ => true, 0⟩ [] false (defBody s_is_integer) b_is_integer from
    (jss_one (js_ret (j_and (j_isi "int" M.b_isinstance M.b_int (by decide) (by first | rfl | decide +kernel) (j_var 0)) (j_one (j_not (j_isi "bool" M.b_isinstance M.b_bool (by decide) (by first | rfl | decide +kernel) (j_var 0))))))))
theorem sc_in_range : FnScope ["value", "least", "most"] ["value", "least", "most"] (defScope s_in_range) := C8.fnScope_by (by decide +kernel)
theorem ok_in_range {G : Gb} (M : Md G) : FnD G 2 "in_range" false 3 [] F_in_range := by
  have h_is_integer := ok_is_integer M
  exact mkD (k := 1) M.d_in_range sc_in_range (show JSs G ⟨["value", "least", "most"], defScope s_in_range, fun _ => true, 1⟩ [] false (defBody s_in_range) b_in_range from
    (jss_one (js_ret (j_and (j_call h_is_integer (jb_cons (j_var 0) jb_nil)) (j_one (j_lele (j_var 1) (j_var 0) (j_var 2)))))))
theorem sc_is_guest : FnScope ["rows", "value"] ["rows", "value"] (defScope s_is_guest) := C8.fnScope_by (by decide +kernel)
theorem ok_is_guest {G : Gb} (M : Md G) : FnD G 3 "is_guest" false 2 [] F_is_guest := by
  have h_in_range := ok_in_range M
  exact mkD (k := 2) M.d_is_guest sc_is_guest (show JSs G ⟨["rows", "value"], defScope s_is_guest, fun _ => true, 2⟩ [] false (defBody s_is_guest) b_is_guest from
    (jss_cons (js_if (JW.t (jw_or (jt_not (jt_tru (j_isi "tuple" M.b_isinstance M.b_tuple (by decide) (by first | rfl | decide +kernel) (j_var 1)))) (jw_or (jt_ne (j_len M.b_len (j_var 1)) j_int) (jw_or1 (jt_not (jt_tru (j_call h_in_range (jb_cons (j_idx (j_var 1) j_int) (jb_cons j_int (jb_cons (j_var 0) jb_nil)))))))))) (jss_one (js_ret j_bl)) jss_nil)
  (jss_one (js_ret (j_and (j_call h_in_range (jb_cons (j_idx (j_var 1) j_int) (jb_cons (j_neg j_int) (jb_cons j_int jb_nil)))) (j_and (j_ne (j_idx (j_var 1) j_int) j_int) (j_one (j_call h_in_range (jb_cons (j_idx (j_var 1) j_int) (jb_cons j_int (jb_cons (j_glob M.k_MAX_STOW) jb_nil)))))))))))
theorem sc_demand_guests : FnScope ["rows", "guests", "one", "guest"] ["rows", "guests"] (defScope s_demand_guests) := C8.fnScope_by (by decide +kernel)
theorem ok_demand_guests {G : Gb} (M : Md G) : FnD G 4 "demand_guests" false 2 [] F_demand_guests := by
  have h_in_range := ok_in_range M
  have h_is_guest := ok_is_guest M
  exact mkD (k := 3) M.d_demand_guests sc_demand_guests (show JSs G ⟨["rows", "guests", "one", "guest"], defScope s_demand_guests, fun _ => true, 3⟩ [] false (defBody s_demand_guests) b_demand_guests from
    (jss_cons (js_if (jt_not (jt_tru (j_call h_in_range (jb_cons (j_var 0) (jb_cons j_int (jb_cons (j_glob M.k_MAX_CABIN) jb_nil)))))) (jss_one js_never) jss_nil)
  (jss_cons (js_if (JW.t (jw_or (jt_not (jt_tru (j_isi "tuple" M.b_isinstance M.b_tuple (by decide) (by first | rfl | decide +kernel) (j_var 1)))) (jw_or (jt_gt (j_len M.b_len (j_var 1)) (j_glob M.k_MAX_ABOARD)) (jw_or1 (jt_not (jt_tru (j_all M.b_all (JF.j (τ := true) (jf_lc [("one", 2)] (ji_seq (j_var 1)) (jg_name 2) jts_nil (j_call h_is_guest (jb_cons (j_var 0) (jb_cons (j_var 2) jb_nil)))))))))))) (jss_one js_never) jss_nil)
  (jss_one (js_if (jt_ne (j_lenDc [("guest", 3)] M.b_len (ji_seq (j_var 1)) (jg_name 3) (jk_sl2 (j_var 3))) (j_len M.b_len (j_var 1))) (jss_one js_never) jss_nil)))))
theorem sc_stands_for : FnScope ["guests", "number", "row", "seat", "stow", "found", "other", "side", "wait"] ["guests", "number"] (defScope s_stands_for) := C8.fnScope_by (by decide +kernel)
theorem ok_stands_for {G : Gb} (M : Md G) : FnD G 1 "stands_for" false 2 [] F_stands_for := by
  exact mkD (k := 0) M.d_stands_for sc_stands_for (show JSs G ⟨["guests", "number", "row", "seat", "stow", "found", "other", "side", "wait"], defScope s_stands_for, fun _ => true, 0⟩ [] false (defBody s_stands_for) b_stands_for from
    (jss_cons (js_asg (j_idx (j_var 0) (j_var 1)) (jg_tup (jgs_cons (jg_name 2) (jgs_cons (jg_name 3) (jgs_cons (jg_name 4) jgs_nil)))))
  (jss_cons (js_set 5 j_int)
  (jss_cons (js_for (ji_seq (j_slT (j_var 0) jo_none (jo_some (j_var 1)))) (jg_tup (jgs_cons (jg_name 6) (jgs_cons (jg_name 7) (jgs_cons (jg_name 8) jgs_nil)))) (jss_one (js_if (JW.t (jw_and (jt_eq (j_var 6) (j_var 2)) (jw_and (jt_gt (j_mul (j_var 7) (j_var 3)) j_int) (jw_and1 (jt_lt (j_abs M.b_abs (j_var 7)) (j_abs M.b_abs (j_var 3))))))) (jss_one (js_addI 5 j_int)) jss_nil)))
  (jss_one (js_ret (j_var 5)))))))
theorem sc_times_in : FnScope ["guests", "number", "guest"] ["guests"] (defScope s_times_in) := C8.fnScope_by (by decide +kernel)
theorem ok_times_in {G : Gb} (M : Md G) : FnD G 2 "times_in" false 1 [] F_times_in := by
  have h_stands_for := ok_stands_for M
  exact mkD (k := 1) M.d_times_in sc_times_in (show JSs G ⟨["guests", "number", "guest"], defScope s_times_in, fun _ => true, 1⟩ [] false (defBody s_times_in) b_times_in from
    (jss_one (js_ret (JF.j (τ := true) (jf_lc [("number", 1), ("guest", 2)] (ji_enm M.b_enumerate (j_var 0)) (jg_tup (jgs_cons (jg_name 1) (jgs_cons (jg_name 2) jgs_nil))) jts_nil (j_add (j_idx (j_var 2) j_int) (j_call h_stands_for (jb_cons (j_var 0) (jb_cons (j_var 1) jb_nil)))))))))
theorem sc_walked : FnScope ["guests", "free", "found", "waits", "number", "row", "seat", "stow", "minutes", "place", "least", "sits"] ["guests"] (defScope s_walked) := C8.fnScope_by (by decide +kernel)
theorem ok_walked {G : Gb} (M : Md G) : FnD G 3 "walked" false 1 [] F_walked := by
  have h_times_in := ok_times_in M
  exact mkD (k := 2) M.d_walked sc_walked (show JSs G ⟨["guests", "free", "found", "waits", "number", "row", "seat", "stow", "minutes", "place", "least", "sits"], defScope s_walked, fun _ => true, 2⟩ [] false (defBody s_walked) b_walked from
    (jss_cons (js_own 1 j_dnew)
  (jss_cons (js_own 2 (j_lst ja_nil))
  (jss_cons (js_set 3 (j_call h_times_in (jb_cons (j_var 0) jb_nil)))
  (jss_cons (js_for (ji_enm M.b_enumerate (j_var 0)) (jg_tup (jgs_cons (jg_name 4) (jgs_cons (jg_tup (jgs_cons (jg_name 5) (jgs_cons (jg_name 6) (jgs_cons (jg_name 7) jgs_nil)))) jgs_nil))) (jss_cons (js_own 8 (j_lst ja_nil))
    (jss_cons (js_for (ji_rng2 M.b_range (ja_cons j_int (ja_cons (j_add (j_var 5) j_int) ja_nil))) (jg_name 9) (jss_cons (js_set 10 (j_if (jt_tru (j_rd 8)) (j_add (j_idx (j_rd 8) (j_neg j_int)) j_int) j_int))
      (jss_one (js_app 8 (j_max2 M.b_max (ja_cons (j_var 10) (ja_cons (j_dget2 (j_rd 1) (j_var 9) j_int) ja_nil)))))))
    (jss_frz 8 (jss_cons (js_set 11 (j_add (j_idx (j_var 8) (j_neg j_int)) (j_idx (j_var 3) (j_var 4))))
    (jss_cons (js_for (ji_rng2 M.b_range (ja_cons j_int (ja_cons (j_var 5) ja_nil))) (jg_name 9) (jss_one (js_dput 1 (j_var 9) (j_idx (j_var 8) (j_var 9)))))
    (jss_cons (js_dput 1 (j_var 5) (j_var 11))
    (jss_one (js_app 2 (j_tup (ja_cons (j_tuple M.b_tuple (j_var 8)) (ja_cons (j_var 11) ja_nil))))))))))))
  (jss_frz 1 (jss_frz 2 (jss_one (js_ret (j_var 2))))))))))
theorem sc_aisle_at : FnScope ["rows", "guests", "minute", "found", "number", "minutes", "sits", "place", "one", "row"] ["rows", "guests", "minute"] (defScope s_aisle_at) := C8.fnScope_by (by decide +kernel)
theorem ok_aisle_at {G : Gb} (M : Md G) : FnD G 5 "aisle_at" false 3 [] F_aisle_at := by
  have h_demand_guests := ok_demand_guests M
  have h_in_range := ok_in_range M
  have h_walked := ok_walked M
  exact mkD (k := 4) M.d_aisle_at sc_aisle_at (show JSs G ⟨["rows", "guests", "minute", "found", "number", "minutes", "sits", "place", "one", "row"], defScope s_aisle_at, fun _ => true, 4⟩ [] false (defBody s_aisle_at) b_aisle_at from
    (jss_cons (js_expr (j_call h_demand_guests (jb_cons (j_var 0) (jb_cons (j_var 1) jb_nil))))
  (jss_cons (js_if (jt_not (jt_tru (j_call h_in_range (jb_cons (j_var 2) (jb_cons j_int (jb_cons j_int jb_nil)))))) (jss_one js_never) jss_nil)
  (jss_cons (js_own 3 (j_lst ja_nil))
  (jss_cons (js_for (ji_enm M.b_enumerate (j_call h_walked (jb_cons (j_var 1) jb_nil))) (jg_tup (jgs_cons (jg_name 4) (jgs_cons (jg_tup (jgs_cons (jg_name 5) (jgs_cons (jg_name 6) jgs_nil))) jgs_nil))) (jss_one (js_if (jt_lelt (j_idx (j_var 5) j_int) (j_var 2) (j_var 6)) (jss_one (js_app 3 (j_tup (ja_cons (j_neg (j_max M.b_max (JF.j (τ := true) (jf_lc [("place", 7), ("one", 8)] (ji_enm M.b_enumerate (j_var 5)) (jg_tup (jgs_cons (jg_name 7) (jgs_cons (jg_name 8) jgs_nil))) (jts_one (jt_le (j_var 8) (j_var 2))) (j_add (j_var 7) j_int))))) (ja_cons (j_var 4) ja_nil))))) jss_nil)))
  (jss_frz 3 (jss_one (js_ret (j_tuple M.b_tuple (JF.j (τ := true) (jf_lc [("number", 4), ("row", 9)] (ji_seq (JF.j (τ := true) (j_sortP M.b_sorted (j_var 3)))) (jg_tup (jgs_cons (jg_name 9) (jgs_cons (jg_name 4) jgs_nil))) jts_nil (j_tup (ja_cons (j_var 4) (ja_cons (j_neg (j_var 9)) ja_nil))))))))))))))
theorem sc_demand_few : FnScope ["rows", "guests"] ["rows", "guests"] (defScope s_demand_few) := C8.fnScope_by (by decide +kernel)
theorem ok_demand_few {G : Gb} (M : Md G) : FnD G 5 "demand_few" false 2 [] F_demand_few := by
  have h_demand_guests := ok_demand_guests M
  exact mkD (k := 4) M.d_demand_few sc_demand_few (show JSs G ⟨["rows", "guests"], defScope s_demand_few, fun _ => true, 4⟩ [] false (defBody s_demand_few) b_demand_few from
    (jss_cons (js_expr (j_call h_demand_guests (jb_cons (j_var 0) (jb_cons (j_var 1) jb_nil))))
  (jss_one (js_if (jt_gt (j_len M.b_len (j_var 1)) (j_glob M.k_MAX_TRYING)) (jss_one js_never) jss_nil))))
theorem sc_all_orders : FnScope ["count", "rows", "_", "longer", "row", "number"] ["count"] (defScope s_all_orders) := C8.fnScope_by (by decide +kernel)
theorem ok_all_orders {G : Gb} (M : Md G) : FnD G 1 "all_orders" false 1 [] F_all_orders := by
  exact mkD (k := 0) M.d_all_orders sc_all_orders (show JSs G ⟨["count", "rows", "_", "longer", "row", "number"], defScope s_all_orders, fun _ => true, 0⟩ [] false (defBody s_all_orders) b_all_orders from
    (jss_cons (js_set 1 (JF.j (τ := true) (j_lst (ja_cons (j_tup ja_nil) ja_nil))))
  (jss_cons (js_for (ji_rng1 M.b_range (ja_cons (j_var 0) ja_nil)) (jg_name 2) (jss_cons (js_own 3 (j_lst ja_nil))
    (jss_cons (js_for (ji_seq (JF.j (τ := true) (j_list M.b_list (j_var 1)))) (jg_name 4) (jss_one (js_ext 3 (JF.j (τ := true) (jf_lc [("number", 5)] (ji_rng1 M.b_range (ja_cons (j_var 0) ja_nil)) (jg_name 5) (jts_one (jt_notIn (j_var 5) (j_var 4))) (j_catT (j_var 4) (j_tup (ja_cons (j_var 5) ja_nil))))))))
    (jss_frz 3 (jss_one (js_set 1 (j_var 3)))))))
  (jss_one (js_ret (j_var 1))))))
theorem sc_end_of : FnScope ["guests", "minutes", "sits"] ["guests"] (defScope s_end_of) := C8.fnScope_by (by decide +kernel)
theorem ok_end_of {G : Gb} (M : Md G) : FnD G 4 "end_of" false 1 [] F_end_of := by
  have h_walked := ok_walked M
  exact mkD (k := 3) M.d_end_of sc_end_of (show JSs G ⟨["guests", "minutes", "sits"], defScope s_end_of, fun _ => true, 3⟩ [] false (defBody s_end_of) b_end_of from
    (jss_one (js_ret (j_max M.b_max (JF.j (τ := true) (j_catL (JF.j (τ := true) (j_lst (ja_cons j_int ja_nil))) (JF.j (τ := true) (jf_lc [("minutes", 1), ("sits", 2)] (ji_seq (j_call h_walked (jb_cons (j_var 0) jb_nil))) (jg_tup (jgs_cons (jg_name 1) (jgs_cons (jg_name 2) jgs_nil))) jts_nil (j_var 2)))))))))
theorem sc_in_order : FnScope ["guests", "order", "number"] ["guests", "order"] (defScope s_in_order) := C8.fnScope_by (by decide +kernel)
theorem ok_in_order {G : Gb} (M : Md G) : FnD G 1 "in_order" false 2 [] F_in_order := by
  exact mkD (k := 0) M.d_in_order sc_in_order (show JSs G ⟨["guests", "order", "number"], defScope s_in_order, fun _ => true, 0⟩ [] false (defBody s_in_order) b_in_order from
    (jss_one (js_ret (j_tuple M.b_tuple (JF.j (τ := true) (jf_lc [("number", 2)] (ji_seq (j_var 1)) (jg_name 2) jts_nil (j_idx (j_var 0) (j_var 2))))))))
theorem sc_best_order : FnScope ["rows", "guests", "best", "order", "minute"] ["rows", "guests"] (defScope s_best_order) := C8.fnScope_by (by decide +kernel)
theorem ok_best_order {G : Gb} (M : Md G) : FnD G 6 "best_order" false 2 [] F_best_order := by
  have h_demand_few := ok_demand_few M
  have h_all_orders := ok_all_orders M
  have h_end_of := ok_end_of M
  have h_in_order := ok_in_order M
  exact mkD (k := 5) M.d_best_order sc_best_order (show JSs G ⟨["rows", "guests", "best", "order", "minute"], defScope s_best_order, fun _ => true, 5⟩ [] false (defBody s_best_order) b_best_order from
    (jss_cons (js_expr (j_call h_demand_few (jb_cons (j_var 0) (jb_cons (j_var 1) jb_nil))))
  (jss_cons (js_set 2 j_non)
  (jss_cons (js_for (ji_seq (j_call h_all_orders (jb_cons (j_len M.b_len (j_var 1)) jb_nil))) (jg_name 3) (jss_cons (js_set 4 (j_call h_end_of (jb_cons (j_call h_in_order (jb_cons (j_var 1) (jb_cons (j_var 3) jb_nil))) jb_nil)))
    (jss_one (js_if (JW.t (jw_or (jt_isN (j_var 2) j_non) (jw_or1 (jt_lt (j_var 4) (j_idx (j_var 2) j_int))))) (jss_one (js_set 2 (j_tup (ja_cons (j_var 4) (ja_cons (j_var 3) ja_nil))))) jss_nil))))
  (jss_one (js_ret (j_var 2)))))))
theorem sc_walks : FnScope ["rows", "guests"] ["rows", "guests"] (defScope s_walks) := C8.fnScope_by (by decide +kernel)
theorem ok_walks {G : Gb} (M : Md G) : FnD G 5 "walks" false 2 [] F_walks := by
  have h_demand_guests := ok_demand_guests M
  have h_walked := ok_walked M
  exact mkD (k := 4) M.d_walks sc_walks (show JSs G ⟨["rows", "guests"], defScope s_walks, fun _ => true, 4⟩ [] false (defBody s_walks) b_walks from
    (jss_cons (js_expr (j_call h_demand_guests (jb_cons (j_var 0) (jb_cons (j_var 1) jb_nil))))
  (jss_one (js_ret (j_tuple M.b_tuple (j_call h_walked (jb_cons (j_var 1) jb_nil)))))))
theorem sc_delays : FnScope ["rows", "guests", "found", "row", "seat", "stow", "minutes", "sits"] ["rows", "guests"] (defScope s_delays) := C8.fnScope_by (by decide +kernel)
theorem ok_delays {G : Gb} (M : Md G) : FnD G 5 "delays" false 2 [] F_delays := by
  have h_demand_guests := ok_demand_guests M
  have h_walked := ok_walked M
  exact mkD (k := 4) M.d_delays sc_delays (show JSs G ⟨["rows", "guests", "found", "row", "seat", "stow", "minutes", "sits"], defScope s_delays, fun _ => true, 4⟩ [] false (defBody s_delays) b_delays from
    (jss_cons (js_expr (j_call h_demand_guests (jb_cons (j_var 0) (jb_cons (j_var 1) jb_nil))))
  (jss_cons (js_own 2 (j_lst ja_nil))
  (jss_cons (js_for (ji_zip M.b_zip (ja_cons (j_var 1) (ja_cons (j_call h_walked (jb_cons (j_var 1) jb_nil)) ja_nil))) (jg_tup (jgs_cons (jg_tup (jgs_cons (jg_name 3) (jgs_cons (jg_name 4) (jgs_cons (jg_name 5) jgs_nil)))) (jgs_cons (jg_tup (jgs_cons (jg_name 6) (jgs_cons (jg_name 7) jgs_nil))) jgs_nil))) (jss_one (js_app 2 (j_sub (j_var 7) (j_add (j_sub (j_var 3) j_int) (j_var 5))))))
  (jss_frz 2 (jss_one (js_ret (j_tuple M.b_tuple (j_var 2)))))))))
theorem sc_from_windows : FnScope ["rows", "guests", "keys", "number", "guest", "key"] ["rows", "guests"] (defScope s_from_windows) := C8.fnScope_by (by decide +kernel)
theorem ok_from_windows {G : Gb} (M : Md G) : FnD G 5 "from_windows" false 2 [] F_from_windows := by
  have h_demand_guests := ok_demand_guests M
  exact mkD (k := 4) M.d_from_windows sc_from_windows (show JSs G ⟨["rows", "guests", "keys", "number", "guest", "key"], defScope s_from_windows, fun _ => true, 4⟩ [] false (defBody s_from_windows) b_from_windows from
    (jss_cons (js_expr (j_call h_demand_guests (jb_cons (j_var 0) (jb_cons (j_var 1) jb_nil))))
  (jss_cons (js_setLc 2 [("number", 3), ("guest", 4)] (ji_enm M.b_enumerate (j_var 1)) (jg_tup (jgs_cons (jg_name 3) (jgs_cons (jg_name 4) jgs_nil))) jts_nil (j_tup (ja_cons (j_neg (j_abs M.b_abs (j_idx (j_var 4) j_int))) (ja_cons (j_neg (j_idx (j_var 4) j_int)) (ja_cons (j_idx (j_var 4) j_int) (ja_cons (j_var 3) ja_nil))))))
  (jss_one (js_ret (j_tuple M.b_tuple (JF.j (τ := true) (jf_lc [("key", 5)] (ji_seq (JF.j (τ := true) (j_sortP M.b_sorted (j_var 2)))) (jg_name 5) jts_nil (j_idx (j_var 5) j_int)))))))))
theorem sc_from_behind : FnScope ["rows", "guests", "keys", "number", "guest", "key"] ["rows", "guests"] (defScope s_from_behind) := C8.fnScope_by (by decide +kernel)
theorem ok_from_behind {G : Gb} (M : Md G) : FnD G 5 "from_behind" false 2 [] F_from_behind := by
  have h_demand_guests := ok_demand_guests M
  exact mkD (k := 4) M.d_from_behind sc_from_behind (show JSs G ⟨["rows", "guests", "keys", "number", "guest", "key"], defScope s_from_behind, fun _ => true, 4⟩ [] false (defBody s_from_behind) b_from_behind from
    (jss_cons (js_expr (j_call h_demand_guests (jb_cons (j_var 0) (jb_cons (j_var 1) jb_nil))))
  (jss_cons (js_setLc 2 [("number", 3), ("guest", 4)] (ji_enm M.b_enumerate (j_var 1)) (jg_tup (jgs_cons (jg_name 3) (jgs_cons (jg_name 4) jgs_nil))) jts_nil (j_tup (ja_cons (j_neg (j_idx (j_var 4) j_int)) (ja_cons (j_neg (j_abs M.b_abs (j_idx (j_var 4) j_int))) (ja_cons (j_idx (j_var 4) j_int) (ja_cons (j_var 3) ja_nil))))))
  (jss_one (js_ret (j_tuple M.b_tuple (JF.j (τ := true) (jf_lc [("key", 5)] (ji_seq (JF.j (τ := true) (j_sortP M.b_sorted (j_var 2)))) (jg_name 5) jts_nil (j_idx (j_var 5) j_int)))))))))
theorem sc_stands : FnScope ["rows", "guests", "number"] ["rows", "guests"] (defScope s_stands) := C8.fnScope_by (by decide +kernel)
theorem ok_stands {G : Gb} (M : Md G) : FnD G 5 "stands" false 2 [] F_stands := by
  have h_demand_guests := ok_demand_guests M
  have h_stands_for := ok_stands_for M
  exact mkD (k := 4) M.d_stands sc_stands (show JSs G ⟨["rows", "guests", "number"], defScope s_stands, fun _ => true, 4⟩ [] false (defBody s_stands) b_stands from
    (jss_cons (js_expr (j_call h_demand_guests (jb_cons (j_var 0) (jb_cons (j_var 1) jb_nil))))
  (jss_one (js_ret (j_tuple M.b_tuple (JF.j (τ := true) (jf_lc [("number", 2)] (ji_rng1 M.b_range (ja_cons (j_len M.b_len (j_var 1)) ja_nil)) (jg_name 2) jts_nil (j_call h_stands_for (jb_cons (j_var 1) (jb_cons (j_var 2) jb_nil))))))))))
theorem sc_end : FnScope ["rows", "guests"] ["rows", "guests"] (defScope s_end) := C8.fnScope_by (by decide +kernel)
theorem ok_end {G : Gb} (M : Md G) : FnD G 5 "end" false 2 [] F_end := by
  have h_demand_guests := ok_demand_guests M
  have h_end_of := ok_end_of M
  exact mkD (k := 4) M.d_end sc_end (show JSs G ⟨["rows", "guests"], defScope s_end, fun _ => true, 4⟩ [] false (defBody s_end) b_end from
    (jss_cons (js_expr (j_call h_demand_guests (jb_cons (j_var 0) (jb_cons (j_var 1) jb_nil))))
  (jss_one (js_ret (j_call h_end_of (jb_cons (j_var 1) jb_nil))))))
theorem sc_is_order : FnScope ["guests", "value", "number"] ["guests", "value"] (defScope s_is_order) := C8.fnScope_by (by decide +kernel)
theorem ok_is_order {G : Gb} (M : Md G) : FnD G 3 "is_order" false 2 [] F_is_order := by
  have h_in_range := ok_in_range M
  exact mkD (k := 2) M.d_is_order sc_is_order (show JSs G ⟨["guests", "value", "number"], defScope s_is_order, fun _ => true, 2⟩ [] false (defBody s_is_order) b_is_order from
    (jss_cons (js_if (JW.t (jw_or (jt_not (jt_tru (j_isi "tuple" M.b_isinstance M.b_tuple (by decide) (by first | rfl | decide +kernel) (j_var 1)))) (jw_or1 (jt_ne (j_len M.b_len (j_var 1)) (j_len M.b_len (j_var 0)))))) (jss_one (js_ret j_bl)) jss_nil)
  (jss_cons (js_if (jt_not (jt_tru (j_all M.b_all (JF.j (τ := true) (jf_lc [("number", 2)] (ji_seq (j_var 1)) (jg_name 2) jts_nil (j_call h_in_range (jb_cons (j_var 2) (jb_cons j_int (jb_cons (j_sub (j_len M.b_len (j_var 0)) j_int) jb_nil))))))))) (jss_one (js_ret j_bl)) jss_nil)
  (jss_one (js_ret (j_eq (j_lenD M.b_len (JF.j (τ := true) (jf_dc [("number", 2)] (ji_seq (j_var 1)) (jg_name 2) jts_nil (j_var 2) j_bl))) (j_len M.b_len (j_var 1))))))))
theorem sc_accept_best_order : FnScope ["rows", "guests", "told"] ["rows", "guests", "told"] (defScope s_accept_best_order) := C8.fnScope_by (by decide +kernel)
theorem ok_accept_best_order {G : Gb} (M : Md G) : FnD G 7 "accept_best_order" false 3 [] F_accept_best_order := by
  have h_demand_few := ok_demand_few M
  have h_end_of := ok_end_of M
  have h_is_integer := ok_is_integer M
  have h_is_order := ok_is_order M
  have h_in_order := ok_in_order M
  have h_best_order := ok_best_order M
  exact mkD (k := 6) M.d_accept_best_order sc_accept_best_order (show JSs G ⟨["rows", "guests", "told"], defScope s_accept_best_order, fun _ => true, 6⟩ [] false (defBody s_accept_best_order) b_accept_best_order from
    (jss_cons (js_expr (j_call h_demand_few (jb_cons (j_var 0) (jb_cons (j_var 1) jb_nil))))
  (jss_cons (js_if (JW.t (jw_or (jt_not (jt_tru (j_isi "tuple" M.b_isinstance M.b_tuple (by decide) (by first | rfl | decide +kernel) (j_var 2)))) (jw_or (jt_ne (j_len M.b_len (j_var 2)) j_int) (jw_or (jt_not (jt_tru (j_call h_is_integer (jb_cons (j_idx (j_var 2) j_int) jb_nil)))) (jw_or1 (jt_not (jt_tru (j_call h_is_order (jb_cons (j_var 1) (jb_cons (j_idx (j_var 2) j_int) jb_nil)))))))))) (jss_one js_never) jss_nil)
  (jss_cons (js_if (jt_ne (j_call h_end_of (jb_cons (j_call h_in_order (jb_cons (j_var 1) (jb_cons (j_idx (j_var 2) j_int) jb_nil))) jb_nil)) (j_idx (j_var 2) j_int)) (jss_one js_never) jss_nil)
  (jss_one (js_if (jt_ne (j_idx (j_var 2) j_int) (j_idx (j_call h_best_order (jb_cons (j_var 0) (jb_cons (j_var 1) jb_nil))) j_int)) (jss_one js_never) jss_nil))))))
theorem sc_put : FnScope ["rows", "guests", "order"] ["rows", "guests", "order"] (defScope s_put) := C8.fnScope_by (by decide +kernel)
theorem ok_put {G : Gb} (M : Md G) : FnD G 5 "put" false 3 [] F_put := by
  have h_demand_guests := ok_demand_guests M
  have h_in_order := ok_in_order M
  have h_is_order := ok_is_order M
  exact mkD (k := 4) M.d_put sc_put (show JSs G ⟨["rows", "guests", "order"], defScope s_put, fun _ => true, 4⟩ [] false (defBody s_put) b_put from
    (jss_cons (js_expr (j_call h_demand_guests (jb_cons (j_var 0) (jb_cons (j_var 1) jb_nil))))
  (jss_cons (js_if (jt_not (jt_tru (j_call h_is_order (jb_cons (j_var 1) (jb_cons (j_var 2) jb_nil))))) (jss_one js_never) jss_nil)
  (jss_one (js_ret (j_call h_in_order (jb_cons (j_var 1) (jb_cons (j_var 2) jb_nil))))))))
theorem sc_law : FnScope ["script", "draws", "at", "rows", "guests", "found", "late", "mirror", "row", "seat", "stow", "minutes", "sits", "one", "k", "j", "slow", "minute", "inside", "number", "windows", "behind", "order", "few", "best", "single", "column"] ["script"] (defScope s_law) := C8.fnScope_by (by decide +kernel)
theorem jb_law {G : Gb} (M : Md G) : JSs G ⟨["script", "draws", "at", "rows", "guests", "found", "late", "mirror", "row", "seat", "stow", "minutes", "sits", "one", "k", "j", "slow", "minute", "inside", "number", "windows", "behind", "order", "few", "best", "single", "column"], defScope s_law, fun _ => true, 7⟩ [] false (defBody s_law) b_law := by
  have h__law_draws := ok__law_draws M
  have h__law_guests := ok__law_guests M
  have h__law_take := ok__law_take M
  have h_aisle_at := ok_aisle_at M
  have h_best_order := ok_best_order M
  have h_walks := ok_walks M
  have h_delays := ok_delays M
  have h_from_windows := ok_from_windows M
  have h_from_behind := ok_from_behind M
  have h_stands := ok_stands M
  have h_end := ok_end M
  have h_accept_best_order := ok_accept_best_order M
  have h_put := ok_put M
  exact (jss_cons (js_set 1 (j_call h__law_draws (jb_cons (j_var 0) jb_nil)))
  (jss_cons (js_own 2 (j_lst (ja_cons j_int ja_nil)))
  (jss_cons (js_set 3 (j_add j_int (j_call h__law_take (jb_cons (j_var 1) (jb_ref 2 (jb_cons j_int jb_nil))))))
  (jss_cons (js_set 4 (j_call h__law_guests (jb_cons (j_var 3) (jb_cons j_int (jb_cons (j_var 1) (jb_ref 2 jb_nil))))))
  (jss_cons (js_asg (j_tup (ja_cons (j_call h_walks (jb_cons (j_var 3) (jb_cons (j_var 4) jb_nil))) (ja_cons (j_call h_delays (jb_cons (j_var 3) (jb_cons (j_var 4) jb_nil))) ja_nil))) (jg_tup (jgs_cons (jg_name 5) (jgs_cons (jg_name 6) jgs_nil))))
  (jss_cons (js_set 7 (j_tuple M.b_tuple (JF.j (τ := true) (jf_lc [("row", 8), ("seat", 9), ("stow", 10)] (ji_seq (j_var 4)) (jg_tup (jgs_cons (jg_name 8) (jgs_cons (jg_name 9) (jgs_cons (jg_name 10) jgs_nil)))) jts_nil (j_tup (ja_cons (j_var 8) (ja_cons (j_sub j_int (j_var 9)) (ja_cons (j_var 10) ja_nil))))))))
  (jss_cons (js_if (JW.t (jw_or (jt_ne (j_repr M.b_repr (j_call h_walks (jb_cons (j_var 3) (jb_cons (j_var 7) jb_nil)))) (j_repr M.b_repr (j_var 5))) (jw_or (jt_neD (j_call h_stands (jb_cons (j_var 3) (jb_cons (j_var 7) jb_nil))) (j_call h_stands (jb_cons (j_var 3) (jb_cons (j_var 4) jb_nil)))) (jw_or1 (jt_neD (j_call h_walks (jb_cons (j_add (j_var 3) j_int) (jb_cons (j_var 4) jb_nil))) (j_var 5)))))) (jss_one (js_ret j_bl)) jss_nil)
  (jss_cons (js_if (JW.t (jw_or (jt_ne (j_call h_end (jb_cons (j_var 3) (jb_cons (j_var 4) jb_nil))) (j_max M.b_max (JF.j (τ := true) (j_catL (JF.j (τ := true) (j_lst (ja_cons j_int ja_nil))) (JF.j (τ := true) (jf_lc [("minutes", 11), ("sits", 12)] (ji_seq (j_var 5)) (jg_tup (jgs_cons (jg_name 11) (jgs_cons (jg_name 12) jgs_nil))) jts_nil (j_var 12))))))) (jw_or1 (jt_tru (JF.j (τ := true) (jf_lc [("one", 13)] (ji_seq (j_var 6)) (jg_name 13) (jts_one (jt_lt (j_var 13) j_int)) (j_var 13))))))) (jss_one (js_ret j_bl)) jss_nil)
  (jss_cons (js_for (ji_rng1 M.b_range (ja_cons (j_len M.b_len (j_var 4)) ja_nil)) (jg_name 14) (jss_cons (js_if (jt_neD (j_call h_walks (jb_cons (j_var 3) (jb_cons (j_slT (j_var 4) jo_none (jo_some (j_add (j_var 14) j_int))) jb_nil))) (j_slT (j_var 5) jo_none (jo_some (j_add (j_var 14) j_int)))) (jss_one (js_ret j_bl)) jss_nil)
    (jss_cons (js_asg (j_idx (j_var 5) (j_var 14)) (jg_tup (jgs_cons (jg_name 11) (jgs_cons (jg_name 12) jgs_nil))))
    (jss_cons (js_if (JW.t (jw_or (jt_tru (JF.j (τ := true) (jf_lc [("j", 15)] (ji_rng2 M.b_range (ja_cons j_int (ja_cons (j_len M.b_len (j_var 11)) ja_nil))) (jg_name 15) (jts_one (jt_le (j_idx (j_var 11) (j_var 15)) (j_idx (j_var 11) (j_sub (j_var 15) j_int)))) (j_var 15)))) (jw_or (jt_lt (j_var 12) (j_add (j_idx (j_var 11) (j_neg j_int)) (j_idx (j_idx (j_var 4) (j_var 14)) j_int))) (jw_or1 (jt_ne (j_len M.b_len (j_var 11)) (j_idx (j_idx (j_var 4) (j_var 14)) j_int)))))) (jss_one (js_ret j_bl)) jss_nil)
    (jss_one (js_if (JW.t (jw_or (jt_ne (j_sub (j_var 12) (j_idx (j_var 6) (j_var 14))) (j_add (j_sub (j_idx (j_idx (j_var 4) (j_var 14)) j_int) j_int) (j_idx (j_idx (j_var 4) (j_var 14)) j_int))) (jw_or1 (jt_neD (j_call h_delays (jb_cons (j_var 3) (jb_cons (j_slT (j_var 4) (jo_some (j_var 14)) (jo_some (j_add (j_var 14) j_int))) jb_nil))) (j_tup (ja_cons j_int ja_nil)))))) (jss_one (js_ret j_bl)) jss_nil))))))
  (jss_cons (js_set 16 (j_tuple M.b_tuple (JF.j (τ := true) (jf_lc [("one", 13)] (ji_seq (j_var 4)) (jg_name 13) jts_nil (j_catT (j_slT (j_var 13) jo_none (jo_some j_int)) (j_tup (ja_cons (j_add (j_idx (j_var 13) j_int) (j_call h__law_take (jb_cons (j_var 1) (jb_ref 2 (jb_cons j_int jb_nil))))) ja_nil)))))))
  (jss_cons (js_if (JW.t (jw_or (jt_tru (JF.j (τ := true) (jf_lc [("k", 14)] (ji_rng1 M.b_range (ja_cons (j_len M.b_len (j_var 4)) ja_nil)) (jg_name 14) (jts_one (jt_lt (j_idx (j_idx (j_call h_walks (jb_cons (j_var 3) (jb_cons (j_var 16) jb_nil))) (j_var 14)) j_int) (j_idx (j_idx (j_var 5) (j_var 14)) j_int))) (j_var 14)))) (jw_or1 (jt_lt (j_call h_end (jb_cons (j_var 3) (jb_cons (j_var 16) jb_nil))) (j_call h_end (jb_cons (j_var 3) (jb_cons (j_var 4) jb_nil))))))) (jss_one (js_ret j_bl)) jss_nil)
  (jss_cons (js_set 17 (j_call h__law_take (jb_cons (j_var 1) (jb_ref 2 (jb_cons (j_add (j_call h_end (jb_cons (j_var 3) (jb_cons (j_var 4) jb_nil))) j_int) jb_nil)))))
  (jss_frz 2 (jss_cons (js_set 18 (j_call h_aisle_at (jb_cons (j_var 3) (jb_cons (j_var 4) (jb_cons (j_var 17) jb_nil)))))
  (jss_cons (js_if (JW.t (jw_or (jt_ne (j_lenD M.b_len (JF.j (τ := true) (j_dictP M.b_dict (JF.j (τ := true) (jf_lc [("row", 8), ("number", 19)] (ji_seq (j_var 18)) (jg_tup (jgs_cons (jg_name 19) (jgs_cons (jg_name 8) jgs_nil))) jts_nil (j_tup (ja_cons (j_var 8) (ja_cons j_int ja_nil)))))))) (j_len M.b_len (j_var 18))) (jw_or1 (jt_tru (JF.j (τ := true) (jf_lc [("k", 14)] (ji_rng2 M.b_range (ja_cons j_int (ja_cons (j_len M.b_len (j_var 18)) ja_nil))) (jg_name 14) (jts_one (JW.t (jw_or (jt_ge (j_idx (j_idx (j_var 18) (j_var 14)) j_int) (j_idx (j_idx (j_var 18) (j_sub (j_var 14) j_int)) j_int)) (jw_or1 (jt_le (j_idx (j_idx (j_var 18) (j_var 14)) j_int) (j_idx (j_idx (j_var 18) (j_sub (j_var 14) j_int)) j_int)))))) (j_var 14))))))) (jss_one (js_ret j_bl)) jss_nil)
  (jss_cons (js_if (jt_ne (j_len M.b_len (j_var 18)) (j_len M.b_len (JF.j (τ := true) (jf_lc [("minutes", 11), ("sits", 12)] (ji_seq (j_var 5)) (jg_tup (jgs_cons (jg_name 11) (jgs_cons (jg_name 12) jgs_nil))) (jts_one (jt_lelt (j_idx (j_var 11) j_int) (j_var 17) (j_var 12))) j_int)))) (jss_one (js_ret j_bl)) jss_nil)
  (jss_cons (js_par 20 21 (ja_cons (j_call h_from_windows (jb_cons (j_var 3) (jb_cons (j_var 4) jb_nil))) (ja_cons (j_call h_from_behind (jb_cons (j_var 3) (jb_cons (j_var 4) jb_nil))) ja_nil)))
  (jss_cons (js_for (ji_seq (j_tup (ja_cons (j_var 20) (ja_cons (j_var 21) ja_nil)))) (jg_name 22) (jss_one (js_if (JW.t (jw_or (jt_neD (JF.j (τ := true) (j_sortT M.b_sorted (j_var 22))) (JF.j (τ := true) (j_lrng1 M.b_list M.b_range (j_len M.b_len (j_var 4))))) (jw_or1 (jt_ne (j_sumT M.b_sum (j_call h_stands (jb_cons (j_var 3) (jb_cons (j_call h_put (jb_cons (j_var 3) (jb_cons (j_var 4) (jb_cons (j_var 22) jb_nil)))) jb_nil)))) j_int)))) (jss_one (js_ret j_bl)) jss_nil)))
  (jss_cons (js_set 23 (j_slT (j_var 4) jo_none (jo_some j_int)))
  (jss_cons (js_set 24 (j_call h_best_order (jb_cons (j_var 3) (jb_cons (j_var 23) jb_nil))))
  (jss_cons (js_if (JW.t (jw_or (jt_notN (j_call h_accept_best_order (jb_cons (j_var 3) (jb_cons (j_var 23) (jb_cons (j_var 24) jb_nil)))) j_non) (jw_or (jt_ne (j_call h_end (jb_cons (j_var 3) (jb_cons (j_call h_put (jb_cons (j_var 3) (jb_cons (j_var 23) (jb_cons (j_idx (j_var 24) j_int) jb_nil)))) jb_nil))) (j_idx (j_var 24) j_int)) (jw_or1 (jt_gt (j_idx (j_var 24) j_int) (j_call h_end (jb_cons (j_var 3) (jb_cons (j_var 23) jb_nil)))))))) (jss_one (js_ret j_bl)) jss_nil)
  (jss_cons (js_for (ji_seq (j_tup (ja_cons (j_call h_from_windows (jb_cons (j_var 3) (jb_cons (j_var 23) jb_nil))) (ja_cons (j_call h_from_behind (jb_cons (j_var 3) (jb_cons (j_var 23) jb_nil))) (ja_cons (j_revT (j_trng1 M.b_tuple M.b_range (j_len M.b_len (j_var 23)))) ja_nil))))) (jg_name 22) (jss_one (js_if (JW.t (jw_or (jt_lt (j_call h_end (jb_cons (j_var 3) (jb_cons (j_call h_put (jb_cons (j_var 3) (jb_cons (j_var 23) (jb_cons (j_var 22) jb_nil)))) jb_nil))) (j_idx (j_var 24) j_int)) (jw_or1 (JW.t (jw_and (jt_eq (j_call h_end (jb_cons (j_var 3) (jb_cons (j_call h_put (jb_cons (j_var 3) (jb_cons (j_var 23) (jb_cons (j_var 22) jb_nil)))) jb_nil))) (j_idx (j_var 24) j_int)) (jw_and1 (jt_ltT (j_var 22) (j_idx (j_var 24) j_int)))))))) (jss_one (js_ret j_bl)) jss_nil)))
  (jss_cons (js_if (JW.t (jw_or (JW.t (jw_and (jt_tru (j_var 23)) (jw_and1 (jt_lt (j_idx (j_var 24) j_int) (j_max M.b_max (JF.j (τ := true) (jf_lc [("row", 8), ("seat", 9), ("stow", 10)] (ji_seq (j_var 23)) (jg_tup (jgs_cons (jg_name 8) (jgs_cons (jg_name 9) (jgs_cons (jg_name 10) jgs_nil)))) jts_nil (j_add (j_sub (j_var 8) j_int) (j_var 10))))))))) (jw_or1 (JW.t (jw_and (jt_gt (j_len M.b_len (j_var 23)) j_int) (jw_and1 (jt_gt (j_idx (j_call h_best_order (jb_cons (j_var 3) (jb_cons (j_slT (j_var 23) (jo_some j_int) jo_none) jb_nil))) j_int) (j_idx (j_var 24) j_int)))))))) (jss_one (js_ret j_bl)) jss_nil)
  (jss_cons (js_set 25 (j_tuple M.b_tuple (JF.j (τ := true) (jf_lc [("seat", 9)] (ji_seq (j_tup (ja_cons j_int (ja_cons j_int (ja_cons j_int ja_nil))))) (jg_name 9) jts_nil (j_tup (ja_cons j_int (ja_cons (j_var 9) (ja_cons j_int ja_nil))))))))
  (jss_cons (js_if (JW.t (jw_or (jt_neD (j_call h_stands (jb_cons j_int (jb_cons (j_var 25) jb_nil))) (j_tup (ja_cons j_int (ja_cons j_int (ja_cons j_int ja_nil))))) (jw_or (jt_ne (j_call h_end (jb_cons j_int (jb_cons (j_var 25) jb_nil))) (j_add (j_add j_int j_int) j_int)) (jw_or (jt_neD (j_call h_stands (jb_cons j_int (jb_cons (j_revT (j_var 25)) jb_nil))) (j_tup (ja_cons j_int (ja_cons j_int (ja_cons j_int ja_nil))))) (jw_or1 (jt_ne (j_call h_end (jb_cons j_int (jb_cons (j_revT (j_var 25)) jb_nil))) j_int)))))) (jss_one (js_ret j_bl)) jss_nil)
  (jss_cons (js_set 26 (j_tuple M.b_tuple (JF.j (τ := true) (jf_lc [("row", 8)] (ji_rng2 M.b_range (ja_cons j_int (ja_cons (j_min2 M.b_min (ja_cons j_int (ja_cons (j_glob M.k_MAX_CABIN) ja_nil))) ja_nil))) (jg_name 8) jts_nil (j_tup (ja_cons (j_var 8) (ja_cons j_int (ja_cons j_int ja_nil))))))))
  (jss_one (js_ret (j_and (j_le (j_call h_end (jb_cons (j_glob M.k_MAX_CABIN) (jb_cons (j_revT (j_var 26)) jb_nil))) (j_call h_end (jb_cons (j_glob M.k_MAX_CABIN) (jb_cons (j_var 26) jb_nil)))) (j_one (j_le (j_len M.b_len (j_var 4)) (j_glob M.k_MAX_ABOARD))))))))))))))))))))))))))))))))
end W

set_option Elab.async false
set_option linter.all false
set_option maxRecDepth 100000
set_option maxHeartbeats 4000000
/-! A1 (k32): guests, and what the aisle gives. -/
namespace W
open PySem PySem.Spec L2 EV W32
abbrev encG (g : Gu) : D := .tuple [.int (g.1 : Nat), .int g.2.1, .int (g.2.2 : Nat)]
abbrev gsD (gs : List Gu) : D := .tuple (gs.map encG)
/-- guests in a cabin of n rows -/
structure GG (n : Nat) (gs : List Gu) : Prop where
  n1 : 1 ≤ n
  n2 : n ≤ 30
  l2 : gs.length ≤ 24
  ok : ∀ g ∈ gs, (1 ≤ g.1 ∧ g.1 ≤ n) ∧ (-3 ≤ g.2.1 ∧ g.2.1 ≤ 3 ∧ g.2.1 ≠ 0) ∧ (1 ≤ g.2.2 ∧ g.2.2 ≤ 20)
  nd : (gs.map fun g => (g.1, g.2.1)).Nodup
theorem v_is_integer {i : Int} : vF F_is_integer [.val (.int i)] = some (.bool true) := by
  simp [e_vF, F_is_integer, b_is_integer, -o_Isi]
theorem v_in_range {i a b : Int} : vF F_in_range [.val (.int i), .val (.int a), .val (.int b)] = some (.bool (decide (a ≤ i) && decide (i ≤ b))) := by
  simp [e_vF, F_in_range, b_in_range, e_call1, v_is_integer]
  by_cases h : a ≤ i <;> simp [h]
theorem v_is_guest {n : Nat} {g : Gu} (h : (1 ≤ g.1 ∧ g.1 ≤ n) ∧ (-3 ≤ g.2.1 ∧ g.2.1 ≤ 3 ∧ g.2.1 ≠ 0) ∧ (1 ≤ g.2.2 ∧ g.2.2 ≤ 20)) : vF F_is_guest [.val (.int (n : Nat)), .val (encG g)] = some (.bool true) := by
  obtain ⟨⟨h1, h2⟩, ⟨h3, h4, h5⟩, h6, h7⟩ := h
  obtain ⟨r, s, t⟩ := g
  dsimp only at h1 h2 h3 h4 h5 h6 h7
  have a1 : (1 : Int) ≤ (r : Nat) := by omega
  have a2 : ((r : Nat) : Int) ≤ (n : Nat) := by omega
  have a3 : (1 : Int) ≤ (t : Nat) := by omega
  have a4 : ((t : Nat) : Int) ≤ 20 := by omega
  have b1 : ¬ ((r : Nat) : Int) < 1 := by omega
  have b2 : ¬ ((t : Nat) : Int) < 1 := by omega
  simp [e_vF, F_is_guest, b_is_guest, -o_Isi, ix3_0, ix3_1, ix3_2, e_call3, v_in_range, h1, h2, h3, h4, h5, h6, h7, a4, b1, b2]
  omega
/-! ### the count of keys -/
theorem dcK_new {α : Type} {enc : α → D} {key : α → List Key} {b : Bd} {fk : EV.Sg → Option (List Key × EV.Sg)} {vs : List Nat} {w : EV.Sg} : ∀ {ys : List α} {acc : List (List Key)}, (∀ y ∈ ys, ∃ g1 g2, b (enc y) w = some g1 ∧ fk g1 = some (key y, g2) ∧ wipeG g2 vs = w) → (acc ++ ys.map key).Nodup → acc.length + ys.length ≤ sizeLine →
    dcKGo b fk vs (ys.map enc) acc w = some (acc ++ ys.map key, w)
  | [], acc, _, _, _ => by show some (acc, w) = some (acc ++ [], w); rw [List.append_nil]
  | y :: ys, acc, H, hn, hl => by
    obtain ⟨g1, g2, h1, h2, h3⟩ := H y List.mem_cons_self
    rw [List.length_cons] at hl
    have hnot : ¬ (acc.any fun x => decide (x = key y)) = true := fun z => by
      obtain ⟨x, hx, e⟩ := List.any_eq_true.mp z
      rw [List.map_cons, List.nodup_append] at hn
      exact hn.2.2 x hx (key y) List.mem_cons_self (of_decide_eq_true e)
    rw [List.map_cons]
    unfold dcKGo
    simp only [h1, h2, Option.bind_some, h3]
    rw [if_pos (by omega), if_neg hnot]
    have ih := dcK_new (ys := ys) (acc := acc ++ [key y]) (fun z hz => H z (List.mem_cons_of_mem _ hz)) (by rw [List.append_assoc]; exact hn) (by rw [List.length_append, List.length_singleton]; omega)
    rw [ih, List.append_assoc]; rfl
abbrev keyG (g : Gu) : List Key := [.inl (g.1 : Nat), .inl g.2.1]
theorem v_demand_guests {n : Nat} {gs : List Gu} (G : GG n gs) : vF F_demand_guests [.val (.int (n : Nat)), .val (gsD gs)] = some .none := by
  have n1 : (1 : Int) ≤ (n : Nat) := by have := G.n1; omega
  have n2 : ((n : Nat) : Int) ≤ 30 := by have := G.n2; omega
  have l2 := G.l2
  have n24 : ¬ (24 : Int) < ((gs.length : Nat) : Int) := by omega
  have a1 := fLc_l (e := fun _ => PyData.bool true) (it := iSeq (fV 1)) (b := bN 2) (tt := tY) (te := fCall F_is_guest [] (bCons (fV 0) (bCons (fV 2) bNil))) (vs := [2]) (g := [.val (.int (n : Nat)), .val (gsD gs), .emp, .emp]) encG (xs := gs) (by simp) rfl (z_size (by omega)) (fun g hg => by
    have e := v_is_guest (G.ok g hg)
    generalize encG g = Q at *
    simp [trn, wipeG, e_call2, e])
  have e1 := oAll_t (xs := gs)
  have hnd : (gs.map keyG).Nodup := by
    have : gs.map keyG = (gs.map fun g => (g.1, g.2.1)).map fun p => [(.inl ((p.1 : Nat) : Int) : Key), .inl p.2] := by rw [List.map_map]; rfl
    rw [this]
    refine List.Pairwise.map _ (fun a b hab z => hab ?_) G.nd
    injection z with z1 z2
    injection z2 with z2 _
    injection z1 with z1
    injection z2 with z2
    exact Prod.ext (by omega) z2
  have a2 := dcK_new (enc := encG) (key := keyG) (b := bN 3) (fk := fSl2 (fV 3)) (vs := [3]) (w := [.val (.int (n : Nat)), .val (gsD gs), .emp, .emp]) (ys := gs) (acc := []) (fun g hg => ⟨[.val (.int (n : Nat)), .val (gsD gs), .emp, .val (encG g)], [.val (.int (n : Nat)), .val (gsD gs), .emp, .val (encG g)], by simp, by simp [fSl2, keyOf], by simp [wipeG]⟩) (by simpa using hnd) (by have : 24 ≤ sizeLine := z_size (by omega); simp; omega)
  have a3 : fLenDc (iSeq (fV 1)) (bN 3) (fSl2 (fV 3)) [3] [.val (.int (n : Nat)), .val (gsD gs), .emp, .emp] = some (.int (gs.length : Nat), [.val (.int (n : Nat)), .val (gsD gs), .emp, .emp]) := by
    have it : iSeq (fV 1) [.val (.int (n : Nat)), .val (gsD gs), .emp, .emp] = some (gs.map encG, [.val (.int (n : Nat)), .val (gsD gs), .emp, .emp]) := by simp
    unfold fLenDc
    rw [it, Option.bind_some, if_pos (show noOwn [.val (.int (n : Nat)), .val (gsD gs), .emp, .emp] [3] = true from rfl)]
    show (dcKGo _ _ _ (gs.map encG) [] [.val (.int (n : Nat)), .val (gsD gs), .emp, .emp]).map _ = _
    rw [a2, Option.map_some, List.nil_append, List.length_map]
    rfl
  simp [e_vF, F_demand_guests, b_demand_guests, -o_Isi, e_call3, v_in_range, n1, n2, n24, a1, -e_fLc, e1, a3]
/-! ### who must stand up -/
theorem gG_mem {gs : List Gu} {k : Nat} (h : k < gs.length) : gG gs k ∈ gs := by
  unfold gG
  rw [List.getD_eq_getElem?_getD, List.getElem?_eq_getElem h]; exact List.getElem_mem h
theorem gs_R {gs : List Gu} : gs.map encG = EV.R gs.length fun k => encG (gG gs k) := map_Rg
theorem stn_app {pre : List Gu} {g o : Gu} : stn (pre ++ [o]) g = stn pre g + if inW g o = true then 1 else 0 := by
  unfold stn
  rw [List.filter_append, List.length_append]
  congr 1
  by_cases h : inW g o = true
  · rw [if_pos h, List.filter_cons_of_pos h]; rfl
  · rw [if_neg h, List.filter_cons_of_neg h]; rfl
theorem v_stands_for {gs : List Gu} {k : Nat} (hl : gs.length ≤ 100) (hs : ∀ g ∈ gs, -3 ≤ g.2.1 ∧ g.2.1 ≤ 3) (hk : k < gs.length) : vF F_stands_for [.val (gsD gs), .val (.int (k : Nat))] = some (.int (stn (gs.take k) (gG gs k) : Nat)) := by
  have ix : atI (gs.map encG) (k : Int) = some (encG (gG gs k)) := by rw [gs_R, atI_R hk]
  have hc : cutD (gs.map encG) none (some (k : Int)) = (gs.take k).map encG := by rw [cut_take (by rw [List.length_map]; omega), List.map_take]
  obtain ⟨s1, s2⟩ := hs _ (gG_mem hk)
  generalize hg : gG gs k = g at *
  obtain ⟨r, s, t⟩ := g
  dsimp only at s1 s2
  obtain ⟨g', e1, x6, x7, x8, rfl⟩ := forGo_l (b := bT (bLen 3 (bsC (bN 6) (bsC (bN 7) (bsC (bN 8) bsN))))) (f := fIfS (tAndD (t2 oEq (fV 6) (fV 2)) (tAndD (t2 pbGt (f2 oMul (fV 7) (fV 3)) (fC (.int 0))) (t2 pbLt (f1 oAbs (fV 7)) (f1 oAbs (fV 3))))) (fAug oAdd 5 (fC (.int 1))) fNx)
    (g := [.val (gsD gs), .val (.int (k : Nat)), .val (.int (r : Nat)), .val (.int s), .val (.int (t : Nat)), .val (.int 0), .emp, .emp, .emp]) encG (xs := gs.take k)
    (fun pre gg => ∃ x6 x7 x8 : EV.Slot, gg = [.val (gsD gs), .val (.int (k : Nat)), .val (.int (r : Nat)), .val (.int s), .val (.int (t : Nat)), .val (.int (stn pre (r, s, t) : Nat)), x6, x7, x8]) (by
      rintro pre o post gg hpre ⟨x6, x7, x8, rfl⟩
      have ho : o ∈ gs := List.mem_of_mem_take (by rw [← hpre]; simp)
      obtain ⟨o1, o2⟩ := hs o ho
      obtain ⟨r', s', t'⟩ := o
      dsimp only at o1 o2
      have m1 : cMul s' s = true := cMul_ok (by omega) (by omega)
      refine ⟨[.val (gsD gs), .val (.int (k : Nat)), .val (.int (r : Nat)), .val (.int s), .val (.int (t : Nat)), .val (.int (stn (pre ++ [(r', s', t')]) (r, s, t) : Nat)), .val (.int (r' : Nat)), .val (.int s'), .val (.int (t' : Nat))], ?_, _, _, _, rfl⟩
      rw [stn_app]
      have hin : inW (r, s, t) (r', s', t') = (decide (r' = r) && (decide (0 < s' * s) && decide ((if s' < 0 then -s' else s') < if s < 0 then -s else s))) := rfl
      rw [hin]
      generalize stn pre (r, s, t) = N
      generalize gsD gs = X at *
      by_cases c1 : r' = r
      · subst c1
        by_cases c2 : 0 < s' * s
        · by_cases c3 : (if s' < 0 then -s' else s') < if s < 0 then -s else s
          · simp [c2, c3, m1]
          · simp [c2, c3, m1]
        · simp [c2, m1]
      · have c1i : ¬ ((r' : Nat) : Int) = (r : Nat) := by omega
        simp [c1, c1i]) ⟨.emp, .emp, .emp, rfl⟩
  generalize stn (gs.take k) (r, s, t) = N at *
  simp [e_vF, F_stands_for, b_stands_for, ix, hc, -List.map_take]
  rw [e1]
  simp
theorem v_times_in {gs : List Gu} (hl : gs.length ≤ 100) (hs : ∀ g ∈ gs, -3 ≤ g.2.1 ∧ g.2.1 ≤ 3) : vF F_times_in [.val (gsD gs)] = some (.list (EV.R gs.length fun k => .int (wt gs k : Nat))) := by
  have hen : enmD (gs.map encG) = EV.R gs.length fun k => .tuple [.int k, encG (gG gs k)] := by rw [gs_R, R_enm]
  have a1 := fLc_map (n := gs.length) (h := fun k => .tuple [.int k, encG (gG gs k)]) (f := fun k => .int (wt gs k : Nat)) (it := iEnm (fV 0)) (b := bT (bLen 2 (bsC (bN 1) (bsC (bN 2) bsN)))) (tt := tY) (te := f2 oAdd (f2 oIdx (fV 2) (fC (.int 2))) (fCall F_stands_for [] (bCons (fV 0) (bCons (fV 1) bNil)))) (vs := [1, 2]) (g := [.val (gsD gs), .emp, .emp]) (by simp [hen]) rfl (z_size (by omega)) (fun k hk => by
    have e := v_stands_for hl hs hk
    have i2 : oIdx (encG (gG gs k)) (.int 2) = some (.int ((gG gs k).2.2 : Nat)) := ix3_2
    have ew : ((wt gs k : Nat) : Int) = ((gG gs k).2.2 : Int) + (stn (gs.take k) (gG gs k) : Nat) := by unfold wt; omega
    rw [ew]
    generalize encG (gG gs k) = Q at *
    generalize stn (gs.take k) (gG gs k) = N at *
    generalize gsD gs = X at *
    simp [trn, wipeG, i2, e_call2, e])
  simp [e_vF, F_times_in, b_times_in, a1, -e_fLc]
end W

set_option Elab.async false
set_option linter.all false
set_option maxRecDepth 100000
set_option maxHeartbeats 4000000
/-! A2 (k32): the walk down the aisle. -/
namespace W
open PySem PySem.Spec L2 EV W32
/-! ### what the dict of free rows holds -/
theorem dFind_put {k k' : Key} {d : D} : ∀ {ds : List (D × D)}, dFind (dPut ds k d) k' = if k' = k then some d else dFind ds k' := by
  intro ds
  have key : ∀ ds : List (D × D), (ds.any fun kv => decide (keyOf kv.1 = some k)) = true → dFind (ds.map fun kv => if keyOf kv.1 = some k then (kv.1, d) else kv) k' = if k' = k then some d else dFind ds k' := by
    intro ds
    induction ds with
    | nil => intro h; cases h
    | cons x r ih =>
      intro h
      unfold dFind at ih ⊢
      rw [List.map_cons, List.find?_cons, List.find?_cons]
      by_cases hx : keyOf x.1 = some k
      · rw [if_pos hx]
        dsimp only
        by_cases hk : k' = k
        · rw [if_pos hk, hk, decide_eq_true hx]; rfl
        · have n1 : decide (keyOf x.1 = some k') = false := decide_eq_false (by rw [hx]; intro z; exact hk (Option.some.inj z).symm)
          rw [if_neg hk, n1]
          dsimp only
          -- the rest keeps what is asked
          clear h ih
          induction r with
          | nil => rfl
          | cons y r ih =>
            rw [List.map_cons, List.find?_cons, List.find?_cons]
            by_cases hy : keyOf y.1 = some k
            · have n2 : decide (keyOf y.1 = some k') = false := decide_eq_false (by rw [hy]; intro z; exact hk (Option.some.inj z).symm)
              rw [if_pos hy]
              dsimp only
              rw [n2]
              exact ih
            · rw [if_neg hy]
              cases hd : decide (keyOf y.1 = some k') with
              | true => rfl
              | false => exact ih
      · rw [if_neg hx]
        rw [List.any_cons, decide_eq_false hx, Bool.false_or] at h
        cases hd : decide (keyOf x.1 = some k') with
        | true =>
          have : ¬ k' = k := fun z => hx (by rw [← z]; exact of_decide_eq_true hd)
          rw [if_neg this]
        | false => exact ih h
  unfold dPut
  by_cases h : (ds.any fun kv => decide (keyOf kv.1 = some k)) = true
  · rw [if_pos h]; exact key ds h
  · rw [if_neg h]
    have hn : dFind ds k = none := by
      unfold dFind
      rw [Option.map_eq_none_iff, List.find?_eq_none]
      intro x hx z
      exact h (List.any_eq_true.mpr ⟨x, hx, z⟩)
    unfold dFind at hn ⊢
    rw [List.find?_append]
    by_cases hk : k' = k
    · subst hk
      rw [if_pos rfl, Option.map_eq_none_iff.mp hn]
      simp [keyOf_kD]
    · rw [if_neg hk]
      cases hf : ds.find? fun kv => decide (keyOf kv.1 = some k') with
      | some x => rfl
      | none =>
        have : decide (some k = some k') = false := decide_eq_false fun z => hk (Option.some.inj z).symm
        simp [keyOf_kD, this]
        exact fun z => hk z.symm
structure FrD (ds : List (D × D)) (fr : Nat → Nat) (L : Nat) : Prop where
  sc : scrD (.dict ds) = false
  len : ds.length ≤ L
  at' : ∀ p : Nat, (dFind ds (.inl (p : Int))).getD (.int 0) = .int (fr p : Nat)
theorem len_dPut {ds : List (D × D)} {k : Key} {d : D} : (dPut ds k d).length ≤ ds.length + 1 := by
  unfold dPut
  split
  · rw [List.length_map]; omega
  · rw [List.length_append]; exact Nat.le_refl _
theorem scr_dPut {ds : List (D × D)} {k : Key} {d : D} (h : scrD (.dict ds) = false) : scrD (.dict (dPut ds k d)) = false := by
  unfold dPut
  cases ds with
  | nil => cases k <;> rfl
  | cons x r =>
    split
    · obtain ⟨x1, x2⟩ := x
      rw [List.map_cons]
      by_cases hx : keyOf x1 = some k
      · rw [if_pos hx]
        have := kD_of hx
        subst this
        cases k <;> rfl
      · rw [if_neg hx]
        cases x1 <;> first | rfl | cases h
    · obtain ⟨x1, x2⟩ := x
      cases x1 <;> first | rfl | cases h
theorem FrD.put {ds : List (D × D)} {fr : Nat → Nat} {L r v : Nat} (h : FrD ds fr L) : FrD (dPut ds (.inl (r : Int)) (.int (v : Nat))) (fun p => if p = r then v else fr p) (L + 1) :=
  ⟨scr_dPut h.sc, by have := len_dPut (ds := ds) (k := .inl (r : Int)) (d := .int (v : Nat)); have := h.len; omega, fun p => by
    rw [dFind_put]
    show _ = PyData.int ((if p = r then v else fr p : Nat) : Int)
    by_cases e : p = r
    · rw [if_pos (by rw [e]), if_pos e]; rfl
    · rw [if_neg (fun z => e (by injection z with z; omega)), if_neg e]; exact h.at' p⟩
theorem FrD.nil : FrD [] (fun _ => 0) 0 := ⟨rfl, Nat.le_refl _, fun p => rfl⟩
theorem R_m1 {n : Nat} {f : Nat → D} (h : 1 ≤ n) : atI (EV.R n f) (-1) = some (f (n - 1)) := by
  obtain ⟨k, rfl⟩ : ∃ k, n = k + 1 := ⟨n - 1, by omega⟩
  have : EV.R (k + 1) f = EV.R k f ++ [f k] := by unfold EV.R; rw [List.range_succ, List.map_append]; rfl
  rw [this, atI_m1]; rfl
theorem R_app {n : Nat} {f : Nat → D} : EV.R (n + 1) f = EV.R n f ++ [f n] := by unfold EV.R; rw [List.range_succ, List.map_append]; rfl
abbrev mnD (fr : Nat → Nat) (n : Nat) : List D := EV.R n fun j => .int (mn fr j : Nat)
abbrev wkE (gs : List Gu) (k : Nat) : D := .tuple [.tuple (EV.R (rw' gs k) fun j => .int (Mg gs k j : Nat)), .int (Sg gs k : Nat)]
abbrev wkD (gs : List Gu) : List D := EV.R gs.length fun k => wkE gs k
theorem v_walked {gs : List Gu} (hl : gs.length ≤ 30) (hs : ∀ g ∈ gs, -3 ≤ g.2.1 ∧ g.2.1 ≤ 3) (hr : ∀ g ∈ gs, 1 ≤ g.1 ∧ g.1 ≤ 30) : vF F_walked [.val (gsD gs)] = some (.list (wkD gs)) := by
  have eT := v_times_in (gs := gs) (by omega) hs
  have hen : enmD (gs.map encG) = EV.R gs.length fun k => .tuple [.int k, encG (gG gs k)] := by rw [gs_R, R_enm]
  have z2 : 2 ≤ sizeLine := z_size (by omega)
  have z5 : 5000 ≤ sizeLine := by rw [sizeLine_eq]; omega
  have z0 : 0 ≤ sizeLine := Nat.zero_le _
  obtain ⟨g', e1, ds, x4, x5, x6, x7, x8, x9, x10, x11, FR, rfl⟩ := forGo_ind (n := gs.length) (h := fun k => .tuple [.int k, encG (gG gs k)]) (b := bT (bLen 2 (bsC (bN 4) (bsC (bT (bLen 3 (bsC (bN 5) (bsC (bN 6) (bsC (bN 7) bsN))))) bsN)))) (f := fSq (fOwn 8 (fLst aN))
    (fSq (fFor (iRng2 (aC (fC (.int 1)) (aC (f2 oAdd (fV 5) (fC (.int 1))) aN))) (bN 9) (fSq (fSet 10 (fIf (tV (fR 8)) (f2 oAdd (f2 oIdx (fR 8) (f1 oNeg (fC (.int 1)))) (fC (.int 1))) (fC (.int 0))))
      (fApp 8 (fN oMax2 (aC (fV 10) (aC (fDGet2 (fR 1) (fV 9) (fC (.int 0))) aN))))))
    (frz 8 (fSq (fSet 11 (f2 oAdd (f2 oIdx (fV 8) (f1 oNeg (fC (.int 1)))) (f2 oIdx (fV 3) (fV 4))))
    (fSq (fFor (iRng2 (aC (fC (.int 1)) (aC (fV 5) aN))) (bN 9) (fDPut 1 (fV 9) (f2 oIdx (fV 8) (fV 9))))
    (fSq (fDPut 1 (fV 5) (fV 11))
    (fApp 2 (fTup (aC (f1 oTup (fV 8)) (aC (fV 11) aN))))))))))
    (g := [.val (gsD gs), .own false (.dict []), .own false (.list []), .val (.list (EV.R gs.length fun k => .int (wt gs k : Nat))), .emp, .emp, .emp, .emp, .emp, .emp, .emp, .emp])
    (fun k gg => ∃ (ds : List (D × D)) (x4 x5 x6 x7 x8 x9 x10 x11 : EV.Slot), FrD ds (Fq (rw' gs) (wt gs) k) (31 * k) ∧ gg = [.val (gsD gs), .own false (.dict ds), .own false (.list (EV.R k fun k => wkE gs k)), .val (.list (EV.R gs.length fun k => .int (wt gs k : Nat))), x4, x5, x6, x7, x8, x9, x10, x11]) (by
      rintro k gg hk ⟨ds, x4, x5, x6, x7, x8, x9, x10, x11, FR, rfl⟩
      have hrk : 1 ≤ rw' gs k ∧ rw' gs k ≤ 30 := hr _ (gG_mem hk)
      have ixT : atI (EV.R gs.length fun k => PyData.int (wt gs k : Nat)) (k : Int) = some (.int (wt gs k : Nat)) := atI_R hk
      have eE : encG (gG gs k) = .tuple [.int (rw' gs k : Nat), .int (gG gs k).2.1, .int ((gG gs k).2.2 : Nat)] := rfl
      have eW : wkE gs k = .tuple [.tuple (mnD (Fq (rw' gs) (wt gs) k) (rw' gs k)), .int (mn (Fq (rw' gs) (wt gs) k) (rw' gs k - 1) + wt gs k : Nat)] := rfl
      have eF : Fq (rw' gs) (wt gs) (k + 1) = nx (Fq (rw' gs) (wt gs) k) (rw' gs k) (mn (Fq (rw' gs) (wt gs) k) (rw' gs k - 1) + wt gs k) := rfl
      have R1 : EV.R (k + 1) (fun k => wkE gs k) = (EV.R k fun k => wkE gs k) ++ [wkE gs k] := R_app
      rw [R1, eE, eW, eF]
      have hlen : (EV.R k fun k => wkE gs k).length = k := R_len
      generalize (EV.R k fun k => wkE gs k) = A at *
      generalize Fq (rw' gs) (wt gs) k = fr at *
      generalize wt gs k = w at *
      generalize rw' gs k = r at *
      generalize (gG gs k).2.1 = st at *
      generalize (gG gs k).2.2 = so at *
      generalize (EV.R gs.length fun k => PyData.int (wt gs k : Nat)) = T at *
      generalize gsD gs = X at *
      obtain ⟨g1, e1, y9, y10, rfl⟩ := forGo_ind (n := r) (h := fun i => .int ((1 : Int) + (i : Nat) * 1)) (b := bN 9) (f := fSq (fSet 10 (fIf (tV (fR 8)) (f2 oAdd (f2 oIdx (fR 8) (f1 oNeg (fC (.int 1)))) (fC (.int 1))) (fC (.int 0))))
        (fApp 8 (fN oMax2 (aC (fV 10) (aC (fDGet2 (fR 1) (fV 9) (fC (.int 0))) aN)))))
        (g := [.val X, .own false (.dict ds), .own false (.list A), .val (.list T), .val (.int (k : Nat)), .val (.int (r : Nat)), .val (.int st), .val (.int (so : Nat)), .own false (.list []), x9, x10, x11])
        (fun i gg => ∃ y9 y10 : EV.Slot, gg = [.val X, .own false (.dict ds), .own false (.list A), .val (.list T), .val (.int (k : Nat)), .val (.int (r : Nat)), .val (.int st), .val (.int (so : Nat)), .own false (.list (mnD fr i)), y9, y10, x11]) (by
          rintro i gg hi ⟨y9, y10, rfl⟩
          have hat := FR.at' (i + 1)
          have ek : ((i + 1 : Nat) : Int) = 1 + (i : Nat) * 1 := by omega
          rw [ek] at hat
          have hsc := FR.sc
          have li : (mnD fr i).length = i := R_len
          have R2 : mnD fr (i + 1) = mnD fr i ++ [.int (mn fr i : Nat)] := R_app
          cases i with
          | zero =>
            refine ⟨[.val X, .own false (.dict ds), .own false (.list A), .val (.list T), .val (.int (k : Nat)), .val (.int (r : Nat)), .val (.int st), .val (.int (so : Nat)), .own false (.list (mnD fr 1)), .val (.int 1), .val (.int 0), x11], ?_, _, _, rfl⟩
            have hat : (dFind ds (.inl 1)).getD (.int 0) = .int (fr 1 : Nat) := hat
            have em : mnD fr 1 = [.int (fr 1 : Nat)] := rfl
            have e0 : mnD fr 0 = [] := rfl
            have mx0 : (if (0 : Int) < (fr 1 : Nat) then ((fr 1 : Nat) : Int) else 0) = (fr 1 : Nat) := by split <;> omega
            rw [em, e0]
            simp [hsc, keyOf, hat, mx0]
            exact ⟨by omega, fun h => by rw [h]; rfl⟩
          | succ i =>
            have lst := R_m1 (n := i + 1) (f := fun j => .int (mn fr j : Nat)) (by omega)
            have lst : atI (mnD fr (i + 1)) (-1) = some (.int (mn fr i : Nat)) := lst
            have mx1 : (if ((mn fr i : Nat) : Int) + 1 < (fr (i + 2) : Nat) then ((fr (i + 2) : Nat) : Int) else ((mn fr i : Nat) : Int) + 1) = (mn fr (i + 1) : Nat) := by
              show _ = ((if mn fr i + 1 < fr (i + 2) then fr (i + 2) else mn fr i + 1 : Nat) : Int)
              split <;> split <;> omega
            have hne : (mnD fr (i + 1)).isEmpty = false := by
              have R3 : mnD fr (i + 1) = mnD fr i ++ [.int (mn fr i : Nat)] := R_app
              rw [R3]; cases mnD fr i <;> rfl
            rw [R2]
            generalize mnD fr (i + 1) = M at *
            refine ⟨[.val X, .own false (.dict ds), .own false (.list A), .val (.list T), .val (.int (k : Nat)), .val (.int (r : Nat)), .val (.int st), .val (.int (so : Nat)), .own false (.list (M ++ [.int (mn fr (i + 1) : Nat)])), .val (.int (1 + ((i + 1 : Nat) : Int) * 1)), .val (.int (((mn fr i : Nat) : Int) + 1)), x11], ?_, _, _, rfl⟩
            have ek2 : (1 : Int) + ((i + 1 : Nat) : Int) * 1 = 1 + ((i : Int) + 1) := by omega
            rw [ek2] at hat
            have hat : (dFind ds (.inl (1 + ((i : Int) + 1)))).getD (.int 0) = .int (fr (i + 2) : Nat) := hat
            have zl : i + 1 < sizeLine := by omega
            simp [hsc, keyOf, hat, mx1, lst, hne, li, zl]) ⟨x9, x10, rfl⟩
      have lstM : atI (mnD fr r) (-1) = some (.int (mn fr (r - 1) : Nat)) := R_m1 (n := r) (f := fun j => .int (mn fr j : Nat)) hrk.1
      have FR' : FrD ds fr (31 * k) := FR
      obtain ⟨g2, e2, ds2, y9, F2, rfl⟩ := forGo_ind (n := r - 1) (h := fun i => .int ((1 : Int) + (i : Nat) * 1)) (b := bN 9) (f := fDPut 1 (fV 9) (f2 oIdx (fV 8) (fV 9)))
        (g := [.val X, .own false (.dict ds), .own false (.list A), .val (.list T), .val (.int (k : Nat)), .val (.int (r : Nat)), .val (.int st), .val (.int (so : Nat)), .val (.list (mnD fr r)), y9, y10, .val (.int ((mn fr (r - 1) + w : Nat) : Int))])
        (fun i gg => ∃ (ds2 : List (D × D)) (y9 : EV.Slot), FrD ds2 (fun p => if 1 ≤ p ∧ p ≤ i then mn fr p else fr p) (31 * k + i) ∧ gg = [.val X, .own false (.dict ds2), .own false (.list A), .val (.list T), .val (.int (k : Nat)), .val (.int (r : Nat)), .val (.int st), .val (.int (so : Nat)), .val (.list (mnD fr r)), y9, y10, .val (.int ((mn fr (r - 1) + w : Nat) : Int))]) (by
          rintro i gg hi ⟨ds2, y9, F2, rfl⟩
          have ek : (1 : Int) + (i : Nat) * 1 = ((i + 1 : Nat) : Int) := by omega
          have ix : atI (mnD fr r) ((i + 1 : Nat) : Int) = some (.int (mn fr (i + 1) : Nat)) := atI_R (by omega)
          have P := F2.put (r := i + 1) (v := mn fr (i + 1))
          have zl : ds2.length < sizeLine := by have := F2.len; omega
          refine ⟨[.val X, .own false (.dict (dPut ds2 (.inl ((i + 1 : Nat) : Int)) (.int (mn fr (i + 1) : Nat)))), .own false (.list A), .val (.list T), .val (.int (k : Nat)), .val (.int (r : Nat)), .val (.int st), .val (.int (so : Nat)), .val (.list (mnD fr r)), .val (.int ((i + 1 : Nat) : Int)), y10, .val (.int ((mn fr (r - 1) + w : Nat) : Int))], ?_, _, _, ?_, rfl⟩
          · rw [ek]
            generalize ((i + 1 : Nat) : Int) = K at *
            generalize mnD fr r = M at *
            simp [ix, keyOf, zl]
          · have : (fun p => if 1 ≤ p ∧ p ≤ i + 1 then mn fr p else fr p) = fun p => if p = i + 1 then mn fr (i + 1) else (fun p => if 1 ≤ p ∧ p ≤ i then mn fr p else fr p) p := by
              funext p
              by_cases e : p = i + 1
              · rw [e, if_pos ⟨by omega, Nat.le_refl _⟩, if_pos rfl]
              · rw [if_neg e]
                dsimp only
                by_cases e2 : 1 ≤ p ∧ p ≤ i
                · rw [if_pos ⟨by omega, by omega⟩, if_pos e2]
                · rw [if_neg (by omega), if_neg e2]
            rw [this]
            exact P) ⟨ds, y9, (by
              have : (fun p => if 1 ≤ p ∧ p ≤ 0 then mn fr p else fr p) = fr := by funext p; rw [if_neg (by omega)]
              rw [this]; exact FR'), rfl⟩
      have P := F2.put (r := r) (v := mn fr (r - 1) + w)
      have hfun : (fun p => if p = r then mn fr (r - 1) + w else (fun p => if 1 ≤ p ∧ p ≤ r - 1 then mn fr p else fr p) p) = nx fr r (mn fr (r - 1) + w) := by
        funext p
        unfold nx
        by_cases e : p = r
        · rw [if_pos e, if_pos e]
        · rw [if_neg e, if_neg e]
          dsimp only
          by_cases e2 : 1 ≤ p ∧ p < r
          · rw [if_pos ⟨by omega, by omega⟩, if_pos e2]
          · rw [if_neg (by omega), if_neg e2]
      rw [hfun] at P
      have zl : ds2.length < sizeLine := by have := F2.len; omega
      have zA : A.length < sizeLine := by omega
      refine ⟨[.val X, .own false (.dict (dPut ds2 (.inl (r : Int)) (.int ((mn fr (r - 1) + w : Nat) : Int)))), .own false (.list (A ++ [.tuple [.tuple (mnD fr r), .int ((mn fr (r - 1) + w : Nat) : Int)]])), .val (.list T), .val (.int (k : Nat)), .val (.int (r : Nat)), .val (.int st), .val (.int (so : Nat)), .val (.list (mnD fr r)), y9, y10, .val (.int ((mn fr (r - 1) + w : Nat) : Int))], ?_, _, _, _, _, _, _, _, _, _, ⟨P.sc, by have := P.len; omega, P.at'⟩, rfl⟩
      · have oR : okB (r : Int) = true := okB_of (by omega) (by omega)
        have oR1 : okB ((r : Int) + 1) = true := okB_of (by omega) (by omega)
        have c1 : ((r : Int) + 1 - 1).toNat = r := by omega
        have c2 : ((r : Int) - 1).toNat = r - 1 := by omega
        have o1 : okB 1 = true := by decide +kernel
        have eS : ((mn fr (r - 1) + w : Nat) : Int) = ((mn fr (r - 1) : Nat) : Int) + (w : Nat) := by omega
        rw [eS] at e2 ⊢
        generalize mnD fr r = M at *
        simp only [Int.mul_one] at e1 e2
        simp [z0, oR, oR1, o1, c1, rngD_R]
        rw [e1]
        simp [lstM, ixT, oR, o1, c2]
        rw [e2]
        simp [keyOf, zl, zA, z2]) ⟨[], .emp, .emp, .emp, .emp, .emp, .emp, .emp, .emp, (show FrD [] (Fq (rw' gs) (wt gs) 0) (31 * 0) from FrD.nil), rfl⟩
  simp [e_vF, F_walked, b_walked, e_call1, eT, hen, z0]
  rw [e1]
  simp
end W

set_option Elab.async false
set_option linter.all false
set_option maxRecDepth 100000
set_option maxHeartbeats 4000000
/-! A3 (k32): walks, ends, orders. -/
namespace W
open PySem PySem.Spec L2 EV W32
variable {n : Nat} {gs : List Gu}
theorem GG.s3 (G : GG n gs) : ∀ g ∈ gs, -3 ≤ g.2.1 ∧ g.2.1 ≤ 3 := fun g hg => ⟨(G.ok g hg).2.1.1, (G.ok g hg).2.1.2.1⟩
theorem GG.r30 (G : GG n gs) : ∀ g ∈ gs, 1 ≤ g.1 ∧ g.1 ≤ 30 := fun g hg => ⟨(G.ok g hg).1.1, Nat.le_trans (G.ok g hg).1.2 G.n2⟩
theorem v_walks (G : GG n gs) : vF F_walks [.val (.int (n : Nat)), .val (gsD gs)] = some (.tuple (wkD gs)) := by
  have e1 := v_demand_guests G
  have e2 := v_walked (gs := gs) (by have := G.l2; omega) G.s3 G.r30
  generalize gsD gs = X at *
  simp [e_vF, F_walks, b_walks, e_call2, e_call1, e1, e2]
theorem maxI_mx {f : Nat → Nat} {m : Nat} : maxI (0 :: (List.range m).map fun k => ((f k : Nat) : Int)) = some ((mx f m : Nat) : Int) := by
  show some (((List.range m).map fun k => ((f k : Nat) : Int)).foldl max 0) = _
  congr 1
  induction m with
  | zero => rfl
  | succ m ih =>
    rw [List.range_succ, List.map_append, List.foldl_append, ih]
    show max ((mx f m : Nat) : Int) (f m : Nat) = ((if mx f m < f m then f m else mx f m : Nat) : Int)
    split <;> omega
theorem oMax_mx {f : Nat → Nat} {m : Nat} : oMax (.list ([.int 0] ++ EV.R m fun k => .int (f k : Nat))) = some (.int (mx f m : Nat)) := by
  have : ([.int 0] ++ EV.R m fun k => PyData.int (f k : Nat)) = (0 :: (List.range m).map fun k => ((f k : Nat) : Int)).map PyData.int := by
    rw [List.map_cons, List.map_map]; rfl
  rw [this]
  unfold oMax
  rw [o_LI, maxI_mx]; rfl
theorem v_end_of (hl : gs.length ≤ 30) (hs : ∀ g ∈ gs, -3 ≤ g.2.1 ∧ g.2.1 ≤ 3) (hr : ∀ g ∈ gs, 1 ≤ g.1 ∧ g.1 ≤ 30) : vF F_end_of [.val (gsD gs)] = some (.int (En gs : Nat)) := by
  have e2 := v_walked hl hs hr
  have z1 : 1 ≤ sizeLine := z_size (by omega)
  have a1 := fLc_map (n := gs.length) (h := fun k => wkE gs k) (f := fun k => .int (Sg gs k : Nat)) (it := iSeq (fCall F_walked [] (bCons (fV 0) bNil))) (b := bT (bLen 2 (bsC (bN 1) (bsC (bN 2) bsN)))) (tt := tY) (te := fV 2) (vs := [1, 2]) (g := [.val (gsD gs), .emp, .emp]) (by
    generalize gsD gs = X at *
    simp [e_call1, e2]) rfl (z_size (by omega)) (fun k hk => by
    generalize gsD gs = X at *
    simp [trn, wipeG])
  have hc : oCatL (.list [.int 0]) (.list (EV.R gs.length fun k => .int (Sg gs k : Nat))) = some (.list ([.int 0] ++ EV.R gs.length fun k => .int (Sg gs k : Nat))) := o_CatL (z_size (by rw [R_len]; simp; omega))
  have hm := oMax_mx (f := Sg gs) (m := gs.length)
  generalize ([PyData.int 0] ++ EV.R gs.length fun k => PyData.int (Sg gs k : Nat)) = L at *
  simp only [oMax] at hm
  generalize gsD gs = X at *
  simp [e_vF, F_end_of, b_end_of, a1, -e_fLc, hc, hm, z1]
theorem v_end (G : GG n gs) : vF F_end [.val (.int (n : Nat)), .val (gsD gs)] = some (.int (En gs : Nat)) := by
  have e1 := v_demand_guests G
  have e2 := v_end_of (gs := gs) (by have := G.l2; omega) G.s3 G.r30
  generalize gsD gs = X at *
  simp [e_vF, F_end, b_end, e_call2, e_call1, e1, e2]
abbrev stD (gs : List Gu) : D := .tuple (EV.R gs.length fun k => .int (stn (gs.take k) (gG gs k) : Nat))
theorem v_stands (G : GG n gs) : vF F_stands [.val (.int (n : Nat)), .val (gsD gs)] = some (stD gs) := by
  have e1 := v_demand_guests G
  have l2 := G.l2
  have o1 : okB ((gs.length : Nat) : Int) = true := okB_of (by omega) (by omega)
  have a1 := fLc_map (n := gs.length) (h := fun i => .int i) (f := fun k => .int (stn (gs.take k) (gG gs k) : Nat)) (it := iRng1 (aC (f1 oLen (fV 1)) aN)) (b := bN 2) (tt := tY) (te := fCall F_stands_for [] (bCons (fV 1) (bCons (fV 2) bNil))) (vs := [2]) (g := [.val (.int (n : Nat)), .val (gsD gs), .emp]) (by simp [o1]) rfl (z_size (by omega)) (fun k hk => by
    have e := v_stands_for (gs := gs) (by omega) G.s3 hk
    generalize gsD gs = X at *
    simp [trn, wipeG, e_call2, e])
  simp [e_vF, F_stands, b_stands, e_call2, e1, a1, -e_fLc]
/-- how late one sits -/
def dl (gs : List Gu) (k : Nat) : Int := (Sg gs k : Int) - (((rw' gs k : Nat) : Int) - 1 + ((gG gs k).2.2 : Nat))
abbrev dlD (gs : List Gu) : D := .tuple (EV.R gs.length fun k => .int (dl gs k))
theorem zip_R {m : Nat} {f g : Nat → D} : zipD (EV.R m f) (EV.R m g) = EV.R m fun k => .tuple [f k, g k] := by
  unfold zipD EV.R
  rw [List.zip_map', List.map_map]; rfl
theorem v_delays (G : GG n gs) : vF F_delays [.val (.int (n : Nat)), .val (gsD gs)] = some (dlD gs) := by
  have e1 := v_demand_guests G
  have e2 := v_walked (gs := gs) (by have := G.l2; omega) G.s3 G.r30
  have l2 := G.l2
  have z5 : 5000 ≤ sizeLine := by rw [sizeLine_eq]; omega
  have z0 : 0 ≤ sizeLine := Nat.zero_le _
  have hz : zipD (gs.map encG) (wkD gs) = EV.R gs.length fun k => .tuple [encG (gG gs k), wkE gs k] := by rw [gs_R, zip_R]
  obtain ⟨g', e3, x3, x4, x5, x6, x7, rfl⟩ := forGo_ind (n := gs.length) (h := fun k => .tuple [encG (gG gs k), wkE gs k]) (b := bT (bLen 2 (bsC (bT (bLen 3 (bsC (bN 3) (bsC (bN 4) (bsC (bN 5) bsN))))) (bsC (bT (bLen 2 (bsC (bN 6) (bsC (bN 7) bsN)))) bsN)))) (f := fApp 2 (f2 oSub (fV 7) (f2 oAdd (f2 oSub (fV 3) (fC (.int 1))) (fV 5))))
    (g := [.val (.int (n : Nat)), .val (gsD gs), .own false (.list []), .emp, .emp, .emp, .emp, .emp])
    (fun k gg => ∃ x3 x4 x5 x6 x7 : EV.Slot, gg = [.val (.int (n : Nat)), .val (gsD gs), .own false (.list (EV.R k fun k => .int (dl gs k))), x3, x4, x5, x6, x7]) (by
      rintro k gg hk ⟨x3, x4, x5, x6, x7, rfl⟩
      have R1 : EV.R (k + 1) (fun k => PyData.int (dl gs k)) = (EV.R k fun k => .int (dl gs k)) ++ [.int (dl gs k)] := R_app
      have ed : dl gs k = (Sg gs k : Int) - (((rw' gs k : Nat) : Int) - 1 + ((gG gs k).2.2 : Nat)) := rfl
      have lA : (EV.R k fun k => PyData.int (dl gs k)).length = k := R_len
      rw [R1, ed]
      have eE : encG (gG gs k) = .tuple [.int (rw' gs k : Nat), .int (gG gs k).2.1, .int ((gG gs k).2.2 : Nat)] := rfl
      have eW : wkE gs k = .tuple [.tuple (EV.R (rw' gs k) fun j => .int (Mg gs k j : Nat)), .int (Sg gs k : Nat)] := rfl
      rw [eE, eW]
      generalize (EV.R (rw' gs k) fun j => PyData.int (Mg gs k j : Nat)) = MM at *
      generalize (EV.R k fun k => PyData.int (dl gs k)) = A at *
      generalize gsD gs = X at *
      generalize Sg gs k = S at *
      generalize rw' gs k = r at *
      have zl : A.length < sizeLine := by omega
      refine ⟨[.val (.int (n : Nat)), .val X, .own false (.list (A ++ [.int ((S : Int) - (((r : Nat) : Int) - 1 + ((gG gs k).2.2 : Nat)))])), .val (.int (r : Nat)), .val (.int (gG gs k).2.1), .val (.int ((gG gs k).2.2 : Nat)), .val (.tuple MM), .val (.int (S : Nat))], ?_, _, _, _, _, _, rfl⟩
      simp [zl]) ⟨.emp, .emp, .emp, .emp, .emp, rfl⟩
  simp [e_vF, F_delays, b_delays, e_call2, e_call1, e1, e2, z0, hz]
  rw [e3]
  simp
/-! ### orders -/
abbrev orD (o : List Nat) : D := .tuple (o.map fun i : Nat => .int (i : Nat))
abbrev io (gs : List Gu) (o : List Nat) : List Gu := o.map (gG gs)
theorem v_in_order {o : List Nat} (hl : o.length ≤ 100) (ho : ∀ i ∈ o, i < gs.length) : vF F_in_order [.val (gsD gs), .val (orD o)] = some (gsD (io gs o)) := by
  have a1 := fLc_l (e := fun i => encG (gG gs i)) (it := iSeq (fV 1)) (b := bN 2) (tt := tY) (te := f2 oIdx (fV 0) (fV 2)) (vs := [2]) (g := [.val (gsD gs), .val (orD o), .emp]) (fun i : Nat => PyData.int (i : Nat)) (xs := o) (by simp) rfl (z_size (by omega)) (fun i hi => by
    have ix : oIdx (gsD gs) (.int (i : Nat)) = some (encG (gG gs i)) := by rw [o_IdxT, gs_R, atI_R (ho i hi)]
    generalize gsD gs = X at *
    simp [trn, wipeG, ix])
  have b1 : gsD (io gs o) = .tuple (o.map fun i => encG (gG gs i)) := congrArg PyData.tuple (List.map_map ..)
  rw [b1]
  simp [e_vF, F_in_order, b_in_order, a1, -e_fLc]
/-- an order of m -/
structure Or (m : Nat) (o : List Nat) : Prop where
  len : o.length = m
  lt : ∀ i ∈ o, i < m
  nd : o.Nodup
theorem dcGo_nd {b : Bd} {tt : Tf} {tk tv : Sf} {vs : List Nat} {w : EV.Sg} {v : D} : ∀ {xs : List Int}, (∀ x ∈ xs, ∃ g1 g2 g3 g4, b (.int x) w = some g1 ∧ tt g1 = some (true, g2) ∧ tk g2 = some (.int x, g3) ∧ tv g3 = some (v, g4) ∧ wipeG g4 vs = w) →
    ∀ ns : List Int, (ns ++ xs).Nodup → ns.length + xs.length ≤ sizeLine → dcGo b tt tk tv vs (xs.map PyData.int) (ns.map fun y => (PyData.int y, v)) w = some ((ns ++ xs).map fun y => (PyData.int y, v), w)
  | [], _, ns, _, _ => by rw [List.append_nil]; rfl
  | x :: xs, H, ns, hn, hl => by
    obtain ⟨g1, g2, g3, g4, h1, h2, h3, h4, h5⟩ := H x List.mem_cons_self
    rw [List.length_cons] at hl
    have hx : x ∉ ns := fun z => by
      rw [List.nodup_append] at hn
      exact hn.2.2 x z x List.mem_cons_self rfl
    have ih := dcGo_nd (xs := xs) (fun y hy => H y (List.mem_cons_of_mem _ hy)) (ns ++ [x]) (by rw [List.append_assoc]; exact hn) (by rw [List.length_append, List.length_singleton]; omega)
    rw [List.append_assoc, List.singleton_append] at ih
    rw [List.map_cons]
    unfold dcGo
    simp only [h1, h2, h3, h4, Option.bind_some, if_true, h5, show keyOf (PyData.int x) = some (Sum.inl x) from rfl]
    rw [if_pos (by rw [List.length_map]; omega), dPut_int, if_neg hx, ih]
theorem v_is_order {o : List Nat} (hl : gs.length ≤ 30) (O : Or gs.length o) : vF F_is_order [.val (gsD gs), .val (orD o)] = some (.bool true) := by
  have hol := O.len
  have z30 : 30 ≤ sizeLine := z_size (by omega)
  have a1 := fLc_l (e := fun _ : Nat => PyData.bool true) (it := iSeq (fV 1)) (b := bN 2) (tt := tY) (te := fCall F_in_range [] (bCons (fV 2) (bCons (fC (.int 0)) (bCons (f2 oSub (f1 oLen (fV 0)) (fC (.int 1))) bNil)))) (vs := [2]) (g := [.val (gsD gs), .val (orD o), .emp]) (fun i : Nat => PyData.int (i : Nat)) (xs := o) (by simp) rfl (by omega) (fun i hi => by
    have h := O.lt i hi
    have h1 : ((i : Nat) : Int) ≤ (gs.length : Int) - 1 := by omega
    simp [trn, wipeG, e_call3, v_in_range, h1])
  have e1 := oAll_t (xs := o)
  have hnd : (o.map fun i : Nat => (i : Int)).Nodup := List.Pairwise.map _ (fun a b h z => h (by omega)) O.nd
  have a2 := dcGo_nd (v := .bool true) (b := bN 2) (tt := tY) (tk := fV 2) (tv := fC (.bool true)) (vs := [2]) (w := [.val (gsD gs), .val (orD o), .emp]) (xs := o.map fun i : Nat => (i : Int)) (fun x hx => ⟨[.val (gsD gs), .val (orD o), .val (.int x)], [.val (gsD gs), .val (orD o), .val (.int x)], [.val (gsD gs), .val (orD o), .val (.int x)], [.val (gsD gs), .val (orD o), .val (.int x)], by simp, by simp, by simp, by simp, by simp [wipeG]⟩) [] (by simpa using hnd) (by simp; omega)
  have a3 : fDc (iSeq (fV 1)) (bN 2) tY (fV 2) (fC (.bool true)) [2] [.val (gsD gs), .val (orD o), .emp] = some (.dict ((o.map fun i : Nat => (i : Int)).map fun y => (PyData.int y, PyData.bool true)), [.val (gsD gs), .val (orD o), .emp]) := by
    have it : iSeq (fV 1) [.val (gsD gs), .val (orD o), .emp] = some ((o.map fun i : Nat => (i : Int)).map PyData.int, [.val (gsD gs), .val (orD o), .emp]) := by rw [List.map_map]; simp
    unfold fDc
    rw [it, Option.bind_some, if_pos (show noOwn [.val (gsD gs), .val (orD o), .emp] [2] = true from rfl)]
    show (dcGo _ _ _ _ _ _ _ [.val (gsD gs), .val (orD o), .emp]).map _ = _
    rw [List.map_nil, List.nil_append] at a2
    rw [a2]; rfl
  have sc : scrD (.dict ((o.map fun i : Nat => (i : Int)).map fun y => (PyData.int y, PyData.bool true))) = false := by cases o <;> rfl
  have a4 : oLenD (.dict ((o.map fun i : Nat => (i : Int)).map fun y => (PyData.int y, PyData.bool true))) = some (.int (gs.length : Nat)) := by
    rw [o_LenD, if_neg (by rw [sc]; decide), List.length_map, List.length_map, hol]
  generalize (PyData.dict ((o.map fun i : Nat => (i : Int)).map fun y => (PyData.int y, PyData.bool true))) = Z at *
  simp [e_vF, F_is_order, b_is_order, -o_Isi, hol, a1, -e_fLc, e1, a3, a4]
theorem v_put {o : List Nat} (G : GG n gs) (O : Or gs.length o) : vF F_put [.val (.int (n : Nat)), .val (gsD gs), .val (orD o)] = some (gsD (io gs o)) := by
  have e1 := v_demand_guests G
  have l2 := G.l2
  have e2 := v_is_order (gs := gs) (by omega) O
  have e3 := v_in_order (gs := gs) (o := o) (by rw [O.len]; omega) O.lt
  generalize gsD (io gs o) = Y at *
  generalize gsD gs = X at *
  generalize orD o = Z at *
  simp [e_vF, F_put, b_put, e_call2, e1, e2, e3]
end W

set_option Elab.async false
set_option linter.all false
set_option maxRecDepth 100000
set_option maxHeartbeats 4000000
/-! A4 (k32): sorted orders, and who stands in the aisle. -/
namespace W
open PySem PySem.Spec L2 EV W32
variable {n : Nat} {gs : List Gu}
theorem dataLt_tup (xs ys : List Int) : PySem.W.dataLt (.tuple (xs.map .int)) (.tuple (ys.map .int)) = decide (xs < ys) := by
  rw [PySem.W.dataLt_tuple]
  exact PySem.W.dataLt_ints xs ys
theorem alikeAll_ints : ∀ (xs ys : List Int), PySem.W.alikeAll (xs.map .int) (ys.map .int) = true
  | [], ys => by cases ys <;> simp [PySem.W.alikeAll]
  | x :: xs, [] => by simp [PySem.W.alikeAll]
  | x :: xs, y :: ys => by simp [PySem.W.alikeAll, PySem.W.alike, alikeAll_ints xs ys]
theorem depth_ints (xs : List Int) : (PyData.tuple (xs.map .int)).depth ≤ 1 := by
  have : PyData.depthAll (xs.map .int) = 0 := by
    induction xs with
    | nil => rfl
    | cons x xs ih => simp only [List.map_cons, PyData.depthAll, ih]; rfl
  simp only [PyData.depth, this]
  omega
/-- sorted, of tuples of whole numbers -/
theorem sortP {α : Type} {ks : α → List Int} (hne : ∀ a, ks a ≠ []) (xs : List α) : oSortP (.list (xs.map fun a => .tuple ((ks a).map .int))) = some (.list ((xs.mergeSort fun a b => decide (ks a ≤ ks b)).map fun a => .tuple ((ks a).map .int))) := by
  have ok : okS (xs.map fun a => PyData.tuple ((ks a).map .int)) = true := by
    unfold okS
    rw [Bool.and_eq_true]
    constructor
    · rw [List.all_eq_true]
      intro d hd
      obtain ⟨a, _, rfl⟩ := List.mem_map.mp hd
      have h1 : SeqAt.shaped (PyData.tuple ((ks a).map .int)) = true := shaped_tupI (ks a)
      have h2 := depth_ints (ks a)
      rw [h1, decide_eq_true (Nat.le_trans h2 (by decide)), Bool.and_self, Bool.true_and]
      cases h : ks a with
      | nil => exact absurd h (hne a)
      | cons x r => rfl
    · rw [List.all_eq_true]
      intro d hd
      rw [List.all_eq_true]
      intro e he
      obtain ⟨a, _, rfl⟩ := List.mem_map.mp hd
      obtain ⟨b, _, rfl⟩ := List.mem_map.mp he
      simp only [PySem.W.alike]
      exact alikeAll_ints _ _
  show (if okS _ = true then some (PyData.list (sortD _)) else none) = _
  rw [if_pos ok]
  congr 2
  refine (List.map_mergeSort fun a _ b _ => ?_).symm
  rw [PySem.W.dataLe_eq]
  show _ = !PySem.W.dataLt _ _
  rw [dataLt_tup]
  by_cases h : ks b < ks a
  · rw [decide_eq_true h, decide_eq_false (fun z => z h)]; rfl
  · rw [decide_eq_false h, decide_eq_true (List.not_lt.mp h)]; rfl
theorem sortP_lt {α : Type} {ks : α → List Int} (hne : ∀ a, ks a ≠ []) {xs : List α} (h : xs.Pairwise fun a b => ks a ≤ ks b) : oSortP (.list (xs.map fun a => .tuple ((ks a).map .int))) = some (.list (xs.map fun a => .tuple ((ks a).map .int))) := by
  rw [sortP hne, List.mergeSort_of_pairwise (h.imp fun h => decide_eq_true h)]
theorem sorted_P {α : Type} {ks : α → List Int} (xs : List α) : (xs.mergeSort fun a b => decide (ks a ≤ ks b)).Pairwise fun a b => ks a ≤ ks b := by
  have := List.pairwise_mergeSort (le := fun a b : α => decide (ks a ≤ ks b)) (fun a b c h1 h2 => decide_eq_true (List.le_trans (of_decide_eq_true h1) (of_decide_eq_true h2))) (fun a b => by
    rcases List.le_total (ks a) (ks b) with h | h
    · rw [decide_eq_true h]; rfl
    · rw [decide_eq_true h, Bool.or_true]) xs
  exact this.imp fun h => of_decide_eq_true h
/-- the windows first -/
def kW (gs : List Gu) (i : Nat) : List Int := [-(ab (gG gs i).2.1), -((gG gs i).1 : Int), (gG gs i).2.1, (i : Int)]
/-- the last row first -/
def kB (gs : List Gu) (i : Nat) : List Int := [-((gG gs i).1 : Int), -(ab (gG gs i).2.1), (gG gs i).2.1, (i : Int)]
def oW (gs : List Gu) : List Nat := (List.range gs.length).mergeSort fun a b => decide (kW gs a ≤ kW gs b)
def oBh (gs : List Gu) : List Nat := (List.range gs.length).mergeSort fun a b => decide (kB gs a ≤ kB gs b)
theorem Or.perm {m : Nat} {o : List Nat} (h : o.Perm (List.range m)) : Or m o := ⟨by rw [h.length_eq, List.length_range], fun i hi => List.mem_range.mp (h.mem_iff.mp hi), h.nodup_iff.mpr List.nodup_range⟩
theorem oW_perm : (oW gs).Perm (List.range gs.length) := List.mergeSort_perm _ _
theorem oBh_perm : (oBh gs).Perm (List.range gs.length) := List.mergeSort_perm _ _
theorem le2 {a b a' b' : Int} {r r' : List Int} (h : a :: b :: r ≤ a' :: b' :: r') : a < a' ∨ (a = a' ∧ b ≤ b') := by
  rcases List.cons_le_cons_iff.mp h with h | ⟨h, h2⟩
  · exact .inl h
  · rcases List.cons_le_cons_iff.mp h2 with h3 | ⟨h3, _⟩
    · exact .inr ⟨h, Int.le_of_lt h3⟩
    · exact .inr ⟨h, by omega⟩
/-- nobody must stand up -/
abbrev Calm (gs : List Gu) (o : List Nat) : Prop := o.Pairwise fun i j => (gG gs i).1 = (gG gs j).1 → ab (gG gs j).2.1 ≤ ab (gG gs i).2.1
theorem oW_calm : Calm gs (oW gs) := (sorted_P (ks := kW gs) _).imp fun {i j} h _ => by
  rcases le2 h with h | ⟨h, _⟩ <;> omega
theorem oBh_calm : Calm gs (oBh gs) := (sorted_P (ks := kB gs) _).imp fun {i j} h e => by
  rcases le2 h with h | ⟨_, h⟩ <;> omega
theorem v_from_windows (G : GG n gs) : vF F_from_windows [.val (.int (n : Nat)), .val (gsD gs)] = some (orD (oW gs)) := by
  have e1 := v_demand_guests G
  have l2 := G.l2
  have z4 : 4 ≤ sizeLine := z_size (by omega)
  have hen : enmD (gs.map encG) = EV.R gs.length fun k => .tuple [.int k, encG (gG gs k)] := by rw [gs_R, R_enm]
  have a1 := fLc_map (n := gs.length) (h := fun k => .tuple [.int k, encG (gG gs k)]) (f := fun k => .tuple ((kW gs k).map .int)) (it := iEnm (fV 1)) (b := bT (bLen 2 (bsC (bN 3) (bsC (bN 4) bsN)))) (tt := tY) (te := fTup (aC (f1 oNeg (f1 oAbs (f2 oIdx (fV 4) (fC (.int 1))))) (aC (f1 oNeg (f2 oIdx (fV 4) (fC (.int 0)))) (aC (f2 oIdx (fV 4) (fC (.int 1))) (aC (fV 3) aN))))) (vs := [3, 4]) (g := [.val (.int (n : Nat)), .val (gsD gs), .emp, .emp, .emp, .emp]) (by simp [hen]) rfl (z_size (by omega)) (fun k hk => by
    generalize gsD gs = X at *
    simp [trn, wipeG, ix3_0, ix3_1, z4, kW, ab])
  have a2 : oSortP (.list (EV.R gs.length fun k => .tuple ((kW gs k).map .int))) = some (.list ((oW gs).map fun k => .tuple ((kW gs k).map .int))) := sortP (ks := kW gs) (fun a => List.cons_ne_nil _ _) (List.range gs.length)
  have hl : (oW gs).length = gs.length := by rw [oW_perm.length_eq, List.length_range]
  have a3 := fLc_l (e := fun i : Nat => PyData.int (i : Nat)) (it := iSeq (f1 oSortP (fV 2))) (b := bN 5) (tt := tY) (te := f2 oIdx (fV 5) (fC (.int 3))) (vs := [5]) (g := [.val (.int (n : Nat)), .val (gsD gs), .val (.list (EV.R gs.length fun k => .tuple ((kW gs k).map .int))), .emp, .emp, .emp]) (fun k => .tuple ((kW gs k).map .int)) (xs := oW gs) (by
    generalize (EV.R gs.length fun k => PyData.tuple ((kW gs k).map .int)) = U at *
    simp [a2]) rfl (z_size (by omega)) (fun k hk => by
    have i3 : oIdx (.tuple ((kW gs k).map .int)) (.int 3) = some (.int (k : Nat)) := atI_nat (j := 3) rfl
    generalize (PyData.tuple ((kW gs k).map .int)) = U at *
    simp [trn, wipeG, i3])
  generalize (EV.R gs.length fun k => PyData.tuple ((kW gs k).map .int)) = U at *
  generalize gsD gs = X at *
  simp [e_vF, F_from_windows, b_from_windows, e_call2, e1, a1, a3, -e_fLc]
theorem v_from_behind (G : GG n gs) : vF F_from_behind [.val (.int (n : Nat)), .val (gsD gs)] = some (orD (oBh gs)) := by
  have e1 := v_demand_guests G
  have l2 := G.l2
  have z4 : 4 ≤ sizeLine := z_size (by omega)
  have hen : enmD (gs.map encG) = EV.R gs.length fun k => .tuple [.int k, encG (gG gs k)] := by rw [gs_R, R_enm]
  have a1 := fLc_map (n := gs.length) (h := fun k => .tuple [.int k, encG (gG gs k)]) (f := fun k => .tuple ((kB gs k).map .int)) (it := iEnm (fV 1)) (b := bT (bLen 2 (bsC (bN 3) (bsC (bN 4) bsN)))) (tt := tY) (te := fTup (aC (f1 oNeg (f2 oIdx (fV 4) (fC (.int 0)))) (aC (f1 oNeg (f1 oAbs (f2 oIdx (fV 4) (fC (.int 1))))) (aC (f2 oIdx (fV 4) (fC (.int 1))) (aC (fV 3) aN))))) (vs := [3, 4]) (g := [.val (.int (n : Nat)), .val (gsD gs), .emp, .emp, .emp, .emp]) (by simp [hen]) rfl (z_size (by omega)) (fun k hk => by
    generalize gsD gs = X at *
    simp [trn, wipeG, ix3_0, ix3_1, z4, kB, ab])
  have a2 : oSortP (.list (EV.R gs.length fun k => .tuple ((kB gs k).map .int))) = some (.list ((oBh gs).map fun k => .tuple ((kB gs k).map .int))) := sortP (ks := kB gs) (fun a => List.cons_ne_nil _ _) (List.range gs.length)
  have hl : (oBh gs).length = gs.length := by rw [oBh_perm.length_eq, List.length_range]
  have a3 := fLc_l (e := fun i : Nat => PyData.int (i : Nat)) (it := iSeq (f1 oSortP (fV 2))) (b := bN 5) (tt := tY) (te := f2 oIdx (fV 5) (fC (.int 3))) (vs := [5]) (g := [.val (.int (n : Nat)), .val (gsD gs), .val (.list (EV.R gs.length fun k => .tuple ((kB gs k).map .int))), .emp, .emp, .emp]) (fun k => .tuple ((kB gs k).map .int)) (xs := oBh gs) (by
    generalize (EV.R gs.length fun k => PyData.tuple ((kB gs k).map .int)) = U at *
    simp [a2]) rfl (z_size (by omega)) (fun k hk => by
    have i3 : oIdx (.tuple ((kB gs k).map .int)) (.int 3) = some (.int (k : Nat)) := atI_nat (j := 3) rfl
    generalize (PyData.tuple ((kB gs k).map .int)) = U at *
    simp [trn, wipeG, i3])
  generalize (EV.R gs.length fun k => PyData.tuple ((kB gs k).map .int)) = U at *
  generalize gsD gs = X at *
  simp [e_vF, F_from_behind, b_from_behind, e_call2, e1, a1, a3, -e_fLc]
end W

set_option Elab.async false
set_option linter.all false
set_option maxRecDepth 100000
set_option maxHeartbeats 4000000
/-! A5 (k32): who stands in the aisle. -/
namespace W
open PySem PySem.Spec L2 EV W32
variable {n : Nat} {gs : List Gu}
/-- the row at which one stands at a minute -/
def ps (gs : List Gu) (t k : Nat) : Nat := mx (fun j => if Mg gs k j ≤ t then j + 1 else 0) (rw' gs k)
theorem mx_mem {f : Nat → Nat} : ∀ {m : Nat}, mx f m = 0 ∨ ∃ k, k < m ∧ mx f m = f k
  | 0 => .inl rfl
  | m + 1 => by
    show (if mx f m < f m then f m else mx f m) = 0 ∨ ∃ k, k < m + 1 ∧ (if mx f m < f m then f m else mx f m) = f k
    split
    · exact .inr ⟨m, by omega, rfl⟩
    · rcases mx_mem (f := f) (m := m) with h | ⟨k, hk, h⟩
      · exact .inl h
      · exact .inr ⟨k, by omega, h⟩
theorem ps_ok {t k : Nat} (hr : 1 ≤ rw' gs k) (h0 : Mg gs k 0 ≤ t) : 1 ≤ ps gs t k ∧ ps gs t k ≤ rw' gs k ∧ Mg gs k (ps gs t k - 1) ≤ t ∧ (ps gs t k < rw' gs k → t < Mg gs k (ps gs t k)) := by
  have h1 : 1 ≤ ps gs t k := by
    have := mx_ge (f := fun j => if Mg gs k j ≤ t then j + 1 else 0) (n := rw' gs k) (k := 0) (by omega)
    rw [if_pos h0] at this
    exact this
  rcases mx_mem (f := fun j => if Mg gs k j ≤ t then j + 1 else 0) (m := rw' gs k) with h | ⟨j, hj, h⟩
  · have h : ps gs t k = 0 := h
    omega
  · have h : ps gs t k = if Mg gs k j ≤ t then j + 1 else 0 := h
    by_cases hm : Mg gs k j ≤ t
    · rw [if_pos hm] at h
      refine ⟨h1, by omega, by rw [h]; exact hm, fun hlt => Nat.lt_of_not_le fun hle => ?_⟩
      have := mx_ge (f := fun j => if Mg gs k j ≤ t then j + 1 else 0) (n := rw' gs k) (k := ps gs t k) hlt
      rw [if_pos hle] at this
      have : ps gs t k + 1 ≤ ps gs t k := this
      omega
    · rw [if_neg hm] at h; omega
def inA (gs : List Gu) (t k : Nat) : Bool := decide (Mg gs k 0 ≤ t) && decide (t < Sg gs k)
def aiL (gs : List Gu) (t : Nat) : List Nat := (List.range gs.length).filter (inA gs t)
theorem maxI_ps {t k : Nat} (hr : 1 ≤ rw' gs k) (h0 : Mg gs k 0 ≤ t) : maxI (((List.range (rw' gs k)).filter fun j => decide (Mg gs k j ≤ t)).map fun j : Nat => (j : Int) + 1) = some (ps gs t k : Int) := by
  obtain ⟨p1, p2, p3, p4⟩ := ps_ok hr h0
  have hmem : ((ps gs t k : Nat) : Int) ∈ ((List.range (rw' gs k)).filter fun j => decide (Mg gs k j ≤ t)).map fun j : Nat => (j : Int) + 1 := List.mem_map.mpr ⟨ps gs t k - 1, List.mem_filter.mpr ⟨List.mem_range.mpr (by omega), decide_eq_true p3⟩, by omega⟩
  cases e : maxI (((List.range (rw' gs k)).filter fun j => decide (Mg gs k j ≤ t)).map fun j : Nat => (j : Int) + 1) with
  | none =>
    generalize (((List.range (rw' gs k)).filter fun j => decide (Mg gs k j ≤ t)).map fun j : Nat => (j : Int) + 1) = L at *
    cases L with
    | nil => cases hmem
    | cons a b => cases e
  | some m =>
    obtain ⟨s1, s2⟩ := maxI_spec e
    have h1 := s2 _ hmem
    obtain ⟨j, hj, rfl⟩ := List.mem_map.mp s1
    obtain ⟨hj1, hj2⟩ := List.mem_filter.mp hj
    have := mx_ge (f := fun j => if Mg gs k j ≤ t then j + 1 else 0) (n := rw' gs k) (k := j) (List.mem_range.mp hj1)
    rw [if_pos (of_decide_eq_true hj2)] at this
    have : j + 1 ≤ ps gs t k := this
    congr 1
    omega
theorem pass {t i j : Nat} (hr : ∀ i, i < gs.length → 1 ≤ rw' gs i) (hij : i < j) (hj : j < gs.length) (hi' : inA gs t i = true) (hj' : inA gs t j = true) : ps gs t j < ps gs t i := by
  obtain ⟨i1, i2⟩ := Bool.and_eq_true_iff.mp hi'
  obtain ⟨j1, j2⟩ := Bool.and_eq_true_iff.mp hj'
  obtain ⟨a1, a2, a3, a4⟩ := ps_ok (hr i (by omega)) (of_decide_eq_true i1)
  obtain ⟨b1, b2, b3, b4⟩ := ps_ok (hr j hj) (of_decide_eq_true j1)
  exact no_pass (row := rw' gs) (w := wt gs) hr hij hj a1 a2 (of_decide_eq_true i2) a4 b3 b1
abbrev aiD (gs : List Gu) (t : Nat) : D := .tuple ((aiL gs t).map fun k => .tuple [.int (k : Nat), .int (ps gs t k : Nat)])
theorem v_aisle_at {t : Nat} (G : GG n gs) (ht : t ≤ 100000) : vF F_aisle_at [.val (.int (n : Nat)), .val (gsD gs), .val (.int (t : Nat))] = some (aiD gs t) := by
  have e0 := v_demand_guests G
  have e2 := v_walked (gs := gs) (by have := G.l2; omega) G.s3 G.r30
  have l2 := G.l2
  have z5 : 5000 ≤ sizeLine := by rw [sizeLine_eq]; omega
  have z0 : 0 ≤ sizeLine := Nat.zero_le _
  have z2 : 2 ≤ sizeLine := z_size (by omega)
  have hrow : ∀ i, i < gs.length → 1 ≤ rw' gs i := fun i hi => (G.r30 _ (gG_mem hi)).1
  have hrow2 : ∀ i, i < gs.length → rw' gs i ≤ 30 := fun i hi => (G.r30 _ (gG_mem hi)).2
  have t1 : ((t : Nat) : Int) ≤ 100000 := by omega
  have hen : enmD (wkD gs) = EV.R gs.length fun k => .tuple [.int k, wkE gs k] := by rw [R_enm]
  obtain ⟨g', e1, x4, x5, x6, hv, rfl⟩ := forGo_ind (n := gs.length) (h := fun k => .tuple [.int k, wkE gs k]) (b := bT (bLen 2 (bsC (bN 4) (bsC (bT (bLen 2 (bsC (bN 5) (bsC (bN 6) bsN)))) bsN)))) (f := fIfS (tCh pLe pLt (f2 oIdx (fV 5) (fC (.int 0))) (fV 2) (fV 6)) (fApp 3 (fTup (aC (f1 oNeg (f1 oMax (fLc (iEnm (fV 5)) (bT (bLen 2 (bsC (bN 7) (bsC (bN 8) bsN)))) (t2 pbLe (fV 8) (fV 2)) (f2 oAdd (fV 7) (fC (.int 1))) [7, 8]))) (aC (fV 4) aN)))) fNx)
    (g := [.val (.int (n : Nat)), .val (gsD gs), .val (.int (t : Nat)), .own false (.list []), .emp, .emp, .emp, .emp, .emp, .emp])
    (fun k gg => ∃ x4 x5 x6 : EV.Slot, Vl x4 ∧ gg = [.val (.int (n : Nat)), .val (gsD gs), .val (.int (t : Nat)), .own false (.list (((List.range k).filter (inA gs t)).map fun k => .tuple [.int (-((ps gs t k : Nat) : Int)), .int (k : Nat)])), x4, x5, x6, .emp, .emp, .emp]) (by
      rintro k gg hk ⟨x4, x5, x6, hv, rfl⟩
      have eW : wkE gs k = .tuple [.tuple (EV.R (rw' gs k) fun j => .int (Mg gs k j : Nat)), .int (Sg gs k : Nat)] := rfl
      have i0 : atI (EV.R (rw' gs k) fun j => PyData.int (Mg gs k j : Nat)) 0 = some (.int (Mg gs k 0 : Nat)) := atI_R (h := fun j => PyData.int (Mg gs k j : Nat)) (show 0 < rw' gs k from hrow k hk)
      have hen2 : enmD (EV.R (rw' gs k) fun j => PyData.int (Mg gs k j : Nat)) = EV.R (rw' gs k) fun j => .tuple [.int j, .int (Mg gs k j : Nat)] := by rw [R_enm]
      have hin : inA gs t k = (decide (Mg gs k 0 ≤ t) && decide (t < Sg gs k)) := rfl
      have zl : (((List.range k).filter (inA gs t)).map fun k => PyData.tuple [.int (-((ps gs t k : Nat) : Int)), .int (k : Nat)]).length < sizeLine := by
        rw [List.length_map]
        have := List.length_filter_le (inA gs t) (List.range k)
        rw [List.length_range] at this
        omega
      rw [List.range_succ, List.filter_append, List.map_append]
      generalize (((List.range k).filter (inA gs t)).map fun k => PyData.tuple [.int (-((ps gs t k : Nat) : Int)), .int (k : Nat)]) = A at *
      rw [eW]
      by_cases c1 : Mg gs k 0 ≤ t
      · have c1i : ((Mg gs k 0 : Nat) : Int) ≤ (t : Nat) := by omega
        by_cases c2 : t < Sg gs k
        · have c2i : ((t : Nat) : Int) < (Sg gs k : Nat) := by omega
          have hm := maxI_ps (hrow k hk) c1
          have a1 := fLc_flt (n := rw' gs k) (h := fun j => .tuple [.int j, .int (Mg gs k j : Nat)]) (p := fun j => decide (Mg gs k j ≤ t)) (f := fun j => .int ((j : Int) + 1)) (it := iEnm (fV 5)) (b := bT (bLen 2 (bsC (bN 7) (bsC (bN 8) bsN)))) (tt := t2 pbLe (fV 8) (fV 2)) (te := f2 oAdd (fV 7) (fC (.int 1))) (vs := [7, 8]) (g := [.val (.int (n : Nat)), .val (gsD gs), .val (.int (t : Nat)), .own false (.list A), .val (.int (k : Nat)), .val (.tuple (EV.R (rw' gs k) fun j => .int (Mg gs k j : Nat))), .val (.int (Sg gs k : Nat)), .emp, .emp, .emp]) (by
            generalize gsD gs = X at *
            simp [hen2]) rfl (by have := hrow2 k hk; omega) (fun j hj => by
            generalize gsD gs = X at *
            generalize (EV.R (rw' gs k) fun j => PyData.int (Mg gs k j : Nat)) = MM at *
            by_cases c3 : Mg gs k j ≤ t
            · have c3i : ((Mg gs k j : Nat) : Int) ≤ (t : Nat) := by omega
              generalize Mg gs k j = m at *
              simp [trn, wipeG, c3]
            · have c3i : ¬ ((Mg gs k j : Nat) : Int) ≤ (t : Nat) := by omega
              generalize Mg gs k j = m at *
              simp [trn, wipeG, c3])
          have em : (((List.range (rw' gs k)).filter fun j => decide (Mg gs k j ≤ t)).map fun j : Nat => PyData.int ((j : Int) + 1)) = (((List.range (rw' gs k)).filter fun j => decide (Mg gs k j ≤ t)).map fun j : Nat => (j : Int) + 1).map PyData.int := by rw [List.map_map]; rfl
          rw [em] at a1
          have hM : oMax (.list ((((List.range (rw' gs k)).filter fun j => decide (Mg gs k j ≤ t)).map fun j : Nat => (j : Int) + 1).map PyData.int)) = some (.int (ps gs t k : Nat)) := by
            unfold oMax
            rw [o_LI, hm]; rfl
          rw [List.filter_cons_of_pos (by rw [hin, decide_eq_true c1, decide_eq_true c2]; rfl), List.filter_nil]
          refine ⟨[.val (.int (n : Nat)), .val (gsD gs), .val (.int (t : Nat)), .own false (.list (A ++ [.tuple [.int (-((ps gs t k : Nat) : Int)), .int (k : Nat)]])), .val (.int (k : Nat)), .val (.tuple (EV.R (rw' gs k) fun j => .int (Mg gs k j : Nat))), .val (.int (Sg gs k : Nat)), .emp, .emp, .emp], ?_, _, _, _, Vl.val, rfl⟩
          generalize (PyData.list ((((List.range (rw' gs k)).filter fun j => decide (Mg gs k j ≤ t)).map fun j : Nat => (j : Int) + 1).map PyData.int)) = LL at *
          simp only [oMax] at hM
          generalize (EV.R (rw' gs k) fun j => PyData.int (Mg gs k j : Nat)) = MM at *
          generalize ps gs t k = P at *
          generalize Mg gs k 0 = m0 at *
          generalize Sg gs k = S at *
          generalize gsD gs = X at *
          simp [i0, c1, c2, c2i, pLt, a1, -e_fLc, hM, z2, zl]
        · have c2i : ¬ ((t : Nat) : Int) < (Sg gs k : Nat) := by omega
          rw [List.filter_cons_of_neg (by rw [hin, decide_eq_false c2, Bool.and_false]; decide), List.filter_nil, List.map_nil, List.append_nil]
          refine ⟨[.val (.int (n : Nat)), .val (gsD gs), .val (.int (t : Nat)), .own false (.list A), .val (.int (k : Nat)), .val (.tuple (EV.R (rw' gs k) fun j => .int (Mg gs k j : Nat))), .val (.int (Sg gs k : Nat)), .emp, .emp, .emp], ?_, _, _, _, Vl.val, rfl⟩
          generalize (EV.R (rw' gs k) fun j => PyData.int (Mg gs k j : Nat)) = MM at *
          generalize Mg gs k 0 = m0 at *
          generalize Sg gs k = S at *
          generalize gsD gs = X at *
          simp [i0, c1, c2, c2i, pLt]
      · have c1i : ¬ ((Mg gs k 0 : Nat) : Int) ≤ (t : Nat) := by omega
        rw [List.filter_cons_of_neg (by rw [hin, decide_eq_false c1, Bool.false_and]; decide), List.filter_nil, List.map_nil, List.append_nil]
        refine ⟨[.val (.int (n : Nat)), .val (gsD gs), .val (.int (t : Nat)), .own false (.list A), .val (.int (k : Nat)), .val (.tuple (EV.R (rw' gs k) fun j => .int (Mg gs k j : Nat))), .val (.int (Sg gs k : Nat)), .emp, .emp, .emp], ?_, _, _, _, Vl.val, rfl⟩
        generalize (EV.R (rw' gs k) fun j => PyData.int (Mg gs k j : Nat)) = MM at *
        generalize Mg gs k 0 = m0 at *
        generalize Sg gs k = S at *
        generalize gsD gs = X at *
        simp [i0, c1]) ⟨.emp, .emp, .emp, Vl.emp, rfl⟩
  have hpw : (aiL gs t).Pairwise fun a b => [-((ps gs t a : Nat) : Int), (a : Int)] ≤ [-((ps gs t b : Nat) : Int), (b : Int)] := by
    refine List.Pairwise.imp_of_mem (R := fun a b => a < b) ?_ (List.pairwise_lt_range.filter _)
    intro a b ha hb hab
    obtain ⟨a1, a2⟩ := List.mem_filter.mp ha
    obtain ⟨b1, b2⟩ := List.mem_filter.mp hb
    have := pass hrow hab (List.mem_range.mp b1) a2 b2
    exact List.cons_le_cons_iff.mpr (.inl (by omega))
  have e3 : oSortP (.list ((aiL gs t).map fun k => .tuple [.int (-((ps gs t k : Nat) : Int)), .int (k : Nat)])) = some (.list ((aiL gs t).map fun k => .tuple [.int (-((ps gs t k : Nat) : Int)), .int (k : Nat)])) := sortP_lt (ks := fun k : Nat => [-((ps gs t k : Nat) : Int), (k : Int)]) (fun a => List.cons_ne_nil _ _) hpw
  have hlA : (aiL gs t).length ≤ 24 := by
    have := List.length_filter_le (inA gs t) (List.range gs.length)
    rw [List.length_range] at this
    show (List.filter _ _).length ≤ _
    omega
  have a3 := fLc_l (e := fun k : Nat => .tuple [.int (k : Nat), .int (ps gs t k : Nat)]) (it := iSeq (f1 oSortP (fV 3))) (b := bT (bLen 2 (bsC (bN 9) (bsC (bN 4) bsN)))) (tt := tY) (te := fTup (aC (fV 4) (aC (f1 oNeg (fV 9)) aN))) (vs := [4, 9]) (g := [.val (.int (n : Nat)), .val (gsD gs), .val (.int (t : Nat)), .val (.list ((aiL gs t).map fun k => .tuple [.int (-((ps gs t k : Nat) : Int)), .int (k : Nat)])), x4, x5, x6, .emp, .emp, .emp]) (fun k : Nat => .tuple [.int (-((ps gs t k : Nat) : Int)), .int (k : Nat)]) (xs := aiL gs t) (by
    generalize hU : ((aiL gs t).map fun k : Nat => PyData.tuple [.int (-((ps gs t k : Nat) : Int)), .int (k : Nat)]) = U at *
    generalize gsD gs = X at *
    simp [e3]) (by rcases hv with rfl | ⟨d, rfl⟩ <;> rfl) (by omega) (fun k hk => by
    generalize ((aiL gs t).map fun k : Nat => PyData.tuple [.int (-((ps gs t k : Nat) : Int)), .int (k : Nat)]) = U at *
    generalize gsD gs = X at *
    generalize ps gs t k = P at *
    simp [trn, wipeG, z2])
  have eA : (((List.range gs.length).filter (inA gs t)).map fun k : Nat => PyData.tuple [.int (-((ps gs t k : Nat) : Int)), .int (k : Nat)]) = (aiL gs t).map fun k : Nat => PyData.tuple [.int (-((ps gs t k : Nat) : Int)), .int (k : Nat)] := rfl
  rw [eA] at e1
  generalize ((aiL gs t).map fun k : Nat => PyData.tuple [.int (-((ps gs t k : Nat) : Int)), .int (k : Nat)]) = U at *
  generalize gsD gs = X at *
  simp [e_vF, F_aisle_at, b_aisle_at, e_call2, e_call3, v_in_range, t1, e0, e_call1, e2, z0, hen, -e_fLc]
  rw [e1]
  simp [a3, -e_fLc]
end W

set_option Elab.async false
set_option linter.all false
set_option maxRecDepth 100000
set_option maxHeartbeats 4000000
/-! A6 (k32): all orders, the best one. -/
namespace W
open PySem PySem.Spec L2 EV W32
variable {n : Nat} {gs : List Gu}
def lx : List Nat → List Nat → Bool
  | [], [] => false
  | [], _ :: _ => true
  | _ :: _, [] => false
  | x :: xs, y :: ys => if x = y then lx xs ys else decide (x < y)
theorem lx_int : ∀ (a b : List Nat), HT.lexLt (a.map fun i : Nat => (i : Int)) (b.map fun i : Nat => (i : Int)) = lx a b
  | [], [] => rfl
  | [], _ :: _ => rfl
  | _ :: _, [] => rfl
  | x :: xs, y :: ys => by
    show (if (x : Int) = (y : Int) then HT.lexLt _ _ else decide ((x : Int) < (y : Int))) = if x = y then lx xs ys else decide (x < y)
    by_cases h : x = y
    · rw [if_pos h, if_pos (by rw [h]), lx_int]
    · rw [if_neg h, if_neg (by omega)]
      exact decide_eq_decide.mpr (by omega)
theorem lx_irr : ∀ a : List Nat, lx a a = false
  | [] => rfl
  | x :: xs => by show (if x = x then lx xs xs else _) = _; rw [if_pos rfl, lx_irr]
theorem lx_asym : ∀ {a b : List Nat}, lx a b = true → lx b a = false
  | [], [], h => by cases h
  | [], _ :: _, _ => rfl
  | _ :: _, [], h => by cases h
  | x :: xs, y :: ys, h => by
    have h : (if x = y then lx xs ys else decide (x < y)) = true := h
    show (if y = x then lx ys xs else decide (y < x)) = false
    by_cases e : x = y
    · rw [if_pos e] at h
      rw [if_pos e.symm]; exact lx_asym h
    · rw [if_neg e] at h
      have := of_decide_eq_true h
      rw [if_neg (by omega)]; exact decide_eq_false (by omega)
theorem lx_app : ∀ {a b : List Nat} {x y : List Nat}, a.length = b.length → lx a b = true → lx (a ++ x) (b ++ y) = true
  | [], [], _, _, _, h => by cases h
  | [], _ :: _, _, _, hl, _ => by cases hl
  | _ :: _, [], _, _, hl, _ => by cases hl
  | p :: a, q :: b, x, y, hl, h => by
    have h : (if p = q then lx a b else decide (p < q)) = true := h
    show (if p = q then lx (a ++ x) (b ++ y) else decide (p < q)) = true
    by_cases e : p = q
    · rw [if_pos e] at h ⊢
      exact lx_app (by simpa using hl) h
    · rw [if_neg e] at h ⊢; exact h
theorem lx_end : ∀ {a : List Nat} {x y : Nat}, x < y → lx (a ++ [x]) (a ++ [y]) = true
  | [], x, y, h => by show (if x = y then lx [] [] else decide (x < y)) = true; rw [if_neg (by omega)]; exact decide_eq_true h
  | p :: a, x, y, h => by show (if p = p then lx (a ++ [x]) (a ++ [y]) else _) = true; rw [if_pos rfl]; exact lx_end h
def ext (c : Nat) (r : List Nat) : List (List Nat) := ((List.range c).filter fun x => !decide (x ∈ r)).map fun x => r ++ [x]
def AO (c : Nat) : Nat → List (List Nat)
  | 0 => [[]]
  | s + 1 => (AO c s).flatMap (ext c)
theorem AO_mem {c : Nat} : ∀ {s : Nat} {r : List Nat}, r ∈ AO c s ↔ r.length = s ∧ r.Nodup ∧ ∀ x ∈ r, x < c
  | 0, r => by
    show r ∈ [[]] ↔ _
    rw [List.mem_singleton]
    exact ⟨fun h => by subst h; exact ⟨rfl, List.nodup_nil, fun x hx => by cases hx⟩, fun h => List.eq_nil_of_length_eq_zero h.1⟩
  | s + 1, r => by
    show r ∈ (AO c s).flatMap (ext c) ↔ _
    rw [List.mem_flatMap]
    constructor
    · rintro ⟨t, ht, hr⟩
      obtain ⟨h1, h2, h3⟩ := AO_mem.mp ht
      obtain ⟨x, hx, rfl⟩ := List.mem_map.mp hr
      obtain ⟨x1, x2⟩ := List.mem_filter.mp hx
      have x1 := List.mem_range.mp x1
      have x2 : x ∉ t := by simpa using x2
      refine ⟨by rw [List.length_append, h1]; rfl, ?_, fun y hy => ?_⟩
      · rw [List.nodup_append]
        exact ⟨h2, List.pairwise_singleton _ x, fun a ha b hb => by rw [List.mem_singleton.mp hb]; intro z; exact x2 (z ▸ ha)⟩
      · rcases List.mem_append.mp hy with hy | hy
        · exact h3 y hy
        · rw [List.mem_singleton.mp hy]; exact x1
    · rintro ⟨h1, h2, h3⟩
      have hne : r ≠ [] := by intro z; rw [z] at h1; cases h1
      have e := List.dropLast_concat_getLast hne
      refine ⟨r.dropLast, AO_mem.mpr ⟨by rw [List.length_dropLast, h1]; rfl, ?_, fun x hx => h3 x ((List.dropLast_sublist r).subset hx)⟩, List.mem_map.mpr ⟨r.getLast hne, List.mem_filter.mpr ⟨List.mem_range.mpr (h3 _ (List.getLast_mem hne)), ?_⟩, e⟩⟩
      · rw [← e, List.nodup_append] at h2; exact h2.1
      · rw [← e, List.nodup_append] at h2
        have : r.getLast hne ∉ r.dropLast := fun z => h2.2.2 _ z _ (List.mem_singleton.mpr rfl) rfl
        simpa using this
theorem AO_pw {c : Nat} : ∀ {s : Nat}, (AO c s).Pairwise fun a b => lx a b = true
  | 0 => List.pairwise_singleton _ _
  | s + 1 => by
    show ((AO c s).flatMap (ext c)).Pairwise _
    rw [List.pairwise_flatMap]
    constructor
    · intro r _
      refine List.pairwise_map.mpr ?_
      exact (List.pairwise_lt_range.filter _).imp fun h => lx_end h
    · refine List.Pairwise.imp_of_mem ?_ (AO_pw (c := c) (s := s))
      intro a b ha hb hab x hx y hy
      obtain ⟨p, _, rfl⟩ := List.mem_map.mp hx
      obtain ⟨q, _, rfl⟩ := List.mem_map.mp hy
      exact lx_app (by rw [(AO_mem.mp ha).1, (AO_mem.mp hb).1]) hab
theorem AO_len {c : Nat} : ∀ {s : Nat}, (AO c s).length ≤ c ^ s
  | 0 => Nat.le_refl _
  | s + 1 => by
    have key : ∀ l : List (List Nat), (l.flatMap (ext c)).length ≤ l.length * c := by
      intro l
      induction l with
      | nil => simp
      | cons a l ih =>
        rw [List.flatMap_cons, List.length_append, List.length_cons, Nat.add_mul, Nat.one_mul]
        have : (ext c a).length ≤ c := by
          unfold ext
          rw [List.length_map]
          have := List.length_filter_le (fun x => !decide (x ∈ a)) (List.range c)
          rw [List.length_range] at this
          exact this
        omega
    exact Nat.le_trans (key _) (by rw [Nat.pow_succ]; exact Nat.mul_le_mul_right _ AO_len)
theorem v_all_orders {c : Nat} (hc : c ≤ 6) : vF F_all_orders [.val (.int (c : Nat))] = some (.list ((AO c c).map orD)) := by
  have z1 : 1 ≤ sizeLine := z_size (by omega)
  have z0 : 0 ≤ sizeLine := Nat.zero_le _
  have o1 : okB ((c : Nat) : Int) = true := okB_of (by omega) (by omega)
  have zp : ∀ s, s ≤ 6 → (AO c s).length ≤ sizeLine := fun s hs => by
    have h1 := AO_len (c := c) (s := s)
    have h2 : c ^ s ≤ 6 ^ 6 := Nat.le_trans (Nat.pow_le_pow_left hc s) (Nat.pow_le_pow_right (by omega) hs)
    have h3 : (6 : Nat) ^ 6 ≤ sizeLine := by rw [sizeLine_eq]; decide
    omega
  obtain ⟨g', e1, x2, x3, x4, rfl⟩ := forGo_ind (n := c) (h := fun i => .int i) (b := bN 2) (f := fSq (fOwn 3 (fLst aN))
    (fSq (fFor (iSeq (f1 oLst (fV 1))) (bN 4) (fExt 3 (fLc (iRng1 (aC (fV 0) aN)) (bN 5) (t2 oNotIn (fV 5) (fV 4)) (f2 oCatT (fV 4) (fTup (aC (fV 5) aN))) [5])))
    (frz 3 (fSet 1 (fV 3)))))
    (g := [.val (.int (c : Nat)), .val (.list [.tuple []]), .emp, .emp, .emp, .emp])
    (fun s gg => ∃ x2 x3 x4 : EV.Slot, gg = [.val (.int (c : Nat)), .val (.list ((AO c s).map orD)), x2, x3, x4, .emp]) (by
      rintro s gg hs ⟨x2, x3, x4, rfl⟩
      have hbig := zp (s + 1) (by omega)
      obtain ⟨g2, e2, x4', rfl⟩ := forGo_l (b := bN 4) (f := fExt 3 (fLc (iRng1 (aC (fV 0) aN)) (bN 5) (t2 oNotIn (fV 5) (fV 4)) (f2 oCatT (fV 4) (fTup (aC (fV 5) aN))) [5]))
        (g := [.val (.int (c : Nat)), .val (.list ((AO c s).map orD)), .val (.int (s : Nat)), .own false (.list []), x4, .emp]) orD (xs := AO c s)
        (fun pre gg => ∃ x4 : EV.Slot, gg = [.val (.int (c : Nat)), .val (.list ((AO c s).map orD)), .val (.int (s : Nat)), .own false (.list ((pre.flatMap (ext c)).map orD)), x4, .emp]) (by
          rintro pre r post gg hpre ⟨x4, rfl⟩
          have hr : r ∈ AO c s := by rw [← hpre]; simp
          obtain ⟨r1, r2, r3⟩ := AO_mem.mp hr
          have a1 := fLc_flt (n := c) (h := fun i => .int i) (p := fun x => !decide (x ∈ r)) (f := fun x => orD (r ++ [x])) (it := iRng1 (aC (fV 0) aN)) (b := bN 5) (tt := t2 oNotIn (fV 5) (fV 4)) (te := f2 oCatT (fV 4) (fTup (aC (fV 5) aN))) (vs := [5]) (g := [.val (.int (c : Nat)), .val (.list ((AO c s).map orD)), .val (.int (s : Nat)), .own false (.list ((pre.flatMap (ext c)).map orD)), .val (orD r), .emp]) (by
            generalize ((pre.flatMap (ext c)).map orD) = A at *
            generalize ((AO c s).map orD) = B at *
            simp [o1]) rfl (z_size (by omega)) (fun x hx => by
            have hin : oNotIn (.int (x : Nat)) (orD r) = some (!decide (x ∈ r)) := by
              have ha : (r.map fun i : Nat => PyData.int (i : Nat)).all flatD = true := List.all_eq_true.mpr fun y hy => by
                obtain ⟨j, _, rfl⟩ := List.mem_map.mp hy; rfl
              show (inF _ _).map not = _
              unfold inF
              rw [if_pos ⟨rfl, ha⟩, List.any_map]
              show some (!(r.any fun y => ((y : Int) == (x : Int)))) = _
              congr 2
              by_cases h : x ∈ r
              · rw [decide_eq_true h]
                exact List.any_eq_true.mpr ⟨x, h, by simp⟩
              · rw [decide_eq_false h]
                refine List.any_eq_false.mpr fun y hy z => ?_
                have e : (y : Int) = (x : Int) := eq_of_beq z
                exact h ((show y = x by omega) ▸ hy)
            have hcat : oCatT (orD r) (.tuple [.int (x : Nat)]) = some (orD (r ++ [x])) := by
              show _ = some (PyData.tuple _)
              rw [List.map_append]
              exact o_CatT (z_size (by rw [List.length_map, r1]; simp; omega))
            generalize ((pre.flatMap (ext c)).map orD) = A at *
            generalize ((AO c s).map orD) = B at *
            generalize orD (r ++ [x]) = Y at *
            generalize orD r = X at *
            cases hd : decide (x ∈ r) with
            | true => rw [hd] at hin; simp [trn, wipeG, hin]
            | false => rw [hd] at hin; simp [trn, wipeG, hin, hcat, z1])
          have el : (((List.range c).filter fun x => !decide (x ∈ r)).map fun x => orD (r ++ [x])) = (ext c r).map orD := by
            unfold ext
            rw [List.map_map]; rfl
          rw [el] at a1
          have R1 : ((pre ++ [r]).flatMap (ext c)).map orD = (pre.flatMap (ext c)).map orD ++ (ext c r).map orD := by
            rw [List.flatMap_append, List.map_append]
            congr 2
            simp
          have zl : ((pre.flatMap (ext c)).map orD).length + ((ext c r).map orD).length ≤ sizeLine := by
            have h1 : (AO c (s + 1)).length = (pre.flatMap (ext c)).length + ((ext c r).length + (post.flatMap (ext c)).length) := by
              show ((AO c s).flatMap (ext c)).length = _
              rw [← hpre, List.flatMap_append, List.length_append, List.flatMap_cons, List.length_append]
            rw [List.length_map, List.length_map]
            omega
          refine ⟨[.val (.int (c : Nat)), .val (.list ((AO c s).map orD)), .val (.int (s : Nat)), .own false (.list (((pre ++ [r]).flatMap (ext c)).map orD)), .val (orD r), .emp], ?_, _, rfl⟩
          rw [R1]
          generalize ((pre.flatMap (ext c)).map orD) = A at *
          generalize ((ext c r).map orD) = E at *
          generalize ((AO c s).map orD) = B at *
          generalize orD r = X at *
          simp [a1, -e_fLc, zl]) ⟨x4, rfl⟩
      refine ⟨[.val (.int (c : Nat)), .val (.list ((AO c (s + 1)).map orD)), .val (.int (s : Nat)), .val (.list ((AO c (s + 1)).map orD)), x4', .emp], ?_, _, _, _, rfl⟩
      have eA : ((AO c s).flatMap (ext c)).map orD = (AO c (s + 1)).map orD := rfl
      rw [eA] at e2
      generalize ((AO c (s + 1)).map orD) = A at *
      generalize ((AO c s).map orD) = B at *
      simp [z0, -e_fLc]
      rw [e2]
      simp) ⟨.emp, .emp, .emp, rfl⟩
  simp [e_vF, F_all_orders, b_all_orders, z0, z1, o1, -e_fLc]
  rw [e1]
  simp
end W

set_option Elab.async false
set_option linter.all false
set_option maxRecDepth 100000
set_option maxHeartbeats 4000000
/-! A7 (k32): the best order, and answers accepted. -/
namespace W
open PySem PySem.Spec L2 EV W32
variable {n : Nat} {gs : List Gu}
theorem v_demand_few (G : GG n gs) (h6 : gs.length ≤ 6) : vF F_demand_few [.val (.int (n : Nat)), .val (gsD gs)] = some .none := by
  have e1 := v_demand_guests G
  have n6 : ¬ (6 : Int) < ((gs.length : Nat) : Int) := by omega
  simp [e_vF, F_demand_few, b_demand_few, e_call2, e1, n6]
theorem io_ok {o : List Nat} (ho : ∀ i ∈ o, i < gs.length) {P : Gu → Prop} (h : ∀ g ∈ gs, P g) : ∀ g ∈ io gs o, P g := fun g hg => by
  obtain ⟨i, hi, rfl⟩ := List.mem_map.mp hg
  exact h _ (gG_mem (ho i hi))
abbrev Eo (gs : List Gu) (o : List Nat) : Nat := En (io gs o)
theorem v_end_io {o : List Nat} (G : GG n gs) (O : Or gs.length o) : vF F_end_of [.val (gsD (io gs o))] = some (.int (Eo gs o : Nat)) := v_end_of (by rw [List.length_map, O.len]; have := G.l2; omega) (io_ok O.lt G.s3) (io_ok O.lt G.r30)
theorem ao_or {c : Nat} {o : List Nat} : o ∈ AO c c ↔ Or c o := by
  rw [AO_mem]
  exact ⟨fun h => ⟨h.1, h.2.2, h.2.1⟩, fun h => ⟨h.len, h.nd, h.lt⟩⟩
/-- the best order -/
structure Bst (gs : List Gu) (o : List Nat) : Prop where
  ok : Or gs.length o
  le : ∀ o', Or gs.length o' → Eo gs o ≤ Eo gs o'
  fst : ∀ o', Or gs.length o' → Eo gs o' = Eo gs o → lx o' o = false
theorem v_best_order (G : GG n gs) (h6 : gs.length ≤ 6) : ∃ o, Bst gs o ∧ vF F_best_order [.val (.int (n : Nat)), .val (gsD gs)] = some (.tuple [.int (Eo gs o : Nat), orD o]) := by
  have e0 := v_demand_few G h6
  have e1 := v_all_orders h6
  have z2 : 2 ≤ sizeLine := z_size (by omega)
  have pw := AO_pw (c := gs.length) (s := gs.length)
  have hne : AO gs.length gs.length ≠ [] := fun z => by
    have : List.range gs.length ∈ AO gs.length gs.length := ao_or.mpr ⟨List.length_range, fun i hi => List.mem_range.mp hi, List.nodup_range⟩
    rw [z] at this; cases this
  obtain ⟨g', e2, B, x3, x4, hB, rfl⟩ := forGo_l (b := bN 3) (f := fSq (fSet 4 (fCall F_end_of [] (bCons (fCall F_in_order [] (bCons (fV 1) (bCons (fV 3) bNil))) bNil)))
    (fIfS (tOrD (t2 oIsN (fV 2) (fC .none)) (t2 pbLt (fV 4) (f2 oIdx (fV 2) (fC (.int 0))))) (fSet 2 (fTup (aC (fV 4) (aC (fV 3) aN)))) fNx))
    (g := [.val (.int (n : Nat)), .val (gsD gs), .val .none, .emp, .emp]) orD (xs := AO gs.length gs.length)
    (fun pre gg => ∃ (B : D) (x3 x4 : EV.Slot), ((pre = [] ∧ B = .none) ∨ ∃ o, o ∈ pre ∧ B = .tuple [.int (Eo gs o : Nat), orD o] ∧ ∀ o' ∈ pre, Eo gs o ≤ Eo gs o' ∧ (Eo gs o' = Eo gs o → o' = o ∨ lx o o' = true)) ∧ gg = [.val (.int (n : Nat)), .val (gsD gs), .val B, x3, x4]) (by
      rintro pre o post gg hpre ⟨B, x3, x4, hB, rfl⟩
      have ho : Or gs.length o := ao_or.mp (by rw [← hpre]; simp)
      have d1 := v_in_order (gs := gs) (o := o) (by rw [ho.len]; omega) ho.lt
      have d2 := v_end_io G ho
      have before : ∀ o' ∈ pre, lx o' o = true := fun o' ho' => by
        rw [← hpre, List.pairwise_append] at pw
        exact pw.2.2 o' ho' o List.mem_cons_self
      rcases hB with ⟨rfl, rfl⟩ | ⟨ob, hob, rfl, hall⟩
      · refine ⟨[.val (.int (n : Nat)), .val (gsD gs), .val (.tuple [.int (Eo gs o : Nat), orD o]), .val (orD o), .val (.int (Eo gs o : Nat))], ?_, _, _, _, .inr ⟨o, by simp, rfl, fun o' ho' => ?_⟩, rfl⟩
        · generalize Eo gs o = m at *
          generalize gsD (io gs o) = Y at *
          generalize gsD gs = X at *
          generalize orD o = O at *
          simp [e_call2, d1, e_call1, d2, z2]
        · have : o' = o := by simpa using ho'
          subst this
          exact ⟨Nat.le_refl _, fun _ => .inl rfl⟩
      · by_cases hlt : Eo gs o < Eo gs ob
        · refine ⟨[.val (.int (n : Nat)), .val (gsD gs), .val (.tuple [.int (Eo gs o : Nat), orD o]), .val (orD o), .val (.int (Eo gs o : Nat))], ?_, _, _, _, .inr ⟨o, by simp, rfl, fun o' ho' => ?_⟩, rfl⟩
          · have hi : ((Eo gs o : Nat) : Int) < (Eo gs ob : Nat) := by omega
            generalize Eo gs o = m at *
            generalize Eo gs ob = m2 at *
            generalize gsD (io gs o) = Y at *
            generalize gsD gs = X at *
            generalize orD o = O at *
            generalize orD ob = O2 at *
            simp [e_call2, d1, e_call1, d2, z2, ix0, hlt]
          · rcases List.mem_append.mp ho' with h | h
            · have := (hall o' h).1
              exact ⟨by omega, fun e => by omega⟩
            · rw [List.mem_singleton.mp h]
              exact ⟨Nat.le_refl _, fun _ => .inl rfl⟩
        · refine ⟨[.val (.int (n : Nat)), .val (gsD gs), .val (.tuple [.int (Eo gs ob : Nat), orD ob]), .val (orD o), .val (.int (Eo gs o : Nat))], ?_, _, _, _, .inr ⟨ob, List.mem_append_left _ hob, rfl, fun o' ho' => ?_⟩, rfl⟩
          · have hi : ¬ ((Eo gs o : Nat) : Int) < (Eo gs ob : Nat) := by omega
            generalize Eo gs o = m at *
            generalize Eo gs ob = m2 at *
            generalize gsD (io gs o) = Y at *
            generalize gsD gs = X at *
            generalize orD o = O at *
            generalize orD ob = O2 at *
            simp [e_call2, d1, e_call1, d2, z2, ix0, hlt]
          · rcases List.mem_append.mp ho' with h | h
            · exact hall o' h
            · rw [List.mem_singleton.mp h]
              exact ⟨by omega, fun _ => .inr (before ob hob)⟩) ⟨.none, .emp, .emp, .inl ⟨rfl, rfl⟩, rfl⟩
  rcases hB with ⟨z, _⟩ | ⟨o, ho, rfl, hall⟩
  · exact absurd z hne
  · refine ⟨o, ⟨ao_or.mp ho, fun o' h' => (hall o' (ao_or.mpr h')).1, fun o' h' e => ?_⟩, ?_⟩
    · rcases (hall o' (ao_or.mpr h')).2 e with z | z
      · rw [z]; exact lx_irr o
      · exact lx_asym z
    · generalize ((AO gs.length gs.length).map orD) = U at *
      generalize Eo gs o = m at *
      generalize orD o = O at *
      have hl : oLen (gsD gs) = some (.int (gs.length : Nat)) := by show some (PyData.int ((gs.map encG).length : Nat)) = _; rw [List.length_map]
      generalize gsD gs = X at *
      simp [e_vF, F_best_order, b_best_order, e_call2, e0, e_call1, hl, e1]
      rw [e2]
      simp
theorem v_accept {o : List Nat} (G : GG n gs) (h6 : gs.length ≤ 6) (B : Bst gs o) : vF F_accept_best_order [.val (.int (n : Nat)), .val (gsD gs), .val (.tuple [.int (Eo gs o : Nat), orD o])] = some .none := by
  have e0 := v_demand_few G h6
  have e1 := v_is_order (gs := gs) (by omega) B.ok
  have e2 := v_in_order (gs := gs) (o := o) (by rw [B.ok.len]; omega) B.ok.lt
  have e3 := v_end_io G B.ok
  obtain ⟨o2, B2, e4⟩ := v_best_order G h6
  have em : Eo gs o2 = Eo gs o := Nat.le_antisymm (B2.le o B.ok) (B.le o2 B2.ok)
  rw [em] at e4
  generalize Eo gs o = m at *
  generalize gsD (io gs o) = Y at *
  generalize gsD gs = X at *
  generalize orD o = O at *
  generalize orD o2 = O2 at *
  simp [e_vF, F_accept_best_order, b_accept_best_order, -o_Isi, e_call2, e0, ix0, ix1, e_call1, v_is_integer, e1, e2, e3, e4]
end W

set_option Elab.async false
set_option linter.all false
set_option maxRecDepth 100000
set_option maxHeartbeats 4000000
/-! A8 (k32): plain facts for the law. -/
namespace W
open PySem PySem.Spec L2 EV W32
variable {n : Nat} {gs gs2 : List Gu}
/-! ### alike -/
theorem alike_all (hl : gs2.length = gs.length) (h : ∀ k, k < gs.length → rw' gs2 k = rw' gs k ∧ wt gs2 k = wt gs k) : wkD gs2 = wkD gs ∧ En gs2 = En gs := by
  have hS : ∀ k, k < gs.length → Sg gs2 k = Sg gs k := fun k hk => Sq_congr fun i hi => h i (by omega)
  refine ⟨?_, ?_⟩
  · show EV.R gs2.length _ = EV.R gs.length _
    rw [hl]
    refine List.map_congr_left fun k hk => ?_
    have hk := List.mem_range.mp hk
    have hM : ∀ j, Mg gs2 k j = Mg gs k j := fun j => Mq_congr fun i hi => h i (by omega)
    show PyData.tuple [.tuple (EV.R (rw' gs2 k) fun j => .int (Mg gs2 k j : Nat)), .int (Sg gs2 k : Nat)] = .tuple [.tuple (EV.R (rw' gs k) fun j => .int (Mg gs k j : Nat)), .int (Sg gs k : Nat)]
    rw [hS k hk, (h k hk).1]
    congr 3
    exact congrArg (EV.R (rw' gs k)) (funext fun j => by rw [hM])
  · show mx _ gs2.length = mx _ gs.length
    rw [hl]
    exact mx_congr hS
abbrev mir (gs : List Gu) : List Gu := gs.map fun g => (g.1, 0 - g.2.1, g.2.2)
theorem gG_mir {k : Nat} (h : k < gs.length) : gG (mir gs) k = ((gG gs k).1, 0 - (gG gs k).2.1, (gG gs k).2.2) := by
  unfold gG
  rw [List.getD_eq_getElem?_getD, List.getD_eq_getElem?_getD, List.getElem?_map, List.getElem?_eq_getElem h]; rfl
theorem ab_neg {x : Int} : ab (0 - x) = ab x := by unfold ab; split <;> split <;> omega
theorem inW_neg {g o : Gu} : inW (g.1, 0 - g.2.1, g.2.2) (o.1, 0 - o.2.1, o.2.2) = inW g o := by
  unfold inW
  dsimp only
  rw [ab_neg, ab_neg]
  have : (0 - o.2.1) * (0 - g.2.1) = o.2.1 * g.2.1 := by rw [Int.zero_sub, Int.zero_sub, Int.neg_mul_neg]
  rw [this]
theorem stn_mir {pre : List Gu} {g : Gu} : stn (mir pre) (g.1, 0 - g.2.1, g.2.2) = stn pre g := by
  unfold stn mir
  rw [List.filter_map, List.length_map]
  congr 1
  refine List.filter_congr fun o _ => ?_
  exact inW_neg
theorem st_mir {k : Nat} (h : k < gs.length) : stn ((mir gs).take k) (gG (mir gs) k) = stn (gs.take k) (gG gs k) := by
  rw [gG_mir h, show (mir gs).take k = mir (gs.take k) from (List.map_take ..).symm, stn_mir]
theorem mir_same {k : Nat} (h : k < gs.length) : rw' (mir gs) k = rw' gs k ∧ wt (mir gs) k = wt gs k := by
  refine ⟨?_, ?_⟩
  · unfold rw'; rw [gG_mir h]
  · unfold wt; rw [st_mir h, gG_mir h]
theorem mir_wk : wkD (mir gs) = wkD gs := (alike_all (List.length_map ..) fun k hk => mir_same hk).1
theorem mir_st : stD (mir gs) = stD gs := by
  show PyData.tuple (EV.R (mir gs).length _) = .tuple (EV.R gs.length _)
  rw [List.length_map]
  congr 1
  refine List.map_congr_left fun k hk => ?_
  rw [st_mir (List.mem_range.mp hk)]
theorem GG.mir (G : GG n gs) : GG n (mir gs) := ⟨G.n1, G.n2, by rw [List.length_map]; exact G.l2, fun g hg => by
  obtain ⟨o, ho, rfl⟩ := List.mem_map.mp hg
  obtain ⟨h1, h2, h3⟩ := G.ok o ho
  refine ⟨h1, ⟨?_, ?_, ?_⟩, h3⟩
  · show -3 ≤ 0 - o.2.1; omega
  · show 0 - o.2.1 ≤ 3; omega
  · show 0 - o.2.1 ≠ 0; omega, by
  have e : ((W.mir gs).map fun g => (g.1, g.2.1)) = (gs.map fun g => (g.1, g.2.1)).map fun p => (p.1, 0 - p.2) := by rw [List.map_map, List.map_map]; rfl
  rw [e]
  exact List.Pairwise.map _ (fun a b h z => h (by
    have z1 := congrArg Prod.fst z
    have z2 := congrArg Prod.snd z
    dsimp only at z1 z2
    exact Prod.ext z1 (by omega))) G.nd⟩
theorem GG.up (G : GG n gs) (h : n + 1 ≤ 30) : GG (n + 1) gs := ⟨by omega, h, G.l2, fun g hg => by have := G.ok g hg; exact ⟨⟨this.1.1, by omega⟩, this.2⟩, G.nd⟩
/-! ### parts -/
theorem GG.sub (G : GG n gs) (h : gs2.Sublist gs) : GG n gs2 := ⟨G.n1, G.n2, Nat.le_trans h.length_le G.l2, fun g hg => G.ok g (h.subset hg), (h.map _).nodup G.nd⟩
theorem take_wk {m : Nat} (h : m ≤ gs.length) : wkD (gs.take m) = (wkD gs).take m := by
  show EV.R (gs.take m).length _ = (EV.R gs.length _).take m
  unfold EV.R
  rw [List.length_take, Nat.min_eq_left h, ← List.map_take, List.take_range, Nat.min_eq_left h]
  refine List.map_congr_left fun k hk => ?_
  have hk := List.mem_range.mp hk
  have hS : Sg (gs.take m) k = Sg gs k := Sq_congr fun i hi => take_same (by omega)
  have hM : ∀ j, Mg (gs.take m) k j = Mg gs k j := fun j => Mq_congr fun i hi => take_same (by omega)
  have hR : rw' (gs.take m) k = rw' gs k := (take_same hk).1
  show PyData.tuple [.tuple (EV.R (rw' (gs.take m) k) fun j => .int (Mg (gs.take m) k j : Nat)), .int (Sg (gs.take m) k : Nat)] = .tuple [.tuple (EV.R (rw' gs k) fun j => .int (Mg gs k j : Nat)), .int (Sg gs k : Nat)]
  rw [hS, hR]
  congr 3
  exact congrArg (EV.R (rw' gs k)) (funext fun j => by rw [hM])
theorem wt_ge {k : Nat} : (gG gs k).2.2 ≤ wt gs k := Nat.le_add_right _ _
theorem Sg_eq {k : Nat} : Sg gs k = Mg gs k (rw' gs k - 1) + wt gs k := rfl
theorem Mg_lt {k j : Nat} : Mg gs k j + 1 ≤ Mg gs k (j + 1) := mn_lt
theorem Sg_ge {k : Nat} : rw' gs k - 1 + (gG gs k).2.2 ≤ Sg gs k := Nat.le_trans (Nat.add_le_add_left wt_ge _) Sq_ge
theorem dl_nn {k : Nat} (hr : 1 ≤ rw' gs k) : 0 ≤ dl gs k := by
  have := Sg_ge (gs := gs) (k := k)
  unfold dl
  omega
theorem one_at {k : Nat} (h : k < gs.length) : (gs.drop k).take 1 = [gG gs k] := by
  rw [List.drop_eq_getElem_cons h]
  unfold gG
  rw [List.getD_eq_getElem?_getD, List.getElem?_eq_getElem h]; rfl
theorem dl_one {g : Gu} (hr : 1 ≤ g.1) : dl [g] 0 = 0 := by
  have e : Sg [g] 0 = g.1 - 1 + g.2.2 := by
    show mn (fun _ => 0) (g.1 - 1) + (g.2.2 + stn [] g) = _
    rw [mn_zero]; rfl
  unfold dl
  rw [e]
  show ((g.1 - 1 + g.2.2 : Nat) : Int) - (((g.1 : Nat) : Int) - 1 + (g.2.2 : Nat)) = 0
  omega
/-! ### longer stowing -/
structure Slow (gs gs2 : List Gu) : Prop where
  l : gs2.length = gs.length
  at' : ∀ k, k < gs.length → (gG gs2 k).1 = (gG gs k).1 ∧ (gG gs2 k).2.1 = (gG gs k).2.1 ∧ (gG gs k).2.2 ≤ (gG gs2 k).2.2 ∧ (gG gs2 k).2.2 ≤ (gG gs k).2.2 + 2
theorem stn_key {A B : List Gu} {g g2 : Gu} (h : A.map (fun g => (g.1, g.2.1)) = B.map fun g => (g.1, g.2.1)) (hg : (g.1, g.2.1) = (g2.1, g2.2.1)) : stn A g = stn B g2 := by
  have key : ∀ (l : List Gu) (u : Gu), stn l u = ((l.map fun g => (g.1, g.2.1)).filter fun p => decide (p.1 = u.1) && (decide (0 < p.2 * u.2.1) && decide (ab p.2 < ab u.2.1))).length := fun l u => by
    rw [List.filter_map, List.length_map]; rfl
  have h1 := congrArg Prod.fst hg
  have h2 := congrArg Prod.snd hg
  dsimp only at h1 h2
  rw [key, key, h, h1, h2]
theorem Slow.keys (h : Slow gs gs2) : gs2.map (fun g => (g.1, g.2.1)) = gs.map fun g => (g.1, g.2.1) := by
  refine List.ext_getElem (by rw [List.length_map, List.length_map, h.l]) fun k h1 h2 => ?_
  have hk : k < gs.length := by rw [List.length_map] at h2; exact h2
  have := h.at' k hk
  unfold gG at this
  rw [List.getD_eq_getElem?_getD, List.getD_eq_getElem?_getD, List.getElem?_eq_getElem (by rw [h.l]; exact hk), List.getElem?_eq_getElem hk] at this
  rw [List.getElem_map, List.getElem_map]
  exact Prod.ext this.1 this.2.1
theorem Slow.wt (h : Slow gs gs2) {k : Nat} (hk : k < gs.length) : wt gs k ≤ W32.wt gs2 k := by
  have a := h.at' k hk
  unfold W32.wt
  have e : stn (gs2.take k) (gG gs2 k) = stn (gs.take k) (gG gs k) := stn_key (by rw [List.map_take, List.map_take, h.keys]) (Prod.ext a.1 a.2.1)
  rw [e]
  exact Nat.add_le_add_right a.2.2.1 _
theorem Slow.sit (h : Slow gs gs2) (G : GG n gs) {k : Nat} (hk : k < gs.length) : Sg gs k ≤ Sg gs2 k := by
  refine Sq_less (row := rw' gs2) (w := W32.wt gs2) (e := fun k => k) (n := gs.length) (m := gs.length) (fun i hi => ?_) (fun k hk => hk) (fun k _ => Nat.le_refl _) (fun k hk => ⟨(h.at' k hk).1.symm, h.wt hk⟩) hk
  show 1 ≤ (gG gs2 i).1
  rw [(h.at' i hi).1]
  exact (G.ok _ (gG_mem hi)).1.1
theorem Slow.en (h : Slow gs gs2) (G : GG n gs) : En gs ≤ En gs2 := mx_le fun k hk => Nat.le_trans (h.sit G hk) (mx_ge (by rw [h.l]; exact hk))
theorem Slow.gg (h : Slow gs gs2) (G : GG n gs) (h5 : ∀ g ∈ gs, g.2.2 ≤ 5) : GG n gs2 := ⟨G.n1, G.n2, by rw [h.l]; exact G.l2, fun g hg => by
  obtain ⟨k, hk, rfl⟩ := List.mem_iff_getElem.mp hg
  have e : gs2[k] = gG gs2 k := by unfold gG; rw [List.getD_eq_getElem?_getD, List.getElem?_eq_getElem hk]; rfl
  rw [e]
  rw [h.l] at hk
  obtain ⟨a1, a2, a3, a4⟩ := h.at' k hk
  have := G.ok _ (gG_mem hk)
  have := h5 _ (gG_mem hk)
  rw [a1, a2]
  exact ⟨by omega, by omega, by omega, by omega⟩, by rw [h.keys]; exact G.nd⟩
/-! ### orders -/
theorem gG_io {o : List Nat} {k : Nat} (h : k < o.length) : gG (io gs o) k = gG gs (o.getD k 0) := by
  show (o.map (gG gs)).getD k _ = _
  rw [List.getD_eq_getElem?_getD, List.getD_eq_getElem?_getD, List.getElem?_map, List.getElem?_eq_getElem h]; rfl
theorem GG.io {o : List Nat} (G : GG n gs) (O : Or gs.length o) : GG n (io gs o) := ⟨G.n1, G.n2, by rw [List.length_map, O.len]; exact G.l2, io_ok O.lt G.ok, by
  have e : ((W.io gs o).map fun g => (g.1, g.2.1)) = o.map fun i => ((gG gs i).1, (gG gs i).2.1) := by rw [List.map_map]; rfl
  rw [e]
  refine List.pairwise_map.mpr (O.nd.imp_of_mem fun {a b} ha hb hab z => hab ?_)
  have ga := O.lt a ha
  have gb := O.lt b hb
  have key : ∀ {k : Nat} (hk : k < gs.length), (gs.map fun g => (g.1, g.2.1))[k]? = some ((gG gs k).1, (gG gs k).2.1) := fun {k} hk => by
    rw [List.getElem?_map, List.getElem?_eq_getElem hk]
    unfold gG
    rw [List.getD_eq_getElem?_getD, List.getElem?_eq_getElem hk]; rfl
  have hn := List.pairwise_iff_getElem.mp G.nd
  have li : a < (gs.map fun g => (g.1, g.2.1)).length := by rw [List.length_map]; exact ga
  have lj : b < (gs.map fun g => (g.1, g.2.1)).length := by rw [List.length_map]; exact gb
  have e := (key ga).trans ((congrArg some z).trans (key gb).symm)
  rw [List.getElem?_eq_getElem li, List.getElem?_eq_getElem lj] at e
  have e := Option.some.inj e
  rcases Nat.lt_trichotomy a b with h1 | h1 | h1
  · exact absurd e (hn a b li lj h1)
  · exact h1
  · exact absurd e.symm (hn b a lj li h1)⟩
theorem calm_zero {o : List Nat} (C : Calm gs o) {k : Nat} (hk : k < o.length) : stn ((io gs o).take k) (gG (io gs o) k) = 0 := by
  unfold stn
  rw [List.length_eq_zero_iff, List.filter_eq_nil_iff]
  intro g hg z
  obtain ⟨i, hi, e⟩ := List.mem_iff_getElem.mp hg
  have hi' : i < k := by rw [List.length_take] at hi; omega
  have e2 : g = gG gs (o.getD i 0) := by
    rw [← e, List.getElem_take, List.getElem_map, List.getD_eq_getElem?_getD, List.getElem?_eq_getElem (by omega)]; rfl
  rw [gG_io hk, e2] at z
  obtain ⟨z1, z2⟩ := Bool.and_eq_true_iff.mp z
  obtain ⟨_, z3⟩ := Bool.and_eq_true_iff.mp z2
  have hc := List.pairwise_iff_getElem.mp C i k (by omega) hk hi'
  rw [List.getD_eq_getElem?_getD, List.getD_eq_getElem?_getD, List.getElem?_eq_getElem (by omega), List.getElem?_eq_getElem hk] at z1 z3
  have := hc (of_decide_eq_true z1)
  have := of_decide_eq_true z3
  dsimp only [Option.getD_some] at *
  omega
/-! ### each sits in time -/
theorem nd_len : ∀ (l D : List Nat), l.Nodup → (∀ x ∈ l, x ∈ D) → l.length ≤ D.length
  | [], _, _, _ => Nat.zero_le _
  | x :: l, D, h, hs => by
    obtain ⟨a, b, rfl⟩ := List.append_of_mem (hs x List.mem_cons_self)
    have p := List.nodup_cons.mp h
    have ih := nd_len l (a ++ b) p.2 fun y hy => by
      have ne : y ≠ x := fun z => p.1 (z ▸ hy)
      rcases List.mem_append.mp (hs y (List.mem_cons_of_mem _ hy)) with h1 | h1
      · exact List.mem_append_left _ h1
      · rcases List.mem_cons.mp h1 with h2 | h2
        · exact absurd h2 ne
        · exact List.mem_append_right _ h2
    rw [List.length_append] at ih
    rw [List.length_append, List.length_cons, List.length_cons]
    omega
theorem Or.mem {m : Nat} {o : List Nat} (O : Or m o) {i : Nat} (hi : i < m) : i ∈ o := by
  refine Classical.byContradiction fun hn => ?_
  have h := nd_len (i :: o) (List.range m) (List.nodup_cons.mpr ⟨hn, O.nd⟩) fun x hx => by
    rcases List.mem_cons.mp hx with rfl | hx
    · exact List.mem_range.mpr hi
    · exact List.mem_range.mpr (O.lt x hx)
  rw [List.length_cons, O.len, List.length_range] at h
  omega
theorem Eo_ge {o : List Nat} (O : Or gs.length o) {i : Nat} (hi : i < gs.length) : (gG gs i).1 - 1 + (gG gs i).2.2 ≤ Eo gs o := by
  have hm : i ∈ o := O.mem hi
  obtain ⟨x, hx, rfl⟩ := List.mem_iff_getElem.mp hm
  have h1 := Sg_ge (gs := io gs o) (k := x)
  have h2 : Sg (io gs o) x ≤ Eo gs o := mx_ge (by rw [List.length_map]; exact hx)
  have e : gG (io gs o) x = gG gs o[x] := by rw [gG_io hx, List.getD_eq_getElem?_getD, List.getElem?_eq_getElem hx]; rfl
  have e3 : rw' (io gs o) x = (gG gs o[x]).1 := by unfold rw'; rw [e]
  rw [e3, e] at h1
  omega
/-! ### one less -/
theorem less_en {A B : List Gu} {g : Gu} (hr : ∀ x ∈ A ++ g :: B, 1 ≤ x.1) : En (A ++ B) ≤ En (A ++ g :: B) := by
  let e : Nat → Nat := fun k => if k < A.length then k else k + 1
  have he : ∀ k, k < (A ++ B).length → e k < (A ++ g :: B).length := fun k hk => by
    rw [List.length_append] at hk
    rw [List.length_append, List.length_cons]
    show (if k < A.length then k else k + 1) < _
    split <;> omega
  have hg : ∀ k, gG (A ++ B) k = gG (A ++ g :: B) (e k) := fun k => by
    unfold gG
    rw [List.getD_eq_getElem?_getD, List.getD_eq_getElem?_getD]
    show _ = ((A ++ g :: B)[if k < A.length then k else k + 1]?).getD _
    by_cases h : k < A.length
    · rw [if_pos h, List.getElem?_append_left h, List.getElem?_append_left h]
    · rw [if_neg h, List.getElem?_append_right (by omega), List.getElem?_append_right (by omega), show k + 1 - A.length = k - A.length + 1 by omega, List.getElem?_cons_succ]
  have hw : ∀ k, wt (A ++ B) k ≤ wt (A ++ g :: B) (e k) := fun k => by
    unfold wt
    rw [hg k]
    refine Nat.add_le_add_left ?_ _
    unfold stn
    refine (List.Sublist.filter _ ?_).length_le
    show ((A ++ B).take k).Sublist ((A ++ g :: B).take (if k < A.length then k else k + 1))
    by_cases h : k < A.length
    · rw [if_pos h, List.take_append_of_le_length (by omega), List.take_append_of_le_length (by omega)]
      exact List.Sublist.refl _
    · have t1 : (A ++ B).take k = A ++ B.take (k - A.length) := by rw [List.take_append, List.take_of_length_le (show A.length ≤ k by omega)]
      have t2 : (A ++ g :: B).take (k + 1) = A ++ g :: B.take (k - A.length) := by rw [List.take_append, List.take_of_length_le (show A.length ≤ k + 1 by omega), show k + 1 - A.length = k - A.length + 1 by omega, List.take_succ_cons]
      rw [if_neg h, t1, t2]
      exact List.Sublist.append (List.Sublist.refl _) (List.sublist_cons_self _ _)
  refine mx_le fun k hk => ?_
  have := Sq_less (row := rw' (A ++ g :: B)) (w := wt (A ++ g :: B)) (row' := rw' (A ++ B)) (w' := wt (A ++ B)) (e := e) (n := (A ++ B).length) (m := (A ++ g :: B).length) (fun i hi => hr _ (gG_mem hi)) he (fun k _ => by
    show (if k < A.length then k else k + 1) + 1 ≤ if k + 1 < A.length then k + 1 else k + 1 + 1
    split <;> split <;> omega) (fun k _ => ⟨by unfold rw'; rw [hg k], hw k⟩) hk
  exact Nat.le_trans this (mx_ge (he k hk))
theorem best_less {o o2 : List Nat} (G : GG n gs) (B : Bst gs o) (B2 : Bst (gs.drop 1) o2) (h1 : 1 ≤ gs.length) : Eo (gs.drop 1) o2 ≤ Eo gs o := by
  have hm : 0 ∈ o := B.ok.mem (by omega)
  obtain ⟨a, b, rfl⟩ := List.append_of_mem hm
  have hnd := B.ok.nd
  rw [List.nodup_append, List.nodup_cons] at hnd
  have ha : ∀ i ∈ a, 1 ≤ i := fun i hi => Nat.pos_of_ne_zero fun z => hnd.2.2 i hi 0 List.mem_cons_self z
  have hb : ∀ i ∈ b, 1 ≤ i := fun i hi => Nat.pos_of_ne_zero fun z => hnd.2.1.1 (z ▸ hi)
  have hl : (a ++ 0 :: b).length = gs.length := B.ok.len
  rw [List.length_append, List.length_cons] at hl
  have hlt : ∀ i ∈ a ++ b, 1 ≤ i ∧ i < gs.length := fun i hi => by
    rcases List.mem_append.mp hi with h | h
    · exact ⟨ha i h, B.ok.lt i (List.mem_append_left _ h)⟩
    · exact ⟨hb i h, B.ok.lt i (List.mem_append_right _ (List.mem_cons_of_mem _ h))⟩
  have O' : Or (gs.drop 1).length ((a ++ b).map (· - 1)) := by
    refine ⟨by rw [List.length_map, List.length_append, List.length_drop]; omega, fun i hi => ?_, ?_⟩
    · obtain ⟨j, hj, rfl⟩ := List.mem_map.mp hi
      have := hlt j hj
      rw [List.length_drop]
      omega
    · have hab : (a ++ b).Nodup := by rw [List.nodup_append]; exact ⟨hnd.1, hnd.2.1.2, fun x hx y hy => hnd.2.2 x hx y (List.mem_cons_of_mem _ hy)⟩
      refine List.pairwise_map.mpr (hab.imp_of_mem fun {x y} hx hy hxy z => hxy ?_)
      have := hlt x hx
      have := hlt y hy
      omega
  have e1 : io (gs.drop 1) ((a ++ b).map (· - 1)) = io gs a ++ io gs b := by
    show ((a ++ b).map (· - 1)).map (gG (gs.drop 1)) = a.map (gG gs) ++ b.map (gG gs)
    rw [List.map_map, ← List.map_append]
    refine List.map_congr_left fun i hi => ?_
    have := hlt i hi
    show gG (gs.drop 1) (i - 1) = gG gs i
    unfold gG
    rw [List.getD_eq_getElem?_getD, List.getD_eq_getElem?_getD, List.getElem?_drop, show 1 + (i - 1) = i by omega]
  have e2 : io gs (a ++ 0 :: b) = io gs a ++ gG gs 0 :: io gs b := by
    show (a ++ 0 :: b).map (gG gs) = _
    rw [List.map_append, List.map_cons]
  have h := B2.le _ O'
  have h2 := less_en (A := io gs a) (B := io gs b) (g := gG gs 0) (fun x hx => by
    rw [← e2] at hx
    exact (io_ok B.ok.lt G.r30 x hx).1)
  show En _ ≤ En (io gs (a ++ 0 :: b))
  rw [e2]
  exact Nat.le_trans h (by show En (io (gs.drop 1) ((a ++ b).map (· - 1))) ≤ _; rw [e1]; exact h2)
/-! ### bounds -/
theorem En_le (G : GG n gs) : En gs ≤ 1776 := by
  have l2 := G.l2
  have key : ∀ k, k < gs.length → Sg gs k ≤ (k + 1) * (30 + 44) := fun k hk => Sq_le (row := rw' gs) (w := wt gs) (n := gs.length) (b := 30) (c := 44) (fun i hi => by
    have h := G.ok _ (gG_mem hi)
    have hn := G.n2
    refine ⟨by show (gG gs i).1 ≤ 30; omega, ?_⟩
    unfold wt stn
    have h2 := List.length_filter_le (inW (gG gs i)) (gs.take i)
    have h3 : (gs.take i).length ≤ gs.length := by rw [List.length_take]; omega
    omega) hk
  exact mx_le fun k hk => by have := key k hk; omega
end W

set_option Elab.async false
set_option linter.all false
set_option maxRecDepth 100000
set_option maxHeartbeats 4000000
/-! A9 (k32): what is drawn. -/
namespace W
open PySem PySem.Spec L2 EV W32
abbrev lG (n : Nat) (g : Nat → Int) : D := .list (R n fun i => .int (g i))
structure Dr (L : Nat) (dr : Nat → Int) : Prop where
  len : L ≤ 3780
  lo : ∀ i, i < L → 0 ≤ dr i
  hi : ∀ i, i < L → dr i < 2 ^ 32
theorem map_R {xs : List Int} : xs.map PyData.int = R xs.length fun i => .int (xs.getD i 0) := R_ext (by simp) fun i hi => by
  rw [List.getElem?_map, List.getElem?_eq_getElem hi, Option.map_some, List.getD_eq_getElem?_getD, List.getElem?_eq_getElem hi]; rfl
/-- what is drawn so far -/
structure Dl (k : Nat) (ds : List Int) : Prop where
  len : ds.length ≤ k
  bd : ∀ d ∈ ds, 0 ≤ d ∧ d < 2 ^ 32
theorem Dl.app {k : Nat} {ds : List Int} {x : Int} (h : Dl k ds) (h1 : 0 ≤ x) (h2 : x < 2 ^ 32) : Dl (k + 1) (ds ++ [x]) := ⟨by rw [List.length_append]; have := h.len; simp; omega, fun d hd => by
  rcases List.mem_append.mp hd with hd | hd
  · exact h.bd d hd
  · rw [List.mem_singleton.mp hd]; exact ⟨h1, h2⟩⟩
theorem Dl.up {k k' : Nat} {ds : List Int} (h : Dl k ds) (hk : k ≤ k') : Dl k' ds := ⟨Nat.le_trans h.len hk, h.bd⟩
theorem c_div (r : Int) : cDiv r 1009 = true := by
  unfold cDiv
  rw [show decide ((0 : Int) < 1009) = true from by decide, show decide ((1009 : Int).natAbs.log2 < 9000) = true from by decide +kernel]; rfl
theorem c_pos {r k : Int} (h : 0 < k) : cPos r k = true := decide_eq_true h
abbrev lI (ds : List Int) : D := .list (ds.map PyData.int)
theorem v_draws (ns : List Int) : ∃ L dr, Dr L dr ∧ vF F__law_draws [.val (scr ns)] = some (lG L dr) := by
  have z0 : 4000 ≤ sizeLine := by rw [sizeLine_eq]; omega
  have o1 : okB 60 = true := by decide +kernel
  have o2 : okB 12 = true := by decide +kernel
  have cp : cPow 10 18 = true := by decide +kernel
  have hc : cutD (ns.map PyData.int) none (some 63) = R (min 63 ns.length) fun i => .int (ns.getD i 0) := by
    rw [map_R, R_cut (hi := some 63) (a := 0) (b := min 63 ns.length) rfl (HT.sIx_nat ns.length ns.length 63) (by omega)]
    simp
  obtain ⟨g', h1, ds, a, b, c, d, D, rfl⟩ := forGo_ind (n := min 63 ns.length) (h := fun i => .int (ns.getD i 0)) (b := bN 2) (f := (fSq (fSet 3 (f1 oAbs (fV 2)))
    (fIfS (t2 pbGe (fV 3) (f2 oPow (fC (.int 10)) (fC (.int 18)))) (fFor (iRng1 (aC (fC (.int 60)) aN)) (bN 4) (fIfS (t2 pbGt (fV 3) (fC (.int 0))) (fSq (fApp 1 (f2 oMod (f1 oInt (fV 3)) (fC (.int 1009))))
          (fSet 3 (f2 oFdiv (fV 3) (fC (.int 1009))))) fNx)) (fSq (fSet 5 (f2 oMod (f1 oInt (f2 oAdd (f2 oMul (fV 3) (fC (.int 48271))) (fC (.int 11)))) (fC (.int 2147483647))))
      (fFor (iRng1 (aC (fC (.int 12)) aN)) (bN 4) (fSq (fSet 5 (f2 oMod (f1 oInt (f2 oAdd (f2 oAdd (f2 oMul (fV 5) (fC (.int 16807))) (f2 oMul (fC (.int 69621)) (fV 4))) (fC (.int 5)))) (fC (.int 2147483629))))
        (fApp 1 (f2 oFdiv (fV 5) (fC (.int 1009)))))))))) (g := [.val (scr ns), .own false (.list []), .emp, .emp, .emp, .emp])
    (fun i gg => ∃ (ds : List Int) (a b c d : EV.Slot), Dl (60 * i) ds ∧ gg = [.val (scr ns), .own false (lI ds), a, b, c, d]) (by
      rintro i gg hi ⟨ds, a, b, c, d, D, rfl⟩
      generalize ns.getD i 0 = x
      have hr : ∃ r : Int, 0 ≤ r ∧ (if x < 0 then -x else x) = r := ⟨_, by split <;> omega, rfl⟩
      obtain ⟨r, hr0, hr⟩ := hr
      by_cases h : (10 : Int) ^ (18 : Int).toNat ≤ r
      · obtain ⟨g1, e1, ds1, r1, c1, D1, hr1, rfl⟩ := forGo_ind (n := 60) (h := fun k => .int k) (b := bN 4) (f := fIfS (t2 pbGt (fV 3) (fC (.int 0))) (fSq (fApp 1 (f2 oMod (f1 oInt (fV 3)) (fC (.int 1009))))
          (fSet 3 (f2 oFdiv (fV 3) (fC (.int 1009))))) fNx) (g := [.val (scr ns), .own false (lI ds), .val (.int x), .val (.int r), c, d])
          (fun j gg => ∃ (ds : List Int) (r : Int) (c : EV.Slot), Dl (60 * i + j) ds ∧ 0 ≤ r ∧ gg = [.val (scr ns), .own false (lI ds), .val (.int x), .val (.int r), c, d]) (by
            rintro j gg hj ⟨ds, r, c, D, hr, rfl⟩
            have hl : ds.length < sizeLine := by have := D.len; omega
            by_cases h0 : 0 < r
            · have b1 := Int.emod_nonneg r (show (1009 : Int) ≠ 0 by omega)
              have b2 := Int.emod_lt_of_pos r (show (0 : Int) < 1009 by omega)
              have b3 := Int.ediv_nonneg hr (show (0 : Int) ≤ 1009 by omega)
              refine ⟨_, ?_, ds ++ [r % 1009], r / 1009, .val (.int j), D.app b1 (by omega), b3, rfl⟩
              simp [h0, c_div, c_pos, hl]
            · refine ⟨_, ?_, ds, r, .val (.int j), D.up (by omega), hr, rfl⟩
              simp [h0]) ⟨ds, r, c, D, hr0, rfl⟩
        refine ⟨_, ?_, ds1, .val (.int x), .val (.int r1), c1, d, D1.up (by omega), rfl⟩
        have h' : (1000000000000000000 : Int) ≤ r := h
        simp [hr, cp, h', o1, e1]
      · have h' : ¬ (1000000000000000000 : Int) ≤ r := h
        have b0 := Int.emod_nonneg (r * 48271 + 11) (show (2147483647 : Int) ≠ 0 by omega)
        have b00 := Int.emod_lt_of_pos (r * 48271 + 11) (show (0 : Int) < 2147483647 by omega)
        obtain ⟨g1, e1, ds1, c1, q1, D1, hq1, rfl⟩ := forGo_ind (n := 12) (h := fun k => .int k) (b := bN 4) (f := fSq (fSet 5 (f2 oMod (f1 oInt (f2 oAdd (f2 oAdd (f2 oMul (fV 5) (fC (.int 16807))) (f2 oMul (fC (.int 69621)) (fV 4))) (fC (.int 5)))) (fC (.int 2147483629))))
          (fApp 1 (f2 oFdiv (fV 5) (fC (.int 1009))))) (g := [.val (scr ns), .own false (lI ds), .val (.int x), .val (.int r), c, .val (.int ((r * 48271 + 11) % 2147483647))])
          (fun j gg => ∃ (ds : List Int) (c : EV.Slot) (q : Int), Dl (60 * i + j) ds ∧ (0 ≤ q ∧ q < 2147483647) ∧ gg = [.val (scr ns), .own false (lI ds), .val (.int x), .val (.int r), c, .val (.int q)]) (by
            rintro j gg hj ⟨ds, c, q, D, ⟨hq, hq2⟩, rfl⟩
            have hl : ds.length < sizeLine := by have := D.len; omega
            have m1 : cMul q 16807 = true := cMul_ok (by omega) (by omega)
            have m2 : cMul 69621 (j : Int) = true := cMul_ok (by omega) (by omega)
            have b1 := Int.emod_nonneg (q * 16807 + 69621 * j + 5) (show (2147483629 : Int) ≠ 0 by omega)
            have b2 := Int.emod_lt_of_pos (q * 16807 + 69621 * j + 5) (show (0 : Int) < 2147483629 by omega)
            refine ⟨_, ?_, ds ++ [(q * 16807 + 69621 * j + 5) % 2147483629 / 1009], .val (.int j), (q * 16807 + 69621 * j + 5) % 2147483629, D.app (Int.ediv_nonneg b1 (by omega)) (by omega), ⟨b1, by omega⟩, rfl⟩
            simp [m1, m2, c_div, c_pos, hl]) ⟨ds, c, _, D, ⟨b0, b00⟩, rfl⟩
        have m0 : cMul r 48271 = true := cMul_ok (by omega) (by omega)
        refine ⟨_, ?_, ds1, .val (.int x), .val (.int r), c1, .val (.int q1), D1.up (by omega), rfl⟩
        simp [hr, cp, h', o2, e1, m0, c_pos]) ⟨[], .emp, .emp, .emp, .emp, ⟨Nat.le_refl _, fun d hd => (by cases hd)⟩, rfl⟩
  refine ⟨ds.length, fun i => ds.getD i 0, ⟨by have := D.len; omega, fun i hi => ?_, fun i hi => ?_⟩, ?_⟩
  · rw [List.getD_eq_getElem?_getD, List.getElem?_eq_getElem hi]
    exact (D.bd _ (List.getElem_mem hi)).1
  · rw [List.getD_eq_getElem?_getD, List.getElem?_eq_getElem hi]
    exact (D.bd _ (List.getElem_mem hi)).2
  · have hs : oSlS (scr ns) none (some 63) = some (.list (R (min 63 ns.length) fun i => .int (ns.getD i 0))) := by
      show some (PyData.list (cutD (ns.map PyData.int) none (some 63))) = _
      rw [hc]
    simp [e_vF, F__law_draws, b__law_draws, hs] at h1 ⊢
    simp [h1]
    exact map_R
variable {L : Nat} {dr : Nat → Int}
theorem v_more (D : Dr L dr) {p : Nat} (hp : p < 2 ^ 32) : ∃ r : Int, vF F__law_more [.val (lG L dr), .val (.int p)] = some (.int r) ∧ 0 ≤ r := by
  have o1 : okB 3 = true := by decide +kernel
  have hL := D.len
  have m0 : cMul (p : Int) 48271 = true := cMul_ok (by omega) (by omega)
  have c0 := Int.emod_nonneg ((p : Int) * 48271 + L + 11) (show (2147483629 : Int) ≠ 0 by omega)
  have c1 := Int.emod_lt_of_pos ((p : Int) * 48271 + L + 11) (show (0 : Int) < 2147483629 by omega)
  obtain ⟨g', h1, r, b, hr, rfl⟩ := forGo_ind (n := 3) (h := fun k => .int k) (b := bN 3) (f := fSq (fIfS (tV (fV 0)) (fSet 2 (f2 oAdd (fV 2) (f2 oIdx (fV 0) (f2 oMod (f1 oInt (f2 oAdd (f2 oMul (fV 1) (f2 oAdd (fV 3) (fC (.int 5)))) (fV 3))) (f1 oLen (fV 0)))))) fNx)
    (fSet 2 (f2 oMod (f1 oInt (f2 oAdd (f2 oAdd (f2 oMul (fV 2) (fC (.int 16807))) (f2 oMul (fC (.int 69621)) (fV 3))) (fC (.int 5)))) (fC (.int 2147483629))))) (g := [.val (lG L dr), .val (.int p), .val (.int (((p : Int) * 48271 + L + 11) % 2147483629)), .emp])
    (fun j gg => ∃ (r : Int) (b : EV.Slot), (0 ≤ r ∧ r < 2147483629) ∧ gg = [.val (lG L dr), .val (.int p), .val (.int r), b]) (by
      rintro j gg hj ⟨r, b, ⟨hr, hr2⟩, rfl⟩
      have m2 : cMul 69621 (j : Int) = true := cMul_ok (by omega) (by omega)
      by_cases hz : L = 0
      · have m1 : cMul r 16807 = true := cMul_ok (by omega) (by omega)
        have b1 := Int.emod_nonneg (r * 16807 + 69621 * j + 5) (show (2147483629 : Int) ≠ 0 by omega)
        have b2 := Int.emod_lt_of_pos (r * 16807 + 69621 * j + 5) (show (0 : Int) < 2147483629 by omega)
        refine ⟨_, ?_, _, .val (.int j), ⟨b1, b2⟩, rfl⟩
        simp [hz, m1, m2, c_pos]
      · have hk0 := Int.emod_nonneg ((p : Int) * ((j : Int) + 5) + j) (show (L : Int) ≠ 0 by omega)
        have hk1 := Int.emod_lt_of_pos ((p : Int) * ((j : Int) + 5) + j) (show (0 : Int) < L by omega)
        have hix := atI_R' (n := L) (h := fun i => PyData.int (dr i)) hk0 (by omega)
        have d0 := D.lo (((p : Int) * ((j : Int) + 5) + j) % L).toNat (by omega)
        have d1 := D.hi (((p : Int) * ((j : Int) + 5) + j) % L).toNat (by omega)
        have m3 : cMul (p : Int) ((j : Int) + 5) = true := cMul_ok (by omega) (by omega)
        generalize dr (((p : Int) * ((j : Int) + 5) + j) % L).toNat = d at hix d0 d1
        have m1 : cMul (r + d) 16807 = true := cMul_ok (by omega) (by omega)
        have b1 := Int.emod_nonneg ((r + d) * 16807 + 69621 * j + 5) (show (2147483629 : Int) ≠ 0 by omega)
        have b2 := Int.emod_lt_of_pos ((r + d) * 16807 + 69621 * j + 5) (show (0 : Int) < 2147483629 by omega)
        have cl : ∀ x : Int, cPos x (L : Int) = true := fun x => c_pos (by omega)
        refine ⟨_, ?_, _, .val (.int j), ⟨b1, b2⟩, rfl⟩
        simp [hz, m1, m2, m3, c_pos, cl, hix]) ⟨_, .emp, ⟨c0, c1⟩, rfl⟩
  refine ⟨r / 1009, ?_, Int.ediv_nonneg hr.1 (by omega)⟩
  simp [e_vF, F__law_more, b__law_more, m0, c_pos, o1, h1, c_div]
theorem v_take (D : Dr L dr) {p : Nat} (hp : p < 2 ^ 31) {many : Int} (hm : 0 < many) : ∃ r : Int, F__law_take [.val (lG L dr), .own true (.list [.int p]), .val (.int many)] = some (.int r, [.val (lG L dr), .own true (.list [.int ((p + 1 : Nat) : Int)]), .val (.int many), .val (.int p)]) ∧ 0 ≤ r ∧ r < many := by
  have i0 : atI [PyData.int (p : Int)] 0 = some (.int p) := atI_nat (j := 0) rfl
  have x0 : ixN 1 0 = some 0 := rfl
  have cm : ∀ x, cPos x many = true := fun x => c_pos hm
  by_cases h : p < L
  · have i1 := atI_R (n := L) (h := fun i => PyData.int (dr i)) h
    refine ⟨dr p % many, ?_, Int.emod_nonneg _ (by omega), Int.emod_lt_of_pos _ hm⟩
    simp [F__law_take, b__law_take, i0, x0, h, i1, cm]
  · obtain ⟨r, h1, h2⟩ := v_more D (p := p) (by omega)
    refine ⟨r % many, ?_, Int.emod_nonneg _ (by omega), Int.emod_lt_of_pos _ hm⟩
    simp [F__law_take, b__law_take, i0, x0, h, cm, e_call2, h1]
/-- the call of take in a def where the draws stand in slot j and at in slot i -/
theorem c_take (D : Dr L dr) {p : Nat} (hp : p < 2 ^ 31) {many : Int} (hm : 0 < many) {i j : Nat} {π : Bool} {fm : Sf} {g : Sg} (h1 : g[j]? = some (.val (lG L dr))) (h2 : g[i]? = some (.own π (.list [.int p]))) (h3 : fm g = some (.int many, g)) :
    ∃ (r : Int) (q : Nat), fCall F__law_take [] (bCons (fV j) (bRef i (bCons fm bNil))) g = some (.int r, g.set i (.own π (.list [.int q]))) ∧ 0 ≤ r ∧ r < many ∧ q = p + 1 := by
  obtain ⟨r, e, b1, b2⟩ := v_take D hp hm
  refine ⟨r, p + 1, ?_, b1, b2, rfl⟩
  simp [e_fCall, h1, h2, h3, e]
theorem c_takeG (D : Dr L dr) {p : Nat} (hp : p < 2 ^ 31) {many : Int} (hm : 0 < many) {i j : Nat} {π π' : Bool} {d : PyData} {fm : Sf} {g gm : Sg} (h1 : g[j]? = some (.val (lG L dr))) (h2 : g[i]? = some (.own π' d)) (h3 : fm g = some (.int many, gm)) (h4 : gm[i]? = some (.own π (.list [.int p]))) :
    ∃ (r : Int) (q : Nat), fCall F__law_take [] (bCons (fV j) (bRef i (bCons fm bNil))) g = some (.int r, gm.set i (.own π (.list [.int q]))) ∧ 0 ≤ r ∧ r < many ∧ q = p + 1 := by
  obtain ⟨r, e, b1, b2⟩ := v_take D hp hm
  refine ⟨r, p + 1, ?_, b1, b2, rfl⟩
  simp [e_fCall, h1, h2, h3, h4, e]
theorem v_one (D : Dr L dr) {p : Nat} (hp : p < 2 ^ 31) {rows : List PyData} (hr : rows ≠ []) : ∃ d, d ∈ rows ∧ F__law_one [.val (.list rows), .val (lG L dr), .own true (.list [.int p])] = some (d, [.val (.list rows), .val (lG L dr), .own true (.list [.int ((p + 1 : Nat) : Int)])]) := by
  have hl : 0 < rows.length := by cases rows with
    | nil => exact absurd rfl hr
    | cons a b => simp
  obtain ⟨r, e, b1, b2⟩ := v_take D hp (many := rows.length) (by omega)
  have hk : r.toNat < rows.length := by omega
  have hx : atI rows r = some rows[r.toNat] := by
    have := atI_nat (xs := rows) (j := r.toNat) (List.getElem?_eq_getElem hk)
    rwa [Int.toNat_of_nonneg b1] at this
  refine ⟨rows[r.toNat], List.getElem_mem hk, ?_⟩
  simp [F__law_one, b__law_one, e_fCall, e, hx]
theorem c_one (D : Dr L dr) {p : Nat} (hp : p < 2 ^ 31) {rows : List PyData} (hr : rows ≠ []) {i j : Nat} {π : Bool} {fm : Sf} {g : Sg} (h1 : g[j]? = some (.val (lG L dr))) (h2 : g[i]? = some (.own π (.list [.int p]))) (h3 : fm g = some (.list rows, g)) :
    ∃ (d : PyData) (q : Nat), d ∈ rows ∧ fCall F__law_one [] (bCons fm (bCons (fV j) (bRef i bNil))) g = some (d, g.set i (.own π (.list [.int q]))) ∧ q = p + 1 := by
  obtain ⟨d, hd, e⟩ := v_one D hp hr
  refine ⟨d, p + 1, hd, ?_, rfl⟩
  simp [e_fCall, h1, h2, h3, e]
/-! ### the guests -/
abbrev seD (gs : List Gu) : List D := gs.map fun g => .tuple [.int (g.1 : Nat), .int g.2.1]
theorem seat_in {gs : List Gu} {r : Nat} {s : Int} (h : ∀ g ∈ gs, g.1 ≤ 30 ∧ -3 ≤ g.2.1 ∧ g.2.1 ≤ 3) : oNotInP (.tuple [.int (r : Nat), .int s]) (.list (seD gs)) = some (!decide ((r, s) ∈ gs.map fun g => (g.1, g.2.1))) := by
  have h1 : SeqAt.shaped (PyData.tuple [.int (r : Nat), .int s]) = true := shaped_tupI [(r : Int), s]
  have h2 : SeqAt.shaped (PyData.list (seD gs)) = true := (Nice.lst (k := 1) (w := 29) (xs := seD gs) fun x hx => by
    obtain ⟨g, hg, rfl⟩ := List.mem_map.mp hx
    have := h g hg
    exact Nice.tup2 (k := 0) (w := 11) (Nice.nat (by omega)) (Nice.int (by omega))).shaped
  show (if SeqAt.shaped _ = true ∧ SeqAt.shaped _ = true then some (List.any _ _) else none).map not = _
  rw [if_pos ⟨h1, h2⟩, List.any_map]
  show some (!_) = some (!_)
  congr 2
  have key : ∀ g : Gu, PyData.eqv (.tuple [.int (g.1 : Nat), .int g.2.1]) (.tuple [.int (r : Nat), .int s]) = decide ((g.1, g.2.1) = (r, s)) := fun g => by
    simp only [PyData.eqv, PyData.eqvAll, Bool.and_true]
    by_cases e1 : g.1 = r
    · by_cases e2 : g.2.1 = s
      · simp [e1, e2]
      · simp [e1, e2]
    · have : ¬ ((g.1 : Nat) : Int) = (r : Nat) := by omega
      simp [e1, this]
  by_cases hm : (r, s) ∈ gs.map fun g => (g.1, g.2.1)
  · rw [decide_eq_true hm]
    obtain ⟨g, hg, e⟩ := List.mem_map.mp hm
    exact List.any_eq_true.mpr ⟨g, hg, by show PyData.eqv _ _ = true; rw [key, e]; simp⟩
  · rw [decide_eq_false hm]
    refine List.any_eq_false.mpr fun g hg z => hm (List.mem_map.mpr ⟨g, hg, ?_⟩)
    have z : PyData.eqv (.tuple [.int (g.1 : Nat), .int g.2.1]) (.tuple [.int (r : Nat), .int s]) = true := z
    rw [key] at z
    exact of_decide_eq_true z
/-- the guests that are drawn -/
structure QG (n : Nat) (gs : List Gu) : Prop where
  g : GG n gs
  l : gs.length ≤ 10
  n12 : n ≤ 12
  s5 : ∀ g ∈ gs, g.2.2 ≤ 5
variable {L : Nat} {dr : Nat → Int}
theorem v_law_guests (D : Dr L dr) {n p : Nat} (h1 : 1 ≤ n) (h2 : n ≤ 12) (hp : p ≤ 1) : ∃ (gs : List Gu) (p' : Nat) (a4 a5 a6 a7 : EV.Slot), F__law_guests [.val (.int (n : Nat)), .val (.int 10), .val (lG L dr), .own true (.list [.int (p : Nat)])] = some (gsD gs, [.val (.int (n : Nat)), .val (.int 10), .val (lG L dr), .own true (.list [.int (p' : Nat)]), a4, a5, a6, a7]) ∧ QG n gs ∧ p' ≤ 40 := by
  have z0 : 0 ≤ sizeLine := Nat.zero_le _
  have z1 : 1 ≤ sizeLine := z_size (by omega)
  have z2 : 2 ≤ sizeLine := z_size (by omega)
  have z6 : 6 ≤ sizeLine := z_size (by omega)
  obtain ⟨N, p1, e1, n1, n2, hp1⟩ := c_take D (p := p) (many := 11) (by omega) (by omega) (i := 3) (j := 2) (π := true) (fm := f2 oAdd (fV 1) (fC (.int 1))) (g := [.val (.int (n : Nat)), .val (.int 10), .val (lG L dr), .own true (.list [.int (p : Nat)]), .val (.tuple []), .own false (.list []), .emp, .emp]) rfl rfl (by simp)
  obtain ⟨N, rfl⟩ : ∃ M : Nat, N = M := ⟨N.toNat, by omega⟩
  simp only [List.set_cons_succ, List.set_cons_zero] at e1
  obtain ⟨g', e2, gs, p', x6, x7, hl, hok, hnd, hs5, hp', rfl⟩ := forGo_ind (n := N) (h := fun k => .int k) (b := bN 6) (f := (fSq (fSet 7 (fTup (aC (f2 oAdd (fC (.int 1)) (fCall F__law_take [] (bCons (fV 2) (bRef 3 (bCons (fV 0) bNil))))) (aC (fCall F__law_one [] (bCons (fLst (aC (fC (.int 1)) (aC (fC (.int 2)) (aC (fC (.int 3)) (aC (f1 oNeg (fC (.int 1))) (aC (f1 oNeg (fC (.int 2))) (aC (f1 oNeg (fC (.int 3))) aN))))))) (bCons (fV 2) (bRef 3 bNil)))) aN))))
    (fIfS (t2 oNotInP (fV 7) (fR 5)) (fSq (fApp 5 (fV 7))
      (fSet 4 (f2 oCatT (fV 4) (fTup (aC (f2 oCatT (fV 7) (fTup (aC (f2 oAdd (fC (.int 1)) (fCall F__law_take [] (bCons (fV 2) (bRef 3 (bCons (fC (.int 5)) bNil))))) aN))) aN))))) fNx)))
    (g := [.val (.int (n : Nat)), .val (.int 10), .val (lG L dr), .own true (.list [.int (p1 : Nat)]), .val (.tuple []), .own false (.list []), .emp, .emp])
    (fun i gg => ∃ (gs : List Gu) (p' : Nat) (x6 x7 : EV.Slot), gs.length ≤ i ∧ (∀ g ∈ gs, (1 ≤ g.1 ∧ g.1 ≤ n) ∧ (-3 ≤ g.2.1 ∧ g.2.1 ≤ 3 ∧ g.2.1 ≠ 0) ∧ (1 ≤ g.2.2 ∧ g.2.2 ≤ 20)) ∧ (gs.map fun g => (g.1, g.2.1)).Nodup ∧ (∀ g ∈ gs, g.2.2 ≤ 5) ∧ p' ≤ p1 + 3 * i ∧ gg = [.val (.int (n : Nat)), .val (.int 10), .val (lG L dr), .own true (.list [.int (p' : Nat)]), .val (gsD gs), .own false (.list (seD gs)), x6, x7]) (by
      rintro i gg hi ⟨gs, p', x6, x7, hl, hok, hnd, hs5, hp', rfl⟩
      obtain ⟨r, q1, e3, r1, r2, hq1⟩ := c_take D (p := p') (many := n) (by omega) (by omega) (i := 3) (j := 2) (π := true) (fm := fV 0) (g := [.val (.int (n : Nat)), .val (.int 10), .val (lG L dr), .own true (.list [.int (p' : Nat)]), .val (gsD gs), .own false (.list (seD gs)), .val (.int i), x7]) rfl rfl (by simp)
      obtain ⟨r, rfl⟩ : ∃ M : Nat, r = M := ⟨r.toNat, by omega⟩
      obtain ⟨d, q2, hd, e4, hq2⟩ := c_one D (p := q1) (rows := [.int 1, .int 2, .int 3, .int (-1), .int (-2), .int (-3)]) (by omega) (by simp) (i := 3) (j := 2) (π := true) (fm := fLst (aC (fC (.int 1)) (aC (fC (.int 2)) (aC (fC (.int 3)) (aC (f1 oNeg (fC (.int 1))) (aC (f1 oNeg (fC (.int 2))) (aC (f1 oNeg (fC (.int 3))) aN))))))) (g := [.val (.int (n : Nat)), .val (.int 10), .val (lG L dr), .own true (.list [.int (q1 : Nat)]), .val (gsD gs), .own false (.list (seD gs)), .val (.int i), x7]) rfl rfl (by simp [z6])
      have hd2 : ∃ s : Int, d = .int s ∧ -3 ≤ s ∧ s ≤ 3 ∧ s ≠ 0 := by
        simp at hd
        rcases hd with h | h | h | h | h | h
        · exact ⟨_, h, by omega, by omega, by omega⟩
        · exact ⟨_, h, by omega, by omega, by omega⟩
        · exact ⟨_, h, by omega, by omega, by omega⟩
        · exact ⟨_, h, by omega, by omega, by omega⟩
        · exact ⟨_, h, by omega, by omega, by omega⟩
        · exact ⟨_, h, by omega, by omega, by omega⟩
      obtain ⟨s, rfl, s1, s2, s3⟩ := hd2
      have hin := seat_in (gs := gs) (r := r + 1) (s := s) (fun g hg => by have := hok g hg; omega)
      have er : ((r + 1 : Nat) : Int) = 1 + (r : Nat) := by omega
      rw [er] at hin
      simp only [List.set_cons_succ, List.set_cons_zero] at e3 e4
      by_cases hm : (r + 1, s) ∈ gs.map fun g => (g.1, g.2.1)
      · rw [decide_eq_true hm] at hin
        refine ⟨[.val (.int (n : Nat)), .val (.int 10), .val (lG L dr), .own true (.list [.int (q2 : Nat)]), .val (gsD gs), .own false (.list (seD gs)), .val (.int i), .val (.tuple [.int (1 + (r : Nat)), .int s])], ?_, gs, q2, _, _, by omega, hok, hnd, hs5, by omega, rfl⟩
        generalize gsD gs = X at *
        generalize seD gs = Y at *
        simp [e3, e4, z2, hin]
      · rw [decide_eq_false hm] at hin
        obtain ⟨t, q3, e5, t1, t2, hq3⟩ := c_take D (p := q2) (many := 5) (by omega) (by omega) (i := 3) (j := 2) (π := true) (fm := fC (.int 5)) (g := [.val (.int (n : Nat)), .val (.int 10), .val (lG L dr), .own true (.list [.int (q2 : Nat)]), .val (gsD gs), .own false (.list (seD gs ++ [.tuple [.int (1 + (r : Nat)), .int s]])), .val (.int i), .val (.tuple [.int (1 + (r : Nat)), .int s])]) rfl rfl (by simp)
        obtain ⟨t, rfl⟩ : ∃ M : Nat, t = M := ⟨t.toNat, by omega⟩
        simp only [List.set_cons_succ, List.set_cons_zero] at e5
        have c1 : oCatT (.tuple [.int (1 + (r : Nat)), .int s]) (.tuple [.int (1 + (t : Nat))]) = some (.tuple [.int (1 + (r : Nat)), .int s, .int (1 + (t : Nat))]) := o_CatT (z_size (by simp))
        have eG : encG (r + 1, s, t + 1) = .tuple [.int (1 + (r : Nat)), .int s, .int (1 + (t : Nat))] := by
          show PyData.tuple [.int ((r + 1 : Nat) : Int), .int s, .int ((t + 1 : Nat) : Int)] = _
          rw [er, show ((t + 1 : Nat) : Int) = 1 + (t : Nat) by omega]
        have c2 : oCatT (gsD gs) (.tuple [.tuple [.int (1 + (r : Nat)), .int s, .int (1 + (t : Nat))]]) = some (gsD (gs ++ [(r + 1, s, t + 1)])) := by
          show _ = some (PyData.tuple _)
          rw [List.map_append, List.map_cons, List.map_nil, eG]
          exact o_CatT (z_size (by rw [List.length_map]; simp; omega))
        have hse : seD (gs ++ [(r + 1, s, t + 1)]) = seD gs ++ [.tuple [.int (1 + (r : Nat)), .int s]] := by
          show List.map _ _ = _
          rw [List.map_append, ← er]; rfl
        have zl : (seD gs).length < sizeLine := by rw [List.length_map]; have : 100 ≤ sizeLine := z_size (by omega); omega
        refine ⟨[.val (.int (n : Nat)), .val (.int 10), .val (lG L dr), .own true (.list [.int (q3 : Nat)]), .val (gsD (gs ++ [(r + 1, s, t + 1)])), .own false (.list (seD (gs ++ [(r + 1, s, t + 1)]))), .val (.int i), .val (.tuple [.int (1 + (r : Nat)), .int s])], ?_, gs ++ [(r + 1, s, t + 1)], q3, _, _, by rw [List.length_append]; show gs.length + 1 ≤ _; omega, fun g hg => ?_, ?_, fun g hg => ?_, by omega, rfl⟩
        · rw [hse]
          generalize gsD (gs ++ [(r + 1, s, t + 1)]) = X2 at *
          generalize gsD gs = X at *
          generalize seD gs = Y at *
          simp [e3, e4, z2, hin, zl, e5, z1, c1, c2]
        · rcases List.mem_append.mp hg with hg | hg
          · exact hok g hg
          · rw [List.mem_singleton.mp hg]
            exact ⟨⟨by show 1 ≤ r + 1; omega, by show r + 1 ≤ n; omega⟩, ⟨s1, s2, s3⟩, by show 1 ≤ t + 1; omega, by show t + 1 ≤ 20; omega⟩
        · rw [List.map_append, List.nodup_append]
          exact ⟨hnd, List.pairwise_singleton _ _, fun a ha b hb z => hm (by
            have hb : b = (r + 1, s) := List.mem_singleton.mp hb
            rw [← hb, ← z]; exact ha)⟩
        · rcases List.mem_append.mp hg with hg | hg
          · exact hs5 g hg
          · rw [List.mem_singleton.mp hg]; show t + 1 ≤ 5; omega) ⟨[], p1, .emp, .emp, Nat.le_refl _, fun g hg => (by cases hg), List.nodup_nil, fun g hg => (by cases hg), by omega, rfl⟩
  have o1 : okB (N : Int) = true := okB_of (by omega) (by omega)
  refine ⟨gs, p', .val (gsD gs), .own false (.list (seD gs)), x6, x7, ?_, ⟨⟨h1, by omega, by omega, hok, hnd⟩, by omega, h2, hs5⟩, by omega⟩
  generalize gsD gs = X at *
  generalize seD gs = Y at *
  simp [F__law_guests, b__law_guests, z0, e1, o1]
  rw [e2]
  simp
end W

set_option Elab.async false
set_option linter.all false
set_option maxRecDepth 100000
set_option maxHeartbeats 4000000
/-! B1 (k32): the law's statements, 1 to 9. -/
namespace W
open PySem PySem.Spec L2 EV W32
theorem nice_wk {n : Nat} {gs : List Gu} (G : GG n gs) : Nice 3 100000 (.tuple (wkD gs)) := by
  have hE := En_le G
  have : Nice (2 + 1) (24 * (803 + 2) + 3) (.tuple (wkD gs)) := Nice.tupN (by rw [R_len]; exact G.l2) fun x hx => by
    obtain ⟨k, hk, rfl⟩ := List.mem_map.mp hx
    have hk := List.mem_range.mp hk
    have hS : Sg gs k ≤ 1776 := Nat.le_trans (mx_ge hk) hE
    have hM : ∀ j, j < rw' gs k → Mg gs k j ≤ 1776 := fun j hj => by
      have h1 := mn_up (fr := Fq (rw' gs) (wt gs) k) (j := j) (d := rw' gs k - 1 - j)
      rw [show j + (rw' gs k - 1 - j) = rw' gs k - 1 by omega] at h1
      have h2 : Sg gs k = mn (Fq (rw' gs) (wt gs) k) (rw' gs k - 1) + wt gs k := rfl
      have h3 : Mg gs k j = mn (Fq (rw' gs) (wt gs) k) j := rfl
      omega
    have hr : rw' gs k ≤ 30 := (G.r30 _ (gG_mem hk)).2
    have a1 : Nice (0 + 1) (30 * (11 + 2) + 3) (.tuple (EV.R (rw' gs k) fun j => .int (Mg gs k j : Nat))) := Nice.tupN (by rw [R_len]; exact hr) fun y hy => by
      obtain ⟨j, hj, rfl⟩ := List.mem_map.mp hy
      have := hM j (List.mem_range.mp hj)
      exact Nice.nat (by omega)
    exact (Nice.tup2 (k := 1) (w := 393) a1 ((Nice.nat (by omega)).up)).up
  exact this.up
theorem ne_wk {n : Nat} {gs : List Gu} (G : GG n gs) : oNeD (.tuple (wkD gs)) (.tuple (wkD gs)) = some false := (nice_wk G).ne
theorem ne_st {gs : List Gu} : oNeD (stD gs) (stD gs) = some false := ne_same (shaped_R (f := fun k => ((stn (gs.take k) (gG gs k) : Nat) : Int)))
theorem wkD_at {gs : List Gu} {k : Nat} (h : k < gs.length) : atI (wkD gs) (k : Int) = some (wkE gs k) := atI_R h
theorem dlD_at {gs : List Gu} {k : Nat} (h : k < gs.length) : oIdx (dlD gs) (.int (k : Nat)) = some (.int (dl gs k)) := by rw [o_IdxT, atI_R h]
theorem gsD_at {gs : List Gu} {k : Nat} (h : k < gs.length) : oIdx (gsD gs) (.int (k : Nat)) = some (encG (gG gs k)) := by rw [o_IdxT, gs_R, atI_R h]
theorem gsD_len {gs : List Gu} : oLen (gsD gs) = some (.int (gs.length : Nat)) := by show some (PyData.int ((gs.map encG).length : Nat)) = _; rw [List.length_map]
theorem gsD_take {gs : List Gu} {m : Nat} (h : m ≤ gs.length) : oSlT (gsD gs) none (some (m : Int)) = some (gsD (gs.take m)) := by
  rw [o_SlT, cut_take (by rw [List.length_map]; exact h), ← List.map_take]
theorem gsD_drop {gs : List Gu} {m : Nat} (h : m ≤ gs.length) : oSlT (gsD gs) (some (m : Int)) none = some (gsD (gs.drop m)) := by
  rw [o_SlT, cut_drop (by rw [List.length_map]; exact h), ← List.map_drop]
variable {L : Nat} {dr : Nat → Int} {ns : List Int} {n p3 p4 : Nat} {gs : List Gu}
theorem oNe_ii {i j : Int} : oNe (.int i) (.int j) = some (!decide (i = j)) := rfl
theorem u1 (ns : List Int) : ∃ L dr, law_1 [.val (scr ns), .emp, .emp, .emp, .emp, .emp, .emp, .emp, .emp, .emp, .emp, .emp, .emp, .emp, .emp, .emp, .emp, .emp, .emp, .emp, .emp, .emp, .emp, .emp, .emp, .emp, .emp] = some (.nx [.val (scr ns), .val (lG L dr), .emp, .emp, .emp, .emp, .emp, .emp, .emp, .emp, .emp, .emp, .emp, .emp, .emp, .emp, .emp, .emp, .emp, .emp, .emp, .emp, .emp, .emp, .emp, .emp, .emp]) ∧ Dr L dr := by
  obtain ⟨L, dr, D, e⟩ := v_draws ns
  refine ⟨L, dr, ?_, D⟩
  unfold law_1
  simp [e_call1, e]
theorem u2  : law_2 [.val (scr ns), .val (lG L dr), .emp, .emp, .emp, .emp, .emp, .emp, .emp, .emp, .emp, .emp, .emp, .emp, .emp, .emp, .emp, .emp, .emp, .emp, .emp, .emp, .emp, .emp, .emp, .emp, .emp] = some (.nx [.val (scr ns), .val (lG L dr), .own false (.list [.int 0]), .emp, .emp, .emp, .emp, .emp, .emp, .emp, .emp, .emp, .emp, .emp, .emp, .emp, .emp, .emp, .emp, .emp, .emp, .emp, .emp, .emp, .emp, .emp, .emp]) := by
  have z1 : 1 ≤ sizeLine := z_size (by omega)
  unfold law_2
  simp [z1]
theorem u3 (D : Dr L dr) : ∃ (n p3 : Nat), law_3 [.val (scr ns), .val (lG L dr), .own false (.list [.int 0]), .emp, .emp, .emp, .emp, .emp, .emp, .emp, .emp, .emp, .emp, .emp, .emp, .emp, .emp, .emp, .emp, .emp, .emp, .emp, .emp, .emp, .emp, .emp, .emp] = some (.nx [.val (scr ns), .val (lG L dr), .own false (.list [.int (p3 : Nat)]), .val (.int (n : Nat)), .emp, .emp, .emp, .emp, .emp, .emp, .emp, .emp, .emp, .emp, .emp, .emp, .emp, .emp, .emp, .emp, .emp, .emp, .emp, .emp, .emp, .emp, .emp]) ∧ 1 ≤ n ∧ n ≤ 12 ∧ p3 ≤ 1 := by
  obtain ⟨r, q, e, r0, r1, hq⟩ := c_take D (p := 0) (many := 12) (by omega) (by omega) (i := 2) (j := 1) (π := false) (fm := fC (.int 12)) (g := [.val (scr ns), .val (lG L dr), .own false (.list [.int 0]), .emp, .emp, .emp, .emp, .emp, .emp, .emp, .emp, .emp, .emp, .emp, .emp, .emp, .emp, .emp, .emp, .emp, .emp, .emp, .emp, .emp, .emp, .emp, .emp]) rfl rfl rfl
  obtain ⟨r, rfl⟩ : ∃ N : Nat, r = N := ⟨r.toNat, by omega⟩
  refine ⟨r + 1, q, ?_, by omega, by omega, by omega⟩
  unfold law_3
  simp only [List.set_cons_succ, List.set_cons_zero] at e
  simp [e, Int.add_comm]
theorem u4 (D : Dr L dr) (h1 : 1 ≤ n) (h2 : n ≤ 12) (hp : p3 ≤ 1) : ∃ (gs : List Gu) (p4 : Nat), law_4 [.val (scr ns), .val (lG L dr), .own false (.list [.int (p3 : Nat)]), .val (.int (n : Nat)), .emp, .emp, .emp, .emp, .emp, .emp, .emp, .emp, .emp, .emp, .emp, .emp, .emp, .emp, .emp, .emp, .emp, .emp, .emp, .emp, .emp, .emp, .emp] = some (.nx [.val (scr ns), .val (lG L dr), .own false (.list [.int (p4 : Nat)]), .val (.int (n : Nat)), .val (gsD gs), .emp, .emp, .emp, .emp, .emp, .emp, .emp, .emp, .emp, .emp, .emp, .emp, .emp, .emp, .emp, .emp, .emp, .emp, .emp, .emp, .emp, .emp]) ∧ QG n gs ∧ p4 ≤ 40 := by
  obtain ⟨gs, p', a4, a5, a6, a7, e, Q, hp'⟩ := v_law_guests D h1 h2 hp
  refine ⟨gs, p', ?_, Q, hp'⟩
  unfold law_4
  generalize gsD gs = X at *
  simp [e_fCall, e]
theorem u5 (Q : QG n gs) : law_5 [.val (scr ns), .val (lG L dr), .own false (.list [.int (p4 : Nat)]), .val (.int (n : Nat)), .val (gsD gs), .emp, .emp, .emp, .emp, .emp, .emp, .emp, .emp, .emp, .emp, .emp, .emp, .emp, .emp, .emp, .emp, .emp, .emp, .emp, .emp, .emp, .emp] = some (.nx [.val (scr ns), .val (lG L dr), .own false (.list [.int (p4 : Nat)]), .val (.int (n : Nat)), .val (gsD gs), .val (.tuple (wkD gs)), .val (dlD gs), .emp, .emp, .emp, .emp, .emp, .emp, .emp, .emp, .emp, .emp, .emp, .emp, .emp, .emp, .emp, .emp, .emp, .emp, .emp, .emp]) := by
  have e1 := v_walks Q.g
  have e2 := v_delays Q.g
  have z2 : 2 ≤ sizeLine := z_size (by omega)
  unfold law_5
  generalize wkD gs = W at *
  generalize dlD gs = DD at *
  generalize gsD gs = X at *
  simp [e_call2, e1, e2, z2]
theorem u6 (Q : QG n gs) : law_6 [.val (scr ns), .val (lG L dr), .own false (.list [.int (p4 : Nat)]), .val (.int (n : Nat)), .val (gsD gs), .val (.tuple (wkD gs)), .val (dlD gs), .emp, .emp, .emp, .emp, .emp, .emp, .emp, .emp, .emp, .emp, .emp, .emp, .emp, .emp, .emp, .emp, .emp, .emp, .emp, .emp] = some (.nx [.val (scr ns), .val (lG L dr), .own false (.list [.int (p4 : Nat)]), .val (.int (n : Nat)), .val (gsD gs), .val (.tuple (wkD gs)), .val (dlD gs), .val (gsD (mir gs)), .emp, .emp, .emp, .emp, .emp, .emp, .emp, .emp, .emp, .emp, .emp, .emp, .emp, .emp, .emp, .emp, .emp, .emp, .emp]) := by
  have z3 : 3 ≤ sizeLine := z_size (by omega)
  have hl := Q.l
  have a1 := fLc_l (e := fun g : Gu => encG (g.1, 0 - g.2.1, g.2.2)) (it := (iSeq (fV 4))) (b := (bT (bLen 3 (bsC (bN 8) (bsC (bN 9) (bsC (bN 10) bsN)))))) (tt := tY) (te := (fTup (aC (fV 8) (aC (f2 oSub (fC (.int 0)) (fV 9)) (aC (fV 10) aN))))) (vs := [8, 9, 10]) (g := [.val (scr ns), .val (lG L dr), .own false (.list [.int (p4 : Nat)]), .val (.int (n : Nat)), .val (gsD gs), .val (.tuple (wkD gs)), .val (dlD gs), .emp, .emp, .emp, .emp, .emp, .emp, .emp, .emp, .emp, .emp, .emp, .emp, .emp, .emp, .emp, .emp, .emp, .emp, .emp, .emp]) encG (xs := gs) (by simp) rfl (z_size (by omega)) (fun g hg => by
    generalize wkD gs = W at *
    generalize dlD gs = DD at *
    simp [trn, wipeG, z3])
  have b1 : gsD (mir gs) = .tuple (gs.map fun g => encG (g.1, 0 - g.2.1, g.2.2)) := congrArg PyData.tuple (List.map_map ..)
  unfold law_6
  rw [b1]
  generalize (gs.map fun g => encG (g.1, 0 - g.2.1, g.2.2)) = U at *
  generalize wkD gs = W at *
  generalize dlD gs = DD at *
  simp [-e_fLc, a1]
theorem u7 (Q : QG n gs) : law_7 [.val (scr ns), .val (lG L dr), .own false (.list [.int (p4 : Nat)]), .val (.int (n : Nat)), .val (gsD gs), .val (.tuple (wkD gs)), .val (dlD gs), .val (gsD (mir gs)), .emp, .emp, .emp, .emp, .emp, .emp, .emp, .emp, .emp, .emp, .emp, .emp, .emp, .emp, .emp, .emp, .emp, .emp, .emp] = some (.nx [.val (scr ns), .val (lG L dr), .own false (.list [.int (p4 : Nat)]), .val (.int (n : Nat)), .val (gsD gs), .val (.tuple (wkD gs)), .val (dlD gs), .val (gsD (mir gs)), .emp, .emp, .emp, .emp, .emp, .emp, .emp, .emp, .emp, .emp, .emp, .emp, .emp, .emp, .emp, .emp, .emp, .emp, .emp]) := by
  have hn := Q.n12
  have e1 := v_walks Q.g.mir
  have e2 := v_stands Q.g.mir
  have e3 := v_stands Q.g
  have e4 := v_walks (Q.g.up (by omega))
  rw [mir_wk] at e1
  rw [mir_st] at e2
  have r1 := (nice_wk Q.g).repr
  have r2 := ne_wk Q.g
  have r3 := ne_st (gs := gs)
  unfold law_7
  have ec : ((n + 1 : Nat) : Int) = (n : Int) + 1 := by omega
  rw [ec] at e4
  generalize (PyData.tuple (wkD gs)) = W at *
  generalize dlD gs = DD at *
  generalize stD gs = SS at *
  generalize gsD (mir gs) = Y at *
  generalize gsD gs = X at *
  simp [e_call2, e1, e2, e3, e4, r1, r2, r3, rp_ne]
theorem u8 (Q : QG n gs) : law_8 [.val (scr ns), .val (lG L dr), .own false (.list [.int (p4 : Nat)]), .val (.int (n : Nat)), .val (gsD gs), .val (.tuple (wkD gs)), .val (dlD gs), .val (gsD (mir gs)), .emp, .emp, .emp, .emp, .emp, .emp, .emp, .emp, .emp, .emp, .emp, .emp, .emp, .emp, .emp, .emp, .emp, .emp, .emp] = some (.nx [.val (scr ns), .val (lG L dr), .own false (.list [.int (p4 : Nat)]), .val (.int (n : Nat)), .val (gsD gs), .val (.tuple (wkD gs)), .val (dlD gs), .val (gsD (mir gs)), .emp, .emp, .emp, .emp, .emp, .emp, .emp, .emp, .emp, .emp, .emp, .emp, .emp, .emp, .emp, .emp, .emp, .emp, .emp]) := by
  have hl := Q.l
  have z1 : 1 ≤ sizeLine := z_size (by omega)
  have e1 := v_end Q.g
  have a1 := fLc_map (n := gs.length) (h := fun k => wkE gs k) (f := fun k => .int (Sg gs k : Nat)) (it := iSeq (fV 5)) (b := bT (bLen 2 (bsC (bN 11) (bsC (bN 12) bsN)))) (tt := tY) (te := fV 12) (vs := [11, 12]) (g := [.val (scr ns), .val (lG L dr), .own false (.list [.int (p4 : Nat)]), .val (.int (n : Nat)), .val (gsD gs), .val (.tuple (wkD gs)), .val (dlD gs), .val (gsD (mir gs)), .emp, .emp, .emp, .emp, .emp, .emp, .emp, .emp, .emp, .emp, .emp, .emp, .emp, .emp, .emp, .emp, .emp, .emp, .emp]) (by simp) rfl (z_size (by omega)) (fun k hk => by
    generalize wkD gs = W at *
    generalize dlD gs = DD at *
    generalize gsD (mir gs) = Y at *
    generalize gsD gs = X at *
    simp [trn, wipeG])
  have hc : oCatL (.list [.int 0]) (.list (EV.R gs.length fun k => .int (Sg gs k : Nat))) = some (.list ([.int 0] ++ EV.R gs.length fun k => .int (Sg gs k : Nat))) := o_CatL (z_size (by rw [R_len]; simp; omega))
  have hm := oMax_mx (f := Sg gs) (m := gs.length)
  generalize ([PyData.int 0] ++ EV.R gs.length fun k => PyData.int (Sg gs k : Nat)) = LL at *
  simp only [oMax] at hm
  have a2 := fLc_no (n := gs.length) (h := fun k => .int (dl gs k)) (it := iSeq (fV 6)) (b := bN 13) (tt := t2 pbLt (fV 13) (fC (.int 0))) (te := fV 13) (vs := [13]) (g := [.val (scr ns), .val (lG L dr), .own false (.list [.int (p4 : Nat)]), .val (.int (n : Nat)), .val (gsD gs), .val (.tuple (wkD gs)), .val (dlD gs), .val (gsD (mir gs)), .emp, .emp, .emp, .emp, .emp, .emp, .emp, .emp, .emp, .emp, .emp, .emp, .emp, .emp, .emp, .emp, .emp, .emp, .emp]) (by simp) rfl (z_size (by omega)) (fun k hk => by
    have := dl_nn (gs := gs) (k := k) (Q.g.r30 _ (gG_mem hk)).1
    have h0 : ¬ dl gs k < 0 := by omega
    generalize dl gs k = dk at *
    generalize wkD gs = W at *
    generalize dlD gs = DD at *
    generalize gsD (mir gs) = Y at *
    generalize gsD gs = X at *
    simp [trn, wipeG]
    omega)
  unfold law_8
  generalize wkD gs = W at *
  generalize dlD gs = DD at *
  generalize gsD (mir gs) = Y at *
  generalize gsD gs = X at *
  simp [e_call2, e1, a1, a2, -e_fLc, hc, hm, z1, oNe_ii]
theorem u9 (Q : QG n gs) : ∃ (x11 x12 x14 : EV.Slot), law_9 [.val (scr ns), .val (lG L dr), .own false (.list [.int (p4 : Nat)]), .val (.int (n : Nat)), .val (gsD gs), .val (.tuple (wkD gs)), .val (dlD gs), .val (gsD (mir gs)), .emp, .emp, .emp, .emp, .emp, .emp, .emp, .emp, .emp, .emp, .emp, .emp, .emp, .emp, .emp, .emp, .emp, .emp, .emp] = some (.nx [.val (scr ns), .val (lG L dr), .own false (.list [.int (p4 : Nat)]), .val (.int (n : Nat)), .val (gsD gs), .val (.tuple (wkD gs)), .val (dlD gs), .val (gsD (mir gs)), .emp, .emp, .emp, x11, x12, .emp, x14, .emp, .emp, .emp, .emp, .emp, .emp, .emp, .emp, .emp, .emp, .emp, .emp]) ∧ Vl x11 ∧ Vl x12 ∧ Vl x14 := by
  have hl := Q.l
  have z1 : 1 ≤ sizeLine := z_size (by omega)
  have o0 : okB ((gs.length : Nat) : Int) = true := okB_of (by omega) (by omega)
  obtain ⟨g', e1, x11, x12, x14, v11, v12, v14, rfl⟩ := forGo_ind (n := gs.length) (h := fun k => .int k) (b := bN 14) (f := (fSq (fIfS (t2 oNeD (fCall F_walks [] (bCons (fV 3) (bCons (fSl oSlT (fV 4) sN (sE (f2 oAdd (fV 14) (fC (.int 1))))) bNil))) (fSl oSlT (fV 5) sN (sE (f2 oAdd (fV 14) (fC (.int 1)))))) (fRet (fC (.bool false))) fNx) (fSq (fAsg (f2 oIdx (fV 5) (fV 14)) (bT (bLen 2 (bsC (bN 11) (bsC (bN 12) bsN))))) (fSq (fIfS (tOrD (tV (fLc (iRng2 (aC (fC (.int 1)) (aC (f1 oLen (fV 11)) aN))) (bN 15) (t2 pbLe (f2 oIdx (fV 11) (fV 15)) (f2 oIdx (fV 11) (f2 oSub (fV 15) (fC (.int 1))))) (fV 15) [15])) (tOrD (t2 pbLt (fV 12) (f2 oAdd (f2 oIdx (fV 11) (f1 oNeg (fC (.int 1)))) (f2 oIdx (f2 oIdx (fV 4) (fV 14)) (fC (.int 2))))) (t2 oNe (f1 oLen (fV 11)) (f2 oIdx (f2 oIdx (fV 4) (fV 14)) (fC (.int 0)))))) (fRet (fC (.bool false))) fNx) (fIfS (tOrD (t2 oNe (f2 oSub (fV 12) (f2 oIdx (fV 6) (fV 14))) (f2 oAdd (f2 oSub (f2 oIdx (f2 oIdx (fV 4) (fV 14)) (fC (.int 0))) (fC (.int 1))) (f2 oIdx (f2 oIdx (fV 4) (fV 14)) (fC (.int 2))))) (t2 oNeD (fCall F_delays [] (bCons (fV 3) (bCons (fSl oSlT (fV 4) (sE (fV 14)) (sE (f2 oAdd (fV 14) (fC (.int 1))))) bNil))) (fTup (aC (fC (.int 0)) aN)))) (fRet (fC (.bool false))) fNx))))) (g := [.val (scr ns), .val (lG L dr), .own false (.list [.int (p4 : Nat)]), .val (.int (n : Nat)), .val (gsD gs), .val (.tuple (wkD gs)), .val (dlD gs), .val (gsD (mir gs)), .emp, .emp, .emp, .emp, .emp, .emp, .emp, .emp, .emp, .emp, .emp, .emp, .emp, .emp, .emp, .emp, .emp, .emp, .emp]) (fun _ gg => ∃ x11 x12 x14 : EV.Slot, Vl x11 ∧ Vl x12 ∧ Vl x14 ∧ gg = [.val (scr ns), .val (lG L dr), .own false (.list [.int (p4 : Nat)]), .val (.int (n : Nat)), .val (gsD gs), .val (.tuple (wkD gs)), .val (dlD gs), .val (gsD (mir gs)), .emp, .emp, .emp, x11, x12, .emp, x14, .emp, .emp, .emp, .emp, .emp, .emp, .emp, .emp, .emp, .emp, .emp, .emp]) (by
    rintro k gg hk ⟨x11, x12, x14, v11, v12, v14, rfl⟩
    have hr := Q.g.r30 _ (gG_mem hk)
    have eW : wkE gs k = .tuple [.tuple (EV.R (rw' gs k) fun j => .int (Mg gs k j : Nat)), .int (Sg gs k : Nat)] := rfl
    have eG : encG (gG gs k) = .tuple [.int (rw' gs k : Nat), .int (gG gs k).2.1, .int ((gG gs k).2.2 : Nat)] := rfl
    have s1 : (fIfS (t2 oNeD (fCall F_walks [] (bCons (fV 3) (bCons (fSl oSlT (fV 4) sN (sE (f2 oAdd (fV 14) (fC (.int 1))))) bNil))) (fSl oSlT (fV 5) sN (sE (f2 oAdd (fV 14) (fC (.int 1)))))) (fRet (fC (.bool false))) fNx) [.val (scr ns), .val (lG L dr), .own false (.list [.int (p4 : Nat)]), .val (.int (n : Nat)), .val (gsD gs), .val (.tuple (wkD gs)), .val (dlD gs), .val (gsD (mir gs)), .emp, .emp, .emp, x11, x12, .emp, .val (.int (k : Nat)), .emp, .emp, .emp, .emp, .emp, .emp, .emp, .emp, .emp, .emp, .emp, .emp] = some (.nx [.val (scr ns), .val (lG L dr), .own false (.list [.int (p4 : Nat)]), .val (.int (n : Nat)), .val (gsD gs), .val (.tuple (wkD gs)), .val (dlD gs), .val (gsD (mir gs)), .emp, .emp, .emp, x11, x12, .emp, .val (.int (k : Nat)), .emp, .emp, .emp, .emp, .emp, .emp, .emp, .emp, .emp, .emp, .emp, .emp]) := by
      have d1 := v_walks (Q.g.sub (List.take_sublist (k + 1) gs))
      have d2 := ne_wk (Q.g.sub (List.take_sublist (k + 1) gs))
      rw [take_wk (by omega)] at d1 d2
      have ec : ((k + 1 : Nat) : Int) = (k : Int) + 1 := by omega
      have c1 := gsD_take (gs := gs) (m := k + 1) (by omega)
      have c2 : cutD (wkD gs) none (some ((k + 1 : Nat) : Int)) = (wkD gs).take (k + 1) := cut_take (by rw [R_len]; omega)
      rw [ec] at c1 c2
      generalize (wkD gs).take (k + 1) = W2 at *
      generalize wkD gs = W at *
      generalize dlD gs = DD at *
      generalize gsD (mir gs) = Y at *
      generalize gsD (gs.take (k + 1)) = X2 at *
      generalize gsD gs = X at *
      simp [c1, e_call2, d1, c2, d2]
    have s2 : (fAsg (f2 oIdx (fV 5) (fV 14)) (bT (bLen 2 (bsC (bN 11) (bsC (bN 12) bsN))))) [.val (scr ns), .val (lG L dr), .own false (.list [.int (p4 : Nat)]), .val (.int (n : Nat)), .val (gsD gs), .val (.tuple (wkD gs)), .val (dlD gs), .val (gsD (mir gs)), .emp, .emp, .emp, x11, x12, .emp, .val (.int (k : Nat)), .emp, .emp, .emp, .emp, .emp, .emp, .emp, .emp, .emp, .emp, .emp, .emp] = some (.nx [.val (scr ns), .val (lG L dr), .own false (.list [.int (p4 : Nat)]), .val (.int (n : Nat)), .val (gsD gs), .val (.tuple (wkD gs)), .val (dlD gs), .val (gsD (mir gs)), .emp, .emp, .emp, .val (.tuple (EV.R (rw' gs k) fun j => .int (Mg gs k j : Nat))), .val (.int (Sg gs k : Nat)), .emp, .val (.int (k : Nat)), .emp, .emp, .emp, .emp, .emp, .emp, .emp, .emp, .emp, .emp, .emp, .emp]) := by
      have ix := wkD_at hk
      rw [eW] at ix
      generalize (EV.R (rw' gs k) fun j => PyData.int (Mg gs k j : Nat)) = M at *
      generalize wkD gs = W at *
      generalize dlD gs = DD at *
      generalize gsD (mir gs) = Y at *
      generalize gsD gs = X at *
      simp [ix]
    have s3 : (fIfS (tOrD (tV (fLc (iRng2 (aC (fC (.int 1)) (aC (f1 oLen (fV 11)) aN))) (bN 15) (t2 pbLe (f2 oIdx (fV 11) (fV 15)) (f2 oIdx (fV 11) (f2 oSub (fV 15) (fC (.int 1))))) (fV 15) [15])) (tOrD (t2 pbLt (fV 12) (f2 oAdd (f2 oIdx (fV 11) (f1 oNeg (fC (.int 1)))) (f2 oIdx (f2 oIdx (fV 4) (fV 14)) (fC (.int 2))))) (t2 oNe (f1 oLen (fV 11)) (f2 oIdx (f2 oIdx (fV 4) (fV 14)) (fC (.int 0)))))) (fRet (fC (.bool false))) fNx) [.val (scr ns), .val (lG L dr), .own false (.list [.int (p4 : Nat)]), .val (.int (n : Nat)), .val (gsD gs), .val (.tuple (wkD gs)), .val (dlD gs), .val (gsD (mir gs)), .emp, .emp, .emp, .val (.tuple (EV.R (rw' gs k) fun j => .int (Mg gs k j : Nat))), .val (.int (Sg gs k : Nat)), .emp, .val (.int (k : Nat)), .emp, .emp, .emp, .emp, .emp, .emp, .emp, .emp, .emp, .emp, .emp, .emp] = some (.nx [.val (scr ns), .val (lG L dr), .own false (.list [.int (p4 : Nat)]), .val (.int (n : Nat)), .val (gsD gs), .val (.tuple (wkD gs)), .val (dlD gs), .val (gsD (mir gs)), .emp, .emp, .emp, .val (.tuple (EV.R (rw' gs k) fun j => .int (Mg gs k j : Nat))), .val (.int (Sg gs k : Nat)), .emp, .val (.int (k : Nat)), .emp, .emp, .emp, .emp, .emp, .emp, .emp, .emp, .emp, .emp, .emp, .emp]) := by
      have o1 : okB 1 = true := by decide +kernel
      have o2 : okB ((rw' gs k : Nat) : Int) = true := okB_of (by omega) (by have : rw' gs k ≤ 30 := hr.2; omega)
      have c1 : (((rw' gs k : Nat) : Int) - 1).toNat = rw' gs k - 1 := by omega
      have hlen : (EV.R (rw' gs k) fun j => PyData.int (Mg gs k j : Nat)).length = rw' gs k := R_len
      have hr1 : 1 ≤ rw' gs k := hr.1
      have hm1 : atI (EV.R (rw' gs k) fun j => PyData.int (Mg gs k j : Nat)) (-1) = some (.int (Mg gs k (rw' gs k - 1) : Nat)) := R_m1 (f := fun j => PyData.int (Mg gs k j : Nat)) hr1
      have a1 := fLc_no (n := rw' gs k - 1) (h := fun i => .int ((1 : Int) + (i : Nat) * 1)) (it := (iRng2 (aC (fC (.int 1)) (aC (f1 oLen (fV 11)) aN)))) (b := bN 15) (tt := (t2 pbLe (f2 oIdx (fV 11) (fV 15)) (f2 oIdx (fV 11) (f2 oSub (fV 15) (fC (.int 1)))))) (te := fV 15) (vs := [15]) (g := [.val (scr ns), .val (lG L dr), .own false (.list [.int (p4 : Nat)]), .val (.int (n : Nat)), .val (gsD gs), .val (.tuple (wkD gs)), .val (dlD gs), .val (gsD (mir gs)), .emp, .emp, .emp, .val (.tuple (EV.R (rw' gs k) fun j => .int (Mg gs k j : Nat))), .val (.int (Sg gs k : Nat)), .emp, .val (.int (k : Nat)), .emp, .emp, .emp, .emp, .emp, .emp, .emp, .emp, .emp, .emp, .emp, .emp]) (by
        generalize wkD gs = W at *
        generalize dlD gs = DD at *
        generalize gsD (mir gs) = Y at *
        generalize gsD gs = X at *
        simp [o1, o2, c1, hlen, rngD_R]) rfl (by have : 30 ≤ sizeLine := z_size (by omega); have : rw' gs k ≤ 30 := hr.2; omega) (fun i hi => by
        have i1 : atI (EV.R (rw' gs k) fun j => PyData.int (Mg gs k j : Nat)) ((i + 1 : Nat) : Int) = some (.int (Mg gs k (i + 1) : Nat)) := atI_R (by omega)
        have i2 : atI (EV.R (rw' gs k) fun j => PyData.int (Mg gs k j : Nat)) (i : Int) = some (.int (Mg gs k i : Nat)) := atI_R (by omega)
        have hlt := Mg_lt (gs := gs) (k := k) (j := i)
        have ek : (1 : Int) + (i : Nat) * 1 = ((i + 1 : Nat) : Int) := by omega
        have ek2 : ((i + 1 : Nat) : Int) - 1 = (i : Int) := by omega
        have hn : ¬ ((Mg gs k (i + 1) : Nat) : Int) ≤ (Mg gs k i : Nat) := by omega
        rw [ek]
        generalize ((i + 1 : Nat) : Int) = K at *
        generalize Mg gs k (i + 1) = m1 at *
        generalize Mg gs k i = m2 at *
        generalize (EV.R (rw' gs k) fun j => PyData.int (Mg gs k j : Nat)) = M at *
        generalize wkD gs = W at *
        generalize dlD gs = DD at *
        generalize gsD (mir gs) = Y at *
        generalize gsD gs = X at *
        simp [trn, wipeG, i1, ek2, i2]
        omega)
      have ix := gsD_at hk
      rw [eG] at ix
      have hS := Sg_eq (gs := gs) (k := k)
      have hw := wt_ge (gs := gs) (k := k)
      have hn : ¬ ((Sg gs k : Nat) : Int) < ((Mg gs k (rw' gs k - 1) : Nat) : Int) + ((gG gs k).2.2 : Nat) := by omega
      generalize Mg gs k (rw' gs k - 1) = mm at *
      generalize (EV.R (rw' gs k) fun j => PyData.int (Mg gs k j : Nat)) = M at *
      generalize wkD gs = W at *
      generalize dlD gs = DD at *
      generalize gsD (mir gs) = Y at *
      generalize gsD gs = X at *
      generalize Sg gs k = S at *
      simp [a1, -e_fLc, hm1, ix, ix3_2, ix3_0, hlen, hn, oNe_ii]
    have s4 : (fIfS (tOrD (t2 oNe (f2 oSub (fV 12) (f2 oIdx (fV 6) (fV 14))) (f2 oAdd (f2 oSub (f2 oIdx (f2 oIdx (fV 4) (fV 14)) (fC (.int 0))) (fC (.int 1))) (f2 oIdx (f2 oIdx (fV 4) (fV 14)) (fC (.int 2))))) (t2 oNeD (fCall F_delays [] (bCons (fV 3) (bCons (fSl oSlT (fV 4) (sE (fV 14)) (sE (f2 oAdd (fV 14) (fC (.int 1))))) bNil))) (fTup (aC (fC (.int 0)) aN)))) (fRet (fC (.bool false))) fNx) [.val (scr ns), .val (lG L dr), .own false (.list [.int (p4 : Nat)]), .val (.int (n : Nat)), .val (gsD gs), .val (.tuple (wkD gs)), .val (dlD gs), .val (gsD (mir gs)), .emp, .emp, .emp, .val (.tuple (EV.R (rw' gs k) fun j => .int (Mg gs k j : Nat))), .val (.int (Sg gs k : Nat)), .emp, .val (.int (k : Nat)), .emp, .emp, .emp, .emp, .emp, .emp, .emp, .emp, .emp, .emp, .emp, .emp] = some (.nx [.val (scr ns), .val (lG L dr), .own false (.list [.int (p4 : Nat)]), .val (.int (n : Nat)), .val (gsD gs), .val (.tuple (wkD gs)), .val (dlD gs), .val (gsD (mir gs)), .emp, .emp, .emp, .val (.tuple (EV.R (rw' gs k) fun j => .int (Mg gs k j : Nat))), .val (.int (Sg gs k : Nat)), .emp, .val (.int (k : Nat)), .emp, .emp, .emp, .emp, .emp, .emp, .emp, .emp, .emp, .emp, .emp, .emp]) := by
      have ix := gsD_at hk
      rw [eG] at ix
      have iD := dlD_at hk
      have d1 := v_delays (Q.g.sub ((List.take_sublist 1 (gs.drop k)).trans (List.drop_sublist k gs)))
      rw [one_at hk] at d1
      have e0 : dlD [gG gs k] = .tuple [.int 0] := by
        show PyData.tuple [.int (dl [gG gs k] 0)] = _
        rw [dl_one hr.1]
      rw [e0] at d1
      have n0 : oNeD (.tuple [.int 0]) (.tuple [.int 0]) = some false := by decide +kernel
      have ec : ((k + 1 : Nat) : Int) = (k : Int) + 1 := by omega
      have c1 : oSlT (gsD gs) (some (k : Int)) (some ((k : Int) + 1)) = some (gsD [gG gs k]) := by
        rw [o_SlT, ← ec, cut_mid (by rw [List.length_map]; omega) (by rw [List.length_map]; omega), show k + 1 - k = 1 by omega, ← List.map_drop, ← List.map_take, one_at hk]
      have hdl : dl gs k = (Sg gs k : Int) - (((rw' gs k : Nat) : Int) - 1 + ((gG gs k).2.2 : Nat)) := rfl
      have hdq : (Sg gs k : Int) - dl gs k = ((rw' gs k : Nat) : Int) - 1 + ((gG gs k).2.2 : Nat) := by omega
      generalize (EV.R (rw' gs k) fun j => PyData.int (Mg gs k j : Nat)) = M at *
      generalize wkD gs = W at *
      generalize dlD gs = DD at *
      generalize gsD (mir gs) = Y at *
      generalize gsD [gG gs k] = X2 at *
      generalize gsD gs = X at *
      generalize Sg gs k = S at *
      generalize dl gs k = dk at *
      simp [ix, iD, ix3_0, ix3_2, c1, e_call2, d1, n0, z1, oNe_ii, hdq]
    refine ⟨[.val (scr ns), .val (lG L dr), .own false (.list [.int (p4 : Nat)]), .val (.int (n : Nat)), .val (gsD gs), .val (.tuple (wkD gs)), .val (dlD gs), .val (gsD (mir gs)), .emp, .emp, .emp, .val (.tuple (EV.R (rw' gs k) fun j => .int (Mg gs k j : Nat))), .val (.int (Sg gs k : Nat)), .emp, .val (.int (k : Nat)), .emp, .emp, .emp, .emp, .emp, .emp, .emp, .emp, .emp, .emp, .emp, .emp], ?_, _, _, _, Vl.val, Vl.val, Vl.val, rfl⟩
    have hb : bN 14 (.int (k : Nat)) [.val (scr ns), .val (lG L dr), .own false (.list [.int (p4 : Nat)]), .val (.int (n : Nat)), .val (gsD gs), .val (.tuple (wkD gs)), .val (dlD gs), .val (gsD (mir gs)), .emp, .emp, .emp, x11, x12, .emp, x14, .emp, .emp, .emp, .emp, .emp, .emp, .emp, .emp, .emp, .emp, .emp, .emp] = some [.val (scr ns), .val (lG L dr), .own false (.list [.int (p4 : Nat)]), .val (.int (n : Nat)), .val (gsD gs), .val (.tuple (wkD gs)), .val (dlD gs), .val (gsD (mir gs)), .emp, .emp, .emp, x11, x12, .emp, .val (.int (k : Nat)), .emp, .emp, .emp, .emp, .emp, .emp, .emp, .emp, .emp, .emp, .emp, .emp] := rfl
    rw [hb]
    exact fSq_o s1 (fSq_o s2 (fSq_o s3 s4))) ⟨.emp, .emp, .emp, Vl.emp, Vl.emp, Vl.emp, rfl⟩
  refine ⟨x11, x12, x14, ?_, v11, v12, v14⟩
  unfold law_9
  generalize wkD gs = W at *
  generalize dlD gs = DD at *
  generalize gsD (mir gs) = Y at *
  have hX := gsD_len (gs := gs)
  generalize gsD gs = X at *
  simp [hX, o0]
  rw [e1]
end W

set_option Elab.async false
set_option linter.all false
set_option maxRecDepth 100000
set_option maxHeartbeats 4000000
/-! B2 (k32): the law's statements, 10 to 17. -/
namespace W
open PySem PySem.Spec L2 EV W32
variable {L : Nat} {dr : Nat → Int} {ns : List Int} {n p3 p4 pS pT t : Nat} {gs gsS : List Gu} {x11 x12 x14 : EV.Slot}

theorem u10 (D : Dr L dr) (Q : QG n gs) (hp : p4 ≤ 40) : ∃ (gsS : List Gu) (pS : Nat), law_10 [.val (scr ns), .val (lG L dr), .own false (.list [.int (p4 : Nat)]), .val (.int (n : Nat)), .val (gsD gs), .val (.tuple (wkD gs)), .val (dlD gs), .val (gsD (mir gs)), .emp, .emp, .emp, x11, x12, .emp, x14, .emp, .emp, .emp, .emp, .emp, .emp, .emp, .emp, .emp, .emp, .emp, .emp] = some (.nx [.val (scr ns), .val (lG L dr), .own false (.list [.int (pS : Nat)]), .val (.int (n : Nat)), .val (gsD gs), .val (.tuple (wkD gs)), .val (dlD gs), .val (gsD (mir gs)), .emp, .emp, .emp, x11, x12, .emp, x14, .emp, .val (gsD gsS), .emp, .emp, .emp, .emp, .emp, .emp, .emp, .emp, .emp, .emp]) ∧ Slow gs gsS ∧ pS ≤ 50 := by
  generalize (PyData.tuple (wkD gs)) = WW at *
  generalize dlD gs = DD at *
  generalize gsD (mir gs) = Y at *

  have z1 : 1 ≤ sizeLine := z_size (by omega)
  have hl := Q.l
  obtain ⟨ds, g', e2, gs2, p2, hl2, rfl, H, hp2, rfl⟩ := lcGo_ind (b := bN 13) (te := (f2 oCatT (fSl oSlT (fV 13) sN (sE (fC (.int 2)))) (fTup (aC (f2 oAdd (f2 oIdx (fV 13) (fC (.int 2))) (fCall F__law_take [] (bCons (fV 1) (bRef 2 (bCons (fC (.int 3)) bNil))))) aN)))) (vs := [13]) (n := gs.length) (h := fun i => encG (gG gs i)) (g := [.val (scr ns), .val (lG L dr), .own false (.list [.int (p4 : Nat)]), .val (.int (n : Nat)), .val (gsD gs), .val WW, .val (DD), .val (Y), .emp, .emp, .emp, x11, x12, .emp, x14, .emp, .emp, .emp, .emp, .emp, .emp, .emp, .emp, .emp, .emp, .emp, .emp])
    (fun i ds gg => ∃ (gs2 : List Gu) (p2 : Nat), gs2.length = i ∧ ds = gs2.map encG ∧ (∀ j, j < i → (gG gs2 j).1 = (gG gs j).1 ∧ (gG gs2 j).2.1 = (gG gs j).2.1 ∧ (gG gs j).2.2 ≤ (gG gs2 j).2.2 ∧ (gG gs2 j).2.2 ≤ (gG gs j).2.2 + 2) ∧ p2 = p4 + i ∧ gg = [.val (scr ns), .val (lG L dr), .own false (.list [.int (p2 : Nat)]), .val (.int (n : Nat)), .val (gsD gs), .val WW, .val (DD), .val (Y), .emp, .emp, .emp, x11, x12, .emp, x14, .emp, .emp, .emp, .emp, .emp, .emp, .emp, .emp, .emp, .emp, .emp, .emp]) (by
      rintro i ds gg hi ⟨gs2, p2, hl2, rfl, H, hp2, rfl⟩
      generalize hf : gG gs i = f
      obtain ⟨r, q, e3, r0, r1, hq⟩ := c_take D (p := p2) (many := 3) (by omega) (by omega) (i := 2) (j := 1) (π := false) (fm := fC (.int 3)) (g := [.val (scr ns), .val (lG L dr), .own false (.list [.int (p2 : Nat)]), .val (.int (n : Nat)), .val (gsD gs), .val WW, .val (DD), .val (Y), .emp, .emp, .emp, x11, x12, .val (.tuple [.int (f.1 : Nat), .int f.2.1, .int (f.2.2 : Nat)]), x14, .emp, .emp, .emp, .emp, .emp, .emp, .emp, .emp, .emp, .emp, .emp, .emp]) rfl rfl rfl
      obtain ⟨r, rfl⟩ : ∃ N : Nat, r = N := ⟨r.toNat, by omega⟩
      simp only [List.set_cons_succ, List.set_cons_zero] at e3
      have c1 : cutD [PyData.int (f.1 : Nat), .int f.2.1, .int (f.2.2 : Nat)] none (some 2) = [.int (f.1 : Nat), .int f.2.1] := rfl
      have c2 : oCatT (.tuple [.int (f.1 : Nat), .int f.2.1]) (.tuple [.int ((f.2.2 : Int) + (r : Nat))]) = some (.tuple [.int (f.1 : Nat), .int f.2.1, .int ((f.2.2 : Int) + (r : Nat))]) := o_CatT (z_size (by simp))
      have i2 : atI [PyData.int (f.1 : Nat), .int f.2.1, .int (f.2.2 : Nat)] 2 = some (.int (f.2.2 : Nat)) := ix3_2
      refine ⟨encG (f.1, f.2.1, f.2.2 + r), [.val (scr ns), .val (lG L dr), .own false (.list [.int (q : Nat)]), .val (.int (n : Nat)), .val (gsD gs), .val WW, .val (DD), .val (Y), .emp, .emp, .emp, x11, x12, .val (.tuple [.int (f.1 : Nat), .int f.2.1, .int (f.2.2 : Nat)]), x14, .emp, .emp, .emp, .emp, .emp, .emp, .emp, .emp, .emp, .emp, .emp, .emp], ?_, gs2 ++ [(f.1, f.2.1, f.2.2 + r)], q, by rw [List.length_append, hl2]; rfl, by rw [List.map_append]; rfl, fun j hj => ?_, by omega, ?_⟩
      · show _ = some (PyData.tuple [.int (f.1 : Nat), .int f.2.1, .int ((f.2.2 : Int) + (r : Nat))], _)
        show ((bN 13 (PyData.tuple [.int (f.1 : Nat), .int f.2.1, .int (f.2.2 : Nat)]) _).bind _) = _
        generalize gsD gs = X at *
        simp [c1, i2, e3, z1, c2]
      · have app : ∀ {u : Gu} {j : Nat}, j < gs2.length → gG (gs2 ++ [u]) j = gG gs2 j := fun {u j} h => by
          unfold gG; rw [List.getD_eq_getElem?_getD, List.getD_eq_getElem?_getD, List.getElem?_append_left h]
        by_cases e : j < i
        · rw [app (by omega)]; exact H j e
        · have ej : j = i := by omega
          subst ej
          have : gG (gs2 ++ [(f.1, f.2.1, f.2.2 + r)]) j = (f.1, f.2.1, f.2.2 + r) := by
            unfold gG
            rw [List.getD_eq_getElem?_getD, ← hl2, List.getElem?_append_right (Nat.le_refl _), Nat.sub_self]; rfl
          rw [this, hf]
          exact ⟨rfl, rfl, by show f.2.2 ≤ f.2.2 + r; omega, by show f.2.2 + r ≤ f.2.2 + 2; omega⟩
      · simp [wipeG]) ⟨[], p4, rfl, rfl, fun j hj => by omega, by omega, rfl⟩
  refine ⟨gs2, p2, ?_, ⟨hl2, H⟩, by omega⟩
  have hY : gsD gs = .tuple (EV.R gs.length fun i => encG (gG gs i)) := congrArg PyData.tuple gs_R
  have hY2 : gsD gs2 = .tuple (gs2.map encG) := rfl
  have zl2 : (gs2.map encG).length ≤ sizeLine := by rw [List.length_map]; exact z_size (by omega)
  unfold law_10
  rw [hY] at e2 ⊢
  rw [hY2]
  generalize (gs2.map encG) = Y2 at *
  simp [noOwn, wipeG, e2, zl2, backG]
theorem u11 (Q : QG n gs) (S : Slow gs gsS) (v14 : Vl x14) : law_11 [.val (scr ns), .val (lG L dr), .own false (.list [.int (pS : Nat)]), .val (.int (n : Nat)), .val (gsD gs), .val (.tuple (wkD gs)), .val (dlD gs), .val (gsD (mir gs)), .emp, .emp, .emp, x11, x12, .emp, x14, .emp, .val (gsD gsS), .emp, .emp, .emp, .emp, .emp, .emp, .emp, .emp, .emp, .emp] = some (.nx [.val (scr ns), .val (lG L dr), .own false (.list [.int (pS : Nat)]), .val (.int (n : Nat)), .val (gsD gs), .val (.tuple (wkD gs)), .val (dlD gs), .val (gsD (mir gs)), .emp, .emp, .emp, x11, x12, .emp, x14, .emp, .val (gsD gsS), .emp, .emp, .emp, .emp, .emp, .emp, .emp, .emp, .emp, .emp]) := by
  have hl := Q.l
  have Q2 := S.gg Q.g Q.s5
  have d1 := v_walks Q2
  have d2 := v_end Q2
  have d3 := v_end Q.g
  have hE := S.en Q.g
  have hE2 : ¬ ((En gsS : Nat) : Int) < (En gs : Nat) := by omega
  have o0 : okB ((gs.length : Nat) : Int) = true := okB_of (by omega) (by omega)
  have hX := gsD_len (gs := gs)
  have a1 := fLc_no (n := gs.length) (h := fun i => .int i) (it := (iRng1 (aC (f1 oLen (fV 4)) aN))) (b := bN 14) (tt := (t2 pbLt (f2 oIdx (f2 oIdx (fCall F_walks [] (bCons (fV 3) (bCons (fV 16) bNil))) (fV 14)) (fC (.int 1))) (f2 oIdx (f2 oIdx (fV 5) (fV 14)) (fC (.int 1))))) (te := fV 14) (vs := [14]) (g := [.val (scr ns), .val (lG L dr), .own false (.list [.int (pS : Nat)]), .val (.int (n : Nat)), .val (gsD gs), .val (.tuple (wkD gs)), .val (dlD gs), .val (gsD (mir gs)), .emp, .emp, .emp, x11, x12, .emp, x14, .emp, .val (gsD gsS), .emp, .emp, .emp, .emp, .emp, .emp, .emp, .emp, .emp, .emp]) (by
    generalize dlD gs = DD at *
    generalize gsD (mir gs) = Y at *
    generalize gsD gsS = XS at *
    generalize wkD gs = W1 at *
    generalize gsD gs = X at *
    simp [hX, o0]) (by rcases v14 with rfl | ⟨d, rfl⟩ <;> rfl) (z_size (by omega)) (fun k hk => by
    have i1 := wkD_at hk
    have i2 := wkD_at (gs := gsS) (k := k) (by rw [S.l]; exact hk)
    have e1 : oIdx (wkE gs k) (.int 1) = some (.int (Sg gs k : Nat)) := rfl
    have e2 : oIdx (wkE gsS k) (.int 1) = some (.int (Sg gsS k : Nat)) := rfl
    have hs := S.sit Q.g hk
    have hn : ¬ ((Sg gsS k : Nat) : Int) < (Sg gs k : Nat) := by omega
    generalize Sg gsS k = s2 at *
    generalize Sg gs k = s1 at *
    generalize wkE gs k = w1 at *
    generalize wkE gsS k = w2 at *
    generalize dlD gs = DD at *
    generalize gsD (mir gs) = Y at *
    generalize gsD gsS = XS at *
    generalize wkD gsS = W2 at *
    generalize wkD gs = W1 at *
    generalize gsD gs = X at *
    simp [trn, wipeG, e_call2, d1, i1, i2, e1, e2]
    omega)
  unfold law_11
  generalize dlD gs = DD at *
  generalize gsD (mir gs) = Y at *
  generalize gsD gsS = XS at *
  generalize wkD gs = W1 at *
  generalize gsD gs = X at *
  generalize En gsS = E2 at *
  generalize En gs = E1 at *
  simp [a1, -e_fLc, e_call2, d2, d3]
  omega
theorem u12 (D : Dr L dr) (Q : QG n gs) (hp : pS ≤ 50) : ∃ (t pT : Nat), law_12 [.val (scr ns), .val (lG L dr), .own false (.list [.int (pS : Nat)]), .val (.int (n : Nat)), .val (gsD gs), .val (.tuple (wkD gs)), .val (dlD gs), .val (gsD (mir gs)), .emp, .emp, .emp, x11, x12, .emp, x14, .emp, .val (gsD gsS), .emp, .emp, .emp, .emp, .emp, .emp, .emp, .emp, .emp, .emp] = some (.nx [.val (scr ns), .val (lG L dr), .own false (.list [.int (pT : Nat)]), .val (.int (n : Nat)), .val (gsD gs), .val (.tuple (wkD gs)), .val (dlD gs), .val (gsD (mir gs)), .emp, .emp, .emp, x11, x12, .emp, x14, .emp, .val (gsD gsS), .val (.int (t : Nat)), .emp, .emp, .emp, .emp, .emp, .emp, .emp, .emp, .emp]) ∧ t < En gs + 2 := by
  have d3 := v_end Q.g
  generalize (PyData.tuple (wkD gs)) = WW at *
  generalize dlD gs = DD at *
  generalize gsD (mir gs) = Y at *
  generalize gsD gsS = XS at *
  generalize En gs = E1 at *
  obtain ⟨r, q1, e1, s0, s1, hq1⟩ := c_take D (p := pS) (many := (E1 : Int) + 2) (by omega) (by omega) (i := 2) (j := 1) (π := false) (fm := f2 oAdd (fCall F_end [] (bCons (fV 3) (bCons (fV 4) bNil))) (fC (.int 2))) (g := [.val (scr ns), .val (lG L dr), .own false (.list [.int (pS : Nat)]), .val (.int (n : Nat)), .val (gsD gs), .val WW, .val (DD), .val (Y), .emp, .emp, .emp, x11, x12, .emp, x14, .emp, .val (XS), .emp, .emp, .emp, .emp, .emp, .emp, .emp, .emp, .emp, .emp]) rfl rfl (by
    generalize gsD gs = X at *
    simp [e_call2, d3])
  obtain ⟨r, rfl⟩ : ∃ N : Nat, r = N := ⟨r.toNat, by omega⟩
  refine ⟨r, q1, ?_, by omega⟩
  simp only [List.set_cons_succ, List.set_cons_zero] at e1
  unfold law_12
  generalize gsD gs = X at *
  simp [e1]
theorem u13 (Q : QG n gs) (ht : t < En gs + 2) : law_13 [.val (scr ns), .val (lG L dr), .val (.list [.int (pT : Nat)]), .val (.int (n : Nat)), .val (gsD gs), .val (.tuple (wkD gs)), .val (dlD gs), .val (gsD (mir gs)), .emp, .emp, .emp, x11, x12, .emp, x14, .emp, .val (gsD gsS), .val (.int (t : Nat)), .emp, .emp, .emp, .emp, .emp, .emp, .emp, .emp, .emp] = some (.nx [.val (scr ns), .val (lG L dr), .val (.list [.int (pT : Nat)]), .val (.int (n : Nat)), .val (gsD gs), .val (.tuple (wkD gs)), .val (dlD gs), .val (gsD (mir gs)), .emp, .emp, .emp, x11, x12, .emp, x14, .emp, .val (gsD gsS), .val (.int (t : Nat)), .val (aiD gs t), .emp, .emp, .emp, .emp, .emp, .emp, .emp, .emp]) := by
  have hE := En_le Q.g
  have d1 := v_aisle_at (t := t) Q.g (by omega)
  generalize (PyData.tuple (wkD gs)) = WW at *
  generalize dlD gs = DD at *
  generalize gsD (mir gs) = Y at *
  generalize gsD gsS = XS at *
  unfold law_13
  generalize aiD gs t = A at *
  generalize gsD gs = X at *
  simp [e_call3, d1]
theorem u14 (Q : QG n gs) (v14 : Vl x14) : law_14 [.val (scr ns), .val (lG L dr), .val (.list [.int (pT : Nat)]), .val (.int (n : Nat)), .val (gsD gs), .val (.tuple (wkD gs)), .val (dlD gs), .val (gsD (mir gs)), .emp, .emp, .emp, x11, x12, .emp, x14, .emp, .val (gsD gsS), .val (.int (t : Nat)), .val (aiD gs t), .emp, .emp, .emp, .emp, .emp, .emp, .emp, .emp] = some (.nx [.val (scr ns), .val (lG L dr), .val (.list [.int (pT : Nat)]), .val (.int (n : Nat)), .val (gsD gs), .val (.tuple (wkD gs)), .val (dlD gs), .val (gsD (mir gs)), .emp, .emp, .emp, x11, x12, .emp, x14, .emp, .val (gsD gsS), .val (.int (t : Nat)), .val (aiD gs t), .emp, .emp, .emp, .emp, .emp, .emp, .emp, .emp]) := by
  have hl := Q.l
  have hlA : (aiL gs t).length ≤ 10 := by
    have := List.length_filter_le (inA gs t) (List.range gs.length)
    rw [List.length_range] at this
    show (List.filter _ _).length ≤ _
    omega
  have hrow : ∀ i, i < gs.length → 1 ≤ rw' gs i := fun i hi => (Q.g.r30 _ (gG_mem hi)).1
  have z2 : 2 ≤ sizeLine := z_size (by omega)
  have pw : (aiL gs t).Pairwise fun a b => a < b ∧ ps gs t b < ps gs t a := by
    refine List.Pairwise.imp_of_mem (R := fun a b => a < b) ?_ (List.pairwise_lt_range.filter _)
    intro a b ha hb hab
    obtain ⟨a1, a2⟩ := List.mem_filter.mp ha
    obtain ⟨b1, b2⟩ := List.mem_filter.mp hb
    exact ⟨hab, pass hrow hab (List.mem_range.mp b1) a2 b2⟩
  have a1 := fLc_l (e := fun k : Nat => .tuple [.int (ps gs t k : Nat), .int 0]) (it := (iSeq (fV 18))) (b := (bT (bLen 2 (bsC (bN 19) (bsC (bN 8) bsN))))) (tt := tY) (te := (fTup (aC (fV 8) (aC (fC (.int 0)) aN)))) (vs := [8, 19]) (g := [.val (scr ns), .val (lG L dr), .val (.list [.int (pT : Nat)]), .val (.int (n : Nat)), .val (gsD gs), .val (.tuple (wkD gs)), .val (dlD gs), .val (gsD (mir gs)), .emp, .emp, .emp, x11, x12, .emp, x14, .emp, .val (gsD gsS), .val (.int (t : Nat)), .val (aiD gs t), .emp, .emp, .emp, .emp, .emp, .emp, .emp, .emp]) (fun k : Nat => .tuple [.int (k : Nat), .int (ps gs t k : Nat)]) (xs := aiL gs t) (by
    generalize (PyData.tuple (wkD gs)) = WW at *
    generalize dlD gs = DD at *
    generalize gsD (mir gs) = Y at *
    generalize gsD gsS = XS at *
    generalize gsD gs = X at *
    simp) rfl (z_size (by omega)) (fun k hk => by
    generalize (PyData.tuple (wkD gs)) = WW at *
    generalize dlD gs = DD at *
    generalize gsD (mir gs) = Y at *
    generalize gsD gsS = XS at *
    generalize gsD gs = X at *
    generalize ps gs t k = P at *
    simp [trn, wipeG, z2])
  have hd : ∃ kvs : List (D × D), oDictP (.list ((aiL gs t).map fun k : Nat => .tuple [.int (ps gs t k : Nat), .int 0])) = some (.dict kvs) ∧ kvs.length = (aiL gs t).length ∧ scrD (.dict kvs) = false := by
    have hpD : pairsD ((aiL gs t).map fun k : Nat => PyData.tuple [.int (ps gs t k : Nat), .int 0]) = some ((aiL gs t).map fun k : Nat => ((.inl (ps gs t k : Nat) : Key), PyData.int 0)) := by
      induction aiL gs t with
      | nil => rfl
      | cons a l ih =>
        rw [List.map_cons, List.map_cons]
        unfold pairsD
        rw [ih]; rfl
    have hf : ∀ (l : List Nat) (acc : List Int), (acc ++ l.map fun k => ((ps gs t k : Nat) : Int)).Nodup → (l.map fun k : Nat => ((.inl (ps gs t k : Nat) : Key), PyData.int 0)).foldl (fun acc kv => dPut acc kv.1 kv.2) (acc.map fun y => (PyData.int y, PyData.int 0)) = (acc ++ l.map fun k => ((ps gs t k : Nat) : Int)).map fun y => (PyData.int y, PyData.int 0) := by
      intro l
      induction l with
      | nil => intro acc _; rw [List.map_nil, List.map_nil, List.append_nil]; rfl
      | cons a l ih =>
        intro acc hn
        rw [List.map_cons, List.foldl_cons, dPut_int, if_neg (fun z => by
          rw [List.map_cons, List.nodup_append] at hn
          exact hn.2.2 _ z _ List.mem_cons_self rfl), ih (acc ++ [((ps gs t a : Nat) : Int)]) (by rw [List.append_assoc]; exact hn), List.append_assoc]
        rfl
    have hnd : ((aiL gs t).map fun k => ((ps gs t k : Nat) : Int)).Nodup := List.pairwise_map.mpr (pw.imp fun h z => by omega)
    refine ⟨((aiL gs t).map fun k => ((ps gs t k : Nat) : Int)).map fun y => (PyData.int y, PyData.int 0), ?_, by rw [List.length_map, List.length_map], by cases aiL gs t <;> rfl⟩
    show (pairsD _).map _ = _
    rw [hpD]
    have := hf (aiL gs t) [] (by simpa using hnd)
    rw [List.nil_append, List.map_nil] at this
    show some (PyData.dict _) = _
    rw [this]
  obtain ⟨kvs, hd1, hd2, hd3⟩ := hd
  have hd4 : oLenD (.dict kvs) = some (.int ((aiL gs t).length : Nat)) := by rw [o_LenD, if_neg (by rw [hd3]; decide), hd2]
  have o1 : okB 1 = true := by decide +kernel
  have o2 : okB (((aiL gs t).length : Nat) : Int) = true := okB_of (by omega) (by omega)
  have c1 : ((((aiL gs t).length : Nat) : Int) - 1).toNat = (aiL gs t).length - 1 := by omega
  have hlen : ((aiL gs t).map fun k : Nat => PyData.tuple [.int (k : Nat), .int (ps gs t k : Nat)]).length = (aiL gs t).length := List.length_map ..
  have a2 := fLc_no (n := (aiL gs t).length - 1) (h := fun i => .int ((1 : Int) + (i : Nat) * 1)) (it := (iRng2 (aC (fC (.int 1)) (aC (f1 oLen (fV 18)) aN)))) (b := bN 14) (tt := (tOrD (t2 pbGe (f2 oIdx (f2 oIdx (fV 18) (fV 14)) (fC (.int 1))) (f2 oIdx (f2 oIdx (fV 18) (f2 oSub (fV 14) (fC (.int 1)))) (fC (.int 1)))) (t2 pbLe (f2 oIdx (f2 oIdx (fV 18) (fV 14)) (fC (.int 0))) (f2 oIdx (f2 oIdx (fV 18) (f2 oSub (fV 14) (fC (.int 1)))) (fC (.int 0)))))) (te := fV 14) (vs := [14]) (g := [.val (scr ns), .val (lG L dr), .val (.list [.int (pT : Nat)]), .val (.int (n : Nat)), .val (gsD gs), .val (.tuple (wkD gs)), .val (dlD gs), .val (gsD (mir gs)), .emp, .emp, .emp, x11, x12, .emp, x14, .emp, .val (gsD gsS), .val (.int (t : Nat)), .val (aiD gs t), .emp, .emp, .emp, .emp, .emp, .emp, .emp, .emp]) (by
    generalize (PyData.tuple (wkD gs)) = WW at *
    generalize dlD gs = DD at *
    generalize gsD (mir gs) = Y at *
    generalize gsD gsS = XS at *
    generalize gsD gs = X at *
    simp [o1, o2, c1, hlen, rngD_R]) (by rcases v14 with rfl | ⟨d, rfl⟩ <;> rfl) (z_size (by omega)) (fun i hi => by
    have h1 : i + 1 < (aiL gs t).length := by omega
    have h := List.pairwise_iff_getElem.mp pw i (i + 1) (by omega) h1 (by omega)
    have ix : ∀ j (hj : j < (aiL gs t).length), atI ((aiL gs t).map fun k : Nat => PyData.tuple [.int (k : Nat), .int (ps gs t k : Nat)]) (j : Int) = some (.tuple [.int (((aiL gs t)[j]) : Nat), .int (ps gs t ((aiL gs t)[j]) : Nat)]) := fun j hj => atI_nat (by rw [List.getElem?_map, List.getElem?_eq_getElem hj]; rfl)
    have i1 := ix (i + 1) h1
    have i2 := ix i (by omega)
    have ek : (1 : Int) + (i : Nat) * 1 = ((i + 1 : Nat) : Int) := by omega
    have ek2 : ((i + 1 : Nat) : Int) - 1 = (i : Int) := by omega
    rw [ek]
    generalize hK : ((i + 1 : Nat) : Int) = K at *
    generalize (aiL gs t)[i + 1] = b at *
    generalize (aiL gs t)[i] = a at *
    generalize (PyData.tuple (wkD gs)) = WW at *
    generalize dlD gs = DD at *
    generalize gsD (mir gs) = Y at *
    generalize gsD gsS = XS at *
    generalize gsD gs = X at *
    generalize ps gs t a = pa at *
    generalize ps gs t b = pb at *
    have n1 : ¬ ((pa : Nat) : Int) ≤ (pb : Nat) := by omega
    have n2 : ¬ ((b : Nat) : Int) ≤ (a : Nat) := by omega
    have n3 : ¬ pa ≤ pb := by omega
    have n4 : ¬ b ≤ a := by omega
    simp [trn, wipeG, i1, ek2, i2, ix0, ix1, n3, n4])
  unfold law_14
  generalize ((aiL gs t).map fun k : Nat => PyData.tuple [.int (ps gs t k : Nat), .int 0]) = U at *
  have hlD : oLen (aiD gs t) = some (.int ((aiL gs t).length : Nat)) := by show some (PyData.int (((aiL gs t).map fun k : Nat => PyData.tuple [.int (k : Nat), .int (ps gs t k : Nat)]).length : Nat)) = _; rw [hlen]
  generalize (aiL gs t).length = LL at *
  generalize aiD gs t = A at *
  generalize (PyData.tuple (wkD gs)) = WW at *
  generalize dlD gs = DD at *
  generalize gsD (mir gs) = Y at *
  generalize gsD gsS = XS at *
  generalize gsD gs = X at *
  simp [a1, -e_fLc, -o_LenD, hd1, hd4, hlD, oNe_ii, a2]
theorem u15 (Q : QG n gs) (v11 : Vl x11) (v12 : Vl x12) : law_15 [.val (scr ns), .val (lG L dr), .val (.list [.int (pT : Nat)]), .val (.int (n : Nat)), .val (gsD gs), .val (.tuple (wkD gs)), .val (dlD gs), .val (gsD (mir gs)), .emp, .emp, .emp, x11, x12, .emp, x14, .emp, .val (gsD gsS), .val (.int (t : Nat)), .val (aiD gs t), .emp, .emp, .emp, .emp, .emp, .emp, .emp, .emp] = some (.nx [.val (scr ns), .val (lG L dr), .val (.list [.int (pT : Nat)]), .val (.int (n : Nat)), .val (gsD gs), .val (.tuple (wkD gs)), .val (dlD gs), .val (gsD (mir gs)), .emp, .emp, .emp, x11, x12, .emp, x14, .emp, .val (gsD gsS), .val (.int (t : Nat)), .val (aiD gs t), .emp, .emp, .emp, .emp, .emp, .emp, .emp, .emp]) := by
  have hl := Q.l
  have hlA : (aiL gs t).length ≤ 10 := by
    have := List.length_filter_le (inA gs t) (List.range gs.length)
    rw [List.length_range] at this
    show (List.filter _ _).length ≤ _
    omega
  have hrow : ∀ i, i < gs.length → 1 ≤ rw' gs i := fun i hi => (Q.g.r30 _ (gG_mem hi)).1
  have hlD : oLen (aiD gs t) = some (.int ((aiL gs t).length : Nat)) := by show some (PyData.int (((aiL gs t).map fun k : Nat => PyData.tuple [.int (k : Nat), .int (ps gs t k : Nat)]).length : Nat)) = _; rw [List.length_map]
  have a1 := fLc_flt (n := gs.length) (h := fun k => wkE gs k) (p := inA gs t) (f := fun _ => .int 1) (it := (iSeq (fV 5))) (b := (bT (bLen 2 (bsC (bN 11) (bsC (bN 12) bsN))))) (tt := (tCh pLe pLt (f2 oIdx (fV 11) (fC (.int 0))) (fV 17) (fV 12))) (te := (fC (.int 1))) (vs := [11, 12]) (g := [.val (scr ns), .val (lG L dr), .val (.list [.int (pT : Nat)]), .val (.int (n : Nat)), .val (gsD gs), .val (.tuple (wkD gs)), .val (dlD gs), .val (gsD (mir gs)), .emp, .emp, .emp, x11, x12, .emp, x14, .emp, .val (gsD gsS), .val (.int (t : Nat)), .val (aiD gs t), .emp, .emp, .emp, .emp, .emp, .emp, .emp, .emp]) (by
    generalize aiD gs t = A at *
    generalize dlD gs = DD at *
    generalize gsD (mir gs) = Y at *
    generalize gsD gsS = XS at *
    generalize gsD gs = X at *
    simp) (by rcases v11 with rfl | ⟨d, rfl⟩ <;> rcases v12 with rfl | ⟨e, rfl⟩ <;> rfl) (z_size (by omega)) (fun k hk => by
    have hin : inA gs t k = (decide (Mg gs k 0 ≤ t) && decide (t < Sg gs k)) := rfl
    have eW : wkE gs k = .tuple [.tuple (EV.R (rw' gs k) fun j => .int (Mg gs k j : Nat)), .int (Sg gs k : Nat)] := rfl
    have i0 : atI (EV.R (rw' gs k) fun j => PyData.int (Mg gs k j : Nat)) 0 = some (.int (Mg gs k 0 : Nat)) := atI_R (h := fun j => PyData.int (Mg gs k j : Nat)) (show 0 < rw' gs k from hrow k hk)
    rw [eW, hin]
    generalize (EV.R (rw' gs k) fun j => PyData.int (Mg gs k j : Nat)) = MM at *
    generalize Mg gs k 0 = m0 at *
    generalize Sg gs k = S at *
    generalize aiD gs t = A at *
    generalize wkD gs = WW at *
    generalize dlD gs = DD at *
    generalize gsD (mir gs) = Y at *
    generalize gsD gsS = XS at *
    generalize gsD gs = X at *
    by_cases q1 : m0 ≤ t
    · by_cases q2 : t < S
      · simp [trn, wipeG, i0, q1, q2, pLt]
      · simp [trn, wipeG, i0, q1, q2, pLt]
    · simp [trn, wipeG, i0, q1])
  have el : (((List.range gs.length).filter (inA gs t)).map fun _ => PyData.int 1).length = (aiL gs t).length := List.length_map ..
  unfold law_15
  generalize (((List.range gs.length).filter (inA gs t)).map fun _ => PyData.int 1) = U at *
  generalize (aiL gs t).length = LL at *
  generalize aiD gs t = A at *
  generalize (PyData.tuple (wkD gs)) = WW at *
  generalize dlD gs = DD at *
  generalize gsD (mir gs) = Y at *
  generalize gsD gsS = XS at *
  generalize gsD gs = X at *
  simp [a1, -e_fLc, hlD, el, oNe_ii]
theorem u16 (Q : QG n gs) : law_16 [.val (scr ns), .val (lG L dr), .val (.list [.int (pT : Nat)]), .val (.int (n : Nat)), .val (gsD gs), .val (.tuple (wkD gs)), .val (dlD gs), .val (gsD (mir gs)), .emp, .emp, .emp, x11, x12, .emp, x14, .emp, .val (gsD gsS), .val (.int (t : Nat)), .val (aiD gs t), .emp, .emp, .emp, .emp, .emp, .emp, .emp, .emp] = some (.nx [.val (scr ns), .val (lG L dr), .val (.list [.int (pT : Nat)]), .val (.int (n : Nat)), .val (gsD gs), .val (.tuple (wkD gs)), .val (dlD gs), .val (gsD (mir gs)), .emp, .emp, .emp, x11, x12, .emp, x14, .emp, .val (gsD gsS), .val (.int (t : Nat)), .val (aiD gs t), .emp, .val (orD (oW gs)), .val (orD (oBh gs)), .emp, .emp, .emp, .emp, .emp]) := by
  have d1 := v_from_windows Q.g
  have d2 := v_from_behind Q.g
  unfold law_16
  generalize orD (oW gs) = O1 at *
  generalize orD (oBh gs) = O2 at *
  generalize aiD gs t = A at *
  generalize (PyData.tuple (wkD gs)) = WW at *
  generalize dlD gs = DD at *
  generalize gsD (mir gs) = Y at *
  generalize gsD gsS = XS at *
  generalize gsD gs = X at *
  simp [fPar, e_call2, d1, d2]
end W

set_option Elab.async false
set_option linter.all false
set_option maxRecDepth 100000
set_option maxHeartbeats 4000000
/-! A10 (k32): more for the law. -/
namespace W
open PySem PySem.Spec L2 EV W32
variable {n : Nat} {gs : List Gu}
theorem sort_or {m : Nat} {o : List Nat} (O : Or m o) : oSortT (orD o) = some (.list (EV.R m fun i => .int (i : Nat))) := by
  have e1 : (o.map fun i : Nat => PyData.int (i : Nat)) = (o.map fun i : Nat => (i : Int)).map PyData.int := by rw [List.map_map]; rfl
  show (intsOf (o.map fun i : Nat => PyData.int (i : Nat))).map _ = _
  rw [e1, intsOf_map]
  show some (PyData.list ((sortI (o.map fun i : Nat => (i : Int))).map .int)) = _
  have hp : (List.range m).Perm o := (List.perm_ext_iff_of_nodup List.nodup_range O.nd).mpr fun i => ⟨fun h => O.mem (List.mem_range.mp h), fun h => List.mem_range.mpr (O.lt i h)⟩
  have : sortI (o.map fun i : Nat => (i : Int)) = (List.range m).map fun i : Nat => (i : Int) := (sortI_eq (hp.map _) (List.pairwise_map.mpr (List.pairwise_lt_range.imp fun h => by omega))).symm
  rw [this, List.map_map]; rfl
theorem ne_rng {m : Nat} : oNeD (.list (EV.R m fun i => .int (i : Nat))) (.list (EV.R m fun i => .int (i : Nat))) = some false ∨ 10 ^ 10 ≤ m := by
  by_cases h : 10 ^ 10 ≤ m
  · exact .inr h
  · exact .inl (Nice.lst (k := 0) (w := 11) (xs := EV.R m fun i => .int (i : Nat)) fun x hx => by
      obtain ⟨i, hi, rfl⟩ := List.mem_map.mp hx
      have := List.mem_range.mp hi
      exact Nice.nat (by omega)).ne
theorem st_zero {o : List Nat} (C : Calm gs o) : stD (io gs o) = .tuple ((List.replicate o.length (0 : Int)).map PyData.int) := by
  have h1 : (io gs o).length = o.length := List.length_map ..
  have h2 : (EV.R (io gs o).length fun k => PyData.int (stn ((io gs o).take k) (gG (io gs o) k) : Nat)) = EV.R o.length fun _ => .int 0 := by
    rw [h1]
    exact List.map_congr_left fun k hk => by rw [calm_zero C (List.mem_range.mp hk)]; rfl
  have h3 : (EV.R o.length fun _ => PyData.int 0) = (List.replicate o.length (0 : Int)).map PyData.int := by
    unfold EV.R
    rw [List.map_const', List.length_range, List.map_replicate]
  exact congrArg PyData.tuple (h2.trans h3)
theorem sum_zero : ∀ {m : Nat}, (List.replicate m (0 : Int)).sum = 0
  | 0 => rfl
  | m + 1 => by rw [List.replicate_succ, List.sum_cons, sum_zero]; rfl
theorem gs_take4 : oSlT (gsD gs) none (some 4) = some (gsD (gs.take 4)) := by
  rw [o_SlT]
  congr 2
  unfold cutD
  show ((gs.map encG).drop (HT.sIx (gs.map encG).length 0 none)).take (HT.sIx (gs.map encG).length (gs.map encG).length (some ((4 : Nat) : Int)) - HT.sIx (gs.map encG).length 0 none) = _
  rw [HT.sIx_nat]
  show ((gs.map encG).drop 0).take (min 4 (gs.map encG).length - 0) = _
  rw [List.drop_zero, Nat.sub_zero, ← List.take_eq_take_min, List.map_take]
theorem rev_or {m : Nat} : Or m (List.range m).reverse := Or.perm (List.reverse_perm _)
theorem lt_or {a b : List Nat} : oLtT (orD a) (orD b) = some (lx a b) := by
  have e : ∀ o : List Nat, orD o = .tuple ((o.map fun i : Nat => (i : Int)).map PyData.int) := fun o => by show PyData.tuple _ = _; rw [List.map_map]; rfl
  rw [e, e, o_LtT, lx_int]
/-- the most that one needs alone -/
theorem max_need {o : List Nat} (O : Or gs.length o) (hr : ∀ g ∈ gs, 1 ≤ g.1) (hne : gs ≠ []) : ∃ m : Int, oMax (.list (gs.map fun g => .int (((g.1 : Nat) : Int) - 1 + (g.2.2 : Nat)))) = some (.int m) ∧ m ≤ (Eo gs o : Nat) := by
  have e1 : (gs.map fun g => PyData.int (((g.1 : Nat) : Int) - 1 + (g.2.2 : Nat))) = (gs.map fun g => ((g.1 : Nat) : Int) - 1 + (g.2.2 : Nat)).map PyData.int := by rw [List.map_map]; rfl
  rw [e1]
  cases h : maxI (gs.map fun g => ((g.1 : Nat) : Int) - 1 + (g.2.2 : Nat)) with
  | none =>
    cases gs with
    | nil => exact absurd rfl hne
    | cons a b => cases h
  | some m =>
    refine ⟨m, by unfold oMax; rw [o_LI, h]; rfl, ?_⟩
    obtain ⟨g, hg, rfl⟩ := List.mem_map.mp (maxI_spec h).1
    obtain ⟨i, hi, rfl⟩ := List.mem_iff_getElem.mp hg
    have := Eo_ge O hi
    have e : gG gs i = gs[i] := by unfold gG; rw [List.getD_eq_getElem?_getD, List.getElem?_eq_getElem hi]; rfl
    rw [e] at this
    have := hr _ hg
    omega
/-! ### examples -/
def sg3 : List Gu := [(1, 1, 2), (1, 2, 2), (1, 3, 2)]
def col : List Gu := [(1, 1, 1), (2, 1, 1), (3, 1, 1), (4, 1, 1), (5, 1, 1)]
theorem sg3_gg : GG 2 sg3 := ⟨by decide, by decide, by decide, by decide, by decide⟩
theorem sg3r_gg : GG 2 sg3.reverse := ⟨by decide, by decide, by decide, by decide, by decide⟩
theorem col_gg : GG 30 col := ⟨by decide, by decide, by decide, by decide, by decide⟩
theorem colr_gg : GG 30 col.reverse := ⟨by decide, by decide, by decide, by decide, by decide⟩
theorem sg3_st : stD sg3 = .tuple [.int 0, .int 1, .int 2] := rfl
theorem sg3r_st : stD sg3.reverse = .tuple [.int 0, .int 0, .int 0] := rfl
theorem sg3_en : En sg3 = 9 := by decide +kernel
theorem sg3r_en : En sg3.reverse = 6 := by decide +kernel
theorem col_en : En col.reverse ≤ En col := by decide +kernel
end W

set_option Elab.async false
set_option linter.all false
set_option maxRecDepth 100000
set_option maxHeartbeats 4000000
/-! B3 (k32): the law's statements, 17 to 26, and the law. -/
namespace W
open PySem PySem.Spec L2 EV W32
variable {L : Nat} {dr : Nat → Int} {ns : List Int} {n p3 p4 pS pT t : Nat} {gs gsS : List Gu} {o : List Nat} {x11 x12 x14 x22 x22' : EV.Slot}

theorem u17 (Q : QG n gs) : ∃ (x22 : EV.Slot), law_17 [.val (scr ns), .val (lG L dr), .val (.list [.int (pT : Nat)]), .val (.int (n : Nat)), .val (gsD gs), .val (.tuple (wkD gs)), .val (dlD gs), .val (gsD (mir gs)), .emp, .emp, .emp, x11, x12, .emp, x14, .emp, .val (gsD gsS), .val (.int (t : Nat)), .val (aiD gs t), .emp, .val (orD (oW gs)), .val (orD (oBh gs)), .emp, .emp, .emp, .emp, .emp] = some (.nx [.val (scr ns), .val (lG L dr), .val (.list [.int (pT : Nat)]), .val (.int (n : Nat)), .val (gsD gs), .val (.tuple (wkD gs)), .val (dlD gs), .val (gsD (mir gs)), .emp, .emp, .emp, x11, x12, .emp, x14, .emp, .val (gsD gsS), .val (.int (t : Nat)), .val (aiD gs t), .emp, .val (orD (oW gs)), .val (orD (oBh gs)), x22, .emp, .emp, .emp, .emp]) ∧ Vl x22 := by
  have hl := Q.l
  have z2 : 2 ≤ sizeLine := z_size (by omega)
  obtain ⟨g', e1, x22, hv, rfl⟩ := forGo_l (b := bN 22) (f := (fIfS (tOrD (t2 oNeD (f1 oSortT (fV 22)) (f1 oRgL (f1 oLen (fV 4)))) (t2 oNe (f1 oSumT (fCall F_stands [] (bCons (fV 3) (bCons (fCall F_put [] (bCons (fV 3) (bCons (fV 4) (bCons (fV 22) bNil)))) bNil)))) (fC (.int 0)))) (fRet (fC (.bool false))) fNx)) (g := [.val (scr ns), .val (lG L dr), .val (.list [.int (pT : Nat)]), .val (.int (n : Nat)), .val (gsD gs), .val (.tuple (wkD gs)), .val (dlD gs), .val (gsD (mir gs)), .emp, .emp, .emp, x11, x12, .emp, x14, .emp, .val (gsD gsS), .val (.int (t : Nat)), .val (aiD gs t), .emp, .val (orD (oW gs)), .val (orD (oBh gs)), .emp, .emp, .emp, .emp, .emp]) orD (xs := [oW gs, oBh gs]) (fun _ gg => ∃ x22 : EV.Slot, Vl x22 ∧ gg = [.val (scr ns), .val (lG L dr), .val (.list [.int (pT : Nat)]), .val (.int (n : Nat)), .val (gsD gs), .val (.tuple (wkD gs)), .val (dlD gs), .val (gsD (mir gs)), .emp, .emp, .emp, x11, x12, .emp, x14, .emp, .val (gsD gsS), .val (.int (t : Nat)), .val (aiD gs t), .emp, .val (orD (oW gs)), .val (orD (oBh gs)), x22, .emp, .emp, .emp, .emp]) (by
    rintro pre o post gg hpre ⟨x22, hv, rfl⟩
    have hm : o ∈ [oW gs, oBh gs] := by rw [← hpre]; simp
    have ho : Or gs.length o ∧ Calm gs o := by
      simp only [List.mem_cons, List.not_mem_nil, or_false] at hm
      rcases hm with rfl | rfl
      · exact ⟨Or.perm oW_perm, oW_calm⟩
      · exact ⟨Or.perm oBh_perm, oBh_calm⟩
    have d1 := sort_or ho.1
    have d2 : oRgL (.int (gs.length : Nat)) = some (.list (EV.R gs.length fun i => .int (i : Nat))) := o_RgL (by omega)
    have d3 : oNeD (.list (EV.R gs.length fun i => .int (i : Nat))) (.list (EV.R gs.length fun i => .int (i : Nat))) = some false := (ne_rng (m := gs.length)).resolve_right (by omega)
    have d4 := v_put Q.g ho.1
    have d5 := v_stands (Q.g.io ho.1)
    rw [st_zero ho.2] at d5
    have d6 := o_SumT (ns := List.replicate o.length (0 : Int))
    rw [sum_zero] at d6
    have hX := gsD_len (gs := gs)
    refine ⟨[.val (scr ns), .val (lG L dr), .val (.list [.int (pT : Nat)]), .val (.int (n : Nat)), .val (gsD gs), .val (.tuple (wkD gs)), .val (dlD gs), .val (gsD (mir gs)), .emp, .emp, .emp, x11, x12, .emp, x14, .emp, .val (gsD gsS), .val (.int (t : Nat)), .val (aiD gs t), .emp, .val (orD (oW gs)), .val (orD (oBh gs)), .val (orD o), .emp, .emp, .emp, .emp], ?_, _, Vl.val, rfl⟩
    generalize (EV.R gs.length fun i => PyData.int (i : Nat)) = RR at *
    generalize (PyData.tuple ((List.replicate o.length (0 : Int)).map PyData.int)) = ZZ at *
    generalize orD o = OO at *
    generalize gsD (io gs o) = X2 at *
    generalize (PyData.tuple (wkD gs)) = WW at *
    generalize dlD gs = DD at *
    generalize gsD (mir gs) = Y at *
    generalize gsD gsS = XS at *
    generalize aiD gs t = AA at *
    generalize orD (oW gs) = OW at *
    generalize orD (oBh gs) = OB at *
    generalize gsD gs = X at *
    simp [d1, hX, d2, d3, e_call2, e_call3, d4, d5, d6, oNe_ii])
    ⟨.emp, Vl.emp, rfl⟩
  refine ⟨x22, ?_, hv⟩
  unfold law_17
  simp only [List.map_cons, List.map_nil] at e1
  generalize (PyData.tuple (wkD gs)) = WW at *
  generalize dlD gs = DD at *
  generalize gsD (mir gs) = Y at *
  generalize gsD gsS = XS at *
  generalize aiD gs t = AA at *
  generalize orD (oW gs) = OW at *
  generalize orD (oBh gs) = OB at *
  generalize gsD gs = X at *
  simp [z2]
  rw [e1]
theorem u18  : law_18 [.val (scr ns), .val (lG L dr), .val (.list [.int (pT : Nat)]), .val (.int (n : Nat)), .val (gsD gs), .val (.tuple (wkD gs)), .val (dlD gs), .val (gsD (mir gs)), .emp, .emp, .emp, x11, x12, .emp, x14, .emp, .val (gsD gsS), .val (.int (t : Nat)), .val (aiD gs t), .emp, .val (orD (oW gs)), .val (orD (oBh gs)), x22, .emp, .emp, .emp, .emp] = some (.nx [.val (scr ns), .val (lG L dr), .val (.list [.int (pT : Nat)]), .val (.int (n : Nat)), .val (gsD gs), .val (.tuple (wkD gs)), .val (dlD gs), .val (gsD (mir gs)), .emp, .emp, .emp, x11, x12, .emp, x14, .emp, .val (gsD gsS), .val (.int (t : Nat)), .val (aiD gs t), .emp, .val (orD (oW gs)), .val (orD (oBh gs)), x22, .val (gsD (gs.take 4)), .emp, .emp, .emp]) := by
  have c1 := gs_take4 (gs := gs)
  unfold law_18
  generalize (PyData.tuple (wkD gs)) = WW at *
  generalize dlD gs = DD at *
  generalize gsD (mir gs) = Y at *
  generalize gsD gsS = XS at *
  generalize aiD gs t = AA at *
  generalize orD (oW gs) = OW at *
  generalize orD (oBh gs) = OB at *
  generalize gsD (gs.take 4) = F at *
  generalize gsD gs = X at *
  simp [c1]
theorem u19 (Q : QG n gs) : ∃ (o : List Nat), law_19 [.val (scr ns), .val (lG L dr), .val (.list [.int (pT : Nat)]), .val (.int (n : Nat)), .val (gsD gs), .val (.tuple (wkD gs)), .val (dlD gs), .val (gsD (mir gs)), .emp, .emp, .emp, x11, x12, .emp, x14, .emp, .val (gsD gsS), .val (.int (t : Nat)), .val (aiD gs t), .emp, .val (orD (oW gs)), .val (orD (oBh gs)), x22, .val (gsD (gs.take 4)), .emp, .emp, .emp] = some (.nx [.val (scr ns), .val (lG L dr), .val (.list [.int (pT : Nat)]), .val (.int (n : Nat)), .val (gsD gs), .val (.tuple (wkD gs)), .val (dlD gs), .val (gsD (mir gs)), .emp, .emp, .emp, x11, x12, .emp, x14, .emp, .val (gsD gsS), .val (.int (t : Nat)), .val (aiD gs t), .emp, .val (orD (oW gs)), .val (orD (oBh gs)), x22, .val (gsD (gs.take 4)), .val (.tuple [.int (Eo (gs.take 4) o : Nat), orD o]), .emp, .emp]) ∧ Bst (gs.take 4) o := by
  obtain ⟨o, hB, e⟩ := v_best_order (Q.g.sub (List.take_sublist 4 gs)) (by rw [List.length_take]; omega)
  refine ⟨o, ?_, hB⟩
  unfold law_19
  generalize Eo (gs.take 4) o = m at *
  generalize orD o = O at *
  generalize (PyData.tuple (wkD gs)) = WW at *
  generalize dlD gs = DD at *
  generalize gsD (mir gs) = Y at *
  generalize gsD gsS = XS at *
  generalize aiD gs t = AA at *
  generalize orD (oW gs) = OW at *
  generalize orD (oBh gs) = OB at *
  generalize gsD (gs.take 4) = F at *
  generalize gsD gs = X at *
  simp [e_call2, e]
theorem u20 (Q : QG n gs) (hB : Bst (gs.take 4) o) : law_20 [.val (scr ns), .val (lG L dr), .val (.list [.int (pT : Nat)]), .val (.int (n : Nat)), .val (gsD gs), .val (.tuple (wkD gs)), .val (dlD gs), .val (gsD (mir gs)), .emp, .emp, .emp, x11, x12, .emp, x14, .emp, .val (gsD gsS), .val (.int (t : Nat)), .val (aiD gs t), .emp, .val (orD (oW gs)), .val (orD (oBh gs)), x22, .val (gsD (gs.take 4)), .val (.tuple [.int (Eo (gs.take 4) o : Nat), orD o]), .emp, .emp] = some (.nx [.val (scr ns), .val (lG L dr), .val (.list [.int (pT : Nat)]), .val (.int (n : Nat)), .val (gsD gs), .val (.tuple (wkD gs)), .val (dlD gs), .val (gsD (mir gs)), .emp, .emp, .emp, x11, x12, .emp, x14, .emp, .val (gsD gsS), .val (.int (t : Nat)), .val (aiD gs t), .emp, .val (orD (oW gs)), .val (orD (oBh gs)), x22, .val (gsD (gs.take 4)), .val (.tuple [.int (Eo (gs.take 4) o : Nat), orD o]), .emp, .emp]) := by
  have G := Q.g.sub (List.take_sublist 4 gs)
  have d1 := v_accept G (by rw [List.length_take]; omega) hB
  have d2 := v_put G hB.ok
  have d3 := v_end (G.io hB.ok)
  have d4 := v_end G
  have hid : Or (gs.take 4).length (List.range (gs.take 4).length) := Or.perm (List.Perm.refl _)
  have hle := hB.le _ hid
  have hio : io (gs.take 4) (List.range (gs.take 4).length) = gs.take 4 := by
    refine List.ext_getElem (by rw [List.length_map, List.length_range]) fun i h1 h2 => ?_
    rw [List.getElem_map, List.getElem_range]
    unfold gG
    rw [List.getD_eq_getElem?_getD, List.getElem?_eq_getElem h2]; rfl
  have hle : Eo (gs.take 4) o ≤ En (gs.take 4) := by
    have : Eo (gs.take 4) (List.range (gs.take 4).length) = En (gs.take 4) := by show En (io _ _) = _; rw [hio]
    omega
  have hn : ¬ ((En (gs.take 4) : Nat) : Int) < (Eo (gs.take 4) o : Nat) := by omega
  have hE : En (io (gs.take 4) o) = Eo (gs.take 4) o := rfl
  rw [hE] at d3
  have hn2 : ¬ En (gs.take 4) < Eo (gs.take 4) o := by omega
  unfold law_20
  generalize En (gs.take 4) = E2 at *
  generalize Eo (gs.take 4) o = m at *
  generalize gsD (io (gs.take 4) o) = X2 at *
  generalize orD o = O at *
  generalize (PyData.tuple (wkD gs)) = WW at *
  generalize dlD gs = DD at *
  generalize gsD (mir gs) = Y at *
  generalize gsD gsS = XS at *
  generalize aiD gs t = AA at *
  generalize orD (oW gs) = OW at *
  generalize orD (oBh gs) = OB at *
  generalize gsD (gs.take 4) = F at *
  generalize gsD gs = X at *
  simp [e_call3, d1, d2, e_call2, d3, d4, ix0, ix1, oNe_ii, hn2]
theorem u21 (Q : QG n gs) (hB : Bst (gs.take 4) o) (v22 : Vl x22) : ∃ (x22' : EV.Slot), law_21 [.val (scr ns), .val (lG L dr), .val (.list [.int (pT : Nat)]), .val (.int (n : Nat)), .val (gsD gs), .val (.tuple (wkD gs)), .val (dlD gs), .val (gsD (mir gs)), .emp, .emp, .emp, x11, x12, .emp, x14, .emp, .val (gsD gsS), .val (.int (t : Nat)), .val (aiD gs t), .emp, .val (orD (oW gs)), .val (orD (oBh gs)), x22, .val (gsD (gs.take 4)), .val (.tuple [.int (Eo (gs.take 4) o : Nat), orD o]), .emp, .emp] = some (.nx [.val (scr ns), .val (lG L dr), .val (.list [.int (pT : Nat)]), .val (.int (n : Nat)), .val (gsD gs), .val (.tuple (wkD gs)), .val (dlD gs), .val (gsD (mir gs)), .emp, .emp, .emp, x11, x12, .emp, x14, .emp, .val (gsD gsS), .val (.int (t : Nat)), .val (aiD gs t), .emp, .val (orD (oW gs)), .val (orD (oBh gs)), x22', .val (gsD (gs.take 4)), .val (.tuple [.int (Eo (gs.take 4) o : Nat), orD o]), .emp, .emp]) ∧ Vl x22' := by
  have z3 : 3 ≤ sizeLine := z_size (by omega)
  have G := Q.g.sub (List.take_sublist 4 gs)
  have hl4 : (gs.take 4).length ≤ 4 := by rw [List.length_take]; omega
  have w1 := v_from_windows G
  have w2 := v_from_behind G
  have w3 : oRgT (.int ((gs.take 4).length : Nat)) = some (orD (List.range (gs.take 4).length)) := by
    rw [o_RgT (by omega)]; rfl
  have w4 : oRevT (orD (List.range (gs.take 4).length)) = some (orD (List.range (gs.take 4).length).reverse) := by
    show some (PyData.tuple (List.map _ _).reverse) = some (PyData.tuple (List.map _ _))
    rw [List.map_reverse]
  have hF := gsD_len (gs := gs.take 4)
  obtain ⟨g', e1, x22', hv, rfl⟩ := forGo_l (b := bN 22) (f := (fIfS (tOrD (t2 pbLt (fCall F_end [] (bCons (fV 3) (bCons (fCall F_put [] (bCons (fV 3) (bCons (fV 23) (bCons (fV 22) bNil)))) bNil))) (f2 oIdx (fV 24) (fC (.int 0)))) (tAndD (t2 oEq (fCall F_end [] (bCons (fV 3) (bCons (fCall F_put [] (bCons (fV 3) (bCons (fV 23) (bCons (fV 22) bNil)))) bNil))) (f2 oIdx (fV 24) (fC (.int 0)))) (t2 oLtT (fV 22) (f2 oIdx (fV 24) (fC (.int 1)))))) (fRet (fC (.bool false))) fNx)) (g := [.val (scr ns), .val (lG L dr), .val (.list [.int (pT : Nat)]), .val (.int (n : Nat)), .val (gsD gs), .val (.tuple (wkD gs)), .val (dlD gs), .val (gsD (mir gs)), .emp, .emp, .emp, x11, x12, .emp, x14, .emp, .val (gsD gsS), .val (.int (t : Nat)), .val (aiD gs t), .emp, .val (orD (oW gs)), .val (orD (oBh gs)), x22, .val (gsD (gs.take 4)), .val (.tuple [.int (Eo (gs.take 4) o : Nat), orD o]), .emp, .emp]) orD (xs := [oW (gs.take 4), oBh (gs.take 4), (List.range (gs.take 4).length).reverse]) (fun _ gg => ∃ x22' : EV.Slot, Vl x22' ∧ gg = [.val (scr ns), .val (lG L dr), .val (.list [.int (pT : Nat)]), .val (.int (n : Nat)), .val (gsD gs), .val (.tuple (wkD gs)), .val (dlD gs), .val (gsD (mir gs)), .emp, .emp, .emp, x11, x12, .emp, x14, .emp, .val (gsD gsS), .val (.int (t : Nat)), .val (aiD gs t), .emp, .val (orD (oW gs)), .val (orD (oBh gs)), x22', .val (gsD (gs.take 4)), .val (.tuple [.int (Eo (gs.take 4) o : Nat), orD o]), .emp, .emp]) (by
    rintro pre o' post gg hpre ⟨x22', hv, rfl⟩
    have hm : o' ∈ [oW (gs.take 4), oBh (gs.take 4), (List.range (gs.take 4).length).reverse] := by rw [← hpre]; simp
    have ho : Or (gs.take 4).length o' := by
      simp only [List.mem_cons, List.not_mem_nil, or_false] at hm
      rcases hm with rfl | rfl | rfl
      · exact Or.perm oW_perm
      · exact Or.perm oBh_perm
      · exact rev_or
    have d4 := v_put G ho
    have d5 := v_end (G.io ho)
    have hle := hB.le o' ho
    have hfst := hB.fst o' ho
    have hlt := lt_or (a := o') (b := o)
    have hE : En (io (gs.take 4) o') = Eo (gs.take 4) o' := rfl
    refine ⟨[.val (scr ns), .val (lG L dr), .val (.list [.int (pT : Nat)]), .val (.int (n : Nat)), .val (gsD gs), .val (.tuple (wkD gs)), .val (dlD gs), .val (gsD (mir gs)), .emp, .emp, .emp, x11, x12, .emp, x14, .emp, .val (gsD gsS), .val (.int (t : Nat)), .val (aiD gs t), .emp, .val (orD (oW gs)), .val (orD (oBh gs)), .val (orD o'), .val (gsD (gs.take 4)), .val (.tuple [.int (Eo (gs.take 4) o : Nat), orD o]), .emp, .emp], ?_, _, Vl.val, rfl⟩
    rw [hE] at d5
    generalize Eo (gs.take 4) o' = m2 at *
    generalize Eo (gs.take 4) o = m at *
    generalize orD o' = OO at *
    generalize orD o = OB1 at *
    generalize gsD (io (gs.take 4) o') = X2 at *
    generalize (PyData.tuple (wkD gs)) = WW at *
    generalize dlD gs = DD at *
    generalize gsD (mir gs) = Y at *
    generalize gsD gsS = XS at *
    generalize aiD gs t = AA at *
    generalize orD (oW gs) = OW at *
    generalize orD (oBh gs) = OB at *
    generalize gsD (gs.take 4) = F at *
    generalize gsD gs = X at *
    have n1 : ¬ m2 < m := by omega
    by_cases he : m2 = m
    · rw [hfst he] at hlt
      subst he
      simp [e_call3, d4, e_call2, d5, ix0, ix1, hlt]
    · have hi : ¬ ((m2 : Nat) : Int) = (m : Nat) := by omega
      simp [e_call3, d4, e_call2, d5, ix0, ix1, n1, he, hi])
    ⟨x22, v22, rfl⟩
  refine ⟨x22', ?_, hv⟩
  unfold law_21
  simp only [List.map_cons, List.map_nil] at e1
  generalize orD (List.range (gs.take 4).length).reverse = R1 at *
  generalize orD (List.range (gs.take 4).length) = R2 at *
  generalize orD (oW (gs.take 4)) = OW4 at *
  generalize orD (oBh (gs.take 4)) = OB4 at *
  generalize (gs.take 4).length = LL4 at *
  generalize Eo (gs.take 4) o = m at *
  generalize orD o = O at *
  generalize (PyData.tuple (wkD gs)) = WW at *
  generalize dlD gs = DD at *
  generalize gsD (mir gs) = Y at *
  generalize gsD gsS = XS at *
  generalize aiD gs t = AA at *
  generalize orD (oW gs) = OW at *
  generalize orD (oBh gs) = OB at *
  generalize gsD (gs.take 4) = F at *
  generalize gsD gs = X at *
  simp [e_call2, w1, w2, hF, w3, w4, z3]
  rw [e1]
theorem u22 (Q : QG n gs) (hB : Bst (gs.take 4) o) : law_22 [.val (scr ns), .val (lG L dr), .val (.list [.int (pT : Nat)]), .val (.int (n : Nat)), .val (gsD gs), .val (.tuple (wkD gs)), .val (dlD gs), .val (gsD (mir gs)), .emp, .emp, .emp, x11, x12, .emp, x14, .emp, .val (gsD gsS), .val (.int (t : Nat)), .val (aiD gs t), .emp, .val (orD (oW gs)), .val (orD (oBh gs)), x22', .val (gsD (gs.take 4)), .val (.tuple [.int (Eo (gs.take 4) o : Nat), orD o]), .emp, .emp] = some (.nx [.val (scr ns), .val (lG L dr), .val (.list [.int (pT : Nat)]), .val (.int (n : Nat)), .val (gsD gs), .val (.tuple (wkD gs)), .val (dlD gs), .val (gsD (mir gs)), .emp, .emp, .emp, x11, x12, .emp, x14, .emp, .val (gsD gsS), .val (.int (t : Nat)), .val (aiD gs t), .emp, .val (orD (oW gs)), .val (orD (oBh gs)), x22', .val (gsD (gs.take 4)), .val (.tuple [.int (Eo (gs.take 4) o : Nat), orD o]), .emp, .emp]) := by
  have z3 : 3 ≤ sizeLine := z_size (by omega)
  have G := Q.g.sub (List.take_sublist 4 gs)
  have hl4 : (gs.take 4).length ≤ 4 := by rw [List.length_take]; omega
  have hF := gsD_len (gs := gs.take 4)
  have a1 := fLc_l (e := fun g : Gu => .int (((g.1 : Nat) : Int) - 1 + (g.2.2 : Nat))) (it := (iSeq (fV 23))) (b := (bT (bLen 3 (bsC (bN 8) (bsC (bN 9) (bsC (bN 10) bsN)))))) (tt := tY) (te := (f2 oAdd (f2 oSub (fV 8) (fC (.int 1))) (fV 10))) (vs := [8, 9, 10]) (g := [.val (scr ns), .val (lG L dr), .val (.list [.int (pT : Nat)]), .val (.int (n : Nat)), .val (gsD gs), .val (.tuple (wkD gs)), .val (dlD gs), .val (gsD (mir gs)), .emp, .emp, .emp, x11, x12, .emp, x14, .emp, .val (gsD gsS), .val (.int (t : Nat)), .val (aiD gs t), .emp, .val (orD (oW gs)), .val (orD (oBh gs)), x22', .val (gsD (gs.take 4)), .val (.tuple [.int (Eo (gs.take 4) o : Nat), orD o]), .emp, .emp]) encG (xs := gs.take 4) (by
    generalize orD o = O at *
    generalize (PyData.tuple (wkD gs)) = WW at *
    generalize dlD gs = DD at *
    generalize gsD (mir gs) = Y at *
    generalize gsD gsS = XS at *
    generalize aiD gs t = AA at *
    generalize orD (oW gs) = OW at *
    generalize orD (oBh gs) = OB at *
    generalize gsD gs = X at *
    simp [-List.map_take]) rfl (z_size (by omega)) (fun g hg => by
    generalize orD o = O at *
    generalize (PyData.tuple (wkD gs)) = WW at *
    generalize dlD gs = DD at *
    generalize gsD (mir gs) = Y at *
    generalize gsD gsS = XS at *
    generalize aiD gs t = AA at *
    generalize orD (oW gs) = OW at *
    generalize orD (oBh gs) = OB at *
    generalize gsD (gs.take 4) = F at *
    generalize gsD gs = X at *
    simp [trn, wipeG])
  by_cases hne : gs.take 4 = []
  · have hb : (gs.take 4).length = 0 := by rw [hne]; rfl
    unfold law_22
    rw [hne]
    generalize (Eo [] o) = m at *
    generalize orD o = O at *
    generalize (PyData.tuple (wkD gs)) = WW at *
    generalize dlD gs = DD at *
    generalize gsD (mir gs) = Y at *
    generalize gsD gsS = XS at *
    generalize aiD gs t = AA at *
    generalize orD (oW gs) = OW at *
    generalize orD (oBh gs) = OB at *
    generalize gsD gs = X at *
    simp
  · obtain ⟨mm, hM, hle⟩ := max_need hB.ok (fun g hg => (G.r30 g hg).1) hne
    have hpos : 1 ≤ (gs.take 4).length := by cases h : gs.take 4 with
      | nil => exact absurd h hne
      | cons a b => simp
    have hdr := gsD_drop (gs := gs.take 4) (m := 1) hpos
    obtain ⟨o2, hB2, d2⟩ := v_best_order (G.sub (List.drop_sublist 1 (gs.take 4))) (by rw [List.length_drop]; omega)
    have hless := best_less G hB hB2 hpos
    have hn1 : ¬ ((Eo (gs.take 4) o : Nat) : Int) < mm := by omega
    have hn2 : ¬ ((Eo (gs.take 4) o : Nat) : Int) < (Eo ((gs.take 4).drop 1) o2 : Nat) := by omega
    have hn3 : ¬ Eo (gs.take 4) o < Eo ((gs.take 4).drop 1) o2 := by omega
    have htr : truD (gsD (gs.take 4)) = some true := by
      cases h : gs.take 4 with
      | nil => exact absurd h hne
      | cons a b => rfl
    unfold law_22
    generalize ((gs.take 4).map fun g : Gu => PyData.int (((g.1 : Nat) : Int) - 1 + (g.2.2 : Nat))) = U at *
    simp only [oMax] at hM
    generalize Eo ((gs.take 4).drop 1) o2 = m2 at *
    generalize Eo (gs.take 4) o = m at *
    generalize orD o2 = O2 at *
    generalize orD o = O at *
    have hdr : oSlT (gsD (gs.take 4)) (some 1) none = some (gsD ((gs.take 4).drop 1)) := hdr
    generalize gsD ((gs.take 4).drop 1) = F1 at *
    generalize (gs.take 4).length = LL at *
    generalize (PyData.tuple (wkD gs)) = WW at *
    generalize dlD gs = DD at *
    generalize gsD (mir gs) = Y at *
    generalize gsD gsS = XS at *
    generalize aiD gs t = AA at *
    generalize orD (oW gs) = OW at *
    generalize orD (oBh gs) = OB at *
    generalize gsD (gs.take 4) = F at *
    generalize gsD gs = X at *
    by_cases h1 : 1 < LL
    · simp [htr, ix0, a1, -e_fLc, hM, hn1, hF, h1, hdr, e_call2, d2, hn3]
    · have h1i : ¬ (1 : Int) < (LL : Nat) := by omega
      simp [htr, ix0, a1, -e_fLc, hM, hn1, hF, h1, h1i]
theorem u23  : law_23 [.val (scr ns), .val (lG L dr), .val (.list [.int (pT : Nat)]), .val (.int (n : Nat)), .val (gsD gs), .val (.tuple (wkD gs)), .val (dlD gs), .val (gsD (mir gs)), .emp, .emp, .emp, x11, x12, .emp, x14, .emp, .val (gsD gsS), .val (.int (t : Nat)), .val (aiD gs t), .emp, .val (orD (oW gs)), .val (orD (oBh gs)), x22', .val (gsD (gs.take 4)), .val (.tuple [.int (Eo (gs.take 4) o : Nat), orD o]), .emp, .emp] = some (.nx [.val (scr ns), .val (lG L dr), .val (.list [.int (pT : Nat)]), .val (.int (n : Nat)), .val (gsD gs), .val (.tuple (wkD gs)), .val (dlD gs), .val (gsD (mir gs)), .emp, .emp, .emp, x11, x12, .emp, x14, .emp, .val (gsD gsS), .val (.int (t : Nat)), .val (aiD gs t), .emp, .val (orD (oW gs)), .val (orD (oBh gs)), x22', .val (gsD (gs.take 4)), .val (.tuple [.int (Eo (gs.take 4) o : Nat), orD o]), .val (gsD sg3), .emp]) := by
  have z3 : 3 ≤ sizeLine := z_size (by omega)
  have e3 : gsD sg3 = .tuple [.tuple [.int 1, .int 1, .int 2], .tuple [.int 1, .int 2, .int 2], .tuple [.int 1, .int 3, .int 2]] := rfl
  unfold law_23
  rw [e3]
  generalize (PyData.tuple (wkD gs)) = WW at *
  generalize dlD gs = DD at *
  generalize gsD (mir gs) = Y at *
  generalize gsD gsS = XS at *
  generalize aiD gs t = AA at *
  generalize orD (oW gs) = OW at *
  generalize orD (oBh gs) = OB at *
  generalize gsD (gs.take 4) = F at *
  generalize gsD gs = X at *
  generalize Eo (gs.take 4) o = m at *
  generalize orD o = O at *
  simp [z3, noOwn, wipeG, lcGo, backG]
theorem u24  : law_24 [.val (scr ns), .val (lG L dr), .val (.list [.int (pT : Nat)]), .val (.int (n : Nat)), .val (gsD gs), .val (.tuple (wkD gs)), .val (dlD gs), .val (gsD (mir gs)), .emp, .emp, .emp, x11, x12, .emp, x14, .emp, .val (gsD gsS), .val (.int (t : Nat)), .val (aiD gs t), .emp, .val (orD (oW gs)), .val (orD (oBh gs)), x22', .val (gsD (gs.take 4)), .val (.tuple [.int (Eo (gs.take 4) o : Nat), orD o]), .val (gsD sg3), .emp] = some (.nx [.val (scr ns), .val (lG L dr), .val (.list [.int (pT : Nat)]), .val (.int (n : Nat)), .val (gsD gs), .val (.tuple (wkD gs)), .val (dlD gs), .val (gsD (mir gs)), .emp, .emp, .emp, x11, x12, .emp, x14, .emp, .val (gsD gsS), .val (.int (t : Nat)), .val (aiD gs t), .emp, .val (orD (oW gs)), .val (orD (oBh gs)), x22', .val (gsD (gs.take 4)), .val (.tuple [.int (Eo (gs.take 4) o : Nat), orD o]), .val (gsD sg3), .emp]) := by
  have z3 : 3 ≤ sizeLine := z_size (by omega)
  have d1 := v_stands sg3_gg
  have d2 := v_end sg3_gg
  have d3 := v_stands sg3r_gg
  have d4 := v_end sg3r_gg
  rw [sg3_st] at d1
  rw [sg3r_st] at d3
  rw [sg3_en] at d2
  rw [sg3r_en] at d4
  have hr : oRevT (gsD sg3) = some (gsD sg3.reverse) := rfl
  have n1 : oNeD (.tuple [.int 0, .int 1, .int 2]) (.tuple [.int 0, .int 1, .int 2]) = some false := by decide +kernel
  have n2 : oNeD (.tuple [.int 0, .int 0, .int 0]) (.tuple [.int 0, .int 0, .int 0]) = some false := by decide +kernel
  have d1 : vF F_stands [.val (.int 2), .val (gsD sg3)] = some (.tuple [.int 0, .int 1, .int 2]) := d1
  have d2 : vF F_end [.val (.int 2), .val (gsD sg3)] = some (.int 9) := d2
  have d3 : vF F_stands [.val (.int 2), .val (gsD sg3.reverse)] = some (.tuple [.int 0, .int 0, .int 0]) := d3
  have d4 : vF F_end [.val (.int 2), .val (gsD sg3.reverse)] = some (.int 6) := d4
  unfold law_24
  generalize gsD sg3.reverse = S2 at *
  generalize gsD sg3 = S1 at *
  generalize (PyData.tuple (wkD gs)) = WW at *
  generalize dlD gs = DD at *
  generalize gsD (mir gs) = Y at *
  generalize gsD gsS = XS at *
  generalize aiD gs t = AA at *
  generalize orD (oW gs) = OW at *
  generalize orD (oBh gs) = OB at *
  generalize gsD (gs.take 4) = F at *
  generalize gsD gs = X at *
  generalize Eo (gs.take 4) o = m at *
  generalize orD o = O at *
  simp [e_call2, d1, d2, d3, d4, hr, n1, n2, z3, oNe_ii]
theorem u25  : law_25 [.val (scr ns), .val (lG L dr), .val (.list [.int (pT : Nat)]), .val (.int (n : Nat)), .val (gsD gs), .val (.tuple (wkD gs)), .val (dlD gs), .val (gsD (mir gs)), .emp, .emp, .emp, x11, x12, .emp, x14, .emp, .val (gsD gsS), .val (.int (t : Nat)), .val (aiD gs t), .emp, .val (orD (oW gs)), .val (orD (oBh gs)), x22', .val (gsD (gs.take 4)), .val (.tuple [.int (Eo (gs.take 4) o : Nat), orD o]), .val (gsD sg3), .emp] = some (.nx [.val (scr ns), .val (lG L dr), .val (.list [.int (pT : Nat)]), .val (.int (n : Nat)), .val (gsD gs), .val (.tuple (wkD gs)), .val (dlD gs), .val (gsD (mir gs)), .emp, .emp, .emp, x11, x12, .emp, x14, .emp, .val (gsD gsS), .val (.int (t : Nat)), .val (aiD gs t), .emp, .val (orD (oW gs)), .val (orD (oBh gs)), x22', .val (gsD (gs.take 4)), .val (.tuple [.int (Eo (gs.take 4) o : Nat), orD o]), .val (gsD sg3), .val (gsD col)]) := by
  have z3 : 3 ≤ sizeLine := z_size (by omega)
  have z5 : 5 ≤ sizeLine := z_size (by omega)
  have o1 : okB 1 = true := by decide +kernel
  have o6 : okB 6 = true := by decide +kernel
  have e3 : gsD col = .tuple (EV.R 5 fun i => .tuple [.int ((1 : Int) + (i : Nat) * 1), .int 1, .int 1]) := rfl
  have a1 := fLc_map (n := 5) (h := fun i => .int ((1 : Int) + (i : Nat) * 1)) (f := fun i => .tuple [.int ((1 : Int) + (i : Nat) * 1), .int 1, .int 1]) (it := (iRng2 (aC (fC (.int 1)) (aC (fN oMin2 (aC (fC (.int 6)) (aC (fC (.int 30)) aN))) aN)))) (b := bN 8) (tt := tY) (te := (fTup (aC (fV 8) (aC (fC (.int 1)) (aC (fC (.int 1)) aN))))) (vs := [8]) (g := [.val (scr ns), .val (lG L dr), .val (.list [.int (pT : Nat)]), .val (.int (n : Nat)), .val (gsD gs), .val (.tuple (wkD gs)), .val (dlD gs), .val (gsD (mir gs)), .emp, .emp, .emp, x11, x12, .emp, x14, .emp, .val (gsD gsS), .val (.int (t : Nat)), .val (aiD gs t), .emp, .val (orD (oW gs)), .val (orD (oBh gs)), x22', .val (gsD (gs.take 4)), .val (.tuple [.int (Eo (gs.take 4) o : Nat), orD o]), .val (gsD sg3), .emp]) (by
    generalize gsD sg3 = S1 at *
    generalize (PyData.tuple (wkD gs)) = WW at *
    generalize dlD gs = DD at *
    generalize gsD (mir gs) = Y at *
    generalize gsD gsS = XS at *
    generalize aiD gs t = AA at *
    generalize orD (oW gs) = OW at *
    generalize orD (oBh gs) = OB at *
    generalize gsD (gs.take 4) = F at *
    generalize gsD gs = X at *
    generalize Eo (gs.take 4) o = m at *
    generalize orD o = O at *
    simp [o1, o6, rngD_R]) rfl (by omega) (fun i hi => by
    generalize gsD sg3 = S1 at *
    generalize (PyData.tuple (wkD gs)) = WW at *
    generalize dlD gs = DD at *
    generalize gsD (mir gs) = Y at *
    generalize gsD gsS = XS at *
    generalize aiD gs t = AA at *
    generalize orD (oW gs) = OW at *
    generalize orD (oBh gs) = OB at *
    generalize gsD (gs.take 4) = F at *
    generalize gsD gs = X at *
    generalize Eo (gs.take 4) o = m at *
    generalize orD o = O at *
    simp [trn, wipeG, z3])
  unfold law_25
  rw [e3]
  generalize (EV.R 5 fun i => PyData.tuple [.int ((1 : Int) + (i : Nat) * 1), .int 1, .int 1]) = U at *
  generalize gsD sg3 = S1 at *
  generalize (PyData.tuple (wkD gs)) = WW at *
  generalize dlD gs = DD at *
  generalize gsD (mir gs) = Y at *
  generalize gsD gsS = XS at *
  generalize aiD gs t = AA at *
  generalize orD (oW gs) = OW at *
  generalize orD (oBh gs) = OB at *
  generalize gsD (gs.take 4) = F at *
  generalize gsD gs = X at *
  generalize Eo (gs.take 4) o = m at *
  generalize orD o = O at *
  simp [a1, -e_fLc]
theorem u26 (Q : QG n gs) : law_26 [.val (scr ns), .val (lG L dr), .val (.list [.int (pT : Nat)]), .val (.int (n : Nat)), .val (gsD gs), .val (.tuple (wkD gs)), .val (dlD gs), .val (gsD (mir gs)), .emp, .emp, .emp, x11, x12, .emp, x14, .emp, .val (gsD gsS), .val (.int (t : Nat)), .val (aiD gs t), .emp, .val (orD (oW gs)), .val (orD (oBh gs)), x22', .val (gsD (gs.take 4)), .val (.tuple [.int (Eo (gs.take 4) o : Nat), orD o]), .val (gsD sg3), .val (gsD col)] = some (.rt (.bool true) [.val (scr ns), .val (lG L dr), .val (.list [.int (pT : Nat)]), .val (.int (n : Nat)), .val (gsD gs), .val (.tuple (wkD gs)), .val (dlD gs), .val (gsD (mir gs)), .emp, .emp, .emp, x11, x12, .emp, x14, .emp, .val (gsD gsS), .val (.int (t : Nat)), .val (aiD gs t), .emp, .val (orD (oW gs)), .val (orD (oBh gs)), x22', .val (gsD (gs.take 4)), .val (.tuple [.int (Eo (gs.take 4) o : Nat), orD o]), .val (gsD sg3), .val (gsD col)]) := by
  have hl := Q.l
  have d1 := v_end col_gg
  have d2 := v_end colr_gg
  have d1 : vF F_end [.val (.int 30), .val (gsD col)] = some (.int (En col : Nat)) := d1
  have d2 : vF F_end [.val (.int 30), .val (gsD col.reverse)] = some (.int (En col.reverse : Nat)) := d2
  have hle := col_en
  have hr : oRevT (gsD col) = some (gsD col.reverse) := rfl
  have hX := gsD_len (gs := gs)
  have g1 : ((gs.length : Nat) : Int) ≤ 24 := by omega
  unfold law_26
  generalize En col.reverse = E1 at *
  generalize En col = E2 at *
  generalize gsD col.reverse = C2 at *
  generalize gsD col = C1 at *
  generalize gsD sg3 = S1 at *
  generalize (PyData.tuple (wkD gs)) = WW at *
  generalize dlD gs = DD at *
  generalize gsD (mir gs) = Y at *
  generalize gsD gsS = XS at *
  generalize aiD gs t = AA at *
  generalize orD (oW gs) = OW at *
  generalize orD (oBh gs) = OB at *
  generalize gsD (gs.take 4) = F at *
  generalize gsD gs = X at *
  generalize Eo (gs.take 4) o = m at *
  generalize orD o = O at *
  simp [e_call2, hr, d1, d2, pLeD, hle, hX, g1]
theorem law_ok (ns : List Int) : ∃ g', F_law [.val (scr ns)] = some (.bool true, g') := by
  have key : ∃ g', b_law ([.val (scr ns)] ++ List.replicate 26 .emp) = some (.rt (.bool true) g') := by
    obtain ⟨L, dr, s1, hD⟩ : ∃ L dr, law_1 [.val (scr ns), .emp, .emp, .emp, .emp, .emp, .emp, .emp, .emp, .emp, .emp, .emp, .emp, .emp, .emp, .emp, .emp, .emp, .emp, .emp, .emp, .emp, .emp, .emp, .emp, .emp, .emp] = some (.nx [.val (scr ns), .val (lG L dr), .emp, .emp, .emp, .emp, .emp, .emp, .emp, .emp, .emp, .emp, .emp, .emp, .emp, .emp, .emp, .emp, .emp, .emp, .emp, .emp, .emp, .emp, .emp, .emp, .emp]) ∧ Dr L dr := u1 ns
    have s2 : law_2 [.val (scr ns), .val (lG L dr), .emp, .emp, .emp, .emp, .emp, .emp, .emp, .emp, .emp, .emp, .emp, .emp, .emp, .emp, .emp, .emp, .emp, .emp, .emp, .emp, .emp, .emp, .emp, .emp, .emp] = some (.nx [.val (scr ns), .val (lG L dr), .own false (.list [.int 0]), .emp, .emp, .emp, .emp, .emp, .emp, .emp, .emp, .emp, .emp, .emp, .emp, .emp, .emp, .emp, .emp, .emp, .emp, .emp, .emp, .emp, .emp, .emp, .emp]) := u2 
    obtain ⟨n, p3, s3, hn1, hn2, hp3⟩ : ∃ (n p3 : Nat), law_3 [.val (scr ns), .val (lG L dr), .own false (.list [.int 0]), .emp, .emp, .emp, .emp, .emp, .emp, .emp, .emp, .emp, .emp, .emp, .emp, .emp, .emp, .emp, .emp, .emp, .emp, .emp, .emp, .emp, .emp, .emp, .emp] = some (.nx [.val (scr ns), .val (lG L dr), .own false (.list [.int (p3 : Nat)]), .val (.int (n : Nat)), .emp, .emp, .emp, .emp, .emp, .emp, .emp, .emp, .emp, .emp, .emp, .emp, .emp, .emp, .emp, .emp, .emp, .emp, .emp, .emp, .emp, .emp, .emp]) ∧ 1 ≤ n ∧ n ≤ 12 ∧ p3 ≤ 1 := u3 hD
    obtain ⟨gs, p4, s4, Q, hp4⟩ : ∃ (gs : List Gu) (p4 : Nat), law_4 [.val (scr ns), .val (lG L dr), .own false (.list [.int (p3 : Nat)]), .val (.int (n : Nat)), .emp, .emp, .emp, .emp, .emp, .emp, .emp, .emp, .emp, .emp, .emp, .emp, .emp, .emp, .emp, .emp, .emp, .emp, .emp, .emp, .emp, .emp, .emp] = some (.nx [.val (scr ns), .val (lG L dr), .own false (.list [.int (p4 : Nat)]), .val (.int (n : Nat)), .val (gsD gs), .emp, .emp, .emp, .emp, .emp, .emp, .emp, .emp, .emp, .emp, .emp, .emp, .emp, .emp, .emp, .emp, .emp, .emp, .emp, .emp, .emp, .emp]) ∧ QG n gs ∧ p4 ≤ 40 := u4 hD hn1 hn2 hp3
    have s5 : law_5 [.val (scr ns), .val (lG L dr), .own false (.list [.int (p4 : Nat)]), .val (.int (n : Nat)), .val (gsD gs), .emp, .emp, .emp, .emp, .emp, .emp, .emp, .emp, .emp, .emp, .emp, .emp, .emp, .emp, .emp, .emp, .emp, .emp, .emp, .emp, .emp, .emp] = some (.nx [.val (scr ns), .val (lG L dr), .own false (.list [.int (p4 : Nat)]), .val (.int (n : Nat)), .val (gsD gs), .val (.tuple (wkD gs)), .val (dlD gs), .emp, .emp, .emp, .emp, .emp, .emp, .emp, .emp, .emp, .emp, .emp, .emp, .emp, .emp, .emp, .emp, .emp, .emp, .emp, .emp]) := u5 Q
    have s6 : law_6 [.val (scr ns), .val (lG L dr), .own false (.list [.int (p4 : Nat)]), .val (.int (n : Nat)), .val (gsD gs), .val (.tuple (wkD gs)), .val (dlD gs), .emp, .emp, .emp, .emp, .emp, .emp, .emp, .emp, .emp, .emp, .emp, .emp, .emp, .emp, .emp, .emp, .emp, .emp, .emp, .emp] = some (.nx [.val (scr ns), .val (lG L dr), .own false (.list [.int (p4 : Nat)]), .val (.int (n : Nat)), .val (gsD gs), .val (.tuple (wkD gs)), .val (dlD gs), .val (gsD (mir gs)), .emp, .emp, .emp, .emp, .emp, .emp, .emp, .emp, .emp, .emp, .emp, .emp, .emp, .emp, .emp, .emp, .emp, .emp, .emp]) := u6 Q
    have s7 : law_7 [.val (scr ns), .val (lG L dr), .own false (.list [.int (p4 : Nat)]), .val (.int (n : Nat)), .val (gsD gs), .val (.tuple (wkD gs)), .val (dlD gs), .val (gsD (mir gs)), .emp, .emp, .emp, .emp, .emp, .emp, .emp, .emp, .emp, .emp, .emp, .emp, .emp, .emp, .emp, .emp, .emp, .emp, .emp] = some (.nx [.val (scr ns), .val (lG L dr), .own false (.list [.int (p4 : Nat)]), .val (.int (n : Nat)), .val (gsD gs), .val (.tuple (wkD gs)), .val (dlD gs), .val (gsD (mir gs)), .emp, .emp, .emp, .emp, .emp, .emp, .emp, .emp, .emp, .emp, .emp, .emp, .emp, .emp, .emp, .emp, .emp, .emp, .emp]) := u7 Q
    have s8 : law_8 [.val (scr ns), .val (lG L dr), .own false (.list [.int (p4 : Nat)]), .val (.int (n : Nat)), .val (gsD gs), .val (.tuple (wkD gs)), .val (dlD gs), .val (gsD (mir gs)), .emp, .emp, .emp, .emp, .emp, .emp, .emp, .emp, .emp, .emp, .emp, .emp, .emp, .emp, .emp, .emp, .emp, .emp, .emp] = some (.nx [.val (scr ns), .val (lG L dr), .own false (.list [.int (p4 : Nat)]), .val (.int (n : Nat)), .val (gsD gs), .val (.tuple (wkD gs)), .val (dlD gs), .val (gsD (mir gs)), .emp, .emp, .emp, .emp, .emp, .emp, .emp, .emp, .emp, .emp, .emp, .emp, .emp, .emp, .emp, .emp, .emp, .emp, .emp]) := u8 Q
    obtain ⟨x11, x12, x14, s9, v11, v12, v14⟩ : ∃ (x11 x12 x14 : EV.Slot), law_9 [.val (scr ns), .val (lG L dr), .own false (.list [.int (p4 : Nat)]), .val (.int (n : Nat)), .val (gsD gs), .val (.tuple (wkD gs)), .val (dlD gs), .val (gsD (mir gs)), .emp, .emp, .emp, .emp, .emp, .emp, .emp, .emp, .emp, .emp, .emp, .emp, .emp, .emp, .emp, .emp, .emp, .emp, .emp] = some (.nx [.val (scr ns), .val (lG L dr), .own false (.list [.int (p4 : Nat)]), .val (.int (n : Nat)), .val (gsD gs), .val (.tuple (wkD gs)), .val (dlD gs), .val (gsD (mir gs)), .emp, .emp, .emp, x11, x12, .emp, x14, .emp, .emp, .emp, .emp, .emp, .emp, .emp, .emp, .emp, .emp, .emp, .emp]) ∧ Vl x11 ∧ Vl x12 ∧ Vl x14 := u9 Q
    obtain ⟨gsS, pS, s10, hS, hpS⟩ : ∃ (gsS : List Gu) (pS : Nat), law_10 [.val (scr ns), .val (lG L dr), .own false (.list [.int (p4 : Nat)]), .val (.int (n : Nat)), .val (gsD gs), .val (.tuple (wkD gs)), .val (dlD gs), .val (gsD (mir gs)), .emp, .emp, .emp, x11, x12, .emp, x14, .emp, .emp, .emp, .emp, .emp, .emp, .emp, .emp, .emp, .emp, .emp, .emp] = some (.nx [.val (scr ns), .val (lG L dr), .own false (.list [.int (pS : Nat)]), .val (.int (n : Nat)), .val (gsD gs), .val (.tuple (wkD gs)), .val (dlD gs), .val (gsD (mir gs)), .emp, .emp, .emp, x11, x12, .emp, x14, .emp, .val (gsD gsS), .emp, .emp, .emp, .emp, .emp, .emp, .emp, .emp, .emp, .emp]) ∧ Slow gs gsS ∧ pS ≤ 50 := u10 hD Q hp4
    have s11 : law_11 [.val (scr ns), .val (lG L dr), .own false (.list [.int (pS : Nat)]), .val (.int (n : Nat)), .val (gsD gs), .val (.tuple (wkD gs)), .val (dlD gs), .val (gsD (mir gs)), .emp, .emp, .emp, x11, x12, .emp, x14, .emp, .val (gsD gsS), .emp, .emp, .emp, .emp, .emp, .emp, .emp, .emp, .emp, .emp] = some (.nx [.val (scr ns), .val (lG L dr), .own false (.list [.int (pS : Nat)]), .val (.int (n : Nat)), .val (gsD gs), .val (.tuple (wkD gs)), .val (dlD gs), .val (gsD (mir gs)), .emp, .emp, .emp, x11, x12, .emp, x14, .emp, .val (gsD gsS), .emp, .emp, .emp, .emp, .emp, .emp, .emp, .emp, .emp, .emp]) := u11 Q hS v14
    obtain ⟨t, pT, s12, ht⟩ : ∃ (t pT : Nat), law_12 [.val (scr ns), .val (lG L dr), .own false (.list [.int (pS : Nat)]), .val (.int (n : Nat)), .val (gsD gs), .val (.tuple (wkD gs)), .val (dlD gs), .val (gsD (mir gs)), .emp, .emp, .emp, x11, x12, .emp, x14, .emp, .val (gsD gsS), .emp, .emp, .emp, .emp, .emp, .emp, .emp, .emp, .emp, .emp] = some (.nx [.val (scr ns), .val (lG L dr), .own false (.list [.int (pT : Nat)]), .val (.int (n : Nat)), .val (gsD gs), .val (.tuple (wkD gs)), .val (dlD gs), .val (gsD (mir gs)), .emp, .emp, .emp, x11, x12, .emp, x14, .emp, .val (gsD gsS), .val (.int (t : Nat)), .emp, .emp, .emp, .emp, .emp, .emp, .emp, .emp, .emp]) ∧ t < En gs + 2 := u12 hD Q hpS
    have s13 : law_13 [.val (scr ns), .val (lG L dr), .val (.list [.int (pT : Nat)]), .val (.int (n : Nat)), .val (gsD gs), .val (.tuple (wkD gs)), .val (dlD gs), .val (gsD (mir gs)), .emp, .emp, .emp, x11, x12, .emp, x14, .emp, .val (gsD gsS), .val (.int (t : Nat)), .emp, .emp, .emp, .emp, .emp, .emp, .emp, .emp, .emp] = some (.nx [.val (scr ns), .val (lG L dr), .val (.list [.int (pT : Nat)]), .val (.int (n : Nat)), .val (gsD gs), .val (.tuple (wkD gs)), .val (dlD gs), .val (gsD (mir gs)), .emp, .emp, .emp, x11, x12, .emp, x14, .emp, .val (gsD gsS), .val (.int (t : Nat)), .val (aiD gs t), .emp, .emp, .emp, .emp, .emp, .emp, .emp, .emp]) := u13 Q ht
    have s14 : law_14 [.val (scr ns), .val (lG L dr), .val (.list [.int (pT : Nat)]), .val (.int (n : Nat)), .val (gsD gs), .val (.tuple (wkD gs)), .val (dlD gs), .val (gsD (mir gs)), .emp, .emp, .emp, x11, x12, .emp, x14, .emp, .val (gsD gsS), .val (.int (t : Nat)), .val (aiD gs t), .emp, .emp, .emp, .emp, .emp, .emp, .emp, .emp] = some (.nx [.val (scr ns), .val (lG L dr), .val (.list [.int (pT : Nat)]), .val (.int (n : Nat)), .val (gsD gs), .val (.tuple (wkD gs)), .val (dlD gs), .val (gsD (mir gs)), .emp, .emp, .emp, x11, x12, .emp, x14, .emp, .val (gsD gsS), .val (.int (t : Nat)), .val (aiD gs t), .emp, .emp, .emp, .emp, .emp, .emp, .emp, .emp]) := u14 Q v14
    have s15 : law_15 [.val (scr ns), .val (lG L dr), .val (.list [.int (pT : Nat)]), .val (.int (n : Nat)), .val (gsD gs), .val (.tuple (wkD gs)), .val (dlD gs), .val (gsD (mir gs)), .emp, .emp, .emp, x11, x12, .emp, x14, .emp, .val (gsD gsS), .val (.int (t : Nat)), .val (aiD gs t), .emp, .emp, .emp, .emp, .emp, .emp, .emp, .emp] = some (.nx [.val (scr ns), .val (lG L dr), .val (.list [.int (pT : Nat)]), .val (.int (n : Nat)), .val (gsD gs), .val (.tuple (wkD gs)), .val (dlD gs), .val (gsD (mir gs)), .emp, .emp, .emp, x11, x12, .emp, x14, .emp, .val (gsD gsS), .val (.int (t : Nat)), .val (aiD gs t), .emp, .emp, .emp, .emp, .emp, .emp, .emp, .emp]) := u15 Q v11 v12
    have s16 : law_16 [.val (scr ns), .val (lG L dr), .val (.list [.int (pT : Nat)]), .val (.int (n : Nat)), .val (gsD gs), .val (.tuple (wkD gs)), .val (dlD gs), .val (gsD (mir gs)), .emp, .emp, .emp, x11, x12, .emp, x14, .emp, .val (gsD gsS), .val (.int (t : Nat)), .val (aiD gs t), .emp, .emp, .emp, .emp, .emp, .emp, .emp, .emp] = some (.nx [.val (scr ns), .val (lG L dr), .val (.list [.int (pT : Nat)]), .val (.int (n : Nat)), .val (gsD gs), .val (.tuple (wkD gs)), .val (dlD gs), .val (gsD (mir gs)), .emp, .emp, .emp, x11, x12, .emp, x14, .emp, .val (gsD gsS), .val (.int (t : Nat)), .val (aiD gs t), .emp, .val (orD (oW gs)), .val (orD (oBh gs)), .emp, .emp, .emp, .emp, .emp]) := u16 Q
    obtain ⟨x22, s17, v22⟩ : ∃ (x22 : EV.Slot), law_17 [.val (scr ns), .val (lG L dr), .val (.list [.int (pT : Nat)]), .val (.int (n : Nat)), .val (gsD gs), .val (.tuple (wkD gs)), .val (dlD gs), .val (gsD (mir gs)), .emp, .emp, .emp, x11, x12, .emp, x14, .emp, .val (gsD gsS), .val (.int (t : Nat)), .val (aiD gs t), .emp, .val (orD (oW gs)), .val (orD (oBh gs)), .emp, .emp, .emp, .emp, .emp] = some (.nx [.val (scr ns), .val (lG L dr), .val (.list [.int (pT : Nat)]), .val (.int (n : Nat)), .val (gsD gs), .val (.tuple (wkD gs)), .val (dlD gs), .val (gsD (mir gs)), .emp, .emp, .emp, x11, x12, .emp, x14, .emp, .val (gsD gsS), .val (.int (t : Nat)), .val (aiD gs t), .emp, .val (orD (oW gs)), .val (orD (oBh gs)), x22, .emp, .emp, .emp, .emp]) ∧ Vl x22 := u17 Q
    have s18 : law_18 [.val (scr ns), .val (lG L dr), .val (.list [.int (pT : Nat)]), .val (.int (n : Nat)), .val (gsD gs), .val (.tuple (wkD gs)), .val (dlD gs), .val (gsD (mir gs)), .emp, .emp, .emp, x11, x12, .emp, x14, .emp, .val (gsD gsS), .val (.int (t : Nat)), .val (aiD gs t), .emp, .val (orD (oW gs)), .val (orD (oBh gs)), x22, .emp, .emp, .emp, .emp] = some (.nx [.val (scr ns), .val (lG L dr), .val (.list [.int (pT : Nat)]), .val (.int (n : Nat)), .val (gsD gs), .val (.tuple (wkD gs)), .val (dlD gs), .val (gsD (mir gs)), .emp, .emp, .emp, x11, x12, .emp, x14, .emp, .val (gsD gsS), .val (.int (t : Nat)), .val (aiD gs t), .emp, .val (orD (oW gs)), .val (orD (oBh gs)), x22, .val (gsD (gs.take 4)), .emp, .emp, .emp]) := u18 
    obtain ⟨o, s19, hB⟩ : ∃ (o : List Nat), law_19 [.val (scr ns), .val (lG L dr), .val (.list [.int (pT : Nat)]), .val (.int (n : Nat)), .val (gsD gs), .val (.tuple (wkD gs)), .val (dlD gs), .val (gsD (mir gs)), .emp, .emp, .emp, x11, x12, .emp, x14, .emp, .val (gsD gsS), .val (.int (t : Nat)), .val (aiD gs t), .emp, .val (orD (oW gs)), .val (orD (oBh gs)), x22, .val (gsD (gs.take 4)), .emp, .emp, .emp] = some (.nx [.val (scr ns), .val (lG L dr), .val (.list [.int (pT : Nat)]), .val (.int (n : Nat)), .val (gsD gs), .val (.tuple (wkD gs)), .val (dlD gs), .val (gsD (mir gs)), .emp, .emp, .emp, x11, x12, .emp, x14, .emp, .val (gsD gsS), .val (.int (t : Nat)), .val (aiD gs t), .emp, .val (orD (oW gs)), .val (orD (oBh gs)), x22, .val (gsD (gs.take 4)), .val (.tuple [.int (Eo (gs.take 4) o : Nat), orD o]), .emp, .emp]) ∧ Bst (gs.take 4) o := u19 Q
    have s20 : law_20 [.val (scr ns), .val (lG L dr), .val (.list [.int (pT : Nat)]), .val (.int (n : Nat)), .val (gsD gs), .val (.tuple (wkD gs)), .val (dlD gs), .val (gsD (mir gs)), .emp, .emp, .emp, x11, x12, .emp, x14, .emp, .val (gsD gsS), .val (.int (t : Nat)), .val (aiD gs t), .emp, .val (orD (oW gs)), .val (orD (oBh gs)), x22, .val (gsD (gs.take 4)), .val (.tuple [.int (Eo (gs.take 4) o : Nat), orD o]), .emp, .emp] = some (.nx [.val (scr ns), .val (lG L dr), .val (.list [.int (pT : Nat)]), .val (.int (n : Nat)), .val (gsD gs), .val (.tuple (wkD gs)), .val (dlD gs), .val (gsD (mir gs)), .emp, .emp, .emp, x11, x12, .emp, x14, .emp, .val (gsD gsS), .val (.int (t : Nat)), .val (aiD gs t), .emp, .val (orD (oW gs)), .val (orD (oBh gs)), x22, .val (gsD (gs.take 4)), .val (.tuple [.int (Eo (gs.take 4) o : Nat), orD o]), .emp, .emp]) := u20 Q hB
    obtain ⟨x22', s21, v22'⟩ : ∃ (x22' : EV.Slot), law_21 [.val (scr ns), .val (lG L dr), .val (.list [.int (pT : Nat)]), .val (.int (n : Nat)), .val (gsD gs), .val (.tuple (wkD gs)), .val (dlD gs), .val (gsD (mir gs)), .emp, .emp, .emp, x11, x12, .emp, x14, .emp, .val (gsD gsS), .val (.int (t : Nat)), .val (aiD gs t), .emp, .val (orD (oW gs)), .val (orD (oBh gs)), x22, .val (gsD (gs.take 4)), .val (.tuple [.int (Eo (gs.take 4) o : Nat), orD o]), .emp, .emp] = some (.nx [.val (scr ns), .val (lG L dr), .val (.list [.int (pT : Nat)]), .val (.int (n : Nat)), .val (gsD gs), .val (.tuple (wkD gs)), .val (dlD gs), .val (gsD (mir gs)), .emp, .emp, .emp, x11, x12, .emp, x14, .emp, .val (gsD gsS), .val (.int (t : Nat)), .val (aiD gs t), .emp, .val (orD (oW gs)), .val (orD (oBh gs)), x22', .val (gsD (gs.take 4)), .val (.tuple [.int (Eo (gs.take 4) o : Nat), orD o]), .emp, .emp]) ∧ Vl x22' := u21 Q hB v22
    have s22 : law_22 [.val (scr ns), .val (lG L dr), .val (.list [.int (pT : Nat)]), .val (.int (n : Nat)), .val (gsD gs), .val (.tuple (wkD gs)), .val (dlD gs), .val (gsD (mir gs)), .emp, .emp, .emp, x11, x12, .emp, x14, .emp, .val (gsD gsS), .val (.int (t : Nat)), .val (aiD gs t), .emp, .val (orD (oW gs)), .val (orD (oBh gs)), x22', .val (gsD (gs.take 4)), .val (.tuple [.int (Eo (gs.take 4) o : Nat), orD o]), .emp, .emp] = some (.nx [.val (scr ns), .val (lG L dr), .val (.list [.int (pT : Nat)]), .val (.int (n : Nat)), .val (gsD gs), .val (.tuple (wkD gs)), .val (dlD gs), .val (gsD (mir gs)), .emp, .emp, .emp, x11, x12, .emp, x14, .emp, .val (gsD gsS), .val (.int (t : Nat)), .val (aiD gs t), .emp, .val (orD (oW gs)), .val (orD (oBh gs)), x22', .val (gsD (gs.take 4)), .val (.tuple [.int (Eo (gs.take 4) o : Nat), orD o]), .emp, .emp]) := u22 Q hB
    have s23 : law_23 [.val (scr ns), .val (lG L dr), .val (.list [.int (pT : Nat)]), .val (.int (n : Nat)), .val (gsD gs), .val (.tuple (wkD gs)), .val (dlD gs), .val (gsD (mir gs)), .emp, .emp, .emp, x11, x12, .emp, x14, .emp, .val (gsD gsS), .val (.int (t : Nat)), .val (aiD gs t), .emp, .val (orD (oW gs)), .val (orD (oBh gs)), x22', .val (gsD (gs.take 4)), .val (.tuple [.int (Eo (gs.take 4) o : Nat), orD o]), .emp, .emp] = some (.nx [.val (scr ns), .val (lG L dr), .val (.list [.int (pT : Nat)]), .val (.int (n : Nat)), .val (gsD gs), .val (.tuple (wkD gs)), .val (dlD gs), .val (gsD (mir gs)), .emp, .emp, .emp, x11, x12, .emp, x14, .emp, .val (gsD gsS), .val (.int (t : Nat)), .val (aiD gs t), .emp, .val (orD (oW gs)), .val (orD (oBh gs)), x22', .val (gsD (gs.take 4)), .val (.tuple [.int (Eo (gs.take 4) o : Nat), orD o]), .val (gsD sg3), .emp]) := u23 
    have s24 : law_24 [.val (scr ns), .val (lG L dr), .val (.list [.int (pT : Nat)]), .val (.int (n : Nat)), .val (gsD gs), .val (.tuple (wkD gs)), .val (dlD gs), .val (gsD (mir gs)), .emp, .emp, .emp, x11, x12, .emp, x14, .emp, .val (gsD gsS), .val (.int (t : Nat)), .val (aiD gs t), .emp, .val (orD (oW gs)), .val (orD (oBh gs)), x22', .val (gsD (gs.take 4)), .val (.tuple [.int (Eo (gs.take 4) o : Nat), orD o]), .val (gsD sg3), .emp] = some (.nx [.val (scr ns), .val (lG L dr), .val (.list [.int (pT : Nat)]), .val (.int (n : Nat)), .val (gsD gs), .val (.tuple (wkD gs)), .val (dlD gs), .val (gsD (mir gs)), .emp, .emp, .emp, x11, x12, .emp, x14, .emp, .val (gsD gsS), .val (.int (t : Nat)), .val (aiD gs t), .emp, .val (orD (oW gs)), .val (orD (oBh gs)), x22', .val (gsD (gs.take 4)), .val (.tuple [.int (Eo (gs.take 4) o : Nat), orD o]), .val (gsD sg3), .emp]) := u24 
    have s25 : law_25 [.val (scr ns), .val (lG L dr), .val (.list [.int (pT : Nat)]), .val (.int (n : Nat)), .val (gsD gs), .val (.tuple (wkD gs)), .val (dlD gs), .val (gsD (mir gs)), .emp, .emp, .emp, x11, x12, .emp, x14, .emp, .val (gsD gsS), .val (.int (t : Nat)), .val (aiD gs t), .emp, .val (orD (oW gs)), .val (orD (oBh gs)), x22', .val (gsD (gs.take 4)), .val (.tuple [.int (Eo (gs.take 4) o : Nat), orD o]), .val (gsD sg3), .emp] = some (.nx [.val (scr ns), .val (lG L dr), .val (.list [.int (pT : Nat)]), .val (.int (n : Nat)), .val (gsD gs), .val (.tuple (wkD gs)), .val (dlD gs), .val (gsD (mir gs)), .emp, .emp, .emp, x11, x12, .emp, x14, .emp, .val (gsD gsS), .val (.int (t : Nat)), .val (aiD gs t), .emp, .val (orD (oW gs)), .val (orD (oBh gs)), x22', .val (gsD (gs.take 4)), .val (.tuple [.int (Eo (gs.take 4) o : Nat), orD o]), .val (gsD sg3), .val (gsD col)]) := u25 
    have s26 : law_26 [.val (scr ns), .val (lG L dr), .val (.list [.int (pT : Nat)]), .val (.int (n : Nat)), .val (gsD gs), .val (.tuple (wkD gs)), .val (dlD gs), .val (gsD (mir gs)), .emp, .emp, .emp, x11, x12, .emp, x14, .emp, .val (gsD gsS), .val (.int (t : Nat)), .val (aiD gs t), .emp, .val (orD (oW gs)), .val (orD (oBh gs)), x22', .val (gsD (gs.take 4)), .val (.tuple [.int (Eo (gs.take 4) o : Nat), orD o]), .val (gsD sg3), .val (gsD col)] = some (.rt (.bool true) [.val (scr ns), .val (lG L dr), .val (.list [.int (pT : Nat)]), .val (.int (n : Nat)), .val (gsD gs), .val (.tuple (wkD gs)), .val (dlD gs), .val (gsD (mir gs)), .emp, .emp, .emp, x11, x12, .emp, x14, .emp, .val (gsD gsS), .val (.int (t : Nat)), .val (aiD gs t), .emp, .val (orD (oW gs)), .val (orD (oBh gs)), x22', .val (gsD (gs.take 4)), .val (.tuple [.int (Eo (gs.take 4) o : Nat), orD o]), .val (gsD sg3), .val (gsD col)]) := u26 Q
    exact ⟨_, (fSq_o s1 (fSq_o s2 (fSq_o s3 (fSq_o s4 (fSq_o s5 (fSq_o s6 (fSq_o s7 (fSq_o s8 (fSq_o s9 (fSq_o s10 (fSq_o s11 (fSq_o s12 (frz_o rfl (fSq_o s13 (fSq_o s14 (fSq_o s15 (fSq_o s16 (fSq_o s17 (fSq_o s18 (fSq_o s19 (fSq_o s20 (fSq_o s21 (fSq_o s22 (fSq_o s23 (fSq_o s24 (fSq_o s25 s26))))))))))))))))))))))))))⟩
  obtain ⟨g', e⟩ := key
  refine ⟨g', ?_⟩
  unfold F_law
  rw [e_fnF, if_pos (show pinsOk [] 0 [Slot.val (scr ns)] = true from rfl)]
  show (b_law ([.val (scr ns)] ++ List.replicate 26 .emp)).bind _ = _
  rw [e]
  rfl
end W

set_option Elab.async false
set_option linter.all false
set_option maxRecDepth 100000
open PySem PySem.W PyProof.Rows
set_option maxHeartbeats 0 in
theorem PySem.Challenge.cw_skywrought_k32_whole_aisles_holds : PySem.Challenge.rw_skywrought_k32_whole_aisles.Holds := by
  w_on; o_law; k_head; (case hw => w_witness2)
  k_fill
  refine EV.walk_ofG (l := PySem.Challenge.rw_skywrought_k32_whole_aisles) (n := 63) (k := 8) (x := "script") (F := _root_.W.F_law) rfl (by decide) rfl ⟨rfl, by decide, by decide⟩ (fun w h Y => PySem.W.kIn_of Y) ?F (fun ns _ => _root_.W.law_ok ns)
  case F =>
    intro w mg fa h KX Gn hmg
    refine' EV.with_df (P := PySem.Challenge.pw_skywrought_k32_whole_aisles) (w := w) "_law_draws" _root_.W.s__law_draws ["script"] KX Gn ?a ?l ?c ?k (fun _ _ _ _ _ _ us hl => match us, hl with | [_], _ => rfl) (fun d1 => ?_)
    (case a => k_is); (case l => k_is); (case c => k_is); (case k => k_is)
    refine' EV.with_df (P := PySem.Challenge.pw_skywrought_k32_whole_aisles) (w := w) "_law_more" _root_.W.s__law_more ["draws", "place"] KX Gn ?a ?l ?c ?k (fun _ _ _ _ _ _ us hl => match us, hl with | [_, _], _ => rfl) (fun d2 => ?_)
    (case a => k_is); (case l => k_is); (case c => k_is); (case k => k_is)
    refine' EV.with_df (P := PySem.Challenge.pw_skywrought_k32_whole_aisles) (w := w) "_law_take" _root_.W.s__law_take ["draws", "at", "many"] KX Gn ?a ?l ?c ?k (fun _ _ _ _ _ _ us hl => match us, hl with | [_, _, _], _ => rfl) (fun d3 => ?_)
    (case a => k_is); (case l => k_is); (case c => k_is); (case k => k_is)
    refine' EV.with_df (P := PySem.Challenge.pw_skywrought_k32_whole_aisles) (w := w) "_law_one" _root_.W.s__law_one ["rows", "draws", "at"] KX Gn ?a ?l ?c ?k (fun _ _ _ _ _ _ us hl => match us, hl with | [_, _, _], _ => rfl) (fun d4 => ?_)
    (case a => k_is); (case l => k_is); (case c => k_is); (case k => k_is)
    refine' EV.with_df (P := PySem.Challenge.pw_skywrought_k32_whole_aisles) (w := w) "_law_guests" _root_.W.s__law_guests ["rows", "most", "draws", "at"] KX Gn ?a ?l ?c ?k (fun _ _ _ _ _ _ us hl => match us, hl with | [_, _, _, _], _ => rfl) (fun d5 => ?_)
    (case a => k_is); (case l => k_is); (case c => k_is); (case k => k_is)
    refine' EV.with_df (P := PySem.Challenge.pw_skywrought_k32_whole_aisles) (w := w) "is_integer" _root_.W.s_is_integer ["value"] KX Gn ?a ?l ?c ?k (fun _ _ _ _ _ _ us hl => match us, hl with | [_], _ => rfl) (fun d6 => ?_)
    (case a => k_is); (case l => k_is); (case c => k_is); (case k => k_is)
    refine' EV.with_df (P := PySem.Challenge.pw_skywrought_k32_whole_aisles) (w := w) "in_range" _root_.W.s_in_range ["value", "least", "most"] KX Gn ?a ?l ?c ?k (fun _ _ _ _ _ _ us hl => match us, hl with | [_, _, _], _ => rfl) (fun d7 => ?_)
    (case a => k_is); (case l => k_is); (case c => k_is); (case k => k_is)
    refine' EV.with_df (P := PySem.Challenge.pw_skywrought_k32_whole_aisles) (w := w) "is_guest" _root_.W.s_is_guest ["rows", "value"] KX Gn ?a ?l ?c ?k (fun _ _ _ _ _ _ us hl => match us, hl with | [_, _], _ => rfl) (fun d8 => ?_)
    (case a => k_is); (case l => k_is); (case c => k_is); (case k => k_is)
    refine' EV.with_df (P := PySem.Challenge.pw_skywrought_k32_whole_aisles) (w := w) "demand_guests" _root_.W.s_demand_guests ["rows", "guests"] KX Gn ?a ?l ?c ?k (fun _ _ _ _ _ _ us hl => match us, hl with | [_, _], _ => rfl) (fun d9 => ?_)
    (case a => k_is); (case l => k_is); (case c => k_is); (case k => k_is)
    refine' EV.with_df (P := PySem.Challenge.pw_skywrought_k32_whole_aisles) (w := w) "stands_for" _root_.W.s_stands_for ["guests", "number"] KX Gn ?a ?l ?c ?k (fun _ _ _ _ _ _ us hl => match us, hl with | [_, _], _ => rfl) (fun d10 => ?_)
    (case a => k_is); (case l => k_is); (case c => k_is); (case k => k_is)
    refine' EV.with_df (P := PySem.Challenge.pw_skywrought_k32_whole_aisles) (w := w) "times_in" _root_.W.s_times_in ["guests"] KX Gn ?a ?l ?c ?k (fun _ _ _ _ _ _ us hl => match us, hl with | [_], _ => rfl) (fun d11 => ?_)
    (case a => k_is); (case l => k_is); (case c => k_is); (case k => k_is)
    refine' EV.with_df (P := PySem.Challenge.pw_skywrought_k32_whole_aisles) (w := w) "walked" _root_.W.s_walked ["guests"] KX Gn ?a ?l ?c ?k (fun _ _ _ _ _ _ us hl => match us, hl with | [_], _ => rfl) (fun d12 => ?_)
    (case a => k_is); (case l => k_is); (case c => k_is); (case k => k_is)
    refine' EV.with_df (P := PySem.Challenge.pw_skywrought_k32_whole_aisles) (w := w) "aisle_at" _root_.W.s_aisle_at ["rows", "guests", "minute"] KX Gn ?a ?l ?c ?k (fun _ _ _ _ _ _ us hl => match us, hl with | [_, _, _], _ => rfl) (fun d13 => ?_)
    (case a => k_is); (case l => k_is); (case c => k_is); (case k => k_is)
    refine' EV.with_df (P := PySem.Challenge.pw_skywrought_k32_whole_aisles) (w := w) "demand_few" _root_.W.s_demand_few ["rows", "guests"] KX Gn ?a ?l ?c ?k (fun _ _ _ _ _ _ us hl => match us, hl with | [_, _], _ => rfl) (fun d14 => ?_)
    (case a => k_is); (case l => k_is); (case c => k_is); (case k => k_is)
    refine' EV.with_df (P := PySem.Challenge.pw_skywrought_k32_whole_aisles) (w := w) "all_orders" _root_.W.s_all_orders ["count"] KX Gn ?a ?l ?c ?k (fun _ _ _ _ _ _ us hl => match us, hl with | [_], _ => rfl) (fun d15 => ?_)
    (case a => k_is); (case l => k_is); (case c => k_is); (case k => k_is)
    refine' EV.with_df (P := PySem.Challenge.pw_skywrought_k32_whole_aisles) (w := w) "end_of" _root_.W.s_end_of ["guests"] KX Gn ?a ?l ?c ?k (fun _ _ _ _ _ _ us hl => match us, hl with | [_], _ => rfl) (fun d16 => ?_)
    (case a => k_is); (case l => k_is); (case c => k_is); (case k => k_is)
    refine' EV.with_df (P := PySem.Challenge.pw_skywrought_k32_whole_aisles) (w := w) "in_order" _root_.W.s_in_order ["guests", "order"] KX Gn ?a ?l ?c ?k (fun _ _ _ _ _ _ us hl => match us, hl with | [_, _], _ => rfl) (fun d17 => ?_)
    (case a => k_is); (case l => k_is); (case c => k_is); (case k => k_is)
    refine' EV.with_df (P := PySem.Challenge.pw_skywrought_k32_whole_aisles) (w := w) "best_order" _root_.W.s_best_order ["rows", "guests"] KX Gn ?a ?l ?c ?k (fun _ _ _ _ _ _ us hl => match us, hl with | [_, _], _ => rfl) (fun d18 => ?_)
    (case a => k_is); (case l => k_is); (case c => k_is); (case k => k_is)
    refine' EV.with_df (P := PySem.Challenge.pw_skywrought_k32_whole_aisles) (w := w) "walks" _root_.W.s_walks ["rows", "guests"] KX Gn ?a ?l ?c ?k (fun _ _ _ _ _ _ us hl => match us, hl with | [_, _], _ => rfl) (fun d19 => ?_)
    (case a => k_is); (case l => k_is); (case c => k_is); (case k => k_is)
    refine' EV.with_df (P := PySem.Challenge.pw_skywrought_k32_whole_aisles) (w := w) "delays" _root_.W.s_delays ["rows", "guests"] KX Gn ?a ?l ?c ?k (fun _ _ _ _ _ _ us hl => match us, hl with | [_, _], _ => rfl) (fun d20 => ?_)
    (case a => k_is); (case l => k_is); (case c => k_is); (case k => k_is)
    refine' EV.with_df (P := PySem.Challenge.pw_skywrought_k32_whole_aisles) (w := w) "from_windows" _root_.W.s_from_windows ["rows", "guests"] KX Gn ?a ?l ?c ?k (fun _ _ _ _ _ _ us hl => match us, hl with | [_, _], _ => rfl) (fun d21 => ?_)
    (case a => k_is); (case l => k_is); (case c => k_is); (case k => k_is)
    refine' EV.with_df (P := PySem.Challenge.pw_skywrought_k32_whole_aisles) (w := w) "from_behind" _root_.W.s_from_behind ["rows", "guests"] KX Gn ?a ?l ?c ?k (fun _ _ _ _ _ _ us hl => match us, hl with | [_, _], _ => rfl) (fun d22 => ?_)
    (case a => k_is); (case l => k_is); (case c => k_is); (case k => k_is)
    refine' EV.with_df (P := PySem.Challenge.pw_skywrought_k32_whole_aisles) (w := w) "stands" _root_.W.s_stands ["rows", "guests"] KX Gn ?a ?l ?c ?k (fun _ _ _ _ _ _ us hl => match us, hl with | [_, _], _ => rfl) (fun d23 => ?_)
    (case a => k_is); (case l => k_is); (case c => k_is); (case k => k_is)
    refine' EV.with_df (P := PySem.Challenge.pw_skywrought_k32_whole_aisles) (w := w) "end" _root_.W.s_end ["rows", "guests"] KX Gn ?a ?l ?c ?k (fun _ _ _ _ _ _ us hl => match us, hl with | [_, _], _ => rfl) (fun d24 => ?_)
    (case a => k_is); (case l => k_is); (case c => k_is); (case k => k_is)
    refine' EV.with_df (P := PySem.Challenge.pw_skywrought_k32_whole_aisles) (w := w) "is_order" _root_.W.s_is_order ["guests", "value"] KX Gn ?a ?l ?c ?k (fun _ _ _ _ _ _ us hl => match us, hl with | [_, _], _ => rfl) (fun d25 => ?_)
    (case a => k_is); (case l => k_is); (case c => k_is); (case k => k_is)
    refine' EV.with_df (P := PySem.Challenge.pw_skywrought_k32_whole_aisles) (w := w) "accept_best_order" _root_.W.s_accept_best_order ["rows", "guests", "told"] KX Gn ?a ?l ?c ?k (fun _ _ _ _ _ _ us hl => match us, hl with | [_, _, _], _ => rfl) (fun d26 => ?_)
    (case a => k_is); (case l => k_is); (case c => k_is); (case k => k_is)
    refine' EV.with_df (P := PySem.Challenge.pw_skywrought_k32_whole_aisles) (w := w) "put" _root_.W.s_put ["rows", "guests", "order"] KX Gn ?a ?l ?c ?k (fun _ _ _ _ _ _ us hl => match us, hl with | [_, _, _], _ => rfl) (fun d27 => ?_)
    (case a => k_is); (case l => k_is); (case c => k_is); (case k => k_is)
    refine' EV.with_none "abs" KX Gn ?z (fun d28 => ?_); (case z => k_is)
    refine' EV.with_none "all" KX Gn ?z (fun d29 => ?_); (case z => k_is)
    refine' EV.with_none "bool" KX Gn ?z (fun d30 => ?_); (case z => k_is)
    refine' EV.with_none "dict" KX Gn ?z (fun d31 => ?_); (case z => k_is)
    refine' EV.with_none "enumerate" KX Gn ?z (fun d32 => ?_); (case z => k_is)
    refine' EV.with_none "int" KX Gn ?z (fun d33 => ?_); (case z => k_is)
    refine' EV.with_none "isinstance" KX Gn ?z (fun d34 => ?_); (case z => k_is)
    refine' EV.with_none "len" KX Gn ?z (fun d35 => ?_); (case z => k_is)
    refine' EV.with_none "list" KX Gn ?z (fun d36 => ?_); (case z => k_is)
    refine' EV.with_none "max" KX Gn ?z (fun d37 => ?_); (case z => k_is)
    refine' EV.with_none "min" KX Gn ?z (fun d38 => ?_); (case z => k_is)
    refine' EV.with_none "range" KX Gn ?z (fun d39 => ?_); (case z => k_is)
    refine' EV.with_none "repr" KX Gn ?z (fun d40 => ?_); (case z => k_is)
    refine' EV.with_none "sorted" KX Gn ?z (fun d41 => ?_); (case z => k_is)
    refine' EV.with_none "sum" KX Gn ?z (fun d42 => ?_); (case z => k_is)
    refine' EV.with_none "tuple" KX Gn ?z (fun d43 => ?_); (case z => k_is)
    refine' EV.with_none "zip" KX Gn ?z (fun d44 => ?_); (case z => k_is)
    refine' EV.with_int (P := PySem.Challenge.pw_skywrought_k32_whole_aisles) (w := w) "MAX_ABOARD" 24 KX Gn ?z (fun d45 => ?_); (case z => k_is)
    refine' EV.with_int (P := PySem.Challenge.pw_skywrought_k32_whole_aisles) (w := w) "MAX_CABIN" 30 KX Gn ?z (fun d46 => ?_); (case z => k_is)
    refine' EV.with_int (P := PySem.Challenge.pw_skywrought_k32_whole_aisles) (w := w) "MAX_STOW" 20 KX Gn ?z (fun d47 => ?_); (case z => k_is)
    refine' EV.with_int (P := PySem.Challenge.pw_skywrought_k32_whole_aisles) (w := w) "MAX_TRYING" 6 KX Gn ?z (fun d48 => ?_); (case z => k_is)
    refine' EV.mk_law (l := PySem.Challenge.rw_skywrought_k32_whole_aisles) (w := w) (k := 7) (fb := _root_.W.b_law) KX Gn hmg ?a ?l ?c _root_.W.sc_law (fun base => _root_.W.jb_law { b_abs := d28, b_all := d29, b_bool := d30, b_dict := d31, b_enumerate := d32, b_int := d33, b_isinstance := d34, b_len := d35, b_list := d36, b_max := d37, b_min := d38, b_range := d39, b_repr := d40, b_sorted := d41, b_sum := d42, b_tuple := d43, b_zip := d44, k_MAX_ABOARD := d45 base, k_MAX_CABIN := d46 base, k_MAX_STOW := d47 base, k_MAX_TRYING := d48 base, d__law_draws := d1 base, d__law_more := d2 base, d__law_take := d3 base, d__law_one := d4 base, d__law_guests := d5 base, d_is_integer := d6 base, d_in_range := d7 base, d_is_guest := d8 base, d_demand_guests := d9 base, d_stands_for := d10 base, d_times_in := d11 base, d_walked := d12 base, d_aisle_at := d13 base, d_demand_few := d14 base, d_all_orders := d15 base, d_end_of := d16 base, d_in_order := d17 base, d_best_order := d18 base, d_walks := d19 base, d_delays := d20 base, d_from_windows := d21 base, d_from_behind := d22 base, d_stands := d23 base, d_end := d24 base, d_is_order := d25 base, d_accept_best_order := d26 base, d_put := d27 base }) (fun s u => .of_eq rfl)
    (case a => k_is); (case l => k_is); (case c => k_is)
