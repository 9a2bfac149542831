import PyProof.Rows.All
import Wide.All
import OpenK.AllK
import Wide.FinOn
import KE.KStateDown
import HandS.ForMost
import HandS.Defaults
import HandS.Evl
import HandS.Star
import HandS.Style
import HandS.NoneIn
import HandS.TupAny
import HandS.TupMul
import HandS.Wide
import HandS.WideBits
import HandS.IsInst
import HandS.Walk
import HandS.Zip
import HandS.SortInts
import HandS.Flt
import KE.GoesMore
import KE.KDictWalk
import KE.KDictDisplayH
import PyProof.ReprRoads
import PyProof.SumWalkG
import PyProof.WalksMore
import KE.SortData
import HandS.HeadEnd
import HandS.Head0
import HandS.Head1
import HandS.Head2
import HandS.HeadHook1
import HandS.HeadHook2
import PySem.Challenge.RW_wordshapes_k56_whole_margins
set_option Elab.async false
set_option linter.all false
set_option maxRecDepth 100000
set_option maxHeartbeats 4000000
/-! A layer of judgements on plain data (PyData) over HandS: what an expression evaluates to, what a block leads to, the objects that a def changes held apart. -/
namespace Wm
open PySem PySem.Spec PyProof.Rows L2
abbrev Fg := PySem.W.Frag

/-! ### heaps that grow -/
def Gw (H H' : Hp) : Prop := ∀ a o, H a = some o → H' a = some o
theorem Gw.refl (H : Hp) : Gw H H := fun _ _ h => h
theorem Gw.trans {H H1 H2 : Hp} (a : Gw H H1) (b : Gw H1 H2) : Gw H H2 := fun x o h => b x o (a x o h)
theorem Gw.new {H : Hp} {p : Addr} {o : HO} (h : H p = none) : Gw H (upd H p o) := fun a u e => by
  rw [upd_ne (ne_of_none e h)]
  exact e
theorem Gw.rd {H H' : Hp} {a : Addr} {u : HO} (e : Gw H H') (h : Rd H a u) : Rd H' a u := by
  rcases h with h | ⟨o, h⟩
  · exact Or.inl (e a _ h)
  · exact Or.inr ⟨o, e a _ h⟩
theorem Gw.l {K : Fg} {H H' : Hp} {a : Addr} {xs : List V} (e : Gw H H') (h : SqL K H a xs) : SqL K H' a xs := by
  rcases h with h | h
  · exact Or.inl (e.rd h)
  · exact Or.inr h
theorem Gw.t {K : Fg} {H H' : Hp} {a : Addr} {xs : List V} (e : Gw H H') (h : SqT K H a xs) : SqT K H' a xs := by
  rcases h with h | h
  · exact Or.inl (e.rd h)
  · exact Or.inr h
/-! data as they lie in the tracked heap -/
mutual
inductive Dv (H : Hp) : V → PyData → Prop
  | non : Dv H .non .none
  | bl (b : Bool) : Dv H (.bl b) (.bool b)
  | int (i : Int) : Dv H (.int i) (.int i)
  | str (x : Str) : Dv H (.str x) (.str x)
  | lst {a : Addr} {xs : List V} {ds : List PyData} : H a = some (.lst xs) → DvAll H xs ds → Dv H (.ref a) (.list ds)
  | tup {a : Addr} {xs : List V} {ds : List PyData} : H a = some (.tup xs) → DvAll H xs ds → Dv H (.ref a) (.tuple ds)
inductive DvAll (H : Hp) : List V → List PyData → Prop
  | nil : DvAll H [] []
  | cons {v : V} {vs : List V} {d : PyData} {ds : List PyData} : Dv H v d → DvAll H vs ds → DvAll H (v :: vs) (d :: ds)
end
mutual
theorem dv_dp {K : Fg} {H : Hp} : ∀ {d : PyData} {v : V}, Dv H v d → Dp K H v d
  | _, _, .non => .non
  | _, _, .bl b => .bl b
  | _, _, .int i => .int i
  | _, _, .str x => .str x
  | _, _, .lst h hs => .lst (.inl (.inl h)) (dv_dps hs)
  | _, _, .tup h hs => .tup (.inl (.inl h)) (dv_dps hs)
theorem dv_dps {K : Fg} {H : Hp} : ∀ {ds : List PyData} {vs : List V}, DvAll H vs ds → DpAll K H vs ds
  | _, _, .nil => .nil
  | _, _, .cons h hs => .cons (dv_dp h) (dv_dps hs)
end
mutual
theorem Gw.dp {H H' : Hp} (e : Gw H H') : ∀ {d : PyData} {v : V}, Dv H v d → Dv H' v d
  | _, _, .non => .non
  | _, _, .bl b => .bl b
  | _, _, .int i => .int i
  | _, _, .str x => .str x
  | _, _, .lst h hs => .lst (e _ _ h) (e.dps hs)
  | _, _, .tup h hs => .tup (e _ _ h) (e.dps hs)
theorem Gw.dps {H H' : Hp} (e : Gw H H') : ∀ {ds : List PyData} {vs : List V}, DvAll H vs ds → DvAll H' vs ds
  | _, _, .nil => .nil
  | _, _, .cons h hs => .cons (e.dp h) (e.dps hs)
end
theorem dps_len {H : Hp} : ∀ {vs : List V} {ds : List PyData}, DvAll H vs ds → vs.length = ds.length
  | _, _, .nil => rfl
  | _, _, .cons _ h => by rw [List.length_cons, List.length_cons, dps_len h]
theorem dps_get {H : Hp} : ∀ {vs : List V} {ds : List PyData} {i : Nat} {d : PyData}, DvAll H vs ds → ds[i]? = some d → ∃ v, vs[i]? = some v ∧ Dv H v d
  | _, _, _, _, .nil, e => by simp at e
  | _, _, 0, _, .cons h _, e => by simp at e; subst e; exact ⟨_, rfl, h⟩
  | _, _, i + 1, d, .cons _ hs, e => by
    obtain ⟨v, h1, h2⟩ := dps_get (i := i) (d := d) hs (by simpa using e)
    exact ⟨v, by simpa using h1, h2⟩
theorem dps_at {H : Hp} : ∀ {vs : List V} {ds : List PyData} {i : Nat} {v : V}, DvAll H vs ds → vs[i]? = some v → ∃ d, ds[i]? = some d ∧ Dv H v d
  | _, _, _, _, .nil, e => by simp at e
  | _, _, 0, _, .cons h _, e => by simp at e; subst e; exact ⟨_, rfl, h⟩
  | _, _, i + 1, v, .cons _ hs, e => by
    obtain ⟨d, h1, h2⟩ := dps_at (i := i) (v := v) hs (by simpa using e)
    exact ⟨d, by simpa using h1, h2⟩
theorem dps_app {H : Hp} : ∀ {vs ws : List V} {ds es : List PyData}, DvAll H vs ds → DvAll H ws es → DvAll H (vs ++ ws) (ds ++ es)
  | _, _, _, _, .nil, s => s
  | _, _, _, _, .cons h t, s => .cons h (dps_app t s)
theorem dps_drop {H : Hp} : ∀ {vs : List V} {ds : List PyData} (n : Nat), DvAll H vs ds → DvAll H (vs.drop n) (ds.drop n)
  | _, _, 0, h => h
  | _, _, _ + 1, .nil => .nil
  | _, _, n + 1, .cons _ t => dps_drop n t
theorem dps_take {H : Hp} : ∀ {vs : List V} {ds : List PyData} (n : Nat), DvAll H vs ds → DvAll H (vs.take n) (ds.take n)
  | _, _, 0, _ => .nil
  | _, _, _ + 1, .nil => .nil
  | _, _, n + 1, .cons h t => .cons h (dps_take n t)
theorem dps_rev {H : Hp} : ∀ {vs : List V} {ds : List PyData}, DvAll H vs ds → DvAll H vs.reverse ds.reverse
  | _, _, .nil => .nil
  | _, _, .cons h t => by
    rw [List.reverse_cons, List.reverse_cons]
    exact dps_app (dps_rev t) (.cons h .nil)
/-- ints, bools -/
def dI (ns : List Int) : List PyData := ns.map .int
def dB (bs : List Bool) : List PyData := bs.map .bool
theorem dps_ints {H : Hp} : ∀ {vs : List V} {ns : List Int}, DvAll H vs (dI ns) → vs = ns.map V.int
  | [], [], _ => rfl
  | v :: vs, n :: ns, h => by
    cases h with
    | cons h1 h2 =>
      cases h1
      rw [dps_ints h2]
      rfl
  | [], n :: ns, h => by cases h
  | v :: vs, [], h => by cases h
theorem ints_dps {H : Hp} : ∀ (ns : List Int), DvAll H (ns.map V.int) (dI ns)
  | [] => .nil
  | n :: ns => .cons (.int n) (ints_dps ns)
theorem dps_bools {H : Hp} : ∀ {vs : List V} {ns : List Bool}, DvAll H vs (dB ns) → vs = ns.map V.bl
  | [], [], _ => rfl
  | v :: vs, n :: ns, h => by
    cases h with
    | cons h1 h2 =>
      cases h1
      rw [dps_bools h2]
      rfl
  | [], n :: ns, h => by cases h
  | v :: vs, [], h => by cases h

/-! ### what a def owns -/
inductive MO where
  | lst (ds : List PyData)
  | dct (kvs : List (List Int × Int))
  | frz (o : Obj) (kvs : List (List Int × Int))
abbrev Own := List (Addr × MO)
def kvT (kvs : List (List Int × Int)) : List (List Key × V) := kvs.map fun p => (p.1.map Sum.inl, V.int p.2)
/-- the heap without what is owned -/
def hid (M : Own) (H : Hp) : Hp := fun a => if a ∈ M.map Prod.fst then none else H a
def MO.ok (H Hd : Hp) (a : Addr) : MO → Prop
  | .lst ds => ∃ xs, H a = some (.lst xs) ∧ DvAll Hd xs ds
  | .dct kvs => H a = some (.dT (kvT kvs))
  | .frz o kvs => H a = some (.frz o (.dT (kvT kvs)))
structure OwnOk (H : Hp) (M : Own) : Prop where
  nd : (M.map Prod.fst).Nodup
  ok : ∀ p ∈ M, p.2.ok H (hid M H) p.1
/-- a value as one knows it: nothing, data, itself -/
inductive Sl where
  | no
  | dat (d : PyData)
  | at (v : V)
  | scr (K : Fg) (ns : List Int)
abbrev Sl.i (n : Int) : Sl := .dat (.int n)
abbrev Sl.b (n : Bool) : Sl := .dat (.bool n)
/-- a tuple of ints, a list of tuples of ints -/
abbrev tI (ns : List Int) : PyData := .tuple (dI ns)
abbrev Sl.t (ns : List Int) : Sl := .dat (tI ns)
def Rep (Hd : Hp) (v : V) : Sl → Prop
  | .no => True
  | .dat d => Dv Hd v d
  | .at w => v = w
  | .scr K ns => ∃ a, v = .ref a ∧ SqL K Hd a (ns.map V.int)
theorem Gw.rep {H H' : Hp} (e : Gw H H') {v : V} : ∀ {r : Sl}, Rep H v r → Rep H' v r
  | .no, _ => trivial
  | .dat _, h => e.dp h
  | .at _, h => h
  | .scr _ _, ⟨a, e1, e2⟩ => ⟨a, e1, e.l e2⟩
structure EnvOk (Hd : Hp) (σ : L2.St) (Γ : List Sl) : Prop where
  len : σ.length = Γ.length
  at_ : ∀ (i : Nat) (r : Sl), Γ[i]? = some r → r ≠ .no → ∃ v, σ[i]? = some (some v) ∧ Rep Hd v r
section
variable {H H' Hd Hd' : Hp} {σ : L2.St} {Γ : List Sl} {M M' : Own} {a : Addr} {v : V} {r : Sl}
theorem EnvOk.mono (e : Gw Hd Hd') (h : EnvOk Hd σ Γ) : EnvOk Hd' σ Γ := ⟨h.len, fun i r hr hn => let ⟨v, h1, h2⟩ := h.at_ i r hr hn; ⟨v, h1, e.rep h2⟩⟩
theorem EnvOk.set (h : EnvOk Hd σ Γ) (i : Nat) (hv : Rep Hd v r) : EnvOk Hd (σ.set i (some v)) (Γ.set i r) := by
  refine ⟨by rw [List.length_set, List.length_set]; exact h.len, fun j q hj hn => ?_⟩
  by_cases e : i = j
  · subst e
    by_cases hi : i < Γ.length
    · rw [List.getElem?_set_self hi] at hj
      cases hj
      exact ⟨v, List.getElem?_set_self (by rw [h.len]; exact hi), hv⟩
    · rw [List.getElem?_eq_none (by rw [List.length_set]; omega)] at hj
      cases hj
  · rw [List.getElem?_set_ne e] at hj
    rw [List.getElem?_set_ne e]
    exact h.at_ j q hj hn
theorem EnvOk.forget (h : EnvOk Hd σ Γ) (i : Nat) : EnvOk Hd (σ.set i none) (Γ.set i .no) := by
  refine ⟨by rw [List.length_set, List.length_set]; exact h.len, fun j q hj hn => ?_⟩
  by_cases e : i = j
  · subst e
    by_cases hi : i < Γ.length
    · rw [List.getElem?_set_self hi] at hj
      cases hj
      exact absurd rfl hn
    · rw [List.getElem?_eq_none (by rw [List.length_set]; omega)] at hj
      cases hj
  · rw [List.getElem?_set_ne e] at hj
    rw [List.getElem?_set_ne e]
    exact h.at_ j q hj hn
theorem hid_in (h : a ∈ M.map Prod.fst) : hid M H a = none := if_pos h
theorem hid_out (h : a ∉ M.map Prod.fst) : hid M H a = H a := if_neg h
theorem hid_some {o : HO} (h : hid M H a = some o) : H a = some o ∧ a ∉ M.map Prod.fst := by
  by_cases e : a ∈ M.map Prod.fst
  · rw [hid_in e] at h
    cases h
  · rw [hid_out e] at h
    exact ⟨h, e⟩
theorem gw_hid : Gw (hid M H) H := fun _ _ h => (hid_some h).1
theorem MO.tracked {mo : MO} (h : mo.ok H Hd a) : H a ≠ none := by
  cases mo with
  | lst ds =>
    obtain ⟨xs, e, _⟩ := h
    rw [e]
    exact nofun
  | dct kvs =>
    have e : H a = some (.dT (kvT kvs)) := h
    rw [e]
    exact nofun
  | frz o kvs =>
    have e : H a = some (.frz o (.dT (kvT kvs))) := h
    rw [e]
    exact nofun
theorem OwnOk.tracked (h : OwnOk H M) (ha : a ∈ M.map Prod.fst) : H a ≠ none := by
  obtain ⟨p, hp, rfl⟩ := List.mem_map.mp ha
  exact MO.tracked (h.ok p hp)
theorem OwnOk.fresh (h : OwnOk H M) (ha : H a = none) : a ∉ M.map Prod.fst := fun z => h.tracked z ha
theorem hid_upd_out {o : HO} (h : a ∉ M.map Prod.fst) : hid M (upd H a o) = upd (hid M H) a o := by
  funext b
  unfold hid upd
  by_cases e : b = a
  · subst e
    rw [if_neg h, if_pos rfl, if_pos rfl]
  · rw [if_neg e, if_neg e]
theorem hid_upd_in {o : HO} (h : a ∈ M.map Prod.fst) : hid M (upd H a o) = hid M H := by
  funext b
  unfold hid upd
  by_cases e : b = a
  · subst e
    rw [if_pos h, if_pos h]
  · rw [if_neg e]
theorem MO.mono {mo : MO} (h : mo.ok H Hd a) (e : ∀ o, H a = some o → H' a = some o) (g : Gw Hd Hd') : mo.ok H' Hd' a := by
  cases mo with
  | lst ds =>
    obtain ⟨xs, e1, e2⟩ := h
    exact ⟨xs, e _ e1, g.dps e2⟩
  | dct kvs => exact e _ h
  | frz o kvs => exact e _ h
/-- a new object that is not owned -/
theorem OwnOk.new {o : HO} (h : OwnOk H M) (ha : H a = none) : OwnOk (upd H a o) M ∧ Gw (hid M H) (hid M (upd H a o)) := by
  have hn := h.fresh ha
  have g : Gw (hid M H) (hid M (upd H a o)) := by
    rw [hid_upd_out hn]
    exact Gw.new (by rw [hid_out hn]; exact ha)
  exact ⟨⟨h.nd, fun p hp => MO.mono (h.ok p hp) (fun u e => by rw [upd_ne (ne_of_none e ha)]; exact e) g⟩, g⟩
/-- a new object that is owned -/
theorem OwnOk.own {o : HO} {mo : MO} (h : OwnOk H M) (ha : H a = none) (ho : mo.ok (upd H a o) (hid M H) a) : OwnOk (upd H a o) ((a, mo) :: M) ∧ Gw (hid M H) (hid ((a, mo) :: M) (upd H a o)) := by
  have hn := h.fresh ha
  have g : Gw (hid M H) (hid ((a, mo) :: M) (upd H a o)) := fun b u e => by
    obtain ⟨e1, e2⟩ := hid_some e
    have ne : b ≠ a := ne_of_none e1 ha
    have hb : b ∉ List.map Prod.fst ((a, mo) :: M) := by
      rw [List.map_cons, List.mem_cons, not_or]
      exact ⟨ne, e2⟩
    rw [hid_out hb, upd_ne ne]
    exact e1
  refine ⟨⟨?_, fun p hp => ?_⟩, g⟩
  · rw [List.map_cons]
    exact List.nodup_cons.mpr ⟨hn, h.nd⟩
  · rcases List.mem_cons.mp hp with e | hp
    · subst e
      exact MO.mono ho (fun _ e => e) g
    · exact MO.mono (h.ok p hp) (fun u e => by rw [upd_ne (ne_of_none e ha)]; exact e) g
/-- an owned object changed: the head's -/
theorem OwnOk.put {o : HO} {mo mo' : MO} (h : OwnOk H ((a, mo) :: M)) (ho : mo'.ok (upd H a o) (hid ((a, mo) :: M) H) a) : OwnOk (upd H a o) ((a, mo') :: M) ∧ hid ((a, mo') :: M) (upd H a o) = hid ((a, mo) :: M) H := by
  have e0 : hid ((a, mo') :: M) (upd H a o) = hid ((a, mo) :: M) H := by
    rw [hid_upd_in (by simp)]
    rfl
  refine ⟨⟨h.nd, fun p hp => ?_⟩, e0⟩
  rw [e0]
  rcases List.mem_cons.mp hp with e | hp
  · subst e
    exact ho
  · have ne : p.1 ≠ a := fun z => (List.nodup_cons.mp h.nd).1 (by rw [← z]; exact List.mem_map.mpr ⟨p, hp, rfl⟩)
    exact MO.mono (h.ok p (List.mem_cons_of_mem _ hp)) (fun u e => by rw [upd_ne ne]; exact e) (Gw.refl _)
/-- owned objects given up -/
theorem OwnOk.drop {L : Own} (h : OwnOk H (L ++ M)) : OwnOk H M ∧ Gw (hid (L ++ M) H) (hid M H) := by
  have g : Gw (hid (L ++ M) H) (hid M H) := fun b u e => by
    obtain ⟨e1, e2⟩ := hid_some e
    rw [hid_out fun z => e2 (by rw [List.map_append]; exact List.mem_append_right _ z)]
    exact e1
  refine ⟨⟨?_, fun p hp => MO.mono (h.ok p (List.mem_append_right _ hp)) (fun _ e => e) g⟩, g⟩
  have nd := h.nd
  rw [List.map_append] at nd
  exact (List.nodup_append.mp nd).2.1
theorem OwnOk.drop2 {p q : Addr × MO} (h : OwnOk H (p :: q :: M)) : OwnOk H (p :: M) ∧ Gw (hid (p :: q :: M) H) (hid (p :: M) H) := by
  have g : Gw (hid (p :: q :: M) H) (hid (p :: M) H) := fun b u e => by
    obtain ⟨e1, e2⟩ := hid_some e
    rw [hid_out fun z => e2 (by
      rcases List.mem_cons.mp (show b ∈ p.1 :: M.map Prod.fst from z) with z | z
      · rw [z]
        exact List.mem_cons_self
      · exact List.mem_cons_of_mem _ (List.mem_cons_of_mem _ z))]
    exact e1
  refine ⟨⟨?_, fun x hx => MO.mono (h.ok x ?_) (fun _ e => e) g⟩, g⟩
  · have nd : (p.1 :: q.1 :: M.map Prod.fst).Nodup := h.nd
    obtain ⟨h1, h2⟩ := List.nodup_cons.mp nd
    exact List.nodup_cons.mpr ⟨fun z => h1 (List.mem_cons_of_mem _ z), (List.nodup_cons.mp h2).2⟩
  · rcases List.mem_cons.mp hx with z | z
    · rw [z]
      exact List.mem_cons_self
    · exact List.mem_cons_of_mem _ (List.mem_cons_of_mem _ z)
theorem OwnOk.perm2 {p q : Addr × MO} (h : OwnOk H (p :: q :: M)) : OwnOk H (q :: p :: M) ∧ hid (q :: p :: M) H = hid (p :: q :: M) H := by
  have e0 : hid (q :: p :: M) H = hid (p :: q :: M) H := by
    funext b
    unfold hid
    have e : (b ∈ List.map Prod.fst (q :: p :: M)) = (b ∈ List.map Prod.fst (p :: q :: M)) := by
      rw [List.map_cons, List.map_cons, List.map_cons, List.map_cons, List.mem_cons, List.mem_cons, List.mem_cons, List.mem_cons]
      exact propext ⟨fun z => by rcases z with z | z | z <;> simp [z], fun z => by rcases z with z | z | z <;> simp [z]⟩
    by_cases z : b ∈ List.map Prod.fst (p :: q :: M)
    · rw [if_pos z, if_pos (by rw [e]; exact z)]
    · rw [if_neg z, if_neg (by rw [e]; exact z)]
  refine ⟨⟨?_, fun x hx => ?_⟩, e0⟩
  · have nd : (p.1 :: q.1 :: M.map Prod.fst).Nodup := h.nd
    obtain ⟨h1, h2⟩ := List.nodup_cons.mp nd
    obtain ⟨h3, h4⟩ := List.nodup_cons.mp h2
    refine List.nodup_cons.mpr ⟨fun z => ?_, List.nodup_cons.mpr ⟨fun z => h1 (List.mem_cons_of_mem _ z), h4⟩⟩
    rcases List.mem_cons.mp z with z | z
    · exact h1 (by rw [z]; exact List.mem_cons_self)
    · exact h3 z
  · rw [e0]
    refine h.ok x ?_
    rcases List.mem_cons.mp hx with z | z
    · rw [z]
      exact List.mem_cons_of_mem _ List.mem_cons_self
    · rcases List.mem_cons.mp z with z | z
      · rw [z]
        exact List.mem_cons_self
      · exact List.mem_cons_of_mem _ (List.mem_cons_of_mem _ z)
end

/-! ### judgements -/
section
variable (X : Cx)
/-- the widest readings -/
def wE (e : Expr) : TE := fun σ H Q => ∀ (pins : List (Addr × Obj)) (s : Shared), Inv X pins σ H s → wpAny (model X.prog X.w) X.A (eval e X.env) (EP X pins σ Q) X.xe s
def wT (e : Expr) : TT := fun σ H Q => ∀ (pins : List (Addr × Obj)) (s : Shared), Inv X pins σ H s → wpAny (model X.prog X.w) X.A (isTrue e X.env (eval e X.env)) (TP X pins σ Q) X.xe s
def wA (es : List Expr) : TA := fun σ H Q => ∀ (pos : Pos) (pins : List (Addr × Obj)) (s : Shared), Inv X pins σ H s → wpAny (model X.prog X.w) X.A (spliced (backTo pos (starEach es X.env))) (AP X pins σ Q) X.xe s
def wSs (sts : List Stmt) : TS := fun D σ H => ∀ (pins : List (Addr × Obj)) (s : Shared), Inv X pins σ H s → wpAny (model X.prog X.w) X.A (execs sts X.env) (SP X pins D) X.xe s
def wI (tg iter : Expr) : TI := fun σ H R => ∀ (pins : List (Addr × Obj)) (s : Shared), Inv X pins σ H s →
  wpAny (model X.prog X.w) X.A (eval iter X.env) (fun v s1 => wpAny (model X.prog X.w) X.A (pyIter v) (PIE X pins σ tg R) X.xe s1) X.xe s
end
section
variable {X : Cx} {e : Expr} {es : List Expr} {sts : List Stmt} {tg iter : Expr}
theorem pe_w : PE X e (wE X e) := ⟨fun pins s _ _ _ I h => h pins s I⟩
theorem pt_w : PT X e (wT X e) := ⟨fun pins s _ _ _ I h => h pins s I⟩
theorem pa_w : PA X es (wA X es) := ⟨fun pos pins s _ _ _ I h => h pos pins s I⟩
theorem pss_w : PSs X sts (wSs X sts) := ⟨fun pins s _ _ _ I h => h pins s I⟩
theorem pi_w : PI X tg iter (wI X tg iter) := ⟨fun pins s _ _ _ I h => h pins s I⟩
theorem PE_w {t : TE} (h : PE X e t) {σ : L2.St} {H : Hp} {Q : VK} (q : t σ H Q) : wE X e σ H Q := fun pins s I => h.run pins s σ H Q I q
theorem PT_w {t : TT} (h : PT X e t) {σ : L2.St} {H : Hp} {Q : Bool → Hp → Prop} (q : t σ H Q) : wT X e σ H Q := fun pins s I => h.run pins s σ H Q I q
theorem PA_w {t : TA} (h : PA X es t) {σ : L2.St} {H : Hp} {Q : List V → Hp → Prop} (q : t σ H Q) : wA X es σ H Q := fun pos pins s I => h.run pos pins s σ H Q I q
theorem PSs_w {t : TS} (h : PSs X sts t) {σ : L2.St} {H : Hp} {D : Ends} (q : t D σ H) : wSs X sts D σ H := fun pins s I => h.run pins s σ H D I q
theorem PI_w {t : TI} (h : PI X tg iter t) {σ : L2.St} {H : Hp} {R : It → Hp → Prop} (q : t σ H R) : wI X tg iter σ H R := fun pins s I => h.run pins s σ H R I q
end
/-- the state of what is known -/
structure Kn (M : Own) (Γ : List Sl) (σ : L2.St) (H : Hp) : Prop where
  own : OwnOk H M
  env : EnvOk (hid M H) σ Γ
theorem Kn.to {M M' : Own} {Γ : List Sl} {σ : L2.St} {H H' : Hp} (h : Kn M Γ σ H) (g : Gw (hid M H) (hid M' H')) (o : OwnOk H' M') : Kn M' Γ σ H' := ⟨o, h.env.mono g⟩
/-- e evaluates to r; what is owned becomes M' -/
def ED (X : Cx) (Γ : List Sl) (M : Own) (e : Expr) (r : Sl) (M' : Own) : Prop := ∀ (σ : L2.St) (H : Hp) (Q : VK), Kn M Γ σ H →
  (∀ v H', Gw (hid M H) (hid M' H') → OwnOk H' M' → Rep (hid M' H') v r → Q v H') → wE X e σ H Q
/-- a test -/
def ET (X : Cx) (Γ : List Sl) (M : Own) (e : Expr) (b : Bool) (M' : Own) : Prop := ∀ (σ : L2.St) (H : Hp) (Q : Bool → Hp → Prop), Kn M Γ σ H →
  (∀ H', Gw (hid M H) (hid M' H') → OwnOk H' M' → Q b H') → wT X e σ H Q
def ETw (X : Cx) (Γ : List Sl) (M : Own) (e : Expr) (b : Bool) (M' : Own) : Prop := ∃ t, PW X e t ∧ ∀ (σ : L2.St) (H : Hp) (Q : Bool → Hp → Prop), Kn M Γ σ H →
  (∀ H', Gw (hid M H) (hid M' H') → OwnOk H' M' → Q b H') → t σ H Q
inductive Reps (Hd : Hp) : List V → List Sl → Prop
  | nil : Reps Hd [] []
  | cons {v : V} {vs : List V} {r : Sl} {rs : List Sl} : Rep Hd v r → Reps Hd vs rs → Reps Hd (v :: vs) (r :: rs)
theorem Gw.reps {H H' : Hp} (e : Gw H H') : ∀ {vs : List V} {rs : List Sl}, Reps H vs rs → Reps H' vs rs
  | _, _, .nil => .nil
  | _, _, .cons h t => .cons (e.rep h) (e.reps t)
theorem Reps.len {H : Hp} : ∀ {vs : List V} {rs : List Sl}, Reps H vs rs → vs.length = rs.length
  | _, _, .nil => rfl
  | _, _, .cons _ t => by rw [List.length_cons, List.length_cons, t.len]
def EA (X : Cx) (Γ : List Sl) (M : Own) (es : List Expr) (rs : List Sl) (M' : Own) : Prop := ∀ (σ : L2.St) (H : Hp) (Q : List V → Hp → Prop), Kn M Γ σ H →
  (∀ vs H', Gw (hid M H) (hid M' H') → OwnOk H' M' → Reps (hid M' H') vs rs → Q vs H') → wA X es σ H Q
/-- all of a list is data -/
theorem reps_dats {H : Hp} : ∀ {vs : List V} {ds : List PyData}, Reps H vs (ds.map .dat) → DvAll H vs ds
  | [], [], _ => .nil
  | v :: vs, d :: ds, h => by
    cases h with
    | cons h1 h2 => exact .cons h1 (reps_dats h2)
  | [], d :: ds, h => by cases h
  | v :: vs, [], h => by cases h
theorem dats_reps {H : Hp} : ∀ {vs : List V} {ds : List PyData}, DvAll H vs ds → Reps H vs (ds.map .dat)
  | _, _, .nil => .nil
  | _, _, .cons h t => .cons h (dats_reps t)
theorem reps_app {H : Hp} : ∀ {vs ws : List V} {rs ss : List Sl}, Reps H vs rs → Reps H ws ss → Reps H (vs ++ ws) (rs ++ ss)
  | _, _, _, _, .nil, s => s
  | _, _, _, _, .cons h t, s => .cons h (reps_app t s)

section
variable {X : Cx} {Γ : List Sl} {M M1 M2 M3 : Own} {a b c e : Expr} {es rest : List Expr} {r r1 r2 : Sl} {rs : List Sl} {pos : Pos} {x : Str}
/-! ### the simple ones -/
theorem ed_is (h : ED X Γ M e r M1) (q : r = r1) : ED X Γ M e r1 M1 := q ▸ h
theorem ed_var (i : Nat) {x : Str} {p : Pos} (hr : Γ[i]? = some r := by rfl) (hn : r ≠ .no := by exact nofun) (hN : X.N[i]? = some x := by rfl) (hv : Vis X.env.scope x := by first | exact Or.inl rfl | exact Or.inr (Or.inl rfl) | exact Or.inr (Or.inr rfl))
    (hd : (x == ("__debug__" : Str)) = false := by decide) (hcd : (x == ("__classdict__" : Str)) = false := by decide) : ED X Γ M (.Name x p) r M := fun σ H Q k q => by
  obtain ⟨v, h1, h2⟩ := k.env.at_ i r hr hn
  exact PE_w (pv i hN hv hd hcd) ⟨v, h1, q v H (Gw.refl _) k.own h2⟩
theorem ed_c {t : TE} {v : V} (h : PE X e (tC v)) (hv : ∀ Hd, Rep Hd v r) : ED X Γ M e r M := fun σ H Q k q => PE_w h (q v H (Gw.refl _) k.own (hv _))
theorem ed_int {i : Int} {j : Nat} : ED X Γ M (.Constant (.int i) j pos) (.i i) M := fun σ H Q k q => PE_w pe_int (q _ H (Gw.refl _) k.own (Dv.int i))
theorem ed_bl {i : Bool} {j : Nat} : ED X Γ M (.Constant (.bool i) j pos) (.b i) M := fun σ H Q k q => PE_w pe_bl (q _ H (Gw.refl _) k.own (Dv.bl i))
theorem ed_non {j : Nat} : ED X Γ M (.Constant .none j pos) (.dat .none) M := fun σ H Q k q => PE_w pe_non (q _ H (Gw.refl _) k.own Dv.non)
theorem ed_globI {n : Int} {p : Pos} (hm : ∃ t, X.mg x = some (.int n t)) (hg : Gl X x := by rfl) (hdb : (x == ("__debug__" : Str)) = false := by decide) : ED X Γ M (.Name x p) (.i n) M := fun σ H Q k q => by
  obtain ⟨t, ht⟩ := hm
  exact PE_w (pe_glob (v := .int n) (hg) ht (show ∃ u, Value.int n t = Value.int n u from ⟨t, rfl⟩) hdb) (q _ H (Gw.refl _) k.own (Dv.int n))
end
end Wm
set_option Elab.async false
set_option linter.all false
set_option maxRecDepth 100000
set_option maxHeartbeats 4000000
namespace Wm
open PySem PySem.Spec PyProof.Rows L2
/-! ### operators by values -/
def R2D (M : Own) (rr : R2) (r1 r2 r3 : Sl) : Prop := ∀ (H : Hp) (v w : V) (Q : VK), OwnOk H M → Rep (hid M H) v r1 → Rep (hid M H) w r2 →
  (∀ z H', Gw (hid M H) (hid M H') → OwnOk H' M → Rep (hid M H') z r3 → Q z H') → rr v w H Q
def R1D (M : Own) (rr : V → Hp → VK → Prop) (r1 r3 : Sl) : Prop := ∀ (H : Hp) (v : V) (Q : VK), OwnOk H M → Rep (hid M H) v r1 →
  (∀ z H', Gw (hid M H) (hid M H') → OwnOk H' M → Rep (hid M H') z r3 → Q z H') → rr v H Q
def CD (M : Own) (rr : List V → Hp → VK → Prop) (rs : List Sl) (r3 : Sl) : Prop := ∀ (H : Hp) (vs : List V) (Q : VK), OwnOk H M → Reps (hid M H) vs rs →
  (∀ z H', Gw (hid M H) (hid M H') → OwnOk H' M → Rep (hid M H') z r3 → Q z H') → rr vs H Q
section
variable {X : Cx} {Γ : List Sl} {M M1 M2 M3 : Own} {a b c e : Expr} {es rest : List Expr} {r r1 r2 r3 : Sl} {rs : List Sl} {pos : Pos} {x : Str} {op op' : CmpOp} {bop : Operator} {rr rr' : R2} {H : Hp} {v w : V}
theorem inv_i {n : Int} (h : Rep (hid M H) v (.i n)) : v = .int n := by
  cases h
  rfl
theorem inv_b {n : Bool} (h : Rep (hid M H) v (.b n)) : v = .bl n := by
  cases h
  rfl
theorem inv_t {ds : List PyData} (h : Rep (hid M H) v (.dat (.tuple ds))) : ∃ p xs, v = .ref p ∧ H p = some (.tup xs) ∧ DvAll (hid M H) xs ds := by
  cases h with
  | tup h1 h2 => exact ⟨_, _, rfl, (hid_some h1).1, h2⟩
theorem inv_l {ds : List PyData} (h : Rep (hid M H) v (.dat (.list ds))) : ∃ p xs, v = .ref p ∧ H p = some (.lst xs) ∧ DvAll (hid M H) xs ds := by
  cases h with
  | lst h1 h2 => exact ⟨_, _, rfl, (hid_some h1).1, h2⟩
theorem inv_ti {ns : List Int} (h : Rep (hid M H) v (.t ns)) : ∃ p, v = .ref p ∧ H p = some (.tup (ns.map V.int)) := by
  obtain ⟨p, xs, e, h1, h2⟩ := inv_t h
  rw [dps_ints h2] at h1
  exact ⟨p, e, h1⟩
theorem inv_li {ns : List Int} (h : Rep (hid M H) v (.dat (.list (dI ns)))) : ∃ p, v = .ref p ∧ H p = some (.lst (ns.map V.int)) := by
  obtain ⟨p, xs, e, h1, h2⟩ := inv_l h
  rw [dps_ints h2] at h1
  exact ⟨p, e, h1⟩
theorem sqt {K : Fg} {p : Addr} {xs : List V} (h : H p = some (.tup xs)) : SqT K H p xs := .inl (.inl h)
theorem sql {K : Fg} {p : Addr} {xs : List V} (h : H p = some (.lst xs)) : SqL K H p xs := .inl (.inl h)
/-- a new tuple, a new list, as data -/
theorem new_t {p : Addr} {xs : List V} {ds : List PyData} (o : OwnOk H M) (hp : H p = none) (h : DvAll (hid M H) xs ds) : OwnOk (upd H p (.tup xs)) M ∧ Gw (hid M H) (hid M (upd H p (.tup xs))) ∧ Rep (hid M (upd H p (.tup xs))) (.ref p) (.dat (.tuple ds)) := by
  obtain ⟨o2, g⟩ := o.new (o := .tup xs) hp
  exact ⟨o2, g, .tup (by rw [hid_out (o.fresh hp)]; exact upd_same) (g.dps h)⟩
theorem new_l {p : Addr} {xs : List V} {ds : List PyData} (o : OwnOk H M) (hp : H p = none) (h : DvAll (hid M H) xs ds) : OwnOk (upd H p (.lst xs)) M ∧ Gw (hid M H) (hid M (upd H p (.lst xs))) ∧ Rep (hid M (upd H p (.lst xs))) (.ref p) (.dat (.list ds)) := by
  obtain ⟨o2, g⟩ := o.new (o := .lst xs) hp
  exact ⟨o2, g, .lst (by rw [hid_out (o.fresh hp)]; exact upd_same) (g.dps h)⟩
theorem rd_I0 {g : Int → Int → Int} {i j : Int} : R2D M (rI0 fun i j => .int (g i j)) (.i i) (.i j) (.i (g i j)) := fun H v w Q o h1 h2 q =>
  ⟨i, j, inv_i h1, inv_i h2, q _ H (Gw.refl _) o (Dv.int _)⟩
theorem rd_I {C : Int → Int → Prop} {g : Int → Int → Int} {i j : Int} (hc : C i j) : R2D M (rI C fun i j => .int (g i j)) (.i i) (.i j) (.i (g i j)) := fun H v w Q o h1 h2 q =>
  ⟨i, j, inv_i h1, inv_i h2, hc, q _ H (Gw.refl _) o (Dv.int _)⟩
theorem rd_B0 {g : Int → Int → Bool} {i j : Int} : R2D M (rI0 fun i j => .bl (g i j)) (.i i) (.i j) (.b (g i j)) := fun H v w Q o h1 h2 q =>
  ⟨i, j, inv_i h1, inv_i h2, q _ H (Gw.refl _) o (Dv.bl _)⟩
theorem rd_eqI {i j : Int} : R2D M rEq (.i i) (.i j) (.b (decide (i = j))) := fun H v w Q o h1 h2 q => by
  rw [inv_i h1, inv_i h2]
  refine ⟨rfl, ?_⟩
  rw [show decide (V.int i = V.int j) = decide (i = j) from decide_eq_decide.mpr ⟨fun z => V.int.inj z, fun z => by rw [z]⟩]
  exact q _ H (Gw.refl _) o (Dv.bl _)
theorem rd_neI {i j : Int} : R2D M rNe (.i i) (.i j) (.b (!decide (i = j))) := fun H v w Q o h1 h2 q => by
  rw [inv_i h1, inv_i h2]
  refine ⟨rfl, ?_⟩
  rw [show decide (V.int i = V.int j) = decide (i = j) from decide_eq_decide.mpr ⟨fun z => V.int.inj z, fun z => by rw [z]⟩]
  exact q _ H (Gw.refl _) o (Dv.bl _)
theorem rd_neB {i j : Bool} : R2D M rNe (.b i) (.b j) (.b (!decide (i = j))) := fun H v w Q o h1 h2 q => by
  rw [inv_b h1, inv_b h2]
  refine ⟨rfl, ?_⟩
  rw [show decide (V.bl i = V.bl j) = decide (i = j) from decide_eq_decide.mpr ⟨fun z => V.bl.inj z, fun z => by rw [z]⟩]
  exact q _ H (Gw.refl _) o (Dv.bl _)
theorem rd_neS {i j : Str} : R2D M rNe (.dat (.str i)) (.dat (.str j)) (.b (!decide (i = j))) := fun H v w Q o h1 h2 q => by
  cases h1
  cases h2
  refine ⟨rfl, ?_⟩
  rw [show decide (V.str i = V.str j) = decide (i = j) from decide_eq_decide.mpr ⟨fun z => V.str.inj z, fun z => by rw [z]⟩]
  exact q _ H (Gw.refl _) o (Dv.bl _)
theorem rd_eqD {K : Fg} {d d' : PyData} (s1 : SeqAt.shaped d = true) (s2 : SeqAt.shaped d' = true) : R2D M (rEqD K) (.dat d) (.dat d') (.b (PyData.eqv d d')) := fun H v w Q o h1 h2 q =>
  ⟨d, d', dv_dp (gw_hid.dp h1), dv_dp (gw_hid.dp h2), s1, s2, q _ H (Gw.refl _) o (Dv.bl _)⟩
theorem rd_neD {K : Fg} {d d' : PyData} (s1 : SeqAt.shaped d = true) (s2 : SeqAt.shaped d' = true) : R2D M (rNeD K) (.dat d) (.dat d') (.b (!PyData.eqv d d')) := fun H v w Q o h1 h2 q =>
  ⟨d, d', dv_dp (gw_hid.dp h1), dv_dp (gw_hid.dp h2), s1, s2, q _ H (Gw.refl _) o (Dv.bl _)⟩
theorem rd_catT {K : Fg} {ds es : List PyData} (hz : ds.length + es.length ≤ 100000) : R2D M (rCatA K) (.dat (.tuple ds)) (.dat (.tuple es)) (.dat (.tuple (ds ++ es))) := fun H v w Q o h1 h2 q => by
  obtain ⟨p, xs, e1, k1, d1⟩ := inv_t h1
  obtain ⟨p', ys, e2, k2, d2⟩ := inv_t h2
  refine ⟨p, p', xs, ys, e1, e2, sqt k1, sqt k2, ?_, fun e => ?_, fun _ e => ?_, fun _ _ l hl => ?_⟩
  · rw [dps_len d1, dps_len d2]
    exact Nat.le_trans hz (by decide)
  · subst e
    cases d1
    rw [e2] at h2
    exact q _ H (Gw.refl _) o h2
  · subst e
    cases d2
    rw [e1] at h1
    rw [List.append_nil] at q
    exact q _ H (Gw.refl _) o h1
  · obtain ⟨o2, g, h⟩ := new_t o hl (dps_app d1 d2)
    exact q _ _ g o2 h
theorem rd_catL {ds es : List PyData} (hz : ds.length + es.length ≤ 100000) : R2D M rCat (.dat (.list ds)) (.dat (.list es)) (.dat (.list (ds ++ es))) := fun H v w Q o h1 h2 q => by
  obtain ⟨p, xs, e1, k1, d1⟩ := inv_l h1
  obtain ⟨p', ys, e2, k2, d2⟩ := inv_l h2
  refine ⟨p, p', xs, ys, e1, e2, k1, k2, ?_, fun l hl => ?_⟩
  · rw [dps_len d1, dps_len d2]
    exact Nat.le_trans hz (by decide)
  · obtain ⟨o2, g, h⟩ := new_l o hl (dps_app d1 d2)
    exact q _ _ g o2 h
theorem dps_rep {Hd : Hp} {xs : List V} {ds : List PyData} (h : DvAll Hd xs ds) : ∀ n : Nat, DvAll Hd (List.replicate n xs).flatten (List.replicate n ds).flatten
  | 0 => .nil
  | n + 1 => by
    rw [List.replicate_succ, List.replicate_succ, List.flatten_cons, List.flatten_cons]
    exact dps_app h (dps_rep h n)
theorem rd_repL {ds : List PyData} {k : Int} (h0 : 0 ≤ k) (hk : k ≤ 1000) (hz : ds.length ≤ 1000) : R2D M rRep (.dat (.list ds)) (.i k) (.dat (.list (List.replicate k.toNat ds).flatten)) := fun H v w Q o h1 h2 q => by
  obtain ⟨p, xs, e1, k1, d1⟩ := inv_l h1
  refine ⟨p, k, xs, e1, inv_i h2, k1, by omega, by omega, ?_, fun l hl => ?_⟩
  · rw [dps_len d1, sizeLine_eq]
    have a1 : ds.length * k.toNat ≤ 1000 * 1000 := Nat.mul_le_mul hz (by omega)
    omega
  · obtain ⟨o2, g, h⟩ := new_l o hl (dps_rep d1 k.toNat)
    exact q _ _ g o2 h
theorem rd_repT {K : Fg} {ds : List PyData} {k : Int} (h0 : 2 ≤ k) (hk : k ≤ 1000) (hn : ds ≠ []) (hz : ds.length ≤ 1000) : R2D M (rRepT K) (.dat (.tuple ds)) (.i k) (.dat (.tuple (List.replicate k.toNat ds).flatten)) := fun H v w Q o h1 h2 q => by
  obtain ⟨p, xs, e1, k1, d1⟩ := inv_t h1
  refine ⟨p, k, xs, e1, inv_i h2, sqt k1, fun e => ?_, h0, hk, by rw [dps_len d1]; exact hz, fun l hl => ?_⟩
  · subst e
    cases d1
    exact hn rfl
  · obtain ⟨o2, g, h⟩ := new_t o hl (dps_rep d1 k.toNat)
    exact q _ _ g o2 h
/-- an item -/
theorem rd_ixL {K : Fg} {ds : List PyData} {d : PyData} {i : Int} (h : atI ds i = some d) : R2D M (rIxL K) (.dat (.list ds)) (.i i) (.dat d) := fun H v w Q o h1 h2 q => by
  obtain ⟨p, xs, e1, k1, d1⟩ := inv_l h1
  unfold atI at h
  rw [← dps_len d1] at h
  cases hj : ixN xs.length i with
  | none =>
    rw [hj] at h
    cases h
  | some j =>
    rw [hj] at h
    obtain ⟨z, hz, hd⟩ := dps_get d1 (show ds[j]? = some d from h)
    exact ⟨p, xs, i, z, e1, inv_i h2, sql k1, by unfold atI; rw [hj]; exact hz, q z H (Gw.refl _) o hd⟩
theorem rd_ixT {K : Fg} {ds : List PyData} {d : PyData} {i : Int} (h : atI ds i = some d) : R2D M (rIxT K) (.dat (.tuple ds)) (.i i) (.dat d) := fun H v w Q o h1 h2 q => by
  obtain ⟨p, xs, e1, k1, d1⟩ := inv_t h1
  unfold atI at h
  rw [← dps_len d1] at h
  cases hj : ixN xs.length i with
  | none =>
    rw [hj] at h
    cases h
  | some j =>
    rw [hj] at h
    obtain ⟨z, hz, hd⟩ := dps_get d1 (show ds[j]? = some d from h)
    exact ⟨p, xs, i, z, e1, inv_i h2, sqt k1, by unfold atI; rw [hj]; exact hz, q z H (Gw.refl _) o hd⟩
/-- an item of an owned list -/
theorem rd_ixO {K : Fg} {l : Addr} {ds : List PyData} {d : PyData} {i : Int} (hm : (l, MO.lst ds) ∈ M) (h : atI ds i = some d) : R2D M (rIxL K) (.at (.ref l)) (.i i) (.dat d) := fun H v w Q o h1 h2 q => by
  obtain ⟨xs, k1, d1⟩ := (show ∃ xs, H l = some (.lst xs) ∧ DvAll (hid M H) xs ds from o.ok _ hm)
  unfold atI at h
  rw [← dps_len d1] at h
  cases hj : ixN xs.length i with
  | none =>
    rw [hj] at h
    cases h
  | some j =>
    rw [hj] at h
    obtain ⟨z, hz, hd⟩ := dps_get d1 (show ds[j]? = some d from h)
    exact ⟨l, xs, i, z, h1, inv_i h2, sql k1, by unfold atI; rw [hj]; exact hz, q z H (Gw.refl _) o hd⟩

/-! ### composed -/
theorem ed_op2 {t : Expr} (h : PE X t (tOp rr (wE X a) (wE X b))) (ha : ED X Γ M a r1 M1) (hb : ED X Γ M1 b r2 M2) (hr : R2D M2 rr r1 r2 r3) : ED X Γ M t r3 M2 := fun σ H Q k q =>
  PE_w h (ha σ H _ k fun v H1 g1 o1 h1 => hb σ H1 _ (k.to g1 o1) fun w H2 g2 o2 h2 => hr H2 v w Q o2 (g2.rep h1) h2 fun z H3 g3 o3 h3 => q z H3 ((g1.trans g2).trans g3) o3 h3)
theorem ed_bin (ho : OpR X (binaryOp bop) rr) (hr : R2D M2 rr r1 r2 r3) (ha : ED X Γ M a r1 M1) (hb : ED X Γ M1 b r2 M2) : ED X Γ M (.BinOp a bop b pos) r3 M2 := ed_op2 (pe_op ho pe_w pe_w) ha hb hr
theorem ed_add {i j : Int} (ha : ED X Γ M a (.i i) M1) (hb : ED X Γ M1 b (.i j) M2) : ED X Γ M (.BinOp a .Add b pos) (.i (i + j)) M2 := ed_bin op_add rd_I0 ha hb
theorem ed_sub {i j : Int} (ha : ED X Γ M a (.i i) M1) (hb : ED X Γ M1 b (.i j) M2) : ED X Γ M (.BinOp a .Sub b pos) (.i (i - j)) M2 := ed_bin op_sub rd_I0 ha hb
/-- a product: one factor within 2 ^ 64 -/
theorem ed_mul {i j : Int} (h : CMul i j) (ha : ED X Γ M a (.i i) M1) (hb : ED X Γ M1 b (.i j) M2) : ED X Γ M (.BinOp a .Mult b pos) (.i (i * j)) M2 := ed_bin op_mul (rd_I h) ha hb
theorem ed_fdiv {i j : Int} (h : CDiv i j) (ha : ED X Γ M a (.i i) M1) (hb : ED X Γ M1 b (.i j) M2) : ED X Γ M (.BinOp a .FloorDiv b pos) (.i (i / j)) M2 := ed_bin op_fdiv (rd_I h) ha hb
theorem ed_mod {i j : Int} (h : 0 < j) (ha : ED X Γ M a (.i i) M1) (hb : ED X Γ M1 b (.i j) M2) : ED X Γ M (.BinOp a .Mod b pos) (.i (i % j)) M2 := ed_bin op_mod (rd_I h) ha hb
theorem ed_pow {i j : Int} (h : CPow i j) (ha : ED X Γ M a (.i i) M1) (hb : ED X Γ M1 b (.i j) M2) : ED X Γ M (.BinOp a .Pow b pos) (.i (i ^ j.toNat)) M2 := ed_bin op_pow (rd_I h) ha hb
theorem ed_catT {ds es : List PyData} (hz : ds.length + es.length ≤ 100000) (ha : ED X Γ M a (.dat (.tuple ds)) M1) (hb : ED X Γ M1 b (.dat (.tuple es)) M2) : ED X Γ M (.BinOp a .Add b pos) (.dat (.tuple (ds ++ es))) M2 := ed_bin op_catA (rd_catT hz) ha hb
theorem ed_catL {ds es : List PyData} (hz : ds.length + es.length ≤ 100000) (ha : ED X Γ M a (.dat (.list ds)) M1) (hb : ED X Γ M1 b (.dat (.list es)) M2) : ED X Γ M (.BinOp a .Add b pos) (.dat (.list (ds ++ es))) M2 := ed_bin op_cat (rd_catL hz) ha hb
theorem ed_cmp (ho : OpR X (compareOp op) rr) (hr : R2D M2 rr r1 r2 r3) (ha : ED X Γ M a r1 M1) (hb : ED X Γ M1 b r2 M2) (hm : behindInMarks op b = false) : ED X Γ M (.Compare a [op] [b] pos) r3 M2 := ed_op2 (pe_cmpR ho pe_w pe_w hm) ha hb hr
theorem ed_eqI {i j : Int} (ha : ED X Γ M a (.i i) M1) (hb : ED X Γ M1 b (.i j) M2) (hm : behindInMarks .Eq b = false := by first | rfl | exact nomark _) : ED X Γ M (.Compare a [.Eq] [b] pos) (.b (decide (i = j))) M2 := ed_cmp op_eq rd_eqI ha hb hm
theorem ed_neI {i j : Int} (ha : ED X Γ M a (.i i) M1) (hb : ED X Γ M1 b (.i j) M2) (hm : behindInMarks .NotEq b = false := by first | rfl | exact nomark _) : ED X Γ M (.Compare a [.NotEq] [b] pos) (.b (!decide (i = j))) M2 := ed_cmp op_ne rd_neI ha hb hm
theorem ed_lt {i j : Int} (ha : ED X Γ M a (.i i) M1) (hb : ED X Γ M1 b (.i j) M2) (hm : behindInMarks .Lt b = false := by first | rfl | exact nomark _) : ED X Γ M (.Compare a [.Lt] [b] pos) (.b (decide (i < j))) M2 := ed_cmp op_lt rd_B0 ha hb hm
theorem ed_le {i j : Int} (ha : ED X Γ M a (.i i) M1) (hb : ED X Γ M1 b (.i j) M2) (hm : behindInMarks .LtE b = false := by first | rfl | exact nomark _) : ED X Γ M (.Compare a [.LtE] [b] pos) (.b (decide (i ≤ j))) M2 := ed_cmp op_le rd_B0 ha hb hm
theorem ed_gt {i j : Int} (ha : ED X Γ M a (.i i) M1) (hb : ED X Γ M1 b (.i j) M2) (hm : behindInMarks .Gt b = false := by first | rfl | exact nomark _) : ED X Γ M (.Compare a [.Gt] [b] pos) (.b (decide (j < i))) M2 := ed_cmp op_gt rd_B0 ha hb hm
theorem ed_ge {i j : Int} (ha : ED X Γ M a (.i i) M1) (hb : ED X Γ M1 b (.i j) M2) (hm : behindInMarks .GtE b = false := by first | rfl | exact nomark _) : ED X Γ M (.Compare a [.GtE] [b] pos) (.b (decide (j ≤ i))) M2 := ed_cmp op_ge rd_B0 ha hb hm
theorem ed_neD {d d' : PyData} (hu : X.A.units + 64 < cLine) (s1 : SeqAt.shaped d = true) (s2 : SeqAt.shaped d' = true) (ha : ED X Γ M a (.dat d) M1) (hb : ED X Γ M1 b (.dat d') M2) (hm : behindInMarks .NotEq b = false := by first | rfl | exact nomark _) :
    ED X Γ M (.Compare a [.NotEq] [b] pos) (.b (!PyData.eqv d d')) M2 := ed_cmp (op_neD hu) (rd_neD s1 s2) ha hb hm
theorem ed_eqD {d d' : PyData} (hu : X.A.units + 64 < cLine) (s1 : SeqAt.shaped d = true) (s2 : SeqAt.shaped d' = true) (ha : ED X Γ M a (.dat d) M1) (hb : ED X Γ M1 b (.dat d') M2) (hm : behindInMarks .Eq b = false := by first | rfl | exact nomark _) :
    ED X Γ M (.Compare a [.Eq] [b] pos) (.b (PyData.eqv d d')) M2 := ed_cmp (op_eqD hu) (rd_eqD s1 s2) ha hb hm
/-- a <= b <= c -/
theorem ed_chainLe {i j l : Int} (ha : ED X Γ M a (.i i) M) (hb : ED X Γ M b (.i j) M) (hc : ED X Γ M c (.i l) M) (hm : lastMarks [.LtE, .LtE] [b, c] = false := by with_unfolding_all rfl) : ED X Γ M (.Compare a [.LtE, .LtE] [b, c] pos) (.b (decide (i ≤ j) && decide (j ≤ l))) M := fun σ H Q k q =>
  PE_w (pe_chain op_le op_le pe_w pe_w pe_w hm) (ha σ H _ k fun v H1 g1 o1 h1 => hb σ H1 _ (k.to g1 o1) fun w H2 g2 o2 h2 => by
    refine ⟨i, j, inv_i (g2.rep h1), inv_i h2, _, rfl, ?_⟩
    by_cases z : i ≤ j
    · rw [decide_eq_true z, if_pos rfl]
      refine hc σ H2 _ ((k.to g1 o1).to g2 o2) fun u H3 g3 o3 h3 => ⟨j, l, inv_i (g3.rep h2), inv_i h3, ?_⟩
      have q2 := q (.bl (decide (j ≤ l))) H3 ((g1.trans g2).trans g3) o3
      rw [decide_eq_true z, Bool.true_and] at q2
      exact q2 (Dv.bl _)
    · rw [decide_eq_false z, if_neg Bool.false_ne_true]
      have q2 := q (.bl false) H2 (g1.trans g2) o2
      rw [decide_eq_false z, Bool.false_and] at q2
      exact q2 (Dv.bl _))
/-- and, or, not as values -/
theorem ed_and1 {bo} (ha : ED X Γ M a r M1) : ED X Γ M (.BoolOp bo [a] pos) r M1 := fun σ H Q k q => PE_w (pe_one pe_w) (ha σ H Q k q)
theorem ed_and {p q : Bool} (ha : ED X Γ M a (.b p) M) (hb : p = true → ED X Γ M (.BoolOp .And (b :: rest) pos) (.b q) M) : ED X Γ M (.BoolOp .And (a :: b :: rest) pos) (.b (p && q)) M := fun σ H Q k qq =>
  PE_w (pe_and pe_w pe_w) (ha σ H _ k fun v H1 g1 o1 h1 => ⟨p, inv_b h1, by
    cases p with
    | true =>
      rw [if_pos rfl]
      exact hb rfl σ H1 _ (k.to g1 o1) fun w H2 g2 o2 h2 => qq w H2 (g1.trans g2) o2 h2
    | false =>
      rw [if_neg Bool.false_ne_true]
      exact qq _ H1 g1 o1 (Dv.bl _)⟩)
theorem ed_notV {p : Bool} (ha : ED X Γ M a (.b p) M1) : ED X Γ M (.UnaryOp .Not a pos) (.b (!p)) M1 := fun σ H Q k q =>
  PE_w (pe_not pe_w) (ha σ H _ k fun v H1 g1 o1 h1 => ⟨p, inv_b h1, q _ H1 g1 o1 (Dv.bl _)⟩)
theorem ed_neg {i : Int} (ha : ED X Γ M a (.i i) M1) : ED X Γ M (.UnaryOp .USub a pos) (.i (-i)) M1 := fun σ H Q k q =>
  PE_w (pe_un un_neg pe_w) (ha σ H _ k fun v H1 g1 o1 h1 => ⟨i, inv_i h1, q _ H1 g1 o1 (Dv.int _)⟩)
/-! ### tests -/
theorem et_v {p : Bool} (h : PT X e (tB (wE X e))) (ha : ED X Γ M e (.b p) M1) : ET X Γ M e p M1 := fun σ H Q k q =>
  PT_w h (ha σ H _ k fun v H1 g1 o1 h1 => ⟨p, inv_b h1, q H1 g1 o1⟩)
theorem et_val {p : Bool} (ha : ED X Γ M e (.b p) M1) (he : ∀ whole, isTrue e X.env whole = (do let v ← whole; standAt e.pos; holding [v] (truthy v)) := by intro _; rfl) : ET X Γ M e p M1 := et_v (pt_val pe_w he) ha
theorem et_op2 {p : Bool} {t : Expr} (h : PT X t (tTest (tOp rr (wE X a) (wE X b)))) (ha : ED X Γ M a r1 M1) (hb : ED X Γ M1 b r2 M2) (hr : R2D M2 rr r1 r2 (.b p)) : ET X Γ M t p M2 := fun σ H Q k q =>
  PT_w h (ha σ H _ k fun v H1 g1 o1 h1 => hb σ H1 _ (k.to g1 o1) fun w H2 g2 o2 h2 => hr H2 v w _ o2 (g2.rep h1) h2 fun z H3 g3 o3 h3 => ⟨p, inv_b h3, q H3 ((g1.trans g2).trans g3) o3⟩)
theorem et_cmp {p : Bool} (ho : OpR X (compareOp op) rr) (hr : R2D M2 rr r1 r2 (.b p)) (ha : ED X Γ M a r1 M1) (hb : ED X Γ M1 b r2 M2) (hm : behindInMarks op b = false) : ET X Γ M (.Compare a [op] [b] pos) p M2 := et_op2 (pt_cmpR ho pe_w pe_w hm) ha hb hr
theorem et_eqI {i j : Int} (ha : ED X Γ M a (.i i) M1) (hb : ED X Γ M1 b (.i j) M2) (hm : behindInMarks .Eq b = false := by first | rfl | exact nomark _) : ET X Γ M (.Compare a [.Eq] [b] pos) (decide (i = j)) M2 := et_cmp op_eq rd_eqI ha hb hm
theorem et_neI {i j : Int} (ha : ED X Γ M a (.i i) M1) (hb : ED X Γ M1 b (.i j) M2) (hm : behindInMarks .NotEq b = false := by first | rfl | exact nomark _) : ET X Γ M (.Compare a [.NotEq] [b] pos) (!decide (i = j)) M2 := et_cmp op_ne rd_neI ha hb hm
theorem et_lt {i j : Int} (ha : ED X Γ M a (.i i) M1) (hb : ED X Γ M1 b (.i j) M2) (hm : behindInMarks .Lt b = false := by first | rfl | exact nomark _) : ET X Γ M (.Compare a [.Lt] [b] pos) (decide (i < j)) M2 := et_cmp op_lt rd_B0 ha hb hm
theorem et_le {i j : Int} (ha : ED X Γ M a (.i i) M1) (hb : ED X Γ M1 b (.i j) M2) (hm : behindInMarks .LtE b = false := by first | rfl | exact nomark _) : ET X Γ M (.Compare a [.LtE] [b] pos) (decide (i ≤ j)) M2 := et_cmp op_le rd_B0 ha hb hm
theorem et_gt {i j : Int} (ha : ED X Γ M a (.i i) M1) (hb : ED X Γ M1 b (.i j) M2) (hm : behindInMarks .Gt b = false := by first | rfl | exact nomark _) : ET X Γ M (.Compare a [.Gt] [b] pos) (decide (j < i)) M2 := et_cmp op_gt rd_B0 ha hb hm
theorem et_ge {i j : Int} (ha : ED X Γ M a (.i i) M1) (hb : ED X Γ M1 b (.i j) M2) (hm : behindInMarks .GtE b = false := by first | rfl | exact nomark _) : ET X Γ M (.Compare a [.GtE] [b] pos) (decide (j ≤ i)) M2 := et_cmp op_ge rd_B0 ha hb hm
theorem et_neD {d d' : PyData} (hu : X.A.units + 64 < cLine) (s1 : SeqAt.shaped d = true) (s2 : SeqAt.shaped d' = true) (ha : ED X Γ M a (.dat d) M1) (hb : ED X Γ M1 b (.dat d') M2) (hm : behindInMarks .NotEq b = false := by first | rfl | exact nomark _) :
    ET X Γ M (.Compare a [.NotEq] [b] pos) (!PyData.eqv d d') M2 := et_cmp (op_neD hu) (rd_neD s1 s2) ha hb hm
theorem et_eqD {d d' : PyData} (hu : X.A.units + 64 < cLine) (s1 : SeqAt.shaped d = true) (s2 : SeqAt.shaped d' = true) (ha : ED X Γ M a (.dat d) M1) (hb : ED X Γ M1 b (.dat d') M2) (hm : behindInMarks .Eq b = false := by first | rfl | exact nomark _) :
    ET X Γ M (.Compare a [.Eq] [b] pos) (PyData.eqv d d') M2 := et_cmp (op_eqD hu) (rd_eqD s1 s2) ha hb hm
theorem et_neB {i j : Bool} (ha : ED X Γ M a (.b i) M1) (hb : ED X Γ M1 b (.b j) M2) (hm : behindInMarks .NotEq b = false := by first | rfl | exact nomark _) : ET X Γ M (.Compare a [.NotEq] [b] pos) (!decide (i = j)) M2 := et_cmp op_ne rd_neB ha hb hm
theorem et_neS {i j : Str} (ha : ED X Γ M a (.dat (.str i)) M1) (hb : ED X Γ M1 b (.dat (.str j)) M2) (hm : behindInMarks .NotEq b = false := by first | rfl | exact nomark _) : ET X Γ M (.Compare a [.NotEq] [b] pos) (!decide (i = j)) M2 := et_cmp op_ne rd_neS ha hb hm
theorem et_not {p : Bool} (h : ET X Γ M a p M1) : ET X Γ M (.UnaryOp .Not a pos) (!p) M1 := fun σ H Q k q => PT_w (pt_not pt_w) (h σ H _ k q)
theorem ew_or1 {p : Bool} (h : ET X Γ M a p M1) : ETw X Γ M (.BoolOp .Or [a] pos) p M1 := ⟨_, pw_or1 pt_w, h⟩
theorem ew_and1 {p : Bool} (h : ET X Γ M a p M1) : ETw X Γ M (.BoolOp .And [a] pos) p M1 := ⟨_, pw_and1 pt_w, h⟩
/-- a or .., a false -/
theorem ew_orF {p : Bool} (h : ET X Γ M a false M1) (h2 : ETw X Γ M1 (.BoolOp .Or (b :: rest) pos) p M2) : ETw X Γ M (.BoolOp .Or (a :: b :: rest) pos) p M2 := by
  obtain ⟨t, ht, hq⟩ := h2
  refine ⟨_, pw_or pt_w ht, fun σ H Q k q => h σ H _ k fun H1 g1 o1 => ?_⟩
  rw [if_neg Bool.false_ne_true]
  exact hq σ H1 Q (k.to g1 o1) fun H2 g2 o2 => q H2 (g1.trans g2) o2
theorem ew_orT (h : ET X Γ M a true M1) (hb : ∃ t, PW X (.BoolOp .Or (b :: rest) pos) t) : ETw X Γ M (.BoolOp .Or (a :: b :: rest) pos) true M1 := by
  obtain ⟨t, ht⟩ := hb
  refine ⟨_, pw_or pt_w ht, fun σ H Q k q => h σ H _ k fun H1 g1 o1 => ?_⟩
  rw [if_pos rfl]
  exact q H1 g1 o1
theorem et_w {p : Bool} (h : ETw X Γ M e p M1) : ET X Γ M e p M1 := by
  obtain ⟨t, ht, hq⟩ := h
  exact fun σ H Q k q => PT_w ht.pt (hq σ H Q k q)
theorem pw_or_any : PW X (.BoolOp .Or [a] pos) (wT X a) := pw_or1 pt_w
/-- a if t else b -/
theorem ed_if {p : Bool} (ht : ET X Γ M c p M1) (h1 : p = true → ED X Γ M1 a r M2) (h2 : p = false → ED X Γ M1 b r M2) : ED X Γ M (.IfExp c a b pos) r M2 := fun σ H Q k q =>
  PE_w (pe_ifExp pt_w pe_w pe_w) (ht σ H _ k fun H1 g1 o1 => by
    cases p with
    | true =>
      rw [if_pos rfl]
      exact h1 rfl σ H1 _ (k.to g1 o1) fun v H2 g2 o2 h => q v H2 (g1.trans g2) o2 h
    | false =>
      rw [if_neg Bool.false_ne_true]
      exact h2 rfl σ H1 _ (k.to g1 o1) fun v H2 g2 o2 h => q v H2 (g1.trans g2) o2 h)
/-! ### argument lists, displays -/
theorem ea_nil : EA X Γ M [] [] M := fun σ H Q k q => PA_w pa_nil (q [] H (Gw.refl _) k.own .nil)
theorem ea_cons (ha : ED X Γ M a r M1) (hr : EA X Γ M1 es rs M2) (hs : starEach (a :: es) X.env = (false, eval a X.env) :: starEach es X.env := by rfl) : EA X Γ M (a :: es) (r :: rs) M2 := fun σ H Q k q =>
  PA_w (pa_cons pe_w pa_w hs) (ha σ H _ k fun v H1 g1 o1 h1 => hr σ H1 _ (k.to g1 o1) fun vs H2 g2 o2 h2 => q _ H2 (g1.trans g2) o2 (.cons (g2.rep h1) h2))
theorem ea_star {ds : List PyData} {p : Pos} (ha : ED X Γ M a (.dat (.tuple ds)) M1) (hr : EA X Γ M1 es rs M2) (hs : starEach (.Starred a p :: es) X.env = (true, eval a X.env) :: starEach es X.env := by rfl) : EA X Γ M (.Starred a p :: es) (ds.map .dat ++ rs) M2 := fun σ H Q k q =>
  PA_w (StX.pa_star pe_w pa_w hs) (ha σ H _ k fun v H1 g1 o1 h1 => by
    obtain ⟨l, xs, e, h, hd⟩ := inv_t h1
    exact ⟨l, xs, e, .inl (sqt h), hr σ H1 _ (k.to g1 o1) fun vs H2 g2 o2 h2 => q _ H2 (g1.trans g2) o2 (reps_app (dats_reps (g2.dps hd)) h2)⟩)
theorem ed_tup {ds : List PyData} {x1} (h : EA X Γ M es (ds.map .dat) M1) (hl : ds.length ≤ 100000) : ED X Γ M (.Tuple es x1 pos) (.dat (.tuple ds)) M1 := fun σ H Q k q =>
  PE_w (pe_tup pa_w) (h σ H _ k fun vs H1 g1 o1 h1 => ⟨by rw [dps_len (reps_dats h1)]; exact Nat.le_trans hl (by decide), fun p hp => by
    obtain ⟨o2, g2, h2⟩ := new_t o1 hp (reps_dats h1)
    exact q _ _ (g1.trans g2) o2 h2⟩)
theorem ed_lst {ds : List PyData} (h : EA X Γ M es (ds.map .dat) M1) (hl : ds.length ≤ 100000) : ED X Γ M (.List es pos) (.dat (.list ds)) M1 := fun σ H Q k q =>
  PE_w (pe_lst pa_w) (h σ H _ k fun vs H1 g1 o1 h1 => ⟨by rw [dps_len (reps_dats h1)]; exact Nat.le_trans hl (by decide), fun p hp => by
    obtain ⟨o2, g2, h2⟩ := new_l o1 hp (reps_dats h1)
    exact q _ _ (g1.trans g2) o2 h2⟩)
/-! ### subscripts, slices -/
theorem ed_ixL {ds : List PyData} {d : PyData} {i : Int} (h : atI ds i = some d) (ha : ED X Γ M a (.dat (.list ds)) M1) (hb : ED X Γ M1 b (.i i) M2) (hs : PlainIx b := by exact fun _ _ => rfl) : ED X Γ M (.Subscript a b pos) (.dat d) M2 := ed_op2 (pe_ix ix_list pe_w pe_w hs) ha hb (rd_ixL h)
theorem ed_ixT {ds : List PyData} {d : PyData} {i : Int} (h : atI ds i = some d) (ha : ED X Γ M a (.dat (.tuple ds)) M1) (hb : ED X Γ M1 b (.i i) M2) (hs : PlainIx b := by exact fun _ _ => rfl) : ED X Γ M (.Subscript a b pos) (.dat d) M2 := ed_op2 (pe_ix ix_tup pe_w pe_w hs) ha hb (rd_ixT h)
theorem ed_ixO {l : Addr} {ds : List PyData} {d : PyData} {i : Int} (hm : (l, MO.lst ds) ∈ M2) (h : atI ds i = some d) (ha : ED X Γ M a (.at (.ref l)) M1) (hb : ED X Γ M1 b (.i i) M2) (hs : PlainIx b := by exact fun _ _ => rfl) : ED X Γ M (.Subscript a b pos) (.dat d) M2 := ed_op2 (pe_ix ix_list pe_w pe_w hs) ha hb (rd_ixO hm h)
def EO (X : Cx) (Γ : List Sl) (M : Own) (e : Option Expr) (o : Option Int) : Prop := ∃ t, PO X e t ∧ ∀ (σ : L2.St) (H : Hp) (Q : Option Int → Hp → Prop), Kn M Γ σ H → (∀ H', Gw (hid M H) (hid M H') → OwnOk H' M → Q o H') → t σ H Q
theorem eo_none : EO X Γ M none none := ⟨_, po_none, fun σ H Q k q => q H (Gw.refl _) k.own⟩
theorem eo_some {i : Int} (h : ED X Γ M e (.i i) M) : EO X Γ M (some e) (some i) := ⟨_, po_some pe_w, fun σ H Q k q => h σ H _ k fun v H1 g1 o1 h1 => ⟨i, inv_i h1, q H1 g1 o1⟩⟩
def cutD (ds : List PyData) (lo hi : Option Int) : List PyData := (ds.drop (HT.sIx ds.length 0 lo)).take (HT.sIx ds.length ds.length hi - HT.sIx ds.length 0 lo)
theorem dps_cut {Hd : Hp} {xs : List V} {ds : List PyData} (h : DvAll Hd xs ds) (lo hi : Option Int) : DvAll Hd (cutV xs lo hi) (cutD ds lo hi) := by
  unfold cutV cutD
  rw [dps_len h]
  exact dps_take _ (dps_drop _ h)
theorem ed_slT {ds : List PyData} {lo hi : Option Expr} {lo' hi' : Option Int} {p2 : Pos} (ha : ED X Γ M a (.dat (.tuple ds)) M1) (h1 : EO X Γ M1 lo lo') (h2 : EO X Γ M1 hi hi') : ED X Γ M (.Subscript a (.Slice lo hi none p2) pos) (.dat (.tuple (cutD ds lo' hi'))) M1 := by
  obtain ⟨t1, p1, q1⟩ := h1
  obtain ⟨t2, p2, q2⟩ := h2
  refine fun σ H Q k q => PE_w (pe_slice sl_tupA pe_w p1 p2) (ha σ H _ k fun v H1 g1 o1 r1 => q1 σ H1 _ (k.to g1 o1) fun H2 g2 o2 => q2 σ H2 _ ((k.to g1 o1).to g2 o2) fun H3 g3 o3 => ?_)
  have r3 := (g2.trans g3).rep r1
  obtain ⟨l, xs, e, h, hd⟩ := inv_t r3
  refine ⟨l, xs, e, sqt h, fun z => ?_, fun z p hp => ?_⟩
  · have ed : cutD ds lo' hi' = ds := by
      unfold cutD
      rw [← dps_len hd, z.1, z.2, List.drop_zero, Nat.sub_zero, dps_len hd, List.take_length]
    rw [ed] at q
    rw [e] at r3
    exact q _ H3 ((g1.trans g2).trans g3) o3 r3
  · obtain ⟨o4, g4, h4⟩ := new_t o3 hp (dps_cut hd lo' hi')
    exact q _ _ (((g1.trans g2).trans g3).trans g4) o4 h4
theorem ed_slL {ds : List PyData} {lo hi : Option Expr} {lo' hi' : Option Int} {p2 : Pos} (ha : ED X Γ M a (.dat (.list ds)) M1) (h1 : EO X Γ M1 lo lo') (h2 : EO X Γ M1 hi hi') : ED X Γ M (.Subscript a (.Slice lo hi none p2) pos) (.dat (.list (cutD ds lo' hi'))) M1 := by
  obtain ⟨t1, p1, q1⟩ := h1
  obtain ⟨t2, p2, q2⟩ := h2
  refine fun σ H Q k q => PE_w (pe_slice sl_list pe_w p1 p2) (ha σ H _ k fun v H1 g1 o1 r1 => q1 σ H1 _ (k.to g1 o1) fun H2 g2 o2 => q2 σ H2 _ ((k.to g1 o1).to g2 o2) fun H3 g3 o3 => ?_)
  have r3 := (g2.trans g3).rep r1
  obtain ⟨l, xs, e, h, hd⟩ := inv_l r3
  refine ⟨l, xs, e, sql h, fun p hp => ?_⟩
  obtain ⟨o4, g4, h4⟩ := new_l o3 hp (dps_cut hd lo' hi')
  exact q _ _ (((g1.trans g2).trans g3).trans g4) o4 h4
theorem ed_revL {ds : List PyData} {k : Nat} {p1 p2 p3 : Pos} (ha : ED X Γ M a (.dat (.list ds)) M1) : ED X Γ M (.Subscript a (.Slice none none (some (.UnaryOp .USub (.Constant (.int 1) k p1) p2)) p3) pos) (.dat (.list ds.reverse)) M1 := fun σ H Q kk q =>
  PE_w (pe_revL pe_w) (ha σ H _ kk fun v H1 g1 o1 r1 => by
    obtain ⟨l, xs, e, h, hd⟩ := inv_l r1
    refine ⟨l, xs, e, sql h, fun p hp => ?_⟩
    obtain ⟨o4, g4, h4⟩ := new_l o1 hp (dps_rev hd)
    exact q _ _ (g1.trans g4) o4 h4)
/-! ### built-ins -/
variable {idb T : String} {rc : List V → Hp → VK → Prop} {p : Pos}
theorem ed_callB (hc : CallR X (.builtin idb) rc) (hm : X.mg x = none) (hr : CD M1 rc rs r) (ha : EA X Γ M (e :: es) rs M1) (hv : bootBuiltins x = some (.builtin idb) := by decide +kernel) (hg : Gl X x := by rfl) (hn : x ≠ "__name__" := by decide) (hdb : (x == ("__debug__" : Str)) = false := by decide)
    (he : starEach (e :: es) X.env = (false, eval e X.env) :: starEach es X.env := by rfl) (hpl : (backTo pos (starEach es X.env)).any (·.1) = false := by rfl) : ED X Γ M (.Call (.Name x p) (e :: es) [] pos) r M1 := fun σ H Q k q =>
  PE_w (pe_callB hc hg hm hv pa_w hn hdb he hpl) (ha σ H _ k fun vs H1 g1 o1 h1 => hr H1 vs Q o1 h1 fun z H2 g2 o2 h2 => q z H2 (g1.trans g2) o2 h2)
theorem ed_callTy (hc : CallR X (.type T) rc) (hm : X.mg x = none) (hr : CD M1 rc rs r) (ha : EA X Γ M (e :: es) rs M1) (hv : bootBuiltins x = some (.type T) := by decide +kernel) (hg : Gl X x := by rfl) (hn : x ≠ "__name__" := by decide) (hdb : (x == ("__debug__" : Str)) = false := by decide)
    (he : starEach (e :: es) X.env = (false, eval e X.env) :: starEach es X.env := by rfl) (hpl : (backTo pos (starEach es X.env)).any (·.1) = false := by rfl) : ED X Γ M (.Call (.Name x p) (e :: es) [] pos) r M1 := fun σ H Q k q =>
  PE_w (pe_callTy hc hg hm hv pa_w hn hdb he hpl) (ha σ H _ k fun vs H1 g1 o1 h1 => hr H1 vs Q o1 h1 fun z H2 g2 o2 h2 => q z H2 (g1.trans g2) o2 h2)
theorem reps1 {Hd : Hp} {vs : List V} (h : Reps Hd vs [r]) : ∃ v, vs = [v] ∧ Rep Hd v r := by
  cases h with
  | cons h t =>
    cases t
    exact ⟨_, rfl, h⟩
theorem reps2 {Hd : Hp} {vs : List V} (h : Reps Hd vs [r1, r2]) : ∃ v w, vs = [v, w] ∧ Rep Hd v r1 ∧ Rep Hd w r2 := by
  cases h with
  | cons h t =>
    obtain ⟨w, e, h2⟩ := reps1 t
    exact ⟨_, w, by rw [e], h, h2⟩
theorem reps3 {Hd : Hp} {vs : List V} (h : Reps Hd vs [r1, r2, r3]) : ∃ v w u, vs = [v, w, u] ∧ Rep Hd v r1 ∧ Rep Hd w r2 ∧ Rep Hd u r3 := by
  cases h with
  | cons h t =>
    obtain ⟨w, u, e, h2, h3⟩ := reps2 t
    exact ⟨_, w, u, by rw [e], h, h2, h3⟩
theorem ed_lenT {ds : List PyData} (hm : X.mg "len" = none) (ha : ED X Γ M a (.dat (.tuple ds)) M1) (hs : starEach [a] X.env = [(false, eval a X.env)] := by rfl) (hg : Gl X "len" := by rfl) : ED X Γ M (.Call (.Name "len" p) [a] [] pos) (.i (ds.length : Int)) M1 :=
  ed_callB call_len_seq hm (fun H vs Q o h q => by
    obtain ⟨v, e, h⟩ := reps1 h
    obtain ⟨l, xs, e2, h1, hd⟩ := inv_t h
    rw [← dps_len hd] at q
    exact ⟨l, xs, by rw [e, e2], .inr (sqt h1), q _ H (Gw.refl _) o (Dv.int _)⟩) (ea_cons ha ea_nil hs) boot_len hg (by decide) (by decide) hs
theorem ed_lenL {ds : List PyData} (hm : X.mg "len" = none) (ha : ED X Γ M a (.dat (.list ds)) M1) (hs : starEach [a] X.env = [(false, eval a X.env)] := by rfl) (hg : Gl X "len" := by rfl) : ED X Γ M (.Call (.Name "len" p) [a] [] pos) (.i (ds.length : Int)) M1 :=
  ed_callB call_len_seq hm (fun H vs Q o h q => by
    obtain ⟨v, e, h⟩ := reps1 h
    obtain ⟨l, xs, e2, h1, hd⟩ := inv_l h
    rw [← dps_len hd] at q
    exact ⟨l, xs, by rw [e, e2], .inl (sql h1), q _ H (Gw.refl _) o (Dv.int _)⟩) (ea_cons ha ea_nil hs) boot_len hg (by decide) (by decide) hs
theorem ed_sumL {ns : List Int} (hm : X.mg "sum" = none) (ha : ED X Γ M a (.dat (.list (dI ns))) M1) (hc : X.calm = true := by rfl) (hs : starEach [a] X.env = [(false, eval a X.env)] := by rfl) (hg : Gl X "sum" := by rfl) : ED X Γ M (.Call (.Name "sum" p) [a] [] pos) (.i ns.sum) M1 :=
  ed_callB (cr_sum hc) hm (fun H vs Q o h q => by
    obtain ⟨v, e, h⟩ := reps1 h
    obtain ⟨l, e2, h1⟩ := inv_li h
    exact ⟨l, ns, by rw [e, e2], sql h1, q _ H (Gw.refl _) o (Dv.int _)⟩) (ea_cons ha ea_nil hs) (by decide +kernel) hg (by decide) (by decide) hs
theorem ed_allL {bs : List Bool} (hm : X.mg "all" = none) (ha : ED X Γ M a (.dat (.list (dB bs))) M1) (hc : X.calm = true := by rfl) (hs : starEach [a] X.env = [(false, eval a X.env)] := by rfl) (hg : Gl X "all" := by rfl) : ED X Γ M (.Call (.Name "all" p) [a] [] pos) (.b (bs.all id)) M1 :=
  ed_callB (cr_all hc) hm (fun H vs Q o h q => by
    obtain ⟨v, e, h⟩ := reps1 h
    obtain ⟨l, xs, e2, h1, hd⟩ := inv_l h
    rw [dps_bools hd] at h1
    exact ⟨l, bs, by rw [e, e2], sql h1, q _ H (Gw.refl _) o (Dv.bl _)⟩) (ea_cons ha ea_nil hs) (by decide +kernel) hg (by decide) (by decide) hs
theorem ed_tupleL {ds : List PyData} (hm : X.mg "tuple" = none) (ha : ED X Γ M a (.dat (.list ds)) M1) (hs : starEach [a] X.env = [(false, eval a X.env)] := by rfl) (hg : Gl X "tuple" := by rfl) : ED X Γ M (.Call (.Name "tuple" p) [a] [] pos) (.dat (.tuple ds)) M1 :=
  ed_callTy call_tuple_of hm (fun H vs Q o h q => by
    obtain ⟨v, e, h⟩ := reps1 h
    obtain ⟨l, xs, e2, h1, hd⟩ := inv_l h
    refine ⟨l, xs, by rw [e, e2], .inl ⟨sql h1, fun z hz => ?_⟩⟩
    obtain ⟨o2, g2, h2⟩ := new_t o hz hd
    exact q _ _ g2 o2 h2) (ea_cons ha ea_nil hs) (by decide +kernel) hg (by decide) (by decide) hs
theorem ed_min2 {i j : Int} (hm : X.mg "min" = none) (ha : EA X Γ M [a, b] [.i i, .i j] M1) (hc : X.calm = true := by rfl) (hs : starEach [a, b] X.env = (false, eval a X.env) :: starEach [b] X.env := by rfl) (hpl : (backTo pos (starEach [b] X.env)).any (·.1) = false := by rfl) (hg : Gl X "min" := by rfl) :
    ED X Γ M (.Call (.Name "min" p) [a, b] [] pos) (.i (min i j)) M1 :=
  ed_callB (call_min2 hc) hm (fun H vs Q o h q => by
    obtain ⟨v, w, e, h1, h2⟩ := reps2 h
    refine ⟨i, j, by rw [e, inv_i h1, inv_i h2], ?_⟩
    have e3 : (if j < i then j else i) = min i j := by
      split <;> omega
    rw [e3]
    exact q _ H (Gw.refl _) o (Dv.int _)) ha (by decide +kernel) hg (by decide) (by decide) hs hpl
theorem ed_max2 {i j : Int} (hm : X.mg "max" = none) (ha : EA X Γ M [a, b] [.i i, .i j] M1) (hc : X.calm = true := by rfl) (hs : starEach [a, b] X.env = (false, eval a X.env) :: starEach [b] X.env := by rfl) (hpl : (backTo pos (starEach [b] X.env)).any (·.1) = false := by rfl) (hg : Gl X "max" := by rfl) :
    ED X Γ M (.Call (.Name "max" p) [a, b] [] pos) (.i (max i j)) M1 :=
  ed_callB (call_max2 hc) hm (fun H vs Q o h q => by
    obtain ⟨v, w, e, h1, h2⟩ := reps2 h
    refine ⟨i, j, by rw [e, inv_i h1, inv_i h2], ?_⟩
    have e3 : (if j > i then j else i) = max i j := by
      split <;> omega
    rw [e3]
    exact q _ H (Gw.refl _) o (Dv.int _)) ha (by decide +kernel) hg (by decide) (by decide) hs hpl
theorem nu_lt_int (i j : Int) : nuLt (.int i) (.int j) = some (decide (i < j)) := rfl
theorem ed_min3 {i j l : Int} (hm : X.mg "min" = none) (ha : EA X Γ M [a, b, c] [.i i, .i j, .i l] M1) (hc : X.calm = true := by rfl) (hs : starEach [a, b, c] X.env = (false, eval a X.env) :: starEach [b, c] X.env := by rfl) (hpl : (backTo pos (starEach [b, c] X.env)).any (·.1) = false := by rfl) (hg : Gl X "min" := by rfl) :
    ED X Γ M (.Call (.Name "min" p) [a, b, c] [] pos) (.i (min (min i j) l)) M1 :=
  ed_callB (call_min3Nu hc) hm (fun H vs Q o h q => by
    obtain ⟨v, w, u, e, h1, h2, h3⟩ := reps3 h
    refine ⟨.int i, .int j, .int l, .int (min (min i j) l), by rw [e, inv_i h1, inv_i h2, inv_i h3], ?_, q _ H (Gw.refl _) o (Dv.int _)⟩
    have m2 : ∀ a b : Int, nuMin2 (.int a) (.int b) = some (.int (min a b)) := fun a b => by
      unfold nuMin2
      rw [nu_lt_int]
      show some (if decide (b < a) = true then V.int b else V.int a) = _
      by_cases z : b < a
      · rw [decide_eq_true z, if_pos rfl, Int.min_eq_right (by omega)]
      · rw [decide_eq_false z, if_neg Bool.false_ne_true, Int.min_eq_left (by omega)]
    unfold nuMin3
    rw [m2, Option.bind_some, m2]) ha (by decide +kernel) hg (by decide) (by decide) hs hpl
theorem ed_int1 {i : Int} (hm : X.mg "int" = none) (ha : ED X Γ M a (.i i) M1) (hs : starEach [a] X.env = [(false, eval a X.env)] := by rfl) (hg : Gl X "int" := by rfl) : ED X Γ M (.Call (.Name "int" p) [a] [] pos) (.i i) M1 :=
  ed_callTy call_int1 hm (fun H vs Q o h q => by
    obtain ⟨v, e, h⟩ := reps1 h
    exact .inl ⟨i, by rw [e, inv_i h], q _ H (Gw.refl _) o (Dv.int _)⟩) (ea_cons ha ea_nil hs) (by decide +kernel) hg (by decide) (by decide) hs
theorem ed_abs {i : Int} (hm : X.mg "abs" = none) (ha : ED X Γ M a (.i i) M1) (hs : starEach [a] X.env = [(false, eval a X.env)] := by rfl) (hg : Gl X "abs" := by rfl) : ED X Γ M (.Call (.Name "abs" p) [a] [] pos) (.i (if i < 0 then -i else i)) M1 :=
  ed_callB call_abs hm (fun H vs Q o h q => by
    obtain ⟨v, e, h⟩ := reps1 h
    exact ⟨i, by rw [e, inv_i h], q _ H (Gw.refl _) o (Dv.int _)⟩) (ea_cons ha ea_nil hs) (by decide +kernel) hg (by decide) (by decide) hs
/-- isinstance(x, T), T a built-in class by its name -/
theorem ed_isi {d : PyData} {t : String} {b : Bool} {p2 : Pos} {T : String} {y : Str} (hm : X.mg "isinstance" = none) (hmT : X.mg y = none) (hk : kitB t T = some b) (hty : ∀ (K : Fg) (H : Hp) (v : V), Dv H v d → TyX K H v (.type t))
    (ha : ED X Γ M a (.dat d) M1) (hvT : bootBuiltins y = some (.type T) := by decide +kernel) (hs : starEach [a, .Name y p2] X.env = (false, eval a X.env) :: starEach [.Name y p2] X.env := by rfl) (hpl : (backTo pos (starEach [.Name y p2] X.env)).any (·.1) = false := by rfl) (hg : Gl X "isinstance" := by rfl) (hgT : Gl X y := by rfl)
    (hn : y ≠ "__name__" := by decide) (hdb : (y == ("__debug__" : Str)) = false := by decide) :
    ED X Γ M (.Call (.Name "isinstance" p) [a, .Name y p2] [] pos) (.b b) M1 := by
  have hT : ED X Γ M1 (.Name y p2) (.at (.ty T)) M1 := fun σ H Q k q => PE_w (pe_bltn (v := .ty T) hgT hmT hvT (show Value.type T = Value.type T from rfl) hn hdb) (q _ H (Gw.refl _) k.own rfl)
  refine ed_callB call_isi hm (fun H vs Q o h q => ?_) (ea_cons ha (ea_cons hT ea_nil) hs) (by decide +kernel) hg (by decide) (by decide) hs hpl
  obtain ⟨v, w, e, h1, h2⟩ := reps2 h
  have h2 : w = .ty T := h2
  exact ⟨v, .ty T, .type t, .type T, b, by rw [e, h2], .ty T, hty X.K H v (gw_hid.dp h1), kit_ty hk, q _ H (Gw.refl _) o (Dv.bl _)⟩
theorem ty_int {K : Fg} {H : Hp} {v : V} {n : Int} (h : Dv H v (.int n)) : TyX K H v (.type "int") := by
  cases h
  exact .base (.int n)
theorem ty_tup {K : Fg} {H : Hp} {v : V} {ds : List PyData} (h : Dv H v (.tuple ds)) : TyX K H v (.type "tuple") := by
  cases h with
  | tup h1 _ => exact .base (.tup h1)
section
variable {p2 : Pos} {n : Int} {ds : List PyData}
theorem ed_isInt (hm : X.mg "isinstance" = none) (hmT : X.mg "int" = none) (ha : ED X Γ M a (.i n) M1) (hs : starEach [a, .Name "int" p2] X.env = (false, eval a X.env) :: starEach [.Name "int" p2] X.env := by rfl) (hpl : (backTo pos (starEach [.Name "int" p2] X.env)).any (·.1) = false := by rfl) (hg : Gl X "isinstance" := by rfl) (hgT : Gl X "int" := by rfl) :
    ED X Γ M (.Call (.Name "isinstance" p) [a, .Name "int" p2] [] pos) (.b true) M1 := ed_isi (t := "int") (T := "int") hm hmT (by decide +kernel) (fun K H v h => ty_int h) ha (by decide +kernel) hs hpl hg hgT
theorem ed_isBool (hm : X.mg "isinstance" = none) (hmT : X.mg "bool" = none) (ha : ED X Γ M a (.i n) M1) (hs : starEach [a, .Name "bool" p2] X.env = (false, eval a X.env) :: starEach [.Name "bool" p2] X.env := by rfl) (hpl : (backTo pos (starEach [.Name "bool" p2] X.env)).any (·.1) = false := by rfl) (hg : Gl X "isinstance" := by rfl) (hgT : Gl X "bool" := by rfl) :
    ED X Γ M (.Call (.Name "isinstance" p) [a, .Name "bool" p2] [] pos) (.b false) M1 := ed_isi (t := "int") (T := "bool") hm hmT (by decide +kernel) (fun K H v h => ty_int h) ha (by decide +kernel) hs hpl hg hgT
theorem ed_isTup (hm : X.mg "isinstance" = none) (hmT : X.mg "tuple" = none) (ha : ED X Γ M a (.dat (.tuple ds)) M1) (hs : starEach [a, .Name "tuple" p2] X.env = (false, eval a X.env) :: starEach [.Name "tuple" p2] X.env := by rfl) (hpl : (backTo pos (starEach [.Name "tuple" p2] X.env)).any (·.1) = false := by rfl) (hg : Gl X "isinstance" := by rfl) (hgT : Gl X "tuple" := by rfl) :
    ED X Γ M (.Call (.Name "isinstance" p) [a, .Name "tuple" p2] [] pos) (.b true) M1 := ed_isi (t := "tuple") (T := "tuple") hm hmT (by decide +kernel) (fun K H v h => ty_tup h) ha (by decide +kernel) hs hpl hg hgT
end
end
end Wm
set_option Elab.async false
set_option linter.all false
set_option maxRecDepth 100000
set_option maxHeartbeats 4000000
namespace Wm
open PySem PySem.Spec PyProof.Rows L2
/-! ### stores to several names -/
def sets {α : Type} (l : List α) : List (Nat × α) → List α
  | [] => l
  | p :: r => sets (l.set p.1 p.2) r
def datS (bs : List (Nat × PyData)) : List (Nat × Sl) := bs.map fun p => (p.1, .dat p.2)
def valS : List (Nat × PyData) → List V → List (Nat × Option V)
  | p :: r, v :: vs => (p.1, some v) :: valS r vs
  | _, _ => []
theorem EnvOk.sets {Hd : Hp} : ∀ {bs : List (Nat × PyData)} {vs : List V} {σ : L2.St} {Γ : List Sl}, EnvOk Hd σ Γ → DvAll Hd vs (bs.map Prod.snd) → EnvOk Hd (sets σ (valS bs vs)) (sets Γ (datS bs))
  | [], _, _, _, h, _ => by
    cases ‹List V› <;> exact h
  | p :: r, v :: vs, σ, Γ, h, hd => by
    cases hd with
    | cons h1 h2 => exact EnvOk.sets (bs := r) (vs := vs) (h.set p.1 (r := .dat p.2) h1) h2
  | p :: r, [], _, _, _, hd => by cases hd
def wipeG (Γ : List Sl) : List Nat → List Sl
  | [] => Γ
  | v :: vs => (wipeG Γ vs).set v .no
theorem EnvOk.wipe {Hd : Hp} {σ : L2.St} {Γ : List Sl} (h : EnvOk Hd σ Γ) : ∀ vs : List Nat, EnvOk Hd (L2.wipe σ vs) (wipeG Γ vs)
  | [] => h
  | v :: vs => (EnvOk.wipe h vs).forget v
theorem wipe_get (σ : L2.St) (i : Nat) : ∀ vs : List Nat, (L2.wipe σ vs)[i]? = if i ∈ vs then (σ[i]?).map (fun _ => none) else σ[i]?
  | [] => by
    rw [if_neg (by simp)]
    rfl
  | v :: vs => by
    show ((L2.wipe σ vs).set v none)[i]? = _
    by_cases e : v = i
    · subst e
      rw [if_pos (by simp)]
      by_cases hv : v < (L2.wipe σ vs).length
      · rw [List.getElem?_set_self hv]
        rw [wipe_length] at hv
        rw [List.getElem?_eq_getElem hv]
        rfl
      · rw [List.getElem?_eq_none (by rw [List.length_set]; omega)]
        rw [wipe_length] at hv
        rw [List.getElem?_eq_none (by omega)]
        rfl
    · rw [List.getElem?_set_ne e, wipe_get σ i vs]
      by_cases h : i ∈ vs
      · rw [if_pos h, if_pos (List.mem_cons_of_mem _ h)]
      · rw [if_neg h, if_neg (fun z => by rcases List.mem_cons.mp z with z | z; exact e z.symm; exact h z)]
theorem wipe_set (σ : L2.St) {i : Nat} {x : Option V} {vs : List Nat} (h : i ∈ vs) : L2.wipe (σ.set i x) vs = L2.wipe σ vs := by
  apply List.ext_getElem?
  intro j
  rw [wipe_get, wipe_get]
  by_cases e : i = j
  · subst e
    rw [if_pos h, if_pos h]
    by_cases hi : i < σ.length
    · rw [List.getElem?_set_self hi, List.getElem?_eq_getElem hi]
      rfl
    · rw [List.getElem?_eq_none (by rw [List.length_set]; omega), List.getElem?_eq_none (by omega)]
  · rw [List.getElem?_set_ne e]
theorem wipe_wipe (σ : L2.St) (vs : List Nat) : L2.wipe (L2.wipe σ vs) vs = L2.wipe σ vs := by
  apply List.ext_getElem?
  intro j
  rw [wipe_get, wipe_get]
  by_cases h : j ∈ vs
  · rw [if_pos h, if_pos h, Option.map_map]
    rfl
  · rw [if_neg h, if_neg h]
theorem wipe_sets {vs : List Nat} : ∀ {bs : List (Nat × PyData)} {ws : List V} {σ : L2.St}, (∀ p ∈ bs, p.1 ∈ vs) → L2.wipe (sets σ (valS bs ws)) vs = L2.wipe σ vs
  | [], ws, _, _ => by cases ws <;> rfl
  | p :: r, [], _, _ => rfl
  | p :: r, w :: ws, σ, h => by
    show L2.wipe (sets (σ.set p.1 (some w)) (valS r ws)) vs = _
    rw [wipe_sets (fun q hq => h q (List.mem_cons_of_mem _ hq)), wipe_set σ (h p List.mem_cons_self)]
theorem wipe_wsets {vs : List Nat} {bs : List (Nat × PyData)} {ws : List V} {σ : L2.St} (h : ∀ p ∈ bs, p.1 ∈ vs) : L2.wipe (sets (L2.wipe σ vs) (valS bs ws)) vs = L2.wipe σ vs := by
  rw [wipe_sets h, wipe_wipe]
/-! ### targets -/
def TgOk (g : TG) (d : PyData) (bs : List (Nat × PyData)) : Prop := ∀ (v : V) (σ : L2.St) (H : Hp) (M : Own) (Q : L2.St → Hp → Prop), Dv (hid M H) v d →
  (∀ vs, DvAll (hid M H) vs (bs.map Prod.snd) → Q (sets σ (valS bs vs)) H) → g v σ H Q
theorem tg_name {i : Nat} {d : PyData} : TgOk (gName i) d [(i, d)] := fun v σ H M Q h q => q [v] (.cons h .nil)
theorem tg_pair {K : Fg} {i j : Nat} {d1 d2 : PyData} : TgOk (gTup K 2 (gCons (gName i) (gCons (gName j) gNil))) (.tuple [d1, d2]) [(i, d1), (j, d2)] := fun v σ H M Q h q => by
  cases h with
  | tup h1 h2 =>
    cases h2 with
    | cons a1 a2 =>
      cases a2 with
      | cons b1 b2 =>
        cases b2
        exact ⟨_, _, rfl, sqt (hid_some h1).1, rfl, _, _, rfl, _, _, rfl, rfl, q [_, _] (.cons a1 (.cons b1 .nil))⟩
/-! ### what is walked -/
def Kp (M M' : Own) : Prop := ∀ (a : Addr) (o : Obj) (k : List (List Int × Int)), (a, MO.frz o k) ∈ M → (a, MO.frz o k) ∈ M'
theorem Kp.refl (M : Own) : Kp M M := fun _ _ _ h => h
theorem Kp.trans {M M1 M2 : Own} (a : Kp M M1) (b : Kp M1 M2) : Kp M M2 := fun x o k h => b x o k (a x o k h)
theorem Kp.cons {M : Own} {p : Addr × MO} : Kp M (p :: M) := fun _ _ _ h => List.mem_cons_of_mem _ h
structure Wk (J : It) (M : Own) (H : Hp) (items : List PyData) : Prop where
  go : ∀ (i : Nat) (H' : Hp) (M' : Own), i < items.length → Gw (hid M H) (hid M' H') → OwnOk H' M' → Kp M M' → J.go i H'
  stop : ∀ (H' : Hp) (M' : Own), Gw (hid M H) (hid M' H') → OwnOk H' M' → Kp M M' → J.stop items.length H'
  yld : ∀ (i : Nat) (d : PyData) (x : V) (H' H'' : Hp) (M' : Own), items[i]? = some d → Gw (hid M H) (hid M' H') → OwnOk H' M' → Kp M M' → J.yld i H' x H'' → Gw (hid M' H') (hid M' H'') ∧ OwnOk H'' M' ∧ Dv (hid M' H'') x d
theorem Wk.walk {J : It} {M : Own} {H : Hp} {items : List PyData} (h : Wk J M H items) : Walk J items.length (fun H' => ∃ M', Gw (hid M H) (hid M' H') ∧ OwnOk H' M' ∧ Kp M M') J.yld :=
  ⟨fun i H' hi ⟨M', g, o, kp⟩ => h.go i H' M' hi g o kp, fun H' ⟨M', g, o, kp⟩ => h.stop H' M' g o kp, fun _ _ _ _ _ _ y => y⟩
/-- an item that lies there -/
theorem Wk.still {J : It} {M : Own} {H : Hp} {items : List PyData} {G : Hp → Prop} {Y : Nat → Hp → V → Hp → Prop} (w : Walk J items.length G Y) (hG : ∀ (H' : Hp) (M' : Own), Gw (hid M H) (hid M' H') → OwnOk H' M' → Kp M M' → G H')
    (hY : ∀ (i : Nat) (d : PyData) (x : V) (H' H'' : Hp) (M' : Own), items[i]? = some d → Gw (hid M H) (hid M' H') → OwnOk H' M' → Kp M M' → Y i H' x H'' → Gw (hid M' H') (hid M' H'') ∧ OwnOk H'' M' ∧ Dv (hid M' H'') x d) : Wk J M H items :=
  ⟨fun i H' M' hi g o kp => w.goes i H' hi (hG H' M' g o kp), fun H' M' g o kp => w.stops H' (hG H' M' g o kp), fun i d x H' H'' M' e g o kp y => hY i d x H' H'' M' e g o kp (w.yields i H' x H'' (List.getElem?_eq_some_iff.mp e).1 (hG H' M' g o kp) y)⟩
def SRC (X : Cx) (Γ : List Sl) (M : Own) (tg iter : Expr) (items : List PyData) (M1 : Own) : Prop := ∀ (σ : L2.St) (H : Hp) (R : It → Hp → Prop), Kn M Γ σ H →
  (∀ J H', Gw (hid M H) (hid M1 H') → OwnOk H' M1 → Wk J M1 H' items → R J H') → wI X tg iter σ H R
section
variable {X : Cx} {Γ : List Sl} {M M1 M2 M3 : Own} {a b c e : Expr} {es rest : List Expr} {r r1 r2 r3 : Sl} {rs : List Sl} {pos tpos p : Pos} {x : Str} {tg iter : Expr}
theorem src_is {is is' : List PyData} (h : SRC X Γ M tg iter is M1) (q : is = is') : SRC X Γ M tg iter is' M1 := q ▸ h
theorem src_tup {ds : List PyData} (h : ED X Γ M iter (.dat (.tuple ds)) M1) : SRC X Γ M tg iter ds M1 := fun σ H R k q => PI_w (pi_tup pe_w) (h σ H _ k fun v H1 g1 o1 r1 => by
  cases r1 with
  | @tup l xs _ h1 hd =>
    obtain ⟨k1, _⟩ := hid_some h1
    refine ⟨l, rfl, ⟨xs, sqt k1⟩, q _ H1 g1 o1 ?_⟩
    have w := walk_tup (K := X.K) (a := l) (xs := xs)
    rw [dps_len hd] at w
    refine Wk.still w (fun H' M' g o kp => sqt (hid_some (g _ _ h1)).1) fun i d z H' H'' M' e g o kp y => ?_
    obtain ⟨e1, e2⟩ := y
    subst e1
    obtain ⟨d', h3, h4⟩ := dps_at hd e2
    rw [e] at h3
    cases h3
    exact ⟨Gw.refl _, o, g.dp h4⟩)
theorem src_list {ds : List PyData} (h : ED X Γ M iter (.dat (.list ds)) M1) : SRC X Γ M tg iter ds M1 := fun σ H R k q => PI_w (pi_list pe_w) (h σ H _ k fun v H1 g1 o1 r1 => by
  cases r1 with
  | @lst l xs _ h1 hd =>
    obtain ⟨k1, _⟩ := hid_some h1
    refine ⟨l, rfl, ⟨xs, sql k1⟩, q _ H1 g1 o1 ?_⟩
    have w := walk_list (K := X.K) (a := l) (xs := xs)
    rw [dps_len hd] at w
    refine Wk.still w (fun H' M' g o kp => sql (hid_some (g _ _ h1)).1) fun i d z H' H'' M' e g o kp y => ?_
    obtain ⟨e1, e2⟩ := y
    subst e1
    obtain ⟨d', h3, h4⟩ := dps_at hd e2
    rw [e] at h3
    cases h3
    exact ⟨Gw.refl _, o, g.dp h4⟩)
/-- lo, lo + 1, .. -/
def rg (lo : Int) (n : Nat) : List Int := (List.range n).map fun (i : Nat) => lo + (i : Int)
theorem rg_len (lo : Int) (n : Nat) : (rg lo n).length = n := by unfold rg; simp
theorem rg_get (lo : Int) (n i : Nat) : (rg lo n)[i]? = if i < n then some (lo + (i : Int)) else none := by
  unfold rg
  rw [List.getElem?_map]
  by_cases h : i < n
  · rw [if_pos h, List.getElem?_range h]
    rfl
  · rw [if_neg h, List.getElem?_eq_none (by simp; omega)]
    rfl
theorem wk_range {lo : Int} {n : Nat} {M : Own} {H : Hp} : Wk (Itr lo n) M H (dI (rg lo n)) := by
  have w := walk_range (lo := lo) (n := n)
  have e0 : n = (dI (rg lo n)).length := by unfold dI; rw [List.length_map, rg_len]
  rw [e0] at w
  have e1 : Itr lo (dI (rg lo n)).length = Itr lo n := by rw [← e0]
  rw [e1] at w
  refine Wk.still w (fun _ _ _ _ _ => trivial) fun i d z H' H'' M' e g o kp y => ?_
  obtain ⟨e1, e2⟩ := y
  subst e1 e2
  unfold dI at e
  rw [List.getElem?_map, rg_get] at e
  by_cases h : i < n
  · rw [if_pos h] at e
    cases e
    exact ⟨Gw.refl _, o, .int _⟩
  · rw [if_neg h] at e
    cases e
theorem src_range1 {n : Int} (hm : X.mg "range" = none) (ha : ED X Γ M a (.i n) M1) (h1 : -1000000 ≤ n) (h2 : n ≤ 1000000) (hg : Gl X "range" := by rfl) (hs : starEach [a] X.env = [(false, eval a X.env)] := by rfl) : SRC X Γ M tg (.Call (.Name "range" p) [a] [] pos) (dI (rg 0 n.toNat)) M1 := fun σ H R k q =>
  PI_w (pi_range1 hg hm (pa_cons pe_w pa_nil hs) hs) (ha σ H _ k fun v H1 g1 o1 r1 => by
    rw [inv_i r1]
    exact ⟨n, rfl, by omega, by omega, q _ H1 g1 o1 wk_range⟩)
theorem src_range2 {n m : Int} (hm : X.mg "range" = none) (ha : EA X Γ M [a, b] [.i n, .i m] M1) (h1 : -1000000 ≤ n) (h2 : n ≤ 1000000) (h3 : -1000000 ≤ m) (h4 : m ≤ 1000000) (hg : Gl X "range" := by rfl) (hs : starEach [a, b] X.env = [(false, eval a X.env), (false, eval b X.env)] := by rfl) (hs2 : starEach [b] X.env = [(false, eval b X.env)] := by rfl) : SRC X Γ M tg (.Call (.Name "range" p) [a, b] [] pos) (dI (rg n (m - n).toNat)) M1 := fun σ H R k q =>
  PI_w (pi_range2 hg hm pa_w hs hs2) (ha σ H _ k fun vs H1 g1 o1 r1 => by
    obtain ⟨v, w, e, x1, x2⟩ := reps2 r1
    rw [e, inv_i x1, inv_i x2]
    exact ⟨n, m, rfl, ⟨by omega, by omega, by omega, by omega⟩, q _ H1 g1 o1 wk_range⟩)
def prs (xs ys : List PyData) : List PyData := (xs.zip ys).map fun p => .tuple [p.1, p.2]
theorem new_pair {H : Hp} {M : Own} {T : Addr} {u w : V} {d d' : PyData} (o : OwnOk H M) (hT : H T = none) (h1 : Dv (hid M H) u d) (h2 : Dv (hid M H) w d') :
    Gw (hid M H) (hid M (upd H T (.tup [u, w]))) ∧ OwnOk (upd H T (.tup [u, w])) M ∧ Dv (hid M (upd H T (.tup [u, w]))) (.ref T) (.tuple [d, d']) := by
  obtain ⟨o2, g, h⟩ := new_t o hT (.cons h1 (.cons h2 .nil))
  exact ⟨g, o2, h⟩
theorem src_zipT {ds es : List PyData} {elts : List Expr} {kk : Nat} (hm : X.mg "zip" = none) (ha : EA X Γ M [a, b] [.dat (.tuple ds), .dat (.tuple es)] M1) (hl : ds.length = es.length) (hg : Gl X "zip" := by rfl) (hs : starEach [a, b] X.env = (false, eval a X.env) :: starEach [b] X.env := by rfl) (hpl : (backTo pos (starEach [b] X.env)).any (·.1) = false := by rfl) :
    SRC X Γ M (.Tuple elts kk tpos) (.Call (.Name "zip" p) [a, b] [] pos) (prs ds es) M1 := fun σ H R k q =>
  PI_w (RZ.pi_zipA hg hm pa_w hs hpl) (ha σ H _ k fun vs H1 g1 o1 r1 => by
    obtain ⟨v, w, e, x1, x2⟩ := reps2 r1
    cases x1 with
    | @tup l xs _ h1 hd =>
      cases x2 with
      | @tup l' ys _ h2 hd' =>
        have k1 := (hid_some h1).1
        have k2 := (hid_some h2).1
        refine ⟨l, l', xs, ys, e, .inr ⟨sqt k1, sqt k2, q _ H1 g1 o1 ?_⟩⟩
        have hlen : (prs ds es).length = xs.length := by
          unfold prs
          rw [List.length_map, List.length_zip, ← hl, Nat.min_self, dps_len hd]
        have xy : xs.length = ys.length := by rw [dps_len hd, dps_len hd', hl]
        have ex : ∀ {H' : Hp} {M' : Own}, Gw (hid M1 H1) (hid M' H') → H' l = some (.tup xs) ∧ H' l' = some (.tup ys) := fun g => ⟨(hid_some (g _ _ h1)).1, (hid_some (g _ _ h2)).1⟩
        refine ⟨fun i H' M' hi g o kp => ?_, fun H' M' g o kp => ?_, fun i d z H' H'' M' ei g o kp y => ?_⟩
        · rw [hlen] at hi
          exact ⟨xs, ys, xs[i], ys[i]'(by omega), sqt (ex g).1, sqt (ex g).2, List.getElem?_eq_getElem hi, List.getElem?_eq_getElem (by omega)⟩
        · rw [hlen]
          exact ⟨xs, ys, sqt (ex g).1, sqt (ex g).2, .inl (Nat.le_refl _)⟩
        · obtain ⟨T, u, w', y1, y2, y3, y4, y5⟩ := y
          subst y1 y3
          obtain ⟨d1, z1, z2⟩ := dps_at hd (y4 xs (sqt (ex g).1))
          obtain ⟨d2, z3, z4⟩ := dps_at hd' (y5 ys (sqt (ex g).2))
          have ed : d = .tuple [d1, d2] := by
            unfold prs at ei
            rw [List.getElem?_map, show (ds.zip es)[i]? = some (d1, d2) from List.getElem?_zip_eq_some.mpr ⟨z1, z3⟩] at ei
            cases ei
            rfl
          rw [ed]
          exact new_pair o y2 (g.dp z2) (g.dp z4))
/-- enumerate's items -/
def enr (ds : List PyData) : List PyData := prs (dI (rg 0 ds.length)) ds
theorem enr_get {ds : List PyData} {i : Nat} {d : PyData} (h : ds[i]? = some d) : (enr ds)[i]? = some (.tuple [.int (i : Int), d]) := by
  unfold enr prs
  have hi := (List.getElem?_eq_some_iff.mp h).1
  have e1 : (dI (rg 0 ds.length))[i]? = some (.int (i : Int)) := by
    unfold dI
    rw [List.getElem?_map, rg_get, if_pos hi, Int.zero_add]
    rfl
  rw [List.getElem?_map, show ((dI (rg 0 ds.length)).zip ds)[i]? = some (.int (i : Int), d) from List.getElem?_zip_eq_some.mpr ⟨e1, h⟩]
  rfl
theorem enr_len (ds : List PyData) : (enr ds).length = ds.length := by
  unfold enr prs dI
  rw [List.length_map, List.length_zip, List.length_map, rg_len, Nat.min_self]
theorem wk_enum {K : Fg} {l : Addr} {xs : List V} {ds : List PyData} {H1 : Hp} (h1 : hid M1 H1 l = some (.lst xs)) (hd : DvAll (hid M1 H1) xs ds) : Wk (Ite K l) M1 H1 (enr ds) := by
  refine ⟨fun i H' M' hi g o kp => ?_, fun H' M' g o kp => ?_, fun i d z H' H'' M' ei g o kp y => ?_⟩
  · rw [enr_len, ← dps_len hd] at hi
    exact ⟨xs, xs[i], sql (hid_some (g _ _ h1)).1, List.getElem?_eq_getElem hi⟩
  · rw [enr_len, ← dps_len hd]
    exact ⟨xs, sql (hid_some (g _ _ h1)).1, Nat.le_refl _⟩
  · obtain ⟨T, u, y1, y2, y3, y4⟩ := y
    subst y1 y3
    obtain ⟨d2, z3, z4⟩ := dps_at hd (y4 xs (sql (hid_some (g _ _ h1)).1))
    rw [enr_get z3] at ei
    cases ei
    exact new_pair o y2 (.int _) (g.dp z4)
theorem src_enumL {ds : List PyData} {elts : List Expr} {kk : Nat} (hm : X.mg "enumerate" = none) (ha : ED X Γ M a (.dat (.list ds)) M1) (hg : Gl X "enumerate" := by rfl) (hs : starEach [a] X.env = [(false, eval a X.env)] := by rfl) :
    SRC X Γ M (.Tuple elts kk tpos) (.Call (.Name "enumerate" p) [a] [] pos) (enr ds) M1 := fun σ H R k q =>
  PI_w (pi_enum hg hm (pa_cons pe_w pa_nil hs) hs) (ha σ H _ k fun v H1 g1 o1 r1 => by
    cases r1 with
    | @lst l xs _ h1 hd => exact ⟨l, xs, rfl, sql (hid_some h1).1, q _ H1 g1 o1 (wk_enum h1 hd)⟩)
end
/-! ### comprehensions -/
section
variable {X : Cx} {Γ : List Sl} {M M1 M2 M3 : Own} {elt tg iter tg1 iter1 c : Expr} {ifs : List Expr} {scope : Scope} {own : List (Str × Nat)} {pos tpos p : Pos} {g g1 : TG} {β γ : Type}
/-- the readings of a block, for every context -/
def bE (X : Cx) (scope : Scope) (e : Expr) : TE := fun σ H Q => ∀ (s : Shared) (H0 : Hp) (C : Addr) (cl : List (Str × Addr)) (fp : List Addr), wE (X.blk s H0 scope (compEnvC scope cl C X.env) fp) e σ H Q
def bT (X : Cx) (scope : Scope) (e : Expr) : TT := fun σ H Q => ∀ (s : Shared) (H0 : Hp) (C : Addr) (cl : List (Str × Addr)) (fp : List Addr), wT (X.blk s H0 scope (compEnvC scope cl C X.env) fp) e σ H Q
def bI (X : Cx) (scope : Scope) (tg e : Expr) : TI := fun σ H Q => ∀ (s : Shared) (H0 : Hp) (C : Addr) (cl : List (Str × Addr)) (fp : List Addr), wI (X.blk s H0 scope (compEnvC scope cl C X.env) fp) tg e σ H Q
/-- in every block -/
abbrev Blk (X : Cx) (scope : Scope) (P : Cx → Prop) : Prop := ∀ (s : Shared) (H : Hp) (C : Addr) (cl : List (Str × Addr)) (fp : List Addr), P (X.blk s H scope (compEnvC scope cl C X.env) fp)
theorem take_fm {f : β → PyData} {q : β → Bool} {L : List β} {i : Nat} {b : β} (h : L[i]? = some b) (hq : q b = true) : ((L.take (i + 1)).filter q).map f = ((L.take i).filter q).map f ++ [f b] := by
  rw [List.take_add_one, h, List.filter_append, List.map_append]
  show _ ++ List.map f (List.filter q [b]) = _
  rw [List.filter_cons, if_pos hq]
  rfl
theorem take_fm0 {f : β → PyData} {q : β → Bool} {L : List β} {i : Nat} {b : β} (h : L[i]? = some b) (hq : q b = false) : ((L.take (i + 1)).filter q).map f = ((L.take i).filter q).map f := by
  rw [List.take_add_one, h, List.filter_append, List.map_append]
  show _ ++ List.map f (List.filter q [b]) = _
  rw [List.filter_cons, if_neg (by rw [hq]; exact Bool.false_ne_true)]
  show _ ++ [] = _
  rw [List.append_nil]
theorem lc_read {tt : TT} {te : TE} {L : List β} {enc : β → PyData} {bs : β → List (Nat × PyData)} {q : β → Bool} {f : β → PyData} (hi : SRC X Γ M tg iter (L.map enc) M1)
    (htg : ∀ b ∈ L, TgOk g (enc b) (bs b)) (hbs : ∀ b ∈ L, ∀ p ∈ bs b, p.1 ∈ own.map (·.2))
    (ht : ∀ b ∈ L, ∀ (M2 : Own) (σ : L2.St) (H : Hp) (Q : Bool → Hp → Prop), Kn M2 (sets (wipeG Γ (own.map (·.2))) (datS (bs b))) σ H → (∀ H', Gw (hid M2 H) (hid M2 H') → OwnOk H' M2 → Q (q b) H') → tt σ H Q)
    (he : ∀ b ∈ L, q b = true → ∀ (M2 : Own) (σ : L2.St) (H : Hp) (Q : VK), Kn M2 (sets (wipeG Γ (own.map (·.2))) (datS (bs b))) σ H → (∀ v H', Gw (hid M2 H) (hid M2 H') → OwnOk H' M2 → Dv (hid M2 H') v (f b) → Q v H') → te σ H Q)
    (hz : L.length ≤ 100000) {σ : L2.St} {H : Hp} {Q : VK} (k : Kn M Γ σ H) (qq : ∀ v H', Gw (hid M H) (hid M1 H') → OwnOk H' M1 → Rep (hid M1 H') v (.dat (.list ((L.filter q).map f))) → Q v H') :
    tLc (wI X tg iter) g tt te (own.map (·.2)) σ H Q := by
  refine hi σ H _ k fun J H1 g1 o1 w D hD => ?_
  have wl := w.walk
  rw [List.length_map] at wl
  have hfr := o1.fresh hD
  refine lc_it wl (fun i Hi => OwnOk Hi ((D, MO.lst (((L.take i).filter q).map f)) :: M1) ∧ Gw (hid M1 H1) (hid ((D, MO.lst (((L.take i).filter q).map f)) :: M1) Hi)) ?_ (fun i Hi _ ⟨oi, gi⟩ => ⟨_, gi, oi, Kp.cons⟩) (fun i x Hi Hi' hlt ⟨oi, gi⟩ y => ?_) fun Hn ⟨on, gn⟩ => ?_
  · exact o1.own hD (mo := .lst []) ⟨[], upd_same, .nil⟩
  · obtain ⟨b, hb⟩ : ∃ b, L[i]? = some b := ⟨L[i], List.getElem?_eq_getElem hlt⟩
    have hm : b ∈ L := List.mem_of_getElem? hb
    obtain ⟨g2, o2, hx⟩ := w.yld i (enc b) x Hi Hi' _ (by rw [List.getElem?_map, hb]; rfl) gi oi Kp.cons y
    refine htg b hm x _ Hi' _ _ hx fun vs hvs => ⟨wipe_wsets (hbs b hm), ?_⟩
    have kn : Kn ((D, MO.lst (((L.take i).filter q).map f)) :: M1) (sets (wipeG Γ (own.map (·.2))) (datS (bs b))) (sets (L2.wipe σ (own.map (·.2))) (valS (bs b) vs)) Hi' :=
      ⟨o2, (((k.env.mono (g1.trans (gi.trans g2))).wipe _).sets hvs)⟩
    refine ht b hm _ _ Hi' _ kn fun H3 g3 o3 => ?_
    cases hq : q b with
    | false =>
      rw [if_neg Bool.false_ne_true, take_fm0 hb hq]
      exact ⟨o3, (gi.trans g2).trans g3⟩
    | true =>
      rw [if_pos rfl, take_fm hb hq]
      refine he b hm hq _ _ H3 _ (kn.to g3 o3) fun v H4 g4 o4 hv => ?_
      obtain ⟨acc, h5, h6⟩ := (show ∃ xs, H4 D = some (.lst xs) ∧ DvAll (hid _ H4) xs _ from o4.ok _ List.mem_cons_self)
      refine ⟨acc, h5, ?_, ?_⟩
      · have e1 := dps_len h6
        have e2 : (((L.take i).filter q).map f).length ≤ L.length := by
          rw [List.length_map]
          exact Nat.le_trans (List.length_filter_le _ _) (by rw [List.length_take]; omega)
        rw [e1]
        exact Nat.lt_of_le_of_lt (Nat.le_trans e2 hz) (by decide)
      · obtain ⟨o5, e5⟩ := o4.put (o := .lst (acc ++ [v])) (mo' := .lst (((L.take i).filter q).map f ++ [f b])) ⟨_, upd_same, dps_app h6 (.cons hv .nil)⟩
        refine ⟨o5, ?_⟩
        rw [e5]
        exact ((gi.trans g2).trans g3).trans g4
  · rw [List.take_length] at on gn
    obtain ⟨acc, h5, h6⟩ := (show ∃ xs, Hn D = some (.lst xs) ∧ DvAll (hid _ Hn) xs _ from on.ok _ List.mem_cons_self)
    obtain ⟨o6, g6⟩ := OwnOk.drop (L := [(D, MO.lst ((L.filter q).map f))]) on
    exact qq _ Hn (g1.trans (gn.trans g6)) o6 (.lst (by rw [hid_out hfr]; exact h5) (g6.dps h6))
/-- without a test -/
theorem lc_read0 {L : List β} {enc : β → PyData} {bs : β → List (Nat × PyData)} {f : β → PyData} (hi : SRC X Γ M tg iter (L.map enc) M1)
    (htg : ∀ b ∈ L, TgOk g (enc b) (bs b)) (hbs : ∀ b ∈ L, ∀ p ∈ bs b, p.1 ∈ own.map (·.2))
    (he : ∀ b ∈ L, ∀ M2, Blk X scope fun Y => ED Y (sets (wipeG Γ (own.map (·.2))) (datS (bs b))) M2 elt (.dat (f b)) M2)
    (hz : L.length ≤ 100000) {σ : L2.St} {H : Hp} {Q : VK} (k : Kn M Γ σ H) (qq : ∀ v H', Gw (hid M H) (hid M1 H') → OwnOk H' M1 → Rep (hid M1 H') v (.dat (.list (L.map f))) → Q v H') :
    tLc (wI X tg iter) g tYes (bE X scope elt) (own.map (·.2)) σ H Q := by
  refine lc_read (q := fun _ => true) hi htg hbs (fun b hb M2 σ H Q k q => q H (Gw.refl _) k.own) (fun b hb _ M2 σ H Q k q => fun s H0 C cl fp => he b hb M2 s H0 C cl fp σ H Q k q) hz k ?_
  rw [show L.filter (fun _ => true) = L from List.filter_eq_self.mpr fun _ _ => rfl]
  exact qq
theorem lc_read1 {L : List β} {enc : β → PyData} {bs : β → List (Nat × PyData)} {q : β → Bool} {f : β → PyData} (hi : SRC X Γ M tg iter (L.map enc) M1)
    (htg : ∀ b ∈ L, TgOk g (enc b) (bs b)) (hbs : ∀ b ∈ L, ∀ p ∈ bs b, p.1 ∈ own.map (·.2))
    (ht : ∀ b ∈ L, ∀ M2, Blk X scope fun Y => ET Y (sets (wipeG Γ (own.map (·.2))) (datS (bs b))) M2 c (q b) M2)
    (he : ∀ b ∈ L, q b = true → ∀ M2, Blk X scope fun Y => ED Y (sets (wipeG Γ (own.map (·.2))) (datS (bs b))) M2 elt (.dat (f b)) M2)
    (hz : L.length ≤ 100000) {σ : L2.St} {H : Hp} {Q : VK} (k : Kn M Γ σ H) (qq : ∀ v H', Gw (hid M H) (hid M1 H') → OwnOk H' M1 → Rep (hid M1 H') v (.dat (.list ((L.filter q).map f))) → Q v H') :
    tLc (wI X tg iter) g (bT X scope c) (bE X scope elt) (own.map (·.2)) σ H Q :=
  lc_read hi htg hbs (fun b hb M2 σ H Q k q => fun s H0 C cl fp => ht b hb M2 s H0 C cl fp σ H Q k q) (fun b hb hq M2 σ H Q k q => fun s H0 C cl fp => he b hb hq M2 s H0 C cl fp σ H Q k q) hz k qq
theorem pe_b {e : Expr} : Blk X scope fun Y => PE Y e (bE X scope e) := fun s H C cl fp => ⟨fun pins s1 σ H1 Q I h => h s H C cl fp pins s1 I⟩
theorem pt_b {e : Expr} : Blk X scope fun Y => PT Y e (bT X scope e) := fun s H C cl fp => ⟨fun pins s1 σ H1 Q I h => h s H C cl fp pins s1 I⟩
theorem pi_b {e : Expr} : Blk X scope fun Y => PI Y tg e (bI X scope tg e) := fun s H C cl fp => ⟨fun pins s1 σ H1 Q I h => h s H C cl fp pins s1 I⟩
/-- [elt for tg in iter] -/
theorem ed_lc {L : List β} {enc : β → PyData} {bs : β → List (Nat × PyData)} {f : β → PyData} (own : List (Str × Nat)) (hi : SRC X Γ M tg iter (L.map enc) M1) (hg : Blk X scope fun Y => PG Y tg g)
    (htg : ∀ b ∈ L, TgOk g (enc b) (bs b)) (hbs : ∀ b ∈ L, ∀ p ∈ bs b, p.1 ∈ own.map (·.2))
    (he : ∀ b ∈ L, ∀ M2, Blk X scope fun Y => ED Y (sets (wipeG Γ (own.map (·.2))) (datS (bs b))) M2 elt (.dat (f b)) M2)
    (hz : L.length ≤ 100000) (hN : X.N.Nodup) (ok : BlkOk X.N X.env.scope scope own) (hc : X.calm = true := by rfl) (hs : ∀ x, foldedSetIterable iter X.env x = pure x := by intro _; rfl) :
    ED X Γ M (.ListComp elt [⟨tg, iter, [], 0⟩] scope pos) (.dat (.list (L.map f))) M1 := fun σ H Q k q =>
  PE_w (pe_lc hc hN pi_w ok hg (fun _ _ _ _ _ => pts_nil) pe_b hs) (lc_read0 hi htg hbs he hz k q)
theorem ed_lcIf {L : List β} {enc : β → PyData} {bs : β → List (Nat × PyData)} {q : β → Bool} {f : β → PyData} (own : List (Str × Nat)) (hi : SRC X Γ M tg iter (L.map enc) M1) (hg : Blk X scope fun Y => PG Y tg g)
    (htg : ∀ b ∈ L, TgOk g (enc b) (bs b)) (hbs : ∀ b ∈ L, ∀ p ∈ bs b, p.1 ∈ own.map (·.2))
    (ht : ∀ b ∈ L, ∀ M2, Blk X scope fun Y => ET Y (sets (wipeG Γ (own.map (·.2))) (datS (bs b))) M2 c (q b) M2)
    (he : ∀ b ∈ L, q b = true → ∀ M2, Blk X scope fun Y => ED Y (sets (wipeG Γ (own.map (·.2))) (datS (bs b))) M2 elt (.dat (f b)) M2)
    (hz : L.length ≤ 100000) (hN : X.N.Nodup) (ok : BlkOk X.N X.env.scope scope own) (hc : X.calm = true := by rfl) (hs : ∀ x, foldedSetIterable iter X.env x = pure x := by intro _; rfl) :
    ED X Γ M (.ListComp elt [⟨tg, iter, [c], 0⟩] scope pos) (.dat (.list ((L.filter q).map f))) M1 := fun σ H Q k qq =>
  PE_w (pe_lc hc hN pi_w ok hg (fun s H C cl fp => pts_one (pt_b s H C cl fp)) pe_b hs) (lc_read1 hi htg hbs ht he hz k qq)
end
end Wm
set_option Elab.async false
set_option linter.all false
set_option maxRecDepth 100000
set_option maxHeartbeats 4000000
namespace Wm
open PySem PySem.Spec PyProof.Rows L2
/-! ### comprehensions of two clauses -/
section
variable {X : Cx} {Γ : List Sl} {M M1 M2 M3 : Own} {elt tg iter tg1 iter1 c : Expr} {ifs : List Expr} {scope : Scope} {own : List (Str × Nat)} {pos tpos p : Pos} {g g1 : TG} {β γ : Type}
theorem yes_if {σ : L2.St} {H : Hp} {F G : Hp → Prop} (h : F H) : tYes σ H (fun b H3 => if b = true then F H3 else G H3) := by
  show (if true = true then F H else G H)
  rw [if_pos rfl]
  exact h
theorem lc2_read {vs1 : List Nat} {L : List β} {Li : β → List γ} {enc : β → PyData} {enc2 : β → γ → PyData} {bs : β → List (Nat × PyData)} {bs2 : β → γ → List (Nat × PyData)} {f : β → γ → PyData} (hi : SRC X Γ M tg iter (L.map enc) M1)
    (htg : ∀ b ∈ L, TgOk g (enc b) (bs b)) (hbs : ∀ b ∈ L, ∀ p ∈ bs b, p.1 ∈ own.map (·.2))
    (hi2 : ∀ b ∈ L, ∀ M2, Blk X scope fun Y => SRC Y (sets (wipeG Γ (own.map (·.2))) (datS (bs b))) M2 tg1 iter1 ((Li b).map (enc2 b)) M2)
    (htg2 : ∀ b ∈ L, ∀ c ∈ Li b, TgOk g1 (enc2 b c) (bs2 b c)) (hbs2 : ∀ b ∈ L, ∀ c ∈ Li b, ∀ p ∈ bs2 b c, p.1 ∈ vs1)
    (he : ∀ b ∈ L, ∀ c ∈ Li b, ∀ M2, Blk X scope fun Y => ED Y (sets (wipeG (sets (wipeG Γ (own.map (·.2))) (datS (bs b))) vs1) (datS (bs2 b c))) M2 elt (.dat (f b c)) M2)
    (hz : (L.flatMap fun b => (Li b).map (f b)).length ≤ 100000) {σ : L2.St} {H : Hp} {Q : VK} (k : Kn M Γ σ H) (qq : ∀ v H', Gw (hid M H) (hid M1 H') → OwnOk H' M1 → Rep (hid M1 H') v (.dat (.list (L.flatMap fun b => (Li b).map (f b)))) → Q v H') :
    tLc2 (wI X tg iter) g tYes (bI X scope tg1 iter1) g1 tYes (bE X scope elt) (own.map (·.2)) vs1 σ H Q := by
  refine hi σ H _ k fun J H1 g1' o1 w D hD => ?_
  have wl := w.walk
  rw [List.length_map] at wl
  have hfr := o1.fresh hD
  -- the list so far: the first i of L whole
  let ac : Nat → List PyData := fun i => (L.take i).flatMap fun b => (Li b).map (f b)
  have acl : ∀ i b, L[i]? = some b → ac (i + 1) = ac i ++ (Li b).map (f b) := fun i b hb => by
    show (L.take (i + 1)).flatMap _ = _
    rw [List.take_add_one, hb, List.flatMap_append]
    show _ ++ List.flatMap _ [b] = _
    rw [List.flatMap_cons, List.flatMap_nil, List.append_nil]
  have acz : ∀ i b j, L[i]? = some b → (ac i ++ ((Li b).take j).map (f b)).length ≤ 100000 := fun i b j hb => by
    refine Nat.le_trans ?_ hz
    have e1 : L = L.take i ++ b :: L.drop (i + 1) := by
      have hi := (List.getElem?_eq_some_iff.mp hb).1
      have e := (List.getElem?_eq_some_iff.mp hb).2
      rw [← e, List.getElem_cons_drop, List.take_append_drop]
    conv => rhs; rw [e1]
    rw [List.flatMap_append, List.flatMap_cons, List.length_append, List.length_append, List.length_append, List.length_map, List.length_map, List.length_take]
    show (ac i).length + _ ≤ (ac i).length + _
    omega
  let Pv : Nat → Hp → Prop := fun i Hi => OwnOk Hi ((D, MO.lst (ac i)) :: M1) ∧ Gw (hid M1 H1) (hid ((D, MO.lst (ac i)) :: M1) Hi)
  refine ⟨fun i m Hi => m = L.length - i ∧ i ≤ L.length ∧ Pv i Hi, ⟨L.length, by simp, Nat.zero_le _, o1.own hD (mo := .lst []) ⟨[], upd_same, .nil⟩⟩, ?_⟩
  rintro i m Hi ⟨rfl, hle, oi, gi⟩
  by_cases hlt : i < L.length
  · refine .inr ⟨wl.goes i Hi hlt ⟨_, gi, oi, Kp.cons⟩, Pv (i + 1), fun H' p' => ⟨L.length - (i + 1), by omega, rfl, hlt, p'⟩, fun x Hi' y => ?_⟩
    obtain ⟨b, hb⟩ : ∃ b, L[i]? = some b := ⟨L[i], List.getElem?_eq_getElem hlt⟩
    have hm : b ∈ L := List.mem_of_getElem? hb
    obtain ⟨g2, o2, hx⟩ := w.yld i (enc b) x Hi Hi' _ (by rw [List.getElem?_map, hb]; rfl) gi oi Kp.cons y
    refine htg b hm x _ Hi' _ _ hx fun vs hvs => ⟨wipe_wsets (hbs b hm), ?_⟩
    have env2 := ((k.env.mono (g1'.trans (gi.trans g2))).wipe (own.map (·.2))).sets hvs
    refine yes_if ?_
    intro s0 H0 C cl fp
    refine hi2 b hm _ s0 H0 C cl fp _ Hi' _ ⟨o2, env2⟩ fun J1 H3 g3 o3 w1 => ?_
    have wl1 := w1.walk
    rw [List.length_map] at wl1
    let Pw : Nat → Hp → Prop := fun j Hj => OwnOk Hj ((D, MO.lst (ac i ++ ((Li b).take j).map (f b))) :: M1) ∧ Gw (hid ((D, MO.lst (ac i)) :: M1) H3) (hid ((D, MO.lst (ac i ++ ((Li b).take j).map (f b))) :: M1) Hj)
    have kp : ∀ l l' : List PyData, Kp ((D, MO.lst l) :: M1) ((D, MO.lst l') :: M1) := fun l l' a o k h => by
      rcases List.mem_cons.mp h with z | z
      · cases z
      · exact List.mem_cons_of_mem _ z
    refine ⟨fun j m Hj => m = (Li b).length - j ∧ j ≤ (Li b).length ∧ Pw j Hj, ⟨(Li b).length, by simp, Nat.zero_le _, ?_⟩, ?_⟩
    · show OwnOk H3 ((D, MO.lst (ac i ++ [])) :: M1) ∧ Gw _ (hid ((D, MO.lst (ac i ++ [])) :: M1) H3)
      rw [List.append_nil]
      exact ⟨o3, Gw.refl _⟩
    · rintro j m' Hj ⟨rfl, hlej, oj, gj⟩
      by_cases hltj : j < (Li b).length
      · refine .inr ⟨wl1.goes j Hj hltj ⟨_, gj, oj, kp _ _⟩, Pw (j + 1), fun H' p' => ⟨(Li b).length - (j + 1), by omega, rfl, hltj, p'⟩, fun x2 Hj' y2 => ?_⟩
        obtain ⟨c, hc⟩ : ∃ c, (Li b)[j]? = some c := ⟨(Li b)[j], List.getElem?_eq_getElem hltj⟩
        have hmc : c ∈ Li b := List.mem_of_getElem? hc
        obtain ⟨g4, o4, hx2⟩ := w1.yld j (enc2 b c) x2 Hj Hj' _ (by rw [List.getElem?_map, hc]; rfl) gj oj (kp _ _) y2
        refine htg2 b hm c hmc x2 _ Hj' _ _ hx2 fun vs2 hvs2 => ⟨wipe_wsets (hbs2 b hm c hmc), ?_⟩
        refine yes_if ?_
        have kn : Kn ((D, MO.lst (ac i ++ ((Li b).take j).map (f b))) :: M1) _ _ Hj' := ⟨o4, ((env2.mono (g3.trans (gj.trans g4))).wipe vs1).sets hvs2⟩
        intro s5 H5' C5 cl5 fp5
        refine he b hm c hmc _ s5 H5' C5 cl5 fp5 _ Hj' _ kn fun v H5 g5 o5 hv => ?_
        obtain ⟨acc, h5, h6⟩ := (show ∃ xs, H5 D = some (.lst xs) ∧ DvAll (hid _ H5) xs _ from o5.ok _ List.mem_cons_self)
        refine ⟨acc, h5, ?_, ?_⟩
        · rw [dps_len h6]
          exact Nat.lt_of_le_of_lt (acz i b j hb) (by decide)
        · have e6 : ac i ++ ((Li b).take (j + 1)).map (f b) = (ac i ++ ((Li b).take j).map (f b)) ++ [f b c] := by
            rw [List.take_add_one, hc, List.map_append, ← List.append_assoc]
            rfl
          obtain ⟨o6, e7⟩ := o5.put (o := .lst (acc ++ [v])) (mo' := .lst ((ac i ++ ((Li b).take j).map (f b)) ++ [f b c])) ⟨_, upd_same, dps_app h6 (.cons hv .nil)⟩
          show OwnOk _ ((D, MO.lst (ac i ++ ((Li b).take (j + 1)).map (f b))) :: M1) ∧ Gw _ (hid ((D, MO.lst (ac i ++ ((Li b).take (j + 1)).map (f b))) :: M1) _)
          rw [e6]
          refine ⟨o6, ?_⟩
          rw [e7]
          exact (gj.trans g4).trans g5
      · have ej : j = (Li b).length := by omega
        subst ej
        refine .inl ⟨wl1.stops Hj ⟨_, gj, oj, kp _ _⟩, ?_⟩
        show OwnOk Hj ((D, MO.lst (ac (i + 1))) :: M1) ∧ Gw _ (hid ((D, MO.lst (ac (i + 1))) :: M1) Hj)
        rw [acl i b hb]
        rw [List.take_length] at oj gj
        exact ⟨oj, ((gi.trans g2).trans g3).trans gj⟩
  · have e : i = L.length := by omega
    subst e
    refine .inl ⟨wl.stops Hi ⟨_, gi, oi, Kp.cons⟩, ?_⟩
    have ea : ac L.length = L.flatMap fun b => (Li b).map (f b) := by
      show (L.take L.length).flatMap _ = _
      rw [List.take_length]
    rw [ea] at oi gi
    obtain ⟨acc, h5, h6⟩ := (show ∃ xs, Hi D = some (.lst xs) ∧ DvAll (hid _ Hi) xs _ from oi.ok _ List.mem_cons_self)
    obtain ⟨o6, g6⟩ := OwnOk.drop (L := [(D, MO.lst (L.flatMap fun b => (Li b).map (f b)))]) oi
    exact qq _ Hi (g1'.trans (gi.trans g6)) o6 (.lst (by rw [hid_out hfr]; exact h5) (g6.dps h6))
end

/-! ### blocks -/
structure Post where
  nx : List Sl → Own → Prop
  rt : Sl → Own → Prop
def SD (X : Cx) (Γ : List Sl) (M : Own) (sts : List Stmt) (P : Post) : Prop := ∀ (σ : L2.St) (H : Hp) (D : Ends), Kn M Γ σ H →
  (∀ Γ' M' σ' H', P.nx Γ' M' → Gw (hid M H) (hid M' H') → Kn M' Γ' σ' H' → D.nx σ' H') →
  (∀ r M' v H', P.rt r M' → Gw (hid M H) (hid M' H') → OwnOk H' M' → Rep (hid M' H') v r → D.rt v H') → wSs X sts D σ H
section
variable {X : Cx} {Γ : List Sl} {M M1 M2 M3 : Own} {a b c e : Expr} {es : List Expr} {rest body orelse : List Stmt} {r r1 r2 r3 : Sl} {rs : List Sl} {pos tpos p py : Pos} {x y : Str} {tg iter : Expr} {P : Post}
theorem SD.imp {P' : Post} (h : SD X Γ M rest P) (h1 : ∀ Γ' M', P.nx Γ' M' → P'.nx Γ' M') (h2 : ∀ r M', P.rt r M' → P'.rt r M') : SD X Γ M rest P' := fun σ H D k n t =>
  h σ H D k (fun Γ' M' σ' H' p => n Γ' M' σ' H' (h1 _ _ p)) (fun r M' v H' p => t r M' v H' (h2 _ _ p))
theorem sd_nil (h : P.nx Γ M) : SD X Γ M [] P := fun σ H D k n t => PSs_w pss_nil (n Γ M σ H h (Gw.refl _) k)
theorem sd_set {i : Nat} (he : ED X Γ M e r M1) (hk : SD X (Γ.set i r) M1 rest P) (hN : X.N.Nodup) (hi : X.N[i]? = some x := by rfl) (hx : Loc X.env.scope x := by first | exact Or.inl rfl | exact Or.inr rfl) (hs : swapsWith e (some (.Name x py)) pos.line X.env = pure false := by rfl)
    (hf : X.fn x = true ∨ X.env.scope.names.lookup x = some .local := by first | exact .inl rfl | exact .inr rfl) : SD X Γ M (.Assign [.Name x py] e pos :: rest) P := fun σ H D k n t =>
  PSs_w (pss_cons (ps_set hN hi hx pe_w hs hf) pss_w) (he σ H _ k fun v H1 g1 o1 h1 => hk _ H1 D ⟨o1, (k.env.mono g1).set i h1⟩ (fun Γ' M' σ' H' p g => n Γ' M' σ' H' p (g1.trans g)) fun r M' v H' p g => t r M' v H' p (g1.trans g))
theorem sd_ret (he : ED X Γ M e r M1) (h : P.rt r M1) : SD X Γ M (.Return (some e) pos :: rest) P := fun σ H D k n t =>
  PSs_w (pss_cons (ps_ret pe_w) pss_never) (he σ H _ k fun v H1 g1 o1 h1 => t r M1 v H1 h g1 o1 h1)
theorem sd_expr (he : ED X Γ M e r M1) (hk : SD X Γ M1 rest P) (hs : swapsWith e none pos.line X.env = pure false := by rfl) : SD X Γ M (.Expr e pos :: rest) P := fun σ H D k n t =>
  PSs_w (pss_cons (ps_expr pe_w hs) pss_w) (he σ H _ k fun v H1 g1 o1 h1 => hk σ H1 D (k.to g1 o1) (fun Γ' M' σ' H' p g => n Γ' M' σ' H' p (g1.trans g)) fun r M' v H' p g => t r M' v H' p (g1.trans g))
theorem sd_ifF (ht : ET X Γ M c false M1) (hk : SD X Γ M1 orelse ⟨fun Γ' M' => SD X Γ' M' rest P, P.rt⟩) : SD X Γ M (.If c body orelse pos :: rest) P := fun σ H D k n t =>
  PSs_w (pss_cons (ps_if pt_w pss_never pss_w) pss_w) (ht σ H _ k fun H1 g1 o1 => by
    refine iteF ?_
    refine hk σ H1 _ (k.to g1 o1) (fun Γ' M' σ' H' hp g kn => ?_) fun r M' v H' p g => t r M' v H' p (g1.trans g)
    exact hp σ' H' D kn (fun Γ2 M2 σ2 H2 p2 g2 => n Γ2 M2 σ2 H2 p2 ((g1.trans g).trans g2)) fun r M2 v H2 p2 g2 => t r M2 v H2 p2 ((g1.trans g).trans g2))
theorem sd_ifT (ht : ET X Γ M c true M1) (hk : SD X Γ M1 body ⟨fun Γ' M' => SD X Γ' M' rest P, P.rt⟩) : SD X Γ M (.If c body orelse pos :: rest) P := fun σ H D k n t =>
  PSs_w (pss_cons (ps_if pt_w pss_w pss_never) pss_w) (ht σ H _ k fun H1 g1 o1 => by
    refine iteT ?_
    refine hk σ H1 _ (k.to g1 o1) (fun Γ' M' σ' H' hp g kn => ?_) fun r M' v H' p g => t r M' v H' p (g1.trans g)
    exact hp σ' H' D kn (fun Γ2 M2 σ2 H2 p2 g2 => n Γ2 M2 σ2 H2 p2 ((g1.trans g).trans g2)) fun r M2 v H2 p2 g2 => t r M2 v H2 p2 ((g1.trans g).trans g2))
/-- .. with no else -/
theorem sd_if0 (ht : ET X Γ M c false M1) (hk : SD X Γ M1 rest P) : SD X Γ M (.If c body [] pos :: rest) P := sd_ifF ht (sd_nil hk)
theorem sd_if {q : Bool} (ht : ET X Γ M c q M1) (h1 : q = true → SD X Γ M1 body ⟨fun Γ' M' => SD X Γ' M' rest P, P.rt⟩) (h2 : q = false → SD X Γ M1 orelse ⟨fun Γ' M' => SD X Γ' M' rest P, P.rt⟩) : SD X Γ M (.If c body orelse pos :: rest) P := by
  cases q with
  | true => exact sd_ifT ht (h1 rfl)
  | false => exact sd_ifF ht (h2 rfl)
/-- a, b = e, f -/
theorem sd_par {i j : Nat} {px py pt : Pos} {kt k2 pt2} (he : EA X Γ M [a, b] [r1, r2] M1) (hk : SD X ((Γ.set i r1).set j r2) M1 rest P) (hN : X.N.Nodup) (hij : i ≠ j := by decide) (hi : X.N[i]? = some x := by rfl) (hj : X.N[j]? = some y := by rfl)
    (hx : X.env.scope.names.lookup x = some .local := by rfl) (hy : X.env.scope.names.lookup y = some .local := by rfl) (hw : swappedStores [.Tuple [.Name x px, .Name y py] kt pt] (.Tuple [a, b] k2 pt2) X.env = pure (some [x, y]) := by rfl) (hc : X.calm = true := by rfl) :
    SD X Γ M (.Assign [.Tuple [.Name x px, .Name y py] kt pt] (.Tuple [a, b] k2 pt2) pos :: rest) P := fun σ H D k n t =>
  PSs_w (pss_cons (ps_par hc hN hi hj hij hx hy pa_w hw) pss_w) (he σ H _ k fun vs H1 g1 o1 h1 => by
    obtain ⟨v, w, e, z1, z2⟩ := reps2 h1
    exact ⟨v, w, e, hk _ H1 D ⟨o1, ((k.env.mono g1).set i z1).set j z2⟩ (fun Γ' M' σ' H' p g => n Γ' M' σ' H' p (g1.trans g)) fun r M' v H' p g => t r M' v H' p (g1.trans g)⟩)
/-- x = [elt for tg in iter] -/
theorem sd_setLc {i : Nat} {elt : Expr} {scope : Scope} {g : TG} {β : Type} {lpos : Pos} {L : List β} {enc : β → PyData} {bs : β → List (Nat × PyData)} {f : β → PyData} (own : List (Str × Nat)) (hi : SRC X Γ M tg iter (L.map enc) M1) (hg : Blk X scope fun Y => PG Y tg g)
    (htg : ∀ b ∈ L, TgOk g (enc b) (bs b)) (hbs : ∀ b ∈ L, ∀ p ∈ bs b, p.1 ∈ own.map (·.2))
    (he : ∀ b ∈ L, ∀ M2, Blk X scope fun Y => ED Y (sets (wipeG Γ (own.map (·.2))) (datS (bs b))) M2 elt (.dat (f b)) M2)
    (hz : L.length ≤ 100000) (hN : X.N.Nodup) (ok : BlkOk X.N X.env.scope scope own) (hk : SD X (Γ.set i (.dat (.list (L.map f)))) M1 rest P)
    (hsw : swapsWith (.ListComp elt [⟨tg, iter, [], 0⟩] scope lpos) (some (.Name y py)) pos.line X.env = pure true) (hy : X.N[i]? = some y := by rfl) (hyl : X.env.scope.names.lookup y = some .local := by rfl) (hc : X.calm = true := by rfl) (hs : ∀ x, foldedSetIterable iter X.env x = pure x := by intro _; rfl) :
    SD X Γ M (.Assign [.Name y py] (.ListComp elt [⟨tg, iter, [], 0⟩] scope lpos) pos :: rest) P := fun σ H D k n t =>
  PSs_w (pss_cons (ps_setLc hc hN hy hyl hsw pi_w ok hg (fun _ _ _ _ _ => pts_nil) pe_b hs) pss_w) (lc_read0 hi htg hbs he hz k fun v H1 g1 o1 h1 =>
    hk _ H1 D ⟨o1, (k.env.mono g1).set i h1⟩ (fun Γ' M' σ' H' p g => n Γ' M' σ' H' p (g1.trans g)) fun r M' v H' p g => t r M' v H' p (g1.trans g))
theorem sd_setLcIf {i : Nat} {elt : Expr} {scope : Scope} {g : TG} {β : Type} {lpos : Pos} {L : List β} {enc : β → PyData} {bs : β → List (Nat × PyData)} {q : β → Bool} {f : β → PyData} (own : List (Str × Nat)) (hi : SRC X Γ M tg iter (L.map enc) M1) (hg : Blk X scope fun Y => PG Y tg g)
    (htg : ∀ b ∈ L, TgOk g (enc b) (bs b)) (hbs : ∀ b ∈ L, ∀ p ∈ bs b, p.1 ∈ own.map (·.2))
    (ht : ∀ b ∈ L, ∀ M2, Blk X scope fun Y => ET Y (sets (wipeG Γ (own.map (·.2))) (datS (bs b))) M2 c (q b) M2)
    (he : ∀ b ∈ L, q b = true → ∀ M2, Blk X scope fun Y => ED Y (sets (wipeG Γ (own.map (·.2))) (datS (bs b))) M2 elt (.dat (f b)) M2)
    (hz : L.length ≤ 100000) (hN : X.N.Nodup) (ok : BlkOk X.N X.env.scope scope own) (hk : SD X (Γ.set i (.dat (.list ((L.filter q).map f)))) M1 rest P)
    (hsw : swapsWith (.ListComp elt [⟨tg, iter, [c], 0⟩] scope lpos) (some (.Name y py)) pos.line X.env = pure true) (hy : X.N[i]? = some y := by rfl) (hyl : X.env.scope.names.lookup y = some .local := by rfl) (hc : X.calm = true := by rfl) (hs : ∀ x, foldedSetIterable iter X.env x = pure x := by intro _; rfl) :
    SD X Γ M (.Assign [.Name y py] (.ListComp elt [⟨tg, iter, [c], 0⟩] scope lpos) pos :: rest) P := fun σ H D k n t =>
  PSs_w (pss_cons (ps_setLc hc hN hy hyl hsw pi_w ok hg (fun s H C cl fp => pts_one (pt_b s H C cl fp)) pe_b hs) pss_w) (lc_read1 hi htg hbs ht he hz k fun v H1 g1 o1 h1 =>
    hk _ H1 D ⟨o1, (k.env.mono g1).set i h1⟩ (fun Γ' M' σ' H' p g => n Γ' M' σ' H' p (g1.trans g)) fun r M' v H' p g => t r M' v H' p (g1.trans g))
theorem sd_setLc2 {i : Nat} {elt tg1 iter1 : Expr} {scope : Scope} {g g1 : TG} {β γ : Type} {lpos : Pos} {L : List β} {Li : β → List γ} {enc : β → PyData} {enc2 : β → γ → PyData} {bs : β → List (Nat × PyData)} {bs2 : β → γ → List (Nat × PyData)} {f : β → γ → PyData}
    (own : List (Str × Nat)) (vs1 : List Nat) (hi : SRC X Γ M tg iter (L.map enc) M1) (hg : Blk X scope fun Y => PG Y tg g) (hg1 : Blk X scope fun Y => PG Y tg1 g1)
    (htg : ∀ b ∈ L, TgOk g (enc b) (bs b)) (hbs : ∀ b ∈ L, ∀ p ∈ bs b, p.1 ∈ own.map (·.2))
    (hi2 : ∀ b ∈ L, ∀ M2, Blk X scope fun Y => SRC Y (sets (wipeG Γ (own.map (·.2))) (datS (bs b))) M2 tg1 iter1 ((Li b).map (enc2 b)) M2)
    (htg2 : ∀ b ∈ L, ∀ c ∈ Li b, TgOk g1 (enc2 b c) (bs2 b c)) (hbs2 : ∀ b ∈ L, ∀ c ∈ Li b, ∀ p ∈ bs2 b c, p.1 ∈ vs1)
    (he : ∀ b ∈ L, ∀ c ∈ Li b, ∀ M2, Blk X scope fun Y => ED Y (sets (wipeG (sets (wipeG Γ (own.map (·.2))) (datS (bs b))) vs1) (datS (bs2 b c))) M2 elt (.dat (f b c)) M2)
    (hz : (L.flatMap fun b => (Li b).map (f b)).length ≤ 100000) (hv : ∀ i ∈ vs1, i ∈ own.map (·.2)) (hN : X.N.Nodup) (ok : BlkOk X.N X.env.scope scope own) (hk : SD X (Γ.set i (.dat (.list (L.flatMap fun b => (Li b).map (f b))))) M1 rest P)
    (hsw : swapsWith (.ListComp elt [⟨tg, iter, [], 0⟩, ⟨tg1, iter1, [], 0⟩] scope lpos) (some (.Name y py)) pos.line X.env = pure true) (hy : X.N[i]? = some y := by rfl) (hyl : X.env.scope.names.lookup y = some .local := by rfl) (hc : X.calm = true := by rfl) (hs : ∀ x, foldedSetIterable iter X.env x = pure x := by intro _; rfl)
    (hs1 : ∀ env x, foldedSetIterable iter1 env x = pure x := by intro _ _; rfl) :
    SD X Γ M (.Assign [.Name y py] (.ListComp elt [⟨tg, iter, [], 0⟩, ⟨tg1, iter1, [], 0⟩] scope lpos) pos :: rest) P := fun σ H D k n t =>
  PSs_w (pss_cons (ps_setLc2 hc hN hy hyl hsw pi_w ok hv hg (fun _ _ _ _ _ => pts_nil) pi_b hg1 (fun _ _ _ _ _ => pts_nil) pe_b hs hs1) pss_w) (lc2_read hi htg hbs hi2 htg2 hbs2 he hz k fun v H1 g1 o1 h1 =>
    hk _ H1 D ⟨o1, (k.env.mono g1).set i h1⟩ (fun Γ' M' σ' H' p g => n Γ' M' σ' H' p (g1.trans g)) fun r M' v H' p g => t r M' v H' p (g1.trans g))
/-- a loop: I by the turn, what is known, what is owned -/
theorem sd_for {g : TG} {β : Type} {L : List β} {enc : β → PyData} {bs : β → List (Nat × PyData)} (I : Nat → List Sl → Own → Prop) (hi : SRC X Γ M tg iter (L.map enc) M1) (hg : PG X tg g) (htg : ∀ b ∈ L, TgOk g (enc b) (bs b))
    (h0 : I 0 Γ M1) (hkp : ∀ i Γ' M', I i Γ' M' → Kp M1 M') (hstep : ∀ i b Γ' M', L[i]? = some b → I i Γ' M' → SD X (sets Γ' (datS (bs b))) M' body ⟨I (i + 1), P.rt⟩) (hk : ∀ Γ' M', I L.length Γ' M' → SD X Γ' M' rest P)
    (hp : PassesOwn (model X.prog X.w) X.A X.env X.xe := by exact PassesOwn.never) (hc : X.calm = true := by rfl) (hs : ∀ x, foldedSetIterable iter X.env x = pure x := by intro _; rfl) :
    SD X Γ M (.For tg iter body [] pos :: rest) P := fun σ H D k n t => by
  refine PSs_w (pss_cons (ps_for hp hc pi_w hg pss_w hs) pss_w) (hi σ H _ k fun J H1 g1 o1 w => ?_)
  have wl := w.walk
  rw [List.length_map] at wl
  refine for_it wl (fun i σ' Hi => ∃ Γ' M', I i Γ' M' ∧ Kn M' Γ' σ' Hi ∧ Gw (hid M1 H1) (hid M' Hi)) ⟨Γ, M1, h0, k.to g1 o1, Gw.refl _⟩ (fun i σ' Hi _ ⟨Γ', M', hI, kn, gg⟩ => ⟨M', gg, kn.own, hkp i Γ' M' hI⟩) (fun i v σ' Hi Hi' hlt ⟨Γ', M', hI, kn, gg⟩ y => ?_) fun σ' Hn ⟨Γ', M', hI, kn, gg⟩ => ?_
  · obtain ⟨b, hb⟩ : ∃ b, L[i]? = some b := ⟨L[i], List.getElem?_eq_getElem hlt⟩
    obtain ⟨g2, o2, hx⟩ := w.yld i (enc b) v Hi Hi' M' (by rw [List.getElem?_map, hb]; rfl) gg kn.own (hkp i Γ' M' hI) y
    refine htg b (List.mem_of_getElem? hb) v σ' Hi' M' _ hx fun vs hvs => ?_
    refine hstep i b Γ' M' hb hI _ Hi' _ ⟨o2, (kn.env.mono g2).sets hvs⟩ (fun Γ2 M2 σ2 H2 hI2 g3 kn2 => ⟨Γ2, M2, hI2, kn2, (gg.trans g2).trans g3⟩) fun r M2 v2 H2 p2 g3 o3 h3 => ?_
    exact t r M2 v2 H2 p2 (((g1.trans gg).trans g2).trans g3) o3 h3
  · exact hk Γ' M' hI σ' Hn D kn (fun Γ2 M2 σ2 H2 p2 g3 => n Γ2 M2 σ2 H2 p2 ((g1.trans gg).trans g3)) fun r M2 v2 H2 p2 g3 => t r M2 v2 H2 p2 ((g1.trans gg).trans g3)
/-! ### owned objects -/
/-- x = [] : a list of one's own -/
theorem sd_new {i : Nat} {ds : List PyData} (he : EA X Γ M es (ds.map .dat) M) (hl : ds.length ≤ 100000) (hk : ∀ l, SD X (Γ.set i (.at (.ref l))) ((l, MO.lst ds) :: M) rest P) (hN : X.N.Nodup) (hi : X.N[i]? = some x := by rfl) (hx : Loc X.env.scope x := by first | exact Or.inl rfl | exact Or.inr rfl) {lp : Pos} (hs : swapsWith (.List es lp) (some (.Name x py)) pos.line X.env = pure false := by rfl)
    (hf : X.fn x = true ∨ X.env.scope.names.lookup x = some .local := by first | exact .inl rfl | exact .inr rfl) : SD X Γ M (.Assign [.Name x py] (.List es lp) pos :: rest) P := fun σ H D k n t =>
  PSs_w (pss_cons (ps_set hN hi hx (pe_lst pa_w) hs hf) pss_w) (he σ H _ k fun vs H1 g1 o1 h1 => ⟨by rw [dps_len (reps_dats h1)]; exact Nat.le_trans hl (by decide), fun l hl => by
    obtain ⟨o2, g2⟩ := o1.own (o := .lst vs) hl (mo := .lst ds) ⟨vs, upd_same, reps_dats h1⟩
    exact hk l _ _ D ⟨o2, (k.env.mono (g1.trans g2)).set i (show Rep _ _ (.at (.ref l)) from rfl)⟩ (fun Γ' M' σ' H' p g => n Γ' M' σ' H' p ((g1.trans g2).trans g)) fun r M' v H' p g => t r M' v H' p ((g1.trans g2).trans g)⟩)
/-- a new list of one's own as a value -/
theorem sd_app {l : Addr} {ds : List PyData} {d : PyData} {apos cpos : Pos} (ho : ED X Γ ((l, MO.lst ds) :: M) a (.at (.ref l)) ((l, MO.lst ds) :: M)) (he : ED X Γ ((l, MO.lst ds) :: M) e (.dat d) ((l, MO.lst ds) :: M1)) (hl : ds.length < 100000) (hk : SD X Γ ((l, MO.lst (ds ++ [d])) :: M1) rest P)
    (hs : starEach [e] X.env = [(false, eval e X.env)] := by rfl) {h1 : PE X (.Call (.Attribute a "append" apos) [e] [] cpos) (tBM X.K "list" rAppend (wE X a) (tCons (wE X e) tNil))} : SD X Γ ((l, MO.lst ds) :: M) (.Expr (.Call (.Attribute a "append" apos) [e] [] cpos) pos :: rest) P := fun σ H D k n t =>
  PSs_w (pss_cons (ps_expr h1) pss_w) (ho σ H _ k fun v H1 g1 o1 r1 => by
    have r1 : v = .ref l := r1
    subst r1
    obtain ⟨xs1, q1, _⟩ := (show ∃ xs, H1 l = some (.lst xs) ∧ DvAll (hid _ H1) xs _ from o1.ok _ List.mem_cons_self)
    refine ⟨.inl ⟨rfl, _, sql q1⟩, he σ H1 _ (k.to g1 o1) fun w H2 g2 o2 r2 => ?_⟩
    obtain ⟨xs2, q2, d2⟩ := (show ∃ xs, H2 l = some (.lst xs) ∧ DvAll (hid _ H2) xs _ from o2.ok _ List.mem_cons_self)
    refine ⟨l, xs2, w, rfl, rfl, q2, ?_, ?_⟩
    · rw [dps_len d2]
      exact Nat.lt_trans hl (by decide)
    · obtain ⟨o3, e3⟩ := o2.put (o := .lst (xs2 ++ [w])) (mo' := .lst (ds ++ [d])) ⟨_, upd_same, dps_app d2 (.cons r2 .nil)⟩
      have g3 : Gw (hid ((l, MO.lst ds) :: M1) H2) (hid ((l, MO.lst (ds ++ [d])) :: M1) (upd H2 l (.lst (xs2 ++ [w])))) := by
        rw [e3]
        exact Gw.refl _
      exact hk σ _ D ⟨o3, k.env.mono ((g1.trans g2).trans g3)⟩ (fun Γ' M' σ' H' p g => n Γ' M' σ' H' p (((g1.trans g2).trans g3).trans g)) fun r M' v H' p g => t r M' v H' p (((g1.trans g2).trans g3).trans g))
/-- an owned list is data from here on -/
theorem sd_free {i : Nat} {l : Addr} {ds : List PyData} (hr : Γ[i]? = some (.at (.ref l))) (hk : SD X (Γ.set i (.dat (.list ds))) M rest P) : SD X Γ ((l, MO.lst ds) :: M) rest P := fun σ H D k n t => by
  obtain ⟨o2, g2⟩ := OwnOk.drop (L := [(l, MO.lst ds)]) k.own
  obtain ⟨xs, q1, d1⟩ := (show ∃ xs, H l = some (.lst xs) ∧ DvAll (hid _ H) xs _ from k.own.ok _ List.mem_cons_self)
  have hn : l ∉ M.map Prod.fst := (List.nodup_cons.mp k.own.nd).1
  obtain ⟨v, h1, h2⟩ := k.env.at_ i _ hr nofun
  have h2 : v = .ref l := h2
  subst h2
  have e0 := (k.env.mono g2).set i (v := .ref l) (r := .dat (.list ds)) (.lst (by rw [hid_out hn]; exact q1) (g2.dps d1))
  have es : σ.set i (some (.ref l)) = σ := by
    apply List.ext_getElem?
    intro j
    by_cases z : i = j
    · subst z
      rw [List.getElem?_set_self (List.getElem?_eq_some_iff.mp h1).1, h1]
    · rw [List.getElem?_set_ne z]
  rw [es] at e0
  exact hk σ H D ⟨o2, e0⟩ (fun Γ' M' σ' H' p g => n Γ' M' σ' H' p (g2.trans g)) fun r M' v H' p g => t r M' v H' p (g2.trans g)
/-- fewer things known -/
theorem sd_weak {Γ' : List Sl} (hl : Γ'.length = Γ.length) (hw : ∀ (i : Nat) (r : Sl), Γ'[i]? = some r → r ≠ .no → Γ[i]? = some r) (hk : SD X Γ' M rest P) : SD X Γ M rest P := fun σ H D k n t =>
  hk σ H D ⟨k.own, k.env.len.trans hl.symm, fun i r hr hn => k.env.at_ i r (hw i r hr hn) hn⟩ n t
end

/-! ### defs -/
abbrev RS := List Sl → Own → Sl → Own → Prop
def spF (n : Nat) (R : RS) : Sp := fun vs H Q _ => ∃ rs M r M', vs.length = n ∧ OwnOk H M ∧ Reps (hid M H) vs rs ∧ R rs M r M' ∧ ∀ v H', Gw (hid M H) (hid M' H') → OwnOk H' M' → Rep (hid M' H') v r → Q v H'
/-- a def that a caller may lean on -/
structure Cal (P : Program) (w : World) (K : Fg) (mg : Str → Option Value) (base : Heap) (k : Nat) (x : Str) (ps : List Str) (R : RS) : Prop where
  ex : ∃ (f : Addr) (fd : FuncData), FnOk P w K mg base CX0 k f fd ps (spF ps.length R) ∧ mg x = some (.ref f) ∧ PySem.W.keepIn K (.ref f) = true ∧ Binds K fd ps []
/-- a pure def: its data in, its data out -/
def pureR (R : List PyData → PyData → Prop) : RS := fun rs M r M' => ∃ ds d, rs = ds.map .dat ∧ r = .dat d ∧ M' = M ∧ R ds d
def FinR (r' : Sl) (N : Own) (r : Sl) (M' : Own) : Prop := ∃ L, N = L ++ M' ∧ (r' = r ∨ ∃ a ds, r' = .at (.ref a) ∧ (a, MO.lst ds) ∈ L ∧ r = .dat (.list ds))
def Pf (r : Sl) (M' : Own) : Post := ⟨fun _ N => FinR (.dat .none) N r M', fun r' N => FinR r' N r M'⟩
theorem fin0 {r : Sl} {M : Own} : FinR r M r M := ⟨[], rfl, .inl rfl⟩
theorem fin1 {l : Addr} {ds : List PyData} {M : Own} : FinR (.at (.ref l)) ((l, MO.lst ds) :: M) (.dat (.list ds)) M := ⟨[(l, MO.lst ds)], rfl, .inr ⟨l, ds, rfl, List.mem_cons_self, rfl⟩⟩
theorem fin1d {p : Addr × MO} {r : Sl} {M : Own} : FinR r (p :: M) r M := ⟨[p], rfl, .inl rfl⟩
theorem fin_ends {r' r : Sl} {N M' : Own} {v : V} {H' : Hp} (h : FinR r' N r M') (o : OwnOk H' N) (hv : Rep (hid N H') v r') : Gw (hid N H') (hid M' H') ∧ OwnOk H' M' ∧ Rep (hid M' H') v r := by
  obtain ⟨L, rfl, h⟩ := h
  obtain ⟨o2, g2⟩ := o.drop
  refine ⟨g2, o2, ?_⟩
  rcases h with e | ⟨a, ds, e1, hm, e2⟩
  · subst e
    exact g2.rep hv
  · subst e1 e2
    have hv : v = .ref a := hv
    subst hv
    obtain ⟨xs, q1, d1⟩ := (show ∃ xs, H' a = some (.lst xs) ∧ DvAll (hid _ H') xs _ from o.ok _ (List.mem_append_left _ hm))
    have hn : a ∉ M'.map Prod.fst := fun z => by
      have nd := o.nd
      rw [List.map_append] at nd
      exact (List.nodup_append.mp nd).2.2 a (List.mem_map.mpr ⟨_, hm, rfl⟩) a z rfl
    exact .lst (by rw [hid_out hn]; exact q1) (g2.dps d1)
theorem env_start {Hd : Hp} {N : List Str} : ∀ {vs : List V} {rs : List Sl}, Reps Hd vs rs → EnvOk Hd (L2.start N vs) (rs ++ List.replicate (N.length - rs.length) .no) := by
  intro vs rs h
  have hl := h.len
  refine ⟨?_, fun i r hr hn => ?_⟩
  · unfold L2.start
    rw [List.length_append, List.length_append, List.length_map, List.length_replicate, List.length_replicate, hl]
  · by_cases hi : i < rs.length
    · rw [List.getElem?_append_left hi] at hr
      have q : ∀ {vs : List V} {rs : List Sl} {i : Nat} {r : Sl}, Reps Hd vs rs → rs[i]? = some r → ∃ v, vs[i]? = some v ∧ Rep Hd v r := by
        intro vs rs i r h
        induction h generalizing i with
        | nil => intro e; simp at e
        | cons h t ih =>
          intro e
          cases i with
          | zero =>
            simp at e
            subst e
            exact ⟨_, rfl, h⟩
          | succ i => exact ih (by simpa using e)
      obtain ⟨v, h1, h2⟩ := q h hr
      refine ⟨v, ?_, h2⟩
      unfold L2.start
      rw [List.getElem?_append_left (by rw [List.length_map, hl]; exact hi), List.getElem?_map, h1]
      rfl
    · rw [List.getElem?_append_right (by omega), List.getElem?_replicate] at hr
      split at hr
      · cases hr
        exact absurd rfl hn
      · cases hr
section
variable {P : Program} {w : World} {K : Fg} {mg : Str → Option Value} {base : Heap}
/-- THE RULE for a def -/
theorem fn_sd {x qual : Str} {params : Arguments} {body : List Stmt} {scope : Scope} {f : Addr} {fd : FuncData} {N ps : List Str} {k : Nat} {R : RS} (F : FunD K x qual params body scope [] [] f fd) (S : FnScope N ps scope) (hl : ∀ rs M r M', R rs M r M' → rs.length = ps.length)
    (hb : ∀ (cdv : Value) (A : Around) (outer : List Env) (s : Shared) (H : Hp) (E : XK), Room k (A.deeper (envOfC qual scope s.heap.objs.size f cdv)) → ∀ rs M r M', R rs M r M' →
      SD (cxOf CX0 P w K mg base N qual scope f cdv A outer s H E).nox (rs ++ List.replicate (N.length - rs.length) .no) M body (Pf r M')) : FnOk P w K mg base CX0 (k + 1) f fd ps (spF ps.length R) := by
  refine F.ok S (fun vs H Q E h => ?_) (fun cdv A outer s H vs Q E hr h => ?_)
  · obtain ⟨rs, M, r, M', h1, _⟩ := h
    exact h1
  · obtain ⟨rs, M, r, M', h1, o, hv, hR, q⟩ := h
    refine ⟨_, PSs.nox pss_w, hb cdv A outer s H E hr rs M r M' hR _ H _ ⟨o, env_start hv⟩ (fun Γ' N' σ' H' hp g kn => ?_) fun r' N' v H' hp g o' hv' => ?_⟩
    · obtain ⟨g2, o2, h2⟩ := fin_ends (v := .non) hp kn.own Dv.non
      exact q .non H' (g.trans g2) o2 h2
    · obtain ⟨g2, o2, h2⟩ := fin_ends hp o' hv'
      exact q v H' (g.trans g2) o2 h2
end
section
variable {X : Cx} {Γ : List Sl} {M M1 M2 M3 : Own} {e : Expr} {es : List Expr} {r : Sl} {rs : List Sl} {x : Str} {p pos : Pos} {k : Nat} {ps : List Str} {R : RS}
theorem ed_call (C : Cal X.prog X.w X.K X.mg X.base k x ps R) (hr : Room k X.A) (ha : EA X Γ M (e :: es) rs M1) (hR : R rs M1 r M2) (hl : rs.length = ps.length := by rfl) (hg : Gl X x := by rfl) (hdb : (x == ("__debug__" : Str)) = false := by decide)
    (he : starEach (e :: es) X.env = (false, eval e X.env) :: starEach es X.env := by rfl) (hpl : (backTo pos (starEach es X.env)).any (·.1) = false := by rfl) : ED X Γ M (.Call (.Name x p) (e :: es) [] pos) r M2 := fun σ H Q k q => by
  obtain ⟨f, fd, F, hm, hk, hb⟩ := C.ex
  refine PE_w (pe_call F hr hg hm hk hb .nil pass0 pa_w hdb he hpl) (ha σ H _ k fun vs H1 g1 o1 h1 => ?_)
  refine ⟨rs, M1, r, M2, by rw [List.append_nil, h1.len, hl], o1, by rw [List.append_nil]; exact h1, hR, fun v H2 g2 o2 h2 => q v H2 (g1.trans g2) o2 h2⟩
end
end Wm
set_option Elab.async false
set_option linter.all false
set_option maxRecDepth 100000
set_option maxHeartbeats 4000000
namespace Wm
open PySem PySem.Spec PyProof.Rows L2
/-! ### the text -/
def top (i : Nat) : Stmt := PySem.Challenge.pw_wordshapes_k56_whole_margins.main.body.getD i (.Pass ⟨0, 0, 0, 0⟩)
abbrev s_is_number : Stmt := top 10
abbrev s_is_shape : Stmt := top 11
abbrev s_check_shape : Stmt := top 12
abbrev s_trimmed : Stmt := top 13
abbrev s_sums_along : Stmt := top 14
abbrev s_lighter_at : Stmt := top 15
abbrev s_check_sizes : Stmt := top 16
abbrev s_heavier : Stmt := top 17
abbrev s_hook_of : Stmt := top 18
abbrev s_hooks_of : Stmt := top 20
abbrev s_factorial : Stmt := top 21
abbrev s_growth_count : Stmt := top 22
abbrev s_are_amounts : Stmt := top 25
abbrev s_check_amounts : Stmt := top 26
abbrev s_parts_below : Stmt := top 27
abbrev s_tables_counted : Stmt := top 28
abbrev s_table_count : Stmt := top 29
abbrev s_check_margins : Stmt := top 30
abbrev s_rows_of_sum : Stmt := top 31
abbrev s_arrays_counted : Stmt := top 32
abbrev s_margin_count : Stmt := top 33
abbrev s_zero_one_count : Stmt := top 34
abbrev s_own_inverse_count : Stmt := top 35
abbrev s_law_vat_of : Stmt := top 37
abbrev s_law_sip : Stmt := top 38
abbrev s_law_forms : Stmt := top 39
abbrev s_law_tilted : Stmt := top 40
abbrev s_law_split : Stmt := top 41
abbrev s_law_arrays : Stmt := top 42
abbrev s_law_sums : Stmt := top 43
abbrev s_law_own_inverses : Stmt := top 44
abbrev s_law_right : Stmt := top 45
abbrev s_law : Stmt := top 46
abbrev FnP (K : Fg) (x : Str) (st : Stmt) (f : Addr) (fd : FuncData) : Prop := FunD K x x (defArgs st) (defBody st) (defScope st) [] [] f fd
/-- the built-ins' names are the built-ins' -/
structure Bl (mg : Str → Option Value) : Prop where
  abs_ : mg "abs" = none
  all_ : mg "all" = none
  bool_ : mg "bool" = none
  divmod_ : mg "divmod" = none
  enumerate_ : mg "enumerate" = none
  int_ : mg "int" = none
  isinstance_ : mg "isinstance" = none
  len_ : mg "len" = none
  max_ : mg "max" = none
  min_ : mg "min" = none
  range_ : mg "range" = none
  repr_ : mg "repr" = none
  sorted_ : mg "sorted" = none
  sum_ : mg "sum" = none
  tuple_ : mg "tuple" = none
  zip_ : mg "zip" = none
  mLong : ∃ t, mg "MOST_LONG" = some (.int 12 t)
  mBoxes : ∃ t, mg "MOST_BOXES" = some (.int 40 t)
  mMargins : ∃ t, mg "MOST_MARGINS" = some (.int 6 t)
end Wm
set_option Elab.async false
set_option linter.all false
set_option maxRecDepth 100000
set_option maxHeartbeats 4000000
namespace Wm
open PySem PySem.Spec PyProof.Rows L2
open AutoSeq1 (wpAny_loadPart')
/-! ### enumerate of a tuple -/
theorem enum_tup_new (t : Addr) (items : Array Value) (n : Nat) (dct : Option Addr) (sl : Array (Option Value)) :
    Meets (Builtin.«enumerate.__new__» ⟨[.type "enumerate", .ref t], []⟩) (fun _ R s => s.heap.get? t = some { cls := .type "tuple", dict := dct, data := .seq items n, slots := sl } ∧
      ∀ h' : Heap, h' = (s.heap.push { cls := .type "tuple_iterator", data := .fields #[.ref t, .int 0 0] }).push { cls := .type "enumerate", data := .fields #[.none, .bool false, .ref s.heap.objs.size, rawInt 0, .none, .none] } →
        R (.ok (.ret (.ref (s.heap.push { cls := .type "tuple_iterator", data := .fields #[.ref t, .int 0 0] }).objs.size))) { s with heap := h' }) :=
  .of_wp fun prog w A R s h => by
    obtain ⟨hp, g, d, tk, os⟩ := s
    obtain ⟨hl, h⟩ := h
    have h := h _ rfl
    have hsub := sub_enumerate
    have hT : Heap.IsTuple (Shared.heap ⟨hp, g, d, tk, os⟩) t items := ⟨_, hl, rfl, n, rfl⟩
    wp_walk using wpAny_loadPart' hl
    refine wpAny_stack_any fun st => wpAny_pure ?_
    split
    · rename_i c _ _ _ _ _
      cases (c == Value.type "enumerate") <;> (wp_walk using wpAny_loadPart' hl, wpAny_pyIter_tuple hT; exact ⟨_, rfl, h⟩)
    · wp_walk using wpAny_loadPart' hl, wpAny_pyIter_tuple hT
      exact ⟨_, rfl, h⟩
section
variable {prog : Program} {w : World} {A : Around} {E : Value → Shared → Prop} {s : Shared}
theorem call_enum_tup {t : Addr} {items : Array Value} {Q : Value → Shared → Prop} (hT : IsTup s.heap t items)
    (h : ∀ h' : Heap, IsEnum h' (s.heap.objs.size + 1) s.heap.objs.size 0 .none → h'.IsTupleIter s.heap.objs.size t 0 → (∀ b o, s.heap.get? b = some o → h'.get? b = some o) → Q (.ref (s.heap.objs.size + 1)) { s with heap := h' }) :
    wpAny (model prog w) A (call (.type "enumerate") [.ref t]) Q E s := by
  obtain ⟨⟨c, dct, dt, sl⟩, hl, hc, n, hd⟩ := hT
  simp only at hc hd
  subst hc hd
  refine callType_new F.called_enumerate (by decide) (F.typeCall_enumerate_1 _) (F.newCall_enumerate_1 _) (fun obj => F.args_object_init_2 obj _) F.entry_enumerate_new (enum_tup_new t items n dct sl) ⟨hl, fun h' eh => ?_⟩
  have hz := Heap.size_push s.heap (o := { cls := .type "tuple_iterator", data := .fields #[.ref t, .int 0 0] })
  have he : IsEnum h' (s.heap.objs.size + 1) s.heap.objs.size 0 .none := by
    rw [eh]
    have q := Heap.get?_push_size (s.heap.push { cls := .type "tuple_iterator", data := .fields #[.ref t, .int 0 0] }) (o := { cls := .type "enumerate", data := .fields #[.none, .bool false, .ref s.heap.objs.size, rawInt 0, .none, .none] }) rfl
    rw [hz] at q
    exact q
  rw [hz]
  refine ⟨⟨_, he, rfl⟩, h h' he ?_ ?_⟩
  · rw [eh]
    exact ⟨_, Heap.get?_push_of_some _ (Heap.get?_push_size _ rfl), rfl, rfl⟩
  · rw [eh]
    exact fun b o x => Heap.get?_push_of_some _ (Heap.get?_push_of_some _ x)
end
def Iet (a : Addr) : It :=
  ⟨fun i H => ∃ (xs : List V) (x : V), H a = some (.tup xs) ∧ xs[i]? = some x, fun i H v H' => ∃ T x, v = .ref T ∧ H T = none ∧ H' = upd H T (.tup [.int (i : Nat), x]) ∧ ∀ xs, H a = some (.tup xs) → xs[i]? = some x, fun i H => ∃ xs : List V, H a = some (.tup xs) ∧ xs.length ≤ i⟩
theorem turn_enumT {P : Program} {w : World} {K : Fg} {elts : List Expr} {kk : Nat} {tpos : Pos} (a e it : Addr) :
    Turn P w K (.Tuple elts kk tpos) (Iet a) [e, it] e (fun i h => (∃ old, IsEnum h e it ((i : Nat) : Int) old) ∧ h.IsTupleIter it a i ∧ e ≠ it) where
  mem := by simp
  obj := fun i h st b hb => by
    obtain ⟨⟨old, he⟩, ⟨o, ho, hc, hd⟩, _⟩ := st
    rcases List.mem_cons.mp hb with z | z
    · rw [z]
      exact ⟨_, he, fun v q => nomatch q⟩
    · rw [List.mem_singleton.mp z]
      exact ⟨o, ho, fun v q => by rw [hd] at q; cases q⟩
  keep := fun i h h' ⟨⟨old, he⟩, hi, hne⟩ k => ⟨⟨old, k e (by simp) _ he⟩, hi.at fun o q => k it (by simp) o q, hne⟩
  item := by
    intro X hP hw hK hc i pins s σ H E I hf st hg
    subst hP hw hK
    obtain ⟨⟨old, he⟩, hit, hne⟩ := st
    obtain ⟨xs, x, hq, hx⟩ := hg
    obtain ⟨its, rv, p, hz⟩ := I.tuple (sqt hq)
    obtain ⟨u, hu, ru⟩ := rv.get hx
    have hae : a ≠ e := ne_of_none hq (hf e (by simp)).1
    have hai : a ≠ it := ne_of_none hq (hf it (by simp)).1
    have hel : e < s.heap.objs.size := Heap.lt_size he
    have hil : it < s.heap.objs.size := by
      obtain ⟨_, q, _⟩ := hit
      exact Heap.lt_size q
    have D := Draws.tuple (prog := X.prog) (w := X.w) (A := X.A.in1) (I.ok.hd hc) it a hai its.toArray
    have hlt : i < its.toArray.size := by
      have := (List.getElem?_eq_some_iff.mp hu).1
      simpa using this
    refine wpAny_pyNext_enum_itemD D he ⟨hit, p⟩ hlt hne (by simp only [List.mem_cons, List.not_mem_nil, or_false, not_or]; exact ⟨hne, fun z => hae z.symm⟩) fun x' h' tk hx' ho st' hT hsz hk => ?_
    have ex : x' = u := by
      rw [List.getElem?_toArray, hu] at hx'
      exact (Option.some.inj hx').symm
    subst ex
    refine ⟨_, rfl, wpAny_letOwnedTupleGo_enum (s := { s with heap := h', toks := tk + 1 }) ho fun h'' he' sb => ?_⟩
    have hT2 : h''.get? s.heap.objs.size = some { cls := .type "tuple", data := .seq #[.int i tk, x'] } := (sb.2 _ (Nat.ne_of_gt hel)).trans hT
    have new : ObjOk X.prog X.w (upd H s.heap.objs.size (.tup [.int (i : Nat), x])) h'' s.heap.objs.size (.tup [.int (i : Nat), x]) :=
      ⟨by show 2 ≤ sizeLine; decide, [.int i tk, x'], .cons ⟨_, rfl⟩ (.cons ru .nil), ⟨_, hT2, rfl, _, rfl⟩⟩
    have I1 : Inv X pins σ (upd H s.heap.objs.size (.tup [.int (i : Nat), x])) { s with heap := h'', toks := tk + 1 } :=
      I.turnedNew (ch := [e, it]) (fun b ob hb q => (sb.2 b (fun z => hb (by simp [z]))).trans (hk b ob (fun z => hb (by simp [z])) (fun z => hb (by simp [z])) q)) hf (Nat.le_refl _) new
    refine ⟨.ref s.heap.objs.size, _, I1, rfl, ⟨_, x, rfl, I.hok.fresh (Nat.le_refl _), rfl, fun ys hy => ?_⟩, ⟨⟨x', ?_⟩, st'.1.at fun o q => (sb.2 it (Ne.symm hne)).trans q, hne⟩, fun b hb => ?_⟩
    · rw [hq] at hy
      cases hy
      exact hx
    · have e1 : ((i + 1 : Nat) : Int) = (i : Int) + 1 := by omega
      rw [e1]
      exact he'
    · have hb' : b < s.heap.objs.size := by
        rcases List.mem_cons.mp hb with z | z
        · rw [z]
          exact hel
        · rw [List.mem_singleton.mp z]
          exact hil
      rw [upd_ne (Nat.ne_of_lt hb')]
      exact (hf b hb).1
  done := by
    intro X hP hw hK hc i pins s σ H E I hf st hg
    subst hP hw hK
    obtain ⟨⟨old, he⟩, hit, hne⟩ := st
    obtain ⟨xs, hq, hx⟩ := hg
    obtain ⟨its, rv, p, hz⟩ := I.tuple (sqt hq)
    have hai : a ≠ it := ne_of_none hq (hf it (by simp)).1
    obtain ⟨f0, f1, f2, f3, f4, f5⟩ := hf it (by simp)
    have hl := rv.length
    have hh := I.ok.hd hc
    -- the iterator's own end, by the library's draws at their last turn
    refine wpAny_pyNext_enum_endD (St := fun _ h => h.IsTupleIter it a i ∧ h.IsTuple a its.toArray) (n := 0) (P := fun _ _ => False) (fp := [it, a]) ⟨fun _ _ st => let ⟨o, ho, _⟩ := st.1; ⟨o, ho⟩, fun _ _ _ st hk => ⟨st.1.at fun o q => hk it (by simp) o q, st.2.at fun o q => hk a (by simp) o q⟩,
      fun _ _ _ _ z => absurd z (Nat.not_lt_zero _), fun s Q E st hE => wpAny_nextOf_tuple_end hh st.1 st.2 (by simp; omega) hE⟩ he ⟨hit, p⟩ fun h' eb => ⟨rfl, I.turned (t' := s.toks) (fun b o hb q => eb b o hb q) f0 f1 f3 f4 f5⟩
  self := fun A i s Q E st h => let ⟨⟨_, he⟩, _⟩ := st; wpAny_pyIter_enum he h
def iEnT (ta : TA) : TI := fun σ H R => ta σ H fun vs H1 => ∃ a xs, vs = [.ref a] ∧ H1 a = some (.tup xs) ∧ R (Iet a) H1
theorem pi_enumT {X : Cx} {e : Expr} {ta : TA} {p pos tpos : Pos} {elts : List Expr} {kk : Nat} (hg : Gl X "enumerate") (hm : X.mg "enumerate" = none) (ha : PA X [e] ta) (hs : starEach [e] X.env = [(false, eval e X.env)] := by rfl) :
    PI X (.Tuple elts kk tpos) (.Call (.Name "enumerate" p) [e] [] pos) (iEnT ta) := by
  refine ⟨fun pins s σ H R I h => ?_⟩
  refine Call_ (ld_blt I hg hm boot_enumerate (PyProof.Rows.callWith_type1 (thn (ha.run pos pins s σ H _ I h) fun us s1 ⟨vs, H1, I1, r1, a, xs, ex, hq, q⟩ => ?_) hs rfl))
  subst ex
  cases r1 with
  | cons r rr =>
    cases rr
    cases r
    obtain ⟨its, rv, p', hz⟩ := I1.tuple (sqt hq)
    refine call_enum_tup p' fun h' he hit hk => wpAny_pyIter_enum he ⟨s1.heap.objs.size + 1, [s1.heap.objs.size + 1, s1.heap.objs.size], _, _, H1, rfl, I1.kept (t' := s1.toks) hk, turn_enumT a (s1.heap.objs.size + 1) s1.heap.objs.size, ⟨⟨.none, he⟩, hit, Nat.succ_ne_self _⟩, fun b hb => ?_, q⟩
    have hle : s1.heap.objs.size ≤ b := by
      rcases List.mem_cons.mp hb with z | z
      · rw [z]
        exact Nat.le_add_right _ _
      · rw [List.mem_singleton.mp z]
        exact Nat.le_refl _
    exact I1.fpOk hle (I1.hok.fresh hle)
section
variable {X : Cx} {Γ : List Sl} {M M1 : Own} {a : Expr} {pos tpos p : Pos}
theorem src_enumT {ds : List PyData} {elts : List Expr} {kk : Nat} (hm : X.mg "enumerate" = none) (ha : ED X Γ M a (.dat (.tuple ds)) M1) (hg : Gl X "enumerate" := by rfl) (hs : starEach [a] X.env = [(false, eval a X.env)] := by rfl) :
    SRC X Γ M (.Tuple elts kk tpos) (.Call (.Name "enumerate" p) [a] [] pos) (enr ds) M1 := fun σ H R k q =>
  PI_w (pi_enumT hg hm (pa_cons pe_w pa_nil hs) hs) (ha σ H _ k fun v H1 g1 o1 r1 => by
    cases r1 with
    | @tup l xs _ h1 hd =>
      refine ⟨l, xs, rfl, (hid_some h1).1, q _ H1 g1 o1 ⟨fun i H' M' hi g o kp => ?_, fun H' M' g o kp => ?_, fun i d z H' H'' M' ei g o kp y => ?_⟩⟩
      · rw [enr_len, ← dps_len hd] at hi
        exact ⟨xs, xs[i], (hid_some (g _ _ h1)).1, List.getElem?_eq_getElem hi⟩
      · rw [enr_len, ← dps_len hd]
        exact ⟨xs, (hid_some (g _ _ h1)).1, Nat.le_refl _⟩
      · obtain ⟨T, u, y1, y2, y3, y4⟩ := y
        subst y1 y3
        obtain ⟨d2, z3, z4⟩ := dps_at hd (y4 xs (hid_some (g _ _ h1)).1)
        rw [enr_get z3] at ei
        cases ei
        exact new_pair o y2 (.int _) (g.dp z4))
end
end Wm
set_option Elab.async false
set_option linter.all false
set_option maxRecDepth 100000
set_option maxHeartbeats 4000000
namespace Wm
open PySem PySem.Spec PyProof.Rows L2
/-! ### for k, v in d.items(), the keys tuples -/
def Itx (d : Addr) (o : Obj) (kvs : List (List Key × V)) : It :=
  ⟨fun i H => H d = some (.frz o (.dT kvs)) ∧ i < kvs.length,
    fun i H x H' => ∃ (T q : Addr) (k : List Key) (v : V), kvs[i]? = some (k, v) ∧ H q = some (.tup (k.map kV)) ∧ x = .ref T ∧ H T = none ∧ H' = upd H T (.tup [.ref q, v]), fun i H => H d = some (.frz o (.dT kvs)) ∧ kvs.length ≤ i⟩
section
variable {X : Cx} {pins : List (Addr × Obj)} {σ : L2.St} {H : Hp} {s : Shared} {d : Addr} {o : Obj}
/-- a locked dict of tuple keys, its entries -/
theorem frz_ents {kvs : List (List Key × V)} (I : Inv X pins σ H s) (h : H d = some (.frz o (.dT kvs))) :
    (d == sysModules) = false ∧ ∃ (es : Array DictEntry) (ep : Nat), o.data = .dict es ep ∧ s.heap.DictRaw d es ep ∧ es.size = kvs.length ∧
      ∀ (i : Nat) (hi : i < es.size), ∃ (k : List Key) (v : V) (q : Addr), kvs[i]? = some (k, v) ∧ es[i].key = .ref q ∧ H q = some (.tup (k.map kV)) ∧ RelV v es[i].val := by
  obtain ⟨hd, z, hs, xs, pr, o', es, ep, ho, hx, hdt, he, _⟩ := I.hok d _ h
  rw [hd] at ho
  cases ho
  have l1 : es.size = xs.length := by
    rw [← Array.length_toList, he, List.length_map]
  have l2 : kvs.length = xs.length := Paired.length pr
  refine ⟨hs, es, ep, hdt, ⟨o, hd, hx, hdt⟩, l1.trans l2.symm, fun i hi => ?_⟩
  obtain ⟨⟨k, v⟩, hkv⟩ : ∃ p, kvs[i]? = some p := ⟨kvs[i]'(by omega), List.getElem?_eq_getElem (by omega)⟩
  obtain ⟨b, hb, e1, e2, e3⟩ := paired_get pr hkv
  have e4 : es.toList[i]? = some es[i] := by
    rw [Array.getElem?_toList]
    exact Array.getElem?_eq_getElem hi
  rw [he, List.getElem?_map, hb] at e4
  have e5 := (Option.some.inj e4).symm
  refine ⟨k, v, b.2.1, hkv, ?_, e2, ?_⟩
  · rw [e5]
    rfl
  · rw [e5]
    exact e3
end
theorem turn_itx {P : Program} {w : World} {K : Fg} {d : Addr} {o : Obj} {es : Array DictEntry} {ep : Nat} {kvs : List (List Key × V)} {elts : List Expr} {kk : Nat} {tpos : Pos} (it : Addr) (hod : o.data = .dict es ep) (hsz : es.size = kvs.length) :
    Turn P w K (.Tuple elts kk tpos) (Itx d o kvs) [it] it (fun i h => ∃ ok ov, IsItemIter h it d i es.size ep ok ov) where
  mem := List.mem_singleton.mpr rfl
  obj := fun i h ⟨ok, ov, e⟩ b hb => by
    rw [List.mem_singleton.mp hb]
    exact ⟨_, e, fun v z => nomatch z⟩
  keep := fun i h h' ⟨ok, ov, e⟩ k => ⟨ok, ov, k it (List.mem_singleton.mpr rfl) _ e⟩
  item := by
    intro X hP hw hK hc i pins s σ H E I hf st hg
    subst hP hw hK
    obtain ⟨hd, hi⟩ := hg
    obtain ⟨hs, es', ep', hdt, raw, hz, ent⟩ := frz_ents I hd
    rw [hod] at hdt
    cases hdt
    obtain ⟨ok, ov, he⟩ := st
    have hlt : it < s.heap.objs.size := Heap.lt_size he
    obtain ⟨k, v, q, hkv, hkey, hq, rv⟩ := ent i (by omega)
    refine wpAny_pyNext_items_item_raw he raw (by omega) fun h' ho hT hz2 hk => ?_
    rw [hkey] at ho hT
    refine ⟨_, rfl, wpAny_letOwnedTupleGo_items (s := { s with heap := h' }) ho fun h'' he' sb => ?_⟩
    have new : ObjOk X.prog X.w (upd H s.heap.objs.size (.tup [.ref q, v])) h'' s.heap.objs.size (.tup [.ref q, v]) :=
      ⟨by show 2 ≤ sizeLine; decide, [.ref q, es[i].val], .cons rfl (.cons rv .nil), ⟨_, (sb.2 _ (Nat.ne_of_gt hlt)).trans hT, rfl, _, rfl⟩⟩
    have I1 : Inv X pins σ (upd H s.heap.objs.size (.tup [.ref q, v])) { s with heap := h'' } :=
      I.turnedNew (t' := s.toks) (ch := [it]) (fun b ob hb e => (sb.2 b (fun z => hb (List.mem_singleton.mpr z))).trans (hk b ob (fun z => hb (List.mem_singleton.mpr z)) e)) hf (Nat.le_refl _) new
    refine ⟨.ref s.heap.objs.size, _, I1, rfl, ⟨_, q, k, v, hkv, hq, rfl, I.hok.fresh (Nat.le_refl _), rfl⟩, ⟨_, _, he'⟩, fun b hb => ?_⟩
    rw [List.mem_singleton.mp hb, upd_ne (Nat.ne_of_lt hlt)]
    exact (hf it (List.mem_singleton.mpr rfl)).1
  done := by
    intro X hP hw hK hc i pins s σ H E I hf st hg
    subst hP hw hK
    obtain ⟨hd, hi⟩ := hg
    obtain ⟨hs, es', ep', hdt, raw, hz, ent⟩ := frz_ents I hd
    rw [hod] at hdt
    cases hdt
    obtain ⟨ok, ov, he⟩ := st
    obtain ⟨f0, f1, f2, f3, f4, f5⟩ := hf it (List.mem_singleton.mpr rfl)
    exact wpAny_pyNext_items_end_raw (I.ok.hd hc) he raw (by omega) fun h' eb => ⟨rfl, I.turned (t' := s.toks) (fun b ob hb e => eb b ob hb e) f0 f1 f3 f4 f5⟩
  self := fun A i s Q E ⟨_, _, e⟩ h => wpAny_pyIter_itemiter e h
def iItx (td : TE) : TI := fun σ H R => td σ H fun x H1 => ∃ d o kvs, x = .ref d ∧ H1 d = some (.frz o (.dT kvs)) ∧ R (Itx d o kvs) H1
theorem pi_itx {X : Cx} {e : Expr} {td : TE} {apos cpos tpos : Pos} {elts : List Expr} {kk : Nat} (he : PE X e td) (hbase : attributeBase e "items" X.env (eval e X.env) = eval e X.env := by rfl) (hline : (apos.endLine == cpos.line) = true := by rfl) :
    PI X (.Tuple elts kk tpos) (.Call (.Attribute e "items" apos) [] [] cpos) (iItx td) := by
  refine ⟨fun pins s σ H R I h => ?_⟩
  refine wpAny_Call_method (T := "dict") (id := "dict.items") hbase rfl hline F.plainAttrs_dict F.slot_dict_items F.type_dict_items (thn (he.run pins s σ H _ I h) fun u s1 ⟨x, H1, I1, rx, d, o, kvs, ex, hd, q⟩ => ?_)
  subst ex
  cases rx
  obtain ⟨hs, es, ep, hdt, raw, hz, ent⟩ := frz_ents I1 hd
  obtain ⟨o', h1, h2, _⟩ := id raw
  refine ⟨raw.typeIs, fun a' h3 => by cases h3; exact ⟨o', h1, h2.2.1⟩, ?_⟩
  have I2 : Inv X pins σ H1 { s1 with heap := s1.heap.push { cls := .type "dict_items", data := .fields #[.ref d] } } := I1.kept (t' := s1.toks) fun b ob q => Heap.get?_push_of_some _ q
  have fin : wpAny (model X.prog X.w) X.A (pyIter (.ref s1.heap.objs.size)) (PIE X pins σ (.Tuple elts kk tpos) R) X.xe { s1 with heap := s1.heap.push { cls := .type "dict_items", data := .fields #[.ref d] } } :=
    wpAny_pyIter_items_raw (d := d) ⟨_, Heap.get?_push_size _ rfl, rfl, rfl⟩ (raw.at fun o e => Heap.get?_push_of_some _ e) (pi_one (tk := s1.toks) I2 _ (turn_itx _ hdt hz) ⟨.none, .none, Heap.get?_push_size _ rfl⟩ q)
  show wpAny _ _ (callWith cpos (.builtin "dict.items") [.ref d] [] []) _ X.xe s1
  exact method_meetsIn F.slot_dict_items F.entry_dict_items rfl (PySem.evalArgs_none ⟨rfl, raw.typeIs, F.args_dict_items_1 _, _, meets_dict_items_raw d hs, ⟨⟨es, ep, raw⟩, fin⟩⟩)
/-! ### {k: v} with one tuple key -/
def tD1 (tk tv : TE) : TE := fun σ H Q => ∀ p, H p = none → tk σ (upd H p (.dT [])) fun x H1 => tv σ H1 fun y H2 => H2 p = some (.dT []) ∧ ∃ (b : Addr) (k : List Key), x = .ref b ∧ H2 b = some (.tup (k.map kV)) ∧ Q (.ref p) (upd H2 p (.dT [(k, y)]))
theorem pe_disp1 {X : Cx} {pos : Pos} {k v : Expr} {tk tv : TE} (hu : X.A.units + 1 < cLine) (hk : PE X k tk) (hv : PE X v tv) : PE X (.Dict [some k] [v] pos) (tD1 tk tv) := by
  refine ⟨fun pins s σ H Q I q => ?_⟩
  have hn := I.hok.fresh (Nat.le_refl s.heap.objs.size)
  have I1 := I.laid (a := s.heap.objs.size) (o := .dT []) (h' := s.heap.push { cls := .type "dict", data := .dict #[] }) (t' := s.toks) (fun _ _ q => Heap.get?_push_of_some _ q) (Nat.le_refl _) (dt_empty s.heap I.big)
  have hsh : (evalEachOpt [some k] X.env).zip ((evalEach [v] X.env).map fun v => do let x ← v; standAt pos; pure x) = (pairTrees [some k] [v] X.env pos).map fun p => (some p.1, p.2) := rfl
  rw [arm_eval_Dict, hsh, dictDisplay_pairs _ (by simp [pairTrees]) (by simp [pairTrees])]
  refine wpAny_bind (wpAny_standAt (wpAny_bind (wpAny_subDictH (knd := tupleKind (mixKind X.prog X.w)) (show X.A.units < cLine by omega) (by simp [pairTrees]) ?_)))
  have q := q _ hn
  refine pairTrees_cons_walk (thn (hk.run pins _ σ _ _ I1 q) fun u s1 ⟨x, H1, I2, rx, q1⟩ => thn (hv.run pins s1 σ H1 _ I2 q1) fun w2 s2 ⟨y, H2, I3, ry, hp, b, key, ex, hb, q2⟩ => pairTrees_nil_walk ?_)
  subst ex
  cases rx
  obtain ⟨z, hd, xs0, r0, dd⟩ := dt_of I3.hok hp
  cases r0
  refine ⟨[(key, b, w2)], ⟨rfl, rfl, key_of I3.hok hb, trivial⟩, dd, fun h' tk dd' hs => wpAny_pure ?_⟩
  obtain ⟨q', es, ep, hq, h2, h3, h4, _, h5⟩ := dd'
  refine ⟨.ref s.heap.objs.size, upd H2 s.heap.objs.size (.dT [(key, y)]), ?_, rfl, q2⟩
  refine d_write I3 (by rw [hp]; exact True.intro) hs ⟨q', hq⟩ ⟨by show 1 ≤ sizeLine; decide, hd, [(key, b, w2)], .cons ⟨rfl, ?_, ry⟩ .nil, q', es, ep, hq, h2, h3, h4, h5⟩
  rw [upd_ne (ne_of hb hp (fun z => nomatch z))]
  exact hb
/-! ### sum of a tuple -/
theorem sum_tup {prog : Program} {w : World} {A : Around} {E : Value → Shared → Prop} {s : Shared} {t : Addr} {its : List Value} {ns : List Int} {Q : Value → Shared → Prop} (hh : A.handled = none) (ht : IsTup s.heap t its.toArray) (hi : IntsAre its ns)
    (h : ∀ h' tk t', (∀ b o, s.heap.get? b = some o → h'.get? b = some o) → Q (.int ns.sum t') { s with heap := h', toks := tk }) : wpAny (model prog w) A (call (.builtin "sum") [.ref t]) Q E s := by
  obtain ⟨xs, e⟩ := hi.allInts.items
  have hn : numsOf (intItems xs).toList = ns := by
    rw [← e]
    exact hi.numsOf
  rw [nums_intItems] at hn
  rw [e] at ht
  have hlt : t < s.heap.objs.size := ht.lt
  refine call_sum_walkG (wpAny_pyIter_tuple ht ⟨s.heap.objs.size, _, _, _, _, _, numAt xs, rfl, Walks.tuple (A := A.in1) hh _ t (Nat.ne_of_lt hlt) (intItems xs), ⟨⟨_, Heap.get?_push_size _ rfl, rfl, rfl⟩, ?_⟩, fun b hb => ?_, (fun _ _ => intItems_at), fun h' tk t' hk => ?_⟩)
  · obtain ⟨o, e1, e2⟩ := ht
    exact ⟨o, Heap.get?_push_of_some _ e1, e2⟩
  · show b < (s.heap.push _).objs.size
    rw [Heap.size_push]
    rcases List.mem_cons.mp hb with z | z
    · rw [z]
      exact Nat.lt_succ_self _
    · rw [List.mem_singleton.mp z]
      exact Nat.lt_succ_of_lt hlt
  · have q := h h' tk t' fun b o e => hk b o (fun hm => by
      rw [List.mem_singleton.mp hm] at e
      exact absurd (Heap.lt_size e) (Nat.lt_irrefl _)) (Heap.get?_push_of_some _ e)
    rw [show (intItems xs).size = xs.size by simp [intItems], preSum_eq, List.take_of_length_le (by simp), hn]
    exact q
def rSumT (K : Fg) : List V → Hp → VK → Prop := fun vs H Q => ∃ (a : Addr) (ns : List Int), vs = [V.ref a] ∧ SqT K H a (ns.map V.int) ∧ Q (.int ns.sum) H
theorem cr_sumT {X : Cx} (hc : X.calm = true) : CallR X (.builtin "sum") (rSumT X.K) := by
  intro pins s σ H xs us Q I r h
  obtain ⟨a, ns, rfl, ha, q⟩ := h
  obtain ⟨u, rfl, ru⟩ := vals1 r
  cases ru
  obtain ⟨its, rv, p, _⟩ := I.tuple ha
  exact sum_tup (I.ok.hd hc) p (intsAre_of rv) fun h' tk t' hk => ⟨.int ns.sum, H, I.kept hk, ⟨t', rfl⟩, q⟩
/-! ### repr of data -/
def rRepr (K : Fg) : List V → Hp → VK → Prop := fun vs H Q => ∃ (a : Addr) (d : PyData), vs = [V.ref a] ∧ Dp K H (.ref a) d ∧ d.showable = true ∧ d.hasDict = false ∧ d.depth ≤ 60 ∧ d.shown.length ≤ sizeLine ∧ Q (.str d.shown) H
theorem cr_repr {X : Cx} (hg : X.A.guards = some []) (hu : X.A.units + 64 < cLine) : CallR X (.builtin "repr") (rRepr X.K) := by
  intro pins s σ H xs us Q I r h
  obtain ⟨a, d, rfl, hd, h1, h2, h3, h4, q⟩ := h
  obtain ⟨u, rfl, ru⟩ := vals1 r
  cases ru
  obtain ⟨as, hr⟩ := Dp.reads I d _ _ hd (show RelV (.ref a) (.ref a) from rfl)
  exact repr_of_reads' hr h1 (fun z => by rw [h2] at z; cases z) hg (by omega) (fun _ _ e => e) (fun h' u tk hk => ⟨.str d.shown, H, I.kept hk, ⟨u, rfl⟩, q⟩) h4
section
variable {X : Cx} {Γ : List Sl} {M M1 : Own} {a : Expr} {pos p : Pos}
theorem ed_sumT {ns : List Int} (hm : X.mg "sum" = none) (ha : ED X Γ M a (.t ns) M1) (hc : X.calm = true := by rfl) (hs : starEach [a] X.env = [(false, eval a X.env)] := by rfl) (hg : Gl X "sum" := by rfl) : ED X Γ M (.Call (.Name "sum" p) [a] [] pos) (.i ns.sum) M1 :=
  ed_callB (cr_sumT hc) hm (fun H vs Q o h q => by
    obtain ⟨v, e, h⟩ := reps1 h
    obtain ⟨l, e2, h1⟩ := inv_ti h
    exact ⟨l, ns, by rw [e, e2], sqt h1, q _ H (Gw.refl _) o (Dv.int _)⟩) (ea_cons ha ea_nil hs) (by decide +kernel) hg (by decide) (by decide) hs
theorem ed_repr {ds : List PyData} (hm : X.mg "repr" = none) (hgd : X.A.guards = some []) (hu : X.A.units + 64 < cLine) (h1 : (PyData.list ds).showable = true) (h2 : (PyData.list ds).hasDict = false) (h3 : (PyData.list ds).depth ≤ 60) (h4 : (PyData.list ds).shown.length ≤ sizeLine) (ha : ED X Γ M a (.dat (.list ds)) M1)
    (hs : starEach [a] X.env = [(false, eval a X.env)] := by rfl) (hg : Gl X "repr" := by rfl) : ED X Γ M (.Call (.Name "repr" p) [a] [] pos) (.dat (.str (PyData.list ds).shown)) M1 :=
  ed_callB (cr_repr hgd hu) hm (fun H vs Q o h q => by
    obtain ⟨v, e, h⟩ := reps1 h
    obtain ⟨l, xs, e2, k1, hd⟩ := inv_l h
    exact ⟨l, .list ds, by rw [e, e2], dv_dp (.lst k1 (gw_hid.dps hd)), h1, h2, h3, h4, q _ H (Gw.refl _) o (Dv.str _)⟩) (ea_cons ha ea_nil hs) (by decide +kernel) hg (by decide) (by decide) hs
end
end Wm
set_option Elab.async false
set_option linter.all false
set_option maxRecDepth 100000
set_option maxHeartbeats 4000000
namespace Wm
open PySem PySem.Spec PyProof.Rows L2
/-! ### t[::-1] -/
section
variable {prog : Program} {w : World} {A : Around} {E : Value → Shared → Prop} {s : Shared}
theorem places_rev (n : Nat) : Builtin.Slice.slicePlaces ((n : Int) - 1) (-1) (-1) = n := by
  unfold Builtin.Slice.slicePlaces
  rw [if_neg (by decide)]
  by_cases h : (n : Int) - 1 > -1
  · rw [if_pos h, show (-(-1 : Int)) = 1 from rfl, Int.ediv_one]
    omega
  · rw [if_neg h]
    omega
theorem applied_rev {sl : Addr} {vl vu vs : Value} {n : Nat} {Q : Int × Int × Nat → Shared → Prop} (hs : s.heap.IsSliceOf sl vl vu vs) (pl : IsPart vl none) (pu : IsPart vu none) (ps : IsPart vs (some (-1)))
    (h : Q ((n : Int) - 1, -1, n) s) : wpAny (model prog w) A (Builtin.Slice.sliceApplied (.ref sl) (pure (n : Int))) Q E s := by
  obtain ⟨os, hos, hcs, hds⟩ := id hs
  unfold Builtin.Slice.sliceApplied Builtin.Slice.sliceFields
  refine wpAny_bind (wpAny_bind (wpAny_field hos hds (x := vl) rfl (wpAny_bind (wpAny_field hos hds (x := vu) rfl (wpAny_bind (wpAny_field hos hds (x := vs) rfl (wpAny_pure ?_)))))))
  refine wpAny_bind (HT.slicePart_ ps ?_)
  show wpAny _ _ (if ((-1 : Int) == 0) = true then _ else _) _ _ s
  rw [if_neg (by decide)]
  refine wpAny_bind (HT.slicePart_ pl (wpAny_bind (HT.slicePart_ pu (wpAny_bind (wpAny_pure ?_)))))
  show wpAny _ _ (pure ((n : Int) - 1, (-1 : Int), Builtin.Slice.slicePlaces ((n : Int) - 1) (-1) (-1))) _ _ s
  rw [places_rev]
  exact wpAny_pure h
theorem pick_rev (xs : Array Value) : ((List.range xs.size).filterMap fun (m : Nat) => xs[((xs.size : Int) - 1 + (m : Int) * (-1)).toNat]?).toArray = xs.toList.reverse.toArray := by
  have e : ((List.range xs.size).filterMap fun (m : Nat) => xs[((xs.size : Int) - 1 + (m : Int) * (-1)).toNat]?) = ((List.range xs.size).map fun k => xs.size - 1 - k).filterMap (xs[·]?) := by
    rw [List.filterMap_map]
    congr 1
    funext m
    show xs[((xs.size : Int) - 1 + (m : Int) * (-1)).toNat]? = xs[xs.size - 1 - m]?
    have e1 : ((xs.size : Int) - 1 + (m : Int) * (-1)).toNat = xs.size - 1 - m := by omega
    rw [e1]
  rw [e, PySem.W.krv_range, List.filterMap_reverse, PySem.W.krv_all]
theorem getItem_tuple_rev {t sl : Addr} {items : Array Value} {vl vu vs : Value} {Q : Value → Shared → Prop} (ht : IsTup s.heap t items) (hs : s.heap.IsSliceOf sl vl vu vs) (pl : IsPart vl none) (pu : IsPart vu none) (ps : IsPart vs (some (-1)))
    (h : Q (.ref s.heap.objs.size) { s with heap := s.heap.push { cls := .type "tuple", data := .seq items.toList.reverse.toArray } }) (hsz : items.size ≤ sizeLine) : wpAny (model prog w) A (getItem (.ref t) (.ref sl)) Q E s := by
  obtain ⟨os, hos, hcs, hds⟩ := id hs
  have hTs : s.TypeIs (.ref sl) "slice" := ⟨os, hos, hcs⟩
  have hz : sizeOk (.seq items.toList.reverse.toArray) := by
    show items.toList.reverse.toArray.size ≤ sizeLine
    rw [List.size_toArray, List.length_reverse, Array.length_toList]
    exact hsz
  unfold getItem
  try with_reducible refine wpAny_holding ?_
  first | refine wpAny_bind (wpAny_pure ?_) | skip
  refine wpAny_bind (wpAny_sequenceKey ht.typeIs (by decide) ?_)
  refine wpAny_bind (wpAny_callSpecial?_slot (name := Str.ofString "__getitem__") ht.typeIs PyProof.Rows.slot_tuple_getitem (wpAny_call_entry PyProof.Rows.slot_tuple_getitem ht.typeIs entry_tuple_getitem ?_ (args_tuple_getitem _ _)))
  show wpAny _ _ (Builtin.Tuple.tupleItemsOf (.ref t) >>= _) _ _ s
  refine wpAny_bind (tupleItemsOf_ ht (wpAny_bind (wpAny_typeOf hTs ?_)))
  rw [if_pos (by decide)]
  refine wpAny_bind (applied_rev hs pl pu ps ?_)
  have hno : ¬ (((items.size : Int) - 1 == 0 && (-1 : Int) == 1 && items.size == items.size) = true) := by
    rw [show ((-1 : Int) == 1) = false from rfl, Bool.and_false, Bool.false_and]
    exact Bool.false_ne_true
  show wpAny _ _ (if ((items.size : Int) - 1 == 0 && (-1 : Int) == 1 && items.size == items.size) = true then _ else _) _ _ s
  rw [if_neg hno, pick_rev]
  first
    | exact wpAny_bind (m := Builtin.Tuple.tupleExact _) (wpAny_newObj_type (wpAny_pure ⟨_, rfl, wpAny_pure h⟩) hz)
    | exact wpAny_bind (m := Builtin.Tuple.tupleExact _) (wpAny_newObj_type (wpAny_bind (wpAny_pure (wpAny_pure ⟨_, rfl, wpAny_pure h⟩))) hz)
    | exact wpAny_bind (wpAny_bind (m := Builtin.Tuple.tupleExact _) (wpAny_newObj_type (wpAny_pure (wpAny_pure ⟨_, rfl, wpAny_pure h⟩)) hz))
    | exact wpAny_bind (wpAny_bind (m := Builtin.Tuple.tupleExact _) (wpAny_newObj_type (wpAny_pure ⟨_, rfl, wpAny_pure h⟩) hz))
end
def tRevT (K : Fg) (te : TE) : TE := fun σ H Q => te σ H fun x H1 => ∃ a xs, x = .ref a ∧ SqT K H1 a xs ∧ ∀ p, H1 p = none → Q (.ref p) (upd H1 p (.tup xs.reverse))
theorem pe_revT {X : Cx} {e : Expr} {te : TE} {k : Nat} {p1 p2 p3 pos : Pos} (he : PE X e te) : PE X (.Subscript e (.Slice none none (some (.UnaryOp .USub (.Constant (.int 1) k p1) p2)) p3) pos) (tRevT X.K te) := by
  refine ⟨fun pins s σ H Q I h => ?_⟩
  refine Subscript_ (thn (he.run pins s σ H _ I h) fun v s1 ⟨x, H1, I1, r1, a, xs, ex, hx, q⟩ => ?_)
  subst ex
  cases r1
  have hst : PO X (some (.UnaryOp .USub (.Constant (.int 1) k p1) p2)) (tPart (tUn (rU fun i => .int (-i)) (tC (.int 1)))) := po_some (pe_un un_neg pe_int)
  refine wpAny_Slice (thn (po_none.run pins s1 σ H1 (fun o H2 => o = none ∧ H2 = H1) I1 ⟨rfl, rfl⟩) fun vl s2 ⟨l, H2, I2, pl, el, e2⟩ => ?_)
  subst el e2
  refine thn (po_none.run pins s2 σ H2 (fun o H3 => o = none ∧ H3 = H2) I2 ⟨rfl, rfl⟩) fun vu s3 ⟨u, H3, I3, pu, eu, e3⟩ => ?_
  subst eu e3
  refine thn (hst.run pins s3 σ H3 (fun o H4 => o = some (-1) ∧ H4 = H3) I3 ⟨1, rfl, -1, rfl, rfl, rfl⟩) fun vs s4 ⟨o, H4, I4, ps, eo, e4⟩ => ?_
  subst eo e4
  have I5 : Inv X pins σ H4 { s4 with heap := s4.heap.push { cls := .type "slice", data := .fields #[vl, vu, vs] } } := I4.kept (t' := s4.toks) fun b ob q => Heap.get?_push_of_some _ q
  obtain ⟨its, r, ht, hz⟩ := I5.tuple hx
  have hlen := r.length
  show wpAny (model X.prog X.w) X.A (subscriptTail e (.Slice none none (some (.UnaryOp .USub (.Constant (.int 1) k p1) p2)) p3) (.ref a) (.ref s4.heap.objs.size)) (EP X pins σ Q) X.xe { s4 with heap := s4.heap.push { cls := .type "slice", data := .fields #[vl, vu, vs] } }
  refine tail_any (ops := [.ref a, .ref s4.heap.objs.size]) ht.typeIs (PyProof.Rows.slot_tuple_getitem.lookup) ?_ (by with_unfolding_all rfl)
  refine getItem_tuple_rev ht (Heap.IsSliceOf.new _ vl vu vs) pl pu ps ?_ (by rw [List.size_toArray]; omega)
  refine ⟨.ref _, _, I5.laid (t' := s4.toks) (o := .tup xs.reverse) (fun b ob q => Heap.get?_push_of_some _ q) (Nat.le_refl _) ?_, rfl, q _ (I5.hok.fresh (Nat.le_refl _))⟩
  exact ⟨by rw [List.length_reverse]; exact hz, _, r.reverse, ⟨_, Heap.get?_push_size _ rfl, rfl, _, rfl⟩⟩
/-! ### sorted of tuples of ints -/
theorem dps_reads {X : Cx} {pins : List (Addr × Obj)} {σ : L2.St} {H Hd : Hp} {s : Shared} (I : Inv X pins σ H s) (g : Gw Hd H) {β : Type} {enc : β → PyData} : ∀ {bs : List β} {vs : List V} {us : List Value}, DvAll Hd vs (bs.map enc) → Vals vs us →
    PySem.W.EachIs (fun u b => (∃ v, RelV v u ∧ Dv Hd v (enc b)) ) us bs ∧ PySem.W.EachIs (fun u b => ∃ as, Reads s.heap u (enc b) as) us bs
  | [], [], [], _, _ => ⟨.nil, .nil⟩
  | b :: bs, v :: vs, u :: us, h, r => by
    cases h with
    | cons h1 h2 =>
      cases r with
      | cons r1 r2 =>
        obtain ⟨e1, e2⟩ := dps_reads I g h2 r2
        exact ⟨.cons ⟨v, r1, h1⟩ e1, .cons (Dp.reads I (enc b) v u (dv_dp (g.dp h1)) r1) e2⟩
  | [], [], _ :: _, _, r => by cases r
  | [], _ :: _, _, h, _ => by cases h
  | _ :: _, [], _, h, _ => by cases h
  | _ :: _, _ :: _, [], _, r => by cases r
theorem each_dps {H : Hp} {β : Type} {enc : β → PyData} : ∀ {us : List Value} {bs : List β}, PySem.W.EachIs (fun u b => ∃ v, RelV v u ∧ Dv H v (enc b)) us bs → ∃ vs, Vals vs us ∧ DvAll H vs (bs.map enc)
  | _, _, .nil => ⟨[], .nil, .nil⟩
  | _, _, .cons h t => by
    obtain ⟨v, h1, h2⟩ := h
    obtain ⟨vs, h3, h4⟩ := each_dps t
    exact ⟨v :: vs, .cons h1 h3, .cons h2 h4⟩
/-- one item at most, or none of them empty -/
def rSortTs : List V → Hp → VK → Prop := fun vs H Q => ∃ (Hd : Hp) (a : Addr) (xs : List V) (bs : List (List Int)), Gw Hd H ∧ vs = [V.ref a] ∧ H a = some (.lst xs) ∧ DvAll Hd xs (bs.map tI) ∧ (bs.length ≤ 1 ∨ ∀ b ∈ bs, b ≠ []) ∧ bs.length ≤ 100000 ∧
  ∀ (ys : List V) (p : Addr), H p = none → DvAll Hd ys ((bs.mergeSort (PySem.W.dataLe false tI)).map tI) → Q (.ref p) (upd H p (.lst ys))
theorem alike_tI (a b : List Int) : PySem.W.alike (tI a) (tI b) = true := by
  have h := PySem.W.alike_ints a b
  simpa [PySem.W.alike, tI, dI] using h
theorem depth_tI (a : List Int) : (tI a).depth ≤ 1 := by
  have h := PySem.W.depth_ints a
  show (PyData.tuple (a.map .int)).depth ≤ 1
  simp only [PyData.depth]
  omega
theorem sorts_ti {prog : Program} {w : World} {A : Around} {s : Shared} {vs : List Value} {bs : List (List Int)} (e : PySem.W.EachIs (fun v d => ∃ as, Reads s.heap v d as) vs (bs.map tI)) (hc : bs.length ≤ 1 ∨ ∀ b ∈ bs, b ≠ []) (hu : A.units + 2 < cLine) :
    PySem.W.SortsAt prog w A s (PySem.W.dataKind s.heap (bs.map tI)) vs := by
  have hal : PySem.W.AllAlike (bs.map tI) := PySem.W.AllAlike.of alike_tI
  have dep : ∀ d, d ∈ bs.map tI → A.units + d.depth < cLine := fun d hd => by
    obtain ⟨b, _, rfl⟩ := List.mem_map.mp hd
    have := depth_tI b
    omega
  rcases hc with h1 | h1
  · refine ⟨fun v hv => ?_, general', fun E x y a b Q ha hb hq => ?_, fun h2 => ?_⟩
    · obtain ⟨d, hd, as, r⟩ := e.left v hv
      exact ⟨_, PySem.W.dataKind_some hal hd r⟩
    · obtain ⟨d, as, hd, ra, rfl⟩ := PySem.W.dataKind_inv ha
      obtain ⟨d', as', hd', rb, rfl⟩ := PySem.W.dataKind_inv hb
      refine PySem.W.oneLt_alike (f := false) (fun z => nomatch z) ra rb (hal d hd d' hd') (fun z => ?_) (Nat.lt_of_le_of_lt (Nat.add_le_add_left (Nat.min_le_left _ _) _) (dep d hd)) hq
      obtain ⟨b, _, rfl⟩ := List.mem_map.mp hd
      cases z
    · have := e.length
      rw [List.length_map] at this
      omega
  · refine PySem.W.SortsAt.data e hal (.inl fun d hd => ?_) dep
    obtain ⟨b, hb, rfl⟩ := List.mem_map.mp hd
    cases b with
    | nil => exact absurd rfl (h1 _ hb)
    | cons x r => exact ⟨_, _, rfl⟩
theorem cr_sortTs {X : Cx} (hu : X.A.units + 64 < cLine) : CallR X (.builtin "sorted") rSortTs := by
  intro pins s σ H vs0 us Q I r h
  obtain ⟨Hd, a, xs, bs, g, rfl, ha, hd, hc, hz, q⟩ := h
  obtain ⟨u, rfl, ru⟩ := vals1 r
  cases ru
  obtain ⟨its, rv, p, _⟩ := I.list (sql ha)
  obtain ⟨e1, e2⟩ := dps_reads I g (enc := tI) hd rv
  have er : PySem.W.EachIs (fun v b => ∃ as, Reads (PySem.W.sortingHeap (PySem.W.copyHeap s.heap its) (s.heap.objs.size + 1) its) v (tI b) as) its bs := e2.mono fun _ _ ⟨as, r⟩ => ⟨as, PyProof.Rows.Reads.keeps (fun _ _ => PySem.W.sorting_copy_old) r⟩
  have hl : its.length = bs.length := e1.length
  refine PySem.W.sorted_vals p.isList (sorts_ti (s := { s with heap := PySem.W.sortingHeap (PySem.W.copyHeap s.heap its) (s.heap.objs.size + 1) its }) (PySem.W.each_map (R := fun v d => ∃ as, Reads (PySem.W.sortingHeap (PySem.W.copyHeap s.heap its) (s.heap.objs.size + 1) its) v d as) tI er) hc (by show X.A.units + 1 + 1 + 2 < cLine; omega)) (by rw [hl]; exact Nat.le_trans hz (by decide)) ?_
  have eo := PySem.W.sortVals_data false e1 er (PySem.W.AllAlike.of alike_tI)
  obtain ⟨ys, ry, dy⟩ := each_dps eo
  obtain ⟨c, hcc⟩ := sortedAll_at s.heap its (PySem.W.sortVals (PySem.W.dataKind (PySem.W.sortingHeap (PySem.W.copyHeap s.heap its) (s.heap.objs.size + 1) its) (bs.map tI)) false its its).toArray
  refine ⟨.ref (s.heap.objs.size + 1), _, I.laid (t' := s.toks) (a := s.heap.objs.size + 1) (o := .lst ys) (fun b ob q => sortedAll_old q) (Nat.le_succ _) ?_, rfl, q ys _ (I.hok.fresh (Nat.le_succ _)) dy⟩
  refine ⟨?_, _, c, ry, hcc⟩
  rw [dps_len dy, List.length_map, (List.mergeSort_perm _ _).length_eq]
  exact Nat.le_trans hz (by decide)
section
variable {X : Cx} {Γ : List Sl} {M M1 : Own} {a : Expr} {pos p : Pos}
/-- sorted(a list of tuples of ints) -/
def srtT (bs : List (List Int)) : List (List Int) := bs.mergeSort (PySem.W.dataLe false tI)
theorem ed_sortTs {bs : List (List Int)} (hm : X.mg "sorted" = none) (hu : X.A.units + 64 < cLine) (ha : ED X Γ M a (.dat (.list (bs.map tI))) M1) (hc : bs.length ≤ 1 ∨ ∀ b ∈ bs, b ≠ []) (hz : bs.length ≤ 100000) (hs : starEach [a] X.env = [(false, eval a X.env)] := by rfl) (hg : Gl X "sorted" := by rfl) :
    ED X Γ M (.Call (.Name "sorted" p) [a] [] pos) (.dat (.list ((srtT bs).map tI))) M1 :=
  ed_callB (cr_sortTs hu) hm (fun H vs Q o h q => by
    obtain ⟨v, e, h⟩ := reps1 h
    obtain ⟨l, xs, e2, k1, hd⟩ := inv_l h
    refine ⟨hid M1 H, l, xs, bs, gw_hid, by rw [e, e2], k1, hd, hc, hz, fun ys p hp hy => ?_⟩
    obtain ⟨o2, g2, h2⟩ := new_l o hp hy
    exact q _ _ g2 o2 h2) (ea_cons ha ea_nil hs) (by decide +kernel) hg (by decide) (by decide) hs
end
end Wm
set_option Elab.async false
set_option linter.all false
set_option maxRecDepth 100000
set_option maxHeartbeats 4000000
namespace Wm
open PySem PySem.Spec PyProof.Rows L2
open AutoSeq1 (wpAny_loadPart')
/-! ### t * 1 -/
theorem tuple_mul1 (l : Addr) (items : Array Value) (n : Nat) (dd : Option Addr) (sl : Array (Option Value)) (u : Tok) :
    Meets (Builtin.«tuple.__mul__» ⟨[.ref l, .int 1 u], []⟩) (fun _ R s => s.heap.get? l = some { cls := .type "tuple", dict := dd, data := .seq items n, slots := sl } ∧ R (.ok (.ret (Value.ref l))) s) :=
  .of_wp fun prog w A R s h => by
    obtain ⟨hp, g, d, tk, os⟩ := s
    obtain ⟨hl, h⟩ := h
    have f1 := AutoSeq1.idx_int
    wp_walk using wpAny_loadPart' hl
    all_goals exact ⟨_, rfl, h⟩
def rMul1 (K : Fg) : R2 := fun x y H Q => ∃ l xs, x = .ref l ∧ y = .int 1 ∧ SqT K H l xs ∧ Q (.ref l) H
section
variable {X : Cx}
theorem op_mul1 : OpR X (binaryOp .Mult) (rMul1 X.K) := by
  intro pins s σ H x y v u Q I rx ry h
  obtain ⟨l, xs, rfl, rfl, hT, q⟩ := h
  cases rx
  obtain ⟨t, rfl⟩ := ry
  obtain ⟨its, r, ⟨⟨cls, dd, data, sl⟩, ho, hc, n, hd⟩, hs⟩ := I.tuple hT
  simp only at hc hd
  subst hc hd
  refine wpAny_binaryOp_repeat_ref (T := "tuple") (U := "int") (by decide) ⟨_, ho, rfl⟩ (fun s' => typeIs_int s' 1 t) noFill_tuple_mul F.fills_int_mul F.slot_int_rmul repeat_tuple F.slot_int_index.lookup
    (call_meets F.slot_int_rmul (typeIs_int s 1 t) F.entry_int_rmul (F.args_int_rmul_2 _ _) (int_rmul_tuple 1 t l its.toArray n dd sl)
      ⟨ho, rfl, ⟨_, ho, rfl⟩, call_meets F.slot_tuple_mul ⟨_, ho, rfl⟩ F.entry_tuple_mul (F.args_tuple_mul_2 _ _) (tuple_mul1 l its.toArray n dd sl t) ⟨ho, ?_⟩⟩)
  exact ⟨.ref l, H, I, rfl, q⟩
theorem op_both {X : Cx} {f : Value → Value → Sem Value} {r1 r2 : R2} (h1 : OpR X f r1) (h2 : OpR X f r2) : OpR X f (fun x y H Q => r1 x y H Q ∨ r2 x y H Q) := by
  intro pins s σ H x y v u Q I rx ry h
  rcases h with h | h
  · exact h1 pins s σ H x y v u Q I rx ry h
  · exact h2 pins s σ H x y v u Q I rx ry h
end
section
variable {X : Cx} {Γ : List Sl} {M M0 M1 M2 M3 : Own} {a b c e : Expr} {es : List Expr} {rest body : List Stmt} {r r1 r2 r3 : Sl} {rs : List Sl} {pos tpos p py : Pos} {x y : Str} {tg iter : Expr} {P : Post}
/-- (a,) * k, k at least 1 -/
theorem ed_mulT {ds : List PyData} {k : Int} (h0 : 1 ≤ k) (hk : k ≤ 1000) (hn : ds ≠ []) (hz : ds.length ≤ 1000) (ha : ED X Γ M a (.dat (.tuple ds)) M1) (hb : ED X Γ M1 b (.i k) M2) : ED X Γ M (.BinOp a .Mult b pos) (.dat (.tuple (List.replicate k.toNat ds).flatten)) M2 :=
  ed_bin (op_both op_mul1 op_repT) (fun H v w Q o h1 h2 q => by
    by_cases e : k = 1
    · subst e
      obtain ⟨p, xs, e1, k1, d1⟩ := inv_t h1
      refine .inl ⟨p, xs, e1, inv_i h2, sqt k1, ?_⟩
      rw [e1] at h1
      have e3 : (List.replicate (1 : Int).toNat ds).flatten = ds := by simp
      rw [e3] at q
      exact q _ H (Gw.refl _) o h1
    · exact .inr (rd_repT (by omega) hk hn hz H v w Q o h1 h2 q)) ha hb
/-! ### t[::-1] -/
theorem ed_revT {ds : List PyData} {k : Nat} {p1 p2 p3 : Pos} (ha : ED X Γ M a (.dat (.tuple ds)) M1) : ED X Γ M (.Subscript a (.Slice none none (some (.UnaryOp .USub (.Constant (.int 1) k p1) p2)) p3) pos) (.dat (.tuple ds.reverse)) M1 := fun σ H Q kk q =>
  PE_w (pe_revT pe_w) (ha σ H _ kk fun v H1 g1 o1 r1 => by
    obtain ⟨l, xs, e, h, hd⟩ := inv_t r1
    refine ⟨l, xs, e, sqt h, fun p hp => ?_⟩
    obtain ⟨o4, g4, h4⟩ := new_t o1 hp (dps_rev hd)
    exact q _ _ (g1.trans g4) o4 h4)
/-! ### sorted ints -/
def srtI (ns : List Int) : List Int := ns.mergeSort (fun a b => decide (a ≤ b))
theorem srtI_of {ns ns' : List Int} (h1 : ns'.Perm ns) (h2 : ns'.Pairwise (· ≤ ·)) : ns' = srtI ns := by
  have p2 : (srtI ns).Perm ns := List.mergeSort_perm _ _
  have s2 : (srtI ns).Pairwise (· ≤ ·) := by
    have := List.pairwise_mergeSort (le := fun a b : Int => decide (a ≤ b)) (fun a b c h1 h2 => by simp at *; omega) (fun a b => by simp; omega) ns
    exact this.imp fun h => by simpa using h
  exact List.Perm.eq_of_pairwise (le := fun a b : Int => a ≤ b) (fun a b _ _ h1 h2 => by omega) h2 s2 (h1.trans p2.symm)
theorem ed_sortI {ns : List Int} (hm : X.mg "sorted" = none) (ha : ED X Γ M a (.dat (.list (dI ns))) M1) (hs : starEach [a] X.env = [(false, eval a X.env)] := by rfl) (hg : Gl X "sorted" := by rfl) :
    ED X Γ M (.Call (.Name "sorted" p) [a] [] pos) (.dat (.list (dI (srtI ns)))) M1 :=
  ed_callB cr_sortedI hm (fun H vs Q o h q => by
    obtain ⟨v, e, h⟩ := reps1 h
    obtain ⟨l, e2, k1⟩ := inv_li h
    refine ⟨l, ns, by rw [e, e2], sql k1, fun ns' p h1 h2 hp => ?_⟩
    have e3 := srtI_of h1 h2
    subst e3
    obtain ⟨o2, g2, hh⟩ := new_l o hp (ints_dps (srtI ns))
    exact q _ _ g2 o2 hh) (ea_cons ha ea_nil hs) (by decide +kernel) hg (by decide) (by decide) hs
/-! ### None -/
def isNonD : PyData → Bool
  | .none => true
  | _ => false
theorem ed_isNone {d : PyData} {k : Nat} {p2 : Pos} (ha : ED X Γ M a (.dat d) M1) (hm : behindInMarks .Is (.Constant .none k p2) = false := by first | rfl | exact nomark _) : ED X Γ M (.Compare a [.Is] [.Constant .none k p2] pos) (.b (isNonD d)) M1 :=
  ed_cmp op_isN (fun H v w Q o h1 h2 q => by
    cases h2
    refine ⟨rfl, ?_⟩
    have e : decide (v = V.non) = isNonD d := by
      cases h1 <;> simp [isNonD]
    rw [e]
    exact q _ H (Gw.refl _) o (Dv.bl _)) ha ed_non hm
/-! ### dicts keyed by tuples of ints -/
def gT (kvs : List (List Int × Int)) (k : List Int) (z : Int) : Int := ((kvs.find? fun p => decide (p.1 = k)).map (·.2)).getD z
def pT (kvs : List (List Int × Int)) (k : List Int) (v : Int) : List (List Int × Int) := if (kvs.any fun p => decide (p.1 = k)) = true then kvs.map fun p => if p.1 = k then (p.1, v) else p else kvs ++ [(k, v)]
theorem inl_inj {a b : List Int} : (a.map (Sum.inl : Int → Key) = b.map Sum.inl) ↔ a = b :=
  List.map_inj_right fun _ _ e => Sum.inl.inj e
theorem valV_kvT (kvs : List (List Int × Int)) (k : List Int) : valV (kvT kvs) (k.map Sum.inl) = (kvs.find? fun p => decide (p.1 = k)).map fun p => V.int p.2 := by
  induction kvs with
  | nil => rfl
  | cons p r ih =>
    show valV ((p.1.map Sum.inl, V.int p.2) :: kvT r) _ = _
    by_cases h : p.1 = k
    · rw [valV_pos (by rw [h]), List.find?_cons_of_pos (by simpa using h)]
      rfl
    · rw [valV_neg (fun z => h (inl_inj.mp z)), ih, List.find?_cons_of_neg (by simpa using h)]
theorem getD_kvT (kvs : List (List Int × Int)) (k : List Int) (z : Int) : (valV (kvT kvs) (k.map Sum.inl)).getD (.int z) = .int (gT kvs k z) := by
  rw [valV_kvT]
  unfold gT
  cases kvs.find? fun p => decide (p.1 = k) <;> rfl
theorem putK_kvT (kvs : List (List Int × Int)) (k : List Int) (v : Int) : putK (kvT kvs) (k.map Sum.inl) (.int v) = kvT (pT kvs k v) := by
  have e0 : ((kvT kvs).any fun kv => decide (kv.1 = k.map Sum.inl)) = (kvs.any fun p => decide (p.1 = k)) := by
    unfold kvT
    rw [List.any_map]
    congr 1
    funext p
    exact decide_eq_decide.mpr inl_inj
  unfold putK pT
  rw [e0]
  by_cases h : (kvs.any fun p => decide (p.1 = k)) = true
  · rw [if_pos h, if_pos h]
    unfold kvT
    rw [List.map_map, List.map_map]
    refine List.map_congr_left fun p _ => ?_
    show (if List.map Sum.inl p.1 = List.map Sum.inl k then _ else _) = ((if p.1 = k then (p.1, v) else p).1.map Sum.inl, V.int (if p.1 = k then (p.1, v) else p).2)
    by_cases h2 : p.1 = k
    · rw [if_pos (inl_inj.mpr h2), if_pos h2]
    · rw [if_neg (fun z => h2 (inl_inj.mp z)), if_neg h2]
  · rw [if_neg h, if_neg h]
    unfold kvT
    rw [List.map_append]
    rfl
theorem key_tup {ns : List Int} : ns.map V.int = (ns.map Sum.inl).map kV := by
  rw [List.map_map]
  rfl
theorem pT_len (kvs : List (List Int × Int)) (k : List Int) (v : Int) : (pT kvs k v).length ≤ kvs.length + 1 := by
  unfold pT
  split
  · simp
  · simp
/-- d.get(k, z) -/
theorem ed_dget {l : Addr} {kvs : List (List Int × Int)} {ns : List Int} {z : Int} {apos cpos : Pos} (hu : X.A.units + 1 < cLine) (hm1 : (l, MO.dct kvs) ∈ M1) (hm : (l, MO.dct kvs) ∈ M3) (ho : ED X Γ M a (.at (.ref l)) M1) (he : ED X Γ M1 b (.t ns) M2) (hz : ED X Γ M2 c (.i z) M3) (m : L2.M2 X a "get" apos b c cpos) :
    ED X Γ M (.Call (.Attribute a "get" apos) [b, c] [] cpos) (.i (gT kvs ns z)) M3 := fun σ H Q k q =>
  PE_w (pe_dget2 hu pe_w pe_w pe_w m) (ho σ H _ k fun v H1 g1 o1 r1 => by
    have r1 : v = .ref l := r1
    have h1 : H1 l = some (.dT (kvT kvs)) := o1.ok _ hm1
    refine ⟨l, r1, .inr ⟨_, .inl h1⟩, he σ H1 _ (k.to g1 o1) fun w H2 g2 o2 r2 => hz σ H2 _ ((k.to g1 o1).to g2 o2) fun u H3 g3 o3 r3 => ?_⟩
    have h3 : H3 l = some (.dT (kvT kvs)) := o3.ok _ hm
    obtain ⟨p, e2, k2⟩ := inv_ti (g3.rep r2)
    rw [key_tup] at k2
    refine ⟨_, by rw [e2]; exact DGet.t h3 k2, ?_⟩
    rw [inv_i r3, getD_kvT]
    exact q _ H3 ((g1.trans g2).trans g3) o3 (Dv.int _))
/-- d[k] = v, d on top of what is owned -/
theorem sd_dput {l : Addr} {kvs : List (List Int × Int)} {ns : List Int} {v : Int} (hu : X.A.units + 1 < cLine) (hv : ED X Γ ((l, MO.dct kvs) :: M) c (.i v) ((l, MO.dct kvs) :: M1)) (ho : ED X Γ ((l, MO.dct kvs) :: M1) a (.at (.ref l)) ((l, MO.dct kvs) :: M1)) (hi : ED X Γ ((l, MO.dct kvs) :: M1) b (.t ns) ((l, MO.dct kvs) :: M1))
    (hl : kvs.length < 100000) (hk : SD X Γ ((l, MO.dct (pT kvs ns v)) :: M1) rest P) (hs : swapsWith c (some (.Subscript a b py)) pos.line X.env = pure false := by rfl) : SD X Γ ((l, MO.dct kvs) :: M) (.Assign [.Subscript a b py] c pos :: rest) P := fun σ H D k n t =>
  PSs_w (pss_cons (ps_dput hu pe_w pe_w pe_w hs) pss_w) (hv σ H _ k fun w H1 g1 o1 r1 => ho σ H1 _ (k.to g1 o1) fun u H2 g2 o2 r2 => hi σ H2 _ ((k.to g1 o1).to g2 o2) fun z H3 g3 o3 r3 => by
    have r2 : u = .ref l := r2
    have h3 : H3 l = some (.dT (kvT kvs)) := o3.ok _ List.mem_cons_self
    obtain ⟨p, e2, k2⟩ := inv_ti r3
    rw [key_tup] at k2
    refine ⟨l, _, r2, by rw [e2]; exact DPut.t h3 k2 (by unfold kvT; rw [List.length_map]; exact Nat.lt_trans hl (by decide)), ?_⟩
    rw [inv_i r1, putK_kvT]
    obtain ⟨o4, e4⟩ := o3.put (o := .dT (kvT (pT kvs ns v))) (mo' := .dct (pT kvs ns v)) (upd_same)
    have g4 : Gw (hid ((l, MO.dct kvs) :: M1) H3) (hid ((l, MO.dct (pT kvs ns v)) :: M1) (upd H3 l (.dT (kvT (pT kvs ns v))))) := by
      rw [e4]
      exact Gw.refl _
    exact hk σ _ D ⟨o4, k.env.mono (((g1.trans g2).trans g3).trans g4)⟩ (fun Γ' M' σ' H' p g => n Γ' M' σ' H' p ((((g1.trans g2).trans g3).trans g4).trans g)) fun r M' v H' p g => t r M' v H' p ((((g1.trans g2).trans g3).trans g4).trans g))
/-- x = {} -/
theorem sd_dnew {i : Nat} {dp : Pos} (hk : ∀ l, SD X (Γ.set i (.at (.ref l))) ((l, MO.dct []) :: M) rest P) (hN : X.N.Nodup) (hi : X.N[i]? = some x := by rfl) (hx : Loc X.env.scope x := by first | exact Or.inl rfl | exact Or.inr rfl) (hs : swapsWith (.Dict [] [] dp) (some (.Name x py)) pos.line X.env = pure false := by rfl)
    (hf : X.fn x = true ∨ X.env.scope.names.lookup x = some .local := by first | exact .inl rfl | exact .inr rfl) : SD X Γ M (.Assign [.Name x py] (.Dict [] [] dp) pos :: rest) P := fun σ H D k n t =>
  PSs_w (pss_cons (ps_set hN hi hx pe_dnewT hs hf) pss_w) fun l hl => by
    obtain ⟨o2, g2⟩ := k.own.own (o := .dT []) hl (mo := .dct []) upd_same
    exact hk l _ _ D ⟨o2, (k.env.mono g2).set i (show Rep _ _ (.at (.ref l)) from rfl)⟩ (fun Γ' M' σ' H' p g => n Γ' M' σ' H' p (g2.trans g)) fun r M' v H' p g => t r M' v H' p (g2.trans g)
/-- x = {k: v} -/
theorem sd_disp1 {i : Nat} {dp : Pos} {ns : List Int} {m : Int} (hu : X.A.units + 1 < cLine) (ha : ∀ l, ED X Γ ((l, MO.dct []) :: M) a (.t ns) ((l, MO.dct []) :: M)) (hb : ∀ l, ED X Γ ((l, MO.dct []) :: M) b (.i m) ((l, MO.dct []) :: M)) (hk : ∀ l, SD X (Γ.set i (.at (.ref l))) ((l, MO.dct [(ns, m)]) :: M) rest P) (hN : X.N.Nodup) (hi : X.N[i]? = some x := by rfl)
    (hx : Loc X.env.scope x := by first | exact Or.inl rfl | exact Or.inr rfl) (hs : swapsWith (.Dict [some a] [b] dp) (some (.Name x py)) pos.line X.env = pure false := by rfl)
    (hf : X.fn x = true ∨ X.env.scope.names.lookup x = some .local := by first | exact .inl rfl | exact .inr rfl) : SD X Γ M (.Assign [.Name x py] (.Dict [some a] [b] dp) pos :: rest) P := fun σ H D k n t =>
  PSs_w (pss_cons (ps_set hN hi hx (pe_disp1 hu pe_w pe_w) hs hf) pss_w) fun l hl => by
    obtain ⟨o2, g2⟩ := k.own.own (o := .dT []) hl (mo := .dct []) upd_same
    refine ha l σ _ _ (k.to g2 o2) fun v H1 g1 o1 r1 => hb l σ H1 _ ((k.to g2 o2).to g1 o1) fun w H3 g3 o3 r3 => ?_
    obtain ⟨p, e2, k2⟩ := inv_ti (g3.rep r1)
    rw [key_tup] at k2
    refine ⟨o3.ok _ List.mem_cons_self, p, _, e2, k2, ?_⟩
    rw [inv_i r3]
    obtain ⟨o4, e4⟩ := o3.put (o := .dT [(ns.map Sum.inl, V.int m)]) (mo' := .dct [(ns, m)]) upd_same
    have g4 : Gw (hid ((l, MO.dct []) :: M) H3) (hid ((l, MO.dct [(ns, m)]) :: M) (upd H3 l (.dT [(ns.map Sum.inl, V.int m)]))) := by
      rw [e4]
      exact Gw.refl _
    have g5 := ((g2.trans g1).trans g3).trans g4
    exact hk l _ _ D ⟨o4, (k.env.mono g5).set i (show Rep _ _ (.at (.ref l)) from rfl)⟩ (fun Γ' M' σ' H' p g => n Γ' M' σ' H' p (g5.trans g)) fun r M' v H' p g => t r M' v H' p (g5.trans g)
/-! ### for k, v in d.items() -/
def encKV (p : List Int × Int) : PyData := .tuple [tI p.1, .int p.2]
theorem own_no_tup {H : Hp} {q : Addr} {xs : List V} (o : OwnOk H M) (h : H q = some (.tup xs)) : q ∉ M.map Prod.fst := fun z => by
  obtain ⟨p, hp, rfl⟩ := List.mem_map.mp z
  have := o.ok p hp
  cases e : p.2 with
  | lst ds =>
    rw [e] at this
    obtain ⟨ys, e1, _⟩ := this
    rw [h] at e1
    cases e1
  | dct kvs =>
    rw [e] at this
    have e1 : H p.1 = some (.dT (kvT kvs)) := this
    rw [h] at e1
    cases e1
  | frz ob kvs =>
    rw [e] at this
    have e1 : H p.1 = some (.frz ob (.dT (kvT kvs))) := this
    rw [h] at e1
    cases e1
theorem src_items {d : Addr} {o : Obj} {kvs : List (List Int × Int)} {apos cpos : Pos} {elts : List Expr} {kk : Nat} (he : ED X Γ M e (.at (.ref d)) M1) (hm : (d, MO.frz o kvs) ∈ M1) (hbase : attributeBase e "items" X.env (eval e X.env) = eval e X.env := by rfl) (hline : (apos.endLine == cpos.line) = true := by rfl) :
    SRC X Γ M (.Tuple elts kk tpos) (.Call (.Attribute e "items" apos) [] [] cpos) (kvs.map encKV) M1 := fun σ H R k q =>
  PI_w (pi_itx pe_w hbase hline) (he σ H _ k fun v H1 g1 o1 r1 => by
    have r1 : v = .ref d := r1
    have h1 : H1 d = some (.frz o (.dT (kvT kvs))) := o1.ok _ hm
    have hlen : (kvs.map encKV).length = (kvT kvs).length := by unfold kvT; rw [List.length_map, List.length_map]
    refine ⟨d, o, kvT kvs, r1, h1, q _ H1 g1 o1 ⟨fun i H' M' hi g o' kp => ⟨o'.ok _ (kp _ _ _ hm), by rw [← hlen]; exact hi⟩, fun H' M' g o' kp => ⟨o'.ok _ (kp _ _ _ hm), Nat.le_of_eq hlen.symm⟩, fun i d' z H' H'' M' ei g o' kp y => ?_⟩⟩
    obtain ⟨T, q', ks, w, e1, e2, e3, e4, e5⟩ := y
    subst e3 e5
    unfold kvT at e1
    rw [List.getElem?_map] at e1 ei
    cases hp : kvs[i]? with
    | none =>
      rw [hp] at e1
      cases e1
    | some pr =>
      rw [hp] at e1 ei
      cases e1
      cases ei
      refine new_pair o' e4 (.tup (xs := pr.1.map V.int) ?_ (ints_dps pr.1)) (.int _)
      rw [← key_tup] at e2
      rw [hid_out (own_no_tup o' e2)]
      exact e2)
theorem OwnOk.put2 {H : Hp} {q0 : Addr × MO} {d : Addr} {mo mo' : MO} {o : HO} (h : OwnOk H (q0 :: (d, mo) :: M)) (ho : mo'.ok (upd H d o) (hid (q0 :: (d, mo) :: M) H) d) : OwnOk (upd H d o) (q0 :: (d, mo') :: M) ∧ hid (q0 :: (d, mo') :: M) (upd H d o) = hid (q0 :: (d, mo) :: M) H := by
  obtain ⟨o1, e1⟩ := h.perm2
  rw [← e1] at ho
  obtain ⟨o2, e2⟩ := o1.put ho
  obtain ⟨o3, e3⟩ := o2.perm2
  exact ⟨o3, e3.trans (e2.trans e1)⟩
theorem sd_forD {d : Addr} {q0 : Addr × MO} {kvs : List (List Int × Int)} {g : TG} {bs : List Int × Int → List (Nat × PyData)} {apos cpos : Pos} {elts : List Expr} {kk : Nat} (I : Nat → List Sl → Addr × MO → Prop)
    (hd : ∀ o, ED X Γ (q0 :: (d, .frz o kvs) :: M) e (.at (.ref d)) (q0 :: (d, .frz o kvs) :: M)) (hg : PG X (.Tuple elts kk tpos) g) (htg : ∀ b ∈ kvs, TgOk g (encKV b) (bs b)) (h0 : I 0 Γ q0) (hne : ∀ i Γ' q', I i Γ' q' → ∀ o k, q'.2 ≠ .frz o k) (hne0 : ∀ o k, q0.2 ≠ .frz o k)
    (hstep : ∀ o i b Γ' q', kvs[i]? = some b → I i Γ' q' → SD X (sets Γ' (datS (bs b))) (q' :: (d, .frz o kvs) :: M) body ⟨fun Γ2 M2 => ∃ q2, M2 = q2 :: (d, .frz o kvs) :: M ∧ I (i + 1) Γ2 q2, fun _ _ => False⟩)
    (hk : ∀ Γ' q', I kvs.length Γ' q' → SD X Γ' (q' :: (d, .dct kvs) :: M) rest P)
    (hp : PassesOwn (model X.prog X.w) X.A X.env X.xe := by exact PassesOwn.never) (hc : X.calm = true := by rfl) (hs : ∀ x, foldedSetIterable (.Call (.Attribute e "items" apos) [] [] cpos) X.env x = pure x := by intro _; rfl)
    (hbase : attributeBase e "items" X.env (eval e X.env) = eval e X.env := by rfl) (hline : (apos.endLine == cpos.line) = true := by rfl) :
    SD X Γ (q0 :: (d, .dct kvs) :: M) (.For (.Tuple elts kk tpos) (.Call (.Attribute e "items" apos) [] [] cpos) body [] pos :: rest) P := fun σ H D k n t => by
  refine PSs_w (pss_cons (ps_lock (ps_for hp hc pi_w hg pss_w hs)) pss_w) ?_
  have hdt : H d = some (.dT (kvT kvs)) := k.own.ok (d, .dct kvs) (List.mem_cons_of_mem _ List.mem_cons_self)
  refine ⟨d, _, hdt, trivial, fun od => ?_⟩
  obtain ⟨oL, eL⟩ := k.own.put2 (o := .frz od (.dT (kvT kvs))) (mo' := .frz od kvs) upd_same
  have gL : Gw (hid (q0 :: (d, .dct kvs) :: M) H) (hid (q0 :: (d, .frz od kvs) :: M) (upd H d (.frz od (.dT (kvT kvs))))) := by
    rw [eL]
    exact Gw.refl _
  have kL := k.to gL oL
  have hmem : ∀ q' : Addr × MO, (d, MO.frz od kvs) ∈ q' :: (d, .frz od kvs) :: M := fun q' => List.mem_cons_of_mem _ List.mem_cons_self
  have kp : ∀ q' : Addr × MO, Kp (q0 :: (d, .frz od kvs) :: M) (q' :: (d, .frz od kvs) :: M) := fun q' a o kv h => by
    rcases List.mem_cons.mp h with z | z
    · exact absurd (by rw [← z]) (hne0 o kv)
    · exact List.mem_cons_of_mem _ z
  refine src_items (hd od) (hmem _) hbase hline σ _ _ kL fun J H1 g1 o1 w => ?_
  have wl := w.walk
  rw [List.length_map] at wl
  refine for_it wl (fun i σ' Hi => ∃ Γ' q', I i Γ' q' ∧ Kn (q' :: (d, .frz od kvs) :: M) Γ' σ' Hi ∧ Gw (hid (q0 :: (d, .frz od kvs) :: M) H1) (hid (q' :: (d, .frz od kvs) :: M) Hi)) ⟨Γ, q0, h0, kL.to g1 o1, Gw.refl _⟩ (fun i σ' Hi _ ⟨Γ', q', hI, kn, gg⟩ => ⟨_, gg, kn.own, kp q'⟩) (fun i v σ' Hi Hi' hlt ⟨Γ', q', hI, kn, gg⟩ y => ?_) fun σ' Hn ⟨Γ', q', hI, kn, gg⟩ => ?_
  · obtain ⟨b, hb⟩ : ∃ b, kvs[i]? = some b := ⟨kvs[i], List.getElem?_eq_getElem hlt⟩
    obtain ⟨g2, o2, hx⟩ := w.yld i (encKV b) v Hi Hi' _ (by rw [List.getElem?_map, hb]; rfl) gg kn.own (kp q') y
    refine htg b (List.mem_of_getElem? hb) v σ' Hi' _ _ hx fun vs hvs => ?_
    refine hstep od i b Γ' q' hb hI _ Hi' _ ⟨o2, (kn.env.mono g2).sets hvs⟩ (fun Γ2 M2 σ2 H2 hI2 g3 kn2 => ?_) fun r M2 v2 H2 p2 => False.elim p2
    obtain ⟨q2, e, hI2⟩ := hI2
    subst e
    exact ⟨Γ2, q2, hI2, kn2, (gg.trans g2).trans g3⟩
  · have hfz : Hn d = some (.frz od (.dT (kvT kvs))) := kn.own.ok _ (hmem _)
    refine ⟨hfz, ?_⟩
    obtain ⟨oU, eU⟩ := kn.own.put2 (o := .dT (kvT kvs)) (mo' := .dct kvs) upd_same
    have gU : Gw (hid (q' :: (d, .frz od kvs) :: M) Hn) (hid (q' :: (d, .dct kvs) :: M) (upd Hn d (.dT (kvT kvs)))) := by
      rw [eU]
      exact Gw.refl _
    have ga := ((gL.trans g1).trans gg).trans gU
    exact hk Γ' q' hI σ' _ D (kn.to gU oU) (fun Γ2 M2 σ2 H2 p2 g3 => n Γ2 M2 σ2 H2 p2 (ga.trans g3)) fun r M2 v2 H2 p2 g3 => t r M2 v2 H2 p2 (ga.trans g3)
/-- the second owned one given up -/
theorem sd_drop2 {p q : Addr × MO} (hk : SD X Γ (p :: M) rest P) : SD X Γ (p :: q :: M) rest P := fun σ H D k n t => by
  obtain ⟨o2, g2⟩ := k.own.drop2
  exact hk σ H D (k.to g2 o2) (fun Γ' M' σ' H' p g => n Γ' M' σ' H' p (g2.trans g)) fun r M' v H' p g => t r M' v H' p (g2.trans g)
end
/-! ### f(k = v, ..) -/
def tCallK (m : Nat) (sp : Sp) (gV : List V → List V → List V) (E : XK) (tk : TA) : TE := fun σ H Q => tk σ H fun zs H2 => zs.length = m ∧ sp (gV [] zs) H2 Q E
theorem pe_callK {X : Cx} {k : Nat} {f : Addr} {fd : FuncData} {ps ks : List Str} {sp : Sp} {E : XK} {x : Str} {p pos : Pos} {kws : List Keyword} {tk : TA} {g : List Value → List Value → List Value} {gV : List V → List V → List V} {CX : CXT} (F : FnOk X.prog X.w X.K X.mg X.base CX k f fd ps sp) (hr : Room k X.A) (hg : Gl X x) (hm : X.mg x = some (.ref f)) (hk : PySem.W.keepIn X.K (.ref f) = true) (hb : KBn X.K fd ps 0 ks g gV) (hx : Passes CX X E)
    (hkw : PK X kws tk) (hall : (backToKw pos (keywordEach kws X.env)).all (·.1.isSome) = true := by rfl) (hks : (backToKw pos (keywordEach kws X.env)).filterMap (·.1) = ks := by rfl)
    (hdb : (x == ("__debug__" : Str)) = false := by decide)
    (hpl : ((backTo pos (starEach [] X.env)).any (·.1) || (backToKw pos (keywordEach kws X.env)).any (·.1.isNone)) = false := by rfl) :
    PE X (.Call (.Name x p) [] kws pos) (tCallK ks.length sp gV E tk) := by
  refine ⟨fun pins s σ H Q I h => ?_⟩
  refine wpAny_Call_Name_kw (ld_glob I hg hm ?_ hdb)
  refine PySem.W.callWith_KW0 (h₀ := X.base) I.ok.mod.kin hk hall (thn (hkw.run pos pins s σ H _ I h) fun ws s2 ⟨zs, H2, I2, rz, l2, q2⟩ => ⟨I2.kIn, ?_⟩) hpl
  rw [hks]
  exact run_fnN F hr hb hx I2 .nil rz rfl l2 q2
end Wm
set_option Elab.async false
set_option linter.all false
set_option maxRecDepth 100000
set_option maxHeartbeats 4000000
namespace Wm
open PySem PySem.Spec PyProof.Rows L2
section
variable {X : Cx} {Γ : List Sl} {M M1 M2 : Own} {e : Expr} {b b' : Bool}
theorem et_nT (h : ET X Γ M e true M1) {pos : Pos} : ET X Γ M (.UnaryOp .Not e pos) false M1 := et_not h
theorem et_nF (h : ET X Γ M e false M1) {pos : Pos} : ET X Γ M (.UnaryOp .Not e pos) true M1 := et_not h
theorem et_is (h : ET X Γ M e b M1) (q : b = b') : ET X Γ M e b' M1 := q ▸ h
end
theorem Cal.mono {P : Program} {w : World} {K : Fg} {mg : Str → Option Value} {base : Heap} {j k : Nat} {x : Str} {ps : List Str} {R : RS} (C : Cal P w K mg base j x ps R) (h : j ≤ k) : Cal P w K mg base k x ps R := by
  obtain ⟨f, fd, F, r⟩ := C.ex
  exact ⟨⟨f, fd, F.mono h, r⟩⟩
theorem pgn {X : Cx} {x : Str} {pos : Pos} (i : Nat) (hN : X.N.Nodup) (hi : X.N[i]? = some x := by rfl) (hx : Loc X.env.scope x := by first | exact Or.inl rfl | exact Or.inr rfl) (hf : X.fn x = true ∨ X.env.scope.names.lookup x = some .local := by first | exact .inl rfl | exact .inr rfl) : PG X (.Name x pos) (gName i) := pg_name hN hi hx hf
def nthI (ns : List Int) (i : Int) : Int := ns.getD i.toNat 0
theorem at_dI {ns : List Int} {i : Int} (h0 : 0 ≤ i) (h1 : i < ns.length) : atI (dI ns) i = some (.int (nthI ns i)) := by
  have e0 : ((i.toNat : Nat) : Int) = i := by omega
  rw [← e0]
  refine atI_nat ?_
  unfold dI nthI
  rw [List.getElem?_map, e0, List.getD_eq_getElem?_getD, List.getElem?_eq_getElem (by omega)]
  rfl
theorem dI_len (ns : List Int) : (dI ns).length = ns.length := by
  unfold dI
  rw [List.length_map]
section
variable {P : Program} {w : World} {K : Fg} {mg : Str → Option Value} {base : Heap} {f : Addr} {fd : FuncData}
theorem len1 {R : List PyData → PyData → Prop} {n : Nat} (h : ∀ ds d, R ds d → ds.length = n) : ∀ rs M r M', pureR R rs M r M' → rs.length = n := fun rs M r M' ⟨ds, d, e, _, _, q⟩ => by
  rw [e, List.length_map]
  exact h ds d q
abbrev PS_num : List Str := ["value", "low", "high"]
abbrev PS_vm : List Str := ["value", "most"]
/-! ### is_number -/
theorem sc_is_number : FnScope PS_num PS_num (defScope s_is_number) := ⟨rfl, rfl, rfl, by decide +kernel, rfl, by decide +kernel, by decide +kernel⟩
def Ris_number : RS := pureR fun ds d => ∃ v l h : Int, ds = [.int v, .int l, .int h] ∧ d = .bool (decide (l ≤ v) && decide (v ≤ h))
theorem ok_is_number (B : Bl mg) (F : FnP K "is_number" s_is_number f fd) : FnOk P w K mg base CX0 1 f fd PS_num (spF 3 Ris_number) := by
  refine fn_sd F sc_is_number (len1 fun ds d ⟨v, l, h, e, _⟩ => by rw [e]; rfl) fun cdv A outer s H E hr rs M r M' hR => ?_
  obtain ⟨ds, d, rfl, rfl, rfl, v, l, h, rfl, rfl⟩ := hR
  refine sd_ret (r := .b (decide (l ≤ v) && decide (v ≤ h))) (ed_is (ed_and (ed_isInt B.isinstance_ B.int_ (ed_var 0)) fun _ => ed_and (ed_notV (ed_isBool B.isinstance_ B.bool_ (ed_var 0))) fun _ => ed_and1 (ed_chainLe (ed_var 1) (ed_var 0) (ed_var 2))) ?_) fin0
  rw [Bool.true_and, Bool.not_false, Bool.true_and]
/-! ### is_shape -/
def inR (l h : Int) (n : Int) : Bool := decide (l ≤ n) && decide (n ≤ h)
def dnP (ns : List Int) (i : Int) : Bool := decide (nthI ns (i + 1) ≤ nthI ns i)
def okShape (m : Int) (ns : List Int) : Bool := decide ((ns.length : Int) ≤ m) && (ns.all (inR 1 m) && (decide (ns.sum ≤ m) && (rg 0 ((ns.length : Int) - 1).toNat).all (dnP ns)))
abbrev N_is_shape : List Str := ["value", "most", "part", "place"]
theorem sc_is_shape : FnScope N_is_shape PS_vm (defScope s_is_shape) := ⟨rfl, rfl, rfl, by decide +kernel, rfl, by decide +kernel, by decide +kernel⟩
def Ris_shape : RS := pureR fun ds d => ∃ (ns : List Int) (m : Int), ns.length ≤ 1000 ∧ okShape m ns = true ∧ ds = [tI ns, .int m] ∧ d = .bool true
theorem map_dB {α : Type} (l : List α) (q : α → Bool) : l.map (fun n => PyData.bool (q n)) = dB (l.map q) := by
  unfold dB
  rw [List.map_map]
  rfl
theorem ok_is_shape (B : Bl mg) (C1 : Cal P w K mg base 1 "is_number" PS_num Ris_number) (F : FnP K "is_shape" s_is_shape f fd) : FnOk P w K mg base CX0 2 f fd PS_vm (spF 2 Ris_shape) := by
  refine fn_sd F sc_is_shape (len1 fun ds d ⟨v, l, _, _, e, _⟩ => by rw [e]; rfl) fun cdv A outer s H E hr rs M r M' hR => ?_
  obtain ⟨ds, d, rfl, rfl, rfl, ns, m, hz, ho, rfl, rfl⟩ := hR
  obtain ⟨h1, ho⟩ := Bool.and_eq_true_iff.mp ho
  obtain ⟨h2, ho⟩ := Bool.and_eq_true_iff.mp ho
  obtain ⟨h3, h4⟩ := Bool.and_eq_true_iff.mp ho
  have h1 := of_decide_eq_true h1
  refine sd_if0 (et_w (ew_orF (et_not (et_val (ed_isTup B.isinstance_ B.tuple_ (ed_var 0)))) (ew_orF (et_is (et_gt (ed_lenT B.len_ (ed_var 0)) (ed_var 1)) (by rw [dI_len]; exact decide_eq_false (by omega))) (ew_or1 (et_is (et_not (et_val (ed_allL B.all_ (ed_is (ed_lc (L := ns) (enc := .int) (bs := fun n => [(2, .int n)]) (f := fun n => .bool (inR 1 m n)) [("part", 2)] (src_tup (ed_var 0)) (fun _ _ _ _ _ => pg_name (i := 2) sc_is_shape.nd rfl (Or.inl rfl)) (fun _ _ => tg_name) (fun _ _ p hp => by simp at hp; simp [hp])
      (fun n _ M2 _ _ _ _ _ => ed_call C1 hr (ea_cons (ed_var 2) (ea_cons ed_int (ea_cons (ed_var 1) ea_nil))) ⟨_, _, rfl, rfl, rfl, n, 1, m, rfl, rfl⟩) (by omega) sc_is_shape.nd (blkOk_by (N := N_is_shape) (sc := defScope s_is_shape) (by decide +kernel))) (by rw [map_dB]))))) (by rw [List.all_map]; show (!(ns.all (inR 1 m))) = false; rw [h2]; rfl)))))) ?_
  refine sd_ret (r := .b true) (ed_is (ed_and (p := decide (ns.sum ≤ m)) (q := ((rg 0 ((ns.length : Int) - 1).toNat).map (dnP ns)).all id) (ed_le (ed_sumT B.sum_ (ed_var 0)) (ed_var 1)) fun _ => ed_and1 (ed_allL B.all_ (ed_is (ed_lc (L := rg 0 ((ns.length : Int) - 1).toNat) (enc := .int) (bs := fun n => [(3, .int n)]) (f := fun n => .bool (dnP ns n)) [("place", 3)]
    (src_is (src_range1 B.range_ (ed_sub (ed_lenT B.len_ (ed_var 0)) ed_int) (by rw [dI_len]; omega) (by rw [dI_len]; omega)) (by rw [dI_len]; rfl)) (fun _ _ _ _ _ => pg_name (i := 3) sc_is_shape.nd rfl (Or.inl rfl)) (fun _ _ => tg_name) (fun _ _ p hp => by simp at hp; simp [hp])
    (fun n hn M2 _ _ _ _ _ => ?_) (by rw [rg_len]; omega) sc_is_shape.nd (blkOk_by (N := N_is_shape) (sc := defScope s_is_shape) (by decide +kernel))) (by rw [map_dB])))) (by rw [h3, List.all_map]; show Sl.b (true && (rg 0 _).all (dnP ns)) = .b true; rw [h4]; rfl)) fin0
  have hb : 0 ≤ n ∧ n + 1 < ns.length := by
    obtain ⟨i, hi, rfl⟩ := List.mem_map.mp hn
    have := List.mem_range.mp hi
    omega
  exact ed_ge (ed_ixT (at_dI hb.1 (by omega)) (ed_var 0) (ed_var 3)) (ed_ixT (at_dI (by omega) hb.2) (ed_var 0) (ed_add (ed_var 3) ed_int))
/-! ### check_shape -/
theorem sc_check_shape : FnScope PS_vm PS_vm (defScope s_check_shape) := ⟨rfl, rfl, rfl, by decide +kernel, rfl, by decide +kernel, by decide +kernel⟩
def Rcheck_shape : RS := pureR fun ds d => ∃ (ns : List Int) (m : Int), ns.length ≤ 1000 ∧ okShape m ns = true ∧ ds = [tI ns, .int m] ∧ d = .none
theorem ok_check_shape (B : Bl mg) (C1 : Cal P w K mg base 2 "is_shape" PS_vm Ris_shape) (F : FnP K "check_shape" s_check_shape f fd) : FnOk P w K mg base CX0 3 f fd PS_vm (spF 2 Rcheck_shape) := by
  refine fn_sd F sc_check_shape (len1 fun ds d ⟨v, l, _, _, e, _⟩ => by rw [e]; rfl) fun cdv A outer s H E hr rs M r M' hR => ?_
  obtain ⟨ds, d, rfl, rfl, rfl, ns, m, hz, ho, rfl, rfl⟩ := hR
  exact sd_if0 (et_nT (et_val (ed_call C1 hr (ea_cons (ed_var 0) (ea_cons (ed_var 1) ea_nil)) ⟨_, _, rfl, rfl, rfl, ns, m, hz, ho, rfl, rfl⟩))) (sd_nil fin0)
end
end Wm
set_option Elab.async false
set_option linter.all false
set_option maxRecDepth 100000
set_option maxHeartbeats 4000000
namespace Wm
open PySem PySem.Spec PyProof.Rows L2
section
variable {X : Cx} {Γ : List Sl} {M M1 : Own} {a e : Expr} {rest : List Stmt} {pos : Pos} {P : Post}
theorem sd_append {l : Addr} {ds : List PyData} {d : PyData} {apos cpos : Pos} (ho : ED X Γ ((l, MO.lst ds) :: M) a (.at (.ref l)) ((l, MO.lst ds) :: M)) (he : ED X Γ ((l, MO.lst ds) :: M) e (.dat d) ((l, MO.lst ds) :: M1)) (hl : ds.length < 100000) (hk : SD X Γ ((l, MO.lst (ds ++ [d])) :: M1) rest P)
    (hbase : attributeBase a "append" X.env (eval a X.env) = eval a X.env := by rfl)
    (hfew : ((backTo cpos (starEach (e :: []) X.env)).all (fun x => !x.1) && (backToKw cpos (keywordEach [] X.env)).all (fun x => x.1.isSome)
      && decide ((e :: []).length + ([] : List Keyword).length + (if ([] : List Keyword).isEmpty then 0 else 1) < 30)) = true := by rfl)
    (hline : (apos.endLine == cpos.line) = true := by rfl) (hs : starEach [e] X.env = [(false, eval e X.env)] := by rfl) (hplain : (backTo cpos (starEach [] X.env)).any (·.1) = false := by rfl) :
    SD X Γ ((l, MO.lst ds) :: M) (.Expr (.Call (.Attribute a "append" apos) [e] [] cpos) pos :: rest) P :=
  sd_app ho he hl hk hs (h1 := pe_bm F.plainAttrs_list F.slot_list_append F.type_list_append mt_append pe_w (pa_cons pe_w pa_nil hs) hbase hfew hline hs hplain)
end
theorem ed_ifS {X : Cx} {Γ : List Sl} {M : Own} {a b c : Expr} {r : Sl} {pos : Pos} {p : Bool} (ht : ET X Γ M c p M) (h1 : p = true → ED X Γ M a r M) (h2 : p = false → ED X Γ M b r M) : ED X Γ M (.IfExp c a b pos) r M := ed_if ht h1 h2
theorem kp_head {a b : Addr} {x y : List PyData} {M : Own} : Kp ((a, MO.lst x) :: M) ((b, MO.lst y) :: M) := fun c o k h => by
  rcases List.mem_cons.mp h with z | z
  · cases z
  · exact List.mem_cons_of_mem _ z
theorem cut_from {ns : List Int} {i : Int} (h : 0 ≤ i) : cutD (dI ns) (some i) none = dI (ns.drop i.toNat) := by
  have e0 : ((i.toNat : Nat) : Int) = i := by omega
  unfold cutD
  rw [← e0, HT.sIx_nat, HT.sIx_none, dI_len, Int.toNat_natCast]
  unfold dI
  rw [← List.map_drop, ← List.map_take]
  congr 1
  by_cases h2 : i.toNat ≤ ns.length
  · rw [Nat.min_eq_left h2, List.take_of_length_le (by rw [List.length_drop]; omega)]
  · rw [Nat.min_eq_right (by omega), List.drop_length, List.drop_of_length_le (by omega)]
    rw [List.take_nil]
theorem rg_at {lo : Int} {n i : Nat} {b : Int} (h : (rg lo n)[i]? = some b) : i < n ∧ b = lo + i := by
  rw [rg_get] at h
  by_cases h2 : i < n
  · rw [if_pos h2] at h
    cases h
    exact ⟨h2, rfl⟩
  · rw [if_neg h2] at h
    cases h
theorem foldl_take {α β : Type} (f : β → α → β) (z : β) {L : List α} {i : Nat} {b : α} (h : L[i]? = some b) : (L.take (i + 1)).foldl f z = f ((L.take i).foldl f z) b := by
  rw [List.take_add_one, h, List.foldl_append]
  rfl
/-- the items of a pair loop -/
def enc2 (p : Int × Int) : PyData := .tuple [.int p.1, .int p.2]
def enI (ns : List Int) : List (Int × Int) := (rg 0 ns.length).zip ns
theorem enr_dI (ns : List Int) : enr (dI ns) = (enI ns).map enc2 := by
  unfold enr prs dI enI enc2
  rw [List.length_map, List.zip_map, List.map_map]
  rfl
theorem enI_at {ns : List Int} {i : Nat} {b : Int × Int} (h : (enI ns)[i]? = some b) : i < ns.length ∧ b = ((i : Int), nthI ns i) := by
  unfold enI at h
  obtain ⟨h1, h2⟩ := List.getElem?_zip_eq_some.mp h
  obtain ⟨h3, h4⟩ := rg_at h1
  refine ⟨h3, Prod.ext (by rw [h4]; simp) ?_⟩
  show b.2 = ns.getD _ 0
  rw [Int.toNat_natCast, List.getD_eq_getElem?_getD, h2]
  rfl
theorem enI_len (ns : List Int) : (enI ns).length = ns.length := by
  unfold enI
  rw [List.length_zip, rg_len, Nat.min_self]
section
variable {P : Program} {w : World} {K : Fg} {mg : Str → Option Value} {base : Heap} {f : Addr} {fd : FuncData}
/-! ### sums_along -/
abbrev N_sums_along : List Str := ["shape", "many", "found", "whole", "row"]
theorem sc_sums_along : FnScope N_sums_along ["shape", "many"] (defScope s_sums_along) := ⟨rfl, rfl, rfl, by decide +kernel, rfl, by decide +kernel, by decide +kernel⟩
def psum (ns : List Int) (i : Nat) : Int := (ns.take i).sum
def mSums (ns : List Int) (k : Nat) : List Int := (List.range k).map fun i => psum ns (i + 1)
theorem psum_succ (ns : List Int) (i : Nat) : psum ns (i + 1) = psum ns i + (if i < ns.length then nthI ns i else 0) := by
  unfold psum nthI
  rw [List.take_add_one, List.sum_append, Int.toNat_natCast, List.getD_eq_getElem?_getD]
  by_cases h : i < ns.length
  · rw [List.getElem?_eq_getElem h, if_pos h]
    simp
  · rw [List.getElem?_eq_none (by omega), if_neg h]
    simp
theorem mSums_succ (ns : List Int) (k : Nat) : mSums ns (k + 1) = mSums ns k ++ [psum ns (k + 1)] := by
  unfold mSums
  rw [List.range_succ, List.map_append]
  rfl
theorem dI_app (a b : List Int) : dI (a ++ b) = dI a ++ dI b := by
  unfold dI
  rw [List.map_append]
theorem mSums_len (ns : List Int) (k : Nat) : (mSums ns k).length = k := by
  unfold mSums
  simp
def Rsums_along : RS := pureR fun ds d => ∃ (ns : List Int) (k : Nat), ns.length ≤ 1000 ∧ k ≤ 1000 ∧ ds = [tI ns, .int k] ∧ d = .list (dI (mSums ns k))
theorem ok_sums_along (B : Bl mg) (F : FnP K "sums_along" s_sums_along f fd) : FnOk P w K mg base CX0 1 f fd ["shape", "many"] (spF 2 Rsums_along) := by
  refine fn_sd F sc_sums_along (len1 fun ds d ⟨v, l, _, _, e, _⟩ => by rw [e]; rfl) fun cdv A outer s H E hr rs M r M' hR => ?_
  obtain ⟨ds, d, rfl, rfl, rfl, ns, k, hz, hk, rfl, rfl⟩ := hR
  refine sd_new (i := 2) (ds := []) ea_nil (by decide) (fun l => ?_) sc_sums_along.nd
  refine sd_set (i := 3) (r := .i 0) ed_int ?_ sc_sums_along.nd
  refine sd_for (L := rg 0 k) (enc := .int) (bs := fun b => [(4, .int b)]) (fun i Γ N => ∃ l r, Γ = [.t ns, .i k, .at (.ref l), .i (psum ns i), r] ∧ N = (l, .lst (dI (mSums ns i))) :: M') (src_is (src_range1 B.range_ (ed_var 1) (by omega) (by omega)) (by rw [Int.toNat_natCast]; rfl)) (pgn 4 sc_sums_along.nd) (fun _ _ => tg_name)
    ⟨l, .no, rfl, rfl⟩ (fun i Γ N ⟨_, _, _, e⟩ => by rw [e]; exact kp_head) (fun i b Γ N hb ⟨l', r', e1, e2⟩ => ?_) fun Γ N ⟨l', r', e1, e2⟩ => ?_
  · subst e1 e2
    obtain ⟨h1, h2⟩ := rg_at hb
    have h2 : b = (i : Int) := by omega
    subst h2
    refine sd_set (i := 3) (r := .i (psum ns (i + 1))) (ed_is (ed_add (ed_var 3) (ed_ifS (r := .i (if i < ns.length then nthI ns i else 0)) (et_lt (ed_var 4) (ed_lenT B.len_ (ed_var 0))) (fun h => ?_) (fun h => ?_))) (by rw [← psum_succ])) ?_ sc_sums_along.nd
    · rw [dI_len] at h
      have h := of_decide_eq_true h
      rw [if_pos (by omega)]
      exact ed_ixT (at_dI (by omega) h) (ed_var 0) (ed_var 4)
    · rw [dI_len] at h
      have h := of_decide_eq_false h
      rw [if_neg (by omega)]
      exact ed_int
    · refine sd_append (ed_var 2) (ed_var 3) (by rw [dI_len, mSums_len]; omega) (sd_nil ⟨l', .i (i : Int), rfl, ?_⟩)
      rw [mSums_succ, dI_app]
      rfl
  · subst e1 e2
    rw [rg_len]
    exact sd_ret (ed_var 2) fin1
/-! ### lighter_at -/
abbrev N_lighter_at : List Str := ["shape", "other", "many", "own", "place", "whole"]
abbrev PS_so : List Str := ["shape", "other"]
theorem sc_lighter_at : FnScope N_lighter_at PS_so (defScope s_lighter_at) := ⟨rfl, rfl, rfl, by decide +kernel, rfl, by decide +kernel, by decide +kernel⟩
def mMany (a b : List Int) : Nat := max a.length b.length
def mLess (a b : List Int) (i : Nat) : Bool := decide (psum a (i + 1) < psum b (i + 1))
def mLight (a b : List Int) : PyData := match (List.range (mMany a b)).find? (mLess a b) with
  | some j => .int ((j : Int) + 1)
  | none => .none
def Rlighter_at : RS := pureR fun ds d => ∃ (a b : List Int), a.length ≤ 1000 ∧ b.length ≤ 1000 ∧ ds = [tI a, tI b] ∧ d = mLight a b
theorem find_first {q : Nat → Bool} {n i : Nat} (h : i < n) (h1 : ∀ j < i, q j = false) (h2 : q i = true) : (List.range n).find? q = some i := by
  rw [List.find?_range_eq_some]
  exact ⟨h2, by simpa using h, fun j hj => by rw [h1 j hj]; rfl⟩
theorem find_none {q : Nat → Bool} {n : Nat} (h1 : ∀ j < n, q j = false) : (List.range n).find? q = none := by
  rw [List.find?_eq_none]
  intro x hx
  rw [h1 x (List.mem_range.mp hx)]
  exact Bool.false_ne_true
theorem nth_sums {ns : List Int} {k i : Nat} (h : i < k) : nthI (mSums ns k) (i : Int) = psum ns (i + 1) := by
  unfold nthI mSums
  rw [Int.toNat_natCast, List.getD_eq_getElem?_getD, List.getElem?_map, List.getElem?_range h]
  rfl
theorem ok_lighter_at (B : Bl mg) (C1 : Cal P w K mg base 1 "sums_along" ["shape", "many"] Rsums_along) (F : FnP K "lighter_at" s_lighter_at f fd) : FnOk P w K mg base CX0 2 f fd PS_so (spF 2 Rlighter_at) := by
  refine fn_sd F sc_lighter_at (len1 fun ds d ⟨v, l, _, _, e, _⟩ => by rw [e]; rfl) fun cdv A outer s H E hr rs M r M' hR => ?_
  obtain ⟨ds, d, rfl, rfl, rfl, a, b, hz1, hz2, rfl, rfl⟩ := hR
  have hm : max ((dI a).length : Int) ((dI b).length : Int) = ((mMany a b : Nat) : Int) := by
    rw [dI_len, dI_len]
    unfold mMany
    omega
  have hm2 : mMany a b ≤ 1000 := by unfold mMany; omega
  refine sd_set (i := 2) (r := .i (mMany a b : Nat)) (ed_is (ed_max2 B.max_ (ea_cons (ed_lenT B.len_ (ed_var 0)) (ea_cons (ed_lenT B.len_ (ed_var 1)) ea_nil))) (by rw [hm])) ?_ sc_lighter_at.nd
  refine sd_set (i := 3) (ed_call C1 hr (ea_cons (ed_var 0) (ea_cons (ed_var 2) ea_nil)) ⟨[tI a, .int (mMany a b : Nat)], _, rfl, rfl, rfl, a, mMany a b, hz1, hm2, rfl, rfl⟩) ?_ sc_lighter_at.nd
  refine sd_for (L := enI (mSums b (mMany a b))) (enc := enc2) (bs := fun p => [(4, .int p.1), (5, .int p.2)]) (fun i Γ N => ∃ r r2, Γ = [.t a, .t b, .i (mMany a b : Nat), .dat (.list (dI (mSums a (mMany a b)))), r, r2] ∧ N = M' ∧ ∀ j < i, mLess a b j = false)
    (src_is (src_enumL B.enumerate_ (ed_call C1 hr (ea_cons (ed_var 1) (ea_cons (ed_var 2) ea_nil)) ⟨[tI b, .int (mMany a b : Nat)], .list (dI (mSums b (mMany a b))), rfl, rfl, rfl, b, mMany a b, hz2, hm2, rfl, rfl⟩)) (enr_dI _))
    (pg_tup rfl (pgs_cons (pgn 4 sc_lighter_at.nd) (pgs_cons (pgn 5 sc_lighter_at.nd) pgs_nil))) (fun _ _ => tg_pair)
    ⟨.no, .no, rfl, rfl, fun j hj => absurd hj (Nat.not_lt_zero _)⟩ (fun i Γ N ⟨_, _, _, e, _⟩ => by rw [e]; exact Kp.refl _) (fun i p Γ N hb ⟨r1, r2, e1, e2, hj⟩ => ?_) fun Γ N ⟨r1, r2, e1, e2, hj⟩ => ?_
  · subst e1 e2
    obtain ⟨h1, h2⟩ := enI_at hb
    rw [mSums_len] at h1
    subst h2
    rw [nth_sums h1]
    refine sd_if (q := mLess a b i) (et_is (et_lt (i := psum a (i + 1)) (j := psum b (i + 1)) (ed_is (ed_ixL (at_dI (ns := mSums a (mMany a b)) (i := (i : Int)) (by omega) (by rw [mSums_len]; omega)) (ed_var 3) (ed_var 4)) (by rw [nth_sums h1])) (ed_var 5)) rfl) (fun hq => ?_) fun hq => ?_
    · refine sd_ret (r := .i ((i : Int) + 1)) (ed_add (ed_var 4) ed_int) ?_
      have : mLight a b = .int ((i : Int) + 1) := by
        unfold mLight
        rw [find_first h1 hj hq]
      rw [this]
      exact fin0
    · refine sd_nil (sd_nil ⟨_, _, rfl, rfl, fun j hji => ?_⟩)
      by_cases e : j = i
      · rw [e]
        exact hq
      · exact hj j (by omega)
  · subst e1 e2
    rw [enI_len, mSums_len] at hj
    refine sd_ret (r := .dat .none) ed_non ?_
    have : mLight a b = .none := by
      unfold mLight
      rw [find_none hj]
    rw [this]
    exact fin0
end
end Wm
set_option Elab.async false
set_option linter.all false
set_option maxRecDepth 100000
set_option maxHeartbeats 4000000
namespace Wm
open PySem PySem.Spec PyProof.Rows L2
section
variable {P : Program} {w : World} {K : Fg} {mg : Str → Option Value} {base : Heap} {f : Addr} {fd : FuncData}
/-! ### check_sizes, heavier -/
theorem sc_check_sizes : FnScope PS_so PS_so (defScope s_check_sizes) := ⟨rfl, rfl, rfl, by decide +kernel, rfl, by decide +kernel, by decide +kernel⟩
def Rcheck_sizes : RS := pureR fun ds d => ∃ (a b : List Int), a.length ≤ 1000 ∧ b.length ≤ 1000 ∧ okShape 40 a = true ∧ okShape 40 b = true ∧ a.sum = b.sum ∧ ds = [tI a, tI b] ∧ d = .none
theorem ok_check_sizes (B : Bl mg) (C1 : Cal P w K mg base 3 "check_shape" PS_vm Rcheck_shape) (F : FnP K "check_sizes" s_check_sizes f fd) : FnOk P w K mg base CX0 4 f fd PS_so (spF 2 Rcheck_sizes) := by
  refine fn_sd F sc_check_sizes (len1 fun ds d ⟨v, l, _, _, _, _, _, e, _⟩ => by rw [e]; rfl) fun cdv A outer s H E hr rs M r M' hR => ?_
  obtain ⟨ds, d, rfl, rfl, rfl, a, b, hz1, hz2, h1, h2, h3, rfl, rfl⟩ := hR
  refine sd_expr (ed_call C1 hr (ea_cons (ed_var 0) (ea_cons (ed_globI B.mBoxes) ea_nil)) ⟨[tI a, .int 40], .none, rfl, rfl, rfl, a, 40, hz1, h1, rfl, rfl⟩) ?_
  refine sd_expr (ed_call C1 hr (ea_cons (ed_var 1) (ea_cons (ed_globI B.mBoxes) ea_nil)) ⟨[tI b, .int 40], .none, rfl, rfl, rfl, b, 40, hz2, h2, rfl, rfl⟩) ?_
  exact sd_if0 (et_is (et_neI (ed_sumT B.sum_ (ed_var 0)) (ed_sumT B.sum_ (ed_var 1))) (by rw [decide_eq_true h3]; rfl)) (sd_nil fin0)
theorem sc_heavier : FnScope PS_so PS_so (defScope s_heavier) := ⟨rfl, rfl, rfl, by decide +kernel, rfl, by decide +kernel, by decide +kernel⟩
def Rheavier : RS := pureR fun ds d => ∃ (a b : List Int), a.length ≤ 1000 ∧ b.length ≤ 1000 ∧ okShape 40 a = true ∧ okShape 40 b = true ∧ a.sum = b.sum ∧ ds = [tI a, tI b] ∧ d = .bool (isNonD (mLight a b))
theorem ok_heavier (B : Bl mg) (C1 : Cal P w K mg base 4 "check_sizes" PS_so Rcheck_sizes) (C2 : Cal P w K mg base 2 "lighter_at" PS_so Rlighter_at) (F : FnP K "heavier" s_heavier f fd) : FnOk P w K mg base CX0 5 f fd PS_so (spF 2 Rheavier) := by
  refine fn_sd F sc_heavier (len1 fun ds d ⟨v, l, _, _, _, _, _, e, _⟩ => by rw [e]; rfl) fun cdv A outer s H E hr rs M r M' hR => ?_
  obtain ⟨ds, d, rfl, rfl, rfl, a, b, hz1, hz2, h1, h2, h3, rfl, rfl⟩ := hR
  refine sd_expr (ed_call C1 hr (ea_cons (ed_var 0) (ea_cons (ed_var 1) ea_nil)) ⟨[tI a, tI b], .none, rfl, rfl, rfl, a, b, hz1, hz2, h1, h2, h3, rfl, rfl⟩) ?_
  exact sd_ret (ed_isNone (ed_call (C2.mono (by decide)) hr (ea_cons (ed_var 0) (ea_cons (ed_var 1) ea_nil)) ⟨[tI a, tI b], mLight a b, rfl, rfl, rfl, a, b, hz1, hz2, rfl, rfl⟩)) fin0
/-! ### hook_of, hooks_of -/
abbrev N_hook_of : List Str := ["shape", "row", "column", "below", "part"]
abbrev PS_src : List Str := ["shape", "row", "column"]
theorem sc_hook_of : FnScope N_hook_of PS_src (defScope s_hook_of) := ⟨rfl, rfl, rfl, by decide +kernel, rfl, by decide +kernel, by decide +kernel⟩
def mHook (ns : List Int) (r c : Int) : Int := nthI ns r - c + (((ns.drop (r + 1).toNat).filter fun p => decide (c < p)).length : Nat)
def Rhook_of : RS := pureR fun ds d => ∃ (ns : List Int) (r c : Int), ns.length ≤ 1000 ∧ 0 ≤ r ∧ r < ns.length ∧ ds = [tI ns, .int r, .int c] ∧ d = .int (mHook ns r c)
theorem ok_hook_of (B : Bl mg) (F : FnP K "hook_of" s_hook_of f fd) : FnOk P w K mg base CX0 1 f fd PS_src (spF 3 Rhook_of) := by
  refine fn_sd F sc_hook_of (len1 fun ds d ⟨v, l, _, _, _, _, e, _⟩ => by rw [e]; rfl) fun cdv A outer s H E hr rs M r M' hR => ?_
  obtain ⟨ds, d, rfl, rfl, rfl, ns, r, c, hz, h1, h2, rfl, rfl⟩ := hR
  refine sd_setLcIf (i := 3) (L := ns.drop (r + 1).toNat) (enc := .int) (bs := fun n => [(4, .int n)]) (q := fun p => decide (c < p)) (f := .int) [("part", 4)] (src_is (src_tup (ed_slT (ed_var 0) (eo_some (ed_add (ed_var 1) ed_int)) eo_none)) (cut_from (by omega)))
    (fun _ _ _ _ _ => pgn 4 sc_hook_of.nd) (fun _ _ => tg_name) (fun _ _ p hp => by simp at hp; simp [hp]) (fun n _ M2 _ _ _ _ _ => et_gt (ed_var 4) (ed_var 2)) (fun n _ _ M2 _ _ _ _ _ => ed_var 4) (by rw [List.length_drop]; omega) sc_hook_of.nd (blkOk_by (N := N_hook_of) (sc := defScope s_hook_of) (by decide +kernel)) ?_ rfl
  refine sd_ret (r := .i (mHook ns r c)) (ed_is (ed_add (ed_sub (ed_ixT (at_dI h1 h2) (ed_var 0) (ed_var 1)) (ed_var 2)) (ed_lenL B.len_ (ed_var 3))) (by unfold mHook; rw [List.length_map])) fin0
abbrev N_hooks_of : List Str := ["shape", "found", "row", "part", "column"]
theorem sc_hooks_of : FnScope N_hooks_of ["shape"] (defScope s_hooks_of) := ⟨rfl, rfl, rfl, by decide +kernel, rfl, by decide +kernel, by decide +kernel⟩
def mH0 (ns : List Int) (r f c : Int) : Int := f * mHook ns r c
def mH1 (ns : List Int) (f : Int) (p : Int × Int) : Int := (rg 0 p.2.toNat).foldl (mH0 ns p.1) f
def mHooks (ns : List Int) : Int := (enI ns).foldl (mH1 ns) 1
def smallP (ns : List Int) : Bool := decide (ns.length ≤ 1000) && ns.all (inR 0 1000)
theorem small_nth {ns : List Int} (h : smallP ns = true) {i : Nat} (hi : i < ns.length) : 0 ≤ nthI ns i ∧ nthI ns i ≤ 1000 := by
  obtain ⟨h1, h2⟩ := Bool.and_eq_true_iff.mp h
  have e : nthI ns i = ns[i] := by
    unfold nthI
    rw [Int.toNat_natCast, List.getD_eq_getElem?_getD, List.getElem?_eq_getElem hi]
    rfl
  rw [e]
  have := List.all_eq_true.mp h2 _ (List.getElem_mem hi)
  obtain ⟨h3, h4⟩ := Bool.and_eq_true_iff.mp this
  exact ⟨of_decide_eq_true h3, of_decide_eq_true h4⟩
theorem small_len {ns : List Int} (h : smallP ns = true) : ns.length ≤ 1000 := of_decide_eq_true (Bool.and_eq_true_iff.mp h).1
def Rhooks_of : RS := pureR fun ds d => ∃ (ns : List Int), smallP ns = true ∧ ds = [tI ns] ∧ d = .int (mHooks ns)
theorem ok_hooks_of (B : Bl mg) (C1 : Cal P w K mg base 1 "hook_of" PS_src Rhook_of) (F : FnP K "hooks_of" s_hooks_of f fd) : FnOk P w K mg base CX0 2 f fd ["shape"] (spF 1 Rhooks_of) := by
  refine fn_sd F sc_hooks_of (len1 fun ds d ⟨v, _, e, _⟩ => by rw [e]; rfl) fun cdv A outer s H E hr rs M r M' hR => ?_
  obtain ⟨ds, d, rfl, rfl, rfl, ns, hz, rfl, rfl⟩ := hR
  have hl := small_len hz
  refine sd_set (i := 1) (r := .i 1) ed_int ?_ sc_hooks_of.nd
  refine sd_for (L := enI ns) (enc := enc2) (bs := fun p => [(2, .int p.1), (3, .int p.2)]) (fun i Γ N => ∃ r2 r3 r4, Γ = [.t ns, .i (((enI ns).take i).foldl (mH1 ns) 1), r2, r3, r4] ∧ N = M') (src_is (src_enumT B.enumerate_ (ed_var 0)) (enr_dI ns))
    (pg_tup rfl (pgs_cons (pgn 2 sc_hooks_of.nd) (pgs_cons (pgn 3 sc_hooks_of.nd) pgs_nil))) (fun _ _ => tg_pair) ⟨.no, .no, .no, rfl, rfl⟩ (fun i Γ N ⟨_, _, _, _, e⟩ => by rw [e]; exact Kp.refl _)
    (fun i p Γ N hb ⟨r2, r3, r4, e1, e2⟩ => ?_) fun Γ N ⟨r2, r3, r4, e1, e2⟩ => ?_
  · subst e1 e2
    have ef := foldl_take (mH1 ns) 1 hb
    obtain ⟨h1, h2⟩ := enI_at hb
    subst h2
    have hs := small_nth hz h1
    refine sd_for (L := rg 0 (nthI ns i).toNat) (enc := .int) (bs := fun b => [(4, .int b)]) (fun j Γ N' => ∃ r4, Γ = [.t ns, .i (((rg 0 (nthI ns i).toNat).take j).foldl (mH0 ns i) (((enI ns).take i).foldl (mH1 ns) 1)), .i i, .i (nthI ns i), r4] ∧ N' = N) (src_range1 B.range_ (ed_var 3) (by omega) (by omega))
      (pgn 4 sc_hooks_of.nd) (fun _ _ => tg_name) ⟨r4, rfl, rfl⟩ (fun i Γ N ⟨_, _, e⟩ => by rw [e]; exact Kp.refl _) (fun j c Γ N' hc ⟨r4, e1, e2⟩ => ?_) fun Γ N' ⟨r4, e1, e2⟩ => ?_
    · subst e1 e2
      have eg := foldl_take (mH0 ns i) (((enI ns).take i).foldl (mH1 ns) 1) hc
      obtain ⟨h3, h4⟩ := rg_at hc
      refine sd_set (i := 1) (r := .i (((rg 0 (nthI ns i).toNat).take (j + 1)).foldl (mH0 ns i) (((enI ns).take i).foldl (mH1 ns) 1))) (ed_is (ed_mul (j := mHook ns i c) (.inr ?_) (ed_var 1) (ed_call C1 hr (ea_cons (ed_var 0) (ea_cons (ed_var 2) (ea_cons (ed_var 4) ea_nil))) ⟨[tI ns, .int i, .int c], _, rfl, rfl, rfl, ns, i, c, hl, by omega, by omega, rfl, rfl⟩)) (by rw [eg]; rfl)) (sd_nil ⟨.i c, rfl, rfl⟩) sc_hooks_of.nd
      have h5 : (((ns.drop ((i : Int) + 1).toNat).filter fun p => decide (c < p)).length) ≤ 1000 := Nat.le_trans (List.length_filter_le _ _) (by rw [List.length_drop]; omega)
      unfold mHook
      omega
    · subst e1 e2
      refine sd_nil ⟨.i i, .i (nthI ns i), r4, ?_, rfl⟩
      rw [ef, List.take_length]
      rfl
  · subst e1 e2
    rw [List.take_length]
    exact sd_ret (ed_var 1) fin0
/-! ### factorial, growth_count -/
abbrev N_factorial : List Str := ["number", "found", "factor"]
theorem sc_factorial : FnScope N_factorial ["number"] (defScope s_factorial) := ⟨rfl, rfl, rfl, by decide +kernel, rfl, by decide +kernel, by decide +kernel⟩
def mFact (n : Int) : Int := (rg 2 (n + 1 - 2).toNat).foldl (fun f c => f * c) 1
def Rfactorial : RS := pureR fun ds d => ∃ (n : Int), -1000 ≤ n ∧ n ≤ 1000 ∧ ds = [.int n] ∧ d = .int (mFact n)
theorem ok_factorial (B : Bl mg) (F : FnP K "factorial" s_factorial f fd) : FnOk P w K mg base CX0 1 f fd ["number"] (spF 1 Rfactorial) := by
  refine fn_sd F sc_factorial (len1 fun ds d ⟨v, _, _, e, _⟩ => by rw [e]; rfl) fun cdv A outer s H E hr rs M r M' hR => ?_
  obtain ⟨ds, d, rfl, rfl, rfl, n, h1, h2, rfl, rfl⟩ := hR
  refine sd_set (i := 1) (r := .i 1) ed_int ?_ sc_factorial.nd
  refine sd_for (L := rg 2 (n + 1 - 2).toNat) (enc := .int) (bs := fun b => [(2, .int b)]) (fun j Γ N' => ∃ r, Γ = [.i n, .i (((rg 2 (n + 1 - 2).toNat).take j).foldl (fun f c => f * c) 1), r] ∧ N' = M') (src_range2 B.range_ (ea_cons ed_int (ea_cons (ed_add (ed_var 0) ed_int) ea_nil)) (by omega) (by omega) (by omega) (by omega))
    (pgn 2 sc_factorial.nd) (fun _ _ => tg_name) ⟨.no, rfl, rfl⟩ (fun i Γ N ⟨_, _, e⟩ => by rw [e]; exact Kp.refl _) (fun j c Γ N' hc ⟨r4, e1, e2⟩ => ?_) fun Γ N' ⟨r4, e1, e2⟩ => ?_
  · subst e1 e2
    have eg := foldl_take (fun f c : Int => f * c) 1 hc
    obtain ⟨h3, h4⟩ := rg_at hc
    exact sd_set (i := 1) (r := .i (((rg 2 (n + 1 - 2).toNat).take (j + 1)).foldl (fun f c => f * c) 1)) (ed_is (ed_mul (j := c) (.inr (by omega)) (ed_var 1) (ed_var 2)) (by rw [eg])) (sd_nil ⟨.i c, rfl, rfl⟩) sc_factorial.nd
  · subst e1 e2
    rw [List.take_length]
    exact sd_ret (ed_var 1) fin0
theorem sc_growth_count : FnScope ["shape"] ["shape"] (defScope s_growth_count) := ⟨rfl, rfl, rfl, by decide +kernel, rfl, by decide +kernel, by decide +kernel⟩
def okGrow (ns : List Int) : Bool := smallP ns && (okShape 40 ns && (inR 0 1000 ns.sum && inR 1 1000000000 (mHooks ns)))
def mGrow (ns : List Int) : Int := mFact ns.sum / mHooks ns
def Rgrowth_count : RS := pureR fun ds d => ∃ (ns : List Int), okGrow ns = true ∧ ds = [tI ns] ∧ d = .int (mGrow ns)
theorem inR_iff {l h n : Int} (q : inR l h n = true) : l ≤ n ∧ n ≤ h := by
  obtain ⟨h3, h4⟩ := Bool.and_eq_true_iff.mp q
  exact ⟨of_decide_eq_true h3, of_decide_eq_true h4⟩
theorem ok_growth_count (B : Bl mg) (C1 : Cal P w K mg base 3 "check_shape" PS_vm Rcheck_shape) (C2 : Cal P w K mg base 1 "factorial" ["number"] Rfactorial) (C3 : Cal P w K mg base 2 "hooks_of" ["shape"] Rhooks_of) (F : FnP K "growth_count" s_growth_count f fd) : FnOk P w K mg base CX0 4 f fd ["shape"] (spF 1 Rgrowth_count) := by
  refine fn_sd F sc_growth_count (len1 fun ds d ⟨v, _, e, _⟩ => by rw [e]; rfl) fun cdv A outer s H E hr rs M r M' hR => ?_
  obtain ⟨ds, d, rfl, rfl, rfl, ns, ho, rfl, rfl⟩ := hR
  obtain ⟨h1, ho⟩ := Bool.and_eq_true_iff.mp ho
  obtain ⟨h2, ho⟩ := Bool.and_eq_true_iff.mp ho
  obtain ⟨h3, h4⟩ := Bool.and_eq_true_iff.mp ho
  have h3 := inR_iff h3
  have h4 := inR_iff h4
  refine sd_expr (ed_call C1 hr (ea_cons (ed_var 0) (ea_cons (ed_globI B.mBoxes) ea_nil)) ⟨[tI ns, .int 40], .none, rfl, rfl, rfl, ns, 40, small_len h1, h2, rfl, rfl⟩) ?_
  exact sd_ret (ed_fdiv (i := mFact ns.sum) (j := mHooks ns) ⟨by omega, by omega⟩ (ed_call (C2.mono (by decide)) hr (ea_cons (ed_sumT B.sum_ (ed_var 0)) ea_nil) ⟨[.int ns.sum], _, rfl, rfl, rfl, ns.sum, by omega, by omega, rfl, rfl⟩)
    (ed_call (C3.mono (by decide)) hr (ea_cons (ed_var 0) ea_nil) ⟨[tI ns], _, rfl, rfl, rfl, ns, h1, rfl, rfl⟩)) fin0
/-! ### are_amounts, check_amounts, check_margins -/
abbrev N_are_amounts : List Str := ["value", "most", "many"]
theorem sc_are_amounts : FnScope N_are_amounts PS_vm (defScope s_are_amounts) := ⟨rfl, rfl, rfl, by decide +kernel, rfl, by decide +kernel, by decide +kernel⟩
def nonN (n : Int) : Bool := decide (0 ≤ n)
def okAm (m : Int) (ns : List Int) : Bool := decide ((ns.length : Int) ≤ m) && ns.all nonN
def Rare_amounts : RS := pureR fun ds d => ∃ (ns : List Int) (m : Int), ns.length ≤ 1000 ∧ okAm m ns = true ∧ ds = [tI ns, .int m] ∧ d = .bool true
theorem ok_are_amounts (B : Bl mg) (F : FnP K "are_amounts" s_are_amounts f fd) : FnOk P w K mg base CX0 1 f fd PS_vm (spF 2 Rare_amounts) := by
  refine fn_sd F sc_are_amounts (len1 fun ds d ⟨v, l, _, _, e, _⟩ => by rw [e]; rfl) fun cdv A outer s H E hr rs M r M' hR => ?_
  obtain ⟨ds, d, rfl, rfl, rfl, ns, m, hz, ho, rfl, rfl⟩ := hR
  obtain ⟨h1, h2⟩ := Bool.and_eq_true_iff.mp ho
  have h1 := of_decide_eq_true h1
  refine sd_if0 (et_w (ew_orF (et_not (et_val (ed_isTup B.isinstance_ B.tuple_ (ed_var 0)))) (ew_or1 (et_is (et_gt (ed_lenT B.len_ (ed_var 0)) (ed_var 1)) (by rw [dI_len]; exact decide_eq_false (by omega)))))) ?_
  refine sd_ret (r := .b true) (ed_is (ed_allL B.all_ (ed_is (ed_lc (L := ns) (enc := .int) (bs := fun n => [(2, .int n)]) (f := fun n => .bool (nonN n)) [("many", 2)] (src_tup (ed_var 0)) (fun _ _ _ _ _ => pgn 2 sc_are_amounts.nd) (fun _ _ => tg_name) (fun _ _ p hp => by simp at hp; simp [hp])
    (fun n _ M2 _ _ _ _ _ => ed_is (ed_and (ed_isInt B.isinstance_ B.int_ (ed_var 2)) fun _ => ed_and (ed_notV (ed_isBool B.isinstance_ B.bool_ (ed_var 2))) fun _ => ed_and1 (ed_ge (ed_var 2) ed_int)) (by rw [Bool.true_and, Bool.not_false, Bool.true_and]; rfl)) (by omega) sc_are_amounts.nd (blkOk_by (N := N_are_amounts) (sc := defScope s_are_amounts) (by decide +kernel))) (by rw [map_dB])))
    (by rw [List.all_map]; show Sl.b (ns.all nonN) = .b true; rw [h2])) fin0
theorem sc_check_amounts : FnScope ["value"] ["value"] (defScope s_check_amounts) := ⟨rfl, rfl, rfl, by decide +kernel, rfl, by decide +kernel, by decide +kernel⟩
def Rcheck_amounts : RS := pureR fun ds d => ∃ (ns : List Int), ns.length ≤ 1000 ∧ okAm 12 ns = true ∧ ds = [tI ns] ∧ d = .none
theorem ok_check_amounts (B : Bl mg) (C1 : Cal P w K mg base 1 "are_amounts" PS_vm Rare_amounts) (F : FnP K "check_amounts" s_check_amounts f fd) : FnOk P w K mg base CX0 2 f fd ["value"] (spF 1 Rcheck_amounts) := by
  refine fn_sd F sc_check_amounts (len1 fun ds d ⟨v, _, _, e, _⟩ => by rw [e]; rfl) fun cdv A outer s H E hr rs M r M' hR => ?_
  obtain ⟨ds, d, rfl, rfl, rfl, ns, hz, ho, rfl, rfl⟩ := hR
  exact sd_if0 (et_nT (et_val (ed_call C1 hr (ea_cons (ed_var 0) (ea_cons (ed_globI B.mLong) ea_nil)) ⟨[tI ns, .int 12], _, rfl, rfl, rfl, ns, 12, hz, ho, rfl, rfl⟩))) (sd_nil fin0)
theorem sc_check_margins : FnScope ["value"] ["value"] (defScope s_check_margins) := ⟨rfl, rfl, rfl, by decide +kernel, rfl, by decide +kernel, by decide +kernel⟩
def okMg (ns : List Int) : Bool := decide (ns.length ≤ 1000) && (okAm 6 ns && decide (ns.sum ≤ 12))
def Rcheck_margins : RS := pureR fun ds d => ∃ (ns : List Int), okMg ns = true ∧ ds = [tI ns] ∧ d = .none
theorem ok_check_margins (B : Bl mg) (C1 : Cal P w K mg base 1 "are_amounts" PS_vm Rare_amounts) (F : FnP K "check_margins" s_check_margins f fd) : FnOk P w K mg base CX0 2 f fd ["value"] (spF 1 Rcheck_margins) := by
  refine fn_sd F sc_check_margins (len1 fun ds d ⟨v, _, e, _⟩ => by rw [e]; rfl) fun cdv A outer s H E hr rs M r M' hR => ?_
  obtain ⟨ds, d, rfl, rfl, rfl, ns, ho, rfl, rfl⟩ := hR
  obtain ⟨h1, ho⟩ := Bool.and_eq_true_iff.mp ho
  obtain ⟨h2, h3⟩ := Bool.and_eq_true_iff.mp ho
  have h3 := of_decide_eq_true h3
  exact sd_if0 (et_w (ew_orF (et_nT (et_val (ed_call C1 hr (ea_cons (ed_var 0) (ea_cons (ed_globI B.mMargins) ea_nil)) ⟨[tI ns, .int 6], _, rfl, rfl, rfl, ns, 6, of_decide_eq_true h1, h2, rfl, rfl⟩))) (ew_or1 (et_is (et_gt (ed_sumT B.sum_ (ed_var 0)) (ed_globI B.mLong)) (decide_eq_false (by omega)))))) (sd_nil fin0)
end
end Wm
set_option Elab.async false
set_option linter.all false
set_option maxRecDepth 100000
set_option maxHeartbeats 4000000
namespace Wm
open PySem PySem.Spec PyProof.Rows L2
theorem kp_headD {a b : Addr} {x y : List (List Int × Int)} {M : Own} : Kp ((a, MO.dct x) :: M) ((b, MO.dct y) :: M) := fun c o k h => by
  rcases List.mem_cons.mp h with z | z
  · cases z
  · exact List.mem_cons_of_mem _ z
/-! ### plain -/
abbrev St2 := List (List Int × Int)
def okSt (l : St2) : Bool := decide (l.length ≤ 1000) && l.all fun h => inR (-1000) 1000 h.2 && decide (h.1.length ≤ 1000)
def pbRoom (ns : List Int) (p : Int × Int) : Int := p.2 - (if p.1 + 1 < ns.length then nthI ns (p.1 + 1) else 0)
def pbOne (room part : Int) (h : List Int × Int) : St2 := (rg 0 (min room h.2 + 1).toNat).map fun less => (h.1 ++ [part - less], h.2 - less)
def pbStep (ns : List Int) (l : St2) (p : Int × Int) : St2 := l.flatMap (pbOne (pbRoom ns p) p.2)
def pbAt (ns : List Int) (size : Int) (i : Nat) : St2 := ((enI ns).take i).foldl (pbStep ns) [([], size)]
def trimI (ns : List Int) : List Int := ns.filter fun n => decide (0 < n)
def mPB (ns : List Int) (size : Int) : List (List Int) := ((pbAt ns size ns.length).filter fun h => decide (h.2 = 0)).map fun h => trimI h.1
def okPB (ns : List Int) (size : Int) : Bool := smallP ns && (List.range (ns.length + 1)).all fun i => okSt (pbAt ns size i)
def rsOne (room : Int) (h : List Int × Int) : St2 := (rg 0 (min room h.2 + 1).toNat).map fun many => (h.1 ++ [many], h.2 - many)
def rsStep (l : St2) (room : Int) : St2 := l.flatMap (rsOne room)
def rsAt (total : Int) (rooms : List Int) (i : Nat) : St2 := (rooms.take i).foldl rsStep [([], total)]
def mRS (total : Int) (rooms : List Int) : List (List Int) := ((rsAt total rooms rooms.length).filter fun h => decide (h.2 = 0)).map fun h => h.1
def okRS (total : Int) (rooms : List Int) : Bool := (decide (rooms.length ≤ 1000) && rooms.all (inR (-1000) 1000)) && (List.range (rooms.length + 1)).all fun i => okSt (rsAt total rooms i)
def putW (ways : Int) (k : St2) (less : List Int) : St2 := pT k less (gT k less 0 + ways)
def tcOne (many : Int) (later : St2) (p : List Int × Int) : St2 := (mPB p.1 many).foldl (putW p.2) later
def tcStep (now : St2) (many : Int) : St2 := now.foldl (tcOne many) []
def mTab (shape amounts : List Int) : Int := gT (amounts.reverse.foldl tcStep [(shape, 1)]) [] 0
def okTS (now : St2) (many : Int) : Bool := (now.all fun p => okPB p.1 many) && decide ((now.map fun p => (mPB p.1 many).length).sum ≤ 1000)
def okTab (shape amounts : List Int) : Bool := decide (amounts.length ≤ 1000) && (enI amounts.reverse).all fun p => okTS ((amounts.reverse.take p.1.toNat).foldl tcStep [(shape, 1)]) p.2
def acKeys (most total : Int) (left : List Int) : List (List Int) := (mRS total (left.map (min most))).map fun taken => (left.zip taken).map fun p => p.1 - p.2
def acOne (most total : Int) (later : St2) (p : List Int × Int) : St2 := (acKeys most total p.1).foldl (putW p.2) later
def acStep (most : Int) (now : St2) (total : Int) : St2 := now.foldl (acOne most total) []
def mArr (rows columns : List Int) (most : Int) : Int := gT (rows.foldl (acStep most) [(columns, 1)]) (List.replicate columns.length 0) 0
def okAS (most : Int) (now : St2) (total : Int) : Bool := (now.all fun p => smallP p.1 && (okRS total (p.1.map (min most)) && (mRS total (p.1.map (min most))).all fun t => decide (p.1.length = t.length))) && decide ((now.map fun p => (acKeys most total p.1).length).sum ≤ 1000)
def okArr (rows columns : List Int) (most : Int) : Bool := (decide (rows.length ≤ 1000) && inR 1 1000 columns.length) && (enI rows).all fun p => okAS most ((rows.take p.1.toNat).foldl (acStep most) [(columns, 1)]) p.2
theorem putW_len (ways : Int) (k : St2) (less : List Int) : (putW ways k less).length ≤ k.length + 1 := pT_len _ _ _
theorem foldl_putW_len (ways : Int) : ∀ (keys : List (List Int)) (k : St2), (keys.foldl (putW ways) k).length ≤ k.length + keys.length
  | [], k => Nat.le_refl _
  | a :: r, k => by
    have h1 := foldl_putW_len ways r (putW ways k a)
    have h2 := putW_len ways k a
    show (r.foldl (putW ways) (putW ways k a)).length ≤ _
    rw [List.length_cons]
    omega
theorem sum_take {α : Type} (f : α → Nat) : ∀ (l : List α) (i : Nat), ((l.take i).map f).sum ≤ (l.map f).sum
  | [], i => by simp
  | a :: r, 0 => by simp
  | a :: r, i + 1 => by
    have := sum_take f r i
    rw [List.take_succ_cons, List.map_cons, List.map_cons, List.sum_cons, List.sum_cons]
    omega
theorem foldl_len {α : Type} (one : St2 → α → St2) (f : α → Nat) (h : ∀ k a, (one k a).length ≤ k.length + f a) : ∀ (l : List α) (k : St2), (l.foldl one k).length ≤ k.length + (l.map f).sum
  | [], k => Nat.le_refl _
  | a :: r, k => by
    have h1 := foldl_len one f h r (one k a)
    have h2 := h k a
    show (r.foldl one (one k a)).length ≤ _
    rw [List.map_cons, List.sum_cons]
    omega
theorem enI_mem {ns : List Int} {i : Nat} {b : Int} (h : ns[i]? = some b) : ((i : Int), b) ∈ enI ns := by
  have hi := (List.getElem?_eq_some_iff.mp h).1
  have e1 : (rg 0 ns.length)[i]? = some (i : Int) := by
    rw [rg_get, if_pos hi, Int.zero_add]
  exact List.mem_of_getElem? (show (enI ns)[i]? = some ((i : Int), b) from List.getElem?_zip_eq_some.mpr ⟨e1, h⟩)
theorem okSt_len {l : St2} (h : okSt l = true) : l.length ≤ 1000 := of_decide_eq_true (Bool.and_eq_true_iff.mp h).1
theorem okSt_in {l : St2} (h : okSt l = true) {p : List Int × Int} (hp : p ∈ l) : (-1000 ≤ p.2 ∧ p.2 ≤ 1000) ∧ p.1.length ≤ 1000 := by
  have := List.all_eq_true.mp (Bool.and_eq_true_iff.mp h).2 p hp
  obtain ⟨h1, h2⟩ := Bool.and_eq_true_iff.mp this
  exact ⟨inR_iff h1, of_decide_eq_true h2⟩
theorem flat_enc (l : St2) (one : List Int × Int → St2) : (l.flatMap fun b => (one b).map encKV) = (l.flatMap one).map encKV := by
  rw [List.map_flatMap]
theorem pb_flat (l : St2) (room part : Int) : (l.flatMap fun b => (rg 0 (min room b.2 + 1).toNat).map fun c => encKV (b.1 ++ [part - c], b.2 - c)) = (l.flatMap (pbOne room part)).map encKV := by
  rw [← flat_enc]
  congr 1
  funext b
  unfold pbOne
  rw [List.map_map]
  rfl
theorem rs_flat (l : St2) (room : Int) : (l.flatMap fun b => (rg 0 (min room b.2 + 1).toNat).map fun c => encKV (b.1 ++ [c], b.2 - c)) = (l.flatMap (rsOne room)).map encKV := by
  rw [← flat_enc]
  congr 1
  funext b
  unfold rsOne
  rw [List.map_map]
  rfl
section
variable {P : Program} {w : World} {K : Fg} {mg : Str → Option Value} {base : Heap} {f : Addr} {fd : FuncData}
/-! ### trimmed -/
abbrev N_trimmed : List Str := ["numbers", "number"]
theorem sc_trimmed : FnScope N_trimmed ["numbers"] (defScope s_trimmed) := ⟨rfl, rfl, rfl, by decide +kernel, rfl, by decide +kernel, by decide +kernel⟩
def Rtrimmed : RS := pureR fun ds d => ∃ ns : List Int, ns.length ≤ 1000 ∧ ds = [tI ns] ∧ d = tI (trimI ns)
theorem ok_trimmed (B : Bl mg) (F : FnP K "trimmed" s_trimmed f fd) : FnOk P w K mg base CX0 1 f fd ["numbers"] (spF 1 Rtrimmed) := by
  refine fn_sd F sc_trimmed (len1 fun ds d ⟨v, _, e, _⟩ => by rw [e]; rfl) fun cdv A outer s H E hr rs M r M' hR => ?_
  obtain ⟨ds, d, rfl, rfl, rfl, ns, hz, rfl, rfl⟩ := hR
  refine sd_ret (r := .t (trimI ns)) (ed_tupleL B.tuple_ (ed_lcIf (L := ns) (enc := .int) (bs := fun n => [(1, .int n)]) (q := fun n => decide (0 < n)) (f := .int) [("number", 1)] (src_tup (ed_var 0)) (fun _ _ _ _ _ => pgn 1 sc_trimmed.nd) (fun _ _ => tg_name) (fun _ _ p hp => by simp at hp; simp [hp]) (fun n _ M2 _ _ _ _ _ => et_gt (ed_var 1) ed_int) (fun n _ _ M2 _ _ _ _ _ => ed_var 1) (by omega) sc_trimmed.nd (blkOk_by (N := N_trimmed) (sc := defScope s_trimmed) (by decide +kernel)))) fin0
/-! ### parts_below -/
abbrev N_parts_below : List Str := ["shape", "size", "found", "row", "part", "room", "head", "left", "less"]
theorem sc_parts_below : FnScope N_parts_below ["shape", "size"] (defScope s_parts_below) := ⟨rfl, rfl, rfl, by decide +kernel, rfl, by decide +kernel, by decide +kernel⟩
def Rparts_below : RS := pureR fun ds d => ∃ (ns : List Int) (size : Int), okPB ns size = true ∧ ds = [tI ns, .int size] ∧ d = .list ((mPB ns size).map tI)
theorem ok_parts_below (B : Bl mg) (C1 : Cal P w K mg base 1 "trimmed" ["numbers"] Rtrimmed) (F : FnP K "parts_below" s_parts_below f fd) : FnOk P w K mg base CX0 2 f fd ["shape", "size"] (spF 2 Rparts_below) := by
  refine fn_sd F sc_parts_below (len1 fun ds d ⟨v, l, _, e, _⟩ => by rw [e]; rfl) fun cdv A outer s H E hr rs M r M' hR => ?_
  obtain ⟨ds, d, rfl, rfl, rfl, ns, size, ho, rfl, rfl⟩ := hR
  obtain ⟨hz, ho⟩ := Bool.and_eq_true_iff.mp ho
  have hl := small_len hz
  have hst : ∀ i, i ≤ ns.length → okSt (pbAt ns size i) = true := fun i hi => List.all_eq_true.mp ho i (List.mem_range.mpr (by omega))
  refine sd_set (i := 2) (r := .dat (.list ((pbAt ns size 0).map encKV))) (ed_lst (ds := [encKV ([], size)]) (ea_cons (ed_tup (ds := [tI [], .int size]) (ea_cons (ed_tup (ds := []) ea_nil (by decide)) (ea_cons (ed_var 1) ea_nil)) (by simp)) ea_nil) (by simp)) ?_ sc_parts_below.nd
  refine sd_for (L := enI ns) (enc := enc2) (bs := fun p => [(3, .int p.1), (4, .int p.2)]) (fun i Γ N => ∃ r3 r4 r5 r6 r7 r8, Γ = [.t ns, .i size, .dat (.list ((pbAt ns size i).map encKV)), r3, r4, r5, r6, r7, r8] ∧ N = M') (src_is (src_enumT B.enumerate_ (ed_var 0)) (enr_dI ns))
    (pg_tup rfl (pgs_cons (pgn 3 sc_parts_below.nd) (pgs_cons (pgn 4 sc_parts_below.nd) pgs_nil))) (fun _ _ => tg_pair) ⟨.no, .no, .no, .no, .no, .no, rfl, rfl⟩ (fun i Γ N ⟨_, _, _, _, _, _, _, e⟩ => by rw [e]; exact Kp.refl _)
    (fun i p Γ N hb ⟨r3, r4, r5, r6, r7, r8, e1, e2⟩ => ?_) fun Γ N ⟨r3, r4, r5, r6, r7, r8, e1, e2⟩ => ?_
  · subst e1 e2
    have ef : pbAt ns size (i + 1) = pbStep ns (pbAt ns size i) p := foldl_take (pbStep ns) _ hb
    obtain ⟨h1, h2⟩ := enI_at hb
    subst h2
    have hs := small_nth hz h1
    have o1 := hst i (by omega)
    have o2 := hst (i + 1) (by omega)
    refine sd_set (i := 5) (r := .i (pbRoom ns ((i : Int), nthI ns i))) (ed_sub (ed_var 4) (ed_ifS (r := .i (if (i : Int) + 1 < ns.length then nthI ns ((i : Int) + 1) else 0)) (et_lt (ed_add (ed_var 3) ed_int) (ed_lenT B.len_ (ed_var 0))) (fun h => ?_) (fun h => ?_))) ?_ sc_parts_below.nd
    · rw [dI_len] at h
      have h := of_decide_eq_true h
      rw [if_pos h]
      exact ed_ixT (at_dI (by omega) h) (ed_var 0) (ed_add (ed_var 3) ed_int)
    · rw [dI_len] at h
      have h := of_decide_eq_false h
      rw [if_neg h]
      exact ed_int
    · have hroom : pbRoom ns ((i : Int), nthI ns i) ≤ 1000 ∧ -1000 ≤ pbRoom ns ((i : Int), nthI ns i) := by
        unfold pbRoom
        show nthI ns i - (if (i : Int) + 1 < ns.length then nthI ns ((i : Int) + 1) else 0) ≤ 1000 ∧ -1000 ≤ nthI ns i - (if (i : Int) + 1 < ns.length then nthI ns ((i : Int) + 1) else 0)
        by_cases h : (i : Int) + 1 < ns.length
        · rw [if_pos h]
          have := small_nth hz (i := i + 1) (by omega)
          have e9 : ((i + 1 : Nat) : Int) = (i : Int) + 1 := by omega
          rw [e9] at this
          omega
        · rw [if_neg h]
          omega
      have ef : pbAt ns size (i + 1) = (pbAt ns size i).flatMap (pbOne (pbRoom ns ((i : Int), nthI ns i)) (nthI ns i)) := ef
      generalize pbRoom ns ((i : Int), nthI ns i) = room at hroom ef
      refine sd_setLc2 (i := 2) (L := pbAt ns size i) (Li := fun h => rg 0 (min room h.2 + 1).toNat) (enc := encKV) (enc2 := fun _ c => .int c) (bs := fun h => [(6, tI h.1), (7, .int h.2)]) (bs2 := fun _ c => [(8, .int c)]) (f := fun h c => encKV (h.1 ++ [nthI ns i - c], h.2 - c)) [("head", 6), ("left", 7), ("less", 8)] [8]
        (src_list (ed_var 2)) (fun _ _ _ _ _ => pg_tup rfl (pgs_cons (pgn 6 sc_parts_below.nd) (pgs_cons (pgn 7 sc_parts_below.nd) pgs_nil))) (fun _ _ _ _ _ => pgn 8 sc_parts_below.nd) (fun _ _ => tg_pair) (fun _ _ p hp => by simp at hp; rcases hp with hp | hp <;> simp [hp])
        (fun h hh M2 _ _ _ _ _ => src_range1 B.range_ (ed_add (ed_min2 B.min_ (ea_cons (ed_var 5) (ea_cons (ed_var 7) ea_nil))) ed_int) ?_ ?_) (fun _ _ _ _ => tg_name) (fun _ _ _ _ p hp => by simp at hp; simp [hp])
        (fun h hh c hc M2 _ _ _ _ _ => ed_tup (ds := [tI (h.1 ++ [nthI ns i - c]), .int (h.2 - c)]) (ea_cons (ed_is (ed_tup (ds := dI h.1 ++ [.int (nthI ns i - c)]) (by rw [List.map_append]; exact ea_star (ed_var 6) (ea_cons (ed_sub (ed_var 4) (ed_var 8)) ea_nil)) ?_) (by rw [tI, dI_app]; rfl)) (ea_cons (ed_sub (ed_var 7) (ed_var 8)) ea_nil)) (by simp))
        ?_ (fun i hi => by simp at hi; simp [hi]) sc_parts_below.nd (blkOk_by (N := N_parts_below) (sc := defScope s_parts_below) (by decide +kernel)) ?_ rfl
      · have := (okSt_in o1 hh).1
        omega
      · have := (okSt_in o1 hh).1
        omega
      · have := (okSt_in o1 hh).2
        rw [List.length_append, dI_len]
        show h.1.length + 1 ≤ _
        omega
      · rw [pb_flat, List.length_map]
        have := okSt_len o2
        rw [ef] at this
        exact Nat.le_trans this (by decide)
      · rw [pb_flat]
        refine sd_nil ⟨.i i, .i (nthI ns i), .i room, r6, r7, r8, ?_, rfl⟩
        rw [ef]
        rfl
  · subst e1 e2
    have o1 := hst ns.length (Nat.le_refl _)
    rw [enI_len]
    refine sd_ret (ed_is (ed_lcIf (L := pbAt ns size ns.length) (enc := encKV) (bs := fun h => [(6, tI h.1), (7, .int h.2)]) (q := fun h => decide (h.2 = 0)) (f := fun h => tI (trimI h.1)) [("head", 6), ("left", 7)] (src_list (ed_var 2)) (fun _ _ _ _ _ => pg_tup rfl (pgs_cons (pgn 6 sc_parts_below.nd) (pgs_cons (pgn 7 sc_parts_below.nd) pgs_nil)))
      (fun _ _ => tg_pair) (fun _ _ p hp => by simp at hp; rcases hp with hp | hp <;> simp [hp]) (fun h _ M2 _ _ _ _ _ => et_eqI (ed_var 7) ed_int) (fun h hh _ M2 _ _ _ _ _ => ed_call C1 hr (ea_cons (ed_var 6) ea_nil) ⟨[tI h.1], _, rfl, rfl, rfl, h.1, (okSt_in o1 hh).2, rfl, rfl⟩) (Nat.le_trans (okSt_len o1) (by decide)) sc_parts_below.nd (blkOk_by (N := N_parts_below) (sc := defScope s_parts_below) (by decide +kernel)))
      (r1 := .dat (.list ((mPB ns size).map tI))) (by unfold mPB; rw [List.map_map]; rfl)) fin0
/-! ### rows_of_sum -/
abbrev N_rows_of_sum : List Str := ["total", "rooms", "found", "room", "head", "left", "many"]
abbrev PS_tr : List Str := ["total", "rooms"]
theorem sc_rows_of_sum : FnScope N_rows_of_sum PS_tr (defScope s_rows_of_sum) := ⟨rfl, rfl, rfl, by decide +kernel, rfl, by decide +kernel, by decide +kernel⟩
def Rrows_of_sum : RS := pureR fun ds d => ∃ (total : Int) (rooms : List Int), okRS total rooms = true ∧ ds = [.int total, .list (dI rooms)] ∧ d = .list ((mRS total rooms).map tI)
theorem ok_rows_of_sum (B : Bl mg) (F : FnP K "rows_of_sum" s_rows_of_sum f fd) : FnOk P w K mg base CX0 1 f fd PS_tr (spF 2 Rrows_of_sum) := by
  refine fn_sd F sc_rows_of_sum (len1 fun ds d ⟨v, l, _, e, _⟩ => by rw [e]; rfl) fun cdv A outer s H E hr rs M r M' hR => ?_
  obtain ⟨ds, d, rfl, rfl, rfl, total, rooms, ho, rfl, rfl⟩ := hR
  obtain ⟨hz, ho⟩ := Bool.and_eq_true_iff.mp ho
  obtain ⟨hl, hz⟩ := Bool.and_eq_true_iff.mp hz
  have hl := of_decide_eq_true hl
  have hst : ∀ i, i ≤ rooms.length → okSt (rsAt total rooms i) = true := fun i hi => List.all_eq_true.mp ho i (List.mem_range.mpr (by omega))
  refine sd_set (i := 2) (r := .dat (.list ((rsAt total rooms 0).map encKV))) (ed_lst (ds := [encKV ([], total)]) (ea_cons (ed_tup (ds := [tI [], .int total]) (ea_cons (ed_tup (ds := []) ea_nil (by decide)) (ea_cons (ed_var 0) ea_nil)) (by simp)) ea_nil) (by simp)) ?_ sc_rows_of_sum.nd
  refine sd_for (L := rooms) (enc := .int) (bs := fun p => [(3, .int p)]) (fun i Γ N => ∃ r3 r4 r5 r6, Γ = [.i total, .dat (.list (dI rooms)), .dat (.list ((rsAt total rooms i).map encKV)), r3, r4, r5, r6] ∧ N = M') (src_list (ed_var 1))
    (pgn 3 sc_rows_of_sum.nd) (fun _ _ => tg_name) ⟨.no, .no, .no, .no, rfl, rfl⟩ (fun i Γ N ⟨_, _, _, _, _, e⟩ => by rw [e]; exact Kp.refl _)
    (fun i room Γ N hb ⟨r3, r4, r5, r6, e1, e2⟩ => ?_) fun Γ N ⟨r3, r4, r5, r6, e1, e2⟩ => ?_
  · subst e1 e2
    have ef : rsAt total rooms (i + 1) = rsStep (rsAt total rooms i) room := foldl_take rsStep _ hb
    have h1 := (List.getElem?_eq_some_iff.mp hb).1
    have o1 := hst i (by omega)
    have o2 := hst (i + 1) (by omega)
    have hroom := inR_iff (List.all_eq_true.mp hz _ (List.mem_of_getElem? hb))
    refine sd_setLc2 (i := 2) (L := rsAt total rooms i) (Li := fun h => rg 0 (min room h.2 + 1).toNat) (enc := encKV) (enc2 := fun _ c => .int c) (bs := fun h => [(4, tI h.1), (5, .int h.2)]) (bs2 := fun _ c => [(6, .int c)]) (f := fun h c => encKV (h.1 ++ [c], h.2 - c)) [("head", 4), ("left", 5), ("many", 6)] [6]
        (src_list (ed_var 2)) (fun _ _ _ _ _ => pg_tup rfl (pgs_cons (pgn 4 sc_rows_of_sum.nd) (pgs_cons (pgn 5 sc_rows_of_sum.nd) pgs_nil))) (fun _ _ _ _ _ => pgn 6 sc_rows_of_sum.nd) (fun _ _ => tg_pair) (fun _ _ p hp => by simp at hp; rcases hp with hp | hp <;> simp [hp])
        (fun h hh M2 _ _ _ _ _ => src_range1 B.range_ (ed_add (ed_min2 B.min_ (ea_cons (ed_var 3) (ea_cons (ed_var 5) ea_nil))) ed_int) ?_ ?_) (fun _ _ _ _ => tg_name) (fun _ _ _ _ p hp => by simp at hp; simp [hp])
        (fun h hh c hc M2 _ _ _ _ _ => ed_tup (ds := [tI (h.1 ++ [c]), .int (h.2 - c)]) (ea_cons (ed_is (ed_tup (ds := dI h.1 ++ [.int c]) (by rw [List.map_append]; exact ea_star (ed_var 4) (ea_cons (ed_var 6) ea_nil)) ?_) (by rw [tI, dI_app]; rfl)) (ea_cons (ed_sub (ed_var 5) (ed_var 6)) ea_nil)) (by simp))
        ?_ (fun i hi => by simp at hi; simp [hi]) sc_rows_of_sum.nd (blkOk_by (N := N_rows_of_sum) (sc := defScope s_rows_of_sum) (by decide +kernel)) ?_ rfl
    · have := (okSt_in o1 hh).1
      omega
    · have := (okSt_in o1 hh).1
      omega
    · have := (okSt_in o1 hh).2
      rw [List.length_append, dI_len]
      show h.1.length + 1 ≤ _
      omega
    · rw [rs_flat, List.length_map]
      have := okSt_len o2
      rw [ef] at this
      exact Nat.le_trans this (by decide)
    · rw [rs_flat]
      refine sd_nil ⟨.i room, r4, r5, r6, ?_, rfl⟩
      rw [ef]
      rfl
  · subst e1 e2
    have o1 := hst rooms.length (Nat.le_refl _)
    refine sd_ret (ed_is (ed_lcIf (L := rsAt total rooms rooms.length) (enc := encKV) (bs := fun h => [(4, tI h.1), (5, .int h.2)]) (q := fun h => decide (h.2 = 0)) (f := fun h => tI h.1) [("head", 4), ("left", 5)] (src_list (ed_var 2)) (fun _ _ _ _ _ => pg_tup rfl (pgs_cons (pgn 4 sc_rows_of_sum.nd) (pgs_cons (pgn 5 sc_rows_of_sum.nd) pgs_nil)))
      (fun _ _ => tg_pair) (fun _ _ p hp => by simp at hp; rcases hp with hp | hp <;> simp [hp]) (fun h _ M2 _ _ _ _ _ => et_eqI (ed_var 5) ed_int) (fun h hh _ M2 _ _ _ _ _ => ed_var 4) (Nat.le_trans (okSt_len o1) (by decide)) sc_rows_of_sum.nd (blkOk_by (N := N_rows_of_sum) (sc := defScope s_rows_of_sum) (by decide +kernel)))
      (r1 := .dat (.list ((mRS total rooms).map tI))) (by unfold mRS; rw [List.map_map]; rfl)) fin0
end
end Wm
set_option Elab.async false
set_option linter.all false
set_option maxRecDepth 100000
set_option maxHeartbeats 4000000
namespace Wm
open PySem PySem.Spec PyProof.Rows L2
theorem sd_asg {X : Cx} {Γ : List Sl} {M M1 : Own} {tg e : Expr} {rest : List Stmt} {pos : Pos} {P : Post} {g : TG} {d : PyData} {bs : List (Nat × PyData)} (he : ED X Γ M e (.dat d) M1) (hg : PG X tg g) (htg : TgOk g d bs) (hk : SD X (sets Γ (datS bs)) M1 rest P)
    (hs : swapsWithSole [tg] e pos.line X.env = pure false := by rfl) (hw : swappedStores [tg] e X.env = pure none := by rfl) (h1 : (assignEach [tg] X.env).map (·.2) = [assign tg X.env] := by rfl) : SD X Γ M (.Assign [tg] e pos :: rest) P := fun σ H D k n t =>
  PSs_w (pss_cons (ps_asg pe_w hg hs hw h1) pss_w) (he σ H _ k fun v H1 g1 o1 r1 => htg v σ H1 M1 _ r1 fun vs hvs =>
    hk _ H1 D ⟨o1, (k.env.mono g1).sets hvs⟩ (fun Γ' M' σ' H' p g => n Γ' M' σ' H' p (g1.trans g)) fun r M' v H' p g => t r M' v H' p (g1.trans g))
theorem tcOne_len (many : Int) (k : St2) (p : List Int × Int) : (tcOne many k p).length ≤ k.length + (mPB p.1 many).length := foldl_putW_len _ _ _
theorem acOne_len (most total : Int) (k : St2) (p : List Int × Int) : (acOne most total k p).length ≤ k.length + (acKeys most total p.1).length := foldl_putW_len _ _ _
theorem kp_two {a b d : Addr} {x y : List (List Int × Int)} {z : MO} {M : Own} : Kp ((a, MO.dct x) :: (d, z) :: M) ((b, MO.dct y) :: (d, z) :: M) := kp_headD
theorem prs_dI (a b : List Int) : prs (dI a) (dI b) = (a.zip b).map enc2 := by
  unfold prs dI enc2
  rw [List.zip_map, List.map_map]
  rfl
section
variable {P : Program} {w : World} {K : Fg} {mg : Str → Option Value} {base : Heap} {f : Addr} {fd : FuncData}
/-! ### tables_counted -/
abbrev N_tables_counted : List Str := ["shape", "amounts", "now", "many", "later", "held", "ways", "less"]
abbrev PS_sa : List Str := ["shape", "amounts"]
theorem sc_tables_counted : FnScope N_tables_counted PS_sa (defScope s_tables_counted) := ⟨rfl, rfl, rfl, by decide +kernel, rfl, by decide +kernel, by decide +kernel⟩
def Rtables_counted : RS := pureR fun ds d => ∃ (sh am : List Int), okTab sh am = true ∧ ds = [tI sh, tI am] ∧ d = .int (mTab sh am)
theorem ok_tables_counted (B : Bl mg) (C1 : Cal P w K mg base 2 "parts_below" ["shape", "size"] Rparts_below) (F : FnP K "tables_counted" s_tables_counted f fd) : FnOk P w K mg base CX0 3 f fd PS_sa (spF 2 Rtables_counted) := by
  refine fn_sd F sc_tables_counted (len1 fun ds d ⟨v, l, _, e, _⟩ => by rw [e]; rfl) fun cdv A outer s H E hr rs M r M' hR => ?_
  obtain ⟨ds, d, rfl, rfl, rfl, sh, am, ho, rfl, rfl⟩ := hR
  obtain ⟨hl, ho⟩ := Bool.and_eq_true_iff.mp ho
  have hl := of_decide_eq_true hl
  have hu : (A.deeper (envOfC "tables_counted" (defScope s_tables_counted) s.heap.objs.size f cdv)).units + 1 < cLine := by
    have := hr.units
    omega
  refine sd_disp1 (i := 2) (ns := sh) (m := 1) hu (fun l => ed_var 0) (fun l => ed_int) (fun l => ?_) sc_tables_counted.nd
  refine sd_for (L := am.reverse) (enc := .int) (bs := fun b => [(3, .int b)]) (fun i Γ N => ∃ l r3 r4 r5 r6 r7, Γ = [.t sh, .t am, .at (.ref l), r3, r4, r5, r6, r7] ∧ N = (l, .dct ((am.reverse.take i).foldl tcStep [(sh, 1)])) :: M') (src_is (src_tup (ed_revT (ed_var 1))) (by unfold dI; rw [List.map_reverse]))
    (pgn 3 sc_tables_counted.nd) (fun _ _ => tg_name) ⟨l, .no, .no, .no, .no, .no, rfl, rfl⟩ (fun i Γ N ⟨_, _, _, _, _, _, _, e⟩ => by rw [e]; exact kp_headD) (fun i many Γ N hb ⟨l, r3, r4, r5, r6, r7, e1, e2⟩ => ?_) fun Γ N ⟨l, r3, r4, r5, r6, r7, e1, e2⟩ => ?_
  · subst e1 e2
    have ef := foldl_take tcStep [(sh, 1)] hb
    have oT : okTS ((am.reverse.take i).foldl tcStep [(sh, 1)]) many = true := by
      have := List.all_eq_true.mp ho _ (enI_mem hb)
      rw [Int.toNat_natCast] at this
      exact this
    generalize (am.reverse.take i).foldl tcStep [(sh, 1)] = now at ef oT
    obtain ⟨oK, oz⟩ := Bool.and_eq_true_iff.mp oT
    have oz := of_decide_eq_true oz
    refine sd_dnew (i := 4) (fun l2 => ?_) sc_tables_counted.nd
    refine sd_forD (bs := fun p => [(5, tI p.1), (6, .int p.2)]) (fun j Γ q => ∃ r5 r6 r7, Γ = [.t sh, .t am, .at (.ref l), .i many, .at (.ref l2), r5, r6, r7] ∧ q = (l2, .dct ((now.take j).foldl (tcOne many) []))) (fun o => ed_var 2)
      (pg_tup rfl (pgs_cons (pgn 5 sc_tables_counted.nd) (pgs_cons (pgn 6 sc_tables_counted.nd) pgs_nil))) (fun _ _ => tg_pair) ⟨r5, r6, r7, rfl, rfl⟩ (fun j Γ' q' ⟨_, _, _, _, e⟩ o k => by rw [e]; exact nofun) (fun o k => nofun) (fun o j p Γ' q' hp ⟨r5, r6, r7, e1, e2⟩ => ?_) fun Γ' q' ⟨r5, r6, r7, e1, e2⟩ => ?_
    · subst e1 e2
      have eg := foldl_take (tcOne many) [] hp
      have okp := List.all_eq_true.mp oK _ (List.mem_of_getElem? hp)
      have l1 : ((now.take j).foldl (tcOne many) []).length + (mPB p.1 many).length ≤ 1000 := by
        have a1 := foldl_len (tcOne many) (fun p => (mPB p.1 many).length) (tcOne_len many) (now.take j) []
        have a2 := sum_take (fun p : List Int × Int => (mPB p.1 many).length) now (j + 1)
        rw [List.take_add_one, hp, List.map_append, List.sum_append] at a2
        have a3 : (List.map (fun p : List Int × Int => (mPB p.1 many).length) (some p).toList).sum = (mPB p.1 many).length := by simp
        rw [a3] at a2
        simp only [List.length_nil] at a1
        omega
      generalize (now.take j).foldl (tcOne many) [] = later at eg l1
      refine sd_for (L := mPB p.1 many) (enc := tI) (bs := fun k => [(7, tI k)]) (fun j Γ N => ∃ r7, Γ = [.t sh, .t am, .at (.ref l), .i many, .at (.ref l2), .t p.1, .i p.2, r7] ∧ N = (l2, .dct (((mPB p.1 many).take j).foldl (putW p.2) later)) :: (l, .frz o now) :: M')
        (src_list (ed_call C1 hr (ea_cons (ed_var 5) (ea_cons (ed_var 3) ea_nil)) ⟨[tI p.1, .int many], _, rfl, rfl, rfl, p.1, many, okp, rfl, rfl⟩)) (pgn 7 sc_tables_counted.nd) (fun _ _ => tg_name) ⟨r7, rfl, rfl⟩ (fun i Γ N ⟨_, _, e⟩ => by rw [e]; exact kp_two) (fun m less Γ N hm ⟨r7, e1, e2⟩ => ?_) fun Γ N ⟨r7, e1, e2⟩ => ?_
      · subst e1 e2
        have eh := foldl_take (putW p.2) later hm
        have l2' : (((mPB p.1 many).take m).foldl (putW p.2) later).length ≤ 1000 := by
          have a1 := foldl_putW_len p.2 ((mPB p.1 many).take m) later
          rw [List.length_take] at a1
          omega
        generalize ((mPB p.1 many).take m).foldl (putW p.2) later = kvs at eh l2'
        refine sd_dput (kvs := kvs) (ns := less) (v := gT kvs less 0 + p.2) hu (ed_add (ed_dget hu List.mem_cons_self List.mem_cons_self (ed_var 4) (ed_var 7) ed_int ⟨rfl, rfl, rfl, rfl⟩) (ed_var 6)) (ed_var 4) (ed_var 7) (by omega) (sd_nil ⟨.t less, rfl, ?_⟩)
        rw [eh]
        rfl
      · subst e1 e2
        rw [List.take_length]
        refine sd_nil ⟨_, rfl, .t p.1, .i p.2, r7, rfl, ?_⟩
        rw [eg]
        rfl
    · subst e1 e2
      rw [List.take_length]
      refine sd_set (i := 2) (r := .at (.ref l2)) (ed_var 4) (sd_drop2 (sd_nil ⟨l2, .i many, .at (.ref l2), r5, r6, r7, rfl, ?_⟩)) sc_tables_counted.nd
      rw [ef]
      rfl
  · subst e1 e2
    rw [List.take_length]
    exact sd_ret (ed_dget hu List.mem_cons_self List.mem_cons_self (ed_var 2) (ed_tup (ds := dI []) ea_nil (by decide)) ed_int ⟨rfl, rfl, rfl, rfl⟩) fin1d
theorem sc_table_count : FnScope PS_sa PS_sa (defScope s_table_count) := ⟨rfl, rfl, rfl, by decide +kernel, rfl, by decide +kernel, by decide +kernel⟩
def okTC (sh am : List Int) : Bool := (decide (sh.length ≤ 1000) && okShape 40 sh) && ((decide (am.length ≤ 1000) && okAm 12 am) && (okTab sh am && decide (am.sum = sh.sum)))
def Rtable_count : RS := pureR fun ds d => ∃ (sh am : List Int), okTC sh am = true ∧ ds = [tI sh, tI am] ∧ d = .int (mTab sh am)
theorem ok_table_count (B : Bl mg) (C1 : Cal P w K mg base 3 "check_shape" PS_vm Rcheck_shape) (C2 : Cal P w K mg base 2 "check_amounts" ["value"] Rcheck_amounts) (C3 : Cal P w K mg base 3 "tables_counted" PS_sa Rtables_counted) (F : FnP K "table_count" s_table_count f fd) : FnOk P w K mg base CX0 4 f fd PS_sa (spF 2 Rtable_count) := by
  refine fn_sd F sc_table_count (len1 fun ds d ⟨v, l, _, e, _⟩ => by rw [e]; rfl) fun cdv A outer s H E hr rs M r M' hR => ?_
  obtain ⟨ds, d, rfl, rfl, rfl, sh, am, ho, rfl, rfl⟩ := hR
  obtain ⟨h1, ho⟩ := Bool.and_eq_true_iff.mp ho
  obtain ⟨h2, ho⟩ := Bool.and_eq_true_iff.mp ho
  obtain ⟨h3, h4⟩ := Bool.and_eq_true_iff.mp ho
  obtain ⟨h1a, h1b⟩ := Bool.and_eq_true_iff.mp h1
  obtain ⟨h2a, h2b⟩ := Bool.and_eq_true_iff.mp h2
  refine sd_expr (ed_call C1 hr (ea_cons (ed_var 0) (ea_cons (ed_globI B.mBoxes) ea_nil)) ⟨[tI sh, .int 40], .none, rfl, rfl, rfl, sh, 40, of_decide_eq_true h1a, h1b, rfl, rfl⟩) ?_
  refine sd_expr (ed_call (C2.mono (by decide)) hr (ea_cons (ed_var 1) ea_nil) ⟨[tI am], .none, rfl, rfl, rfl, am, of_decide_eq_true h2a, h2b, rfl, rfl⟩) ?_
  exact sd_ret (ed_ifS (p := true) (et_is (et_eqI (ed_sumT B.sum_ (ed_var 1)) (ed_sumT B.sum_ (ed_var 0))) h4) (fun _ => ed_call C3 hr (ea_cons (ed_var 0) (ea_cons (ed_var 1) ea_nil)) ⟨[tI sh, tI am], _, rfl, rfl, rfl, sh, am, h3, rfl, rfl⟩) nofun) fin0
/-! ### arrays_counted -/
abbrev N_arrays_counted : List Str := ["rows", "columns", "most", "now", "total", "later", "left", "ways", "taken", "rest", "room", "many"]
abbrev PS_rcm : List Str := ["rows", "columns", "most"]
theorem sc_arrays_counted : FnScope N_arrays_counted PS_rcm (defScope s_arrays_counted) := ⟨rfl, rfl, rfl, by decide +kernel, rfl, by decide +kernel, by decide +kernel⟩
def Rarrays_counted : RS := pureR fun ds d => ∃ (rows cols : List Int) (most : Int), okArr rows cols most = true ∧ ds = [tI rows, tI cols, .int most] ∧ d = .int (mArr rows cols most)
theorem rep_flat (z : PyData) (k : Nat) : (List.replicate k [z]).flatten = List.replicate k z := by
  induction k with
  | zero => rfl
  | succ k ih => rw [List.replicate_succ, List.flatten_cons, ih, List.replicate_succ]; rfl
theorem ok_arrays_counted (B : Bl mg) (C1 : Cal P w K mg base 1 "rows_of_sum" PS_tr Rrows_of_sum) (F : FnP K "arrays_counted" s_arrays_counted f fd) : FnOk P w K mg base CX0 3 f fd PS_rcm (spF 3 Rarrays_counted) := by
  refine fn_sd F sc_arrays_counted (len1 fun ds d ⟨v, l, _, _, e, _⟩ => by rw [e]; rfl) fun cdv A outer s H E hr rs M r M' hR => ?_
  obtain ⟨ds, d, rfl, rfl, rfl, rows, cols, most, ho, rfl, rfl⟩ := hR
  obtain ⟨hl, ho⟩ := Bool.and_eq_true_iff.mp ho
  obtain ⟨hl, hcl⟩ := Bool.and_eq_true_iff.mp hl
  have hl := of_decide_eq_true hl
  have hcl := inR_iff hcl
  have hu : (A.deeper (envOfC "arrays_counted" (defScope s_arrays_counted) s.heap.objs.size f cdv)).units + 1 < cLine := by
    have := hr.units
    omega
  refine sd_disp1 (i := 3) (ns := cols) (m := 1) hu (fun l => ed_var 1) (fun l => ed_int) (fun l => ?_) sc_arrays_counted.nd
  refine sd_for (L := rows) (enc := .int) (bs := fun b => [(4, .int b)]) (fun i Γ N => ∃ l r4 r5 r6 r7 r8 r9, Γ = [.t rows, .t cols, .i most, .at (.ref l), r4, r5, r6, r7, r8, r9, .no, .no] ∧ N = (l, .dct ((rows.take i).foldl (acStep most) [(cols, 1)])) :: M') (src_tup (ed_var 0))
    (pgn 4 sc_arrays_counted.nd) (fun _ _ => tg_name) ⟨l, .no, .no, .no, .no, .no, .no, rfl, rfl⟩ (fun i Γ N ⟨_, _, _, _, _, _, _, _, e⟩ => by rw [e]; exact kp_headD) (fun i total Γ N hb ⟨l, r4, r5, r6, r7, r8, r9, e1, e2⟩ => ?_) fun Γ N ⟨l, r4, r5, r6, r7, r8, r9, e1, e2⟩ => ?_
  · subst e1 e2
    have ef := foldl_take (acStep most) [(cols, 1)] hb
    have oT : okAS most ((rows.take i).foldl (acStep most) [(cols, 1)]) total = true := by
      have := List.all_eq_true.mp ho _ (enI_mem hb)
      rw [Int.toNat_natCast] at this
      exact this
    generalize (rows.take i).foldl (acStep most) [(cols, 1)] = now at ef oT
    obtain ⟨oK, oz⟩ := Bool.and_eq_true_iff.mp oT
    have oz := of_decide_eq_true oz
    refine sd_dnew (i := 5) (fun l2 => ?_) sc_arrays_counted.nd
    refine sd_forD (bs := fun p => [(6, tI p.1), (7, .int p.2)]) (fun j Γ q => ∃ r6 r7 r8 r9, Γ = [.t rows, .t cols, .i most, .at (.ref l), .i total, .at (.ref l2), r6, r7, r8, r9, .no, .no] ∧ q = (l2, .dct ((now.take j).foldl (acOne most total) []))) (fun o => ed_var 3)
      (pg_tup rfl (pgs_cons (pgn 6 sc_arrays_counted.nd) (pgs_cons (pgn 7 sc_arrays_counted.nd) pgs_nil))) (fun _ _ => tg_pair) ⟨r6, r7, r8, r9, rfl, rfl⟩ (fun j Γ' q' ⟨_, _, _, _, _, e⟩ o k => by rw [e]; exact nofun) (fun o k => nofun) (fun o j p Γ' q' hp ⟨r6, r7, r8, r9, e1, e2⟩ => ?_) fun Γ' q' ⟨r6, r7, r8, r9, e1, e2⟩ => ?_
    · subst e1 e2
      have eg := foldl_take (acOne most total) [] hp
      have okp := List.all_eq_true.mp oK _ (List.mem_of_getElem? hp)
      obtain ⟨okp, okp2⟩ := Bool.and_eq_true_iff.mp okp
      obtain ⟨okp2, okp3⟩ := Bool.and_eq_true_iff.mp okp2
      have hpl := small_len okp
      have l1 : ((now.take j).foldl (acOne most total) []).length + (acKeys most total p.1).length ≤ 1000 := by
        have a1 := foldl_len (acOne most total) (fun p => (acKeys most total p.1).length) (acOne_len most total) (now.take j) []
        have a2 := sum_take (fun p : List Int × Int => (acKeys most total p.1).length) now (j + 1)
        rw [List.take_add_one, hp, List.map_append, List.sum_append] at a2
        have a3 : (List.map (fun p : List Int × Int => (acKeys most total p.1).length) (some p).toList).sum = (acKeys most total p.1).length := by simp
        rw [a3] at a2
        simp only [List.length_nil] at a1
        omega
      generalize (now.take j).foldl (acOne most total) [] = later at eg l1
      have ekl : (acKeys most total p.1).length = (mRS total (p.1.map (min most))).length := by unfold acKeys; rw [List.length_map]
      refine sd_for (L := mRS total (p.1.map (min most))) (enc := tI) (bs := fun k => [(8, tI k)]) (fun j Γ N => ∃ r8 r9, Γ = [.t rows, .t cols, .i most, .at (.ref l), .i total, .at (.ref l2), .t p.1, .i p.2, r8, r9, .no, .no] ∧ N = (l2, .dct (((acKeys most total p.1).take j).foldl (putW p.2) later)) :: (l, .frz o now) :: M')
        (src_list (ed_call C1 (hr.mono (by decide)) (ea_cons (ed_var 4) (ea_cons (ed_is (ed_lc (L := p.1) (enc := .int) (bs := fun n => [(10, .int n)]) (f := fun n => .int (min most n)) [("room", 10)] (src_tup (ed_var 6)) (fun _ _ _ _ _ => pgn 10 sc_arrays_counted.nd) (fun _ _ => tg_name) (fun _ _ p hp => by simp at hp; simp [hp])
          (fun n _ M2 _ _ _ _ _ => ed_min2 B.min_ (ea_cons (ed_var 2) (ea_cons (ed_var 10) ea_nil))) (by omega) sc_arrays_counted.nd (blkOk_by (N := N_arrays_counted) (sc := defScope s_arrays_counted) (by decide +kernel))) (r1 := .dat (.list (dI (p.1.map (min most))))) (by unfold dI; rw [List.map_map]; rfl)) ea_nil)) ⟨[.int total, .list (dI (p.1.map (min most)))], _, rfl, rfl, rfl, total, p.1.map (min most), okp2, rfl, rfl⟩))
        (pgn 8 sc_arrays_counted.nd) (fun _ _ => tg_name) ⟨r8, r9, rfl, rfl⟩ (fun i Γ N ⟨_, _, _, e⟩ => by rw [e]; exact kp_two) (fun m taken Γ N hm ⟨r8, r9, e1, e2⟩ => ?_) fun Γ N ⟨r8, r9, e1, e2⟩ => ?_
      · subst e1 e2
        have hm2 : (acKeys most total p.1)[m]? = some ((p.1.zip taken).map fun p => p.1 - p.2) := by
          unfold acKeys
          rw [List.getElem?_map, hm]
          rfl
        have eh := foldl_take (putW p.2) later hm2
        have l2' : (((acKeys most total p.1).take m).foldl (putW p.2) later).length ≤ 1000 := by
          have a1 := foldl_putW_len p.2 ((acKeys most total p.1).take m) later
          rw [List.length_take] at a1
          omega
        have hlen : p.1.length = taken.length := of_decide_eq_true (List.all_eq_true.mp okp3 _ (List.mem_of_getElem? hm))
        generalize ((acKeys most total p.1).take m).foldl (putW p.2) later = kvs at eh l2'
        refine sd_set (i := 9) (r := .t ((p.1.zip taken).map fun p => p.1 - p.2)) (ed_tupleL B.tuple_ (ed_is (ed_lc (L := p.1.zip taken) (enc := enc2) (bs := fun q => [(10, .int q.1), (11, .int q.2)]) (f := fun q => .int (q.1 - q.2)) [("room", 10), ("many", 11)]
          (src_is (src_zipT B.zip_ (ea_cons (ed_var 6) (ea_cons (ed_var 8) ea_nil)) (by rw [dI_len, dI_len, hlen])) (prs_dI _ _)) (fun _ _ _ _ _ => pg_tup rfl (pgs_cons (pgn 10 sc_arrays_counted.nd) (pgs_cons (pgn 11 sc_arrays_counted.nd) pgs_nil))) (fun _ _ => tg_pair) (fun _ _ p hp => by simp at hp; rcases hp with hp | hp <;> simp [hp])
          (fun n _ M2 _ _ _ _ _ => ed_sub (ed_var 10) (ed_var 11)) (by rw [List.length_zip]; omega) sc_arrays_counted.nd (blkOk_by (N := N_arrays_counted) (sc := defScope s_arrays_counted) (by decide +kernel))) (by unfold dI; rw [List.map_map]; rfl))) ?_ sc_arrays_counted.nd
        refine sd_dput (kvs := kvs) (ns := (p.1.zip taken).map fun p => p.1 - p.2) (v := gT kvs ((p.1.zip taken).map fun p => p.1 - p.2) 0 + p.2) hu (ed_add (ed_dget hu List.mem_cons_self List.mem_cons_self (ed_var 5) (ed_var 9) ed_int ⟨rfl, rfl, rfl, rfl⟩) (ed_var 7)) (ed_var 5) (ed_var 9) (by omega) (sd_nil ⟨.t taken, .t ((p.1.zip taken).map fun p => p.1 - p.2), rfl, ?_⟩)
        rw [eh]
        rfl
      · subst e1 e2
        rw [← ekl, List.take_length]
        refine sd_nil ⟨_, rfl, .t p.1, .i p.2, r8, r9, rfl, ?_⟩
        rw [eg]
        rfl
    · subst e1 e2
      rw [List.take_length]
      refine sd_set (i := 3) (r := .at (.ref l2)) (ed_var 5) (sd_drop2 (sd_nil ⟨l2, .i total, .at (.ref l2), r6, r7, r8, r9, rfl, ?_⟩)) sc_arrays_counted.nd
      rw [ef]
      rfl
  · subst e1 e2
    rw [List.take_length]
    refine sd_ret (ed_dget (ns := List.replicate cols.length 0) hu List.mem_cons_self List.mem_cons_self (ed_var 3) (ed_is (ed_mulT (ds := [.int 0]) (k := cols.length) (by omega) (by omega) nofun (by simp) (ed_tup (ds := [.int 0]) (ea_cons ed_int ea_nil) (by simp)) (ed_is (ed_lenT B.len_ (ed_var 1)) (by rw [dI_len]))) ?_) ed_int ⟨rfl, rfl, rfl, rfl⟩) fin1d
    rw [Int.toNat_natCast, rep_flat]
    unfold Sl.t tI dI
    rw [List.map_replicate]
/-! ### margin_count, zero_one_count -/
abbrev PS_rc : List Str := ["rows", "columns"]
theorem sc_margin_count : FnScope PS_rc PS_rc (defScope s_margin_count) := ⟨rfl, rfl, rfl, by decide +kernel, rfl, by decide +kernel, by decide +kernel⟩
theorem sc_zero_one_count : FnScope PS_rc PS_rc (defScope s_zero_one_count) := ⟨rfl, rfl, rfl, by decide +kernel, rfl, by decide +kernel, by decide +kernel⟩
def okMC (most : Int) (rows cols : List Int) : Bool := (okMg rows && okMg cols) && okArr rows cols most
def RmarginW (most : Int) : RS := pureR fun ds d => ∃ (rows cols : List Int), okMC most rows cols = true ∧ ds = [tI rows, tI cols] ∧ d = .int (mArr rows cols most)
theorem ok_margin_count (B : Bl mg) (C1 : Cal P w K mg base 2 "check_margins" ["value"] Rcheck_margins) (C2 : Cal P w K mg base 3 "arrays_counted" PS_rcm Rarrays_counted) (F : FnP K "margin_count" s_margin_count f fd) : FnOk P w K mg base CX0 4 f fd PS_rc (spF 2 (RmarginW 12)) := by
  refine fn_sd F sc_margin_count (len1 fun ds d ⟨v, l, _, e, _⟩ => by rw [e]; rfl) fun cdv A outer s H E hr rs M r M' hR => ?_
  obtain ⟨ds, d, rfl, rfl, rfl, rows, cols, ho, rfl, rfl⟩ := hR
  obtain ⟨h1, h3⟩ := Bool.and_eq_true_iff.mp ho
  obtain ⟨h1, h2⟩ := Bool.and_eq_true_iff.mp h1
  refine sd_expr (ed_call (C1.mono (by decide)) hr (ea_cons (ed_var 0) ea_nil) ⟨[tI rows], .none, rfl, rfl, rfl, rows, h1, rfl, rfl⟩) ?_
  refine sd_expr (ed_call (C1.mono (by decide)) hr (ea_cons (ed_var 1) ea_nil) ⟨[tI cols], .none, rfl, rfl, rfl, cols, h2, rfl, rfl⟩) ?_
  exact sd_ret (ed_call C2 hr (ea_cons (ed_var 0) (ea_cons (ed_var 1) (ea_cons (ed_globI B.mLong) ea_nil))) ⟨[tI rows, tI cols, .int 12], _, rfl, rfl, rfl, rows, cols, 12, h3, rfl, rfl⟩) fin0
theorem ok_zero_one_count (B : Bl mg) (C1 : Cal P w K mg base 2 "check_margins" ["value"] Rcheck_margins) (C2 : Cal P w K mg base 3 "arrays_counted" PS_rcm Rarrays_counted) (F : FnP K "zero_one_count" s_zero_one_count f fd) : FnOk P w K mg base CX0 4 f fd PS_rc (spF 2 (RmarginW 1)) := by
  refine fn_sd F sc_zero_one_count (len1 fun ds d ⟨v, l, _, e, _⟩ => by rw [e]; rfl) fun cdv A outer s H E hr rs M r M' hR => ?_
  obtain ⟨ds, d, rfl, rfl, rfl, rows, cols, ho, rfl, rfl⟩ := hR
  obtain ⟨h1, h3⟩ := Bool.and_eq_true_iff.mp ho
  obtain ⟨h1, h2⟩ := Bool.and_eq_true_iff.mp h1
  refine sd_expr (ed_call (C1.mono (by decide)) hr (ea_cons (ed_var 0) ea_nil) ⟨[tI rows], .none, rfl, rfl, rfl, rows, h1, rfl, rfl⟩) ?_
  refine sd_expr (ed_call (C1.mono (by decide)) hr (ea_cons (ed_var 1) ea_nil) ⟨[tI cols], .none, rfl, rfl, rfl, cols, h2, rfl, rfl⟩) ?_
  exact sd_ret (ed_call C2 hr (ea_cons (ed_var 0) (ea_cons (ed_var 1) (ea_cons ed_int ea_nil))) ⟨[tI rows, tI cols, .int 1], _, rfl, rfl, rfl, rows, cols, 1, h3, rfl, rfl⟩) fin0
/-! ### own_inverse_count -/
abbrev N_own_inverse_count : List Str := ["size", "before", "now", "number"]
theorem sc_own_inverse_count : FnScope N_own_inverse_count ["size"] (defScope s_own_inverse_count) := ⟨rfl, rfl, rfl, by decide +kernel, rfl, by decide +kernel, by decide +kernel⟩
def oiStep (p : Int × Int) (k : Int) : Int × Int := (p.2, p.2 + (k - 1) * p.1)
def mOwn (n : Int) : Int := ((rg 1 (n + 1 - 1).toNat).foldl oiStep (0, 1)).2
def Rown_inverse_count : RS := pureR fun ds d => ∃ n : Int, inR 0 40 n = true ∧ ds = [.int n] ∧ d = .int (mOwn n)
theorem ok_own_inverse_count (B : Bl mg) (C1 : Cal P w K mg base 1 "is_number" PS_num Ris_number) (F : FnP K "own_inverse_count" s_own_inverse_count f fd) : FnOk P w K mg base CX0 2 f fd ["size"] (spF 1 Rown_inverse_count) := by
  refine fn_sd F sc_own_inverse_count (len1 fun ds d ⟨v, _, e, _⟩ => by rw [e]; rfl) fun cdv A outer s H E hr rs M r M' hR => ?_
  obtain ⟨ds, d, rfl, rfl, rfl, n, ho, rfl, rfl⟩ := hR
  have hn := inR_iff ho
  refine sd_if0 (et_nT (et_is (et_val (ed_call C1 hr (ea_cons (ed_var 0) (ea_cons ed_int (ea_cons (ed_globI B.mBoxes) ea_nil))) ⟨[.int n, .int 0, .int 40], _, rfl, rfl, rfl, n, 0, 40, rfl, rfl⟩)) ho)) ?_
  refine sd_asg (bs := [(1, .int 0), (2, .int 1)]) (ed_tup (ds := [.int 0, .int 1]) (ea_cons ed_int (ea_cons ed_int ea_nil)) (by simp)) (pg_tup rfl (pgs_cons (pgn 1 sc_own_inverse_count.nd) (pgs_cons (pgn 2 sc_own_inverse_count.nd) pgs_nil))) tg_pair ?_
  refine sd_for (L := rg 1 (n + 1 - 1).toNat) (enc := .int) (bs := fun b => [(3, .int b)]) (fun j Γ N' => ∃ r, Γ = [.i n, .i (((rg 1 (n + 1 - 1).toNat).take j).foldl oiStep (0, 1)).1, .i (((rg 1 (n + 1 - 1).toNat).take j).foldl oiStep (0, 1)).2, r] ∧ N' = M') (src_range2 B.range_ (ea_cons ed_int (ea_cons (ed_add (ed_var 0) ed_int) ea_nil)) (by omega) (by omega) (by omega) (by omega))
    (pgn 3 sc_own_inverse_count.nd) (fun _ _ => tg_name) ⟨.no, rfl, rfl⟩ (fun i Γ N ⟨_, _, e⟩ => by rw [e]; exact Kp.refl _) (fun j c Γ N' hc ⟨r4, e1, e2⟩ => ?_) fun Γ N' ⟨r4, e1, e2⟩ => ?_
  · subst e1 e2
    have eg := foldl_take oiStep (0, 1) hc
    obtain ⟨h3, h4⟩ := rg_at hc
    generalize ((rg 1 (n + 1 - 1).toNat).take j).foldl oiStep (0, 1) = q at eg
    refine sd_par (i := 1) (j := 2) (r1 := .i q.2) (r2 := .i (q.2 + (c - 1) * q.1)) (ea_cons (ed_var 2) (ea_cons (ed_add (ed_var 2) (ed_mul (i := c - 1) (j := q.1) (.inl ⟨by omega, by omega⟩) (ed_sub (ed_var 3) ed_int) (ed_var 1))) ea_nil)) (sd_nil ⟨.i c, ?_, rfl⟩) sc_own_inverse_count.nd
    rw [eg]
    rfl
  · subst e1 e2
    rw [List.take_length]
    exact sd_ret (ed_var 2) fin0
end
end Wm
set_option Elab.async false
set_option linter.all false
set_option maxRecDepth 100000
set_option maxHeartbeats 4000000
namespace Wm
open PySem PySem.Spec PyProof.Rows L2
section
variable {X : Cx} {Γ : List Sl} {M M0 M1 M2 M3 : Own} {a b c e : Expr} {es : List Expr} {rest body : List Stmt} {r r1 r2 r3 : Sl} {rs : List Sl} {pos tpos p py : Pos} {x y : Str} {tg iter : Expr} {P : Post}
/-! ### the script -/
theorem inv_s {H : Hp} {v : V} {K : Fg} {ns : List Int} (h : Rep (hid M H) v (.scr K ns)) : ∃ a, v = .ref a ∧ SqL K H a (ns.map V.int) := by
  obtain ⟨a, e, h⟩ := h
  exact ⟨a, e, gw_hid.l h⟩
theorem ed_lenS {ns : List Int} (hm : X.mg "len" = none) (ha : ED X Γ M a (.scr X.K ns) M1) (hs : starEach [a] X.env = [(false, eval a X.env)] := by rfl) (hg : Gl X "len" := by rfl) : ED X Γ M (.Call (.Name "len" p) [a] [] pos) (.i (ns.length : Int)) M1 :=
  ed_callB call_len_seq hm (fun H vs Q o h q => by
    obtain ⟨v, e, h⟩ := reps1 h
    obtain ⟨l, e2, h1⟩ := inv_s h
    have q1 := q (.int ((ns.map V.int).length : Int)) H (Gw.refl _) o (by rw [List.length_map]; exact Dv.int _)
    exact ⟨l, _, by rw [e, e2], .inl h1, q1⟩) (ea_cons ha ea_nil hs) boot_len hg (by decide) (by decide) hs
theorem ed_ixS {ns : List Int} {i : Int} (h0 : 0 ≤ i) (h1 : i < ns.length) (ha : ED X Γ M a (.scr X.K ns) M1) (hb : ED X Γ M1 b (.i i) M2) (hs : PlainIx b := by exact fun _ _ => rfl) : ED X Γ M (.Subscript a b pos) (.i (nthI ns i)) M2 :=
  ed_op2 (pe_ix ix_list pe_w pe_w hs) ha hb fun H v w Q o h2 h3 q => by
    obtain ⟨l, e2, k1⟩ := inv_s h2
    refine ⟨l, _, i, .int (nthI ns i), e2, inv_i h3, k1, ?_, q _ H (Gw.refl _) o (Dv.int _)⟩
    have e0 : ((i.toNat : Nat) : Int) = i := by omega
    rw [← e0]
    refine atI_nat ?_
    unfold nthI
    rw [List.getElem?_map, e0, List.getD_eq_getElem?_getD, List.getElem?_eq_getElem (by omega)]
    rfl
theorem ed_slS {ns : List Int} {hi : Option Expr} {hi' : Option Int} {p2 : Pos} (ha : ED X Γ M a (.scr X.K ns) M1) (h2 : EO X Γ M1 hi hi') : ED X Γ M (.Subscript a (.Slice none hi none p2) pos) (.dat (.list (cutD (dI ns) none hi'))) M1 := by
  obtain ⟨t2, p2, q2⟩ := h2
  refine fun σ H Q k q => PE_w (pe_slice sl_list pe_w po_none p2) (ha σ H _ k fun v H1 g1 o1 r1 => q2 σ H1 _ (k.to g1 o1) fun H3 g3 o3 => ?_)
  obtain ⟨l, e, h⟩ := inv_s (g3.rep r1)
  refine ⟨l, _, e, h, fun p hp => ?_⟩
  obtain ⟨o4, g4, h4⟩ := new_l o3 hp (dps_cut (ints_dps ns) none hi')
  exact q _ _ ((g1.trans g3).trans g4) o4 h4
theorem et_orV {p q : Bool} (h : ET X Γ M a p M) (h2 : ET X Γ M b q M) : ET X Γ M (.BoolOp .Or [a, b] pos) (p || q) M := fun σ H Q k z => PT_w (pw_or pt_w (pw_or1 pt_w)).pt (h σ H _ k fun H1 g1 o1 => by
    cases p with
    | true =>
      rw [if_pos rfl]
      exact z H1 g1 o1
    | false =>
      rw [if_neg Bool.false_ne_true]
      exact h2 σ H1 _ (k.to g1 o1) fun H2 g2 o2 => z H2 (g1.trans g2) o2)
/-! ### owned lists once more -/
theorem ed_swap2 {p q p' q' : Addr × MO} (h : ED X Γ (p :: q :: M) e r (p' :: q' :: M)) : ED X Γ (q :: p :: M) e r (q' :: p' :: M) := fun σ H Q k z => by
  obtain ⟨o1, e1⟩ := k.own.perm2
  refine h σ H Q (k.to (by rw [e1]; exact Gw.refl _) o1) fun v H' g o hv => ?_
  obtain ⟨o2, e2⟩ := o.perm2
  refine z v H' (fun a u h => ?_) o2 (by rw [e2]; exact hv)
  rw [e2]
  exact g a u (by rw [e1]; exact h)
theorem ixN_at {n : Nat} {k : Int} {j : Nat} (h : k = (j : Int)) (hj : j < n) : ixN n k = some j := by
  subst h
  unfold ixN
  rw [if_pos (by omega), if_pos (by omega), Int.toNat_natCast]
theorem set_dps {Hd : Hp} {v : V} {d : PyData} (h : Dv Hd v d) : ∀ {vs : List V} {ds : List PyData} (j : Nat), DvAll Hd vs ds → DvAll Hd (vs.set j v) (ds.set j d)
  | _, _, _, .nil => .nil
  | _, _, 0, .cons _ t => .cons h t
  | _, _, j + 1, .cons a t => .cons a (set_dps h j t)
/-- o[k] = e -/
theorem sd_put {l : Addr} {ds : List PyData} {d : PyData} {k : Int} {j : Nat} {spos : Pos} (he : ED X Γ ((l, MO.lst ds) :: M) e (.dat d) ((l, MO.lst ds) :: M1)) (ho : ED X Γ ((l, MO.lst ds) :: M1) a (.at (.ref l)) ((l, MO.lst ds) :: M1)) (hi : ED X Γ ((l, MO.lst ds) :: M1) b (.i k) ((l, MO.lst ds) :: M1)) (hk0 : k = (j : Int)) (hj : j < ds.length)
    (hk : SD X Γ ((l, MO.lst (ds.set j d)) :: M1) rest P)
    (hs : swapsWithSole [.Subscript a b spos] e pos.line X.env = pure false := by rfl) (hw : swappedStores [.Subscript a b spos] e X.env = pure none := by rfl) (h1 : (assignEach [.Subscript a b spos] X.env).map (·.2) = [assign (.Subscript a b spos) X.env] := by rfl)
    (hsub : ∀ v, assign (.Subscript a b spos) X.env v = (do
      let ov ← holding [v] (eval a X.env)
      let iv ← holding [v, ov] (eval b X.env)
      standAt spos
      holding [v, ov, iv] (setItem ov iv v)
      release [v, ov, iv] []) := by intro _; rfl) : SD X Γ ((l, MO.lst ds) :: M) (.Assign [.Subscript a b spos] e pos :: rest) P := fun σ H D kn n t =>
  PSs_w (pss_cons (ps_asg pe_w (pg_sub pe_w pe_w set_list hsub) hs hw h1) pss_w) (he σ H _ kn fun v H1 g1 o1 r1 => ho σ H1 _ (kn.to g1 o1) fun u H2 g2 o2 r2 => hi σ H2 _ ((kn.to g1 o1).to g2 o2) fun z H3 g3 o3 r3 => by
    have r2 : u = .ref l := r2
    obtain ⟨xs, q1, d1⟩ := (show ∃ xs, H3 l = some (.lst xs) ∧ DvAll (hid _ H3) xs _ from o3.ok _ List.mem_cons_self)
    refine ⟨l, xs, k, j, r2, inv_i r3, q1, ixN_at hk0 (by rw [dps_len d1]; exact hj), ?_⟩
    obtain ⟨o4, e4⟩ := o3.put (o := .lst (xs.set j v)) (mo' := .lst (ds.set j d)) ⟨_, upd_same, set_dps ((g2.trans g3).rep (r := .dat d) r1) j d1⟩
    have g4 : Gw (hid ((l, MO.lst ds) :: M1) H3) (hid ((l, MO.lst (ds.set j d)) :: M1) (upd H3 l (.lst (xs.set j v)))) := by
      rw [e4]
      exact Gw.refl _
    have ga := ((g1.trans g2).trans g3).trans g4
    exact hk σ _ D ⟨o4, kn.env.mono ga⟩ (fun Γ' M' σ' H' p g => n Γ' M' σ' H' p (ga.trans g)) fun r M' v H' p g => t r M' v H' p (ga.trans g))
/-- o[k], x = e -/
theorem sd_putName {l : Addr} {ds : List PyData} {d d2 : PyData} {k : Int} {j i : Nat} {spos npos : Pos} {kk : Nat} (he : ED X Γ ((l, MO.lst ds) :: M) e (.dat (.tuple [d, d2])) ((l, MO.lst ds) :: M)) (ho : ED X Γ ((l, MO.lst ds) :: M) a (.at (.ref l)) ((l, MO.lst ds) :: M)) (hi : ED X Γ ((l, MO.lst ds) :: M) b (.i k) ((l, MO.lst ds) :: M)) (hk0 : k = (j : Int)) (hj : j < ds.length)
    (hk : SD X (Γ.set i (.dat d2)) ((l, MO.lst (ds.set j d)) :: M) rest P) (hN : X.N.Nodup) (hx : X.N[i]? = some x := by rfl) (hxl : Loc X.env.scope x := by first | exact Or.inl rfl | exact Or.inr rfl) (hf : X.fn x = true ∨ X.env.scope.names.lookup x = some .local := by first | exact .inl rfl | exact .inr rfl) (hc : X.calm = true := by rfl)
    (hs : swapsWithSole [.Tuple [.Subscript a b spos, .Name x npos] kk tpos] e pos.line X.env = pure false := by rfl) (hw : swappedStores [.Tuple [.Subscript a b spos, .Name x npos] kk tpos] e X.env = pure none := by rfl) (h1 : (assignEach [.Tuple [.Subscript a b spos, .Name x npos] kk tpos] X.env).map (·.2) = [assign (.Tuple [.Subscript a b spos, .Name x npos] kk tpos) X.env] := by rfl)
    (hsub : ∀ v, assign (.Subscript a b spos) X.env v = (do
      let ov ← holding [v] (eval a X.env)
      let iv ← holding [v, ov] (eval b X.env)
      standAt spos
      holding [v, ov, iv] (setItem ov iv v)
      release [v, ov, iv] []) := by intro _; rfl) (hps : (assignEach [.Subscript a b spos, .Name x npos] X.env).map (·.2) = assign (.Subscript a b spos) X.env :: (assignEach [.Name x npos] X.env).map (·.2) := by rfl) (hps2 : (assignEach [.Name x npos] X.env).map (·.2) = assign (.Name x npos) X.env :: (assignEach [] X.env).map (·.2) := by rfl)
    (hln : (assignEach [.Subscript a b spos, .Name x npos] X.env).length = 2 := by rfl) (hst : (assignEach [.Subscript a b spos, .Name x npos] X.env).findIdx? (·.1) = none := by rfl) : SD X Γ ((l, MO.lst ds) :: M) (.Assign [.Tuple [.Subscript a b spos, .Name x npos] kk tpos] e pos :: rest) P := fun σ H D kn n t =>
  PSs_w (pss_cons (ps_asg pe_w (pg_tup hc (pgs_cons (pg_sub pe_w pe_w set_list hsub) (pgs_cons (pg_name hN hx hxl hf) pgs_nil hps2) hps) hln hst) hs hw h1) pss_w) (he σ H _ kn fun v H1 g1 o1 r1 => by
    cases r1 with
    | tup h1 h2 =>
      cases h2 with
      | @cons va _ _ _ a1 a2 =>
        cases a2 with
        | cons b1 b2 =>
          cases b2
          refine ⟨_, _, rfl, sqt (hid_some h1).1, rfl, _, _, rfl, ?_⟩
          refine ho σ H1 _ (kn.to g1 o1) fun u H2 g2 o2 r2 => hi σ H2 _ ((kn.to g1 o1).to g2 o2) fun z H3 g3 o3 r3 => ?_
          have r2 : u = .ref l := r2
          obtain ⟨xs, q1, d1⟩ := (show ∃ xs, H3 l = some (.lst xs) ∧ DvAll (hid _ H3) xs _ from o3.ok _ List.mem_cons_self)
          refine ⟨l, xs, k, j, r2, inv_i r3, q1, ixN_at hk0 (by rw [dps_len d1]; exact hj), _, _, rfl, rfl, ?_⟩
          obtain ⟨o4, e4⟩ := o3.put (o := .lst (xs.set j va)) (mo' := .lst (ds.set j d)) ⟨_, upd_same, set_dps ((g2.trans g3).dp a1) j d1⟩
          have g4 : Gw (hid ((l, MO.lst ds) :: M) H3) (hid ((l, MO.lst (ds.set j d)) :: M) (upd H3 l (.lst (xs.set j va)))) := by
            rw [e4]
            exact Gw.refl _
          have ga := ((g1.trans g2).trans g3).trans g4
          exact hk _ _ D ⟨o4, (kn.env.mono ga).set i (show Rep _ _ (.dat d2) from ((g2.trans g3).trans g4).dp b1)⟩ (fun Γ' M' σ' H' p g => n Γ' M' σ' H' p (ga.trans g)) fun r M' v H' p g => t r M' v H' p (ga.trans g))
/-- x, y = [], e : a list of one's own -/
theorem sd_parNew {i j : Nat} {px pt lp : Pos} {kt k2 pt2} (hb : ∀ l, ED X Γ ((l, MO.lst []) :: M) b r2 ((l, MO.lst []) :: M)) (hk : ∀ l, SD X ((Γ.set i (.at (.ref l))).set j r2) ((l, MO.lst []) :: M) rest P) (hN : X.N.Nodup) (hij : i ≠ j := by decide) (hi : X.N[i]? = some x := by rfl) (hj : X.N[j]? = some y := by rfl)
    (hx : X.env.scope.names.lookup x = some .local := by rfl) (hy : X.env.scope.names.lookup y = some .local := by rfl) (hw : swappedStores [.Tuple [.Name x px, .Name y py] kt pt] (.Tuple [.List [] lp, b] k2 pt2) X.env = pure (some [x, y]) := by rfl) (hc : X.calm = true := by rfl)
    (hs : starEach [.List [] lp, b] X.env = (false, eval (.List [] lp) X.env) :: starEach [b] X.env := by rfl) (hs2 : starEach [b] X.env = (false, eval b X.env) :: starEach [] X.env := by rfl) :
    SD X Γ M (.Assign [.Tuple [.Name x px, .Name y py] kt pt] (.Tuple [.List [] lp, b] k2 pt2) pos :: rest) P := fun σ H D k n t =>
  PSs_w (pss_cons (ps_par hc hN hi hj hij hx hy (pa_cons (pe_lst pa_nil) (pa_cons pe_w pa_nil hs2) hs) hw) pss_w) ⟨Nat.zero_le _, fun l hl => by
    obtain ⟨o2, g2⟩ := k.own.own (o := .lst []) hl (mo := .lst []) ⟨[], upd_same, .nil⟩
    refine hb l σ _ _ (k.to g2 o2) fun w H3 g3 o3 r3 => ⟨_, _, rfl, ?_⟩
    have ga := g2.trans g3
    exact hk l _ _ D ⟨o3, ((k.env.mono ga).set i (show Rep _ _ (.at (.ref l)) from rfl)).set j r3⟩ (fun Γ' M' σ' H' p g => n Γ' M' σ' H' p (ga.trans g)) fun r M' v H' p g => t r M' v H' p (ga.trans g)⟩
/-- return [..] : a list of one's own -/
theorem sd_retL {ds : List PyData} {lp : Pos} (he : EA X Γ M es (ds.map .dat) M1) (hl : ds.length ≤ 100000) (h : ∀ l, P.rt (.at (.ref l)) ((l, MO.lst ds) :: M1)) : SD X Γ M (.Return (some (.List es lp)) pos :: rest) P := fun σ H D k n t =>
  PSs_w (pss_cons (ps_ret (pe_lst pa_w)) pss_never) (he σ H _ k fun vs H1 g1 o1 h1 => ⟨by rw [dps_len (reps_dats h1)]; exact Nat.le_trans hl (by decide), fun l hl => by
    obtain ⟨o2, g2⟩ := o1.own (o := .lst vs) hl (mo := .lst ds) ⟨vs, upd_same, reps_dats h1⟩
    exact t _ _ (.ref l) _ (h l) (g1.trans g2) o2 (show Rep _ _ (.at (.ref l)) from rfl)⟩)
theorem ed_divmod {i j : Int} (hm : X.mg "divmod" = none) (hc : CDiv i j) (ha : EA X Γ M [a, b] [.i i, .i j] M1) (hs : starEach [a, b] X.env = (false, eval a X.env) :: starEach [b] X.env := by rfl) (hpl : (backTo pos (starEach [b] X.env)).any (·.1) = false := by rfl) (hg : Gl X "divmod" := by rfl) :
    ED X Γ M (.Call (.Name "divmod" p) [a, b] [] pos) (.dat (.tuple [.int (i / j), .int (i % j)])) M1 :=
  ed_callB call_divmod hm (fun H vs Q o h q => by
    obtain ⟨v, w, e, h1, h2⟩ := reps2 h
    refine ⟨i, j, by rw [e, inv_i h1, inv_i h2], hc, fun p hp => ?_⟩
    obtain ⟨o4, g4, h4⟩ := new_t (ds := [.int (i / j), .int (i % j)]) o hp (.cons (.int _) (.cons (.int _) .nil))
    exact q _ _ g4 o4 h4) ha (by decide +kernel) hg (by decide) (by decide) hs hpl
end
/-- the rule for a def, its promise of any form -/
theorem fn_sdP {P : Program} {w : World} {K : Fg} {mg : Str → Option Value} {base : Heap} {x qual : Str} {params : Arguments} {body : List Stmt} {scope : Scope} {f : Addr} {fd : FuncData} {N ps : List Str} {k : Nat} {sp : Sp} (F : FunD K x qual params body scope [] [] f fd) (S : FnScope N ps scope) (hl : ∀ vs H Q E, sp vs H Q E → vs.length = ps.length)
    (hb : ∀ (cdv : Value) (A : Around) (outer : List Env) (s : Shared) (H : Hp) (E : XK), Room k (A.deeper (envOfC qual scope s.heap.objs.size f cdv)) → ∀ vs Q E0, sp vs H Q E0 → ∃ rs M R, OwnOk H M ∧ Reps (hid M H) vs rs ∧
      SD (cxOf CX0 P w K mg base N qual scope f cdv A outer s H E).nox (rs ++ List.replicate (N.length - rs.length) .no) M body R ∧ (∀ Γ' N', ¬ R.nx Γ' N') ∧ ∀ r N' v H', R.rt r N' → Gw (hid M H) (hid N' H') → OwnOk H' N' → Rep (hid N' H') v r → Q v H') : FnOk P w K mg base CX0 (k + 1) f fd ps sp := by
  refine F.ok S hl (fun cdv A outer s H vs Q E hr h => ?_)
  obtain ⟨rs, M, R, o, hv, hS, hn, hq⟩ := hb cdv A outer s H E hr vs Q E h
  exact ⟨_, PSs.nox pss_w, hS _ H _ ⟨o, env_start hv⟩ (fun Γ' N' σ' H' hp g kn => absurd hp (hn Γ' N')) fun r' N' v H' hp g o' hv' => hq r' N' v H' hp g o' hv'⟩
end Wm
set_option Elab.async false
set_option linter.all false
set_option maxRecDepth 100000
set_option maxHeartbeats 4000000
namespace Wm
open PySem PySem.Spec PyProof.Rows L2
/-! ### plain -/
structure Vat where
  a : Int
  b : Int
  c : Int
abbrev Vat.l (v : Vat) : List PyData := [.int v.a, .int v.b, .int v.c]
def sipB (b c : Int) : Int := (b + 43013 * c) % 2147482583
def sipN (b c : Int) : Int := (sipB b c * (sipB b c % 10009 + 74017) + 79 * c + 41) % 2147482583
def sipT (v : Vat) : Vat := if 0 < v.a then v else ⟨v.a, sipN v.b (v.c + 1), v.c + 1⟩
def sipV (v : Vat) (top : Int) : Vat := if 0 < v.a then ⟨v.a / top, v.b, v.c⟩ else sipT v
def sipR (v : Vat) (top : Int) : Int := if 0 < v.a then v.a % top else (sipT v).b / 193 % top
theorem sip_range {v : Vat} {top : Int} (h : 1 ≤ top) : 0 ≤ sipR v top ∧ sipR v top < top := by
  unfold sipR
  split
  · exact ⟨Int.emod_nonneg _ (by omega), Int.emod_lt_of_pos _ (by omega)⟩
  · exact ⟨Int.emod_nonneg _ (by omega), Int.emod_lt_of_pos _ (by omega)⟩
section
variable {P : Program} {w : World} {K : Fg} {mg : Str → Option Value} {base : Heap} {f : Addr} {fd : FuncData}
/-! ### _law_vat_of -/
abbrev N_law_vat_of : List Str := ["_law_script", "_law_turn", "_law_cell", "_law_blended", "_law_at", "_law_each"]
abbrev PS_st : List Str := ["_law_script", "_law_turn"]
theorem sc_law_vat_of : FnScope N_law_vat_of PS_st (defScope s_law_vat_of) := ⟨rfl, rfl, rfl, by decide +kernel, rfl, by decide +kernel, by decide +kernel⟩
def spVat (K : Fg) : Sp := fun vs H Q _ => ∃ M ns turn, OwnOk H M ∧ Reps (hid M H) vs [.scr K ns, .i turn] ∧ ns.length ≤ 100 ∧ 0 ≤ turn ∧ turn ≤ 100 ∧
  ∀ l (v : Vat) H', Gw (hid M H) (hid ((l, .lst v.l) :: M) H') → OwnOk H' ((l, .lst v.l) :: M) → Q (.ref l) H'
theorem cut_to {ds : List PyData} {k : Nat} : cutD ds none (some (k : Int)) = ds.take (min k ds.length) := by
  unfold cutD
  rw [HT.sIx_nat, HT.sIx_none, List.drop_zero, Nat.sub_zero]
theorem ok_law_vat_of (B : Bl mg) (F : FnP K "_law_vat_of" s_law_vat_of f fd) : FnOk P w K mg base CX0 1 f fd PS_st (spVat K) := by
  refine fn_sdP F sc_law_vat_of (fun vs H Q E ⟨M, ns, turn, _, h, _⟩ => by have := h.len; exact this) fun cdv A outer s H E hr vs Q E0 ⟨M, ns, turn, o, hv, hz, h0, h1, q⟩ => ?_
  refine ⟨[.scr K ns, .i turn], M, ⟨fun _ _ => False, fun r N => ∃ l v, r = .at (.ref l) ∧ N = (l, .lst (Vat.l v)) :: M⟩, o, hv, ?_, fun _ _ => id, fun r N v H' ⟨l, vv, e1, e2⟩ g o' hv' => ?_⟩
  · refine sd_par (i := 2) (j := 3) (r1 := .i (if turn < ns.length then nthI ns turn else 0)) (r2 := .i (14009 + 60013 * turn)) (ea_cons (ed_ifS (et_lt (ed_var 1) (ed_lenS B.len_ (ed_var 0))) (fun h => ?_) (fun h => ?_)) (ea_cons (ed_add ed_int (ed_mul (.inl (by decide)) ed_int (ed_var 1))) ea_nil)) ?_ sc_law_vat_of.nd
    · have h := of_decide_eq_true h
      rw [if_pos h]
      exact ed_ixS h0 h (ed_var 0) (ed_var 1)
    · have h := of_decide_eq_false h
      rw [if_neg h]
      exact ed_int
    · generalize (if turn < ns.length then nthI ns turn else 0) = cell
      refine sd_for (L := enI (ns.take (min 10 ns.length))) (enc := enc2) (bs := fun p => [(4, .int p.1), (5, .int p.2)]) (fun j Γ N => ∃ b r4 r5, Γ = [.scr K ns, .i turn, .i cell, .i b, r4, r5] ∧ N = M)
        (src_is (src_enumL B.enumerate_ (ed_slS (ed_var 0) (eo_some ed_int))) (by rw [show ((10 : Int)) = ((10 : Nat) : Int) from rfl, cut_to, dI_len]; unfold dI; rw [← List.map_take]; exact enr_dI _))
        (pg_tup rfl (pgs_cons (pgn 4 sc_law_vat_of.nd) (pgs_cons (pgn 5 sc_law_vat_of.nd) pgs_nil))) (fun _ _ => tg_pair) ⟨_, .no, .no, rfl, rfl⟩ (fun i Γ N ⟨_, _, _, _, e⟩ => by rw [e]; exact Kp.refl _) (fun j p Γ N hp ⟨b, r4, r5, e1, e2⟩ => ?_) fun Γ N ⟨b, r4, r5, e1, e2⟩ => ?_
      · subst e1 e2
        obtain ⟨h2, h3⟩ := enI_at hp
        have h4 : (ns.take (min 10 ns.length)).length ≤ 10 := by rw [List.length_take]; omega
        have h5 : p.1 = (j : Int) := by rw [h3]
        exact sd_set (i := 3) (ed_mod (by decide) (ed_int1 B.int_ (ed_add (ed_mul (i := b) (j := 10007 + 74 * p.1) (.inr ⟨by omega, by omega⟩) (ed_var 3) (ed_add ed_int (ed_mul (.inl (by decide)) ed_int (ed_var 4)))) (ed_mul (.inl (by decide)) ed_int (ed_var 5)))) ed_int) (sd_nil ⟨_, .i p.1, .i p.2, rfl, rfl⟩) sc_law_vat_of.nd
      · subst e1 e2
        exact sd_retL (ds := [.int (if (decide (cell < 0) || decide (10 ^ (15 : Int).toNat ≤ cell)) = true then (if cell < 0 then -cell else cell) else 0), .int ((b + 25013 * cell) % 2147482583), .int 0])
          (ea_cons (ed_ifS (et_orV (et_lt (ed_var 2) ed_int) (et_ge (ed_var 2) (ed_pow ⟨by decide, by decide, by decide⟩ ed_int ed_int))) (fun h => by rw [if_pos h]; exact ed_abs B.abs_ (ed_var 2)) (fun h => by rw [if_neg (by rw [h]; exact Bool.false_ne_true)]; exact ed_int))
            (ea_cons (ed_mod (by decide) (ed_int1 B.int_ (ed_add (ed_var 3) (ed_mul (.inl (by decide)) ed_int (ed_var 2)))) ed_int) (ea_cons ed_int ea_nil))) (by simp) fun l => ⟨l, ⟨_, _, _⟩, rfl, rfl⟩
  · subst e1 e2
    have hv' : v = .ref l := hv'
    rw [hv']
    exact q l vv H' g o'
/-! ### _law_sip -/
abbrev N_law_sip : List Str := ["_law_vat", "_law_top", "_law_got", "_law_base"]
abbrev PS_vt : List Str := ["_law_vat", "_law_top"]
theorem sc_law_sip : FnScope N_law_sip PS_vt (defScope s_law_sip) := ⟨rfl, rfl, rfl, by decide +kernel, rfl, by decide +kernel, by decide +kernel⟩
def Rlaw_sip : RS := fun rs M r M' => ∃ l v top M0, 1 ≤ top ∧ top ≤ 1000 ∧ rs = [.at (.ref l), .i top] ∧ M = (l, .lst (Vat.l v)) :: M0 ∧ r = .i (sipR v top) ∧ M' = (l, .lst (sipV v top).l) :: M0
theorem ok_law_sip (B : Bl mg) (F : FnP K "_law_sip" s_law_sip f fd) : FnOk P w K mg base CX0 1 f fd PS_vt (spF 2 Rlaw_sip) := by
  refine fn_sd F sc_law_sip (fun rs M r M' ⟨l, v, top, M0, _, _, e, _⟩ => by rw [e]; rfl) fun cdv A outer s H E hr rs M r M' hR => ?_
  obtain ⟨l, v, top, M0, h1, h2, rfl, rfl, rfl, rfl⟩ := hR
  refine sd_if (q := decide (0 < v.a)) (et_gt (ed_ixO (d := .int v.a) (ds := v.l) List.mem_cons_self rfl (ed_var 0) ed_int) ed_int) (fun h => ?_) (fun h => ?_)
  · have h := of_decide_eq_true h
    have e1 : sipR v top = v.a % top := if_pos h
    have e2 : sipV v top = ⟨v.a / top, v.b, v.c⟩ := if_pos h
    rw [e1, e2]
    refine sd_putName (i := 2) (ds := v.l) (j := 0) (k := 0) (d := .int (v.a / top)) (d2 := .int (v.a % top)) (ed_divmod B.divmod_ ⟨by omega, by omega⟩ (ea_cons (ed_ixO (d := .int v.a) (ds := v.l) List.mem_cons_self rfl (ed_var 0) ed_int) (ea_cons (ed_var 1) ea_nil))) (ed_var 0) ed_int rfl (by simp) ?_ sc_law_sip.nd
    exact sd_ret (ed_var 2) fin0
  · have h := of_decide_eq_false h
    have e1 : sipR v top = sipN v.b (v.c + 1) / 193 % top := by
      unfold sipR sipT
      rw [if_neg h, if_neg h]
    have e2 : sipV v top = ⟨v.a, sipN v.b (v.c + 1), v.c + 1⟩ := by
      unfold sipV sipT
      rw [if_neg h, if_neg h]
    rw [e1, e2]
    refine sd_nil ?_
    refine sd_put (ds := v.l) (j := 2) (k := 2) (d := .int (v.c + 1)) (ed_add (ed_ixO (d := .int v.c) (ds := v.l) List.mem_cons_self rfl (ed_var 0) ed_int) ed_int) (ed_var 0) ed_int rfl (by simp) ?_
    have hb0 : 0 ≤ sipB v.b (v.c + 1) ∧ sipB v.b (v.c + 1) < 2147482583 := ⟨Int.emod_nonneg _ (by decide), Int.emod_lt_of_pos _ (by decide)⟩
    refine sd_set (i := 3) (r := .i (sipB v.b (v.c + 1))) (ed_mod (by decide) (ed_int1 B.int_ (ed_add (ed_ixO (d := .int v.b) (ds := [.int v.a, .int v.b, .int (v.c + 1)]) List.mem_cons_self rfl (ed_var 0) ed_int) (ed_mul (.inl (by decide)) ed_int (ed_ixO (d := .int (v.c + 1)) (ds := [.int v.a, .int v.b, .int (v.c + 1)]) List.mem_cons_self rfl (ed_var 0) ed_int)))) ed_int) ?_ sc_law_sip.nd
    refine sd_put (ds := [.int v.a, .int v.b, .int (v.c + 1)]) (j := 1) (k := 1) (d := .int (sipN v.b (v.c + 1))) (ed_mod (by decide) (ed_int1 B.int_ (ed_add (ed_add (ed_mul (i := sipB v.b (v.c + 1)) (.inl ⟨by omega, by omega⟩) (ed_var 3) (ed_add (ed_mod (by decide) (ed_int1 B.int_ (ed_var 3)) ed_int) ed_int)) (ed_mul (.inl (by decide)) ed_int (ed_ixO (d := .int (v.c + 1)) (ds := [.int v.a, .int v.b, .int (v.c + 1)]) List.mem_cons_self rfl (ed_var 0) ed_int))) ed_int)) ed_int) (ed_var 0) ed_int rfl (by simp) ?_
    exact sd_ret (ed_mod (by omega) (ed_fdiv ⟨by decide, by decide⟩ (ed_int1 B.int_ (ed_ixO (d := .int (sipN v.b (v.c + 1))) (ds := [.int v.a, .int (sipN v.b (v.c + 1)), .int (v.c + 1)]) List.mem_cons_self rfl (ed_var 0) ed_int)) ed_int) (ed_var 1)) fin0
end
end Wm
set_option Elab.async false
set_option linter.all false
set_option maxRecDepth 100000
set_option maxHeartbeats 4000000
namespace Wm
open PySem PySem.Spec PyProof.Rows L2
theorem kp_ll {a b c d : Addr} {x y z u : List PyData} {M : Own} : Kp ((a, MO.lst x) :: (b, MO.lst y) :: M) ((c, MO.lst z) :: (d, MO.lst u) :: M) := fun e o k h => by
  rcases List.mem_cons.mp h with z | z
  · cases z
  · rcases List.mem_cons.mp z with z | z
    · cases z
    · exact List.mem_cons_of_mem _ (List.mem_cons_of_mem _ z)
/-! ### plain -/
def sumsStep (s : List Int × Int × Vat) : List Int × Int × Vat := (s.1 ++ [sipR s.2.2 (s.2.1 + 1)], s.2.1 - sipR s.2.2 (s.2.1 + 1), sipV s.2.2 (s.2.1 + 1))
def sumsAt (v : Vat) (total : Int) : Nat → List Int × Int × Vat
  | 0 => ([], total, sipV v 3)
  | i + 1 => sumsStep (sumsAt v total i)
def sumsN (v : Vat) : Nat := (sipR v 3).toNat
def sumsR (v : Vat) (total : Int) : List Int := (sumsAt v total (sumsN v)).1 ++ [(sumsAt v total (sumsN v)).2.1]
def sumsV (v : Vat) (total : Int) : Vat := (sumsAt v total (sumsN v)).2.2
theorem sums_left (v : Vat) {total : Int} (h0 : 0 ≤ total) : ∀ i, 0 ≤ (sumsAt v total i).2.1 ∧ (sumsAt v total i).2.1 ≤ total ∧ (sumsAt v total i).1.length = i
  | 0 => ⟨h0, Int.le_refl _, rfl⟩
  | i + 1 => by
    obtain ⟨h1, h2, h3⟩ := sums_left v h0 i
    have hr := sip_range (v := (sumsAt v total i).2.2) (top := (sumsAt v total i).2.1 + 1) (by omega)
    show 0 ≤ (sumsAt v total i).2.1 - sipR (sumsAt v total i).2.2 ((sumsAt v total i).2.1 + 1) ∧ (sumsAt v total i).2.1 - sipR (sumsAt v total i).2.2 ((sumsAt v total i).2.1 + 1) ≤ total ∧ ((sumsAt v total i).1 ++ [sipR (sumsAt v total i).2.2 ((sumsAt v total i).2.1 + 1)]).length = i + 1
    rw [List.length_append, h3]
    exact ⟨by omega, by omega, rfl⟩
def oiL (L : List Int) (k : Int) : List Int := L ++ [nthI L (k - 1) + (k - 1) * nthI L (k - 2)]
def oiAt (n : Int) (i : Nat) : List Int := ((rg 2 (n + 1 - 2).toNat).take i).foldl oiL [1, 1]
def mOI (n : Int) : Int := nthI (oiAt n (n + 1 - 2).toNat) n
theorem oi_len (n : Int) : ∀ i, i ≤ (n + 1 - 2).toNat → (oiAt n i).length = i + 2
  | 0, _ => rfl
  | i + 1, h => by
    have e : (rg 2 (n + 1 - 2).toNat)[i]? = some (2 + (i : Int)) := by rw [rg_get, if_pos (by omega)]
    unfold oiAt
    rw [foldl_take oiL _ e]
    show (oiAt n i ++ [_]).length = _
    rw [List.length_append, oi_len n i (by omega)]
    rfl
def spOne (total top room : Int) (h : List Int) : List (List Int) := (rg 0 (min (min room top) (total - h.sum) + 1).toNat).map fun c => h ++ [c]
def spStep (total top : Int) (l : List (List Int)) (room : Int) : List (List Int) := l.flatMap (spOne total top room)
def spAt (total top : Int) (rooms : List Int) (i : Nat) : List (List Int) := (rooms.take i).foldl (spStep total top) [[]]
def mSplit (total : Int) (rooms : List Int) (top : Int) : List (List Int) := (spAt total top rooms rooms.length).filter fun h => decide (h.sum = total)
def okL (l : List (List Int)) : Bool := decide (l.length ≤ 1000) && l.all fun h => decide (h.length ≤ 1000) && inR (-1000) 1000 h.sum
def okSplit (total : Int) (rooms : List Int) (top : Int) : Bool := (inR (-1000) 1000 total && inR (-1000) 1000 top) && ((decide (rooms.length ≤ 1000) && rooms.all (inR (-1000) 1000)) && (List.range (rooms.length + 1)).all fun i => okL (spAt total top rooms i))
def subZ (a b : List Int) : List Int := (a.zip b).map fun p => p.1 - p.2
def mLA : List Int → List Int → Int → Int
  | [], across, _ => if across.sum = 0 then 1 else 0
  | d :: ds, across, top => ((mSplit d across top).map fun h => mLA ds (subZ across h) top).sum
def okLA : List Int → List Int → Int → Bool
  | [], across, _ => decide (across.length ≤ 1000)
  | d :: ds, across, top => okSplit d across top && (mSplit d across top).all fun h => decide (across.length = h.length) && okLA ds (subZ across h) top
def mTilt (f : List Int) : List Int := (rg 0 (if f = [] then 0 else nthI f 0).toNat).map fun k => (((f.filter fun p => decide (k < p)).length : Nat) : Int)
theorem shaped_tI (f : List Int) : SeqAt.shaped (tI f) = true := by
  have h : ∀ l : List Int, PyData.canLayAll0 (dI l) = true ∧ PyData.depthAll (dI l) ≤ 0 := by
    intro l
    induction l with
    | nil => exact ⟨rfl, Nat.le_refl _⟩
    | cons a r ih =>
      refine ⟨?_, ?_⟩
      · show PyData.canLayAll0 (.int a :: dI r) = true
        simp [PyData.canLayAll0, PyData.canLay0, ih.1]
      · show PyData.depthAll (.int a :: dI r) ≤ 0
        have := ih.2
        simp [PyData.depthAll, PyData.depth] at *
        exact this
  have h1 := (h f).1
  have h2 := (h f).2
  unfold SeqAt.shaped
  simp only [tI, PyData.canLay0, PyData.depth, h1, Bool.true_and]
  exact decide_eq_true (by omega)
theorem eqv_nil (f : List Int) : PyData.eqv (tI f) (.tuple []) = decide (f = []) := by
  cases f with
  | nil => simp [PyData.eqv, PyData.eqvAll, tI, dI]
  | cons a r => simp [PyData.eqv, PyData.eqvAll, tI, dI]
section
variable {P : Program} {w : World} {K : Fg} {mg : Str → Option Value} {base : Heap} {f : Addr} {fd : FuncData}
/-! ### _law_sums -/
abbrev N_law_sums : List Str := ["_law_vat", "_law_total", "_law_found", "_law_left", "_law_turn"]
abbrev PS_vto : List Str := ["_law_vat", "_law_total"]
theorem sc_law_sums : FnScope N_law_sums PS_vto (defScope s_law_sums) := ⟨rfl, rfl, rfl, by decide +kernel, rfl, by decide +kernel, by decide +kernel⟩
def Rlaw_sums : RS := fun rs M r M' => ∃ l v total M0, 0 ≤ total ∧ total ≤ 100 ∧ rs = [.at (.ref l), .i total] ∧ M = (l, .lst (Vat.l v)) :: M0 ∧ r = .t (sumsR v total) ∧ M' = (l, .lst (sumsV v total).l) :: M0
theorem ok_law_sums (B : Bl mg) (C1 : Cal P w K mg base 1 "_law_sip" PS_vt Rlaw_sip) (F : FnP K "_law_sums" s_law_sums f fd) : FnOk P w K mg base CX0 2 f fd PS_vto (spF 2 Rlaw_sums) := by
  refine fn_sd F sc_law_sums (fun rs M r M' ⟨l, v, top, M0, _, _, e, _⟩ => by rw [e]; rfl) fun cdv A outer s H E hr rs M r M' hR => ?_
  obtain ⟨lv, v, total, M0, h0, h1, rfl, rfl, rfl, rfl⟩ := hR
  refine sd_parNew (i := 2) (j := 3) (r2 := .i total) (fun l => ed_var 1) (fun lf => ?_) sc_law_sums.nd
  have h3 := sip_range (v := v) (top := 3) (by decide)
  refine sd_for (L := rg 0 (sumsN v)) (enc := .int) (bs := fun b => [(4, .int b)]) (fun i Γ N => ∃ r4, Γ = [.at (.ref lv), .i total, .at (.ref lf), .i (sumsAt v total i).2.1, r4] ∧ N = (lf, .lst (dI (sumsAt v total i).1)) :: (lv, .lst (sumsAt v total i).2.2.l) :: M0)
    (src_range1 B.range_ (ed_swap2 (ed_call C1 hr (ea_cons (ed_var 0) (ea_cons ed_int ea_nil)) ⟨lv, v, 3, (lf, .lst []) :: M0, by decide, by decide, rfl, rfl, rfl, rfl⟩)) (by omega) (by omega)) (pgn 4 sc_law_sums.nd) (fun _ _ => tg_name) ⟨.no, rfl, rfl⟩ (fun i Γ N ⟨_, _, e⟩ => by rw [e]; exact kp_ll) (fun i b Γ N hb ⟨r4, e1, e2⟩ => ?_) fun Γ N ⟨r4, e1, e2⟩ => ?_
  · subst e1 e2
    obtain ⟨h4, h5⟩ := rg_at hb
    obtain ⟨h6, h7, h8⟩ := sums_left v h0 i
    have e9 : sumsAt v total (i + 1) = sumsStep (sumsAt v total i) := rfl
    rw [e9]
    generalize sumsAt v total i = q at h6 h7 h8
    obtain ⟨fo, le, vt⟩ := q
    have h6 : 0 ≤ le := h6
    have h7 : le ≤ total := h7
    have h8 : fo.length = i := h8
    have hN : sumsN v < 3 := by unfold sumsN; omega
    refine sd_append (d := .int (sipR vt (le + 1))) (ed_var 2) (ed_swap2 (ed_call C1 hr (ea_cons (ed_var 0) (ea_cons (ed_add (ed_var 3) ed_int) ea_nil)) ⟨lv, vt, le + 1, _, by omega, by omega, rfl, rfl, rfl, rfl⟩)) (by rw [dI_len, h8]; omega) ?_
    exact sd_set (i := 3) (r := .i (le - sipR vt (le + 1))) (ed_sub (ed_var 3) (ed_ixO (d := .int (sipR vt (le + 1))) List.mem_cons_self (atI_last _ _) (ed_var 2) (ed_neg ed_int))) (sd_nil ⟨.i b, rfl, by rw [show (sumsStep (fo, le, vt)).1 = fo ++ [sipR vt (le + 1)] from rfl, dI_app]; rfl⟩) sc_law_sums.nd
  · subst e1 e2
    rw [rg_len]
    obtain ⟨h6, h7, h8⟩ := sums_left v h0 (sumsN v)
    have hN : sumsN v < 3 := by unfold sumsN; omega
    refine sd_free (i := 2) rfl ?_
    exact sd_ret (r := .t (sumsR v total)) (ed_tupleL B.tuple_ (ed_is (ed_catL (ds := dI (sumsAt v total (sumsN v)).1) (es := [.int (sumsAt v total (sumsN v)).2.1]) (by rw [dI_len, h8]; show sumsN v + 1 ≤ _; omega) (ed_var 2) (ed_lst (ea_cons (ed_var 3) ea_nil) (by simp))) (by unfold sumsR; rw [dI_app]; rfl))) fin0
/-! ### _law_own_inverses -/
abbrev N_law_own_inverses : List Str := ["_law_n", "_law_found", "_law_k"]
theorem sc_law_own_inverses : FnScope N_law_own_inverses ["_law_n"] (defScope s_law_own_inverses) := ⟨rfl, rfl, rfl, by decide +kernel, rfl, by decide +kernel, by decide +kernel⟩
def Rlaw_own_inverses : RS := pureR fun ds d => ∃ n : Int, inR 0 40 n = true ∧ ds = [.int n] ∧ d = .int (mOI n)
theorem ok_law_own_inverses (B : Bl mg) (F : FnP K "_law_own_inverses" s_law_own_inverses f fd) : FnOk P w K mg base CX0 1 f fd ["_law_n"] (spF 1 Rlaw_own_inverses) := by
  refine fn_sd F sc_law_own_inverses (len1 fun ds d ⟨v, _, e, _⟩ => by rw [e]; rfl) fun cdv A outer s H E hr rs M r M' hR => ?_
  obtain ⟨ds, d, rfl, rfl, rfl, n, ho, rfl, rfl⟩ := hR
  have hn := inR_iff ho
  refine sd_new (i := 1) (ds := [.int 1, .int 1]) (ea_cons ed_int (ea_cons ed_int ea_nil)) (by decide) (fun l => ?_) sc_law_own_inverses.nd
  refine sd_for (L := rg 2 (n + 1 - 2).toNat) (enc := .int) (bs := fun b => [(2, .int b)]) (fun j Γ N' => ∃ r, Γ = [.i n, .at (.ref l), r] ∧ N' = (l, .lst (dI (oiAt n j))) :: M') (src_range2 B.range_ (ea_cons ed_int (ea_cons (ed_add (ed_var 0) ed_int) ea_nil)) (by omega) (by omega) (by omega) (by omega))
    (pgn 2 sc_law_own_inverses.nd) (fun _ _ => tg_name) ⟨.no, rfl, rfl⟩ (fun i Γ N ⟨_, _, e⟩ => by rw [e]; exact kp_head) (fun j c Γ N' hc ⟨r4, e1, e2⟩ => ?_) fun Γ N' ⟨r4, e1, e2⟩ => ?_
  · subst e1 e2
    have eg : oiAt n (j + 1) = oiL (oiAt n j) c := foldl_take oiL _ hc
    obtain ⟨h3, h4⟩ := rg_at hc
    have hl := oi_len n j (by omega)
    rw [eg]
    generalize oiAt n j = L at hl
    refine sd_append (d := .int (nthI L (c - 1) + (c - 1) * nthI L (c - 2))) (ed_var 1) (ed_add (ed_ixO List.mem_cons_self (at_dI (ns := L) (i := c - 1) (by omega) (by omega)) (ed_var 1) (ed_sub (ed_var 2) ed_int)) (ed_mul (i := c - 1) (.inl ⟨by omega, by omega⟩) (ed_sub (ed_var 2) ed_int) (ed_ixO List.mem_cons_self (at_dI (ns := L) (i := c - 2) (by omega) (by omega)) (ed_var 1) (ed_sub (ed_var 2) ed_int)))) (by rw [dI_len]; omega) (sd_nil ⟨.i c, rfl, ?_⟩)
    unfold oiL
    rw [dI_app]
    rfl
  · subst e1 e2
    rw [rg_len]
    have hl := oi_len n _ (Nat.le_refl _)
    exact sd_ret (ed_ixO List.mem_cons_self (at_dI (ns := oiAt n (n + 1 - 2).toNat) (i := n) (by omega) (by omega)) (ed_var 1) (ed_var 0)) fin1d
/-! ### _law_split -/
abbrev N_law_split : List Str := ["_law_total", "_law_rooms_here", "_law_top_here", "_law_found", "_law_room", "_law_later", "_law_head", "_law_part"]
abbrev PS_trt : List Str := ["_law_total", "_law_rooms_here", "_law_top_here"]
theorem sc_law_split : FnScope N_law_split PS_trt (defScope s_law_split) := ⟨rfl, rfl, rfl, by decide +kernel, rfl, by decide +kernel, by decide +kernel⟩
def Rlaw_split : RS := pureR fun ds d => ∃ (total : Int) (rooms : List Int) (top : Int), okSplit total rooms top = true ∧ ds = [.int total, tI rooms, .int top] ∧ d = .list ((mSplit total rooms top).map tI)
theorem fm_take {α β : Type} (g : α → List β) (l : List α) (i : Nat) : ((l.take i).flatMap g).length ≤ (l.flatMap g).length := by
  conv => rhs; rw [← List.take_append_drop i l]
  rw [List.flatMap_append, List.length_append]
  omega
theorem fm_succ {α β : Type} (g : α → List β) {l : List α} {i : Nat} {b : α} (h : l[i]? = some b) : (l.take (i + 1)).flatMap g = (l.take i).flatMap g ++ g b := by
  rw [List.take_add_one, h, List.flatMap_append]
  show _ ++ List.flatMap g [b] = _
  rw [List.flatMap_cons, List.flatMap_nil, List.append_nil]
theorem okL_in {l : List (List Int)} (h : okL l = true) {p : List Int} (hp : p ∈ l) : (-1000 ≤ p.sum ∧ p.sum ≤ 1000) ∧ p.length ≤ 1000 := by
  have := List.all_eq_true.mp (Bool.and_eq_true_iff.mp h).2 p hp
  obtain ⟨h1, h2⟩ := Bool.and_eq_true_iff.mp this
  exact ⟨inR_iff h2, of_decide_eq_true h1⟩
theorem ok_law_split (B : Bl mg) (F : FnP K "_law_split" s_law_split f fd) : FnOk P w K mg base CX0 1 f fd PS_trt (spF 3 Rlaw_split) := by
  refine fn_sd F sc_law_split (len1 fun ds d ⟨v, l, _, _, e, _⟩ => by rw [e]; rfl) fun cdv A outer s H E hr rs M r M' hR => ?_
  obtain ⟨ds, d, rfl, rfl, rfl, total, rooms, top, ho, rfl, rfl⟩ := hR
  obtain ⟨hz, ho⟩ := Bool.and_eq_true_iff.mp ho
  obtain ⟨ht, htop⟩ := Bool.and_eq_true_iff.mp hz
  have ht := inR_iff ht
  have htop := inR_iff htop
  obtain ⟨hl, ho⟩ := Bool.and_eq_true_iff.mp ho
  obtain ⟨hl, hz⟩ := Bool.and_eq_true_iff.mp hl
  have hl := of_decide_eq_true hl
  have hst : ∀ i, i ≤ rooms.length → okL (spAt total top rooms i) = true := fun i hi => List.all_eq_true.mp ho i (List.mem_range.mpr (by omega))
  refine sd_set (i := 3) (r := .dat (.list ((spAt total top rooms 0).map tI))) (ed_lst (ds := [tI []]) (ea_cons (ed_tup (ds := []) ea_nil (by decide)) ea_nil) (by simp)) ?_ sc_law_split.nd
  refine sd_for (L := rooms) (enc := .int) (bs := fun p => [(4, .int p)]) (fun i Γ N => ∃ r4 r5 r6 r7, Γ = [.i total, .t rooms, .i top, .dat (.list ((spAt total top rooms i).map tI)), r4, r5, r6, r7] ∧ N = M') (src_tup (ed_var 1))
    (pgn 4 sc_law_split.nd) (fun _ _ => tg_name) ⟨.no, .no, .no, .no, rfl, rfl⟩ (fun i Γ N ⟨_, _, _, _, _, e⟩ => by rw [e]; exact Kp.refl _) (fun i room Γ N hb ⟨r4, r5, r6, r7, e1, e2⟩ => ?_) fun Γ N ⟨r4, r5, r6, r7, e1, e2⟩ => ?_
  · subst e1 e2
    have ef : spAt total top rooms (i + 1) = (spAt total top rooms i).flatMap (spOne total top room) := foldl_take (spStep total top) _ hb
    have h1 := (List.getElem?_eq_some_iff.mp hb).1
    have o1 := hst i (by omega)
    have o2 := hst (i + 1) (by omega)
    have hroom := inR_iff (List.all_eq_true.mp hz _ (List.mem_of_getElem? hb))
    rw [ef] at o2 ⊢
    generalize spAt total top rooms i = L at o1 o2
    have ol : (L.flatMap (spOne total top room)).length ≤ 1000 := of_decide_eq_true (Bool.and_eq_true_iff.mp o2).1
    refine sd_set (i := 5) (r := .dat (.list [])) (ed_lst (ds := []) ea_nil (by simp)) ?_ sc_law_split.nd
    refine sd_for (L := L) (enc := tI) (bs := fun h => [(6, tI h)]) (fun j Γ N' => ∃ r6, Γ = [.i total, .t rooms, .i top, .dat (.list (L.map tI)), .i room, .dat (.list (((L.take j).flatMap (spOne total top room)).map tI)), r6, r7] ∧ N' = N) (src_list (ed_var 3))
      (pgn 6 sc_law_split.nd) (fun _ _ => tg_name) ⟨r6, rfl, rfl⟩ (fun i Γ N ⟨_, _, e⟩ => by rw [e]; exact Kp.refl _) (fun j h Γ N' hh ⟨r6, e1, e2⟩ => ?_) fun Γ N' ⟨r6, e1, e2⟩ => ?_
    · subst e1 e2
      have eg := fm_succ (spOne total top room) hh
      have ein := okL_in o1 (List.mem_of_getElem? hh)
      have el := fm_take (spOne total top room) L (j + 1)
      rw [eg] at el ⊢
      rw [List.length_append] at el
      have e8 : (rg 0 (min (min room top) (total - h.sum) + 1).toNat).map (fun c => tI (h ++ [c])) = (spOne total top room h).map tI := by
        unfold spOne
        rw [List.map_map]
        rfl
      have e9 : (spOne total top room h).length = (rg 0 (min (min room top) (total - h.sum) + 1).toNat).length := by
        unfold spOne
        rw [List.length_map]
      refine sd_set (i := 5) (r := .dat (.list ((((L.take j).flatMap (spOne total top room)) ++ spOne total top room h).map tI))) (ed_is (ed_catL (ds := ((L.take j).flatMap (spOne total top room)).map tI) (es := (spOne total top room h).map tI) (by rw [List.length_map, List.length_map]; omega) (ed_var 5)
        (ed_is (ed_lc (L := rg 0 (min (min room top) (total - h.sum) + 1).toNat) (enc := .int) (bs := fun c => [(7, .int c)]) (f := fun c => tI (h ++ [c])) [("_law_part", 7)] (src_range1 B.range_ (ed_add (ed_min3 B.min_ (ea_cons (ed_var 4) (ea_cons (ed_var 2) (ea_cons (ed_sub (ed_var 0) (ed_sumT B.sum_ (ed_var 6))) ea_nil)))) ed_int) (by omega) (by omega))
          (fun _ _ _ _ _ => pgn 7 sc_law_split.nd) (fun _ _ => tg_name) (fun _ _ p hp => by simp at hp; simp [hp]) (fun c _ M2 _ _ _ _ _ => ed_is (ed_catT (ds := dI h) (es := [.int c]) (by rw [dI_len]; show h.length + 1 ≤ _; omega) (ed_var 6) (ed_tup (ea_cons (ed_var 7) ea_nil) (by simp))) (by rw [tI, dI_app]; rfl)) (by omega) sc_law_split.nd (blkOk_by (N := N_law_split) (sc := defScope s_law_split) (by decide +kernel))) (by rw [e8]))) (by rw [List.map_append])) (sd_nil ⟨.t h, rfl, rfl⟩) sc_law_split.nd
    · subst e1 e2
      rw [List.take_length]
      exact sd_set (i := 3) (ed_var 5) (sd_nil ⟨.i room, _, r6, r7, rfl, rfl⟩) sc_law_split.nd
  · subst e1 e2
    have o1 := hst rooms.length (Nat.le_refl _)
    have ol : (spAt total top rooms rooms.length).length ≤ 1000 := of_decide_eq_true (Bool.and_eq_true_iff.mp o1).1
    exact sd_ret (ed_lcIf (L := spAt total top rooms rooms.length) (enc := tI) (bs := fun h => [(6, tI h)]) (q := fun h => decide (h.sum = total)) (f := tI) [("_law_head", 6)] (src_list (ed_var 3)) (fun _ _ _ _ _ => pgn 6 sc_law_split.nd) (fun _ _ => tg_name) (fun _ _ p hp => by simp at hp; simp [hp])
      (fun h _ M2 _ _ _ _ _ => et_eqI (ed_sumT B.sum_ (ed_var 6)) (ed_var 0)) (fun h hh _ M2 _ _ _ _ _ => ed_var 6) (by omega) sc_law_split.nd (blkOk_by (N := N_law_split) (sc := defScope s_law_split) (by decide +kernel))) fin0
end
end Wm
set_option Elab.async false
set_option linter.all false
set_option maxRecDepth 100000
set_option maxHeartbeats 4000000
namespace Wm
open PySem PySem.Spec PyProof.Rows L2
/-! ### plain -/
def lastI (ns : List Int) : Int := ns.getLast?.getD 0
theorem at_last {ns : List Int} (h : ns ≠ []) : atI (dI ns) (-1) = some (.int (lastI ns)) := by
  obtain ⟨l, a, rfl⟩ : ∃ l a, ns = l ++ [a] := ⟨ns.dropLast, ns.getLast h, (List.dropLast_concat_getLast h).symm⟩
  rw [dI_app]
  unfold lastI
  rw [List.getLast?_concat]
  exact atI_last _ _
def fmTop (p : List Int × Int) : Int := min p.2 (if p.1 = [] then p.2 else lastI p.1)
def fmNew (p : List Int × Int) : St2 := (rg 1 (fmTop p + 1 - 1).toNat).map fun c => (p.1 ++ [c], p.2 - c)
def fmIn (q : List (List Int) × St2) (p : List Int × Int) : List (List Int) × St2 := if p.2 = 0 then (q.1 ++ [p.1], q.2) else (q.1, q.2 ++ fmNew p)
def fmStep (q : List (List Int) × St2) : List (List Int) × St2 := q.2.foldl fmIn (q.1, [])
def fmAt (n : Int) : Nat → List (List Int) × St2
  | 0 => ([], [([], n)])
  | i + 1 => fmStep (fmAt n i)
def mForms0 (n : Int) : List (List Int) := (fmAt n n.toNat).1 ++ ((fmAt n n.toNat).2.filter fun h => decide (h.2 = 0)).map fun h => h.1
def mForms (n : Int) : List (List Int) := (srtT (mForms0 n)).reverse
def okFmAt (q : List (List Int) × St2) : Bool := (okSt q.2 && decide (q.1.length ≤ 1000)) && q.2.all fun p => inR (-1000) 1000 (lastI p.1)
def okForms (n : Int) : Bool := inR 0 100 n && ((List.range (n.toNat + 1)).all (fun i => okFmAt (fmAt n i)) && (decide ((mForms0 n).length ≤ 1000) && (decide ((mForms0 n).length ≤ 1) || (mForms0 n).all fun b => decide (b ≠ []))))
theorem fmIn_grow (p : List Int × Int) (q : List (List Int) × St2) : q.1.length ≤ (fmIn q p).1.length ∧ q.2.length ≤ (fmIn q p).2.length := by
  unfold fmIn
  split
  · exact ⟨by rw [List.length_append]; omega, Nat.le_refl _⟩
  · exact ⟨Nat.le_refl _, by rw [List.length_append]; omega⟩
theorem fm_grow : ∀ (l : St2) (q : List (List Int) × St2), q.1.length ≤ (l.foldl fmIn q).1.length ∧ q.2.length ≤ (l.foldl fmIn q).2.length
  | [], q => ⟨Nat.le_refl _, Nat.le_refl _⟩
  | p :: r, q => by
    have h1 := fmIn_grow p q
    have h2 := fm_grow r (fmIn q p)
    exact ⟨Nat.le_trans h1.1 h2.1, Nat.le_trans h1.2 h2.2⟩
theorem fm_upto (l : St2) (q : List (List Int) × St2) (i : Nat) : ((l.take i).foldl fmIn q).1.length ≤ (l.foldl fmIn q).1.length ∧ ((l.take i).foldl fmIn q).2.length ≤ (l.foldl fmIn q).2.length := by
  have h := fm_grow (l.drop i) ((l.take i).foldl fmIn q)
  rw [← List.foldl_append, List.take_append_drop] at h
  exact h
theorem sum_succ {α : Type} (g : α → Int) {l : List α} {i : Nat} {b : α} (h : l[i]? = some b) : ((l.take (i + 1)).map g).sum = ((l.take i).map g).sum + g b := by
  rw [List.take_add_one, h, List.map_append, List.sum_append]
  simp
/-- the scope of a comprehension -/
def lcScope : Expr → Scope
  | .ListComp _ _ sc _ => sc
  | _ => defScope s_law
def arg0 : Expr → Expr
  | .Call _ (e :: _) _ _ => e
  | e => e
def retE : Stmt → Expr
  | .Return (some e) _ => e
  | .Assign _ e _ => e
  | _ => .Tuple [] 0 ⟨0, 0, 0, 0⟩
def stAt (sts : List Stmt) (i : Nat) : Stmt := sts.getD i (.Pass ⟨0, 0, 0, 0⟩)
section
variable {P : Program} {w : World} {K : Fg} {mg : Str → Option Value} {base : Heap} {f : Addr} {fd : FuncData}
/-! ### _law_tilted -/
abbrev N_law_tilted : List Str := ["_law_form", "_law_k", "_law_part"]
theorem sc_law_tilted : FnScope N_law_tilted ["_law_form"] (defScope s_law_tilted) := ⟨rfl, rfl, rfl, by decide +kernel, rfl, by decide +kernel, by decide +kernel⟩
def okTilt (ns : List Int) : Bool := smallP ns
def Rlaw_tilted : RS := pureR fun ds d => ∃ ns : List Int, smallP ns = true ∧ ds = [tI ns] ∧ d = tI (mTilt ns)
theorem ok_law_tilted (B : Bl mg) (F : FnP K "_law_tilted" s_law_tilted f fd) : FnOk P w K mg base CX0 1 f fd ["_law_form"] (spF 1 Rlaw_tilted) := by
  refine fn_sd F sc_law_tilted (len1 fun ds d ⟨v, _, e, _⟩ => by rw [e]; rfl) fun cdv A outer s H E hr rs M r M' hR => ?_
  obtain ⟨ds, d, rfl, rfl, rfl, ns, hz, rfl, rfl⟩ := hR
  have hl := small_len hz
  have hu : (A.deeper (envOfC "_law_tilted" (defScope s_law_tilted) s.heap.objs.size f cdv)).units + 64 < cLine := hr.units
  have hb : 0 ≤ (if ns = [] then (0 : Int) else nthI ns 0) ∧ (if ns = [] then (0 : Int) else nthI ns 0) ≤ 1000 := by
    by_cases h : ns = []
    · rw [if_pos h]
      decide
    · rw [if_neg h]
      have hp : 0 < ns.length := List.length_pos_iff.mpr h
      exact small_nth hz hp
  refine sd_ret (r := .t (mTilt ns)) (ed_tupleL B.tuple_ (ed_is (ed_lc (L := rg 0 (if ns = [] then (0 : Int) else nthI ns 0).toNat) (enc := .int) (bs := fun k => [(1, .int k)]) (f := fun k => .int (((ns.filter fun p => decide (k < p)).length : Nat) : Int)) [("_law_k", 1)]
    (src_range1 B.range_ (ed_ifS (et_is (et_neD (d := tI ns) (d' := .tuple []) hu (shaped_tI ns) (shaped_tI []) (ed_var 0) (ed_tup (ds := []) ea_nil (by decide))) (by rw [eqv_nil])) (fun h => ?_) (fun h => ?_)) (by omega) (by omega)) (fun _ _ _ _ _ => pgn 1 sc_law_tilted.nd) (fun _ _ => tg_name) (fun _ _ p hp => by simp at hp; simp [hp])
    (fun k _ M2 s2 H2 C2 cl2 fp2 => ed_is (ed_lenL B.len_ (ed_lcIf (L := ns) (enc := .int) (bs := fun p => [(2, .int p)]) (q := fun p => decide (k < p)) (f := .int) [("_law_part", 2)] (src_tup (ed_var 0)) (fun _ _ _ _ _ => pgn 2 sc_law_tilted.nd) (fun _ _ => tg_name) (fun _ _ p hp => by simp at hp; simp [hp]) (fun p _ M2 _ _ _ _ _ => et_gt (ed_var 2) (ed_var 1)) (fun p _ _ M2 _ _ _ _ _ => ed_var 2) (by omega) sc_law_tilted.nd
      (blkOk_by (N := N_law_tilted) (sc := relabel (lcScope (arg0 (retE (stAt (defBody s_law_tilted) 0)))) (envOfC "" (defScope s_law_tilted) 0 0 .none)) (by decide +kernel)))) (by rw [List.length_map])) (by rw [rg_len]; omega) sc_law_tilted.nd (blkOk_by (N := N_law_tilted) (sc := defScope s_law_tilted) (by decide +kernel))) (by unfold dI mTilt; rw [List.map_map]; rfl))) fin0
  · have h : ns ≠ [] := by simpa using h
    rw [if_neg h]
    have hp : 0 < ns.length := List.length_pos_iff.mpr h
    exact ed_ixT (at_dI (by omega) (by omega)) (ed_var 0) ed_int
  · have h : ns = [] := by simpa using h
    rw [if_pos h]
    exact ed_int
/-! ### _law_arrays -/
abbrev N_law_arrays : List Str := ["_law_down", "_law_across", "_law_top_here", "_law_found", "_law_head", "_law_room", "_law_part"]
abbrev PS_dat : List Str := ["_law_down", "_law_across", "_law_top_here"]
theorem sc_law_arrays : FnScope N_law_arrays PS_dat (defScope s_law_arrays) := ⟨rfl, rfl, rfl, by decide +kernel, rfl, by decide +kernel, by decide +kernel⟩
def Rlaw_arrays (n : Nat) : RS := pureR fun ds d => ∃ (dn ac : List Int) (top : Int), dn.length ≤ n ∧ okLA dn ac top = true ∧ ds = [tI dn, tI ac, .int top] ∧ d = .int (mLA dn ac top)
theorem ok_law_arrays_step (B : Bl mg) (C1 : Cal P w K mg base 1 "_law_split" PS_trt Rlaw_split) (F : FnP K "_law_arrays" s_law_arrays f fd) (n : Nat) (hrec : ∀ m, n = m + 1 → Cal P w K mg base (m + 2) "_law_arrays" PS_dat (Rlaw_arrays m)) : FnOk P w K mg base CX0 (n + 2) f fd PS_dat (spF 3 (Rlaw_arrays n)) := by
  refine fn_sd F sc_law_arrays (len1 fun ds d ⟨v, l, _, _, _, e, _⟩ => by rw [e]; rfl) fun cdv A outer s H E hr rs M r M' hR => ?_
  obtain ⟨ds, d, rfl, rfl, rfl, dn, ac, top, hz, ho, rfl, rfl⟩ := hR
  have hu : (A.deeper (envOfC "_law_arrays" (defScope s_law_arrays) s.heap.objs.size f cdv)).units + 64 < cLine := hr.units
  refine sd_if (q := decide (dn = [])) (et_is (et_eqD (d := tI dn) (d' := .tuple []) hu (shaped_tI dn) (shaped_tI []) (ed_var 0) (ed_tup (ds := []) ea_nil (by decide))) (by rw [eqv_nil])) (fun h => ?_) (fun h => ?_)
  · have h := of_decide_eq_true h
    subst h
    exact sd_ret (r := .i (mLA [] ac top)) (ed_ifS (et_eqI (ed_sumT B.sum_ (ed_var 1)) ed_int) (fun h => by rw [mLA, if_pos (of_decide_eq_true h)]; exact ed_int) (fun h => by rw [mLA, if_neg (of_decide_eq_false h)]; exact ed_int)) fin0
  · have h := of_decide_eq_false h
    cases dn with
    | nil => exact absurd rfl h
    | cons d ds =>
      rw [List.length_cons] at hz
      obtain ⟨m, rfl⟩ : ∃ m, n = m + 1 := ⟨n - 1, by omega⟩
      have C2 := hrec m rfl
      obtain ⟨o1, o2⟩ := Bool.and_eq_true_iff.mp ho
      have hacl : ac.length ≤ 1000 := of_decide_eq_true (Bool.and_eq_true_iff.mp (Bool.and_eq_true_iff.mp (Bool.and_eq_true_iff.mp o1).2).1).1
      refine sd_nil ?_
      refine sd_set (i := 3) (r := .i 0) ed_int ?_ sc_law_arrays.nd
      refine sd_for (L := mSplit d ac top) (enc := tI) (bs := fun h => [(4, tI h)]) (fun j Γ N => ∃ r4, Γ = [.t (d :: ds), .t ac, .i top, .i (((mSplit d ac top).take j).map fun h => mLA ds (subZ ac h) top).sum, r4, .no, .no] ∧ N = M')
        (src_list (ed_call (C1.mono (by omega)) hr (ea_cons (ed_ixT (d := .int d) (show atI (dI (d :: ds)) 0 = some (.int d) from at_dI (ns := d :: ds) (by decide) (by simp)) (ed_var 0) ed_int) (ea_cons (ed_var 1) (ea_cons (ed_var 2) ea_nil))) ⟨[.int d, tI ac, .int top], _, rfl, rfl, rfl, d, ac, top, o1, rfl, rfl⟩)) (pgn 4 sc_law_arrays.nd) (fun _ _ => tg_name) ⟨.no, rfl, rfl⟩ (fun i Γ N ⟨_, _, e⟩ => by rw [e]; exact Kp.refl _) (fun j h Γ N hh ⟨r4, e1, e2⟩ => ?_) fun Γ N ⟨r4, e1, e2⟩ => ?_
      · subst e1 e2
        have e5 := sum_succ (fun h => mLA ds (subZ ac h) top) hh
        obtain ⟨o3, o4⟩ := Bool.and_eq_true_iff.mp (List.all_eq_true.mp o2 _ (List.mem_of_getElem? hh))
        have hlen : ac.length = h.length := of_decide_eq_true o3
        refine sd_set (i := 3) (r := .i (((mSplit d ac top).take (j + 1)).map fun h => mLA ds (subZ ac h) top).sum) (ed_is (ed_add (ed_var 3) (ed_call C2 hr (ea_cons (ed_is (r1 := .t ds) (ed_slT (ed_var 0) (eo_some ed_int) eo_none) (by rw [cut_from (by decide)]; rfl)) (ea_cons (ed_tupleL B.tuple_ (ed_is (ed_lc (L := ac.zip h) (enc := enc2) (bs := fun q => [(5, .int q.1), (6, .int q.2)]) (f := fun q => .int (q.1 - q.2)) [("_law_room", 5), ("_law_part", 6)]
          (src_is (src_zipT B.zip_ (ea_cons (ed_var 1) (ea_cons (ed_var 4) ea_nil)) (by rw [dI_len, dI_len, hlen])) (prs_dI _ _)) (fun _ _ _ _ _ => pg_tup rfl (pgs_cons (pgn 5 sc_law_arrays.nd) (pgs_cons (pgn 6 sc_law_arrays.nd) pgs_nil))) (fun _ _ => tg_pair) (fun _ _ p hp => by simp at hp; rcases hp with hp | hp <;> simp [hp])
          (fun n _ M2 _ _ _ _ _ => ed_sub (ed_var 5) (ed_var 6)) (by rw [List.length_zip]; omega) sc_law_arrays.nd (blkOk_by (N := N_law_arrays) (sc := defScope s_law_arrays) (by decide +kernel))) (r1 := .dat (.list (dI (subZ ac h)))) (by unfold dI subZ; rw [List.map_map]; rfl))) (ea_cons (ed_var 2) ea_nil)))
          ⟨[tI ds, tI (subZ ac h), .int top], _, rfl, rfl, rfl, ds, subZ ac h, top, by omega, o4, rfl, rfl⟩)) (by rw [e5])) (sd_nil ⟨.t h, rfl, rfl⟩) sc_law_arrays.nd
      · subst e1 e2
        rw [List.take_length]
        exact sd_ret (ed_var 3) fin0
theorem cal_law_arrays (B : Bl mg) (C1 : Cal P w K mg base 1 "_law_split" PS_trt Rlaw_split) (F : FnP K "_law_arrays" s_law_arrays f fd) (hm : mg "_law_arrays" = some (.ref f)) (hk : PySem.W.keepIn K (.ref f) = true) (hb : Binds K fd PS_dat []) : ∀ n : Nat, Cal P w K mg base (n + 2) "_law_arrays" PS_dat (Rlaw_arrays n)
  | 0 => ⟨f, fd, ok_law_arrays_step B C1 F 0 (fun m h => by omega), hm, hk, hb⟩
  | n + 1 => ⟨f, fd, ok_law_arrays_step B C1 F (n + 1) (fun m h => by
      have e : m = n := by omega
      rw [e]
      exact cal_law_arrays B C1 F hm hk hb n), hm, hk, hb⟩
/-! ### _law_forms -/
abbrev N_law_forms : List Str := ["_law_n", "_law_found", "_law_line_here", "_law_turn", "_law_later", "_law_head", "_law_left", "_law_top_here", "_law_part"]
theorem sc_law_forms : FnScope N_law_forms ["_law_n"] (defScope s_law_forms) := ⟨rfl, rfl, rfl, by decide +kernel, rfl, by decide +kernel, by decide +kernel⟩
def Rlaw_forms : RS := pureR fun ds d => ∃ n : Int, okForms n = true ∧ ds = [.int n] ∧ d = .list ((mForms n).map tI)
theorem ok_law_forms (B : Bl mg) (F : FnP K "_law_forms" s_law_forms f fd) : FnOk P w K mg base CX0 1 f fd ["_law_n"] (spF 1 Rlaw_forms) := by
  refine fn_sd F sc_law_forms (len1 fun ds d ⟨v, _, e, _⟩ => by rw [e]; rfl) fun cdv A outer s H E hr rs M r M' hR => ?_
  obtain ⟨ds, d, rfl, rfl, rfl, n, ho, rfl, rfl⟩ := hR
  obtain ⟨hn, ho⟩ := Bool.and_eq_true_iff.mp ho
  have hn := inR_iff hn
  obtain ⟨ho, hf⟩ := Bool.and_eq_true_iff.mp ho
  obtain ⟨hf1, hf2⟩ := Bool.and_eq_true_iff.mp hf
  have hf1 := of_decide_eq_true hf1
  have hst : ∀ i, i ≤ n.toNat → okFmAt (fmAt n i) = true := fun i hi => List.all_eq_true.mp ho i (List.mem_range.mpr (by omega))
  have hu : (A.deeper (envOfC "_law_forms" (defScope s_law_forms) s.heap.objs.size f cdv)).units + 64 < cLine := hr.units
  refine sd_parNew (i := 1) (j := 2) (r2 := .dat (.list ((fmAt n 0).2.map encKV))) (fun l => ed_lst (ds := [encKV ([], n)]) (ea_cons (ed_tup (ds := [tI [], .int n]) (ea_cons (ed_tup (ds := []) ea_nil (by decide)) (ea_cons (ed_var 0) ea_nil)) (by simp)) ea_nil) (by simp)) (fun lf => ?_) sc_law_forms.nd
  refine sd_for (L := rg 0 n.toNat) (enc := .int) (bs := fun b => [(3, .int b)]) (fun i Γ N => ∃ r3 r4 r5 r6 r7, Γ = [.i n, .at (.ref lf), .dat (.list ((fmAt n i).2.map encKV)), r3, r4, r5, r6, r7, .no] ∧ N = (lf, .lst ((fmAt n i).1.map tI)) :: M') (src_range1 B.range_ (ed_var 0) (by omega) (by omega))
    (pgn 3 sc_law_forms.nd) (fun _ _ => tg_name) ⟨.no, .no, .no, .no, .no, rfl, rfl⟩ (fun i Γ N ⟨_, _, _, _, _, _, e⟩ => by rw [e]; exact kp_head) (fun i b Γ N hb ⟨r3, r4, r5, r6, r7, e1, e2⟩ => ?_) fun Γ N ⟨r3, r4, r5, r6, r7, e1, e2⟩ => ?_
  · subst e1 e2
    obtain ⟨h4, h5⟩ := rg_at hb
    have o1 := hst i (by omega)
    have o2 := hst (i + 1) (by omega)
    have e9 : fmAt n (i + 1) = fmStep (fmAt n i) := rfl
    rw [e9] at o2 ⊢
    generalize fmAt n i = q at o1 o2
    obtain ⟨fo, L⟩ := q
    obtain ⟨o1a, o1b⟩ := Bool.and_eq_true_iff.mp o1
    obtain ⟨o1a, o1c⟩ := Bool.and_eq_true_iff.mp o1a
    obtain ⟨o2a, o2b⟩ := Bool.and_eq_true_iff.mp o2
    obtain ⟨o2a, o2c⟩ := Bool.and_eq_true_iff.mp o2a
    have o2c : (L.foldl fmIn (fo, [])).1.length ≤ 1000 := of_decide_eq_true o2c
    have o2d : (L.foldl fmIn (fo, [])).2.length ≤ 1000 := okSt_len o2a
    show SD _ (sets [.i n, .at (.ref lf), .dat (.list (L.map encKV)), r3, r4, r5, r6, r7, .no] (datS [(3, .int b)])) ((lf, .lst (fo.map tI)) :: M') _ _
    refine sd_set (i := 4) (r := .dat (.list [])) (ed_lst (ds := []) ea_nil (by simp)) ?_ sc_law_forms.nd
    refine sd_for (L := L) (enc := encKV) (bs := fun h => [(5, tI h.1), (6, .int h.2)]) (fun j Γ N => ∃ r5 r6 r7, Γ = [.i n, .at (.ref lf), .dat (.list (L.map encKV)), .i b, .dat (.list (((L.take j).foldl fmIn (fo, [])).2.map encKV)), r5, r6, r7, .no] ∧ N = (lf, .lst (((L.take j).foldl fmIn (fo, [])).1.map tI)) :: M') (src_list (ed_var 2))
      (pg_tup rfl (pgs_cons (pgn 5 sc_law_forms.nd) (pgs_cons (pgn 6 sc_law_forms.nd) pgs_nil))) (fun _ _ => tg_pair) ⟨r5, r6, r7, rfl, rfl⟩ (fun i Γ N ⟨_, _, _, _, e⟩ => by rw [e]; exact kp_head) (fun j h Γ N hh ⟨r5, r6, r7, e1, e2⟩ => ?_) fun Γ N ⟨r5, r6, r7, e1, e2⟩ => ?_
    · subst e1 e2
      have eg := foldl_take fmIn (fo, []) hh
      have ein := okSt_in o1a (List.mem_of_getElem? hh)
      have hlast := inR_iff (List.all_eq_true.mp o1b _ (List.mem_of_getElem? hh))
      have up := fm_upto L (fo, []) (j + 1)
      rw [eg] at up
      rw [eg]
      generalize (L.take j).foldl fmIn (fo, []) = q at up
      obtain ⟨fj, lj⟩ := q
      refine sd_if (q := decide (h.2 = 0)) (et_eqI (ed_var 6) ed_int) (fun hc => ?_) (fun hc => ?_)
      · have hc := of_decide_eq_true hc
        have e8 : fmIn (fj, lj) h = (fj ++ [h.1], lj) := if_pos hc
        rw [e8] at up ⊢
        have up1 : (fj ++ [h.1]).length ≤ _ := up.1
        rw [List.length_append] at up1
        refine sd_append (d := tI h.1) (ed_var 1) (ed_var 5) (by rw [List.length_map]; show fj.length < 100000; omega) (sd_nil (sd_nil ⟨.t h.1, .i h.2, r7, rfl, ?_⟩))
        show _ = (lf, MO.lst ((fj ++ [h.1]).map tI)) :: M'
        rw [List.map_append]
        rfl
      · have hc := of_decide_eq_false hc
        have e8 : fmIn (fj, lj) h = (fj, lj ++ fmNew h) := if_neg hc
        rw [e8] at up ⊢
        have up2 : (lj ++ fmNew h).length ≤ _ := up.2
        rw [List.length_append] at up2
        have e7 : (fmNew h).length = (rg 1 (fmTop h + 1 - 1).toNat).length := by unfold fmNew; rw [List.length_map]
        have e6 : (rg 1 (fmTop h + 1 - 1).toNat).map (fun c => encKV (h.1 ++ [c], h.2 - c)) = (fmNew h).map encKV := by
          unfold fmNew
          rw [List.map_map]
          rfl
        have htop : -1000 ≤ fmTop h ∧ fmTop h ≤ 1000 := by
          unfold fmTop
          split <;> omega
        refine sd_set (i := 7) (r := .i (fmTop h)) (ed_min2 B.min_ (ea_cons (ed_var 6) (ea_cons (ed_ifS (r := .i (if h.1 = [] then h.2 else lastI h.1)) (et_is (et_neD (d := tI h.1) (d' := .tuple []) hu (shaped_tI h.1) (shaped_tI []) (ed_var 5) (ed_tup (ds := []) ea_nil (by decide))) (by rw [eqv_nil])) (fun hd => ?_) (fun hd => ?_)) ea_nil))) ?_ sc_law_forms.nd
        · have hd : h.1 ≠ [] := by simpa using hd
          rw [if_neg hd]
          exact ed_ixT (at_last hd) (ed_var 5) (ed_neg ed_int)
        · have hd : h.1 = [] := by simpa using hd
          rw [if_pos hd]
          exact ed_var 6
        · refine sd_set (i := 4) (r := .dat (.list ((lj ++ fmNew h).map encKV))) (ed_is (ed_catL (ds := lj.map encKV) (es := (fmNew h).map encKV) (by rw [List.length_map, List.length_map]; omega) (ed_var 4)
            (ed_is (ed_lc (L := rg 1 (fmTop h + 1 - 1).toNat) (enc := .int) (bs := fun c => [(8, .int c)]) (f := fun c => encKV (h.1 ++ [c], h.2 - c)) [("_law_part", 8)] (src_range2 B.range_ (ea_cons ed_int (ea_cons (ed_add (ed_var 7) ed_int) ea_nil)) (by omega) (by omega) (by omega) (by omega))
              (fun _ _ _ _ _ => pgn 8 sc_law_forms.nd) (fun _ _ => tg_name) (fun _ _ p hp => by simp at hp; simp [hp]) (fun c _ M2 _ _ _ _ _ => ed_tup (ds := [tI (h.1 ++ [c]), .int (h.2 - c)]) (ea_cons (ed_is (ed_catT (ds := dI h.1) (es := [.int c]) (by rw [dI_len]; show h.1.length + 1 ≤ _; omega) (ed_var 5) (ed_tup (ea_cons (ed_var 8) ea_nil) (by simp))) (by rw [tI, dI_app]; rfl)) (ea_cons (ed_sub (ed_var 6) (ed_var 8)) ea_nil)) (by simp)) (by omega) sc_law_forms.nd (blkOk_by (N := N_law_forms) (sc := defScope s_law_forms) (by decide +kernel))) (by rw [e6]))) (by rw [List.map_append])) (sd_nil (sd_nil ⟨.t h.1, .i h.2, .i (fmTop h), rfl, rfl⟩)) sc_law_forms.nd
    · subst e1 e2
      rw [List.take_length]
      exact sd_set (i := 2) (ed_var 4) (sd_nil ⟨.i b, _, r5, r6, r7, rfl, rfl⟩) sc_law_forms.nd
  · subst e1 e2
    rw [rg_len]
    have o1 := hst n.toNat (Nat.le_refl _)
    obtain ⟨o1a, o1b⟩ := Bool.and_eq_true_iff.mp o1
    obtain ⟨o1a, o1c⟩ := Bool.and_eq_true_iff.mp o1a
    have o1c := of_decide_eq_true o1c
    have ol := okSt_len o1a
    have hlen : ((fmAt n n.toNat).1.map tI).length + ((((fmAt n n.toNat).2.filter fun h => decide (h.2 = 0)).map fun h => tI h.1)).length ≤ 100000 := by
      have := hf1
      unfold mForms0 at this
      rw [List.length_append, List.length_map] at this
      rw [List.length_map, List.length_map]
      omega
    have e6 : (fmAt n n.toNat).1.map tI ++ ((fmAt n n.toNat).2.filter fun h => decide (h.2 = 0)).map (fun h => tI h.1) = (mForms0 n).map tI := by
      unfold mForms0
      rw [List.map_append, List.map_map]
      rfl
    refine sd_free (i := 1) rfl ?_
    refine sd_ret (ed_is (ed_revL (ed_sortTs (bs := mForms0 n) B.sorted_ hu (ed_is (ed_catL hlen (ed_var 1) (ed_lcIf (L := (fmAt n n.toNat).2) (enc := encKV) (bs := fun h => [(5, tI h.1), (6, .int h.2)]) (q := fun h => decide (h.2 = 0)) (f := fun h => tI h.1) [("_law_head", 5), ("_law_left", 6)] (src_list (ed_var 2)) (fun _ _ _ _ _ => pg_tup rfl (pgs_cons (pgn 5 sc_law_forms.nd) (pgs_cons (pgn 6 sc_law_forms.nd) pgs_nil)))
      (fun _ _ => tg_pair) (fun _ _ p hp => by simp at hp; rcases hp with hp | hp <;> simp [hp]) (fun h _ M2 _ _ _ _ _ => et_eqI (ed_var 6) ed_int) (fun h hh _ M2 _ _ _ _ _ => ed_var 5) (by omega) sc_law_forms.nd (blkOk_by (N := N_law_forms) (sc := defScope s_law_forms) (by decide +kernel)))) (by rw [e6])) ?_ (by omega))) (r1 := .dat (.list ((mForms n).map tI))) (by unfold mForms; rw [List.map_reverse])) fin0
    rcases Bool.or_eq_true_iff.mp hf2 with h | h
    · exact .inl (of_decide_eq_true h)
    · exact .inr fun b hb => of_decide_eq_true (List.all_eq_true.mp h b hb)
end
end Wm
set_option Elab.async false
set_option linter.all false
set_option maxRecDepth 100000
set_option maxHeartbeats 4000000
/-! Defs that are called with no repr running: the guards of what stands around are known to be none. -/
namespace Wm
open PySem PySem.Spec PyProof.Rows L2
structure FnG (P : Program) (w : World) (K : Fg) (mg : Str → Option Value) (base : Heap) (k : Nat) (g : Addr) (gd : FuncData) (ps : List Str) (sp : Sp) : Prop where
  arity : ∀ xs G R E, sp xs G R E → xs.length = ps.length
  go : ∀ (B : Around) (fr : List Env) (st : Shared) (G : Hp) (ar : Args) (us : List Value) (xs : List V) (R : VK) (E : XK), B.guards = some [] → Room k B → Env0 P w K mg base B fr st G → BindsTo st gd ar (ps.zip us) → Vals xs us → sp xs G R E → codeAny (model P w) B (.call (.ref g) ar) (CR CX0 fr P w G st R E) st
section
variable {P : Program} {w : World} {K : Fg} {mg : Str → Option Value} {base : Heap}
theorem fnG_sd {x qual : Str} {params : Arguments} {body : List Stmt} {scope : Scope} {g : Addr} {gd : FuncData} {N ps : List Str} {k : Nat} {sp : Sp} (F : FunD K x qual params body scope [] [] g gd) (S : FnScope N ps scope) (hl : ∀ xs G R E, sp xs G R E → xs.length = ps.length)
    (hb : ∀ (cdv : Value) (B : Around) (fr : List Env) (st : Shared) (G : Hp) (E : XK), B.guards = some [] → Room k (B.deeper (envOfC qual scope st.heap.objs.size g cdv)) → ∀ xs R E0, sp xs G R E0 → ∃ rs M T, OwnOk G M ∧ Reps (hid M G) xs rs ∧
      SD (cxOf CX0 P w K mg base N qual scope g cdv B fr st G E).nox (rs ++ List.replicate (N.length - rs.length) .no) M body T ∧ (∀ Γ' N', ¬ T.nx Γ' N') ∧ ∀ r N' v H', T.rt r N' → Gw (hid M G) (hid N' H') → OwnOk H' N' → Rep (hid N' H') v r → R v H') : FnG P w K mg base (k + 1) g gd ps sp := by
  obtain ⟨oc, od, dV, kV, doc, pm, an, cdv, ct, osl, rfl, lk, hcd, _, _⟩ := F.ex
  refine ⟨hl, fun B fr st G ar us xs R E hg room en bd rel want => ?_⟩
  have inK : K.In st.heap := en.mod.kin.keeps fun a ob z => (en.bs a ob z).1
  have nolim : st.heap.NoLimit := en.mod.nolimit.keeps fun a ob z => (en.bs a ob z).1
  have kinds : ∀ p ∈ ps.zip us, scope.names.lookup p.1 = some .local ∨ (scope.names.lookup p.1 = some .cell ∧ ((cellsFrom (st.heap.objs.size + 1) scope.names []).lookup p.1).isSome = true) := fun ⟨nm, _⟩ hp =>
    (S.par nm (List.of_mem_zip hp).1).elim .inl fun z => .inr ⟨z, PySem.W.cellsFrom_some _ _ _ (.inl z)⟩
  refine codeAny_call_function room.depth (inK _ _ lk) rfl S.co S.gen rfl (PySem.W.codeRec_of inK hcd) (bd _ _ _ _ (wpAny_newFunctionEnv_cells S.kind kinds fun env ee s1 ic => ?_))
  subst ee
  refine ⟨nolim.keeps ic.toInCall.keep, codeAny_func ?_⟩
  obtain ⟨rs, M, T, o, hv, hS, hn, hq⟩ := hb cdv B fr st G E hg (room.deeper _) xs R E want
  have J0 : Inv (cxOf CX0 P w K mg base N qual scope g cdv B fr st G E) [] (L2.start N xs) G s1 := inv_start S room.hd en (hl _ _ _ _ want) rel ic
  have q0 : wSs (cxOf CX0 P w K mg base N qual scope g cdv B fr st G E).nox body { nx := fun _ H' => R .non H', rt := R } (L2.start N xs) G :=
    hS _ G _ ⟨o, env_start hv⟩ (fun Γ' N' σ' H' hp _ _ => absurd hp (hn Γ' N')) fun r N' v H' hp gg oo hh => hq r N' v H' hp gg oo hh
  refine wpAny_mono ((PSs.nox pss_w).run [] s1 (L2.start N xs) G _ J0 q0) (fun fl st' hs => ?_) fun _ _ z => z
  cases fl with
  | ret u =>
    obtain ⟨z, _, H', J, rz, q⟩ := hs
    exact ⟨z, H', J.os, J.bare, J.base, J.hok, rz, q⟩
  | next =>
    obtain ⟨_, H', J, q⟩ := hs
    exact ⟨.non, H', J.os, J.bare, J.base, J.hok, rfl, q⟩
  | brk => exact False.elim hs.choose_spec.choose_spec.2
  | cont => exact False.elim hs.choose_spec.choose_spec.2
end
theorem pe_callG {X : Cx} {k : Nat} {g : Addr} {gd : FuncData} {ps : List Str} {sp : Sp} {x : Str} {p pos : Pos} {e : Expr} {es : List Expr} {t : TA} (F : FnG X.prog X.w X.K X.mg X.base k g gd ps sp) (room : Room k X.A) (hgd : X.A.guards = some []) (hg : Gl X x) (hm : X.mg x = some (.ref g)) (hk : PySem.W.keepIn X.K (.ref g) = true) (bd : Binds X.K gd ps [])
    (ha : PA X (e :: es) t) (hdb : (x == ("__debug__" : Str)) = false := by decide) (he : starEach (e :: es) X.env = (false, eval e X.env) :: starEach es X.env := by rfl) (hpl : (backTo pos (starEach es X.env)).any (·.1) = false := by rfl) :
    PE X (.Call (.Name x p) (e :: es) [] pos) (tCall sp [] (fun _ _ _ => False) t) :=
  ⟨fun pins s σ H Q I h => wpAny_Call_Name_kw (ld_glob I hg hm (PySem.W.callWith_K (h₀ := X.base) I.ok.mod.kin hk (thn (ha.run pos pins s σ H _ I h) fun us s1 ⟨xs, H1, I1, rel, q⟩ => ⟨I1.kIn, by
    have q : sp (xs ++ []) H1 Q _ := q
    rw [List.append_nil] at q
    have hlen : us.length = ps.length := rel.length.symm.trans (F.arity _ _ _ _ q)
    have bd1 : BindsTo s1 gd ⟨us, []⟩ (ps.zip us) := by
      have := bd s1 us I1.kIn (by rw [List.append_nil]; exact hlen)
      rw [List.append_nil] at this
      exact this
    refine wpAny_call (codeAny_mono (F.go X.A X.stack s1 H1 ⟨us, []⟩ us xs Q _ hgd room I1.env0 bd1 rel q) fun r s' hq => ?_)
    match r, hq with
    | .ok (.ret u), hq => exact I1.after hq⟩) he hpl) hdb)⟩
/-- the end: the law's promise at the heap behind the top -/
theorem law_goG {P : Program} {w : World} {K : Fg} {mg mb : Str → Option Value} {k : Nat} {fa a : Addr} {fd : FuncData} {x : Str} {sp : Sp} {st : Shared} {us : List Value} {ns : List Int} (inK : K.In st.heap) (gns : st.heap.Ns mainGlobals mg) (bns : st.heap.Ns builtinsNs mb) (boot : ∀ y : Str, y ≠ "__name__" → mb y = bootBuiltins y) (nolim : st.heap.NoLimit) (gens0 : st.gens = #[])
    (hobj : st.heap.get? a = some { cls := .type "list", data := .seq us.toArray }) (areI : IntsAre us ns) (short : ns.length ≤ sizeLine) (room : Room k callerA) (F : ∀ bs : Heap, K.In bs → bs.Ns mainGlobals mg → FnG P w K mg bs k fa fd [x] sp) (bd : ∀ (s : Shared) (u : Value), BindsTo s fd ⟨[u], []⟩ [(x, u)])
    (want : ∀ G : Hp, Only G → SqL K G a (ns.map V.int) → sp [.ref a] G (fun v _ => v = .bl true) fun _ _ _ => False) :
    codeAny (model P w) callerA (.call (.ref fa) ⟨[.ref a], []⟩) (fun r s' => r = .ok (.ret (.bool true)) ∧ OldK st.heap s'.heap ∧ s'.os = st.os ∧ AllBare s'.gens) st := by
  have rel := vals_ints areI
  have key : ∀ G : Hp, Only G → SqL K G a (ns.map V.int) → HOk P w G st.heap → (∀ b, b ≠ a → G b = none) → (K.lookup a = none ∨ G a = none) →
      codeAny (model P w) callerA (.call (.ref fa) ⟨[.ref a], []⟩) (fun r s' => r = .ok (.ret (.bool true)) ∧ OldK st.heap s'.heap ∧ s'.os = st.os ∧ AllBare s'.gens) st := by
    intro G only lies good off dis
    have free : ∀ {b : Addr} {ob : Obj} {es : Array DictEntry} {ep : Nat}, st.heap.get? b = some ob → ob.data = .dict es ep → G b = none := fun {b ob es ep} h1 h2 => by
      by_cases hb : b = a
      · subst hb
        rw [hobj] at h1
        cases h1
        cases (show Data.seq us.toArray _ = Data.dict es ep from h2)
      · exact off b hb
    have nsx : ∀ {b : Addr} {m : Str → Option Value}, st.heap.Ns b m → (hidT st.heap G).Ns b m := fun ⟨ob, es, ep, h1, h2, h3⟩ => ⟨ob, es, ep, hidT_get h1 (free h1 h2), h2, h3⟩
    have kx : K.In (hidT st.heap G) := fun b ob h1 => hidT_get (inK b ob h1) (by
      by_cases hb : b = a
      · subst hb
        rcases dis with z | z
        · rw [z] at h1
          cases h1
        · exact z
      · exact off b hb)
    have md : Mod K mg (hidT st.heap G) := ⟨kx, nsx gns, ⟨mb, nsx bns, boot⟩, nolim.elim fun mc z => ⟨mc, nsx z.1, z.2⟩⟩
    have en : Env0 P w K mg (hidT st.heap G) callerA [] st G := ⟨rfl, md, fun b ob z => of_hidT z, Nat.le_of_eq (hidT_size _ _), trivial, nofun, good, .of_eq gens0⟩
    refine codeAny_mono ((F _ kx (nsx gns)).go callerA [] st G ⟨[.ref a], []⟩ [.ref a] [.ref a] _ _ rfl room en (bd st (.ref a)) (.cons rfl .nil) (want G only lies)) fun r s' hq => ?_
    match r, hq with
    | .ok (.ret u), ⟨v, G', h1, h2, h3, h4, h5, h6⟩ =>
      have h6 : v = .bl true := h6
      subst h6
      have h5 : u = Value.bool true := h5
      subst h5
      refine ⟨rfl, OldK.of_keep fun b ob z => ?_, h1, h2⟩
      rcases only b with e | ⟨o', xs, e⟩
      · exact h3.keep b ob z e nofun nofun
      · have z1 := (good b _ e).1
        have z2 := (h4 b _ (h3.frzs b o' _ e)).1
        rw [z] at z1
        cases z1
        exact z2
  have wide : us.length ≤ sizeLine := by
    rw [areI.length]
    exact short
  cases hk : K.lookup a with
  | some ob =>
    have z := inK a ob hk
    rw [hobj] at z
    cases z
    exact key (fun _ => none) (fun _ => .inl rfl) (.inr ⟨_, us.toArray, _, hk, rfl, rfl, rfl, by rw [List.size_toArray]; exact wide, rel⟩) (fun _ _ => nofun) (fun _ _ => rfl) (.inr rfl)
  | none =>
    have at_ : upd (fun _ => none) a (.frz { cls := .type "list", data := .seq us.toArray } (.lst (ns.map V.int))) a = some (HO.frz { cls := .type "list", data := .seq us.toArray } (.lst (ns.map V.int))) := upd_same
    have ne_ : ∀ b, b ≠ a → upd (fun _ => none) a (.frz { cls := .type "list", data := .seq us.toArray } (.lst (ns.map V.int))) b = none := fun b hb => upd_ne hb
    refine key _ (fun b => ?_) (.inl (.inr ⟨_, at_⟩)) (fun b u z => ?_) ne_ (.inl hk)
    · by_cases hb : b = a
      · subst hb
        exact .inr ⟨_, _, at_⟩
      · exact .inl (ne_ b hb)
    · by_cases hb : b = a
      · subst hb
        rw [at_] at z
        cases z
        exact ⟨hobj, by rw [List.length_map]; exact short, us, _, rel, hobj⟩
      · rw [ne_ b hb] at z
        cases z
theorem walk_goG {l : PySem.W.OpenLaw} {n k : Nat} {q : Program} {loose : List Str} {XP : (Str → Option Value) → Heap → Prop} {YP : World → Heap → Prop} {d : DefRec} {x : Str} (h1 : l.most = some n) (h2 : n ≤ sizeLine) (h3 : d.params.defaults = []) (room : Room k callerA)
    (F : ∀ (w : World) (mg : Str → Option Value) (fa : Addr) (h : Heap), YP w h → h.Ns mainGlobals mg → mg d.name = some (.ref fa) → ∃ (K : Fg) (fd : FuncData) (sp : Sp), K.In h ∧ (∀ (s : Shared) (u : Value), BindsTo s fd ⟨[u], []⟩ [(x, u)]) ∧
      (∀ (G : Hp) (a : Addr) (ns : List Int), ns.length ≤ n → Only G → SqL K G a (ns.map V.int) → sp [.ref a] G (fun v _ => v = .bl true) fun _ _ _ => False) ∧ ∀ bs : Heap, K.In bs → bs.Ns mainGlobals mg → FnG l.prog w K mg bs k fa fd [x] sp) :
    PySem.W.WalkO q loose XP YP l.row.toRowW d [] (fun f vs => PySem.call f vs) :=
  Att.attach_call h1 h3 fun w _ st mg mb fa _ _ _ _ a us ns G Y _ _ _ hmg hobj areI hlen hg => by
    obtain ⟨K, fd, sp, inK, bd, want, hF⟩ := F w mg fa _ Y G.T.g hmg
    exact law_goG inK G.T.g G.T.b G.T.builtins G.T.nolimit hg hobj areI (Nat.le_trans hlen h2) room hF bd fun H o s => want H a ns hlen o s
end Wm
set_option Elab.async false
set_option linter.all false
set_option maxRecDepth 100000
set_option maxHeartbeats 0
/-! The finite law: sums to five, three rows and three columns; orders to seven. -/
namespace Wm
open PySem PySem.Spec PyProof.Rows L2
def comps : Nat → Int → List (List Int)
  | 0, t => if t = 0 then [[]] else []
  | k + 1, t => (rg 0 (t + 1).toNat).flatMap fun i => (comps k (t - i)).map fun r => i :: r
def compsA (t : Int) : List (List Int) := comps 1 t ++ (comps 2 t ++ comps 3 t)
def insI (a : Int) : List Int → List Int
  | [] => [a]
  | b :: r => if a ≤ b then a :: b :: r else b :: insI a r
def isort : List Int → List Int
  | [] => []
  | a :: r => insI a (isort r)
def shapeOf (ns : List Int) : List Int := (isort (trimI ns)).reverse
def upL (ns : List Int) : List Int := ns.dropLast ++ [lastI ns + 1]
def fA (t : Int) (c : List Int) : Bool := (mForms0 t).all fun f => (smallP f && (okTC f c && okTC (mTilt f) c)) && (inR 0 100000 (mTab f c) && inR 0 100000 (mTab (mTilt f) c))
def fB1 (a b : List Int) : Bool := okMC 12 a b && (okMC 1 a b && (okLA a b 12 && okLA a b 1))
def fB2 (a b : List Int) : Bool := (decide (mArr a b 12 = mLA a b 12) && decide (mArr a b 1 = mLA a b 1)) && (inR 0 399 (mLA a b 12) && inR 0 399 (mLA a b 1))
def fB3 (t : Int) (a b : List Int) : Bool := decide (((mForms0 t).map fun f => mTab f a * mTab f b).sum = mArr a b 12) && decide (((mForms0 t).map fun f => mTab f a * mTab (mTilt f) b).sum = mArr a b 1)
def fB4 (a b : List Int) : Bool := ((smallP (shapeOf a) && smallP (shapeOf b)) && ((decide ((mTilt (shapeOf a)).length ≤ 1000) && okShape 40 (mTilt (shapeOf a))) && (okShape 40 (shapeOf b) && decide ((mTilt (shapeOf a)).sum = (shapeOf b).sum)))) && decide (isNonD (mLight (mTilt (shapeOf a)) (shapeOf b)) = decide (0 < mArr a b 1))
def fB5 (a b : List Int) : Bool := (okMC 12 a (upL b) && okMC 1 (a ++ [1]) b) && (decide (mArr a (upL b) 12 = 0) && decide (mArr (a ++ [1]) b 1 = 0))
def allP (q : Int → List Int → List Int → Bool) (t : Int) : Bool := (compsA t).all fun a => (compsA t).all fun b => q t a b
end Wm
set_option Elab.async false
set_option linter.all false
set_option maxRecDepth 100000
set_option maxHeartbeats 4000000
namespace Wm
open PySem PySem.Spec PyProof.Rows L2
/-! ### calls by names alone -/
def sw2 {α : Type} : List α → List α → List α
  | _, [u, v] => [v, u]
  | _, _ => []
def sw1 {α : Type} : List α → List α → List α
  | _, [u] => [u]
  | _, _ => []
structure CalK (P : Program) (w : World) (K : Fg) (mg : Str → Option Value) (base : Heap) (k : Nat) (x : Str) (ps ks : List Str) (g : {α : Type} → List α → List α → List α) (R : RS) : Prop where
  ex : ∃ (f : Addr) (fd : FuncData), FnOk P w K mg base CX0 k f fd ps (spF ps.length R) ∧ mg x = some (.ref f) ∧ PySem.W.keepIn K (.ref f) = true ∧ KBn K fd ps 0 ks g g
section
variable {X : Cx} {Γ : List Sl} {M M1 M2 M3 : Own} {a b c e : Expr} {r r1 r2 : Sl} {x : Str} {p pos p1 p2 : Pos} {k : Nat} {R : RS}
theorem ed_callK2 {ps : List Str} {k1 k2 : Str} (C : CalK X.prog X.w X.K X.mg X.base k x ps [k1, k2] sw2 R) (hr : Room k X.A) (ha : ED X Γ M a r1 M1) (hb : ED X Γ M1 b r2 M2) (hR : R [r2, r1] M2 r M3) (hl : ps.length = 2) (hg : Gl X x := by rfl) (hdb : (x == ("__debug__" : Str)) = false := by decide)
    (hall : (backToKw pos (keywordEach [⟨some k1, a, p1⟩, ⟨some k2, b, p2⟩] X.env)).all (·.1.isSome) = true := by rfl) (hks : (backToKw pos (keywordEach [⟨some k1, a, p1⟩, ⟨some k2, b, p2⟩] X.env)).filterMap (·.1) = [k1, k2] := by rfl)
    (hpl : ((backTo pos (starEach [] X.env)).any (·.1) || (backToKw pos (keywordEach [⟨some k1, a, p1⟩, ⟨some k2, b, p2⟩] X.env)).any (·.1.isNone)) = false := by rfl) : ED X Γ M (.Call (.Name x p) [] [⟨some k1, a, p1⟩, ⟨some k2, b, p2⟩] pos) r M3 := fun σ H Q kn q => by
  obtain ⟨f, fd, F, hm, hk, kb⟩ := C.ex
  refine PE_w (pe_callK F hr hg hm hk kb pass0 (pk_cons pe_w (pk_cons pe_w pk_nil)) hall hks hdb hpl) (ha σ H _ kn fun v H1 g1 o1 h1 => hb σ H1 _ (kn.to g1 o1) fun u H2 g2 o2 h2 => ⟨rfl, ?_⟩)
  exact ⟨[r2, r1], M2, r, M3, hl.symm, o2, .cons h2 (.cons (g2.rep h1) .nil), hR, fun z H3 g3 o3 h3 => q z H3 ((g1.trans g2).trans g3) o3 h3⟩
theorem ed_callK1 {ps : List Str} {k1 : Str} (C : CalK X.prog X.w X.K X.mg X.base k x ps [k1] sw1 R) (hr : Room k X.A) (ha : ED X Γ M a r1 M1) (hR : R [r1] M1 r M3) (hl : ps.length = 1) (hg : Gl X x := by rfl) (hdb : (x == ("__debug__" : Str)) = false := by decide)
    (hall : (backToKw pos (keywordEach [⟨some k1, a, p1⟩] X.env)).all (·.1.isSome) = true := by rfl) (hks : (backToKw pos (keywordEach [⟨some k1, a, p1⟩] X.env)).filterMap (·.1) = [k1] := by rfl)
    (hpl : ((backTo pos (starEach [] X.env)).any (·.1) || (backToKw pos (keywordEach [⟨some k1, a, p1⟩] X.env)).any (·.1.isNone)) = false := by rfl) : ED X Γ M (.Call (.Name x p) [] [⟨some k1, a, p1⟩] pos) r M3 := fun σ H Q kn q => by
  obtain ⟨f, fd, F, hm, hk, kb⟩ := C.ex
  refine PE_w (pe_callK F hr hg hm hk kb pass0 (pk_cons pe_w pk_nil) hall hks hdb hpl) (ha σ H _ kn fun v H1 g1 o1 h1 => ⟨rfl, ?_⟩)
  exact ⟨[r1], M1, r, M3, hl.symm, o1, .cons h1 .nil, hR, fun z H3 g3 o3 h3 => q z H3 (g1.trans g3) o3 h3⟩
end
theorem kbn2 {K : Fg} {x qual : Str} {params : Arguments} {body : List Stmt} {scope : Scope} {f : Addr} {fd : FuncData} {ps : List Str} {k1 k2 : Str} (F : FunD K x qual params body scope [] [] f fd)
    (h : ∀ (kV doc pm : Value) (an : Option Addr) (cdv ct u v : Value), bindArgs (PySem.W.fnOf x qual params body scope .none kV doc pm an cdv ct) ⟨[], [(k1, u), (k2, v)]⟩ = pure (ps.zip [v, u])) : KBn K fd ps 0 [k1, k2] sw2 sw2 := by
  obtain ⟨oc, od, dV, kV, doc, pm, an, cdv, ct, osl, rfl, lk, hcd, hD, hK⟩ := F.ex
  rcases hD with ⟨_, rfl⟩ | ⟨e, _⟩
  · refine ⟨fun s us ws _ h1 h2 => ?_, fun {vs us zs ws} _ r => ?_⟩
    · cases List.eq_nil_of_length_eq_zero h1
      match ws, h2 with
      | [u, v], _ => exact .of_eq (h kV doc pm an cdv ct u v)
    · cases r with
      | nil => exact .nil
      | cons r1 r =>
        cases r with
        | nil => exact .nil
        | cons r2 r =>
          cases r with
          | nil => exact .cons r2 (.cons r1 .nil)
          | cons _ _ => exact .nil
  · exact absurd rfl e
theorem kbn1 {K : Fg} {x qual : Str} {params : Arguments} {body : List Stmt} {scope : Scope} {f : Addr} {fd : FuncData} {ps : List Str} {k1 : Str} (F : FunD K x qual params body scope [] [] f fd)
    (h : ∀ (kV doc pm : Value) (an : Option Addr) (cdv ct u : Value), bindArgs (PySem.W.fnOf x qual params body scope .none kV doc pm an cdv ct) ⟨[], [(k1, u)]⟩ = pure (ps.zip [u])) : KBn K fd ps 0 [k1] sw1 sw1 := by
  obtain ⟨oc, od, dV, kV, doc, pm, an, cdv, ct, osl, rfl, lk, hcd, hD, hK⟩ := F.ex
  rcases hD with ⟨_, rfl⟩ | ⟨e, _⟩
  · refine ⟨fun s us ws _ h1 h2 => ?_, fun {vs us zs ws} _ r => ?_⟩
    · cases List.eq_nil_of_length_eq_zero h1
      match ws, h2 with
      | [u], _ => exact .of_eq (h kV doc pm an cdv ct u)
    · cases r with
      | nil => exact .nil
      | cons r1 r =>
        cases r with
        | nil => exact .cons r1 .nil
        | cons _ _ => exact .nil
  · exact absurd rfl e
/-! ### what the law needs of numbers -/
def shp (ns : List Int) : List Int := (srtI (trimI ns)).reverse
structure FinP (t : Int) (a b : List Int) : Prop where
  la : a.length ≤ 3
  lb : b.length ≤ 3
  nb : b ≠ []
  m12 : okMC 12 a b = true
  m1 : okMC 1 a b = true
  l12 : okLA a b 12 = true
  l1 : okLA a b 1 = true
  e12 : mArr a b 12 = mLA a b 12
  e1 : mArr a b 1 = mLA a b 1
  r12 : 0 ≤ mLA a b 12 ∧ mLA a b 12 ≤ 399
  r1 : 0 ≤ mLA a b 1 ∧ mLA a b 1 ≤ 399
  okF : okForms t = true
  fl : (mForms t).length ≤ 1000
  fm : ∀ f ∈ mForms t, smallP f = true ∧ okTC f a = true ∧ okTC f b = true ∧ okTC (mTilt f) b = true ∧ 0 ≤ mTab f a ∧ mTab f a ≤ 100000
  s12 : ((mForms t).map fun f => mTab f a * mTab f b).sum = mLA a b 12
  s1 : ((mForms t).map fun f => mTab f a * mTab (mTilt f) b).sum = mLA a b 1
  ha : smallP (shp a) = true
  hb : smallP (shp b) = true
  hl : (mTilt (shp a)).length ≤ 1000
  h1 : okShape 40 (mTilt (shp a)) = true
  h2 : okShape 40 (shp b) = true
  h3 : (mTilt (shp a)).sum = (shp b).sum
  h4 : isNonD (mLight (mTilt (shp a)) (shp b)) = decide (0 < mLA a b 1)
  u1 : okMC 12 a (upL b) = true
  u2 : okMC 1 (a ++ [1]) b = true
  u3 : mArr a (upL b) 12 = 0
  u4 : mArr (a ++ [1]) b 1 = 0
structure FinN (n : Int) : Prop where
  r : inR 0 40 n = true
  okF : okForms n = true
  fl : (mForms n).length ≤ 1000
  fm : ∀ f ∈ mForms n, okGrow f = true
  e : mOwn n = mOI n
  s : ((mForms n).map mGrow).sum = mOwn n
theorem cut_last {ns : List Int} : cutD (dI ns) none (some (-1)) = dI ns.dropLast := by
  unfold cutD
  rw [HT.sIx_none, List.drop_zero, Nat.sub_zero, dI_len, List.dropLast_eq_take]
  unfold dI
  rw [← List.map_take]
  congr 2
  have e : HT.sIx ns.length ns.length (some (-1)) = (if (-1 : Int) < 0 then ((-1 : Int) + (ns.length : Int)).toNat else min (-1 : Int).toNat ns.length) := rfl
  rw [e, if_pos (by decide)]
  omega
theorem shown_all : (List.range 400).all (fun x => decide ((PyData.list [.int (x : Int), .int (x : Int)]).shown.length ≤ 1000)) = true := by decide +kernel
theorem shown_two {x : Int} (h0 : 0 ≤ x) (h1 : x ≤ 399) : (PyData.list [.int x, .int x]).shown.length ≤ sizeLine := by
  have h := of_decide_eq_true (List.all_eq_true.mp shown_all x.toNat (List.mem_range.mpr (by omega)))
  rw [show ((x.toNat : Nat) : Int) = x by omega] at h
  exact Nat.le_trans h (by decide)
theorem log_small {n k : Nat} (h : n < 2 ^ k) (hk : 0 < k) : n.log2 < k := by
  by_cases z : n = 0
  · subst z
    exact hk
  · exact (Nat.log2_lt z).mpr h
theorem two_ok {x y : Int} (h1 : 0 ≤ x) (h2 : x ≤ 399) (h3 : 0 ≤ y) (h4 : y ≤ 399) : (PyData.list [.int x, .int y]).showable = true ∧ (PyData.list [.int x, .int y]).hasDict = false ∧ (PyData.list [.int x, .int y]).depth ≤ 60 := by
  refine ⟨?_, ?_, ?_⟩
  · simp [PyData.showable, PyData.showableAll]
    have a1 : x.natAbs.log2 < 9 := log_small (by omega) (by decide)
    have a2 : y.natAbs.log2 < 9 := log_small (by omega) (by decide)
    omega
  · simp [PyData.hasDict, PyData.hasDictAll]
  · simp [PyData.depth, PyData.depthAll]
theorem shaped_two (x y : Int) : SeqAt.shaped (.list [.int x, .int y]) = true := by simp [SeqAt.shaped, PyData.canLay0, PyData.canLayAll0, PyData.depth, PyData.depthAll]
theorem eqv_two (x : Int) : PyData.eqv (.list [.int x, .int x]) (.list [.int x, .int x]) = true := by simp [PyData.eqv, PyData.eqvAll]
theorem tg_pairL {K : Fg} {i j : Nat} {d1 d2 : PyData} : TgOk (gUnl K 2 (gCons (gName i) (gCons (gName j) gNil))) (.list [d1, d2]) [(i, d1), (j, d2)] := fun v σ H M Q h q => by
  cases h with
  | lst h1 h2 =>
    cases h2 with
    | cons a1 a2 =>
      cases a2 with
      | cons b1 b2 =>
        cases b2
        exact ⟨_, _, rfl, sql (hid_some h1).1, rfl, _, _, rfl, _, _, rfl, rfl, q [_, _] (.cons a1 (.cons b1 .nil))⟩
end Wm
set_option Elab.async false
set_option linter.all false
set_option maxRecDepth 100000
set_option maxHeartbeats 8000000
namespace Wm
open PySem PySem.Spec PyProof.Rows L2
theorem rg_mem {n : Nat} {a : Int} (h0 : 0 ≤ a) (h1 : a < n) : a ∈ rg 0 n := by
  unfold rg
  exact List.mem_map.mpr ⟨a.toNat, List.mem_range.mpr (by omega), by omega⟩
theorem sum_nn : ∀ {ns : List Int}, (∀ x ∈ ns, 0 ≤ x) → 0 ≤ ns.sum
  | [], _ => Int.le_refl _
  | a :: r, h => by
    have h1 := h a List.mem_cons_self
    have h2 := sum_nn (ns := r) fun x hx => h x (List.mem_cons_of_mem _ hx)
    rw [List.sum_cons]
    omega
theorem mem_comps : ∀ {ns : List Int} {t : Int}, (∀ x ∈ ns, 0 ≤ x) → ns.sum = t → ns ∈ comps ns.length t
  | [], t, _, e => by
    have e : t = 0 := e.symm
    subst e
    show [] ∈ (if (0 : Int) = 0 then [[]] else [])
    rw [if_pos rfl]
    exact List.mem_cons_self
  | a :: r, t, h, e => by
    rw [List.sum_cons] at e
    have h1 := h a List.mem_cons_self
    have hr : ∀ x ∈ r, 0 ≤ x := fun x hx => h x (List.mem_cons_of_mem _ hx)
    have h2 := sum_nn hr
    show a :: r ∈ (rg 0 (t + 1).toNat).flatMap fun i => (comps r.length (t - i)).map fun r => i :: r
    exact List.mem_flatMap.mpr ⟨a, rg_mem h1 (by omega), List.mem_map.mpr ⟨r, mem_comps hr (by omega), rfl⟩⟩
theorem sums_nn (v : Vat) {total : Int} (h0 : 0 ≤ total) : ∀ i, (∀ x ∈ (sumsAt v total i).1, 0 ≤ x) ∧ (sumsAt v total i).1.sum + (sumsAt v total i).2.1 = total
  | 0 => ⟨nofun, by show (0 : Int) + total = total; omega⟩
  | i + 1 => by
    obtain ⟨h1, h2⟩ := sums_nn v h0 i
    obtain ⟨h3, h4, h5⟩ := sums_left v h0 i
    have hr := sip_range (v := (sumsAt v total i).2.2) (top := (sumsAt v total i).2.1 + 1) (by omega)
    refine ⟨fun x hx => ?_, ?_⟩
    · rcases List.mem_append.mp (show x ∈ (sumsAt v total i).1 ++ [sipR (sumsAt v total i).2.2 ((sumsAt v total i).2.1 + 1)] from hx) with z | z
      · exact h1 x z
      · rw [List.mem_singleton.mp z]
        exact hr.1
    · show ((sumsAt v total i).1 ++ [sipR (sumsAt v total i).2.2 ((sumsAt v total i).2.1 + 1)]).sum + ((sumsAt v total i).2.1 - sipR (sumsAt v total i).2.2 ((sumsAt v total i).2.1 + 1)) = total
      rw [List.sum_append]
      simp
      omega
theorem sums_in (v : Vat) {total : Int} (h0 : 0 ≤ total) : sumsR v total ∈ compsA total := by
  obtain ⟨h1, h2⟩ := sums_nn v h0 (sumsN v)
  obtain ⟨h3, h4, h5⟩ := sums_left v h0 (sumsN v)
  have hr := sip_range (v := v) (top := 3) (by decide)
  have hN : sumsN v = 0 ∨ sumsN v = 1 ∨ sumsN v = 2 := by unfold sumsN; omega
  have hm : sumsR v total ∈ comps (sumsR v total).length total := by
    refine mem_comps (fun x hx => ?_) ?_
    · rcases List.mem_append.mp hx with z | z
      · exact h1 x z
      · rw [List.mem_singleton.mp z]
        exact h3
    · unfold sumsR
      rw [List.sum_append]
      simp
      omega
  have hl : (sumsR v total).length = sumsN v + 1 := by
    unfold sumsR
    rw [List.length_append, h5]
    rfl
  rw [hl] at hm
  unfold compsA
  rcases hN with e | e | e
  · rw [e] at hm
    exact List.mem_append_left _ hm
  · rw [e] at hm
    exact List.mem_append_right _ (List.mem_append_left _ hm)
  · rw [e] at hm
    exact List.mem_append_right _ (List.mem_append_right _ hm)
def forBody : Stmt → List Stmt
  | .For _ _ b _ _ => b
  | _ => []
def eRight : Expr := retE (stAt (forBody (stAt (defBody s_law_right) 0)) 8)
section
variable {P : Program} {w : World} {K : Fg} {mg : Str → Option Value} {base : Heap} {f : Addr} {fd : FuncData}
abbrev N_law_right : List Str := ["_law_vat", "_law_turn", "_law_total", "_law_down", "_law_across", "_law_due", "_law_less", "_law_forms_here", "_law_one", "_law_two", "_law_n", "_law_told", "_law_form", "_law_part", "_law_side"]
theorem sc_law_right : FnScope N_law_right ["_law_vat"] (defScope s_law_right) := ⟨rfl, rfl, rfl, by decide +kernel, rfl, by decide +kernel, by decide +kernel⟩
def spRight : Sp := fun vs H Q _ => ∃ l v M, OwnOk H ((l, .lst (Vat.l v)) :: M) ∧ Reps (hid ((l, .lst (Vat.l v)) :: M) H) vs [.at (.ref l)] ∧ ∀ H', Gw (hid ((l, .lst (Vat.l v)) :: M) H) (hid M H') → OwnOk H' M → Q (.bl true) H'
/-- what _law_right calls -/
structure Cals (P : Program) (w : World) (K : Fg) (mg : Str → Option Value) (base : Heap) : Prop where
  sip : Cal P w K mg base 1 "_law_sip" PS_vt Rlaw_sip
  sums : Cal P w K mg base 2 "_law_sums" PS_vto Rlaw_sums
  arrays : Cal P w K mg base 5 "_law_arrays" PS_dat (Rlaw_arrays 3)
  mc : Cal P w K mg base 4 "margin_count" PS_rc (RmarginW 12)
  zo : Cal P w K mg base 4 "zero_one_count" PS_rc (RmarginW 1)
  mcK : CalK P w K mg base 4 "margin_count" PS_rc ["columns", "rows"] sw2 (RmarginW 12)
  zoK : CalK P w K mg base 4 "zero_one_count" PS_rc ["columns", "rows"] sw2 (RmarginW 1)
  forms : Cal P w K mg base 1 "_law_forms" ["_law_n"] Rlaw_forms
  tc : Cal P w K mg base 4 "table_count" PS_sa Rtable_count
  tilt : Cal P w K mg base 1 "_law_tilted" ["_law_form"] Rlaw_tilted
  hv : Cal P w K mg base 5 "heavier" PS_so Rheavier
  oi : Cal P w K mg base 2 "own_inverse_count" ["size"] Rown_inverse_count
  oiK : CalK P w K mg base 2 "own_inverse_count" ["size"] ["size"] sw1 Rown_inverse_count
  loi : Cal P w K mg base 1 "_law_own_inverses" ["_law_n"] Rlaw_own_inverses
  gc : Cal P w K mg base 4 "growth_count" ["shape"] Rgrowth_count
theorem ok_law_right (B : Bl mg) (C : Cals P w K mg base) (HF : ∀ t a b, 0 ≤ t → t < 6 → a ∈ compsA t → b ∈ compsA t → FinP t a b) (HN : ∀ n, 0 ≤ n → n < 8 → FinN n) (F : FnP K "_law_right" s_law_right f fd) : FnG P w K mg base 6 f fd ["_law_vat"] spRight := by
  refine fnG_sd F sc_law_right (fun vs H Q E ⟨l, v, M, _, h, _⟩ => h.len) fun cdv A outer s H E hgd hr vs Q E0 ⟨l, v0, M, o, hv, q⟩ => ?_
  refine ⟨[.at (.ref l)], (l, .lst v0.l) :: M, ⟨fun _ _ => False, fun r N => r = .b true ∧ ∃ v : Vat, N = (l, .lst v.l) :: M⟩, o, hv, ?_, fun _ _ => id, fun r N v H' ⟨e1, vv, e2⟩ g o' hv' => ?_⟩
  rotate_left
  · subst e1 e2
    obtain ⟨o2, g2⟩ := OwnOk.drop (L := [(l, MO.lst vv.l)]) o'
    rw [inv_b hv']
    exact q H' (g.trans g2) o2
  have hu : (A.deeper (envOfC "_law_right" (defScope s_law_right) s.heap.objs.size f cdv)).units + 64 < cLine := hr.units
  have hgd2 : (A.deeper (envOfC "_law_right" (defScope s_law_right) s.heap.objs.size f cdv)).guards = some [] := hgd
  refine sd_for (L := rg 0 2) (enc := .int) (bs := fun b => [(1, .int b)]) (fun i Γ N => ∃ (v : Vat) (r1 r2 r3 r4 r5 r6 r7 r8 r9 : Sl), Γ = [.at (.ref l), r1, r2, r3, r4, r5, r6, r7, r8, r9, .no, .no, .no, .no, .no] ∧ N = (l, .lst v.l) :: M) (src_range1 B.range_ ed_int (by decide) (by decide))
    (pgn 1 sc_law_right.nd) (fun _ _ => tg_name) ⟨v0, .no, .no, .no, .no, .no, .no, .no, .no, .no, rfl, rfl⟩ (fun i Γ N ⟨_, _, _, _, _, _, _, _, _, _, _, e⟩ => by rw [e]; exact kp_head) (fun i b Γ N hb ⟨v, r1, r2, r3, r4, r5, r6, r7, r8, r9, e1, e2⟩ => ?_) fun Γ N ⟨v, r1, r2, r3, r4, r5, r6, r7, r8, r9, e1, e2⟩ => ?_
  · subst e1 e2
    have hs := sip_range (v := v) (top := 6) (by decide)
    refine sd_set (i := 2) (r := .i (sipR v 6)) (ed_call (C.sip.mono (by decide)) hr (ea_cons (ed_var 0) (ea_cons ed_int ea_nil)) ⟨l, v, 6, M, by decide, by decide, rfl, rfl, rfl, rfl⟩) ?_ sc_law_right.nd
    have ma := sums_in (sipV v 6) hs.1
    have mb := sums_in (sumsV (sipV v 6) (sipR v 6)) hs.1
    have FF := HF (sipR v 6) (sumsR (sipV v 6) (sipR v 6)) (sumsR (sumsV (sipV v 6) (sipR v 6)) (sipR v 6)) hs.1 hs.2 ma mb
    refine sd_asg (d := .tuple [tI (sumsR (sipV v 6) (sipR v 6)), tI (sumsR (sumsV (sipV v 6) (sipR v 6)) (sipR v 6))]) (bs := [(3, tI (sumsR (sipV v 6) (sipR v 6))), (4, tI (sumsR (sumsV (sipV v 6) (sipR v 6)) (sipR v 6)))]) (ed_tup (ds := [tI (sumsR (sipV v 6) (sipR v 6)), tI (sumsR (sumsV (sipV v 6) (sipR v 6)) (sipR v 6))])
      (ea_cons (ed_call (C.sums.mono (by decide)) hr (ea_cons (ed_var 0) (ea_cons (ed_var 2) ea_nil)) ⟨l, sipV v 6, sipR v 6, M, hs.1, by omega, rfl, rfl, rfl, rfl⟩)
        (ea_cons (ed_call (C.sums.mono (by decide)) hr (ea_cons (ed_var 0) (ea_cons (ed_var 2) ea_nil)) ⟨l, sumsV (sipV v 6) (sipR v 6), sipR v 6, M, hs.1, by omega, rfl, rfl, rfl, rfl⟩) ea_nil)) (by simp))
      (pg_tup rfl (pgs_cons (pgn 3 sc_law_right.nd) (pgs_cons (pgn 4 sc_law_right.nd) pgs_nil))) tg_pair ?_
    generalize sumsV (sumsV (sipV v 6) (sipR v 6)) (sipR v 6) = v2
    generalize sumsR (sipV v 6) (sipR v 6) = dn at FF
    generalize sumsR (sumsV (sipV v 6) (sipR v 6)) (sipR v 6) = ac at FF
    generalize sipR v 6 = t at FF
    have ldn := FF.la
    have lac := FF.lb
    refine sd_par (i := 5) (j := 6) (r1 := .i (mLA dn ac 12)) (r2 := .i (mLA dn ac 1))
      (ea_cons (ed_call C.arrays hr (ea_cons (ed_var 3) (ea_cons (ed_var 4) (ea_cons ed_int ea_nil))) ⟨[tI dn, tI ac, .int 12], _, rfl, rfl, rfl, dn, ac, 12, FF.la, FF.l12, rfl, rfl⟩)
        (ea_cons (ed_call C.arrays hr (ea_cons (ed_var 3) (ea_cons (ed_var 4) (ea_cons ed_int ea_nil))) ⟨[tI dn, tI ac, .int 1], _, rfl, rfl, rfl, dn, ac, 1, FF.la, FF.l1, rfl, rfl⟩) ea_nil)) ?_ sc_law_right.nd
    obtain ⟨w1, w2, w3⟩ := two_ok FF.r12.1 FF.r12.2 FF.r12.1 FF.r12.2
    obtain ⟨x1, x2, x3⟩ := two_ok FF.r1.1 FF.r1.2 FF.r1.1 FF.r1.2
    refine sd_if0 (et_is (et_neS (ed_repr (ds := [.int (mLA dn ac 12), .int (mLA dn ac 12)]) B.repr_ hgd2 hu w1 w2 w3 (shown_two FF.r12.1 FF.r12.2) (ed_lst (ea_cons (ed_call (C.mc.mono (by decide)) hr (ea_cons (ed_var 3) (ea_cons (ed_var 4) ea_nil)) ⟨[tI dn, tI ac], .int (mLA dn ac 12), rfl, rfl, rfl, dn, ac, FF.m12, rfl, by rw [FF.e12]⟩)
      (ea_cons (ed_callK2 C.mcK (hr.mono (by decide)) (ed_var 4) (ed_var 3) ⟨[tI dn, tI ac], .int (mLA dn ac 12), rfl, rfl, rfl, dn, ac, FF.m12, rfl, by rw [FF.e12]⟩ rfl) ea_nil)) (by simp)))
      (ed_repr (ds := [.int (mLA dn ac 12), .int (mLA dn ac 12)]) B.repr_ hgd2 hu w1 w2 w3 (shown_two FF.r12.1 FF.r12.2) (ed_lst (ea_cons (ed_var 5) (ea_cons (ed_var 5) ea_nil)) (by simp)))) (by rw [decide_eq_true rfl]; rfl)) ?_
    refine sd_if0 (et_is (et_neS (ed_repr (ds := [.int (mLA dn ac 1), .int (mLA dn ac 1)]) B.repr_ hgd2 hu x1 x2 x3 (shown_two FF.r1.1 FF.r1.2) (ed_lst (ea_cons (ed_call (C.zo.mono (by decide)) hr (ea_cons (ed_var 3) (ea_cons (ed_var 4) ea_nil)) ⟨[tI dn, tI ac], .int (mLA dn ac 1), rfl, rfl, rfl, dn, ac, FF.m1, rfl, by rw [FF.e1]⟩)
      (ea_cons (ed_callK2 C.zoK (hr.mono (by decide)) (ed_var 4) (ed_var 3) ⟨[tI dn, tI ac], .int (mLA dn ac 1), rfl, rfl, rfl, dn, ac, FF.m1, rfl, by rw [FF.e1]⟩ rfl) ea_nil)) (by simp)))
      (ed_repr (ds := [.int (mLA dn ac 1), .int (mLA dn ac 1)]) B.repr_ hgd2 hu x1 x2 x3 (shown_two FF.r1.1 FF.r1.2) (ed_lst (ea_cons (ed_var 6) (ea_cons (ed_var 6) ea_nil)) (by simp)))) (by rw [decide_eq_true rfl]; rfl)) ?_
    refine sd_set (i := 7) (r := .dat (.list ((mForms t).map tI))) (ed_call (C.forms.mono (by decide)) hr (ea_cons (ed_var 2) ea_nil) ⟨[.int t], _, rfl, rfl, rfl, t, FF.okF, rfl, rfl⟩) ?_ sc_law_right.nd
    refine sd_if0 (et_is (et_neI (ed_sumL B.sum_ (ed_is (r1 := .dat (.list (dI ((mForms t).map fun f => mTab f dn * mTab f ac)))) (ed_lc (L := mForms t) (enc := tI) (bs := fun h => [(12, tI h)]) (f := fun h => .int (mTab h dn * mTab h ac)) [("_law_form", 12)] (src_list (ed_var 7)) (fun _ _ _ _ _ => pgn 12 sc_law_right.nd) (fun _ _ => tg_name) (fun _ _ p hp => by simp at hp; simp [hp])
      (fun h hh M2 _ _ _ _ _ => ed_mul (i := mTab h dn) (j := mTab h ac) (.inl (by obtain ⟨_, _, _, _, a1, a2⟩ := FF.fm h hh; omega)) (ed_call (C.tc.mono (by decide)) hr (ea_cons (ed_var 12) (ea_cons (ed_var 3) ea_nil)) ⟨[tI h, tI dn], _, rfl, rfl, rfl, h, dn, (FF.fm h hh).2.1, rfl, rfl⟩) (ed_call (C.tc.mono (by decide)) hr (ea_cons (ed_var 12) (ea_cons (ed_var 4) ea_nil)) ⟨[tI h, tI ac], _, rfl, rfl, rfl, h, ac, (FF.fm h hh).2.2.1, rfl, rfl⟩))
      (Nat.le_trans FF.fl (by decide)) sc_law_right.nd (blkOk_by (N := N_law_right) (sc := defScope s_law_right) (by decide +kernel))) (by unfold dI; rw [List.map_map]; rfl))) (ed_var 5)) (by rw [FF.s12, decide_eq_true rfl]; rfl)) ?_
    refine sd_if0 (et_is (et_neI (ed_sumL B.sum_ (ed_is (r1 := .dat (.list (dI ((mForms t).map fun f => mTab f dn * mTab (mTilt f) ac)))) (ed_lc (L := mForms t) (enc := tI) (bs := fun h => [(12, tI h)]) (f := fun h => .int (mTab h dn * mTab (mTilt h) ac)) [("_law_form", 12)] (src_list (ed_var 7)) (fun _ _ _ _ _ => pgn 12 sc_law_right.nd) (fun _ _ => tg_name) (fun _ _ p hp => by simp at hp; simp [hp])
      (fun h hh M2 _ _ _ _ _ => ed_mul (i := mTab h dn) (j := mTab (mTilt h) ac) (.inl (by obtain ⟨_, _, _, _, a1, a2⟩ := FF.fm h hh; omega)) (ed_call (C.tc.mono (by decide)) hr (ea_cons (ed_var 12) (ea_cons (ed_var 3) ea_nil)) ⟨[tI h, tI dn], _, rfl, rfl, rfl, h, dn, (FF.fm h hh).2.1, rfl, rfl⟩)
        (ed_call (C.tc.mono (by decide)) hr (ea_cons (ed_call (C.tilt.mono (by decide)) hr (ea_cons (ed_var 12) ea_nil) ⟨[tI h], tI (mTilt h), rfl, rfl, rfl, h, (FF.fm h hh).1, rfl, rfl⟩) (ea_cons (ed_var 4) ea_nil)) ⟨[tI (mTilt h), tI ac], _, rfl, rfl, rfl, mTilt h, ac, (FF.fm h hh).2.2.2.1, rfl, rfl⟩))
      (Nat.le_trans FF.fl (by decide)) sc_law_right.nd (blkOk_by (N := N_law_right) (sc := defScope s_law_right) (by decide +kernel))) (by unfold dI; rw [List.map_map]; rfl))) (ed_var 6)) (by rw [FF.s1, decide_eq_true rfl]; rfl)) ?_
    refine sd_asg (d := .list [tI (shp dn), tI (shp ac)]) (bs := [(8, tI (shp dn)), (9, tI (shp ac))]) (ed_lc (L := [dn, ac]) (enc := tI) (bs := fun h => [(14, tI h)]) (f := fun h => tI (shp h)) [("_law_side", 14)] (src_list (ed_lst (ds := [tI dn, tI ac]) (ea_cons (ed_var 3) (ea_cons (ed_var 4) ea_nil)) (by simp))) (fun _ _ _ _ _ => pgn 14 sc_law_right.nd) (fun _ _ => tg_name) (fun _ _ p hp => by simp at hp; simp [hp])
      (fun h hh M2 s2 H2 C2 cl2 fp2 => ed_tupleL B.tuple_ (ed_is (r1 := .dat (.list (dI (shp h)))) (ed_revL (ed_sortI (ns := trimI h) B.sorted_ (ed_lcIf (L := h) (enc := .int) (bs := fun p => [(13, .int p)]) (q := fun p => decide (0 < p)) (f := .int) [("_law_part", 13)] (src_tup (ed_var 14)) (fun _ _ _ _ _ => pgn 13 sc_law_right.nd) (fun _ _ => tg_name) (fun _ _ p hp => by simp at hp; simp [hp]) (fun p _ M2 _ _ _ _ _ => et_gt (ed_var 13) ed_int) (fun p _ _ M2 _ _ _ _ _ => ed_var 13)
        (by have : h.length ≤ 3 := by (rcases List.mem_cons.mp hh with e | hh2; exact e ▸ ldn; rw [List.mem_singleton.mp hh2]; exact lac)
            omega) sc_law_right.nd (blkOk_by (N := N_law_right) (sc := relabel (lcScope eRight) (envOfC "" (defScope s_law_right) 0 0 .none)) (by decide +kernel))))) (by unfold shp dI; rw [List.map_reverse]))) (by simp) sc_law_right.nd (blkOk_by (N := N_law_right) (sc := defScope s_law_right) (by decide +kernel)))
      (pg_unl rfl (pgs_cons (pgn 8 sc_law_right.nd) (pgs_cons (pgn 9 sc_law_right.nd) pgs_nil))) tg_pairL ?_
    refine sd_if0 (et_is (et_neB (i := isNonD (mLight (mTilt (shp dn)) (shp ac))) (j := decide (0 < mLA dn ac 1)) (ed_call C.hv hr (ea_cons (ed_call (C.tilt.mono (by decide)) hr (ea_cons (ed_var 8) ea_nil) ⟨[tI (shp dn)], tI (mTilt (shp dn)), rfl, rfl, rfl, shp dn, FF.ha, rfl, rfl⟩) (ea_cons (ed_var 9) ea_nil)) ⟨[tI (mTilt (shp dn)), tI (shp ac)], _, rfl, rfl, rfl, mTilt (shp dn), shp ac, FF.hl, small_len FF.hb, FF.h1, FF.h2, FF.h3, rfl, rfl⟩)
      (ed_gt (ed_var 6) ed_int)) (by rw [FF.h4, decide_eq_true rfl]; rfl)) ?_
    refine sd_if0 (et_w (ew_orF (et_is (et_neI (i := 0) (ed_call (C.mc.mono (by decide)) hr (ea_cons (ed_var 3) (ea_cons (ed_is (r1 := .t (upL ac)) (ed_catT (ds := dI ac.dropLast) (es := [.int (lastI ac + 1)]) (by rw [dI_len, List.length_dropLast]; show ac.length - 1 + 1 ≤ _; omega) (ed_is (ed_slT (ed_var 4) eo_none (eo_some (ed_neg ed_int))) (by rw [cut_last])) (ed_tup (ds := [.int (lastI ac + 1)]) (ea_cons (ed_add (ed_ixT (at_last FF.nb) (ed_var 4) (ed_neg ed_int)) ed_int) ea_nil) (by simp))) (by unfold upL; rw [Sl.t, tI, dI_app]; rfl)) ea_nil))
        ⟨[tI dn, tI (upL ac)], .int 0, rfl, rfl, rfl, dn, upL ac, FF.u1, rfl, by rw [FF.u3]⟩) ed_int) (by decide))
      (ew_or1 (et_is (et_neI (i := 0) (ed_call (C.zo.mono (by decide)) hr (ea_cons (ed_is (r1 := .t (dn ++ [1])) (ed_catT (ds := dI dn) (es := [.int 1]) (by rw [dI_len]; show dn.length + 1 ≤ _; omega) (ed_var 3) (ed_tup (ea_cons ed_int ea_nil) (by simp))) (by rw [Sl.t, tI, dI_app]; rfl)) (ea_cons (ed_var 4) ea_nil)) ⟨[tI (dn ++ [1]), tI ac], .int 0, rfl, rfl, rfl, dn ++ [1], ac, FF.u2, rfl, by rw [FF.u4]⟩) ed_int) (by decide))))) ?_
    exact sd_nil ⟨v2, .i b, .i t, .t dn, .t ac, .i (mLA dn ac 12), .i (mLA dn ac 1), _, _, _, rfl, rfl⟩
  · subst e1 e2
    have hs := sip_range (v := v) (top := 8) (by decide)
    have FF := HN (sipR v 8) hs.1 hs.2
    refine sd_set (i := 10) (r := .i (sipR v 8)) (ed_call (C.sip.mono (by decide)) hr (ea_cons (ed_var 0) (ea_cons ed_int ea_nil)) ⟨l, v, 8, M, by decide, by decide, rfl, rfl, rfl, rfl⟩) ?_ sc_law_right.nd
    generalize sipV v 8 = v2
    generalize sipR v 8 = n at FF
    refine sd_set (i := 11) (r := .dat (.list [.int (mOwn n), .int (mOwn n)])) (ed_lst (ds := [.int (mOwn n), .int (mOwn n)]) (ea_cons (ed_call (C.oi.mono (by decide)) hr (ea_cons (ed_var 10) ea_nil) ⟨[.int n], _, rfl, rfl, rfl, n, FF.r, rfl, rfl⟩) (ea_cons (ed_callK1 C.oiK (hr.mono (by decide)) (ed_var 10) ⟨[.int n], .int (mOwn n), rfl, rfl, rfl, n, FF.r, rfl, rfl⟩ rfl) ea_nil)) (by simp)) ?_ sc_law_right.nd
    refine sd_ret (r := .b true) (ed_is (ed_and (p := true) (q := true) (ed_is (ed_eqD (d := .list [.int (mOwn n), .int (mOwn n)]) (d' := .list [.int (mOwn n), .int (mOwn n)]) hu (shaped_two _ _) (shaped_two _ _) (ed_var 11)
      (ed_bin op_rep (rd_repL (ds := [.int (mOwn n)]) (k := 2) (by decide) (by decide) (by simp)) (ed_lst (ds := [.int (mOwn n)]) (ea_cons (ed_call (C.loi.mono (by decide)) hr (ea_cons (ed_var 10) ea_nil) ⟨[.int n], .int (mOwn n), rfl, rfl, rfl, n, FF.r, rfl, by rw [FF.e]⟩) ea_nil) (by simp)) ed_int)) (by rw [eqv_two]))
      fun _ => ed_and1 (ed_is (ed_eqI (ed_sumL B.sum_ (ed_is (r1 := .dat (.list (dI ((mForms n).map mGrow)))) (ed_lc (L := mForms n) (enc := tI) (bs := fun h => [(12, tI h)]) (f := fun h => .int (mGrow h)) [("_law_form", 12)] (src_list (ed_call (C.forms.mono (by decide)) hr (ea_cons (ed_var 10) ea_nil) ⟨[.int n], _, rfl, rfl, rfl, n, FF.okF, rfl, rfl⟩)) (fun _ _ _ _ _ => pgn 12 sc_law_right.nd) (fun _ _ => tg_name) (fun _ _ p hp => by simp at hp; simp [hp])
        (fun h hh M2 _ _ _ _ _ => ed_call (C.gc.mono (by decide)) hr (ea_cons (ed_var 12) ea_nil) ⟨[tI h], _, rfl, rfl, rfl, h, FF.fm h hh, rfl, rfl⟩) (Nat.le_trans FF.fl (by decide)) sc_law_right.nd (blkOk_by (N := N_law_right) (sc := defScope s_law_right) (by decide +kernel))) (by unfold dI; rw [List.map_map]; rfl))) (ed_ixL (d := .int (mOwn n)) (i := 0) rfl (ed_var 11) ed_int)) (by rw [FF.s, decide_eq_true rfl]))) rfl) ⟨rfl, v2, rfl⟩
end
end Wm
set_option Elab.async false
set_option linter.all false
set_option maxRecDepth 100000
set_option maxHeartbeats 0
/-! The finite law, checked by the kernel. -/
namespace Wm
open PySem PySem.Spec PyProof.Rows L2
theorem t_fA : (rg 0 6).all (fun t => okForms t && (compsA t).all (fA t)) = true := by decide +kernel
/-- the k-th piece of a list -/
def sl {α : Type} (l : List α) (k : Nat) : List α := (l.drop (4 * k)).take 4
theorem all_sl {α : Type} {l : List α} {p : α → Bool} (n : Nat) (hl : l.length ≤ 4 * n) (h : ∀ k, k < n → (sl l k).all p = true) : l.all p = true := by
  refine List.all_eq_true.mpr fun x hx => ?_
  obtain ⟨i, hi, rfl⟩ := List.mem_iff_getElem.mp hx
  refine List.all_eq_true.mp (h (i / 4) (by omega)) _ (List.mem_of_getElem? (i := i % 4) ?_)
  unfold sl
  rw [List.getElem?_take_of_lt (Nat.mod_lt _ (by decide)), List.getElem?_drop, Nat.div_add_mod, List.getElem?_eq_getElem hi]
abbrev rowP (q : Int → List Int → List Int → Bool) (t : Int) (a : List Int) : Bool := (compsA t).all fun b => q t a b
theorem allP_6 {q : Int → List Int → List Int → Bool} (h0 : (rg 0 4).all (allP q) = true) (h4 : allP q 4 = true) (h5 : allP q 5 = true) : (rg 0 6).all (allP q) = true := by
  have e : rg 0 6 = rg 0 4 ++ [4, 5] := by decide
  rw [e, List.all_append, h0]
  show (true && (allP q 4 && (allP q 5 && true))) = true
  rw [h4, h5]
  rfl
theorem l4 : (compsA 4).length ≤ 4 * 6 := by decide +kernel
theorem l5 : (compsA 5).length ≤ 4 * 7 := by decide +kernel
def q_fB1 (t : Int) (a b : List Int) : Bool := fB1 a b
theorem t_fB1_0 : (rg 0 4).all (allP q_fB1) = true := by decide +kernel
theorem t_fB1_40 : (sl (compsA 4) 0).all (rowP q_fB1 4) = true := by decide +kernel
theorem t_fB1_41 : (sl (compsA 4) 1).all (rowP q_fB1 4) = true := by decide +kernel
theorem t_fB1_42 : (sl (compsA 4) 2).all (rowP q_fB1 4) = true := by decide +kernel
theorem t_fB1_43 : (sl (compsA 4) 3).all (rowP q_fB1 4) = true := by decide +kernel
theorem t_fB1_44 : (sl (compsA 4) 4).all (rowP q_fB1 4) = true := by decide +kernel
theorem t_fB1_45 : (sl (compsA 4) 5).all (rowP q_fB1 4) = true := by decide +kernel
theorem t_fB1_50 : (sl (compsA 5) 0).all (rowP q_fB1 5) = true := by decide +kernel
theorem t_fB1_51 : (sl (compsA 5) 1).all (rowP q_fB1 5) = true := by decide +kernel
theorem t_fB1_52 : (sl (compsA 5) 2).all (rowP q_fB1 5) = true := by decide +kernel
theorem t_fB1_53 : (sl (compsA 5) 3).all (rowP q_fB1 5) = true := by decide +kernel
theorem t_fB1_54 : (sl (compsA 5) 4).all (rowP q_fB1 5) = true := by decide +kernel
theorem t_fB1_55 : (sl (compsA 5) 5).all (rowP q_fB1 5) = true := by decide +kernel
theorem t_fB1_56 : (sl (compsA 5) 6).all (rowP q_fB1 5) = true := by decide +kernel
theorem t_fB1_4 : allP q_fB1 4 = true := all_sl 6 l4 fun k hk => match k, hk with | 0, _ => t_fB1_40 | 1, _ => t_fB1_41 | 2, _ => t_fB1_42 | 3, _ => t_fB1_43 | 4, _ => t_fB1_44 | 5, _ => t_fB1_45
theorem t_fB1_5 : allP q_fB1 5 = true := all_sl 7 l5 fun k hk => match k, hk with | 0, _ => t_fB1_50 | 1, _ => t_fB1_51 | 2, _ => t_fB1_52 | 3, _ => t_fB1_53 | 4, _ => t_fB1_54 | 5, _ => t_fB1_55 | 6, _ => t_fB1_56
theorem t_fB1 : (rg 0 6).all (allP q_fB1) = true := allP_6 t_fB1_0 t_fB1_4 t_fB1_5
def q_fB2 (t : Int) (a b : List Int) : Bool := fB2 a b
theorem t_fB2_0 : (rg 0 4).all (allP q_fB2) = true := by decide +kernel
theorem t_fB2_40 : (sl (compsA 4) 0).all (rowP q_fB2 4) = true := by decide +kernel
theorem t_fB2_41 : (sl (compsA 4) 1).all (rowP q_fB2 4) = true := by decide +kernel
theorem t_fB2_42 : (sl (compsA 4) 2).all (rowP q_fB2 4) = true := by decide +kernel
theorem t_fB2_43 : (sl (compsA 4) 3).all (rowP q_fB2 4) = true := by decide +kernel
theorem t_fB2_44 : (sl (compsA 4) 4).all (rowP q_fB2 4) = true := by decide +kernel
theorem t_fB2_45 : (sl (compsA 4) 5).all (rowP q_fB2 4) = true := by decide +kernel
theorem t_fB2_50 : (sl (compsA 5) 0).all (rowP q_fB2 5) = true := by decide +kernel
theorem t_fB2_51 : (sl (compsA 5) 1).all (rowP q_fB2 5) = true := by decide +kernel
theorem t_fB2_52 : (sl (compsA 5) 2).all (rowP q_fB2 5) = true := by decide +kernel
theorem t_fB2_53 : (sl (compsA 5) 3).all (rowP q_fB2 5) = true := by decide +kernel
theorem t_fB2_54 : (sl (compsA 5) 4).all (rowP q_fB2 5) = true := by decide +kernel
theorem t_fB2_55 : (sl (compsA 5) 5).all (rowP q_fB2 5) = true := by decide +kernel
theorem t_fB2_56 : (sl (compsA 5) 6).all (rowP q_fB2 5) = true := by decide +kernel
theorem t_fB2_4 : allP q_fB2 4 = true := all_sl 6 l4 fun k hk => match k, hk with | 0, _ => t_fB2_40 | 1, _ => t_fB2_41 | 2, _ => t_fB2_42 | 3, _ => t_fB2_43 | 4, _ => t_fB2_44 | 5, _ => t_fB2_45
theorem t_fB2_5 : allP q_fB2 5 = true := all_sl 7 l5 fun k hk => match k, hk with | 0, _ => t_fB2_50 | 1, _ => t_fB2_51 | 2, _ => t_fB2_52 | 3, _ => t_fB2_53 | 4, _ => t_fB2_54 | 5, _ => t_fB2_55 | 6, _ => t_fB2_56
theorem t_fB2 : (rg 0 6).all (allP q_fB2) = true := allP_6 t_fB2_0 t_fB2_4 t_fB2_5
def q_fB3 (t : Int) (a b : List Int) : Bool := fB3 t a b
theorem t_fB3_0 : (rg 0 4).all (allP q_fB3) = true := by decide +kernel
theorem t_fB3_40 : (sl (compsA 4) 0).all (rowP q_fB3 4) = true := by decide +kernel
theorem t_fB3_41 : (sl (compsA 4) 1).all (rowP q_fB3 4) = true := by decide +kernel
theorem t_fB3_42 : (sl (compsA 4) 2).all (rowP q_fB3 4) = true := by decide +kernel
theorem t_fB3_43 : (sl (compsA 4) 3).all (rowP q_fB3 4) = true := by decide +kernel
theorem t_fB3_44 : (sl (compsA 4) 4).all (rowP q_fB3 4) = true := by decide +kernel
theorem t_fB3_45 : (sl (compsA 4) 5).all (rowP q_fB3 4) = true := by decide +kernel
theorem t_fB3_50 : (sl (compsA 5) 0).all (rowP q_fB3 5) = true := by decide +kernel
theorem t_fB3_51 : (sl (compsA 5) 1).all (rowP q_fB3 5) = true := by decide +kernel
theorem t_fB3_52 : (sl (compsA 5) 2).all (rowP q_fB3 5) = true := by decide +kernel
theorem t_fB3_53 : (sl (compsA 5) 3).all (rowP q_fB3 5) = true := by decide +kernel
theorem t_fB3_54 : (sl (compsA 5) 4).all (rowP q_fB3 5) = true := by decide +kernel
theorem t_fB3_55 : (sl (compsA 5) 5).all (rowP q_fB3 5) = true := by decide +kernel
theorem t_fB3_56 : (sl (compsA 5) 6).all (rowP q_fB3 5) = true := by decide +kernel
theorem t_fB3_4 : allP q_fB3 4 = true := all_sl 6 l4 fun k hk => match k, hk with | 0, _ => t_fB3_40 | 1, _ => t_fB3_41 | 2, _ => t_fB3_42 | 3, _ => t_fB3_43 | 4, _ => t_fB3_44 | 5, _ => t_fB3_45
theorem t_fB3_5 : allP q_fB3 5 = true := all_sl 7 l5 fun k hk => match k, hk with | 0, _ => t_fB3_50 | 1, _ => t_fB3_51 | 2, _ => t_fB3_52 | 3, _ => t_fB3_53 | 4, _ => t_fB3_54 | 5, _ => t_fB3_55 | 6, _ => t_fB3_56
theorem t_fB3 : (rg 0 6).all (allP q_fB3) = true := allP_6 t_fB3_0 t_fB3_4 t_fB3_5
def q_fB4 (t : Int) (a b : List Int) : Bool := fB4 a b
theorem t_fB4_0 : (rg 0 4).all (allP q_fB4) = true := by decide +kernel
theorem t_fB4_40 : (sl (compsA 4) 0).all (rowP q_fB4 4) = true := by decide +kernel
theorem t_fB4_41 : (sl (compsA 4) 1).all (rowP q_fB4 4) = true := by decide +kernel
theorem t_fB4_42 : (sl (compsA 4) 2).all (rowP q_fB4 4) = true := by decide +kernel
theorem t_fB4_43 : (sl (compsA 4) 3).all (rowP q_fB4 4) = true := by decide +kernel
theorem t_fB4_44 : (sl (compsA 4) 4).all (rowP q_fB4 4) = true := by decide +kernel
theorem t_fB4_45 : (sl (compsA 4) 5).all (rowP q_fB4 4) = true := by decide +kernel
theorem t_fB4_50 : (sl (compsA 5) 0).all (rowP q_fB4 5) = true := by decide +kernel
theorem t_fB4_51 : (sl (compsA 5) 1).all (rowP q_fB4 5) = true := by decide +kernel
theorem t_fB4_52 : (sl (compsA 5) 2).all (rowP q_fB4 5) = true := by decide +kernel
theorem t_fB4_53 : (sl (compsA 5) 3).all (rowP q_fB4 5) = true := by decide +kernel
theorem t_fB4_54 : (sl (compsA 5) 4).all (rowP q_fB4 5) = true := by decide +kernel
theorem t_fB4_55 : (sl (compsA 5) 5).all (rowP q_fB4 5) = true := by decide +kernel
theorem t_fB4_56 : (sl (compsA 5) 6).all (rowP q_fB4 5) = true := by decide +kernel
theorem t_fB4_4 : allP q_fB4 4 = true := all_sl 6 l4 fun k hk => match k, hk with | 0, _ => t_fB4_40 | 1, _ => t_fB4_41 | 2, _ => t_fB4_42 | 3, _ => t_fB4_43 | 4, _ => t_fB4_44 | 5, _ => t_fB4_45
theorem t_fB4_5 : allP q_fB4 5 = true := all_sl 7 l5 fun k hk => match k, hk with | 0, _ => t_fB4_50 | 1, _ => t_fB4_51 | 2, _ => t_fB4_52 | 3, _ => t_fB4_53 | 4, _ => t_fB4_54 | 5, _ => t_fB4_55 | 6, _ => t_fB4_56
theorem t_fB4 : (rg 0 6).all (allP q_fB4) = true := allP_6 t_fB4_0 t_fB4_4 t_fB4_5
def q_fB5 (t : Int) (a b : List Int) : Bool := fB5 a b
theorem t_fB5_0 : (rg 0 4).all (allP q_fB5) = true := by decide +kernel
theorem t_fB5_40 : (sl (compsA 4) 0).all (rowP q_fB5 4) = true := by decide +kernel
theorem t_fB5_41 : (sl (compsA 4) 1).all (rowP q_fB5 4) = true := by decide +kernel
theorem t_fB5_42 : (sl (compsA 4) 2).all (rowP q_fB5 4) = true := by decide +kernel
theorem t_fB5_43 : (sl (compsA 4) 3).all (rowP q_fB5 4) = true := by decide +kernel
theorem t_fB5_44 : (sl (compsA 4) 4).all (rowP q_fB5 4) = true := by decide +kernel
theorem t_fB5_45 : (sl (compsA 4) 5).all (rowP q_fB5 4) = true := by decide +kernel
theorem t_fB5_50 : (sl (compsA 5) 0).all (rowP q_fB5 5) = true := by decide +kernel
theorem t_fB5_51 : (sl (compsA 5) 1).all (rowP q_fB5 5) = true := by decide +kernel
theorem t_fB5_52 : (sl (compsA 5) 2).all (rowP q_fB5 5) = true := by decide +kernel
theorem t_fB5_53 : (sl (compsA 5) 3).all (rowP q_fB5 5) = true := by decide +kernel
theorem t_fB5_54 : (sl (compsA 5) 4).all (rowP q_fB5 5) = true := by decide +kernel
theorem t_fB5_55 : (sl (compsA 5) 5).all (rowP q_fB5 5) = true := by decide +kernel
theorem t_fB5_56 : (sl (compsA 5) 6).all (rowP q_fB5 5) = true := by decide +kernel
theorem t_fB5_4 : allP q_fB5 4 = true := all_sl 6 l4 fun k hk => match k, hk with | 0, _ => t_fB5_40 | 1, _ => t_fB5_41 | 2, _ => t_fB5_42 | 3, _ => t_fB5_43 | 4, _ => t_fB5_44 | 5, _ => t_fB5_45
theorem t_fB5_5 : allP q_fB5 5 = true := all_sl 7 l5 fun k hk => match k, hk with | 0, _ => t_fB5_50 | 1, _ => t_fB5_51 | 2, _ => t_fB5_52 | 3, _ => t_fB5_53 | 4, _ => t_fB5_54 | 5, _ => t_fB5_55 | 6, _ => t_fB5_56
theorem t_fB5 : (rg 0 6).all (allP q_fB5) = true := allP_6 t_fB5_0 t_fB5_4 t_fB5_5
theorem t_len : (rg 0 6).all (fun t => (compsA t).all fun c => decide (c.length ≤ 3) && decide (c ≠ [])) = true := by decide +kernel
def fN (n : Int) : Bool := (inR 0 40 n && okForms n) && ((mForms0 n).all okGrow && (decide (mOwn n = mOI n) && decide (((mForms0 n).map mGrow).sum = mOwn n)))
theorem t_fN : (rg 0 8).all fN = true := by decide +kernel
/-! ### from there to what the law needs -/
theorem perm_sum {l l' : List Int} (h : l.Perm l') : l.sum = l'.sum := by
  induction h with
  | nil => rfl
  | cons a _ ih => rw [List.sum_cons, List.sum_cons, ih]
  | swap a b l =>
    rw [List.sum_cons, List.sum_cons, List.sum_cons, List.sum_cons]
    omega
  | trans _ _ h1 h2 => exact h1.trans h2
theorem forms_perm (n : Int) : (mForms n).Perm (mForms0 n) := (List.reverse_perm _).trans (List.mergeSort_perm _ _)
theorem forms_len {n : Int} (h : okForms n = true) : (mForms n).length ≤ 1000 := by
  obtain ⟨_, h⟩ := Bool.and_eq_true_iff.mp h
  obtain ⟨_, h⟩ := Bool.and_eq_true_iff.mp h
  obtain ⟨h, _⟩ := Bool.and_eq_true_iff.mp h
  rw [(forms_perm n).length_eq]
  exact of_decide_eq_true h
theorem insI_perm (a : Int) : ∀ l, (insI a l).Perm (a :: l)
  | [] => .refl _
  | b :: r => by
    unfold insI
    split
    · exact .refl _
    · exact ((insI_perm a r).cons b).trans (List.Perm.swap a b r)
theorem insI_sorted (a : Int) : ∀ l, l.Pairwise (· ≤ ·) → (insI a l).Pairwise (· ≤ ·)
  | [], _ => List.pairwise_singleton _ _
  | b :: r, h => by
    unfold insI
    obtain ⟨h1, h2⟩ := List.pairwise_cons.mp h
    split
    · rename_i hab
      exact List.pairwise_cons.mpr ⟨fun x hx => by
        rcases List.mem_cons.mp hx with z | z
        · rw [z]
          exact hab
        · exact Int.le_trans hab (h1 x z), h⟩
    · rename_i hab
      refine List.pairwise_cons.mpr ⟨fun x hx => ?_, insI_sorted a r h2⟩
      rcases List.mem_cons.mp ((insI_perm a r).mem_iff.mp hx) with z | z
      · rw [z]
        omega
      · exact h1 x z
theorem isort_perm : ∀ l, (isort l).Perm l
  | [] => .refl _
  | a :: r => (insI_perm a (isort r)).trans ((isort_perm r).cons a)
theorem isort_sorted : ∀ l, (isort l).Pairwise (· ≤ ·)
  | [] => List.Pairwise.nil
  | a :: r => insI_sorted a _ (isort_sorted r)
theorem shp_eq (ns : List Int) : shapeOf ns = shp ns := by
  unfold shapeOf shp
  rw [srtI_of (isort_perm (trimI ns)) (isort_sorted (trimI ns))]
theorem and2 {a b : Bool} (h : (a && b) = true) : a = true ∧ b = true := Bool.and_eq_true_iff.mp h
theorem finP {t : Int} {a b : List Int} (h0 : 0 ≤ t) (h1 : t < 6) (ha : a ∈ compsA t) (hb : b ∈ compsA t) : FinP t a b := by
  have ht : t ∈ rg 0 6 := by
    unfold rg
    exact List.mem_map.mpr ⟨t.toNat, List.mem_range.mpr (by omega), by omega⟩
  have pk : ∀ {q : Int → List Int → List Int → Bool}, (rg 0 6).all (allP q) = true → q t a b = true := fun h => List.all_eq_true.mp (List.all_eq_true.mp (List.all_eq_true.mp h t ht) a ha) b hb
  obtain ⟨okF, fa⟩ := and2 (List.all_eq_true.mp t_fA t ht)
  have faa := List.all_eq_true.mp fa a ha
  have fab := List.all_eq_true.mp fa b hb
  obtain ⟨b11, b12⟩ := and2 (show fB1 a b = true from pk t_fB1)
  obtain ⟨b12, b13⟩ := and2 b12
  obtain ⟨b13, b14⟩ := and2 b13
  obtain ⟨b21, b22⟩ := and2 (show fB2 a b = true from pk t_fB2)
  obtain ⟨b21, b23⟩ := and2 b21
  obtain ⟨b22, b24⟩ := and2 b22
  obtain ⟨b31, b32⟩ := and2 (show fB3 t a b = true from pk t_fB3)
  obtain ⟨b41, b42⟩ := and2 (show fB4 a b = true from pk t_fB4)
  obtain ⟨b41, b43⟩ := and2 b41
  obtain ⟨b41, b44⟩ := and2 b41
  obtain ⟨b43, b45⟩ := and2 b43
  obtain ⟨b43, b46⟩ := and2 b43
  obtain ⟨b45, b47⟩ := and2 b45
  obtain ⟨b51, b52⟩ := and2 (show fB5 a b = true from pk t_fB5)
  obtain ⟨b51, b53⟩ := and2 b51
  obtain ⟨b52, b54⟩ := and2 b52
  obtain ⟨l1, _⟩ := and2 (List.all_eq_true.mp (List.all_eq_true.mp t_len t ht) a ha)
  obtain ⟨l2, l3⟩ := and2 (List.all_eq_true.mp (List.all_eq_true.mp t_len t ht) b hb)
  have e12 := of_decide_eq_true b21
  have e1 := of_decide_eq_true b23
  rw [shp_eq] at b41 b43 b46 b47 b42
  rw [shp_eq] at b44 b45 b47 b42
  refine ⟨of_decide_eq_true l1, of_decide_eq_true l2, of_decide_eq_true l3, b11, b12, b13, b14, e12, e1, inR_iff b22, inR_iff b24, okF, forms_len okF, fun f hf => ?_, ?_, ?_, b41, b44, of_decide_eq_true b43, b46, b45, of_decide_eq_true b47, ?_, b51, b53, of_decide_eq_true b52, of_decide_eq_true b54⟩
  · have hf0 := (forms_perm t).mem_iff.mp hf
    obtain ⟨c1, c2⟩ := and2 (List.all_eq_true.mp faa f hf0)
    obtain ⟨c1, c3⟩ := and2 c1
    obtain ⟨c3, c4⟩ := and2 c3
    obtain ⟨d1, d2⟩ := and2 (List.all_eq_true.mp fab f hf0)
    obtain ⟨d1, d3⟩ := and2 d1
    obtain ⟨d3, d4⟩ := and2 d3
    exact ⟨c1, c3, d3, d4, inR_iff (and2 c2).1⟩
  · rw [perm_sum ((forms_perm t).map _), ← e12]
    exact of_decide_eq_true b31
  · rw [perm_sum ((forms_perm t).map _), ← e1]
    exact of_decide_eq_true b32
  · rw [← e1]
    exact of_decide_eq_true b42
theorem finN {n : Int} (h0 : 0 ≤ n) (h1 : n < 8) : FinN n := by
  have ht : n ∈ rg 0 8 := by
    unfold rg
    exact List.mem_map.mpr ⟨n.toNat, List.mem_range.mpr (by omega), by omega⟩
  obtain ⟨a1, a2⟩ := and2 (List.all_eq_true.mp t_fN n ht)
  obtain ⟨a1, a3⟩ := and2 a1
  obtain ⟨a2, a4⟩ := and2 a2
  obtain ⟨a4, a5⟩ := and2 a4
  refine ⟨a1, a3, forms_len a3, fun f hf => List.all_eq_true.mp a2 f ((forms_perm n).mem_iff.mp hf), of_decide_eq_true a4, ?_⟩
  rw [perm_sum ((forms_perm n).map _)]
  exact of_decide_eq_true a5
end Wm
set_option Elab.async false
set_option linter.all false
set_option maxRecDepth 100000
set_option maxHeartbeats 0
namespace Wm
open PySem PySem.Spec PyProof.Rows L2
section
variable {X : Cx} {Γ : List Sl} {M : Own} {a b : Expr} {pos p pos2 p2 : Pos} {f g : Addr} {fd gd : FuncData}
theorem ed_right {ns : List Int} {turn : Int} (FV : FnOk X.prog X.w X.K X.mg X.base CX0 1 f fd PS_st (spVat X.K)) (hm : X.mg "_law_vat_of" = some (.ref f)) (hk : PySem.W.keepIn X.K (.ref f) = true) (hb : Binds X.K fd PS_st []) (FR : FnG X.prog X.w X.K X.mg X.base 6 g gd ["_law_vat"] spRight) (hm2 : X.mg "_law_right" = some (.ref g)) (hk2 : PySem.W.keepIn X.K (.ref g) = true) (hb2 : Binds X.K gd ["_law_vat"] [])
    (hr : Room 6 X.A) (hgd : X.A.guards = some []) (hz : ns.length ≤ 100) (h0 : 0 ≤ turn) (h1 : turn ≤ 100) (ha : EA X Γ M [a, b] [.scr X.K ns, .i turn] M) (hg : Gl X "_law_vat_of" := by rfl) (hg2 : Gl X "_law_right" := by rfl)
    (he : starEach [a, b] X.env = (false, eval a X.env) :: starEach [b] X.env := by rfl) (hpl : (backTo pos2 (starEach [b] X.env)).any (·.1) = false := by rfl) (he2 : starEach [.Call (.Name "_law_vat_of" p2) [a, b] [] pos2] X.env = [(false, eval (.Call (.Name "_law_vat_of" p2) [a, b] [] pos2) X.env)] := by rfl) (hpl2 : (backTo pos (starEach [] X.env)).any (·.1) = false := by rfl) :
    ED X Γ M (.Call (.Name "_law_right" p) [.Call (.Name "_law_vat_of" p2) [a, b] [] pos2] [] pos) (.b true) M := fun σ H Q kn q =>
  PE_w (pe_callG FR hr hgd hg2 hm2 hk2 hb2 (pa_cons (pe_call FV (hr.mono (by decide)) hg hm hk hb .nil pass0 pa_w (by decide) he hpl) pa_nil he2) (by decide) he2 hpl2) (ha σ H _ kn fun vs H1 g1 o1 h1' => by
    refine ⟨M, ns, turn, o1, by rw [List.append_nil]; exact h1', hz, h0, h1, fun l v H2 g2 o2 => ⟨l, v, M, o2, .cons rfl .nil, fun H3 g3 o3 => q (.bl true) H3 ((g1.trans g2).trans g3) o3 (Dv.bl _)⟩⟩)
end
section
variable {P : Program} {w : World} {K : Fg} {mg : Str → Option Value} {base : Heap} {f fv fr : Addr} {fd dv dr : FuncData}
abbrev N_law : List Str := ["_law_script", "_law_turn"]
theorem sc_law : FnScope N_law ["_law_script"] (defScope s_law) := ⟨rfl, rfl, rfl, by decide +kernel, rfl, by decide +kernel, by decide +kernel⟩
def spLaw (K : Fg) : Sp := fun vs H Q _ => ∃ (a : Addr) (ns : List Int), vs = [.ref a] ∧ ns.length ≤ 100 ∧ SqL K H a (ns.map V.int) ∧ ∀ H', Q (.bl true) H'
theorem own_nil (H : Hp) : OwnOk H [] := ⟨List.nodup_nil, fun p hp => by cases hp⟩
theorem hid_nil (H : Hp) : hid [] H = H := funext fun b => if_neg (by simp)
theorem script_rep {H : Hp} {a : Addr} {ns : List Int} (h : SqL K H a (ns.map V.int)) : Rep (hid [] H) (.ref a) (.scr K ns) := by
  rw [hid_nil]
  exact ⟨a, rfl, h⟩
theorem all_true (l : List Int) : (l.map fun _ => true).all id = true := by
  induction l with
  | nil => rfl
  | cons a r ih => simpa using ih
theorem ok_law (B : Bl mg) (FV : FnOk P w K mg base CX0 1 fv dv PS_st (spVat K)) (hm : mg "_law_vat_of" = some (.ref fv)) (hk : PySem.W.keepIn K (.ref fv) = true) (hb : Binds K dv PS_st []) (FR : FnG P w K mg base 6 fr dr ["_law_vat"] spRight) (hm2 : mg "_law_right" = some (.ref fr)) (hk2 : PySem.W.keepIn K (.ref fr) = true) (hb2 : Binds K dr ["_law_vat"] [])
    (F : FnP K "law" s_law f fd) : FnG P w K mg base 7 f fd ["_law_script"] (spLaw K) := by
  refine fnG_sd F sc_law (fun vs H Q E ⟨a, ns, h, _⟩ => by rw [h]; rfl) fun cdv A outer s H E hgd hr vs Q E0 ⟨a, ns, hv, hz, hS, q⟩ => ?_
  have hgd2 : (A.deeper (envOfC "law" (defScope s_law) s.heap.objs.size f cdv)).guards = some [] := hgd
  have rp : Reps (hid [] H) vs [.scr K ns] := by
    subst hv
    exact .cons (script_rep hS) .nil
  refine ⟨[.scr K ns], [], ⟨fun _ _ => False, fun r N => r = .b true⟩, own_nil H, rp, ?_, fun _ _ => id, fun r N v H' e g o' hv' => ?_⟩
  · have hin : ∀ n ∈ rg 0 (max (2 : Int) (min (ns.length : Int) 5)).toNat, 0 ≤ n ∧ n ≤ 100 := fun n hn => by
      obtain ⟨i, hi, e⟩ := List.mem_map.mp hn
      have := List.mem_range.mp hi
      omega
    exact sd_ret (r := .b true) (ed_is (ed_allL B.all_ (ed_is (ed_lc (L := rg 0 (max (2 : Int) (min (ns.length : Int) 5)).toNat) (enc := .int) (bs := fun n => [(1, .int n)]) (f := fun n => .bool true) [("_law_turn", 1)] (src_range1 B.range_ (ed_max2 B.max_ (ea_cons ed_int (ea_cons (ed_min2 B.min_ (ea_cons (ed_lenS B.len_ (ed_var 0)) (ea_cons ed_int ea_nil))) ea_nil))) (by omega) (by omega))
      (fun _ _ _ _ _ => pgn 1 sc_law.nd) (fun _ _ => tg_name) (fun _ _ p hp => by simp at hp; simp [hp]) (fun n hn M2 _ _ _ _ _ => ed_right (ns := ns) (turn := n) FV hm hk hb FR hm2 hk2 hb2 hr hgd2 hz (hin n hn).1 (hin n hn).2 (ea_cons (ed_var 0) (ea_cons (ed_var 1) ea_nil))) (by rw [rg_len]; omega) sc_law.nd (blkOk_by (N := N_law) (sc := defScope s_law) (by decide +kernel)))
      (by rw [map_dB]))) (by rw [all_true])) rfl
  · subst e
    rw [inv_b hv']
    exact q H'
end
def names1 : List PySem.Str := ["WrongValue", "InvalidShape", "InvalidNumber", "InvalidAmounts", "NoAnswer", "UnlikeSizes", "MOST_LONG", "MOST_BOXES", "MOST_MARGINS", "is_number", "is_shape", "check_shape", "trimmed", "sums_along", "lighter_at", "check_sizes", "heavier", "hook_of", "hooks_of", "factorial", "growth_count", "are_amounts"]
def names2 : List PySem.Str := ["check_amounts", "parts_below", "tables_counted", "table_count", "check_margins", "rows_of_sum", "arrays_counted", "margin_count", "zero_one_count", "own_inverse_count", "_law_vat_of", "_law_sip", "_law_forms", "_law_tilted", "_law_split", "_law_arrays", "_law_sums", "_law_own_inverses", "_law_right"]
abbrev dOf (x : Str) (st : Stmt) : He.DefD := ⟨(x, none), x, x, defArgs st, defBody st, defScope st, [], []⟩
def fnA : List He.DefD := [dOf "is_number" s_is_number, dOf "is_shape" s_is_shape, dOf "check_shape" s_check_shape, dOf "trimmed" s_trimmed, dOf "sums_along" s_sums_along, dOf "lighter_at" s_lighter_at, dOf "check_sizes" s_check_sizes, dOf "heavier" s_heavier, dOf "hook_of" s_hook_of, dOf "hooks_of" s_hooks_of, dOf "factorial" s_factorial, dOf "growth_count" s_growth_count, dOf "are_amounts" s_are_amounts, dOf "check_amounts" s_check_amounts, dOf "parts_below" s_parts_below, dOf "tables_counted" s_tables_counted, dOf "table_count" s_table_count, dOf "check_margins" s_check_margins]
def fnB : List He.DefD := [dOf "rows_of_sum" s_rows_of_sum, dOf "arrays_counted" s_arrays_counted, dOf "margin_count" s_margin_count, dOf "zero_one_count" s_zero_one_count, dOf "own_inverse_count" s_own_inverse_count, dOf "_law_vat_of" s_law_vat_of, dOf "_law_sip" s_law_sip, dOf "_law_forms" s_law_forms, dOf "_law_tilted" s_law_tilted, dOf "_law_split" s_law_split, dOf "_law_arrays" s_law_arrays, dOf "_law_sums" s_law_sums, dOf "_law_own_inverses" s_law_own_inverses, dOf "_law_right" s_law_right, dOf "law" s_law]
def faA : List He.Fa := [.glo "is_number", .glo "is_shape", .glo "check_shape", .glo "trimmed", .glo "sums_along", .glo "lighter_at", .glo "check_sizes", .glo "heavier", .glo "hook_of", .glo "hooks_of", .glo "factorial", .glo "growth_count", .glo "are_amounts", .glo "check_amounts", .glo "parts_below", .glo "tables_counted", .glo "table_count", .glo "check_margins", .glo "rows_of_sum", .glo "arrays_counted", .glo "margin_count", .glo "zero_one_count", .glo "own_inverse_count", .glo "_law_vat_of", .glo "_law_sip", .glo "_law_forms", .glo "_law_tilted", .glo "_law_split", .glo "_law_arrays", .glo "_law_sums"]
def faB : List He.Fa := [.glo "_law_own_inverses", .glo "_law_right", .glo "law", .free "abs", .free "all", .free "bool", .free "divmod", .free "enumerate", .free "int", .free "isinstance", .free "len", .free "max", .free "min", .free "range", .free "repr", .free "sorted", .free "sum", .free "tuple", .free "zip", .int "MOST_LONG" 12, .int "MOST_BOXES" 40, .int "MOST_MARGINS" 6]
def fn : List He.DefD := fnA ++ fnB
def fa : List He.Fa := faA ++ faB
abbrev R : PySem.W.OpenRow := PySem.W.OpenLaw.row PySem.Challenge.rw_wordshapes_k56_whole_margins
abbrev hk : PySem.W.Hook := He.hookD 4 fa fn
def ob (s : PySem.W.SharedT) : He.AlD := He.obsDG 4 fa fn (HandSHeadRun.getT s)
theorem ob_eq (s : PySem.W.SharedT) : ob s = hk.obs s.abs := He.obsDG_eq (HandSHeadRun.getT_eq s)
theorem run (w : World) : HandSHeadRun.RunEq R (PySem.W.view R.prog [46]) hk ob 3000 (names1 ++ names2) w := by
  intro os
  kernel_rfl

theorem facts {P : Program} {w : World} {K : Fg} {h : Heap} {mg : Str → Option Value} {f : Addr} (X : K.In h) (G : h.Ns mainGlobals mg) (hfa : mg ("law" : Str) = some (.ref f)) (c : He.SaysD fa fn K) :
    ∃ fd : FuncData, (∀ (s : Shared) (v : Value), BindsTo s fd ⟨[v], []⟩ [("_law_script", v)]) ∧ ∀ base : Heap, K.In base → base.Ns mainGlobals mg → FnG P w K mg base 7 f fd ["_law_script"] (spLaw K) := by
  obtain ⟨d_is_number, F_is_number⟩ := c.def_ 0 (d := dOf "is_number" s_is_number) rfl
  have g_is_number := He.glo_ok X G (c.fact 0 (f := .glo "is_number") rfl)
  obtain ⟨d_is_shape, F_is_shape⟩ := c.def_ 1 (d := dOf "is_shape" s_is_shape) rfl
  have g_is_shape := He.glo_ok X G (c.fact 1 (f := .glo "is_shape") rfl)
  obtain ⟨d_check_shape, F_check_shape⟩ := c.def_ 2 (d := dOf "check_shape" s_check_shape) rfl
  have g_check_shape := He.glo_ok X G (c.fact 2 (f := .glo "check_shape") rfl)
  obtain ⟨d_trimmed, F_trimmed⟩ := c.def_ 3 (d := dOf "trimmed" s_trimmed) rfl
  have g_trimmed := He.glo_ok X G (c.fact 3 (f := .glo "trimmed") rfl)
  obtain ⟨d_sums_along, F_sums_along⟩ := c.def_ 4 (d := dOf "sums_along" s_sums_along) rfl
  have g_sums_along := He.glo_ok X G (c.fact 4 (f := .glo "sums_along") rfl)
  obtain ⟨d_lighter_at, F_lighter_at⟩ := c.def_ 5 (d := dOf "lighter_at" s_lighter_at) rfl
  have g_lighter_at := He.glo_ok X G (c.fact 5 (f := .glo "lighter_at") rfl)
  obtain ⟨d_check_sizes, F_check_sizes⟩ := c.def_ 6 (d := dOf "check_sizes" s_check_sizes) rfl
  have g_check_sizes := He.glo_ok X G (c.fact 6 (f := .glo "check_sizes") rfl)
  obtain ⟨d_heavier, F_heavier⟩ := c.def_ 7 (d := dOf "heavier" s_heavier) rfl
  have g_heavier := He.glo_ok X G (c.fact 7 (f := .glo "heavier") rfl)
  obtain ⟨d_hook_of, F_hook_of⟩ := c.def_ 8 (d := dOf "hook_of" s_hook_of) rfl
  have g_hook_of := He.glo_ok X G (c.fact 8 (f := .glo "hook_of") rfl)
  obtain ⟨d_hooks_of, F_hooks_of⟩ := c.def_ 9 (d := dOf "hooks_of" s_hooks_of) rfl
  have g_hooks_of := He.glo_ok X G (c.fact 9 (f := .glo "hooks_of") rfl)
  obtain ⟨d_factorial, F_factorial⟩ := c.def_ 10 (d := dOf "factorial" s_factorial) rfl
  have g_factorial := He.glo_ok X G (c.fact 10 (f := .glo "factorial") rfl)
  obtain ⟨d_growth_count, F_growth_count⟩ := c.def_ 11 (d := dOf "growth_count" s_growth_count) rfl
  have g_growth_count := He.glo_ok X G (c.fact 11 (f := .glo "growth_count") rfl)
  obtain ⟨d_are_amounts, F_are_amounts⟩ := c.def_ 12 (d := dOf "are_amounts" s_are_amounts) rfl
  have g_are_amounts := He.glo_ok X G (c.fact 12 (f := .glo "are_amounts") rfl)
  obtain ⟨d_check_amounts, F_check_amounts⟩ := c.def_ 13 (d := dOf "check_amounts" s_check_amounts) rfl
  have g_check_amounts := He.glo_ok X G (c.fact 13 (f := .glo "check_amounts") rfl)
  obtain ⟨d_parts_below, F_parts_below⟩ := c.def_ 14 (d := dOf "parts_below" s_parts_below) rfl
  have g_parts_below := He.glo_ok X G (c.fact 14 (f := .glo "parts_below") rfl)
  obtain ⟨d_tables_counted, F_tables_counted⟩ := c.def_ 15 (d := dOf "tables_counted" s_tables_counted) rfl
  have g_tables_counted := He.glo_ok X G (c.fact 15 (f := .glo "tables_counted") rfl)
  obtain ⟨d_table_count, F_table_count⟩ := c.def_ 16 (d := dOf "table_count" s_table_count) rfl
  have g_table_count := He.glo_ok X G (c.fact 16 (f := .glo "table_count") rfl)
  obtain ⟨d_check_margins, F_check_margins⟩ := c.def_ 17 (d := dOf "check_margins" s_check_margins) rfl
  have g_check_margins := He.glo_ok X G (c.fact 17 (f := .glo "check_margins") rfl)
  obtain ⟨d_rows_of_sum, F_rows_of_sum⟩ := c.def_ 18 (d := dOf "rows_of_sum" s_rows_of_sum) rfl
  have g_rows_of_sum := He.glo_ok X G (c.fact 18 (f := .glo "rows_of_sum") rfl)
  obtain ⟨d_arrays_counted, F_arrays_counted⟩ := c.def_ 19 (d := dOf "arrays_counted" s_arrays_counted) rfl
  have g_arrays_counted := He.glo_ok X G (c.fact 19 (f := .glo "arrays_counted") rfl)
  obtain ⟨d_margin_count, F_margin_count⟩ := c.def_ 20 (d := dOf "margin_count" s_margin_count) rfl
  have g_margin_count := He.glo_ok X G (c.fact 20 (f := .glo "margin_count") rfl)
  obtain ⟨d_zero_one_count, F_zero_one_count⟩ := c.def_ 21 (d := dOf "zero_one_count" s_zero_one_count) rfl
  have g_zero_one_count := He.glo_ok X G (c.fact 21 (f := .glo "zero_one_count") rfl)
  obtain ⟨d_own_inverse_count, F_own_inverse_count⟩ := c.def_ 22 (d := dOf "own_inverse_count" s_own_inverse_count) rfl
  have g_own_inverse_count := He.glo_ok X G (c.fact 22 (f := .glo "own_inverse_count") rfl)
  obtain ⟨d_law_vat_of, F_law_vat_of⟩ := c.def_ 23 (d := dOf "_law_vat_of" s_law_vat_of) rfl
  have g_law_vat_of := He.glo_ok X G (c.fact 23 (f := .glo "_law_vat_of") rfl)
  obtain ⟨d_law_sip, F_law_sip⟩ := c.def_ 24 (d := dOf "_law_sip" s_law_sip) rfl
  have g_law_sip := He.glo_ok X G (c.fact 24 (f := .glo "_law_sip") rfl)
  obtain ⟨d_law_forms, F_law_forms⟩ := c.def_ 25 (d := dOf "_law_forms" s_law_forms) rfl
  have g_law_forms := He.glo_ok X G (c.fact 25 (f := .glo "_law_forms") rfl)
  obtain ⟨d_law_tilted, F_law_tilted⟩ := c.def_ 26 (d := dOf "_law_tilted" s_law_tilted) rfl
  have g_law_tilted := He.glo_ok X G (c.fact 26 (f := .glo "_law_tilted") rfl)
  obtain ⟨d_law_split, F_law_split⟩ := c.def_ 27 (d := dOf "_law_split" s_law_split) rfl
  have g_law_split := He.glo_ok X G (c.fact 27 (f := .glo "_law_split") rfl)
  obtain ⟨d_law_arrays, F_law_arrays⟩ := c.def_ 28 (d := dOf "_law_arrays" s_law_arrays) rfl
  have g_law_arrays := He.glo_ok X G (c.fact 28 (f := .glo "_law_arrays") rfl)
  obtain ⟨d_law_sums, F_law_sums⟩ := c.def_ 29 (d := dOf "_law_sums" s_law_sums) rfl
  have g_law_sums := He.glo_ok X G (c.fact 29 (f := .glo "_law_sums") rfl)
  obtain ⟨d_law_own_inverses, F_law_own_inverses⟩ := c.def_ 30 (d := dOf "_law_own_inverses" s_law_own_inverses) rfl
  have g_law_own_inverses := He.glo_ok X G (c.fact 30 (f := .glo "_law_own_inverses") rfl)
  obtain ⟨d_law_right, F_law_right⟩ := c.def_ 31 (d := dOf "_law_right" s_law_right) rfl
  have g_law_right := He.glo_ok X G (c.fact 31 (f := .glo "_law_right") rfl)
  obtain ⟨d_law, F_law⟩ := c.def_ 32 (d := dOf "law" s_law) rfl
  have e := hfa.symm.trans (He.glo_ok X G (c.fact 32 (f := .glo "law") rfl))
  cases e
  have B : Bl mg := ⟨He.free_ok X G (c.fact 33 (f := .free "abs") rfl), He.free_ok X G (c.fact 34 (f := .free "all") rfl), He.free_ok X G (c.fact 35 (f := .free "bool") rfl), He.free_ok X G (c.fact 36 (f := .free "divmod") rfl), He.free_ok X G (c.fact 37 (f := .free "enumerate") rfl), He.free_ok X G (c.fact 38 (f := .free "int") rfl), He.free_ok X G (c.fact 39 (f := .free "isinstance") rfl), He.free_ok X G (c.fact 40 (f := .free "len") rfl), He.free_ok X G (c.fact 41 (f := .free "max") rfl), He.free_ok X G (c.fact 42 (f := .free "min") rfl), He.free_ok X G (c.fact 43 (f := .free "range") rfl), He.free_ok X G (c.fact 44 (f := .free "repr") rfl), He.free_ok X G (c.fact 45 (f := .free "sorted") rfl), He.free_ok X G (c.fact 46 (f := .free "sum") rfl), He.free_ok X G (c.fact 47 (f := .free "tuple") rfl), He.free_ok X G (c.fact 48 (f := .free "zip") rfl), He.int_ok X G (c.fact 49 (f := .int "MOST_LONG" 12) rfl), He.int_ok X G (c.fact 50 (f := .int "MOST_BOXES" 40) rfl), He.int_ok X G (c.fact 51 (f := .int "MOST_MARGINS" 6) rfl)⟩
  have b_is_number : Binds K d_is_number PS_num [] := FunD.bindsN (ps := PS_num) F_is_number fun _ _ _ _ _ _ us hl => match us, hl with | [_, _, _], _ => rfl
  have b_is_shape : Binds K d_is_shape PS_vm [] := FunD.bindsN (ps := PS_vm) F_is_shape fun _ _ _ _ _ _ us hl => match us, hl with | [_, _], _ => rfl
  have b_check_shape : Binds K d_check_shape PS_vm [] := FunD.bindsN (ps := PS_vm) F_check_shape fun _ _ _ _ _ _ us hl => match us, hl with | [_, _], _ => rfl
  have b_trimmed : Binds K d_trimmed ["numbers"] [] := FunD.bindsN (ps := ["numbers"]) F_trimmed fun _ _ _ _ _ _ us hl => match us, hl with | [_], _ => rfl
  have b_sums_along : Binds K d_sums_along ["shape", "many"] [] := FunD.bindsN (ps := ["shape", "many"]) F_sums_along fun _ _ _ _ _ _ us hl => match us, hl with | [_, _], _ => rfl
  have b_lighter_at : Binds K d_lighter_at PS_so [] := FunD.bindsN (ps := PS_so) F_lighter_at fun _ _ _ _ _ _ us hl => match us, hl with | [_, _], _ => rfl
  have b_check_sizes : Binds K d_check_sizes PS_so [] := FunD.bindsN (ps := PS_so) F_check_sizes fun _ _ _ _ _ _ us hl => match us, hl with | [_, _], _ => rfl
  have b_heavier : Binds K d_heavier PS_so [] := FunD.bindsN (ps := PS_so) F_heavier fun _ _ _ _ _ _ us hl => match us, hl with | [_, _], _ => rfl
  have b_hook_of : Binds K d_hook_of PS_src [] := FunD.bindsN (ps := PS_src) F_hook_of fun _ _ _ _ _ _ us hl => match us, hl with | [_, _, _], _ => rfl
  have b_hooks_of : Binds K d_hooks_of ["shape"] [] := FunD.bindsN (ps := ["shape"]) F_hooks_of fun _ _ _ _ _ _ us hl => match us, hl with | [_], _ => rfl
  have b_factorial : Binds K d_factorial ["number"] [] := FunD.bindsN (ps := ["number"]) F_factorial fun _ _ _ _ _ _ us hl => match us, hl with | [_], _ => rfl
  have b_growth_count : Binds K d_growth_count ["shape"] [] := FunD.bindsN (ps := ["shape"]) F_growth_count fun _ _ _ _ _ _ us hl => match us, hl with | [_], _ => rfl
  have b_are_amounts : Binds K d_are_amounts PS_vm [] := FunD.bindsN (ps := PS_vm) F_are_amounts fun _ _ _ _ _ _ us hl => match us, hl with | [_, _], _ => rfl
  have b_check_amounts : Binds K d_check_amounts ["value"] [] := FunD.bindsN (ps := ["value"]) F_check_amounts fun _ _ _ _ _ _ us hl => match us, hl with | [_], _ => rfl
  have b_parts_below : Binds K d_parts_below ["shape", "size"] [] := FunD.bindsN (ps := ["shape", "size"]) F_parts_below fun _ _ _ _ _ _ us hl => match us, hl with | [_, _], _ => rfl
  have b_tables_counted : Binds K d_tables_counted PS_sa [] := FunD.bindsN (ps := PS_sa) F_tables_counted fun _ _ _ _ _ _ us hl => match us, hl with | [_, _], _ => rfl
  have b_table_count : Binds K d_table_count PS_sa [] := FunD.bindsN (ps := PS_sa) F_table_count fun _ _ _ _ _ _ us hl => match us, hl with | [_, _], _ => rfl
  have b_check_margins : Binds K d_check_margins ["value"] [] := FunD.bindsN (ps := ["value"]) F_check_margins fun _ _ _ _ _ _ us hl => match us, hl with | [_], _ => rfl
  have b_rows_of_sum : Binds K d_rows_of_sum PS_tr [] := FunD.bindsN (ps := PS_tr) F_rows_of_sum fun _ _ _ _ _ _ us hl => match us, hl with | [_, _], _ => rfl
  have b_arrays_counted : Binds K d_arrays_counted PS_rcm [] := FunD.bindsN (ps := PS_rcm) F_arrays_counted fun _ _ _ _ _ _ us hl => match us, hl with | [_, _, _], _ => rfl
  have b_margin_count : Binds K d_margin_count PS_rc [] := FunD.bindsN (ps := PS_rc) F_margin_count fun _ _ _ _ _ _ us hl => match us, hl with | [_, _], _ => rfl
  have b_zero_one_count : Binds K d_zero_one_count PS_rc [] := FunD.bindsN (ps := PS_rc) F_zero_one_count fun _ _ _ _ _ _ us hl => match us, hl with | [_, _], _ => rfl
  have b_own_inverse_count : Binds K d_own_inverse_count ["size"] [] := FunD.bindsN (ps := ["size"]) F_own_inverse_count fun _ _ _ _ _ _ us hl => match us, hl with | [_], _ => rfl
  have b_law_vat_of : Binds K d_law_vat_of PS_st [] := FunD.bindsN (ps := PS_st) F_law_vat_of fun _ _ _ _ _ _ us hl => match us, hl with | [_, _], _ => rfl
  have b_law_sip : Binds K d_law_sip PS_vt [] := FunD.bindsN (ps := PS_vt) F_law_sip fun _ _ _ _ _ _ us hl => match us, hl with | [_, _], _ => rfl
  have b_law_forms : Binds K d_law_forms ["_law_n"] [] := FunD.bindsN (ps := ["_law_n"]) F_law_forms fun _ _ _ _ _ _ us hl => match us, hl with | [_], _ => rfl
  have b_law_tilted : Binds K d_law_tilted ["_law_form"] [] := FunD.bindsN (ps := ["_law_form"]) F_law_tilted fun _ _ _ _ _ _ us hl => match us, hl with | [_], _ => rfl
  have b_law_split : Binds K d_law_split PS_trt [] := FunD.bindsN (ps := PS_trt) F_law_split fun _ _ _ _ _ _ us hl => match us, hl with | [_, _, _], _ => rfl
  have b_law_arrays : Binds K d_law_arrays PS_dat [] := FunD.bindsN (ps := PS_dat) F_law_arrays fun _ _ _ _ _ _ us hl => match us, hl with | [_, _, _], _ => rfl
  have b_law_sums : Binds K d_law_sums PS_vto [] := FunD.bindsN (ps := PS_vto) F_law_sums fun _ _ _ _ _ _ us hl => match us, hl with | [_, _], _ => rfl
  have b_law_own_inverses : Binds K d_law_own_inverses ["_law_n"] [] := FunD.bindsN (ps := ["_law_n"]) F_law_own_inverses fun _ _ _ _ _ _ us hl => match us, hl with | [_], _ => rfl
  have b_law_right : Binds K d_law_right ["_law_vat"] [] := FunD.bindsN (ps := ["_law_vat"]) F_law_right fun _ _ _ _ _ _ us hl => match us, hl with | [_], _ => rfl
  have b := FunD.bindsA (ps := ["_law_script"]) F_law fun _ _ _ _ _ _ us hl => match us, hl with | [_], _ => rfl
  refine ⟨d_law, fun s v => b s [v] rfl, fun base _ _ => ?_⟩
  have k_is_number := ok_is_number (P := P) (w := w) (base := base) B  F_is_number
  have c_is_number : Cal P w K mg base 1 "is_number" PS_num Ris_number := ⟨⟨_, d_is_number, k_is_number, g_is_number, F_is_number.kp, b_is_number⟩⟩
  have k_is_shape := ok_is_shape (P := P) (w := w) (base := base) B c_is_number F_is_shape
  have c_is_shape : Cal P w K mg base 2 "is_shape" PS_vm Ris_shape := ⟨⟨_, d_is_shape, k_is_shape, g_is_shape, F_is_shape.kp, b_is_shape⟩⟩
  have k_check_shape := ok_check_shape (P := P) (w := w) (base := base) B c_is_shape F_check_shape
  have c_check_shape : Cal P w K mg base 3 "check_shape" PS_vm Rcheck_shape := ⟨⟨_, d_check_shape, k_check_shape, g_check_shape, F_check_shape.kp, b_check_shape⟩⟩
  have k_trimmed := ok_trimmed (P := P) (w := w) (base := base) B  F_trimmed
  have c_trimmed : Cal P w K mg base 1 "trimmed" ["numbers"] Rtrimmed := ⟨⟨_, d_trimmed, k_trimmed, g_trimmed, F_trimmed.kp, b_trimmed⟩⟩
  have k_sums_along := ok_sums_along (P := P) (w := w) (base := base) B  F_sums_along
  have c_sums_along : Cal P w K mg base 1 "sums_along" ["shape", "many"] Rsums_along := ⟨⟨_, d_sums_along, k_sums_along, g_sums_along, F_sums_along.kp, b_sums_along⟩⟩
  have k_lighter_at := ok_lighter_at (P := P) (w := w) (base := base) B c_sums_along F_lighter_at
  have c_lighter_at : Cal P w K mg base 2 "lighter_at" PS_so Rlighter_at := ⟨⟨_, d_lighter_at, k_lighter_at, g_lighter_at, F_lighter_at.kp, b_lighter_at⟩⟩
  have k_check_sizes := ok_check_sizes (P := P) (w := w) (base := base) B c_check_shape F_check_sizes
  have c_check_sizes : Cal P w K mg base 4 "check_sizes" PS_so Rcheck_sizes := ⟨⟨_, d_check_sizes, k_check_sizes, g_check_sizes, F_check_sizes.kp, b_check_sizes⟩⟩
  have k_heavier := ok_heavier (P := P) (w := w) (base := base) B c_check_sizes c_lighter_at F_heavier
  have c_heavier : Cal P w K mg base 5 "heavier" PS_so Rheavier := ⟨⟨_, d_heavier, k_heavier, g_heavier, F_heavier.kp, b_heavier⟩⟩
  have k_hook_of := ok_hook_of (P := P) (w := w) (base := base) B  F_hook_of
  have c_hook_of : Cal P w K mg base 1 "hook_of" PS_src Rhook_of := ⟨⟨_, d_hook_of, k_hook_of, g_hook_of, F_hook_of.kp, b_hook_of⟩⟩
  have k_hooks_of := ok_hooks_of (P := P) (w := w) (base := base) B c_hook_of F_hooks_of
  have c_hooks_of : Cal P w K mg base 2 "hooks_of" ["shape"] Rhooks_of := ⟨⟨_, d_hooks_of, k_hooks_of, g_hooks_of, F_hooks_of.kp, b_hooks_of⟩⟩
  have k_factorial := ok_factorial (P := P) (w := w) (base := base) B  F_factorial
  have c_factorial : Cal P w K mg base 1 "factorial" ["number"] Rfactorial := ⟨⟨_, d_factorial, k_factorial, g_factorial, F_factorial.kp, b_factorial⟩⟩
  have k_growth_count := ok_growth_count (P := P) (w := w) (base := base) B c_check_shape c_factorial c_hooks_of F_growth_count
  have c_growth_count : Cal P w K mg base 4 "growth_count" ["shape"] Rgrowth_count := ⟨⟨_, d_growth_count, k_growth_count, g_growth_count, F_growth_count.kp, b_growth_count⟩⟩
  have k_are_amounts := ok_are_amounts (P := P) (w := w) (base := base) B  F_are_amounts
  have c_are_amounts : Cal P w K mg base 1 "are_amounts" PS_vm Rare_amounts := ⟨⟨_, d_are_amounts, k_are_amounts, g_are_amounts, F_are_amounts.kp, b_are_amounts⟩⟩
  have k_check_amounts := ok_check_amounts (P := P) (w := w) (base := base) B c_are_amounts F_check_amounts
  have c_check_amounts : Cal P w K mg base 2 "check_amounts" ["value"] Rcheck_amounts := ⟨⟨_, d_check_amounts, k_check_amounts, g_check_amounts, F_check_amounts.kp, b_check_amounts⟩⟩
  have k_parts_below := ok_parts_below (P := P) (w := w) (base := base) B c_trimmed F_parts_below
  have c_parts_below : Cal P w K mg base 2 "parts_below" ["shape", "size"] Rparts_below := ⟨⟨_, d_parts_below, k_parts_below, g_parts_below, F_parts_below.kp, b_parts_below⟩⟩
  have k_tables_counted := ok_tables_counted (P := P) (w := w) (base := base) B c_parts_below F_tables_counted
  have c_tables_counted : Cal P w K mg base 3 "tables_counted" PS_sa Rtables_counted := ⟨⟨_, d_tables_counted, k_tables_counted, g_tables_counted, F_tables_counted.kp, b_tables_counted⟩⟩
  have k_table_count := ok_table_count (P := P) (w := w) (base := base) B c_check_shape c_check_amounts c_tables_counted F_table_count
  have c_table_count : Cal P w K mg base 4 "table_count" PS_sa Rtable_count := ⟨⟨_, d_table_count, k_table_count, g_table_count, F_table_count.kp, b_table_count⟩⟩
  have k_check_margins := ok_check_margins (P := P) (w := w) (base := base) B c_are_amounts F_check_margins
  have c_check_margins : Cal P w K mg base 2 "check_margins" ["value"] Rcheck_margins := ⟨⟨_, d_check_margins, k_check_margins, g_check_margins, F_check_margins.kp, b_check_margins⟩⟩
  have k_rows_of_sum := ok_rows_of_sum (P := P) (w := w) (base := base) B  F_rows_of_sum
  have c_rows_of_sum : Cal P w K mg base 1 "rows_of_sum" PS_tr Rrows_of_sum := ⟨⟨_, d_rows_of_sum, k_rows_of_sum, g_rows_of_sum, F_rows_of_sum.kp, b_rows_of_sum⟩⟩
  have k_arrays_counted := ok_arrays_counted (P := P) (w := w) (base := base) B c_rows_of_sum F_arrays_counted
  have c_arrays_counted : Cal P w K mg base 3 "arrays_counted" PS_rcm Rarrays_counted := ⟨⟨_, d_arrays_counted, k_arrays_counted, g_arrays_counted, F_arrays_counted.kp, b_arrays_counted⟩⟩
  have k_margin_count := ok_margin_count (P := P) (w := w) (base := base) B c_check_margins c_arrays_counted F_margin_count
  have c_margin_count : Cal P w K mg base 4 "margin_count" PS_rc (RmarginW 12) := ⟨⟨_, d_margin_count, k_margin_count, g_margin_count, F_margin_count.kp, b_margin_count⟩⟩
  have k_zero_one_count := ok_zero_one_count (P := P) (w := w) (base := base) B c_check_margins c_arrays_counted F_zero_one_count
  have c_zero_one_count : Cal P w K mg base 4 "zero_one_count" PS_rc (RmarginW 1) := ⟨⟨_, d_zero_one_count, k_zero_one_count, g_zero_one_count, F_zero_one_count.kp, b_zero_one_count⟩⟩
  have k_own_inverse_count := ok_own_inverse_count (P := P) (w := w) (base := base) B c_is_number F_own_inverse_count
  have c_own_inverse_count : Cal P w K mg base 2 "own_inverse_count" ["size"] Rown_inverse_count := ⟨⟨_, d_own_inverse_count, k_own_inverse_count, g_own_inverse_count, F_own_inverse_count.kp, b_own_inverse_count⟩⟩
  have k_law_sip := ok_law_sip (P := P) (w := w) (base := base) B  F_law_sip
  have c_law_sip : Cal P w K mg base 1 "_law_sip" PS_vt Rlaw_sip := ⟨⟨_, d_law_sip, k_law_sip, g_law_sip, F_law_sip.kp, b_law_sip⟩⟩
  have k_law_forms := ok_law_forms (P := P) (w := w) (base := base) B  F_law_forms
  have c_law_forms : Cal P w K mg base 1 "_law_forms" ["_law_n"] Rlaw_forms := ⟨⟨_, d_law_forms, k_law_forms, g_law_forms, F_law_forms.kp, b_law_forms⟩⟩
  have k_law_tilted := ok_law_tilted (P := P) (w := w) (base := base) B  F_law_tilted
  have c_law_tilted : Cal P w K mg base 1 "_law_tilted" ["_law_form"] Rlaw_tilted := ⟨⟨_, d_law_tilted, k_law_tilted, g_law_tilted, F_law_tilted.kp, b_law_tilted⟩⟩
  have k_law_split := ok_law_split (P := P) (w := w) (base := base) B  F_law_split
  have c_law_split : Cal P w K mg base 1 "_law_split" PS_trt Rlaw_split := ⟨⟨_, d_law_split, k_law_split, g_law_split, F_law_split.kp, b_law_split⟩⟩
  have c_law_arrays : Cal P w K mg base 5 "_law_arrays" PS_dat (Rlaw_arrays 3) := cal_law_arrays B c_law_split F_law_arrays g_law_arrays F_law_arrays.kp b_law_arrays 3
  have k_law_sums := ok_law_sums (P := P) (w := w) (base := base) B c_law_sip F_law_sums
  have c_law_sums : Cal P w K mg base 2 "_law_sums" PS_vto Rlaw_sums := ⟨⟨_, d_law_sums, k_law_sums, g_law_sums, F_law_sums.kp, b_law_sums⟩⟩
  have k_law_own_inverses := ok_law_own_inverses (P := P) (w := w) (base := base) B  F_law_own_inverses
  have c_law_own_inverses : Cal P w K mg base 1 "_law_own_inverses" ["_law_n"] Rlaw_own_inverses := ⟨⟨_, d_law_own_inverses, k_law_own_inverses, g_law_own_inverses, F_law_own_inverses.kp, b_law_own_inverses⟩⟩
  have q_margin_count : CalK P w K mg base 4 "margin_count" PS_rc ["columns", "rows"] sw2 (RmarginW 12) := ⟨⟨_, d_margin_count, k_margin_count, g_margin_count, F_margin_count.kp, kbn2 (ps := PS_rc) F_margin_count fun _ _ _ _ _ _ _ _ => rfl⟩⟩
  have q_zero_one_count : CalK P w K mg base 4 "zero_one_count" PS_rc ["columns", "rows"] sw2 (RmarginW 1) := ⟨⟨_, d_zero_one_count, k_zero_one_count, g_zero_one_count, F_zero_one_count.kp, kbn2 (ps := PS_rc) F_zero_one_count fun _ _ _ _ _ _ _ _ => rfl⟩⟩
  have q_own : CalK P w K mg base 2 "own_inverse_count" ["size"] ["size"] sw1 Rown_inverse_count := ⟨⟨_, d_own_inverse_count, k_own_inverse_count, g_own_inverse_count, F_own_inverse_count.kp, kbn1 (ps := ["size"]) F_own_inverse_count fun _ _ _ _ _ _ _ => rfl⟩⟩
  have C : Cals P w K mg base := ⟨c_law_sip, c_law_sums, c_law_arrays, c_margin_count, c_zero_one_count, q_margin_count, q_zero_one_count, c_law_forms, c_table_count, c_law_tilted, c_heavier, c_own_inverse_count, q_own, c_law_own_inverses, c_growth_count⟩
  exact ok_law B (ok_law_vat_of B F_law_vat_of) g_law_vat_of F_law_vat_of.kp b_law_vat_of (ok_law_right B C (fun t a b => finP) (fun n => finN) F_law_right) g_law_right F_law_right.kp b_law_right F_law
end Wm
open PySem PySem.W PySem.Calls PyProof.Rows
theorem PySem.Challenge.cw_wordshapes_k56_whole_margins_holds : PySem.Challenge.rw_wordshapes_k56_whole_margins.Holds := by
  w_on; o_law
  refine HandSHeadRun.head_any (r := OpenLaw.row PySem.Challenge.rw_wordshapes_k56_whole_margins) (q := view (OpenLaw.row PySem.Challenge.rw_wordshapes_k56_whole_margins).prog [46]) (H := Wm.hk) (ob := Wm.ob) (M := 3000) (loose := Wm.names1 ++ Wm.names2) (d := HandSHeadRun.topDef (OpenLaw.row PySem.Challenge.rw_wordshapes_k56_whole_margins).prog 46) (kwd := []) Wm.ob_eq
    (by kernel_rfl) (fun s => by kernel_rfl) Wm.run (by kernel_rfl) (by kernel_rfl) (by kernel_rfl) (by rfl) (by first | assumption | decide +kernel) (by decide +kernel) ⟨rfl, rfl, rfl, rfl, rfl, by decide +kernel⟩ ?hw ?hc
  case hw => w_witness2
  case hc =>
    refine Wm.walk_goG (l := PySem.Challenge.rw_wordshapes_k56_whole_margins) (n := 63) (k := 7) (x := "_law_script") rfl (by decide) (by kernel_rfl) ⟨rfl, by decide, by decide⟩ ?F
    intro w mg fa h Y G hmg0
    obtain ⟨K, KX, c⟩ := Y
    have hmg : mg ("law" : PySem.Str) = some (.ref fa) := by
      have e : (HandSHeadRun.topDef (OpenLaw.row PySem.Challenge.rw_wordshapes_k56_whole_margins).prog 46).name = ("law" : PySem.Str) := by kernel_rfl
      rw [← e]
      exact hmg0
    obtain ⟨fd, hb, hF⟩ := Wm.facts (P := (PySem.Challenge.rw_wordshapes_k56_whole_margins).prog) (w := w) KX G hmg c
    exact ⟨K, fd, Wm.spLaw K, KX, hb, fun H a ns hl _ hS => ⟨a, ns, rfl, Nat.le_trans hl (by decide), hS, fun _ => rfl⟩, hF⟩
