import PyProof.Rows.All
import Wide.All
import OpenK.AllK
import Wide.FinOn
import HandS.ForMost
import HandS.Deep
import HandS.Zip
import HandS.TupAny
import HandS.Conv
import HandS.Strs
import HandS.IsInst
import HandS.DictComp
import HandS.SortKw
import HandS.Flow
import HandS.Wide
import HandS.Walk
import HandS.Small
import HandS.Nested
import KE.SortData
import KE.SortKeyHeap
import HandS.Set
import HandS.SetFor
import HandS.More
import KE.SortUse
import KE.KDictSum
import HandS.Lambda
import KE.GoesEnum
import KE.DatumOrd
import PyProof.SumWalk
import HandS.WordsExc
import HandS.ExcOwn
import HandS.ExcIs
import KE.KNestM
import HandS.EndTab
import HandS.HeadWalk
import PySem.Challenge.RW_anylatency_k21_whole_parted_into_fewest
set_option Elab.async false
set_option linter.all false
set_option maxRecDepth 100000
set_option maxHeartbeats 8000000
/-! Readings by data: F is what is frozen (all that is known of data stands there), H the whole tracked heap. -/
namespace K21
open PySem PySem.Spec PyProof.Rows L2

abbrev St := L2.St
abbrev Sh := V → Hp → Prop
abbrev ShL := List V → Hp → Prop
def Mono (P : Sh) : Prop := ∀ v F F', Same F F' → P v F → P v F'
def MonoL (P : ShL) : Prop := ∀ v F F', Same F F' → P v F → P v F'

open NdefX (NTab TabsN TabN)
/-- all but the code objects' tables stay, these stay good -/
structure Ext (Z : List NTab) (H H' : Hp) : Prop where
  keep : ∀ a o, H a = some o → (∀ ps, o ≠ .tbl ps) → H' a = some o
  tbl : ∀ a ps, H a = some (.tbl ps) → ∃ qs, H' a = some (.tbl qs)
  tabs : TabsN Z H → TabsN Z H'
/-- F is what is frozen of H -/
structure Sub (Z : List NTab) (F H : Hp) : Prop where
  same : Same F H
  nt : ∀ a ps, F a ≠ some (.tbl ps)
  tabs : TabsN Z H
/-- from the frozen part F of H to F' of H': what is newly frozen was not tracked -/
structure Go (Z : List NTab) (F H F' H' : Hp) : Prop where
  hh : Ext Z H H'
  ff : Same F F'
  sub : Sub Z F' H'
  fresh : ∀ a o, F' a = some o → F a = some o ∨ H a = none

section
variable {Z : List NTab} {F H F1 H1 F2 H2 : Hp} {p : Addr} {o : HO}
theorem none_or {H : Hp} {p : Addr} : H p = none ∨ ∃ o, H p = some o := by
  cases H p with
  | none => exact .inl rfl
  | some o => exact .inr ⟨o, rfl⟩
theorem tbl_or (o : HO) : (∃ ps, o = .tbl ps) ∨ ∀ ps, o ≠ .tbl ps := by
  cases o <;> first | exact .inl ⟨_, rfl⟩ | exact .inr fun _ z => nomatch z
theorem Ext.of (e : Same H H1) : Ext Z H H1 := ⟨fun a u h _ => e a u h, fun a ps h => ⟨ps, e a _ h⟩, fun t => t.ext e⟩
theorem Ext.refl : Ext Z H H := Ext.of (Same.refl _)
theorem Ext.trans (a : Ext Z H H1) (b : Ext Z H1 H2) : Ext Z H H2 := ⟨fun x u h n => b.keep x u (a.keep x u h n) n, fun x ps h => by
  obtain ⟨qs, e⟩ := a.tbl x ps h
  exact b.tbl x qs e, fun t => b.tabs (a.tabs t)⟩
theorem Ext.free (a : Ext Z H H1) (h : H1 p = none) : H p = none := by
  rcases none_or (H := H) (p := p) with q | ⟨u, q⟩
  · exact q
  · rcases tbl_or u with ⟨ps, rfl⟩ | n
    · obtain ⟨qs, e⟩ := a.tbl p ps q
      rw [h] at e; cases e
    · rw [a.keep p u q n] at h; cases h
theorem Ext.lst {xs : List V} (a : Ext Z H H1) (h : H p = some (.lst xs)) : H1 p = some (.lst xs) := a.keep p _ h fun _ z => nomatch z
theorem Ext.dK {xs : List (Key × V)} (a : Ext Z H H1) (h : H p = some (.dK xs)) : H1 p = some (.dK xs) := a.keep p _ h fun _ z => nomatch z
theorem Sub.up (s : Sub Z F H) (e : Ext Z H H1) : Sub Z F H1 := ⟨fun a u h => e.keep a u (s.same a u h) fun ps z => s.nt a ps (z ▸ h), s.nt, e.tabs s.tabs⟩
theorem Sub.free (s : Sub Z F H) (e : H p = none) : F p = none := s.same.free e
theorem Sub.less (s : Sub Z F1 H) (e : Same F F1) : Sub Z F H := ⟨e.trans s.same, fun a ps h => s.nt a ps (e a _ h), s.tabs⟩
theorem Go.refl (h : Sub Z F H) : Go Z F H F H := ⟨Ext.refl, Same.refl _, h, fun _ _ e => .inl e⟩
theorem Go.ext (h : Sub Z F H) (e : Ext Z H H1) : Go Z F H F H1 := ⟨e, Same.refl _, h.up e, fun _ _ e => .inl e⟩
theorem Go.trans (a : Go Z F H F1 H1) (b : Go Z F1 H1 F2 H2) : Go Z F H F2 H2 := ⟨a.hh.trans b.hh, a.ff.trans b.ff, b.sub, fun x u e => by
  rcases b.fresh x u e with q | q
  · exact a.fresh x u q
  · exact .inr (a.hh.free q)⟩
theorem Go.fh (a : Go Z F H F1 H1) : Sub Z F H1 := a.sub.less a.ff
/-- tracked and not frozen stays so -/
theorem Go.none_of (a : Go Z F H F1 H1) (h : H p = some o) (hf : F p = none) : F1 p = none := by
  rcases none_or (H := F1) (p := p) with q | ⟨u, q⟩
  · exact q
  · rcases a.fresh p u q with z | z
    · rw [hf] at z; cases z
    · rw [h] at z; cases z
theorem Go.back (a : Go Z F H F1 H1) (h : H1 p = none) : H p = none := a.hh.free h
theorem same_new (h : H p = none) : Same H (upd H p o) := fun b x e => by
  rw [upd_ne (ne_of_none e h)]
  exact e
theorem same_upd2 (h : Same F H) : Same (upd F p o) (upd H p o) := fun b x e => by
  by_cases hb : b = p
  · subst hb
    rw [upd_same] at e ⊢
    exact e
  · rw [upd_ne hb] at e ⊢
    exact h b x e
theorem ext_new (h : H p = none) : Ext Z H (upd H p o) := Ext.of (same_new h)
/-- a list is written: the tables stand -/
theorem tabs_lst {xs ys : List V} (t : TabsN Z H) (h : H p = some (.lst xs)) : TabsN Z (upd H p (.lst ys)) := fun q hq => by
  obtain ⟨ps, h1, h2, h3⟩ := t q hq
  refine ⟨ps, by rw [upd_ne (ne_of h1 h fun z => nomatch z)]; exact h1, h2, fun pos cv hc => ?_⟩
  obtain ⟨c, e1, e2⟩ := h3 pos cv hc
  exact ⟨c, e1, by rw [upd_ne (ne_of e2 h fun z => nomatch z)]; exact e2⟩
theorem tabs_dK {xs ys : List (Key × V)} (t : TabsN Z H) (h : H p = some (.dK xs)) : TabsN Z (upd H p (.dK ys)) := fun q hq => by
  obtain ⟨ps, h1, h2, h3⟩ := t q hq
  refine ⟨ps, by rw [upd_ne (ne_of h1 h fun z => nomatch z)]; exact h1, h2, fun pos cv hc => ?_⟩
  obtain ⟨c, e1, e2⟩ := h3 pos cv hc
  exact ⟨c, e1, by rw [upd_ne (ne_of e2 h fun z => nomatch z)]; exact e2⟩
/-- a list that was new at H0 is written -/
theorem Ext.mut {H0 : Hp} {xs ys : List V} (a : Ext Z H0 H) (h0 : H0 p = none) (h : H p = some (.lst xs)) : Ext Z H0 (upd H p (.lst ys)) :=
  ⟨fun b u e n => by rw [upd_ne (ne_of_none e h0)]; exact a.keep b u e n, fun b ps e => by rw [upd_ne (ne_of_none e h0)]; exact a.tbl b ps e, fun t => tabs_lst (a.tabs t) h⟩
theorem Ext.mutD {H0 : Hp} {xs ys : List (Key × V)} (a : Ext Z H0 H) (h0 : H0 p = none) (h : H p = some (.dK xs)) : Ext Z H0 (upd H p (.dK ys)) :=
  ⟨fun b u e n => by rw [upd_ne (ne_of_none e h0)]; exact a.keep b u e n, fun b ps e => by rw [upd_ne (ne_of_none e h0)]; exact a.tbl b ps e, fun t => tabs_dK (a.tabs t) h⟩
theorem Sub.mut {xs ys : List V} (s : Sub Z F H) (f : F p = none) (h : H p = some (.lst xs)) : Sub Z F (upd H p (.lst ys)) :=
  ⟨fun b u q => by rw [upd_ne (ne_of_none q f)]; exact s.same b u q, s.nt, tabs_lst s.tabs h⟩
theorem Sub.mutD {xs ys : List (Key × V)} (s : Sub Z F H) (f : F p = none) (h : H p = some (.dK xs)) : Sub Z F (upd H p (.dK ys)) :=
  ⟨fun b u q => by rw [upd_ne (ne_of_none q f)]; exact s.same b u q, s.nt, tabs_dK s.tabs h⟩
theorem Go.mut {F0 H0 : Hp} {xs ys : List V} (a : Go Z F0 H0 F H) (h0 : H0 p = none) (f : F p = none) (h : H p = some (.lst xs)) : Go Z F0 H0 F (upd H p (.lst ys)) := ⟨a.hh.mut h0 h, a.ff, a.sub.mut f h, a.fresh⟩
theorem Go.mutD {F0 H0 : Hp} {xs ys : List (Key × V)} (a : Go Z F0 H0 F H) (h0 : H0 p = none) (f : F p = none) (h : H p = some (.dK xs)) : Go Z F0 H0 F (upd H p (.dK ys)) := ⟨a.hh.mutD h0 h, a.ff, a.sub.mutD f h, a.fresh⟩
/-- a new object, frozen at once -/
theorem Go.new (h : Sub Z F H) (e : H p = none) (n : ∀ ps, o ≠ .tbl ps := by intro _ z; cases z) : Go Z F H (upd F p o) (upd H p o) := ⟨ext_new e, same_new (h.free e), ⟨same_upd2 h.same, fun a ps q => by
    by_cases ha : a = p
    · subst ha; rw [upd_same] at q; cases q; exact n ps rfl
    · rw [upd_ne ha] at q; exact h.nt a ps q, h.tabs.ext (same_new e)⟩, fun a u q => by
  by_cases ha : a = p
  · subst ha; exact .inr e
  · rw [upd_ne ha] at q; exact .inl q⟩
/-- what stands in the heap since then, frozen afterwards -/
theorem Go.freeze (a : Go Z F H F1 H1) (h0 : H p = none) (h1 : H1 p = some o) (n : ∀ ps, o ≠ .tbl ps := by intro _ z; cases z) : Go Z F H (upd F1 p o) H1 := by
  refine ⟨a.hh, fun b x q => ?_, ⟨fun b x q => ?_, fun b ps q => ?_, a.sub.tabs⟩, fun b x q => ?_⟩
  · by_cases hb : b = p
    · subst hb
      have := a.fh.same b x q
      rw [h1] at this
      cases this
      exact upd_same
    · rw [upd_ne hb]; exact a.ff b x q
  · by_cases hb : b = p
    · subst hb; rw [upd_same] at q; cases q; exact h1
    · rw [upd_ne hb] at q; exact a.sub.same b x q
  · by_cases hb : b = p
    · subst hb; rw [upd_same] at q; cases q; exact n ps rfl
    · rw [upd_ne hb] at q; exact a.sub.nt b ps q
  · by_cases hb : b = p
    · subst hb; exact .inr h0
    · rw [upd_ne hb] at q; exact a.fresh b x q
/-- both frozen parts together -/
def join (F F' : Hp) : Hp := fun a => match F' a with
  | some o => some o
  | none => F a
theorem join_some {F F' : Hp} {a : Addr} {u : HO} (q : F' a = some u) : join F F' a = some u := by
  unfold join
  rw [q]
theorem join_none {F F' : Hp} {a : Addr} (q : F' a = none) : join F F' a = F a := by
  unfold join
  rw [q]
theorem join_l {F F' H : Hp} (h : Same F H) (h' : Same F' H) : Same F (join F F') := fun a o e => by
  rcases none_or (H := F') (p := a) with q | ⟨u, q⟩
  · rw [join_none q]; exact e
  · rw [join_some q]
    have e1 := h a o e
    have e2 := h' a u q
    rw [e1] at e2
    cases e2
    rfl
theorem join_r {F F' : Hp} : Same F' (join F F') := fun a o e => join_some e
theorem join_or {F F' : Hp} {a : Addr} {o : HO} (e : join F F' a = some o) : F a = some o ∨ F' a = some o := by
  rcases none_or (H := F') (p := a) with q | ⟨u, q⟩
  · rw [join_none q] at e; exact .inl e
  · rw [join_some q] at e; cases e; exact .inr q
theorem join_sub {F F' H : Hp} (h : Sub Z F H) (h' : Sub Z F' H) : Sub Z (join F F') H := ⟨fun a o e => (join_or e).elim (h.same a o) (h'.same a o), fun a ps e => (join_or e).elim (h.nt a ps) (h'.nt a ps), h.tabs⟩
theorem Go.up (e : Same F F2) (h : Sub Z F2 H) (a : Go Z F H F1 H1) : Go Z F2 H (join F2 F1) H1 :=
  ⟨a.hh, join_l (h.up a.hh).same a.sub.same, join_sub (h.up a.hh) a.sub, fun b o q => (join_or q).elim .inl fun z => (a.fresh b o z).imp (e b o) id⟩
end

/-! ### what evaluates to what -/
def Es (Z : List NTab) (te : TE) (σ : St) (F : Hp) (P : Sh) : Prop := ∀ H, Sub Z F H → ∀ Q : VK, (∀ v F' H', Go Z F H F' H' → P v F' → Q v H') → te σ H Q
def Ev (Z : List NTab) (te : TE) (σ : St) (F : Hp) (x : V) : Prop := ∀ H, Sub Z F H → ∀ Q : VK, (∀ H', Ext Z H H' → Q x H') → te σ H Q
abbrev Ed (Z : List NTab) (K : PySem.W.Frag) (te : TE) (σ : St) (F : Hp) (d : PyData) : Prop := Es Z te σ F fun v F => Dp K F v d
def Et (Z : List NTab) (tt : TT) (σ : St) (F : Hp) (b : Bool) : Prop := ∀ H, Sub Z F H → ∀ Q : Bool → Hp → Prop, (∀ H', Ext Z H H' → Q b H') → tt σ H Q
/-- a new list, not yet frozen -/
def El (Z : List NTab) (te : TE) (σ : St) (F : Hp) (P : ShL) : Prop := ∀ H, Sub Z F H → ∀ Q : VK, (∀ p xs F' H', Go Z F H F' H' → H p = none → F' p = none → H' p = some (.lst xs) → P xs F' → Q (.ref p) H') → te σ H Q
def Ea (Z : List NTab) (ta : TA) (σ : St) (F : Hp) (P : ShL) : Prop := ∀ H, Sub Z F H → ∀ Q : List V → Hp → Prop, (∀ vs F' H', Go Z F H F' H' → P vs F' → Q vs H') → ta σ H Q

/-! ### data -/
section
variable {K : PySem.W.Frag} {F F' H : Hp}
theorem same_rd (e : Same F F') {a : Addr} {u : HO} (h : Rd F a u) : Rd F' a u := by
  rcases h with h | ⟨o, h⟩
  · exact .inl (e a _ h)
  · exact .inr ⟨o, e a _ h⟩
theorem same_l (e : Same F F') {a : Addr} {xs : List V} (h : SqL K F a xs) : SqL K F' a xs := by
  rcases h with h | h
  · exact .inl (same_rd e h)
  · exact .inr h
theorem same_t (e : Same F F') {a : Addr} {xs : List V} (h : SqT K F a xs) : SqT K F' a xs := by
  rcases h with h | h
  · exact .inl (same_rd e h)
  · exact .inr h
mutual
theorem Dp.mono (e : Same F F') : ∀ (d : PyData) (v : V), Dp K F v d → Dp K F' v d
  | .none, _, h => by cases h; exact .non
  | .bool b, _, h => by cases h; exact .bl b
  | .int i, _, h => by cases h; exact .int i
  | .str x, _, h => by cases h; exact .str x
  | .list ds, _, h => by
    cases h with
    | lst hs ha => exact .lst (same_l e hs) (DpAll.mono e ds _ ha)
  | .tuple ds, _, h => by
    cases h with
    | tup hs ha => exact .tup (same_t e hs) (DpAll.mono e ds _ ha)
  | .dict _, _, h => by cases h
theorem DpAll.mono (e : Same F F') : ∀ (ds : List PyData) (vs : List V), DpAll K F vs ds → DpAll K F' vs ds
  | [], _, h => by cases h; exact .nil
  | d :: ds, _, h => by
    cases h with
    | cons h1 h2 => exact .cons (Dp.mono e d _ h1) (DpAll.mono e ds _ h2)
end
theorem dp_mono (e : Same F F') {d : PyData} {v : V} (h : Dp K F v d) : Dp K F' v d := Dp.mono e d v h
theorem dpa_mono (e : Same F F') {ds : List PyData} {vs : List V} (h : DpAll K F vs ds) : DpAll K F' vs ds := DpAll.mono e ds vs h
theorem mono_dp {d : PyData} : Mono fun v F => Dp K F v d := fun _ _ _ e h => dp_mono e h
theorem mono_dpa {ds : List PyData} : MonoL fun vs F => DpAll K F vs ds := fun _ _ _ e h => dpa_mono e h
theorem dp_int {v : V} {i : Int} (h : Dp K F v (.int i)) : v = .int i := by cases h; rfl
theorem dp_str {v : V} {i : Str} (h : Dp K F v (.str i)) : v = .str i := by cases h; rfl
theorem dp_bl {v : V} {i : Bool} (h : Dp K F v (.bool i)) : v = .bl i := by cases h; rfl
theorem dp_non {v : V} (h : Dp K F v .none) : v = .non := by cases h; rfl
theorem dp_tup {v : V} {ds : List PyData} (h : Dp K F v (.tuple ds)) : ∃ a xs, v = .ref a ∧ SqT K F a xs ∧ DpAll K F xs ds := by
  cases h with
  | tup hs ha => exact ⟨_, _, rfl, hs, ha⟩
theorem dp_lst {v : V} {ds : List PyData} (h : Dp K F v (.list ds)) : ∃ a xs, v = .ref a ∧ SqL K F a xs ∧ DpAll K F xs ds := by
  cases h with
  | lst hs ha => exact ⟨_, _, rfl, hs, ha⟩
theorem dpa_length : ∀ {vs : List V} {ds : List PyData}, DpAll K F vs ds → vs.length = ds.length
  | _, _, .nil => rfl
  | _, _, .cons _ t => congrArg (· + 1) (dpa_length t)
theorem dpa_get : ∀ {vs : List V} {ds : List PyData} {i : Nat} {d : PyData}, DpAll K F vs ds → ds[i]? = some d → ∃ v, vs[i]? = some v ∧ Dp K F v d
  | _, _, _, _, .nil, e => by simp at e
  | _, _, 0, _, .cons h _, e => by
    simp at e
    subst e
    exact ⟨_, rfl, h⟩
  | _, _, i + 1, d, .cons _ t, e => by
    obtain ⟨v, h1, h2⟩ := dpa_get (i := i) (d := d) t (by simpa using e)
    exact ⟨v, by simpa using h1, h2⟩
theorem dpa_get' : ∀ {vs : List V} {ds : List PyData} {i : Nat} {v : V}, DpAll K F vs ds → vs[i]? = some v → ∃ d, ds[i]? = some d ∧ Dp K F v d
  | _, _, _, _, .nil, e => by simp at e
  | _, _, 0, _, .cons h _, e => by
    simp at e
    subst e
    exact ⟨_, rfl, h⟩
  | _, _, i + 1, d, .cons _ t, e => by
    obtain ⟨v, h1, h2⟩ := dpa_get' (i := i) (v := d) t (by simpa using e)
    exact ⟨v, by simpa using h1, h2⟩
theorem dpa_app : ∀ {vs ws : List V} {ds es : List PyData}, DpAll K F vs ds → DpAll K F ws es → DpAll K F (vs ++ ws) (ds ++ es)
  | _, _, _, _, .nil, h => h
  | _, _, _, _, .cons h t, k => .cons h (dpa_app t k)
theorem dpa_one {v : V} {d : PyData} (h : Dp K F v d) : DpAll K F [v] [d] := .cons h .nil
theorem dpa_snoc {vs : List V} {ds : List PyData} {v : V} {d : PyData} (h : DpAll K F vs ds) (k : Dp K F v d) : DpAll K F (vs ++ [v]) (ds ++ [d]) := dpa_app h (dpa_one k)
theorem dpa_take : ∀ {vs : List V} {ds : List PyData} (n : Nat), DpAll K F vs ds → DpAll K F (vs.take n) (ds.take n)
  | _, _, 0, _ => .nil
  | _, _, _ + 1, .nil => .nil
  | _, _, n + 1, .cons h t => .cons h (dpa_take n t)
theorem dpa_drop : ∀ {vs : List V} {ds : List PyData} (n : Nat), DpAll K F vs ds → DpAll K F (vs.drop n) (ds.drop n)
  | _, _, 0, h => h
  | _, _, _ + 1, .nil => .nil
  | _, _, n + 1, .cons _ t => dpa_drop n t
theorem dpa_strs : ∀ {ss : List Str} {vs : List V}, DpAll K F vs (ss.map .str) → vs = ss.map V.str
  | [], _, h => by cases h; rfl
  | s :: ss, _, h => by
    cases h with
    | cons h1 h2 =>
      rw [dp_str h1, dpa_strs h2]
      rfl
theorem dpa_ints : ∀ {ss : List Int} {vs : List V}, DpAll K F vs (ss.map .int) → vs = ss.map V.int
  | [], _, h => by cases h; rfl
  | s :: ss, _, h => by
    cases h with
    | cons h1 h2 =>
      rw [dp_int h1, dpa_ints h2]
      rfl
theorem dpa_bools : ∀ {ss : List Bool} {vs : List V}, DpAll K F vs (ss.map .bool) → vs = ss.map V.bl
  | [], _, h => by cases h; rfl
  | s :: ss, _, h => by
    cases h with
    | cons h1 h2 =>
      rw [dp_bl h1, dpa_bools h2]
      rfl
theorem strs_dpa : ∀ {ss : List Str}, DpAll K F (ss.map V.str) (ss.map .str)
  | [] => .nil
  | s :: ss => .cons (.str s) strs_dpa
theorem ints_dpa : ∀ {ss : List Int}, DpAll K F (ss.map V.int) (ss.map .int)
  | [] => .nil
  | s :: ss => .cons (.int s) ints_dpa
end

/-! ### the judgements, one from another -/
section
variable {Z : List NTab} {K : PySem.W.Frag} {σ : St} {F F' : Hp} {te ta tb : TE} {tt tu : TT} {P P' : Sh} {x y : V} {d e : PyData} {b c : Bool}
theorem Es.up (h : Es Z te σ F P) (hp : Mono P) (e : Same F F') : Es Z te σ F' P := fun H s Q q =>
  h H (s.less e) Q fun v F1 H1 g p => q v (join F' F1) H1 (g.up e s) (hp _ _ _ join_r p)
theorem Ed.up (h : Ed Z K te σ F d) (e : Same F F') : Ed Z K te σ F' d := Es.up h mono_dp e
theorem Ev.up (h : Ev Z te σ F x) (e : Same F F') : Ev Z te σ F' x := fun H s Q q => h H (s.less e) Q q
theorem Et.up (h : Et Z tt σ F b) (e : Same F F') : Et Z tt σ F' b := fun H s Q q => h H (s.less e) Q q
theorem Es.imp (h : Es Z te σ F P) (f : ∀ v F', Same F F' → P v F' → P' v F') : Es Z te σ F P' := fun H s Q q => h H s Q fun v F1 H1 g p => q v F1 H1 g (f v F1 g.ff p)
theorem Ev.es (h : Ev Z te σ F x) (p : P x F) : Es Z te σ F P := fun H s Q q => h H s Q fun H1 e => q x F H1 (Go.ext s e) p
theorem Es.ev (h : Es Z te σ F P) (f : ∀ v F', Same F F' → P v F' → v = x) : Ev Z te σ F x := fun H s Q q => h H s Q fun v F1 H1 g p => by
  rw [f v F1 g.ff p]
  exact q H1 g.hh
theorem Ev.int {i : Int} (h : Ev Z te σ F (.int i)) : Ed Z K te σ F (.int i) := h.es (.int i)
theorem Ev.str {i : Str} (h : Ev Z te σ F (.str i)) : Ed Z K te σ F (.str i) := h.es (.str i)
theorem Ev.bl {i : Bool} (h : Ev Z te σ F (.bl i)) : Ed Z K te σ F (.bool i) := h.es (.bl i)
theorem Ev.non (h : Ev Z te σ F .non) : Ed Z K te σ F .none := h.es .non
theorem Ed.int {i : Int} (h : Ed Z K te σ F (.int i)) : Ev Z te σ F (.int i) := Es.ev h fun _ _ _ p => dp_int p
theorem Ed.str {i : Str} (h : Ed Z K te σ F (.str i)) : Ev Z te σ F (.str i) := Es.ev h fun _ _ _ p => dp_str p
theorem Ed.bl {i : Bool} (h : Ed Z K te σ F (.bool i)) : Ev Z te σ F (.bl i) := Es.ev h fun _ _ _ p => dp_bl p
theorem Ed.non (h : Ed Z K te σ F .none) : Ev Z te σ F .non := Es.ev h fun _ _ _ p => dp_non p
theorem Ed.to (h : Ed Z K te σ F d) (q : d = e) : Ed Z K te σ F e := q ▸ h
theorem Ev.to (h : Ev Z te σ F x) (q : x = y) : Ev Z te σ F y := q ▸ h
theorem Et.to (h : Et Z tt σ F b) (q : b = c) : Et Z tt σ F c := q ▸ h
/-- a new list is data too -/
theorem El.ed {ds : List PyData} (h : El Z te σ F fun xs F => DpAll K F xs ds) : Ed Z K te σ F (.list ds) := fun H s Q q =>
  h H s Q fun p xs F1 H1 g h0 hf hp pd => q (.ref p) (upd F1 p (.lst xs)) H1 (g.freeze h0 hp) (.lst (.inl (.inl upd_same)) (dpa_mono (same_new hf) pd))
theorem El.up {P : ShL} (h : El Z te σ F P) (hp : MonoL P) (e : Same F F') : El Z te σ F' P := fun H s Q q =>
  h H (s.less e) Q fun p xs F1 H1 g h0 h1 h2 pd => q p xs (join F' F1) H1 (g.up e s) h0 (by
    rw [join_none h1]
    exact s.free h0) h2 (hp _ _ _ join_r pd)
theorem Ea.up {ta : TA} {P : ShL} (h : Ea Z ta σ F P) (hp : MonoL P) (e : Same F F') : Ea Z ta σ F' P := fun H s Q q =>
  h H (s.less e) Q fun v F1 H1 g p => q v (join F' F1) H1 (g.up e s) (hp _ _ _ join_r p)

/-! ### names, constants, operators -/
theorem es_var {i : Nat} (h : σ[i]? = some (some x)) (p : P x F) : Es Z (tVar i) σ F P := fun H s Q q => ⟨x, h, q x F H (Go.refl s) p⟩
theorem ev_var {i : Nat} (h : σ[i]? = some (some x)) : Ev Z (tVar i) σ F x := fun H s Q q => ⟨x, h, q H (Ext.refl)⟩
theorem ed_var {i : Nat} (h : σ[i]? = some (some x)) (p : Dp K F x d) : Ed Z K (tVar i) σ F d := es_var h p
theorem ev_c : Ev Z (tC x) σ F x := fun H s Q q => q H (Ext.refl)
theorem ed_int {i : Int} : Ed Z K (tC (.int i)) σ F (.int i) := ev_c.int
theorem ed_str {i : Str} : Ed Z K (tC (.str i)) σ F (.str i) := ev_c.str
theorem ed_bl {i : Bool} : Ed Z K (tC (.bl i)) σ F (.bool i) := ev_c.bl
theorem ed_non : Ed Z K (tC .non) σ F .none := ev_c.non
/-- two shapes, then an operation by values -/
theorem es_op {r : R2} {A B : Sh} (ha : Es Z ta σ F A) (hA : Mono A) (hb : Es Z tb σ F B) (hB : Mono B)
    (hr : ∀ u v F1 H1 (Q : VK), Same F F1 → Sub Z F1 H1 → A u F1 → B v F1 → (∀ z F2 H2, Go Z F1 H1 F2 H2 → P z F2 → Q z H2) → r u v H1 Q) : Es Z (tOp r ta tb) σ F P := fun H s Q q =>
  ha H s _ fun u F1 H1 g1 p1 => hb.up hB g1.ff H1 g1.sub _ fun v F2 H2 g2 p2 =>
    hr u v F2 H2 Q (g1.ff.trans g2.ff) g2.sub (hA _ _ _ g2.ff p1) p2 fun z F3 H3 g3 p3 => q z F3 H3 ((g1.trans g2).trans g3) p3
theorem ev_op {r : R2} {A B : Sh} (ha : Es Z ta σ F A) (hA : Mono A) (hb : Es Z tb σ F B) (hB : Mono B)
    (hr : ∀ u v F1 H1 (Q : VK), Same F F1 → Sub Z F1 H1 → A u F1 → B v F1 → (∀ H2, Ext Z H1 H2 → Q x H2) → r u v H1 Q) : Ev Z (tOp r ta tb) σ F x := fun H s Q q =>
  ha H s _ fun u F1 H1 g1 p1 => hb.up hB g1.ff H1 g1.sub _ fun v F2 H2 g2 p2 =>
    hr u v F2 H2 Q (g1.ff.trans g2.ff) g2.sub (hA _ _ _ g2.ff p1) p2 fun H3 g3 => q H3 ((g1.hh.trans g2.hh).trans g3)
theorem mono_eq : Mono fun v (_ : Hp) => v = x := fun _ _ _ _ h => h
theorem Ev.sh (h : Ev Z te σ F x) : Es Z te σ F fun v _ => v = x := h.es rfl
/-- values alone -/
theorem ev_vv {r : R2} {u v : V} (ha : Ev Z ta σ F u) (hb : Ev Z tb σ F v) (hr : ∀ H1 (Q : VK), Sub Z F H1 → Q x H1 → r u v H1 Q) : Ev Z (tOp r ta tb) σ F x :=
  ev_op ha.sh mono_eq hb.sh mono_eq fun _ _ F1 H1 Q s1 s2 e1 e2 q => by
    subst e1 e2
    exact hr H1 Q (s2.less s1) (q H1 Ext.refl)
theorem ev_i0 {g : Int → Int → V} {i j : Int} (ha : Ev Z ta σ F (.int i)) (hb : Ev Z tb σ F (.int j)) : Ev Z (tOp (rI0 g) ta tb) σ F (g i j) := ev_vv ha hb fun _ _ _ q => ⟨i, j, rfl, rfl, q⟩
theorem ev_iC {C : Int → Int → Prop} {g : Int → Int → V} {i j : Int} (ha : Ev Z ta σ F (.int i)) (hb : Ev Z tb σ F (.int j)) (hc : C i j) : Ev Z (tOp (rI C g) ta tb) σ F (g i j) := ev_vv ha hb fun _ _ _ q => ⟨i, j, rfl, rfl, hc, q⟩
theorem ev_un {g : Int → V} {i : Int} (ha : Ev Z ta σ F (.int i)) : Ev Z (tUn (rU g) ta) σ F (g i) := fun H s Q q => ha H s _ fun H1 e => ⟨i, rfl, q H1 e⟩
theorem ev_eq (ha : Ev Z ta σ F x) (hb : Ev Z tb σ F y) (h : scal x y = true) : Ev Z (tOp rEq ta tb) σ F (.bl (decide (x = y))) := ev_vv ha hb fun _ _ _ q => ⟨h, q⟩
theorem ev_ne (ha : Ev Z ta σ F x) (hb : Ev Z tb σ F y) (h : scal x y = true) : Ev Z (tOp rNe ta tb) σ F (.bl (!decide (x = y))) := ev_vv ha hb fun _ _ _ q => ⟨h, q⟩

/-! ### tests -/
theorem et_test (h : Ev Z te σ F (.bl b)) : Et Z (tTest te) σ F b := fun H s Q q => h H s _ fun H1 e => ⟨b, rfl, q H1 e⟩
theorem et_B (h : Ev Z te σ F (.bl b)) : Et Z (tB te) σ F b := fun H s Q q => h H s _ fun H1 e => ⟨b, rfl, q H1 e⟩
theorem et_yes : Et Z tYes σ F true := fun H s Q q => q H (Ext.refl)
theorem et_not (h : Et Z tt σ F b) : Et Z (tNot tt) σ F (!b) := fun H s Q q => h H s _ fun H1 e => q H1 e
theorem et_and (h : Et Z tt σ F b) (k : b = true → Et Z tu σ F c) : Et Z (tAnd tt tu) σ F (b && c) := fun H s Q q => h H s _ fun H1 e1 => by
  cases b with
  | true => exact iteT (k rfl H1 (s.up e1) Q fun H2 e2 => q H2 (e1.trans e2))
  | false => exact iteF (q H1 e1)
theorem et_or (h : Et Z tt σ F b) (k : b = false → Et Z tu σ F c) : Et Z (tOr tt tu) σ F (b || c) := fun H s Q q => h H s _ fun H1 e1 => by
  cases b with
  | true => exact iteT (q H1 e1)
  | false => exact iteF (k rfl H1 (s.up e1) Q fun H2 e2 => q H2 (e1.trans e2))
theorem ev_andV (h : Ev Z ta σ F (.bl b)) (k : b = true → Ev Z tb σ F (.bl c)) : Ev Z (tAndV ta tb) σ F (.bl (b && c)) := fun H s Q q => h H s _ fun H1 e1 => ⟨b, rfl, by
  cases b with
  | true => exact iteT (k rfl H1 (s.up e1) Q fun H2 e2 => q H2 (e1.trans e2))
  | false => exact iteF (q H1 e1)⟩
theorem ev_orV (h : Ev Z ta σ F (.bl b)) (k : b = false → Ev Z tb σ F (.bl c)) : Ev Z (tOrV ta tb) σ F (.bl (b || c)) := fun H s Q q => h H s _ fun H1 e1 => ⟨b, rfl, by
  cases b with
  | true => exact iteT (q H1 e1)
  | false => exact iteF (k rfl H1 (s.up e1) Q fun H2 e2 => q H2 (e1.trans e2))⟩
theorem ev_notV (h : Ev Z ta σ F (.bl b)) : Ev Z (tNotV ta) σ F (.bl (!b)) := fun H s Q q => h H s _ fun H1 e1 => ⟨b, rfl, q H1 e1⟩
theorem es_if (h : Et Z tt σ F b) (h1 : b = true → Es Z ta σ F P) (h2 : b = false → Es Z tb σ F P) : Es Z (tIf tt ta tb) σ F P := fun H s Q q => h H s _ fun H1 e1 => by
  cases b with
  | true => exact iteT (h1 rfl H1 (s.up e1) Q fun v F2 H2 g p => q v F2 H2 ⟨e1.trans g.hh, g.ff, g.sub, fun a o z => (g.fresh a o z).imp id e1.free⟩ p)
  | false => exact iteF (h2 rfl H1 (s.up e1) Q fun v F2 H2 g p => q v F2 H2 ⟨e1.trans g.hh, g.ff, g.sub, fun a o z => (g.fresh a o z).imp id e1.free⟩ p)
theorem ev_if (h : Et Z tt σ F b) (h1 : b = true → Ev Z ta σ F x) (h2 : b = false → Ev Z tb σ F x) : Ev Z (tIf tt ta tb) σ F x :=
  (es_if (P := fun v _ => v = x) h (fun e => (h1 e).sh) (fun e => (h2 e).sh)).ev fun _ _ _ p => p

/-! ### arguments, displays -/
theorem ea_nil : Ea Z tNil σ F fun vs _ => vs = [] := fun H s Q q => q [] F H (Go.refl s) rfl
theorem ead_nil : Ea Z tNil σ F fun vs F => DpAll K F vs [] := fun H s Q q => q [] F H (Go.refl s) .nil
theorem ea_cons {tr : TA} {R : ShL} (h : Es Z te σ F P) (hp : Mono P) (hr : Ea Z tr σ F R) (hR : MonoL R) : Ea Z (tCons te tr) σ F fun vs F => ∃ v vr, vs = v :: vr ∧ P v F ∧ R vr F := fun H s Q q =>
  h H s _ fun v F1 H1 g1 p1 => hr.up hR g1.ff H1 g1.sub _ fun vr F2 H2 g2 p2 => q _ F2 H2 (g1.trans g2) ⟨v, vr, rfl, hp _ _ _ g2.ff p1, p2⟩
theorem ead_cons {tr : TA} {ds : List PyData} (h : Ed Z K te σ F d) (hr : Ea Z tr σ F fun vs F => DpAll K F vs ds) : Ea Z (tCons te tr) σ F fun vs F => DpAll K F vs (d :: ds) := fun H s Q q =>
  h H s _ fun v F1 H1 g1 p1 => hr.up mono_dpa g1.ff H1 g1.sub _ fun vr F2 H2 g2 p2 => q _ F2 H2 (g1.trans g2) (.cons (dp_mono g2.ff p1) p2)
theorem Ea.imp {ta : TA} {R R' : ShL} (h : Ea Z ta σ F R) (f : ∀ v F', Same F F' → R v F' → R' v F') : Ea Z ta σ F R' := fun H s Q q => h H s Q fun v F1 H1 g p => q v F1 H1 g (f v F1 g.ff p)
theorem line_le {n : Nat} (h : n ≤ 100000) : n ≤ sizeLine := Nat.le_trans h (by decide)
theorem line_lt {n : Nat} (h : n < 100000) : n < sizeLine := Nat.lt_of_lt_of_le h (by decide)
theorem ed_tup {ta : TA} {ds : List PyData} (h : Ea Z ta σ F fun vs F => DpAll K F vs ds) (hl : ds.length ≤ 100000) : Ed Z K (tTup ta) σ F (.tuple ds) := fun H s Q q =>
  h H s _ fun vs F1 H1 g p => ⟨by rw [dpa_length p]; exact line_le hl, fun t ht => q (.ref t) (upd F1 t (.tup vs)) (upd H1 t (.tup vs)) (g.trans (Go.new g.sub ht)) (.tup (.inl (.inl upd_same)) (dpa_mono (same_new (g.sub.free ht)) p))⟩
theorem el_lst {ta : TA} {ds : List PyData} (h : Ea Z ta σ F fun vs F => DpAll K F vs ds) (hl : ds.length ≤ 100000) : El Z (tLst ta) σ F fun xs F => DpAll K F xs ds := fun H s Q q =>
  h H s _ fun vs F1 H1 g p => ⟨by rw [dpa_length p]; exact line_le hl, fun t ht => q t vs F1 (upd H1 t (.lst vs)) (g.trans (Go.ext g.sub (ext_new ht))) (g.back ht) (g.sub.free ht) upd_same p⟩
theorem ed_lst {ta : TA} {ds : List PyData} (h : Ea Z ta σ F fun vs F => DpAll K F vs ds) (hl : ds.length ≤ 100000) : Ed Z K (tLst ta) σ F (.list ds) := (el_lst h hl).ed
end

/-! ### statements -/
section
variable {Z : List NTab} {K : PySem.W.Frag} {σ : St} {F H : Hp} {te ta tb : TE} {tt : TT} {P : Sh} {x : V} {d : PyData} {b : Bool} {D : Ends} {t u w : TS}
theorem s_asg {i : Nat} (h : Es Z te σ F P) (s : Sub Z F H) (k : ∀ v F' H', Go Z F H F' H' → P v F' → D.nx (σ.set i (some v)) H') : tAsg te (gName i) D σ H := h H s _ fun v F' H' g p => k v F' H' g p
theorem q_asg {i : Nat} (h : Es Z te σ F P) (s : Sub Z F H) (k : ∀ v F' H', Go Z F H F' H' → P v F' → t D (σ.set i (some v)) H') : tSeq (tAsg te (gName i)) t D σ H := h H s _ fun v F' H' g p => k v F' H' g p
theorem q_asgV {i : Nat} (h : Ev Z te σ F x) (s : Sub Z F H) (k : ∀ H', Ext Z H H' → Sub Z F H' → t D (σ.set i (some x)) H') : tSeq (tAsg te (gName i)) t D σ H := h H s _ fun H' e => k H' e (s.up e)
theorem s_asgV {i : Nat} (h : Ev Z te σ F x) (s : Sub Z F H) (k : ∀ H', Ext Z H H' → Sub Z F H' → D.nx (σ.set i (some x)) H') : tAsg te (gName i) D σ H := h H s _ fun H' e => k H' e (s.up e)
theorem q_asgL {i : Nat} {R : ShL} (h : El Z te σ F R) (s : Sub Z F H) (k : ∀ p xs F' H', Go Z F H F' H' → H p = none → F' p = none → H' p = some (.lst xs) → R xs F' → t D (σ.set i (some (.ref p))) H') : tSeq (tAsg te (gName i)) t D σ H := h H s _ k
theorem s_ret (h : Es Z te σ F P) (s : Sub Z F H) (k : ∀ v F' H', Go Z F H F' H' → P v F' → D.rt v H') : tRet te D σ H := h H s _ k
theorem s_retV (h : Ev Z te σ F x) (s : Sub Z F H) (k : ∀ H', Ext Z H H' → Sub Z F H' → D.rt x H') : tRet te D σ H := h H s _ fun H' e => k H' e (s.up e)
theorem s_if (h : Et Z tt σ F b) (s : Sub Z F H) (h1 : b = true → ∀ H', Ext Z H H' → Sub Z F H' → t D σ H') (h2 : b = false → ∀ H', Ext Z H H' → Sub Z F H' → u D σ H') : tIfS tt t u D σ H := h H s _ fun H1 e1 => by
  cases b with
  | true => exact iteT (h1 rfl H1 e1 (s.up e1))
  | false => exact iteF (h2 rfl H1 e1 (s.up e1))
theorem q_if (h : Et Z tt σ F b) (s : Sub Z F H) (h1 : b = true → ∀ H', Ext Z H H' → Sub Z F H' → t { D with nx := w D } σ H') (h2 : b = false → ∀ H', Ext Z H H' → Sub Z F H' → u { D with nx := w D } σ H') : tSeq (tIfS tt t u) w D σ H := s_if (D := { D with nx := w D }) h s h1 h2
/-- an if whose branch never falls through, or whose test is false -/
theorem q_when (h : Et Z tt σ F b) (s : Sub Z F H) (h1 : b = true → ∀ H', Ext Z H H' → Sub Z F H' → t { D with nx := w D } σ H') (h2 : b = false → ∀ H', Ext Z H H' → Sub Z F H' → w D σ H') : tSeq (tIfS tt t tNext) w D σ H := s_if (D := { D with nx := w D }) h s h1 h2
theorem q_drop (h : Es Z te σ F P) (s : Sub Z F H) (k : ∀ v F' H', Go Z F H F' H' → P v F' → t D σ H') : tSeq (tDrop te) t D σ H := h H s _ k
end

/-! ### calls of defs that keep the heap -/
/-- arguments by data, the answer by data -/
def spD (Z : List NTab) (K : PySem.W.Frag) (R : List PyData → PyData → Prop) : Sp := fun vs H Q _ => ∃ F ds r, Sub Z F H ∧ DpAll K F vs ds ∧ R ds r ∧ ∀ v F' H', Go Z F H F' H' → Dp K F' v r → Q v H'
/-- the answer of a shape -/
def spS (Z : List NTab) (K : PySem.W.Frag) (R : List PyData → Sh → Prop) : Sp := fun vs H Q _ => ∃ F ds P, Sub Z F H ∧ DpAll K F vs ds ∧ R ds P ∧ ∀ v F' H', Go Z F H F' H' → P v F' → Q v H'
theorem ed_call {Z : List NTab} {K : PySem.W.Frag} {R : List PyData → PyData → Prop} {ta : TA} {σ : St} {F : Hp} {ds : List PyData} {r : PyData} {E : XK} (h : Ea Z ta σ F fun vs F => DpAll K F vs ds) (hr : R ds r) : Ed Z K (tCall (spD Z K R) [] E ta) σ F r := fun H s Q q =>
  h H s _ fun vs F1 H1 g p => ⟨F1, ds, r, g.sub, by rw [List.append_nil]; exact p, hr, fun v F2 H2 g2 p2 => q v F2 H2 (g.trans g2) p2⟩
theorem es_call {Z : List NTab} {K : PySem.W.Frag} {R : List PyData → Sh → Prop} {ta : TA} {σ : St} {F : Hp} {ds : List PyData} {P : Sh} {E : XK} (h : Ea Z ta σ F fun vs F => DpAll K F vs ds) (hr : R ds P) : Es Z (tCall (spS Z K R) [] E ta) σ F P := fun H s Q q =>
  h H s _ fun vs F1 H1 g p => ⟨F1, ds, P, g.sub, by rw [List.append_nil]; exact p, hr, fun v F2 H2 g2 p2 => q v F2 H2 (g.trans g2) p2⟩
end K21

/-! Walks over data; comprehensions and loops by them. -/
namespace K21
open PySem PySem.Spec PyProof.Rows L2
open NdefX (NTab TabsN TabN)

/-! ### item by item -/
theorem paired_mono {α : Type} {P : α → Sh} (hP : ∀ l, Mono (P l)) {F F' : Hp} (e : Same F F') : ∀ {ls : List α} {xs : List V}, Paired (fun l v => P l v F) ls xs → Paired (fun l v => P l v F') ls xs
  | _, _, .nil => .nil
  | _, _, .cons h t => .cons (hP _ _ _ _ e h) (paired_mono hP e t)
theorem paired_snoc {α β : Type} {R : α → β → Prop} {a : α} {b : β} : ∀ {xs : List α} {ys : List β}, Paired R xs ys → R a b → Paired R (xs ++ [a]) (ys ++ [b])
  | _, _, .nil, h => .cons h .nil
  | _, _, .cons h t, k => .cons h (paired_snoc t k)
theorem paired_len {α β : Type} {R : α → β → Prop} : ∀ {xs : List α} {ys : List β}, Paired R xs ys → ys.length = xs.length
  | _, _, .nil => rfl
  | _, _, .cons _ t => congrArg (· + 1) (paired_len t)
theorem paired_dpa {K : PySem.W.Frag} {F : Hp} {α : Type} {dv : α → PyData} : ∀ {ls : List α} {xs : List V}, Paired (fun l v => Dp K F v (dv l)) ls xs → DpAll K F xs (ls.map dv)
  | _, _, .nil => .nil
  | _, _, .cons h t => .cons h (paired_dpa t)
theorem dpa_paired {K : PySem.W.Frag} {F : Hp} : ∀ {ds : List PyData} {xs : List V}, DpAll K F xs ds → Paired (fun l v => Dp K F v l) ds xs
  | _, _, .nil => .nil
  | _, _, .cons h t => .cons h (dpa_paired t)
theorem paired_eq {α : Type} {dv : α → V} : ∀ {ls : List α} {xs : List V}, Paired (fun l v => v = dv l) ls xs → xs = ls.map dv
  | _, _, .nil => rfl
  | _, _, .cons h t => by
    rw [h, paired_eq t]
    rfl
theorem take_more {α : Type} : ∀ {l : List α} {i : Nat} {x : α}, l[i]? = some x → l.take (i + 1) = l.take i ++ [x]
  | [], i, x, h => by simp at h
  | a :: l, 0, x, h => by
    have e : a = x := Option.some.inj h
    subst e
    rfl
  | a :: l, i + 1, x, h => by
    have ih := take_more (l := l) (i := i) (x := x) h
    show a :: l.take (i + 1) = a :: l.take i ++ [x]
    rw [ih]
    rfl
theorem lt_of_get {α : Type} {l : List α} {i : Nat} {x : α} (h : l[i]? = some x) : i < l.length := (List.getElem?_eq_some_iff.mp h).1
theorem get_of_lt {α : Type} {l : List α} {i : Nat} (h : i < l.length) : ∃ x, l[i]? = some x := ⟨l[i], List.getElem?_eq_getElem h⟩
theorem mem_of_get {α : Type} {l : List α} {i : Nat} {x : α} (h : l[i]? = some x) : x ∈ l := List.mem_of_getElem? h

/-! ### what is walked -/
def Turns {α : Type} (Z : List NTab) (J : It) (F : Hp) (ls : List α) (T : α → Sh) : Prop :=
  ∃ (G : Hp → Prop) (Y : Nat → Hp → V → Hp → Prop), Walk J ls.length G Y ∧ (∀ H2, Same F H2 → G H2) ∧
    ∀ i l x F2 H2 H3, ls[i]? = some l → Same F F2 → Sub Z F2 H2 → Y i H2 x H3 → ∃ F3, Go Z F2 H2 F3 H3 ∧ T l x F3
def IW {α : Type} (Z : List NTab) (wi : TI) (σ : St) (F : Hp) (ls : List α) (T : α → Sh) : Prop :=
  ∀ H, Sub Z F H → ∀ R : It → Hp → Prop, (∀ J F' H', Go Z F H F' H' → Turns Z J F' ls T → R J H') → wi σ H R
section
variable {Z : List NTab} {K : PySem.W.Frag} {σ : St} {F F' : Hp} {te tl : TE} {ta : TA}
theorem IW.up {α : Type} {wi : TI} {ls : List α} {T : α → Sh} (h : IW Z wi σ F ls T) (e : Same F F') : IW Z wi σ F' ls T := fun H s R r =>
  h H (s.less e) R fun J F1 H1 g ⟨G, Y, w, a, b⟩ => r J (join F' F1) H1 (g.up e s) ⟨G, Y, w, fun H2 e2 => a H2 (join_r.trans e2), fun i l x F2 H2 H3 hi e2 => b i l x F2 H2 H3 hi (join_r.trans e2)⟩
theorem turns_data {xs : List V} {ds : List PyData} {J : It} {G : Hp → Prop} (w : Walk J xs.length G (YAt xs)) (hG : ∀ H2, Same F H2 → G H2) (h : DpAll K F xs ds) : Turns Z J F ds (fun d v F => Dp K F v d) :=
  ⟨G, YAt xs, by rw [← dpa_length h]; exact w, hG, fun i l x F2 H2 H3 hi e s y => by
    obtain ⟨rfl, hx⟩ := y
    obtain ⟨v, h1, h2⟩ := dpa_get h hi
    rw [hx] at h1
    cases h1
    exact ⟨F2, Go.refl s, dp_mono e h2⟩⟩
theorem iw_list {ds : List PyData} (h : Ed Z K tl σ F (.list ds)) : IW Z (iList K tl) σ F ds (fun d v F => Dp K F v d) := fun H s R r =>
  h H s _ fun v F1 H1 g p => by
    obtain ⟨a, xs, rfl, hs, hx⟩ := dp_lst p
    exact ⟨a, rfl, ⟨xs, same_l g.sub.same hs⟩, r _ F1 H1 g (turns_data walk_list (fun H2 e => same_l e hs) hx)⟩
theorem iw_tup {ds : List PyData} (h : Ed Z K tl σ F (.tuple ds)) : IW Z (iTup K tl) σ F ds (fun d v F => Dp K F v d) := fun H s R r =>
  h H s _ fun v F1 H1 g p => by
    obtain ⟨a, xs, rfl, hs, hx⟩ := dp_tup p
    exact ⟨a, rfl, ⟨xs, same_t g.sub.same hs⟩, r _ F1 H1 g (turns_data walk_tup (fun H2 e => same_t e hs) hx)⟩
/-- range(n) -/
theorem iw_rng1 {n : Nat} (h : Ev Z te σ F (.int (n : Int))) (hn : n ≤ 100000) : IW Z (iRng1 (tCons te tNil)) σ F (List.range n) (fun i v _ => v = .int (i : Nat)) := fun H s R r =>
  h H s _ fun H1 e => ⟨(n : Int), rfl, by omega, by omega, r _ F H1 (Go.ext s e) ⟨fun _ => True, YFn fun i => .int (0 + i), by rw [List.length_range, Int.toNat_natCast]; exact walk_range, fun _ _ => True.intro, fun i l x F2 H2 H3 hi e2 s2 y => by
    obtain ⟨rfl, rfl⟩ := y
    have hl : i < n := by have := lt_of_get hi; rwa [List.length_range] at this
    rw [List.getElem?_range hl] at hi
    cases hi
    exact ⟨F2, Go.refl s2, (by show V.int (0 + (i : Int)) = V.int (i : Int); rw [Int.zero_add])⟩⟩⟩
/-- a text, sign by sign -/
theorem iw_str {z : Str} (h : Ev Z te σ F (.str z)) : IW Z (iStr te) σ F z.cps.toList (fun c v _ => v = .str ⟨#[c]⟩) := fun H s R r =>
  h H s _ fun H1 e => ⟨z, rfl, r _ F H1 (Go.ext s e) ⟨fun _ => True, _, by rw [Array.length_toList]; exact walk_str, fun _ _ => True.intro, fun i l x F2 H2 H3 hi e2 s2 y => by
    obtain ⟨rfl, c, hc, rfl⟩ := y
    rw [Array.getElem?_toList] at hi
    rw [hi] at hc
    cases hc
    exact ⟨F2, Go.refl s2, rfl⟩⟩⟩
end

/-! ### targets -/
section
variable {Z : List NTab} {K : PySem.W.Frag} {σ : St} {F H : Hp} {x : V} {Q : St → Hp → Prop}
theorem g_pair {i j : Nat} {d e : PyData} (h : Dp K F x (.tuple [d, e])) (s : Sub Z F H) (k : ∀ u v, Dp K F u d → Dp K F v e → Q ((σ.set i (some u)).set j (some v)) H) : gTup K 2 (gCons (gName i) (gCons (gName j) gNil)) x σ H Q := by
  obtain ⟨a, xs, rfl, hs, hx⟩ := dp_tup h
  cases hx with
  | cons h1 t =>
    cases t with
    | cons h2 t2 =>
      cases t2
      exact ⟨a, _, rfl, same_t s.same hs, rfl, _, _, rfl, _, _, rfl, rfl, k _ _ h1 h2⟩
theorem g_triple {i j l : Nat} {d e f : PyData} (h : Dp K F x (.tuple [d, e, f])) (s : Sub Z F H) (k : ∀ u v w, Dp K F u d → Dp K F v e → Dp K F w f → Q (((σ.set i (some u)).set j (some v)).set l (some w)) H) :
    gTup K 3 (gCons (gName i) (gCons (gName j) (gCons (gName l) gNil))) x σ H Q := by
  obtain ⟨a, xs, rfl, hs, hx⟩ := dp_tup h
  cases hx with
  | cons h1 t =>
    cases t with
    | cons h2 t2 =>
      cases t2 with
      | cons h3 t3 =>
        cases t3
        exact ⟨a, _, rfl, same_t s.same hs, rfl, _, _, rfl, _, _, rfl, _, _, rfl, rfl, k _ _ _ h1 h2 h3⟩
end

/-! ### list comprehensions -/
section
variable {Z : List NTab} {σ : St} {F : Hp} {wi wi1 : TI} {g g1 : TG} {tt tt1 : TT} {te tk tv : TE} {vs vs1 : List Nat}
theorem filter_take_more {α : Type} {ls : List α} {f : α → Bool} {i : Nat} {l : α} (h : ls[i]? = some l) : (ls.take (i + 1)).filter f = (ls.take i).filter f ++ (if f l = true then [l] else []) := by
  rw [take_more h, List.filter_append]
  congr 1
  by_cases hf : f l = true
  · rw [if_pos hf, List.filter_cons, if_pos hf]
    rfl
  · rw [if_neg hf, List.filter_cons, if_neg hf]
    rfl
/-- what a comprehension has made so far: xs at D -/
def At {α : Type} (Z : List NTab) (P : α → Sh) (F0 H0 : Hp) (D : Addr) (ms : List α) (H : Hp) : Prop := ∃ F xs, Go Z F0 H0 F H ∧ F D = none ∧ H D = some (.lst xs) ∧ Paired (fun l v => P l v F) ms xs
theorem At.start {α : Type} {P : α → Sh} {F0 H0 : Hp} {D : Addr} (s : Sub Z F0 H0) (hD : H0 D = none) : At Z P F0 H0 D [] (upd H0 D (.lst [])) :=
  ⟨F0, [], Go.ext s (ext_new hD), s.free hD, upd_same, .nil⟩
theorem At.more {α : Type} {P : α → Sh} (hP : ∀ l, Mono (P l)) {F0 H0 F1 H1 F2 H2 : Hp} {D : Addr} {ms : List α} {l : α} {v : V} {xs : List V} (hD : H0 D = none) (a : Go Z F0 H0 F1 H1) (f1 : F1 D = none) (d1 : H1 D = some (.lst xs)) (p1 : Paired (fun l v => P l v F1) ms xs)
    (b : Go Z F1 H1 F2 H2) (pv : P l v F2) : H2 D = some (.lst xs) ∧ At Z P F0 H0 D (ms ++ [l]) (upd H2 D (.lst (xs ++ [v]))) := by
  have f2 : F2 D = none := b.none_of d1 f1
  have g := a.trans b
  exact ⟨b.hh.lst d1, F2, xs ++ [v], g.mut hD f2 (b.hh.lst d1), f2, upd_same, paired_snoc (paired_mono hP b.ff p1) pv⟩
theorem el_lc {α : Type} {ls : List α} {T : α → Sh} (f : α → Bool) (P : α → Sh) (hP : ∀ l, Mono (P l)) (hw : IW Z wi σ F ls T) (hz : ls.length ≤ 50000)
    (turn : ∀ l x F1 H1, l ∈ ls → Same F F1 → Sub Z F1 H1 → T l x F1 → g x (wipe σ vs) H1 fun σ2 H2 => H2 = H1 ∧ wipe σ2 vs = wipe σ vs ∧ Et Z tt σ2 F1 (f l) ∧ (f l = true → Es Z te σ2 F1 (P l)))
    (gm : ∀ x σ H (Q Q' : St → Hp → Prop), (∀ σ' H', Q σ' H' → Q' σ' H') → g x σ H Q → g x σ H Q') :
    El Z (tLc wi g tt te vs) σ F fun xs F' => Paired (fun l v => P l v F') (ls.filter f) xs := fun H s Q q =>
  hw H s _ fun J F1 H1 g1 ⟨G, Y, w, hG, hY⟩ => fun D hD => by
    refine lc_it w (fun i H' => At Z P F1 H1 D ((ls.take i).filter f) H') (At.start g1.sub hD) (fun i H' _ ⟨F', xs, a, _⟩ => hG H' a.fh.same) (fun i x H2 H3 hi ⟨F', xs, a, f1, d1, p1⟩ y => ?_) (fun H' ⟨F', xs, a, f1, d1, p1⟩ => ?_)
    · obtain ⟨l, hl⟩ := get_of_lt hi
      obtain ⟨F3, b, t⟩ := hY i l x F' H2 H3 hl a.ff a.sub y
      have d3 : H3 D = some (.lst xs) := b.hh.lst d1
      have f3 : F3 D = none := b.none_of d1 f1
      have p3 : Paired (fun l v => P l v F3) ((ls.take i).filter f) xs := paired_mono hP b.ff p1
      have a3 := a.trans b
      refine gm _ _ _ _ _ (fun σ2 H2' => ?_) (turn l x F3 H3 (mem_of_get hl) (g1.ff.trans a3.ff) b.sub t)
      rintro ⟨rfl, hwp, ht, he⟩
      refine ⟨hwp, ht H2' b.sub _ fun H4 e4 => ?_⟩
      rw [filter_take_more hl]
      cases hf : f l with
      | true =>
        refine iteT (he hf H4 (b.sub.up e4) _ fun v F5 H5 g5 p5 => ?_)
        obtain ⟨m1, m2⟩ := At.more hP hD (a3.trans (Go.ext b.sub e4)) f3 (e4.lst d3) p3 g5 p5
        refine ⟨xs, m1, line_lt ?_, m2⟩
        rw [paired_len p1]
        have h1 := List.length_filter_le f (ls.take i)
        rw [List.length_take] at h1
        omega
      | false =>
        refine iteF ?_
        rw [if_neg (by decide), List.append_nil]
        exact ⟨F3, xs, a3.trans (Go.ext b.sub e4), f3, e4.lst d3, p3⟩
    · rw [List.take_length] at p1
      exact q D xs F' H' (g1.trans a) (g1.back hD) f1 d1 p1
theorem gm_name {i : Nat} : ∀ x σ H (Q Q' : St → Hp → Prop), (∀ σ' H', Q σ' H' → Q' σ' H') → gName i x σ H Q → gName i x σ H Q' := fun _ _ _ _ _ f h => f _ _ h
theorem gm_pair {K : PySem.W.Frag} {i j : Nat} : ∀ x σ H (Q Q' : St → Hp → Prop), (∀ σ' H', Q σ' H' → Q' σ' H') → gTup K 2 (gCons (gName i) (gCons (gName j) gNil)) x σ H Q → gTup K 2 (gCons (gName i) (gCons (gName j) gNil)) x σ H Q' := by
  rintro x σ H Q Q' f ⟨a, xs, e, hs, hl, v, r, e1, v2, r2, e2, e3, q⟩
  exact ⟨a, xs, e, hs, hl, v, r, e1, v2, r2, e2, e3, f _ _ q⟩
theorem gm_triple {K : PySem.W.Frag} {i j l : Nat} : ∀ x σ H (Q Q' : St → Hp → Prop), (∀ σ' H', Q σ' H' → Q' σ' H') → gTup K 3 (gCons (gName i) (gCons (gName j) (gCons (gName l) gNil))) x σ H Q → gTup K 3 (gCons (gName i) (gCons (gName j) (gCons (gName l) gNil))) x σ H Q' := by
  rintro x σ H Q Q' f ⟨a, xs, e, hs, hl, v, r, e1, v2, r2, e2, v3, r3, e3, e4, q⟩
  exact ⟨a, xs, e, hs, hl, v, r, e1, v2, r2, e2, v3, r3, e3, e4, f _ _ q⟩
/-- .. by data -/
theorem el_lcD {K : PySem.W.Frag} {α : Type} {ls : List α} {T : α → Sh} (f : α → Bool) (dv : α → PyData) (hw : IW Z wi σ F ls T) (hz : ls.length ≤ 50000)
    (turn : ∀ l x F1 H1, l ∈ ls → Same F F1 → Sub Z F1 H1 → T l x F1 → g x (wipe σ vs) H1 fun σ2 H2 => H2 = H1 ∧ wipe σ2 vs = wipe σ vs ∧ Et Z tt σ2 F1 (f l) ∧ (f l = true → Ed Z K te σ2 F1 (dv l)))
    (gm : ∀ x σ H (Q Q' : St → Hp → Prop), (∀ σ' H', Q σ' H' → Q' σ' H') → g x σ H Q → g x σ H Q') :
    El Z (tLc wi g tt te vs) σ F fun xs F' => DpAll K F' xs ((ls.filter f).map dv) := fun H s Q q =>
  el_lc f (fun l v F => Dp K F v (dv l)) (fun _ => mono_dp) hw hz turn gm H s Q fun p xs F' H' g h0 h1 h2 pd => q p xs F' H' g h0 h1 h2 (paired_dpa pd)
/-- one name, no test, by data -/
theorem el_map {K : PySem.W.Frag} {α : Type} {ls : List α} {T : α → Sh} {j : Nat} (dv : α → PyData) (hw : IW Z wi σ F ls T) (hz : ls.length ≤ 50000) (hv : ∀ x, wipe ((wipe σ vs).set j (some x)) vs = wipe σ vs)
    (turn : ∀ l x F1, l ∈ ls → Same F F1 → T l x F1 → Ed Z K te ((wipe σ vs).set j (some x)) F1 (dv l)) :
    El Z (tLc wi (gName j) tYes te vs) σ F fun xs F' => DpAll K F' xs (ls.map dv) := by
  have h := el_lcD (K := K) (fun _ => true) dv hw hz (g := gName j) (tt := tYes) (te := te) (vs := vs) (fun l x F1 H1 hl e s t => ⟨rfl, hv x, et_yes, fun _ => turn l x F1 hl e t⟩) gm_name
  rw [List.filter_eq_self.mpr fun _ _ => rfl] at h
  exact h
/-- one name, a test, by data -/
theorem el_filter {K : PySem.W.Frag} {α : Type} {ls : List α} {T : α → Sh} {j : Nat} (f : α → Bool) (dv : α → PyData) (hw : IW Z wi σ F ls T) (hz : ls.length ≤ 50000) (hv : ∀ x, wipe ((wipe σ vs).set j (some x)) vs = wipe σ vs)
    (test : ∀ l x F1, l ∈ ls → Same F F1 → T l x F1 → Et Z tt ((wipe σ vs).set j (some x)) F1 (f l))
    (turn : ∀ l x F1, l ∈ ls → Same F F1 → T l x F1 → f l = true → Ed Z K te ((wipe σ vs).set j (some x)) F1 (dv l)) :
    El Z (tLc wi (gName j) tt te vs) σ F fun xs F' => DpAll K F' xs ((ls.filter f).map dv) :=
  el_lcD (K := K) f dv hw hz (fun l x F1 H1 hl e s t => ⟨rfl, hv x, test l x F1 hl e t, turn l x F1 hl e t⟩) gm_name

theorem tyes_if {σ : St} {H : Hp} {A B : Hp → Prop} (h : A H) : tYes σ H fun b H3 => if b = true then A H3 else B H3 := iteT (B := B H) h
/-- two clauses, no tests -/
theorem el_lc2 {α β : Type} {ls : List α} {T : α → Sh} {T1 : α → β → Sh} (ms : α → List β) (P : α × β → Sh) (hP : ∀ l, Mono (P l)) (hw : IW Z wi σ F ls T) (hz : (ls.flatMap fun l => (ms l).map fun m => (l, m)).length ≤ 50000)
    (turn : ∀ l x F1 H1, l ∈ ls → Same F F1 → Sub Z F1 H1 → T l x F1 → g x (wipe σ vs) H1 fun σ2 H2 => H2 = H1 ∧ wipe σ2 vs = wipe σ vs ∧ IW Z wi1 σ2 F1 (ms l) (T1 l) ∧
      ∀ m y F2 H3, m ∈ ms l → Same F1 F2 → Sub Z F2 H3 → T1 l m y F2 → g1 y (wipe σ2 vs1) H3 fun σ3 H4 => H4 = H3 ∧ wipe σ3 vs1 = wipe σ2 vs1 ∧ Es Z te σ3 F2 (P (l, m)))
    (gm : ∀ x σ H (Q Q' : St → Hp → Prop), (∀ σ' H', Q σ' H' → Q' σ' H') → g x σ H Q → g x σ H Q')
    (gm1 : ∀ x σ H (Q Q' : St → Hp → Prop), (∀ σ' H', Q σ' H' → Q' σ' H') → g1 x σ H Q → g1 x σ H Q') :
    El Z (tLc2 wi g tYes wi1 g1 tYes te vs vs1) σ F fun xs F' => Paired (fun l v => P l v F') (ls.flatMap fun l => (ms l).map fun m => (l, m)) xs := fun H s Q q =>
  hw H s _ fun J F1 H1 g1' ⟨G, Y, w, hG, hY⟩ => fun D hD => by
    have bound : ∀ i l, ls[i]? = some l → ((ls.take i).flatMap fun l => (ms l).map fun m => (l, m)).length + (ms l).length ≤ 50000 := by
      intro i l hl
      have h3 : (ls.flatMap fun l => (ms l).map fun m => (l, m)) = ((ls.take (i + 1)).flatMap fun l => (ms l).map fun m => (l, m)) ++ ((ls.drop (i + 1)).flatMap fun l => (ms l).map fun m => (l, m)) := by
        rw [← List.flatMap_append, List.take_append_drop]
      have h1 := hz
      rw [h3, take_more hl, List.flatMap_append, List.length_append, List.length_append] at h1
      have h4 : ([l].flatMap fun l => (ms l).map fun m => (l, m)).length = (ms l).length := by simp
      omega
    refine ⟨fun i m H => m = ls.length - i ∧ i ≤ ls.length ∧ At Z P F1 H1 D ((ls.take i).flatMap fun l => (ms l).map fun m => (l, m)) H, ⟨ls.length, by simp, Nat.zero_le _, At.start g1'.sub hD⟩, ?_⟩
    rintro i m H2 ⟨rfl, hi, F', xs, a, f1, d1, p1⟩
    by_cases hlt : i < ls.length
    · obtain ⟨l, hl⟩ := get_of_lt hlt
      refine .inr ⟨w.goes i H2 hlt (hG H2 a.fh.same), At Z P F1 H1 D ((ls.take (i + 1)).flatMap fun l => (ms l).map fun m => (l, m)), fun H' p' => ⟨ls.length - (i + 1), by omega, rfl, hlt, p'⟩, fun x H3 y => ?_⟩
      obtain ⟨F3, b, t⟩ := hY i l x F' H2 H3 hl a.ff a.sub (w.yields i H2 x H3 hlt (hG H2 a.fh.same) y)
      have d3 : H3 D = some (.lst xs) := b.hh.lst d1
      have f3 : F3 D = none := b.none_of d1 f1
      have p3 := paired_mono hP b.ff p1
      have a3 := a.trans b
      refine gm _ _ _ _ _ (fun σ2 H2' => ?_) (turn l x F3 H3 (mem_of_get hl) (g1'.ff.trans a3.ff) b.sub t)
      rintro ⟨rfl, hwp, hin, helt⟩
      refine ⟨hwp, tyes_if ?_⟩
      refine hin H2' b.sub _ fun J1 F4 H4 g4 ⟨G1, Y1, w1, hG1, hY1⟩ => ?_
      have d4 : H4 D = some (.lst xs) := g4.hh.lst d3
      have f4 : F4 D = none := g4.none_of d3 f3
      have p4 := paired_mono hP g4.ff p3
      have a4 := a3.trans g4
      rw [take_more hl, List.flatMap_append]
      have es1 : ([l].flatMap fun l => (ms l).map fun m => (l, m)) = (ms l).map fun m => (l, m) := by simp
      rw [es1]
      refine ⟨fun j k H => k = (ms l).length - j ∧ j ≤ (ms l).length ∧ ∃ F5 ys, Go Z F1 H1 F5 H ∧ Same F4 F5 ∧ F5 D = none ∧ H D = some (.lst ys) ∧ Paired (fun l v => P l v F5) (((ls.take i).flatMap fun l => (ms l).map fun m => (l, m)) ++ ((ms l).take j).map fun m => (l, m)) ys,
        ⟨(ms l).length, by simp, Nat.zero_le _, F4, xs, a4, Same.refl _, f4, d4, by simpa using p4⟩, ?_⟩
      rintro j k H5 ⟨rfl, hj, F5, ys, a5, e5, f5, d5, p5⟩
      by_cases hjl : j < (ms l).length
      · obtain ⟨mm, hm⟩ := get_of_lt hjl
        have hg5 := hG1 H5 (e5.trans a5.sub.same)
        refine .inr ⟨w1.goes j H5 hjl hg5, fun H => ∃ F5 ys, Go Z F1 H1 F5 H ∧ Same F4 F5 ∧ F5 D = none ∧ H D = some (.lst ys) ∧ Paired (fun l v => P l v F5) (((ls.take i).flatMap fun l => (ms l).map fun m => (l, m)) ++ ((ms l).take (j + 1)).map fun m => (l, m)) ys,
          fun H' p' => ⟨(ms l).length - (j + 1), by omega, rfl, hjl, p'⟩, fun x1 H6 y1 => ?_⟩
        obtain ⟨F6, b6, t6⟩ := hY1 j mm x1 F5 H5 H6 hm e5 a5.sub (w1.yields j H5 x1 H6 hjl hg5 y1)
        refine gm1 _ _ _ _ _ (fun σ3 H6' => ?_) (helt mm x1 F6 H6 (mem_of_get hm) ((g4.ff.trans e5).trans b6.ff) b6.sub t6)
        rintro ⟨rfl, hwp3, he⟩
        refine ⟨hwp3, tyes_if ?_⟩
        refine he H6' b6.sub _ fun v F7 H7 g7 p7 => ?_
        have d6 : H6' D = some (.lst ys) := b6.hh.lst d5
        have f6 : F6 D = none := b6.none_of d5 f5
        obtain ⟨m1, F8, zs, m2, m3, m4, m5⟩ := At.more hP hD (a5.trans b6) f6 d6 (paired_mono hP b6.ff p5) g7 p7
        have hl7 : ys.length < sizeLine := by
          refine line_lt ?_
          rw [paired_len p5, List.length_append, List.length_map, List.length_take]
          have := bound i l hl
          omega
        refine ⟨ys, m1, hl7, F7, ys ++ [v], ?_, (e5.trans b6.ff).trans g7.ff, g7.none_of d6 f6, upd_same, ?_⟩
        · have gg := (a5.trans b6).trans g7
          exact gg.mut hD (g7.none_of d6 f6) m1
        · have pp := paired_snoc (paired_mono hP (b6.ff.trans g7.ff) p5) p7
          rw [take_more hm, List.map_append, ← List.append_assoc]
          exact pp
      · have ej : j = (ms l).length := by omega
        subst ej
        rw [List.take_length] at p5
        exact .inl ⟨w1.stops H5 (hG1 H5 (e5.trans a5.sub.same)), F5, ys, a5, f5, d5, p5⟩
    · have ei : i = ls.length := by omega
      subst ei
      rw [List.take_length] at p1
      exact .inl ⟨w.stops H2 (hG H2 a.fh.same), q D xs F' H2 (g1'.trans a) (g1'.back hD) f1 d1 p1⟩
end
end K21

/-! Sorting data wherever it comes from; a list whose first item is the empty tuple; sets of texts. -/
namespace K21
open PySem PySem.Spec PySem.Calls PyProof.Rows PySem.W PySem.SeqAt
abbrev KK := PyProof.Rows.KeyKind

/-! ### sorting: the first item is () -/
section
variable {prog : Program} {w : World} {A : Around} {E : Value → Shared → Prop} {s : Shared}
/-- tuples of data, compared as things of one type -/
theorem one_lt_tup {xs ys : List PyData} {a b : Value} {as bs : List Addr} {Q : Bool → Shared → Prop} (ra : Reads s.heap a (.tuple xs) as) (rb : Reads s.heap b (.tuple ys) bs) (hal : alikeAll xs ys = true)
    (hu : A.units + min (PyData.depth (.tuple xs)) (PyData.depth (.tuple ys)) < cLine) (hq : Q (dataLt (.tuple xs) (.tuple ys)) s) : wpAny (model prog w) A (oneLt' true a b) Q E s := by
  have hlt := rcLt_alike (.tuple xs) (.tuple ys) A s a b as bs ra rb (by simpa [alike] using hal) (fun z => nomatch z) hu
  cases ra with
  | @tuple l o vs n _ _ h1 h2 h3 h4 =>
    cases rb with
    | @tuple l' o' vs' n' _ _ k1 k2 k3 k4 =>
      have m1 : vs.size = xs.length := by simpa using ReadsAll.length _ _ _ h4
      have m2 : vs'.size = ys.length := by simpa using ReadsAll.length _ _ _ k4
      obtain ⟨cl, dd, dt, sl⟩ := o
      obtain ⟨cl', dd', dt', sl'⟩ := o'
      simp only at h2 h3 k2 k3
      subst h2 h3 k2 k3
      rw [dataLt_tuple, ← firstLt_toks xs ys hal, ← m1, ← m2] at hq
      rw [oneLt'_eq]
      simp only [if_true]
      refine wpAny_bind (wpAny_cRoomFor (room_here hu) ?_)
      refine wpAny_bind (wpAny_callSpecialIfBound?_slot (T := "tuple") ⟨_, h1, rfl⟩ F.slot_tuple_lt ?_)
      refine call_meets F.slot_tuple_lt ⟨_, h1, rfl⟩ F.entry_tuple_lt (F.args_tuple_lt_2 _ _)
        (tuple_ltAt l l' vs vs' n n' dd dd' sl sl' (pairEq xs ys) (fun j => dataLt (xs.getD j .none) (ys.getD j .none))) ⟨h1, k1, fun j j1 j2 => ?_, fun j j1 j2 hj => ?_, ?_⟩
      · have z := eqAt_alikeAll xs ys A.in1 s vs.toList vs'.toList _ _ h4 k4 hal (room_in hu) j (by simpa using j1) (by simpa using j2)
        simpa using z
      · have z := rcLt_alikeAll xs ys A.in1 s vs.toList vs'.toList _ _ h4 k4 hal (room_in hu) j (by simpa using j1) (by simpa using j2) hj
        simpa using z
      · exact wpAny_truthy_bool hq
/-- the first items of tuples: none of an empty one -/
theorem firsts_of {M : Model} : ∀ {vs : List Value} {ds : List PyData}, EachIs (fun v d => ∃ as, Reads s.heap v d as) vs ds → (∀ d, d ∈ ds → ∃ xs, d = .tuple xs) →
    ∃ fs : List (Option Value), fs.length = vs.length ∧ (∀ r, ds = .tuple [] :: r → fs[0]? = some none) ∧ ∀ Q : List (Option Value) → Shared → Prop, Q fs s → wpAny M A (vs.mapM firstOfTuple') Q E s
  | _, _, .nil, _ => ⟨[], rfl, (fun _ z => nomatch z), fun Q h => by rw [List.mapM_nil]; exact wpAny_pure h⟩
  | _, _, .cons (a := v) (b := d) ⟨as, r⟩ t, ht => by
    obtain ⟨fs, l1, _, l3⟩ := firsts_of t fun d hd => ht d (List.mem_cons_of_mem _ hd)
    obtain ⟨xs, rfl⟩ := ht d (List.mem_cons_self ..)
    cases r with
    | @tuple a o ws n _ _ ho hc hd hr =>
      refine ⟨ws[0]? :: fs, by rw [List.length_cons, List.length_cons, l1], fun r e => ?_, fun Q h => ?_⟩
      · have ex : xs = [] := by
          have := (List.cons.inj e).1
          injection this
        subst ex
        have e0 : ws.toList = [] := by
          cases q : ws.toList with
          | nil => rfl
          | cons u us =>
            rw [q] at hr
            cases hr
        have e1 : ws = #[] := Array.toList_inj.mp (by rw [e0])
        rw [e1]
        rfl
      · rw [List.mapM_cons]
        refine wpAny_bind ?_
        rw [kas_first_eq]
        refine wpAny_bind (Looks.here (show Looks M s.heap (typeOf (.ref a)) o.cls from (Looks.ld ho).andThen .now) ?_)
        rw [hc, if_neg (by first | decide | simp)]
        refine wpAny_bind (listItems_at ho hd (wpAny_pure ?_))
        exact wpAny_bind (l3 _ (wpAny_pure h))
theorem kind_one {M : Model} {vs : List Value} {ds dr : List PyData} {Q : SortKind → Shared → Prop} (e : EachIs (fun v d => ∃ as, Reads s.heap v d as) vs ds) (ht : ∀ d, d ∈ ds → ∃ xs, d = .tuple xs) (h0 : ds = .tuple [] :: dr)
    (hq : Q oneType' s) : wpAny M A (keyKind' vs.toArray) Q E s := by
  obtain ⟨fs, f1, f2, f3⟩ := firsts_of (A := A) (E := E) (M := M) e ht
  have g0 := f2 dr h0
  obtain ⟨v₁, rest, rfl⟩ : ∃ v₁ rest, vs = v₁ :: rest := by
    subst h0
    cases e with
    | cons _ _ => exact ⟨_, _, rfl⟩
  obtain ⟨fr, rfl⟩ : ∃ fr, fs = none :: fr := by
    cases fs with
    | nil => simp at g0
    | cons f fr =>
      have : f = none := by simpa using g0
      subst this
      exact ⟨fr, rfl⟩
  rw [keyKind'_eq, List.mapM_toArray, map_eq_pure_bind]
  refine wpAny_bind (wpAny_bind (f3 _ (wpAny_pure ?_)))
  rw [if_neg (by simp), if_neg (by simp)]
  rw [oneTypeOnly'_eq, List.mapM_toArray, map_eq_pure_bind]
  have hT : ∀ v ∈ v₁ :: rest, Looks M s.heap (typeOf v) (Value.type "tuple") := fun v hv => by
    obtain ⟨d, hd, as, r⟩ := e.left v hv
    obtain ⟨xs, rfl⟩ := ht d hd
    exact looks_reads r
  refine wpAny_bind (wpAny_bind (wpAny_bind (kas_mapM (r := Value.type "tuple") _ (fun v hv Q' z => (hT v hv).here z) (wpAny_pure ?_))))
  have hall : ((List.map (fun _ => Value.type "tuple") (v₁ :: rest)).toArray.all fun x => x == Value.type "tuple") = true := by
    simp only [List.all_toArray, List.all_map, List.all_eq_true]
    intro _ _
    rfl
  have z0 : (List.map (fun _ => Value.type "tuple") (v₁ :: rest)).toArray[0]? = some (Value.type "tuple") := by simp
  rw [z0]
  simp only [hall, if_true]
  exact wpAny_pure (wpAny_pure hq)
/-- what can be sorted: as the library tells, or tuples of which the first is empty -/
def SortsOk (ds : List PyData) : Prop := Sortable ds ∨ ∃ dr, ds = .tuple [] :: dr ∧ ∀ d, d ∈ ds → ∃ xs, d = .tuple xs
theorem sorts_data {vs : List Value} {ds : List PyData} (e : EachIs (fun v d => ∃ as, Reads s.heap v d as) vs ds) (hal : AllAlike ds) (hk : SortsOk ds) (hu : ∀ d, d ∈ ds → A.units + d.depth < cLine) : SortsAt prog w A s (dataKind s.heap ds) vs := by
  rcases hk with hk | ⟨dr, h0, ht⟩
  · exact SortsAt.data e hal hk hu
  · refine ⟨fun v hv => ?_, oneType', ?_, fun _ E' Q hq => kind_one e ht h0 hq⟩
    · obtain ⟨d, hd, as, r⟩ := e.left v hv
      exact ⟨_, dataKind_some hal hd r⟩
    · intro E' x y a b Q ha hb hq
      obtain ⟨d, as, hd, ra, rfl⟩ := dataKind_inv ha
      obtain ⟨d', as', hd', rb, rfl⟩ := dataKind_inv hb
      obtain ⟨xs, rfl⟩ := ht d hd
      obtain ⟨ys, rfl⟩ := ht d' hd'
      rw [keyLt'_oneType]
      refine one_lt_tup ra rb (by simpa [alike] using hal _ hd _ hd') (Nat.lt_of_le_of_lt ?_ (hu _ hd)) hq
      exact Nat.add_le_add_left (Nat.min_le_left _ _) _

/-! ### sorted, wherever the items come from -/
/-- the one sorted list -/
noncomputable def dsort (ds : List PyData) : List PyData := ds.mergeSort (dataLe false id)
def Kept (s s' : Shared) : Prop := (∀ b o, s.heap.get? b = some o → s'.heap.get? b = some o) ∧ s'.gens = s.gens ∧ s'.os = s.os
theorem sorted_by {x : Value} {R : Value → PyData → Prop} {Q : Value → Shared → Prop} (C : List PyData → Prop)
    (hc : ∀ Q' : List Value → Shared → Prop, (∀ s1 vs ds, Kept s s1 → C ds → EachIs R vs ds → EachIs (fun v d => ∃ as, Reads s1.heap v d as) vs ds → Q' vs s1) → wpAny (model prog w) A.in1 (collect x) Q' E s)
    (hal : ∀ ds, C ds → AllAlike ds) (hk : ∀ ds, C ds → SortsOk ds) (hL : ∀ ds, C ds → ds.length ≤ sizeLine) (hu : ∀ ds, C ds → ∀ d, d ∈ ds → A.units + 2 + d.depth < cLine)
    (hQ : ∀ s1 s' p out c ds, C ds → Kept s s1 → Kept s1 s' → s1.heap.objs.size ≤ p → s'.heap.get? p = some (seqObj "list" (List.toArray out) c) → EachIs R out (dsort ds) → Q (.ref p) s') :
    wpAny (model prog w) A (call (.builtin "sorted") [x]) Q E s := by
  refine call_function_entry kind_sorted plain_sorted entry_sorted (args_sorted1 _) ?_
  unfold Builtin.«sorted»
  refine wpAny_bind (m := checkCount "sorted" 1 1 _) (wpAny_pure ?_)
  refine wpAny_bind (hc _ fun s1 vs ds k1 hC er e1 => ?_)
  have hvl : vs.length ≤ sizeLine := by rw [er.length]; exact hL ds hC
  refine wpAny_bind (wpAny_newList ?_ hvl)
  have hoL : (s1.heap.push (seqObj "list" vs.toArray 0)).get? s1.heap.objs.size = some (seqObj "list" vs.toArray 0) := Heap.get?_push_size _ rfl
  have keep : ∀ b o, s1.heap.get? b = some o → (sortingHeap (s1.heap.push (seqObj "list" vs.toArray 0)) s1.heap.objs.size vs).get? b = some o := fun b o z =>
    sortingHeap_old (Nat.ne_of_lt (Heap.lt_size z)) (Heap.get?_push_of_some _ z)
  have e2 : EachIs (fun v d => ∃ as, Reads (sortingHeap (s1.heap.push (seqObj "list" vs.toArray 0)) s1.heap.objs.size vs) v (id d) as) vs ds := e1.mono fun v d ⟨as, z⟩ => ⟨as, PyProof.Rows.Reads.keeps keep z⟩
  refine wpAny_bind (wpAny_holding (wpAny_call_entry slot_list_sort ⟨_, hoL, rfl⟩ entry_list_sort (list_sort_vals (κ := dataKind (sortingHeap (s1.heap.push (seqObj "list" vs.toArray 0)) s1.heap.objs.size vs) (ds.map id)) hoL
    (sorts_data (s := { s1 with heap := sortingHeap (s1.heap.push (seqObj "list" vs.toArray 0)) s1.heap.objs.size vs }) (by rw [List.map_id]; exact e2) (by rw [List.map_id]; exact hal ds hC) (by rw [List.map_id]; exact hk ds hC) (fun d hd => hu ds hC d (by rwa [List.map_id] at hd))) hvl ⟨_, rfl, ?_⟩) (args_list_sort _)))
  have eo : EachIs R (sortVals (dataKind (sortingHeap (s1.heap.push (seqObj "list" vs.toArray 0)) s1.heap.objs.size vs) (ds.map id)) false vs vs) (ds.mergeSort (dataLe false id)) := sortVals_data (enc := id) false er e2 (by rw [List.map_id]; exact hal ds hC)
  generalize sortVals (dataKind (sortingHeap (s1.heap.push (seqObj "list" vs.toArray 0)) s1.heap.objs.size vs) (ds.map id)) false vs vs = out at eo ⊢
  obtain ⟨c, hcv⟩ := sortedHeap_at (vs := vs) (out := List.toArray out) hoL
  refine wpAny_pure ⟨_, rfl, hQ s1 _ s1.heap.objs.size out c ds hC k1 ⟨fun b u z => ?_, rfl, rfl⟩ (Nat.le_refl _) hcv eo⟩
  have hlt := Heap.lt_size z
  show (sortedHeap (s1.heap.push (seqObj "list" vs.toArray 0)) s1.heap.objs.size vs (List.toArray out)).get? b = some u
  rw [sortedHeap_old (Nat.ne_of_lt hlt) (by rw [size_push']; exact Nat.lt_succ_of_lt hlt)]
  exact Heap.get?_push_of_some _ z
/-- a list's or a tuple's items, gathered -/
theorem gather_seq {l : Addr} {T : String} {o : Obj} {vs : List Value} {n : Nat} {Q : List Value → Shared → Prop} (hT : T = "list" ∨ T = "tuple") (ho : s.heap.get? l = some o) (hc : o.cls = .type T) (hd : o.data = .seq vs.toArray n) (hz : vs.length ≤ sizeLine)
    (h : ∀ s1, Kept s s1 → Q vs s1) : wpAny (model prog w) A (collect (.ref l)) Q E s :=
  wpAny_collect_seq (hsz := by simpa using hz) l hT ho hc hd fun h' k => by
    have z := h { s with heap := h' } ⟨k, rfl, rfl⟩
    simpa using z
end
end K21

/-! Rules that the layer lacks, by data. -/
namespace K21
open PySem PySem.Spec PyProof.Rows L2 PySem.W PySem.SeqAt
open NdefX (NTab TabsN TabN)

section
variable {X : Cx} {pins : List (Addr × Obj)} {σ : St} {H : Hp} {s s' : Shared}
theorem shared_eq (s s' : Shared) (o : s'.os = s.os) : s' = { s with heap := s'.heap, gens := s'.gens, drawn := s'.drawn, toks := s'.toks } := by
  cases s'
  cases s
  cases o
  rfl
theorem inv_to (I : Inv X pins σ H s) (k : Kept s s') : Inv X pins σ H s' := by
  obtain ⟨k, g, o⟩ := k
  rw [shared_eq s s' o]
  exact I.call (ch := []) (Un.kept k) (I.hok.kept k) (by rw [g]; exact I.bare) (fun _ z => nomatch z)
theorem inv_new {p : Addr} {o : HO} (I : Inv X pins σ H s) (k : Kept s s') (hp : s.heap.objs.size ≤ p) (new : ObjOk X.prog X.w (upd H p o) s'.heap p o) : Inv X pins σ (upd H p o) s' := by
  obtain ⟨k, g, os⟩ := k
  rw [shared_eq s s' os]
  exact I.call (ch := []) (Un.laid k hp (I.hok.fresh hp)) (I.hok.laid k hp new) (by rw [g]; exact I.bare) (fun _ z => nomatch z)
end

/-! ### sorted of data -/
def Low (ds : List PyData) : Prop := ∀ d, d ∈ ds → d.depth ≤ 50
def rSortD (K : PySem.W.Frag) : List V → Hp → VK → Prop := fun vs H Q => ∃ x ds F, vs = [x] ∧ Same F H ∧ (Dp K F x (.list ds) ∨ Dp K F x (.tuple ds)) ∧ AllAlike ds ∧ SortsOk ds ∧ Low ds ∧
  ∀ p xs, H p = none → DpAll K F xs (dsort ds) → Q (.ref p) (upd H p (.lst xs))
theorem each_of_dpa {X : Cx} {pins : List (Addr × Obj)} {σ : St} {F H : Hp} {s : Shared} (I : Inv X pins σ H s) (e : Same F H) : ∀ {xs : List V} {us : List Value} {ds : List PyData}, Vals xs us → DpAll X.K F xs ds →
    EachIs (fun u d => ∃ x, RelV x u ∧ Dp X.K F x d) us ds ∧ EachIs (fun u d => ∃ as, Reads s.heap u d as) us ds
  | _, _, _, .nil, .nil => ⟨.nil, .nil⟩
  | _, _, _, .cons r t, .cons h k => by
    obtain ⟨e1, e2⟩ := each_of_dpa I e t k
    exact ⟨.cons ⟨_, r, h⟩ e1, .cons (Dp.reads I _ _ _ (dp_mono e h) r) e2⟩
theorem dpa_of_each {K : PySem.W.Frag} {H : Hp} : ∀ {us : List Value} {ds : List PyData}, EachIs (fun u d => ∃ x, RelV x u ∧ Dp K H x d) us ds → ∃ xs, Vals xs us ∧ DpAll K H xs ds
  | _, _, .nil => ⟨[], .nil, .nil⟩
  | _, _, .cons ⟨x, r, h⟩ t => by
    obtain ⟨xs, r2, h2⟩ := dpa_of_each t
    exact ⟨x :: xs, .cons r r2, .cons h h2⟩
section
variable {X : Cx}
theorem cr_sortD (hu : X.A.units + 64 < cLine) : CallR X (.builtin "sorted") (rSortD X.K) := by
  intro pins s σ H vs us Q I r h
  obtain ⟨x, ds, F, rfl, eF, hx, hal, hk, hlow, q⟩ := h
  obtain ⟨u, rfl, ru⟩ := vals1 r
  have key : ∀ (T : String) (a : Addr) (xs : List V) (its : List Value) (o : Obj) (n : Nat), T = "list" ∨ T = "tuple" → Vals xs its → s.heap.get? a = some o → o.cls = .type T → o.data = .seq its.toArray n → xs.length ≤ sizeLine → DpAll X.K F xs ds →
      wpAny (model X.prog X.w) X.A (call (.builtin "sorted") [.ref a]) (EP X pins σ Q) X.xe s := by
    intro T a xs its o n hT rv ho hc hd hz hd2
    obtain ⟨e1, e2⟩ := each_of_dpa I eF rv hd2
    have hil : its.length ≤ sizeLine := by rw [← rv.length]; exact hz
    refine sorted_by (R := fun u d => ∃ x, RelV x u ∧ Dp X.K F x d) (fun z => z = ds) (fun Q' hq => gather_seq hT ho hc hd hil fun s1 k => hq s1 its ds k rfl e1 (e2.mono fun v d ⟨as, z⟩ => ⟨as, PyProof.Rows.Reads.keeps k.1 z⟩))
      (fun _ z => z ▸ hal) (fun _ z => z ▸ hk) (fun _ z => by subst z; rw [← e1.length]; exact hil) (fun _ z d hd => by subst z; have := hlow d hd; omega) fun s1 s2 p out c _ z k1 k2 hp hg eo => ?_
    subst z
    obtain ⟨ys, rv2, hd3⟩ := dpa_of_each eo
    have I1 := inv_to I k1
    have hn : H p = none := I1.hok.fresh hp
    have hlen : ys.length ≤ sizeLine := by
      rw [dpa_length hd3, dsort, (List.mergeSort_perm _ _).length_eq, ← dpa_length hd2]
      exact hz
    exact ⟨.ref p, upd H p (.lst ys), inv_new (o := .lst ys) I1 k2 hp ⟨hlen, out, c, rv2, hg⟩, rfl, q p ys hn hd3⟩
  rcases hx with hx | hx
  · obtain ⟨a, xs, rfl, hs, hd⟩ := dp_lst hx
    cases ru
    obtain ⟨its, rv, ⟨o, n, ho, hc, _, hdt⟩, hz⟩ := I.list (same_l eF hs)
    exact key "list" a xs its o n (.inl rfl) rv ho hc hdt hz hd
  · obtain ⟨a, xs, rfl, hs, hd⟩ := dp_tup hx
    cases ru
    obtain ⟨its, rv, ⟨o, ho, hc, n, hdt⟩, hz⟩ := I.tuple (same_t eF hs)
    exact key "tuple" a xs its o n (.inr rfl) rv ho hc hdt hz hd
end
end K21

/-! Sets of texts: set(list), sorted(set). -/
namespace K21
open PySem PySem.Spec PyProof.Rows L2 PySem.W PySem.SeqAt
open NdefX (NTab TabsN TabN)
abbrev tk (P : Program) (w : World) := PySem.strKind P w
/-- the text of an entry -/
def entS (e : Int × Value) : Str := match e.2 with
  | .str x _ => x
  | _ => Str.empty
/-- the set of texts at a; L: its members in some row, each once -/
def StrSet (P : Program) (w : World) (h : Heap) (a : Addr) (L : List Str) : Prop :=
  ∃ o es ep t, h.get? a = some o ∧ o.ExactSet ∧ o.data = .set es ep t ∧ ElemsOf (tk P w) es.toList ∧ es.toList.map entS = L ∧ L.Nodup ∧ L.length < 64 ∧ t.fits es.size = true ∧ Ris t.place.toList ∧
    (w.params.followText "set-order" = true ∨ t.led = true)
section
variable {P : Program} {w : World} {A : Around} {E : Value → Shared → Prop} {s : Shared} {a : Addr} {L : List Str}
theorem ent_is {e : Int × Value} {k : Str} (h : (tk P w).is k e.2 = true) : entS e = k ∧ ∃ t, e.2 = .str k t := by
  obtain ⟨t, z⟩ := Value.isStrOf_shape (x := k) (v := e.2) h
  exact ⟨by unfold entS; rw [z], t, z⟩
theorem ent_mem {l : List (Int × Value)} (g : ElemsOf (tk P w) l) (k : Str) : k ∈ l.map entS ↔ ∃ e ∈ l, (tk P w).is k e.2 = true := by
  constructor
  · intro m
    obtain ⟨e, he, z⟩ := List.mem_map.mp m
    obtain ⟨⟨k', h1, _⟩, _⟩ := g e he
    have := (ent_is h1).1
    rw [z] at this
    subst this
    exact ⟨e, he, h1⟩
  · rintro ⟨e, he, z⟩
    exact List.mem_map.mpr ⟨e, he, (ent_is z).1⟩
/-- a state laid anew: the members are those of es1 -/
theorem put_tail {g : Bool → Sem Unit} (hg : ∀ (b : Bool) (s₁ : Shared) (Q' : Unit → Shared → Prop), Q' () s₁ → wpAny (model P w) A (g b) Q' E s₁)
    {o : Obj} {es : Array (Int × Value)} {ep : Nat} {t : SetTable} (ho : s.heap.get? a = some o) (hex : o.ExactSet) (hd : o.data = .set es ep t) {es1 : Array (Int × Value)} {t2 : SetTable}
    (g1 : ElemsOf (tk P w) es1.toList) (nd1 : (es1.toList.map entS).Nodup) (few : es1.size < 64) (hf2 : t2.fits es1.size = true) (hr : Ris t2.place.toList) (hl : w.params.followText "set-order" = true ∨ t2.led = true)
    {wasDummy : Bool} {R : Option Bool → Shared → Prop} (hR : ∀ h' L', Heap.SameBut a s.heap h' → StrSet P w h' a L' → L'.Perm (es1.toList.map entS) → R (some true) { s with heap := h' }) :
    wpAny (model P w) A (storeSet a es1 t2 >>= fun _ =>
        if (!wasDummy && t2.tooFull) = true then
          g (relayAll t2 es1 (SetTable.grown es1.size)).2.2 >>= fun _ => storeSet a (relayAll t2 es1 (SetTable.grown es1.size)).1 (relayAll t2 es1 (SetTable.grown es1.size)).2.1 >>= fun _ => pure (some true)
          else pure (some true)) R E s := by
  have low : ∀ n, n < 64 → n < scanBound := fun n h => Nat.lt_trans h (by decide)
  refine wpAny_bind (wpAny_storeSet_of ho hd ?_ (fits_of_scanBound (low _ few)))
  have q1 := store_at (es' := es1) (t' := t2) ho hd
  have b1 := Heap.SameBut.update s.heap a (Obj.putSet es1 t2)
  have few1 : (es1.toList.map entS).length < 64 := by rw [List.length_map, Array.length_toList]; exact few
  split
  · have m1 := relayAll_perm t2 es1 (SetTable.grown es1.size)
    have m2 := relayAll_fits t2 es1 (SetTable.grown es1.size)
    have m3 := relayAll_ris t2 es1 (SetTable.grown es1.size)
    have m4 := relayAll_led t2 es1 (SetTable.grown es1.size)
    generalize relayAll t2 es1 (SetTable.grown es1.size) = Y at m1 m2 m3 m4 ⊢
    obtain ⟨es2, t3, gave⟩ := Y
    simp only at m1 m2 m3 m4 ⊢
    have z2 : es2.size < 64 := by rw [← Array.length_toList, m1.length_eq, Array.length_toList]; exact few
    refine wpAny_bind (hg _ _ _ (wpAny_bind (wpAny_storeSet_of q1 rfl ?_ (fits_of_scanBound (low _ z2)))))
    have q2 := store_at (es' := es2) (t' := t3) q1 rfl
    have pm := m1.map entS
    exact wpAny_pure (hR _ _ (b1.trans (Heap.SameBut.update _ a _)) ⟨_, es2, _, t3, q2, hex, rfl, g1.perm m1, rfl, pm.nodup_iff.mpr nd1, by rw [pm.length_eq]; exact few1, m2, m3, hl.imp id fun z => by rw [m4]; exact z⟩ pm)
  · exact wpAny_pure (hR _ _ b1 ⟨_, es1, _, t2, q1, hex, rfl, g1, rfl, nd1, few1, hf2, hr, hl⟩ (List.Perm.refl _))
theorem set_put {k : Str} {u : Tok} {Q : Bool → Shared → Prop} (R : StrSet P w s.heap a L) (room : L.length + 1 < 64)
    (hQ : ∀ h' L' b, Heap.SameBut a s.heap h' → StrSet P w h' a L' → (∀ x, x ∈ L' ↔ x ∈ L ∨ x = k) → L'.length ≤ L.length + 1 → Q b { s with heap := h' }) :
    wpAny (model P w) A (setAddHashed a (.str k u) ((tk P w).hash k)) Q E s := by
  obtain ⟨o, es, ep, t, ho, hex, hd, g, hL, nd, few, hf, hr, hl⟩ := R
  have hsz : es.size = L.length := by rw [← hL, List.length_map, Array.length_toList]
  have hb : es.size < scanBound := by rw [hsz]; exact Nat.lt_trans few (by decide)
  have hkey : (tk P w).is k (.str k u) = true := PySem.strKind_is P w k u
  have hsc : (Value.str k u).scannable = true := rfl
  unfold setAddHashed setAddHashedIn
  refine wpAny_holding (wpAny_bind (wpAny_setState_of ho hd hf ?_))
  simp only [byScan_of hsc hb g, ↓reduceIte]
  unfold setAddByScan
  refine wpAny_bind (wpAny_bind (wpAny_rule (wpAny_bind (wpAny_setScan_of hkey ho hd hf g ?_))))
  cases hfi : List.findIdx? (fun e => (tk P w).is k e.2) es.toList with
  | some j =>
    obtain ⟨hj, pj, _⟩ := List.findIdx?_eq_some_iff_getElem.mp hfi
    have hin : k ∈ L := by
      rw [← hL]
      exact (ent_mem g k).2 ⟨es.toList[j], List.getElem_mem hj, pj⟩
    refine wpAny_pure (wpAny_pure (hQ s.heap L false (Heap.SameBut.refl a s.heap) ⟨o, es, ep, t, ho, hex, hd, g, hL, nd, few, hf, hr, hl⟩ (fun x => ⟨.inl, fun z => z.elim id fun z => z ▸ hin⟩) (Nat.le_succ _)))
  | none =>
    have hno : k ∉ L := fun z => by
      rw [← hL] at z
      obtain ⟨e, he, q⟩ := (ent_mem g k).1 z
      rw [List.findIdx?_eq_none_iff.mp hfi e he] at q
      cases q
    have hgw : ∀ (b : Bool) {s₁ : Shared} {Q' : Unit → Shared → Prop}, Q' () s₁ → wpAny (model P w) A (match b with
      | true => rule "set.scan.the-table-gave-way"
      | false => pure ()) Q' E s₁ := fun b _ _ q => by
      cases b
      · exact wpAny_pure q
      · exact wpAny_rule q
    have y1 := layNew_perm t es ((tk P w).hash k) (.str k u)
    have y2 := layNew_fits t es ((tk P w).hash k) (.str k u)
    have y3 := layNew_ris t es ((tk P w).hash k) (.str k u) hr
    have y4 := layNew_led t es ((tk P w).hash k) (.str k u)
    generalize layNew t es ((tk P w).hash k) (.str k u) = Y at y1 y2 y3 y4 ⊢
    obtain ⟨es1, t1, wasDummy, gave⟩ := Y
    simp only at y1 y2 y3 y4 ⊢
    rw [Array.toList_push] at y1
    have g1 : ElemsOf (tk P w) es1.toList := (g.push hkey hsc).perm y1
    have pk : (es1.toList.map entS).Perm (L ++ [k]) := by
      have z := y1.map entS
      rw [List.map_append, hL] at z
      exact z
    have nd1 : (es1.toList.map entS).Nodup := pk.nodup_iff.mpr (nd_snoc nd hno)
    have n1 : es1.size = L.length + 1 := by
      have z := pk.length_eq
      rw [List.length_map, Array.length_toList, List.length_append] at z
      exact z
    have l1 : w.params.followText "set-order" = true ∨ t1.led = true := hl.imp id fun z => by rw [y4]; exact z
    have fin : ∀ h' L', Heap.SameBut a s.heap h' → StrSet P w h' a L' → L'.Perm (es1.toList.map entS) → Q true { s with heap := h' } := fun h' L' sb r pm =>
      hQ h' L' true sb r (fun x => by rw [(pm.trans pk).mem_iff, List.mem_append, List.mem_singleton]) (by rw [(pm.trans pk).length_eq, List.length_append]; exact Nat.le_refl _)
    refine wpAny_bind (hgw _ ?_)
    split
    · refine wpAny_bind ?_
      rw [hashByValue_scannable 8 hsc]
      refine wpAny_pure ?_
      refine put_tail (g := fun b => match b with
        | true => rule "set.scan.the-table-gave-way"
        | false => pure ()) ?_ ho hex hd g1 nd1 (by rw [n1]; exact room) ?_ ?_ ?_ ?_
      · intro b s₁ Q' q
        exact hgw b q
      · first
          | (split <;> first
              | exact y2
              | exact SetTable.fits_plain_off y2)
          | exact y2
      · first
          | (split <;> exact y3)
          | exact y3
      · first
          | (split <;> exact l1)
          | exact l1
      · intro h' L' sb r pm
        exact wpAny_pure (fin h' L' sb r pm)
    · refine wpAny_bind (wpAny_pure ?_)
      simp only [↓reduceIte]
      refine put_tail (g := fun b => match b with
        | true => rule "set.scan.the-table-gave-way"
        | false => pure ()) ?_ ho hex hd g1 nd1 (by rw [n1]; exact room) y2 y3 l1 ?_
      · intro b s₁ Q' q
        exact hgw b q
      · intro h' L' sb r pm
        exact wpAny_pure (fin h' L' sb r pm)
theorem StrSet.at {h h' : Heap} (R : StrSet P w h a L) (k : ∀ o, h.get? a = some o → h'.get? a = some o) : StrSet P w h' a L := by
  obtain ⟨o, es, ep, t, ho, r⟩ := R
  exact ⟨o, es, ep, t, k o ho, r⟩
theorem strSet_new {h : Heap} (w : World) (ho : h.get? a = some { cls := .type "set", dict := none, data := .set #[] 0 (.fresh 0 0 (!w.params.followText "set-order")) }) : StrSet P w h a [] :=
  ⟨_, #[], 0, _, ho, ⟨rfl, rfl, rfl⟩, rfl, (fun e he => by simp at he), rfl, List.nodup_nil, (by decide), (by rfl), List.Pairwise.nil, by
    show _ ∨ (!w.params.followText "set-order") = true
    cases w.params.followText "set-order"
    · exact .inr rfl
    · exact .inl rfl⟩
/-- the loop that lays the items of a walk into a set -/
theorem set_fill {I : Addr} {fp wr : List Addr} {G : Array GenState → Array GenState → Prop} {n : Nat} {Pv : Nat → Value → Prop} {St : Nat → Shared → Prop} {R : Result → Shared → Prop}
    (W : WalksS P w A.in1 I fp wr G n Pv St) (S : Addr) (hSf : S ∉ fp) (ss : List Str) (hn : n = ss.length) (hfew : ss.length < 63) (hval : ∀ i v, Pv i v → ∃ x t, ss[i]? = some x ∧ v = .str x t) :
    ∀ (k i : Nat) (s : Shared), n - i = k → i ≤ n → St i s → (∃ L, StrSet P w s.heap S L ∧ (∀ x, x ∈ L ↔ x ∈ ss.take i) ∧ L.length ≤ i) →
      (∀ s' L, Moved (S :: wr) G s s' → StrSet P w s'.heap S L → (∀ x, x ∈ L ↔ x ∈ ss) → R (.ok (.ret .none)) s') →
      codeAny (model P w) A (.builtin "set.update.loop" ⟨[.ref S, .ref I], []⟩) R s := by
  have out : S ∉ wr := fun h => hSf (W.sub _ h)
  have up : ∀ b ∈ wr, b ∈ S :: wr := fun b hb => List.mem_cons_of_mem _ hb
  intro k
  induction k with
  | zero =>
    intro i s hk hi hst ⟨L, hS, hm, hl⟩ hR
    obtain rfl : i = n := by omega
    refine codeAny_builtin PyProof.Rows.F.entry_set_update_loop ?_
    rw [Around.under_plainId PyProof.Rows.F.plain_set_update_loop _]
    show wpAny _ A.in1 (pyNext (.ref I) >>= _) _ _ s
    refine wpAny_bind (W.done s _ _ hst fun s' mv => wpAny_pure (hR s' L (mv.mono up) (hS.at fun o e => mv.heap S o out e) fun x => ?_))
    rw [hm x, List.take_of_length_le (Nat.le_of_eq hn.symm)]
  | succ k ih =>
    intro i s hk hi hst ⟨L, hS, hm, hl⟩ hR
    have hlt : i < n := by omega
    refine codeAny_builtin PyProof.Rows.F.entry_set_update_loop ?_
    rw [Around.under_plainId PyProof.Rows.F.plain_set_update_loop _]
    show wpAny _ A.in1 (pyNext (.ref I) >>= _) _ _ s
    refine wpAny_bind (W.item i s _ _ hlt hst fun v s' hP hst' mv => ?_)
    obtain ⟨x, t, hx, rfl⟩ := hval i v hP
    have hS' : StrSet P w s'.heap S L := hS.at fun o e => mv.heap S o out e
    show wpAny _ A.in1 (holding [Value.str x t] (setAdd S (.str x t)) >>= _) _ _ s'
    refine wpAny_bind (wpAny_holding ?_)
    unfold setAdd
    refine wpAny_holding (wpAny_bind ((tk P w).pyHash (k := x) (PySem.strKind_is _ _ _ _) ?_))
    refine set_put (s := { s' with toks := s'.toks + 1 }) hS' (by omega) fun h' L' b sb hS2 hm2 hl2 => ?_
    refine wpAny_pure ⟨plainId_quiet PyProof.Rows.F.plain_set_update_loop _, ih (i + 1) _ (by omega) hlt (W.frame _ s' _ _ hst' (Nat.le_succ _) fun b hb o e => ?_) ⟨L', hS2, fun y => ?_, by omega⟩ fun s2 L2 mv2 hS3 hm3 => ?_⟩
    · exact (sb.2 b fun z : b = S => hSf (z ▸ hb)).trans e
    · rw [hm2 y, hm y, take_more hx, List.mem_append, List.mem_singleton]
    · refine hR s2 L2 (Moved.trans W.gtrans ((mv.mono up).then_heap (Nat.le_succ _) fun b o hb e => ?_) mv2) hS3 hm3
      exact (sb.2 b fun z : b = S => hb (z ▸ List.mem_cons_self)).trans e
end
/-! ### set(list) -/
section
variable {P : Program} {w : World} {A : Around} {E : Value → Shared → Prop} {s : Shared}
theorem str_get : ∀ {us : List Value} {xs : List Str}, StrsAre us xs → ∀ (i : Nat) (v : Value), us[i]? = some v → ∃ x t, xs[i]? = some x ∧ v = .str x t
  | _, _, .nil, i, v, h => by simp at h
  | _, _, .cons n t hr, 0, v, h => by
    simp at h
    exact ⟨n, t, rfl, h.symm⟩
  | _, _, .cons n t hr, i + 1, v, h => by
    simp only [List.getElem?_cons_succ] at h
    obtain ⟨x, t', e1, e2⟩ := str_get hr i v h
    exact ⟨x, t', by simpa using e1, e2⟩
abbrev freshSet (w : World) : Obj := { cls := .type "set", dict := none, data := .set #[] 0 (.fresh 0 0 (!w.params.followText "set-order")) }
theorem call_setS {l : Addr} {its : Array Value} (ss : List Str) {Q : Value → Shared → Prop} (hh : A.handled = none) (hl : s.heap.IsList l its) (hi : StrsAre its.toList ss) (hfew : ss.length < 63)
    (h : ∀ (h' : Heap) (tk : Nat) L, StrSet P w h' s.heap.objs.size L → (∀ x, x ∈ L ↔ x ∈ ss) → (∀ b o, s.heap.get? b = some o → h'.get? b = some o) → Q (.ref s.heap.objs.size) { s with heap := h', toks := tk }) :
    wpAny (model P w) A (call (.type "set") [.ref l]) Q E s := by
  have hz : its.size = ss.length := by rw [← StrsAre.len_eq hi, Array.length_toList]
  obtain ⟨c, tl, hmro⟩ := PySem.F.called_set.mro
  have hmade := PySem.F.called_set.made
  have hsub := PySem.F.called_set.sub
  refine wpAny_call (codeAny_of_tree ?_)
  show wpAny _ _ (callAny (.type "set") _) _ _ _
  refine wpAny_pure ⟨Code.quiet_builtin _ (by decide +kernel), codeAny_builtin PySem.F.entry_type_call ?_⟩
  rw [Around.under_plain (weight_type_call_type "set" [.ref l] []) rfl]
  have x1 := PySem.F.called_set.notType
  have x2 := PySem.F.called_set.canCreate
  have x3 := PySem.F.typeCall_set_1 (.ref l)
  repeat (any_goals (first | assumption | wp_step))
  refine codeAny_mono (code_set_led1 (.ref l) (E := E) (Q₁ := fun obj s₁ => obj = .ref s.heap.objs.size ∧ s₁ = { s with heap := s.heap.push (freshSet w) }) ⟨rfl, rfl⟩) fun r s₁ hr => ?_
  cases r with
  | error e => exact hr
  | ok fl =>
    cases fl with
    | ret obj =>
      obtain ⟨rfl, rfl⟩ := hr
      have hS : (s.heap.push (freshSet w)).get? s.heap.objs.size = some (freshSet w) := Heap.get?_push_size _ rfl
      have hT : Shared.TypeIs { s with heap := s.heap.push (freshSet w) } (.ref s.heap.objs.size) "set" := ⟨_, hS, rfl⟩
      have hli := PySem.F.called_set.init.lookup
      have hbi := PySem.F.called_set.init.bind (.ref s.heap.objs.size)
      repeat (any_goals (first | assumption | wp_step))
      refine codeAny_mono (codeAny_call_builtin (R := wants (fun r s₂ => r = .none ∧ ∃ h' tk L, s₂ = { s with heap := h', toks := tk } ∧ StrSet P w h' s.heap.objs.size L ∧ (∀ x, x ∈ L ↔ x ∈ ss) ∧
          (∀ b o, s.heap.get? b = some o → h'.get? b = some o)) E) PySem.F.called_set.init.plain PySem.F.entry_set_init (check_set_init_1 hT ?_)) fun r₂ s₂ hr₂ => ?_
      · obtain ⟨⟨oc, od, odt, osl⟩, hol, hcl, nl, hdl⟩ := hl
        simp only at hcl hdl
        subst hcl hdl
        have hol' : (s.heap.push (freshSet w)).get? l = some { cls := .type "list", dict := od, data := .seq its nl, slots := osl } := Heap.get?_push_of_some _ hol
        have y1 := PySem.F.sub_list_set
        have y2 := PySem.F.sub_list_frozenset
        have y3 : (Value.type "list" == Value.type "dict") = false := by decide
        have hl1 : (s.heap.push (freshSet w)).IsList l its := ⟨_, hol', rfl, nl, rfl⟩
        unfold Builtin.«set.__init__» noKeywords Builtin.Frozenset.updateFrom
        generalize hPI : pyIter = PI
        wp_walk
        subst hPI
        refine wpAny_pyIter_list hl1 (wpAny_bind (wpAny_runValue ?_))
        have hlS : l < s.heap.objs.size := Heap.lt_size hol
        have hh3 : A.in1.in1.in1.handled = none := by simp [hh]
        have hz1 : (s.heap.push (freshSet w)).objs.size = s.heap.objs.size + 1 := Heap.size_push ..
        have hneI : l ≠ (s.heap.push (freshSet w)).objs.size := by
          rw [hz1]
          exact Nat.ne_of_lt (Nat.lt_succ_of_lt hlS)
        have hSf : s.heap.objs.size ∉ [(s.heap.push (freshSet w)).objs.size, l] := by
          rw [hz1]
          simp only [List.mem_cons, List.mem_singleton, List.not_mem_nil, or_false, not_or]
          exact ⟨Nat.ne_of_lt (Nat.lt_succ_self _), Nat.ne_of_gt hlS⟩
        have hval : ∀ (i : Nat) (v : Value), its[i]? = some v → ∃ x t, ss[i]? = some x ∧ v = .str x t := fun i v hv => by
          have q : its.toList[i]? = some v := by rw [Array.getElem?_toList]; exact hv
          exact str_get hi i v q
        refine set_fill ((Walks.list hh3 _ l hneI its).toS) s.heap.objs.size hSf ss hz hfew hval (its.size - 0) 0 _ (by omega) (Nat.zero_le _)
          ⟨⟨_, Heap.get?_push_size _ rfl, rfl, rfl⟩, (hl1.push _)⟩ ⟨[], strSet_new w (Heap.get?_push_of_some _ hS), fun x => by simp, Nat.le_refl _⟩ fun s' L mv hS' hm => ?_
        obtain ⟨h', g', d', tk', os'⟩ := s'
        obtain rfl : g' = s.gens := mv.gens
        obtain rfl : d' = s.drawn := mv.drawn
        obtain rfl : os' = s.os := mv.os
        refine wpAny_pure (wpAny_pure ⟨rfl, h', tk', L, rfl, hS', hm, fun b o e => ?_⟩)
        have hb := Heap.lt_size e
        refine mv.heap b o ?_ (Heap.get?_push_of_some _ (Heap.get?_push_of_some _ e))
        simp only [List.mem_cons, List.mem_singleton, List.not_mem_nil, or_false, not_or]
        exact ⟨Nat.ne_of_lt hb, by rw [hz1]; exact Nat.ne_of_lt (Nat.lt_succ_of_lt hb)⟩
      · cases r₂ with
        | error e => exact hr₂
        | ok fl₂ =>
          cases fl₂ with
          | ret r =>
            obtain ⟨rfl, h', tk, L, rfl, hS', hm, hk⟩ := hr₂
            repeat (any_goals (first | assumption | wp_step))
            exact h _ _ _ hS' hm hk
          | _ => exact hr₂.elim
    | _ => exact hr.elim
/-- the members of a set, sorted -/
theorem each_texts {P : Program} : ∀ {out : List Value}, (∀ u ∈ out, ∃ x t, u = Value.str x t) → ∃ ss : List Str, EachIs (fun u d => ∃ x t, u = Value.str x t ∧ d = PyData.str x) out (ss.map .str) ∧ ss = out.map fun u => entS (0, u)
  | [], _ => ⟨[], .nil, rfl⟩
  | u :: out, h => by
    obtain ⟨x, t, rfl⟩ := h u (List.mem_cons_self ..)
    obtain ⟨ss, e, q⟩ := each_texts (P := P) (out := out) fun v hv => h v (List.mem_cons_of_mem _ hv)
    exact ⟨x :: ss, .cons ⟨x, t, rfl, rfl⟩ e, by rw [q]; rfl⟩
theorem alike_strs (ss : List Str) : AllAlike (ss.map .str) := AllAlike.of fun _ _ => by simp [alike]
theorem sortable_strs (ss : List Str) : SortsOk (ss.map .str) := .inl (Sortable.others fun _ => ⟨(fun z => nomatch z), fun _ z => nomatch z⟩)
theorem depth_strs {ss : List Str} {d : PyData} (h : d ∈ ss.map .str) : d.depth = 0 := by
  obtain ⟨x, _, rfl⟩ := List.mem_map.mp h
  simp [PyData.depth]
theorem sorted_setS {a : Addr} {L : List Str} {Q : Value → Shared → Prop} (R : StrSet P w s.heap a L) (hh : A.handled = none) (hu : A.units + 60 < cLine)
    (hQ : ∀ s1 s' p out c (ss : List Str), ss.Perm L → Kept s s1 → Kept s1 s' → s1.heap.objs.size ≤ p → s'.heap.get? p = some (seqObj "list" (List.toArray out) c) → EachIs (fun u d => ∃ x t, u = Value.str x t ∧ d = PyData.str x) out (dsort (ss.map .str)) → Q (.ref p) s') :
    wpAny (model P w) A (call (.builtin "sorted") [.ref a]) Q E s := by
  obtain ⟨o, es, ep, t, ho, hex, hd, g, hL, nd, few, hf, hr, hl⟩ := R
  have hsz : es.size = L.length := by rw [← hL, List.length_map, Array.length_toList]
  have hb : es.size < scanBound := by rw [hsz]; exact Nat.lt_trans few (by decide)
  refine sorted_by (R := fun u d => ∃ x t, u = Value.str x t ∧ d = PyData.str x) (fun ds => ∃ ss : List Str, ss.Perm L ∧ ds = ss.map .str)
    (fun Q' hq => collect_set (A := A.in1) hh ⟨o, ho, hex.1, hd⟩ hf hb hr hl fun s1 vs k _ g1 o1 pm => ?_) ?_ ?_ ?_ ?_ fun s1 s' p out c ds ⟨ss, hp, e⟩ k1 k2 z1 z2 z3 => ?_
  · obtain ⟨ss, e, q⟩ := each_texts (P := P) (out := vs) fun u hu' => by
      obtain ⟨e, he, rfl⟩ := List.mem_map.mp (pm.mem_iff.mp hu')
      obtain ⟨⟨k', h1, _⟩, _⟩ := g e he
      obtain ⟨_, t', e'⟩ := ent_is h1
      exact ⟨k', t', e'⟩
    refine hq s1 vs _ ⟨k, g1, o1⟩ ⟨ss, ?_, rfl⟩ e (e.mono fun u d ⟨x, t', e1, e2⟩ => ⟨[], by rw [e1, e2]; exact Reads.str x t'⟩)
    have z := pm.map fun u => entS (0, u)
    rw [List.map_map] at z
    rw [q, ← hL]
    exact z
  · rintro _ ⟨ss, _, rfl⟩
    exact alike_strs ss
  · rintro _ ⟨ss, _, rfl⟩
    exact sortable_strs ss
  · rintro _ ⟨ss, hp, rfl⟩
    rw [List.length_map, hp.length_eq, sizeLine_eq]
    omega
  · rintro _ ⟨ss, _, rfl⟩ d hd'
    rw [depth_strs hd']
    omega
  · subst e
    exact hQ s1 s' p out c ss hp k1 k2 z1 z2 z3
end

/-! ### the rules -/
def SetSO (P : Program) (w : World) (a : Addr) (L : List Str) : HO := .ext fun h => StrSet P w h a L
def rSetS (K : PySem.W.Frag) (P : Program) (w : World) : List V → Hp → VK → Prop := fun vs H Q => ∃ x, ∃ ss : List Str, vs = [x] ∧ Dp K H x (.list (ss.map .str)) ∧ ss.length < 63 ∧
  ∀ a L, H a = none → L.Nodup → (∀ y, y ∈ L ↔ y ∈ ss) → Q (.ref a) (upd H a (SetSO P w a L))
def rSortedSetS (K : PySem.W.Frag) (P : Program) (w : World) : List V → Hp → VK → Prop := fun vs H Q => ∃ a, ∃ L : List Str, vs = [.ref a] ∧ H a = some (SetSO P w a L) ∧
  ∀ p xs (ss : List Str), H p = none → ss.Perm L → DpAll K H xs (dsort (ss.map .str)) → Q (.ref p) (upd H p (.lst xs))
theorem dpa_texts {K : PySem.W.Frag} {H : Hp} : ∀ {us : List Value} {ds : List PyData}, EachIs (fun u d => ∃ x t, u = Value.str x t ∧ d = PyData.str x) us ds → ∃ xs, Vals xs us ∧ DpAll K H xs ds
  | _, _, .nil => ⟨[], .nil, .nil⟩
  | _, _, .cons ⟨x, t, e1, e2⟩ r => by
    obtain ⟨xs, r2, h2⟩ := dpa_texts r
    subst e1 e2
    exact ⟨.str x :: xs, .cons ⟨t, rfl⟩ r2, .cons (.str x) h2⟩
theorem strs_vals : ∀ {ss : List Str} {us : List Value}, Vals (ss.map V.str) us → StrsAre us ss
  | [], _, r => by cases r; exact .nil
  | s :: ss, _, r => by
    cases r with
    | cons r1 r2 =>
      obtain ⟨t, rfl⟩ := r1
      exact .cons s t (strs_vals r2)
section
variable {X : Cx}
theorem cr_setS (hc : X.calm = true) : CallR X (.type "set") (rSetS X.K X.prog X.w) := by
  intro pins s σ H vs us Q I r h
  obtain ⟨x, ss, rfl, hx, hfew, q⟩ := h
  obtain ⟨u, rfl, ru⟩ := vals1 r
  obtain ⟨a, xs, rfl, hs, hd⟩ := dp_lst hx
  cases ru
  obtain ⟨its, rv, pl, hz⟩ := I.list hs
  have e := dpa_strs hd
  subst e
  have hn : H s.heap.objs.size = none := I.hok.fresh (Nat.le_refl _)
  refine call_setS (P := X.prog) (w := X.w) ss (I.ok.hd hc) pl.isList (by simpa using strs_vals rv) hfew fun h' tk L R hm k => ?_
  have nd : L.Nodup := by
    obtain ⟨_, _, _, _, _, _, _, _, _, nd, _⟩ := id R
    exact nd
  refine ⟨.ref s.heap.objs.size, upd H s.heap.objs.size (SetSO X.prog X.w s.heap.objs.size L), I.laid (t' := tk) k (Nat.le_refl _) ⟨R, ?_, fun h1 h2 R' st => R'.at st⟩, rfl, q _ L hn nd hm⟩
  obtain ⟨o, _, _, _, ho, _⟩ := id R
  exact ⟨o, ho⟩
theorem cr_sortedSetS (hc : X.calm = true) (hu : X.A.units + 64 < cLine) : CallR X (.builtin "sorted") (rSortedSetS X.K X.prog X.w) := by
  intro pins s σ H vs us Q I r h
  obtain ⟨a, L, rfl, ha, q⟩ := h
  obtain ⟨u, rfl, ru⟩ := vals1 r
  cases ru
  have R : StrSet X.prog X.w s.heap a L := (I.hok a _ ha).1
  refine sorted_setS R (I.ok.hd hc) (by omega) fun s1 s' p out c ss hp k1 k2 z1 z2 z3 => ?_
  obtain ⟨ys, rv2, hd3⟩ := dpa_texts (K := X.K) (H := H) z3
  have I1 := inv_to I k1
  have hn : H p = none := I1.hok.fresh z1
  have few : L.length < 64 := by
    obtain ⟨_, _, _, _, _, _, _, _, _, _, few, _⟩ := id R
    exact few
  have hlen : ys.length ≤ sizeLine := by
    rw [dpa_length hd3, dsort, (List.mergeSort_perm _ _).length_eq, List.length_map, hp.length_eq, sizeLine_eq]
    omega
  exact ⟨.ref p, upd H p (.lst ys), inv_new (o := .lst ys) I1 k2 z1 ⟨hlen, out, c, rv2, z2⟩, rfl, q p ys ss hn hp hd3⟩
end
end K21

/-! sorted(known, key=lambda own: known[own]) of a dict. -/
namespace K21
open PySem PySem.Spec PyProof.Rows L2 PySem.W PySem.SeqAt
open NdefX (NTab TabsN TabN among_app2)
open LamX (TabB CodeO inv_table codeO_ne)

/-! ### the lambda is made -/
/-- the very object at f -/
def LamO (f : Addr) (o : Obj) : HO := .ext fun h => h.get? f = some o
theorem lamO_ok {P : Program} {w : World} {H : Hp} {h : Heap} {f : Addr} {o : Obj} (e : h.get? f = some o) : ObjOk P w H h f (LamO f o) := ⟨e, ⟨o, e⟩, fun _ _ e1 st => st o e1⟩
theorem lamO_at {P : Program} {w : World} {H : Hp} {h : Heap} {f : Addr} {o : Obj} (hok : HOk P w H h) (e : H f = some (LamO f o)) : h.get? f = some o := by
  obtain ⟨z, _, _⟩ := hok f _ e
  exact z
theorem lamO_ne {f : Addr} {o : Obj} (ps : Array Value) : LamO f o ≠ .tbl ps := fun z => by
  unfold LamO at z
  cases z
section
variable {X : Cx} {pins : List (Addr × Obj)} {σ : St} {H : Hp} {s : Shared}
theorem lam_mk {Z : List NTab} {nm : Nat → Nat → Str} {c P : Addr} {params : Arguments} {body : Expr} {scope : Scope} {pos : Pos} {Er : Value → Shared → Prop} {Q : Value → Shared → Prop} (inv : Inv X pins σ H s) (TB : TabB X.base X.mg c P) (hcode : X.env.code = .ref c)
    (hz : (P, nm) ∈ Z) (hnm : nm pos.line pos.col = X.env.qual ++ "<lambda>") (one : ∀ q ∈ Z, q.1 = P → q.2 = nm) (tabs : TabsN Z H) (hdef : defaultsOf params X.env = ([], [])) (hfree : ∀ y ∈ scope.names, y.2 = .free → ∃ c, X.env.cells.lookup y.1 = some c)
    (k : ∀ (f c' : Addr) (pm ctv : Value) (G : Hp) (s' : Shared), Inv X pins σ G s' → (∀ b o, b ≠ P → s.heap.get? b = some o → s'.heap.get? b = some o) → Ext Z H G → G f = some (LamO f (kla_obj "<lambda>" (X.env.qual ++ "<lambda>") params body scope (cloFrom X.env.cells scope.names []) pm c' ctv)) → G c' = some (CodeO c' (X.env.qual ++ "<lambda>")) → Q (.ref f) s') :
    wpAny (model X.prog X.w) X.A (eval (.Lambda params body scope pos) X.env) Q Er s := by
  obtain ⟨tab, isT, triples, known⟩ := (show TabN H P nm from tabs _ hz)
  refine kla_eval hdef ?_
  have bat : s.heap.BuiltinsAt X.mg P := TB.bm.keeps inv.bk
  have obj : s.heap.get? P = some { cls := .none, data := .fields tab } := inv.hok P _ isT
  cases found : codeAmong pos tab.toList with
  | some cv =>
    obtain ⟨c', rfl, isC⟩ := known pos cv found
    rw [hnm] at isC
    refine kla_makeFunctionHit (mg := X.mg) (c := c) (P := P) (ps := tab) (closure_ok hfree) inv.ok.glob (inv.mod.glob.keeps inv.bk) hcode (TB.code.keeps inv.bk) obj triples found bat fun ctv h1 tk1 ext1 _ => ?_
    have inv1 : Inv X pins σ H { s with heap := h1, toks := tk1 } := inv.kept ext1
    have noF : H h1.objs.size = none := inv1.hok.fresh (Nat.le_refl _)
    refine k _ c' _ ctv _ _ (inv1.laid (a := h1.objs.size) (t' := tk1) (o := LamO h1.objs.size (kla_obj "<lambda>" (X.env.qual ++ "<lambda>") params body scope (cloFrom X.env.cells scope.names []) ((X.mg "__name__").getD .none) c' ctv)) (fun b o e => Heap.get?_push_of_some _ e) (Nat.le_refl _) (lamO_ok (Heap.get?_push_size _ rfl))) (fun b o _ e => Heap.get?_push_of_some _ (ext1 b o e)) (ext_new noF) upd_same ?_
    exact (upd_ne (ne_of_none isC noF)).trans isC
  | none =>
    refine kla_makeFunction (mg := X.mg) (c := c) (P := P) (ps := tab) (closure_ok hfree) inv.ok.glob (inv.mod.glob.keeps inv.bk) hcode (TB.code.keeps inv.bk) obj triples found TB.gP bat fun c' ctv h1 tk1 ext1 ge1 lt1 rec1 tab1 => ?_
    obtain ⟨c2, oc, vs, t, e2, r1, r2, r3⟩ := rec1
    cases e2
    have noC : H c' = none := inv.hok.fresh ge1
    have inv1 := inv_table (t' := tk1) (more := #[rawInt pos.line, rawInt pos.col, .ref c']) (h' := h1) inv isT (fun b o nb e => ext1 b o nb e) tab1 ge1 ⟨oc, vs, t, r1, r2, r3⟩
    generalize hG : upd (upd H P (.tbl (tab ++ #[rawInt pos.line, rawInt pos.col, .ref c']))) c' (CodeO c' (X.env.qual ++ "<lambda>")) = G at inv1
    have G1 : G c' = some (CodeO c' (X.env.qual ++ "<lambda>")) := by rw [← hG]; exact upd_same
    have G2 : G P = some (.tbl (tab ++ #[rawInt pos.line, rawInt pos.col, .ref c'])) := by rw [← hG, upd_ne (ne_of_none isT noC)]; exact upd_same
    have G3 : ∀ b o, H b = some o → b ≠ P → G b = some o := fun b o e nb => by
      rw [← hG, upd_ne (ne_of_none e noC), upd_ne nb]
      exact e
    have keep : ∀ b o, H b = some o → (∀ qs, o ≠ .tbl qs) → G b = some o := fun b o e n => G3 b o e fun z => by
      subst z
      rw [isT] at e
      exact n _ (Option.some.inj e).symm
    have noF : G h1.objs.size = none := inv1.hok.fresh (Nat.le_refl _)
    have grow : Ext Z H G := by
     refine ⟨keep, fun b qs e => ?_, fun _ q hq => ?_⟩
     · by_cases hb : b = P
       · subst hb; exact ⟨_, G2⟩
       · exact ⟨qs, G3 b _ e hb⟩
     · by_cases hb : q.1 = P
       · rw [one q hq hb, hb]
         have el : (tab ++ #[rawInt pos.line, rawInt pos.col, .ref c']).toList = tab.toList ++ [rawInt pos.line, rawInt pos.col, .ref c'] := by simp
         refine ⟨_, G2, by rw [el]; exact TriplesOk_snoc _ _ _ _ triples, fun pos2 cv2 hc2 => ?_⟩
         rw [el] at hc2
         rcases among_app2 _ triples hc2 with old | ⟨rfl, l1, l2⟩
         · obtain ⟨c2, e2, isC2⟩ := known pos2 cv2 old
           exact ⟨c2, e2, keep _ _ isC2 codeO_ne⟩
         · exact ⟨c', rfl, by rw [← l1, ← l2, hnm]; exact G1⟩
       · obtain ⟨tab2, a1, a2, a3⟩ := tabs q hq
         refine ⟨tab2, G3 _ _ a1 hb, a2, fun pos2 cv2 hc2 => ?_⟩
         obtain ⟨c2, e2, isC2⟩ := a3 pos2 cv2 hc2
         exact ⟨c2, e2, keep _ _ isC2 codeO_ne⟩
    refine k _ c' _ ctv _ _ (inv1.laid (a := h1.objs.size) (t' := tk1) (o := LamO h1.objs.size (kla_obj "<lambda>" (X.env.qual ++ "<lambda>") params body scope (cloFrom X.env.cells scope.names []) ((X.mg "__name__").getD .none) c' ctv)) (fun b o e => Heap.get?_push_of_some _ e) (Nat.le_refl _) (lamO_ok (Heap.get?_push_size _ rfl))) (fun b o nb e => Heap.get?_push_of_some _ (ext1 b o nb e)) (grow.trans (ext_new noF)) upd_same ?_
    exact (upd_ne (ne_of_none G1 noF)).trans G1
end

/-! ### the lambda's run: a dict's item, by raw heaps -/
theorem lam_run {P : Program} {w : World} {A : Around} {s : Shared} {f a c' cc : Addr} {qual : Str} {params : Arguments} {kn ow : Str} {scope : Scope} {cl : List (Str × Addr)} {pm ctv u r : Value} {p2 p3 p4 : Pos} {key : Key} {vs : List (Key × Value)} {R : Value → Shared → Prop}
    (room : A.depth < recursionLimit) (lim : s.heap.NoLimit) (of : s.heap.get? f = some (kla_obj "<lambda>" qual params (.Subscript (.Name kn p2) (.Name ow p3) p4) scope cl pm c' ctv)) (cr : s.heap.CodeRec (.ref c') qual)
    (sk : scope.kind = .function) (sco : scope.isCoroutine = false) (sg : scope.isGenerator = false) (sn : scope.names = [(ow, .local), (kn, .free)]) (hne : (ow == kn) = false)
    (hb : bindArgs (kla_fn "<lambda>" qual params (.Subscript (.Name kn p2) (.Name ow p3) p4) scope cl pm (.ref c') ctv) ⟨[u], []⟩ = pure [(ow, u)])
    (hcl : cl.lookup kn = some cc) (cell : s.heap.IsCell cc (some (.ref a))) (dd : s.heap.DictOf (mixKind P w) a vs) (isk : (mixKind P w).is key u = true) (val : valueAt vs key = some r)
    (hd1 : (ow == ("__debug__" : Str)) = false) (hd2 : (kn == ("__debug__" : Str)) = false) (hd3 : (kn == ("__classdict__" : Str)) = false)
    (k : ∀ h' tk, (∀ b o, s.heap.get? b = some o → h'.get? b = some o) → R r { s with heap := h', toks := tk }) :
    wpAny (model P w) A (call (.ref f) [u]) R (fun _ _ => False) s := by
  have nk : (kn == ow) = false := by
    rw [beq_eq_false_iff_ne] at hne ⊢
    exact fun e => hne e.symm
  have l1 : scope.names.lookup ow = some .local := by rw [sn]; simp
  have l2 : scope.names.lookup kn = some .free := by
    rw [sn, List.lookup_cons, nk]
    simp
  refine wpAny_call (codeAny_mono (R := fun r' s' => ∃ v, r' = .ok (.ret v) ∧ R v s') ?_ fun r' s' ⟨v, e, z⟩ => by subst e; exact z)
  refine kla_callFunE room of rfl sco sg rfl cr ?_
  rw [hb]
  refine wpAny_pure (wpAny_newFunctionEnv (fun y hy => ?_) (fun y hy => ?_) (fun h₁ hns hsb => ⟨lim.fresh _ hsb, ?_⟩) sk)
  · rw [show (kla_fn "<lambda>" qual params (.Subscript (.Name kn p2) (.Name ow p3) p4) scope cl pm (.ref c') ctv).scope = scope from rfl, sn] at hy
    rcases List.mem_cons.mp hy with rfl | hy
    · exact fun z => nomatch z
    · rcases List.mem_cons.mp hy with rfl | hy
      · exact fun z => nomatch z
      · cases hy
  · rcases List.mem_cons.mp hy with rfl | hy
    · exact l1
    · cases hy
  have kp : ∀ b o, s.heap.get? b = some o → h₁.get? b = some o := fun b o e => hsb.extBut b o (Nat.ne_of_lt (Heap.lt_size e)) (Heap.get?_push_of_some _ e)
  obtain ⟨oc, hoc, hcd⟩ := cell
  have cell1 : h₁.IsCell cc (some (.ref a)) := ⟨oc, kp _ _ hoc, hcd⟩
  obtain ⟨od, es, ep, ho, rest⟩ := dd
  have dd1 : h₁.DictOf (mixKind P w) a vs := ⟨od, es, ep, kp _ _ ho, rest⟩
  refine kla_codeExpr (subD_of PySem.F.slot_dict_getitem.lookup (fun _ _ => rfl) ?_)
  refine wpAny_Name (wpAny_loadName_free sk l2 hcl cell1 ?_ hd3) hd2
  refine wpAny_Name (wpAny_loadName_local (v := u) sk l1 hns (show List.lookup ow [(ow, u)].reverse = some u by simp) ?_) hd1
  refine ⟨⟨od, kp _ _ ho, rest.1.1⟩, ?_⟩
  refine wpAny_getItem_of isk dd1.mapOf val ?_
  exact ⟨r, rfl, k _ _ kp⟩

/-! ### sorted by a key, wherever the items come from -/
theorem args_sorted_kw (a f : Addr) : argsOk "sorted" ⟨[.ref a], [(Str.ofString "key", .ref f)]⟩ := by unfold argsOk; kernel_rfl
theorem args_sort_kw (a f : Addr) : argsOk "list.sort" ⟨[.ref a], [(Str.ofString "key", .ref f)]⟩ := by unfold argsOk; kernel_rfl
section
variable {prog : Program} {w : World} {A : Around} {E : Value → Shared → Prop} {s : Shared} {β : Type}
theorem sorted_key_by {x f : Addr} {R : Value → β → Prop} {bs : List β} {Q : Value → Shared → Prop} (kz : β → PyData)
    (hc : ∀ Q' : List Value → Shared → Prop, (∀ s1 vs, Kept s s1 → EachIs R vs bs → Q' vs s1) → wpAny (model prog w) A.in1 (collect (.ref x)) Q' E s)
    (hal : AllAlike (bs.map kz)) (hk : Sortable (bs.map kz)) (hL : bs.length ≤ sizeLine) (hu : ∀ d, d ∈ bs.map kz → A.in1.in1.units + d.depth < cLine)
    (turn : ∀ s1, Kept s s1 → ∀ v b, R v b → b ∈ bs → ∀ (h : Heap) (tk : Nat), (∀ b o, s1.heap.get? b = some o → h.get? b = some o) → wpAny (model prog w) A.in1.in1 (call (.ref f) [v]) (KeyPure (kz b) { s1 with heap := h, toks := tk }) (fun _ _ => False) { s1 with heap := h, toks := tk })
    (hQ : ∀ s1 s' p out c, Kept s s1 → Kept s1 s' → s1.heap.objs.size ≤ p → s'.heap.get? p = some (seqObj "list" (List.toArray out) c) → EachIs R out (bs.mergeSort (dataLe false kz)) → Q (.ref p) s') :
    wpAny (model prog w) A (call (.builtin "sorted") [.ref x] [(Str.ofString "key", .ref f)]) Q E s := by
  refine call_function_entry_kw kind_sorted plain_sorted entry_sorted (args_sorted_kw _ _) ?_
  unfold Builtin.«sorted»
  refine wpAny_bind (m := checkCount "sorted" 1 1 _) (wpAny_pure ?_)
  refine wpAny_bind (hc _ fun s1 vs k1 er => ?_)
  have hvl : vs.length ≤ sizeLine := by rw [er.length]; exact hL
  refine wpAny_bind (wpAny_newList ?_ hvl)
  have hoL : (s1.heap.push (seqObj "list" vs.toArray 0)).get? s1.heap.objs.size = some (seqObj "list" vs.toArray 0) := Heap.get?_push_size _ rfl
  have up : ∀ {g : Heap}, KeepsBut s1.heap.objs.size (s1.heap.push (seqObj "list" vs.toArray 0)) g → ∀ b o, s1.heap.get? b = some o → g.get? b = some o := fun {g} kp b o q =>
    kp b o (Nat.ne_of_lt (Heap.lt_size q)) (Heap.get?_push_of_some _ q)
  refine wpAny_bind (wpAny_holding (wpAny_call_entry_kw slot_list_sort ⟨_, hoL, rfl⟩ entry_list_sort ?_ (args_sort_kw _ _)))
  rw [ksk_t1]
  refine keyH_tree (kz := bs.map kz) (s := { s1 with heap := s1.heap.push (seqObj "list" vs.toArray 0) }) hoL (by rw [List.length_map]; exact er.length.symm) hvl hal hk hu
    (keyH_turns (s := { s1 with heap := s1.heap.push (seqObj "list" vs.toArray 0) }) er fun v b hR hb h tk kp => turn s1 k1 v b hR hb h tk (up kp)) fun h' tk out c kp hD ko => ⟨_, rfl, ?_⟩
  refine wpAny_pure ⟨_, rfl, hQ s1 _ _ out c k1 ⟨up kp, rfl, rfl⟩ (Nat.le_refl _) hD (keyedOut_each kz ko er)⟩
end

/-! ### the rule -/
theorem each_of_get {α β : Type} {R : α → β → Prop} : ∀ {as : List α} {bs : List β}, as.length = bs.length → (∀ (j : Nat) (a : α) (b : β), as[j]? = some a → bs[j]? = some b → R a b) → EachIs R as bs
  | [], [], _, _ => .nil
  | _ :: _, [], h, _ => by simp at h
  | [], _ :: _, h, _ => by simp at h
  | a :: as, b :: bs, h, f => .cons (f 0 a b rfl rfl) (each_of_get (by simpa using h) fun j x y e1 e2 => f (j + 1) x y (by simpa using e1) (by simpa using e2))
theorem vals_of_texts : ∀ {us : List Value} {ss : List Str}, EachIs (fun u b => ∃ t, u = Value.str b t) us ss → Vals (ss.map V.str) us
  | _, _, .nil => .nil
  | _, _, .cons ⟨t, e⟩ r => .cons ⟨t, e⟩ (vals_of_texts r)
/-- what the key gives: two ints -/
def pairD (i j : Int) : PyData := .tuple [.int i, .int j]
theorem reads_pair {h : Heap} {u : Value} {i j : Int} {as : List Addr} (r : Reads h u (pairD i j) as) : as = [] := by
  cases r with
  | tuple _ _ _ ra =>
    generalize hv : (Array.toList _) = l at ra
    cases ra with
    | cons r1 ra =>
      cases ra with
      | cons r2 ra =>
        cases ra
        cases r1
        cases r2
        rfl
theorem alike_pairs {β : Type} (kz : β → Int × Int) (bs : List β) : AllAlike (bs.map fun b => pairD (kz b).1 (kz b).2) := AllAlike.of fun _ _ => by simp [alike, alikeAll, pairD]
theorem sortable_pairs {β : Type} (kz : β → Int × Int) (bs : List β) : Sortable (bs.map fun b => pairD (kz b).1 (kz b).2) := Sortable.tuples fun b => ⟨_, _, rfl⟩
theorem depth_pair (i j : Int) : (pairD i j).depth = 1 := by simp [pairD, PyData.depth, PyData.depthAll]
theorem Dp.mono_ints {K : PySem.W.Frag} {H G : Hp} {xs : List V} {i j : Int} (h : DpAll K H xs [.int i, .int j]) : DpAll K G xs [.int i, .int j] := by
  cases h with
  | cons h1 h =>
    cases h with
    | cons h2 h =>
      cases h
      rw [dp_int h1, dp_int h2]
      exact .cons (.int i) (.cons (.int j) .nil)
theorem pair_ext {Z : List NTab} {K : PySem.W.Frag} {H G : Hp} (e : Ext Z H G) {v : V} {i j : Int} (h : Dp K H v (pairD i j)) : Dp K G v (pairD i j) := by
  obtain ⟨a, xs, rfl, hs, hx⟩ := dp_tup h
  refine .tup ?_ (Dp.mono_ints hx)
  rcases hs with (hs | ⟨o, hs⟩) | hs
  · exact .inl (.inl (e.keep _ _ hs fun _ z => nomatch z))
  · exact .inl (.inr ⟨o, e.keep _ _ hs fun _ z => nomatch z⟩)
  · exact .inr hs
def tSortLam (Z : List NTab) (K : PySem.W.Frag) (i : Nat) : TE := fun σ H Q => ∃ (a : Addr) (kvs : List (Key × V)) (ks : List Str) (kz : Str → Int × Int), σ[i]? = some (some (.ref a)) ∧ H a = some (.dK kvs) ∧ kvs.map (·.1) = ks.map Sum.inr ∧ ks.length ≤ 1000 ∧ TabsN Z H ∧
  (∀ k ∈ ks, ∃ v, valV kvs (Sum.inr k) = some v ∧ Dp K H v (pairD (kz k).1 (kz k).2)) ∧
  ∀ G p, Ext Z H G → G p = none → Q (.ref p) (upd G p (.lst ((ks.mergeSort (dataLe false fun k => pairD (kz k).1 (kz k).2)).map V.str)))
section
variable {X : Cx}
theorem pe_sortLam {Z : List NTab} {i : Nat} {kn ow : Str} {c P : Addr} {params : Arguments} {scope : Scope} {p p1 p2 p3 p4 p5 p6 pos : Pos} (TB : TabB X.base X.mg c P) (hcode : X.env.code = .ref c) (hz : (P, fun _ _ => X.env.qual ++ "<lambda>") ∈ Z) (one : ∀ q ∈ Z, q.1 = P → q.2 = fun _ _ => X.env.qual ++ "<lambda>")
    (hdef : defaultsOf params X.env = ([], [])) (hN : X.N[i]? = some kn) (hkn : X.env.scope.names.lookup kn = some .cell) (sk : scope.kind = .function) (sco : scope.isCoroutine = false) (sg : scope.isGenerator = false) (sn : scope.names = [(ow, .local), (kn, .free)]) (hne : (ow == kn) = false)
    (hbind : ∀ cl pm cdv ctv u, bindArgs (kla_fn "<lambda>" (X.env.qual ++ "<lambda>") params (.Subscript (.Name kn p2) (.Name ow p3) p4) scope cl pm cdv ctv) ⟨[u], []⟩ = pure [(ow, u)])
    (hg : Gl X "sorted") (hm : X.mg "sorted" = none) (hr : Room 1 X.A) (hcalm : X.calm = true)
    (hd1 : (ow == ("__debug__" : Str)) = false := by decide) (hd2 : (kn == ("__debug__" : Str)) = false := by decide) (hd3 : (kn == ("__classdict__" : Str)) = false := by decide) :
    PE X (.Call (.Name "sorted" p) [.Name kn p1] [⟨some "key", .Lambda params (.Subscript (.Name kn p2) (.Name ow p3) p4) scope p5, p6⟩] pos) (tSortLam Z X.K i) := by
  refine ⟨fun pins s σ H Q I h => ?_⟩
  obtain ⟨a, kvs, ks, kz, hσ, hD, hkeys, few, tabs, vals, k⟩ := h
  refine wpAny_Call_Name_kw (ld_blt I hg hm boot_sorted ?_)
  refine PyProof.Rows.callWith_kw (thn ((pa_cons (pe_var (pos := p1) hN (.inr (.inl hkn)) hd2 hd3) pa_nil).run pos pins s σ H (fun vs G => vs = [.ref a] ∧ G = H) I ⟨.ref a, hσ, rfl, rfl⟩) fun us s1 ⟨vs, H1, I1, r1, e1, e2⟩ => ?_) rfl rfl rfl rfl
  subst e1
  rw [e2] at I1
  obtain ⟨u, rfl, ru⟩ := vals1 r1
  obtain rfl : u = Value.ref a := ru
  have hfree : ∀ y ∈ scope.names, y.2 = .free → ∃ c, X.env.cells.lookup y.1 = some c := fun y hy e => by
    rw [sn] at hy
    rcases List.mem_cons.mp hy with rfl | hy
    · cases e
    · rcases List.mem_cons.mp hy with rfl | hy
      · exact I.ok.has _ (.inl hkn)
      · cases hy
  show wpAny _ _ (evalAll ((do let v ← eval (.Lambda params (.Subscript (.Name kn p2) (.Name ow p3) p4) scope p5) X.env; standAt pos; pure v) :: (backToKw pos (keywordEach [] X.env)).map (·.2))) _ _ s1
  refine wpAny_evalAll_cons (wpAny_bind (lam_mk I1 TB hcode hz rfl one tabs hdef hfree fun f c' pm ctv G s2 I2 hmove hG isF isC => wpAny_bind (wpAny_standAt (wpAny_pure (wpAny_evalAll_nil ?_)))))
  show wpAny _ _ (call (.builtin "sorted") [.ref a] [(Str.ofString "key", .ref f)]) _ _ s2
  obtain ⟨z, lo, vs, rel, dd⟩ := dk_of I2.hok (hG.dK hD)
  obtain ⟨ep, hat⟩ := dd.dictAt
  have kvn : vs.map (·.1) = ks.map Sum.inr := rel.keys.symm.trans hkeys
  have hl : vs.length = ks.length := by
    have e := congrArg List.length kvn
    rw [List.length_map, List.length_map] at e
    exact e
  have hku : X.A.units + 216 < cLine := by have := hr.un; omega
  have lk : ∃ cc, X.env.cells.lookup kn = some cc ∧ s2.heap.IsCell cc (some (.ref a)) ∧ (cloFrom X.env.cells scope.names []).lookup kn = some cc := by
    obtain ⟨m, hn, hloc⟩ := I2.loc
    obtain ⟨u, r, l⟩ := hloc i kn (.ref a) hN hσ (.inr (.inl hkn))
    obtain rfl : u = Value.ref a := r
    rcases l with ⟨hk, _⟩ | ⟨_, cc, hc, hcell⟩
    · have hk : X.env.scope.names.lookup kn = some .local := hk
      rw [hkn] at hk
      cases hk
    · exact ⟨cc, hc, hcell, NdefX.clo_has hfree (y := kn) (by rw [sn]; simp) hc⟩
  obtain ⟨cc, _, cell, hcl⟩ := lk
  refine sorted_key_by (R := fun u b => ∃ t, u = Value.str b t) (bs := ks) (fun k => pairD (kz k).1 (kz k).2) (fun Q' hq => kdu_collect (A := X.A.in1) (kdl_dict (knd := mixKind X.prog X.w) (kvs := vs) (ep := ep) lo) (I2.ok.hd hcalm) hat (by rw [hl, sizeLine_eq]; omega) fun h' tk acc hk hacc => ?_)
    (alike_pairs kz ks) (sortable_pairs kz ks) (by rw [sizeLine_eq]; omega) (fun d hd => ?_) (fun s3 k3 v b hv hb h tk hk => ?_) fun s3 s4 p out e k3 k4 hp hg eo => ?_
  · refine hq { s2 with heap := h', toks := tk } acc.toList ⟨hk, rfl, rfl⟩ ?_
    refine each_of_get (by rw [Array.length_toList, hacc.1, hl]) fun j v b e1 e2 => ?_
    obtain ⟨q, x, e3, e4⟩ := hacc.2 j v (by rw [← Array.getElem?_toList]; exact e1)
    have e5 : (vs.map (·.1))[j]? = some q := by rw [List.getElem?_map, e3]; rfl
    rw [kvn, List.getElem?_map, e2] at e5
    have e6 : Sum.inr b = q := Option.some.inj e5
    subst e6
    exact Value.isStrOf_shape (x := b) (v := v) e4
  · obtain ⟨b, _, rfl⟩ := List.mem_map.mp hd
    rw [depth_pair]
    show X.A.units + 2 + 1 < cLine
    omega
  · obtain ⟨t, rfl⟩ := hv
    have kk : ∀ b o, s2.heap.get? b = some o → h.get? b = some o := fun b o e => hk b o (k3.1 b o e)
    obtain ⟨vv, hval, hdp⟩ := vals b hb
    obtain ⟨r, hr1, rr⟩ := RelO.some_of (v := vv) (o := valueAt vs (Sum.inr b)) (by rw [← hval]; exact rel.val (Sum.inr b))
    obtain ⟨as, rd⟩ := Dp.reads I2 _ _ _ (pair_ext hG hdp) rr
    obtain ⟨oc, hoc, hcd⟩ := cell
    obtain ⟨od, es, ep', ho, rest⟩ := dd
    obtain ⟨oq, qs, qt, c1, c2, c3⟩ : ∃ (oq : Obj) (qs : Array Value) (qt : Tok), s2.heap.get? c' = some oq ∧ oq.data = .fields qs ∧ qs[1]? = some (.str (X.env.qual ++ "<lambda>") qt) := by
      obtain ⟨z, _, _⟩ := I2.hok c' _ isC
      exact z
    rw [reads_pair rd] at rd
    refine lam_run (s := { s3 with heap := h, toks := tk }) (key := Sum.inr b) (u := .str b t) (vs := vs) (by show X.A.depth < _; exact hr.depth) (I2.nolimit.keeps kk) (kk _ _ (lamO_at I2.hok isF)) ⟨c', oq, qs, qt, rfl, kk _ _ c1, c2, c3⟩ sk sco sg sn hne (hbind _ _ _ _ _) hcl ⟨oc, kk _ _ hoc, hcd⟩ ⟨od, es, ep', kk _ _ ho, rest⟩ (by rw [mixKind_is]; exact keyIs_str b t) hr1 hd1 hd2 hd3 fun h' tk' up => ?_
    exact ⟨h', tk', rfl, up, PyProof.Rows.Reads.keeps (fun b o e => up b o (kk b o e)) rd⟩
  · obtain ⟨ys, hys⟩ : ∃ ys, ys = ks.mergeSort (dataLe false fun k => pairD (kz k).1 (kz k).2) := ⟨_, rfl⟩
    have I3 := inv_to I2 k3
    have hn : G p = none := I3.hok.fresh hp
    refine ⟨.ref p, upd G p (.lst ((ks.mergeSort (dataLe false fun k => pairD (kz k).1 (kz k).2)).map V.str)), inv_new (o := .lst _) I3 k4 hp ⟨?_, out, e, vals_of_texts eo, hg⟩, rfl, k G p hG hn⟩
    rw [List.length_map, (List.mergeSort_perm _ _).length_eq, sizeLine_eq]
    omega
end
end K21

/-! More rules that the layer lacks. -/
namespace K21
open PySem PySem.Spec PyProof.Rows L2 PySem.W PySem.SeqAt RZ
open NdefX (NTab TabsN TabN)
theorem u65 {k : Nat} {A : Around} (r : Room k A) : A.units + 65 < cLine := by have := r.un; omega
theorem bt_isinstance : bootBuiltins "isinstance" = some (.builtin "isinstance") := by decide +kernel
theorem bt_len : bootBuiltins "len" = some (.builtin "len") := by decide +kernel
theorem bt_all : bootBuiltins "all" = some (.builtin "all") := by decide +kernel
theorem bt_sorted : bootBuiltins "sorted" = some (.builtin "sorted") := by decide +kernel
theorem bt_min : bootBuiltins "min" = some (.builtin "min") := by decide +kernel
theorem bt_any : bootBuiltins "any" = some (.builtin "any") := by decide +kernel
theorem bt_max : bootBuiltins "max" = some (.builtin "max") := by decide +kernel
theorem bt_abs : bootBuiltins "abs" = some (.builtin "abs") := by decide +kernel
theorem bt_sum : bootBuiltins "sum" = some (.builtin "sum") := by decide +kernel
theorem bt_str : bootBuiltins "str" = some (.type "str") := by decide +kernel
theorem bt_zip : bootBuiltins "zip" = some (.type "zip") := by decide +kernel
theorem bt_tuple : bootBuiltins "tuple" = some (.type "tuple") := by decide +kernel
theorem bt_set : bootBuiltins "set" = some (.type "set") := by decide +kernel
theorem bt_list : bootBuiltins "list" = some (.type "list") := by decide +kernel
theorem bt_enumerate : bootBuiltins "enumerate" = some (.type "enumerate") := by decide +kernel
theorem bt_range : bootBuiltins "range" = some (.type "range") := by decide +kernel
theorem bt_int : bootBuiltins "int" = some (.type "int") := by decide +kernel
theorem bt_dict : bootBuiltins "dict" = some (.type "dict") := by decide +kernel
theorem bt_bool : bootBuiltins "bool" = some (.type "bool") := by decide +kernel
theorem bt_ValueError : bootBuiltins "ValueError" = some (.type "ValueError") := by decide +kernel
/-! ### rules with the fragment named (within a comprehension's block the context is another, its fragment the same) -/
section
variable {X : Cx} (K : PySem.W.Frag) (hK : X.K = K := by rfl)
include hK
theorem kg_tup {pos : Pos} {es : List Expr} {k : Nat} {t : TGs} {n : Nat} (hc : X.calm = true) (h : PGs X es t) (hn : (assignEach es X.env).length = n := by rfl) (hst : (assignEach es X.env).findIdx? (·.1) = none := by rfl) : PG X (.Tuple es k pos) (gTup K n t) := by subst hK; exact pg_tup hc h hn hst
theorem ki_tup {tg l : Expr} {tl : TE} (hl : PE X l tl) : PI X tg l (iTup K tl) := by subst hK; exact pi_tup hl
theorem ki_list {tg l : Expr} {tl : TE} (hl : PE X l tl) : PI X tg l (iList K tl) := by subst hK; exact pi_list hl
theorem kx_tup : IxR X (rIxT K) := by subst hK; exact ix_tup
theorem kx_list : IxR X (rIxL K) := by subst hK; exact ix_list
theorem kl_tup : SlR X (rSlA K) := by subst hK; exact sl_tupA
theorem kl_list : SlR X (rSlL K) := by subst hK; exact sl_list
theorem ko_eqD (hu : X.A.units + 64 < cLine) : OpR X (compareOp .Eq) (rEqD K) := by subst hK; exact op_eqD hu
theorem ko_neD (hu : X.A.units + 64 < cLine) : OpR X (compareOp .NotEq) (rNeD K) := by subst hK; exact op_neD hu
theorem ko_inD (hu : X.A.units + 65 < cLine) : OpR X (compareOp .In) (rInD K) := by subst hK; exact op_inD hu
theorem ko_notInD (hu : X.A.units + 65 < cLine) : OpR X (compareOp .NotIn) (rNotInD K) := by subst hK; exact op_notInD hu
theorem ko_in : OpR X (compareOp .In) (rIn K false) := by subst hK; exact op_in_seq
theorem ko_notIn : OpR X (compareOp .NotIn) (rIn K true) := by subst hK; exact op_notIn_seq
theorem ko_catA : OpR X (binaryOp .Add) (rCatA K) := by subst hK; exact op_catA
end
def rSize (K : PySem.W.Frag) : List V → Hp → VK → Prop := fun xs H Q => ∃ x n, xs = [x] ∧ LenV K x H n ∧ Q (.int n) H
def rTupOf (K : PySem.W.Frag) : List V → Hp → VK → Prop := fun xs H Q => ∃ p ys, xs = [.ref p] ∧ ((SqL K H p ys ∧ ∀ l, H l = none → Q (.ref l) (upd H l (.tup ys))) ∨ (SqT K H p ys ∧ Q (.ref p) H))
def rListOf (K : PySem.W.Frag) : List V → Hp → VK → Prop := fun xs H Q => ∃ p ys, xs = [.ref p] ∧ (SqL K H p ys ∨ SqT K H p ys) ∧ ∀ l, H l = none → Q (.ref l) (upd H l (.lst ys))
def rInt1 : List V → Hp → VK → Prop := fun xs H Q => (∃ i, xs = [.int i] ∧ Q (.int i) H) ∨ ∃ k, xs = [.bl k] ∧ Q (.int (if k then 1 else 0)) H
def rAbs : List V → Hp → VK → Prop := fun xs H Q => ∃ i, xs = [.int i] ∧ Q (.int (if i < 0 then -i else i)) H
def rIndexT (K : PySem.W.Frag) : V → List V → Hp → VK → Prop := fun x xs H Q => ∃ p, ∃ ys : List Str, ∃ z j, x = .ref p ∧ xs = [.str z] ∧ SqT K H p (ys.map V.str) ∧ ys[j]? = some z ∧ (∀ m, m < j → ys[m]? ≠ some z) ∧ Q (.int (j : Nat)) H
def rDictP (K : PySem.W.Frag) : List V → Hp → VK → Prop := fun xs H Q => ∃ (a : Addr) (ps : List Addr) (kvs : List (Key × V)), xs = [.ref a] ∧ SqL K H a (ps.map V.ref) ∧ Paired (fun p kv => SqT K H p [kV kv.1, kv.2]) ps kvs ∧ ∀ p, H p = none → Q (.ref p) (upd H p (.dK (mergeK [] kvs)))
section
variable {X : Cx} (K : PySem.W.Frag) (hK : X.K = K := by rfl)
include hK
theorem kc_len : CallR X (.builtin "len") (rSize K) := by subst hK; exact call_len
theorem kc_all (hc : X.calm = true) : CallR X (.builtin "all") (rAll K) := by subst hK; exact cr_all hc
theorem kc_any (hc : X.calm = true) : CallR X (.builtin "any") (rAny K) := by subst hK; exact cr_any hc
theorem kc_isi : CallR X (.builtin "isinstance") (rIsi K) := by subst hK; exact call_isi
theorem kc_isiT : CallR X (.builtin "isinstance") (rIsiT K) := by subst hK; exact call_isiT
theorem kc_tupOf : CallR X (.type "tuple") (rTupOf K) := by subst hK; exact call_tuple_of
theorem kc_listOf : CallR X (.type "list") (rListOf K) := by subst hK; exact call_list_of
theorem kc_sortD (hu : X.A.units + 64 < cLine) : CallR X (.builtin "sorted") (rSortD K) := by subst hK; exact cr_sortD hu
theorem kc_dictP (hc : X.calm = true) : CallR X (.type "dict") (rDictP K) := by subst hK; exact call_dictP hc
theorem kc_max (hc : X.calm = true) : CallR X (.builtin "max") (rMax K) := by subst hK; exact cr_max hc
theorem kc_min (hc : X.calm = true) : CallR X (.builtin "min") (rMin K) := by subst hK; exact cr_min hc
theorem km_index : MtR X "tuple.index" (rIndexT K) := by subst hK; exact mt_tup_index
theorem ke_bm {T name id : String} {o : Expr} {to : TE} {e : Expr} {es : List Expr} {t : TA} {apos cpos : Pos} {r : V → List V → Hp → VK → Prop} (pa : PlainAttrs T) (slot : Slot T name id) (hty : typeOf (.builtin id) = pure (.type "method_descriptor")) (hm : MtR X id r) (ho : PE X o to) (ha : PA X (e :: es) t)
    (hbase : attributeBase o name X.env (eval o X.env) = eval o X.env := by rfl)
    (hfew : ((backTo cpos (starEach (e :: es) X.env)).all (fun x => !x.1) && (backToKw cpos (keywordEach [] X.env)).all (fun x => x.1.isSome) && decide ((e :: es).length + ([] : List Keyword).length + (if ([] : List Keyword).isEmpty then 0 else 1) < 30)) = true := by rfl)
    (hline : (apos.endLine == cpos.line) = true := by rfl) (hs : starEach (e :: es) X.env = (false, eval e X.env) :: starEach es X.env := by rfl) (hplain : (backTo cpos (starEach es X.env)).any (·.1) = false := by rfl) :
    PE X (.Call (.Attribute o name apos) (e :: es) [] cpos) (tBM K T r to t) := by subst hK; exact pe_bm pa slot hty hm ho ha hbase hfew hline hs hplain
end
section
variable {X : Cx}
theorem kc_int1 : CallR X (.type "int") rInt1 := call_int1
theorem kc_abs : CallR X (.builtin "abs") rAbs := call_abs
end
end K21

/-! enumerate of a tuple. -/
namespace K21
open PySem PySem.Spec PyProof.Rows L2 PySem.W PySem.SeqAt RZ
open NdefX (NTab TabsN TabN)
theorem enum_new_of {v : Value} {o : Obj} {H : Heap → Prop} (B : Begins v o H) :
    Meets (Builtin.«enumerate.__new__» ⟨[.type "enumerate", v], []⟩) (fun _ R s => H s.heap ∧
      R (.ok (.ret (.ref (s.heap.push o).objs.size))) { s with heap := (s.heap.push o).push { cls := .type "enumerate", data := .fields #[.none, .bool false, .ref s.heap.objs.size, rawInt 0, .none, .none] } }) :=
  .of_wp fun prog w A R s z => by
    obtain ⟨hp, gg, dd, tk, os⟩ := s
    obtain ⟨hH, z⟩ := z
    have isSub := sub_enumerate
    have begins : ∀ {A' : Around} {Er : Value → Shared → Prop} {Q : Value → Shared → Prop}, Q (.ref hp.objs.size) ⟨hp.push o, gg, dd, tk, os⟩ → wpAny (model prog w) A' (pyIter v) Q Er ⟨hp, gg, dd, tk, os⟩ := fun q => B.iter prog w _ _ ⟨hp, gg, dd, tk, os⟩ _ hH q
    wp_walk using begins
    refine wpAny_stack_any fun st => wpAny_pure ?_
    split
    · rename_i c _ _ _ _ _
      cases (c == Value.type "enumerate")
      · wp_walk using begins
        exact ⟨_, rfl, z⟩
      · wp_walk using begins
        exact ⟨_, rfl, z⟩
    · wp_walk using begins
      exact ⟨_, rfl, z⟩
section
variable {prog : Program} {w : World} {A : Around} {E : Value → Shared → Prop} {s : Shared}
theorem enum_call {v : Value} {o : Obj} {H : Heap → Prop} {Q : Value → Shared → Prop} (B : Begins v o H) (h1 : H s.heap)
    (k : ∀ h', IsEnum h' (s.heap.objs.size + 1) s.heap.objs.size 0 .none → h'.get? s.heap.objs.size = some o → (∀ b ob, s.heap.get? b = some ob → h'.get? b = some ob) → Q (.ref (s.heap.objs.size + 1)) { s with heap := h' }) :
    wpAny (model prog w) A (call (.type "enumerate") [v]) Q E s := by
  refine callType_new F.called_enumerate (by decide) (F.typeCall_enumerate_1 _) (F.newCall_enumerate_1 _) (fun obj => F.args_object_init_2 obj _) F.entry_enumerate_new (enum_new_of B) ⟨h1, ?_⟩
  have sz : (s.heap.push o).objs.size = s.heap.objs.size + 1 := Heap.size_push ..
  show _ ∧ _
  rw [sz]
  have isE : IsEnum ((s.heap.push o).push { cls := .type "enumerate", data := .fields #[.none, .bool false, .ref s.heap.objs.size, rawInt 0, .none, .none] }) (s.heap.objs.size + 1) s.heap.objs.size 0 .none := by
    have z := Heap.get?_push_size (s.heap.push o) (o := { cls := .type "enumerate", data := .fields #[.none, .bool false, .ref s.heap.objs.size, rawInt 0, .none, .none] }) rfl
    rw [sz] at z
    exact z
  exact ⟨⟨_, isE, rfl⟩, k _ isE (Heap.get?_push_of_some _ (Heap.get?_push_size _ B.free)) fun b ob x => Heap.get?_push_of_some _ (Heap.get?_push_of_some _ x)⟩
end
/-- the tuple at a, each item in a new pair -/
def IteT (K : PySem.W.Frag) (a : Addr) : It :=
  ⟨fun i H => ∃ (xs : List V) (x : V), SqT K H a xs ∧ xs[i]? = some x, fun i H v H' => ∃ T x, v = .ref T ∧ H T = none ∧ H' = upd H T (.tup [.int (i : Nat), x]) ∧ ∀ xs, SqT K H a xs → xs[i]? = some x, fun i H => ∃ xs : List V, SqT K H a xs ∧ xs.length = i⟩
theorem turn_enumT {P : Program} {w : World} {K : PySem.W.Frag} {elts : List Expr} {kk : Nat} {tpos : Pos} (a e it : Addr) (ai : a ≠ it) (ae : a ≠ e) (ei : e ≠ it) :
    Turn P w K (.Tuple elts kk tpos) (IteT K a) [e, it] e (fun i h => (∃ old, IsEnum h e it ((i : Nat) : Int) old) ∧ h.IsTupleIter it a i) where
  mem := by simp
  obj := fun i h st b hb => by
    obtain ⟨⟨old, isE⟩, ⟨o, ho, hc, hd⟩⟩ := st
    rcases (show b = e ∨ b = it by simpa using hb) with z | z
    · rw [z]; exact ⟨_, isE, fun v q => nomatch q⟩
    · rw [z]; exact ⟨o, ho, fun v q => by rw [hd] at q; cases q⟩
  keep := fun i h h' st k => by
    obtain ⟨⟨old, isE⟩, isI⟩ := st
    exact ⟨⟨old, k e (by simp) _ isE⟩, isI.at fun o q => k it (by simp) o q⟩
  item := by
    intro X eP ew eK hc i pins s σ H E I hf st hg
    subst eP ew eK
    obtain ⟨⟨old, isE⟩, isI⟩ := st
    obtain ⟨xs, x, hq, hx⟩ := hg
    obtain ⟨its, rv, isT, hz⟩ := I.tuple hq
    obtain ⟨u, hu, ru⟩ := rv.get hx
    have le : e < s.heap.objs.size := Heap.lt_size isE
    have li : it < s.heap.objs.size := by obtain ⟨_, q, _⟩ := isI; exact Heap.lt_size q
    have lu : i < its.toArray.size := by
      have := lt_of_get hu
      simpa using this
    refine wpAny_pyNext_enum_itemD (Draws.tuple (A := X.A.in1) (show X.A.in1.handled = none from I.ok.hd hc) it a ai its.toArray) isE ⟨isI, isT⟩ lu ei (by simp [ei, Ne.symm ae]) fun v h1 tk hv out1 st1 tup1 _ keep1 => ?_
    have ev : v = u := by
      rw [List.getElem?_toArray, hu] at hv
      exact (Option.some.inj hv).symm
    subst ev
    refine ⟨_, rfl, wpAny_letOwnedTupleGo_enum (s := { s with heap := h1, toks := tk + 1 }) out1 fun h2 isE2 sb => ?_⟩
    have tup2 : h2.get? s.heap.objs.size = some { cls := .type "tuple", data := .seq #[.int i tk, v] } := (sb.2 _ (Nat.ne_of_gt le)).trans tup1
    have new : ObjOk X.prog X.w (upd H s.heap.objs.size (.tup [.int (i : Nat), x])) h2 s.heap.objs.size (.tup [.int (i : Nat), x]) :=
      ⟨(by decide : 2 ≤ sizeLine), [.int i tk, v], .cons ⟨_, rfl⟩ (.cons ru .nil), _, tup2, rfl, _, rfl⟩
    have I1 : Inv X pins σ (upd H s.heap.objs.size (.tup [.int (i : Nat), x])) { s with heap := h2, toks := tk + 1 } :=
      I.turnedNew (ch := [e, it]) (fun b ob nb q => (sb.2 b fun z => nb (by simp [z])).trans (keep1 b ob (fun z => nb (by simp [z])) (fun z => nb (by simp [z])) q)) hf (Nat.le_refl _) new
    refine ⟨.ref s.heap.objs.size, _, I1, rfl, ⟨_, x, rfl, I.hok.fresh (Nat.le_refl _), rfl, fun ys hy => by rw [I.tuple_inj hy hq]; exact hx⟩, ⟨⟨v, ?_⟩, st1.1.at fun o q => (sb.2 it (Ne.symm ei)).trans q⟩, fun b hb => ?_⟩
    · rw [show ((i + 1 : Nat) : Int) = (i : Int) + 1 by omega]
      exact isE2
    · have lb : b < s.heap.objs.size := by
        rcases (show b = e ∨ b = it by simpa using hb) with z | z
        · exact z ▸ le
        · exact z ▸ li
      rw [upd_ne (Nat.ne_of_lt lb)]
      exact (hf b hb).1
  done := by
    intro X eP ew eK hc i pins s σ H E I hf st hg
    subst eP ew eK
    obtain ⟨⟨old, isE⟩, isI⟩ := st
    obtain ⟨xs, hq, hx⟩ := hg
    obtain ⟨its, rv, isT, hz⟩ := I.tuple hq
    obtain ⟨f0, f1, f2, f3, f4, f5⟩ := hf it (by simp)
    have ln : its.toArray.size = i := by
      have := rv.length
      simp
      omega
    subst ln
    exact wpAny_pyNext_enum_endD (Draws.tuple (A := X.A.in1) (show X.A.in1.handled = none from I.ok.hd hc) it a ai its.toArray) isE ⟨isI, isT⟩ fun h1 eb => ⟨rfl, I.turned (t' := s.toks) (fun b o nb q => eb b o nb q) f0 f1 f3 f4 f5⟩
  self := fun A i s Q E st h => let ⟨⟨_, isE⟩, _⟩ := st; wpAny_pyIter_enum isE h
def iEnumT (K : PySem.W.Frag) (ta : TA) : TI := fun σ H R => ta σ H fun vs H1 => ∃ a xs, vs = [.ref a] ∧ SqT K H1 a xs ∧ R (IteT K a) H1
theorem ki_enumT {X : Cx} (K : PySem.W.Frag) (hK : X.K = K := by rfl) {e : Expr} {ta : TA} {p pos tpos : Pos} {elts : List Expr} {kk : Nat} (hg : Gl X "enumerate") (hm : X.mg "enumerate" = none) (ha : PA X [e] ta) (hs : starEach [e] X.env = [(false, eval e X.env)] := by rfl) :
    PI X (.Tuple elts kk tpos) (.Call (.Name "enumerate" p) [e] [] pos) (iEnumT K ta) := by
  subst hK
  refine ⟨fun pins s σ H R I z => ?_⟩
  refine Call_ (ld_blt I hg hm bt_enumerate (PyProof.Rows.callWith_type1 (thn (ha.run pos pins s σ H _ I z) fun us s1 ⟨vs, H1, I1, r1, q1⟩ => ?_) hs rfl))
  obtain ⟨a, xs, rfl, hq, q⟩ := q1
  obtain ⟨u, rfl, ru⟩ := vals1 r1
  cases ru
  obtain ⟨its, rv, isT, hz⟩ := I1.tuple hq
  have la : a < s1.heap.objs.size := isT.lt
  refine enum_call (begins_tuple a its.toArray) (show s1.heap.IsTuple a its.toArray from isT) fun h1 isE isI keep => wpAny_pyIter_enum isE ?_
  refine ⟨s1.heap.objs.size + 1, [s1.heap.objs.size + 1, s1.heap.objs.size], _, _, H1, rfl, I1.kept (t' := s1.toks) keep, turn_enumT a (s1.heap.objs.size + 1) s1.heap.objs.size (Nat.ne_of_lt la) (Nat.ne_of_lt (Nat.lt_succ_of_lt la)) (Nat.succ_ne_self _), ⟨⟨.none, isE⟩, ⟨_, isI, rfl, rfl⟩⟩, fun b hb => ?_, q⟩
  have lb : s1.heap.objs.size ≤ b := by
    rcases (show b = s1.heap.objs.size + 1 ∨ b = s1.heap.objs.size by simpa using hb) with z | z
    · rw [z]; exact Nat.le_add_right _ _
    · rw [z]; exact Nat.le_refl _
  exact I1.fpOk lb (I1.hok.fresh lb)
end K21

/-! tuple(text), min and max with default=, sum(tuples, ()). -/
namespace K21
open PySem PySem.Spec PyProof.Rows L2 PySem.W PySem.SeqAt RZ
open NdefX (NTab TabsN TabN)

/-! ### min(xs, default=d), max(xs, default=d) -/
/-- the least, the greatest of a list of whole numbers, or d -/
def leastOr (d : Int) : List Int → Int
  | [] => d
  | x :: xs => minOf x xs
def mostOr (d : Int) : List Int → Int
  | [] => d
  | x :: xs => maxOf x xs
def rMinD (K : PySem.W.Frag) : List V → List V → Hp → VK → Prop := fun vs zs H Q => ∃ (a : Addr) (ns : List Int) (d : Int), vs = [V.ref a] ∧ zs = [V.int d] ∧ SqL K H a (ns.map V.int) ∧ Q (.int (leastOr d ns)) H
def rMaxD (K : PySem.W.Frag) : List V → List V → Hp → VK → Prop := fun vs zs H Q => ∃ (a : Addr) (ns : List Int) (d : Int), vs = [V.ref a] ∧ zs = [V.int d] ∧ SqL K H a (ns.map V.int) ∧ Q (.int (mostOr d ns)) H
theorem hold_ints {h : Heap} {its : List Value} {ns : List Int} (r : IntsAre its ns) : HoldAll h its ns := HoldAll.of_ints r
section
variable {X : Cx} (K : PySem.W.Frag) (hK : X.K = K := by rfl)
include hK
theorem kk_minD (hc : X.calm = true) (hu : X.A.units + 64 < cLine) : CallRK X (.builtin "min") [Str.ofString "default"] (rMinD K) := by
  subst hK
  intro pins s σ H vs zs us ws Q I r rz h
  obtain ⟨a, ns, d, rfl, rfl, hs, q⟩ := h
  obtain ⟨its, rv, hl, _⟩ := I.list hs
  obtain ⟨u, rfl, ru⟩ := vals1 rz
  obtain ⟨t, rfl⟩ := ru
  rw [Vals.ref1 r]
  refine min_list_datum_default (α := Int) (xs := ns) (I.ok.hd hc) hl.isList (hold_ints rv.ints) (by show X.A.units + 1 + 0 < cLine; omega) (fun e h' tk hk => ?_) fun y ys i v h' tk e hi hh hk => ?_
  · subst e
    exact ⟨.int _, H, I.kept hk, ⟨_, rfl⟩, q⟩
  · subst e
    obtain ⟨as, rd⟩ := hh
    have e2 : ∃ t, v = Value.int (minOf y ys) t := by
      cases rd
      exact ⟨_, rfl⟩
    exact ⟨.int _, H, I.kept hk, e2, q⟩
theorem kk_maxD (hc : X.calm = true) (hu : X.A.units + 64 < cLine) : CallRK X (.builtin "max") [Str.ofString "default"] (rMaxD K) := by
  subst hK
  intro pins s σ H vs zs us ws Q I r rz h
  obtain ⟨a, ns, d, rfl, rfl, hs, q⟩ := h
  obtain ⟨its, rv, hl, _⟩ := I.list hs
  obtain ⟨u, rfl, ru⟩ := vals1 rz
  obtain ⟨t, rfl⟩ := ru
  rw [Vals.ref1 r]
  refine max_list_datum_default (α := Int) (xs := ns) (I.ok.hd hc) hl.isList (hold_ints rv.ints) (by show X.A.units + 1 + 0 < cLine; omega) (fun e h' tk hk => ?_) fun y ys i v h' tk e hi hh hk => ?_
  · subst e
    exact ⟨.int _, H, I.kept hk, ⟨_, rfl⟩, q⟩
  · subst e
    obtain ⟨as, rd⟩ := hh
    have e2 : ∃ t, v = Value.int (maxOf y ys) t := by
      cases rd
      exact ⟨_, rfl⟩
    exact ⟨.int _, H, I.kept hk, e2, q⟩
end

/-! ### tuple(text) -/
def signs (x : Str) : List Str := x.cps.toList.map fun c => ⟨#[c]⟩
def rTupS : List V → Hp → VK → Prop := fun vs H Q => ∃ x : Str, vs = [.str x] ∧ x.cps.size ≤ 1000 ∧ ∀ p, H p = none → Q (.ref p) (upd H p (.tup ((signs x).map V.str)))
section
variable {prog : Program} {w : World} {A : Around} {E : Value → Shared → Prop} {s : Shared}
theorem tuple_new_text {Q₁ : Value → Shared → Prop} (hh : A.handled = none) (x : Str) (t : Tok) (few : x.cps.size ≤ 1000)
    (k : ∀ (s1 : Shared) (acc : Array Value), (∀ b o, s.heap.get? b = some o → s1.heap.get? b = some o) → s1.gens = s.gens → s1.os = s.os → ItemsOf (SignAt x) acc x.cps.size → Q₁ (.ref s1.heap.objs.size) { s1 with heap := s1.heap.push { cls := .type "tuple", data := .seq acc } }) :
    codeAny (model prog w) A (.call (.builtin "tuple.__new__") ⟨[.type "tuple", .str x t], []⟩) (wants Q₁ E) s := by
  refine codeAny_of_tree ?_
  show wpAny _ A.in1 (do checkBuiltinCall "tuple.__new__" ⟨[.type "tuple", .str x t], []⟩; again (.builtin "tuple.__new__" ⟨[.type "tuple", .str x t], []⟩)) _ _ s
  refine wpAny_bind (wpAny_of_eq (F.newCall_tuple_1 _) (wpAny_pure ⟨plainId_quiet F.plain_tuple_new _, codeAny_builtin F.entry_tuple_new ?_⟩))
  rw [Around.under_plainId F.plain_tuple_new _]
  have isSub := sub_tuple_self
  have isInit := init_tuple_lookup
  have isMade := madeHere_tuple
  have calm : A.in1.handled = none := hh
  have gather : ∀ {E' : Value → Shared → Prop} {Q' : List Value → Shared → Prop}, (∀ s' acc, (∀ b o, s.heap.get? b = some o → s'.heap.get? b = some o) → s'.gens = s.gens → s'.drawn = s.drawn → s'.os = s.os → ItemsOf (SignAt x) acc x.cps.size → Q' acc.toList s') → wpAny (model prog w) A.in1 (collect (.str x t)) Q' E' s :=
    fun z => wpAny_collect_str calm x t z (by rw [sizeLine_eq]; omega)
  wp_walk using gather
  intro s1 acc z1 z2 z3 z4 z5
  show wpAny _ _ (Builtin.Tuple.tupleExact acc.toList.toArray >>= fun v => ret v) _ _ _
  unfold Builtin.Tuple.tupleExact
  refine wpAny_bind (wpAny_newObj_type ?_ (by show acc.toList.toArray.size ≤ sizeLine; simp only [Array.toArray_toList]; rw [z5.1, sizeLine_eq]; omega))
  refine wpAny_pure ?_
  rw [show acc.toList.toArray = acc by simp]
  exact k s1 acc z1 z2 z4 z5
theorem call_tuple_text {Q : Value → Shared → Prop} (hh : A.handled = none) (x : Str) (t : Tok) (few : x.cps.size ≤ 1000)
    (k : ∀ (s1 : Shared) (acc : Array Value), (∀ b o, s.heap.get? b = some o → s1.heap.get? b = some o) → s1.gens = s.gens → s1.os = s.os → ItemsOf (SignAt x) acc x.cps.size → Q (.ref s1.heap.objs.size) { s1 with heap := s1.heap.push { cls := .type "tuple", data := .seq acc } }) :
    wpAny (model prog w) A (call (.type "tuple") [.str x t]) Q E s := by
  refine callType_codes (Q₁ := fun obj s₁ => s₁.TypeIs obj "tuple" ∧ Q obj s₁) F.called_tuple (F.typeCall_tuple_1 _) F.entry_object_init
    (tuple_new_text (A := A.in1) hh x t few fun s1 acc z1 z2 z3 z4 => ⟨⟨_, Heap.get?_push_size _ rfl, rfl⟩, k s1 acc z1 z2 z3 z4⟩) fun obj s₁ z => ?_
  exact ⟨z.1, F.args_object_init_2 obj _, object_init_meets F.called_tuple.init.lookup F.called_tuple.made (by decide) prog w A.in1 _ s₁ ⟨z.1, rfl, z.2⟩⟩
end
theorem vals_signs {x : Str} {acc : Array Value} (h : ItemsOf (SignAt x) acc x.cps.size) : Vals ((signs x).map V.str) acc.toList := by
  obtain ⟨h1, h2⟩ := h
  refine vals_of_at (by simp [signs, h1]) fun j y u e1 e2 => ?_
  rw [Array.getElem?_toList] at e2
  obtain ⟨c, t, e3, rfl⟩ := h2 j u e2
  rw [List.getElem?_map, signs, List.getElem?_map, Array.getElem?_toList, e3] at e1
  rw [← Option.some.inj e1]
  exact ⟨t, rfl⟩
theorem kc_tupS {X : Cx} (hc : X.calm = true) : CallR X (.type "tuple") rTupS := by
  intro pins s σ H vs us Q I r h
  obtain ⟨x, rfl, few, q⟩ := h
  obtain ⟨u, rfl, t, rfl⟩ := vals1 r
  refine call_tuple_text (I.ok.hd hc) x t few fun s1 acc z1 z2 z3 z4 => ?_
  have I1 := inv_to I ⟨z1, z2, z3⟩
  refine ⟨.ref s1.heap.objs.size, upd H s1.heap.objs.size (.tup ((signs x).map V.str)), inv_new (s' := { s1 with heap := s1.heap.push { cls := .type "tuple", data := .seq acc } }) I1 ⟨fun b o e => Heap.get?_push_of_some _ e, rfl, rfl⟩ (Nat.le_refl _) ⟨?_, acc.toList, vals_signs z4, ⟨_, Heap.get?_push_size _ rfl, rfl, 0, by simp⟩⟩, rfl, q _ (I1.hok.fresh (Nat.le_refl _))⟩
  simp only [signs, List.length_map, Array.length_toList, sizeLine_eq]
  omega

/-! ### sum(tuples, ()) -/
theorem args_sum2 (a b : Value) : argsOk "sum" ⟨[a, b], []⟩ := by unfold argsOk; kernel_rfl
section
variable {prog : Program} {w : World} {A : Around} {E : Value → Shared → Prop} {s : Shared}
theorem plus_tup {a b : Addr} {vs ws : List Value} {Q : Value → Shared → Prop} (ha : IsTup s.heap a vs.toArray) (hb : IsTup s.heap b ws.toArray) (sz : vs.length + ws.length ≤ sizeLine)
    (k : ∀ h' r, (∀ x o, s.heap.get? x = some o → h'.get? x = some o) → IsTup h' r (vs ++ ws).toArray → (r = b ∧ vs = []) ∨ (r = a ∧ ws = []) ∨ s.heap.objs.size ≤ r → Q (.ref r) { s with heap := h' }) : wpAny (model prog w) A (binaryOp .Add (.ref a) (.ref b)) Q E s := by
  by_cases hv : vs = []
  · subst hv
    exact cat_tup0 ha hb (k s.heap b (fun _ _ e => e) hb (.inl ⟨rfl, rfl⟩))
  · refine HT.cat_tup ha hb hv (fun e => ?_) (fun _ => ?_) sz
    · subst e
      exact k s.heap a (fun _ _ e => e) (by rw [List.append_nil]; exact ha) (.inr (.inl ⟨rfl, rfl⟩))
    · exact k _ _ (fun _ _ e => Heap.get?_push_of_some _ e) (IsTup.new _ _) (.inr (.inr (Nat.le_refl _)))
theorem tup_up {h h' : Heap} {a : Addr} {vs : Array Value} (x : IsTup h a vs) (e : ∀ o, h.get? a = some o → h'.get? a = some o) : IsTup h' a vs := by
  obtain ⟨o, ho, r⟩ := x
  exact ⟨o, e o ho, r⟩
theorem sum_loop {R : Result → Shared → Prop} {t I S : Addr} {C : Addr → List Value → Prop} (hh : A.handled = none) (all : List (Addr × List Value)) (tI : t ≠ I) (tS : t ≠ S) (IS : I ≠ S) (big : (all.flatMap (·.2)).length ≤ sizeLine)
    (aI : ∀ p ∈ all, p.1 ≠ I ∧ p.1 ≠ S) (C1 : ∀ p ∈ all, C p.1 p.2) (C2 : ∀ r xs, I ≤ r → C r xs) :
    ∀ (todo : List (Addr × List Value)) (i : Nat) (s : Shared) (r : Addr) (c : Nat) (got : List Value), all.drop i = todo → s.heap.IsTupleIter I t i → s.heap.IsTuple t (all.map fun p => Value.ref p.1).toArray →
    (∀ p ∈ all, IsTup s.heap p.1 p.2.toArray) → IsTup s.heap r got.toArray → C r got → r ≠ I → r ≠ S → got ++ todo.flatMap (·.2) = all.flatMap (·.2) → s.heap.get? S = some { cls := .type "list", dict := none, data := .seq #[.ref r] c, slots := #[] } →
    (∀ h' tk r', (∀ b o, b ≠ I → b ≠ S → s.heap.get? b = some o → h'.get? b = some o) → IsTup h' r' (all.flatMap (·.2)).toArray → C r' (all.flatMap (·.2)) → R (.ok (.ret (.ref r'))) { s with heap := h', toks := tk }) →
    codeAny (model prog w) A (.builtin "sum.loop" ⟨[.ref I, .ref S, rawInt 2, rawInt 0], []⟩) R s
  | [], i, s, r, c, got, hd, isI, isT, tups, isR, cR, rI, rS, hg, isS, k => by
    have hi : all.length ≤ i := List.drop_eq_nil_iff.mp hd
    refine codeAny_builtin F.entry_sum_loop ?_
    rw [Around.under_plainId F.plain_sum_loop _]
    show wpAny _ A.in1 (seqItems? (.ref S) >>= _) _ _ s
    refine wpAny_bind (wpAny_seqItems isS rfl ?_)
    show wpAny _ A.in1 (tryCatch (pyNext (.ref I)) _ >>= _) _ _ s
    refine wpAny_bind (wpAny_tryCatch (wpAny_pyNext_tuple_end (A := A.in1) hh isI isT (by simp; omega) fun h' eb => ?_))
    rw [List.flatMap_nil, List.append_nil] at hg
    subst hg
    exact wpAny_pure (k h' s.toks r (fun b o n1 _ e => eb b o n1 e) (tup_up isR fun o e => eb r o rI e) cR)
  | p :: todo, i, s, r, c, got, hd, isI, isT, tups, isR, cR, rI, rS, hg, isS, k => by
    have hget : all[i]? = some p := by
      have := congrArg (fun l => l[0]?) hd
      simpa using this
    have hmem : p ∈ all := List.mem_of_getElem? hget
    obtain ⟨pI, pS⟩ := aI p hmem
    refine codeAny_builtin F.entry_sum_loop ?_
    rw [Around.under_plainId F.plain_sum_loop _]
    show wpAny _ A.in1 (seqItems? (.ref S) >>= _) _ _ s
    refine wpAny_bind (wpAny_seqItems isS rfl ?_)
    show wpAny _ A.in1 (tryCatch (pyNext (.ref I)) _ >>= _) _ _ s
    refine wpAny_bind (wpAny_tryCatch (wpAny_pyNext_tuple_item (A := A.in1) isI isT (x := .ref p.1) (by simp [hget]) fun h1 isI1 sb1 => ?_))
    show wpAny _ A.in1 (((holding [Value.ref p.1] (binaryOp .Add (.ref r) (.ref p.1))).attempt >>= _) : Sem PySem.Fin) _ _ { s with heap := h1 }
    have sz : got.length + p.2.length ≤ sizeLine := by
      have := congrArg List.length hg
      rw [List.flatMap_cons, List.length_append, List.length_append] at this
      omega
    refine wpAny_bind (wpAny_attempt (wpAny_holding (plus_tup (s := { s with heap := h1 }) (tup_up isR fun o e => (sb1.2 r rI).trans e) (tup_up (tups p hmem) fun o e => (sb1.2 p.1 pI).trans e) sz fun h2 r2 up2 isR2 from2 => ?_)))
    have S1 : h1.get? S = some { cls := .type "list", dict := none, data := .seq #[.ref r] c, slots := #[] } := (sb1.2 S (Ne.symm IS)).trans isS
    have S2 := up2 S _ S1
    have r2S : r2 ≠ S := fun e => by
      obtain ⟨o, ho, hcls, _⟩ := isR2
      rw [e, S2] at ho
      cases ho
      injection hcls with e3
      exact absurd e3 (by decide)
    have r2I : r2 ≠ I := fun e => by
      obtain ⟨o, ho, hcls, _⟩ := isR2
      obtain ⟨o', ho', hcls', _⟩ := isI1
      have z := up2 I o' ho'
      rw [e, z] at ho
      cases ho
      rw [hcls'] at hcls
      injection hcls with e3
      exact absurd e3 (by decide)
    have cR2 : C r2 (got ++ p.2) := by
      rcases from2 with ⟨e1, e2⟩ | ⟨e1, e2⟩ | ge
      · rw [e1, e2]
        exact C1 p hmem
      · rw [e1, e2, List.append_nil]
        exact cR
      · obtain ⟨o', ho', _⟩ := isI1
        exact C2 _ _ (Nat.le_of_lt (Nat.lt_of_lt_of_le (Heap.lt_size ho') ge))
    refine wpAny_bind (wpAny_updateSeq S2 rfl (wpAny_bind (wpAny_letGo ?_)))
    have S3 : (h2.update S (Obj.mapSeq fun _ => #[.ref r2])).get? S = some { cls := .type "list", dict := none, data := .seq #[.ref r2] c, slots := #[] } := Heap.get?_update_self _ S2 rfl
    refine wpAny_bind (wpAny_updateSeq S3 rfl (wpAny_pure ⟨plainId_quiet F.plain_sum_loop _, ?_⟩))
    have low : ∀ b o, b ≠ S → h2.get? b = some o → ((h2.update S (Obj.mapSeq fun _ => #[.ref r2])).update S (Obj.mapSeq fun _ => #[.ref r2])).get? b = some o := fun b o nb e =>
      (Heap.get?_update_other _ _ (Ne.symm nb)).trans ((Heap.get?_update_other _ _ (Ne.symm nb)).trans e)
    have up1 : ∀ b o, b ≠ I → b ≠ S → s.heap.get? b = some o → ((h2.update S (Obj.mapSeq fun _ => #[.ref r2])).update S (Obj.mapSeq fun _ => #[.ref r2])).get? b = some o := fun b o nI nS e =>
      low b o nS (up2 b o ((sb1.2 b nI).trans e))
    refine sum_loop hh all tI tS IS big aI C1 C2 todo (i + 1) _ r2 _ (got ++ p.2) ?_ (isI1.at fun o e => low I o IS (up2 I o e)) (isT.at fun o e => up1 t o tI tS e) (fun q hq => tup_up (tups q hq) fun o e => up1 q.1 o (aI q hq).1 (aI q hq).2 e) (tup_up isR2 fun o e => low r2 o r2S e) cR2 r2I r2S ?_ (Heap.get?_update_self _ S3 rfl) fun h' tk r' hk hr hc => ?_
    · have := congrArg List.tail hd
      rw [List.tail_drop] at this
      simpa using this
    · rw [List.append_assoc, ← List.flatMap_cons (f := fun p : Addr × List Value => p.2)]
      exact hg
    · exact k h' tk r' (fun b o n1 n2 e => hk b o n1 n2 (up1 b o n1 n2 e)) hr hc
theorem sum_tups {x z : Addr} {all : List (Addr × List Value)} {Q : Value → Shared → Prop} (hh : A.handled = none) (isT : s.heap.IsTuple x (all.map fun p => Value.ref p.1).toArray) (isZ : IsTup s.heap z ([] : List Value).toArray) (tups : ∀ p ∈ all, IsTup s.heap p.1 p.2.toArray) (big : (all.flatMap (·.2)).length ≤ sizeLine)
    (k : ∀ h' tk r', (∀ b o, s.heap.get? b = some o → h'.get? b = some o) → IsTup h' r' (all.flatMap (·.2)).toArray → (r', all.flatMap (·.2)) ∈ (z, []) :: all ∨ s.heap.objs.size ≤ r' → Q (.ref r') { s with heap := h', toks := tk }) :
    wpAny (model prog w) A (call (.builtin "sum") [.ref x, .ref z]) Q E s := by
  refine call_function_tree F.kind_sum F.plain_sum F.entry_sum (args_sum2 _ _) ?_
  unfold Builtin.«sum»
  simp only [List.length_cons, List.length_nil]
  rw [if_neg (by decide)]
  refine wpAny_bind (wpAny_of_eq (show Builtin.Builtins.bindParams "sum" ["start"] 0 ⟨[.ref z], []⟩ = pure [some (.ref z)] from rfl) ?_)
  refine wpAny_bind (wpAny_pyIter_tuple isT ?_)
  refine wpAny_bind (wpAny_pure ?_)
  have isZ1 : IsTup (s.heap.push { cls := .type "tuple_iterator", data := .fields #[.ref x, .int 0 0] }) z ([] : List Value).toArray := tup_up isZ fun o e => Heap.get?_push_of_some _ e
  have ty : ({ s with heap := s.heap.push { cls := .type "tuple_iterator", data := .fields #[.ref x, .int 0 0] } } : Shared).TypeIs (.ref z) "tuple" := by
    obtain ⟨o, ho, hcls, _⟩ := isZ1
    exact ⟨o, ho, hcls⟩
  simp only [List.forIn_cons, List.forIn_nil]
  refine wpAny_bind (wpAny_bind (wpAny_bind (wpAny_isInstance (T := "tuple") (b := false) ty PySem.F.sub_tuple_str ?_)))
  simp only [Bool.false_eq_true, if_false]
  refine wpAny_pure (wpAny_bind (wpAny_bind (wpAny_isInstance (T := "tuple") (b := false) ty PySem.F.sub_tuple_bytes ?_)))
  simp only [Bool.false_eq_true, if_false]
  refine wpAny_pure (wpAny_bind (wpAny_bind (wpAny_isInstance (T := "tuple") (b := false) ty PySem.F.sub_tuple_bytearray ?_)))
  simp only [Bool.false_eq_true, if_false]
  refine wpAny_pure (wpAny_pure ?_)
  refine wpAny_bind (wpAny_newObj_type ?_)
  have lx : x < s.heap.objs.size := by
    obtain ⟨o, ho, _⟩ := isT
    exact Heap.lt_size ho
  have lz : z < s.heap.objs.size := by
    obtain ⟨o, ho, _⟩ := isZ
    exact Heap.lt_size ho
  have la : ∀ p ∈ all, p.1 < s.heap.objs.size := fun p hp => by
    obtain ⟨o, ho, _⟩ := tups p hp
    exact Heap.lt_size ho
  have sz1 : (s.heap.push { cls := .type "tuple_iterator", data := .fields #[.ref x, .int 0 0] }).objs.size = s.heap.objs.size + 1 := Heap.size_push ..
  rw [sz1]
  have up : ∀ b o, s.heap.get? b = some o → ((s.heap.push { cls := .type "tuple_iterator", data := .fields #[.ref x, .int 0 0] }).push { cls := .type "list", data := .seq #[.ref z] }).get? b = some o := fun b o e => Heap.get?_push_of_some _ (Heap.get?_push_of_some _ e)
  refine wpAny_pure ⟨plainId_quiet F.plain_sum_loop _, sum_loop (t := x) (I := s.heap.objs.size) (S := s.heap.objs.size + 1) (C := fun r xs => (r, xs) ∈ (z, []) :: all ∨ s.heap.objs.size ≤ r) hh all (Nat.ne_of_lt lx) (Nat.ne_of_lt (Nat.lt_succ_of_lt lx)) (Nat.ne_of_lt (Nat.lt_succ_self _)) big (fun p hp => ⟨Nat.ne_of_lt (la p hp), Nat.ne_of_lt (Nat.lt_succ_of_lt (la p hp))⟩) (fun p hp => .inl (List.mem_cons_of_mem _ hp)) (fun r xs hr => .inr hr) all 0 _ z 0 [] rfl
    ⟨_, Heap.get?_push_of_some _ (Heap.get?_push_size _ rfl), rfl, rfl⟩ (isT.at fun o e => up x o e) (fun p hp => tup_up (tups p hp) fun o e => up p.1 o e) (tup_up isZ fun o e => up z o e) (.inl List.mem_cons_self) (Nat.ne_of_lt lz) (Nat.ne_of_lt (Nat.lt_succ_of_lt lz)) rfl (by rw [← sz1]; exact Heap.get?_push_size _ rfl) fun h' tk r' hk hr hc => ?_⟩
  exact k h' tk r' (fun b o e => by
    have := Heap.lt_size e
    exact hk b o (Nat.ne_of_lt this) (Nat.ne_of_lt (Nat.lt_succ_of_lt this)) (up b o e)) hr hc
end
def backV : Value → V
  | .none => .non
  | .bool b => .bl b
  | .int i _ => .int i
  | .str x _ => .str x
  | .bytes b _ => .byt b
  | .float b _ => .flt b
  | .ref a => .ref a
  | .type n => .ty n
  | _ => .non
theorem rel_back : ∀ {v : V} {u : Value}, RelV v u → v = backV u
  | .non, _, h => by rw [show _ = _ from h]; rfl
  | .bl _, _, h => by rw [show _ = _ from h]; rfl
  | .int _, _, ⟨_, h⟩ => by rw [h]; rfl
  | .str _, _, ⟨_, h⟩ => by rw [h]; rfl
  | .byt _, _, ⟨_, h⟩ => by rw [h]; rfl
  | .flt _, _, ⟨_, h⟩ => by rw [h]; rfl
  | .ref _, _, h => by rw [show _ = _ from h]; rfl
  | .ty _, _, h => by rw [show _ = _ from h]; rfl
theorem rel_one {v w : V} {u : Value} (a : RelV v u) (b : RelV w u) : v = w := (rel_back a).trans (rel_back b).symm
theorem refs_raw : ∀ {as : List Addr} {us : List Value}, Vals (as.map V.ref) us → us = as.map Value.ref
  | [], _, r => by cases r; rfl
  | a :: as, _, r => by
    cases r with
    | cons r1 r2 =>
      rw [show _ = _ from r1, refs_raw r2]
      rfl
theorem vals_one : ∀ {xs ys : List V} {us : List Value}, Vals xs us → Vals ys us → xs = ys
  | _, _, _, .nil, .nil => rfl
  | _, _, _, .cons a r, .cons b t => by rw [rel_one a b, vals_one r t]
/-- sum(t, ()), t a tuple of tuples -/
def rSumT (K : PySem.W.Frag) : List V → Hp → VK → Prop := fun vs H Q => ∃ (x z : Addr) (ps : List (Addr × List V)), vs = [.ref x, .ref z] ∧ SqT K H x (ps.map fun p => V.ref p.1) ∧ SqT K H z [] ∧ (∀ p ∈ ps, SqT K H p.1 p.2) ∧ (ps.flatMap (·.2)).length ≤ 1000 ∧
  (∀ r, (r = z ∧ ps.flatMap (·.2) = [] ∨ (r, ps.flatMap (·.2)) ∈ ps) → Q (.ref r) H) ∧ ∀ r, H r = none → Q (.ref r) (upd H r (.tup (ps.flatMap (·.2))))
theorem lots_raw {X : Cx} {pins : List (Addr × Obj)} {σ : St} {H : Hp} {s : Shared} (I : Inv X pins σ H s) : ∀ (ps : List (Addr × List V)), (∀ p ∈ ps, SqT X.K H p.1 p.2) →
    ∃ all : List (Addr × List Value), all.map (·.1) = ps.map (·.1) ∧ Vals (ps.flatMap (·.2)) (all.flatMap (·.2)) ∧ (∀ p ∈ all, IsTup s.heap p.1 p.2.toArray) ∧ ∀ q ∈ all, ∃ p ∈ ps, p.1 = q.1 ∧ Vals p.2 q.2
  | [], _ => ⟨[], rfl, .nil, fun _ h => absurd h List.not_mem_nil, fun _ h => absurd h List.not_mem_nil⟩
  | p :: ps, h => by
    obtain ⟨all, e1, e2, e3, e4⟩ := lots_raw I ps fun q hq => h q (List.mem_cons_of_mem _ hq)
    obtain ⟨its, rv, isT, _⟩ := I.tuple (h p List.mem_cons_self)
    refine ⟨(p.1, its) :: all, by rw [List.map_cons, List.map_cons, e1], ?_, fun q hq => ?_, fun q hq => ?_⟩
    · rw [List.flatMap_cons, List.flatMap_cons]
      exact rv.append e2
    · rcases List.mem_cons.mp hq with rfl | hq
      · exact isT
      · exact e3 q hq
    · rcases List.mem_cons.mp hq with rfl | hq
      · exact ⟨p, List.mem_cons_self, rfl, rv⟩
      · obtain ⟨p', hp', z⟩ := e4 q hq
        exact ⟨p', List.mem_cons_of_mem _ hp', z⟩
theorem kc_sumT {X : Cx} (K : PySem.W.Frag) (hK : X.K = K := by rfl) (hc : X.calm = true) : CallR X (.builtin "sum") (rSumT K) := by
  subst hK
  intro pins s σ H vs us Q I r h
  obtain ⟨x, z, ps, rfl, hx, hz, hps, few, q1, q2⟩ := h
  obtain ⟨u1, u2, rfl, r1, r2⟩ := vals2 r
  cases r1
  cases r2
  obtain ⟨its, rv, isT, _⟩ := I.tuple hx
  obtain ⟨itz, rz, isZ, _⟩ := I.tuple hz
  cases rz
  obtain ⟨all, e1, e2, e3, e4⟩ := lots_raw I ps hps
  have ei : its = all.map fun p => Value.ref p.1 := by
    have w1 : Vals ((all.map (·.1)).map V.ref) its := by
      rw [e1, List.map_map]
      exact rv
    rw [refs_raw w1, List.map_map]
    rfl
  subst ei
  refine sum_tups (I.ok.hd hc) isT isZ e3 (by rw [← e2.length, sizeLine_eq]; omega) fun h' tk r' keep isR from_ => ?_
  rcases from_ with hm | new
  · have hs : r' = z ∧ ps.flatMap (·.2) = [] ∨ (r', ps.flatMap (·.2)) ∈ ps := by
      rcases List.mem_cons.mp hm with e | hm
      · have ea := congrArg Prod.fst e
        have eb := congrArg Prod.snd e
        simp only at ea eb
        rw [eb] at e2
        cases e2' : ps.flatMap (·.2) with
        | nil => exact .inl ⟨ea, rfl⟩
        | cons _ _ => rw [e2'] at e2; cases e2
      · obtain ⟨p, hp, ep, vp⟩ := e4 _ hm
        simp only at ep vp
        refine .inr ?_
        rw [← vals_one vp e2, ← ep]
        exact hp
    exact ⟨.ref r', H, I.kept keep, rfl, q1 r' hs⟩
  · have hn : H r' = none := I.hok.fresh new
    refine ⟨.ref r', upd H r' (.tup (ps.flatMap (·.2))), I.laid keep new ⟨?_, _, e2, isR⟩, rfl, q2 r' hn⟩
    rw [sizeLine_eq]
    omega
end K21

/-! a call by keywords alone, in the order turned about. -/
namespace K21
open PySem PySem.Spec PyProof.Rows L2 PySem.W
def tTurned (sp : Sp) (E : XK) (tk : TA) : TE := fun σ H Q => tk σ H fun zs H2 => sp zs.reverse H2 Q E
/-- the keywords ks, all the parameters, the last first -/
def Turned (fd : FuncData) (ps ks : List Str) : Prop := ∀ (s : Shared) (ws : List Value), ws.length = ps.length → BindsTo s fd ⟨[], ks.zip ws⟩ (ps.zip ws.reverse)
section
variable {X : Cx} {CX : CXT} {k : Nat} {f : Addr} {fd : FuncData} {ps ks : List Str} {sp : Sp} {E : XK} {x : Str} {p pos : Pos} {kws : List Keyword} {tk : TA}
theorem pe_turned (F : FnOk X.prog X.w X.K X.mg X.base CX k f fd ps sp) (hr : Room k X.A) (hg : Gl X x) (hm : X.mg x = some (.ref f)) (hk : PySem.W.keepIn X.K (.ref f) = true) (hb : Turned fd ps ks) (hx : Passes CX X E) (hkw : PK X kws tk)
    (hall : (backToKw pos (keywordEach kws X.env)).all (·.1.isSome) = true := by rfl) (hks : (backToKw pos (keywordEach kws X.env)).filterMap (·.1) = ks := by rfl) (hdb : (x == ("__debug__" : Str)) = false := by decide)
    (hpl : ((backTo pos (starEach [] X.env)).any (·.1) || (backToKw pos (keywordEach kws X.env)).any (·.1.isNone)) = false := by rfl) :
    PE X (.Call (.Name x p) [] kws pos) (tTurned sp E tk) := by
  refine ⟨fun pins s σ H Q I z => ?_⟩
  refine wpAny_Call_Name_kw (ld_glob I hg hm ?_ hdb)
  refine callWith_KW0 (h₀ := X.base) I.ok.mod.kin hk hall (thn (hkw.run pos pins s σ H _ I z) fun ws s2 ⟨zs, H2, I2, rz, q2⟩ => ⟨I2.kIn, ?_⟩) hpl
  rw [hks]
  have rev : ∀ {as : List V} {bs : List Value}, Vals as bs → Vals as.reverse bs.reverse := fun {as bs} r => by
    induction r with
    | nil => exact .nil
    | cons a _ ih =>
      rw [List.reverse_cons, List.reverse_cons]
      exact ih.append (.cons a .nil)
  have r2 := rev rz
  have len := F.len _ _ _ _ q2
  have lw : ws.length = ps.length := by rw [← len, r2.length, List.length_reverse]
  refine wpAny_call (codeAny_mono (F.run X.A X.stack s2 H2 ⟨[], ks.zip ws⟩ ws.reverse zs.reverse Q E hr I2.env0 (hb s2 ws lw) r2 q2) fun r s' hq => ?_)
  cases r with
  | error e => exact hx pins σ H2 s2 e s' I2 hq
  | ok fl =>
    cases fl <;> first
      | exact I2.after hq
      | exact hq.elim
end
end K21

/-! What the rules' trees evaluate to, by data. -/
namespace K21
open PySem PySem.Spec PyProof.Rows L2 RZ
open NdefX (NTab TabsN TabN)
section
variable {Z : List NTab} {K : PySem.W.Frag} {σ : St} {F F' H : Hp} {te ta tb tl : TE} {tt : TT} {P : Sh} {x y : V} {d e : PyData} {ds es : List PyData} {b c : Bool}

/-! ### isinstance -/
def tyName : PyData → String
  | .none => "NoneType"
  | .bool _ => "bool"
  | .int _ => "int"
  | .str _ => "str"
  | .list _ => "list"
  | .tuple _ => "tuple"
  | .dict _ => "dict"
/-- isinstance(d, T) for these T: int takes bools too -/
def isA (T : String) (d : PyData) : Bool := tyName d == T || (T == "int" && tyName d == "bool")
theorem dp_ty {v : V} (h : Dp K F v d) : TyX K F v (.type (tyName d)) := by
  cases h with
  | non => exact .base .non
  | bl _ => exact .base (.bl _)
  | int _ => exact .base (.int _)
  | str _ => exact .base (.str _)
  | lst hs _ =>
    rcases hs with (hs | ⟨o, hs⟩) | ⟨o, its, n, hs, hc, _⟩
    · exact .base (.lst hs)
    · exact .base (.frz hs)
    · exact .kList hs hc
  | tup hs _ =>
    rcases hs with (hs | ⟨o, hs⟩) | ⟨o, its, n, hs, hc, _⟩
    · exact .base (.tup hs)
    · exact .fTuple hs
    · exact .kTuple hs hc
theorem kit_one {T : String} (hT : T ∈ ["str", "tuple", "list", "int", "bool"]) {v : V} (h : Dp K F v d) : PySem.W.kitOne K (.type (tyName d)) (.type T) = some (isA T d) := by
  refine kit_ty ?_
  have key : ∀ T ∈ ["str", "tuple", "list", "int", "bool"], ∀ n ∈ ["NoneType", "bool", "int", "str", "list", "tuple"], kitB n T = some (n == T || (T == "int" && n == "bool")) := by decide +kernel
  refine key T hT (tyName d) ?_
  cases h <;> simp [tyName]
theorem es_same {H : Hp} {v : V} (s : Sub Z F H) (h : Dp K F v d) : Dp K H v d := dp_mono s.same h
theorem ev_isi {T : String} (h : Ed Z K te σ F d) (hT : T ∈ ["str", "tuple", "list", "int", "bool"] := by decide) : Ev Z (tCB (rIsi K) (tCons te (tCons (tC (.ty T)) tNil))) σ F (.bl (isA T d)) := fun H s Q q =>
  h H s _ fun v F1 H1 g p => ⟨v, .ty T, _, _, _, rfl, .ty T, dp_ty (es_same g.sub p), kit_one hT p, q H1 g.hh⟩
theorem ev_isiT {T U : String} (h : Ed Z K te σ F d) (hT : T ∈ ["str", "tuple", "list", "int", "bool"] := by decide) (hU : U ∈ ["str", "tuple", "list", "int", "bool"] := by decide) :
    Ev Z (tCB (rIsiT K) (tCons te (tCons (tTup (tCons (tC (.ty T)) (tCons (tC (.ty U)) tNil))) tNil))) σ F (.bl (isA T d || isA U d)) := fun H s Q q =>
  h H s _ fun v F1 H1 g p => ⟨(by decide : 2 ≤ sizeLine), fun t ht => by
    have g2 : Ext Z H (upd H1 t (.tup [.ty T, .ty U])) := g.hh.trans (ext_new ht)
    have p2 : Dp K (upd H1 t (.tup [.ty T, .ty U])) v d := dp_mono (same_new ht) (es_same g.sub p)
    refine ⟨v, t, [.ty T, .ty U], _, [.type T, .type U], _, rfl, upd_same, .cons (.ty T) (.cons (.ty U) .nil), dp_ty p2, kitAny_cons (kit_one hT p) (fun e => kitAny_cons (kit_one hU p) (fun e2 => ?_) fun e2 => ?_) fun e => ?_, q _ g2⟩
    · rw [e, e2]; exact kitAny_nil
    · rw [e2, Bool.or_true]
    · rw [e, Bool.true_or]⟩
/-! ### len, all, any -/
theorem ev_lenT (h : Ed Z K te σ F (.tuple ds)) : Ev Z (tCB (rSize K) (tCons te tNil)) σ F (.int (ds.length : Nat)) := fun H s Q q =>
  h H s _ fun v F1 H1 g p => by
    obtain ⟨a, xs, rfl, hs, hx⟩ := dp_tup p
    exact ⟨_, xs.length, rfl, .inr ⟨xs, same_t g.sub.same hs, rfl⟩, by rw [dpa_length hx]; exact q H1 g.hh⟩
theorem ev_lenL (h : Ed Z K te σ F (.list ds)) : Ev Z (tCB (rSize K) (tCons te tNil)) σ F (.int (ds.length : Nat)) := fun H s Q q =>
  h H s _ fun v F1 H1 g p => by
    obtain ⟨a, xs, rfl, hs, hx⟩ := dp_lst p
    exact ⟨_, xs.length, rfl, .inl ⟨xs, same_l g.sub.same hs, rfl⟩, by rw [dpa_length hx]; exact q H1 g.hh⟩
theorem ev_lenS {z : Str} (h : Ev Z te σ F (.str z)) (hz : z.length ≤ 100000) : Ev Z (tCB (rSize K) (tCons te tNil)) σ F (.int (z.length : Nat)) := fun H s Q q =>
  h H s _ fun H1 g => ⟨_, z.length, rfl, ⟨line_le hz, rfl⟩, q H1 g⟩
theorem ev_all {bs : List Bool} (h : El Z te σ F fun xs F => DpAll K F xs (bs.map .bool)) : Ev Z (tCB (rAll K) (tCons te tNil)) σ F (.bl (bs.all id)) := fun H s Q q =>
  h H s _ fun p xs F1 H1 g h0 h1 h2 pd => ⟨p, bs, rfl, by rw [← dpa_bools pd]; exact .inl (.inl h2), q H1 g.hh⟩
theorem ev_any {bs : List Bool} (h : El Z te σ F fun xs F => DpAll K F xs (bs.map .bool)) : Ev Z (tCB (rAny K) (tCons te tNil)) σ F (.bl (bs.any id)) := fun H s Q q =>
  h H s _ fun p xs F1 H1 g h0 h1 h2 pd => ⟨p, bs, rfl, by rw [← dpa_bools pd]; exact .inl (.inl h2), q H1 g.hh⟩
/-! ### tuple(..), list(..), sorted(..) -/
theorem ed_tupOf (h : El Z te σ F fun xs F => DpAll K F xs ds) : Ed Z K (tCB (rTupOf K) (tCons te tNil)) σ F (.tuple ds) := fun H s Q q =>
  h H s _ fun p xs F1 H1 g h0 h1 h2 pd => ⟨p, xs, rfl, .inl ⟨.inl (.inl h2), fun l hl => q (.ref l) (upd F1 l (.tup xs)) (upd H1 l (.tup xs)) (g.trans (Go.new g.sub hl)) (.tup (.inl (.inl upd_same)) (dpa_mono (same_new (g.sub.free hl)) pd))⟩⟩
theorem ed_tupOfL (h : Ed Z K te σ F (.list ds)) : Ed Z K (tCB (rTupOf K) (tCons te tNil)) σ F (.tuple ds) := fun H s Q q =>
  h H s _ fun v F1 H1 g p => by
    obtain ⟨a, xs, rfl, hs, hx⟩ := dp_lst p
    exact ⟨a, xs, rfl, .inl ⟨same_l g.sub.same hs, fun l hl => q (.ref l) (upd F1 l (.tup xs)) (upd H1 l (.tup xs)) (g.trans (Go.new g.sub hl)) (.tup (.inl (.inl upd_same)) (dpa_mono (same_new (g.sub.free hl)) hx))⟩⟩
theorem ed_tupOfT (h : Ed Z K te σ F (.tuple ds)) : Ed Z K (tCB (rTupOf K) (tCons te tNil)) σ F (.tuple ds) := fun H s Q q =>
  h H s _ fun v F1 H1 g p => by
    obtain ⟨a, xs, rfl, hs, hx⟩ := dp_tup p
    exact ⟨a, xs, rfl, .inr ⟨same_t g.sub.same hs, q _ F1 H1 g (.tup hs hx)⟩⟩
theorem ed_tupS {z : Str} (h : Ev Z te σ F (.str z)) (hz : z.cps.size ≤ 1000) : Ed Z K (tCB rTupS (tCons te tNil)) σ F (.tuple ((signs z).map .str)) := fun H s Q q =>
  h H s _ fun H1 g => ⟨z, rfl, hz, fun l hl => q (.ref l) (upd F l (.tup ((signs z).map V.str))) (upd H1 l (.tup ((signs z).map V.str))) (Go.trans (Go.ext s g) (Go.new (s.up g) hl)) (.tup (.inl (.inl upd_same)) strs_dpa)⟩
/-- a list or a tuple -/
def SeqOf (d : PyData) (ds : List PyData) : Prop := d = .list ds ∨ d = .tuple ds
theorem el_listOf (h : Ed Z K te σ F d) (hd : SeqOf d ds) : El Z (tCB (rListOf K) (tCons te tNil)) σ F fun xs F => DpAll K F xs ds := fun H s Q q =>
  h H s _ fun v F1 H1 g p => by
    rcases hd with rfl | rfl
    · obtain ⟨a, xs, rfl, hs, hx⟩ := dp_lst p
      exact ⟨a, xs, rfl, .inl (same_l g.sub.same hs), fun l hl => q l xs F1 (upd H1 l (.lst xs)) (g.trans (Go.ext g.sub (ext_new hl))) (g.back hl) (g.sub.free hl) upd_same hx⟩
    · obtain ⟨a, xs, rfl, hs, hx⟩ := dp_tup p
      exact ⟨a, xs, rfl, .inr (same_t g.sub.same hs), fun l hl => q l xs F1 (upd H1 l (.lst xs)) (g.trans (Go.ext g.sub (ext_new hl))) (g.back hl) (g.sub.free hl) upd_same hx⟩
theorem el_sorted (h : Ed Z K te σ F d) (hd : SeqOf d ds) (hal : PySem.W.AllAlike ds) (hk : SortsOk ds) (hl : Low ds) : El Z (tCB (rSortD K) (tCons te tNil)) σ F fun xs F => DpAll K F xs (dsort ds) := fun H s Q q =>
  h H s _ fun v F1 H1 g p => by
    refine ⟨v, ds, F1, rfl, g.sub.same, ?_, hal, hk, hl, fun l xs hn hx => q l xs F1 (upd H1 l (.lst xs)) (g.trans (Go.ext g.sub (ext_new hn))) (g.back hn) (g.sub.free hn) upd_same hx⟩
    rcases hd with rfl | rfl
    · exact .inl p
    · exact .inr p
end
end K21

/-! More of what the rules' trees evaluate to. -/
namespace K21
open PySem PySem.Spec PyProof.Rows L2 RZ
open NdefX (NTab TabsN TabN)
section
variable {Z : List NTab} {K : PySem.W.Frag} {σ : St} {F F' H : Hp} {te ta tb tc tl : TE} {tt : TT} {P : Sh} {x y : V} {d e : PyData} {ds es : List PyData} {b c : Bool}
/-! ### subscripts, slices -/
theorem ed_ixT {j : Nat} (h : Ed Z K ta σ F (.tuple ds)) (hj : Ev Z tb σ F (.int (j : Nat))) (e : ds[j]? = some d) : Ed Z K (tOp (rIxT K) ta tb) σ F d :=
  es_op h mono_dp hj.sh mono_eq fun u v F1 H1 Q _ s p e2 q => by
    subst e2
    obtain ⟨a, xs, rfl, hs, hx⟩ := dp_tup p
    obtain ⟨v, h1, h2⟩ := dpa_get hx e
    exact ⟨a, xs, _, v, rfl, rfl, same_t s.same hs, atI_nat h1, q v F1 H1 (Go.refl s) h2⟩
theorem ed_ixL {j : Nat} (h : Ed Z K ta σ F (.list ds)) (hj : Ev Z tb σ F (.int (j : Nat))) (e : ds[j]? = some d) : Ed Z K (tOp (rIxL K) ta tb) σ F d :=
  es_op h mono_dp hj.sh mono_eq fun u v F1 H1 Q _ s p e2 q => by
    subst e2
    obtain ⟨a, xs, rfl, hs, hx⟩ := dp_lst p
    obtain ⟨v, h1, h2⟩ := dpa_get hx e
    exact ⟨a, xs, _, v, rfl, rfl, same_l s.same hs, atI_nat h1, q v F1 H1 (Go.refl s) h2⟩
/-- a part of a slice: left out, or a natural number -/
def Eo (Z : List NTab) (to : TO) (σ : St) (F : Hp) (o : Option Nat) : Prop := ∀ H, Sub Z F H → ∀ Q : Option Int → Hp → Prop, (∀ H', Ext Z H H' → Q (o.map fun n => (n : Int)) H') → to σ H Q
theorem eo_none : Eo Z tNoPart σ F none := fun H s Q q => q H Ext.refl
theorem eo_some {n : Nat} (h : Ev Z te σ F (.int (n : Nat))) : Eo Z (tPart te) σ F (some n) := fun H s Q q => h H s _ fun H1 e => ⟨(n : Int), rfl, q H1 e⟩
theorem Eo.up {to : TO} {o : Option Nat} (h : Eo Z to σ F o) (e : Same F F') : Eo Z to σ F' o := fun H s Q q => h H (s.less e) Q q
/-- ds[lo:hi] -/
def cutD {α : Type} (ds : List α) (lo hi : Option Nat) : List α := (ds.drop (min (lo.getD 0) ds.length)).take (min (hi.getD ds.length) ds.length - min (lo.getD 0) ds.length)
theorem cut_same (xs : List V) (lo hi : Option Nat) : cutV xs (lo.map fun n => (n : Int)) (hi.map fun n => (n : Int)) = cutD xs lo hi := by
  unfold cutV cutD
  have a1 : HT.sIx xs.length 0 (lo.map fun n => (n : Int)) = min (lo.getD 0) xs.length := by
    cases lo with
    | none => simp [HT.sIx]
    | some n => exact HT.sIx_nat _ _ n
  have a2 : HT.sIx xs.length xs.length (hi.map fun n => (n : Int)) = min (hi.getD xs.length) xs.length := by
    cases hi with
    | none => simp [HT.sIx]
    | some n => exact HT.sIx_nat _ _ n
  rw [a1, a2]
theorem dpa_cut {xs : List V} {ds : List PyData} (h : DpAll K F xs ds) (lo hi : Option Nat) : DpAll K F (cutD xs lo hi) (cutD ds lo hi) := by
  unfold cutD
  rw [dpa_length h]
  exact dpa_take _ (dpa_drop _ h)
theorem cut_from {α : Type} (ds : List α) (n : Nat) : cutD ds (some n) none = ds.drop n := by
  simp only [cutD, Option.getD_some, Option.getD_none, Nat.min_self]
  by_cases h : n ≤ ds.length
  · rw [Nat.min_eq_left h, List.take_of_length_le (by rw [List.length_drop]; exact Nat.le_refl _)]
  · rw [Nat.min_eq_right (by omega), List.drop_length, List.drop_eq_nil_of_le (by omega), List.take_nil]
theorem cut_to {α : Type} (ds : List α) (n : Nat) : cutD ds none (some n) = ds.take n := by
  simp only [cutD, Option.getD_some, Option.getD_none, Nat.zero_min, List.drop_zero, Nat.sub_zero]
  by_cases h : n ≤ ds.length
  · rw [Nat.min_eq_left h]
  · rw [Nat.min_eq_right (by omega), List.take_length, List.take_of_length_le (by omega)]
theorem ed_slT {to1 to2 : TO} {lo hi : Option Nat} (h : Ed Z K te σ F (.tuple ds)) (h1 : Eo Z to1 σ F lo) (h2 : Eo Z to2 σ F hi) : Ed Z K (tSl (rSlA K) te to1 to2) σ F (.tuple (cutD ds lo hi)) := fun H s Q q =>
  h H s _ fun v F1 H1 g p => h1.up g.ff H1 g.sub _ fun H2 e2 => h2.up g.ff H2 (g.sub.up e2) _ fun H3 e3 => by
    obtain ⟨a, xs, rfl, hs, hx⟩ := dp_tup p
    have s3 := (g.sub.up e2).up e3
    have gg := (g.trans (Go.ext g.sub e2)).trans (Go.ext (g.sub.up e2) e3)
    have hx2 := dpa_cut (lo := lo) (hi := hi) hx
    refine ⟨a, xs, rfl, same_t s3.same hs, fun w => ?_, fun _ p hp => ?_⟩
    · have e : cutD xs lo hi = xs := by
        rw [← cut_same]
        unfold cutV
        rw [w.1, w.2]
        simp
      rw [e] at hx2
      exact q _ F1 H3 gg (.tup hs hx2)
    · rw [cut_same]
      exact q _ (upd F1 p (.tup (cutD xs lo hi))) _ (gg.trans (Go.new s3 hp)) (.tup (.inl (.inl upd_same)) (dpa_mono (same_new (s3.free hp)) hx2))
theorem el_slL {to1 to2 : TO} {lo hi : Option Nat} (h : Ed Z K te σ F (.list ds)) (h1 : Eo Z to1 σ F lo) (h2 : Eo Z to2 σ F hi) : El Z (tSl (rSlL K) te to1 to2) σ F fun xs F => DpAll K F xs (cutD ds lo hi) := fun H s Q q =>
  h H s _ fun v F1 H1 g p => h1.up g.ff H1 g.sub _ fun H2 e2 => h2.up g.ff H2 (g.sub.up e2) _ fun H3 e3 => by
    obtain ⟨a, xs, rfl, hs, hx⟩ := dp_lst p
    have s3 := (g.sub.up e2).up e3
    have gg := (g.trans (Go.ext g.sub e2)).trans (Go.ext (g.sub.up e2) e3)
    have hx2 := dpa_cut (lo := lo) (hi := hi) hx
    refine ⟨a, xs, rfl, same_l s3.same hs, fun p hp => ?_⟩
    rw [cut_same]
    exact q p _ F1 _ (gg.trans (Go.ext s3 (ext_new hp))) (gg.back hp) (s3.free hp) upd_same hx2
/-! ### comparisons -/
theorem ev_eqD (ha : Ed Z K ta σ F d) (hb : Ed Z K tb σ F e) (sd : SeqAt.shaped d = true) (se : SeqAt.shaped e = true) : Ev Z (tOp (rEqD K) ta tb) σ F (.bl (PyData.eqv d e)) :=
  ev_op ha mono_dp hb mono_dp fun u v F1 H1 Q _ s p1 p2 q => ⟨d, e, es_same s p1, es_same s p2, sd, se, q H1 Ext.refl⟩
theorem ev_neD (ha : Ed Z K ta σ F d) (hb : Ed Z K tb σ F e) (sd : SeqAt.shaped d = true) (se : SeqAt.shaped e = true) : Ev Z (tOp (rNeD K) ta tb) σ F (.bl (!PyData.eqv d e)) :=
  ev_op ha mono_dp hb mono_dp fun u v F1 H1 Q _ s p1 p2 q => ⟨d, e, es_same s p1, es_same s p2, sd, se, q H1 Ext.refl⟩
theorem ev_inD (ha : Ed Z K ta σ F d) (hb : Ed Z K tb σ F (.list ds)) (sd : SeqAt.shaped d = true) (se : SeqAt.shaped (.list ds) = true) : Ev Z (tOp (rInD K) ta tb) σ F (.bl (ds.any fun z => PyData.eqv z d)) :=
  ev_op ha mono_dp hb mono_dp fun u v F1 H1 Q _ s p1 p2 q => ⟨d, ds, es_same s p1, es_same s p2, sd, se, q H1 Ext.refl⟩
theorem ev_notInD (ha : Ed Z K ta σ F d) (hb : Ed Z K tb σ F (.list ds)) (sd : SeqAt.shaped d = true) (se : SeqAt.shaped (.list ds) = true) : Ev Z (tOp (rNotInD K) ta tb) σ F (.bl (!ds.any fun z => PyData.eqv z d)) :=
  ev_op ha mono_dp hb mono_dp fun u v F1 H1 Q _ s p1 p2 q => ⟨d, ds, es_same s p1, es_same s p2, sd, se, q H1 Ext.refl⟩
theorem inV_strs (z : Str) : ∀ ss : List Str, inV (.str z) (ss.map V.str) = decide (z ∈ ss)
  | [] => by simp [inV]
  | a :: ss => by
    have ih := inV_strs z ss
    unfold inV at ih ⊢
    rw [List.map_cons, List.any_cons, ih]
    by_cases h : a = z
    · subst h; simp [eqV]
    · have h2 : ¬ z = a := fun q => h q.symm
      simp [eqV, h, h2]
theorem flat_strs (ss : List Str) : (ss.map V.str).all flatV = true := by simp [flatV]
theorem ev_inT {z : Str} {ss : List Str} (ha : Ev Z ta σ F (.str z)) (hb : Ed Z K tb σ F (.tuple (ss.map .str))) : Ev Z (tOp (rIn K false) ta tb) σ F (.bl (decide (z ∈ ss))) :=
  ev_op ha.sh mono_eq hb mono_dp fun u v F1 H1 Q _ s p1 p2 q => by
    subst p1
    obtain ⟨a, xs, rfl, hs, hx⟩ := dp_tup p2
    have e := dpa_strs hx
    subst e
    refine ⟨a, _, rfl, .inr (same_t s.same hs), rfl, flat_strs ss, ?_⟩
    rw [if_neg Bool.false_ne_true, inV_strs]
    exact q H1 Ext.refl
theorem ev_notInT {z : Str} {ss : List Str} (ha : Ev Z ta σ F (.str z)) (hb : Ed Z K tb σ F (.tuple (ss.map .str))) : Ev Z (tOp (rIn K true) ta tb) σ F (.bl (!decide (z ∈ ss))) :=
  ev_op ha.sh mono_eq hb mono_dp fun u v F1 H1 Q _ s p1 p2 q => by
    subst p1
    obtain ⟨a, xs, rfl, hs, hx⟩ := dp_tup p2
    have e := dpa_strs hx
    subst e
    refine ⟨a, _, rfl, .inr (same_t s.same hs), rfl, flat_strs ss, ?_⟩
    rw [if_pos rfl, inV_strs]
    exact q H1 Ext.refl
def rLtS : R2 := fun x y H Q => ∃ i j, x = .str i ∧ y = .str j ∧ Q (.bl (decide (i.cps.toList < j.cps.toList))) H
def rInSign : R2 := fun x y H Q => ∃ (c : Nat) (z : Str), x = .str ⟨#[c]⟩ ∧ y = .str z ∧ Q (.bl (decide (c ∈ z.cps.toList))) H
theorem ev_ltS {i j : Str} (ha : Ev Z ta σ F (.str i)) (hb : Ev Z tb σ F (.str j)) : Ev Z (tOp rLtS ta tb) σ F (.bl (decide (i.cps.toList < j.cps.toList))) := ev_vv ha hb fun _ _ _ q => ⟨i, j, rfl, rfl, q⟩
theorem ev_inSign {i : Nat} {j : Str} (ha : Ev Z ta σ F (.str ⟨#[i]⟩)) (hb : Ev Z tb σ F (.str j)) : Ev Z (tOp rInSign ta tb) σ F (.bl (decide (i ∈ j.cps.toList))) := ev_vv ha hb fun _ _ _ q => ⟨i, j, rfl, rfl, q⟩
/-- a <= b < c and the like, of whole numbers -/
theorem ev_chain {f g : Int → Int → Bool} {i j k : Int} (ha : Ev Z ta σ F (.int i)) (hb : Ev Z tb σ F (.int j)) (hc : Ev Z tc σ F (.int k)) : Ev Z (tChain (rI0 fun i j => .bl (f i j)) (rI0 fun i j => .bl (g i j)) ta tb tc) σ F (.bl (f i j && g j k)) := fun H s Q q =>
  ha H s _ fun H1 e1 => hb H1 (s.up e1) _ fun H2 e2 => ⟨i, j, rfl, rfl, f i j, rfl, by
    cases hf : f i j with
    | false =>
      rw [hf, Bool.false_and] at q
      exact iteF (q H2 (e1.trans e2))
    | true =>
      rw [hf, Bool.true_and] at q
      exact iteT (hc H2 ((s.up e1).up e2) _ fun H3 e3 => ⟨j, k, rfl, rfl, q H3 ((e1.trans e2).trans e3)⟩)⟩
def isNone : PyData → Bool
  | .none => true
  | _ => false
theorem ev_isN (ha : Ed Z K ta σ F d) : Ev Z (tOp (fun x y H Q => y = .non ∧ Q (.bl (decide (x = .non))) H) ta (tC .non)) σ F (.bl (isNone d)) :=
  ev_op ha mono_dp ev_c.sh mono_eq fun u v F1 H1 Q _ s p1 p2 q => ⟨p2, by
    have e : decide (u = V.non) = isNone d := by
      cases p1 <;> simp [isNone]
    rw [e]
    exact q H1 Ext.refl⟩
/-! ### + and * -/
/-- a list that is frozen as it was laid -/
def Fl (K : PySem.W.Frag) (ds : List PyData) : Sh := fun v F => ∃ a xs, v = .ref a ∧ F a = some (.lst xs) ∧ DpAll K F xs ds
theorem mono_fl : Mono (Fl K ds) := fun v F F' e ⟨a, xs, h1, h2, h3⟩ => ⟨a, xs, h1, e a _ h2, dpa_mono e h3⟩
theorem El.fl (h : El Z te σ F fun xs F => DpAll K F xs ds) : Es Z te σ F (Fl K ds) := fun H s Q q =>
  h H s Q fun p xs F1 H1 g h0 hf hp pd => q (.ref p) (upd F1 p (.lst xs)) H1 (g.freeze h0 hp) ⟨p, xs, rfl, upd_same, dpa_mono (same_new hf) pd⟩
theorem Es.dp (h : Es Z te σ F (Fl K ds)) : Ed Z K te σ F (.list ds) := h.imp fun v F' _ ⟨a, xs, h1, h2, h3⟩ => by
  subst h1
  exact .lst (.inl (.inl h2)) h3
theorem el_cat (ha : Es Z ta σ F (Fl K ds)) (hb : Es Z tb σ F (Fl K es)) (hl : ds.length + es.length ≤ 100000) : El Z (tOp rCat ta tb) σ F fun xs F => DpAll K F xs (ds ++ es) := fun H s Q q =>
  ha H s _ fun u F1 H1 g1 p1 => hb.up mono_fl g1.ff H1 g1.sub _ fun v F2 H2 g2 p2 => by
    obtain ⟨a, xs, rfl, e1, d1⟩ := mono_fl _ _ _ g2.ff p1
    obtain ⟨b, ys, rfl, e2, d2⟩ := p2
    have gg := g1.trans g2
    refine ⟨a, b, xs, ys, rfl, rfl, g2.sub.same _ _ e1, g2.sub.same _ _ e2, by rw [dpa_length d1, dpa_length d2]; exact line_le hl, fun p hp => ?_⟩
    exact q p (xs ++ ys) F2 _ (gg.trans (Go.ext g2.sub (ext_new hp))) (gg.back hp) (g2.sub.free hp) upd_same (dpa_app d1 d2)
theorem dpa_rep {xs : List V} (h : DpAll K F xs ds) : ∀ n : Nat, DpAll K F (List.replicate n xs).flatten (List.replicate n ds).flatten
  | 0 => .nil
  | n + 1 => by
    rw [List.replicate_succ, List.replicate_succ, List.flatten_cons, List.flatten_cons]
    exact dpa_app h (dpa_rep h n)
theorem el_rep {n : Nat} (ha : Es Z ta σ F (Fl K ds)) (hb : Ev Z tb σ F (.int (n : Nat))) (hl : ds.length * n ≤ 100000) (hn : n ≤ 100000) : El Z (tOp rRep ta tb) σ F fun xs F => DpAll K F xs (List.replicate n ds).flatten := fun H s Q q =>
  ha H s _ fun u F1 H1 g1 p1 => hb.up g1.ff H1 g1.sub _ fun H2 e2 => by
    obtain ⟨a, xs, rfl, e1, d1⟩ := p1
    have s2 := g1.sub.up e2
    have gg := g1.trans (Go.ext g1.sub e2)
    refine ⟨a, (n : Int), xs, rfl, rfl, s2.same _ _ e1, by omega, by omega, by rw [dpa_length d1, Int.toNat_natCast]; exact line_le hl, fun p hp => ?_⟩
    rw [Int.toNat_natCast]
    exact q p _ F1 _ (gg.trans (Go.ext s2 (ext_new hp))) (gg.back hp) (s2.free hp) upd_same (dpa_rep d1 n)
theorem ed_catT (ha : Ed Z K ta σ F (.tuple ds)) (hb : Ed Z K tb σ F (.tuple es)) (hl : ds.length + es.length ≤ 100000) : Ed Z K (tOp (rCatA K) ta tb) σ F (.tuple (ds ++ es)) :=
  es_op ha mono_dp hb mono_dp fun u v F1 H1 Q _ s p1 p2 q => by
    obtain ⟨a, xs, rfl, hs, hx⟩ := dp_tup p1
    obtain ⟨b, ys, rfl, hs2, hy⟩ := dp_tup p2
    refine ⟨a, b, xs, ys, rfl, rfl, same_t s.same hs, same_t s.same hs2, by rw [dpa_length hx, dpa_length hy]; exact line_le hl, fun e => ?_, fun _ e => ?_, fun _ _ p hp => ?_⟩
    · subst e
      cases hx
      exact q _ F1 H1 (Go.refl s) (.tup hs2 hy)
    · subst e
      cases hy
      rw [List.append_nil] at q
      exact q _ F1 H1 (Go.refl s) (.tup hs hx)
    · exact q _ (upd F1 p (.tup (xs ++ ys))) _ (Go.new s hp) (.tup (.inl (.inl upd_same)) (dpa_mono (same_new (s.free hp)) (dpa_app hx hy)))
/-! ### whole numbers -/
theorem ev_int1 {i : Int} (h : Ev Z te σ F (.int i)) : Ev Z (tCB rInt1 (tCons te tNil)) σ F (.int i) := fun H s Q q => h H s _ fun H1 e => .inl ⟨i, rfl, q H1 e⟩
theorem ev_intB {b : Bool} (h : Ev Z te σ F (.bl b)) : Ev Z (tCB rInt1 (tCons te tNil)) σ F (.int (if b then 1 else 0)) := fun H s Q q => h H s _ fun H1 e => .inr ⟨b, rfl, q H1 e⟩
theorem ev_abs {i : Int} (h : Ev Z te σ F (.int i)) : Ev Z (tCB rAbs (tCons te tNil)) σ F (.int (if i < 0 then -i else i)) := fun H s Q q => h H s _ fun H1 e => ⟨i, rfl, q H1 e⟩
end
end K21

/-! Tuples whose objects are known to have no dict of their own: tuple.index. -/
namespace K21
open PySem PySem.Spec PyProof.Rows L2 RZ
open NdefX (NTab TabsN TabN)
/-- tuple(list): the very object is known -/
def rTupOfP (K : PySem.W.Frag) : List V → Hp → VK → Prop := fun xs H Q => ∃ p ys, xs = [.ref p] ∧ SqL K H p ys ∧ ∀ l o, H l = none → o.dict = none → Q (.ref l) (upd H l (.frz o (.tup ys)))
section
variable {X : Cx} (K : PySem.W.Frag) (hK : X.K = K := by rfl)
include hK
theorem kc_tupOfP : CallR X (.type "tuple") (rTupOfP K) := by
  subst hK
  intro pins s σ H vs us Q I r h
  obtain ⟨p, ys, rfl, hs, q⟩ := h
  obtain ⟨u, rfl, ru⟩ := vals1 r
  cases ru
  obtain ⟨its, rv, pl, hz⟩ := I.list hs
  refine call_tuple_list pl.isList (fun h1 keep => ?_) (by rw [List.size_toArray, ← rv.length]; exact hz)
  have I1 : Inv X pins σ H { s with heap := h1 } := I.kept (t' := s.toks) keep
  have new : (h1.push { cls := .type "tuple", data := .seq its.toArray }).get? h1.objs.size = some { cls := .type "tuple", data := .seq its.toArray } := Heap.get?_push_size _ rfl
  have I2 : Inv X pins σ (upd H h1.objs.size (.frz { cls := .type "tuple", data := .seq its.toArray } (.tup ys))) { s with heap := h1.push { cls := .type "tuple", data := .seq its.toArray } } :=
    I1.laid (t' := s.toks) (fun b o e => Heap.get?_push_of_some _ e) (Nat.le_refl _) ⟨new, hz, its, rv, IsTup.new _ _⟩
  exact ⟨.ref h1.objs.size, _, I2, rfl, q _ _ (I1.hok.fresh (Nat.le_refl _)) rfl⟩
end
/-- .. and its items are data -/
def Pt (K : PySem.W.Frag) (ds : List PyData) : Sh := fun v F => ∃ a o xs, v = .ref a ∧ F a = some (.frz o (.tup xs)) ∧ o.dict = none ∧ DpAll K F xs ds
section
variable {Z : List NTab} {K : PySem.W.Frag} {σ : St} {F F' H : Hp} {te ta tb : TE} {d : PyData} {ds : List PyData}
theorem mono_pt : Mono (Pt K ds) := fun v F F' e ⟨a, o, xs, h1, h2, h3, h4⟩ => ⟨a, o, xs, h1, e a _ h2, h3, dpa_mono e h4⟩
theorem Pt.dp {v : V} (h : Pt K ds v F) : Dp K F v (.tuple ds) := by
  obtain ⟨a, o, xs, rfl, h2, _, h4⟩ := h
  exact .tup (.inl (.inr ⟨o, h2⟩)) h4
theorem es_tupOfP (h : El Z te σ F fun xs F => DpAll K F xs ds) : Es Z (tCB (rTupOfP K) (tCons te tNil)) σ F (Pt K ds) := fun H s Q q =>
  h H s _ fun p xs F1 H1 g h0 h1 h2 pd => ⟨p, xs, rfl, .inl (.inl h2), fun l o hl ho => q (.ref l) (upd F1 l (.frz o (.tup xs))) (upd H1 l (.frz o (.tup xs))) (g.trans (Go.new g.sub hl)) ⟨l, o, xs, rfl, upd_same, ho, dpa_mono (same_new (g.sub.free hl)) pd⟩⟩
def tIndex (K : PySem.W.Frag) (to te : TE) : TE := fun σ H Q => to σ H fun x H1 => (∃ a o xs, x = .ref a ∧ H1 a = some (.frz o (.tup xs)) ∧ o.dict = none) ∧ te σ H1 fun y H2 => rIndexT K x [y] H2 Q
theorem ev_index {z : Str} {ss : List Str} {j : Nat} (ha : Es Z ta σ F (Pt K (ss.map .str))) (hb : Ev Z tb σ F (.str z)) (h1 : ss[j]? = some z) (h2 : ∀ m, m < j → ss[m]? ≠ some z) : Ev Z (tIndex K ta tb) σ F (.int (j : Nat)) := fun H s Q q =>
  ha H s _ fun u F1 H1 g1 p1 => by
    obtain ⟨a, o, xs, rfl, e1, e2, e3⟩ := p1
    refine ⟨⟨a, o, xs, rfl, g1.sub.same _ _ e1, e2⟩, hb.up g1.ff H1 g1.sub _ fun H2 g2 => ⟨a, ss, z, j, rfl, rfl, ?_, h1, h2, q H2 (g1.hh.trans g2)⟩⟩
    rw [← dpa_strs e3]
    exact same_t (g1.sub.up g2).same (.inl (.inr ⟨o, e1⟩))
end
theorem ke_index {X : Cx} (K : PySem.W.Frag) (hK : X.K = K := by rfl) {o : Expr} {to : TE} {e : Expr} {te : TE} {apos cpos : Pos} (ho : PE X o to) (he : PE X e te)
    (hbase : attributeBase o "index" X.env (eval o X.env) = eval o X.env := by rfl) (hline : (apos.endLine == cpos.line) = true := by rfl) (hs : starEach [e] X.env = (false, eval e X.env) :: starEach [] X.env := by rfl)
    (hfew : ((backTo cpos (starEach [e] X.env)).all (fun x => !x.1) && (backToKw cpos (keywordEach [] X.env)).all (fun x => x.1.isSome) && decide (([e] : List Expr).length + ([] : List Keyword).length + (if ([] : List Keyword).isEmpty then 0 else 1) < 30)) = true := by rfl) :
    PE X (.Call (.Attribute o "index" apos) [e] [] cpos) (tIndex K to te) := by
  subst hK
  refine ⟨fun pins s σ H Q I z => ?_⟩
  refine wpAny_Call_method_late hbase hfew hline rfl (thn (ho.run pins s σ H _ I z) fun v s1 ⟨x, H1, I1, r1, ⟨a, ob, xs, ex, ea, ed⟩, q1⟩ => ?_)
  subst ex
  obtain rfl : v = Value.ref a := r1
  obtain ⟨hg, _, _, _, ⟨o2, hg2, hc2, _⟩⟩ := (show ObjOk X.prog X.w H1 s1.heap a (.frz ob (.tup xs)) from I1.hok a _ ea)
  refine ⟨"tuple", _, PySem.F.plainAttrs_tuple, PySem.F.slot_tuple_index, PySem.F.type_tuple_index, ⟨o2, hg2, hc2⟩, fun b eb => ?_, ?_⟩
  · cases eb
    exact ⟨ob, hg, ed⟩
  have hA := (pa_cons he pa_nil hs).run cpos pins s1 σ H1 (fun vs G => rIndexT X.K (.ref a) vs G Q) I1 q1
  rw [hs] at hA ⊢
  refine Calls.callWith_builtin rfl (Calls.evalArgs_plain ?_)
  exact thn hA fun us s2 ⟨vs, H2, I2, r2, q2⟩ => mt_tup_index pins s2 σ H2 (.ref a) vs _ us Q I2 rfl r2 q2
end K21

/-! Dicts by data; loops. -/
namespace K21
open PySem PySem.Spec PyProof.Rows L2 RZ
open NdefX (NTab TabsN TabN)
abbrev WL := List (Str × PyData)
def wlook (ws : WL) (k : Str) : Option PyData := (ws.find? fun w => decide (w.1 = k)).map (·.2)
def KvD (K : PySem.W.Frag) (F : Hp) (kvs : List (Key × V)) (ws : WL) : Prop := Paired (fun (kv : Key × V) (w : Str × PyData) => kv.1 = Sum.inr w.1 ∧ Dp K F kv.2 w.2) kvs ws
def Wd (K : PySem.W.Frag) (ws : WL) : Sh := fun v F => ∃ a kvs, v = .ref a ∧ F a = some (.dK kvs) ∧ KvD K F kvs ws
section
variable {Z : List NTab} {K : PySem.W.Frag} {σ : St} {F F' H : Hp} {te ta tb td ty tx : TE} {tt : TT} {d : PyData} {ds : List PyData} {ws : WL} {k : Str}
theorem kvd_mono (e : Same F F') : ∀ {kvs : List (Key × V)} {ws : WL}, KvD K F kvs ws → KvD K F' kvs ws
  | _, _, .nil => .nil
  | _, _, .cons ⟨h1, h2⟩ t => .cons ⟨h1, dp_mono e h2⟩ (kvd_mono e t)
theorem mono_wd : Mono (Wd K ws) := fun v F F' e ⟨a, kvs, h1, h2, h3⟩ => ⟨a, kvs, h1, e a _ h2, kvd_mono e h3⟩
theorem kvd_look (k : Str) : ∀ {kvs : List (Key × V)} {ws : WL}, KvD K F kvs ws → (valV kvs (Sum.inr k) = none ∧ wlook ws k = none) ∨ ∃ v d, valV kvs (Sum.inr k) = some v ∧ wlook ws k = some d ∧ Dp K F v d
  | _, _, .nil => .inl ⟨rfl, rfl⟩
  | kv :: _, w :: ws, .cons ⟨h1, h2⟩ t => by
    by_cases e : w.1 = k
    · refine .inr ⟨kv.2, w.2, valV_pos (by rw [h1, e]), ?_, h2⟩
      simp [wlook, List.find?_cons, e]
    · have e1 : ¬ kv.1 = Sum.inr k := fun q => e (by rw [h1] at q; exact Sum.inr.inj q)
      have e2 : wlook (w :: ws) k = wlook ws k := by simp [wlook, List.find?_cons, e]
      rw [valV_neg e1, e2]
      exact kvd_look k t
theorem ed_dget (hd : Es Z td σ F (Wd K ws)) (hk : Ev Z ty σ F (.str k)) (e : wlook ws k = some d) : Ed Z K (tDGet td ty) σ F d := fun H s Q q =>
  hd H s _ fun u F1 H1 g1 p1 => hk.up g1.ff H1 g1.sub _ fun H2 e2 => by
    obtain ⟨a, kvs, rfl, h1, h2⟩ := p1
    have s2 := g1.sub.up e2
    rcases kvd_look k h2 with ⟨_, z⟩ | ⟨v, d', z1, z2, z3⟩
    · rw [e] at z; cases z
    · rw [e] at z2
      cases z2
      refine ⟨a, v, rfl, ?_, q v F1 H2 (g1.trans (Go.ext g1.sub e2)) z3⟩
      rw [← z1]
      exact DGet.k (k := Sum.inr k) (s2.same _ _ h1)
theorem ev_din (hd : Es Z td σ F (Wd K ws)) (hk : Ev Z ty σ F (.str k)) : Ev Z (tDIn ty td) σ F (.bl (wlook ws k).isSome) := fun H s Q q =>
  hk H s _ fun H1 e1 => hd H1 (s.up e1) _ fun u F2 H2 g2 p2 => by
    obtain ⟨a, kvs, rfl, h1, h2⟩ := p2
    refine ⟨a, valV kvs (Sum.inr k), rfl, DGet.k (k := Sum.inr k) (g2.sub.same _ _ h1), ?_⟩
    have e : (valV kvs (Sum.inr k)).isSome = (wlook ws k).isSome := by
      rcases kvd_look k h2 with ⟨z1, z2⟩ | ⟨v, d', z1, z2, z3⟩ <;> rw [z1, z2] <;> rfl
    rw [e]
    exact q H2 (e1.trans g2.hh)
theorem ed_dget2 {dx : PyData} (hd : Es Z td σ F (Wd K ws)) (hk : Ev Z ty σ F (.str k)) (hx : Ed Z K tx σ F dx) : Ed Z K (tDGet2 td ty tx) σ F ((wlook ws k).getD dx) := fun H s Q q =>
  hd H s _ fun u F1 H1 g1 p1 => by
    obtain ⟨a, kvs, rfl, h1, h2⟩ := p1
    refine ⟨a, rfl, .inl ⟨kvs, .inl (g1.sub.same _ _ h1)⟩, hk.up g1.ff H1 g1.sub _ fun H2 e2 => hx.up g1.ff H2 (g1.sub.up e2) _ fun z F3 H3 g3 p3 => ?_⟩
    have gg := (g1.trans (Go.ext g1.sub e2)).trans g3
    refine ⟨valV kvs (Sum.inr k), DGet.k (k := Sum.inr k) (g3.sub.same _ _ (g3.ff _ _ h1)), ?_⟩
    rcases kvd_look k h2 with ⟨z1, z2⟩ | ⟨v, d', z1, z2, z3⟩
    · rw [z2] at q
      rw [z1]
      exact q z F3 H3 gg p3
    · rw [z2] at q
      rw [z1]
      exact q v F3 H3 gg (dp_mono g3.ff z3)
theorem valV_none_of {kvs : List (Key × V)} {ws : WL} (h : KvD K F kvs ws) (hk : k ∉ ws.map (·.1)) : valV kvs (Sum.inr k) = none := by
  rcases kvd_look k h with ⟨z, _⟩ | ⟨v, d', _, z2, _⟩
  · exact z
  · refine absurd ?_ hk
    unfold wlook at z2
    obtain ⟨w, hw, _⟩ := Option.map_eq_some_iff.mp z2
    have h1 := List.mem_of_find?_eq_some hw
    have h2 := List.find?_some hw
    exact List.mem_map.mpr ⟨w, h1, of_decide_eq_true h2⟩
theorem kvd_snoc {kvs : List (Key × V)} {ws : WL} {v : V} (h : KvD K F kvs ws) (p : Dp K F v d) : KvD K F (kvs ++ [(Sum.inr k, v)]) (ws ++ [(k, d)]) := paired_snoc h ⟨rfl, p⟩
/-- {k: v for target in walk}: no key twice -/
theorem es_dc {α : Type} {ls : List α} {T : α → Sh} {wi : TI} {g : TG} {tk tv : TE} {vs : List Nat} (kf : α → Str) (vf : α → PyData) (hw : IW Z wi σ F ls T) (hz : ls.length ≤ 50000) (nd : (ls.map kf).Nodup)
    (turn : ∀ l x F1 H1, l ∈ ls → Same F F1 → Sub Z F1 H1 → T l x F1 → g x (wipe σ vs) H1 fun σ2 H2 => H2 = H1 ∧ wipe σ2 vs = wipe σ vs ∧ Ev Z tk σ2 F1 (.str (kf l)) ∧ Ed Z K tv σ2 F1 (vf l))
    (gm : ∀ x σ H (Q Q' : St → Hp → Prop), (∀ σ' H', Q σ' H' → Q' σ' H') → g x σ H Q → g x σ H Q') :
    Es Z (tDc wi g tYes tk tv vs) σ F (Wd K (ls.map fun l => (kf l, vf l))) := fun H s Q q =>
  hw H s _ fun J F1 H1 g1 ⟨G, Y, w, hG, hY⟩ => fun D hD => by
    have key : ∀ l : α, kf l = ((fun l => (kf l, vf l)) l).1 := fun _ => rfl
    refine ⟨fun i m H => m = ls.length - i ∧ i ≤ ls.length ∧ ∃ F2 kvs, Go Z F1 H1 F2 H ∧ F2 D = none ∧ H D = some (.dK kvs) ∧ KvD K F2 kvs ((ls.take i).map fun l => (kf l, vf l)), ⟨ls.length, by simp, Nat.zero_le _, F1, [], Go.ext g1.sub (ext_new hD), g1.sub.free hD, upd_same, .nil⟩, ?_⟩
    rintro i m H2 ⟨rfl, hi, F2, kvs, a, f2, d2, p2⟩
    by_cases hlt : i < ls.length
    · obtain ⟨l, hl⟩ := get_of_lt hlt
      refine .inr ⟨w.goes i H2 hlt (hG H2 a.fh.same), fun H => ∃ F2 kvs, Go Z F1 H1 F2 H ∧ F2 D = none ∧ H D = some (.dK kvs) ∧ KvD K F2 kvs ((ls.take (i + 1)).map fun l => (kf l, vf l)), fun H' p' => ⟨ls.length - (i + 1), by omega, rfl, hlt, p'⟩, fun x H3 y => ?_⟩
      obtain ⟨F3, b3, t3⟩ := hY i l x F2 H2 H3 hl a.ff a.sub (w.yields i H2 x H3 hlt (hG H2 a.fh.same) y)
      refine gm _ _ _ _ _ (fun σ2 H3' => ?_) (turn l x F3 H3 (mem_of_get hl) (g1.ff.trans (a.ff.trans b3.ff)) b3.sub t3)
      rintro ⟨rfl, hwp, hk, hv⟩
      refine ⟨hwp, tyes_if (A := fun H4 => tk σ2 H4 _) (B := fun _ => _) ?_⟩
      refine hk H3' b3.sub _ fun H4 e4 => hv H4 (b3.sub.up e4) _ fun z F5 H5 g5 p5 => ?_
      have b5 := (b3.trans (Go.ext b3.sub e4)).trans g5
      have d5 : H5 D = some (.dK kvs) := b5.hh.dK d2
      have f5 : F5 D = none := b5.none_of d2 f2
      have p5' := kvd_mono b5.ff p2
      have fresh : kf l ∉ ((ls.take i).map fun l => (kf l, vf l)).map (·.1) := by
        intro hm
        rw [List.map_map] at hm
        obtain ⟨l', hl', e'⟩ := List.mem_map.mp hm
        obtain ⟨j, hj⟩ := List.mem_iff_getElem?.mp hl'
        have hji : j < i := by
          have := lt_of_get hj
          rw [List.length_take] at this
          omega
        rw [List.getElem?_take, if_pos hji] at hj
        have n1 : (ls.map kf)[j]? = some (kf l) := by rw [List.getElem?_map, hj]; exact congrArg some e'
        have n2 : (ls.map kf)[i]? = some (kf l) := by rw [List.getElem?_map, hl]; rfl
        obtain ⟨hj1, hj2⟩ := List.getElem?_eq_some_iff.mp n1
        obtain ⟨hi1, hi2⟩ := List.getElem?_eq_some_iff.mp n2
        exact absurd (hj2.trans hi2.symm) (List.pairwise_iff_getElem.mp nd j i hj1 hi1 hji)
      have hkl : kvs.length < sizeLine := by
        refine line_lt ?_
        rw [← paired_len p2, List.length_map, List.length_take]
        omega
      refine ⟨kvs, Sum.inr (kf l), rfl, d5, hkl, F5, putK kvs (Sum.inr (kf l)) z, (a.trans b5).mutD hD f5 d5, f5, upd_same, ?_⟩
      rw [putK_new z (valV_none_of p5' fresh), take_more hl, List.map_append]
      exact kvd_snoc p5' p5
    · have ei : i = ls.length := by omega
      subst ei
      rw [List.take_length] at p2
      refine .inl ⟨w.stops H2 (hG H2 a.fh.same), ?_⟩
      have gg := (g1.trans a).freeze (g1.back hD) d2
      exact q (.ref D) _ H2 gg ⟨D, kvs, rfl, upd_same, kvd_mono (same_new f2) p2⟩
/-- dict(list of pairs): no key twice -/
theorem merge_new {kvs more : List (Key × V)} {ws ws2 : WL} (h : KvD K F kvs ws) (h2 : KvD K F more ws2) (nd : ((ws ++ ws2).map (·.1)).Nodup) : mergeK kvs more = kvs ++ more := by
  induction h2 generalizing kvs ws with
  | nil => simp [mergeK]
  | @cons kv w more ws2 a t ih =>
    obtain ⟨e1, e2⟩ := a
    have fresh : w.1 ∉ ws.map (·.1) := by
      rw [List.map_append, List.nodup_append] at nd
      intro hm
      exact nd.2.2 _ hm _ (by simp) rfl
    have e : putK kvs kv.1 kv.2 = kvs ++ [kv] := by
      rw [e1, putK_new kv.2 (valV_none_of h fresh), ← e1]
    show mergeK (putK kvs kv.1 kv.2) more = _
    rw [e, ih (ws := ws ++ [w]) (paired_snoc h ⟨e1, e2⟩) (by simpa using nd)]
    simp
theorem dpa_pairs : ∀ {ws : WL} {xs : List V}, DpAll K F xs (ws.map fun w => .tuple [.str w.1, w.2]) → ∃ (ps : List Addr) (kvs : List (Key × V)), xs = ps.map V.ref ∧ Paired (fun p kv => SqT K F p [kV kv.1, kv.2]) ps kvs ∧ KvD K F kvs ws
  | [], _, h => by cases h; exact ⟨[], [], rfl, .nil, .nil⟩
  | w :: ws, _, h => by
    cases h with
    | cons h1 h2 =>
      obtain ⟨ps, kvs, e1, e2, e3⟩ := dpa_pairs h2
      obtain ⟨a, ys, rfl, hs, hy⟩ := dp_tup h1
      cases hy with
      | cons y1 hy =>
        cases hy with
        | cons y2 hy =>
          cases hy
          rw [dp_str y1] at hs
          exact ⟨a :: ps, (Sum.inr w.1, _) :: kvs, by rw [e1]; rfl, .cons hs e2, .cons ⟨rfl, y2⟩ e3⟩
theorem es_dictP (h : El Z te σ F fun xs F => DpAll K F xs (ws.map fun w => .tuple [.str w.1, w.2])) (nd : (ws.map (·.1)).Nodup) : Es Z (tCB (rDictP K) (tCons te tNil)) σ F (Wd K ws) := fun H s Q q =>
  h H s _ fun p xs F1 H1 g h0 h1 h2 pd => by
    obtain ⟨ps, kvs, rfl, e2, e3⟩ := dpa_pairs pd
    refine ⟨p, ps, kvs, rfl, .inl (.inl h2), ?_, fun l hl => ?_⟩
    · clear e3 h2 pd
      induction e2 with
      | nil => exact .nil
      | cons a t ih => exact .cons (same_t g.sub.same a) ih
    · have e : mergeK [] kvs = kvs := by
        have := merge_new (kvs := []) (ws := []) .nil e3 (by simpa using nd)
        simpa using this
      rw [e]
      exact q (.ref l) (upd F1 l (.dK kvs)) _ (g.trans (Go.new g.sub hl)) ⟨l, kvs, rfl, upd_same, kvd_mono (same_new (g.sub.free hl)) e3⟩
end

/-! ### for -/
section
variable {Z : List NTab} {K : PySem.W.Frag} {σ : St} {F H : Hp} {wi : TI} {g : TG} {tb : TS} {D : Ends}
theorem s_for {α : Type} {ls : List α} {T : α → Sh} (hw : IW Z wi σ F ls T) (s : Sub Z F H) (Iv : Nat → St → Hp → Hp → Prop)
    (h0 : ∀ F1 H1, Go Z F H F1 H1 → Iv 0 σ F1 H1)
    (turn : ∀ i l σ1 F1 H1 x F2 H2, ls[i]? = some l → Sub Z F1 H1 → Iv i σ1 F1 H1 → Go Z F1 H1 F2 H2 → T l x F2 →
      g x σ1 H2 fun σ2 H3 => tb { D with nx := fun σ4 H4 => ∃ F4, Same F1 F4 ∧ Sub Z F4 H4 ∧ Iv (i + 1) σ4 F4 H4, ct := fun σ4 H4 => ∃ F4, Same F1 F4 ∧ Sub Z F4 H4 ∧ Iv (i + 1) σ4 F4 H4, bk := D.nx } σ2 H3)
    (done : ∀ σ1 F1 H1, Sub Z F1 H1 → Iv ls.length σ1 F1 H1 → D.nx σ1 H1) : tFor wi g tb D σ H :=
  hw H s _ fun J F0 H0 g0 ⟨G, Y, w, hG, hY⟩ => by
    refine ⟨fun i m σ1 H1 => m = ls.length - i ∧ i ≤ ls.length ∧ ∃ F1, Same F0 F1 ∧ Sub Z F1 H1 ∧ Iv i σ1 F1 H1, ⟨ls.length, by simp, Nat.zero_le _, F0, Same.refl _, g0.sub, h0 F0 H0 g0⟩, ?_⟩
    rintro i m σ1 H1 ⟨rfl, hi, F1, e1, s1, p1⟩
    have gd : G H1 := hG H1 (e1.trans s1.same)
    by_cases hlt : i < ls.length
    · obtain ⟨l, hl⟩ := get_of_lt hlt
      refine .inr ⟨w.goes i H1 hlt gd, fun σ4 H4 => ∃ F4, Same F1 F4 ∧ Sub Z F4 H4 ∧ Iv (i + 1) σ4 F4 H4, fun σ' H' ⟨F4, a, p'⟩ => ⟨ls.length - (i + 1), by omega, rfl, hlt, F4, e1.trans a, p'⟩, fun x H2 y => ?_⟩
      obtain ⟨F2, b2, t2⟩ := hY i l x F1 H1 H2 hl e1 s1 (w.yields i H1 x H2 hlt gd y)
      exact turn i l σ1 F1 H1 x F2 H2 hl s1 p1 b2 t2
    · have ei : i = ls.length := by omega
      subst ei
      exact .inl ⟨w.stops H1 gd, done σ1 F1 H1 s1 p1⟩
end
end K21

/-! enumerate, zip by data. -/
namespace K21
open PySem PySem.Spec PyProof.Rows L2 RZ
open NdefX (NTab TabsN TabN)
section
variable {Z : List NTab} {K : PySem.W.Frag} {σ : St} {F H : Hp} {te ta tb : TE} {ds es : List PyData}
theorem walk_enumT {a : Addr} {xs : List V} : Walk (IteT K a) xs.length (fun H => SqT K H a xs) (fun i H v H' => ∃ T x, v = .ref T ∧ H T = none ∧ H' = upd H T (.tup [.int (i : Nat), x]) ∧ xs[i]? = some x) where
  stops := fun H h => ⟨xs, h, rfl⟩
  goes := fun i H hi h => ⟨xs, xs[i], h, by simp [hi]⟩
  yields := fun i H v H' hi h ⟨T, x, e1, e2, e3, e4⟩ => ⟨T, x, e1, e2, e3, e4 xs h⟩
theorem walk_enumL {a : Addr} {xs : List V} : Walk (Ite K a) xs.length (fun H => SqL K H a xs) (fun i H v H' => ∃ T x, v = .ref T ∧ H T = none ∧ H' = upd H T (.tup [.int (i : Nat), x]) ∧ xs[i]? = some x) where
  stops := fun H h => ⟨xs, h, Nat.le_refl _⟩
  goes := fun i H hi h => ⟨xs, xs[i], h, by simp [hi]⟩
  yields := fun i H v H' hi h ⟨T, x, e1, e2, e3, e4⟩ => ⟨T, x, e1, e2, e3, e4 xs h⟩
/-- an item with its place -/
def numD (l : PyData × Nat) : PyData := .tuple [.int (l.2 : Nat), l.1]
theorem turns_enum {J : It} {xs : List V} {G : Hp → Prop} (w : Walk J xs.length G (fun i H v H' => ∃ T x, v = .ref T ∧ H T = none ∧ H' = upd H T (.tup [.int (i : Nat), x]) ∧ xs[i]? = some x)) (hG : ∀ H2, Same F H2 → G H2) (hx : DpAll K F xs ds) : Turns Z J F ds.zipIdx (fun l v F => Dp K F v (numD l)) := by
  refine ⟨_, _, by rw [List.length_zipIdx, ← dpa_length hx]; exact w, hG, fun i l x F2 H2 H3 hi e s y => ?_⟩
  obtain ⟨T, v, rfl, hn, rfl, hv⟩ := y
  obtain ⟨d, hd, pd⟩ := dpa_get' hx hv
  have el : l = (d, i) := by
    rw [List.getElem?_zipIdx, hd] at hi
    simpa using hi.symm
  subst el
  exact ⟨upd F2 T (.tup [.int (i : Nat), v]), Go.new s hn, .tup (.inl (.inl upd_same)) (.cons (.int _) (.cons (dp_mono (same_new (s.free hn)) (dp_mono e pd)) .nil))⟩
theorem iw_enumT (h : Ed Z K te σ F (.tuple ds)) : IW Z (iEnumT K (tCons te tNil)) σ F ds.zipIdx (fun l v F => Dp K F v (numD l)) := fun H s R r =>
  h H s _ fun v F1 H1 g p => by
    obtain ⟨a, xs, rfl, hs, hx⟩ := dp_tup p
    exact ⟨a, xs, rfl, same_t g.sub.same hs, r _ F1 H1 g (turns_enum walk_enumT (fun H2 e => same_t e hs) hx)⟩
theorem iw_enumL (h : Ed Z K te σ F (.list ds)) : IW Z (iEnum K (tCons te tNil)) σ F ds.zipIdx (fun l v F => Dp K F v (numD l)) := fun H s R r =>
  h H s _ fun v F1 H1 g p => by
    obtain ⟨a, xs, rfl, hs, hx⟩ := dp_lst p
    exact ⟨a, xs, rfl, same_l g.sub.same hs, r _ F1 H1 g (turns_enum walk_enumL (fun H2 e => same_l e hs) hx)⟩
/-! zip -/
def twoD (l : PyData × PyData) : PyData := .tuple [l.1, l.2]
theorem turns_zip {J : It} {xs ys : List V} {G : Hp → Prop} (w : Walk J (min xs.length ys.length) G (fun i H v H' => ∃ T x y, v = .ref T ∧ H T = none ∧ H' = upd H T (.tup [x, y]) ∧ xs[i]? = some x ∧ ys[i]? = some y)) (hG : ∀ H2, Same F H2 → G H2) (hx : DpAll K F xs ds) (hy : DpAll K F ys es) :
    Turns Z J F (ds.zip es) (fun l v F => Dp K F v (twoD l)) := by
  refine ⟨_, _, by rw [List.length_zip, ← dpa_length hx, ← dpa_length hy]; exact w, hG, fun i l x F2 H2 H3 hi e s y => ?_⟩
  obtain ⟨T, v, u, rfl, hn, rfl, hv, hu⟩ := y
  obtain ⟨d, hd, pd⟩ := dpa_get' hx hv
  obtain ⟨d2, hd2, pd2⟩ := dpa_get' hy hu
  have el : l = (d, d2) := by
    rw [List.getElem?_zip_eq_some] at hi
    rw [hd, hd2] at hi
    exact Prod.ext (Option.some.inj hi.1).symm (Option.some.inj hi.2).symm
  subst el
  exact ⟨upd F2 T (.tup [v, u]), Go.new s hn, .tup (.inl (.inl upd_same)) (.cons (dp_mono (same_new (s.free hn)) (dp_mono e pd)) (.cons (dp_mono (same_new (s.free hn)) (dp_mono e pd2)) .nil))⟩
theorem walk_zipT {a b : Addr} {xs ys : List V} : Walk (ItzT K a b) (min xs.length ys.length) (fun H => SqT K H a xs ∧ SqT K H b ys) (fun i H v H' => ∃ T x y, v = .ref T ∧ H T = none ∧ H' = upd H T (.tup [x, y]) ∧ xs[i]? = some x ∧ ys[i]? = some y) where
  stops := fun H h => ⟨xs, ys, h.1, h.2, by omega⟩
  goes := fun i H hi h => ⟨xs, ys, xs[i], ys[i], h.1, h.2, by simp, by simp⟩
  yields := fun i H v H' hi h ⟨T, x, y, e1, e2, e3, e4, e5⟩ => ⟨T, x, y, e1, e2, e3, e4 xs h.1, e5 ys h.2⟩
theorem walk_zipL {a b : Addr} {xs ys : List V} : Walk (Itz K a b) (min xs.length ys.length) (fun H => SqL K H a xs ∧ SqL K H b ys) (fun i H v H' => ∃ T x y, v = .ref T ∧ H T = none ∧ H' = upd H T (.tup [x, y]) ∧ xs[i]? = some x ∧ ys[i]? = some y) where
  stops := fun H h => ⟨xs, ys, h.1, h.2, by omega⟩
  goes := fun i H hi h => ⟨xs, ys, xs[i], ys[i], h.1, h.2, by simp, by simp⟩
  yields := fun i H v H' hi h ⟨T, x, y, e1, e2, e3, e4, e5⟩ => ⟨T, x, y, e1, e2, e3, e4 xs h.1, e5 ys h.2⟩
theorem iw_zipT (ha : Ed Z K ta σ F (.tuple ds)) (hb : Ed Z K tb σ F (.tuple es)) : IW Z (iZipA K (tCons ta (tCons tb tNil))) σ F (ds.zip es) (fun l v F => Dp K F v (twoD l)) := fun H s R r =>
  ha H s _ fun v F1 H1 g1 p1 => hb.up g1.ff H1 g1.sub _ fun u F2 H2 g2 p2 => by
    obtain ⟨a, xs, rfl, hs, hx⟩ := dp_tup p1
    obtain ⟨b, ys, rfl, hs2, hy⟩ := dp_tup p2
    have hs' := same_t g2.ff hs
    exact ⟨a, b, xs, ys, rfl, .inr ⟨same_t g2.sub.same hs', same_t g2.sub.same hs2, r _ F2 H2 (g1.trans g2) (turns_zip walk_zipT (fun H2 e => ⟨same_t e hs', same_t e hs2⟩) (dpa_mono g2.ff hx) hy)⟩⟩
theorem iw_zipL (ha : Ed Z K ta σ F (.list ds)) (hb : Ed Z K tb σ F (.list es)) : IW Z (iZipA K (tCons ta (tCons tb tNil))) σ F (ds.zip es) (fun l v F => Dp K F v (twoD l)) := fun H s R r =>
  ha H s _ fun v F1 H1 g1 p1 => hb.up g1.ff H1 g1.sub _ fun u F2 H2 g2 p2 => by
    obtain ⟨a, xs, rfl, hs, hx⟩ := dp_lst p1
    obtain ⟨b, ys, rfl, hs2, hy⟩ := dp_lst p2
    have hs' := same_l g2.ff hs
    exact ⟨a, b, xs, ys, rfl, .inl ⟨same_l g2.sub.same hs', same_l g2.sub.same hs2, r _ F2 H2 (g1.trans g2) (turns_zip walk_zipL (fun H2 e => ⟨same_l e hs', same_l e hs2⟩) (dpa_mono g2.ff hx) hy)⟩⟩
end
end K21

/-! Sorting by a structural program; texts, tuples of texts, rows. -/
namespace K21
open PySem PySem.W

/-! ### sorting -/
section
variable {α β : Type} {le : α → α → Bool}
def ins (le : α → α → Bool) (x : α) : List α → List α
  | [] => [x]
  | y :: ys => if le x y = true then x :: y :: ys else y :: ins le x ys
def isort (le : α → α → Bool) : List α → List α
  | [] => []
  | x :: xs => ins le x (isort le xs)
def Srt (le : α → α → Bool) (l : List α) : Prop := l.Pairwise fun a b => le a b = true
theorem ins_perm (x : α) : ∀ l : List α, (ins le x l).Perm (x :: l)
  | [] => List.Perm.refl _
  | y :: ys => by
    unfold ins
    split
    · exact List.Perm.refl _
    · exact ((ins_perm x ys).cons y).trans (List.Perm.swap x y ys)
theorem isort_perm : ∀ l : List α, (isort le l).Perm l
  | [] => List.Perm.refl _
  | x :: xs => (ins_perm x _).trans ((isort_perm xs).cons x)
theorem ins_srt (h : TotalLe le) (x : α) : ∀ {l : List α}, Srt le l → Srt le (ins le x l)
  | [], _ => List.pairwise_singleton _ _
  | y :: ys, s => by
    obtain ⟨s1, s2⟩ := List.pairwise_cons.mp s
    unfold ins
    split
    · rename_i e
      refine List.pairwise_cons.mpr ⟨fun z hz => ?_, s⟩
      rcases List.mem_cons.mp hz with rfl | hz
      · exact e
      · exact h.trans _ _ _ e (s1 z hz)
    · rename_i e
      refine List.pairwise_cons.mpr ⟨fun z hz => ?_, ins_srt h x s2⟩
      have hz2 := (ins_perm (le := le) x ys).mem_iff.mp hz
      rcases List.mem_cons.mp hz2 with rfl | hz2
      · exact (h.total z y).resolve_left e
      · exact s1 z hz2
theorem isort_srt (h : TotalLe le) : ∀ l : List α, Srt le (isort le l)
  | [] => List.Pairwise.nil
  | x :: xs => ins_srt h x (isort_srt h xs)
def Anti (le : α → α → Bool) : Prop := ∀ a b, le a b = true → le b a = true → a = b
theorem srt_one (an : Anti le) : ∀ {l m : List α}, l.Perm m → Srt le l → Srt le m → l = m
  | [], m, p, _, _ => (List.nil_perm.mp p).symm
  | x :: xs, [], p, _, _ => absurd p.length_eq (by simp)
  | x :: xs, y :: ys, p, s1, s2 => by
    obtain ⟨a1, a2⟩ := List.pairwise_cons.mp s1
    obtain ⟨b1, b2⟩ := List.pairwise_cons.mp s2
    have e : x = y := by
      have hx := p.mem_iff.mp (List.mem_cons_self (a := x) (l := xs))
      have hy := p.mem_iff.mpr (List.mem_cons_self (a := y) (l := ys))
      rcases List.mem_cons.mp hx with e | hx
      · exact e
      · rcases List.mem_cons.mp hy with e | hy
        · exact e.symm
        · exact an _ _ (a1 y hy) (b1 x hx)
    subst e
    rw [srt_one an (List.perm_cons x |>.mp p) a2 b2]
theorem msort_srt (h : TotalLe le) (l : List α) : Srt le (l.mergeSort le) := sort_pairwise h l
theorem msort_isort (h : TotalLe le) (an : Anti le) (l : List α) : l.mergeSort le = isort le l :=
  srt_one an ((List.mergeSort_perm l le).trans (isort_perm l).symm) (msort_srt h l) (isort_srt h l)
theorem isort_one (h : TotalLe le) (an : Anti le) {l m : List α} (p : l.Perm m) : isort le l = isort le m :=
  srt_one an ((isort_perm l).trans (p.trans (isort_perm m).symm)) (isort_srt h l) (isort_srt h m)
theorem isort_fix (h : TotalLe le) (an : Anti le) {l : List α} (s : Srt le l) : isort le l = l := srt_one an (isort_perm l) (isort_srt h l) s
end
theorem data_total {β : Type} (k : β → PyData) : TotalLe (dataLe false k) := sortLe_total _ _ _
theorem data_lt {β : Type} (k : β → PyData) (a b : β) : dataLe false k a b = !dataLt (k b) (k a) := rfl

/-! ### texts -/
def slt (a b : Str) : Bool := decide (a.cps.toList < b.cps.toList)
def sle (a b : Str) : Bool := !slt b a
theorem sle_data (a b : Str) : dataLe false PyData.str a b = sle a b := by
  rw [data_lt, dataLt_str]
  rfl
theorem sle_total : TotalLe sle := by
  have e : (sle : Str → Str → Bool) = dataLe false PyData.str := by
    funext a b
    exact (sle_data a b).symm
  rw [e]
  exact data_total _
theorem slt_of_ne {a b : Str} (h1 : slt a b = false) (h2 : slt b a = false) : a = b := by
  refine str_of_cps ?_
  have h1 := of_decide_eq_false h1
  have h2 := of_decide_eq_false h2
  exact List.le_antisymm (show b.cps.toList ≥ a.cps.toList from h2) (show a.cps.toList ≥ b.cps.toList from h1)
theorem sle_anti : Anti sle := fun a b h1 h2 => by
  unfold sle at h1 h2
  rw [Bool.not_eq_true'] at h1 h2
  exact slt_of_ne h2 h1
def sortS (l : List Str) : List Str := isort sle l
theorem dsort_strs (l : List Str) : dsort (l.map .str) = (sortS l).map .str := by
  unfold dsort sortS
  rw [← msort_isort sle_total sle_anti]
  exact (sort_maps PyData.str fun a _ b _ => (sle_data a b).symm).symm
/-! ### tuples of texts -/
def namesD (l : List Str) : PyData := .tuple (l.map .str)
def tlt (a b : List Str) : Bool := listLt a b
def tle (a b : List Str) : Bool := !tlt b a
theorem tle_data (a b : List Str) : dataLe false namesD a b = tle a b := by
  rw [data_lt]
  have h := DatumOrd.lt_eq (α := Tup Str) ⟨b⟩ ⟨a⟩
  exact congrArg (!·) h
theorem tle_total : TotalLe tle := by
  have e : (tle : List Str → List Str → Bool) = dataLe false namesD := by
    funext a b
    exact (tle_data a b).symm
  rw [e]
  exact data_total _
theorem tlt_of_ne : ∀ {a b : List Str}, tlt a b = false → tlt b a = false → a = b
  | [], [], _, _ => rfl
  | [], _ :: _, h, _ => by simp [tlt, listLt] at h
  | _ :: _, [], _, h => by simp [tlt, listLt] at h
  | x :: xs, y :: ys, h1, h2 => by
    unfold tlt listLt at h1 h2
    by_cases e : x = y
    · subst e
      rw [if_pos rfl] at h1 h2
      rw [tlt_of_ne h1 h2]
    · rw [if_neg e] at h1
      rw [if_neg fun q => e q.symm] at h2
      exact absurd (slt_of_ne h1 h2) e
theorem tle_anti : Anti tle := fun a b h1 h2 => by
  unfold tle at h1 h2
  rw [Bool.not_eq_true'] at h1 h2
  exact tlt_of_ne h2 h1
def sortT (l : List (List Str)) : List (List Str) := isort tle l
theorem dsort_tups (l : List (List Str)) : dsort (l.map namesD) = (sortT l).map namesD := by
  unfold dsort sortT
  rw [← msort_isort tle_total tle_anti]
  exact (sort_maps namesD fun a _ b _ => (tle_data a b).symm).symm
/-! ### rows -/
structure Row where
  nm : Str
  rd : List Str
  sl : Bool
  deriving DecidableEq
structure Blk where
  rows : List Row
  live : List Str
  deriving DecidableEq
def rowD (r : Row) : PyData := .tuple [.str r.nm, namesD r.rd, .bool r.sl]
def blkD (B : Blk) : PyData := .tuple [.tuple (B.rows.map rowD), namesD B.live]
theorem row_le {r r' : Row} (h : dataLe false rowD r r' = true) : sle r.nm r'.nm = true := by
  rw [data_lt, Bool.not_eq_true'] at h
  unfold rowD at h
  rw [dataLt_tuple, dataLt_cons (by simp [alike])] at h
  unfold sle
  rw [Bool.not_eq_true']
  by_cases e : r'.nm = r.nm
  · rw [e]
    exact decide_eq_false (List.lt_irrefl _)
  · rw [if_neg (by simp [PyData.eqv, e])] at h
    exact (dataLt_str _ _).symm.trans h
/-- the rows sorted: some order of them, by their names -/
theorem dsort_rows (l : List Row) : ∃ l' : List Row, l'.Perm l ∧ dsort (l.map rowD) = l'.map rowD ∧ Srt sle (l'.map Row.nm) := by
  refine ⟨l.mergeSort (dataLe false rowD), List.mergeSort_perm _ _, (sort_maps rowD fun _ _ _ _ => rfl).symm, ?_⟩
  have h := msort_srt (data_total rowD) l
  exact List.pairwise_map.mpr (h.imp fun z => row_le z)
end K21

/-! The texts' scopes; what the top has written. Printed by gen2.py. -/
namespace K21
open PySem PySem.Spec PyProof.Rows L2
def topS (i : Nat) : Stmt := PySem.Challenge.pw_anylatency_k21_whole_parted_into_fewest.main.body.getD i (.Pass ⟨0, 0, 0, 0⟩)

abbrev s6 : Stmt := topS 6
theorem sc6 : FnScope ["value", "letter"] ["value"] (defScope s6) := ⟨rfl, rfl, rfl, by decide +kernel, rfl, by decide +kernel, by decide +kernel⟩
theorem nd6 : (["value", "letter"] : List Str).Nodup := sc6.nd

abbrev s7 : Stmt := topS 7
theorem sc7 : FnScope ["row", "one", "other"] ["row"] (defScope s7) := ⟨rfl, rfl, rfl, by decide +kernel, rfl, by decide +kernel, by decide +kernel⟩
theorem nd7 : (["row", "one", "other"] : List Str).Nodup := sc7.nd

abbrev s8 : Stmt := topS 8
theorem sc8 : FnScope ["value", "own"] ["value"] (defScope s8) := ⟨rfl, rfl, rfl, by decide +kernel, rfl, by decide +kernel, by decide +kernel⟩
theorem nd8 : (["value", "own"] : List Str).Nodup := sc8.nd

abbrev s9 : Stmt := topS 9
theorem sc9 : FnScope ["some"] ["some"] (defScope s9) := ⟨rfl, rfl, rfl, by decide +kernel, rfl, by decide +kernel, by decide +kernel⟩
theorem nd9 : (["some"] : List Str).Nodup := sc9.nd

abbrev s10 : Stmt := topS 10
theorem sc10 : FnScope ["value", "part"] ["value"] (defScope s10) := ⟨rfl, rfl, rfl, by decide +kernel, rfl, by decide +kernel, by decide +kernel⟩
theorem nd10 : (["value", "part"] : List Str).Nodup := sc10.nd

abbrev s12 : Stmt := topS 12
theorem sc12 : FnScope ["block", "name", "reads", "slow"] ["block"] (defScope s12) := ⟨rfl, rfl, rfl, by decide +kernel, rfl, by decide +kernel, by decide +kernel⟩
theorem nd12 : (["block", "name", "reads", "slow"] : List Str).Nodup := sc12.nd

abbrev s13 : Stmt := topS 13
theorem sc13 : FnScope ["block", "row"] ["block"] (defScope s13) := ⟨rfl, rfl, rfl, by decide +kernel, rfl, by decide +kernel, by decide +kernel⟩
theorem nd13 : (["block", "row"] : List Str).Nodup := sc13.nd

abbrev s14 : Stmt := topS 14
theorem sc14 : FnScope ["block", "some", "known", "name"] ["block", "some"] (defScope s14) := ⟨rfl, rfl, rfl, by decide +kernel, rfl, by decide +kernel, by decide +kernel⟩
theorem nd14 : (["block", "some", "known", "name"] : List Str).Nodup := sc14.nd

abbrev s15 : Stmt := topS 15
theorem sc15 : FnScope ["block", "name", "row"] ["block", "name"] (defScope s15) := ⟨rfl, rfl, rfl, by decide +kernel, rfl, by decide +kernel, by decide +kernel⟩
theorem nd15 : (["block", "name", "row"] : List Str).Nodup := sc15.nd

abbrev s16 : Stmt := topS 16
theorem sc16 : FnScope ["block", "row"] ["block"] (defScope s16) := ⟨rfl, rfl, rfl, by decide +kernel, rfl, by decide +kernel, by decide +kernel⟩
theorem nd16 : (["block", "row"] : List Str).Nodup := sc16.nd

abbrev s17 : Stmt := topS 17
theorem sc17 : FnScope ["block", "live", "name"] ["block"] (defScope s17) := ⟨rfl, rfl, rfl, by decide +kernel, rfl, by decide +kernel, by decide +kernel⟩
theorem nd17 : (["block", "live", "name"] : List Str).Nodup := sc17.nd

abbrev s18 : Stmt := topS 18
theorem sc18 : FnScope ["block", "thing", "table", "name", "place", "own"] ["block", "thing"] (defScope s18) := ⟨rfl, rfl, rfl, by decide +kernel, rfl, by decide +kernel, by decide +kernel⟩
theorem nd18 : (["block", "thing", "table", "name", "place", "own"] : List Str).Nodup := sc18.nd

abbrev s19 : Stmt := topS 19
theorem sc19 : FnScope ["block", "order"] ["block", "order"] (defScope s19) := ⟨rfl, rfl, rfl, by decide +kernel, rfl, by decide +kernel, by decide +kernel⟩
theorem nd19 : (["block", "order"] : List Str).Nodup := sc19.nd

abbrev s21 : Stmt := topS 21
theorem sc21 : FnScope ["block", "order", "name", "own"] ["block", "order", "name"] (defScope s21) := ⟨rfl, rfl, rfl, by decide +kernel, rfl, by decide +kernel, by decide +kernel⟩
theorem nd21 : (["block", "order", "name", "own"] : List Str).Nodup := sc21.nd

abbrev s22 : Stmt := topS 22
theorem sc22 : FnScope ["block", "order", "own", "name"] ["block", "order"] (defScope s22) := ⟨rfl, rfl, rfl, by decide +kernel, rfl, by decide +kernel, by decide +kernel⟩
theorem nd22 : (["block", "order", "own", "name"] : List Str).Nodup := sc22.nd

abbrev s23 : Stmt := topS 23
theorem sc23 : FnScope ["one", "other"] ["one", "other"] (defScope s23) := ⟨rfl, rfl, rfl, by decide +kernel, rfl, by decide +kernel, by decide +kernel⟩
theorem nd23 : (["one", "other"] : List Str).Nodup := sc23.nd

abbrev s24 : Stmt := topS 24
theorem sc24 : FnScope ["known", "some", "pairs", "name", "place", "one", "other"] ["known", "some"] (defScope s24) := ⟨rfl, rfl, rfl, by decide +kernel, rfl, by decide +kernel, by decide +kernel⟩
theorem nd24 : (["known", "some", "pairs", "name", "place", "one", "other"] : List Str).Nodup := sc24.nd

abbrev s25 : Stmt := topS 25
theorem sc25 : FnScope ["block", "order", "some", "known"] ["block", "order", "some"] (defScope s25) := ⟨rfl, rfl, rfl, by decide +kernel, rfl, by decide +kernel, by decide +kernel⟩
theorem nd25 : (["block", "order", "some", "known"] : List Str).Nodup := sc25.nd

abbrev s26 : Stmt := topS 26
theorem sc26 : FnScope ["block", "order", "place", "known", "name"] ["block", "order", "place"] (defScope s26) := ⟨rfl, rfl, rfl, by decide +kernel, rfl, by decide +kernel, by decide +kernel⟩
theorem nd26 : (["block", "order", "place", "known", "name"] : List Str).Nodup := sc26.nd

abbrev s27 : Stmt := topS 27
theorem sc27 : FnScope ["block", "order", "place"] ["block", "order"] (defScope s27) := ⟨rfl, rfl, rfl, by decide +kernel, rfl, by decide +kernel, by decide +kernel⟩
theorem nd27 : (["block", "order", "place"] : List Str).Nodup := sc27.nd

abbrev s28 : Stmt := topS 28
theorem sc28 : FnScope ["block", "order", "rows", "name", "free", "known", "row"] ["block", "order"] (defScope s28) := ⟨rfl, rfl, rfl, by decide +kernel, rfl, by decide +kernel, by decide +kernel⟩
theorem nd28 : (["block", "order", "rows", "name", "free", "known", "row"] : List Str).Nodup := sc28.nd

abbrev s29 : Stmt := topS 29
theorem sc29 : FnScope ["block", "order", "thing", "known", "names", "own", "name"] ["block", "order", "thing"] (defScope s29) := ⟨rfl, rfl, rfl, by decide +kernel, rfl, by decide +kernel, by decide +kernel⟩
theorem nd29 : (["block", "order", "thing", "known", "names", "own", "name"] : List Str).Nodup := sc29.nd

abbrev s31 : Stmt := topS 31
theorem sc31 : FnScope ["_law_script", "_law_k", "_law_cell"] ["_law_script", "_law_k"] (defScope s31) := ⟨rfl, rfl, rfl, by decide +kernel, rfl, by decide +kernel, by decide +kernel⟩
theorem nd31 : (["_law_script", "_law_k", "_law_cell"] : List Str).Nodup := sc31.nd

abbrev s32 : Stmt := topS 32
theorem sc32 : FnScope ["_law_tub", "_law_under", "_law_drawn", "_law_once", "_law_odd", "_law_twice"] ["_law_tub", "_law_under"] (defScope s32) := ⟨rfl, rfl, rfl, by decide +kernel, rfl, by decide +kernel, by decide +kernel⟩
theorem nd32 : (["_law_tub", "_law_under", "_law_drawn", "_law_once", "_law_odd", "_law_twice"] : List Str).Nodup := sc32.nd

abbrev s33 : Stmt := topS 33
theorem sc33 : FnScope ["_law_script", "_law_top", "_law_cells_here", "_law_k", "_law_cell", "_law_spot"] ["_law_script", "_law_top"] (defScope s33) := ⟨rfl, rfl, rfl, by decide +kernel, rfl, by decide +kernel, by decide +kernel⟩
theorem nd33 : (["_law_script", "_law_top", "_law_cells_here", "_law_k", "_law_cell", "_law_spot"] : List Str).Nodup := sc33.nd

abbrev s34 : Stmt := topS 34
theorem sc34 : FnScope ["_law_tub", "_law_few_so"] ["_law_tub", "_law_few_so"] (defScope s34) := ⟨rfl, rfl, rfl, by decide +kernel, rfl, by decide +kernel, by decide +kernel⟩
theorem nd34 : (["_law_tub", "_law_few_so"] : List Str).Nodup := sc34.nd

abbrev s35 : Stmt := topS 35
theorem sc35 : FnScope ["_law_tub", "_law_few_so", "_law_much_so", "_law_left", "_law_found", "_law_turn"] ["_law_tub", "_law_few_so", "_law_much_so"] (defScope s35) := ⟨rfl, rfl, rfl, by decide +kernel, rfl, by decide +kernel, by decide +kernel⟩
theorem nd35 : (["_law_tub", "_law_few_so", "_law_much_so", "_law_left", "_law_found", "_law_turn"] : List Str).Nodup := sc35.nd

abbrev s36 : Stmt := topS 36
theorem sc36 : FnScope ["_law_got", "_law_due", "_law_like", "_law_mine", "_law_its"] ["_law_got", "_law_due"] (defScope s36) := ⟨rfl, rfl, rfl, by decide +kernel, rfl, by decide +kernel, by decide +kernel⟩
theorem nd36 : (["_law_got", "_law_due", "_law_like", "_law_mine", "_law_its"] : List Str).Nodup := sc36.nd

abbrev s37 : Stmt := topS 37
theorem sc37 : FnScope ["_law_matter", "_law_bit"] ["_law_matter"] (defScope s37) := ⟨rfl, rfl, rfl, by decide +kernel, rfl, by decide +kernel, by decide +kernel⟩
theorem nd37 : (["_law_matter", "_law_bit"] : List Str).Nodup := sc37.nd

abbrev s38 : Stmt := topS 38
theorem sc38 : FnScope ["_law_tub", "_law_many_so", "_law_pool_so", "_law_line_so", "_law_found", "_law_k", "_law_tag", "_law_few_so", "_law_live_so"] ["_law_tub", "_law_many_so"] (defScope s38) := ⟨rfl, rfl, rfl, by decide +kernel, rfl, by decide +kernel, by decide +kernel⟩
theorem nd38 : (["_law_tub", "_law_many_so", "_law_pool_so", "_law_line_so", "_law_found", "_law_k", "_law_tag", "_law_few_so", "_law_live_so"] : List Str).Nodup := sc38.nd

abbrev s39 : Stmt := topS 39
theorem sc39 : FnScope ["_law_tub", "_law_block_so", "_law_found", "_law_turn", "_law_free_so", "_law_own"] ["_law_tub", "_law_block_so"] (defScope s39) := ⟨rfl, rfl, rfl, by decide +kernel, rfl, by decide +kernel, by decide +kernel⟩
theorem nd39 : (["_law_tub", "_law_block_so", "_law_found", "_law_turn", "_law_free_so", "_law_own"] : List Str).Nodup := sc39.nd

abbrev s40 : Stmt := topS 40
theorem sc40 : FnScope ["_law_some_so", "_law_lot_so", "_law_tag"] ["_law_some_so", "_law_lot_so"] (defScope s40) := ⟨rfl, rfl, rfl, by decide +kernel, rfl, by decide +kernel, by decide +kernel⟩
theorem nd40 : (["_law_some_so", "_law_lot_so", "_law_tag"] : List Str).Nodup := sc40.nd

abbrev s41 : Stmt := topS 41
theorem sc41 : FnScope ["_law_block_so", "_law_line_so", "_law_lasts_so", "_law_reads_so", "_law_ready_so", "_law_now", "_law_tag", "_law_own"] ["_law_block_so", "_law_line_so", "_law_lasts_so"] (defScope s41) := ⟨rfl, rfl, rfl, by decide +kernel, rfl, by decide +kernel, by decide +kernel⟩
theorem nd41 : (["_law_block_so", "_law_line_so", "_law_lasts_so", "_law_reads_so", "_law_ready_so", "_law_now", "_law_tag", "_law_own"] : List Str).Nodup := sc41.nd

abbrev s42 : Stmt := topS 42
theorem sc42 : FnScope ["_law_block_so", "_law_found", "_law_tag", "_law_reads_so", "_law_slow_so", "_law_near_so", "_law_own"] ["_law_block_so"] (defScope s42) := ⟨rfl, rfl, rfl, by decide +kernel, rfl, by decide +kernel, by decide +kernel⟩
theorem nd42 : (["_law_block_so", "_law_found", "_law_tag", "_law_reads_so", "_law_slow_so", "_law_near_so", "_law_own"] : List Str).Nodup := sc42.nd

abbrev s43 : Stmt := topS 43
theorem sc43 : FnScope ["_law_tags", "_law_found", "_law_tag", "_law_own"] ["_law_tags"] (defScope s43) := ⟨rfl, rfl, rfl, by decide +kernel, rfl, by decide +kernel, by decide +kernel⟩
theorem nd43 : (["_law_tags", "_law_found", "_law_tag", "_law_own"] : List Str).Nodup := sc43.nd

abbrev s44 : Stmt := topS 44
theorem sc44 : FnScope ["_law_block_so", "_law_line_so", "_law_found", "_law_some_so", "_law_lasts_so", "_law_tag"] ["_law_block_so", "_law_line_so"] (defScope s44) := ⟨rfl, rfl, rfl, by decide +kernel, rfl, by decide +kernel, by decide +kernel⟩
theorem nd44 : (["_law_block_so", "_law_line_so", "_law_found", "_law_some_so", "_law_lasts_so", "_law_tag"] : List Str).Nodup := sc44.nd

abbrev s45 : Stmt := topS 45
theorem sc45 : FnScope ["_law_rows_so"] [] (defScope s45) := ⟨rfl, rfl, rfl, by decide +kernel, rfl, by decide +kernel, by decide +kernel⟩
theorem nd45 : (["_law_rows_so"] : List Str).Nodup := sc45.nd

abbrev s46 : Stmt := topS 46
theorem sc46 : FnScope ["_law_kit_here", "_law_line_so", "_law_odd_so", "_law_caught", "_law_said", "error"] ["_law_kit_here", "_law_line_so", "_law_odd_so"] (defScope s46) := ⟨rfl, rfl, rfl, by decide +kernel, rfl, by decide +kernel, by decide +kernel⟩
theorem nd46 : (["_law_kit_here", "_law_line_so", "_law_odd_so", "_law_caught", "_law_said", "error"] : List Str).Nodup := sc46.nd

abbrev s47 : Stmt := topS 47
theorem sc47 : FnScope ["_law_kit_here", "_law_line_so", "_law_back_so", "_law_some_so", "_law_odd_so", "_law_got", "_law_due", "_law_tags", "_law_free_so", "_law_chain_so", "_law_own", "_law_tag", "_law_k"] [] (defScope s47) := ⟨rfl, rfl, rfl, by decide +kernel, rfl, by decide +kernel, by decide +kernel⟩
theorem nd47 : (["_law_kit_here", "_law_line_so", "_law_back_so", "_law_some_so", "_law_odd_so", "_law_got", "_law_due", "_law_tags", "_law_free_so", "_law_chain_so", "_law_own", "_law_tag", "_law_k"] : List Str).Nodup := sc47.nd

abbrev s48 : Stmt := topS 48
theorem sc48 : FnScope ["_law_rows_so", "_law_wide_so", "_law_line_so", "_law_got", "_law_six_so", "_law_tag"] [] (defScope s48) := ⟨rfl, rfl, rfl, by decide +kernel, rfl, by decide +kernel, by decide +kernel⟩
theorem nd48 : (["_law_rows_so", "_law_wide_so", "_law_line_so", "_law_got", "_law_six_so", "_law_tag"] : List Str).Nodup := sc48.nd

abbrev s49 : Stmt := topS 49
theorem sc49 : FnScope ["_law_tags", "_law_found", "_law_tag", "_law_later", "_law_lots_so", "_law_k", "_law_lot"] ["_law_tags"] (defScope s49) := ⟨rfl, rfl, rfl, by decide +kernel, rfl, by decide +kernel, by decide +kernel⟩
theorem nd49 : (["_law_tags", "_law_found", "_law_tag", "_law_later", "_law_lots_so", "_law_k", "_law_lot"] : List Str).Nodup := sc49.nd

abbrev s50 : Stmt := topS 50
theorem sc50 : FnScope ["_law_tub", "_law_turn", "_law_kit_here", "_law_line_so", "_law_fine_so", "_law_lots_so", "_law_every", "_law_own", "_law_few_so", "_law_best_so", "_law_told", "_law_lot"] ["_law_tub"] (defScope s50) := ⟨rfl, rfl, rfl, by decide +kernel, rfl, by decide +kernel, by decide +kernel⟩
theorem nd50 : (["_law_tub", "_law_turn", "_law_kit_here", "_law_line_so", "_law_fine_so", "_law_lots_so", "_law_every", "_law_own", "_law_few_so", "_law_best_so", "_law_told", "_law_lot"] : List Str).Nodup := sc50.nd

abbrev s51 : Stmt := topS 51
theorem sc51 : FnScope ["_law_script", "_law_cells_here", "_law_k"] ["_law_script"] (defScope s51) := ⟨rfl, rfl, rfl, by decide +kernel, rfl, by decide +kernel, by decide +kernel⟩
theorem nd51 : (["_law_script", "_law_cells_here", "_law_k"] : List Str).Nodup := sc51.nd

structure Top (K : PySem.W.Frag) (mg : Str → Option Value) (fa : Nat → Addr) (fd : Nat → FuncData) (tl : Nat → Tok) : Prop where
  m_ValueError : mg "ValueError" = none
  m_abs : mg "abs" = none
  m_all : mg "all" = none
  m_any : mg "any" = none
  m_bool : mg "bool" = none
  m_dict : mg "dict" = none
  m_enumerate : mg "enumerate" = none
  m_int : mg "int" = none
  m_isinstance : mg "isinstance" = none
  m_len : mg "len" = none
  m_list : mg "list" = none
  m_max : mg "max" = none
  m_min : mg "min" = none
  m_range : mg "range" = none
  m_set : mg "set" = none
  m_sorted : mg "sorted" = none
  m_str : mg "str" = none
  m_sum : mg "sum" = none
  m_tuple : mg "tuple" = none
  m_zip : mg "zip" = none
  g_LETTERS : mg "LETTERS" = some (.str "abcdefghijklmnopqrstuvwxyz" (tl 0))
  g_LONGEST : mg "LONGEST" = some (.int 8 (tl 1))
  F6 : Fun K "is_name" "is_name" s6 (fa 6) (fd 6)
  g6 : mg "is_name" = some (.ref (fa 6))
  F7 : Fun K "is_rising" "is_rising" s7 (fa 7) (fd 7)
  g7 : mg "is_rising" = some (.ref (fa 7))
  F8 : Fun K "is_name_set" "is_name_set" s8 (fa 8) (fd 8)
  g8 : mg "is_name_set" = some (.ref (fa 8))
  F9 : Fun K "set_of" "set_of" s9 (fa 9) (fd 9)
  g9 : mg "set_of" = some (.ref (fa 9))
  F10 : Fun K "tupled" "tupled" s10 (fa 10) (fd 10)
  g10 : mg "tupled" = some (.ref (fa 10))
  F12 : Fun K "table_of" "table_of" s12 (fa 12) (fd 12)
  g12 : mg "table_of" = some (.ref (fa 12))
  F13 : Fun K "names_in" "names_in" s13 (fa 13) (fd 13)
  g13 : mg "names_in" = some (.ref (fa 13))
  F14 : Fun K "check_names" "check_names" s14 (fa 14) (fd 14)
  g14 : mg "check_names" = some (.ref (fa 14))
  F15 : Fun K "readers_of" "readers_of" s15 (fa 15) (fd 15)
  g15 : mg "readers_of" = some (.ref (fa 15))
  F16 : Fun K "slow_in" "slow_in" s16 (fa 16) (fd 16)
  g16 : mg "slow_in" = some (.ref (fa 16))
  F17 : Fun K "awaited_in" "awaited_in" s17 (fa 17) (fd 17)
  g17 : mg "awaited_in" = some (.ref (fa 17))
  F18 : Fun K "is_order" "is_order" s18 (fa 18) (fd 18)
  g18 : mg "is_order" = some (.ref (fa 18))
  F19 : Fun K "check_order" "check_order" s19 (fa 19) (fd 19)
  g19 : mg "check_order" = some (.ref (fa 19))
  F21 : Fun K "reader_place" "reader_place" s21 (fa 21) (fd 21)
  g21 : mg "reader_place" = some (.ref (fa 21))
  F22 : Fun K "all_waits" "all_waits" s22 (fa 22) (fd 22)
  g22 : mg "all_waits" = some (.ref (fa 22))
  F23 : Fun K "are_meeting" "are_meeting" s23 (fa 23) (fd 23)
  g23 : mg "are_meeting" = some (.ref (fa 23))
  F24 : Fun K "are_apart" "are_apart" s24 (fa 24) (fd 24)
  g24 : mg "are_apart" = some (.ref (fa 24))
  F25 : Fun K "adds_up" "adds_up" s25 (fa 25) (fd 25)
  g25 : mg "adds_up" = some (.ref (fa 25))
  F26 : Fun K "at_once" "at_once" s26 (fa 26) (fd 26)
  g26 : mg "at_once" = some (.ref (fa 26))
  F27 : Fun K "most_at_once" "most_at_once" s27 (fa 27) (fd 27)
  g27 : mg "most_at_once" = some (.ref (fa 27))
  F28 : Fun K "parted" "parted" s28 (fa 28) (fd 28)
  g28 : mg "parted" = some (.ref (fa 28))
  F29 : Fun K "is_parted" "is_parted" s29 (fa 29) (fd 29)
  g29 : mg "is_parted" = some (.ref (fa 29))
  F31 : Fun K "_law_box" "_law_box" s31 (fa 31) (fd 31)
  g31 : mg "_law_box" = some (.ref (fa 31))
  F32 : Fun K "_law_take" "_law_take" s32 (fa 32) (fd 32)
  g32 : mg "_law_take" = some (.ref (fa 32))
  F33 : Fun K "_law_cells" "_law_cells" s33 (fa 33) (fd 33)
  g33 : mg "_law_cells" = some (.ref (fa 33))
  F34 : Fun K "_law_of" "_law_of" s34 (fa 34) (fd 34)
  g34 : mg "_law_of" = some (.ref (fa 34))
  F35 : Fun K "_law_pick" "_law_pick" s35 (fa 35) (fd 35)
  g35 : mg "_law_pick" = some (.ref (fa 35))
  F36 : Fun K "_law_same" "_law_same" s36 (fa 36) (fd 36)
  g36 : mg "_law_same" = some (.ref (fa 36))
  F37 : Fun K "_law_lists" "_law_lists" s37 (fa 37) (fd 37)
  g37 : mg "_law_lists" = some (.ref (fa 37))
  F38 : Fun K "_law_block" "_law_block" s38 (fa 38) (fd 38)
  g38 : mg "_law_block" = some (.ref (fa 38))
  F39 : Fun K "_law_order" "_law_order" s39 (fa 39) (fd 39)
  g39 : mg "_law_order" = some (.ref (fa 39))
  F40 : Fun K "_law_inside" "_law_inside" s40 (fa 40) (fd 40)
  g40 : mg "_law_inside" = some (.ref (fa 40))
  F41 : Fun K "_law_end" "_law_end" s41 (fa 41) (fd 41)
  g41 : mg "_law_end" = some (.ref (fa 41))
  F42 : Fun K "_law_awaited" "_law_awaited" s42 (fa 42) (fd 42)
  g42 : mg "_law_awaited" = some (.ref (fa 42))
  F43 : Fun K "_law_sets" "_law_sets" s43 (fa 43) (fd 43)
  g43 : mg "_law_sets" = some (.ref (fa 43))
  F44 : Fun K "_law_adding" "_law_adding" s44 (fa 44) (fd 44)
  g44 : mg "_law_adding" = some (.ref (fa 44))
  F45 : Fun K "_law_kit" "_law_kit" s45 (fa 45) (fd 45)
  g45 : mg "_law_kit" = some (.ref (fa 45))
  F46 : Fun K "_law_heard" "_law_heard" s46 (fa 46) (fd 46)
  g46 : mg "_law_heard" = some (.ref (fa 46))
  F47 : Fun K "_law_by_hand_right" "_law_by_hand_right" s47 (fa 47) (fd 47)
  g47 : mg "_law_by_hand_right" = some (.ref (fa 47))
  F48 : Fun K "_law_fits_right" "_law_fits_right" s48 (fa 48) (fd 48)
  g48 : mg "_law_fits_right" = some (.ref (fa 48))
  F49 : Fun K "_law_partings" "_law_partings" s49 (fa 49) (fd 49)
  g49 : mg "_law_partings" = some (.ref (fa 49))
  F50 : Fun K "_law_right" "_law_right" s50 (fa 50) (fd 50)
  g50 : mg "_law_right" = some (.ref (fa 50))
  F51 : Fun K "law" "law" s51 (fa 51) (fd 51)
  g51 : mg "law" = some (.ref (fa 51))
section
variable {K : PySem.W.Frag} {mg : Str → Option Value} {fa : Nat → Addr} {fd : Nat → FuncData} {tl : Nat → Tok}
theorem Top.b6 (T : Top K mg fa fd tl) : Binds K (fd 6) ["value"] [] := T.F6.binds (ps := ["value"]) fun _ _ _ _ _ _ us hl => match us, hl with | [_], _ => rfl
theorem Top.b7 (T : Top K mg fa fd tl) : Binds K (fd 7) ["row"] [] := T.F7.binds (ps := ["row"]) fun _ _ _ _ _ _ us hl => match us, hl with | [_], _ => rfl
theorem Top.b8 (T : Top K mg fa fd tl) : Binds K (fd 8) ["value"] [] := T.F8.binds (ps := ["value"]) fun _ _ _ _ _ _ us hl => match us, hl with | [_], _ => rfl
theorem Top.b9 (T : Top K mg fa fd tl) : Binds K (fd 9) ["some"] [] := T.F9.binds (ps := ["some"]) fun _ _ _ _ _ _ us hl => match us, hl with | [_], _ => rfl
theorem Top.b10 (T : Top K mg fa fd tl) : Binds K (fd 10) ["value"] [] := T.F10.binds (ps := ["value"]) fun _ _ _ _ _ _ us hl => match us, hl with | [_], _ => rfl
theorem Top.b12 (T : Top K mg fa fd tl) : Binds K (fd 12) ["block"] [] := T.F12.binds (ps := ["block"]) fun _ _ _ _ _ _ us hl => match us, hl with | [_], _ => rfl
theorem Top.b13 (T : Top K mg fa fd tl) : Binds K (fd 13) ["block"] [] := T.F13.binds (ps := ["block"]) fun _ _ _ _ _ _ us hl => match us, hl with | [_], _ => rfl
theorem Top.b14 (T : Top K mg fa fd tl) : Binds K (fd 14) ["block", "some"] [] := T.F14.binds (ps := ["block", "some"]) fun _ _ _ _ _ _ us hl => match us, hl with | [_, _], _ => rfl
theorem Top.b15 (T : Top K mg fa fd tl) : Binds K (fd 15) ["block", "name"] [] := T.F15.binds (ps := ["block", "name"]) fun _ _ _ _ _ _ us hl => match us, hl with | [_, _], _ => rfl
theorem Top.b16 (T : Top K mg fa fd tl) : Binds K (fd 16) ["block"] [] := T.F16.binds (ps := ["block"]) fun _ _ _ _ _ _ us hl => match us, hl with | [_], _ => rfl
theorem Top.b17 (T : Top K mg fa fd tl) : Binds K (fd 17) ["block"] [] := T.F17.binds (ps := ["block"]) fun _ _ _ _ _ _ us hl => match us, hl with | [_], _ => rfl
theorem Top.b18 (T : Top K mg fa fd tl) : Binds K (fd 18) ["block", "thing"] [] := T.F18.binds (ps := ["block", "thing"]) fun _ _ _ _ _ _ us hl => match us, hl with | [_, _], _ => rfl
theorem Top.b19 (T : Top K mg fa fd tl) : Binds K (fd 19) ["block", "order"] [] := T.F19.binds (ps := ["block", "order"]) fun _ _ _ _ _ _ us hl => match us, hl with | [_, _], _ => rfl
theorem Top.b21 (T : Top K mg fa fd tl) : Binds K (fd 21) ["block", "order", "name"] [] := T.F21.binds (ps := ["block", "order", "name"]) fun _ _ _ _ _ _ us hl => match us, hl with | [_, _, _], _ => rfl
theorem Top.b22 (T : Top K mg fa fd tl) : Binds K (fd 22) ["block", "order"] [] := T.F22.binds (ps := ["block", "order"]) fun _ _ _ _ _ _ us hl => match us, hl with | [_, _], _ => rfl
theorem Top.b23 (T : Top K mg fa fd tl) : Binds K (fd 23) ["one", "other"] [] := T.F23.binds (ps := ["one", "other"]) fun _ _ _ _ _ _ us hl => match us, hl with | [_, _], _ => rfl
theorem Top.b24 (T : Top K mg fa fd tl) : Binds K (fd 24) ["known", "some"] [] := T.F24.binds (ps := ["known", "some"]) fun _ _ _ _ _ _ us hl => match us, hl with | [_, _], _ => rfl
theorem Top.b25 (T : Top K mg fa fd tl) : Binds K (fd 25) ["block", "order", "some"] [] := T.F25.binds (ps := ["block", "order", "some"]) fun _ _ _ _ _ _ us hl => match us, hl with | [_, _, _], _ => rfl
theorem Top.b26 (T : Top K mg fa fd tl) : Binds K (fd 26) ["block", "order", "place"] [] := T.F26.binds (ps := ["block", "order", "place"]) fun _ _ _ _ _ _ us hl => match us, hl with | [_, _, _], _ => rfl
theorem Top.b27 (T : Top K mg fa fd tl) : Binds K (fd 27) ["block", "order"] [] := T.F27.binds (ps := ["block", "order"]) fun _ _ _ _ _ _ us hl => match us, hl with | [_, _], _ => rfl
theorem Top.b28 (T : Top K mg fa fd tl) : Binds K (fd 28) ["block", "order"] [] := T.F28.binds (ps := ["block", "order"]) fun _ _ _ _ _ _ us hl => match us, hl with | [_, _], _ => rfl
theorem Top.b29 (T : Top K mg fa fd tl) : Binds K (fd 29) ["block", "order", "thing"] [] := T.F29.binds (ps := ["block", "order", "thing"]) fun _ _ _ _ _ _ us hl => match us, hl with | [_, _, _], _ => rfl
theorem Top.b31 (T : Top K mg fa fd tl) : Binds K (fd 31) ["_law_script", "_law_k"] [] := T.F31.binds (ps := ["_law_script", "_law_k"]) fun _ _ _ _ _ _ us hl => match us, hl with | [_, _], _ => rfl
theorem Top.b32 (T : Top K mg fa fd tl) : Binds K (fd 32) ["_law_tub", "_law_under"] [] := T.F32.binds (ps := ["_law_tub", "_law_under"]) fun _ _ _ _ _ _ us hl => match us, hl with | [_, _], _ => rfl
theorem Top.b33 (T : Top K mg fa fd tl) : Binds K (fd 33) ["_law_script", "_law_top"] [] := T.F33.binds (ps := ["_law_script", "_law_top"]) fun _ _ _ _ _ _ us hl => match us, hl with | [_, _], _ => rfl
theorem Top.b34 (T : Top K mg fa fd tl) : Binds K (fd 34) ["_law_tub", "_law_few_so"] [] := T.F34.binds (ps := ["_law_tub", "_law_few_so"]) fun _ _ _ _ _ _ us hl => match us, hl with | [_, _], _ => rfl
theorem Top.b35 (T : Top K mg fa fd tl) : Binds K (fd 35) ["_law_tub", "_law_few_so", "_law_much_so"] [] := T.F35.binds (ps := ["_law_tub", "_law_few_so", "_law_much_so"]) fun _ _ _ _ _ _ us hl => match us, hl with | [_, _, _], _ => rfl
theorem Top.b36 (T : Top K mg fa fd tl) : Binds K (fd 36) ["_law_got", "_law_due"] [] := T.F36.binds (ps := ["_law_got", "_law_due"]) fun _ _ _ _ _ _ us hl => match us, hl with | [_, _], _ => rfl
theorem Top.b37 (T : Top K mg fa fd tl) : Binds K (fd 37) ["_law_matter"] [] := T.F37.binds (ps := ["_law_matter"]) fun _ _ _ _ _ _ us hl => match us, hl with | [_], _ => rfl
theorem Top.b38 (T : Top K mg fa fd tl) : Binds K (fd 38) ["_law_tub", "_law_many_so"] [] := T.F38.binds (ps := ["_law_tub", "_law_many_so"]) fun _ _ _ _ _ _ us hl => match us, hl with | [_, _], _ => rfl
theorem Top.b39 (T : Top K mg fa fd tl) : Binds K (fd 39) ["_law_tub", "_law_block_so"] [] := T.F39.binds (ps := ["_law_tub", "_law_block_so"]) fun _ _ _ _ _ _ us hl => match us, hl with | [_, _], _ => rfl
theorem Top.b40 (T : Top K mg fa fd tl) : Binds K (fd 40) ["_law_some_so", "_law_lot_so"] [] := T.F40.binds (ps := ["_law_some_so", "_law_lot_so"]) fun _ _ _ _ _ _ us hl => match us, hl with | [_, _], _ => rfl
theorem Top.b41 (T : Top K mg fa fd tl) : Binds K (fd 41) ["_law_block_so", "_law_line_so", "_law_lasts_so"] [] := T.F41.binds (ps := ["_law_block_so", "_law_line_so", "_law_lasts_so"]) fun _ _ _ _ _ _ us hl => match us, hl with | [_, _, _], _ => rfl
theorem Top.b42 (T : Top K mg fa fd tl) : Binds K (fd 42) ["_law_block_so"] [] := T.F42.binds (ps := ["_law_block_so"]) fun _ _ _ _ _ _ us hl => match us, hl with | [_], _ => rfl
theorem Top.b43 (T : Top K mg fa fd tl) : Binds K (fd 43) ["_law_tags"] [] := T.F43.binds (ps := ["_law_tags"]) fun _ _ _ _ _ _ us hl => match us, hl with | [_], _ => rfl
theorem Top.b44 (T : Top K mg fa fd tl) : Binds K (fd 44) ["_law_block_so", "_law_line_so"] [] := T.F44.binds (ps := ["_law_block_so", "_law_line_so"]) fun _ _ _ _ _ _ us hl => match us, hl with | [_, _], _ => rfl
theorem Top.b45 (T : Top K mg fa fd tl) : Binds K (fd 45) [] [] := T.F45.binds (ps := []) fun _ _ _ _ _ _ us hl => match us, hl with | [], _ => rfl
theorem Top.b46 (T : Top K mg fa fd tl) : Binds K (fd 46) ["_law_kit_here", "_law_line_so", "_law_odd_so"] [] := T.F46.binds (ps := ["_law_kit_here", "_law_line_so", "_law_odd_so"]) fun _ _ _ _ _ _ us hl => match us, hl with | [_, _, _], _ => rfl
theorem Top.b47 (T : Top K mg fa fd tl) : Binds K (fd 47) [] [] := T.F47.binds (ps := []) fun _ _ _ _ _ _ us hl => match us, hl with | [], _ => rfl
theorem Top.b48 (T : Top K mg fa fd tl) : Binds K (fd 48) [] [] := T.F48.binds (ps := []) fun _ _ _ _ _ _ us hl => match us, hl with | [], _ => rfl
theorem Top.b49 (T : Top K mg fa fd tl) : Binds K (fd 49) ["_law_tags"] [] := T.F49.binds (ps := ["_law_tags"]) fun _ _ _ _ _ _ us hl => match us, hl with | [_], _ => rfl
theorem Top.b50 (T : Top K mg fa fd tl) : Binds K (fd 50) ["_law_tub"] [] := T.F50.binds (ps := ["_law_tub"]) fun _ _ _ _ _ _ us hl => match us, hl with | [_], _ => rfl
theorem Top.b51 (T : Top K mg fa fd tl) : Binds K (fd 51) ["_law_script"] [] := T.F51.binds (ps := ["_law_script"]) fun _ _ _ _ _ _ us hl => match us, hl with | [_], _ => rfl
theorem Top.t29 (T : Top K mg fa fd tl) : Turned (fd 29) ["block", "order", "thing"] ["thing", "order", "block"] := fun s ws hl => by
  obtain ⟨oc, od, kV, doc, pm, an, cdv, ct, osl, e, lk, hcd⟩ := T.F29.ex
  rw [e]
  exact match ws, hl with | [_, _, _], _ => .of_eq rfl
theorem Top.t28 (T : Top K mg fa fd tl) : Turned (fd 28) ["block", "order"] ["order", "block"] := fun s ws hl => by
  obtain ⟨oc, od, kV, doc, pm, an, cdv, ct, osl, e, lk, hcd⟩ := T.F28.ex
  rw [e]
  exact match ws, hl with | [_, _], _ => .of_eq rfl
end
end K21

/-! Promises of the plain defs. -/
namespace K21
open PySem PySem.Spec PyProof.Rows L2 RZ
open NdefX (NTab TabsN TabN)
/-- an expression that is never reached -/
def tDead : TE := fun _ _ _ => False
theorem pe_dead {X : Cx} {e : Expr} : PE X e tDead := ⟨fun _ _ _ _ _ _ h => h.elim⟩
/-! ### what they compute -/
def letters : Str := "abcdefghijklmnopqrstuvwxyz"
def isNameS (s : Str) : Bool := decide (1 ≤ s.length) && decide (s.length ≤ 8) && s.cps.toList.all fun c => decide (c ∈ letters.cps.toList)
def isNameD : PyData → Bool
  | .str s => isNameS s
  | _ => false
def rising (ss : List Str) : Bool := (ss.zip (ss.drop 1)).all fun p => slt p.1 p.2
def strOf : PyData → Str
  | .str s => s
  | _ => ""
def isNameSetD : PyData → Bool
  | .tuple ds => ds.all isNameD && rising (ds.map strOf)
  | _ => false
/-- data of a depth, its parts few -/
def okD : Nat → PyData → Bool
  | _, .none => true
  | _, .bool _ => true
  | _, .int _ => true
  | _, .str s => decide (s.cps.size ≤ 1000)
  | n + 1, .list ds => decide (ds.length ≤ 1000) && ds.all fun d => okD n d
  | n + 1, .tuple ds => decide (ds.length ≤ 1000) && ds.all fun d => okD n d
  | _, _ => false
theorem okD_str {n : Nat} {s : Str} (h : okD n (.str s) = true) : s.cps.size ≤ 1000 := by
  cases n <;> exact of_decide_eq_true h
theorem okD_tup {n : Nat} {ds : List PyData} (h : okD n (.tuple ds) = true) : ∃ m, n = m + 1 ∧ ds.length ≤ 1000 ∧ ∀ d ∈ ds, okD m d = true := by
  cases n with
  | zero => simp [okD] at h
  | succ m =>
    simp only [okD, Bool.and_eq_true, decide_eq_true_eq, List.all_eq_true] at h
    exact ⟨m, rfl, h.1, h.2⟩
theorem okD_lst {n : Nat} {ds : List PyData} (h : okD n (.list ds) = true) : ∃ m, n = m + 1 ∧ ds.length ≤ 1000 ∧ ∀ d ∈ ds, okD m d = true := by
  cases n with
  | zero => simp [okD] at h
  | succ m =>
    simp only [okD, Bool.and_eq_true, decide_eq_true_eq, List.all_eq_true] at h
    exact ⟨m, rfl, h.1, h.2⟩
theorem isA_str {d : PyData} : isA "str" d = true → ∃ s, d = .str s := by
  cases d <;> simp [isA, tyName]
theorem isA_tup {d : PyData} : isA "tuple" d = true → ∃ ds, d = .tuple ds := by
  cases d <;> simp [isA, tyName]
theorem dpa1 {K : PySem.W.Frag} {F : Hp} {vs : List V} {d : PyData} (h : DpAll K F vs [d]) : ∃ v, vs = [v] ∧ Dp K F v d := by
  cases h with
  | cons a b => cases b; exact ⟨_, rfl, a⟩
theorem dpa2 {K : PySem.W.Frag} {F : Hp} {vs : List V} {d e : PyData} (h : DpAll K F vs [d, e]) : ∃ v u, vs = [v, u] ∧ Dp K F v d ∧ Dp K F u e := by
  cases h with
  | cons a b =>
    obtain ⟨u, rfl, p⟩ := dpa1 b
    exact ⟨_, u, rfl, a, p⟩
theorem dpa3 {K : PySem.W.Frag} {F : Hp} {vs : List V} {d e f : PyData} (h : DpAll K F vs [d, e, f]) : ∃ v u t, vs = [v, u, t] ∧ Dp K F v d ∧ Dp K F u e ∧ Dp K F t f := by
  cases h with
  | cons a b =>
    obtain ⟨u, t, rfl, p1, p2⟩ := dpa2 b
    exact ⟨_, u, t, rfl, a, p1, p2⟩
theorem spD_len {Z : List NTab} {K : PySem.W.Frag} {R : List PyData → PyData → Prop} {n : Nat} (hn : ∀ ds r, R ds r → ds.length = n) {vs : List V} {H : Hp} {Q : VK} {E : XK} (h : spD Z K R vs H Q E) : vs.length = n := by
  obtain ⟨F, ds, r, _, p, hr, _⟩ := h
  rw [dpa_length p, hn ds r hr]
theorem spS_len {Z : List NTab} {K : PySem.W.Frag} {R : List PyData → Sh → Prop} {n : Nat} (hn : ∀ ds r, R ds r → ds.length = n) {vs : List V} {H : Hp} {Q : VK} {E : XK} (h : spS Z K R vs H Q E) : vs.length = n := by
  obtain ⟨F, ds, r, _, p, hr, _⟩ := h
  rw [dpa_length p, hn ds r hr]
/-! ### is_name -/
def sp6 (Z : List NTab) (K : PySem.W.Frag) : Sp := spD Z K fun ds r => ∃ d n, ds = [d] ∧ okD n d = true ∧ r = .bool (isNameD d)
theorem len6 {Z : List NTab} {K : PySem.W.Frag} {vs : List V} {H : Hp} {Q : VK} {E : XK} (h : sp6 Z K vs H Q E) : vs.length = 1 := spD_len (n := 1) (by rintro _ _ ⟨d, n, rfl, _⟩; rfl) h
section
variable {P : Program} {w : World} {K : PySem.W.Frag} {mg : Str → Option Value} {base : Heap} {fa : Nat → Addr} {fd : Nat → FuncData} {tl : Nat → Tok} {Z : List NTab}
theorem ok6 (T : Top K mg fa fd tl)  : FnOk P w K mg base CX0 1 (fa 6) (fd 6) ["value"] (sp6 Z K) := by
  refine T.F6.ok sc6 (fun vs H Q E h => len6 h) (fun cdv A outer s0 H vs Q E hr h => ?_)
  refine ⟨_, (pss_cons (ps_if (PW.pt (pw_or (pt_not (pt_val (pe_callB (kc_isi K) (by rfl) T.m_isinstance bt_isinstance (pa_cons (pv 0) (pa_cons (pe_bltn (v := .ty "str") (by rfl) T.m_str bt_str rfl) pa_nil))))) (pw_or1 (pt_not (pt_chain op_le op_le pe_int (pe_callB (kc_len K) (by rfl) T.m_len bt_len (pa_cons (pv 0) pa_nil)) (pe_glob (v := .int 8) (by rfl) T.g_LONGEST ⟨_, rfl⟩)))))) (pss_one (ps_ret pe_bl)) pss_nil)
  (pss_one (ps_ret (pe_callB (kc_all K (by rfl) rfl) (by rfl) T.m_all bt_all (pa_cons (pe_lc (own := [("letter", 1)]) (tt := tYes) rfl nd6 (pi_str (pv 0)) (blkOk_by (N := ["value", "letter"]) (sc := (defScope s6)) (own := [("letter", 1)]) (by decide +kernel)) (fun _ _ _ _ _ => (pg_name (i := 1) nd6 rfl (Or.inl rfl))) (fun _ _ _ _ _ => pts_nil) (fun _ _ _ _ _ => (pe_cmpR op_in_sign (pv 1) (pe_glob (v := .str "abcdefghijklmnopqrstuvwxyz") (by rfl) T.g_LETTERS ⟨_, rfl⟩) (by rfl)))) pa_nil))))), ?_⟩
  obtain ⟨F, _, _, s, pd, ⟨d, n, rfl, hd, rfl⟩, q⟩ := h
  obtain ⟨v, rfl, p⟩ := dpa1 pd
  have hv : Ed Z K (tVar 0) (L2.start ["value", "letter"] [v]) F d := ed_var rfl p
  refine q_when (b := !isA "str" d || !(match d with | .str s => decide ((1 : Int) ≤ (s.length : Nat)) && decide (((s.length : Nat) : Int) ≤ 8) | _ => true)) ?_ s (fun e H1 e1 s1 => ?_) (fun e H1 e1 s1 => ?_)
  · refine et_or (et_not (et_B (ev_isi hv))) fun e => et_not (et_test ?_)
    rw [Bool.not_eq_false'] at e
    obtain ⟨z, rfl⟩ := isA_str e
    refine ev_chain (f := fun i j => decide (i ≤ j)) (g := fun i j => decide (i ≤ j)) ev_c (ev_lenS hv.str ?_) ev_c
    have := okD_str hd
    show z.cps.size ≤ 100000
    omega
  · refine s_retV ev_c s1 fun H2 e2 s2 => q _ F H2 (Go.ext s (e1.trans e2)) ?_
    have z : isNameD d = false := by
      cases d with
      | str t =>
        have e : (decide ((1 : Int) ≤ (t.length : Nat)) && decide (((t.length : Nat) : Int) ≤ 8)) = false := by
          simp only [isA, tyName, Bool.or_eq_true, Bool.not_eq_true'] at e
          rcases e with e | e
          · exact absurd e (by decide)
          · exact e
        show isNameS t = false
        unfold isNameS
        have e2 : (decide (1 ≤ t.length) && decide (t.length ≤ 8)) = false := by
          rw [← e]
          congr 1 <;> exact decide_eq_decide.mpr (by omega)
        rw [e2, Bool.false_and]
      | _ => rfl
    rw [z]
    exact .bl false
  · obtain ⟨t, rfl⟩ : ∃ t, d = .str t := isA_str (by
      cases h : isA "str" d
      · rw [h] at e; simp at e
      · rfl)
    have e2 : (decide (1 ≤ t.length) && decide (t.length ≤ 8)) = true := by
      have e : (decide ((1 : Int) ≤ (t.length : Nat)) && decide (((t.length : Nat) : Int) ≤ 8)) = true := by simpa [isA, tyName] using e
      rw [← e]
      congr 1 <;> exact decide_eq_decide.mpr (by omega)
    have hl : El Z _ (L2.start ["value", "letter"] [v]) F _ := el_map (K := K) (wi := iStr (tVar 0)) (j := 1) (te := tOp rInSign (tVar 1) (tC (.str letters))) (vs := [1]) (fun c => .bool (decide (c ∈ letters.cps.toList))) (iw_str hv.str) ?_ (fun _ => rfl)
      (fun c x F1 hc _ e => by subst e; exact (ev_inSign (ev_var rfl) ev_c).bl)
    · refine s_retV (ev_all (bs := t.cps.toList.map fun c => decide (c ∈ letters.cps.toList)) (by rw [List.map_map]; exact hl)) s1 fun H2 e3 s2 => q _ F H2 (Go.ext s (e1.trans e3)) ?_
      show Dp K F _ (.bool (isNameS t))
      unfold isNameS
      rw [e2, Bool.true_and, List.all_map]
      exact .bl _
    · have := okD_str hd
      rw [Array.length_toList]
      omega
/-! ### is_rising -/
end
def sp7 (Z : List NTab) (K : PySem.W.Frag) : Sp := spD Z K fun ds r => ∃ ss : List Str, ds = [namesD ss] ∧ ss.length ≤ 1000 ∧ r = .bool (rising ss)
theorem len7 {Z : List NTab} {K : PySem.W.Frag} {vs : List V} {H : Hp} {Q : VK} {E : XK} (h : sp7 Z K vs H Q E) : vs.length = 1 := spD_len (n := 1) (by rintro _ _ ⟨d, rfl, _⟩; rfl) h
section
variable {P : Program} {w : World} {K : PySem.W.Frag} {mg : Str → Option Value} {base : Heap} {fa : Nat → Addr} {fd : Nat → FuncData} {tl : Nat → Tok} {Z : List NTab}
theorem ok7 (T : Top K mg fa fd tl)  : FnOk P w K mg base CX0 1 (fa 7) (fd 7) ["row"] (sp7 Z K) := by
  refine T.F7.ok sc7 (fun vs H Q E h => len7 h) (fun cdv A outer s0 H vs Q E hr h => ?_)
  refine ⟨_, (pss_one (ps_ret (pe_callB (kc_all K (by rfl) rfl) (by rfl) T.m_all bt_all (pa_cons (pe_lc (own := [("one", 1), ("other", 2)]) (tt := tYes) rfl nd7 (pi_zipA (by rfl) T.m_zip (pa_cons (pv 0) (pa_cons (pe_slice (kl_tup K) (pv 0) (po_some pe_int) po_none) pa_nil))) (blkOk_by (N := ["row", "one", "other"]) (sc := (defScope s7)) (own := [("one", 1), ("other", 2)]) (by decide +kernel)) (fun _ _ _ _ _ => (kg_tup (n := 2) K (by rfl) rfl (pgs_cons (pg_name (i := 1) nd7 rfl (Or.inl rfl)) (pgs_cons (pg_name (i := 2) nd7 rfl (Or.inl rfl)) pgs_nil)))) (fun _ _ _ _ _ => pts_nil) (fun _ _ _ _ _ => (pe_cmpR op_lt_str (pv 1) (pv 2) (nomark _)))) pa_nil)))), ?_⟩
  obtain ⟨F, _, _, s, pd, ⟨ss, rfl, hl, rfl⟩, q⟩ := h
  obtain ⟨v, rfl, p⟩ := dpa1 pd
  have hv : Ed Z K (tVar 0) (L2.start ["row", "one", "other"] [v]) F (namesD ss) := ed_var rfl p
  have hw := iw_zipT hv (ed_slT hv (eo_some (n := 1) ev_c) eo_none)
  have ez : (ss.map PyData.str).zip (cutD (ss.map .str) (some 1) none) = (ss.zip (ss.drop 1)).map fun p => (PyData.str p.1, PyData.str p.2) := by
    rw [cut_from, ← List.map_drop, List.zip_map]
    rfl
  rw [ez] at hw
  refine s_retV (ev_all (bs := (ss.zip (ss.drop 1)).map fun p => slt p.1 p.2) ?_) s fun H2 e2 s2 => q _ F H2 (Go.ext s e2) ?_
  · have e : ((ss.zip (ss.drop 1)).map fun p => slt p.1 p.2).map PyData.bool = (((ss.zip (ss.drop 1)).map fun p => (PyData.str p.1, PyData.str p.2)).filter fun _ => true).map fun l => PyData.bool (slt (strOf l.1) (strOf l.2)) := by
      rw [List.filter_eq_self.mpr fun _ _ => rfl, List.map_map, List.map_map]
      rfl
    rw [e]
    refine el_lcD (K := K) (fun _ => true) _ hw ?_ (fun l x F1 H1 hl e s t => ?_) gm_pair
    · rw [List.length_map, List.length_zip, List.length_drop]
      omega
    · obtain ⟨p, hp, rfl⟩ := List.mem_map.mp hl
      refine g_pair t s fun u1 u2 p1 p2 => ⟨rfl, rfl, et_yes, fun _ => ?_⟩
      rw [dp_str p1, dp_str p2]
      exact (ev_ltS (ev_var rfl) (ev_var rfl)).bl
  · rw [List.all_map]
    exact .bl _
/-! ### is_name_set -/
end
def sp8 (Z : List NTab) (K : PySem.W.Frag) : Sp := spD Z K fun ds r => ∃ d n, ds = [d] ∧ okD n d = true ∧ r = .bool (isNameSetD d)
theorem len8 {Z : List NTab} {K : PySem.W.Frag} {vs : List V} {H : Hp} {Q : VK} {E : XK} (h : sp8 Z K vs H Q E) : vs.length = 1 := spD_len (n := 1) (by rintro _ _ ⟨d, n, rfl, _⟩; rfl) h
theorem names_of {ds : List PyData} (h : (ds.map isNameD).all id = true) : ds = (ds.map strOf).map .str := by
  induction ds with
  | nil => rfl
  | cons d ds ih =>
    rw [List.map_cons, List.all_cons, Bool.and_eq_true] at h
    rw [List.map_cons, List.map_cons, ← ih h.2]
    congr 1
    cases d <;> first | rfl | exact absurd h.1 (by simp [isNameD])
section
variable {P : Program} {w : World} {K : PySem.W.Frag} {mg : Str → Option Value} {base : Heap} {fa : Nat → Addr} {fd : Nat → FuncData} {tl : Nat → Tok} {Z : List NTab}
theorem ok8 (T : Top K mg fa fd tl) (G6 : FnOk P w K mg base CX0 1 (fa 6) (fd 6) ["value"] (sp6 Z K)) (G7 : FnOk P w K mg base CX0 1 (fa 7) (fd 7) ["row"] (sp7 Z K)) : FnOk P w K mg base CX0 2 (fa 8) (fd 8) ["value"] (sp8 Z K) := by
  refine T.F8.ok sc8 (fun vs H Q E h => len8 h) (fun cdv A outer s0 H vs Q E hr h => ?_)
  refine ⟨_, (pss_one (ps_ret (pe_and (pe_callB (kc_isi K) (by rfl) T.m_isinstance bt_isinstance (pa_cons (pv 0) (pa_cons (pe_bltn (v := .ty "tuple") (by rfl) T.m_tuple bt_tuple rfl) pa_nil))) (pe_and (pe_callB (kc_all K (by rfl) rfl) (by rfl) T.m_all bt_all (pa_cons (pe_lc (own := [("own", 1)]) (tt := tYes) rfl nd8 (ki_tup K (by rfl) (pv 0)) (blkOk_by (N := ["value", "own"]) (sc := (defScope s8)) (own := [("own", 1)]) (by decide +kernel)) (fun _ _ _ _ _ => (pg_name (i := 1) nd8 rfl (Or.inl rfl))) (fun _ _ _ _ _ => pts_nil) (fun _ _ _ _ _ => (pe_call G6 (hr.mono (by decide)) (by rfl) T.g6 T.F6.kp T.b6 .nil pass0 (pa_cons (pv 1) pa_nil)))) pa_nil)) (pe_one (pe_call G7 (hr.mono (by decide)) (by rfl) T.g7 T.F7.kp T.b7 .nil pass0 (pa_cons (pv 0) pa_nil))))))), ?_⟩
  obtain ⟨F, _, _, s, pd, ⟨d, n, rfl, hd, rfl⟩, q⟩ := h
  obtain ⟨v, rfl, p⟩ := dpa1 pd
  have hv : Ed Z K (tVar 0) (L2.start ["value", "own"] [v]) F d := ed_var rfl p
  refine s_retV (x := .bl (isNameSetD d)) (Ev.to (ev_andV (c := isNameSetD d) (ev_isi hv) fun e => ?_) (congrArg V.bl ?_)) s fun H2 e2 s2 => q _ F H2 (Go.ext s e2) (.bl _)
  · obtain ⟨ds, rfl⟩ := isA_tup e
    obtain ⟨m, rfl, hl, hds⟩ := okD_tup hd
    refine Ev.to (ev_andV (b := (ds.map isNameD).all id) (c := rising (ds.map strOf)) (ev_all (bs := ds.map isNameD) ?_) fun e2 => ?_) (congrArg V.bl ?_)
    · rw [List.map_map]
      refine el_map (K := K) (fun d => .bool (isNameD d)) (iw_tup hv) (by omega) (fun _ => rfl) fun l x F1 hl e t => ?_
      exact ed_call (ead_cons (ed_var rfl t) ead_nil) ⟨l, m, rfl, hds l hl, rfl⟩
    · refine (ed_call (ead_cons hv ead_nil) ⟨ds.map strOf, ?_, by rw [List.length_map]; exact hl, rfl⟩).bl
      rw [namesD, ← names_of e2]
    · rw [List.all_map]
      rfl
  · cases d <;> first | rfl | simp [isA, tyName, isNameSetD]
/-! ### set_of -/
end
def dedS : List Str → List Str
  | [] => []
  | x :: xs => if x ∈ xs then dedS xs else x :: dedS xs
def sset (l : List Str) : List Str := sortS (dedS l)
theorem mem_ded {y : Str} : ∀ {l : List Str}, y ∈ dedS l ↔ y ∈ l
  | [] => Iff.rfl
  | x :: xs => by
    unfold dedS
    split
    · rename_i e
      rw [mem_ded, List.mem_cons]
      exact ⟨.inr, fun h => h.elim (fun h => h ▸ e) id⟩
    · rw [List.mem_cons, List.mem_cons, mem_ded]
theorem ded_nodup : ∀ l : List Str, (dedS l).Nodup
  | [] => List.nodup_nil
  | x :: xs => by
    unfold dedS
    split
    · exact ded_nodup xs
    · rename_i e
      exact List.nodup_cons.mpr ⟨fun h => e (mem_ded.mp h), ded_nodup xs⟩
theorem perm_of_mem {L M : List Str} (h1 : L.Nodup) (h2 : M.Nodup) (h : ∀ y, y ∈ L ↔ y ∈ M) : L.Perm M := (List.perm_ext_iff_of_nodup h1 h2).mpr h
def sp9 (Z : List NTab) (K : PySem.W.Frag) : Sp := spD Z K fun ds r => ∃ ss : List Str, ds = [.list (ss.map .str)] ∧ ss.length < 63 ∧ r = namesD (sset ss)
theorem len9 {Z : List NTab} {K : PySem.W.Frag} {vs : List V} {H : Hp} {Q : VK} {E : XK} (h : sp9 Z K vs H Q E) : vs.length = 1 := spD_len (n := 1) (by rintro _ _ ⟨d, rfl, _⟩; rfl) h
section
variable {P : Program} {w : World} {K : PySem.W.Frag} {mg : Str → Option Value} {base : Heap} {fa : Nat → Addr} {fd : Nat → FuncData} {tl : Nat → Tok} {Z : List NTab}
theorem ok9 (T : Top K mg fa fd tl)  : FnOk P w K mg base CX0 1 (fa 9) (fd 9) ["some"] (sp9 Z K) := by
  refine T.F9.ok sc9 (fun vs H Q E h => len9 h) (fun cdv A outer s0 H vs Q E hr h => ?_)
  refine ⟨_, (pss_one (ps_ret (pe_callTy (kc_tupOf K) (by rfl) T.m_tuple bt_tuple (pa_cons (pe_callB (cr_sortedSetS rfl hr.units) (by rfl) T.m_sorted bt_sorted (pa_cons (pe_callTy (cr_setS rfl) (by rfl) T.m_set bt_set (pa_cons (pv 0) pa_nil)) pa_nil)) pa_nil)))), ?_⟩
  obtain ⟨F, _, _, s, pd, ⟨ss, rfl, hl, rfl⟩, q⟩ := h
  obtain ⟨v, rfl, p⟩ := dpa1 pd
  refine ⟨v, rfl, v, ss, rfl, es_same s p, hl, fun a L hn nd hm => ⟨a, L, rfl, upd_same, fun p2 xs ss2 hn2 hp2 hx => ⟨p2, xs, rfl, .inl ⟨.inl (.inl upd_same), fun l hl2 => ?_⟩⟩⟩⟩
  have e1 : Ext Z H (upd H a (SetSO P w a L)) := ext_new hn
  have e2 : Ext Z (upd H a (SetSO P w a L)) (upd (upd H a (SetSO P w a L)) p2 (.lst xs)) := ext_new hn2
  have s2 := (s.up e1).up e2
  have e3 : dsort (ss2.map .str) = (sset ss).map .str := by
    rw [dsort_strs]
    congr 1
    exact isort_one sle_total sle_anti (hp2.trans (perm_of_mem nd (ded_nodup ss) fun y => (hm y).trans mem_ded.symm))
  rw [e3] at hx
  have e4 : xs = (sset ss).map V.str := dpa_strs hx
  subst e4
  exact q (.ref l) (upd F l (.tup ((sset ss).map V.str))) _ ((Go.ext s (e1.trans e2)).trans (Go.new s2 hl2)) (.tup (.inl (.inl upd_same)) strs_dpa)
/-! ### tupled -/
end
mutual
def tupl : PyData → PyData
  | .list ds => .tuple (tuplAll ds)
  | .tuple ds => .tuple (tuplAll ds)
  | .none => .none
  | .bool b => .bool b
  | .int i => .int i
  | .str s => .str s
  | .dict kvs => .dict kvs
def tuplAll : List PyData → List PyData
  | [] => []
  | d :: ds => tupl d :: tuplAll ds
end
theorem tuplAll_map : ∀ ds : List PyData, tuplAll ds = ds.map tupl
  | [] => by rw [tuplAll]; rfl
  | d :: ds => by rw [tuplAll, tuplAll_map ds]; rfl
theorem tupl_strs (ss : List Str) : (ss.map PyData.str).map tupl = ss.map .str := by
  rw [List.map_map]
  exact List.map_congr_left fun x _ => by simp [tupl]
theorem tupl_names (ss : List Str) : tupl (namesD ss) = namesD ss := by
  rw [namesD, tupl, tuplAll_map, tupl_strs]
theorem tupl_list (ss : List Str) : tupl (.list (ss.map .str)) = namesD ss := by
  rw [namesD, tupl, tuplAll_map, tupl_strs]
/-- what tupled hands back: of a list or a tuple, a new tuple -/
def TupSh (K : PySem.W.Frag) (d : PyData) : Sh := match d with
  | .list ds => Pt K (ds.map tupl)
  | .tuple ds => Pt K (ds.map tupl)
  | d => fun v F => Dp K F v d
theorem tupSh_dp {K : PySem.W.Frag} {d : PyData} {v : V} {F : Hp} (h : TupSh K d v F) : Dp K F v (tupl d) := by
  cases d with
  | list ds => rw [tupl, tuplAll_map]; exact Pt.dp h
  | tuple ds => rw [tupl, tuplAll_map]; exact Pt.dp h
  | dict kvs => rw [tupl]; exact h
  | none => rw [tupl]; exact h
  | bool b => rw [tupl]; exact h
  | int i => rw [tupl]; exact h
  | str s => rw [tupl]; exact h
theorem mono_tupSh {K : PySem.W.Frag} {d : PyData} : Mono (TupSh K d) := by
  cases d with
  | list ds => exact mono_pt
  | tuple ds => exact mono_pt
  | dict kvs => exact mono_dp
  | none => exact mono_dp
  | bool b => exact mono_dp
  | int i => exact mono_dp
  | str s => exact mono_dp
def sp10 (Z : List NTab) (K : PySem.W.Frag) (n : Nat) : Sp := spS Z K fun ds P => ∃ d, ds = [d] ∧ okD n d = true ∧ P = TupSh K d
theorem len10 {Z : List NTab} {K : PySem.W.Frag} {n : Nat} {vs : List V} {H : Hp} {Q : VK} {E : XK} (h : sp10 Z K n vs H Q E) : vs.length = 1 := spS_len (n := 1) (by rintro _ _ ⟨d, rfl, _⟩; rfl) h
section
variable {P : Program} {w : World} {K : PySem.W.Frag} {mg : Str → Option Value} {base : Heap} {fa : Nat → Addr} {fd : Nat → FuncData} {tl : Nat → Tok} {Z : List NTab}
theorem step10 (T : Top K mg fa fd tl) {k n : Nat} (G10 : ∀ m, n = m + 1 → FnOk P w K mg base CX0 k (fa 10) (fd 10) ["value"] (sp10 Z K m)) : FnOk P w K mg base CX0 (k + 1) (fa 10) (fd 10) ["value"] (sp10 Z K n) := by
  refine T.F10.ok sc10 (fun vs H Q E h => len10 h) (fun cdv A outer s0 H vs Q E hr h => ?_)
  obtain ⟨F, _, _, s, pd, ⟨d, rfl, hd, rfl⟩, q⟩ := h
  obtain ⟨v, rfl, p⟩ := dpa1 pd
  have hv : Ed Z K (tVar 0) (L2.start ["value", "part"] [v]) F d := ed_var rfl p
  have no : ∀ {ta : TE}, (isA "list" d || isA "tuple" d) = false → TupSh K d = (fun v F => Dp K F v d) → tRet (tIf (tB (tCB (rIsiT K) (tCons (tVar 0) (tCons (tTup (tCons (tC (.ty "list")) (tCons (tC (.ty "tuple")) tNil))) tNil)))) ta (tVar 0)) { nx := fun _ H' => Q .non H', rt := Q } (L2.start ["value", "part"] [v]) H := fun e1 e2 =>
    s_ret (es_if (et_B (ev_isiT hv)) (fun e => absurd (e1.symm.trans e) (by decide)) fun _ => es_var (P := TupSh K d) rfl (by rw [e2]; exact p)) s fun v F' H' g z => q v F' H' g z
  cases d with
  | tuple ds =>
    obtain ⟨m, hm, hl, hds⟩ := okD_tup hd
    have G10 := G10 m hm
    refine ⟨_, (pss_one (ps_ret (pe_ifExp (pt_val (pe_callB (kc_isiT K) (by rfl) T.m_isinstance bt_isinstance (pa_cons (pv 0) (pa_cons (pe_tup (pa_cons (pe_bltn (v := .ty "list") (by rfl) T.m_list bt_list rfl) (pa_cons (pe_bltn (v := .ty "tuple") (by rfl) T.m_tuple bt_tuple rfl) pa_nil))) pa_nil)))) (pe_callTy (kc_tupOfP K) (by rfl) T.m_tuple bt_tuple (pa_cons (pe_lc (own := [("part", 1)]) (tt := tYes) rfl nd10 (ki_tup K (by rfl) (pv 0)) (blkOk_by (N := ["value", "part"]) (sc := (defScope s10)) (own := [("part", 1)]) (by decide +kernel)) (fun _ _ _ _ _ => (pg_name (i := 1) nd10 rfl (Or.inl rfl))) (fun _ _ _ _ _ => pts_nil) (fun _ _ _ _ _ => (pe_call G10 hr (by rfl) T.g10 T.F10.kp T.b10 .nil pass0 (pa_cons (pv 1) pa_nil)))) pa_nil)) (pv 0)))), ?_⟩
    refine s_ret (es_if (P := Pt K (ds.map tupl)) (et_B (ev_isiT hv)) (fun _ => es_tupOfP ?_) fun e => absurd e (by simp [isA, tyName])) s fun v F' H' g z => q v F' H' g z
    exact el_map (K := K) tupl (iw_tup hv) (by omega) (fun _ => rfl) fun l x F1 hl e t => (es_call (ead_cons (ed_var rfl t) ead_nil) ⟨l, rfl, hds l hl, rfl⟩).imp fun v F' _ z => tupSh_dp z
  | list ds =>
    obtain ⟨m, hm, hl, hds⟩ := okD_lst hd
    have G10 := G10 m hm
    refine ⟨_, (pss_one (ps_ret (pe_ifExp (pt_val (pe_callB (kc_isiT K) (by rfl) T.m_isinstance bt_isinstance (pa_cons (pv 0) (pa_cons (pe_tup (pa_cons (pe_bltn (v := .ty "list") (by rfl) T.m_list bt_list rfl) (pa_cons (pe_bltn (v := .ty "tuple") (by rfl) T.m_tuple bt_tuple rfl) pa_nil))) pa_nil)))) (pe_callTy (kc_tupOfP K) (by rfl) T.m_tuple bt_tuple (pa_cons (pe_lc (own := [("part", 1)]) (tt := tYes) rfl nd10 (ki_list K (by rfl) (pv 0)) (blkOk_by (N := ["value", "part"]) (sc := (defScope s10)) (own := [("part", 1)]) (by decide +kernel)) (fun _ _ _ _ _ => (pg_name (i := 1) nd10 rfl (Or.inl rfl))) (fun _ _ _ _ _ => pts_nil) (fun _ _ _ _ _ => (pe_call G10 hr (by rfl) T.g10 T.F10.kp T.b10 .nil pass0 (pa_cons (pv 1) pa_nil)))) pa_nil)) (pv 0)))), ?_⟩
    refine s_ret (es_if (P := Pt K (ds.map tupl)) (et_B (ev_isiT hv)) (fun _ => es_tupOfP ?_) fun e => absurd e (by simp [isA, tyName])) s fun v F' H' g z => q v F' H' g z
    exact el_map (K := K) tupl (iw_list hv) (by omega) (fun _ => rfl) fun l x F1 hl e t => (es_call (ead_cons (ed_var rfl t) ead_nil) ⟨l, rfl, hds l hl, rfl⟩).imp fun v F' _ z => tupSh_dp z
  | dict kvs => cases p
  | _ =>
    refine ⟨_, (pss_one (ps_ret (pe_ifExp (pt_val (pe_callB (kc_isiT K) (by rfl) T.m_isinstance bt_isinstance (pa_cons (pv 0) (pa_cons (pe_tup (pa_cons (pe_bltn (v := .ty "list") (by rfl) T.m_list bt_list rfl) (pa_cons (pe_bltn (v := .ty "tuple") (by rfl) T.m_tuple bt_tuple rfl) pa_nil))) pa_nil)))) pe_dead (pv 0)))), no (by simp [isA, tyName]) rfl⟩
theorem ok10 (T : Top K mg fa fd tl) : ∀ n, FnOk P w K mg base CX0 (n + 1) (fa 10) (fd 10) ["value"] (sp10 Z K n)
  | 0 => step10 T fun m e => absurd e (by omega)
  | n + 1 => step10 T fun m e => by
    have : m = n := by omega
    subst this
    exact ok10 T m
end
end K21

/-! Promises of the defs on blocks. -/
namespace K21
open PySem PySem.Spec PyProof.Rows L2 RZ
open NdefX (NTab TabsN TabN)
theorem Turns.of_map {α : Type} {Z : List NTab} {J : It} {F : Hp} {ls : List α} {f : α → PyData} {T : PyData → Sh} (h : Turns Z J F (ls.map f) T) : Turns Z J F ls fun l => T (f l) := by
  obtain ⟨G, Y, w, hG, hY⟩ := h
  exact ⟨G, Y, by rw [← List.length_map (f := f)]; exact w, hG, fun i l x F2 H2 H3 hi => hY i (f l) x F2 H2 H3 (by rw [List.getElem?_map, hi]; rfl)⟩
theorem IW.of_map {α : Type} {Z : List NTab} {wi : TI} {σ : St} {F : Hp} {ls : List α} {f : α → PyData} {T : PyData → Sh} (h : IW Z wi σ F (ls.map f) T) : IW Z wi σ F ls fun l => T (f l) := fun H s R r =>
  h H s R fun J F1 H1 g t => r J F1 H1 g t.of_map
/-- b is the block B, lists or tuples -/
structure IsB (b : PyData) (B : Blk) : Prop where
  ok : okD 11 b = true
  eq : tupl b = blkD B
  few : B.rows.length ≤ 50
  rds : ∀ r ∈ B.rows, r.rd.length ≤ 50
  lives : B.live.length ≤ 50
  nms : ∀ r ∈ B.rows, isNameS r.nm = true
def Blk.names (B : Blk) : List Str := B.rows.map Row.nm
def Blk.readers (B : Blk) (n : Str) : List Str := (B.rows.filter fun r => decide (n ∈ r.rd)).map Row.nm
def Blk.slow (B : Blk) : List Str := (B.rows.filter Row.sl).map Row.nm
def Blk.awaited (B : Blk) : List Str := B.slow.filter fun n => decide (n ∈ B.live) || decide (0 < (B.readers n).length)
def Blk.table (B : Blk) : WL := B.rows.map fun r => (r.nm, .tuple [namesD r.rd, .bool r.sl])
section
variable {Z : List NTab} {K : PySem.W.Frag} {σ : St} {F : Hp} {ta : TE} {b : PyData} {B : Blk} {E : XK}
theorem ed_tupled {d : PyData} (hd : okD 11 d = true) (h : Ed Z K ta σ F d) : Es Z (tCall (sp10 Z K 11) [] E (tCons ta tNil)) σ F (TupSh K d) := es_call (ead_cons h ead_nil) ⟨d, rfl, hd, rfl⟩
theorem ed_blk (hB : IsB b B) (h : Ed Z K ta σ F b) : Ed Z K (tCall (sp10 Z K 11) [] E (tCons ta tNil)) σ F (blkD B) := (ed_tupled hB.ok h).imp fun v F' _ z => by rw [← hB.eq]; exact tupSh_dp z
theorem ed_rows (hB : IsB b B) (h : Ed Z K ta σ F b) : Ed Z K (tOp (rIxT K) (tCall (sp10 Z K 11) [] E (tCons ta tNil)) (tC (.int 0))) σ F (.tuple (B.rows.map rowD)) := ed_ixT (j := 0) (ed_blk hB h) ev_c rfl
theorem ed_nm {r : Row} (h : Ed Z K ta σ F (rowD r)) : Ev Z (tOp (rIxT K) ta (tC (.int 0))) σ F (.str r.nm) := (ed_ixT (j := 0) h ev_c rfl).str
theorem ed_rd {r : Row} (h : Ed Z K ta σ F (rowD r)) : Ed Z K (tOp (rIxT K) ta (tC (.int 1))) σ F (namesD r.rd) := ed_ixT (j := 1) h ev_c rfl
theorem ed_sl {r : Row} (h : Ed Z K ta σ F (rowD r)) : Ev Z (tOp (rIxT K) ta (tC (.int 2))) σ F (.bl r.sl) := (ed_ixT (j := 2) h ev_c rfl).bl
end
/-! ### table_of -/
def sp12 (Z : List NTab) (K : PySem.W.Frag) : Sp := spS Z K fun ds P => ∃ b B, ds = [b] ∧ IsB b B ∧ B.names.Nodup ∧ P = Wd K B.table
theorem len12 {Z : List NTab} {K : PySem.W.Frag} {vs : List V} {H : Hp} {Q : VK} {E : XK} (h : sp12 Z K vs H Q E) : vs.length = 1 := spS_len (n := 1) (by rintro _ _ ⟨d, B, rfl, _⟩; rfl) h
section
variable {P : Program} {w : World} {K : PySem.W.Frag} {mg : Str → Option Value} {base : Heap} {fa : Nat → Addr} {fd : Nat → FuncData} {tl : Nat → Tok} {Z : List NTab}
theorem ok12 (T : Top K mg fa fd tl) (G10 : FnOk P w K mg base CX0 12 (fa 10) (fd 10) ["value"] (sp10 Z K 11)) : FnOk P w K mg base CX0 13 (fa 12) (fd 12) ["block"] (sp12 Z K) := by
  refine T.F12.ok sc12 (fun vs H Q E h => len12 h) (fun cdv A outer s0 H vs Q E hr h => ?_)
  refine ⟨_, (pss_one (ps_ret (pe_dc (own := [("name", 1), ("reads", 2), ("slow", 3)]) (tt := tYes) rfl nd12 (ki_tup K (by rfl) (pe_ix (kx_tup K) (pe_call G10 (hr.mono (by decide)) (by rfl) T.g10 T.F10.kp T.b10 .nil pass0 (pa_cons (pv 0) pa_nil)) pe_int (fun _ _ => rfl))) (blkOk_by (N := ["block", "name", "reads", "slow"]) (sc := (defScope s12)) (own := [("name", 1), ("reads", 2), ("slow", 3)]) (by decide +kernel)) (fun _ _ _ _ _ => (kg_tup (n := 3) K (by rfl) rfl (pgs_cons (pg_name (i := 1) nd12 rfl (Or.inl rfl)) (pgs_cons (pg_name (i := 2) nd12 rfl (Or.inl rfl)) (pgs_cons (pg_name (i := 3) nd12 rfl (Or.inl rfl)) pgs_nil))))) (fun _ _ _ _ _ => pts_nil) (fun _ _ _ _ _ => (pv 1)) (fun _ _ _ _ _ => (pe_tup (pa_cons (pv 2) (pa_cons (pv 3) pa_nil))))))), ?_⟩
  obtain ⟨F, _, _, s, pd, ⟨b, B, rfl, hB, nd, rfl⟩, q⟩ := h
  obtain ⟨v, rfl, p⟩ := dpa1 pd
  have hv : Ed Z K (tVar 0) (L2.start ["block", "name", "reads", "slow"] [v]) F b := ed_var rfl p
  refine s_ret (P := Wd K B.table) (es_dc Row.nm (fun r => .tuple [namesD r.rd, .bool r.sl]) (IW.of_map (iw_tup (ed_rows hB hv))) (by have := hB.few; omega) nd (fun r x F1 H1 hr e s t => ?_) gm_triple) s q
  refine g_triple t s fun u1 u2 u3 p1 p2 p3 => ⟨rfl, rfl, ?_, ?_⟩
  · rw [dp_str p1]
    exact ev_var rfl
  · exact ed_tup (ead_cons (ed_var rfl p2) (ead_cons (ed_var rfl p3) ead_nil)) (by simp)
/-! ### names_in -/
end
def sp13 (Z : List NTab) (K : PySem.W.Frag) : Sp := spD Z K fun ds r => ∃ b B, ds = [b] ∧ IsB b B ∧ r = namesD B.names
theorem len13 {Z : List NTab} {K : PySem.W.Frag} {vs : List V} {H : Hp} {Q : VK} {E : XK} (h : sp13 Z K vs H Q E) : vs.length = 1 := spD_len (n := 1) (by rintro _ _ ⟨d, B, rfl, _⟩; rfl) h
section
variable {P : Program} {w : World} {K : PySem.W.Frag} {mg : Str → Option Value} {base : Heap} {fa : Nat → Addr} {fd : Nat → FuncData} {tl : Nat → Tok} {Z : List NTab}
theorem ok13 (T : Top K mg fa fd tl) (G10 : FnOk P w K mg base CX0 12 (fa 10) (fd 10) ["value"] (sp10 Z K 11)) : FnOk P w K mg base CX0 13 (fa 13) (fd 13) ["block"] (sp13 Z K) := by
  refine T.F13.ok sc13 (fun vs H Q E h => len13 h) (fun cdv A outer s0 H vs Q E hr h => ?_)
  refine ⟨_, (pss_one (ps_ret (pe_callTy (kc_tupOf K) (by rfl) T.m_tuple bt_tuple (pa_cons (pe_lc (own := [("row", 1)]) (tt := tYes) rfl nd13 (ki_tup K (by rfl) (pe_ix (kx_tup K) (pe_call G10 (hr.mono (by decide)) (by rfl) T.g10 T.F10.kp T.b10 .nil pass0 (pa_cons (pv 0) pa_nil)) pe_int (fun _ _ => rfl))) (blkOk_by (N := ["block", "row"]) (sc := (defScope s13)) (own := [("row", 1)]) (by decide +kernel)) (fun _ _ _ _ _ => (pg_name (i := 1) nd13 rfl (Or.inl rfl))) (fun _ _ _ _ _ => pts_nil) (fun _ _ _ _ _ => (pe_ix (kx_tup K) (pv 1) pe_int (fun _ _ => rfl)))) pa_nil)))), ?_⟩
  obtain ⟨F, _, _, s, pd, ⟨b, B, rfl, hB, rfl⟩, q⟩ := h
  obtain ⟨v, rfl, p⟩ := dpa1 pd
  have hv : Ed Z K (tVar 0) (L2.start ["block", "row"] [v]) F b := ed_var rfl p
  refine s_ret (ed_tupOf (ds := B.names.map .str) ?_) s q
  rw [Blk.names, List.map_map]
  refine el_map (K := K) (fun r : Row => .str r.nm) (IW.of_map (iw_tup (ed_rows hB hv))) (by have := hB.few; omega) (fun _ => rfl) fun r x F1 hr e t => ?_
  exact (ed_nm (ed_var rfl t)).str
/-! ### check_names -/
end
def sp14 (Z : List NTab) (K : PySem.W.Frag) : Sp := spD Z K fun ds r => ∃ b B, ∃ ss : List Str, ds = [b, namesD ss] ∧ IsB b B ∧ ss.length ≤ 1000 ∧ (∀ x ∈ ss, x ∈ B.names) ∧ r = .none
theorem len14 {Z : List NTab} {K : PySem.W.Frag} {vs : List V} {H : Hp} {Q : VK} {E : XK} (h : sp14 Z K vs H Q E) : vs.length = 2 := spD_len (n := 2) (by rintro _ _ ⟨d, B, ss, rfl, _⟩; rfl) h
section
variable {P : Program} {w : World} {K : PySem.W.Frag} {mg : Str → Option Value} {base : Heap} {fa : Nat → Addr} {fd : Nat → FuncData} {tl : Nat → Tok} {Z : List NTab}
theorem ok14 (T : Top K mg fa fd tl) (G13 : FnOk P w K mg base CX0 13 (fa 13) (fd 13) ["block"] (sp13 Z K)) : FnOk P w K mg base CX0 14 (fa 14) (fd 14) ["block", "some"] (sp14 Z K) := by
  refine T.F14.ok sc14 (fun vs H Q E h => len14 h) (fun cdv A outer s0 H vs Q E hr h => ?_)
  refine ⟨_, (pss_cons (ps_set (i := 2) nd14 rfl (Or.inl rfl) (pe_call G13 (hr.mono (by decide)) (by rfl) T.g13 T.F13.kp T.b13 .nil pass0 (pa_cons (pv 0) pa_nil)))
  (pss_one (ps_for PassesOwn.never rfl (ki_tup K (by rfl) (pv 1)) (pg_name (i := 3) nd14 rfl (Or.inl rfl)) (pss_one (ps_if (pt_cmpR (ko_notIn K) (pv 3) (pv 2) (by rfl)) (pss_one ps_never) pss_nil))))), ?_⟩
  obtain ⟨F, _, _, s, pd, ⟨b, B, ss, rfl, hB, few, hss, rfl⟩, q⟩ := h
  obtain ⟨v, u, rfl, p, p2⟩ := dpa2 pd
  have hv : Ed Z K (tVar 0) (L2.start ["block", "some", "known", "name"] [v, u]) F b := ed_var rfl p
  refine q_asg (ed_call (ead_cons hv ead_nil) ⟨b, B, rfl, hB, rfl⟩) s fun k F1 H1 g1 pk => ?_
  refine s_for (IW.of_map (iw_tup (ed_var (d := namesD ss) rfl (dp_mono g1.ff p2)))) g1.sub (fun i σ1 F2 H2 => (∃ y, σ1 = [some v, some u, some k, y]) ∧ Go Z F H F2 H2 ∧ Dp K F2 k (namesD B.names)) (fun F2 H2 g2 => ⟨⟨none, rfl⟩, g1.trans g2, dp_mono g2.ff pk⟩) (fun i l σ1 F2 H2 x F3 H3 hl s2 ⟨⟨y, hy⟩, g2, pk2⟩ g3 t => ?_) fun σ1 F2 H2 s2 ⟨_, g2, _⟩ => q .non F2 H2 g2 .non
  subst hy
  have hx : x = .str l := dp_str t
  subst hx
  refine s_if (b := !decide (l ∈ B.names)) (et_test (ev_notInT (ev_var rfl) (ed_var rfl (dp_mono g3.ff pk2)))) g3.sub (fun e => ?_) fun e H4 e4 s4 => ?_
  · have := hss l (mem_of_get hl)
    simp [this] at e
  · exact ⟨F3, g3.ff, s4, ⟨_, rfl⟩, (g2.trans g3).trans (Go.ext g3.sub e4), dp_mono g3.ff pk2⟩
/-! ### readers_of -/
end
def sp15 (Z : List NTab) (K : PySem.W.Frag) : Sp := spD Z K fun ds r => ∃ b B, ∃ n : Str, ds = [b, .str n] ∧ IsB b B ∧ n ∈ B.names ∧ r = namesD (B.readers n)
theorem len15 {Z : List NTab} {K : PySem.W.Frag} {vs : List V} {H : Hp} {Q : VK} {E : XK} (h : sp15 Z K vs H Q E) : vs.length = 2 := spD_len (n := 2) (by rintro _ _ ⟨d, B, ss, rfl, _⟩; rfl) h
section
variable {P : Program} {w : World} {K : PySem.W.Frag} {mg : Str → Option Value} {base : Heap} {fa : Nat → Addr} {fd : Nat → FuncData} {tl : Nat → Tok} {Z : List NTab}
theorem ok15 (T : Top K mg fa fd tl) (G10 : FnOk P w K mg base CX0 12 (fa 10) (fd 10) ["value"] (sp10 Z K 11)) (G14 : FnOk P w K mg base CX0 14 (fa 14) (fd 14) ["block", "some"] (sp14 Z K)) : FnOk P w K mg base CX0 15 (fa 15) (fd 15) ["block", "name"] (sp15 Z K) := by
  refine T.F15.ok sc15 (fun vs H Q E h => len15 h) (fun cdv A outer s0 H vs Q E hr h => ?_)
  refine ⟨_, (pss_cons (ps_expr (pe_call G14 (hr.mono (by decide)) (by rfl) T.g14 T.F14.kp T.b14 .nil pass0 (pa_cons (pv 0) (pa_cons (pe_tup (pa_cons (pv 1) pa_nil)) pa_nil))))
  (pss_one (ps_ret (pe_callTy (kc_tupOf K) (by rfl) T.m_tuple bt_tuple (pa_cons (pe_lc (own := [("row", 2)]) rfl nd15 (ki_tup K (by rfl) (pe_ix (kx_tup K) (pe_call G10 (hr.mono (by decide)) (by rfl) T.g10 T.F10.kp T.b10 .nil pass0 (pa_cons (pv 0) pa_nil)) pe_int (fun _ _ => rfl))) (blkOk_by (N := ["block", "name", "row"]) (sc := (defScope s15)) (own := [("row", 2)]) (by decide +kernel)) (fun _ _ _ _ _ => (pg_name (i := 2) nd15 rfl (Or.inl rfl))) (fun _ _ _ _ _ => (pts_one (pt_cmpR (ko_in K) (pv 1) (pe_ix (kx_tup K) (pv 2) pe_int (fun _ _ => rfl)) (by rfl)))) (fun _ _ _ _ _ => (pe_ix (kx_tup K) (pv 2) pe_int (fun _ _ => rfl)))) pa_nil))))), ?_⟩
  obtain ⟨F, _, _, s, pd, ⟨b, B, n, rfl, hB, hn, rfl⟩, q⟩ := h
  obtain ⟨v, u, rfl, p, p2⟩ := dpa2 pd
  have hu := dp_str p2
  subst hu
  have hv : Ed Z K (tVar 0) (L2.start ["block", "name", "row"] [v, .str n]) F b := ed_var rfl p
  refine q_drop (ed_call (ead_cons hv (ead_cons (ed_tup (ead_cons (ev_var rfl).str ead_nil) (by simp)) ead_nil)) ⟨b, B, [n], rfl, hB, by simp, fun x hx => by rw [List.mem_singleton.mp hx]; exact hn, rfl⟩) s fun k F1 H1 g1 pk => ?_
  have hv1 := hv.up g1.ff
  refine s_ret (ed_tupOf (ds := (B.readers n).map .str) ?_) g1.sub fun v' F' H' g z => q v' F' H' (g1.trans g) z
  rw [Blk.readers, List.map_map]
  exact el_filter (K := K) (fun r : Row => decide (n ∈ r.rd)) (fun r => .str r.nm) (IW.of_map (iw_tup (ed_rows hB hv1))) (by have := hB.few; omega) (fun _ => rfl) (fun r x F1 hr e t => et_test (ev_inT (ev_var rfl) (ed_rd (ed_var rfl t)))) fun r x F1 hr e t _ => (ed_nm (ed_var rfl t)).str
/-! ### slow_in -/
end
def sp16 (Z : List NTab) (K : PySem.W.Frag) : Sp := spD Z K fun ds r => ∃ b B, ds = [b] ∧ IsB b B ∧ r = namesD B.slow
theorem len16 {Z : List NTab} {K : PySem.W.Frag} {vs : List V} {H : Hp} {Q : VK} {E : XK} (h : sp16 Z K vs H Q E) : vs.length = 1 := spD_len (n := 1) (by rintro _ _ ⟨d, B, rfl, _⟩; rfl) h
section
variable {P : Program} {w : World} {K : PySem.W.Frag} {mg : Str → Option Value} {base : Heap} {fa : Nat → Addr} {fd : Nat → FuncData} {tl : Nat → Tok} {Z : List NTab}
theorem ok16 (T : Top K mg fa fd tl) (G10 : FnOk P w K mg base CX0 12 (fa 10) (fd 10) ["value"] (sp10 Z K 11)) : FnOk P w K mg base CX0 13 (fa 16) (fd 16) ["block"] (sp16 Z K) := by
  refine T.F16.ok sc16 (fun vs H Q E h => len16 h) (fun cdv A outer s0 H vs Q E hr h => ?_)
  refine ⟨_, (pss_one (ps_ret (pe_callTy (kc_tupOf K) (by rfl) T.m_tuple bt_tuple (pa_cons (pe_lc (own := [("row", 1)]) rfl nd16 (ki_tup K (by rfl) (pe_ix (kx_tup K) (pe_call G10 (hr.mono (by decide)) (by rfl) T.g10 T.F10.kp T.b10 .nil pass0 (pa_cons (pv 0) pa_nil)) pe_int (fun _ _ => rfl))) (blkOk_by (N := ["block", "row"]) (sc := (defScope s16)) (own := [("row", 1)]) (by decide +kernel)) (fun _ _ _ _ _ => (pg_name (i := 1) nd16 rfl (Or.inl rfl))) (fun _ _ _ _ _ => (pts_one (pt_val (pe_ix (kx_tup K) (pv 1) pe_int (fun _ _ => rfl))))) (fun _ _ _ _ _ => (pe_ix (kx_tup K) (pv 1) pe_int (fun _ _ => rfl)))) pa_nil)))), ?_⟩
  obtain ⟨F, _, _, s, pd, ⟨b, B, rfl, hB, rfl⟩, q⟩ := h
  obtain ⟨v, rfl, p⟩ := dpa1 pd
  have hv : Ed Z K (tVar 0) (L2.start ["block", "row"] [v]) F b := ed_var rfl p
  refine s_ret (ed_tupOf (ds := B.slow.map .str) ?_) s q
  rw [Blk.slow, List.map_map]
  exact el_filter (K := K) Row.sl (fun r => .str r.nm) (IW.of_map (iw_tup (ed_rows hB hv))) (by have := hB.few; omega) (fun _ => rfl) (fun r x F1 hr e t => et_B (ed_sl (ed_var rfl t))) fun r x F1 hr e t _ => (ed_nm (ed_var rfl t)).str
/-! ### awaited_in -/
end
def sp17 (Z : List NTab) (K : PySem.W.Frag) : Sp := spD Z K fun ds r => ∃ b B, ds = [b] ∧ IsB b B ∧ r = namesD B.awaited
theorem len17 {Z : List NTab} {K : PySem.W.Frag} {vs : List V} {H : Hp} {Q : VK} {E : XK} (h : sp17 Z K vs H Q E) : vs.length = 1 := spD_len (n := 1) (by rintro _ _ ⟨d, B, rfl, _⟩; rfl) h
theorem slow_mem {B : Blk} {n : Str} (h : n ∈ B.slow) : n ∈ B.names := by
  obtain ⟨r, hr, rfl⟩ := List.mem_map.mp h
  exact List.mem_map.mpr ⟨r, (List.mem_filter.mp hr).1, rfl⟩
section
variable {P : Program} {w : World} {K : PySem.W.Frag} {mg : Str → Option Value} {base : Heap} {fa : Nat → Addr} {fd : Nat → FuncData} {tl : Nat → Tok} {Z : List NTab}
theorem ok17 (T : Top K mg fa fd tl) (G10 : FnOk P w K mg base CX0 12 (fa 10) (fd 10) ["value"] (sp10 Z K 11)) (G15 : FnOk P w K mg base CX0 15 (fa 15) (fd 15) ["block", "name"] (sp15 Z K)) (G16 : FnOk P w K mg base CX0 13 (fa 16) (fd 16) ["block"] (sp16 Z K)) : FnOk P w K mg base CX0 16 (fa 17) (fd 17) ["block"] (sp17 Z K) := by
  refine T.F17.ok sc17 (fun vs H Q E h => len17 h) (fun cdv A outer s0 H vs Q E hr h => ?_)
  refine ⟨_, (pss_cons (ps_set (i := 1) nd17 rfl (Or.inr rfl) (pe_ix (kx_tup K) (pe_call G10 (hr.mono (by decide)) (by rfl) T.g10 T.F10.kp T.b10 .nil pass0 (pa_cons (pv 0) pa_nil)) pe_int (fun _ _ => rfl)))
  (pss_one (ps_ret (pe_callTy (kc_tupOf K) (by rfl) T.m_tuple bt_tuple (pa_cons (pe_lc (own := [("name", 2)]) rfl nd17 (ki_tup K (by rfl) (pe_call G16 (hr.mono (by decide)) (by rfl) T.g16 T.F16.kp T.b16 .nil pass0 (pa_cons (pv 0) pa_nil))) (blkOk_by (N := ["block", "live", "name"]) (sc := (defScope s17)) (own := [("name", 2)]) (by decide +kernel)) (fun _ _ _ _ _ => (pg_name (i := 2) nd17 rfl (Or.inl rfl))) (fun _ _ _ _ _ => (pts_one (PW.pt (pw_or (pt_cmpR (ko_in K) (pv 2) (pv 1) (by rfl)) (pw_or1 (pt_cmpR op_gt (pe_callB (kc_len K) (by rfl) T.m_len bt_len (pa_cons (pe_call G15 (hr.mono (by decide)) (by rfl) T.g15 T.F15.kp T.b15 .nil pass0 (pa_cons (pv 0) (pa_cons (pv 2) pa_nil))) pa_nil)) pe_int (nomark _))))))) (fun _ _ _ _ _ => (pv 2))) pa_nil))))), ?_⟩
  obtain ⟨F, _, _, s, pd, ⟨b, B, rfl, hB, rfl⟩, q⟩ := h
  obtain ⟨v, rfl, p⟩ := dpa1 pd
  have hv : Ed Z K (tVar 0) (L2.start ["block", "live", "name"] [v]) F b := ed_var rfl p
  refine q_asg (ed_ixT (j := 1) (d := namesD B.live) (ed_blk hB hv) ev_c rfl) s fun k F1 H1 g1 pk => ?_
  have hv1 : Ed Z K (tVar 0) [some v, some k, none] F1 b := ed_var rfl (dp_mono g1.ff p)
  refine s_ret (ed_tupOf (ds := B.awaited.map .str) ?_) g1.sub fun v' F' H' g z => q v' F' H' (g1.trans g) z
  rw [Blk.awaited]
  refine el_filter (K := K) (fun n : Str => decide (n ∈ B.live) || decide (0 < (B.readers n).length)) (fun n => .str n) (IW.of_map (iw_tup (ed_call (ead_cons hv1 ead_nil) ⟨b, B, rfl, hB, rfl⟩))) ?_ (fun _ => rfl) (fun n x F2 hn e t => ?_) fun n x F2 hn e t _ => ed_var rfl t
  · have h1 := List.length_filter_le Row.sl B.rows
    have := hB.few
    rw [Blk.slow, List.length_map]
    omega
  · have hx := dp_str t
    subst hx
    refine et_or (et_test (ev_inT (ev_var rfl) (ed_var rfl (dp_mono e pk)))) fun _ => Et.to (et_test (ev_i0 (g := fun i j => .bl (decide (i > j))) (ev_lenT (ds := (B.readers n).map .str) (ed_call (ead_cons (ed_var rfl (dp_mono e (dp_mono g1.ff p))) (ead_cons (ev_var rfl).str ead_nil)) ⟨b, B, n, rfl, hB, slow_mem hn, rfl⟩)) ev_c)) ?_
    rw [List.length_map]
    exact decide_eq_decide.mpr (by omega)
end
end K21

/-! Promises: orders, waits. -/
namespace K21
open PySem PySem.Spec PyProof.Rows L2 RZ
open NdefX (NTab TabsN TabN)
/-! ### plain facts -/
/-- texts that can be laid -/
def GoodS (ss : List Str) : Prop := ∀ x ∈ ss, PyData.strOk x = true
theorem name_ok {x : Str} (h : isNameS x = true) : PyData.strOk x = true := by
  unfold isNameS at h
  rw [Bool.and_eq_true] at h
  unfold PyData.strOk
  rw [← Array.all_toList]
  refine List.all_eq_true.mpr fun c hc => ?_
  have h2 := of_decide_eq_true (List.all_eq_true.mp h.2 c hc)
  have key : letters.cps.toList.all (fun c => decide (c < 1114112)) = true := by decide +kernel
  exact List.all_eq_true.mp key c h2
theorem canLay_strs : ∀ {ss : List Str}, GoodS ss → PyData.canLayAll0 (ss.map .str) = true
  | [], _ => by simp [PyData.canLayAll0]
  | s :: ss, h => by
    rw [List.map_cons, PyData.canLayAll0, PyData.canLay0, h s List.mem_cons_self, canLay_strs fun x hx => h x (List.mem_cons_of_mem _ hx)]
    rfl
theorem depth_all_strs : ∀ ss : List Str, PyData.depthAll (ss.map .str) = 0
  | [] => by simp [PyData.depthAll]
  | s :: ss => by simp [PyData.depthAll, PyData.depth, depth_all_strs ss]
theorem shaped_names {ss : List Str} (h : GoodS ss) : SeqAt.shaped (namesD ss) = true := by
  simp [SeqAt.shaped, namesD, PyData.canLay0, PyData.depth, canLay_strs h, depth_all_strs]
theorem shaped_strs {ss : List Str} (h : GoodS ss) : SeqAt.shaped (.list (ss.map .str)) = true := by
  simp [SeqAt.shaped, PyData.canLay0, PyData.depth, canLay_strs h, depth_all_strs]
theorem IsB.good {b : PyData} {B : Blk} (h : IsB b B) : GoodS B.names := fun x hx => by
  obtain ⟨r, hr, rfl⟩ := List.mem_map.mp hx
  exact name_ok (h.nms r hr)
theorem good_sort {l : List Str} (h : GoodS l) : GoodS (sortS l) := fun x hx => h x ((isort_perm l).mem_iff.mp hx)
theorem eqv_strsAll : ∀ a b : List Str, PyData.eqvAll (a.map .str) (b.map .str) = decide (a = b)
  | [], [] => by simp [PyData.eqvAll]
  | [], _ :: _ => by simp [PyData.eqvAll]
  | _ :: _, [] => by simp [PyData.eqvAll]
  | x :: a, y :: b => by
    rw [List.map_cons, List.map_cons, PyData.eqvAll, eqv_strsAll a b]
    by_cases h : x = y
    · subst h
      simp [PyData.eqv]
    · simp [PyData.eqv, h]
theorem eqv_names (a b : List Str) : PyData.eqv (namesD a) (namesD b) = decide (a = b) := by
  rw [namesD, namesD, PyData.eqv, eqv_strsAll]
theorem eqv_strsL (a b : List Str) : PyData.eqv (.list (a.map .str)) (.list (b.map .str)) = decide (a = b) := by
  rw [PyData.eqv, eqv_strsAll]
def idxS : List Str → Str → Nat
  | [], _ => 0
  | x :: xs, z => if x = z then 0 else idxS xs z + 1
theorem idx_get : ∀ {l : List Str} {z : Str}, z ∈ l → l[idxS l z]? = some z ∧ ∀ m, m < idxS l z → l[m]? ≠ some z
  | [], _, h => by cases h
  | x :: xs, z, h => by
    unfold idxS
    by_cases e : x = z
    · subst e
      rw [if_pos rfl]
      exact ⟨rfl, fun m hm => absurd hm (Nat.not_lt_zero m)⟩
    · rw [if_neg e]
      have hz : z ∈ xs := (List.mem_cons.mp h).resolve_left fun q => e q.symm
      obtain ⟨h1, h2⟩ := idx_get hz
      refine ⟨by simpa using h1, fun m hm => ?_⟩
      cases m with
      | zero => simpa using e
      | succ m => simpa using h2 m (by omega)
def leastN (d : Nat) : List Nat → Nat
  | [] => d
  | x :: xs => xs.foldl min x
def mostN (d : Nat) : List Nat → Nat
  | [] => d
  | x :: xs => xs.foldl max x
theorem leastOr_cast (d : Nat) (l : List Nat) : leastOr d (l.map fun n : Nat => (n : Int)) = (leastN d l : Nat) := by
  cases l with
  | nil => rfl
  | cons x xs =>
    show PySem.W.minOf (x : Int) (xs.map _) = ((xs.foldl min x : Nat) : Int)
    unfold PySem.W.minOf
    induction xs generalizing x with
    | nil => rfl
    | cons y ys ih =>
      rw [List.map_cons, List.foldl_cons, List.foldl_cons, ← ih]
      congr 1
      show (if decide ((y : Int) < (x : Int)) = true then (y : Int) else (x : Int)) = ((min x y : Nat) : Int)
      split
      · rename_i h
        have := of_decide_eq_true h
        rw [Nat.min_eq_right (by omega)]
      · rename_i h
        have : ¬ (y : Int) < x := fun q => h (decide_eq_true q)
        rw [Nat.min_eq_left (by omega)]
theorem mostOr_cast (d : Nat) (l : List Nat) : mostOr d (l.map fun n : Nat => (n : Int)) = (mostN d l : Nat) := by
  cases l with
  | nil => rfl
  | cons x xs =>
    show PySem.W.maxOf (x : Int) (xs.map _) = ((xs.foldl max x : Nat) : Int)
    unfold PySem.W.maxOf
    induction xs generalizing x with
    | nil => rfl
    | cons y ys ih =>
      rw [List.map_cons, List.foldl_cons, List.foldl_cons, ← ih]
      congr 1
      show (if decide ((x : Int) < (y : Int)) = true then (y : Int) else (x : Int)) = ((max x y : Nat) : Int)
      split
      · rename_i h
        have := of_decide_eq_true h
        rw [Nat.max_eq_right (by omega)]
      · rename_i h
        have : ¬ (x : Int) < y := fun q => h (decide_eq_true q)
        rw [Nat.max_eq_left (by omega)]
section
variable {Z : List NTab} {K : PySem.W.Frag} {σ : St} {F : Hp} {te td : TE}
theorem ev_minD {ns : List Int} {d : Int} (h : El Z te σ F fun xs F => DpAll K F xs (ns.map .int)) (hd : Ev Z td σ F (.int d)) : Ev Z (tCKw (rMinD K) (tCons te tNil) (tCons td tNil)) σ F (.int (leastOr d ns)) := fun H s Q q =>
  h H s _ fun p xs F1 H1 g h0 h1 h2 pd => hd.up g.ff H1 g.sub _ fun H2 e2 => ⟨p, ns, d, rfl, rfl, by rw [← dpa_ints pd]; exact .inl (.inl (e2.lst h2)), q H2 (g.hh.trans e2)⟩
theorem ev_maxD {ns : List Int} {d : Int} (h : El Z te σ F fun xs F => DpAll K F xs (ns.map .int)) (hd : Ev Z td σ F (.int d)) : Ev Z (tCKw (rMaxD K) (tCons te tNil) (tCons td tNil)) σ F (.int (mostOr d ns)) := fun H s Q q =>
  h H s _ fun p xs F1 H1 g h0 h1 h2 pd => hd.up g.ff H1 g.sub _ fun H2 e2 => ⟨p, ns, d, rfl, rfl, by rw [← dpa_ints pd]; exact .inl (.inl (e2.lst h2)), q H2 (g.hh.trans e2)⟩
end
/-! ### is_order -/
def Blk.reads (B : Blk) (n : Str) : List Str := ((B.rows.find? fun r => decide (r.nm = n)).map Row.rd).getD []
def Blk.isOrder (B : Blk) (o : List Str) : Bool := o.all isNameS && decide (sortS o = B.names) && o.zipIdx.all fun p => (B.reads p.1).all fun own => decide (own ∈ o.take p.2)
theorem table_look (B : Blk) {n : Str} (h : n ∈ B.names) : ∃ b, wlook B.table n = some (.tuple [namesD (B.reads n), .bool b]) := by
  unfold Blk.names at h
  unfold wlook Blk.table Blk.reads
  generalize B.rows = rs at h ⊢
  induction rs with
  | nil => cases h
  | cons r rs ih =>
    by_cases e : r.nm = n
    · exact ⟨r.sl, by simp [e]⟩
    · have h2 : n ∈ rs.map Row.nm := by
        rcases List.mem_cons.mp h with q | q
        · exact absurd q.symm e
        · exact q
      obtain ⟨b, hb⟩ := ih h2
      exact ⟨b, by simpa [e] using hb⟩
theorem reads_few {b : PyData} {B : Blk} (hB : IsB b B) (n : Str) : (B.reads n).length ≤ 50 := by
  unfold Blk.reads
  cases h : B.rows.find? fun r => decide (r.nm = n) with
  | none => simp
  | some r => exact hB.rds r (List.mem_of_find?_eq_some h)
theorem flat_few {α β : Type} (ms : α → List β) (m : Nat) : ∀ ls : List α, (∀ l, (ms l).length ≤ m) → (ls.flatMap fun l => (ms l).map fun x => (l, x)).length ≤ ls.length * m
  | [], _ => by simp
  | l :: ls, h => by
    have := flat_few ms m ls h
    have := h l
    rw [List.flatMap_cons, List.length_append, List.length_map, List.length_cons, Nat.succ_mul]
    omega
theorem sortS_mem {o : List Str} {n : Str} (h : n ∈ o) : n ∈ sortS o := (isort_perm o).mem_iff.mpr h
theorem low_strs (ss : List Str) : Low (ss.map .str) := fun d hd => by rw [depth_strs hd]; omega
def sp18 (Z : List NTab) (K : PySem.W.Frag) : Sp := spD Z K fun ds r => ∃ b B, ∃ o : List Str, ds = [b, namesD o] ∧ IsB b B ∧ B.names.Nodup ∧ o.length ≤ 50 ∧ (∀ x ∈ o, x.cps.size ≤ 1000) ∧ r = .bool (B.isOrder o)
theorem len18 {Z : List NTab} {K : PySem.W.Frag} {vs : List V} {H : Hp} {Q : VK} {E : XK} (h : sp18 Z K vs H Q E) : vs.length = 2 := spD_len (n := 2) (by rintro _ _ ⟨d, B, o, rfl, _⟩; rfl) h
section
variable {P : Program} {w : World} {K : PySem.W.Frag} {mg : Str → Option Value} {base : Heap} {fa : Nat → Addr} {fd : Nat → FuncData} {tl : Nat → Tok} {Z : List NTab}
theorem ok18 (T : Top K mg fa fd tl) (G6 : FnOk P w K mg base CX0 1 (fa 6) (fd 6) ["value"] (sp6 Z K)) (G12 : FnOk P w K mg base CX0 13 (fa 12) (fd 12) ["block"] (sp12 Z K)) (G13 : FnOk P w K mg base CX0 13 (fa 13) (fd 13) ["block"] (sp13 Z K)) : FnOk P w K mg base CX0 14 (fa 18) (fd 18) ["block", "thing"] (sp18 Z K) := by
  refine T.F18.ok sc18 (fun vs H Q E h => len18 h) (fun cdv A outer s0 H vs Q E hr h => ?_)
  refine ⟨_, (pss_cons (ps_if (PW.pt (pw_or (pt_not (pt_val (pe_callB (kc_isi K) (by rfl) T.m_isinstance bt_isinstance (pa_cons (pv 1) (pa_cons (pe_bltn (v := .ty "tuple") (by rfl) T.m_tuple bt_tuple rfl) pa_nil))))) (pw_or1 (pt_not (pt_val (pe_callB (kc_all K (by rfl) rfl) (by rfl) T.m_all bt_all (pa_cons (pe_lc (own := [("name", 3)]) (tt := tYes) rfl nd18 (ki_tup K (by rfl) (pv 1)) (blkOk_by (N := ["block", "thing", "table", "name", "place", "own"]) (sc := (defScope s18)) (own := [("name", 3)]) (by decide +kernel)) (fun _ _ _ _ _ => (pg_name (i := 3) nd18 rfl (Or.inl rfl))) (fun _ _ _ _ _ => pts_nil) (fun _ _ _ _ _ => (pe_call G6 (hr.mono (by decide)) (by rfl) T.g6 T.F6.kp T.b6 .nil pass0 (pa_cons (pv 3) pa_nil)))) pa_nil))))))) (pss_one (ps_ret pe_bl)) pss_nil)
  (pss_cons (ps_if (pt_cmpR (ko_neD K (by rfl) hr.units) (pe_callTy (kc_tupOf K) (by rfl) T.m_tuple bt_tuple (pa_cons (pe_callB (kc_sortD K (by rfl) hr.units) (by rfl) T.m_sorted bt_sorted (pa_cons (pv 1) pa_nil)) pa_nil)) (pe_call G13 (hr.mono (by decide)) (by rfl) T.g13 T.F13.kp T.b13 .nil pass0 (pa_cons (pv 0) pa_nil)) (nomark _)) (pss_one (ps_ret pe_bl)) pss_nil)
  (pss_cons (ps_set (i := 2) nd18 rfl (Or.inr rfl) (pe_call G12 (hr.mono (by decide)) (by rfl) T.g12 T.F12.kp T.b12 .nil pass0 (pa_cons (pv 0) pa_nil)))
  (pss_one (ps_ret (pe_callB (kc_all K (by rfl) rfl) (by rfl) T.m_all bt_all (pa_cons (pe_lc2 (own := [("place", 4), ("name", 3), ("own", 5)]) (vs1 := [5]) (tt := tYes) (tt1 := tYes) rfl nd18 (ki_enumT K (by rfl) (by rfl) T.m_enumerate (pa_cons (pv 1) pa_nil)) (blkOk_by (N := ["block", "thing", "table", "name", "place", "own"]) (sc := (defScope s18)) (own := [("place", 4), ("name", 3), ("own", 5)]) (by decide +kernel)) (by decide) (fun _ _ _ _ _ => (kg_tup (n := 2) K (by rfl) rfl (pgs_cons (pg_name (i := 4) nd18 rfl (Or.inl rfl)) (pgs_cons (pg_name (i := 3) nd18 rfl (Or.inl rfl)) pgs_nil)))) (fun _ _ _ _ _ => pts_nil) (fun _ _ _ _ _ => (ki_tup K (by rfl) (pe_ix (kx_tup K) (pe_dget (hu_of hr) (pv 2) (pv 3) (fun _ _ => rfl)) pe_int (fun _ _ => rfl)))) (fun _ _ _ _ _ => (pg_name (i := 5) nd18 rfl (Or.inl rfl))) (fun _ _ _ _ _ => pts_nil) (fun _ _ _ _ _ => (pe_cmpR (ko_in K) (pv 5) (pe_slice (kl_tup K) (pv 1) po_none (po_some (pv 4))) (by rfl)))) pa_nil))))))), ?_⟩
  obtain ⟨F, _, _, s, pd, ⟨b, B, o, rfl, hB, nd, few, short, rfl⟩, q⟩ := h
  obtain ⟨v, u, rfl, p, p2⟩ := dpa2 pd
  have hv : Ed Z K (tVar 0) (L2.start ["block", "thing", "table", "name", "place", "own"] [v, u]) F b := ed_var rfl p
  have hu : Ed Z K (tVar 1) (L2.start ["block", "thing", "table", "name", "place", "own"] [v, u]) F (namesD o) := ed_var rfl p2
  have hall : Ev Z _ (L2.start ["block", "thing", "table", "name", "place", "own"] [v, u]) F _ := ev_all (K := K) (te := tLc (iTup K (tVar 1)) (gName 3) tYes (tCall (sp6 Z K) [] (fun _ _ _ => False) (tCons (tVar 3) tNil)) [3]) (bs := o.map isNameS) (by
    rw [List.map_map]
    exact el_map (K := K) (fun x : Str => .bool (isNameS x)) (IW.of_map (iw_tup hu)) (by omega) (fun _ => rfl) fun x y F1 hx e t => ed_call (ead_cons (ed_var rfl t) ead_nil) ⟨.str x, 0, rfl, decide_eq_true (short x hx), rfl⟩)
  refine q_when (b := !true || !(o.map isNameS).all id) (et_or (et_not (et_B (ev_isi hu))) fun _ => et_not (et_B hall)) s (fun e H1 e1 s1 => ?_) fun e H1 e1 s1 => ?_
  · refine s_retV ev_c s1 fun H2 e2 s2 => q _ F H2 (Go.ext s (e1.trans e2)) ?_
    have z : o.all isNameS = false := by simpa using e
    rw [Blk.isOrder, z, Bool.false_and, Bool.false_and]
    exact .bl false
  have z1 : o.all isNameS = true := by simpa using e
  have go : GoodS o := fun x hx => name_ok (List.all_eq_true.mp z1 x hx)
  refine q_when (b := !PyData.eqv (namesD (sortS o)) (namesD B.names)) (et_test (ev_neD (ed_tupOf (by rw [← dsort_strs]; exact el_sorted hu (.inr rfl) (alike_strs o) (sortable_strs o) (low_strs o))) (ed_call (ead_cons hv ead_nil) ⟨b, B, rfl, hB, rfl⟩) (shaped_names (good_sort go)) (shaped_names hB.good))) s1 (fun e H2 e2 s2 => ?_) fun e H2 e2 s2 => ?_
  · refine s_retV ev_c s2 fun H3 e3 s3 => q _ F H3 (Go.ext s ((e1.trans e2).trans e3)) ?_
    rw [eqv_names] at e
    have z : decide (sortS o = B.names) = false := by simpa using e
    rw [Blk.isOrder, z, Bool.and_false, Bool.false_and]
    exact .bl false
  rw [eqv_names] at e
  have z2 : decide (sortS o = B.names) = true := by simpa using e
  have z3 : sortS o = B.names := of_decide_eq_true z2
  refine q_asg (P := Wd K B.table) (es_call (ead_cons hv ead_nil) ⟨b, B, rfl, hB, nd, rfl⟩) s2 fun k F3 H3 g3 p3 => ?_
  have hu3 : ∀ {i σ}, σ[i]? = some (some u) → ∀ F4, Same F3 F4 → Ed Z K (tVar i) σ F4 (namesD o) := fun hi F4 e => ed_var hi (dp_mono (g3.ff.trans e) p2)
  have en : (o.map PyData.str).zipIdx = o.zipIdx.map fun p => (PyData.str p.1, p.2) := by
    rw [List.zipIdx_map]
    rfl
  have hw := iw_enumT (K := K) (Z := Z) (ds := o.map .str) (hu3 (i := 1) (σ := [some v, some u, some k, none, none, none]) rfl F3 (Same.refl _))
  rw [en] at hw
  have hlc := el_lc2 (Z := Z) (σ := [some v, some u, some k, none, none, none]) (F := F3) (te := tOp (rIn K false) (tVar 5) (tSl (rSlA K) (tVar 1) tNoPart (tPart (tVar 4)))) (g := gTup K 2 (gCons (gName 4) (gCons (gName 3) gNil))) (g1 := gName 5) (vs := [4, 3, 5]) (vs1 := [5]) (wi1 := iTup K (tOp (rIxT K) (tDGet (tVar 2) (tVar 3)) (tC (.int 0))))
    (fun l : PyData × Nat => B.reads (strOf l.1)) (fun p : (PyData × Nat) × Str => fun v F => Dp K F v (.bool (decide (p.2 ∈ o.take p.1.2)))) (fun _ => mono_dp) (T1 := fun l m v F => Dp K F v (.str m)) hw ?_ (fun l x F4 H4 hl e4 s4 t => ?_) gm_pair gm_name
  · refine s_retV (ev_all (K := K) (bs := ((o.zipIdx.map fun p => (PyData.str p.1, p.2)).flatMap fun l => (B.reads (strOf l.1)).map fun m => (l, m)).map fun p => decide (p.2 ∈ o.take p.1.2)) (fun H s Q q => hlc H s Q fun p xs F1 H1 g a1 a2 a3 a4 => q p xs F1 H1 g a1 a2 a3 ?_)) g3.sub fun H4 e4 s4 => q _ F3 H4 (((Go.ext s (e1.trans e2)).trans g3).trans (Go.ext g3.sub e4)) ?_
    · have := paired_dpa (dv := fun p : (PyData × Nat) × Str => .bool (decide (p.2 ∈ o.take p.1.2))) a4
      rw [List.map_map]
      exact this
    · rw [Blk.isOrder, z1, z2, Bool.true_and, Bool.true_and]
      have ea : (((o.zipIdx.map fun p => (PyData.str p.1, p.2)).flatMap fun l => (B.reads (strOf l.1)).map fun m => (l, m)).map fun p => decide (p.2 ∈ o.take p.1.2)).all id = o.zipIdx.all fun p => (B.reads p.1).all fun own => decide (own ∈ o.take p.2) := by
        rw [List.all_map, List.all_flatMap, List.all_map]
        congr 1
        funext p
        simp [Function.comp_def, strOf, List.all_map]
      rw [ea]
      exact .bl _
  · have := flat_few (fun l : PyData × Nat => B.reads (strOf l.1)) 50 (o.zipIdx.map fun p => (PyData.str p.1, p.2)) fun l => reads_few hB _
    rw [List.length_map, List.length_zipIdx] at this
    have : o.length * 50 ≤ 2500 := by omega
    omega
  · obtain ⟨⟨n, i⟩, hm, rfl⟩ := List.mem_map.mp hl
    refine g_pair t s4 fun u1 u2 q1 q2 => ⟨rfl, rfl, ?_, fun m y F5 H5 hm2 e5 s5 t5 => ⟨rfl, rfl, ?_⟩⟩
    · rw [dp_int q1, dp_str q2]
      have hn : n ∈ o := by
        have := List.mem_zipIdx hm
        exact (this.2.2 ▸ List.getElem_mem _ : n ∈ o)
      obtain ⟨bb, hb⟩ := table_look B (by rw [← z3]; exact sortS_mem hn)
      exact IW.of_map (iw_tup (ed_ixT (j := 0) (d := namesD (B.reads n)) (ed_dget (es_var rfl (mono_wd _ _ _ e4 p3)) (ev_var rfl) hb) ev_c rfl))
    · rw [dp_int q1, dp_str q2]
      have hm3 := dp_str t5
      subst hm3
      have h1 : Ed Z K (tVar 1) _ F5 (namesD o) := hu3 (i := 1) (σ := [some v, some u, some k, some (.str n), some (.int (i : Nat)), some (.str m)]) rfl F5 (e4.trans e5)
      have h2 := ed_slT (lo := none) (hi := some i) h1 eo_none (eo_some (te := tVar 4) (ev_var rfl))
      rw [cut_to, ← List.map_take] at h2
      exact (ev_inT (ev_var rfl) h2).bl
end
end K21

/-! Promises: check_order .. most_at_once. -/
namespace K21
open PySem PySem.Spec PyProof.Rows L2 RZ
open NdefX (NTab TabsN TabN)
theorem El.imp {Z : List NTab} {te : TE} {σ : St} {F : Hp} {P P' : ShL} (h : El Z te σ F P) (f : ∀ xs F', Same F F' → P xs F' → P' xs F') : El Z te σ F P' := fun H s Q q => h H s Q fun p xs F1 H1 g a b c d => q p xs F1 H1 g a b c (f xs F1 g.ff d)
/-- an order fits the block -/
structure Fits (b : PyData) (B : Blk) (od : PyData) (o : List Str) : Prop where
  blk : IsB b B
  nd : B.names.Nodup
  sq : SeqOf od (o.map .str)
  ok : okD 11 od = true
  few : o.length ≤ 50
  short : ∀ x ∈ o, x.cps.size ≤ 1000
  ord : B.isOrder o = true
theorem Fits.perm {b od : PyData} {B : Blk} {o : List Str} (h : Fits b B od o) : o.Perm B.names := by
  have z := h.ord
  unfold Blk.isOrder at z
  rw [Bool.and_eq_true, Bool.and_eq_true] at z
  rw [← of_decide_eq_true z.1.2]
  exact (isort_perm o).symm
theorem Fits.tup {K : PySem.W.Frag} {b od : PyData} {B : Blk} {o : List Str} (h : Fits b B od o) : TupSh K od = Pt K (o.map .str) := by
  rcases h.sq with e | e <;> rw [e] <;> show Pt K ((o.map PyData.str).map tupl) = _ <;> rw [tupl_strs]
/-! ### check_order -/
def sp19 (Z : List NTab) (K : PySem.W.Frag) : Sp := spD Z K fun ds r => ∃ b B od o, ds = [b, od] ∧ Fits b B od o ∧ r = .none
theorem len19 {Z : List NTab} {K : PySem.W.Frag} {vs : List V} {H : Hp} {Q : VK} {E : XK} (h : sp19 Z K vs H Q E) : vs.length = 2 := spD_len (n := 2) (by rintro _ _ ⟨d, B, od, o, rfl, _⟩; rfl) h
section
variable {P : Program} {w : World} {K : PySem.W.Frag} {mg : Str → Option Value} {base : Heap} {fa : Nat → Addr} {fd : Nat → FuncData} {tl : Nat → Tok} {Z : List NTab}
theorem ok19 (T : Top K mg fa fd tl) (G10 : FnOk P w K mg base CX0 12 (fa 10) (fd 10) ["value"] (sp10 Z K 11)) (G18 : FnOk P w K mg base CX0 14 (fa 18) (fd 18) ["block", "thing"] (sp18 Z K)) : FnOk P w K mg base CX0 15 (fa 19) (fd 19) ["block", "order"] (sp19 Z K) := by
  refine T.F19.ok sc19 (fun vs H Q E h => len19 h) (fun cdv A outer s0 H vs Q E hr h => ?_)
  refine ⟨_, (pss_one (ps_if (pt_not (pt_val (pe_call G18 (hr.mono (by decide)) (by rfl) T.g18 T.F18.kp T.b18 .nil pass0 (pa_cons (pv 0) (pa_cons (pe_call G10 (hr.mono (by decide)) (by rfl) T.g10 T.F10.kp T.b10 .nil pass0 (pa_cons (pv 1) pa_nil)) pa_nil))))) (pss_one ps_never) pss_nil)), ?_⟩
  obtain ⟨F, _, _, s, pd, ⟨b, B, od, o, rfl, hf, rfl⟩, q⟩ := h
  obtain ⟨v, u, rfl, p, p2⟩ := dpa2 pd
  have hv : Ed Z K (tVar 0) (L2.start ["block", "order"] [v, u]) F b := ed_var rfl p
  have hu : Ed Z K (tVar 1) (L2.start ["block", "order"] [v, u]) F od := ed_var rfl p2
  refine s_if (b := !B.isOrder o) (et_not (et_B (ed_call (ead_cons hv (ead_cons ((ed_tupled hf.ok hu).imp fun v F' _ z => (by rw [hf.tup] at z; exact Pt.dp z)) ead_nil)) ⟨b, B, o, rfl, hf.blk, hf.nd, hf.few, hf.short, rfl⟩).bl)) s (fun e => ?_) fun e H1 e1 s1 => q .non F H1 (Go.ext s e1) .non
  rw [hf.ord] at e
  cases e
end
/-! ### reader_place -/
def Blk.rplace (B : Blk) (o : List Str) (n : Str) : Nat := leastN o.length ((B.readers n).map (idxS o))
theorem readers_sub {B : Blk} {n x : Str} (h : x ∈ B.readers n) : x ∈ B.names := by
  obtain ⟨r, hr, rfl⟩ := List.mem_map.mp h
  exact List.mem_map.mpr ⟨r, (List.mem_filter.mp hr).1, rfl⟩
def sp21 (Z : List NTab) (K : PySem.W.Frag) : Sp := fun vs H Q _ => ∃ F b B, ∃ o : List Str, ∃ (n : Str) (v u : V), Sub Z F H ∧ vs = [v, u, .str n] ∧ Dp K F v b ∧ IsB b B ∧ Pt K (o.map .str) u F ∧ n ∈ B.names ∧ (∀ x ∈ B.readers n, x ∈ o) ∧ ∀ H', Ext Z H H' → Q (.int (B.rplace o n : Nat)) H'
theorem len21 {Z : List NTab} {K : PySem.W.Frag} {vs : List V} {H : Hp} {Q : VK} {E : XK} (h : sp21 Z K vs H Q E) : vs.length = 3 := by
  obtain ⟨F, b, B, o, n, v, u, _, rfl, _⟩ := h
  rfl
section
variable {P : Program} {w : World} {K : PySem.W.Frag} {mg : Str → Option Value} {base : Heap} {fa : Nat → Addr} {fd : Nat → FuncData} {tl : Nat → Tok} {Z : List NTab}
theorem ok21 (T : Top K mg fa fd tl) (G15 : FnOk P w K mg base CX0 15 (fa 15) (fd 15) ["block", "name"] (sp15 Z K)) : FnOk P w K mg base CX0 16 (fa 21) (fd 21) ["block", "order", "name"] (sp21 Z K) := by
  refine T.F21.ok sc21 (fun vs H Q E h => len21 h) (fun cdv A outer s0 H vs Q E hr h => ?_)
  refine ⟨_, (pss_one (ps_ret (pe_callBK (kk_minD K (by rfl) rfl hr.units) (by rfl) T.m_min bt_min (pa_cons (pe_lc (own := [("own", 3)]) (tt := tYes) rfl nd21 (ki_tup K (by rfl) (pe_call G15 (hr.mono (by decide)) (by rfl) T.g15 T.F15.kp T.b15 .nil pass0 (pa_cons (pv 0) (pa_cons (pv 2) pa_nil)))) (blkOk_by (N := ["block", "order", "name", "own"]) (sc := (defScope s21)) (own := [("own", 3)]) (by decide +kernel)) (fun _ _ _ _ _ => (pg_name (i := 3) nd21 rfl (Or.inl rfl))) (fun _ _ _ _ _ => pts_nil) (fun _ _ _ _ _ => (ke_index K (by rfl) (pv 1) (pv 3)))) pa_nil) (pk_cons (pe_callB (kc_len K) (by rfl) T.m_len bt_len (pa_cons (pv 1) pa_nil)) pk_nil)))), ?_⟩
  obtain ⟨F, b, B, o, n, v, u, s, rfl, p, hB, p2, hn, hr2, q⟩ := h
  have hv : Ed Z K (tVar 0) (L2.start ["block", "order", "name", "own"] [v, u, .str n]) F b := ed_var rfl p
  have hf : (B.readers n).length ≤ 50 := by
    have h1 := List.length_filter_le (fun r : Row => decide (n ∈ r.rd)) B.rows
    have := hB.few
    rw [Blk.readers, List.length_map]
    omega
  refine s_retV (x := .int (B.rplace o n : Nat)) (Ev.to (ev_minD (K := K) (ns := ((B.readers n).map (idxS o)).map fun i : Nat => (i : Int)) (d := (o.length : Nat)) ?_ ?_) (congrArg V.int (leastOr_cast _ _))) s fun H1 e1 _ => q H1 e1
  · rw [List.map_map, List.map_map]
    refine el_map (K := K) (fun x : Str => .int ((idxS o x : Nat) : Int)) (IW.of_map (iw_tup (ed_call (ead_cons hv (ead_cons (ev_var rfl).str ead_nil)) ⟨b, B, n, rfl, hB, hn, rfl⟩))) (by omega) (fun _ => rfl) fun x y F1 hx e t => ?_
    have hy := dp_str t
    subst hy
    obtain ⟨g1, g2⟩ := idx_get (hr2 x hx)
    exact (ev_index (es_var rfl (mono_pt _ _ _ e p2)) (ev_var rfl) g1 g2).int
  · have := ev_lenT (Z := Z) (σ := L2.start ["block", "order", "name", "own"] [v, u, .str n]) (te := tVar 1) (F := F) (ds := o.map .str) (ed_var rfl (Pt.dp p2))
    rwa [List.length_map] at this
end
/-! ### all_waits -/
abbrev KN := List (Str × Nat × Nat)
def waits (B : Blk) (o : List Str) : KN := B.awaited.map fun n => (n, idxS o n, B.rplace o n)
def knW (kn : KN) : WL := kn.map fun p => (p.1, pairD (p.2.1 : Nat) (p.2.2 : Nat))
def sp22 (Z : List NTab) (K : PySem.W.Frag) : Sp := spS Z K fun ds P => ∃ b B od o, ds = [b, od] ∧ Fits b B od o ∧ P = Wd K (knW (waits B o))
theorem len22 {Z : List NTab} {K : PySem.W.Frag} {vs : List V} {H : Hp} {Q : VK} {E : XK} (h : sp22 Z K vs H Q E) : vs.length = 2 := spS_len (n := 2) (by rintro _ _ ⟨d, B, od, o, rfl, _⟩; rfl) h
theorem awaited_sub {B : Blk} {n : Str} (h : n ∈ B.awaited) : n ∈ B.names := slow_mem (List.mem_filter.mp h).1
theorem awaited_nodup {B : Blk} (h : B.names.Nodup) : B.awaited.Nodup := by
  have h1 : B.slow.Sublist B.names := List.Sublist.map _ List.filter_sublist
  exact (h.sublist h1).sublist List.filter_sublist
theorem awaited_few {b : PyData} {B : Blk} (hB : IsB b B) : B.awaited.length ≤ 50 := by
  have h1 := List.length_filter_le Row.sl B.rows
  have h2 := List.length_filter_le (fun n => decide (n ∈ B.live) || decide (0 < (B.readers n).length)) B.slow
  have := hB.few
  have h3 : B.slow.length ≤ B.rows.length := by rw [Blk.slow, List.length_map]; exact h1
  unfold Blk.awaited
  omega
section
variable {P : Program} {w : World} {K : PySem.W.Frag} {mg : Str → Option Value} {base : Heap} {fa : Nat → Addr} {fd : Nat → FuncData} {tl : Nat → Tok} {Z : List NTab}
theorem ok22 (T : Top K mg fa fd tl) (G10 : FnOk P w K mg base CX0 12 (fa 10) (fd 10) ["value"] (sp10 Z K 11)) (G17 : FnOk P w K mg base CX0 16 (fa 17) (fd 17) ["block"] (sp17 Z K)) (G19 : FnOk P w K mg base CX0 15 (fa 19) (fd 19) ["block", "order"] (sp19 Z K)) (G21 : FnOk P w K mg base CX0 16 (fa 21) (fd 21) ["block", "order", "name"] (sp21 Z K)) : FnOk P w K mg base CX0 17 (fa 22) (fd 22) ["block", "order"] (sp22 Z K) := by
  refine T.F22.ok sc22 (fun vs H Q E h => len22 h) (fun cdv A outer s0 H vs Q E hr h => ?_)
  refine ⟨_, (pss_cons (ps_expr (pe_call G19 (hr.mono (by decide)) (by rfl) T.g19 T.F19.kp T.b19 .nil pass0 (pa_cons (pv 0) (pa_cons (pv 1) pa_nil))))
  (pss_cons (ps_set (i := 2) nd22 rfl (Or.inr rfl) (pe_call G10 (hr.mono (by decide)) (by rfl) T.g10 T.F10.kp T.b10 .nil pass0 (pa_cons (pv 1) pa_nil)))
  (pss_one (ps_ret (pe_dc (own := [("name", 3)]) (tt := tYes) rfl nd22 (ki_tup K (by rfl) (pe_call G17 (hr.mono (by decide)) (by rfl) T.g17 T.F17.kp T.b17 .nil pass0 (pa_cons (pv 0) pa_nil))) (blkOk_by (N := ["block", "order", "own", "name"]) (sc := (defScope s22)) (own := [("name", 3)]) (by decide +kernel)) (fun _ _ _ _ _ => (pg_name (i := 3) nd22 rfl (Or.inl rfl))) (fun _ _ _ _ _ => pts_nil) (fun _ _ _ _ _ => (pv 3)) (fun _ _ _ _ _ => (pe_tup (pa_cons (ke_index K (by rfl) (pv 2) (pv 3)) (pa_cons (pe_call G21 (hr.mono (by decide)) (by rfl) T.g21 T.F21.kp T.b21 .nil pass0 (pa_cons (pv 0) (pa_cons (pv 2) (pa_cons (pv 3) pa_nil)))) pa_nil))))))))), ?_⟩
  obtain ⟨F, _, _, s, pd, ⟨b, B, od, o, rfl, hf, rfl⟩, q⟩ := h
  obtain ⟨v, u, rfl, p, p2⟩ := dpa2 pd
  have hv : Ed Z K (tVar 0) (L2.start ["block", "order", "own", "name"] [v, u]) F b := ed_var rfl p
  have hu : Ed Z K (tVar 1) (L2.start ["block", "order", "own", "name"] [v, u]) F od := ed_var rfl p2
  refine q_drop (ed_call (ead_cons hv (ead_cons hu ead_nil)) ⟨b, B, od, o, rfl, hf, rfl⟩) s fun _ F1 H1 g1 _ => ?_
  refine q_asg (P := Pt K (o.map .str)) (by rw [← hf.tup]; exact ed_tupled hf.ok (hu.up g1.ff)) g1.sub fun k F2 H2 g2 pk => ?_
  have g12 := g1.trans g2
  have hv2 : Ed Z K (tVar 0) [some v, some u, some k, none] F2 b := ed_var rfl (dp_mono g12.ff p)
  have e0 : knW (waits B o) = B.awaited.map fun n => (n, pairD (idxS o n : Nat) (B.rplace o n : Nat)) := by
    unfold knW waits
    rw [List.map_map]
    rfl
  rw [e0] at q
  have inO : ∀ {x}, x ∈ B.names → x ∈ o := fun h => hf.perm.mem_iff.mpr h
  refine s_ret (es_dc (fun n : Str => n) (fun n => pairD (idxS o n : Nat) (B.rplace o n : Nat)) (IW.of_map (iw_tup (ed_call (ead_cons hv2 ead_nil) ⟨b, B, rfl, hf.blk, rfl⟩))) (by have := awaited_few hf.blk; omega) (by rw [List.map_id']; exact awaited_nodup hf.nd) (fun n x F3 H3 hn e s t => ⟨rfl, rfl, ?_, ?_⟩) gm_name) g2.sub fun v' F' H' g z => q v' F' H' (g12.trans g) z
  · rw [dp_str t]
    exact ev_var rfl
  · have hx := dp_str t
    subst hx
    obtain ⟨i1, i2⟩ := idx_get (inO (awaited_sub hn))
    have pk3 := mono_pt _ _ _ e pk
    refine ed_tup (ead_cons (ev_index (es_var rfl pk3) (ev_var rfl) i1 i2).int (ead_cons (Ev.int fun H s Q q => ?_) ead_nil)) (by simp)
    exact ⟨v, rfl, k, rfl, .str n, rfl, F3, b, B, o, n, v, k, s, rfl, dp_mono e (dp_mono g12.ff p), hf.blk, pk3, awaited_sub hn, fun x hx => inO (readers_sub hx), q⟩
end
/-! ### are_meeting -/
def meetI (a b c d : Int) : Bool := decide (a < d) && decide (c < b)
def sp23 (Z : List NTab) (K : PySem.W.Frag) : Sp := spD Z K fun ds r => ∃ a b c d : Int, ds = [pairD a b, pairD c d] ∧ r = .bool (meetI a b c d)
theorem len23 {Z : List NTab} {K : PySem.W.Frag} {vs : List V} {H : Hp} {Q : VK} {E : XK} (h : sp23 Z K vs H Q E) : vs.length = 2 := spD_len (n := 2) (by rintro _ _ ⟨a, b, c, d, rfl, _⟩; rfl) h
section
variable {P : Program} {w : World} {K : PySem.W.Frag} {mg : Str → Option Value} {base : Heap} {fa : Nat → Addr} {fd : Nat → FuncData} {tl : Nat → Tok} {Z : List NTab}
theorem ok23 (T : Top K mg fa fd tl)  : FnOk P w K mg base CX0 1 (fa 23) (fd 23) ["one", "other"] (sp23 Z K) := by
  refine T.F23.ok sc23 (fun vs H Q E h => len23 h) (fun cdv A outer s0 H vs Q E hr h => ?_)
  refine ⟨_, (pss_one (ps_ret (pe_and (pe_cmpR op_lt (pe_ix (kx_tup K) (pv 0) pe_int (fun _ _ => rfl)) (pe_ix (kx_tup K) (pv 1) pe_int (fun _ _ => rfl)) (nomark _)) (pe_one (pe_cmpR op_lt (pe_ix (kx_tup K) (pv 1) pe_int (fun _ _ => rfl)) (pe_ix (kx_tup K) (pv 0) pe_int (fun _ _ => rfl)) (nomark _)))))), ?_⟩
  obtain ⟨F, _, _, s, pd, ⟨a, b, c, d, rfl, rfl⟩, q⟩ := h
  obtain ⟨v, u, rfl, p, p2⟩ := dpa2 pd
  have hv : Ed Z K (tVar 0) (L2.start ["one", "other"] [v, u]) F (pairD a b) := ed_var rfl p
  have hu : Ed Z K (tVar 1) (L2.start ["one", "other"] [v, u]) F (pairD c d) := ed_var rfl p2
  refine s_retV (ev_andV (ev_i0 (g := fun i j => .bl (decide (i < j))) (ed_ixT (j := 0) hv ev_c rfl).int (ed_ixT (j := 1) hu ev_c rfl).int) fun _ => ev_i0 (g := fun i j => .bl (decide (i < j))) (ed_ixT (j := 0) hu ev_c rfl).int (ed_ixT (j := 1) hv ev_c rfl).int) s fun H1 e1 _ => q _ F H1 (Go.ext s e1) (.bl _)
end
/-! ### are_apart -/
def klook (kn : KN) (n : Str) : Option (Nat × Nat) := (kn.find? fun p => decide (p.1 = n)).map (·.2)
def meets (a b : Nat × Nat) : Bool := decide (a.1 < b.2) && decide (b.1 < a.2)
def kat (kn : KN) (n : Str) : Nat × Nat := (klook kn n).getD (0, 0)
def pairsOf (l : List Str) : List (Str × Str) := l.zipIdx.flatMap fun p => (l.drop (p.2 + 1)).map fun m => (p.1, m)
def apartK (kn : KN) (l : List Str) : Bool := l.all (fun n => (klook kn n).isSome) && !(pairsOf l).any fun p => meets (kat kn p.1) (kat kn p.2)
theorem look_kn (kn : KN) (n : Str) : wlook (knW kn) n = (klook kn n).map fun p => pairD (p.1 : Nat) (p.2 : Nat) := by
  unfold wlook klook knW
  induction kn with
  | nil => rfl
  | cons p kn ih =>
    by_cases e : p.1 = n
    · simp [e]
    · simpa [e] using ih
theorem meet_cast (a b : Nat × Nat) : meetI (a.1 : Nat) (a.2 : Nat) (b.1 : Nat) (b.2 : Nat) = meets a b := by
  unfold meetI meets
  congr 1 <;> exact decide_eq_decide.mpr (by omega)
def sp24 (Z : List NTab) (K : PySem.W.Frag) : Sp := fun vs H Q _ => ∃ F kn, ∃ l : List Str, ∃ (v u : V), Sub Z F H ∧ vs = [v, u] ∧ Wd K (knW kn) v F ∧ Dp K F u (namesD l) ∧ l.length ≤ 50 ∧ ∀ H', Ext Z H H' → Q (.bl (apartK kn l)) H'
theorem len24 {Z : List NTab} {K : PySem.W.Frag} {vs : List V} {H : Hp} {Q : VK} {E : XK} (h : sp24 Z K vs H Q E) : vs.length = 2 := by
  obtain ⟨F, kn, l, v, u, _, rfl, _⟩ := h
  rfl
section
variable {P : Program} {w : World} {K : PySem.W.Frag} {mg : Str → Option Value} {base : Heap} {fa : Nat → Addr} {fd : Nat → FuncData} {tl : Nat → Tok} {Z : List NTab}
theorem ok24 (T : Top K mg fa fd tl) (G23 : FnOk P w K mg base CX0 1 (fa 23) (fd 23) ["one", "other"] (sp23 Z K)) : FnOk P w K mg base CX0 2 (fa 24) (fd 24) ["known", "some"] (sp24 Z K) := by
  refine T.F24.ok sc24 (fun vs H Q E h => len24 h) (fun cdv A outer s0 H vs Q E hr h => ?_)
  refine ⟨_, (pss_cons (ps_if (pt_not (pt_val (pe_callB (kc_all K (by rfl) rfl) (by rfl) T.m_all bt_all (pa_cons (pe_lc (own := [("name", 3)]) (tt := tYes) rfl nd24 (ki_tup K (by rfl) (pv 1)) (blkOk_by (N := ["known", "some", "pairs", "name", "place", "one", "other"]) (sc := (defScope s24)) (own := [("name", 3)]) (by decide +kernel)) (fun _ _ _ _ _ => (pg_name (i := 3) nd24 rfl (Or.inl rfl))) (fun _ _ _ _ _ => pts_nil) (fun _ _ _ _ _ => (pe_cmp (pc_din (hu_of hr) (pv 3) (pv 0)) (by rfl)))) pa_nil)))) (pss_one (ps_ret pe_bl)) pss_nil)
  (pss_cons (ps_setLc2 (i := 2) (own := [("place", 4), ("one", 5), ("other", 6)]) (vs1 := [6]) (tt := tYes) (tt1 := tYes) rfl nd24 rfl rfl (sw_true rfl rfl rfl (by decide +kernel)) (ki_enumT K (by rfl) (by rfl) T.m_enumerate (pa_cons (pv 1) pa_nil)) (blkOk_by (N := ["known", "some", "pairs", "name", "place", "one", "other"]) (sc := (defScope s24)) (own := [("place", 4), ("one", 5), ("other", 6)]) (by decide +kernel)) (by decide) (fun _ _ _ _ _ => (kg_tup (n := 2) K (by rfl) rfl (pgs_cons (pg_name (i := 4) nd24 rfl (Or.inl rfl)) (pgs_cons (pg_name (i := 5) nd24 rfl (Or.inl rfl)) pgs_nil)))) (fun _ _ _ _ _ => pts_nil) (fun _ _ _ _ _ => (ki_tup K (by rfl) (pe_slice (kl_tup K) (pv 1) (po_some (pe_op op_add (pv 4) pe_int)) po_none))) (fun _ _ _ _ _ => (pg_name (i := 6) nd24 rfl (Or.inl rfl))) (fun _ _ _ _ _ => pts_nil) (fun _ _ _ _ _ => (pe_tup (pa_cons (pv 5) (pa_cons (pv 6) pa_nil)))))
  (pss_one (ps_ret (pe_not (pe_callB (kc_any K (by rfl) rfl) (by rfl) T.m_any bt_any (pa_cons (pe_lc (own := [("one", 5), ("other", 6)]) (tt := tYes) rfl nd24 (ki_list K (by rfl) (pv 2)) (blkOk_by (N := ["known", "some", "pairs", "name", "place", "one", "other"]) (sc := (defScope s24)) (own := [("one", 5), ("other", 6)]) (by decide +kernel)) (fun _ _ _ _ _ => (kg_tup (n := 2) K (by rfl) rfl (pgs_cons (pg_name (i := 5) nd24 rfl (Or.inl rfl)) (pgs_cons (pg_name (i := 6) nd24 rfl (Or.inl rfl)) pgs_nil)))) (fun _ _ _ _ _ => pts_nil) (fun _ _ _ _ _ => (pe_call G23 (hr.mono (by decide)) (by rfl) T.g23 T.F23.kp T.b23 .nil pass0 (pa_cons (pe_dget (hu_of hr) (pv 0) (pv 5) (fun _ _ => rfl)) (pa_cons (pe_dget (hu_of hr) (pv 0) (pv 6) (fun _ _ => rfl)) pa_nil))))) pa_nil))))))), ?_⟩
  obtain ⟨F, kn, l, v, u, s, rfl, p, p2, few, q⟩ := h
  have hk : ∀ {i σ F1}, σ[i]? = some (some v) → Same F F1 → Es Z (tVar i) σ F1 (Wd K (knW kn)) := fun hi e => es_var hi (mono_wd _ _ _ e p)
  have hl : ∀ {i σ F1}, σ[i]? = some (some u) → Same F F1 → Ed Z K (tVar i) σ F1 (namesD l) := fun hi e => ed_var hi (dp_mono e p2)
  have hall : Ev Z _ (L2.start ["known", "some", "pairs", "name", "place", "one", "other"] [v, u]) F _ := ev_all (K := K) (te := tLc (iTup K (tVar 1)) (gName 3) tYes (tDIn (tVar 3) (tVar 0)) [3]) (bs := l.map fun n => (klook kn n).isSome) (by
    rw [List.map_map]
    refine el_map (K := K) (fun n : Str => .bool (klook kn n).isSome) (IW.of_map (iw_tup (hl rfl (Same.refl _)))) (by omega) (fun _ => rfl) fun n y F1 hn e t => ?_
    have hy := dp_str t
    subst hy
    have := ev_din (Z := Z) (K := K) (σ := [some v, some u, none, some (.str n), none, none, none]) (td := tVar 0) (ty := tVar 3) (F := F1) (k := n) (hk rfl e) (ev_var rfl)
    rw [look_kn, Option.isSome_map] at this
    exact this.bl)
  refine q_when (b := !(l.map fun n => (klook kn n).isSome).all id) (et_not (et_B hall)) s (fun e H1 e1 s1 => ?_) fun e H1 e1 s1 => ?_
  · refine s_retV ev_c s1 fun H2 e2 s2 => ?_
    have z : (l.all fun n => (klook kn n).isSome) = false := by
      rw [List.all_map] at e
      simpa using e
    rw [apartK, z, Bool.false_and] at q
    exact q H2 (e1.trans e2)
  have z : (l.all fun n => (klook kn n).isSome) = true := by
    rw [List.all_map, Bool.not_eq_false'] at e
    exact e
  rw [apartK, z, Bool.true_and] at q
  have some_of : ∀ {n}, n ∈ l → klook kn n = some (kat kn n) := fun {n} hn => by
    have := List.all_eq_true.mp z n hn
    unfold kat
    cases h : klook kn n with
    | none => rw [h] at this; cases this
    | some p => rfl
  have en : (l.map PyData.str).zipIdx = l.zipIdx.map fun p => (PyData.str p.1, p.2) := by
    rw [List.zipIdx_map]
    rfl
  have hw := iw_enumT (K := K) (Z := Z) (te := tVar 1) (ds := l.map .str) (σ := [some v, some u, none, none, none, none, none]) (hl rfl (Same.refl F))
  rw [en] at hw
  have ez : ((l.zipIdx.map fun p => (PyData.str p.1, p.2)).flatMap fun q => (l.drop (q.2 + 1)).map fun m => (q, m)).map (fun p => PyData.tuple [p.1.1, .str p.2]) = (pairsOf l).map fun p => .tuple [.str p.1, .str p.2] := by
    unfold pairsOf
    rw [List.flatMap_map, List.map_flatMap, List.map_flatMap]
    congr 1
    funext p
    simp [Function.comp_def]
  have hlc := el_lc2 (Z := Z) (σ := [some v, some u, none, none, none, none, none]) (F := F) (te := tTup (tCons (tVar 5) (tCons (tVar 6) tNil))) (g := gTup K 2 (gCons (gName 4) (gCons (gName 5) gNil))) (g1 := gName 6) (vs := [4, 5, 6]) (vs1 := [6]) (wi1 := iTup K (tSl (rSlA K) (tVar 1) (tPart (tOp (rI0 fun i j => .int (i + j)) (tVar 4) (tC (.int 1)))) tNoPart))
    (fun q : PyData × Nat => l.drop (q.2 + 1)) (fun p : (PyData × Nat) × Str => fun v F => Dp K F v (.tuple [p.1.1, .str p.2])) (fun _ => mono_dp) (T1 := fun l m v F => Dp K F v (.str m)) hw ?_ (fun y x F4 H4 hy e4 s4 t => ?_) gm_pair gm_name
  · refine q_asg (El.ed (El.imp (P' := fun xs F' => DpAll K F' xs ((pairsOf l).map fun p => .tuple [.str p.1, .str p.2])) hlc fun xs F' _ pd => ez ▸ paired_dpa (dv := fun p : (PyData × Nat) × Str => .tuple [p.1.1, .str p.2]) pd)) s1 fun k F2 H2 g2 pk => ?_
    have hfew : (pairsOf l).length ≤ 2500 := by
      have h1 : (pairsOf l).length = (l.zipIdx.flatMap fun p => (l.drop (p.2 + 1)).map fun m => (p, m)).length := by
        unfold pairsOf
        simp [List.length_flatMap]
      have h2 := flat_few (fun p : Str × Nat => l.drop (p.2 + 1)) 50 l.zipIdx fun p => by rw [List.length_drop]; omega
      rw [List.length_zipIdx] at h2
      omega
    have hany : Ev Z _ [some v, some u, some k, none, none, none, none] F2 _ := ev_any (K := K) (te := tLc (iList K (tVar 2)) (gTup K 2 (gCons (gName 5) (gCons (gName 6) gNil))) tYes (tCall (sp23 Z K) [] (fun _ _ _ => False) (tCons (tDGet (tVar 0) (tVar 5)) (tCons (tDGet (tVar 0) (tVar 6)) tNil))) [5, 6]) (bs := (pairsOf l).map fun p => meets (kat kn p.1) (kat kn p.2)) (by
      rw [List.map_map]
      have := el_lcD (K := K) (Z := Z) (σ := [some v, some u, some k, none, none, none, none]) (F := F2) (tt := tYes) (te := tCall (sp23 Z K) [] (fun _ _ _ => False) (tCons (tDGet (tVar 0) (tVar 5)) (tCons (tDGet (tVar 0) (tVar 6)) tNil))) (g := gTup K 2 (gCons (gName 5) (gCons (gName 6) gNil))) (vs := [5, 6]) (fun _ => true) (fun p : Str × Str => .bool (meets (kat kn p.1) (kat kn p.2))) (IW.of_map (iw_list (ed_var (i := 2) rfl pk))) (by omega) (fun p x F3 H3 hp e s t => ?_) gm_pair
      · rw [List.filter_eq_self.mpr fun _ _ => rfl] at this
        exact this
      · refine g_pair t s fun u1 u2 q1 q2 => ⟨rfl, rfl, et_yes, fun _ => ?_⟩
        rw [dp_str q1, dp_str q2]
        have hm : p.1 ∈ l ∧ p.2 ∈ l := by
          unfold pairsOf at hp
          obtain ⟨⟨a, i⟩, ha, hb⟩ := List.mem_flatMap.mp hp
          obtain ⟨m, hm, rfl⟩ := List.mem_map.mp hb
          have h1 := List.mem_zipIdx ha
          exact ⟨h1.2.2 ▸ List.getElem_mem _, List.mem_of_mem_drop hm⟩
        refine ed_call (ead_cons (ed_dget (hk rfl (g2.ff.trans e)) (ev_var rfl) ?_) (ead_cons (ed_dget (hk rfl (g2.ff.trans e)) (ev_var rfl) ?_) ead_nil)) ⟨((kat kn p.1).1 : Nat), ((kat kn p.1).2 : Nat), ((kat kn p.2).1 : Nat), ((kat kn p.2).2 : Nat), rfl, by rw [meet_cast]⟩
        · rw [look_kn, some_of hm.1]; rfl
        · rw [look_kn, some_of hm.2]; rfl)
    refine s_retV (ev_notV hany) g2.sub fun H3 e3 _ => ?_
    rw [List.any_map] at *
    exact q H3 ((e1.trans g2.hh).trans e3)
  · have := flat_few (fun q : PyData × Nat => l.drop (q.2 + 1)) 50 (l.zipIdx.map fun p => (PyData.str p.1, p.2)) fun p => by rw [List.length_drop]; omega
    rw [List.length_map, List.length_zipIdx] at this
    omega
  · obtain ⟨⟨n, i⟩, hm, rfl⟩ := List.mem_map.mp hy
    refine g_pair t s4 fun u1 u2 q1 q2 => ⟨rfl, rfl, ?_, fun m y F5 H5 hm2 e5 s5 t5 => ⟨rfl, rfl, ?_⟩⟩
    · rw [dp_int q1, dp_str q2]
      have h2 := ed_slT (lo := some (i + 1)) (hi := none) (hl (i := 1) (σ := [some v, some u, none, none, some (.int (i : Nat)), some (.str n), none]) rfl e4) (eo_some (te := tOp (rI0 fun i j => .int (i + j)) (tVar 4) (tC (.int 1))) (n := i + 1) (Ev.to (ev_i0 (g := fun i j => .int (i + j)) (i := (i : Nat)) (j := 1) (ev_var rfl) ev_c) (congrArg V.int (by omega)))) eo_none
      rw [cut_from, ← List.map_drop] at h2
      exact IW.of_map (iw_tup h2)
    · rw [dp_int q1, dp_str q2, dp_str t5]
      exact ed_tup (ead_cons (ev_var rfl).str (ead_cons (ev_var rfl).str ead_nil)) (by simp)
end
/-! ### adds_up -/
def sp25 (Z : List NTab) (K : PySem.W.Frag) : Sp := spD Z K fun ds r => ∃ b B od o l, ds = [b, od, namesD l] ∧ Fits b B od o ∧ l.length ≤ 50 ∧ okD 11 (namesD l) = true ∧ (∀ x ∈ l, x ∈ B.names) ∧ r = .bool (apartK (waits B o) l)
theorem len25 {Z : List NTab} {K : PySem.W.Frag} {vs : List V} {H : Hp} {Q : VK} {E : XK} (h : sp25 Z K vs H Q E) : vs.length = 3 := spD_len (n := 3) (by rintro _ _ ⟨d, B, od, o, l, rfl, _⟩; rfl) h
section
variable {P : Program} {w : World} {K : PySem.W.Frag} {mg : Str → Option Value} {base : Heap} {fa : Nat → Addr} {fd : Nat → FuncData} {tl : Nat → Tok} {Z : List NTab}
theorem ok25 (T : Top K mg fa fd tl) (G10 : FnOk P w K mg base CX0 12 (fa 10) (fd 10) ["value"] (sp10 Z K 11)) (G14 : FnOk P w K mg base CX0 14 (fa 14) (fd 14) ["block", "some"] (sp14 Z K)) (G22 : FnOk P w K mg base CX0 17 (fa 22) (fd 22) ["block", "order"] (sp22 Z K)) (G24 : FnOk P w K mg base CX0 2 (fa 24) (fd 24) ["known", "some"] (sp24 Z K)) : FnOk P w K mg base CX0 18 (fa 25) (fd 25) ["block", "order", "some"] (sp25 Z K) := by
  refine T.F25.ok sc25 (fun vs H Q E h => len25 h) (fun cdv A outer s0 H vs Q E hr h => ?_)
  refine ⟨_, (pss_cons (ps_set (i := 3) nd25 rfl (Or.inl rfl) (pe_call G22 (hr.mono (by decide)) (by rfl) T.g22 T.F22.kp T.b22 .nil pass0 (pa_cons (pv 0) (pa_cons (pv 1) pa_nil))))
  (pss_cons (ps_expr (pe_call G14 (hr.mono (by decide)) (by rfl) T.g14 T.F14.kp T.b14 .nil pass0 (pa_cons (pv 0) (pa_cons (pv 2) pa_nil))))
  (pss_one (ps_ret (pe_call G24 (hr.mono (by decide)) (by rfl) T.g24 T.F24.kp T.b24 .nil pass0 (pa_cons (pv 3) (pa_cons (pe_call G10 (hr.mono (by decide)) (by rfl) T.g10 T.F10.kp T.b10 .nil pass0 (pa_cons (pv 2) pa_nil)) pa_nil))))))), ?_⟩
  obtain ⟨F, _, _, s, pd, ⟨b, B, od, o, l, rfl, hf, few, hok, hl, rfl⟩, q⟩ := h
  obtain ⟨v, u, t, rfl, p, p2, p3⟩ := dpa3 pd
  have hv : ∀ {i σ F1}, σ[i]? = some (some v) → Same F F1 → Ed Z K (tVar i) σ F1 b := fun hi e => ed_var hi (dp_mono e p)
  have hu : ∀ {i σ F1}, σ[i]? = some (some u) → Same F F1 → Ed Z K (tVar i) σ F1 od := fun hi e => ed_var hi (dp_mono e p2)
  have ht : ∀ {i σ F1}, σ[i]? = some (some t) → Same F F1 → Ed Z K (tVar i) σ F1 (namesD l) := fun hi e => ed_var hi (dp_mono e p3)
  refine q_asg (es_call (ead_cons (hv rfl (Same.refl _)) (ead_cons (hu rfl (Same.refl _)) ead_nil)) ⟨b, B, od, o, rfl, hf, rfl⟩) s fun k F1 H1 g1 pk => ?_
  refine q_drop (ed_call (ead_cons (hv rfl g1.ff) (ead_cons (ht rfl g1.ff) ead_nil)) ⟨b, B, l, rfl, hf.blk, by omega, hl, rfl⟩) g1.sub fun _ F2 H2 g2 _ => ?_
  have g12 := g1.trans g2
  refine s_retV (x := .bl (apartK (waits B o) l)) (fun H s Q q => ⟨k, rfl, ?_⟩) g2.sub fun H3 e3 _ => q _ F2 H3 (g12.trans (Go.ext g2.sub e3)) (.bl _)
  refine (ed_tupled hok (ht (i := 2) (σ := [some v, some u, some t, some k]) rfl g12.ff)) H s _ fun y F3 H3 g3 p3' => ?_
  have p4 := tupSh_dp p3'
  rw [tupl_names] at p4
  exact ⟨F3, waits B o, l, k, y, g3.sub, rfl, mono_wd _ _ _ (g2.ff.trans g3.ff) pk, p4, few, fun H4 e4 => q H4 (g3.hh.trans e4)⟩
end
/-! ### at_once -/
def onceS (kn : KN) (i : Nat) : List Str := ((kn.map (·.1)).filter fun n => decide ((kat kn n).1 ≤ i) && decide (i < (kat kn n).2))
def sp26 (Z : List NTab) (K : PySem.W.Frag) : Sp := spD Z K fun ds r => ∃ b B od o, ∃ i : Nat, ds = [b, od, .int (i : Nat)] ∧ Fits b B od o ∧ r = namesD (sset (onceS (waits B o) i))
theorem len26 {Z : List NTab} {K : PySem.W.Frag} {vs : List V} {H : Hp} {Q : VK} {E : XK} (h : sp26 Z K vs H Q E) : vs.length = 3 := spD_len (n := 3) (by rintro _ _ ⟨d, B, od, o, l, rfl, _⟩; rfl) h
theorem waits_few {b : PyData} {B : Blk} {o : List Str} (hB : IsB b B) : (waits B o).length ≤ 50 := by
  rw [waits, List.length_map]
  exact awaited_few hB
theorem waits_names (B : Blk) (o : List Str) : (waits B o).map (·.1) = B.awaited := by
  rw [waits, List.map_map]
  exact List.map_id' _
section
variable {Z : List NTab} {K : PySem.W.Frag} {σ : St} {F H F1 H1 F' H' : Hp} {a p : Addr} {kvs : List (Key × V)} {xs : List V} {od : Obj}
theorem tabs_any {o u : HO} (t : TabsN Z H) (h : H a = some o) (n1 : ∀ ps, o ≠ .tbl ps) (n2 : ∀ c q, o ≠ LamX.CodeO c q) : TabsN Z (upd H a u) := fun q hq => by
  obtain ⟨ps, h1, h2, h3⟩ := t q hq
  refine ⟨ps, by rw [upd_ne (ne_of h1 h fun z => n1 ps z.symm)]; exact h1, h2, fun pos cv hc => ?_⟩
  obtain ⟨c, e1, e2⟩ := h3 pos cv hc
  exact ⟨c, e1, by rw [upd_ne (ne_of e2 h fun z => n2 _ _ z.symm)]; exact e2⟩
theorem lock_sub (s : Sub Z F1 H1) (h : F1 a = some (.dK kvs)) : Sub Z (upd F1 a (.frz od (.dK kvs))) (upd H1 a (.frz od (.dK kvs))) :=
  ⟨same_upd2 s.same, fun b ps e => by
    by_cases hb : b = a
    · subst hb; rw [upd_same] at e; cases e
    · rw [upd_ne hb] at e; exact s.nt b ps e, tabs_any s.tabs (s.same _ _ h) (fun _ z => nomatch z) fun _ _ z => by unfold LamX.CodeO at z; cases z⟩
theorem unlock (g1 : Go Z F H F1 H1) (h1 : F1 a = some (.dK kvs)) (g : Go Z (upd F1 a (.frz od (.dK kvs))) (upd H1 a (.frz od (.dK kvs))) F' H') (hp : upd H1 a (.frz od (.dK kvs)) p = none) (hl : H' p = some (.lst xs)) :
    H' a = some (.frz od (.dK kvs)) ∧ p ≠ a ∧ Go Z F H (upd F p (.lst xs)) (upd H' a (.dK kvs)) := by
  have ha : H' a = some (.frz od (.dK kvs)) := g.hh.keep a _ upd_same fun _ z => nomatch z
  have pa : p ≠ a := fun e => by
    rw [e, upd_same] at hp
    cases hp
  have e1 : H1 a = some (.dK kvs) := g1.sub.same _ _ h1
  have hp1 : H1 p = none := by rw [upd_ne pa] at hp; exact hp
  have keep : ∀ b o, H b = some o → (∀ ps, o ≠ .tbl ps) → upd H' a (.dK kvs) b = some o := fun b o e n => by
    have e2 := g1.hh.keep b o e n
    by_cases hb : b = a
    · subst hb
      rw [e1] at e2
      cases e2
      exact upd_same
    · rw [upd_ne hb]
      exact g.hh.keep b o (by rw [upd_ne hb]; exact e2) n
  have tb : TabsN Z (upd H' a (.dK kvs)) := tabs_any g.sub.tabs ha (fun _ z => nomatch z) fun _ _ z => by unfold LamX.CodeO at z; cases z
  refine ⟨ha, pa, ⟨⟨keep, fun b ps e => ?_, fun _ => tb⟩, same_new (g1.sub.less g1.ff |>.free hp1), ⟨fun b o e => ?_, fun b ps e => ?_, tb⟩, fun b o e => ?_⟩⟩
  · obtain ⟨qs, e2⟩ := g1.hh.tbl b ps e
    have hb : b ≠ a := fun z => by rw [z, e1] at e2; cases e2
    obtain ⟨rs, e3⟩ := g.hh.tbl b qs (by rw [upd_ne hb]; exact e2)
    exact ⟨rs, by rw [upd_ne hb]; exact e3⟩
  · by_cases hb : b = p
    · subst hb
      rw [upd_same] at e
      cases e
      rw [upd_ne pa]
      exact hl
    · rw [upd_ne hb] at e
      have s0 := g1.sub.less g1.ff
      have e2 := s0.same b o e
      by_cases hb2 : b = a
      · subst hb2
        rw [e1] at e2
        cases e2
        exact upd_same
      · rw [upd_ne hb2]
        exact g.hh.keep b o (by rw [upd_ne hb2]; exact e2) fun ps z => s0.nt b ps (z ▸ e)
  · by_cases hb : b = p
    · subst hb; rw [upd_same] at e; cases e
    · rw [upd_ne hb] at e; exact (g1.sub.less g1.ff).nt b ps e
  · by_cases hb : b = p
    · subst hb; exact .inr (g1.back hp1)
    · rw [upd_ne hb] at e; exact .inl e
theorem iw_keys {i : Nat} {ns : List Str} (hi : σ[i]? = some (some (.ref a))) (h : F a = some (.frz od (.dK kvs))) (hk : kvs.map (·.1) = ns.map Sum.inr) : IW Z (iKeys (tVar i)) σ F ns (fun n v F => Dp K F v (.str n)) := fun H s R r => by
  have hl : kvs.length = ns.length := by
    have := congrArg List.length hk
    simpa using this
  refine ⟨.ref a, hi, a, od, rfl, .inl ⟨kvs, s.same _ _ h, r _ F H (Go.refl s) ⟨fun H => H a = some (.frz od (.dK kvs)), fun i H v H' => H' = H ∧ (ns.map V.str)[i]? = some v, ⟨fun i H hi h => ⟨h, by omega⟩, fun H h => ⟨h, by omega⟩, fun i H x H' hi h y => ?_⟩, fun H2 e => e a _ h, fun j l x F2 H2 H3 hl e s2 y => ?_⟩⟩⟩
  · obtain ⟨rfl, k, v, hkv, rfl⟩ := y
    refine ⟨rfl, ?_⟩
    have h1 : (kvs.map (·.1))[i]? = some k := by rw [List.getElem?_map, hkv]; rfl
    rw [hk, List.getElem?_map] at h1
    rw [List.getElem?_map]
    cases hn : ns[i]? with
    | none => rw [hn] at h1; cases h1
    | some n =>
      rw [hn] at h1
      have : Sum.inr n = k := Option.some.inj h1
      subst this
      rfl
  · obtain ⟨rfl, hx⟩ := y
    rw [List.getElem?_map, hl] at hx
    have : V.str l = x := Option.some.inj hx
    subst this
    exact ⟨F2, Go.refl s2, .str l⟩
/-- a dict, locked or not -/
def Wr (K : PySem.W.Frag) (ws : WL) : Sh := fun v F => ∃ a kvs, v = .ref a ∧ Rd F a (.dK kvs) ∧ KvD K F kvs ws
theorem mono_wr {ws : WL} : Mono (Wr K ws) := fun v F F' e ⟨a, kvs, h1, h2, h3⟩ => ⟨a, kvs, h1, same_rd e h2, kvd_mono e h3⟩
theorem ed_dgetR {td ty : TE} {ws : WL} {k : Str} {d : PyData} (hd : Es Z td σ F (Wr K ws)) (hk : Ev Z ty σ F (.str k)) (e : wlook ws k = some d) : Ed Z K (tDGet td ty) σ F d := fun H s Q q =>
  hd H s _ fun u F1 H1 g1 p1 => hk.up g1.ff H1 g1.sub _ fun H2 e2 => by
    obtain ⟨a, kvs, rfl, h1, h2⟩ := p1
    have s2 := g1.sub.up e2
    rcases kvd_look k h2 with ⟨_, z⟩ | ⟨v, d', z1, z2, z3⟩
    · rw [e] at z; cases z
    · rw [e] at z2
      cases z2
      exact ⟨a, v, rfl, .inl ⟨kvs, Sum.inr k, same_rd s2.same h1, rfl, z1.symm⟩, q v F1 H2 (g1.trans (Go.ext g1.sub e2)) z3⟩
theorem pair_upd {o : HO} (h : F a = some (.dK kvs)) {v : V} {i j : Int} (p : Dp K F v (pairD i j)) : Dp K (upd F a o) v (pairD i j) := by
  obtain ⟨b, xs, rfl, hs, hx⟩ := dp_tup p
  refine .tup ?_ (Dp.mono_ints hx)
  rcases hs with (hs | ⟨q, hs⟩) | hs
  · exact .inl (.inl (by rw [upd_ne (ne_of hs h fun z => nomatch z)]; exact hs))
  · exact .inl (.inr ⟨q, by rw [upd_ne (ne_of hs h fun z => nomatch z)]; exact hs⟩)
  · exact .inr hs
theorem kn_upd {o : HO} (h : F a = some (.dK kvs)) : ∀ {ks : List (Key × V)} {kn : KN}, KvD K F ks (knW kn) → KvD K (upd F a o) ks (knW kn)
  | _, [], .nil => .nil
  | _, _ :: _, .cons ⟨h1, h2⟩ t => .cons ⟨h1, pair_upd h h2⟩ (kn_upd h t)
theorem klook_waits {B : Blk} {o : List Str} {n : Str} (hn : n ∈ B.awaited) : klook (waits B o) n = some (kat (waits B o) n) := by
  unfold kat
  cases h : klook (waits B o) n with
  | some p => rfl
  | none =>
    unfold klook at h
    rw [Option.map_eq_none_iff, List.find?_eq_none] at h
    have := h _ (List.mem_map.mpr ⟨n, hn, rfl⟩)
    simp at this
end
section
variable {P : Program} {w : World} {K : PySem.W.Frag} {mg : Str → Option Value} {base : Heap} {fa : Nat → Addr} {fd : Nat → FuncData} {tl : Nat → Tok} {Z : List NTab}
theorem ok26 (T : Top K mg fa fd tl) (G9 : FnOk P w K mg base CX0 1 (fa 9) (fd 9) ["some"] (sp9 Z K)) (G22 : FnOk P w K mg base CX0 17 (fa 22) (fd 22) ["block", "order"] (sp22 Z K)) : FnOk P w K mg base CX0 18 (fa 26) (fd 26) ["block", "order", "place"] (sp26 Z K) := by
  refine T.F26.ok sc26 (fun vs H Q E h => len26 h) (fun cdv A outer s0 H vs Q E hr h => ?_)
  refine ⟨_, (pss_cons (ps_set (i := 3) nd26 rfl (Or.inr rfl) (pe_call G22 (hr.mono (by decide)) (by rfl) T.g22 T.F22.kp T.b22 .nil pass0 (pa_cons (pv 0) (pa_cons (pv 1) pa_nil))))
  (pss_one (ps_ret (pe_call G9 (hr.mono (by decide)) (by rfl) T.g9 T.F9.kp T.b9 .nil pass0 (pa_cons (pe_lock (pe_lc (own := [("name", 4)]) rfl nd26 (pi_keys (pv 3)) (blkOk_by (N := ["block", "order", "place", "known", "name"]) (sc := (defScope s26)) (own := [("name", 4)]) (by decide +kernel)) (fun _ _ _ _ _ => (pg_name (i := 4) nd26 rfl (Or.inl rfl))) (fun _ _ _ _ _ => (pts_one (pt_chain op_le op_lt (pe_ix (kx_tup K) (pe_dget (hu_of hr) (pv 3) (pv 4) (fun _ _ => rfl)) pe_int (fun _ _ => rfl)) (pv 2) (pe_ix (kx_tup K) (pe_dget (hu_of hr) (pv 3) (pv 4) (fun _ _ => rfl)) pe_int (fun _ _ => rfl))))) (fun _ _ _ _ _ => (pv 4)))) pa_nil))))), ?_⟩
  obtain ⟨F, _, _, s, pd, ⟨b, B, od, o, i, rfl, hf, rfl⟩, q⟩ := h
  obtain ⟨v, u, t, rfl, p, p2, p3⟩ := dpa3 pd
  have ht := dp_int p3
  subst ht
  refine q_asg (es_call (ead_cons (ed_var (i := 0) rfl p) (ead_cons (ed_var (i := 1) rfl p2) ead_nil)) ⟨b, B, od, o, rfl, hf, rfl⟩) s fun k F1 H1 g1 pk => ?_
  obtain ⟨a, kvs, rfl, h1, h2⟩ := pk
  have hks : kvs.map (·.1) = B.awaited.map Sum.inr := by
    have e : ∀ {kvs : List (Key × V)} {ws : WL}, KvD K F1 kvs ws → kvs.map (·.1) = (ws.map (·.1)).map Sum.inr := fun {kvs ws} r => by
      induction r with
      | nil => rfl
      | cons x _ ih => rw [List.map_cons, ih, x.1]; rfl
    rw [e h2, knW, List.map_map, ← waits_names B o, List.map_map, List.map_map]
    rfl
  refine ⟨a, .dK kvs, g1.sub.same _ _ h1, trivial, fun od => ?_⟩
  have s2 := lock_sub (od := od) g1.sub h1
  have hfew := awaited_few hf.blk
  have ek : onceS (waits B o) i = B.awaited.filter fun n => decide ((kat (waits B o) n).1 ≤ i) && decide (i < (kat (waits B o) n).2) := by
    rw [onceS, waits_names]
  have hel := el_filter (K := K) (Z := Z) (σ := [some v, some u, some (.int (i : Nat)), some (.ref a), none]) (F := upd F1 a (.frz od (.dK kvs))) (tt := tTest (tChain (rI0 fun i j => .bl (decide (i ≤ j))) (rI0 fun i j => .bl (decide (i < j))) (tOp (rIxT K) (tDGet (tVar 3) (tVar 4)) (tC (.int 0))) (tVar 2) (tOp (rIxT K) (tDGet (tVar 3) (tVar 4)) (tC (.int 1))))) (te := tVar 4) (j := 4) (vs := [4])
    (fun n : Str => decide ((kat (waits B o) n).1 ≤ i) && decide (i < (kat (waits B o) n).2)) (fun n => .str n) (iw_keys (i := 3) rfl upd_same hks) (by omega) (fun _ => rfl) (fun n x F2 hn e t => ?_) fun n x F2 hn e t _ => ed_var rfl t
  · refine hel _ s2 _ fun p xs F' H' g h0 hf2 hl pd => ?_
    obtain ⟨ha, pa, gg⟩ := unlock g1 h1 g h0 hl
    have ex := dpa_strs pd
    subst ex
    refine ⟨ha, upd F p (.lst _), [.list ((onceS (waits B o) i).map .str)], _, gg.sub, dpa_one ?_, ⟨onceS (waits B o) i, rfl, ?_, rfl⟩, fun v' F'' H'' g2 z => q v' F'' H'' (gg.trans g2) z⟩
    · rw [ek]
      exact .lst (.inl (.inl upd_same)) strs_dpa
    · rw [ek]
      exact Nat.lt_of_le_of_lt (List.length_filter_le _ _) (by omega)
  · have hx := dp_str t
    subst hx
    have hd : Es Z (tVar 3) [some v, some u, some (.int (i : Nat)), some (.ref a), some (.str n)] F2 (Wr K (knW (waits B o))) := es_var rfl ⟨a, kvs, rfl, .inr ⟨od, e _ _ upd_same⟩, kvd_mono e (kn_upd h1 h2)⟩
    have hlk : wlook (knW (waits B o)) n = some (pairD ((kat (waits B o) n).1 : Nat) ((kat (waits B o) n).2 : Nat)) := by
      rw [look_kn, klook_waits hn]
      rfl
    refine Et.to (et_test (ev_chain (f := fun i j => decide (i ≤ j)) (g := fun i j => decide (i < j)) (ed_ixT (j := 0) (ed_dgetR hd (ev_var rfl) hlk) ev_c rfl).int (ev_var rfl) (ed_ixT (j := 1) (ed_dgetR hd (ev_var rfl) hlk) ev_c rfl).int)) ?_
    congr 1 <;> exact decide_eq_decide.mpr (by omega)
end
/-! ### most_at_once -/
def Blk.most (B : Blk) (o : List Str) : Nat := mostN 0 ((List.range o.length).map fun i => (sset (onceS (waits B o) i)).length)
def sp27 (Z : List NTab) (K : PySem.W.Frag) : Sp := spD Z K fun ds r => ∃ b B od o, ds = [b, od] ∧ Fits b B od o ∧ r = .int (B.most o : Nat)
theorem len27 {Z : List NTab} {K : PySem.W.Frag} {vs : List V} {H : Hp} {Q : VK} {E : XK} (h : sp27 Z K vs H Q E) : vs.length = 2 := spD_len (n := 2) (by rintro _ _ ⟨d, B, od, o, rfl, _⟩; rfl) h
section
variable {P : Program} {w : World} {K : PySem.W.Frag} {mg : Str → Option Value} {base : Heap} {fa : Nat → Addr} {fd : Nat → FuncData} {tl : Nat → Tok} {Z : List NTab}
theorem ok27 (T : Top K mg fa fd tl) (G26 : FnOk P w K mg base CX0 18 (fa 26) (fd 26) ["block", "order", "place"] (sp26 Z K)) : FnOk P w K mg base CX0 19 (fa 27) (fd 27) ["block", "order"] (sp27 Z K) := by
  refine T.F27.ok sc27 (fun vs H Q E h => len27 h) (fun cdv A outer s0 H vs Q E hr h => ?_)
  refine ⟨_, (pss_one (ps_ret (pe_callBK (kk_maxD K (by rfl) rfl hr.units) (by rfl) T.m_max bt_max (pa_cons (pe_lc (own := [("place", 2)]) (tt := tYes) rfl nd27 (pi_range1 (by rfl) T.m_range (pa_cons (pe_callB (kc_len K) (by rfl) T.m_len bt_len (pa_cons (pv 1) pa_nil)) pa_nil)) (blkOk_by (N := ["block", "order", "place"]) (sc := (defScope s27)) (own := [("place", 2)]) (by decide +kernel)) (fun _ _ _ _ _ => (pg_name (i := 2) nd27 rfl (Or.inl rfl))) (fun _ _ _ _ _ => pts_nil) (fun _ _ _ _ _ => (pe_callB (kc_len K) (by rfl) T.m_len bt_len (pa_cons (pe_call G26 (hr.mono (by decide)) (by rfl) T.g26 T.F26.kp T.b26 .nil pass0 (pa_cons (pv 0) (pa_cons (pv 1) (pa_cons (pv 2) pa_nil)))) pa_nil)))) pa_nil) (pk_cons pe_int pk_nil)))), ?_⟩
  obtain ⟨F, _, _, s, pd, ⟨b, B, od, o, rfl, hf, rfl⟩, q⟩ := h
  obtain ⟨v, u, rfl, p, p2⟩ := dpa2 pd
  have hlen : Ev Z (tCB (rSize K) (tCons (tVar 1) tNil)) [some v, some u, none] F (.int (o.length : Nat)) := by
    rcases hf.sq with e | e
    · have := ev_lenL (Z := Z) (σ := [some v, some u, none]) (te := tVar 1) (F := F) (ds := o.map .str) (ed_var rfl (e ▸ p2))
      rwa [List.length_map] at this
    · have := ev_lenT (Z := Z) (σ := [some v, some u, none]) (te := tVar 1) (F := F) (ds := o.map .str) (ed_var rfl (e ▸ p2))
      rwa [List.length_map] at this
  refine s_retV (x := .int (B.most o : Nat)) (Ev.to (ev_maxD (K := K) (ns := ((List.range o.length).map fun i => (sset (onceS (waits B o) i)).length).map fun i : Nat => (i : Int)) (d := (0 : Nat)) ?_ ev_c) (congrArg V.int (mostOr_cast _ _))) s fun H1 e1 _ => q _ F H1 (Go.ext s e1) (.int _)
  rw [List.map_map, List.map_map]
  refine el_map (K := K) (fun i : Nat => .int (((sset (onceS (waits B o) i)).length : Nat) : Int)) (iw_rng1 hlen (by have := hf.few; omega)) (by rw [List.length_range]; have := hf.few; omega) (fun _ => rfl) fun i y F1 hi e t => ?_
  subst t
  have := ev_lenT (Z := Z) (K := K) (F := F1) (σ := [some v, some u, some (.int (i : Nat))]) (te := tCall (sp26 Z K) [] (fun _ _ _ => False) (tCons (tVar 0) (tCons (tVar 1) (tCons (tVar 2) tNil)))) (ds := (sset (onceS (waits B o) i)).map .str) (ed_call (ead_cons (ed_var rfl (dp_mono e p)) (ead_cons (ed_var rfl (dp_mono e p2)) (ead_cons (ev_var rfl).int ead_nil))) ⟨b, B, od, o, i, rfl, hf, rfl⟩)
  rw [List.length_map] at this
  exact this.int
end
end K21

/-! parted. -/
namespace K21
open PySem PySem.Spec PyProof.Rows L2 RZ
open NdefX (NTab TabsN TabN)
open LamX (TabB)
/-! ### what it computes -/
def kle (kn : KN) (a b : Str) : Bool := decide ((kat kn a).1 < (kat kn b).1) || (decide ((kat kn a).1 = (kat kn b).1) && decide ((kat kn a).2 ≤ (kat kn b).2))
def byKey (kn : KN) : List Str := isort (kle kn) (kn.map (·.1))
def lastS (r : List Str) : Str := r.getLastD ""
def fitsR (kn : KN) (n : Str) (r : List Str) : Bool := decide ((kat kn (lastS r)).2 ≤ (kat kn n).1)
def addTo (kn : KN) (n : Str) : List (List Str) → List (List Str)
  | [] => [[n]]
  | r :: rs => if fitsR kn n r = true then (r ++ [n]) :: rs else r :: addTo kn n rs
def greedy (kn : KN) (ns : List Str) : List (List Str) := ns.foldl (fun rs n => addTo kn n rs) []
def partedS (B : Blk) (o : List Str) : List (List Str) := (greedy (waits B o) (byKey (waits B o))).map sset
def lotsD (ls : List (List Str)) : PyData := .tuple (ls.map namesD)
/-! ### sorting by the waits -/
theorem kle_data (kn : KN) (a b : Str) : PySem.W.dataLe false (fun k => pairD ((kat kn k).1 : Nat) ((kat kn k).2 : Nat)) a b = kle kn a b := by
  rw [data_lt]
  unfold pairD
  have h := PySem.W.DatumOrd.lt_eq (α := List Int) [((kat kn b).1 : Int), ((kat kn b).2 : Int)] [((kat kn a).1 : Int), ((kat kn a).2 : Int)]
  have h2 : PySem.W.dataLt (.tuple [.int (((kat kn b).1 : Nat) : Int), .int (((kat kn b).2 : Nat) : Int)]) (.tuple [.int (((kat kn a).1 : Nat) : Int), .int (((kat kn a).2 : Nat) : Int)]) = PySem.W.DatumOrd.lt [((kat kn b).1 : Int), ((kat kn b).2 : Int)] [((kat kn a).1 : Int), ((kat kn a).2 : Int)] := by
    rw [← h, PySem.W.dataLt_tuple]
    exact (PySem.W.dataLt_list _ _).symm
  rw [h2]
  show (!PySem.W.listLt _ _) = _
  unfold kle
  generalize (kat kn a).1 = a1
  generalize (kat kn a).2 = a2
  generalize (kat kn b).1 = b1
  generalize (kat kn b).2 = b2
  simp only [PySem.W.listLt, PySem.W.DatumOrd.lt]
  by_cases e : b1 = a1
  · subst e
    by_cases e2 : b2 = a2
    · subst e2
      simp
    · have : ¬ (b2 : Int) = a2 := by omega
      rw [Bool.eq_iff_iff]
      simp [this]
  · have h3 : ¬ (b1 : Int) = a1 := by omega
    have h4 : ¬ a1 = b1 := fun q => e q.symm
    rw [Bool.eq_iff_iff]
    simp [h3, h4]
    omega
theorem kle_total (kn : KN) : PySem.W.TotalLe (kle kn) := by
  have e : kle kn = PySem.W.dataLe false (fun k => pairD ((kat kn k).1 : Nat) ((kat kn k).2 : Nat)) := by
    funext a b
    exact (kle_data kn a b).symm
  rw [e]
  exact data_total _
theorem srt_one_on {α : Type} {le : α → α → Bool} : ∀ {l m : List α}, (∀ a ∈ l, ∀ b ∈ l, le a b = true → le b a = true → a = b) → l.Perm m → Srt le l → Srt le m → l = m
  | [], m, _, p, _, _ => (List.nil_perm.mp p).symm
  | x :: xs, [], _, p, _, _ => absurd p.length_eq (by simp)
  | x :: xs, y :: ys, an, p, s1, s2 => by
    obtain ⟨a1, a2⟩ := List.pairwise_cons.mp s1
    obtain ⟨b1, b2⟩ := List.pairwise_cons.mp s2
    have e : x = y := by
      have hx := p.mem_iff.mp (List.mem_cons_self (a := x) (l := xs))
      have hy := p.mem_iff.mpr (List.mem_cons_self (a := y) (l := ys))
      rcases List.mem_cons.mp hx with e | hx
      · exact e
      · rcases List.mem_cons.mp hy with e | hy
        · exact e.symm
        · exact an _ List.mem_cons_self _ (List.mem_cons_of_mem _ hy) (a1 y hy) (b1 x hx)
    subst e
    rw [srt_one_on (fun a ha b hb => an a (List.mem_cons_of_mem _ ha) b (List.mem_cons_of_mem _ hb)) (List.perm_cons x |>.mp p) a2 b2]
/-- no two names start at once -/
def Starts (kn : KN) : Prop := ∀ a ∈ kn.map (·.1), ∀ b ∈ kn.map (·.1), (kat kn a).1 = (kat kn b).1 → a = b
theorem byKey_sorted {kn : KN} (h : Starts kn) : (kn.map (·.1)).mergeSort (PySem.W.dataLe false fun k => pairD ((kat kn k).1 : Nat) ((kat kn k).2 : Nat)) = byKey kn := by
  have e : kle kn = PySem.W.dataLe false (fun k => pairD ((kat kn k).1 : Nat) ((kat kn k).2 : Nat)) := by
    funext a b
    exact (kle_data kn a b).symm
  rw [← e]
  have pm := List.mergeSort_perm (kn.map (·.1)) (kle kn)
  refine srt_one_on (fun a ha b hb h1 h2 => h a (pm.mem_iff.mp ha) b (pm.mem_iff.mp hb) ?_) (pm.trans (isort_perm _).symm) (msort_srt (kle_total kn) _) (isort_srt (kle_total kn) _)
  unfold kle at h1 h2
  simp only [Bool.or_eq_true, Bool.and_eq_true, decide_eq_true_eq] at h1 h2
  omega
theorem kat_waits {B : Blk} {o : List Str} {n : Str} (hn : n ∈ B.awaited) : kat (waits B o) n = (idxS o n, B.rplace o n) := by
  have h := klook_waits (o := o) hn
  unfold klook waits at h
  obtain ⟨p, hp, e⟩ := Option.map_eq_some_iff.mp h
  have h1 := List.mem_of_find?_eq_some hp
  have h2 : decide (p.1 = n) = true := List.find?_some (p := fun p : Str × Nat × Nat => decide (p.1 = n)) hp
  have h2 := of_decide_eq_true h2
  obtain ⟨m, hm, rfl⟩ := List.mem_map.mp h1
  simp only at h2
  subst h2
  exact e.symm
theorem idx_inj {l : List Str} {a b : Str} (ha : a ∈ l) (hb : b ∈ l) (h : idxS l a = idxS l b) : a = b := by
  have h1 := (idx_get ha).1
  have h2 := (idx_get hb).1
  rw [h, h2] at h1
  exact (Option.some.inj h1).symm
theorem Fits.starts {b od : PyData} {B : Blk} {o : List Str} (h : Fits b B od o) : Starts (waits B o) := fun x hx y hy e => by
  rw [waits_names] at hx hy
  rw [kat_waits hx, kat_waits hy] at e
  exact idx_inj (h.perm.mem_iff.mpr (awaited_sub hx)) (h.perm.mem_iff.mpr (awaited_sub hy)) e
section
variable {Z : List NTab} {K : PySem.W.Frag} {σ : St} {F H F1 H1 : Hp}
theorem el_sortLam {i : Nat} {a : Addr} {kvs : List (Key × V)} {kn : KN} (hi : σ[i]? = some (some (.ref a))) (ha : F a = some (.dK kvs)) (hk : KvD K F kvs (knW kn)) (few : kn.length ≤ 1000) (st : Starts kn) (lk : ∀ n ∈ kn.map (·.1), klook kn n = some (kat kn n)) :
    El Z (tSortLam Z K i) σ F fun xs F => DpAll K F xs ((byKey kn).map .str) := fun H s Q q => by
  have hks : kvs.map (·.1) = (kn.map (·.1)).map Sum.inr := by
    have e : ∀ {kvs : List (Key × V)} {ws : WL}, KvD K F kvs ws → kvs.map (·.1) = (ws.map (·.1)).map Sum.inr := fun {kvs ws} r => by
      induction r with
      | nil => rfl
      | cons x _ ih => rw [List.map_cons, ih, x.1]; rfl
    rw [e hk, knW, List.map_map, List.map_map, List.map_map]
    rfl
  refine ⟨a, kvs, kn.map (·.1), fun n => (((kat kn n).1 : Nat), ((kat kn n).2 : Nat)), hi, s.same _ _ ha, hks, by rw [List.length_map]; exact few, s.tabs, fun n hn => ?_, fun G p e hp => ?_⟩
  · rcases kvd_look n hk with ⟨_, z⟩ | ⟨v, d, z1, z2, z3⟩
    · rw [look_kn, lk n hn] at z; cases z
    · rw [look_kn, lk n hn] at z2
      cases z2
      exact ⟨v, z1, es_same s z3⟩
  · rw [byKey_sorted st]
    exact q p _ F _ ((Go.ext s e).trans (Go.ext (s.up e) (ext_new hp))) (e.free hp) (s.free (e.free hp)) upd_same strs_dpa
/-! ### the rows in the heap -/
def frzAll (F : Hp) : List (Addr × List Str) → Hp
  | [] => F
  | x :: l => upd (frzAll F l) x.1 (.lst (x.2.map V.str))
theorem frz_go : ∀ {l : List (Addr × List Str)}, Go Z F H F1 H1 → (∀ x ∈ l, H1 x.1 = some (.lst (x.2.map V.str)) ∧ H x.1 = none) → Go Z F H (frzAll F1 l) H1
  | [], g, _ => g
  | x :: l, g, h => (frz_go g fun y hy => h y (List.mem_cons_of_mem _ hy)).freeze (h x List.mem_cons_self).2 (h x List.mem_cons_self).1
theorem frz_some : ∀ {l : List (Addr × List Str)} {x : Addr × List Str}, x ∈ l → ∃ o, frzAll F l x.1 = some o
  | y :: l, x, h => by
    unfold frzAll
    by_cases e : x.1 = y.1
    · rw [e]
      exact ⟨_, upd_same⟩
    · rw [upd_ne e]
      exact frz_some ((List.mem_cons.mp h).resolve_left fun q => e (by rw [q]))
theorem frz_at {l : List (Addr × List Str)} (s : Same (frzAll F1 l) H1) (h : ∀ x ∈ l, H1 x.1 = some (.lst (x.2.map V.str))) {x : Addr × List Str} (hx : x ∈ l) : frzAll F1 l x.1 = some (.lst (x.2.map V.str)) := by
  obtain ⟨o, e⟩ := frz_some (F := F1) hx
  have := s _ _ e
  rw [h x hx] at this
  rw [e, ← this]
/-- the rows: the list at R holds the lists at ps -/
structure RowsAt (H0 F H : Hp) (R : Addr) (l : List (Addr × List Str)) : Prop where
  at_ : H R = some (.lst (l.map fun x => V.ref x.1))
  fr : F R = none
  h0 : H0 R = none
  ne : ∀ x ∈ l, x.1 ≠ R
  nd : (l.map (·.1)).Nodup
  rows : ∀ x ∈ l, H x.1 = some (.lst (x.2.map V.str)) ∧ F x.1 = none ∧ H0 x.1 = none
/-- all frozen, for a while -/
def frz (F : Hp) (R : Addr) (l : List (Addr × List Str)) : Hp := upd (frzAll F l) R (.lst (l.map fun x => V.ref x.1))
theorem RowsAt.go {R : Addr} {l : List (Addr × List Str)} (r : RowsAt H F1 H1 R l) (g : Go Z F H F1 H1) : Go Z F H (frz F1 R l) H1 :=
  (frz_go g fun x hx => ⟨(r.rows x hx).1, (r.rows x hx).2.2⟩).freeze r.h0 r.at_
theorem RowsAt.row {R : Addr} {l : List (Addr × List Str)} (r : RowsAt H F1 H1 R l) (g : Go Z F H F1 H1) {x : Addr × List Str} (hx : x ∈ l) : frz F1 R l x.1 = some (.lst (x.2.map V.str)) := by
  unfold frz
  rw [upd_ne (r.ne x hx)]
  exact frz_at (frz_go g fun x hx => ⟨(r.rows x hx).1, (r.rows x hx).2.2⟩).sub.same (fun x hx => (r.rows x hx).1) hx
theorem frz_keep : ∀ {l : List (Addr × List Str)} {b : Addr}, frzAll F l b = none → F b = none
  | [], _, h => h
  | x :: l, b, h => by
    unfold frzAll at h
    by_cases e : b = x.1
    · rw [e, upd_same] at h; cases h
    · rw [upd_ne e] at h; exact frz_keep h
theorem RowsAt.same {R : Addr} {l : List (Addr × List Str)} (r : RowsAt H F1 H1 R l) (g : Go Z F H F1 H1) : Same F1 (frz F1 R l) := fun b o e => by
  rcases none_or (H := frz F1 R l) (p := b) with z | ⟨o', z⟩
  · unfold frz at z
    by_cases hb : b = R
    · rw [hb, upd_same] at z; cases z
    · rw [upd_ne hb] at z
      rw [frz_keep z] at e
      cases e
  · have h1 := (r.go g).sub.same _ _ z
    have h2 := g.sub.same _ _ e
    rw [h1] at h2
    cases h2
    exact z
theorem RowsAt.ext {R : Addr} {l : List (Addr × List Str)} {H2 : Hp} (r : RowsAt H F1 H1 R l) (e : Ext Z H1 H2) : RowsAt H F1 H2 R l :=
  ⟨e.lst r.at_, r.fr, r.h0, r.ne, r.nd, fun x hx => ⟨e.lst (r.rows x hx).1, (r.rows x hx).2⟩⟩
end
theorem last_at : ∀ {r : List Str}, r ≠ [] → atI (r.map V.str) (-1) = some (V.str (lastS r)) := fun {r} h => by
  have e : r = r.dropLast ++ [lastS r] := by
    unfold lastS
    rw [List.getLastD_eq_getLast?, List.getLast?_eq_some_getLast h]
    exact (List.dropLast_concat_getLast h).symm
  have e2 : r.map V.str = r.dropLast.map V.str ++ [V.str (lastS r)] := by
    conv => lhs; rw [e, List.map_append]
    rfl
  rw [e2]
  exact atI_last _ _
theorem lastS_mem {r : List Str} (h : r ≠ []) : lastS r ∈ r := by
  unfold lastS
  rw [List.getLastD_eq_getLast?, List.getLast?_eq_some_getLast h]
  exact List.getLast_mem h
theorem addTo_none {kn : KN} {n : Str} : ∀ {rs : List (List Str)}, rs.filter (fitsR kn n) = [] → addTo kn n rs = rs ++ [[n]]
  | [], _ => rfl
  | r :: rs, h => by
    rw [List.filter_cons] at h
    unfold addTo
    by_cases e : fitsR kn n r = true
    · rw [if_pos e] at h; cases h
    · rw [if_neg e] at h ⊢
      rw [addTo_none h]
      rfl
theorem addTo_some {kn : KN} {n : Str} {r : List Str} : ∀ {l1 l2 : List (List Str)}, (∀ x ∈ l1, fitsR kn n x = false) → fitsR kn n r = true → addTo kn n (l1 ++ r :: l2) = l1 ++ (r ++ [n]) :: l2
  | [], _, _, h => by
    show (if _ then _ else _) = _
    rw [if_pos h]
    rfl
  | x :: l1, l2, h1, h => by
    show (if fitsR kn n x = true then (x ++ [n]) :: (l1 ++ r :: l2) else x :: addTo kn n (l1 ++ r :: l2)) = _
    rw [if_neg (by rw [h1 x List.mem_cons_self]; exact Bool.false_ne_true), addTo_some (fun y hy => h1 y (List.mem_cons_of_mem _ hy)) h]
    rfl
theorem first_of {α : Type} {f : α → Bool} {y : α} {ys : List α} : ∀ {l : List α}, l.filter f = y :: ys → ∃ l1 l2, l = l1 ++ y :: l2 ∧ (∀ x ∈ l1, f x = false) ∧ f y = true
  | [], h => by cases h
  | x :: l, h => by
    rw [List.filter_cons] at h
    by_cases e : f x = true
    · rw [if_pos e] at h
      injection h with h1 h2
      subst h1
      exact ⟨[], l, rfl, fun _ z => absurd z List.not_mem_nil, e⟩
    · rw [if_neg e] at h
      obtain ⟨l1, l2, rfl, a, b⟩ := first_of h
      refine ⟨x :: l1, l2, rfl, fun z hz => ?_, b⟩
      rcases List.mem_cons.mp hz with rfl | hz
      · simpa using e
      · exact a z hz
theorem addTo_perm (kn : KN) (n : Str) : ∀ rs : List (List Str), (addTo kn n rs).flatten.Perm (n :: rs.flatten)
  | [] => List.Perm.refl _
  | r :: rs => by
    unfold addTo
    split
    · rw [List.flatten_cons, List.flatten_cons, List.append_assoc]
      exact List.perm_middle
    · rw [List.flatten_cons, List.flatten_cons]
      exact ((addTo_perm kn n rs).append_left r).trans List.perm_middle
theorem addTo_ne (kn : KN) (n : Str) : ∀ {rs : List (List Str)}, (∀ r ∈ rs, r ≠ []) → ∀ r ∈ addTo kn n rs, r ≠ []
  | [], _, r, h => by
    rw [show addTo kn n [] = [[n]] from rfl, List.mem_singleton] at h
    rw [h]
    exact List.cons_ne_nil _ _
  | x :: rs, hx, r, h => by
    unfold addTo at h
    split at h
    · rcases List.mem_cons.mp h with rfl | h
      · simp
      · exact hx r (List.mem_cons_of_mem _ h)
    · rcases List.mem_cons.mp h with rfl | h
      · exact hx _ List.mem_cons_self
      · exact addTo_ne kn n (fun y hy => hx y (List.mem_cons_of_mem _ hy)) r h
theorem greedy_snoc (kn : KN) (ns : List Str) (n : Str) : greedy kn (ns ++ [n]) = addTo kn n (greedy kn ns) := by
  unfold greedy
  rw [List.foldl_append]
  rfl
theorem greedy_perm_go (kn : KN) : ∀ (ns : List Str) (rs : List (List Str)), (ns.foldl (fun rs n => addTo kn n rs) rs).flatten.Perm (ns ++ rs.flatten)
  | [], rs => List.Perm.refl _
  | n :: ns, rs => by
    rw [List.foldl_cons]
    exact (greedy_perm_go kn ns _).trans (((addTo_perm kn n rs).append_left ns).trans List.perm_middle)
theorem greedy_perm (kn : KN) (ns : List Str) : (greedy kn ns).flatten.Perm ns := by
  have := greedy_perm_go kn ns []
  simpa [greedy] using this
theorem iw_listV {Z : List NTab} {K : PySem.W.Frag} {α : Type} {σ : St} {F : Hp} {i : Nat} {R : Addr} {ls : List α} {f : α → V} (hi : σ[i]? = some (some (.ref R))) (h : F R = some (.lst (ls.map f))) : IW Z (iList K (tVar i)) σ F ls (fun l v _ => v = f l) := fun H s R' r =>
  ⟨.ref R, hi, R, rfl, ⟨_, .inl (.inl (s.same _ _ h))⟩, r _ F H (Go.refl s) ⟨fun H => SqL K H R (ls.map f), YAt (ls.map f), by
    have := walk_list (K := K) (a := R) (xs := ls.map f)
    rwa [List.length_map] at this, fun H2 e => .inl (.inl (e _ _ h)), fun j l x F2 H2 H3 hl e s2 y => by
    obtain ⟨rfl, hx⟩ := y
    rw [List.getElem?_map, hl] at hx
    exact ⟨F2, Go.refl s2, (Option.some.inj hx).symm⟩⟩⟩
theorem RowsAt.step {Z : List NTab} {H0 F H F2 H2 : Hp} {R : Addr} {l : List (Addr × List Str)} (r : RowsAt H0 F H R l) (g : Go Z F H F2 H2) : RowsAt H0 F2 H2 R l :=
  ⟨g.hh.lst r.at_, g.none_of r.at_ r.fr, r.h0, r.ne, r.nd, fun x hx => ⟨g.hh.lst (r.rows x hx).1, g.none_of (r.rows x hx).1 (r.rows x hx).2.1, (r.rows x hx).2.2⟩⟩
def qL : Str := ("parted" ++ ".<locals>." : Str) ++ "<lambda>"
def sp28 (Z : List NTab) (K : PySem.W.Frag) : Sp := spD Z K fun ds r => ∃ b B od o, ds = [b, od] ∧ Fits b B od o ∧ r = lotsD (partedS B o)
theorem len28 {Z : List NTab} {K : PySem.W.Frag} {vs : List V} {H : Hp} {Q : VK} {E : XK} (h : sp28 Z K vs H Q E) : vs.length = 2 := spD_len (n := 2) (by rintro _ _ ⟨d, B, od, o, rfl, _⟩; rfl) h
section
variable {P : Program} {w : World} {K : PySem.W.Frag} {mg : Str → Option Value} {base : Heap} {fa : Nat → Addr} {fd : Nat → FuncData} {tl : Nat → Tok} {Z : List NTab}
theorem ok28 (T : Top K mg fa fd tl) (G9 : FnOk P w K mg base CX0 1 (fa 9) (fd 9) ["some"] (sp9 Z K)) (G22 : FnOk P w K mg base CX0 17 (fa 22) (fd 22) ["block", "order"] (sp22 Z K)) {c P0 : Addr} (TB : TabB base mg c P0) (hz : (P0, fun _ _ => qL) ∈ Z) (one : ∀ q ∈ Z, q.1 = P0 → q.2 = fun _ _ => qL)
    {oc kV doc pm ct : Value} {od0 an : Option Addr} {osl : Array (Option Value)} (hfd : fd 28 = PySem.W.fnOf "parted" "parted" (defArgs s28) (defBody s28) (defScope s28) .none kV doc pm an (.ref c) ct) (lk : K.lookup (fa 28) = some ⟨oc, od0, .func (fd 28), osl⟩) (hcd : PySem.W.codeIn K (.ref c) "parted" = true) :
    FnOk P w K mg base CX0 18 (fa 28) (fd 28) ["block", "order"] (sp28 Z K) := by
  rw [hfd] at lk ⊢
  refine fn_of lk hcd sc28 (fun vs H Q E h => len28 h) fun A outer s0 H vs Q E hr h => ?_
  have key : ∃ t, PSs (cxOf CX0 P w K mg base ["block", "order", "rows", "name", "free", "known", "row"] "parted" (defScope s28) (fa 28) (.ref c) A outer s0 H E).nox (defBody s28) t ∧ t { nx := fun _ H' => Q .non H', rt := Q } (L2.start ["block", "order", "rows", "name", "free", "known", "row"] vs) H := by
    refine ⟨_, (pss_cons (ps_asg (pe_tup (pa_cons (pe_call G22 (hr.mono (by decide)) (by rfl) T.g22 T.F22.kp T.b22 .nil pass0 (pa_cons (pv 0) (pa_cons (pv 1) pa_nil))) (pa_cons (pe_lst pa_nil) pa_nil))) (kg_tup (n := 2) K (by rfl) rfl (pgs_cons (pg_name (i := 5) nd28 rfl (Or.inr rfl)) (pgs_cons (pg_name (i := 2) nd28 rfl (Or.inl rfl)) pgs_nil))))
  (pss_cons (ps_for PassesOwn.never rfl (ki_list K (by rfl) (pe_sortLam (Z := Z) (i := 5) TB rfl hz one rfl rfl rfl rfl rfl rfl rfl rfl (fun _ _ _ _ _ => rfl) (by rfl) T.m_sorted (hr.mono (by decide)) rfl)) (pg_name (i := 3) nd28 rfl (Or.inr rfl)) (pss_cons (ps_setLc (i := 4) (own := [("row", 6)]) rfl nd28 rfl rfl (sw_true rfl rfl rfl (by decide +kernel)) (ki_list K (by rfl) (pv 2)) (blkOk_by (N := ["block", "order", "rows", "name", "free", "known", "row"]) (sc := (defScope s28)) (own := [("row", 6)]) (by decide +kernel)) (fun _ _ _ _ _ => (pg_name (i := 6) nd28 rfl (Or.inl rfl))) (fun _ _ _ _ _ => (pts_one (pt_cmpR op_le (pe_ix (kx_tup K) (pe_dget (hu_of hr) (pv 5) (pe_ix (kx_list K) (pv 6) (pe_un un_neg pe_int) (fun _ _ => rfl)) (fun _ _ => rfl)) pe_int (fun _ _ => rfl)) (pe_ix (kx_tup K) (pe_dget (hu_of hr) (pv 5) (pv 3) (fun _ _ => rfl)) pe_int (fun _ _ => rfl)) (nomark _)))) (fun _ _ _ _ _ => (pv 6)))
  (pss_one (ps_if (pt_cmpR op_gt (pe_callB (kc_len K) (by rfl) T.m_len bt_len (pa_cons (pv 4) pa_nil)) pe_int (nomark _)) (pss_one (ps_expr (ke_bm K (by rfl) PySem.F.plainAttrs_list PySem.F.slot_list_append PySem.F.type_list_append mt_append (pe_ix (kx_list K) (pv 4) pe_int (fun _ _ => rfl)) (pa_cons (pv 3) pa_nil)))) (pss_one (ps_expr (ke_bm K (by rfl) PySem.F.plainAttrs_list PySem.F.slot_list_append PySem.F.type_list_append mt_append (pv 2) (pa_cons (pe_lst (pa_cons (pv 3) pa_nil)) pa_nil))))))))
  (pss_one (ps_ret (pe_callTy (kc_tupOf K) (by rfl) T.m_tuple bt_tuple (pa_cons (pe_lc (own := [("row", 6)]) (tt := tYes) rfl nd28 (ki_list K (by rfl) (pv 2)) (blkOk_by (N := ["block", "order", "rows", "name", "free", "known", "row"]) (sc := (defScope s28)) (own := [("row", 6)]) (by decide +kernel)) (fun _ _ _ _ _ => (pg_name (i := 6) nd28 rfl (Or.inl rfl))) (fun _ _ _ _ _ => pts_nil) (fun _ _ _ _ _ => (pe_call G9 (hr.mono (by decide)) (by rfl) T.g9 T.F9.kp T.b9 .nil pass0 (pa_cons (pv 6) pa_nil)))) pa_nil)))))), ?_⟩
    obtain ⟨F, _, _, s, pd, ⟨b, B, od, o, rfl, hf, rfl⟩, q⟩ := h
    obtain ⟨v, u, rfl, p, p2⟩ := dpa2 pd
    have hkfew : (waits B o).length ≤ 50 := waits_few hf.blk
    generalize hkn : waits B o = kn at *
    refine (es_call (P := Wd K (knW kn)) (ead_cons (ed_var (i := 0) rfl p) (ead_cons (ed_var (i := 1) rfl p2) ead_nil)) ⟨b, B, od, o, rfl, hf, by rw [hkn]⟩) H s _ fun k F1 H1 g1 pk => ?_
    obtain ⟨a, kvs, rfl, h1, h2⟩ := pk
    refine ⟨Nat.zero_le _, fun R hR => ⟨(by decide : 2 ≤ sizeLine), fun t ht => ⟨t, [.ref a, .ref R], rfl, .inl (.inl upd_same), rfl, .ref a, [.ref R], rfl, .ref R, [], rfl, rfl, ?_⟩⟩⟩
    have gR : Go Z F1 H1 F1 (upd (upd H1 R (.lst [])) t (.tup [.ref a, .ref R])) := Go.ext g1.sub ((ext_new hR).trans (ext_new ht))
    have hRt : R ≠ t := ne_of_none (o := .lst []) upd_same ht
    have rows0 : RowsAt H F1 (upd (upd H1 R (.lst [])) t (.tup [.ref a, .ref R])) R [] := ⟨by rw [upd_ne hRt]; exact upd_same, g1.sub.free hR, g1.back hR, fun x hx => absurd hx List.not_mem_nil, List.nodup_nil, fun x hx => absurd hx List.not_mem_nil⟩
    have lkn : ∀ n ∈ kn.map (·.1), klook kn n = some (kat kn n) := fun n hn => by
      rw [← hkn, waits_names] at hn
      rw [← hkn]
      exact klook_waits hn
    have st : Starts kn := hkn ▸ hf.starts
    generalize upd (upd H1 R (.lst [])) t (.tup [.ref a, .ref R]) = H2 at gR rows0 ⊢
    have memk : ∀ {n}, n ∈ byKey kn → n ∈ kn.map (·.1) := fun h => (isort_perm _).mem_iff.mp h
    have lenk : (byKey kn).length ≤ 50 := by
      rw [byKey, (isort_perm _).length_eq, List.length_map]
      exact hkfew
    refine s_for (IW.of_map (iw_list (K := K) (El.ed (el_sortLam (Z := Z) (σ := [some v, some u, some (.ref R), none, none, some (.ref a), none]) (i := 5) rfl h1 h2 (by omega) st lkn)))) gR.sub
      (fun i σ1 F' H' => ∃ l nm fr, σ1 = [some v, some u, some (.ref R), nm, fr, some (.ref a), none] ∧ Go Z F H F' H' ∧ RowsAt H F' H' R l ∧ l.map (·.2) = greedy kn ((byKey kn).take i) ∧ (∀ x ∈ l, x.2 ≠ []) ∧ F' a = some (.dK kvs) ∧ KvD K F' kvs (knW kn))
      (fun F3 H3 g3 => ⟨[], none, none, rfl, (g1.trans gR).trans g3, rows0.step g3, rfl, fun x hx => absurd hx List.not_mem_nil, g3.ff _ _ h1, kvd_mono g3.ff h2⟩) ?_ ?_
    · rintro i n σ1 F' H' x F3 H3 hi s' ⟨l, nm, fr, rfl, gA, rA, hl, hne, hFa, hkv⟩ g3 t
      have hx := dp_str t
      subst hx
      have g0 := gA.trans g3
      have r0 := rA.step g3
      have hFa3 := g3.ff _ _ hFa
      have hkv3 := kvd_mono g3.ff hkv
      have s3 := g3.sub
      have hnk : n ∈ kn.map (·.1) := memk (mem_of_get hi)
      have gF := r0.go g0
      have hmem : ∀ x ∈ l, ∀ y ∈ x.2, y ∈ kn.map (·.1) := fun x hx y hy => by
        have h1 : y ∈ (greedy kn ((byKey kn).take i)).flatten := List.mem_flatten.mpr ⟨x.2, by rw [← hl]; exact List.mem_map.mpr ⟨x, hx, rfl⟩, hy⟩
        exact memk (List.mem_of_mem_take ((greedy_perm kn _).mem_iff.mp h1))
      have lfew : l.length ≤ 50 := by
        have h1 : l.length ≤ (l.map (·.2)).flatten.length := by
          have key : ∀ m : List (Addr × List Str), (∀ x ∈ m, x.2 ≠ []) → m.length ≤ (m.map (·.2)).flatten.length := fun m hm => by
            induction m with
            | nil => exact Nat.zero_le _
            | cons y m ih =>
              rw [List.map_cons, List.flatten_cons, List.length_append, List.length_cons]
              have h2 := ih fun x hx => hm x (List.mem_cons_of_mem _ hx)
              have h3 : 0 < y.2.length := List.length_pos_iff.mpr (hm y List.mem_cons_self)
              omega
          exact key l hne
        rw [hl, (greedy_perm kn _).length_eq, List.length_take] at h1
        omega
      have hel := el_lc (Z := Z) (σ := [some v, some u, some (.ref R), some (.str n), fr, some (.ref a), none]) (F := frz F3 R l) (g := gName 6) (vs := [6]) (te := tVar 6) (tt := tTest (tOp (rI0 fun i j => .bl (decide (i ≤ j))) (tOp (rIxT K) (tDGet (tVar 5) (tOp (rIxL K) (tVar 6) (tUn (rU fun i => .int (-i)) (tC (.int 1))))) (tC (.int 1))) (tOp (rIxT K) (tDGet (tVar 5) (tVar 3)) (tC (.int 0)))))
        (fun x : Addr × List Str => fitsR kn n x.2) (fun x v _ => v = V.ref x.1) (fun _ _ _ _ _ h => h) (iw_listV (K := K) (i := 2) (f := fun x : Addr × List Str => V.ref x.1) rfl (by unfold frz; exact upd_same)) (by omega) (fun y x F4 H4 hy e s t => ?_) gm_name
      · refine q_asgL hel gF.sub fun D xs F4 H4 g4 hD0 hD hDl pd => ?_
        have exs : xs = (l.filter fun x => fitsR kn n x.2).map fun x => V.ref x.1 := paired_eq pd
        subst exs
        have e34 : Ext Z H3 H4 := g4.hh
        have g5 : Go Z F H F3 H4 := g0.trans (Go.ext s3 e34)
        have r5 := r0.ext e34
        have hsz : ∀ m : List (Addr × List Str), m.length ≤ 50 → (m.map fun x => V.ref x.1).length < sizeLine := fun m hm => line_lt (by rw [List.length_map]; omega)
        have take1 : (byKey kn).take (i + 1) = (byKey kn).take i ++ [n] := take_more hi
        refine ⟨.ref D, rfl, _, _, rfl, .inl ⟨_, .inl (.inl hDl), rfl⟩, _, 0, rfl, rfl, _, rfl, ite2 (fun eb => ?_) fun eb => ?_⟩
        · cases hfl : l.filter (fun x => fitsR kn n x.2) with
          | nil =>
            rw [hfl] at eb
            exact absurd (of_decide_eq_true eb) (by simp)
          | cons y ys =>
            obtain ⟨l1, l2, el, hl1, hy⟩ := first_of hfl
            rw [hfl] at hDl
            have hyl : y ∈ l := by rw [el]; exact List.mem_append_right _ List.mem_cons_self
            have hyR := r5.rows y hyl
            have yR := r5.ne y hyl
            refine ⟨.ref D, rfl, D, _, 0, .ref y.1, rfl, rfl, .inl (.inl hDl), atI_nat (j := 0) rfl, .inl ⟨rfl, _, .inl (.inl hyR.1)⟩, .str n, rfl, y.1, _, .str n, rfl, rfl, hyR.1, ?_, ?_⟩
            · refine line_lt ?_
              rw [List.length_map]
              have h1 : y.2.length ≤ (l.map (·.2)).flatten.length := (List.sublist_flatten_of_mem (List.mem_map.mpr ⟨y, hyl, rfl⟩)).length_le
              rw [hl, (greedy_perm kn _).length_eq, List.length_take] at h1
              omega
            · have nd := r5.nd
              rw [el, List.map_append, List.map_cons, List.nodup_append, List.nodup_cons] at nd
              have ne1 : ∀ x ∈ l1, x.1 ≠ y.1 := fun x hx => nd.2.2 x.1 (List.mem_map.mpr ⟨x, hx, rfl⟩) y.1 List.mem_cons_self
              have ne2 : ∀ x ∈ l2, x.1 ≠ y.1 := fun x hx e => nd.2.1.1 (by rw [← e]; exact List.mem_map.mpr ⟨x, hx, rfl⟩)
              have g6 := g5.mut hyR.2.2 hyR.2.1 hyR.1 (ys := y.2.map V.str ++ [.str n])
              refine ⟨F3, g3.ff, g6.sub, l1 ++ (y.1, y.2 ++ [n]) :: l2, _, _, rfl, g6, ⟨?_, r5.fr, r5.h0, ?_, ?_, ?_⟩, ?_, ?_, hFa3, hkv3⟩
              · rw [upd_ne yR.symm, r5.at_, el]
                simp
              · intro x hx
                rcases List.mem_append.mp hx with hx | hx
                · exact r5.ne x (by rw [el]; exact List.mem_append_left _ hx)
                · rcases List.mem_cons.mp hx with rfl | hx
                  · exact yR
                  · exact r5.ne x (by rw [el]; exact List.mem_append_right _ (List.mem_cons_of_mem _ hx))
              · rw [List.map_append, List.map_cons, List.nodup_append, List.nodup_cons]
                exact nd
              · intro x hx
                rcases List.mem_append.mp hx with hx | hx
                · rw [upd_ne (ne1 x hx)]
                  exact r5.rows x (by rw [el]; exact List.mem_append_left _ hx)
                · rcases List.mem_cons.mp hx with rfl | hx
                  · rw [upd_same, List.map_append]
                    exact ⟨rfl, hyR.2⟩
                  · rw [upd_ne (ne2 x hx)]
                    exact r5.rows x (by rw [el]; exact List.mem_append_right _ (List.mem_cons_of_mem _ hx))
              · rw [take1, greedy_snoc, ← hl, el, List.map_append, List.map_append, List.map_cons, List.map_cons]
                refine (addTo_some (fun z hz => ?_) hy).symm
                obtain ⟨x, hx, rfl⟩ := List.mem_map.mp hz
                exact hl1 x hx
              · intro x hx
                rcases List.mem_append.mp hx with hx | hx
                · exact hne x (by rw [el]; exact List.mem_append_left _ hx)
                · rcases List.mem_cons.mp hx with rfl | hx
                  · simp
                  · exact hne x (by rw [el]; exact List.mem_append_right _ (List.mem_cons_of_mem _ hx))
        · cases hfl : l.filter (fun x => fitsR kn n x.2) with
          | cons y ys =>
            rw [hfl] at eb
            refine absurd (decide_eq_true (?_ : _)) eb
            rw [List.map_cons, List.length_cons]
            omega
          | nil =>
            have hg : greedy kn ((byKey kn).take (i + 1)) = l.map (·.2) ++ [[n]] := by
              rw [take1, greedy_snoc, ← hl]
              refine addTo_none ?_
              rw [List.filter_map]
              show (l.filter fun x => fitsR kn n x.2).map _ = []
              rw [hfl]
              rfl
            refine ⟨.ref R, rfl, .inl ⟨rfl, _, .inl (.inl r5.at_)⟩, .str n, rfl, (by decide : 1 ≤ sizeLine), fun q hq => ⟨R, _, .ref q, rfl, rfl, ?_, hsz l lfew, ?_⟩⟩
            · rw [upd_ne (ne_of_none r5.at_ hq)]
              exact r5.at_
            · have g6 : Go Z F H F3 (upd H4 q (.lst [V.str n])) := g5.trans (Go.ext g5.sub (ext_new hq))
              have r6 := r5.ext (Z := Z) (ext_new (o := .lst [V.str n]) hq)
              have qR : q ≠ R := (ne_of_none r5.at_ hq).symm
              have q0 : H q = none := g5.back hq
              have qF : F3 q = none := g5.sub.free hq
              have qn : ∀ x ∈ l, x.1 ≠ q := fun x hx => ne_of_none (r5.rows x hx).1 hq
              refine ⟨F3, g3.ff, (g6.mut r6.h0 r6.fr r6.at_ (ys := l.map (fun x => V.ref x.1) ++ [.ref q])).sub, l ++ [(q, [n])], _, _, rfl, g6.mut r6.h0 r6.fr r6.at_, ⟨?_, r6.fr, r6.h0, ?_, ?_, ?_⟩, by rw [List.map_append, hg]; rfl, ?_, hFa3, hkv3⟩
              · rw [List.map_append]
                exact upd_same
              · intro x hx
                rcases List.mem_append.mp hx with hx | hx
                · exact r6.ne x hx
                · rw [List.mem_singleton.mp hx]
                  exact qR
              · rw [List.map_append, List.nodup_append]
                refine ⟨r6.nd, List.pairwise_singleton _ _, ?_⟩
                intro y hy z hz
                obtain ⟨x, hx, rfl⟩ := List.mem_map.mp hy
                rw [List.map_cons, List.map_nil, List.mem_singleton] at hz
                rw [hz]
                exact qn x hx
              · intro x hx
                rcases List.mem_append.mp hx with hx | hx
                · rw [upd_ne (r6.ne x hx)]
                  exact r6.rows x hx
                · rw [List.mem_singleton.mp hx]
                  rw [upd_ne qR]
                  exact ⟨upd_same, qF, q0⟩
              · intro x hx
                rcases List.mem_append.mp hx with hx | hx
                · exact hne x hx
                · rw [List.mem_singleton.mp hx]
                  exact List.cons_ne_nil _ _
      · subst t
        have s5 := (r0.same g0).trans e
        have hd : ∀ z, Es Z (tVar 5) [some v, some u, some (.ref R), some (.str n), fr, some (.ref a), some z] F4 (Wd K (knW kn)) := fun z => es_var rfl ⟨a, kvs, rfl, s5 _ _ hFa3, kvd_mono s5 hkv3⟩
        have wk : ∀ {m}, m ∈ kn.map (·.1) → wlook (knW kn) m = some (pairD ((kat kn m).1 : Nat) ((kat kn m).2 : Nat)) := fun hm => by
          rw [look_kn, lkn _ hm]
          rfl
        have hlast : Ev Z (tOp (rIxL K) (tVar 6) (tUn (rU fun i => .int (-i)) (tC (.int 1)))) [some v, some u, some (.ref R), some (.str n), fr, some (.ref a), some (.ref y.1)] F4 (.str (lastS y.2)) := fun H s q hq =>
          ⟨.ref y.1, rfl, 1, rfl, y.1, _, -1, _, rfl, rfl, .inl (.inl (s.same _ _ (e _ _ (r0.row g0 hy)))), last_at (hne y hy), hq H Ext.refl⟩
        refine ⟨rfl, rfl, Et.to (et_test (ev_i0 (g := fun i j => .bl (decide (i ≤ j))) (ed_ixT (j := 1) (ed_dget (hd _) hlast (wk (hmem y hy _ (lastS_mem (hne y hy))))) ev_c rfl).int (ed_ixT (j := 0) (ed_dget (hd _) (ev_var rfl) (wk hnk)) ev_c rfl).int)) ?_, fun _ => es_var rfl rfl⟩
        exact decide_eq_decide.mpr (by omega)
    · rintro σ1 F' H' s' ⟨l, nm, fr, rfl, gA, rA, hl, hne, hFa, hkv⟩
      rw [List.take_length] at hl
      have gF := rA.go gA
      have hrow : Dp K (frz F' R l) (.ref R) (.list (l.map fun x => .list (x.2.map .str))) := by
        refine .lst (.inl (.inl (by unfold frz; exact upd_same))) ?_
        have key : ∀ m : List (Addr × List Str), (∀ x ∈ m, x ∈ l) → DpAll K (frz F' R l) (m.map fun x => V.ref x.1) (m.map fun x => .list (x.2.map .str)) := fun m hm => by
          induction m with
          | nil => exact .nil
          | cons x m ih => exact .cons (.lst (.inl (.inl (rA.row gA (hm x List.mem_cons_self)))) strs_dpa) (ih fun y hy => hm y (List.mem_cons_of_mem _ hy))
        exact key l fun _ h => h
      have rowfew : ∀ x ∈ l, x.2.length ≤ 50 := fun x hx => by
        have h1 : x.2.length ≤ (l.map (·.2)).flatten.length := (List.sublist_flatten_of_mem (List.mem_map.mpr ⟨x, hx, rfl⟩)).length_le
        rw [hl, (greedy_perm kn _).length_eq] at h1
        omega
      have lfew : l.length ≤ 50 := by
        have h1 : l.length ≤ (l.map (·.2)).flatten.length := by
          have key : ∀ m : List (Addr × List Str), (∀ x ∈ m, x.2 ≠ []) → m.length ≤ (m.map (·.2)).flatten.length := fun m hm => by
            induction m with
            | nil => exact Nat.zero_le _
            | cons y m ih =>
              rw [List.map_cons, List.flatten_cons, List.length_append, List.length_cons]
              have h2 := ih fun x hx => hm x (List.mem_cons_of_mem _ hx)
              have h3 : 0 < y.2.length := List.length_pos_iff.mpr (hm y List.mem_cons_self)
              omega
          exact key l hne
        rw [hl, (greedy_perm kn _).length_eq] at h1
        omega
      have el : partedS B o = l.map fun x => sset x.2 := by
        unfold partedS
        rw [hkn, ← hl, List.map_map]
        rfl
      rw [el, lotsD, List.map_map] at q
      change tRet (tCB (rTupOf K) (tCons (tLc (iList K (tVar 2)) (gName 6) tYes (tCall (sp9 Z K) [] E0 (tCons (tVar 6) tNil)) [6]) tNil)) { nx := fun _ H' => Q .non H', rt := Q } [some v, some u, some (.ref R), nm, fr, some (.ref a), none] H'
      refine s_ret (D := { nx := fun _ H' => Q .non H', rt := Q }) (ed_tupOf (ds := l.map (namesD ∘ fun x : Addr × List Str => sset x.2)) ?_) gF.sub fun v3 F4 H4 g z => q v3 F4 H4 (gF.trans g) z
      refine el_map (K := K) (fun x : Addr × List Str => namesD (sset x.2)) (IW.of_map (iw_list (ed_var (i := 2) rfl hrow))) (by omega) (fun _ => rfl) fun x y F1 hx e t => ?_
      exact ed_call (ead_cons (ed_var rfl t) ead_nil) ⟨x.2, rfl, by have := rowfew x hx; omega, rfl⟩
  obtain ⟨t, h1, h2⟩ := key
  exact ⟨t, h1.nox, h2⟩
end
end K21

/-! is_parted. -/
namespace K21
open PySem PySem.Spec PyProof.Rows L2 RZ
open NdefX (NTab TabsN TabN)
/-! ### sorted(a table) -/
theorem rising_srt : ∀ {l : List Str} {p : Str}, risingS p l = true → Srt sle (p :: l)
  | [], p, _ => List.pairwise_singleton _ _
  | x :: r, p, h => by
    unfold risingS at h
    rw [Bool.and_eq_true, ltCps_eq] at h
    have t := rising_srt h.2
    refine List.pairwise_cons.mpr ⟨fun y hy => ?_, t⟩
    have e : sle p x = true := h.1
    rcases List.mem_cons.mp hy with rfl | hy
    · exact e
    · exact sle_total.trans _ _ _ e ((List.pairwise_cons.mp t).1 y hy)
theorem srt_of_sorted : ∀ {l : List Str}, sortedS l = true → Srt sle l
  | [], _ => List.Pairwise.nil
  | _ :: _, h => rising_srt h
def rSrtK : List V → Hp → VK → Prop := fun xs H Q => ∃ (a : Addr) (kvs : List (Key × V)) (ks : List Str), xs = [.ref a] ∧ Rd H a (.dK kvs) ∧ kvs.map (·.1) = ks.map Sum.inr ∧ ks.length < 64 ∧
  ∀ ys p, ys.Perm ks → sortedS ys = true → H p = none → Q (.ref p) (upd H p (.lst (ys.map V.str)))
theorem kc_sortK {X : Cx} (hc : X.calm = true) : CallR X (.builtin "sorted") rSrtK := call_sortedD hc
section
variable {Z : List NTab} {K : PySem.W.Frag} {σ : St} {F H F1 H1 : Hp}
theorem kvd_keys {kvs : List (Key × V)} {ws : WL} (r : KvD K F kvs ws) : kvs.map (·.1) = (ws.map (·.1)).map Sum.inr := by
  induction r with
  | nil => rfl
  | cons x _ ih => rw [List.map_cons, ih, x.1]; rfl
theorem el_sortedKeys {te : TE} {ws : WL} (h : Es Z te σ F (Wd K ws)) (few : ws.length < 64) : El Z (tCB rSrtK (tCons te tNil)) σ F fun xs F => DpAll K F xs ((sortS (ws.map (·.1))).map .str) := fun H s Q q =>
  h H s _ fun v F1 H1 g ⟨a, kvs, e, ha, hk⟩ => by
    subst e
    refine ⟨a, kvs, ws.map (·.1), rfl, .inl (g.sub.same _ _ ha), kvd_keys hk, by rw [List.length_map]; exact few, fun ys p hp hs hn => ?_⟩
    have e : ys = sortS (ws.map (·.1)) := srt_one sle_anti (hp.trans (isort_perm _).symm) (srt_of_sorted hs) (isort_srt sle_total _)
    subst e
    exact q p _ F1 _ (g.trans (Go.ext g.sub (ext_new hn))) (g.back hn) (g.sub.free hn) upd_same strs_dpa
end
/-! ### is_parted -/
def lotS : PyData → List Str
  | .tuple ds => ds.map strOf
  | _ => []
def fewD : PyData → Bool
  | .tuple ds => decide (ds.length ≤ 50)
  | _ => true
def fewP : PyData → Bool
  | .tuple ds => decide (ds.length ≤ 50) && ds.all fewD
  | _ => true
def nonE (d : PyData) : Bool := isNameSetD d && decide (0 < (lotS d).length)
def nonEs : PyData → Bool
  | .tuple ds => ds.all nonE
  | _ => true
theorem flat_few_on {α β : Type} (ms : α → List β) (m : Nat) : ∀ ls : List α, (∀ l ∈ ls, (ms l).length ≤ m) → (ls.flatMap fun l => (ms l).map fun x => (l, x)).length ≤ ls.length * m
  | [], _ => by simp
  | l :: ls, h => by
    have := flat_few_on ms m ls fun x hx => h x (List.mem_cons_of_mem _ hx)
    have := h l List.mem_cons_self
    rw [List.flatMap_cons, List.length_append, List.length_map, List.length_cons, Nat.succ_mul]
    omega
def isLots (B : Blk) (o : List Str) (ls : List (List Str)) : Bool := decide (sortS ls.flatten = sortS B.awaited) && ls.all (fun l => apartK (waits B o) l) && decide (ls.length = B.most o)
def isPartedD (B : Blk) (o : List Str) : PyData → Bool
  | .tuple ds => ds.all nonE && isLots B o (ds.map lotS)
  | _ => false
theorem isParted_tup {B : Blk} {o : List Str} {ds : List PyData} : isPartedD B o (.tuple ds) = (ds.all nonE && ((decide (sortS (ds.map lotS).flatten = sortS B.awaited) && (ds.map lotS).all fun l => apartK (waits B o) l) && decide ((ds.map lotS).length = B.most o))) := rfl
theorem lot_of {d : PyData} (h : nonE d = true) : d = namesD (lotS d) ∧ ∀ x ∈ lotS d, isNameS x = true := by
  unfold nonE at h
  rw [Bool.and_eq_true] at h
  have h := h.1
  cases d with
  | tuple ds =>
    unfold isNameSetD at h
    rw [Bool.and_eq_true] at h
    have h2 : (ds.map isNameD).all id = true := by rw [List.all_map]; exact h.1
    refine ⟨by show PyData.tuple ds = .tuple _; exact congrArg _ (names_of h2), fun x hx => ?_⟩
    obtain ⟨d, hd, rfl⟩ := List.mem_map.mp hx
    have := List.all_eq_true.mp h.1 d hd
    cases d <;> first | exact this | cases this
  | _ => cases h
theorem lots_of {ds : List PyData} (h : ds.all nonE = true) : ds = (ds.map lotS).map namesD := by
  rw [List.map_map]
  conv => lhs; rw [← List.map_id ds]
  exact List.map_congr_left fun d hd => (lot_of (List.all_eq_true.mp h d hd)).1
def sp29 (Z : List NTab) (K : PySem.W.Frag) : Sp := spD Z K fun ds r => ∃ b B od o d n, ds = [b, od, d] ∧ Fits b B od o ∧ okD n d = true ∧ fewP d = true ∧ r = .bool (isPartedD B o d)
theorem len29 {Z : List NTab} {K : PySem.W.Frag} {vs : List V} {H : Hp} {Q : VK} {E : XK} (h : sp29 Z K vs H Q E) : vs.length = 3 := spD_len (n := 3) (by rintro _ _ ⟨b, B, od, o, d, n, rfl, _⟩; rfl) h
section
variable {P : Program} {w : World} {K : PySem.W.Frag} {mg : Str → Option Value} {base : Heap} {fa : Nat → Addr} {fd : Nat → FuncData} {tl : Nat → Tok} {Z : List NTab}
theorem ok29 (T : Top K mg fa fd tl) (G8 : FnOk P w K mg base CX0 2 (fa 8) (fd 8) ["value"] (sp8 Z K)) (G22 : FnOk P w K mg base CX0 17 (fa 22) (fd 22) ["block", "order"] (sp22 Z K)) (G24 : FnOk P w K mg base CX0 2 (fa 24) (fd 24) ["known", "some"] (sp24 Z K)) (G27 : FnOk P w K mg base CX0 19 (fa 27) (fd 27) ["block", "order"] (sp27 Z K)) : FnOk P w K mg base CX0 20 (fa 29) (fd 29) ["block", "order", "thing"] (sp29 Z K) := by
  refine T.F29.ok sc29 (fun vs H Q E h => len29 h) (fun cdv A outer s0 H vs Q E hr h => ?_)
  refine ⟨_, (pss_cons (ps_set (i := 3) nd29 rfl (Or.inr rfl) (pe_call G22 (hr.mono (by decide)) (by rfl) T.g22 T.F22.kp T.b22 .nil pass0 (pa_cons (pv 0) (pa_cons (pv 1) pa_nil))))
  (pss_cons (ps_if (PW.pt (pw_or (pt_not (pt_val (pe_callB (kc_isi K) (by rfl) T.m_isinstance bt_isinstance (pa_cons (pv 2) (pa_cons (pe_bltn (v := .ty "tuple") (by rfl) T.m_tuple bt_tuple rfl) pa_nil))))) (pw_or1 (pt_not (pt_val (pe_callB (kc_all K (by rfl) rfl) (by rfl) T.m_all bt_all (pa_cons (pe_lc (own := [("own", 5)]) (tt := tYes) rfl nd29 (ki_tup K (by rfl) (pv 2)) (blkOk_by (N := ["block", "order", "thing", "known", "names", "own", "name"]) (sc := (defScope s29)) (own := [("own", 5)]) (by decide +kernel)) (fun _ _ _ _ _ => (pg_name (i := 5) nd29 rfl (Or.inl rfl))) (fun _ _ _ _ _ => pts_nil) (fun _ _ _ _ _ => (pe_and (pe_call G8 (hr.mono (by decide)) (by rfl) T.g8 T.F8.kp T.b8 .nil pass0 (pa_cons (pv 5) pa_nil)) (pe_one (pe_cmpR op_gt (pe_callB (kc_len K) (by rfl) T.m_len bt_len (pa_cons (pv 5) pa_nil)) pe_int (nomark _)))))) pa_nil))))))) (pss_one (ps_ret pe_bl)) pss_nil)
  (pss_cons (ps_setLc2 (i := 4) (own := [("own", 5), ("name", 6)]) (vs1 := [6]) (tt := tYes) (tt1 := tYes) rfl nd29 rfl rfl (sw_true rfl rfl rfl (by decide +kernel)) (ki_tup K (by rfl) (pv 2)) (blkOk_by (N := ["block", "order", "thing", "known", "names", "own", "name"]) (sc := (defScope s29)) (own := [("own", 5), ("name", 6)]) (by decide +kernel)) (by decide) (fun _ _ _ _ _ => (pg_name (i := 5) nd29 rfl (Or.inl rfl))) (fun _ _ _ _ _ => pts_nil) (fun _ _ _ _ _ => (ki_tup K (by rfl) (pv 5))) (fun _ _ _ _ _ => (pg_name (i := 6) nd29 rfl (Or.inl rfl))) (fun _ _ _ _ _ => pts_nil) (fun _ _ _ _ _ => (pv 6)))
  (pss_cons (ps_if (PW.pt (pw_or (pt_cmpR (ko_neD K (by rfl) hr.units) (pe_callB (kc_sortD K (by rfl) hr.units) (by rfl) T.m_sorted bt_sorted (pa_cons (pv 4) pa_nil)) (pe_callB (kc_sortK rfl) (by rfl) T.m_sorted bt_sorted (pa_cons (pv 3) pa_nil)) (nomark _)) (pw_or1 (pt_not (pt_val (pe_callB (kc_all K (by rfl) rfl) (by rfl) T.m_all bt_all (pa_cons (pe_lc (own := [("own", 5)]) (tt := tYes) rfl nd29 (ki_tup K (by rfl) (pv 2)) (blkOk_by (N := ["block", "order", "thing", "known", "names", "own", "name"]) (sc := (defScope s29)) (own := [("own", 5)]) (by decide +kernel)) (fun _ _ _ _ _ => (pg_name (i := 5) nd29 rfl (Or.inl rfl))) (fun _ _ _ _ _ => pts_nil) (fun _ _ _ _ _ => (pe_call G24 (hr.mono (by decide)) (by rfl) T.g24 T.F24.kp T.b24 .nil pass0 (pa_cons (pv 3) (pa_cons (pv 5) pa_nil))))) pa_nil))))))) (pss_one (ps_ret pe_bl)) pss_nil)
  (pss_one (ps_ret (pe_cmpR op_eq (pe_callB (kc_len K) (by rfl) T.m_len bt_len (pa_cons (pv 2) pa_nil)) (pe_call G27 (hr.mono (by decide)) (by rfl) T.g27 T.F27.kp T.b27 .nil pass0 (pa_cons (pv 0) (pa_cons (pv 1) pa_nil))) (nomark _)))))))), ?_⟩
  obtain ⟨F, _, _, s, pd, ⟨b, B, od, o, d, n, rfl, hf, hok, few, rfl⟩, q⟩ := h
  obtain ⟨v, u, t, rfl, p, p2, p3⟩ := dpa3 pd
  have hv : ∀ {i σ F1}, σ[i]? = some (some v) → Same F F1 → Ed Z K (tVar i) σ F1 b := fun hi e => ed_var hi (dp_mono e p)
  have hu : ∀ {i σ F1}, σ[i]? = some (some u) → Same F F1 → Ed Z K (tVar i) σ F1 od := fun hi e => ed_var hi (dp_mono e p2)
  have ht : ∀ {i σ F1}, σ[i]? = some (some t) → Same F F1 → Ed Z K (tVar i) σ F1 d := fun hi e => ed_var hi (dp_mono e p3)
  refine q_asg (es_call (ead_cons (hv rfl (Same.refl _)) (ead_cons (hu rfl (Same.refl _)) ead_nil)) ⟨b, B, od, o, rfl, hf, rfl⟩) s fun k F1 H1 g1 pk => ?_
  have hk : ∀ {i σ F2}, σ[i]? = some (some k) → Same F1 F2 → Es Z (tVar i) σ F2 (Wd K (knW (waits B o))) := fun hi e => es_var hi (mono_wd _ _ _ e pk)
  refine q_when (b := !isA "tuple" d || !nonEs d) (et_or (et_not (et_B (ev_isi (ht rfl g1.ff)))) fun e => et_not ?_) g1.sub (fun e H2 e2 s2 => ?_) fun e H2 e2 s2 => ?_
  · rw [Bool.not_eq_false'] at e
    obtain ⟨ds, rfl⟩ := isA_tup e
    obtain ⟨m, rfl, hl, hds⟩ := okD_tup hok
    refine Et.to (et_B (ev_all (K := K) (bs := ds.map nonE) ?_)) (by rw [List.all_map]; rfl)
    rw [List.map_map]
    refine el_map (K := K) (fun d => .bool (nonE d)) (iw_tup (ht rfl g1.ff)) (by omega) (fun _ => rfl) fun l x F2 hl e t2 => ?_
    refine (ev_andV (b := isNameSetD l) (c := decide (0 < (lotS l).length)) (ed_call (ead_cons (ed_var rfl t2) ead_nil) ⟨l, m, rfl, hds l hl, rfl⟩).bl fun e3 => ?_).bl
    cases l with
    | tuple es =>
      have := ev_i0 (Z := Z) (F := F2) (g := fun i j => .bl (decide (i > j))) (ev_lenT (K := K) (ds := es) (ed_var (i := 5) rfl t2)) (ev_c (Z := Z) (F := F2) (σ := [some v, some u, some t, some k, none, some x, none]) (x := .int 0))
      refine Ev.to this (congrArg V.bl (decide_eq_decide.mpr ?_))
      show _ ↔ 0 < (es.map strOf).length
      rw [List.length_map]
      omega
    | _ => cases e3
  · refine s_retV ev_c s2 fun H3 e3 s3 => q _ F1 H3 (g1.trans (Go.ext g1.sub (e2.trans e3))) ?_
    have z : isPartedD B o d = false := by
      cases d with
      | tuple ds =>
        have e : ds.all nonE = false := by simpa [isA, tyName, nonEs] using e
        rw [isPartedD, e, Bool.false_and]
      | _ => rfl
    rw [z]
    exact .bl false
  obtain ⟨ds, rfl⟩ : ∃ ds, d = .tuple ds := isA_tup (by
    cases h : isA "tuple" d
    · rw [h] at e; simp at e
    · rfl)
  have e : ds.all nonE = true := by simpa [isA, tyName, nonEs] using e
  have few0 : (decide (ds.length ≤ 50) && ds.all fewD) = true := few
  rw [Bool.and_eq_true] at few0
  have fewL : ds.length ≤ 50 := of_decide_eq_true few0.1
  have lotfew : ∀ d ∈ ds, (lotS d).length ≤ 50 := fun d hd => by
    have h1 := List.all_eq_true.mp few0.2 d hd
    have h2 := List.all_eq_true.mp e d hd
    cases d with
    | tuple es =>
      show (es.map strOf).length ≤ 50
      rw [List.length_map]
      exact of_decide_eq_true h1
    | _ => cases h2
  have goodN : ∀ d ∈ ds, GoodS (lotS d) := fun d hd x hx => name_ok ((lot_of (List.all_eq_true.mp e d hd)).2 x hx)
  have hz := flat_few_on lotS 50 ds lotfew
  have g12 := g1.trans (Go.ext g1.sub e2)
  have hlc := el_lc2 (Z := Z) (σ := [some v, some u, some t, some k, none, none, none]) (F := F1) (te := tVar 6) (g := gName 5) (g1 := gName 6) (vs := [5, 6]) (vs1 := [6]) (wi1 := iTup K (tVar 5))
    lotS (fun p : PyData × Str => fun v F => Dp K F v (.str p.2)) (fun _ => mono_dp) (T1 := fun l m v F => Dp K F v (.str m)) (iw_tup (ht (i := 2) rfl g1.ff)) (by omega) (fun l x F4 H4 hl e4 s4 t4 => ⟨rfl, rfl, IW.of_map (iw_tup (ed_var (d := namesD (lotS l)) rfl ((lot_of (List.all_eq_true.mp e l hl)).1 ▸ t4))), fun m y F5 H5 hm e5 s5 t5 => ⟨rfl, rfl, ed_var rfl t5⟩⟩) gm_name gm_name
  have en : (ds.flatMap fun d => (lotS d).map fun x => (d, x)).map (fun p => PyData.str p.2) = ((ds.map lotS).flatten).map .str := by
    rw [← List.flatMap_def, List.map_flatMap, List.map_flatMap]
    congr 1
    funext d
    simp [Function.comp_def]
  refine q_asg (El.ed (El.imp (P' := fun xs F' => DpAll K F' xs (((ds.map lotS).flatten).map .str)) hlc fun xs F' _ pd => en ▸ paired_dpa (dv := fun p : PyData × Str => .str p.2) pd)) s2 fun nn F3 H3 g3 pn => ?_
  have g13 := g12.trans g3
  have flen : (ds.map lotS).flatten.length ≤ 2500 := by
    have h1 := congrArg List.length en
    rw [List.length_map, List.length_map] at h1
    omega
  have goodF : GoodS (ds.map lotS).flatten := fun x hx => by
    obtain ⟨l, hl, hx⟩ := List.mem_flatten.mp hx
    obtain ⟨d, hd, rfl⟩ := List.mem_map.mp hl
    exact goodN d hd x hx
  have goodA : GoodS B.awaited := fun x hx => hf.blk.good x (awaited_sub hx)
  have s13 := g1.ff.trans g3.ff
  have eN : Ed Z K _ [some v, some u, some t, some k, some nn, none, none] F3 _ := El.ed (el_sorted (K := K) (te := tVar 4) (ed_var (i := 4) rfl pn) (.inl rfl) (alike_strs _) (sortable_strs _) (low_strs _))
  rw [dsort_strs] at eN
  have eK : Ed Z K _ [some v, some u, some t, some k, some nn, none, none] F3 _ := El.ed (el_sortedKeys (K := K) (hk (i := 3) rfl g3.ff) (by rw [knW, List.length_map]; exact Nat.lt_of_le_of_lt (waits_few hf.blk) (by omega)))
  have ek : (knW (waits B o)).map (·.1) = B.awaited := by rw [← waits_names B o, knW, List.map_map]; rfl
  rw [ek] at eK
  refine q_when (b := !PyData.eqv (.list ((sortS (ds.map lotS).flatten).map .str)) (.list ((sortS B.awaited).map .str)) || !((ds.map lotS).map fun l => apartK (waits B o) l).all id) (et_or (et_test (ev_neD eN eK (shaped_strs (good_sort goodF)) (shaped_strs (good_sort goodA)))) fun _ => et_not (et_B (ev_all (K := K) ?_))) g3.sub (fun e4 H4 x4 s4 => ?_) fun e4 H4 x4 s4 => ?_
  · rw [List.map_map, List.map_map]
    refine el_map (K := K) (fun d => .bool (apartK (waits B o) (lotS d))) (iw_tup (ht rfl s13)) (by omega) (fun _ => rfl) fun l x F4 hl e5 t5 => Ev.bl fun H s Q q => ?_
    exact ⟨k, rfl, x, rfl, F4, waits B o, lotS l, k, x, s, rfl, mono_wd _ _ _ (g3.ff.trans e5) pk, (lot_of (List.all_eq_true.mp e l hl)).1 ▸ t5, lotfew l hl, q⟩
  · refine s_retV ev_c s4 fun H5 e5 s5 => q _ F3 H5 (g13.trans (Go.ext g3.sub (x4.trans e5))) ?_
    have z : isPartedD B o (.tuple ds) = false := by
      rw [eqv_strsL, List.all_map] at e4
      rw [isParted_tup]
      rw [← Bool.not_and, Bool.not_eq_true'] at e4
      have e4 : (decide (sortS (ds.map lotS).flatten = sortS B.awaited) && (ds.map lotS).all fun l => apartK (waits B o) l) = false := e4
      rw [e4, Bool.false_and, Bool.and_false]
    rw [z]
    exact .bl false
  · have e4 : (decide (sortS (ds.map lotS).flatten = sortS B.awaited) && (ds.map lotS).all fun l => apartK (waits B o) l) = true := by
      rw [eqv_strsL, List.all_map] at e4
      rw [← Bool.not_and, Bool.not_eq_false'] at e4
      exact e4
    have hm : Ed Z K (tCall (sp27 Z K) [] (fun _ _ _ => False) (tCons (tVar 0) (tCons (tVar 1) tNil))) [some v, some u, some t, some k, some nn, none, none] F3 (.int (B.most o : Nat)) := ed_call (ead_cons (hv rfl s13) (ead_cons (hu rfl s13) ead_nil)) ⟨b, B, od, o, rfl, hf, rfl⟩
    refine s_retV (x := .bl (isPartedD B o (.tuple ds))) (Ev.to (ev_eq (ev_lenT (K := K) (ht (i := 2) rfl s13)) hm.int rfl) (congrArg V.bl ?_)) s4 fun H5 e5 _ => q _ F3 H5 (g13.trans (Go.ext g3.sub (x4.trans e5))) (.bl _)
    rw [isParted_tup]
    rw [e, e4, Bool.true_and, Bool.true_and, List.length_map]
    exact decide_eq_decide.mpr ⟨fun h => by injection h with h; omega, fun h => by rw [h]⟩
end
end K21

/-! The tub: a list that is written. Promises 32, 34, 35. -/
namespace K21
open PySem PySem.Spec PyProof.Rows L2 RZ
open NdefX (NTab TabsN TabN)
def TubL (N : Nat) (l : List V) : Prop := ∃ a b : Int, ∃ c : Nat, l = [.int a, .int b, .int (c : Nat)] ∧ c ≤ N
structure Tb (Z : List NTab) (t : Addr) (N : Nat) (F H : Hp) : Prop where
  sub : Sub Z F H
  fr : F t = none
  at_ : ∃ l, H t = some (.lst l) ∧ TubL N l
/-- the tub is drawn from, then on -/
structure GoM (Z : List NTab) (t : Addr) (N : Nat) (F H F' H' : Hp) : Prop where
  go : ∃ l, TubL N l ∧ Go Z F (upd H t (.lst l)) F' H'
section
variable {Z : List NTab} {F H F1 H1 F2 H2 : Hp} {t p : Addr} {N N1 N2 : Nat} {l l0 xs ys : List V}
theorem upd_self {o : HO} (h : H p = some o) : upd H p o = H := by
  funext b
  by_cases e : b = p
  · rw [e, upd_same, h]
  · rw [upd_ne e]
theorem Ext.shift (e : Ext Z H H1) (h : H t = some (.lst l0)) : Ext Z (upd H t (.lst l)) (upd H1 t (.lst l)) := by
  refine ⟨fun b o q n => ?_, fun b ps q => ?_, fun tb => ?_⟩
  · by_cases hb : b = t
    · rw [hb, upd_same] at q ⊢; exact q
    · rw [upd_ne hb] at q ⊢; exact e.keep b o q n
  · by_cases hb : b = t
    · rw [hb, upd_same] at q; cases q
    · rw [upd_ne hb] at q ⊢; exact e.tbl b ps q
  · have h2 : TabsN Z (upd (upd H t (.lst l)) t (.lst l0)) := tabs_lst tb upd_same
    rw [upd_upd, upd_self h] at h2
    exact tabs_lst (e.tabs h2) (e.lst h)
theorem Go.shift (g : Go Z F H F1 H1) (h : H t = some (.lst l0)) (f : F t = none) : Go Z F (upd H t (.lst l)) F1 (upd H1 t (.lst l)) :=
  ⟨g.hh.shift h, g.ff, g.sub.mut (g.none_of h f) (g.hh.lst h), fun b o z => (g.fresh b o z).imp id fun q => by rw [upd_ne (ne_of_none h q).symm]; exact q⟩
theorem Sub.hold (s : Sub Z F H) (h : H t = some (.lst l)) : Sub Z (upd F t (.lst l)) H := ⟨fun b o q => by
    by_cases hb : b = t
    · rw [hb, upd_same] at q; rw [hb, h]; exact q
    · rw [upd_ne hb] at q; exact s.same b o q, fun b ps q => by
    by_cases hb : b = t
    · rw [hb, upd_same] at q; cases q
    · rw [upd_ne hb] at q; exact s.nt b ps q, s.tabs⟩
theorem TubL.more (h : TubL N l) (q : N ≤ N1) : TubL N1 l := by
  obtain ⟨a, b, c, e, n⟩ := h
  exact ⟨a, b, c, e, Nat.le_trans n q⟩
theorem Tb.more (h : Tb Z t N F H) (q : N ≤ N1) : Tb Z t N1 F H := ⟨h.sub, h.fr, by
  obtain ⟨l, h1, h2⟩ := h.at_
  exact ⟨l, h1, h2.more q⟩⟩
theorem GoM.more (h : GoM Z t N F H F1 H1) (q : N ≤ N1) : GoM Z t N1 F H F1 H1 := ⟨by
  obtain ⟨l, h1, h2⟩ := h.go
  exact ⟨l, h1.more q, h2⟩⟩
theorem GoM.of (b : Tb Z t N F H) (g : Go Z F H F1 H1) : GoM Z t N F H F1 H1 := by
  obtain ⟨l, h1, h2⟩ := b.at_
  exact ⟨l, h2, by rw [upd_self h1]; exact g⟩
theorem GoM.tb (g : GoM Z t N F H F1 H1) (f : F t = none) : Tb Z t N F1 H1 := by
  obtain ⟨l, h1, h2⟩ := g.go
  exact ⟨h2.sub, h2.none_of upd_same f, l, h2.hh.lst upd_same, h1⟩
theorem Tb.go (b : Tb Z t N F H) (g : Go Z F H F1 H1) : Tb Z t N F1 H1 := (GoM.of b g).tb b.fr
theorem GoM.trans (f : F t = none) (a : GoM Z t N1 F H F1 H1) (b : GoM Z t N2 F1 H1 F2 H2) : GoM Z t N2 F H F2 H2 := by
  obtain ⟨l, h1, h2⟩ := a.go
  obtain ⟨m, h3, h4⟩ := b.go
  have z := h2.shift (l := m) upd_same f
  rw [upd_upd] at z
  exact ⟨m, h3, z.trans h4⟩
theorem GoM.on (a : GoM Z t N F H F1 H1) (g : Go Z F1 H1 F2 H2) : GoM Z t N F H F2 H2 := by
  obtain ⟨l, h1, h2⟩ := a.go
  exact ⟨l, h1, h2.trans g⟩
theorem GoM.pre (b : Tb Z t N1 F H) (g : Go Z F H F1 H1) (a : GoM Z t N F1 H1 F2 H2) : GoM Z t N F H F2 H2 := (GoM.of b g).trans b.fr a
theorem GoM.ff (a : GoM Z t N F H F1 H1) : Same F F1 := by
  obtain ⟨l, h1, h2⟩ := a.go
  exact h2.ff
theorem GoM.sub (a : GoM Z t N F H F1 H1) : Sub Z F1 H1 := by
  obtain ⟨l, h1, h2⟩ := a.go
  exact h2.sub
/-- written -/
theorem GoM.store (b : Tb Z t N F H) (e : Ext Z H H1) (h : TubL N1 l) : GoM Z t N1 F H F (upd H1 t (.lst l)) := by
  obtain ⟨l0, h1, _⟩ := b.at_
  exact ⟨l, h, (Go.ext b.sub e).shift h1 b.fr⟩
theorem GoM.none_of (a : GoM Z t N F H F1 H1) (h : H p = some (.lst xs)) (f : F p = none) : F1 p = none := by
  obtain ⟨l, h1, h2⟩ := a.go
  by_cases e : p = t
  · subst e
    exact h2.none_of upd_same f
  · exact h2.none_of (o := .lst xs) (by rw [upd_ne e]; exact h) f
theorem GoM.lst (a : GoM Z t N F H F1 H1) (h : H p = some (.lst xs)) (ne : p ≠ t) : H1 p = some (.lst xs) := by
  obtain ⟨l, h1, h2⟩ := a.go
  exact h2.hh.lst (by rw [upd_ne ne]; exact h)
theorem GoM.back (a : GoM Z t N F H F1 H1) (h : H1 p = none) : H p = none := by
  obtain ⟨l, h1, h2⟩ := a.go
  have z := h2.back h
  by_cases e : p = t
  · rw [e, upd_same] at z; cases z
  · rwa [upd_ne e] at z
/-- a list of one's own is written -/
theorem GoM.mut (a : GoM Z t N F H F1 H1) (ne : p ≠ t) (h0 : H p = none) (f : F1 p = none) (h : H1 p = some (.lst xs)) : GoM Z t N F H F1 (upd H1 p (.lst ys)) := by
  obtain ⟨l, h1, h2⟩ := a.go
  exact ⟨l, h1, h2.mut (by rw [upd_ne ne]; exact h0) f h⟩
theorem GoM.freeze (a : GoM Z t N F H F1 H1) (ne : p ≠ t) (h0 : H p = none) (h : H1 p = some (.lst xs)) : GoM Z t N F H (upd F1 p (.lst xs)) H1 := by
  obtain ⟨l, h1, h2⟩ := a.go
  exact ⟨l, h1, h2.freeze (by rw [upd_ne ne]; exact h0) h⟩
end
/-- what draws k times at most -/
def Em (Z : List NTab) (t : Addr) (te : TE) (σ : St) (k : Nat) (N : Nat) (F : Hp) (P : Sh) : Prop := ∀ H, Tb Z t N F H → ∀ Q : VK, (∀ v F' H', GoM Z t (N + k) F H F' H' → P v F' → Q v H') → te σ H Q
section
variable {Z : List NTab} {K : PySem.W.Frag} {σ : St} {F H : Hp} {te ta : TE} {t : Addr} {N k : Nat} {P P' : Sh} {D : Ends} {u : TS} {l : List V} {x : V}
theorem Es.em (h : Es Z te σ F P) : Em Z t te σ 0 N F P := fun H b Q q => h H b.sub Q fun v F' H' g p => q v F' H' (GoM.of b g) p
theorem Em.imp (h : Em Z t te σ k N F P) (f : ∀ v F', Same F F' → P v F' → P' v F') : Em Z t te σ k N F P' := fun H b Q q => h H b Q fun v F' H' g p => q v F' H' g (f v F' g.ff p)
theorem q_asgM {i : Nat} (h : Em Z t te σ k N F P) (b : Tb Z t N F H) (c : ∀ v F' H', GoM Z t (N + k) F H F' H' → P v F' → u D (σ.set i (some v)) H') : tSeq (tAsg te (gName i)) u D σ H := h H b _ c
theorem s_retM (h : Em Z t te σ k N F P) (b : Tb Z t N F H) (c : ∀ v F' H', GoM Z t (N + k) F H F' H' → P v F' → D.rt v H') : tRet te D σ H := h H b _ c
theorem ix_nat {n j : Nat} (hj : j < n) : ixN n ((j : Nat) : Int) = some j := by
  unfold ixN
  rw [if_pos (Int.natCast_nonneg j), if_pos (by omega), Int.toNat_natCast]
theorem q_store {i j : Nat} (h : Ev Z te σ F x) (s : Sub Z F H) (hi : σ[i]? = some (some (.ref t))) (hl : F t = some (.lst l)) (hj : j < l.length) (c : ∀ H', Ext Z H H' → u D σ (upd H' t (.lst (l.set j x)))) :
    tSeq (tAsg te (gSub (tVar i) (tC (.int (j : Nat))) rSetL)) u D σ H := h H s _ fun H1 e1 => ⟨.ref t, hi, t, l, (j : Nat), j, rfl, rfl, (s.up e1).same _ _ hl, ix_nat hj, c H1 e1⟩
end
/-! ### _law_take -/
def sp32 (Z : List NTab) (K : PySem.W.Frag) : Sp := fun vs H Q _ => ∃ F N t u, vs = [.ref t, .int ((u : Nat) : Int)] ∧ Tb Z t N F H ∧ N < 1000000 ∧ 0 < u ∧ u < 1000000 ∧ ∀ (r : Nat) H', r < u → GoM Z t (N + 1) F H F H' → Q (.int (r : Nat)) H'
theorem len32 {Z : List NTab} {K : PySem.W.Frag} {vs : List V} {H : Hp} {Q : VK} {E : XK} (h : sp32 Z K vs H Q E) : vs.length = 2 := by
  obtain ⟨F, N, t, u, rfl, _⟩ := h
  rfl
theorem mod_nat (i : Int) {u : Nat} (h : 0 < u) : ∃ r : Nat, r < u ∧ i.fmod (u : Nat) = (r : Nat) := by
  have h1 : 0 ≤ i.fmod (u : Nat) := Int.fmod_nonneg_of_pos i (by omega)
  have h2 : i.fmod (u : Nat) < (u : Nat) := Int.fmod_lt_of_pos i (by omega)
  exact ⟨(i.fmod (u : Nat)).toNat, by omega, by omega⟩
section
variable {P : Program} {w : World} {K : PySem.W.Frag} {mg : Str → Option Value} {base : Heap} {fa : Nat → Addr} {fd : Nat → FuncData} {tl : Nat → Tok} {Z : List NTab}
theorem ok32 (T : Top K mg fa fd tl)  : FnOk P w K mg base CX0 1 (fa 32) (fd 32) ["_law_tub", "_law_under"] (sp32 Z K) := by
  refine T.F32.ok sc32 (fun vs H Q E h => len32 h) (fun cdv A outer s0 H vs Q E hr h => ?_)
  refine ⟨_, (pss_cons (ps_if (pt_cmpR op_gt (pe_ix (kx_list K) (pv 0) pe_int (fun _ _ => rfl)) pe_int (nomark _)) (pss_cons (ps_set (i := 2) nd32 rfl (Or.inl rfl) (pe_op op_modN (pe_callTy kc_int1 (by rfl) T.m_int bt_int (pa_cons (pe_ix (kx_list K) (pv 0) pe_int (fun _ _ => rfl)) pa_nil)) (pv 1)))
  (pss_cons (ps_asg (pe_op op_fdivN (pe_ix (kx_list K) (pv 0) pe_int (fun _ _ => rfl)) (pv 1)) (pg_sub (pv 0) pe_int set_list))
  (pss_one (ps_ret (pv 2))))) pss_nil)
  (pss_cons (ps_asg (pe_op op_add (pe_ix (kx_list K) (pv 0) pe_int (fun _ _ => rfl)) pe_int) (pg_sub (pv 0) pe_int set_list))
  (pss_cons (ps_set (i := 3) nd32 rfl (Or.inl rfl) (pe_op op_modN (pe_callTy kc_int1 (by rfl) T.m_int bt_int (pa_cons (pe_op op_mul (pe_op op_add (pe_ix (kx_list K) (pv 0) pe_int (fun _ _ => rfl)) (pe_op op_mul pe_int (pe_ix (kx_list K) (pv 0) pe_int (fun _ _ => rfl)))) (pe_op op_add pe_int (pe_ix (kx_list K) (pv 0) pe_int (fun _ _ => rfl)))) pa_nil)) pe_int))
  (pss_cons (ps_set (i := 4) nd32 rfl (Or.inl rfl) (pe_op op_add (pe_op op_modN (pe_callTy kc_int1 (by rfl) T.m_int bt_int (pa_cons (pv 3) pa_nil)) pe_int) pe_int))
  (pss_cons (ps_set (i := 5) nd32 rfl (Or.inl rfl) (pe_op op_modN (pe_callTy kc_int1 (by rfl) T.m_int bt_int (pa_cons (pe_op op_mul (pe_op op_add (pe_op op_add (pv 3) (pe_ix (kx_list K) (pv 0) pe_int (fun _ _ => rfl))) (pe_op op_fdivN (pe_ix (kx_list K) (pv 0) pe_int (fun _ _ => rfl)) pe_int)) (pv 4)) pa_nil)) pe_int))
  (pss_one (ps_ret (pe_op op_modN (pe_callTy kc_int1 (by rfl) T.m_int bt_int (pa_cons (pe_op op_fdivN (pe_op op_modN (pe_callTy kc_int1 (by rfl) T.m_int bt_int (pa_cons (pe_op op_add (pe_op op_mul (pv 5) pe_int) (pv 3)) pa_nil)) pe_int) pe_int) pa_nil)) (pv 1))))))))), ?_⟩
  obtain ⟨F, N, t, u, rfl, b, hN, u0, u1, q⟩ := h
  obtain ⟨l, hl, a, bb, c, rfl, hc⟩ := b.at_
  have hx : ∀ {σ : St} {F1 : Hp} {a b c : Int} {j : Nat} {x : Int}, σ[0]? = some (some (V.ref t)) → F1 t = some (.lst [.int a, .int b, .int c]) → [PyData.int a, .int b, .int c][j]? = some (.int x) → Ev Z (tOp (rIxL K) (tVar 0) (tC (.int (j : Nat)))) σ F1 (.int x) := fun h1 h2 h3 =>
    (ed_ixL (K := K) (ed_var h1 (Dp.lst (.inl (.inl h2)) (.cons (.int _) (.cons (.int _) (.cons (.int _) .nil))))) ev_c h3).int
  have s0 := b.sub.hold hl
  refine q_when (b := decide (0 < a)) (et_test (ev_i0 (g := fun i j => .bl (decide (j < i))) (hx (j := 0) rfl upd_same rfl) ev_c)) s0 (fun e H1 e1 s1 => ?_) fun e H1 e1 s1 => ?_
  · refine q_asgV (ev_iC (g := fun i j => .int (i.fmod j)) (ev_int1 (hx (j := 0) rfl upd_same rfl)) (ev_var rfl) (by show ((u : Nat) : Int) ≠ 0; omega)) s1 fun H2 e2 s2 => ?_
    refine q_store (i := 0) (j := 0) (ev_iC (g := fun i j => .int (i.fdiv j)) (hx (j := 0) rfl upd_same rfl) (ev_var rfl) ⟨by omega, by omega⟩) s2 rfl upd_same (by simp) fun H3 e3 => ?_
    obtain ⟨r, hr2, er⟩ := mod_nat a u0
    rw [er]
    have g : GoM Z t (N + 1) F H F (upd H3 t (.lst [.int (a.fdiv (u : Nat)), .int bb, .int (c : Nat)])) := GoM.store b ((e1.trans e2).trans e3) ⟨_, _, c, rfl, by omega⟩
    exact s_retV (ev_var (i := 2) rfl) g.sub fun H4 e4 s4 => q r H4 hr2 (g.on (Go.ext g.sub e4))
  · refine q_store (i := 0) (j := 2) (ev_i0 (g := fun i j => .int (i + j)) (hx (j := 2) rfl upd_same rfl) ev_c) s1 rfl upd_same (by simp) fun H2 e2 => ?_
    have g : GoM Z t (N + 1) F H F (upd H2 t (.lst [.int a, .int bb, .int ((c + 1 : Nat) : Int)])) := GoM.store b (e1.trans e2) ⟨_, _, c + 1, rfl, by omega⟩
    have s2 := g.sub.hold (l := [.int a, .int bb, .int ((c + 1 : Nat) : Int)]) upd_same
    refine q_asgV (ev_iC (g := fun i j => .int (i.fmod j)) (ev_int1 (ev_iC (C := CMul) (g := fun i j => .int (i * j)) (ev_i0 (g := fun i j => .int (i + j)) (hx (j := 1) rfl upd_same rfl) (ev_iC (C := CMul) (g := fun i j => .int (i * j)) ev_c (hx (j := 2) rfl upd_same rfl) (.inl (by decide)))) (ev_i0 (g := fun i j => .int (i + j)) ev_c (hx (j := 2) rfl upd_same rfl)) (.inr (by omega)))) ev_c (by decide)) s2 fun H3 e3 s3 => ?_
    refine q_asgV (ev_i0 (g := fun i j => .int (i + j)) (ev_iC (g := fun i j => .int (i.fmod j)) (ev_int1 (ev_var rfl)) (ev_c (x := .int ((40009 : Nat) : Int))) (by decide)) ev_c) s3 fun H4 e4 s4 => ?_
    refine q_asgV (ev_iC (g := fun i j => .int (i.fmod j)) (ev_int1 (ev_iC (C := CMul) (g := fun i j => .int (i * j)) (ev_i0 (g := fun i j => .int (i + j)) (ev_i0 (g := fun i j => .int (i + j)) (ev_var rfl) (hx (j := 2) rfl upd_same rfl)) (ev_iC (g := fun i j => .int (i.fdiv j)) (hx (j := 1) rfl upd_same rfl) ev_c ⟨by decide, by decide⟩)) (ev_var rfl) (.inr ?_))) ev_c (by decide)) s4 fun H5 e5 s5 => ?_
    · obtain ⟨r, hr2, er⟩ := mod_nat _ (show 0 < 40009 by decide)
      rw [er]
      omega
    refine s_retV (ev_iC (g := fun i j => .int (i.fmod j)) (ev_int1 (ev_iC (g := fun i j => .int (i.fdiv j)) (ev_iC (g := fun i j => .int (i.fmod j)) (ev_int1 (ev_i0 (g := fun i j => .int (i + j)) (ev_iC (C := CMul) (g := fun i j => .int (i * j)) (ev_var rfl) ev_c (.inr (by decide))) (ev_var rfl))) ev_c (by decide)) ev_c ⟨by decide, by decide⟩)) (ev_var rfl) (by show ((u : Nat) : Int) ≠ 0; omega)) s5 fun H6 e6 s6 => ?_
    obtain ⟨r, hr2, er⟩ := mod_nat _ u0
    rw [er]
    exact q r H6 hr2 (g.on (Go.ext g.sub (((e3.trans e4).trans e5).trans e6)))
end
section
variable {Z : List NTab} {K : PySem.W.Frag} {σ : St} {F H : Hp} {te : TE} {t : Addr} {N u i : Nat} {E : XK}
theorem em_take (hi : σ[i]? = some (some (.ref t))) (hu : Ev Z te σ F (.int (u : Nat))) (hN : N < 1000000) (u0 : 0 < u) (u1 : u < 1000000) : Em Z t (tCall (sp32 Z K) [] E (tCons (tVar i) (tCons te tNil))) σ 1 N F (fun v _ => ∃ r : Nat, r < u ∧ v = .int (r : Nat)) := fun H b Q q =>
  ⟨.ref t, hi, hu H b.sub _ fun H1 e1 => ⟨F, N, t, u, rfl, b.go (Go.ext b.sub e1), hN, u0, u1, fun r H2 h g => q _ F H2 (g.pre b (Go.ext b.sub e1)) ⟨r, h, rfl⟩⟩⟩
end
/-! ### _law_of -/
def sp34 (Z : List NTab) (K : PySem.W.Frag) : Sp := fun vs H Q _ => ∃ F N t w ds, vs = [.ref t, w] ∧ Tb Z t N F H ∧ N < 1000000 ∧ Dp K F w (.list ds) ∧ 0 < ds.length ∧ ds.length < 1000000 ∧ ∀ d v F' H', d ∈ ds → GoM Z t (N + 1) F H F' H' → Dp K F' v d → Q v H'
theorem len34 {Z : List NTab} {K : PySem.W.Frag} {vs : List V} {H : Hp} {Q : VK} {E : XK} (h : sp34 Z K vs H Q E) : vs.length = 2 := by
  obtain ⟨F, N, t, u, ds, rfl, _⟩ := h
  rfl
section
variable {P : Program} {w : World} {K : PySem.W.Frag} {mg : Str → Option Value} {base : Heap} {fa : Nat → Addr} {fd : Nat → FuncData} {tl : Nat → Tok} {Z : List NTab}
theorem ok34 (T : Top K mg fa fd tl) (G32 : FnOk P w K mg base CX0 1 (fa 32) (fd 32) ["_law_tub", "_law_under"] (sp32 Z K)) : FnOk P w K mg base CX0 2 (fa 34) (fd 34) ["_law_tub", "_law_few_so"] (sp34 Z K) := by
  refine T.F34.ok sc34 (fun vs H Q E h => len34 h) (fun cdv A outer s0 H vs Q E hr h => ?_)
  refine ⟨_, (pss_one (ps_ret (pe_ix (kx_list K) (pv 1) (pe_call G32 (hr.mono (by decide)) (by rfl) T.g32 T.F32.kp T.b32 .nil pass0 (pa_cons (pv 0) (pa_cons (pe_callB (kc_len K) (by rfl) T.m_len bt_len (pa_cons (pv 1) pa_nil)) pa_nil))) (fun _ _ => rfl)))), ?_⟩
  obtain ⟨F, N, t, w, ds, rfl, b, hN, p, h0, h1, q⟩ := h
  refine s_retM (P := fun v F' => ∃ d ∈ ds, Dp K F' v d) (k := 1) (fun H b Q q => ?_) b fun v F' H' g ⟨d, hd, z⟩ => q d v F' H' hd g z
  refine ⟨w, rfl, em_take (K := K) (u := ds.length) (E := E0) rfl (ev_lenL (K := K) (ed_var (i := 1) rfl p)) hN h0 h1 H b _ fun v F1 H1 g ⟨r, hr2, e⟩ => ?_⟩
  subst e
  obtain ⟨a, xs, rfl, hs, hx⟩ := dp_lst (dp_mono g.ff p)
  obtain ⟨d, hd⟩ := get_of_lt hr2
  obtain ⟨x, e1, e2⟩ := dpa_get hx hd
  exact ⟨a, xs, _, x, rfl, rfl, same_l g.sub.same hs, atI_nat e1, q x F1 H1 g ⟨d, mem_of_get hd, e2⟩⟩
end
section
variable {Z : List NTab} {K : PySem.W.Frag} {σ : St} {F H : Hp} {te : TE} {t : Addr} {N i : Nat} {E : XK} {ds : List PyData}
theorem em_of (hi : σ[i]? = some (some (.ref t))) (hu : Ed Z K te σ F (.list ds)) (hN : N < 1000000) (u0 : 0 < ds.length) (u1 : ds.length < 1000000) : Em Z t (tCall (sp34 Z K) [] E (tCons (tVar i) (tCons te tNil))) σ 1 N F (fun v F' => ∃ d ∈ ds, Dp K F' v d) := fun H b Q q =>
  ⟨.ref t, hi, hu H b.sub _ fun v F1 H1 g1 p => ⟨F1, N, t, v, ds, rfl, b.go g1, hN, p, u0, u1, fun d v2 F2 H2 h g z => q _ F2 H2 (g.pre b g1) ⟨d, h, z⟩⟩⟩
end
end K21

/-! Drawing from lists. Promises 35, 40. -/
namespace K21
open PySem PySem.Spec PyProof.Rows L2 RZ
open NdefX (NTab TabsN TabN)
def rMin2 : List V → Hp → VK → Prop := fun xs H Q => ∃ i j, xs = [.int i, .int j] ∧ Q (.int (if j < i then j else i)) H
theorem kc_min2 {X : Cx} (hc : X.calm = true) : CallR X (.builtin "min") rMin2 := call_min2 hc
theorem dpa_erase {K : PySem.W.Frag} {F : Hp} : ∀ {vs : List V} {ds : List PyData} (k : Nat), DpAll K F vs ds → DpAll K F (vs.eraseIdx k) (ds.eraseIdx k)
  | _, _, _, .nil => .nil
  | _, _, 0, .cons _ t => t
  | _, _, k + 1, .cons h t => .cons h (dpa_erase k t)
theorem cat_perm {α : Type} {ys xs ds : List α} {k : Nat} {d : α} (h : xs[k]? = some d) (p : (ys ++ xs).Perm ds) : ((ys ++ [d]) ++ xs.eraseIdx k).Perm ds := by
  refine List.Perm.trans ?_ p
  rw [List.append_assoc]
  refine List.Perm.append_left ys ?_
  obtain ⟨hk, e⟩ := List.getElem?_eq_some_iff.mp h
  subst e
  rw [List.eraseIdx_eq_take_drop_succ]
  have e2 : xs = xs.take k ++ (xs[k] :: xs.drop (k + 1)) := by
    rw [← List.drop_eq_getElem_cons hk, List.take_append_drop]
  conv => rhs; rw [e2]
  exact (List.perm_middle (a := xs[k]) (l₁ := xs.take k) (l₂ := xs.drop (k + 1))).symm
section
variable {Z : List NTab} {K : PySem.W.Frag} {σ : St} {F F' H : Hp} {te tl : TE} {tt : TT} {t : Addr} {N : Nat} {D : Ends} {g : TG} {tb : TS} {wi : TI} {P : Sh} {x : V}
theorem es_c (p : P x F) : Es Z (tC x) σ F P := fun H s Q q => q x F H (Go.refl s) p
/-- for _ in range(n), n read where more is frozen -/
theorem s_rng {n : Nat} (h : Ev Z te σ F' (.int (n : Nat))) (s' : Sub Z F' H) (s : Sub Z F H) (hn : n ≤ 100000) (Iv : Nat → St → Hp → Hp → Prop)
    (h0 : ∀ F1 H1, Go Z F H F1 H1 → Iv 0 σ F1 H1)
    (turn : ∀ i σ1 F1 H1 F2 H2, i < n → Sub Z F1 H1 → Iv i σ1 F1 H1 → Go Z F1 H1 F2 H2 →
      g (.int (i : Nat)) σ1 H2 fun σ2 H3 => tb { D with nx := fun σ4 H4 => ∃ F4, Same F1 F4 ∧ Sub Z F4 H4 ∧ Iv (i + 1) σ4 F4 H4, ct := fun σ4 H4 => ∃ F4, Same F1 F4 ∧ Sub Z F4 H4 ∧ Iv (i + 1) σ4 F4 H4, bk := D.nx } σ2 H3)
    (done : ∀ σ1 F1 H1, Sub Z F1 H1 → Iv n σ1 F1 H1 → D.nx σ1 H1) : tFor (iRng1 (tCons te tNil)) g tb D σ H := by
  refine h H s' _ fun H1 e1 => ?_
  have z := s_for (D := D) (g := g) (tb := tb) (iw_rng1 (Z := Z) (σ := σ) (F := F) (te := tC (.int (n : Nat))) ev_c hn) (s.up e1) Iv (fun F2 H2 g2 => h0 F2 H2 ((Go.ext s e1).trans g2)) (fun i l σ1 F1 H1 x F2 H2 hi s iv g t => by
    have hl : i < n := by have := lt_of_get hi; rwa [List.length_range] at this
    rw [List.getElem?_range hl] at hi
    cases hi
    subst t
    exact turn i σ1 F1 H1 F2 H2 hl s iv g) (fun σ1 F1 H1 s iv => done σ1 F1 H1 s (by rwa [List.length_range] at iv))
  exact z
/-- a comprehension whose test draws -/
theorem em_lcM {α : Type} {ls : List α} {T : α → Sh} {j : Nat} (dv : α → PyData) (hT : ∀ l v F, T l v F → Dp K F v (dv l)) (hw : IW Z wi σ F ls T) (hz : ls.length ≤ 50000)
    (hv : ∀ x, wipe ((wipe σ [j]).set j (some x)) [j] = wipe σ [j]) (hj : ∀ x, ((wipe σ [j]).set j (some x))[j]? = some (some x))
    (test : ∀ l x F1 N' H1, l ∈ ls → Same F F1 → T l x F1 → N' < N + ls.length → Tb Z t N' F1 H1 → ∀ Q : Bool → Hp → Prop, (∀ b F2 H2, GoM Z t (N' + 1) F1 H1 F2 H2 → Q b H2) → tt ((wipe σ [j]).set j (some x)) H1 Q)
    (b : Tb Z t N F H) (Q : VK) (q : ∀ p xs (ls' : List α) F' H', ls'.Sublist ls → GoM Z t (N + ls.length) F H F' H' → H p = none → F' p = none → p ≠ t → H' p = some (.lst xs) → DpAll K F' xs (ls'.map dv) → Q (.ref p) H') :
    tLc wi (gName j) tt (tVar j) [j] σ H Q :=
  hw H b.sub _ fun J F1 H1 g1 ⟨G, Y, w, hG, hY⟩ => fun D hD => by
    have b1 := b.go g1
    have Dt : D ≠ t := by
      obtain ⟨l, hl, _⟩ := b1.at_
      exact (ne_of_none hl hD).symm
    refine lc_it w (fun i H' => ∃ F' xs, ∃ ls' : List α, ls'.Sublist (ls.take i) ∧ GoM Z t (N + i) F1 H1 F' H' ∧ F' D = none ∧ H' D = some (.lst xs) ∧ DpAll K F' xs (ls'.map dv))
      ⟨F1, [], [], List.nil_sublist _, GoM.of b1 (Go.ext b1.sub (ext_new hD)), b1.sub.free hD, upd_same, .nil⟩ (fun i H' _ ⟨F', xs, ls', _, g, _⟩ => hG H' (g.ff.trans g.sub.same)) (fun i x H2 H3 hi ⟨F', xs, ls', sl, a, f1, d1, p1⟩ y => ?_) fun H' ⟨F', xs, ls', sl, a, f1, d1, p1⟩ => ?_
    · obtain ⟨l, hl⟩ := get_of_lt hi
      obtain ⟨F3, b3, t3⟩ := hY i l x F' H2 H3 hl a.ff a.sub y
      have a3 := a.on b3
      refine ⟨hv x, test l x F3 (N + i) H3 (mem_of_get hl) (g1.ff.trans a3.ff) t3 (by omega) (a3.tb b1.fr) _ fun bb F4 H4 g4 => ?_⟩
      have a4 := a3.trans b1.fr g4
      have d4 := g4.lst (b3.hh.lst d1) Dt
      have f4 := g4.none_of (b3.hh.lst d1) (b3.none_of d1 f1)
      have s4 := b3.ff.trans g4.ff
      cases bb with
      | true =>
        refine iteT ⟨x, hj x, xs, d4, line_lt ?_, F4, xs ++ [x], ls' ++ [l], by rw [take_more hl]; exact sl.append (List.Sublist.refl _), a4.mut Dt hD f4 d4, f4, upd_same, ?_⟩
        · have h1 := sl.length_le
          rw [dpa_length p1, List.length_map]
          rw [List.length_take] at h1
          omega
        · rw [List.map_append]
          exact dpa_snoc (dpa_mono s4 p1) (dp_mono g4.ff (hT _ _ _ t3))
      | false => exact iteF ⟨F4, xs, ls', by rw [take_more hl]; exact sl.trans (List.sublist_append_left _ _), a4, f4, d4, dpa_mono s4 p1⟩
    · rw [List.take_length] at sl
      exact q D xs ls' F' H' sl (GoM.pre b g1 a) (g1.back hD) f1 Dt d1 p1
end
/-! ### _law_pick -/
def sp35 (Z : List NTab) (K : PySem.W.Frag) : Sp := fun vs H Q _ => ∃ F N t w, ∃ m : Nat, ∃ ds, vs = [.ref t, w, .int (m : Nat)] ∧ Tb Z t N F H ∧ N + m < 1000000 ∧ Dp K F w (.list ds) ∧ ds.length ≤ 50000 ∧
  ∀ ys rest v F' H', (ys ++ rest).Perm ds → ys.length = min m ds.length → GoM Z t (N + m) F H F' H' → Dp K F' v (.list ys) → Q v H'
theorem len35 {Z : List NTab} {K : PySem.W.Frag} {vs : List V} {H : Hp} {Q : VK} {E : XK} (h : sp35 Z K vs H Q E) : vs.length = 3 := by
  obtain ⟨F, N, t, u, m, ds, rfl, _⟩ := h
  rfl
section
variable {P : Program} {w : World} {K : PySem.W.Frag} {mg : Str → Option Value} {base : Heap} {fa : Nat → Addr} {fd : Nat → FuncData} {tl : Nat → Tok} {Z : List NTab}
theorem ok35 (T : Top K mg fa fd tl) (G32 : FnOk P w K mg base CX0 1 (fa 32) (fd 32) ["_law_tub", "_law_under"] (sp32 Z K)) : FnOk P w K mg base CX0 2 (fa 35) (fd 35) ["_law_tub", "_law_few_so", "_law_much_so"] (sp35 Z K) := by
  refine T.F35.ok sc35 (fun vs H Q E h => len35 h) (fun cdv A outer s0 H vs Q E hr h => ?_)
  refine ⟨_, (pss_cons (ps_par (i := 3) (j := 4) rfl nd35 rfl rfl (by decide) rfl rfl (pa_cons (pe_callTy (kc_listOf K) (by rfl) T.m_list bt_list (pa_cons (pv 1) pa_nil)) (pa_cons (pe_lst pa_nil) pa_nil)) (by rfl))
  (pss_cons (ps_for PassesOwn.never rfl (pi_range1 (by rfl) T.m_range (pa_cons (pe_callB (call_min2 rfl) (by rfl) T.m_min bt_min (pa_cons (pv 2) (pa_cons (pe_callB (kc_len K) (by rfl) T.m_len bt_len (pa_cons (pv 3) pa_nil)) pa_nil))) pa_nil)) (pg_name (i := 5) nd35 rfl (Or.inl rfl)) (pss_one (ps_expr (ke_bm K (by rfl) PySem.F.plainAttrs_list PySem.F.slot_list_append PySem.F.type_list_append mt_append (pv 4) (pa_cons (ke_bm K (by rfl) PySem.F.plainAttrs_list PySem.F.slot_list_pop PySem.F.type_list_pop mt_popAt (pv 3) (pa_cons (pe_call G32 (hr.mono (by decide)) (by rfl) T.g32 T.F32.kp T.b32 .nil pass0 (pa_cons (pv 0) (pa_cons (pe_callB (kc_len K) (by rfl) T.m_len bt_len (pa_cons (pv 3) pa_nil)) pa_nil))) pa_nil)) pa_nil)))))
  (pss_one (ps_ret (pv 4))))), ?_⟩
  obtain ⟨F, N, t, w, m, ds, rfl, b, hN, p, few, q⟩ := h
  have hd : Ed Z K (tVar 1) (L2.start ["_law_tub", "_law_few_so", "_law_much_so", "_law_left", "_law_found", "_law_turn"] [.ref t, w, .int (m : Nat)]) F (.list ds) := ed_var rfl p
  refine el_listOf hd (.inl rfl) H b.sub _ fun L xs F1 H1 g1 L0 Lf hL px => ?_
  refine el_lst (K := K) (ds := []) ead_nil (by decide) H1 g1.sub _ fun D ys F2 H2 g2 D0 Df hD py => ⟨.ref L, .ref D, rfl, ?_⟩
  have g12 := g1.trans g2
  have D00 : H D = none := g1.back D0
  have Lt : L ≠ t := by
    obtain ⟨l, hl, _⟩ := b.at_
    exact (ne_of_none hl L0).symm
  have Dt : D ≠ t := by
    obtain ⟨l, hl, _⟩ := b.at_
    exact (ne_of_none hl D00).symm
  have LD : L ≠ D := ne_of_none hL D0
  have hL2 := g2.hh.lst hL
  have Lf2 := g2.none_of hL Lf
  have s2 := g12.sub.hold hL2
  have hn : Ev Z (tCB rMin2 (tCons (tVar 2) (tCons (tCB (rSize K) (tCons (tVar 3) tNil)) tNil))) [some (.ref t), some w, some (.int (m : Nat)), some (.ref L), some (.ref D), none] (upd F2 L (.lst xs)) (.int ((min m ds.length : Nat) : Int)) := fun H s Q q => by
    refine ⟨.int (m : Nat), rfl, ev_lenL (K := K) (ed_var (i := 3) rfl (.lst (.inl (.inl upd_same)) (dpa_mono ((g2.ff).trans (same_new (p := L) (H := F2) Lf2)) px))) H s _ fun H1 e1 => ⟨_, _, rfl, ?_⟩⟩
    have e : (if ((ds.length : Nat) : Int) < ((m : Nat) : Int) then ((ds.length : Nat) : Int) else ((m : Nat) : Int)) = ((min m ds.length : Nat) : Int) := by split <;> omega
    rw [e]
    exact q H1 e1
  refine s_rng hn s2 g12.sub (by omega) (fun i σ1 F1 H1 => ∃ y xs zs es ys, σ1 = [some (.ref t), some w, some (.int (m : Nat)), some (.ref L), some (.ref D), y] ∧ GoM Z t (N + i) F H F1 H1 ∧ H1 L = some (.lst xs) ∧ F1 L = none ∧ H1 D = some (.lst zs) ∧ F1 D = none ∧ DpAll K F1 xs es ∧ DpAll K F1 zs ys ∧ (ys ++ es).Perm ds ∧ ys.length = i)
    (fun F3 H3 g3 => ⟨none, xs, ys, ds, [], rfl, GoM.of b (g12.trans g3), g3.hh.lst hL2, g3.none_of hL2 Lf2, g3.hh.lst hD, g3.none_of hD Df, dpa_mono (g2.ff.trans g3.ff) px, dpa_mono g3.ff py, List.Perm.refl _, rfl⟩) ?_ ?_
  · rintro i σ1 F3 H3 F4 H4 hi s3 ⟨y, xs, zs, es, ys, rfl, g, hL, Lf, hD, Df, px, py, pm, hy⟩ g4
    have hL4 := g4.hh.lst hL
    have hD4 := g4.hh.lst hD
    have Lf4 := g4.none_of hL Lf
    have Df4 := g4.none_of hD Df
    have gA := g.on g4
    have el : es.length = ds.length - i := by
      have := pm.length_eq
      rw [List.length_append] at this
      omega
    have xl : xs.length = es.length := dpa_length px
    refine ⟨.ref D, rfl, .inl ⟨rfl, _, .inl (.inl hD4)⟩, .ref L, rfl, .inl ⟨rfl, _, .inl (.inl hL4)⟩, .ref t, rfl, .ref L, rfl, .ref L, xs.length, rfl, .inl ⟨xs, .inl (.inl hL4), rfl⟩, F4, N + i, t, xs.length, rfl, gA.tb b.fr, by omega, by omega, by omega, fun r H5 hr g5 => ?_⟩
    have hL5 := g5.lst hL4 Lt
    have hD5 := g5.lst hD4 Dt
    obtain ⟨x, hx⟩ := get_of_lt hr
    obtain ⟨d, hd, pd⟩ := dpa_get' (dpa_mono g4.ff px) hx
    refine ⟨L, xs, (r : Nat), r, x, rfl, rfl, hL5, by omega, by omega, ?_, hx, D, zs, x, rfl, rfl, by rw [upd_ne LD.symm]; exact hD5, ?_, ?_⟩
    · rw [seqIndex_at (by omega) (by omega), Int.toNat_natCast]
    · refine line_lt ?_
      rw [dpa_length py]
      omega
    · have gB := gA.trans b.fr g5
      have gC := gB.mut Lt L0 Lf4 hL5 (ys := xs.eraseIdx r)
      have gD := gC.mut Dt D00 Df4 (xs := zs) (by rw [upd_ne LD.symm]; exact hD5) (ys := zs ++ [x])
      refine ⟨F4, g4.ff, gD.sub, _, xs.eraseIdx r, zs ++ [x], es.eraseIdx r, ys ++ [d], rfl, gD, by rw [upd_ne LD]; exact upd_same, Lf4, upd_same, Df4, dpa_erase r (dpa_mono g4.ff px), dpa_snoc (dpa_mono g4.ff py) pd, cat_perm hd pm, ?_⟩
      rw [List.length_append, hy]
      rfl
  · rintro σ1 F3 H3 s3 ⟨y, xs, zs, es, ys, rfl, g, hL, Lf, hD, Df, px, py, pm, hy⟩
    refine ⟨.ref D, rfl, q ys es (.ref D) (upd F3 D (.lst zs)) H3 pm hy ((g.more ?_).freeze Dt D00 hD) (.lst (.inl (.inl upd_same)) (dpa_mono (same_new Df) py))⟩
    omega
end
/-! ### _law_inside -/
def sp40 (Z : List NTab) (K : PySem.W.Frag) : Sp := spD Z K fun ds r => ∃ a b : List Str, ds = [namesD a, namesD b] ∧ a.length ≤ 1000 ∧ GoodS a ∧ r = .bool (a.all fun x => decide (x ∈ b))
theorem len40 {Z : List NTab} {K : PySem.W.Frag} {vs : List V} {H : Hp} {Q : VK} {E : XK} (h : sp40 Z K vs H Q E) : vs.length = 2 := spD_len (n := 2) (by rintro _ _ ⟨a, b, rfl, _⟩; rfl) h
section
variable {P : Program} {w : World} {K : PySem.W.Frag} {mg : Str → Option Value} {base : Heap} {fa : Nat → Addr} {fd : Nat → FuncData} {tl : Nat → Tok} {Z : List NTab}
theorem ok40 (T : Top K mg fa fd tl)  : FnOk P w K mg base CX0 1 (fa 40) (fd 40) ["_law_some_so", "_law_lot_so"] (sp40 Z K) := by
  refine T.F40.ok sc40 (fun vs H Q E h => len40 h) (fun cdv A outer s0 H vs Q E hr h => ?_)
  refine ⟨_, (pss_one (ps_ret (pe_cmpR (ko_eqD K (by rfl) hr.units) (pe_lc (own := [("_law_tag", 2)]) rfl nd40 (ki_tup K (by rfl) (pv 0)) (blkOk_by (N := ["_law_some_so", "_law_lot_so", "_law_tag"]) (sc := (defScope s40)) (own := [("_law_tag", 2)]) (by decide +kernel)) (fun _ _ _ _ _ => (pg_name (i := 2) nd40 rfl (Or.inl rfl))) (fun _ _ _ _ _ => (pts_one (pt_cmpR (ko_notIn K) (pv 2) (pv 1) (by rfl)))) (fun _ _ _ _ _ => (pv 2))) (pe_lst pa_nil) (nomark _)))), ?_⟩
  obtain ⟨F, _, _, s, pd, ⟨a, c, rfl, few, ga, rfl⟩, q⟩ := h
  obtain ⟨v, u, rfl, p, p2⟩ := dpa2 pd
  have hl := El.ed (el_filter (K := K) (Z := Z) (F := F) (σ := L2.start ["_law_some_so", "_law_lot_so", "_law_tag"] [v, u]) (j := 2) (vs := [2]) (wi := iTup K (tVar 0)) (te := tVar 2) (tt := tTest (tOp (rIn K true) (tVar 2) (tVar 1))) (fun x : Str => !decide (x ∈ c)) (fun x => .str x) (IW.of_map (iw_tup (ed_var (i := 0) rfl p))) (by omega) (fun _ => rfl) (fun x y F1 hx e t => by
    rw [dp_str t]
    exact et_test (ev_notInT (ev_var rfl) (ed_var (i := 1) rfl (dp_mono e p2)))) fun x y F1 hx e t _ => ed_var rfl t)
  refine s_retV (ev_eqD hl (ed_lst ead_nil (by decide)) (shaped_strs fun x hx => ga x (List.mem_filter.mp hx).1) (shaped_strs (ss := []) fun x hx => absurd hx List.not_mem_nil)) s fun H1 e1 _ => q _ F H1 (Go.ext s e1) ?_
  have e : PyData.eqv (.list ((a.filter fun x => !decide (x ∈ c)).map .str)) (.list []) = a.all fun x => decide (x ∈ c) := by
    refine (eqv_strsL _ []).trans ?_
    rw [Bool.eq_iff_iff]
    simp
  rw [e]
  exact .bl _
end
end K21

/-! Drawing an order. Promise 39. -/
namespace K21
open PySem PySem.Spec PyProof.Rows L2 RZ
open NdefX (NTab TabsN TabN)
/-! ### plain facts -/
theorem nodup_sub_len {α : Type} [DecidableEq α] : ∀ {l m : List α}, l.Nodup → (∀ x ∈ l, x ∈ m) → l.length ≤ m.length
  | [], _, _, _ => Nat.zero_le _
  | x :: l, m, nd, h => by
    obtain ⟨n1, n2⟩ := List.nodup_cons.mp nd
    have hx := h x List.mem_cons_self
    have h2 := nodup_sub_len (m := m.erase x) n2 fun y hy => (List.mem_erase_of_ne (a := y) (b := x) fun e => n1 (by rw [← e]; exact hy)).mpr (h y (List.mem_cons_of_mem _ hy))
    rw [List.length_erase_of_mem hx] at h2
    have h3 := List.length_pos_of_mem hx
    rw [List.length_cons]
    omega
theorem nodup_sub_perm {α : Type} [DecidableEq α] : ∀ {l m : List α}, l.Nodup → (∀ x ∈ l, x ∈ m) → m.length ≤ l.length → l.Perm m
  | [], m, _, _, h => by
    have : m = [] := List.length_eq_zero_iff.mp (by simpa using h)
    subst this
    exact List.Perm.refl _
  | x :: l, m, nd, h, hl => by
    obtain ⟨n1, n2⟩ := List.nodup_cons.mp nd
    have hx := h x List.mem_cons_self
    have h3 := List.length_pos_of_mem hx
    have h2 := nodup_sub_perm (m := m.erase x) n2 (fun y hy => (List.mem_erase_of_ne (a := y) (b := x) fun e => n1 (by rw [← e]; exact hy)).mpr (h y (List.mem_cons_of_mem _ hy))) (by
      rw [List.length_erase_of_mem hx]
      rw [List.length_cons] at hl
      omega)
    exact (h2.cons x).trans (List.perm_cons_erase hx).symm
/-- a block that some order fits -/
structure Ready (B : Blk) : Prop where
  nd : B.names.Nodup
  few : B.rows.length ≤ 50
  rds : ∀ r ∈ B.rows, r.rd.length ≤ 50
  nms : ∀ r ∈ B.rows, isNameS r.nm = true
  sub : ∀ r ∈ B.rows, ∀ x ∈ r.rd, x ∈ B.names
  srt : Srt sle B.names
  line : ∃ l : List Str, ∀ r ∈ B.rows, ∀ x ∈ r.rd, idxS l x < idxS l r.nm
  lives : B.live.length ≤ 50
  liv : ∀ x ∈ B.live, x ∈ B.names
theorem Ready.good {B : Blk} (h : Ready B) : GoodS B.names := fun x hx => by
  obtain ⟨r, hr, rfl⟩ := List.mem_map.mp hx
  exact name_ok (h.nms r hr)
def Blk.freeR (B : Blk) (f : List Str) : List Row := B.rows.filter fun r => !decide (r.nm ∈ f) && r.rd.all fun x => decide (x ∈ f)
theorem free_ne {B : Blk} (h : Ready B) {f : List Str} (hf : f.length < B.rows.length) : B.freeR f ≠ [] := by
  obtain ⟨l, hl⟩ := h.line
  have key : ∀ n, ∀ r ∈ B.rows, r.nm ∉ f → idxS l r.nm = n → ∃ r', r' ∈ B.freeR f := by
    intro n
    induction n using Nat.strongRecOn with
    | ind n ih =>
      intro r hr hn e
      by_cases ha : r.rd.all (fun x => decide (x ∈ f)) = true
      · exact ⟨r, List.mem_filter.mpr ⟨hr, by rw [ha]; simp [hn]⟩⟩
      · rw [List.all_eq_true] at ha
        have : ∃ x ∈ r.rd, x ∉ f := by
          refine Classical.byContradiction fun c => ha fun x hx => decide_eq_true (Classical.byContradiction fun d => c ⟨x, hx, d⟩)
        obtain ⟨x, hx, hxf⟩ := this
        obtain ⟨r2, hr2, e2⟩ := List.mem_map.mp (h.sub r hr x hx)
        have h3 := hl r hr x hx
        exact ih _ (by rw [← e, e2]; exact h3) r2 hr2 (by rw [e2]; exact hxf) rfl
  have : ∃ r ∈ B.rows, r.nm ∉ f := by
    refine Classical.byContradiction fun c => ?_
    have h1 := nodup_sub_len h.nd (m := f) fun x hx => by
      obtain ⟨r, hr, rfl⟩ := List.mem_map.mp hx
      exact Classical.byContradiction fun d => c ⟨r, hr, d⟩
    rw [Blk.names, List.length_map] at h1
    omega
  obtain ⟨r, hr, hn⟩ := this
  obtain ⟨r', h'⟩ := key _ r hr hn rfl
  intro e
  rw [e] at h'
  cases h'
theorem reads_row {B : Blk} (nd : B.names.Nodup) {r : Row} (hr : r ∈ B.rows) : B.reads r.nm = r.rd := by
  unfold Blk.names at nd
  unfold Blk.reads
  generalize B.rows = rs at nd hr
  induction rs with
  | nil => cases hr
  | cons r2 rs ih =>
    rw [List.map_cons, List.nodup_cons] at nd
    rcases List.mem_cons.mp hr with rfl | hr
    · simp
    · have ne : r2.nm ≠ r.nm := fun e => nd.1 (e ▸ List.mem_map.mpr ⟨r, hr, rfl⟩)
      rw [List.find?_cons_of_neg (by simpa using ne)]
      exact ih nd.2 hr
/-- the first part of an order -/
structure Ord (B : Blk) (f : List Str) : Prop where
  nd : f.Nodup
  sub : ∀ x ∈ f, x ∈ B.names
  frw : (f.zipIdx.all fun p => (B.reads p.1).all fun own => decide (own ∈ f.take p.2)) = true
theorem Ord.more {B : Blk} (h : B.names.Nodup) {f : List Str} (o : Ord B f) {r : Row} (hr : r ∈ B.freeR f) : Ord B (f ++ [r.nm]) := by
  obtain ⟨h1, h2⟩ := List.mem_filter.mp hr
  rw [Bool.and_eq_true] at h2
  have hn : r.nm ∉ f := by simpa using h2.1
  refine ⟨?_, fun x hx => ?_, ?_⟩
  · rw [List.nodup_append]
    refine ⟨o.nd, List.pairwise_singleton _ _, fun a ha b hb e => hn ?_⟩
    rw [List.mem_singleton] at hb
    rw [← hb, ← e]
    exact ha
  · rcases List.mem_append.mp hx with hx | hx
    · exact o.sub x hx
    · rw [List.mem_singleton.mp hx]
      exact List.mem_map.mpr ⟨r, h1, rfl⟩
  · rw [List.zipIdx_append, List.all_append, Bool.and_eq_true]
    constructor
    · rw [List.all_eq_true]
      intro p hp
      have h3 := List.all_eq_true.mp o.frw p hp
      have h4 := (List.mem_zipIdx hp).2.1
      rw [List.take_append_of_le_length (by omega)]
      exact h3
    · rw [Nat.zero_add]
      show (((B.reads r.nm).all fun own => decide (own ∈ (f ++ [r.nm]).take f.length)) && true) = true
      rw [Bool.and_true, List.take_left' rfl, reads_row h h1]
      exact h2.2
theorem Ord.isOrder {B : Blk} (h : Ready B) {f : List Str} (o : Ord B f) (hl : f.length = B.rows.length) : B.isOrder f = true := by
  have pm : f.Perm B.names := nodup_sub_perm o.nd o.sub (by rw [Blk.names, List.length_map]; omega)
  unfold Blk.isOrder
  rw [o.frw, Bool.and_true, Bool.and_eq_true]
  refine ⟨List.all_eq_true.mpr fun x hx => ?_, decide_eq_true ?_⟩
  · obtain ⟨r, hr, rfl⟩ := List.mem_map.mp (o.sub x hx)
    exact h.nms r hr
  · exact (isort_one sle_total sle_anti pm).trans (isort_fix sle_total sle_anti h.srt)
/-! ### _law_order -/
def sp39 (Z : List NTab) (K : PySem.W.Frag) : Sp := fun vs H Q _ => ∃ F N t w B, vs = [.ref t, w] ∧ Tb Z t N F H ∧ Ready B ∧ N + 100 < 1000000 ∧ Dp K F w (blkD B) ∧
  ∀ o v F' H', o.length = B.rows.length → Ord B o → GoM Z t (N + 50) F H F' H' → Dp K F' v (namesD o) → Q v H'
theorem len39 {Z : List NTab} {K : PySem.W.Frag} {vs : List V} {H : Hp} {Q : VK} {E : XK} (h : sp39 Z K vs H Q E) : vs.length = 2 := by
  obtain ⟨F, N, t, u, B, rfl, _⟩ := h
  rfl
section
variable {P : Program} {w : World} {K : PySem.W.Frag} {mg : Str → Option Value} {base : Heap} {fa : Nat → Addr} {fd : Nat → FuncData} {tl : Nat → Tok} {Z : List NTab}
theorem ok39 (T : Top K mg fa fd tl) (G34 : FnOk P w K mg base CX0 2 (fa 34) (fd 34) ["_law_tub", "_law_few_so"] (sp34 Z K)) (G40 : FnOk P w K mg base CX0 1 (fa 40) (fd 40) ["_law_some_so", "_law_lot_so"] (sp40 Z K)) : FnOk P w K mg base CX0 3 (fa 39) (fd 39) ["_law_tub", "_law_block_so"] (sp39 Z K) := by
  refine T.F39.ok sc39 (fun vs H Q E h => len39 h) (fun cdv A outer s0 H vs Q E hr h => ?_)
  refine ⟨_, (pss_cons (ps_set (i := 2) nd39 rfl (Or.inr rfl) (pe_tup pa_nil))
  (pss_cons (ps_for PassesOwn.never rfl (pi_range1 (by rfl) T.m_range (pa_cons (pe_callB (kc_len K) (by rfl) T.m_len bt_len (pa_cons (pe_ix (kx_tup K) (pv 1) pe_int (fun _ _ => rfl)) pa_nil)) pa_nil)) (pg_name (i := 3) nd39 rfl (Or.inl rfl)) (pss_cons (ps_setLc (i := 4) (own := [("_law_own", 5)]) rfl nd39 rfl rfl (sw_true rfl rfl rfl (by decide +kernel)) (ki_tup K (by rfl) (pe_ix (kx_tup K) (pv 1) pe_int (fun _ _ => rfl))) (blkOk_by (N := ["_law_tub", "_law_block_so", "_law_found", "_law_turn", "_law_free_so", "_law_own"]) (sc := (defScope s39)) (own := [("_law_own", 5)]) (by decide +kernel)) (fun _ _ _ _ _ => (pg_name (i := 5) nd39 rfl (Or.inl rfl))) (fun _ _ _ _ _ => (pts_one (PW.pt (pw_and (pt_cmpR (ko_notIn K) (pe_ix (kx_tup K) (pv 5) pe_int (fun _ _ => rfl)) (pv 2) (by rfl)) (pw_and1 (pt_val (pe_call G40 (hr.mono (by decide)) (by rfl) T.g40 T.F40.kp T.b40 .nil pass0 (pa_cons (pe_ix (kx_tup K) (pv 5) pe_int (fun _ _ => rfl)) (pa_cons (pv 2) pa_nil))))))))) (fun _ _ _ _ _ => (pe_ix (kx_tup K) (pv 5) pe_int (fun _ _ => rfl))))
  (pss_one (ps_set (i := 2) nd39 rfl (Or.inr rfl) (pe_op (ko_catA K) (pv 2) (pe_tup (pa_cons (pe_call G34 (hr.mono (by decide)) (by rfl) T.g34 T.F34.kp T.b34 .nil pass0 (pa_cons (pv 0) (pa_cons (pv 4) pa_nil))) pa_nil)))))))
  (pss_one (ps_ret (pv 2))))), ?_⟩
  obtain ⟨F, N, t, w, B, rfl, b, hB, hN, p, q⟩ := h
  have few := hB.few
  have rows : ∀ {σ F1}, σ[1]? = some (some w) → Same F F1 → Ed Z K (tOp (rIxT K) (tVar 1) (tC (.int 0))) σ F1 (.tuple (B.rows.map rowD)) := fun h e => ed_ixT (j := 0) (ed_var h (dp_mono e p)) ev_c rfl
  refine q_asg (ed_tup (K := K) (ds := []) ead_nil (by decide)) b.sub fun fv F1 H1 g1 p1 => ?_
  have hn := ev_lenT (K := K) (Z := Z) (rows (σ := [some (.ref t), some w, some fv, none, none, none]) rfl g1.ff)
  rw [List.length_map] at hn
  refine s_rng hn g1.sub g1.sub (by omega) (fun i σ1 F2 H2 => ∃ fv y1 y2 f, σ1 = [some (.ref t), some w, some fv, y1, y2, none] ∧ GoM Z t (N + i) F H F2 H2 ∧ Dp K F2 fv (namesD f) ∧ f.length = i ∧ Ord B f)
    (fun F2 H2 g2 => ⟨fv, none, none, [], rfl, GoM.of b (g1.trans g2), dp_mono g2.ff p1, rfl, List.nodup_nil, fun x hx => absurd hx List.not_mem_nil, rfl⟩) ?_ ?_
  · rintro i σ1 F3 H3 F4 H4 hi s3 ⟨fv, y1, y2, f, rfl, g, pf, hf, o⟩ g4
    have gA := g.on g4
    have pf4 := dp_mono g4.ff pf
    have hfree := El.ed (el_filter (K := K) (Z := Z) (F := F4) (σ := [some (.ref t), some w, some fv, some (.int (i : Nat)), y2, none]) (j := 5) (vs := [5]) (wi := iTup K (tOp (rIxT K) (tVar 1) (tC (.int 0)))) (te := tOp (rIxT K) (tVar 5) (tC (.int 0)))
      (tt := tAnd (tTest (tOp (rIn K true) (tOp (rIxT K) (tVar 5) (tC (.int 0))) (tVar 2))) (tB (tCall (sp40 Z K) [] E0 (tCons (tOp (rIxT K) (tVar 5) (tC (.int 1))) (tCons (tVar 2) tNil)))))
      (fun r : Row => !decide (r.nm ∈ f) && r.rd.all fun x => decide (x ∈ f)) (fun r => .str r.nm) (IW.of_map (iw_tup (rows rfl gA.ff))) (by omega) (fun _ => rfl) (fun r y F5 hr e t => by
        have h1 := hB.rds r hr
        exact et_and (et_test (ev_notInT (ed_nm (ed_var rfl t)) (ed_var (i := 2) rfl (dp_mono e pf4)))) fun _ => et_B (ed_call (ead_cons (ed_rd (ed_var rfl t)) (ead_cons (ed_var rfl (dp_mono e pf4)) ead_nil)) ⟨r.rd, f, rfl, by omega, fun x hx => hB.good x (hB.sub r hr x hx), rfl⟩).bl) fun r y F5 hr e t _ => (ed_nm (ed_var rfl t)).str)
    refine q_asg hfree gA.sub fun lv F5 H5 g5 p5 => ?_
    have gB := gA.on g5
    have bB := gB.tb b.fr
    have hne := free_ne hB (f := f) (by omega)
    have hpos : 0 < ((B.freeR f).map fun r => PyData.str r.nm).length := by rw [List.length_map]; exact List.length_pos_iff.mpr hne
    have hle : ((B.freeR f).map fun r => PyData.str r.nm).length < 1000000 := by
      have := List.length_filter_le (fun r : Row => !decide (r.nm ∈ f) && r.rd.all fun x => decide (x ∈ f)) B.rows
      rw [List.length_map]
      unfold Blk.freeR
      omega
    refine ⟨fv, rfl, em_of (K := K) (ds := (B.freeR f).map fun r => PyData.str r.nm) (E := E0) (i := 0) rfl (ed_var (i := 4) rfl p5) (by omega) hpos hle H5 bB _ fun v F6 H6 g6 ⟨d, hd, pd⟩ => ?_⟩
    obtain ⟨r, hr2, rfl⟩ := List.mem_map.mp hd
    have gC := gB.trans b.fr g6
    have z : Ed Z K (tOp (rCatA K) (tC fv) (tTup (tCons (tC v) tNil))) [] F6 (.tuple (f.map .str ++ [.str r.nm])) := ed_catT (es_c (dp_mono (g5.ff.trans g6.ff) pf4)) (ed_tup (ead_cons (es_c pd) ead_nil) (by simp)) (by rw [List.length_map]; simp; omega)
    refine z H6 gC.sub _ fun v2 F7 H7 g7 p7 => ⟨F7, ((g4.ff.trans g5.ff).trans g6.ff).trans g7.ff, g7.sub, v2, _, _, f ++ [r.nm], rfl, gC.on g7, ?_, by rw [List.length_append, hf]; rfl, o.more hB.nd hr2⟩
    rw [namesD, List.map_append]
    exact p7
  · rintro σ1 F3 H3 s3 ⟨fv, y1, y2, f, rfl, g, pf, hf, o⟩
    exact ⟨fv, rfl, q f fv F3 H3 hf o (g.more (by omega)) pf⟩
end
end K21

/-! Drawing a block. Promise 38. -/
namespace K21
open PySem PySem.Spec PyProof.Rows L2 RZ
open NdefX (NTab TabsN TabN)
/-! ### sorting tuples of texts, rows -/
theorem alikeAll_strs : ∀ a b : List Str, PySem.W.alikeAll (a.map PyData.str) (b.map PyData.str) = true
  | [], _ => by simp [PySem.W.alikeAll]
  | _ :: _, [] => by simp [PySem.W.alikeAll]
  | x :: a, y :: b => by
    rw [List.map_cons, List.map_cons, PySem.W.alikeAll, alikeAll_strs a b]
    simp [PySem.W.alike]
theorem alike_names (ls : List (List Str)) : PySem.W.AllAlike (ls.map namesD) := PySem.W.AllAlike.of fun a b => by
  unfold namesD PySem.W.alike
  exact alikeAll_strs a b
theorem alike_rows (rs : List Row) : PySem.W.AllAlike (rs.map rowD) := PySem.W.AllAlike.of fun a b => by
  unfold rowD namesD
  simp [PySem.W.alike, PySem.W.alikeAll, alikeAll_strs]
theorem sort_lots {ls : List (List Str)} (h : ∀ l ∈ ls, l ≠ []) : SortsOk (ls.map namesD) := .inl (.inl fun d hd => by
  obtain ⟨l, hl, rfl⟩ := List.mem_map.mp hd
  cases l with
  | nil => exact absurd rfl (h [] hl)
  | cons x xs => exact ⟨_, _, rfl⟩)
theorem sort_sets (ls : List (List Str)) : SortsOk (([] :: ls).map namesD) := .inr ⟨ls.map namesD, rfl, fun d hd => by
  obtain ⟨l, hl, rfl⟩ := List.mem_map.mp hd
  exact ⟨_, rfl⟩⟩
theorem sort_rows (rs : List Row) : SortsOk (rs.map rowD) := .inl (PySem.W.Sortable.tuples fun b => ⟨_, _, rfl⟩)
theorem depth_names (l : List Str) : (namesD l).depth = 1 := by simp [namesD, PyData.depth, depth_all_strs]
theorem low_names (ls : List (List Str)) : Low (ls.map namesD) := fun d hd => by
  obtain ⟨l, hl, rfl⟩ := List.mem_map.mp hd
  rw [depth_names]
  omega
theorem low_rows (ls : List Row) : Low (ls.map rowD) := fun d hd => by
  obtain ⟨l, hl, rfl⟩ := List.mem_map.mp hd
  have h := depth_names l.rd
  simp only [rowD, PyData.depth, PyData.depthAll, h]
  omega
theorem el_sortT {Z : List NTab} {K : PySem.W.Frag} {σ : St} {F : Hp} {te : TE} {d : PyData} {ls : List (List Str)} (h : Ed Z K te σ F d) (hd : SeqOf d (ls.map namesD)) (hk : SortsOk (ls.map namesD)) : El Z (tCB (rSortD K) (tCons te tNil)) σ F fun xs F => DpAll K F xs ((sortT ls).map namesD) := by
  rw [← dsort_tups]
  exact el_sorted h hd (alike_names ls) hk (low_names ls)
theorem el_sortS {Z : List NTab} {K : PySem.W.Frag} {σ : St} {F : Hp} {te : TE} {d : PyData} {l : List Str} (h : Ed Z K te σ F d) (hd : SeqOf d (l.map .str)) : El Z (tCB (rSortD K) (tCons te tNil)) σ F fun xs F => DpAll K F xs ((sortS l).map .str) := by
  rw [← dsort_strs]
  exact el_sorted h hd (alike_strs l) (sortable_strs l) (low_strs l)
theorem IW.of_mapG {α β : Type} {Z : List NTab} {wi : TI} {σ : St} {F : Hp} {ls : List α} {f : α → β} {T : β → Sh} (h : IW Z wi σ F (ls.map f) T) : IW Z wi σ F ls fun l => T (f l) := fun H s R r =>
  h H s R fun J F1 H1 g t => r J F1 H1 g (by
    obtain ⟨G, Y, w, hG, hY⟩ := t
    exact ⟨G, Y, by rw [← List.length_map (f := f)]; exact w, hG, fun i l x F2 H2 H3 hi => hY i (f l) x F2 H2 H3 (by rw [List.getElem?_map, hi]; rfl)⟩)
/-! ### the drawn -/
def pool : List Str := ["a", "b", "c", "d", "ab", "load", "use", "zzzzzzzz", "x", "y"]
theorem pool_nd : pool.Nodup := by decide +kernel
theorem pool_nm : pool.all isNameS = true := by decide +kernel
theorem strs_of {ss : List Str} {ys rest : List PyData} (p : (ys ++ rest).Perm (ss.map .str)) : ∃ l rest' : List Str, ys = l.map .str ∧ (l ++ rest').Perm ss := by
  have key : ∀ {zs : List PyData}, (∀ z ∈ zs, z ∈ ss.map PyData.str) → zs = (zs.map strOf).map .str := fun {zs} h => by
    induction zs with
    | nil => rfl
    | cons z zs ih =>
      obtain ⟨x, _, e⟩ := List.mem_map.mp (h z List.mem_cons_self)
      rw [List.map_cons, List.map_cons, ← ih fun y hy => h y (List.mem_cons_of_mem _ hy), ← e]
      rfl
  refine ⟨ys.map strOf, rest.map strOf, key fun z hz => p.mem_iff.mp (List.mem_append_left _ hz), ?_⟩
  have h := p.map strOf
  rw [List.map_append, List.map_map] at h
  rwa [show (strOf ∘ PyData.str) = id from rfl, List.map_id] at h
theorem nodup_left {l r m : List Str} (p : (l ++ r).Perm m) (h : m.Nodup) : l.Nodup := (List.nodup_append.mp (p.nodup_iff.mpr h)).1
theorem idx_at : ∀ {l : List Str} {i : Nat} {x : Str}, l.Nodup → l[i]? = some x → idxS l x = i
  | [], _, _, _, h => by simp at h
  | y :: l, 0, x, _, h => by
    simp at h
    subst h
    unfold idxS
    rw [if_pos rfl]
  | y :: l, i + 1, x, nd, h => by
    rw [List.getElem?_cons_succ] at h
    obtain ⟨n1, n2⟩ := List.nodup_cons.mp nd
    unfold idxS
    rw [if_neg fun e => n1 (by rw [e]; exact mem_of_get h), idx_at n2 h]
theorem idx_take {l : List Str} {i : Nat} {x : Str} (nd : l.Nodup) (h : x ∈ l.take i) : idxS l x < i := by
  obtain ⟨j, hj⟩ := List.getElem?_of_mem h
  have hl := (List.getElem?_eq_some_iff.mp hj).1
  rw [List.length_take] at hl
  rw [List.getElem?_take, if_pos (by omega)] at hj
  rw [idx_at nd hj]
  omega
/-- rows drawn along a line -/
structure RowsOk (line : List Str) (i : Nat) (rs : List Row) : Prop where
  nms : rs.map Row.nm = line.take i
  rds : ∀ r ∈ rs, r.rd.length ≤ 10 ∧ ∀ x ∈ r.rd, x ∈ line ∧ idxS line x < idxS line r.nm
theorem ready_of {line : List Str} {rs rs' : List Row} {live : List Str} (nd : line.Nodup) (hp : ∀ x ∈ line, x ∈ pool) (few : line.length ≤ 10) (h : RowsOk line line.length rs) (p : rs'.Perm rs) (s : Srt sle (rs'.map Row.nm)) (hl : ∀ x ∈ live, x ∈ line) (hl2 : live.length ≤ line.length) : Ready ⟨rs', live⟩ := by
  have e : rs.map Row.nm = line := by rw [h.nms, List.take_length]
  have p2 : (rs'.map Row.nm).Perm line := e ▸ p.map Row.nm
  have hlen : rs'.length = line.length := by rw [← List.length_map (f := Row.nm), p2.length_eq]
  refine ⟨p2.nodup_iff.mpr nd, by show rs'.length ≤ 50; omega, fun r hr => ?_, fun r hr => ?_, fun r hr x hx => ?_, s, ⟨line, fun r hr x hx => ?_⟩, by show live.length ≤ 50; omega, fun x hx => p2.mem_iff.mpr (hl x hx)⟩
  · have := (h.rds r (p.mem_iff.mp hr)).1
    omega
  · exact List.all_eq_true.mp pool_nm _ (hp _ (p2.mem_iff.mp (List.mem_map.mpr ⟨r, hr, rfl⟩)))
  · exact p2.mem_iff.mpr ((h.rds r (p.mem_iff.mp hr)).2 x hx).1
  · exact ((h.rds r (p.mem_iff.mp hr)).2 x hx).2
/-! ### _law_block -/
def sp38 (Z : List NTab) (K : PySem.W.Frag) : Sp := fun vs H Q _ => ∃ F N t, ∃ m : Nat, vs = [.ref t, .int (m : Nat)] ∧ Tb Z t N F H ∧ m ≤ 10 ∧ N + 200 < 1000000 ∧
  ∀ B v F' H', Ready B → B.rows.length = m → GoM Z t (N + 200) F H F' H' → Dp K F' v (blkD B) → Q v H'
theorem len38 {Z : List NTab} {K : PySem.W.Frag} {vs : List V} {H : Hp} {Q : VK} {E : XK} (h : sp38 Z K vs H Q E) : vs.length = 2 := by
  obtain ⟨F, N, t, u, rfl, _⟩ := h
  rfl
section
variable {P : Program} {w : World} {K : PySem.W.Frag} {mg : Str → Option Value} {base : Heap} {fa : Nat → Addr} {fd : Nat → FuncData} {tl : Nat → Tok} {Z : List NTab}
theorem ok38 (T : Top K mg fa fd tl) (G32 : FnOk P w K mg base CX0 1 (fa 32) (fd 32) ["_law_tub", "_law_under"] (sp32 Z K)) (G34 : FnOk P w K mg base CX0 2 (fa 34) (fd 34) ["_law_tub", "_law_few_so"] (sp34 Z K)) (G35 : FnOk P w K mg base CX0 2 (fa 35) (fd 35) ["_law_tub", "_law_few_so", "_law_much_so"] (sp35 Z K)) : FnOk P w K mg base CX0 3 (fa 38) (fd 38) ["_law_tub", "_law_many_so"] (sp38 Z K) := by
  refine T.F38.ok sc38 (fun vs H Q E h => len38 h) (fun cdv A outer s0 H vs Q E hr h => ?_)
  refine ⟨_, (pss_cons (ps_set (i := 2) nd38 rfl (Or.inl rfl) (pe_lst (pa_cons pe_str (pa_cons pe_str (pa_cons pe_str (pa_cons pe_str (pa_cons pe_str (pa_cons pe_str (pa_cons pe_str (pa_cons pe_str (pa_cons pe_str (pa_cons pe_str pa_nil))))))))))))
  (pss_cons (ps_par (i := 3) (j := 4) rfl nd38 rfl rfl (by decide) rfl rfl (pa_cons (pe_call G35 (hr.mono (by decide)) (by rfl) T.g35 T.F35.kp T.b35 .nil pass0 (pa_cons (pv 0) (pa_cons (pv 2) (pa_cons (pv 1) pa_nil)))) (pa_cons (pe_lst pa_nil) pa_nil)) (by rfl))
  (pss_cons (ps_for PassesOwn.never rfl (pi_enum (by rfl) T.m_enumerate (pa_cons (pv 3) pa_nil)) (kg_tup (n := 2) K (by rfl) rfl (pgs_cons (pg_name (i := 5) nd38 rfl (Or.inl rfl)) (pgs_cons (pg_name (i := 6) nd38 rfl (Or.inl rfl)) pgs_nil))) (pss_cons (ps_set (i := 7) nd38 rfl (Or.inl rfl) (pe_call G35 (hr.mono (by decide)) (by rfl) T.g35 T.F35.kp T.b35 .nil pass0 (pa_cons (pv 0) (pa_cons (pe_slice (kl_list K) (pv 3) po_none (po_some (pv 5))) (pa_cons (pe_call G34 (hr.mono (by decide)) (by rfl) T.g34 T.F34.kp T.b34 .nil pass0 (pa_cons (pv 0) (pa_cons (pe_lst (pa_cons pe_int (pa_cons pe_int (pa_cons pe_int (pa_cons pe_int (pa_cons pe_int pa_nil)))))) pa_nil))) pa_nil)))))
  (pss_one (ps_expr (ke_bm K (by rfl) PySem.F.plainAttrs_list PySem.F.slot_list_append PySem.F.type_list_append mt_append (pv 4) (pa_cons (pe_tup (pa_cons (pv 6) (pa_cons (pe_callTy (kc_tupOf K) (by rfl) T.m_tuple bt_tuple (pa_cons (pe_callB (kc_sortD K (by rfl) hr.units) (by rfl) T.m_sorted bt_sorted (pa_cons (pv 7) pa_nil)) pa_nil)) (pa_cons (pe_cmpR op_lt (pe_call G32 (hr.mono (by decide)) (by rfl) T.g32 T.F32.kp T.b32 .nil pass0 (pa_cons (pv 0) (pa_cons pe_int pa_nil))) pe_int (nomark _)) pa_nil)))) pa_nil))))))
  (pss_cons (ps_set (i := 8) nd38 rfl (Or.inl rfl) (pe_callTy (kc_tupOf K) (by rfl) T.m_tuple bt_tuple (pa_cons (pe_callB (kc_sortD K (by rfl) hr.units) (by rfl) T.m_sorted bt_sorted (pa_cons (pe_lc (own := [("_law_tag", 6)]) rfl nd38 (ki_list K (by rfl) (pv 3)) (blkOk_by (N := ["_law_tub", "_law_many_so", "_law_pool_so", "_law_line_so", "_law_found", "_law_k", "_law_tag", "_law_few_so", "_law_live_so"]) (sc := (defScope s38)) (own := [("_law_tag", 6)]) (by decide +kernel)) (fun _ _ _ _ _ => (pg_name (i := 6) nd38 rfl (Or.inl rfl))) (fun _ _ _ _ _ => (pts_one (pt_cmpR op_eq (pe_call G32 (hr.mono (by decide)) (by rfl) T.g32 T.F32.kp T.b32 .nil pass0 (pa_cons (pv 0) (pa_cons pe_int pa_nil))) pe_int (nomark _)))) (fun _ _ _ _ _ => (pv 6))) pa_nil)) pa_nil)))
  (pss_one (ps_ret (pe_tup (pa_cons (pe_callTy (kc_tupOf K) (by rfl) T.m_tuple bt_tuple (pa_cons (pe_callB (kc_sortD K (by rfl) hr.units) (by rfl) T.m_sorted bt_sorted (pa_cons (pv 4) pa_nil)) pa_nil)) (pa_cons (pv 8) pa_nil))))))))), ?_⟩
  obtain ⟨F, N, t, m, rfl, b, hm, hN, q⟩ := h
  refine q_asg (ed_lst (K := K) (ds := pool.map .str) (ead_cons ev_c.str (ead_cons ev_c.str (ead_cons ev_c.str (ead_cons ev_c.str (ead_cons ev_c.str (ead_cons ev_c.str (ead_cons ev_c.str (ead_cons ev_c.str (ead_cons ev_c.str (ead_cons ev_c.str ead_nil)))))))))) (by decide)) b.sub fun pv F1 H1 g1 p1 => ?_
  have b1 := b.go g1
  refine ⟨.ref t, rfl, pv, rfl, .int (m : Nat), rfl, F1, N, t, pv, m, pool.map .str, rfl, b1, by omega, p1, by decide, fun ys rest lv F2 H2 pm hy g2 p2 => ?_⟩
  obtain ⟨line, rest', rfl, pm2⟩ := strs_of pm
  have nd : line.Nodup := nodup_left pm2 pool_nd
  have inP : ∀ x ∈ line, x ∈ pool := fun x hx => pm2.mem_iff.mp (List.mem_append_left _ hx)
  have hlen : line.length = m := by
    rw [List.length_map, List.length_map] at hy
    have : pool.length = 10 := rfl
    omega
  have gooL : GoodS line := fun x hx => name_ok (List.all_eq_true.mp pool_nm _ (inP x hx))
  refine el_lst (K := K) (ds := []) ead_nil (by decide) H2 g2.sub _ fun D zs F3 H3 g3 D0 Df hD py => ⟨lv, .ref D, rfl, ?_⟩
  have gA : GoM Z t (N + m) F H F3 H3 := (GoM.pre b g1 g2).on g3
  have D00 : H D = none := (GoM.pre b g1 g2).back D0
  have Dt : D ≠ t := by
    obtain ⟨l, hl, _⟩ := b.at_
    exact (ne_of_none hl D00).symm
  have p3 := dp_mono g3.ff p2
  have en : (line.map PyData.str).zipIdx = line.zipIdx.map fun p => (PyData.str p.1, p.2) := by
    rw [List.zipIdx_map]
    rfl
  have hw := iw_enumL (K := K) (Z := Z) (te := tVar 3) (σ := [some (.ref t), some (.int (m : Nat)), some pv, some lv, some (.ref D), none, none, none, none]) (F := F3) (ds := line.map .str) (ed_var rfl p3)
  rw [en] at hw
  refine s_for (IW.of_mapG (ls := line.zipIdx) (f := fun p : Str × Nat => (PyData.str p.1, p.2)) hw) g3.sub (fun i σ1 F1 H1 => ∃ y5 y6 y7 zs rs, σ1 = [some (.ref t), some (.int (m : Nat)), some pv, some lv, some (.ref D), y5, y6, y7, none] ∧ GoM Z t (N + m + 15 * i) F H F1 H1 ∧ Dp K F1 lv (.list (line.map .str)) ∧ H1 D = some (.lst zs) ∧ F1 D = none ∧ DpAll K F1 zs (rs.map rowD) ∧ RowsOk line i rs)
    (fun F4 H4 g4 => ⟨none, none, none, zs, [], rfl, gA.on g4, dp_mono g4.ff p3, g4.hh.lst hD, g4.none_of hD Df, dpa_mono g4.ff py, by simp, fun r hr => absurd hr List.not_mem_nil⟩) ?_ ?_
  · rintro i ⟨tag, j⟩ σ1 F4 H4 x F5 H5 hi s4 ⟨y5, y6, y7, zs, rs, rfl, g, pl, hD, Df, pz, ok⟩ g5 tt
    have hj : j = i ∧ line[i]? = some tag := by
      rw [List.getElem?_zipIdx] at hi
      cases h : line[i]? with
      | none => rw [h] at hi; cases hi
      | some x =>
        rw [h] at hi
        simp at hi
        exact ⟨hi.2.symm, by rw [hi.1]⟩
    obtain ⟨rfl, hget⟩ := hj
    have hjl : j < line.length := lt_of_get hget
    have gB := g.on g5
    have pl5 := dp_mono g5.ff pl
    refine g_pair tt g5.sub fun u1 u2 q1 q2 => ?_
    rw [dp_int q1, dp_str q2]
    have bB := gB.tb b.fr
    -- few
    refine q_asgM (σ := [some (.ref t), some (.int (m : Nat)), some pv, some lv, some (.ref D), some (.int (j : Nat)), some (.str tag), y7, none]) (k := 11) (P := fun v F' => ∃ fw : List Str, Dp K F' v (.list (fw.map .str)) ∧ fw.length ≤ 10 ∧ ∀ x ∈ fw, x ∈ line.take j) (fun H b Q q => ?_) bB fun fv F6 H6 g6 ⟨fw, p6, fl, fs⟩ => ?_
    · refine ⟨.ref t, rfl, (el_slL (lo := none) (hi := some j) (ed_var (i := 3) rfl pl5) eo_none (eo_some (te := tVar 5) (ev_var rfl))).ed H b.sub _ fun v1 F6 H6 g6 p6 => ?_⟩
      have b6 := b.go g6
      rw [cut_to, ← List.map_take] at p6
      refine em_of (K := K) (E := E0) (ds := [.int 0, .int 1, .int 1, .int 1, .int 2]) (i := 0) rfl (ed_lst (ead_cons ev_c.int (ead_cons ev_c.int (ead_cons ev_c.int (ead_cons ev_c.int (ead_cons ev_c.int ead_nil))))) (by decide)) (by omega) (by decide) (by decide) H6 b6 _ fun v2 F7 H7 g7 ⟨d, hd, pd⟩ => ?_
      have hz : ∃ z : Nat, z ≤ 2 ∧ d = .int (z : Nat) := by
        simp only [List.mem_cons, List.not_mem_nil, or_false] at hd
        rcases hd with rfl | rfl | rfl | rfl | rfl
        · exact ⟨0, by decide, rfl⟩
        · exact ⟨1, by decide, rfl⟩
        · exact ⟨1, by decide, rfl⟩
        · exact ⟨1, by decide, rfl⟩
        · exact ⟨2, by decide, rfl⟩
      obtain ⟨z, z2, rfl⟩ := hz
      rw [dp_int pd]
      refine ⟨F7, N + m + 15 * j + 1, t, v1, z, (line.take j).map .str, rfl, g7.tb b6.fr, by omega, dp_mono g7.ff p6, by rw [List.length_map, List.length_take]; omega, fun ys rest v F8 H8 pm hy g8 p8 => ?_⟩
      obtain ⟨fw, r2, rfl, pm3⟩ := strs_of pm
      refine q v F8 H8 (((GoM.pre b g6 g7).trans b.fr g8).more (by omega)) ⟨fw, p8, ?_, fun x hx => pm3.mem_iff.mp (List.mem_append_left _ hx)⟩
      rw [List.length_map, List.length_map, List.length_take] at hy
      omega
    · have gC := gB.trans b.fr g6
      have hD5 := g5.hh.lst hD
      have Df5 := g5.none_of hD Df
      have hD6 := g6.lst hD5 Dt
      have Df6 := g6.none_of hD5 Df5
      refine ⟨.ref D, rfl, .inl ⟨rfl, _, .inl (.inl hD6)⟩, .str tag, rfl, ?_⟩
      refine (ed_tupOf (el_sortS (K := K) (l := fw) (te := tVar 7) (ed_var (i := 7) rfl p6) (.inl rfl))) H6 gC.sub _ fun v1 F7 H7 g7 p7 => ?_
      have gD := gC.on g7
      refine em_take (K := K) (E := E0) (i := 0) (u := 5) rfl ev_c (by omega) (by decide) (by decide) H7 (gD.tb b.fr) _ fun v2 F8 H8 g8 ⟨r, hr2, e⟩ => ?_
      subst e
      have gE := gD.trans b.fr g8
      refine ⟨(r : Nat), 3, rfl, rfl, (by decide : 3 ≤ sizeLine), fun p hp => ?_⟩
      have hD8 := g8.lst (g7.hh.lst hD6) Dt
      have Df8 := g8.none_of (g7.hh.lst hD6) (g7.none_of hD6 Df6)
      have pD : D ≠ p := ne_of_none hD8 hp
      have gn : Go Z F8 H8 (upd F8 p (.tup [.str tag, v1, .bl (decide (((r : Nat) : Int) < 3))])) (upd H8 p (.tup [.str tag, v1, .bl (decide (((r : Nat) : Int) < 3))])) := Go.new gE.sub hp
      have hD9 : upd H8 p (.tup [.str tag, v1, .bl (decide (((r : Nat) : Int) < 3))]) D = some (.lst zs) := by rw [upd_ne pD]; exact hD8
      have Df9 : upd F8 p (.tup [.str tag, v1, .bl (decide (((r : Nat) : Int) < 3))]) D = none := by rw [upd_ne pD]; exact Df8
      have gF := (gE.on gn).mut Dt D00 Df9 hD9 (ys := zs ++ [.ref p])
      have f79 : Same F7 (upd F8 p (.tup [.str tag, v1, .bl (decide (((r : Nat) : Int) < 3))])) := g8.ff.trans gn.ff
      have f59 := (g6.ff.trans g7.ff).trans f79
      have f49 := g5.ff.trans f59
      have rlen : rs.length = j := by
        rw [← List.length_map (f := Row.nm), ok.nms, List.length_take]
        omega
      refine ⟨D, zs, .ref p, rfl, rfl, hD9, line_lt (by rw [dpa_length pz, List.length_map]; omega), _, f49, gF.sub, _, _, _, zs ++ [.ref p], rs ++ [⟨tag, sortS fw, decide (((r : Nat) : Int) < 3)⟩], rfl, gF.more (by omega), dp_mono f59 pl5, upd_same, Df9, ?_, ?_, ?_⟩
      · rw [List.map_append]
        exact dpa_snoc (dpa_mono f49 pz) (.tup (.inl (.inl upd_same)) (.cons (.str _) (.cons (dp_mono f79 p7) (.cons (.bl _) .nil))))
      · rw [List.map_append, ok.nms, take_more hget]
        rfl
      · intro r hr
        rcases List.mem_append.mp hr with hr | hr
        · exact ok.rds r hr
        · rw [List.mem_singleton.mp hr]
          refine ⟨by show (sortS fw).length ≤ 10; rw [sortS, (isort_perm fw).length_eq]; exact fl, fun x hx => ?_⟩
          have h1 := fs x ((isort_perm fw).mem_iff.mp hx)
          exact ⟨List.mem_of_mem_take h1, by show idxS line x < idxS line tag; rw [idx_at nd hget]; exact idx_take nd h1⟩
  · rintro σ1 F4 H4 s4 ⟨y5, y6, y7, zs, rs, rfl, g, pl, hD, Df, pz, ok⟩
    rw [List.length_zipIdx] at g ok
    change tSeq (tAsg (tCB (rTupOf K) (tCons (tCB (rSortD K) (tCons (tLc (iList K (tVar 3)) (gName 6) (tTest (tOp rEq (tCall (sp32 Z K) [] E0 (tCons (tVar 0) (tCons (tC (.int 4)) tNil))) (tC (.int 0)))) (tVar 6) [6]) tNil)) tNil)) (gName 8)) (tRet (tTup (tCons (tCB (rTupOf K) (tCons (tCB (rSortD K) (tCons (tVar 4) tNil)) tNil)) (tCons (tVar 8) tNil)))) { nx := fun _ H' => Q .non H', rt := Q } [some (.ref t), some (.int (m : Nat)), some pv, some lv, some (.ref D), y5, y6, y7, none] H4
    refine q_asgM (k := 10) (P := fun v F' => ∃ live : List Str, Dp K F' v (namesD live) ∧ (∀ x ∈ live, x ∈ line) ∧ live.length ≤ line.length) (fun H b Q q => ?_) (g.tb b.fr) fun lv2 F5 H5 g5 ⟨live, p5, l1, l2⟩ => ?_
    · change tLc (iList K (tVar 3)) (gName 6) (tTest (tOp rEq (tCall (sp32 Z K) [] E0 (tCons (tVar 0) (tCons (tC (.int 4)) tNil))) (tC (.int 0)))) (tVar 6) [6] [some (.ref t), some (.int (m : Nat)), some pv, some lv, some (.ref D), y5, y6, y7, none] H (fun v H1 => tCB (rTupOf K) (tCons (tCB (rSortD K) (tCons (tC v) tNil)) tNil) [] H1 Q)
      refine em_lcM (σ := [some (.ref t), some (.int (m : Nat)), some pv, some lv, some (.ref D), y5, y6, y7, none]) (j := 6) (fun x : Str => .str x) (fun _ _ _ h => h) (ls := line) (IW.of_map (iw_list (K := K) (tl := tVar 3) (ed_var (i := 3) rfl pl))) (by omega) (fun _ => rfl) (fun _ => rfl) (fun l x F5 N' H5 hl e t5 hN' b5 Q q => ?_) b _ fun p xs ls' F5 H5 sl g5 p0 pf pt hp pd => ?_
      · refine em_take (K := K) (E := E0) (i := 0) (u := 4) rfl ev_c (by omega) (by decide) (by decide) H5 b5 _ fun v2 F6 H6 g6 ⟨r, hr2, e⟩ => ?_
        subst e
        exact ⟨rfl, _, rfl, q _ F6 H6 g6⟩
      · have z : Ed Z K (tCB (rTupOf K) (tCons (tCB (rSortD K) (tCons (tC (.ref p)) tNil)) tNil)) [] (upd F5 p (.lst xs)) (namesD (sortS ls')) := ed_tupOf (el_sortS (es_c (.lst (.inl (.inl upd_same)) (dpa_mono (same_new pf) pd))) (.inl rfl))
        have g6 := g5.freeze pt p0 hp
        refine z H5 g6.sub _ fun v F6 H6 g7 p7 => q v F6 H6 ((g6.on g7).more (by omega)) ⟨_, p7, fun x hx => sl.subset ((isort_perm ls').mem_iff.mp hx), ?_⟩
        rw [sortS, (isort_perm ls').length_eq]
        exact sl.length_le
    · have gC := g.trans b.fr g5
      have hD5 := g5.lst hD Dt
      have Df5 := g5.none_of hD Df
      have gD := gC.freeze Dt D00 hD5
      obtain ⟨rs', pr, es, sr⟩ := dsort_rows rs
      have hs : El Z (tCB (rSortD K) (tCons (tVar 4) tNil)) [some (.ref t), some (.int (m : Nat)), some pv, some lv, some (.ref D), y5, y6, y7, some lv2] (upd F5 D (.lst zs)) fun xs F => DpAll K F xs (rs'.map rowD) := by
        rw [← es]
        exact el_sorted (ed_var rfl (.lst (.inl (.inl upd_same)) (dpa_mono (g5.ff.trans (same_new Df5)) pz))) (.inl rfl) (alike_rows rs) (sort_rows rs) (low_rows rs)
      have hr2 : Ed Z K (tTup (tCons (tCB (rTupOf K) (tCons (tCB (rSortD K) (tCons (tVar 4) tNil)) tNil)) (tCons (tVar 8) tNil))) [some (.ref t), some (.int (m : Nat)), some pv, some lv, some (.ref D), y5, y6, y7, some lv2] (upd F5 D (.lst zs)) (blkD ⟨rs', live⟩) := ed_tup (ead_cons (ed_tupOf hs) (ead_cons (ed_var (i := 8) rfl (dp_mono (same_new Df5) p5)) ead_nil)) (by simp)
      refine s_ret (D := { nx := fun _ H' => Q .non H', rt := Q }) hr2 gD.sub fun v F6 H6 g6 p6 => q ⟨rs', live⟩ v F6 H6 (ready_of nd inP (by omega) ok pr sr l1 l2) ?_ ((gD.on g6).more (by omega)) p6
      show rs'.length = m
      rw [pr.length_eq, ← List.length_map (f := Row.nm), ok.nms, List.take_length, hlen]
end
end K21

/-! What the law itself lays: 42, 43, 49. -/
namespace K21
open PySem PySem.Spec PyProof.Rows L2 RZ
open NdefX (NTab TabsN TabN)
/-! ### _law_awaited -/
theorem awaited_rows {B : Blk} : B.awaited = (B.rows.filter fun r => r.sl && (decide (r.nm ∈ B.live) || decide (0 < (B.readers r.nm).length))).map Row.nm := by
  unfold Blk.awaited Blk.slow
  rw [List.filter_map, List.filter_filter]
  congr 1
  refine List.filter_congr fun r _ => ?_
  rw [Bool.and_comm]
  rfl
theorem awaited_snoc {B : Blk} {i : Nat} {r : Row} (h : B.rows[i]? = some r) (f : Row → Bool) : ((B.rows.take (i + 1)).filter f).map Row.nm = ((B.rows.take i).filter f).map Row.nm ++ (if f r = true then [r.nm] else []) := by
  rw [filter_take_more h, List.map_append]
  congr 1
  split <;> rfl
def sp42 (Z : List NTab) (K : PySem.W.Frag) : Sp := spD Z K fun ds r => ∃ B, ds = [blkD B] ∧ Ready B ∧ r = namesD B.awaited
theorem len42 {Z : List NTab} {K : PySem.W.Frag} {vs : List V} {H : Hp} {Q : VK} {E : XK} (h : sp42 Z K vs H Q E) : vs.length = 1 := spD_len (n := 1) (by rintro _ _ ⟨B, rfl, _⟩; rfl) h
section
variable {P : Program} {w : World} {K : PySem.W.Frag} {mg : Str → Option Value} {base : Heap} {fa : Nat → Addr} {fd : Nat → FuncData} {tl : Nat → Tok} {Z : List NTab}
theorem ok42 (T : Top K mg fa fd tl)  : FnOk P w K mg base CX0 1 (fa 42) (fd 42) ["_law_block_so"] (sp42 Z K) := by
  refine T.F42.ok sc42 (fun vs H Q E h => len42 h) (fun cdv A outer s0 H vs Q E hr h => ?_)
  refine ⟨_, (pss_cons (ps_set (i := 1) nd42 rfl (Or.inl rfl) (pe_lst pa_nil))
  (pss_cons (ps_for PassesOwn.never rfl (ki_tup K (by rfl) (pe_ix (kx_tup K) (pv 0) pe_int (fun _ _ => rfl))) (kg_tup (n := 3) K (by rfl) rfl (pgs_cons (pg_name (i := 2) nd42 rfl (Or.inr rfl)) (pgs_cons (pg_name (i := 3) nd42 rfl (Or.inl rfl)) (pgs_cons (pg_name (i := 4) nd42 rfl (Or.inl rfl)) pgs_nil)))) (pss_cons (ps_setLc (i := 5) (own := [("_law_own", 6)]) rfl nd42 rfl rfl (sw_true rfl rfl rfl (by decide +kernel)) (ki_tup K (by rfl) (pe_ix (kx_tup K) (pv 0) pe_int (fun _ _ => rfl))) (blkOk_by (N := ["_law_block_so", "_law_found", "_law_tag", "_law_reads_so", "_law_slow_so", "_law_near_so", "_law_own"]) (sc := (defScope s42)) (own := [("_law_own", 6)]) (by decide +kernel)) (fun _ _ _ _ _ => (pg_name (i := 6) nd42 rfl (Or.inl rfl))) (fun _ _ _ _ _ => (pts_one (pt_cmpR (ko_in K) (pv 2) (pe_ix (kx_tup K) (pv 6) pe_int (fun _ _ => rfl)) (by rfl)))) (fun _ _ _ _ _ => (pe_ix (kx_tup K) (pv 6) pe_int (fun _ _ => rfl))))
  (pss_one (ps_if (PW.pt (pw_and (pt_val (pv 4)) (pw_and1 (PW.pt (pw_or (pt_cmpR (ko_neD K (by rfl) hr.units) (pv 5) (pe_lst pa_nil) (nomark _)) (pw_or1 (pt_cmpR (ko_in K) (pv 2) (pe_ix (kx_tup K) (pv 0) pe_int (fun _ _ => rfl)) (by rfl)))))))) (pss_one (ps_expr (ke_bm K (by rfl) PySem.F.plainAttrs_list PySem.F.slot_list_append PySem.F.type_list_append mt_append (pv 1) (pa_cons (pv 2) pa_nil)))) pss_nil))))
  (pss_one (ps_ret (pe_callTy (kc_tupOf K) (by rfl) T.m_tuple bt_tuple (pa_cons (pv 1) pa_nil)))))), ?_⟩
  obtain ⟨F, _, _, s, pd, ⟨B, rfl, hB, rfl⟩, q⟩ := h
  obtain ⟨v, rfl, p⟩ := dpa1 pd
  have few := hB.few
  have rows : ∀ {σ F1}, σ[0]? = some (some v) → Same F F1 → Ed Z K (tOp (rIxT K) (tVar 0) (tC (.int 0))) σ F1 (.tuple (B.rows.map rowD)) := fun h e => ed_ixT (j := 0) (ed_var h (dp_mono e p)) ev_c rfl
  refine q_asgL (el_lst (K := K) (ds := []) ead_nil (by decide)) s fun R zs F1 H1 g1 R0 Rf hR pz => ?_
  refine s_for (IW.of_map (iw_tup (rows rfl g1.ff))) g1.sub (fun i σ1 F2 H2 => ∃ y2 y3 y4 y5 zs, σ1 = [some v, some (.ref R), y2, y3, y4, y5, none] ∧ Go Z F H F2 H2 ∧ H2 R = some (.lst zs) ∧ F2 R = none ∧ DpAll K F2 zs ((((B.rows.take i).filter fun r => r.sl && (decide (r.nm ∈ B.live) || decide (0 < (B.readers r.nm).length))).map Row.nm).map .str))
    (fun F2 H2 g2 => ⟨none, none, none, none, zs, rfl, g1.trans g2, g2.hh.lst hR, g2.none_of hR Rf, dpa_mono g2.ff pz⟩) ?_ ?_
  · rintro i r σ1 F2 H2 x F3 H3 hi s2 ⟨y2, y3, y4, y5, zs, rfl, g, hR, Rf, pz⟩ g3 t
    have hr := mem_of_get hi
    have gA := g.trans g3
    refine g_triple t g3.sub fun u1 u2 u3 p1 p2 p3 => ?_
    rw [dp_str p1, dp_bl p3]
    have hnear := El.ed (el_filter (K := K) (Z := Z) (F := F3) (σ := [some v, some (.ref R), some (.str r.nm), some u2, some (.bl r.sl), y5, none]) (j := 6) (vs := [6]) (wi := iTup K (tOp (rIxT K) (tVar 0) (tC (.int 0)))) (te := tOp (rIxT K) (tVar 6) (tC (.int 0)))
      (tt := tTest (tOp (rIn K false) (tVar 2) (tOp (rIxT K) (tVar 6) (tC (.int 1))))) (fun r2 : Row => decide (r.nm ∈ r2.rd)) (fun r => .str r.nm) (IW.of_map (iw_tup (rows rfl gA.ff))) (by omega) (fun _ => rfl) (fun r2 y F5 hr e t => et_test (ev_inT (ev_var rfl) (ed_rd (ed_var rfl t)))) fun r2 y F5 hr e t _ => (ed_nm (ed_var rfl t)).str)
    refine q_asg hnear gA.sub fun nv F4 H4 g4 p4 => ?_
    have gB := gA.trans g4
    have en : (B.rows.filter fun r2 : Row => decide (r.nm ∈ r2.rd)).map (fun r : Row => PyData.str r.nm) = (B.readers r.nm).map .str := by
      unfold Blk.readers
      rw [List.map_map]
      rfl
    rw [en] at p4
    have hR4 := g4.hh.lst (g3.hh.lst hR)
    have Rf4 := g4.none_of (g3.hh.lst hR) (g3.none_of hR Rf)
    have e24 := g3.ff.trans g4.ff
    have ne : (!PyData.eqv (.list ((B.readers r.nm).map .str)) (.list [])) = decide (0 < (B.readers r.nm).length) := by
      refine (congrArg (!·) (eqv_strsL _ [])).trans ?_
      cases B.readers r.nm <;> simp
    refine s_if (b := r.sl && (!PyData.eqv (.list ((B.readers r.nm).map .str)) (.list []) || decide (r.nm ∈ B.live))) (et_and (et_B (ev_var rfl)) fun _ => et_or (et_test (ev_neD (ed_var (i := 5) rfl p4) (ed_lst ead_nil (by decide)) (shaped_strs fun x hx => hB.good x (readers_sub hx)) (shaped_strs (ss := []) fun x hx => absurd hx List.not_mem_nil))) fun _ => et_test (ev_inT (ev_var rfl) (ed_ixT (j := 1) (d := namesD B.live) (ed_var (i := 0) rfl (dp_mono gB.ff p)) ev_c rfl))) gB.sub (fun e H5 e5 s5 => ?_) fun e H5 e5 s5 => ?_
    · have hR5 := e5.lst hR4
      have gC := (gB.trans (Go.ext gB.sub e5)).mut R0 Rf4 hR5 (ys := zs ++ [.str r.nm])
      refine ⟨.ref R, rfl, .inl ⟨rfl, _, .inl (.inl hR5)⟩, .str r.nm, rfl, R, zs, _, rfl, rfl, hR5, line_lt ?_, F4, e24, gC.sub, _, _, _, _, _, rfl, gC, upd_same, Rf4, ?_⟩
      · have h1 := List.length_filter_le (fun r => r.sl && (decide (r.nm ∈ B.live) || decide (0 < (B.readers r.nm).length))) (B.rows.take i)
        rw [dpa_length pz, List.length_map, List.length_map]
        rw [List.length_take] at h1
        omega
      · rw [awaited_snoc hi, if_pos (by rw [ne] at e; rw [Bool.or_comm]; exact e), List.map_append]
        exact dpa_snoc (dpa_mono e24 pz) (.str _)
    · refine ⟨F4, e24, s5, _, _, _, _, zs, rfl, gB.trans (Go.ext gB.sub e5), e5.lst hR4, Rf4, ?_⟩
      rw [awaited_snoc hi, if_neg (by rw [ne] at e; rw [Bool.or_comm, e]; decide), List.append_nil]
      exact dpa_mono e24 pz
  · rintro σ1 F2 H2 s2 ⟨y2, y3, y4, y5, zs, rfl, g, hR, Rf, pz⟩
    rw [List.take_length, ← awaited_rows] at pz
    have gA := g.freeze R0 hR
    have hr2 : Ed Z K (tCB (rTupOf K) (tCons (tVar 1) tNil)) [some v, some (.ref R), y2, y3, y4, y5, none] (upd F2 R (.lst zs)) (namesD B.awaited) := ed_tupOfL (ed_var rfl (.lst (.inl (.inl upd_same)) (dpa_mono (same_new Rf) pz)))
    exact s_ret (D := { nx := fun _ H' => Q .non H', rt := Q }) hr2 gA.sub fun v2 F3 H3 g3 p3 => q v2 F3 H3 (gA.trans g3) p3
end
/-! ### _law_sets -/
def setsOf (tags : List Str) : List (List Str) := tags.foldl (fun f t => f ++ f.map (· ++ [t])) [[]]
theorem sets_snoc (tags : List Str) (t : Str) : setsOf (tags ++ [t]) = setsOf tags ++ (setsOf tags).map (· ++ [t]) := by
  unfold setsOf
  rw [List.foldl_append]
  rfl
theorem snoc_ind {α : Type} {P : List α → Prop} (h0 : P []) (h1 : ∀ l x, P l → P (l ++ [x])) : ∀ l, P l := fun l => by
  have key : ∀ r : List α, P r.reverse := fun r => by
    induction r with
    | nil => exact h0
    | cons x r ih => rw [List.reverse_cons]; exact h1 _ _ ih
  have := key l.reverse
  rwa [List.reverse_reverse] at this
theorem sets_len (tags : List Str) : (setsOf tags).length = 2 ^ tags.length := by
  induction tags using snoc_ind with
  | h0 => rfl
  | h1 l x ih =>
    rw [sets_snoc, List.length_append, List.length_map, ih, List.length_append, List.length_singleton, Nat.pow_succ]
    omega
theorem sets_head (tags : List Str) : ∃ r, setsOf tags = [] :: r := by
  induction tags using snoc_ind with
  | h0 => exact ⟨[], rfl⟩
  | h1 l x ih =>
    obtain ⟨r, e⟩ := ih
    rw [sets_snoc, e]
    exact ⟨_, rfl⟩
theorem sets_sub {tags l : List Str} : l ∈ setsOf tags ↔ l.Sublist tags := by
  induction tags using snoc_ind generalizing l with
  | h0 =>
    show l ∈ [[]] ↔ _
    rw [List.mem_singleton, List.sublist_nil]
  | h1 tags x ih =>
    rw [sets_snoc, List.mem_append, ih, List.mem_map]
    constructor
    · rintro (h | ⟨m, hm, rfl⟩)
      · exact h.trans (List.sublist_append_left _ _)
      · exact (ih.mp hm).append (List.Sublist.refl _)
    · intro h
      obtain ⟨a, b, rfl, h1, h2⟩ := List.sublist_append_iff.mp h
      cases h2 with
      | cons _ h2 =>
        rw [List.sublist_nil.mp h2, List.append_nil]
        exact .inl h1
      | cons_cons _ h2 =>
        rw [List.sublist_nil.mp h2]
        exact .inr ⟨a, ih.mpr h1, rfl⟩
theorem sets_few {tags l : List Str} (h : l ∈ setsOf tags) : l.length ≤ tags.length := (sets_sub.mp h).length_le
def sp43 (Z : List NTab) (K : PySem.W.Frag) : Sp := spD Z K fun ds r => ∃ tags : List Str, ds = [namesD tags] ∧ tags.length ≤ 10 ∧ r = .list ((sortT (setsOf tags)).map namesD)
theorem len43 {Z : List NTab} {K : PySem.W.Frag} {vs : List V} {H : Hp} {Q : VK} {E : XK} (h : sp43 Z K vs H Q E) : vs.length = 1 := spD_len (n := 1) (by rintro _ _ ⟨B, rfl, _⟩; rfl) h
theorem pow_few {n : Nat} (h : n ≤ 10) : 2 ^ n ≤ 1024 := Nat.pow_le_pow_right (n := 2) (by decide) h
section
variable {P : Program} {w : World} {K : PySem.W.Frag} {mg : Str → Option Value} {base : Heap} {fa : Nat → Addr} {fd : Nat → FuncData} {tl : Nat → Tok} {Z : List NTab}
theorem ok43 (T : Top K mg fa fd tl)  : FnOk P w K mg base CX0 1 (fa 43) (fd 43) ["_law_tags"] (sp43 Z K) := by
  refine T.F43.ok sc43 (fun vs H Q E h => len43 h) (fun cdv A outer s0 H vs Q E hr h => ?_)
  refine ⟨_, (pss_cons (ps_set (i := 1) nd43 rfl (Or.inl rfl) (pe_lst (pa_cons (pe_tup pa_nil) pa_nil)))
  (pss_cons (ps_for PassesOwn.never rfl (ki_tup K (by rfl) (pv 0)) (pg_name (i := 2) nd43 rfl (Or.inr rfl)) (pss_one (ps_set (i := 1) nd43 rfl (Or.inl rfl) (pe_op op_cat (pv 1) (pe_lc (own := [("_law_own", 3)]) (tt := tYes) rfl nd43 (ki_list K (by rfl) (pv 1)) (blkOk_by (N := ["_law_tags", "_law_found", "_law_tag", "_law_own"]) (sc := (defScope s43)) (own := [("_law_own", 3)]) (by decide +kernel)) (fun _ _ _ _ _ => (pg_name (i := 3) nd43 rfl (Or.inl rfl))) (fun _ _ _ _ _ => pts_nil) (fun _ _ _ _ _ => (pe_op (ko_catA K) (pv 3) (pe_tup (pa_cons (pv 2) pa_nil)))))))))
  (pss_one (ps_ret (pe_callB (kc_sortD K (by rfl) hr.units) (by rfl) T.m_sorted bt_sorted (pa_cons (pv 1) pa_nil)))))), ?_⟩
  obtain ⟨F, _, _, s, pd, ⟨tags, rfl, few, rfl⟩, q⟩ := h
  obtain ⟨v, rfl, p⟩ := dpa1 pd
  refine q_asg (P := Fl K ((setsOf []).map namesD)) (El.fl (el_lst (K := K) (ds := [namesD []]) (ead_cons (ed_tup ead_nil (by decide)) ead_nil) (by decide))) s fun fv F1 H1 g1 p1 => ?_
  refine s_for (IW.of_map (iw_tup (ed_var (d := namesD tags) rfl (dp_mono g1.ff p)))) g1.sub (fun i σ1 F2 H2 => ∃ y2 fv, σ1 = [some v, some fv, y2, none] ∧ Go Z F H F2 H2 ∧ Fl K ((setsOf (tags.take i)).map namesD) fv F2)
    (fun F2 H2 g2 => ⟨none, fv, rfl, g1.trans g2, mono_fl _ _ _ g2.ff p1⟩) ?_ ?_
  · rintro i t σ1 F2 H2 x F3 H3 hi s2 ⟨y2, fv, rfl, g, pf⟩ g3 tt
    have hx := dp_str tt
    subst hx
    have pf3 := mono_fl _ _ _ g3.ff pf
    have hl : tags.take (i + 1) = tags.take i ++ [t] := take_more hi
    have len : ((setsOf (tags.take i)).map namesD).length ≤ 1024 := by
      rw [List.length_map, sets_len]
      exact pow_few (by rw [List.length_take]; omega)
    have hfv : Es Z (tVar 1) [some v, some fv, some (.str t), none] F3 (Fl K ((setsOf (tags.take i)).map namesD)) := es_var rfl pf3
    have hnew : El Z (tLc (iList K (tVar 1)) (gName 3) tYes (tOp (rCatA K) (tVar 3) (tTup (tCons (tVar 2) tNil))) [3]) [some v, some fv, some (.str t), none] F3 fun xs F => DpAll K F xs (((setsOf (tags.take i)).map (· ++ [t])).map namesD) := by
      rw [List.map_map]
      refine el_map (K := K) (fun l : List Str => namesD (l ++ [t])) (IW.of_map (iw_list hfv.dp)) (by rw [List.length_map] at len; omega) (fun _ => rfl) fun l y F4 hl2 e t2 => ?_
      have h1 := sets_few hl2
      rw [List.length_take] at h1
      have := ed_catT (K := K) (Z := Z) (F := F4) (σ := [some v, some fv, some (.str t), some y]) (ta := tVar 3) (tb := tTup (tCons (tVar 2) tNil)) (ds := l.map .str) (es := [.str t]) (ed_var rfl t2) (ed_tup (ead_cons (ev_var rfl).str ead_nil) (by simp)) (by rw [List.length_map]; simp; omega)
      exact this.to (by rw [namesD, List.map_append]; rfl)
    refine s_asg (El.fl (el_cat hfv hnew.fl (by rw [List.length_map] at len ⊢; rw [List.length_map, List.length_map]; omega))) g3.sub fun fv2 F4 H4 g4 p4 => ⟨F4, g3.ff.trans g4.ff, g4.sub, _, fv2, rfl, (g.trans g3).trans g4, ?_⟩
    rw [hl, sets_snoc, List.map_append]
    exact p4
  · rintro σ1 F2 H2 s2 ⟨y2, fv, rfl, g, pf⟩
    rw [List.take_length] at pf
    obtain ⟨r, er⟩ := sets_head tags
    have hf : Ed Z K (tVar 1) [some v, some fv, y2, none] F2 (.list ((setsOf tags).map namesD)) := Es.dp (es_var rfl pf)
    exact s_ret (D := { nx := fun _ H' => Q .non H', rt := Q }) (El.ed (el_sortT hf (.inl rfl) (by rw [er]; exact sort_sets r))) s2 fun v2 F3 H3 g3 p3 => q v2 F3 H3 (g.trans g3) p3
end
end K21

/-! The partings: 49. -/
namespace K21
open PySem PySem.Spec PyProof.Rows L2 RZ
open NdefX (NTab TabsN TabN)
section
variable {Z : List NTab} {K : PySem.W.Frag} {σ : St} {F H F1 H1 : Hp} {te : TE} {D : Ends} {u : TS} {d : PyData} {R : Addr} {zs : List V} {i : Nat}
/-- own.append(..) -/
theorem s_app (hi : σ[i]? = some (some (.ref R))) (g : Go Z F H F1 H1) (R0 : H R = none) (Rf : F1 R = none) (hR : H1 R = some (.lst zs)) (hz : zs.length ≤ 50000) (h : Ed Z K te σ F1 d)
    (k : ∀ v F' H', Go Z F H F' H' → Same F1 F' → F' R = none → H' R = some (.lst (zs ++ [v])) → Dp K F' v d → D.nx σ H') : tDrop (tBM K "list" rAppend (tVar i) (tCons te tNil)) D σ H1 :=
  ⟨.ref R, hi, .inl ⟨rfl, _, .inl (.inl hR)⟩, h H1 g.sub _ fun v F2 H2 g2 p => ⟨R, zs, v, rfl, rfl, g2.hh.lst hR, line_lt (by omega), k v F2 _ ((g.trans g2).mut R0 (g2.none_of hR Rf) (g2.hh.lst hR)) g2.ff (g2.none_of hR Rf) upd_same p⟩⟩
theorem q_app (hi : σ[i]? = some (some (.ref R))) (g : Go Z F H F1 H1) (R0 : H R = none) (Rf : F1 R = none) (hR : H1 R = some (.lst zs)) (hz : zs.length ≤ 50000) (h : Ed Z K te σ F1 d)
    (k : ∀ v F' H', Go Z F H F' H' → Same F1 F' → F' R = none → H' R = some (.lst (zs ++ [v])) → Dp K F' v d → u D σ H') : tSeq (tDrop (tBM K "list" rAppend (tVar i) (tCons te tNil))) u D σ H1 :=
  s_app (D := { D with nx := u D }) hi g R0 Rf hR hz h k
end
/-! ### what they are -/
def putAt (t : Str) (lots : List (List Str)) (p : List Str × Nat) : List (List Str) := lots.take p.2 ++ [p.1 ++ [t]] ++ lots.drop (p.2 + 1)
def putIn (t : Str) (lots : List (List Str)) : List (List (List Str)) := (lots ++ [[t]]) :: lots.zipIdx.map (putAt t lots)
def partsOf (tags : List Str) : List (List (List Str)) := tags.foldl (fun f t => f.flatMap (putIn t)) [[]]
theorem parts_snoc (tags : List Str) (t : Str) : partsOf (tags ++ [t]) = (partsOf tags).flatMap (putIn t) := by
  unfold partsOf
  rw [List.foldl_append]
  rfl
def fac : Nat → Nat
  | 0 => 1
  | n + 1 => fac n * (n + 1)
theorem fac_few : ∀ n, n ≤ 6 → fac n ≤ 720 := by decide
theorem mem_putIn {t : Str} {lots ls : List (List Str)} (h : ls ∈ putIn t lots) : ls = lots ++ [[t]] ∨ ∃ a l b, lots = a ++ l :: b ∧ ls = a ++ (l ++ [t]) :: b := by
  rcases List.mem_cons.mp h with h | h
  · exact .inl h
  · obtain ⟨⟨l, k⟩, hp, rfl⟩ := List.mem_map.mp h
    obtain ⟨h1, h2, h3⟩ := List.mem_zipIdx hp
    refine .inr ⟨lots.take k, l, lots.drop (k + 1), ?_, ?_⟩
    · have hk : k < lots.length := by omega
      have : l = lots[k] := by simpa using h3
      rw [this, ← List.drop_eq_getElem_cons hk, List.take_append_drop]
    · unfold putAt
      rw [List.append_assoc]
      rfl
theorem parts_in {tags : List Str} : ∀ ls ∈ partsOf tags, ls.length ≤ tags.length ∧ (∀ l ∈ ls, l ≠ []) ∧ ls.flatten.Perm tags := by
  induction tags using snoc_ind with
  | h0 =>
    intro ls hl
    rw [List.mem_singleton.mp (show ls ∈ [[]] from hl)]
    exact ⟨Nat.le_refl _, fun l h => absurd h List.not_mem_nil, List.Perm.refl _⟩
  | h1 tags t ih =>
    intro ls hl
    rw [parts_snoc] at hl
    obtain ⟨lots, h1, h2⟩ := List.mem_flatMap.mp hl
    obtain ⟨a1, a2, a3⟩ := ih lots h1
    rcases mem_putIn h2 with rfl | ⟨a, l, b, rfl, rfl⟩
    · refine ⟨by simp; omega, fun l hl => ?_, ?_⟩
      · rcases List.mem_append.mp hl with h | h
        · exact a2 l h
        · rw [List.mem_singleton.mp h]
          exact List.cons_ne_nil _ _
      · rw [List.flatten_append]
        exact a3.append (List.Perm.refl _)
    · refine ⟨?_, fun m hm => ?_, ?_⟩
      · rw [List.length_append, List.length_cons] at a1 ⊢
        rw [List.length_append]
        omega
      · rcases List.mem_append.mp hm with h | h
        · exact a2 m (List.mem_append_left _ h)
        · rcases List.mem_cons.mp h with rfl | h
          · simp
          · exact a2 m (List.mem_append_right _ (List.mem_cons_of_mem _ h))
      · rw [List.flatten_append, List.flatten_cons] at a3 ⊢
        have : (a.flatten ++ (l ++ [t] ++ b.flatten)).Perm ((a.flatten ++ (l ++ b.flatten)) ++ [t]) := by
          simp only [List.append_assoc]
          exact ((List.perm_append_comm (l₁ := [t]) (l₂ := b.flatten)).append_left l).append_left _
        exact this.trans (a3.append (List.Perm.refl _))
theorem parts_len (tags : List Str) : (partsOf tags).length ≤ fac tags.length := by
  induction tags using snoc_ind with
  | h0 => exact Nat.le_refl _
  | h1 tags t ih =>
    rw [parts_snoc, List.length_append, List.length_singleton]
    have key : ∀ f : List (List (List Str)), (∀ ls ∈ f, ls.length ≤ tags.length) → (f.flatMap (putIn t)).length ≤ f.length * (tags.length + 1) := fun f hf => by
      induction f with
      | nil => simp
      | cons x f ihf =>
        have h1 := ihf fun y hy => hf y (List.mem_cons_of_mem _ hy)
        have h2 := hf x List.mem_cons_self
        rw [List.flatMap_cons, List.length_append, List.length_cons, Nat.succ_mul]
        have h3 : (putIn t x).length = x.length + 1 := by simp [putIn]
        omega
    exact Nat.le_trans (key _ fun ls h => (parts_in ls h).1) (Nat.mul_le_mul_right _ ih)
theorem part_lot {tags : List Str} {ls : List (List Str)} (h : ls ∈ partsOf tags) {l : List Str} (hl : l ∈ ls) : l.length ≤ tags.length := by
  rw [← (parts_in ls h).2.2.length_eq]
  exact (List.sublist_flatten_of_mem hl).length_le
def sp49 (Z : List NTab) (K : PySem.W.Frag) : Sp := spD Z K fun ds r => ∃ tags : List Str, ds = [namesD tags] ∧ tags.length ≤ 6 ∧ r = .list ((partsOf tags).map lotsD)
theorem len49 {Z : List NTab} {K : PySem.W.Frag} {vs : List V} {H : Hp} {Q : VK} {E : XK} (h : sp49 Z K vs H Q E) : vs.length = 1 := spD_len (n := 1) (by rintro _ _ ⟨B, rfl, _⟩; rfl) h
section
variable {P : Program} {w : World} {K : PySem.W.Frag} {mg : Str → Option Value} {base : Heap} {fa : Nat → Addr} {fd : Nat → FuncData} {tl : Nat → Tok} {Z : List NTab}
theorem ok49 (T : Top K mg fa fd tl)  : FnOk P w K mg base CX0 1 (fa 49) (fd 49) ["_law_tags"] (sp49 Z K) := by
  refine T.F49.ok sc49 (fun vs H Q E h => len49 h) (fun cdv A outer s0 H vs Q E hr h => ?_)
  refine ⟨_, (pss_cons (ps_set (i := 1) nd49 rfl (Or.inl rfl) (pe_lst (pa_cons (pe_tup pa_nil) pa_nil)))
  (pss_cons (ps_for PassesOwn.never rfl (ki_tup K (by rfl) (pv 0)) (pg_name (i := 2) nd49 rfl (Or.inl rfl)) (pss_cons (ps_set (i := 3) nd49 rfl (Or.inl rfl) (pe_lst pa_nil))
  (pss_cons (ps_for PassesOwn.never rfl (ki_list K (by rfl) (pv 1)) (pg_name (i := 4) nd49 rfl (Or.inl rfl)) (pss_cons (ps_expr (ke_bm K (by rfl) PySem.F.plainAttrs_list PySem.F.slot_list_append PySem.F.type_list_append mt_append (pv 3) (pa_cons (pe_op (ko_catA K) (pv 4) (pe_tup (pa_cons (pe_tup (pa_cons (pv 2) pa_nil)) pa_nil))) pa_nil)))
  (pss_one (ps_for PassesOwn.never rfl (ki_enumT K (by rfl) (by rfl) T.m_enumerate (pa_cons (pv 4) pa_nil)) (kg_tup (n := 2) K (by rfl) rfl (pgs_cons (pg_name (i := 5) nd49 rfl (Or.inl rfl)) (pgs_cons (pg_name (i := 6) nd49 rfl (Or.inl rfl)) pgs_nil))) (pss_one (ps_expr (ke_bm K (by rfl) PySem.F.plainAttrs_list PySem.F.slot_list_append PySem.F.type_list_append mt_append (pv 3) (pa_cons (pe_op (ko_catA K) (pe_op (ko_catA K) (pe_slice (kl_tup K) (pv 4) po_none (po_some (pv 5))) (pe_tup (pa_cons (pe_op (ko_catA K) (pv 6) (pe_tup (pa_cons (pv 2) pa_nil))) pa_nil))) (pe_slice (kl_tup K) (pv 4) (po_some (pe_op op_add (pv 5) pe_int)) po_none)) pa_nil))))))))
  (pss_one (ps_set (i := 1) nd49 rfl (Or.inl rfl) (pv 3))))))
  (pss_one (ps_ret (pv 1))))), ?_⟩
  obtain ⟨F, _, _, s, pd, ⟨tags, rfl, few, rfl⟩, q⟩ := h
  obtain ⟨v, rfl, p⟩ := dpa1 pd
  refine q_asg (El.ed (el_lst (K := K) (ds := [lotsD []]) (ead_cons (ed_tup ead_nil (by decide)) ead_nil) (by decide))) s fun fv F1 H1 g1 p1 => ?_
  refine s_for (IW.of_map (iw_tup (ed_var (d := namesD tags) rfl (dp_mono g1.ff p)))) g1.sub (fun i σ1 F2 H2 => ∃ y2 y3 y4 y5 y6 fv, σ1 = [some v, some fv, y2, y3, y4, y5, y6] ∧ Go Z F H F2 H2 ∧ Dp K F2 fv (.list ((partsOf (tags.take i)).map lotsD)))
    (fun F2 H2 g2 => ⟨none, none, none, none, none, fv, rfl, g1.trans g2, dp_mono g2.ff p1⟩) ?_ ?_
  · rintro i t σ1 F2 H2 x F3 H3 hi s2 ⟨y2, y3, y4, y5, y6, fv, rfl, g, pf⟩ g3 tt
    have hx := dp_str tt
    subst hx
    have hil := lt_of_get hi
    have hl : tags.take (i + 1) = tags.take i ++ [t] := take_more hi
    have len2 : (tags.take (i + 1)).length ≤ 6 := by rw [List.length_take]; omega
    have plen := Nat.le_trans (parts_len (tags.take (i + 1))) (fac_few _ len2)
    rw [hl, parts_snoc] at plen
    have gA := g.trans g3
    have plen0 := Nat.le_trans (parts_len (tags.take i)) (fac_few _ (by rw [List.length_take]; omega))
    refine q_asgL (el_lst (K := K) (ds := []) ead_nil (by decide)) gA.sub fun R zs F4 H4 g4 R0 Rf hR pz => ?_
    have R00 : H R = none := gA.back R0
    have gB := gA.trans g4
    have pf4 := dp_mono (g3.ff.trans g4.ff) pf
    refine s_for (D := { nx := _, rt := _, bk := _, ct := _ }) (IW.of_map (iw_list (ed_var (i := 1) rfl pf4))) gB.sub (fun j σ1 F5 H5 => ∃ y4 y5 y6 zs, σ1 = [some v, some fv, some (.str t), some (.ref R), y4, y5, y6] ∧ Go Z F H F5 H5 ∧ Same F2 F5 ∧ H5 R = some (.lst zs) ∧ F5 R = none ∧ DpAll K F5 zs ((((partsOf (tags.take i)).take j).flatMap (putIn t)).map lotsD))
      (fun F5 H5 g5 => ⟨y4, y5, y6, zs, rfl, gB.trans g5, (g3.ff.trans g4.ff).trans g5.ff, g5.hh.lst hR, g5.none_of hR Rf, dpa_mono g5.ff pz⟩) ?_ ?_
    · rintro j lots σ1 F5 H5 x F6 H6 hj s5 ⟨y4, y5, y6, zs, rfl, g5, f25, hR, Rf, pz⟩ g6 tl
      have hm := mem_of_get hj
      obtain ⟨l1, l2, l3⟩ := parts_in lots hm
      rw [List.length_take] at l1
      have take1 : ((partsOf (tags.take i)).take (j + 1)).flatMap (putIn t) = ((partsOf (tags.take i)).take j).flatMap (putIn t) ++ putIn t lots := by
        rw [take_more hj, List.flatMap_append]
        simp
      have bound : (((partsOf (tags.take i)).take j).flatMap (putIn t)).length + (putIn t lots).length ≤ 720 := by
        have h1 : (((partsOf (tags.take i)).take (j + 1)).flatMap (putIn t)).length ≤ ((partsOf (tags.take i)).flatMap (putIn t)).length := by
          conv => rhs; rw [← List.take_append_drop (j + 1) (partsOf (tags.take i)), List.flatMap_append, List.length_append]
          omega
        rw [take1, List.length_append] at h1
        omega
      have plots : (putIn t lots).length = lots.length + 1 := by simp [putIn]
      have gC := g5.trans g6
      have hR6 := g6.hh.lst hR
      have Rf6 := g6.none_of hR Rf
      have zl : zs.length = (((partsOf (tags.take i)).take j).flatMap (putIn t)).length := by rw [dpa_length pz, List.length_map]
      refine q_app (i := 3) (d := lotsD (lots ++ [[t]])) rfl gC R00 Rf6 hR6 (by omega) ?_ fun z F7 H7 g7 f67 Rf7 hR7 p7 => ?_
      · have := ed_catT (K := K) (Z := Z) (F := F6) (σ := [some v, some fv, some (.str t), some (.ref R), some x, y5, y6]) (ta := tVar 4) (tb := tTup (tCons (tTup (tCons (tVar 2) tNil)) tNil)) (ds := lots.map namesD) (es := [namesD [t]]) (ed_var rfl tl) (ed_tup (ead_cons (ed_tup (ead_cons (ev_var rfl).str ead_nil) (by simp)) ead_nil) (by simp)) (by rw [List.length_map]; simp; omega)
        exact this.to (by rw [lotsD, List.map_append]; rfl)
      · have tl7 := dp_mono f67 tl
        have en : (lots.map namesD).zipIdx = lots.zipIdx.map fun p => (namesD p.1, p.2) := by
          rw [List.zipIdx_map]
          rfl
        have hw := iw_enumT (K := K) (Z := Z) (te := tVar 4) (σ := [some v, some fv, some (.str t), some (.ref R), some x, y5, y6]) (F := F7) (ds := lots.map namesD) (ed_var rfl tl7)
        rw [en] at hw
        refine s_for (IW.of_mapG (ls := lots.zipIdx) (f := fun p : List Str × Nat => (namesD p.1, p.2)) hw) g7.sub (fun k σ1 F8 H8 => ∃ y5 y6 zs, σ1 = [some v, some fv, some (.str t), some (.ref R), some x, y5, y6] ∧ Go Z F H F8 H8 ∧ Same F7 F8 ∧ H8 R = some (.lst zs) ∧ F8 R = none ∧ DpAll K F8 zs (((((partsOf (tags.take i)).take j).flatMap (putIn t)) ++ (putIn t lots).take (k + 1)).map lotsD))
          (fun F8 H8 g8 => ⟨y5, y6, zs ++ [z], rfl, g7.trans g8, g8.ff, g8.hh.lst hR7, g8.none_of hR7 Rf7, by
            rw [List.map_append]
            exact dpa_snoc (dpa_mono (g6.ff.trans (f67.trans g8.ff)) pz) (dp_mono g8.ff p7)⟩) ?_ ?_
        · rintro k ⟨lot, k2⟩ σ1 F8 H8 x2 F9 H9 hk s8 ⟨y5, y6, zs, rfl, g8, f78, hR8, Rf8, pz8⟩ g9 t9
          have hk2 : k2 = k ∧ lots[k]? = some lot := by
            rw [List.getElem?_zipIdx] at hk
            cases h : lots[k]? with
            | none => rw [h] at hk; cases hk
            | some x =>
              rw [h] at hk
              simp at hk
              exact ⟨hk.2.symm, by rw [hk.1]⟩
          obtain ⟨rfl, hlot⟩ := hk2
          have hkl := lt_of_get hlot
          refine g_pair t9 g9.sub fun u1 u2 q1 q2 => ?_
          rw [dp_int q1]
          have tl9 := dp_mono (f78.trans g9.ff) tl7
          have hlotl : lot.length ≤ 6 := by
            have := part_lot hm (mem_of_get hlot)
            rw [List.length_take] at this
            omega
          have zl8 : zs.length ≤ 50000 := by
            rw [dpa_length pz8, List.length_map, List.length_append, List.length_take]
            omega
          refine s_app (i := 3) (d := lotsD (putAt t lots (lot, k2))) rfl (g8.trans g9) R00 (g9.none_of hR8 Rf8) (g9.hh.lst hR8) zl8 ?_ fun z2 F10 H10 g10 f910 Rf10 hR10 p10 => ?_
          · have c1 := ed_slT (K := K) (Z := Z) (F := F9) (σ := [some v, some fv, some (.str t), some (.ref R), some x, some (.int (k2 : Nat)), some u2]) (te := tVar 4) (ds := lots.map namesD) (lo := none) (hi := some k2) (ed_var rfl tl9) eo_none (eo_some (te := tVar 5) (ev_var rfl))
            have c2 := ed_slT (K := K) (Z := Z) (F := F9) (σ := [some v, some fv, some (.str t), some (.ref R), some x, some (.int (k2 : Nat)), some u2]) (te := tVar 4) (ds := lots.map namesD) (lo := some (k2 + 1)) (hi := none) (ed_var rfl tl9) (eo_some (te := tOp (rI0 fun i j => .int (i + j)) (tVar 5) (tC (.int 1))) (n := k2 + 1) (Ev.to (ev_i0 (g := fun i j => .int (i + j)) (i := (k2 : Nat)) (j := 1) (ev_var rfl) ev_c) (congrArg V.int (by omega)))) eo_none
            rw [cut_to, ← List.map_take] at c1
            rw [cut_from, ← List.map_drop] at c2
            have c3 := ed_catT (K := K) (Z := Z) (F := F9) (σ := [some v, some fv, some (.str t), some (.ref R), some x, some (.int (k2 : Nat)), some u2]) (ta := tVar 6) (tb := tTup (tCons (tVar 2) tNil)) (ds := lot.map .str) (es := [.str t]) (ed_var rfl q2) (ed_tup (ead_cons (ev_var rfl).str ead_nil) (by simp)) (by rw [List.length_map]; simp; omega)
            have c4 := ed_catT (ed_catT c1 (ed_tup (ead_cons c3 ead_nil) (by simp)) (by rw [List.length_map, List.length_take]; simp; omega)) c2 (by simp only [List.length_append, List.length_map, List.length_take, List.length_drop, List.length_singleton]; omega)
            exact c4.to (by
              unfold lotsD putAt
              rw [List.map_append, List.map_append, List.map_cons, List.map_nil, namesD, List.map_append]
              rfl)
          · refine ⟨F10, g9.ff.trans f910, g10.sub, _, _, zs ++ [z2], rfl, g10, f78.trans (g9.ff.trans f910), hR10, Rf10, ?_⟩
            have ht : (putIn t lots)[k2 + 1]? = some (putAt t lots (lot, k2)) := by
              unfold putIn
              rw [List.getElem?_cons_succ, List.getElem?_map, hk]
              rfl
            rw [take_more ht, ← List.append_assoc, List.map_append]
            exact dpa_snoc (dpa_mono (g9.ff.trans f910) pz8) p10
        · rintro σ1 F8 H8 s8 ⟨y5, y6, zs, rfl, g8, f78, hR8, Rf8, pz8⟩
          have e9 : (putIn t lots).take (lots.zipIdx.length + 1) = putIn t lots := List.take_of_length_le (by rw [List.length_zipIdx, plots]; exact Nat.le_refl _)
          rw [e9] at pz8
          refine ⟨F8, (g6.ff.trans f67).trans f78, s8, _, y5, y6, zs, rfl, g8, f25.trans ((g6.ff.trans f67).trans f78), hR8, Rf8, ?_⟩
          rw [take1]
          exact pz8
    · rintro σ1 F5 H5 s5 ⟨y4, y5, y6, zs, rfl, g5, f25, hR, Rf, pz⟩
      rw [List.take_length, ← parts_snoc, ← hl] at pz
      have gD := g5.freeze R00 hR
      exact ⟨.ref R, rfl, _, f25.trans (same_new Rf), gD.sub, _, _, y4, y5, y6, .ref R, rfl, gD, .lst (.inl (.inl upd_same)) (dpa_mono (same_new Rf) pz)⟩
  · rintro σ1 F2 H2 s2 ⟨y2, y3, y4, y5, y6, fv, rfl, g, pf⟩
    rw [List.take_length] at pf
    exact ⟨fv, rfl, q fv F2 H2 g pf⟩
end
end K21

/-! The machine's end, the sets that add up: 41, 44. -/
namespace K21
open PySem PySem.Spec PyProof.Rows L2 RZ
open NdefX (NTab TabsN TabN)
/-! ### what they are -/
def topI : List Int → Int
  | [] => 0
  | [x] => x
  | x :: y :: r => max x (topI (y :: r))
theorem topI_mem : ∀ {l : List Int}, l ≠ [] → topI l ∈ l
  | [], h => absurd rfl h
  | [x], _ => List.mem_singleton.mpr rfl
  | x :: y :: r, _ => by
    have h := topI_mem (l := y :: r) (List.cons_ne_nil _ _)
    show max x (topI (y :: r)) ∈ _
    by_cases e : x ≤ topI (y :: r)
    · rw [Int.max_eq_right e]
      exact List.mem_cons_of_mem _ h
    · rw [Int.max_eq_left (by omega)]
      exact List.mem_cons_self
theorem topI_ub : ∀ {l : List Int} {z : Int}, z ∈ l → z ≤ topI l
  | [x], z, h => by rw [List.mem_singleton.mp h]; exact Int.le_refl _
  | x :: y :: r, z, h => by
    show z ≤ max x (topI (y :: r))
    rcases List.mem_cons.mp h with rfl | h
    · omega
    · have := topI_ub (l := y :: r) h
      omega
theorem topI_is {l : List Int} {m : Int} (h : m ∈ l) (u : ∀ y ∈ l, y ≤ m) : m = topI l := by
  have h1 := topI_ub h
  have h2 := u _ (topI_mem (List.ne_nil_of_mem h))
  omega
def getI (rs : List (Str × Int)) (n : Str) : Int := ((rs.find? fun p => decide (p.1 = n)).map (·.2)).getD 0
def stepE (B : Blk) (la : Str → Int) (s : Int × List (Str × Int)) (n : Str) : Int × List (Str × Int) :=
  (topI ((s.1 + 1) :: (B.reads n).map (getI s.2)), s.2 ++ [(n, topI ((s.1 + 1) :: (B.reads n).map (getI s.2)) + la n)])
def runE (B : Blk) (la : Str → Int) (o : List Str) : Int × List (Str × Int) := o.foldl (stepE B la) (-1, [])
def endE (B : Blk) (la : Str → Int) (o : List Str) : Int := topI (((runE B la o).1 + 1) :: B.live.map (getI (runE B la o).2))
def lastE (ls : List Str) (n : Str) : Int := if n ∈ ls then 1001 else 1
theorem run_snoc (B : Blk) (la : Str → Int) (o : List Str) (n : Str) : runE B la (o ++ [n]) = stepE B la (runE B la o) n := by
  unfold runE
  rw [List.foldl_append]
  rfl
theorem run_keys (B : Blk) (la : Str → Int) (o : List Str) : (runE B la o).2.map (·.1) = o := by
  induction o using snoc_ind with
  | h0 => rfl
  | h1 o n ih =>
    rw [run_snoc]
    show List.map Prod.fst ((runE B la o).2 ++ [(n, _)]) = _
    rw [List.map_append, ih]
    rfl
theorem find_some {rs : List (Str × Int)} {n : Str} (h : n ∈ rs.map (·.1)) : (rs.find? fun p => decide (p.1 = n)).map (·.2) = some (getI rs n) := by
  unfold getI
  cases e : rs.find? fun p => decide (p.1 = n) with
  | none =>
    obtain ⟨p, hp, rfl⟩ := List.mem_map.mp h
    have := List.find?_eq_none.mp e p hp
    simp at this
  | some p => rfl
def intW (rs : List (Str × Int)) : WL := rs.map fun p => (p.1, .int p.2)
theorem look_int {rs : List (Str × Int)} {n : Str} (h : n ∈ rs.map (·.1)) : wlook (intW rs) n = some (.int (getI rs n)) := by
  have e := find_some h
  unfold wlook intW
  rw [List.find?_map, Option.map_map]
  show ((rs.find? fun p => decide (p.1 = n)).map fun p => PyData.int p.2) = _
  rw [show (fun p : Str × Int => PyData.int p.2) = PyData.int ∘ (fun p : Str × Int => p.2) from rfl, ← Option.map_map, e]
  rfl
def readW (B : Blk) : WL := B.rows.map fun r => (r.nm, namesD r.rd)
theorem look_read {B : Blk} {n : Str} (h : n ∈ B.names) : wlook (readW B) n = some (namesD (B.reads n)) := by
  unfold Blk.names at h
  unfold wlook readW Blk.reads
  generalize B.rows = rs at h ⊢
  induction rs with
  | nil => cases h
  | cons r rs ih =>
    by_cases e : r.nm = n
    · simp [e]
    · have h2 : n ∈ rs.map Row.nm := (List.mem_cons.mp h).resolve_left fun q => e q.symm
      simpa [e] using ih h2
theorem look_last (ls : List Str) (n : Str) : (wlook (ls.map fun x => (x, .int 1001)) n).getD (.int 1) = .int (lastE ls n) := by
  unfold wlook lastE
  induction ls with
  | nil => rfl
  | cons x ls ih =>
    by_cases e : x = n
    · simp [e]
    · have e2 : ¬ n = x := fun q => e q.symm
      simp only [List.map_cons, List.find?_cons, e, decide_false, List.mem_cons, e2, false_or]
      exact ih
section
variable {Z : List NTab} {K : PySem.W.Frag} {σ : St} {F H : Hp} {te : TE} {t : Addr} {kvs : List (Key × V)}
theorem Sub.holdD (s : Sub Z F H) (h : H t = some (.dK kvs)) : Sub Z (upd F t (.dK kvs)) H := ⟨fun b o q => by
    by_cases hb : b = t
    · rw [hb, upd_same] at q; rw [hb, h]; exact q
    · rw [upd_ne hb] at q; exact s.same b o q, fun b ps q => by
    by_cases hb : b = t
    · rw [hb, upd_same] at q; cases q
    · rw [upd_ne hb] at q; exact s.nt b ps q, s.tabs⟩
theorem ev_maxI {ns : List Int} (h : El Z te σ F fun xs F => DpAll K F xs (ns.map .int)) (hn : ns ≠ []) : Ev Z (tCB (rMax K) (tCons te tNil)) σ F (.int (topI ns)) := fun H s Q q =>
  h H s _ fun p xs F1 H1 g h0 h1 h2 pd => ⟨p, ns, rfl, by rw [← dpa_ints pd]; exact .inl (.inl h2), List.length_pos_iff.mpr hn, fun m hm hu => by
    rw [topI_is hm hu]
    exact q H1 g.hh⟩
/-- max([now + 1] + [..]) -/
theorem ev_top {σ : St} {now : Int} {ls : List Str} {j : Nat} {wi : TI} {te : TE} {T : Str → Sh} {f : Str → Int} (hnow : Ev Z te σ F (.int now)) {tg : TE} (hw : IW Z wi σ F ls T) (few : ls.length ≤ 1000) (hv : ∀ x, wipe ((wipe σ [j]).set j (some x)) [j] = wipe σ [j])
    (turn : ∀ l x F1, l ∈ ls → Same F F1 → T l x F1 → Ed Z K tg ((wipe σ [j]).set j (some x)) F1 (.int (f l))) :
    Ev Z (tCB (rMax K) (tCons (tOp rCat (tLst (tCons (tOp (rI0 fun i j => .int (i + j)) te (tC (.int 1))) tNil)) (tLc wi (gName j) tYes tg [j])) tNil)) σ F (.int (topI ((now + 1) :: ls.map f))) := by
  refine ev_maxI (K := K) ?_ (List.cons_ne_nil _ _)
  have h1 := El.fl (el_lst (K := K) (ds := [.int (now + 1)]) (ead_cons (ev_i0 (g := fun i j => .int (i + j)) hnow (ev_c (x := .int 1))).int ead_nil) (by simp))
  have h2 := El.fl (el_map (K := K) (te := tg) (vs := [j]) (fun l => .int (f l)) hw (by omega) hv turn)
  have h3 := el_cat h1 h2 (by simp; omega)
  rw [List.map_cons, List.map_map]
  exact h3
end
/-! ### _law_end -/
def sp41 (Z : List NTab) (K : PySem.W.Frag) : Sp := fun vs H Q _ => ∃ F B o ls v u w, vs = [v, u, w] ∧ Sub Z F H ∧ Dp K F v (blkD B) ∧ Dp K F u (namesD o) ∧ Wd K (ls.map fun x => (x, .int 1001)) w F ∧ Ready B ∧ Ord B o ∧ o.length = B.rows.length ∧ ∀ H', Ext Z H H' → Q (.int (endE B (lastE ls) o)) H'
theorem len41 {Z : List NTab} {K : PySem.W.Frag} {vs : List V} {H : Hp} {Q : VK} {E : XK} (h : sp41 Z K vs H Q E) : vs.length = 3 := by
  obtain ⟨F, B, o, ls, v, u, w, rfl, _⟩ := h
  rfl
theorem Ord.reads {B : Blk} {o : List Str} (h : Ord B o) {i : Nat} {n : Str} (hi : o[i]? = some n) : ∀ x ∈ B.reads n, x ∈ o.take i := fun x hx => by
  have h1 := List.all_eq_true.mp h.frw (n, i) (List.mem_iff_getElem?.mpr ⟨i, by rw [List.getElem?_zipIdx, hi]; simp⟩)
  exact of_decide_eq_true (List.all_eq_true.mp h1 x hx)
theorem Ready.reads_few {B : Blk} (h : Ready B) (n : Str) : (B.reads n).length ≤ 50 := by
  unfold Blk.reads
  cases e : B.rows.find? fun r => decide (r.nm = n) with
  | none => simp
  | some r => exact h.rds r (List.mem_of_find?_eq_some e)
theorem Ord.perm {B : Blk} {o : List Str} (h : Ord B o) (hl : o.length = B.rows.length) : o.Perm B.names := nodup_sub_perm h.nd h.sub (by rw [Blk.names, List.length_map]; omega)
section
variable {P : Program} {w : World} {K : PySem.W.Frag} {mg : Str → Option Value} {base : Heap} {fa : Nat → Addr} {fd : Nat → FuncData} {tl : Nat → Tok} {Z : List NTab}
theorem ok41 (T : Top K mg fa fd tl)  : FnOk P w K mg base CX0 1 (fa 41) (fd 41) ["_law_block_so", "_law_line_so", "_law_lasts_so"] (sp41 Z K) := by
  refine T.F41.ok sc41 (fun vs H Q E h => len41 h) (fun cdv A outer s0 H vs Q E hr h => ?_)
  refine ⟨_, (pss_cons (ps_asg (pe_tup (pa_cons (pe_callTy (kc_dictP K (by rfl) rfl) (by rfl) T.m_dict bt_dict (pa_cons (pe_lc (own := [("_law_own", 7)]) (tt := tYes) rfl nd41 (ki_tup K (by rfl) (pe_ix (kx_tup K) (pv 0) pe_int (fun _ _ => rfl))) (blkOk_by (N := ["_law_block_so", "_law_line_so", "_law_lasts_so", "_law_reads_so", "_law_ready_so", "_law_now", "_law_tag", "_law_own"]) (sc := (defScope s41)) (own := [("_law_own", 7)]) (by decide +kernel)) (fun _ _ _ _ _ => (pg_name (i := 7) nd41 rfl (Or.inl rfl))) (fun _ _ _ _ _ => pts_nil) (fun _ _ _ _ _ => (pe_slice (kl_tup K) (pv 7) po_none (po_some pe_int)))) pa_nil)) (pa_cons pe_dnewK (pa_cons (pe_un un_neg pe_int) pa_nil)))) (kg_tup (n := 3) K (by rfl) rfl (pgs_cons (pg_name (i := 3) nd41 rfl (Or.inl rfl)) (pgs_cons (pg_name (i := 4) nd41 rfl (Or.inr rfl)) (pgs_cons (pg_name (i := 5) nd41 rfl (Or.inl rfl)) pgs_nil)))))
  (pss_cons (ps_for PassesOwn.never rfl (ki_tup K (by rfl) (pv 1)) (pg_name (i := 6) nd41 rfl (Or.inl rfl)) (pss_cons (ps_set (i := 5) nd41 rfl (Or.inl rfl) (pe_callB (kc_max K (by rfl) rfl) (by rfl) T.m_max bt_max (pa_cons (pe_op op_cat (pe_lst (pa_cons (pe_op op_add (pv 5) pe_int) pa_nil)) (pe_lc (own := [("_law_own", 7)]) (tt := tYes) rfl nd41 (ki_tup K (by rfl) (pe_dget (hu_of hr) (pv 3) (pv 6) (fun _ _ => rfl))) (blkOk_by (N := ["_law_block_so", "_law_line_so", "_law_lasts_so", "_law_reads_so", "_law_ready_so", "_law_now", "_law_tag", "_law_own"]) (sc := (defScope s41)) (own := [("_law_own", 7)]) (by decide +kernel)) (fun _ _ _ _ _ => (pg_name (i := 7) nd41 rfl (Or.inl rfl))) (fun _ _ _ _ _ => pts_nil) (fun _ _ _ _ _ => (pe_dget (hu_of hr) (pv 4) (pv 7) (fun _ _ => rfl))))) pa_nil)))
  (pss_one (ps_dput (hu_of hr) (pv 4) (pv 6) (pe_op op_add (pv 5) (pe_dget2 (hu_of hr) (pv 2) (pv 6) pe_int ⟨rfl, rfl, rfl, rfl⟩)) rfl))))
  (pss_one (ps_ret (pe_callB (kc_max K (by rfl) rfl) (by rfl) T.m_max bt_max (pa_cons (pe_op op_cat (pe_lst (pa_cons (pe_op op_add (pv 5) pe_int) pa_nil)) (pe_lc (own := [("_law_tag", 6)]) (tt := tYes) rfl nd41 (ki_tup K (by rfl) (pe_ix (kx_tup K) (pv 0) pe_int (fun _ _ => rfl))) (blkOk_by (N := ["_law_block_so", "_law_line_so", "_law_lasts_so", "_law_reads_so", "_law_ready_so", "_law_now", "_law_tag", "_law_own"]) (sc := (defScope s41)) (own := [("_law_tag", 6)]) (by decide +kernel)) (fun _ _ _ _ _ => (pg_name (i := 6) nd41 rfl (Or.inl rfl))) (fun _ _ _ _ _ => pts_nil) (fun _ _ _ _ _ => (pe_dget (hu_of hr) (pv 4) (pv 6) (fun _ _ => rfl))))) pa_nil)))))), ?_⟩
  obtain ⟨F, B, o, ls, v, u, w, rfl, s, pb, po, pw, hB, hO, hl, q⟩ := h
  have few := hB.few
  have mk : Es Z (tCB (rDictP K) (tCons (tLc (iTup K (tOp (rIxT K) (tVar 0) (tC (.int 0)))) (gName 7) tYes (tSl (rSlA K) (tVar 7) tNoPart (tPart (tC (.int 2)))) [7]) tNil)) [some v, some u, some w, none, none, none, none, none] F (Wd K (readW B)) := by
    refine es_dictP ?_ (by unfold readW; rw [List.map_map]; exact hB.nd)
    unfold readW
    rw [List.map_map]
    refine el_map (K := K) (fun r : Row => .tuple [.str r.nm, namesD r.rd]) (IW.of_map (iw_tup (ed_ixT (j := 0) (ed_var (i := 0) rfl pb) ev_c rfl))) (by omega) (fun _ => rfl) fun r x F1 hr e t => ?_
    have := ed_slT (K := K) (Z := Z) (F := F1) (te := tVar 7) (σ := [some v, some u, some w, none, none, none, none, some x]) (ds := [.str r.nm, namesD r.rd, .bool r.sl]) (lo := none) (hi := some 2) (ed_var rfl t) eo_none (eo_some (te := tC (.int 2)) (n := 2) ev_c)
    rw [cut_to] at this
    exact this
  refine mk H s _ fun rv F1 H1 g1 p1 => fun R R0 => ?_
  have g2 : Go Z F H F1 (upd H1 R (.dK [])) := g1.trans (Go.ext g1.sub (ext_new R0))
  have R00 : H R = none := g1.back R0
  have Rf : F1 R = none := g1.sub.free R0
  refine ⟨1, rfl, (by decide : 3 ≤ sizeLine), fun T T0 => ?_⟩
  have g3 : Go Z F H F1 (upd (upd H1 R (.dK [])) T (.tup [rv, .ref R, .int (-1)])) := g2.trans (Go.ext g2.sub (ext_new T0))
  have hR3 : upd (upd H1 R (.dK [])) T (.tup [rv, .ref R, .int (-1)]) R = some (.dK []) := by
    rw [upd_ne fun e => by rw [← e, upd_same] at T0; cases T0]
    exact upd_same
  refine ⟨T, [rv, .ref R, .int (-1)], rfl, .inl (.inl upd_same), rfl, _, _, rfl, _, _, rfl, _, _, rfl, rfl, ?_⟩
  generalize upd (upd H1 R (.dK [])) T (.tup [rv, .ref R, .int (-1)]) = H3 at g3 hR3
  refine s_for (IW.of_map (iw_tup (ed_var (i := 1) (d := namesD o) rfl (dp_mono g3.ff po)))) g3.sub (fun i σ1 F2 H2 => ∃ y6 kvs, σ1 = [some v, some u, some w, some rv, some (.ref R), some (.int (runE B (lastE ls) (o.take i)).1), y6, none] ∧ Go Z F H F2 H2 ∧ Wd K (readW B) rv F2 ∧ H2 R = some (.dK kvs) ∧ F2 R = none ∧ KvD K F2 kvs (intW (runE B (lastE ls) (o.take i)).2))
    (fun F2 H2 g => ⟨none, [], rfl, g3.trans g, mono_wd _ _ _ g.ff p1, g.hh.dK hR3, g.none_of hR3 Rf, .nil⟩) ?_ ?_
  · rintro i n σ1 F2 H2 x F3 H3 hi s2 ⟨y6, kvs, rfl, g, pr, hR, Rf, kd⟩ g4 tt
    have hx := dp_str tt
    subst hx
    have gA := g.trans g4
    have hn : n ∈ B.names := hO.sub n (mem_of_get hi)
    have hR4 := g4.hh.dK hR
    have Rf4 := g4.none_of hR Rf
    have kd4 := kvd_mono g4.ff kd
    have pr4 := mono_wd _ _ _ g4.ff pr
    have hold := gA.sub.holdD hR4
    have kk := run_keys B (lastE ls) (o.take i)
    have same5 : Same F3 (upd F3 R (.dK kvs)) := fun b o e => by rw [upd_ne (ne_of_none e Rf4)]; exact e
    have hm := ev_top (K := K) (Z := Z) (F := upd F3 R (.dK kvs)) (σ := [some v, some u, some w, some rv, some (.ref R), some (.int (runE B (lastE ls) (o.take i)).1), some (.str n), none]) (te := tVar 5) (j := 7) (wi := iTup K (tDGet (tVar 3) (tVar 6))) (tg := tDGet (tVar 4) (tVar 7)) (f := getI (runE B (lastE ls) (o.take i)).2) (ev_var rfl)
      (IW.of_map (iw_tup (ed_dget (es_var rfl (mono_wd _ _ _ same5 pr4)) (ev_var rfl) (look_read hn)))) (by have := hB.reads_few n; omega) (fun _ => rfl) (fun l x F5 hl e t => by
        have hx := dp_str t
        subst hx
        refine ed_dget (es_var rfl ⟨R, kvs, rfl, e _ _ upd_same, kvd_mono (same5.trans e) kd4⟩) (ev_var rfl) (look_int ?_)
        rw [kk]
        exact hO.reads hi l hl)
    refine q_asgV hm hold fun H4 e4 s4 => ?_
    have gB := gA.trans (Go.ext gA.sub e4)
    refine (ev_i0 (g := fun i j => .int (i + j)) (ev_var (i := 5) rfl) (ed_dget2 (K := K) (td := tVar 2) (ty := tVar 6) (tx := tC (.int 1)) (F := F3) (es_var rfl (mono_wd _ _ _ gA.ff pw)) (ev_var rfl) (dx := .int 1) ev_c.int |>.to (look_last ls n)).int) H4 gB.sub _ fun H5 e5 => ⟨.ref R, rfl, .str n, rfl, R, _, rfl, .inl ⟨kvs, .inr n, e5.dK (e4.dK hR4), rfl, ?_, rfl⟩, ?_⟩
    · refine line_lt ?_
      have h1 := paired_len kd
      have h2 := congrArg List.length kk
      rw [List.length_map, List.length_take] at h2
      unfold intW at h1
      rw [List.length_map] at h1
      have h3 := lt_of_get hi
      omega
    · have gC := (gB.trans (Go.ext gB.sub e5)).mutD R00 Rf4 (e5.dK (e4.dK hR4)) (ys := putK kvs (Sum.inr n) (.int (topI (((runE B (lastE ls) (o.take i)).1 + 1) :: (B.reads n).map (getI (runE B (lastE ls) (o.take i)).2)) + lastE ls n)))
      have fresh : n ∉ (intW (runE B (lastE ls) (o.take i)).2).map (·.1) := by
        unfold intW
        rw [List.map_map]
        show n ∉ (runE B (lastE ls) (o.take i)).2.map (·.1)
        rw [kk]
        intro hm
        have := idx_take hO.nd hm
        rw [idx_at hO.nd hi] at this
        omega
      refine ⟨F3, g4.ff, gC.sub, ?_⟩
      rw [take_more hi, run_snoc]
      refine ⟨_, _, rfl, gC, pr4, upd_same, Rf4, ?_⟩
      rw [putK_new _ (valV_none_of kd4 fresh)]
      show KvD K F3 _ (intW ((runE B (lastE ls) (o.take i)).2 ++ [(n, _)]))
      unfold intW
      rw [List.map_append]
      exact kvd_snoc kd4 (.int _)
  · rintro σ1 F2 H2 s2 ⟨y6, kvs, rfl, g, pr, hR, Rf, kd⟩
    rw [List.take_length] at *
    have hold := g.sub.holdD hR
    have kk := run_keys B (lastE ls) o
    have same5 : Same F2 (upd F2 R (.dK kvs)) := fun b o e => by rw [upd_ne (ne_of_none e Rf)]; exact e
    have hm := ev_top (K := K) (Z := Z) (F := upd F2 R (.dK kvs)) (σ := [some v, some u, some w, some rv, some (.ref R), some (.int (runE B (lastE ls) o).1), y6, none]) (te := tVar 5) (j := 6) (wi := iTup K (tOp (rIxT K) (tVar 0) (tC (.int 1)))) (tg := tDGet (tVar 4) (tVar 6)) (f := getI (runE B (lastE ls) o).2) (ev_var rfl)
      (IW.of_map (iw_tup (ed_ixT (j := 1) (d := namesD B.live) (ed_var rfl (dp_mono (g.ff.trans same5) pb)) ev_c rfl))) (by have := hB.lives; omega) (fun _ => rfl) (fun l x F5 hl2 e t => by
        have hx := dp_str t
        subst hx
        refine ed_dget (es_var rfl ⟨R, kvs, rfl, e _ _ upd_same, kvd_mono (same5.trans e) kd⟩) (ev_var rfl) (look_int ?_)
        rw [kk]
        exact (hO.perm hl).mem_iff.mpr (hB.liv l hl2))
    exact s_retV (D := { nx := fun _ H' => Q .non H', rt := Q }) hm hold fun H4 e4 _ => q H4 (g.hh.trans e4)
end
end K21

/-! The sets that add up: 44. The box, the cells: 31, 33. -/
namespace K21
open PySem PySem.Spec PyProof.Rows L2 RZ
open NdefX (NTab TabsN TabN)
/-! ### _law_adding -/
def addOk (B : Blk) (o S : List Str) : Bool := decide ((1000 : Int) * (S.length : Nat) ≤ endE B (lastE S) o)
def addingOf (B : Blk) (o : List Str) : List (List Str) := (sortT (setsOf B.awaited)).filter (addOk B o)
theorem adding_mem {B : Blk} {o S : List Str} : S ∈ addingOf B o ↔ S.Sublist B.awaited ∧ addOk B o S = true := by
  unfold addingOf
  rw [List.mem_filter, sortT, (isort_perm _).mem_iff, sets_sub]
def sp44 (Z : List NTab) (K : PySem.W.Frag) : Sp := spD Z K fun ds r => ∃ B o, ds = [blkD B, namesD o] ∧ Ready B ∧ Ord B o ∧ o.length = B.rows.length ∧ B.awaited.length ≤ 10 ∧ r = .list ((addingOf B o).map namesD)
theorem len44 {Z : List NTab} {K : PySem.W.Frag} {vs : List V} {H : Hp} {Q : VK} {E : XK} (h : sp44 Z K vs H Q E) : vs.length = 2 := spD_len (n := 2) (by rintro _ _ ⟨B, o, rfl, _⟩; rfl) h
theorem sorted_sets_few {tags : List Str} (h : tags.length ≤ 10) : (sortT (setsOf tags)).length ≤ 1024 := by
  rw [sortT, (isort_perm _).length_eq, sets_len]
  exact pow_few h
section
variable {P : Program} {w : World} {K : PySem.W.Frag} {mg : Str → Option Value} {base : Heap} {fa : Nat → Addr} {fd : Nat → FuncData} {tl : Nat → Tok} {Z : List NTab}
theorem ok44 (T : Top K mg fa fd tl) (G41 : FnOk P w K mg base CX0 1 (fa 41) (fd 41) ["_law_block_so", "_law_line_so", "_law_lasts_so"] (sp41 Z K)) (G42 : FnOk P w K mg base CX0 1 (fa 42) (fd 42) ["_law_block_so"] (sp42 Z K)) (G43 : FnOk P w K mg base CX0 1 (fa 43) (fd 43) ["_law_tags"] (sp43 Z K)) : FnOk P w K mg base CX0 2 (fa 44) (fd 44) ["_law_block_so", "_law_line_so"] (sp44 Z K) := by
  refine T.F44.ok sc44 (fun vs H Q E h => len44 h) (fun cdv A outer s0 H vs Q E hr h => ?_)
  refine ⟨_, (pss_cons (ps_set (i := 2) nd44 rfl (Or.inl rfl) (pe_lst pa_nil))
  (pss_cons (ps_for PassesOwn.never rfl (ki_list K (by rfl) (pe_call G43 (hr.mono (by decide)) (by rfl) T.g43 T.F43.kp T.b43 .nil pass0 (pa_cons (pe_call G42 (hr.mono (by decide)) (by rfl) T.g42 T.F42.kp T.b42 .nil pass0 (pa_cons (pv 0) pa_nil)) pa_nil))) (pg_name (i := 3) nd44 rfl (Or.inl rfl)) (pss_cons (ps_set (i := 4) nd44 rfl (Or.inl rfl) (pe_callTy (kc_dictP K (by rfl) rfl) (by rfl) T.m_dict bt_dict (pa_cons (pe_lc (own := [("_law_tag", 5)]) (tt := tYes) rfl nd44 (ki_tup K (by rfl) (pv 3)) (blkOk_by (N := ["_law_block_so", "_law_line_so", "_law_found", "_law_some_so", "_law_lasts_so", "_law_tag"]) (sc := (defScope s44)) (own := [("_law_tag", 5)]) (by decide +kernel)) (fun _ _ _ _ _ => (pg_name (i := 5) nd44 rfl (Or.inl rfl))) (fun _ _ _ _ _ => pts_nil) (fun _ _ _ _ _ => (pe_tup (pa_cons (pv 5) (pa_cons pe_int pa_nil))))) pa_nil)))
  (pss_one (ps_if (pt_cmpR op_ge (pe_call G41 (hr.mono (by decide)) (by rfl) T.g41 T.F41.kp T.b41 .nil pass0 (pa_cons (pv 0) (pa_cons (pv 1) (pa_cons (pv 4) pa_nil)))) (pe_op op_mul pe_int (pe_callB (kc_len K) (by rfl) T.m_len bt_len (pa_cons (pv 3) pa_nil))) (nomark _)) (pss_one (ps_expr (ke_bm K (by rfl) PySem.F.plainAttrs_list PySem.F.slot_list_append PySem.F.type_list_append mt_append (pv 2) (pa_cons (pv 3) pa_nil)))) pss_nil))))
  (pss_one (ps_ret (pv 2))))), ?_⟩
  obtain ⟨F, _, _, s, pd, ⟨B, o, rfl, hB, hO, hl, few, rfl⟩, q⟩ := h
  obtain ⟨v, u, rfl, pb, po⟩ := dpa2 pd
  have nd := awaited_nodup hB.nd
  have lens := sorted_sets_few few
  refine q_asgL (el_lst (K := K) (ds := []) ead_nil (by decide)) s fun R zs F1 H1 g1 R0 Rf hR pz => ?_
  have hsets : Ed Z K (tCall (sp43 Z K) [] E0 (tCons (tCall (sp42 Z K) [] E0 (tCons (tVar 0) tNil)) tNil)) [some v, some u, some (.ref R), none, none, none] F1 (.list ((sortT (setsOf B.awaited)).map namesD)) :=
    ed_call (ead_cons (ed_call (ead_cons (ed_var rfl (dp_mono g1.ff pb)) ead_nil) ⟨B, rfl, hB, rfl⟩) ead_nil) ⟨B.awaited, rfl, few, rfl⟩
  refine s_for (IW.of_map (iw_list hsets)) g1.sub (fun i σ1 F2 H2 => ∃ y3 y4 zs, σ1 = [some v, some u, some (.ref R), y3, y4, none] ∧ Go Z F H F2 H2 ∧ H2 R = some (.lst zs) ∧ F2 R = none ∧ DpAll K F2 zs ((((sortT (setsOf B.awaited)).take i).filter (addOk B o)).map namesD))
    (fun F2 H2 g2 => ⟨none, none, zs, rfl, g1.trans g2, g2.hh.lst hR, g2.none_of hR Rf, dpa_mono g2.ff pz⟩) ?_ ?_
  · rintro i S σ1 F2 H2 x F3 H3 hi s2 ⟨y3, y4, zs, rfl, g, hR, Rf, pz⟩ g3 tt
    have gA := g.trans g3
    have hS : S.Sublist B.awaited := sets_sub.mp ((isort_perm _).mem_iff.mp (mem_of_get hi))
    have hSl := hS.length_le
    have mk : Es Z (tCB (rDictP K) (tCons (tLc (iTup K (tVar 3)) (gName 5) tYes (tTup (tCons (tVar 5) (tCons (tC (.int 1001)) tNil))) [5]) tNil)) [some v, some u, some (.ref R), some x, y4, none] F3 (Wd K (S.map fun x => (x, .int 1001))) := by
      refine es_dictP ?_ (by rw [List.map_map]; show (S.map fun x => x).Nodup; rw [List.map_id']; exact nd.sublist hS)
      rw [List.map_map]
      refine el_map (K := K) (fun n : Str => .tuple [.str n, .int 1001]) (IW.of_map (iw_tup (ed_var (i := 3) (d := namesD S) rfl tt))) (by omega) (fun _ => rfl) fun n x F1 hr e t => ed_tup (ead_cons (ed_var rfl t) (ead_cons ev_c.int ead_nil)) (by simp)
    refine q_asg mk gA.sub fun lw F4 H4 g4 p4 => ?_
    have gB := gA.trans g4
    have hR4 := g4.hh.lst (g3.hh.lst hR)
    have Rf4 := g4.none_of (g3.hh.lst hR) (g3.none_of hR Rf)
    have e24 := g3.ff.trans g4.ff
    have h41 : Ev Z (tCall (sp41 Z K) [] E0 (tCons (tVar 0) (tCons (tVar 1) (tCons (tVar 4) tNil)))) [some v, some u, some (.ref R), some x, some lw, none] F4 (.int (endE B (lastE S) o)) := fun H s Q q => ⟨v, rfl, u, rfl, lw, rfl, F4, B, o, S, v, u, lw, rfl, s, dp_mono gB.ff pb, dp_mono gB.ff po, p4, hB, hO, hl, q⟩
    have hlen := ev_lenT (K := K) (Z := Z) (F := F4) (te := tVar 3) (σ := [some v, some u, some (.ref R), some x, some lw, none]) (ds := S.map .str) (ed_var rfl (dp_mono g4.ff tt))
    rw [List.length_map] at hlen
    refine s_if (b := addOk B o S) (et_test (ev_i0 (g := fun i j => .bl (decide (j ≤ i))) h41 (ev_iC (C := CMul) (g := fun i j => .int (i * j)) ev_c hlen (.inl (by decide))))) gB.sub (fun e H5 e5 s5 => ?_) fun e H5 e5 s5 => ?_
    · refine s_app (i := 2) (d := namesD S) rfl (gB.trans (Go.ext gB.sub e5)) R0 Rf4 (e5.lst hR4) ?_ (ed_var rfl (dp_mono g4.ff tt)) fun z F6 H6 g6 f46 Rf6 hR6 p6 => ⟨F6, e24.trans f46, g6.sub, _, _, zs ++ [z], rfl, g6, hR6, Rf6, ?_⟩
      · have h1 := List.length_filter_le (addOk B o) ((sortT (setsOf B.awaited)).take i)
        rw [List.length_take] at h1
        rw [dpa_length pz, List.length_map]
        omega
      · rw [filter_take_more hi, if_pos e, List.map_append]
        exact dpa_snoc (dpa_mono (e24.trans f46) pz) p6
    · refine ⟨F4, e24, s5, _, _, zs, rfl, gB.trans (Go.ext gB.sub e5), e5.lst hR4, Rf4, ?_⟩
      rw [filter_take_more hi, if_neg (by rw [e]; decide), List.append_nil]
      exact dpa_mono e24 pz
  · rintro σ1 F2 H2 s2 ⟨y3, y4, zs, rfl, g, hR, Rf, pz⟩
    rw [List.take_length] at pz
    have gA := g.freeze R0 hR
    exact ⟨.ref R, rfl, q (.ref R) _ H2 gA (.lst (.inl (.inl upd_same)) (dpa_mono (same_new Rf) pz))⟩
end
theorem s_retL {Z : List NTab} {σ : St} {F H : Hp} {te : TE} {D : Ends} {R : ShL} (h : El Z te σ F R) (s : Sub Z F H) (k : ∀ p xs F' H', Go Z F H F' H' → H p = none → F' p = none → H' p = some (.lst xs) → R xs F' → D.rt (.ref p) H') : tRet te D σ H := h H s _ k
/-! ### _law_box -/
def sp31 (Z : List NTab) (K : PySem.W.Frag) : Sp := fun vs H Q _ => ∃ F, ∃ cs : List Int, ∃ k : Nat, ∃ w, vs = [w, .int (k : Nat)] ∧ Sub Z F H ∧ Dp K F w (.list (cs.map .int)) ∧ k < cs.length ∧ ∀ p F' H' l, Go Z F H F' H' → H p = none → F' p = none → H' p = some (.lst l) → TubL 0 l → Q (.ref p) H'
theorem len31 {Z : List NTab} {K : PySem.W.Frag} {vs : List V} {H : Hp} {Q : VK} {E : XK} (h : sp31 Z K vs H Q E) : vs.length = 2 := by
  obtain ⟨F, cs, k, w, rfl, _⟩ := h
  rfl
section
variable {P : Program} {w : World} {K : PySem.W.Frag} {mg : Str → Option Value} {base : Heap} {fa : Nat → Addr} {fd : Nat → FuncData} {tl : Nat → Tok} {Z : List NTab}
theorem ok31 (T : Top K mg fa fd tl)  : FnOk P w K mg base CX0 1 (fa 31) (fd 31) ["_law_script", "_law_k"] (sp31 Z K) := by
  refine T.F31.ok sc31 (fun vs H Q E h => len31 h) (fun cdv A outer s0 H vs Q E hr h => ?_)
  refine ⟨_, (pss_cons (ps_set (i := 2) nd31 rfl (Or.inl rfl) (pe_ifExp (pt_cmpR op_lt (pv 1) (pe_callB (kc_len K) (by rfl) T.m_len bt_len (pa_cons (pv 0) pa_nil)) (nomark _)) (pe_ix (kx_list K) (pv 0) (pv 1) (fun _ _ => rfl)) pe_int))
  (pss_one (ps_ret (pe_lst (pa_cons (pe_op op_mul (pe_callB kc_abs (by rfl) T.m_abs bt_abs (pa_cons (pv 2) pa_nil)) (pe_callTy kc_int1 (by rfl) T.m_int bt_int (pa_cons (pe_cmpR op_ge (pe_callB kc_abs (by rfl) T.m_abs bt_abs (pa_cons (pv 2) pa_nil)) (pe_op op_pow pe_int pe_int) (nomark _)) pa_nil))) (pa_cons (pe_op op_add (pe_op op_add (pe_op op_modN (pe_callTy kc_int1 (by rfl) T.m_int bt_int (pa_cons (pv 2) pa_nil)) pe_int) (pe_op op_mul pe_int (pv 1))) pe_int) (pa_cons pe_int pa_nil))))))), ?_⟩
  obtain ⟨F, cs, k, w, rfl, s, p, hk, q⟩ := h
  have hs : ∀ {σ F1}, σ[0]? = some (some w) → Same F F1 → Ed Z K (tVar 0) σ F1 (.list (cs.map .int)) := fun h e => ed_var h (dp_mono e p)
  obtain ⟨c, hc⟩ := get_of_lt hk
  have hlen := ev_lenL (K := K) (Z := Z) (hs (σ := L2.start ["_law_script", "_law_k", "_law_cell"] [w, .int (k : Nat)]) rfl (Same.refl _))
  rw [List.length_map] at hlen
  refine q_asgV (x := .int c) (ev_if (b := decide (((k : Nat) : Int) < ((cs.length : Nat) : Int))) (et_test (ev_i0 (g := fun i j => .bl (decide (i < j))) (ev_var rfl) hlen)) (fun _ => (ed_ixL (j := k) (d := .int c) (hs rfl (Same.refl _)) (ev_var rfl) (by rw [List.getElem?_map, hc]; rfl)).int) fun e => ?_) s fun H1 e1 s1 => ?_
  · exact absurd (of_decide_eq_false e) (by omega)
  · refine s_retL (el_lst (K := K) (ds := [.int _, .int _, .int 0]) (ead_cons (ev_iC (C := CMul) (g := fun i j => .int (i * j)) (ev_abs (ev_var rfl)) (ev_intB (ev_i0 (g := fun i j => .bl (decide (j ≤ i))) (ev_abs (ev_var rfl)) (ev_iC (C := CPow) (g := fun i j => .int (i ^ j.toNat)) ev_c ev_c ?_))) ?_).int
      (ead_cons (ev_i0 (g := fun i j => .int (i + j)) (ev_i0 (g := fun i j => .int (i + j)) (ev_iC (C := fun _ j => j ≠ 0) (g := fun i j => .int (i.fmod j)) (ev_int1 (ev_var rfl)) ev_c ?_) (ev_iC (C := CMul) (g := fun i j => .int (i * j)) ev_c (ev_var rfl) ?_)) ev_c).int (ead_cons ev_c.int ead_nil))) (by simp)) s1 fun R zs F2 H2 g2 R0 Rf hR pz => q R F2 H2 zs ((Go.ext s e1).trans g2) (e1.free R0) Rf hR ?_
    · exact ⟨by decide, by decide, by decide⟩
    · have key : ∀ b : Bool, -(2 ^ 64) < (if b = true then (1 : Int) else 0) ∧ (if b = true then (1 : Int) else 0) < 2 ^ 64 := by decide
      exact .inr (key _)
    · decide
    · exact .inl (by decide)
    obtain ⟨v1, v2, v3, rfl, q1, q2, q3⟩ := dpa3 pz
    rw [dp_int q1, dp_int q2, dp_int q3]
    exact ⟨_, _, 0, rfl, Nat.le_refl _⟩
end
/-! ### _law_cells -/
def sp33 (Z : List NTab) (K : PySem.W.Frag) : Sp := fun vs H Q _ => ∃ F, ∃ sc : List Int, ∃ w, vs = [w, .int 2] ∧ Sub Z F H ∧ Dp K F w (.list (sc.map .int)) ∧ sc.length ≤ 63 ∧ ∀ (cs : List Int) v F' H', 1 ≤ cs.length → cs.length ≤ 2 → Go Z F H F' H' → Dp K F' v (.list (cs.map .int)) → Q v H'
theorem cut_map {α β : Type} (f : α → β) (ds : List α) (lo hi : Option Nat) : cutD (ds.map f) lo hi = (cutD ds lo hi).map f := by
  unfold cutD
  rw [List.length_map, List.map_take, List.map_drop]
section
variable {Z : List NTab} {K : PySem.W.Frag} {F H F1 H1 : Hp} {Q : VK}
theorem dpa_intsL : ∀ {cs : List Int}, DpAll K F (cs.map V.int) (cs.map PyData.int)
  | [] => .nil
  | _ :: _ => .cons (.int _) dpa_intsL
theorem cells_tail {sc cs : List Int} {w : V} {R : Addr} (p : Dp K F w (.list (sc.map .int))) (few : sc.length ≤ 63) (g : Go Z F H F1 H1) (R0 : H R = none) (Rf : F1 R = none) (hR : H1 R = some (.lst (cs.map V.int))) (c1 : 1 ≤ cs.length) (c2 : cs.length ≤ 2) (c3 : 2 < sc.length → cs.length = 2)
    (q : ∀ (cs : List Int) v F' H', 1 ≤ cs.length → cs.length ≤ 2 → Go Z F H F' H' → Dp K F' v (.list (cs.map .int)) → Q v H') :
    tSeq (tFor (iEnum K (tCons (tSl (rSlL K) (tVar 0) (tPart (tVar 1)) (tPart (tC (.int 63)))) tNil)) (gTup K 2 (gCons (gName 3) (gCons (gName 4) gNil)))
      (tSeq (tAsg (tOp (rI (fun _ j => j ≠ 0) fun i j => .int (i.fmod j)) (tCB rInt1 (tCons (tVar 3) tNil)) (tVar 1)) (gName 5))
        (tAsg (tOp (rI0 fun i j => .int (i + j)) (tOp (rIxL K) (tVar 2) (tVar 5)) (tOp (rI CMul fun i j => .int (i * j)) (tVar 4) (tOp (rI0 fun i j => .int (i + j)) (tVar 3) (tC (.int 2))))) (gSub (tVar 2) (tVar 5) rSetL))))
      (tRet (tVar 2)) { nx := fun _ H' => Q .non H', rt := Q } [some w, some (.int 2), some (.ref R), none, none, none] H1 := by
  have hc := El.ed (el_slL (K := K) (Z := Z) (F := F1) (σ := [some w, some (.int 2), some (.ref R), none, none, none]) (te := tVar 0) (lo := some 2) (hi := some 63) (ed_var rfl (dp_mono g.ff p)) (eo_some (te := tVar 1) (n := 2) (ev_var rfl)) (eo_some (te := tC (.int 63)) (n := 63) ev_c))
  rw [cut_map] at hc
  have hw := iw_enumL hc
  have en : ((cutD sc (some 2) (some 63)).map PyData.int).zipIdx = (cutD sc (some 2) (some 63)).zipIdx.map fun p => (PyData.int p.1, p.2) := by
    rw [List.zipIdx_map]
    rfl
  rw [en] at hw
  have hlen : (cutD sc (some 2) (some 63)).length ≤ sc.length - 2 := by
    unfold cutD
    rw [List.length_take, List.length_drop]
    show min _ (sc.length - min 2 sc.length) ≤ _
    omega
  refine s_for (IW.of_mapG (ls := (cutD sc (some 2) (some 63)).zipIdx) (f := fun p : Int × Nat => (PyData.int p.1, p.2)) hw) g.sub (fun i σ1 F2 H2 => ∃ y3 y4 y5, ∃ es : List Int, σ1 = [some w, some (.int 2), some (.ref R), y3, y4, y5] ∧ Go Z F H F2 H2 ∧ H2 R = some (.lst (es.map V.int)) ∧ F2 R = none ∧ es.length = cs.length)
    (fun F2 H2 g2 => ⟨none, none, none, cs, rfl, g.trans g2, g2.hh.lst hR, g2.none_of hR Rf, rfl⟩) ?_ ?_
  · rintro i ⟨e, k⟩ σ1 F2 H2 x F3 H3 hi s2 ⟨y3, y4, y5, es, rfl, g2, hR2, Rf2, hl⟩ g3 tt
    have hik := lt_of_get hi
    rw [List.length_zipIdx] at hik
    have hk : k = i := by
      rw [List.getElem?_zipIdx] at hi
      cases h : (cutD sc (some 2) (some 63))[i]? with
      | none => rw [h] at hi; cases hi
      | some x => rw [h] at hi; simp at hi; exact hi.2.symm
    have l2 := c3 (by omega)
    have gA := g2.trans g3
    refine g_pair tt g3.sub fun u1 u2 q1 q2 => ?_
    rw [dp_int q1, dp_int q2]
    obtain ⟨r, hr, er⟩ := mod_nat ((k : Nat) : Int) (u := 2) (by decide)
    have er : ((k : Nat) : Int).fmod 2 = (r : Nat) := er
    refine q_asgV (ev_iC (C := fun _ j => j ≠ 0) (g := fun i j => .int (i.fmod j)) (ev_int1 (ev_var rfl)) (ev_var rfl) (by decide)) gA.sub fun H4 e4 s4 => ?_
    rw [er]
    have hR4 := e4.lst (g3.hh.lst hR2)
    have Rf3 := g3.none_of hR2 Rf2
    obtain ⟨z, hz⟩ := get_of_lt (show r < es.length by omega)
    have hv : Ev Z (tOp (rI0 fun i j => .int (i + j)) (tOp (rIxL K) (tVar 2) (tVar 5)) (tOp (rI CMul fun i j => .int (i * j)) (tVar 4) (tOp (rI0 fun i j => .int (i + j)) (tVar 3) (tC (.int 2))))) [some w, some (.int 2), some (.ref R), some (.int (k : Nat)), some (.int e), some (.int (r : Nat))] (upd F3 R (.lst (es.map V.int))) (.int (z + e * ((k : Nat) + 2))) :=
      ev_i0 (g := fun i j => .int (i + j)) (ed_ixL (K := K) (j := r) (d := .int z) (ed_var (i := 2) rfl (.lst (.inl (.inl upd_same)) dpa_intsL)) (ev_var rfl) (by rw [List.getElem?_map, hz]; rfl)).int (ev_iC (C := CMul) (g := fun i j => .int (i * j)) (ev_var rfl) (ev_i0 (g := fun i j => .int (i + j)) (ev_var rfl) ev_c) (.inr (by omega)))
    refine hv H4 (s4.hold hR4) _ fun H5 e5 => ⟨.ref R, rfl, .int (r : Nat), rfl, R, _, (r : Nat), r, rfl, rfl, e5.lst hR4, ix_nat (by rw [List.length_map]; omega), ?_⟩
    have gB := (gA.trans (Go.ext gA.sub (e4.trans e5))).mut R0 Rf3 (e5.lst hR4) (ys := (es.map V.int).set r (.int (z + e * ((k : Nat) + 2))))
    exact ⟨F3, g3.ff, gB.sub, _, _, _, es.set r (z + e * ((k : Nat) + 2)), rfl, gB, by rw [upd_same, List.map_set], Rf3, by rw [List.length_set]; exact hl⟩
  · rintro σ1 F2 H2 s2 ⟨y3, y4, y5, es, rfl, g2, hR2, Rf2, hl⟩
    exact ⟨.ref R, rfl, q es (.ref R) _ H2 (by omega) (by omega) (g2.freeze R0 hR2) (.lst (.inl (.inl upd_same)) dpa_intsL)⟩
end
theorem len33 {Z : List NTab} {K : PySem.W.Frag} {vs : List V} {H : Hp} {Q : VK} {E : XK} (h : sp33 Z K vs H Q E) : vs.length = 2 := by
  obtain ⟨F, sc, w, rfl, _⟩ := h
  rfl
section
variable {P : Program} {w : World} {K : PySem.W.Frag} {mg : Str → Option Value} {base : Heap} {fa : Nat → Addr} {fd : Nat → FuncData} {tl : Nat → Tok} {Z : List NTab}
theorem ok33 (T : Top K mg fa fd tl)  : FnOk P w K mg base CX0 1 (fa 33) (fd 33) ["_law_script", "_law_top"] (sp33 Z K) := by
  refine T.F33.ok sc33 (fun vs H Q E h => len33 h) (fun cdv A outer s0 H vs Q E hr h => ?_)
  refine ⟨_, (pss_cons (ps_set (i := 2) nd33 rfl (Or.inl rfl) (pe_orT (pe_callTy (kc_listOf K) (by rfl) T.m_list bt_list (pa_cons (pe_slice (kl_list K) (pv 0) po_none (po_some (pv 1))) pa_nil)) (pe_one (pe_lst (pa_cons pe_int pa_nil)))))
  (pss_cons (ps_for PassesOwn.never rfl (pi_enum (by rfl) T.m_enumerate (pa_cons (pe_slice (kl_list K) (pv 0) (po_some (pv 1)) (po_some pe_int)) pa_nil)) (kg_tup (n := 2) K (by rfl) rfl (pgs_cons (pg_name (i := 3) nd33 rfl (Or.inl rfl)) (pgs_cons (pg_name (i := 4) nd33 rfl (Or.inl rfl)) pgs_nil))) (pss_cons (ps_set (i := 5) nd33 rfl (Or.inl rfl) (pe_op op_modN (pe_callTy kc_int1 (by rfl) T.m_int bt_int (pa_cons (pv 3) pa_nil)) (pv 1)))
  (pss_one (ps_asg (pe_op op_add (pe_ix (kx_list K) (pv 2) (pv 5) (fun _ _ => rfl)) (pe_op op_mul (pv 4) (pe_op op_add (pv 3) pe_int))) (pg_sub (pv 2) (pv 5) set_list)))))
  (pss_one (ps_ret (pv 2))))), ?_⟩
  obtain ⟨F, sc, w, rfl, s, p, few, q⟩ := h
  have hs : ∀ {σ F1}, σ[0]? = some (some w) → Same F F1 → Ed Z K (tVar 0) σ F1 (.list (sc.map .int)) := fun h e => ed_var h (dp_mono e p)
  have hl := el_listOf (K := K) (Z := Z) (F := F) (σ := L2.start ["_law_script", "_law_top", "_law_cells_here", "_law_k", "_law_cell", "_law_spot"] [w, .int 2]) (te := tSl (rSlL K) (tVar 0) tNoPart (tPart (tVar 1))) (El.ed (el_slL (lo := none) (hi := some 2) (hs rfl (Same.refl _)) eo_none (eo_some (te := tVar 1) (n := 2) (ev_var rfl)))) (.inl rfl)
  rw [cut_to, ← List.map_take] at hl
  refine hl H s _ fun R xs F1 H1 g1 R0 Rf hR px => ⟨!xs.isEmpty, .inl ⟨xs, .inl (.inl hR), rfl⟩, ?_⟩
  by_cases hx : xs = []
  · rw [if_neg (by rw [hx]; decide)]
    have sc0 : sc.length = 0 := by
      have h1 := dpa_length px
      rw [hx, List.length_map, List.length_take] at h1
      have h2 : ([] : List V).length = 0 := rfl
      omega
    refine el_lst (K := K) (ds := [.int 0]) (ead_cons ev_c.int ead_nil) (by simp) H1 g1.sub _ fun R2 xs2 F2 H2 g2 R20 Rf2 hR2 px2 => ?_
    obtain ⟨v1, rfl, q1⟩ := dpa1 px2
    rw [dp_int q1] at hR2
    exact cells_tail (cs := [0]) p few (g1.trans g2) (g1.back R20) Rf2 hR2 (by decide) (by decide) (fun h => by omega) q
  · rw [if_pos (by cases xs <;> first | exact absurd rfl hx | rfl)]
    have ex : xs = (sc.take 2).map V.int := dpa_ints px
    subst ex
    have hn : 0 < ((sc.take 2).map V.int).length := List.length_pos_iff.mpr hx
    rw [List.length_map, List.length_take] at hn
    exact cells_tail (cs := sc.take 2) p few g1 R0 Rf hR (by rw [List.length_take]; omega) (by rw [List.length_take]; omega) (fun h => by rw [List.length_take]; omega) q
end
end K21

/-! Comparing, copying as lists, the kit: 36, 37, 45. -/
namespace K21
open PySem PySem.Spec PyProof.Rows L2 RZ
open NdefX (NTab TabsN TabN)
/-! ### _law_same -/
def okS : Nat → PyData → Bool
  | _, .none => true
  | _, .bool _ => true
  | _, .int _ => true
  | _, .str s => PyData.strOk s
  | n + 1, .list ds => decide (ds.length ≤ 1000) && ds.all fun d => okS n d
  | n + 1, .tuple ds => decide (ds.length ≤ 1000) && ds.all fun d => okS n d
  | _, _ => false
theorem okS_tup {n : Nat} {ds : List PyData} (h : okS n (.tuple ds) = true) : ∃ m, n = m + 1 ∧ ds.length ≤ 1000 ∧ ∀ d ∈ ds, okS m d = true := by
  cases n with
  | zero => simp [okS] at h
  | succ m =>
    simp only [okS, Bool.and_eq_true, decide_eq_true_eq, List.all_eq_true] at h
    exact ⟨m, rfl, h.1, h.2⟩
theorem okS_lst {n : Nat} {ds : List PyData} (h : okS n (.list ds) = true) : ∃ m, n = m + 1 ∧ ds.length ≤ 1000 ∧ ∀ d ∈ ds, okS m d = true := by
  cases n with
  | zero => simp [okS] at h
  | succ m =>
    simp only [okS, Bool.and_eq_true, decide_eq_true_eq, List.all_eq_true] at h
    exact ⟨m, rfl, h.1, h.2⟩
def sp36 (Z : List NTab) (K : PySem.W.Frag) (n : Nat) : Sp := spD Z K fun ds r => ∃ d, ds = [d, d] ∧ okS n d = true ∧ r = .bool true
theorem len36 {Z : List NTab} {K : PySem.W.Frag} {n : Nat} {vs : List V} {H : Hp} {Q : VK} {E : XK} (h : sp36 Z K n vs H Q E) : vs.length = 2 := spD_len (n := 2) (by rintro _ _ ⟨d, rfl, _⟩; rfl) h
theorem zip_self {α : Type} : ∀ l : List α, l.zip l = l.map fun x => (x, x)
  | [] => rfl
  | x :: l => by rw [List.zip_cons_cons, zip_self l]; rfl
section
variable {P : Program} {w : World} {K : PySem.W.Frag} {mg : Str → Option Value} {base : Heap} {fa : Nat → Addr} {fd : Nat → FuncData} {tl : Nat → Tok} {Z : List NTab}
theorem step36 (T : Top K mg fa fd tl) {k n : Nat} (G36 : ∀ m, n = m + 1 → FnOk P w K mg base CX0 k (fa 36) (fd 36) ["_law_got", "_law_due"] (sp36 Z K m)) : FnOk P w K mg base CX0 (k + 1) (fa 36) (fd 36) ["_law_got", "_law_due"] (sp36 Z K n) := by
  refine T.F36.ok sc36 (fun vs H Q E h => len36 h) (fun cdv A outer s0 H vs Q E hr h => ?_)
  obtain ⟨F, _, _, s, pd, ⟨d, rfl, hd, rfl⟩, q⟩ := h
  obtain ⟨v, u, rfl, p, p2⟩ := dpa2 pd
  have hv : ∀ {σ}, σ[0]? = some (some v) → Ed Z K (tVar 0) σ F d := fun h => ed_var h p
  have hu : ∀ {σ}, σ[1]? = some (some u) → Ed Z K (tVar 1) σ F d := fun h => ed_var h p2
  have yes : ∀ H', Ext Z H H' → Q (.bl true) H' := fun H' e => q _ F H' (Go.ext s e) (.bl true)
  cases d with
  | dict kvs => cases p
  | tuple ds =>
    obtain ⟨m, hm, hl, hds⟩ := okS_tup hd
    have G36 := G36 m hm
    refine ⟨_, (pss_cons (ps_if (pt_val (pe_callB (kc_isiT K) (by rfl) T.m_isinstance bt_isinstance (pa_cons (pv 1) (pa_cons (pe_tup (pa_cons (pe_bltn (v := .ty "list") (by rfl) T.m_list bt_list rfl) (pa_cons (pe_bltn (v := .ty "tuple") (by rfl) T.m_tuple bt_tuple rfl) pa_nil))) pa_nil)))) (pss_cons (ps_if (pt_cmpR op_ne (pe_callB (kc_isi K) (by rfl) T.m_isinstance bt_isinstance (pa_cons (pv 0) (pa_cons (pe_bltn (v := .ty "list") (by rfl) T.m_list bt_list rfl) pa_nil))) (pe_callB (kc_isi K) (by rfl) T.m_isinstance bt_isinstance (pa_cons (pv 1) (pa_cons (pe_bltn (v := .ty "list") (by rfl) T.m_list bt_list rfl) pa_nil))) (nomark _)) (pss_one (ps_ret pe_bl)) pss_nil)
  (pss_cons (ps_if (pt_cmpR op_ne (pe_callB (kc_isi K) (by rfl) T.m_isinstance bt_isinstance (pa_cons (pv 0) (pa_cons (pe_bltn (v := .ty "tuple") (by rfl) T.m_tuple bt_tuple rfl) pa_nil))) (pe_callB (kc_isi K) (by rfl) T.m_isinstance bt_isinstance (pa_cons (pv 1) (pa_cons (pe_bltn (v := .ty "tuple") (by rfl) T.m_tuple bt_tuple rfl) pa_nil))) (nomark _)) (pss_one (ps_ret pe_bl)) pss_nil)
  (pss_one (ps_ret (pe_and (pe_cmpR op_eq (pe_callB (kc_len K) (by rfl) T.m_len bt_len (pa_cons (pv 0) pa_nil)) (pe_callB (kc_len K) (by rfl) T.m_len bt_len (pa_cons (pv 1) pa_nil)) (nomark _)) (pe_one (pe_callB (kc_all K (by rfl) rfl) (by rfl) T.m_all bt_all (pa_cons (pe_lc (own := [("_law_mine", 3), ("_law_its", 4)]) (tt := tYes) rfl nd36 (pi_zipA (by rfl) T.m_zip (pa_cons (pv 0) (pa_cons (pv 1) pa_nil))) (blkOk_by (N := ["_law_got", "_law_due", "_law_like", "_law_mine", "_law_its"]) (sc := (defScope s36)) (own := [("_law_mine", 3), ("_law_its", 4)]) (by decide +kernel)) (fun _ _ _ _ _ => (kg_tup (n := 2) K (by rfl) rfl (pgs_cons (pg_name (i := 3) nd36 rfl (Or.inl rfl)) (pgs_cons (pg_name (i := 4) nd36 rfl (Or.inl rfl)) pgs_nil)))) (fun _ _ _ _ _ => pts_nil) (fun _ _ _ _ _ => (pe_call G36 (hr.mono (Nat.le_refl _)) (by rfl) T.g36 T.F36.kp T.b36 .nil pass0 (pa_cons (pv 3) (pa_cons (pv 4) pa_nil))))) pa_nil)))))))) pss_nil)
  pss_never), ?_⟩
    have all : El Z _ (L2.start ["_law_got", "_law_due", "_law_like", "_law_mine", "_law_its"] [v, u]) F _ := el_lcD (K := K) (te := tCall (sp36 Z K m) [] E0 (tCons (tVar 3) (tCons (tVar 4) tNil))) (g := gTup K 2 (gCons (gName 3) (gCons (gName 4) gNil))) (vs := [3, 4]) (tt := tYes) (fun _ => true) (fun _ : PyData × PyData => .bool true) (iw_zipT (hv rfl) (hu rfl)) (by rw [List.length_zip]; omega) (fun l x F1 H1 hl e s t => by
      rw [zip_self] at hl
      obtain ⟨d, hd, rfl⟩ := List.mem_map.mp hl
      refine g_pair t s fun u1 u2 q1 q2 => ⟨rfl, rfl, et_yes, fun _ => ?_⟩
      exact ed_call (ead_cons (ed_var rfl q1) (ead_cons (ed_var rfl q2) ead_nil)) ⟨d, rfl, hds d hd, rfl⟩) gm_pair
    rw [List.filter_eq_self.mpr fun _ _ => rfl] at all
    refine s_if (b := true) (et_B (ev_isiT (hu rfl))) s (fun _ H1 e1 s1 => ?_) fun e => absurd e (by decide)
    refine q_when (b := false) (et_test (ev_ne (ev_isi (hv rfl)) (ev_isi (hu rfl)) rfl)) s1 (fun e => absurd e (by decide)) fun _ H2 e2 s2 => ?_
    refine q_when (b := false) (et_test (ev_ne (ev_isi (hv rfl)) (ev_isi (hu rfl)) rfl)) s2 (fun e => absurd e (by decide)) fun _ H3 e3 s3 => ?_
    refine s_retV (x := .bl true) (Ev.to (ev_andV (b := true) (c := true) (Ev.to (ev_eq (ev_lenT (hv rfl)) (ev_lenT (hu rfl)) rfl) (congrArg V.bl (decide_eq_true rfl))) fun _ => Ev.to (ev_all (bs := (ds.zip ds).map fun _ => true) (by rw [List.map_map]; exact all)) (congrArg V.bl (by rw [List.all_map]; simp))) rfl) s3 fun H4 e4 _ => yes H4 (((e1.trans e2).trans e3).trans e4)
  | list ds =>
    obtain ⟨m, hm, hl, hds⟩ := okS_lst hd
    have G36 := G36 m hm
    refine ⟨_, (pss_cons (ps_if (pt_val (pe_callB (kc_isiT K) (by rfl) T.m_isinstance bt_isinstance (pa_cons (pv 1) (pa_cons (pe_tup (pa_cons (pe_bltn (v := .ty "list") (by rfl) T.m_list bt_list rfl) (pa_cons (pe_bltn (v := .ty "tuple") (by rfl) T.m_tuple bt_tuple rfl) pa_nil))) pa_nil)))) (pss_cons (ps_if (pt_cmpR op_ne (pe_callB (kc_isi K) (by rfl) T.m_isinstance bt_isinstance (pa_cons (pv 0) (pa_cons (pe_bltn (v := .ty "list") (by rfl) T.m_list bt_list rfl) pa_nil))) (pe_callB (kc_isi K) (by rfl) T.m_isinstance bt_isinstance (pa_cons (pv 1) (pa_cons (pe_bltn (v := .ty "list") (by rfl) T.m_list bt_list rfl) pa_nil))) (nomark _)) (pss_one (ps_ret pe_bl)) pss_nil)
  (pss_cons (ps_if (pt_cmpR op_ne (pe_callB (kc_isi K) (by rfl) T.m_isinstance bt_isinstance (pa_cons (pv 0) (pa_cons (pe_bltn (v := .ty "tuple") (by rfl) T.m_tuple bt_tuple rfl) pa_nil))) (pe_callB (kc_isi K) (by rfl) T.m_isinstance bt_isinstance (pa_cons (pv 1) (pa_cons (pe_bltn (v := .ty "tuple") (by rfl) T.m_tuple bt_tuple rfl) pa_nil))) (nomark _)) (pss_one (ps_ret pe_bl)) pss_nil)
  (pss_one (ps_ret (pe_and (pe_cmpR op_eq (pe_callB (kc_len K) (by rfl) T.m_len bt_len (pa_cons (pv 0) pa_nil)) (pe_callB (kc_len K) (by rfl) T.m_len bt_len (pa_cons (pv 1) pa_nil)) (nomark _)) (pe_one (pe_callB (kc_all K (by rfl) rfl) (by rfl) T.m_all bt_all (pa_cons (pe_lc (own := [("_law_mine", 3), ("_law_its", 4)]) (tt := tYes) rfl nd36 (pi_zipA (by rfl) T.m_zip (pa_cons (pv 0) (pa_cons (pv 1) pa_nil))) (blkOk_by (N := ["_law_got", "_law_due", "_law_like", "_law_mine", "_law_its"]) (sc := (defScope s36)) (own := [("_law_mine", 3), ("_law_its", 4)]) (by decide +kernel)) (fun _ _ _ _ _ => (kg_tup (n := 2) K (by rfl) rfl (pgs_cons (pg_name (i := 3) nd36 rfl (Or.inl rfl)) (pgs_cons (pg_name (i := 4) nd36 rfl (Or.inl rfl)) pgs_nil)))) (fun _ _ _ _ _ => pts_nil) (fun _ _ _ _ _ => (pe_call G36 (hr.mono (Nat.le_refl _)) (by rfl) T.g36 T.F36.kp T.b36 .nil pass0 (pa_cons (pv 3) (pa_cons (pv 4) pa_nil))))) pa_nil)))))))) pss_nil)
  pss_never), ?_⟩
    have all : El Z _ (L2.start ["_law_got", "_law_due", "_law_like", "_law_mine", "_law_its"] [v, u]) F _ := el_lcD (K := K) (te := tCall (sp36 Z K m) [] E0 (tCons (tVar 3) (tCons (tVar 4) tNil))) (g := gTup K 2 (gCons (gName 3) (gCons (gName 4) gNil))) (vs := [3, 4]) (tt := tYes) (fun _ => true) (fun _ : PyData × PyData => .bool true) (iw_zipL (hv rfl) (hu rfl)) (by rw [List.length_zip]; omega) (fun l x F1 H1 hl e s t => by
      rw [zip_self] at hl
      obtain ⟨d, hd, rfl⟩ := List.mem_map.mp hl
      refine g_pair t s fun u1 u2 q1 q2 => ⟨rfl, rfl, et_yes, fun _ => ?_⟩
      exact ed_call (ead_cons (ed_var rfl q1) (ead_cons (ed_var rfl q2) ead_nil)) ⟨d, rfl, hds d hd, rfl⟩) gm_pair
    rw [List.filter_eq_self.mpr fun _ _ => rfl] at all
    refine s_if (b := true) (et_B (ev_isiT (hu rfl))) s (fun _ H1 e1 s1 => ?_) fun e => absurd e (by decide)
    refine q_when (b := false) (et_test (ev_ne (ev_isi (hv rfl)) (ev_isi (hu rfl)) rfl)) s1 (fun e => absurd e (by decide)) fun _ H2 e2 s2 => ?_
    refine q_when (b := false) (et_test (ev_ne (ev_isi (hv rfl)) (ev_isi (hu rfl)) rfl)) s2 (fun e => absurd e (by decide)) fun _ H3 e3 s3 => ?_
    refine s_retV (x := .bl true) (Ev.to (ev_andV (b := true) (c := true) (Ev.to (ev_eq (ev_lenL (hv rfl)) (ev_lenL (hu rfl)) rfl) (congrArg V.bl (decide_eq_true rfl))) fun _ => Ev.to (ev_all (bs := (ds.zip ds).map fun _ => true) (by rw [List.map_map]; exact all)) (congrArg V.bl (by rw [List.all_map]; simp))) rfl) s3 fun H4 e4 _ => yes H4 (((e1.trans e2).trans e3).trans e4)
  | int i =>
    refine ⟨_, (pss_cons (ps_if (pt_val (pe_callB (kc_isiT K) (by rfl) T.m_isinstance bt_isinstance (pa_cons (pv 1) (pa_cons (pe_tup (pa_cons (pe_bltn (v := .ty "list") (by rfl) T.m_list bt_list rfl) (pa_cons (pe_bltn (v := .ty "tuple") (by rfl) T.m_tuple bt_tuple rfl) pa_nil))) pa_nil)))) pss_never pss_nil)
  (pss_cons (ps_if (PW.pt (pw_or (pt_cmpR op_isN (pv 1) pe_non (nomark _)) (pw_or1 (pt_val (pe_callB (kc_isiT K) (by rfl) T.m_isinstance bt_isinstance (pa_cons (pv 1) (pa_cons (pe_tup (pa_cons (pe_bltn (v := .ty "bool") (by rfl) T.m_bool bt_bool rfl) (pa_cons (pe_bltn (v := .ty "str") (by rfl) T.m_str bt_str rfl) pa_nil))) pa_nil))))))) (pss_cons (ps_set (i := 2) nd36 rfl (Or.inl rfl) (pe_and (pe_cmpR op_eq (pe_callB (kc_isi K) (by rfl) T.m_isinstance bt_isinstance (pa_cons (pv 0) (pa_cons (pe_bltn (v := .ty "bool") (by rfl) T.m_bool bt_bool rfl) pa_nil))) (pe_callB (kc_isi K) (by rfl) T.m_isinstance bt_isinstance (pa_cons (pv 1) (pa_cons (pe_bltn (v := .ty "bool") (by rfl) T.m_bool bt_bool rfl) pa_nil))) (nomark _)) (pe_one (pe_cmpR op_eq (pe_cmpR op_isN (pv 0) pe_non (nomark _)) (pe_cmpR op_isN (pv 1) pe_non (nomark _)) (nomark _)))))
  (pss_one (ps_ret (pe_and (pv 2) (pe_one (pe_cmpR (ko_eqD K (by rfl) hr.units) (pv 0) (pv 1) (nomark _))))))) pss_nil)
  (pss_one (ps_ret (pe_and (pe_callB (kc_isi K) (by rfl) T.m_isinstance bt_isinstance (pa_cons (pv 0) (pa_cons (pe_bltn (v := .ty "int") (by rfl) T.m_int bt_int rfl) pa_nil))) (pe_and (pe_not (pe_callB (kc_isi K) (by rfl) T.m_isinstance bt_isinstance (pa_cons (pv 0) (pa_cons (pe_bltn (v := .ty "bool") (by rfl) T.m_bool bt_bool rfl) pa_nil)))) (pe_one (pe_cmpR (ko_eqD K (by rfl) hr.units) (pv 0) (pv 1) (nomark _))))))))), ?_⟩
    refine s_if (b := false) (et_B (ev_isiT (hu rfl))) s (fun e => absurd e (by decide)) fun _ H1 e1 s1 => ?_
    refine q_when (b := false) (et_or (b := false) (et_test (ev_isN (hu rfl))) fun _ => et_B (ev_isiT (hu rfl))) s1 (fun e => absurd e (by decide)) fun _ H2 e2 s2 => ?_
    refine s_retV (x := .bl true) (Ev.to (ev_andV (b := true) (c := true) (ev_isi (hv rfl)) fun _ => ev_andV (b := true) (c := true) (ev_notV (ev_isi (hv rfl))) fun _ => Ev.to (ev_eqD (hv rfl) (hu rfl) rfl rfl) (congrArg V.bl (by simp [PyData.eqv]))) rfl) s2 fun H3 e3 _ => yes H3 ((e1.trans e2).trans e3)
  | none =>
    refine ⟨_, (pss_cons (ps_if (pt_val (pe_callB (kc_isiT K) (by rfl) T.m_isinstance bt_isinstance (pa_cons (pv 1) (pa_cons (pe_tup (pa_cons (pe_bltn (v := .ty "list") (by rfl) T.m_list bt_list rfl) (pa_cons (pe_bltn (v := .ty "tuple") (by rfl) T.m_tuple bt_tuple rfl) pa_nil))) pa_nil)))) pss_never pss_nil)
  (pss_cons (ps_if (PW.pt (pw_or (pt_cmpR op_isN (pv 1) pe_non (nomark _)) (pw_or1 (pt_val (pe_callB (kc_isiT K) (by rfl) T.m_isinstance bt_isinstance (pa_cons (pv 1) (pa_cons (pe_tup (pa_cons (pe_bltn (v := .ty "bool") (by rfl) T.m_bool bt_bool rfl) (pa_cons (pe_bltn (v := .ty "str") (by rfl) T.m_str bt_str rfl) pa_nil))) pa_nil))))))) (pss_cons (ps_set (i := 2) nd36 rfl (Or.inl rfl) (pe_and (pe_cmpR op_eq (pe_callB (kc_isi K) (by rfl) T.m_isinstance bt_isinstance (pa_cons (pv 0) (pa_cons (pe_bltn (v := .ty "bool") (by rfl) T.m_bool bt_bool rfl) pa_nil))) (pe_callB (kc_isi K) (by rfl) T.m_isinstance bt_isinstance (pa_cons (pv 1) (pa_cons (pe_bltn (v := .ty "bool") (by rfl) T.m_bool bt_bool rfl) pa_nil))) (nomark _)) (pe_one (pe_cmpR op_eq (pe_cmpR op_isN (pv 0) pe_non (nomark _)) (pe_cmpR op_isN (pv 1) pe_non (nomark _)) (nomark _)))))
  (pss_one (ps_ret (pe_and (pv 2) (pe_one (pe_cmpR (ko_eqD K (by rfl) hr.units) (pv 0) (pv 1) (nomark _))))))) pss_nil)
  (pss_one (ps_ret (pe_and (pe_callB (kc_isi K) (by rfl) T.m_isinstance bt_isinstance (pa_cons (pv 0) (pa_cons (pe_bltn (v := .ty "int") (by rfl) T.m_int bt_int rfl) pa_nil))) (pe_and (pe_not (pe_callB (kc_isi K) (by rfl) T.m_isinstance bt_isinstance (pa_cons (pv 0) (pa_cons (pe_bltn (v := .ty "bool") (by rfl) T.m_bool bt_bool rfl) pa_nil)))) (pe_one (pe_cmpR (ko_eqD K (by rfl) hr.units) (pv 0) (pv 1) (nomark _))))))))), ?_⟩
    refine s_if (b := false) (et_B (ev_isiT (hu rfl))) s (fun e => absurd e (by decide)) fun _ H1 e1 s1 => ?_
    refine q_when (b := true) (et_or (b := true) (c := true) (et_test (ev_isN (hu rfl))) fun e => absurd e (by decide)) s1 (fun _ H2 e2 s2 => ?_) fun e => absurd e (by decide)
    refine q_asgV (x := .bl true) (ev_andV (b := true) (c := true) (ev_eq (ev_isi (hv rfl)) (ev_isi (hu rfl)) rfl) fun _ => ev_eq (ev_isN (hv rfl)) (ev_isN (hu rfl)) rfl) s2 fun H3 e3 s3 => ?_
    refine s_retV (x := .bl true) (ev_andV (b := true) (c := true) (ev_var rfl) fun _ => Ev.to (ev_eqD (hv rfl) (hu rfl) rfl rfl) (congrArg V.bl (by simp [PyData.eqv]))) s3 fun H4 e4 _ => yes H4 (((e1.trans e2).trans e3).trans e4)
  | bool i =>
    refine ⟨_, (pss_cons (ps_if (pt_val (pe_callB (kc_isiT K) (by rfl) T.m_isinstance bt_isinstance (pa_cons (pv 1) (pa_cons (pe_tup (pa_cons (pe_bltn (v := .ty "list") (by rfl) T.m_list bt_list rfl) (pa_cons (pe_bltn (v := .ty "tuple") (by rfl) T.m_tuple bt_tuple rfl) pa_nil))) pa_nil)))) pss_never pss_nil)
  (pss_cons (ps_if (PW.pt (pw_or (pt_cmpR op_isN (pv 1) pe_non (nomark _)) (pw_or1 (pt_val (pe_callB (kc_isiT K) (by rfl) T.m_isinstance bt_isinstance (pa_cons (pv 1) (pa_cons (pe_tup (pa_cons (pe_bltn (v := .ty "bool") (by rfl) T.m_bool bt_bool rfl) (pa_cons (pe_bltn (v := .ty "str") (by rfl) T.m_str bt_str rfl) pa_nil))) pa_nil))))))) (pss_cons (ps_set (i := 2) nd36 rfl (Or.inl rfl) (pe_and (pe_cmpR op_eq (pe_callB (kc_isi K) (by rfl) T.m_isinstance bt_isinstance (pa_cons (pv 0) (pa_cons (pe_bltn (v := .ty "bool") (by rfl) T.m_bool bt_bool rfl) pa_nil))) (pe_callB (kc_isi K) (by rfl) T.m_isinstance bt_isinstance (pa_cons (pv 1) (pa_cons (pe_bltn (v := .ty "bool") (by rfl) T.m_bool bt_bool rfl) pa_nil))) (nomark _)) (pe_one (pe_cmpR op_eq (pe_cmpR op_isN (pv 0) pe_non (nomark _)) (pe_cmpR op_isN (pv 1) pe_non (nomark _)) (nomark _)))))
  (pss_one (ps_ret (pe_and (pv 2) (pe_one (pe_cmpR (ko_eqD K (by rfl) hr.units) (pv 0) (pv 1) (nomark _))))))) pss_nil)
  (pss_one (ps_ret (pe_and (pe_callB (kc_isi K) (by rfl) T.m_isinstance bt_isinstance (pa_cons (pv 0) (pa_cons (pe_bltn (v := .ty "int") (by rfl) T.m_int bt_int rfl) pa_nil))) (pe_and (pe_not (pe_callB (kc_isi K) (by rfl) T.m_isinstance bt_isinstance (pa_cons (pv 0) (pa_cons (pe_bltn (v := .ty "bool") (by rfl) T.m_bool bt_bool rfl) pa_nil)))) (pe_one (pe_cmpR (ko_eqD K (by rfl) hr.units) (pv 0) (pv 1) (nomark _))))))))), ?_⟩
    refine s_if (b := false) (et_B (ev_isiT (hu rfl))) s (fun e => absurd e (by decide)) fun _ H1 e1 s1 => ?_
    refine q_when (b := true) (et_or (b := false) (et_test (ev_isN (hu rfl))) fun _ => et_B (ev_isiT (hu rfl))) s1 (fun _ H2 e2 s2 => ?_) fun e => absurd e (by decide)
    refine q_asgV (x := .bl true) (ev_andV (b := true) (c := true) (ev_eq (ev_isi (hv rfl)) (ev_isi (hu rfl)) rfl) fun _ => ev_eq (ev_isN (hv rfl)) (ev_isN (hu rfl)) rfl) s2 fun H3 e3 s3 => ?_
    refine s_retV (x := .bl true) (ev_andV (b := true) (c := true) (ev_var rfl) fun _ => Ev.to (ev_eqD (hv rfl) (hu rfl) rfl rfl) (congrArg V.bl (by simp [PyData.eqv]))) s3 fun H4 e4 _ => yes H4 (((e1.trans e2).trans e3).trans e4)
  | str i =>
    have sh : SeqAt.shaped (.str i) = true := by
      have : PyData.strOk i = true := by
        cases n <;> exact hd
      simp [SeqAt.shaped, PyData.canLay0, PyData.depth, this]
    refine ⟨_, (pss_cons (ps_if (pt_val (pe_callB (kc_isiT K) (by rfl) T.m_isinstance bt_isinstance (pa_cons (pv 1) (pa_cons (pe_tup (pa_cons (pe_bltn (v := .ty "list") (by rfl) T.m_list bt_list rfl) (pa_cons (pe_bltn (v := .ty "tuple") (by rfl) T.m_tuple bt_tuple rfl) pa_nil))) pa_nil)))) pss_never pss_nil)
  (pss_cons (ps_if (PW.pt (pw_or (pt_cmpR op_isN (pv 1) pe_non (nomark _)) (pw_or1 (pt_val (pe_callB (kc_isiT K) (by rfl) T.m_isinstance bt_isinstance (pa_cons (pv 1) (pa_cons (pe_tup (pa_cons (pe_bltn (v := .ty "bool") (by rfl) T.m_bool bt_bool rfl) (pa_cons (pe_bltn (v := .ty "str") (by rfl) T.m_str bt_str rfl) pa_nil))) pa_nil))))))) (pss_cons (ps_set (i := 2) nd36 rfl (Or.inl rfl) (pe_and (pe_cmpR op_eq (pe_callB (kc_isi K) (by rfl) T.m_isinstance bt_isinstance (pa_cons (pv 0) (pa_cons (pe_bltn (v := .ty "bool") (by rfl) T.m_bool bt_bool rfl) pa_nil))) (pe_callB (kc_isi K) (by rfl) T.m_isinstance bt_isinstance (pa_cons (pv 1) (pa_cons (pe_bltn (v := .ty "bool") (by rfl) T.m_bool bt_bool rfl) pa_nil))) (nomark _)) (pe_one (pe_cmpR op_eq (pe_cmpR op_isN (pv 0) pe_non (nomark _)) (pe_cmpR op_isN (pv 1) pe_non (nomark _)) (nomark _)))))
  (pss_one (ps_ret (pe_and (pv 2) (pe_one (pe_cmpR (ko_eqD K (by rfl) hr.units) (pv 0) (pv 1) (nomark _))))))) pss_nil)
  (pss_one (ps_ret (pe_and (pe_callB (kc_isi K) (by rfl) T.m_isinstance bt_isinstance (pa_cons (pv 0) (pa_cons (pe_bltn (v := .ty "int") (by rfl) T.m_int bt_int rfl) pa_nil))) (pe_and (pe_not (pe_callB (kc_isi K) (by rfl) T.m_isinstance bt_isinstance (pa_cons (pv 0) (pa_cons (pe_bltn (v := .ty "bool") (by rfl) T.m_bool bt_bool rfl) pa_nil)))) (pe_one (pe_cmpR (ko_eqD K (by rfl) hr.units) (pv 0) (pv 1) (nomark _))))))))), ?_⟩
    refine s_if (b := false) (et_B (ev_isiT (hu rfl))) s (fun e => absurd e (by decide)) fun _ H1 e1 s1 => ?_
    refine q_when (b := true) (et_or (b := false) (et_test (ev_isN (hu rfl))) fun _ => et_B (ev_isiT (hu rfl))) s1 (fun _ H2 e2 s2 => ?_) fun e => absurd e (by decide)
    refine q_asgV (x := .bl true) (ev_andV (b := true) (c := true) (ev_eq (ev_isi (hv rfl)) (ev_isi (hu rfl)) rfl) fun _ => ev_eq (ev_isN (hv rfl)) (ev_isN (hu rfl)) rfl) s2 fun H3 e3 s3 => ?_
    refine s_retV (x := .bl true) (ev_andV (b := true) (c := true) (ev_var rfl) fun _ => Ev.to (ev_eqD (hv rfl) (hu rfl) sh sh) (congrArg V.bl (by simp [PyData.eqv]))) s3 fun H4 e4 _ => yes H4 (((e1.trans e2).trans e3).trans e4)
theorem ok36 (T : Top K mg fa fd tl) : ∀ n, FnOk P w K mg base CX0 (n + 1) (fa 36) (fd 36) ["_law_got", "_law_due"] (sp36 Z K n)
  | 0 => step36 T fun m e => absurd e (by omega)
  | n + 1 => step36 T fun m e => by
    have : m = n := by omega
    subst this
    exact ok36 T m
end
/-! ### _law_lists -/
mutual
def lstD : PyData → PyData
  | .tuple ds => .list (lstAll ds)
  | .list ds => .list (lstAll ds)
  | .none => .none
  | .bool b => .bool b
  | .int i => .int i
  | .str s => .str s
  | .dict kvs => .dict kvs
def lstAll : List PyData → List PyData
  | [] => []
  | d :: ds => lstD d :: lstAll ds
end
theorem lstAll_map : ∀ ds : List PyData, lstAll ds = ds.map lstD
  | [] => by rw [lstAll]; rfl
  | d :: ds => by rw [lstAll, lstAll_map ds]; rfl
/-- tuples, no lists -/
def okT : Nat → PyData → Bool
  | _, .none => true
  | _, .bool _ => true
  | _, .int _ => true
  | _, .str _ => true
  | n + 1, .tuple ds => decide (ds.length ≤ 1000) && ds.all fun d => okT n d
  | _, _ => false
theorem okT_tup {n : Nat} {ds : List PyData} (h : okT n (.tuple ds) = true) : ∃ m, n = m + 1 ∧ ds.length ≤ 1000 ∧ ∀ d ∈ ds, okT m d = true := by
  cases n with
  | zero => simp [okT] at h
  | succ m =>
    simp only [okT, Bool.and_eq_true, decide_eq_true_eq, List.all_eq_true] at h
    exact ⟨m, rfl, h.1, h.2⟩
def sp37 (Z : List NTab) (K : PySem.W.Frag) (n : Nat) : Sp := spD Z K fun ds r => ∃ d, ds = [d] ∧ okT n d = true ∧ r = lstD d
theorem len37 {Z : List NTab} {K : PySem.W.Frag} {n : Nat} {vs : List V} {H : Hp} {Q : VK} {E : XK} (h : sp37 Z K n vs H Q E) : vs.length = 1 := spD_len (n := 1) (by rintro _ _ ⟨d, rfl, _⟩; rfl) h
section
variable {P : Program} {w : World} {K : PySem.W.Frag} {mg : Str → Option Value} {base : Heap} {fa : Nat → Addr} {fd : Nat → FuncData} {tl : Nat → Tok} {Z : List NTab}
theorem step37 (T : Top K mg fa fd tl) {k n : Nat} (G37 : ∀ m, n = m + 1 → FnOk P w K mg base CX0 k (fa 37) (fd 37) ["_law_matter"] (sp37 Z K m)) : FnOk P w K mg base CX0 (k + 1) (fa 37) (fd 37) ["_law_matter"] (sp37 Z K n) := by
  refine T.F37.ok sc37 (fun vs H Q E h => len37 h) (fun cdv A outer s0 H vs Q E hr h => ?_)
  obtain ⟨F, _, _, s, pd, ⟨d, rfl, hd, rfl⟩, q⟩ := h
  obtain ⟨v, rfl, p⟩ := dpa1 pd
  have hv : Ed Z K (tVar 0) (L2.start ["_law_matter", "_law_bit"] [v]) F d := ed_var rfl p
  have no : ∀ {ta : TE}, (isA "list" d || isA "tuple" d) = false → lstD d = d → tRet (tIf (tB (tCB (rIsiT K) (tCons (tVar 0) (tCons (tTup (tCons (tC (.ty "list")) (tCons (tC (.ty "tuple")) tNil))) tNil)))) ta (tVar 0)) { nx := fun _ H' => Q .non H', rt := Q } (L2.start ["_law_matter", "_law_bit"] [v]) H := fun e1 e2 =>
    s_ret (P := fun v F => Dp K F v (lstD d)) (es_if (et_B (ev_isiT hv)) (fun e => absurd (e1.symm.trans e) (by decide)) fun _ => es_var rfl (by rw [e2]; exact p)) s fun v F' H' g z => q v F' H' g z
  cases d with
  | dict kvs => cases p
  | list ds => cases n <;> simp [okT] at hd
  | tuple ds =>
    obtain ⟨m, hm, hl, hds⟩ := okT_tup hd
    have G37 := G37 m hm
    refine ⟨_, (pss_one (ps_ret (pe_ifExp (pt_val (pe_callB (kc_isiT K) (by rfl) T.m_isinstance bt_isinstance (pa_cons (pv 0) (pa_cons (pe_tup (pa_cons (pe_bltn (v := .ty "list") (by rfl) T.m_list bt_list rfl) (pa_cons (pe_bltn (v := .ty "tuple") (by rfl) T.m_tuple bt_tuple rfl) pa_nil))) pa_nil)))) (pe_lc (own := [("_law_bit", 1)]) (tt := tYes) rfl nd37 (ki_tup K (by rfl) (pv 0)) (blkOk_by (N := ["_law_matter", "_law_bit"]) (sc := (defScope s37)) (own := [("_law_bit", 1)]) (by decide +kernel)) (fun _ _ _ _ _ => (pg_name (i := 1) nd37 rfl (Or.inl rfl))) (fun _ _ _ _ _ => pts_nil) (fun _ _ _ _ _ => (pe_call G37 (hr.mono (Nat.le_refl _)) (by rfl) T.g37 T.F37.kp T.b37 .nil pass0 (pa_cons (pv 1) pa_nil)))) (pv 0)))), ?_⟩
    rw [lstD, lstAll_map] at q
    refine s_ret (P := fun v F => Dp K F v (.list (ds.map lstD))) (es_if (et_B (ev_isiT hv)) (fun _ => El.ed ?_) fun e => absurd e (by simp [isA, tyName])) s fun v F' H' g z => q v F' H' g z
    exact el_map (K := K) lstD (iw_tup hv) (by omega) (fun _ => rfl) fun l x F1 hl e t => ed_call (ead_cons (ed_var rfl t) ead_nil) ⟨l, rfl, hds l hl, rfl⟩
  | _ =>
    refine ⟨_, (pss_one (ps_ret (pe_ifExp (pt_val (pe_callB (kc_isiT K) (by rfl) T.m_isinstance bt_isinstance (pa_cons (pv 0) (pa_cons (pe_tup (pa_cons (pe_bltn (v := .ty "list") (by rfl) T.m_list bt_list rfl) (pa_cons (pe_bltn (v := .ty "tuple") (by rfl) T.m_tuple bt_tuple rfl) pa_nil))) pa_nil)))) pe_dead (pv 0)))), no (by simp [isA, tyName]) (by simp [lstD])⟩
theorem ok37 (T : Top K mg fa fd tl) : ∀ n, FnOk P w K mg base CX0 (n + 1) (fa 37) (fd 37) ["_law_matter"] (sp37 Z K n)
  | 0 => step37 T fun m e => absurd e (by omega)
  | n + 1 => step37 T fun m e => by
    have : m = n := by omega
    subst this
    exact ok37 T m
end
/-! ### _law_kit -/
def kitB : Blk := ⟨[⟨"a", [], true⟩, ⟨"b", [], true⟩, ⟨"c", ["a", "b"], false⟩, ⟨"d", ["c"], true⟩, ⟨"e", [], true⟩], ["d"]⟩
def kitL : List Str := ["a", "b", "c", "d", "e"]
def kitM : List Str := ["b", "e", "a", "c", "d"]
def sp45 (Z : List NTab) (K : PySem.W.Frag) : Sp := spD Z K fun ds r => ds = [] ∧ r = .tuple [blkD kitB, namesD kitL, namesD kitM]
theorem len45 {Z : List NTab} {K : PySem.W.Frag} {vs : List V} {H : Hp} {Q : VK} {E : XK} (h : sp45 Z K vs H Q E) : vs.length = 0 := spD_len (n := 0) (by rintro _ _ ⟨rfl, _⟩; rfl) h
section
variable {P : Program} {w : World} {K : PySem.W.Frag} {mg : Str → Option Value} {base : Heap} {fa : Nat → Addr} {fd : Nat → FuncData} {tl : Nat → Tok} {Z : List NTab}
theorem ok45 (T : Top K mg fa fd tl)  : FnOk P w K mg base CX0 1 (fa 45) (fd 45) [] (sp45 Z K) := by
  refine T.F45.ok sc45 (fun vs H Q E h => len45 h) (fun cdv A outer s0 H vs Q E hr h => ?_)
  refine ⟨_, (pss_cons (ps_set (i := 0) nd45 rfl (Or.inl rfl) (pe_tup (pa_cons (pe_tup (pa_cons pe_str (pa_cons (pe_tup pa_nil) (pa_cons pe_bl pa_nil)))) (pa_cons (pe_tup (pa_cons pe_str (pa_cons (pe_tup pa_nil) (pa_cons pe_bl pa_nil)))) (pa_cons (pe_tup (pa_cons pe_str (pa_cons (pe_tup (pa_cons pe_str (pa_cons pe_str pa_nil))) (pa_cons pe_bl pa_nil)))) (pa_cons (pe_tup (pa_cons pe_str (pa_cons (pe_tup (pa_cons pe_str pa_nil)) (pa_cons pe_bl pa_nil)))) (pa_cons (pe_tup (pa_cons pe_str (pa_cons (pe_tup pa_nil) (pa_cons pe_bl pa_nil)))) pa_nil)))))))
  (pss_one (ps_ret (pe_tup (pa_cons (pe_tup (pa_cons (pv 0) (pa_cons (pe_tup (pa_cons pe_str pa_nil)) pa_nil))) (pa_cons (pe_callTy (kc_tupS rfl) (by rfl) T.m_tuple bt_tuple (pa_cons pe_str pa_nil)) (pa_cons (pe_callTy (kc_tupS rfl) (by rfl) T.m_tuple bt_tuple (pa_cons pe_str pa_nil)) pa_nil))))))), ?_⟩
  obtain ⟨F, _, _, s, pd, ⟨rfl, rfl⟩, q⟩ := h
  cases pd
  refine q_asg (ed_tup (K := K) (ds := kitB.rows.map rowD) (ead_cons (ed_tup (ead_cons ev_c.str (ead_cons (ed_tup ead_nil (by decide)) (ead_cons ev_c.bl ead_nil))) (by simp)) (ead_cons (ed_tup (ead_cons ev_c.str (ead_cons (ed_tup ead_nil (by decide)) (ead_cons ev_c.bl ead_nil))) (by simp))
    (ead_cons (ed_tup (ead_cons ev_c.str (ead_cons (ed_tup (ead_cons ev_c.str (ead_cons ev_c.str ead_nil)) (by simp)) (ead_cons ev_c.bl ead_nil))) (by simp)) (ead_cons (ed_tup (ead_cons ev_c.str (ead_cons (ed_tup (ead_cons ev_c.str ead_nil) (by simp)) (ead_cons ev_c.bl ead_nil))) (by simp))
    (ead_cons (ed_tup (ead_cons ev_c.str (ead_cons (ed_tup ead_nil (by decide)) (ead_cons ev_c.bl ead_nil))) (by simp)) ead_nil))))) (by decide)) s fun rv F1 H1 g1 p1 => ?_
  refine s_ret (P := fun v F => Dp K F v (.tuple [blkD kitB, namesD kitL, namesD kitM])) (ed_tup (ead_cons (ed_tup (ead_cons (ed_var rfl p1) (ead_cons (ed_tup (ead_cons ev_c.str ead_nil) (by decide)) ead_nil)) (by simp)) (ead_cons (ed_tupS ev_c (by decide)) (ead_cons (ed_tupS ev_c (by decide)) ead_nil))) (by simp)) g1.sub fun v F2 H2 g2 p2 => q v F2 H2 (g1.trans g2) p2
end
end K21

/-! The plain law: the machine's end and sets apart. -/
namespace K21
open PySem PySem.Spec PyProof.Rows L2 RZ
/-! ### least -/
theorem fold_min : ∀ (l : List Nat) (a : Nat), l.foldl min a ≤ a ∧ (∀ x ∈ l, l.foldl min a ≤ x) ∧ (l.foldl min a = a ∨ l.foldl min a ∈ l)
  | [], a => ⟨Nat.le_refl _, fun x h => absurd h List.not_mem_nil, .inl rfl⟩
  | y :: l, a => by
    obtain ⟨h1, h2, h3⟩ := fold_min l (min a y)
    rw [List.foldl_cons]
    refine ⟨by omega, fun x hx => ?_, ?_⟩
    · rcases List.mem_cons.mp hx with rfl | hx
      · omega
      · exact h2 x hx
    · rcases h3 with h3 | h3
      · by_cases e : a ≤ y
        · left; omega
        · right
          rw [h3, Nat.min_eq_right (by omega)]
          exact List.mem_cons_self
      · exact .inr (List.mem_cons_of_mem _ h3)
theorem least_le {d : Nat} {l : List Nat} {x : Nat} (h : x ∈ l) : leastN d l ≤ x := by
  cases l with
  | nil => cases h
  | cons a l =>
    obtain ⟨h1, h2, h3⟩ := fold_min l a
    show l.foldl min a ≤ x
    rcases List.mem_cons.mp h with rfl | h
    · exact h1
    · exact h2 x h
theorem least_mem {d : Nat} {l : List Nat} (h : l ≠ []) : leastN d l ∈ l := by
  cases l with
  | nil => exact absurd rfl h
  | cons a l =>
    obtain ⟨h1, h2, h3⟩ := fold_min l a
    show l.foldl min a ∈ _
    rcases h3 with h3 | h3
    · rw [h3]; exact List.mem_cons_self
    · exact List.mem_cons_of_mem _ h3
theorem fold_max : ∀ (l : List Nat) (a : Nat), a ≤ l.foldl max a ∧ (∀ x ∈ l, x ≤ l.foldl max a) ∧ (l.foldl max a = a ∨ l.foldl max a ∈ l)
  | [], a => ⟨Nat.le_refl _, fun x h => absurd h List.not_mem_nil, .inl rfl⟩
  | y :: l, a => by
    obtain ⟨h1, h2, h3⟩ := fold_max l (max a y)
    rw [List.foldl_cons]
    refine ⟨by omega, fun x hx => ?_, ?_⟩
    · rcases List.mem_cons.mp hx with rfl | hx
      · omega
      · exact h2 x hx
    · rcases h3 with h3 | h3
      · by_cases e : y ≤ a
        · left; omega
        · right
          rw [h3, Nat.max_eq_right (by omega)]
          exact List.mem_cons_self
      · exact .inr (List.mem_cons_of_mem _ h3)
theorem most_ge {l : List Nat} {x : Nat} (h : x ∈ l) : x ≤ mostN 0 l := by
  cases l with
  | nil => cases h
  | cons a l =>
    obtain ⟨h1, h2, h3⟩ := fold_max l a
    show x ≤ l.foldl max a
    rcases List.mem_cons.mp h with rfl | h
    · exact h1
    · exact h2 x h
theorem most_mem {l : List Nat} (h : l ≠ []) : mostN 0 l ∈ l := by
  cases l with
  | nil => exact absurd rfl h
  | cons a l =>
    obtain ⟨h1, h2, h3⟩ := fold_max l a
    show l.foldl max a ∈ _
    rcases h3 with h3 | h3
    · rw [h3]; exact List.mem_cons_self
    · exact List.mem_cons_of_mem _ h3
/-! ### starts, ends -/
structure Run (B : Blk) (o : List Str) : Prop where
  rdy : Ready B
  ord : Ord B o
  len : o.length = B.rows.length
section
variable {B : Blk} {o : List Str}
theorem Run.inO (h : Run B o) {x : Str} (hx : x ∈ B.names) : x ∈ o := (h.ord.perm h.len).mem_iff.mpr hx
theorem Run.idx_lt (h : Run B o) {x : Str} (hx : x ∈ B.names) : idxS o x < o.length := (List.getElem?_eq_some_iff.mp (idx_get (h.inO hx)).1).1
theorem Run.at_ (h : Run B o) {x : Str} (hx : x ∈ B.names) : o[idxS o x]? = some x := (idx_get (h.inO hx)).1
theorem Run.row (h : Run B o) {k : Nat} {n : Str} (hk : o[k]? = some n) : ∃ r ∈ B.rows, r.nm = n ∧ B.reads n = r.rd := by
  obtain ⟨r, hr, e⟩ := List.mem_map.mp (h.ord.sub n (mem_of_get hk))
  exact ⟨r, hr, e, by rw [← e]; exact reads_row h.rdy.nd hr⟩
theorem reader_of {r : Row} (hr : r ∈ B.rows) {x : Str} (hx : x ∈ r.rd) : r.nm ∈ B.readers x := List.mem_map.mpr ⟨r, List.mem_filter.mpr ⟨hr, decide_eq_true hx⟩, rfl⟩
theorem of_reader {n x : Str} (h : n ∈ B.readers x) : ∃ r ∈ B.rows, r.nm = n ∧ x ∈ r.rd := by
  obtain ⟨r, hr, e⟩ := List.mem_map.mp h
  obtain ⟨h1, h2⟩ := List.mem_filter.mp hr
  exact ⟨r, h1, e, of_decide_eq_true h2⟩
theorem Run.end_le (h : Run B o) {r : Row} (hr : r ∈ B.rows) {x : Str} (hx : x ∈ r.rd) : B.rplace o x ≤ idxS o r.nm := least_le (List.mem_map.mpr ⟨_, reader_of hr hx, rfl⟩)
theorem Run.reader_lt (h : Run B o) {n x : Str} (hn0 : n ∈ B.readers x) : idxS o x < idxS o n := by
  obtain ⟨r, hr, rfl, hx⟩ := of_reader hn0
  have hn : r.nm ∈ B.names := List.mem_map.mpr ⟨r, hr, rfl⟩
  have h1 := h.ord.reads (h.at_ hn) x (by rw [reads_row h.rdy.nd hr]; exact hx)
  exact idx_take h.ord.nd h1
theorem Run.end_gt (h : Run B o) {x : Str} (hx : x ∈ B.names) : idxS o x < B.rplace o x := by
  unfold Blk.rplace
  by_cases e : (B.readers x).map (idxS o) = []
  · rw [e]
    exact h.idx_lt hx
  · obtain ⟨n, hn, e2⟩ := List.mem_map.mp (least_mem (d := o.length) e)
    rw [← e2]
    exact h.reader_lt hn
theorem Run.end_top (h : Run B o) (x : Str) : B.rplace o x ≤ o.length := by
  unfold Blk.rplace
  by_cases e : (B.readers x).map (idxS o) = []
  · rw [e]
    exact Nat.le_refl _
  · obtain ⟨n, hn, e2⟩ := List.mem_map.mp (least_mem (d := o.length) e)
    rw [← e2]
    obtain ⟨r, hr, e3, _⟩ := of_reader hn
    exact Nat.le_of_lt (h.idx_lt (List.mem_map.mpr ⟨r, hr, e3⟩))
/-- what is read at k; at the end: what lives -/
def rdAt (B : Blk) (o : List Str) (k : Nat) : List Str := match o[k]? with
  | some n => B.reads n
  | none => B.live
theorem Run.end_hit (h : Run B o) {x : Str} (hx : x ∈ B.awaited) : x ∈ rdAt B o (B.rplace o x) := by
  unfold Blk.rplace
  by_cases e : (B.readers x).map (idxS o) = []
  · rw [e]
    have e2 : B.readers x = [] := List.map_eq_nil_iff.mp e
    have h1 := of_filter hx
    unfold rdAt
    show x ∈ match o[o.length]? with | some n => B.reads n | none => B.live
    rw [List.getElem?_eq_none (Nat.le_refl _)]
    rw [e2] at h1
    simpa using h1
  · obtain ⟨n, hn, e2⟩ := List.mem_map.mp (least_mem (d := o.length) e)
    rw [← e2]
    obtain ⟨r, hr, e3, hxr⟩ := of_reader hn
    have hn2 : n ∈ B.names := List.mem_map.mpr ⟨r, hr, e3⟩
    unfold rdAt
    rw [h.at_ hn2]
    show x ∈ B.reads n
    rw [← e3, reads_row h.rdy.nd hr]
    exact hxr
where
  of_filter {B : Blk} {x : Str} (h : x ∈ B.awaited) : (decide (x ∈ B.live) || decide (0 < (B.readers x).length)) = true := (List.mem_filter.mp h).2
theorem Run.rd_sub (h : Run B o) {k : Nat} (hk : k ≤ o.length) {x : Str} (hx : x ∈ rdAt B o k) : x ∈ B.names ∧ idxS o x < k ∧ B.rplace o x ≤ k := by
  unfold rdAt at hx
  cases e : o[k]? with
  | none =>
    rw [e] at hx
    have hn := h.rdy.liv x hx
    have h2 := List.getElem?_eq_none_iff.mp e
    have : k = o.length := by omega
    subst this
    exact ⟨hn, h.idx_lt hn, h.end_top x⟩
  | some n =>
    rw [e] at hx
    have hx : x ∈ B.reads n := hx
    have h1 := h.ord.reads e x hx
    obtain ⟨r, hr, e3, e4⟩ := h.row e
    rw [e4] at hx
    refine ⟨h.rdy.sub r hr x hx, idx_take h.ord.nd h1, ?_⟩
    have := h.end_le hr hx
    rwa [e3, idx_at h.ord.nd e] at this
/-! ### the run -/
def nowAt (B : Blk) (o : List Str) (la : Str → Int) (k : Nat) : Int := topI (((runE B la (o.take k)).1 + 1) :: (rdAt B o k).map (getI (runE B la (o.take k)).2))
theorem run_now (la : Str → Int) {k : Nat} {n : Str} (h : o[k]? = some n) : runE B la (o.take (k + 1)) = (nowAt B o la k, (runE B la (o.take k)).2 ++ [(n, nowAt B o la k + la n)]) := by
  have e : rdAt B o k = B.reads n := by
    unfold rdAt
    rw [h]
  rw [take_more h, run_snoc]
  unfold nowAt
  rw [e]
  rfl
theorem now_end (la : Str → Int) : nowAt B o la o.length = endE B la o := by
  have e : rdAt B o o.length = B.live := by
    unfold rdAt
    rw [List.getElem?_eq_none (Nat.le_refl _)]
  unfold nowAt
  rw [e, List.take_length]
  rfl
theorem getI_snoc {rs : List (Str × Int)} {n : Str} {v : Int} (x : Str) : getI (rs ++ [(n, v)]) x = if x ∈ rs.map (·.1) then getI rs x else if n = x then v else 0 := by
  by_cases h : x ∈ rs.map (·.1)
  · rw [if_pos h]
    have h1 := find_some h
    unfold getI
    rw [List.find?_append]
    cases e : rs.find? fun p => decide (p.1 = x) with
    | none => rw [e] at h1; cases h1
    | some p => rfl
  · rw [if_neg h]
    have h1 : rs.find? (fun p => decide (p.1 = x)) = none := List.find?_eq_none.mpr fun p hp e => h (List.mem_map.mpr ⟨p, hp, of_decide_eq_true e⟩)
    unfold getI
    rw [List.find?_append, h1]
    by_cases e : n = x
    · simp [e]
    · simp [e]
theorem Run.ready (h : Run B o) (la : Str → Int) {x : Str} (hx : x ∈ B.names) : ∀ k, idxS o x < k → k ≤ o.length → getI (runE B la (o.take k)).2 x = nowAt B o la (idxS o x) + la x
  | 0, h1, _ => absurd h1 (Nat.not_lt_zero _)
  | k + 1, h1, h2 => by
    obtain ⟨n, hn⟩ := get_of_lt (show k < o.length by omega)
    rw [run_now la hn, getI_snoc, run_keys]
    by_cases e : idxS o x < k
    · have hm : x ∈ o.take k := by
        have := h.at_ hx
        exact List.mem_of_getElem? (i := idxS o x) (by rw [List.getElem?_take, if_pos e]; exact this)
      rw [if_pos hm]
      exact h.ready la hx k e (by omega)
    · have ek : idxS o x = k := by omega
      have hm : x ∉ o.take k := fun hm => e (idx_take h.ord.nd hm)
      have en : n = x := by
        have := h.at_ hx
        rw [ek, hn] at this
        exact Option.some.inj this
      rw [if_neg hm, if_pos en, ek, en]
theorem now_step (la : Str → Int) {k : Nat} (hk : k < o.length) : nowAt B o la k + 1 ≤ nowAt B o la (k + 1) := by
  obtain ⟨n, hn⟩ := get_of_lt hk
  have := topI_ub (l := ((runE B la (o.take (k + 1))).1 + 1) :: (rdAt B o (k + 1)).map (getI (runE B la (o.take (k + 1))).2)) List.mem_cons_self
  rw [run_now la hn] at this
  unfold nowAt at this ⊢
  rw [run_now la hn]
  exact this
theorem now_zero_ge (la : Str → Int) : 0 ≤ nowAt B o la 0 := by
  have := topI_ub (l := ((runE B la (o.take 0)).1 + 1) :: (rdAt B o 0).map (getI (runE B la (o.take 0)).2)) List.mem_cons_self
  exact this
end
end K21

/-! The plain law: the sets that add up are the sets apart. -/
namespace K21
open PySem PySem.Spec PyProof.Rows L2 RZ
section
variable {B : Blk} {o : List Str}
/-- two waits never at once -/
def off (B : Blk) (o : List Str) (x y : Str) : Prop := B.rplace o x ≤ idxS o y ∨ B.rplace o y ≤ idxS o x
theorem off_symm {x y : Str} (h : off B o x y) : off B o y x := h.symm
def ApartP (B : Blk) (o : List Str) (l : List Str) : Prop := (∀ x ∈ l, x ∈ B.awaited) ∧ l.Pairwise (off B o)
theorem meets_off {x y : Str} (hx : x ∈ B.awaited) (hy : y ∈ B.awaited) : meets (kat (waits B o) x) (kat (waits B o) y) = false ↔ off B o x y := by
  rw [kat_waits hx, kat_waits hy]
  unfold meets off
  simp only [Bool.and_eq_false_iff, decide_eq_false_iff_not]
  omega
theorem klook_iff {x : Str} : (klook (waits B o) x).isSome = true ↔ x ∈ B.awaited := by
  constructor
  · intro h
    cases e : klook (waits B o) x with
    | none => rw [e] at h; cases h
    | some p =>
      unfold klook at e
      obtain ⟨q, hq, _⟩ := Option.map_eq_some_iff.mp e
      have h1 := List.mem_of_find?_eq_some hq
      have h2 : decide (q.1 = x) = true := List.find?_some (p := fun p : Str × Nat × Nat => decide (p.1 = x)) hq
      have h3 := List.mem_map_of_mem (f := fun p : Str × Nat × Nat => p.1) h1
      rw [waits_names] at h3
      rw [← of_decide_eq_true h2]
      exact h3
  · intro h
    rw [klook_waits h]
    rfl
theorem pairs_iff {R : Str → Str → Prop} : ∀ {l : List Str}, (∀ p ∈ pairsOf l, R p.1 p.2) ↔ l.Pairwise R := by
  intro l
  have e : ∀ p : Str × Str, p ∈ pairsOf l ↔ ∃ i, l[i]? = some p.1 ∧ p.2 ∈ l.drop (i + 1) := fun p => by
    unfold pairsOf
    rw [List.mem_flatMap]
    constructor
    · rintro ⟨⟨a, i⟩, h1, h2⟩
      obtain ⟨m, hm, rfl⟩ := List.mem_map.mp h2
      have h3 := List.mem_zipIdx_iff_getElem?.mp h1
      exact ⟨i, h3, hm⟩
    · rintro ⟨i, h1, h2⟩
      exact ⟨(p.1, i), List.mem_zipIdx_iff_getElem?.mpr h1, List.mem_map.mpr ⟨p.2, h2, rfl⟩⟩
  rw [List.pairwise_iff_getElem]
  constructor
  · intro h i j hi hj hij
    refine h (l[i], l[j]) ((e _).mpr ⟨i, List.getElem?_eq_getElem hi, ?_⟩)
    refine List.mem_of_getElem? (i := j - (i + 1)) ?_
    rw [List.getElem?_drop]
    show l[i + 1 + (j - (i + 1))]? = some l[j]
    rw [show i + 1 + (j - (i + 1)) = j by omega]
    exact List.getElem?_eq_getElem hj
  · intro h p hp
    obtain ⟨i, h1, h2⟩ := (e p).mp hp
    obtain ⟨j, hj⟩ := List.getElem?_of_mem h2
    rw [List.getElem?_drop] at hj
    obtain ⟨a1, a2⟩ := List.getElem?_eq_some_iff.mp h1
    obtain ⟨b1, b2⟩ := List.getElem?_eq_some_iff.mp hj
    have := h i (i + 1 + j) a1 b1 (by omega)
    rwa [a2, b2] at this
theorem apart_iff {l : List Str} : apartK (waits B o) l = true ↔ ApartP B o l := by
  unfold apartK ApartP
  rw [Bool.and_eq_true, List.all_eq_true, Bool.not_eq_true', ← Bool.not_eq_true, List.any_eq_true]
  constructor
  · rintro ⟨h1, h2⟩
    have h3 : ∀ x ∈ l, x ∈ B.awaited := fun x hx => klook_iff.mp (h1 x hx)
    refine ⟨h3, ?_⟩
    have h4 : l.Pairwise fun x y => meets (kat (waits B o) x) (kat (waits B o) y) = false := pairs_iff.mp fun p hp => by
      cases e : meets (kat (waits B o) p.1) (kat (waits B o) p.2) with
      | false => rfl
      | true => exact absurd ⟨p, hp, e⟩ h2
    rw [List.pairwise_iff_getElem] at h4 ⊢
    exact fun i j hi hj hij => (meets_off (h3 _ (List.getElem_mem hi)) (h3 _ (List.getElem_mem hj))).mp (h4 i j hi hj hij)
  · rintro ⟨h1, h2⟩
    refine ⟨fun x hx => klook_iff.mpr (h1 x hx), ?_⟩
    rintro ⟨p, hp, e⟩
    have h4 : l.Pairwise fun x y => meets (kat (waits B o) x) (kat (waits B o) y) = false := by
      rw [List.pairwise_iff_getElem] at h2 ⊢
      exact fun i j hi hj hij => (meets_off (h1 _ (List.getElem_mem hi)) (h1 _ (List.getElem_mem hj))).mpr (h2 i j hi hj hij)
    have := pairs_iff.mpr h4 p hp
    rw [this] at e
    cases e
theorem ApartP.perm {l m : List Str} (h : ApartP B o l) (p : l.Perm m) : ApartP B o m := ⟨fun x hx => h.1 x (p.mem_iff.mpr hx), (p.pairwise_iff fun {x y} h => off_symm h).mp h.2⟩
theorem awaited_name {x : Str} (h : x ∈ B.awaited) : x ∈ B.names := awaited_sub h
/-! ### above -/
theorem Run.upper (h : Run B o) (S : List Str) (hS : ∀ x ∈ S, x ∈ B.awaited) : ∀ k, k ≤ o.length → ∃ J : List Str, J.Nodup ∧ (∀ x ∈ J, x ∈ S ∧ B.rplace o x ≤ k) ∧ J.Pairwise (off B o) ∧ nowAt B o (lastE S) k ≤ (k : Nat) + 1001 * (J.length : Nat) := by
  intro k
  induction k using Nat.strongRecOn with
  | ind k ih =>
    intro hk
    have hm := topI_mem (l := ((runE B (lastE S) (o.take k)).1 + 1) :: (rdAt B o k).map (getI (runE B (lastE S) (o.take k)).2)) (List.cons_ne_nil _ _)
    have e : nowAt B o (lastE S) k = topI (((runE B (lastE S) (o.take k)).1 + 1) :: (rdAt B o k).map (getI (runE B (lastE S) (o.take k)).2)) := rfl
    rw [← e] at hm
    rcases List.mem_cons.mp hm with hm | hm
    · cases k with
      | zero =>
        refine ⟨[], List.nodup_nil, fun x hx => absurd hx List.not_mem_nil, List.Pairwise.nil, ?_⟩
        rw [hm]
        exact Int.le_refl _
      | succ k =>
        obtain ⟨J, j1, j2, j3, j4⟩ := ih k (by omega) (by omega)
        obtain ⟨n, hn⟩ := get_of_lt (show k < o.length by omega)
        rw [run_now _ hn] at hm
        refine ⟨J, j1, fun x hx => ⟨(j2 x hx).1, Nat.le_succ_of_le (j2 x hx).2⟩, j3, ?_⟩
        rw [hm]
        simp only
        omega
    · obtain ⟨x, hx, ex⟩ := List.mem_map.mp hm
      obtain ⟨x1, x2, x3⟩ := h.rd_sub hk hx
      rw [h.ready _ x1 k x2 hk] at ex
      obtain ⟨J, j1, j2, j3, j4⟩ := ih (idxS o x) x2 (by omega)
      by_cases hs : x ∈ S
      · rw [show lastE S x = 1001 from if_pos hs] at ex
        have gt := h.end_gt x1
        refine ⟨x :: J, List.nodup_cons.mpr ⟨fun hj => ?_, j1⟩, fun y hy => ?_, List.pairwise_cons.mpr ⟨fun y hy => .inr (j2 y hy).2, j3⟩, ?_⟩
        · have := (j2 x hj).2
          omega
        · rcases List.mem_cons.mp hy with rfl | hy
          · exact ⟨hs, x3⟩
          · exact ⟨(j2 y hy).1, by have := (j2 y hy).2; omega⟩
        · rw [← ex, List.length_cons]
          omega
      · rw [show lastE S x = 1 from if_neg hs] at ex
        refine ⟨J, j1, fun y hy => ⟨(j2 y hy).1, by have := (j2 y hy).2; omega⟩, j3, ?_⟩
        rw [← ex]
        omega
/-! ### below -/
theorem Run.lower (h : Run B o) (S : List Str) (nd : S.Nodup) (hS : ApartP B o S) : ∀ k, k ≤ o.length → (1001 * ((S.filter fun x => decide (B.rplace o x ≤ k)).length : Nat) : Int) ≤ nowAt B o (lastE S) k := by
  intro k
  induction k using Nat.strongRecOn with
  | ind k ih =>
    intro hk
    by_cases hx : ∃ x ∈ S, B.rplace o x = k
    · obtain ⟨x, hx, ek⟩ := hx
      have hxn := awaited_name (hS.1 x hx)
      have gt := h.end_gt hxn
      have i1 := ih (idxS o x) (by omega) (by omega)
      have hit := h.end_hit (hS.1 x hx)
      rw [ek] at hit
      have h1 := topI_ub (l := ((runE B (lastE S) (o.take k)).1 + 1) :: (rdAt B o k).map (getI (runE B (lastE S) (o.take k)).2)) (List.mem_cons_of_mem _ (List.mem_map.mpr ⟨x, hit, rfl⟩))
      rw [h.ready _ hxn k (by omega) hk] at h1
      rw [show lastE S x = 1001 from if_pos hx] at h1
      have e : nowAt B o (lastE S) k = topI (((runE B (lastE S) (o.take k)).1 + 1) :: (rdAt B o k).map (getI (runE B (lastE S) (o.take k)).2)) := rfl
      have h2 : (S.filter fun y => decide (B.rplace o y ≤ k)).length ≤ (S.filter fun y => decide (B.rplace o y ≤ idxS o x)).length + 1 := by
        have h3 := nodup_sub_len (l := S.filter fun y => decide (B.rplace o y ≤ k)) (m := x :: S.filter fun y => decide (B.rplace o y ≤ idxS o x)) (nd.sublist List.filter_sublist) fun y hy => by
          obtain ⟨y1, y2⟩ := List.mem_filter.mp hy
          have y2 := of_decide_eq_true y2
          by_cases exy : y = x
          · rw [exy]; exact List.mem_cons_self
          · have hoff : off B o x y := by
              have := hS.2
              rcases pairwise_two this hx y1 (fun q => exy q.symm) with q | q
              · exact q
              · exact off_symm q
            have gty := h.end_gt (awaited_name (hS.1 y y1))
            refine List.mem_cons_of_mem _ (List.mem_filter.mpr ⟨y1, decide_eq_true ?_⟩)
            rcases hoff with q | q <;> omega
        rwa [List.length_cons] at h3
      rw [e]
      omega
    · cases k with
      | zero =>
        have h2 : S.filter (fun y => decide (B.rplace o y ≤ 0)) = [] := List.filter_eq_nil_iff.mpr fun y hy q => by
          have := of_decide_eq_true q
          have := h.end_gt (awaited_name (hS.1 y hy))
          omega
        rw [h2]
        exact now_zero_ge _
      | succ k =>
        have i1 := ih k (by omega) (by omega)
        have h2 : S.filter (fun y => decide (B.rplace o y ≤ k + 1)) = S.filter (fun y => decide (B.rplace o y ≤ k)) := List.filter_congr fun y hy => decide_eq_decide.mpr (by
          have : B.rplace o y ≠ k + 1 := fun q => hx ⟨y, hy, q⟩
          omega)
        rw [h2]
        have := now_step (B := B) (o := o) (lastE S) (k := k) (by omega)
        omega
where
  pairwise_two {R : Str → Str → Prop} {l : List Str} (h : l.Pairwise R) {x y : Str} (hx : x ∈ l) (hy : y ∈ l) (ne : x ≠ y) : R x y ∨ R y x := by
    obtain ⟨i, hi, rfl⟩ := List.getElem_of_mem hx
    obtain ⟨j, hj, rfl⟩ := List.getElem_of_mem hy
    rw [List.pairwise_iff_getElem] at h
    rcases Nat.lt_trichotomy i j with q | q | q
    · exact .inl (h i j hi hj q)
    · subst q; exact absurd rfl ne
    · exact .inr (h j i hj hi q)
/-! ### both -/
theorem Run.adds (h : Run B o) (few : o.length ≤ 10) {S : List Str} (hS : S.Sublist B.awaited) : addOk B o S = apartK (waits B o) S := by
  have nd : S.Nodup := (awaited_nodup h.rdy.nd).sublist hS
  have inA : ∀ x ∈ S, x ∈ B.awaited := fun x hx => hS.subset hx
  have sl : S.length ≤ o.length := by
    have h1 := nodup_sub_len nd (m := o) fun x hx => h.inO (awaited_name (inA x hx))
    exact h1
  rw [Bool.eq_iff_iff, apart_iff]
  unfold addOk
  rw [decide_eq_true_iff, ← now_end]
  constructor
  · intro hle
    obtain ⟨J, j1, j2, j3, j4⟩ := h.upper S inA o.length (Nat.le_refl _)
    have jl := nodup_sub_len j1 (m := S) fun x hx => (j2 x hx).1
    have jp : J.Perm S := nodup_sub_perm j1 (fun x hx => (j2 x hx).1) (by omega)
    exact ApartP.perm ⟨fun x hx => inA x (j2 x hx).1, j3⟩ jp
  · intro ha
    have h1 := h.lower S nd ha o.length (Nat.le_refl _)
    have h2 : S.filter (fun x => decide (B.rplace o x ≤ o.length)) = S := List.filter_eq_self.mpr fun x _ => decide_eq_true (h.end_top x)
    rw [h2] at h1
    omega
end
end K21

/-! The plain law: the rows are as many as the most at once, and no parting has fewer. -/
namespace K21
open PySem PySem.Spec PyProof.Rows L2 RZ
theorem ded_perm : ∀ {l : List Str}, l.Nodup → (dedS l).Perm l := fun {l} h => perm_of_mem (ded_nodup l) h fun _ => mem_ded
theorem sset_perm {l : List Str} (h : l.Nodup) : (sset l).Perm l := (isort_perm _).trans (ded_perm h)
theorem sset_mem {l : List Str} {x : Str} : x ∈ sset l ↔ x ∈ l := (isort_perm _).mem_iff.trans mem_ded
theorem addTo_cases (kn : KN) (n : Str) : ∀ rs : List (List Str), (addTo kn n rs = rs ++ [[n]] ∧ ∀ r ∈ rs, fitsR kn n r = false) ∨ ∃ a r b, rs = a ++ r :: b ∧ fitsR kn n r = true ∧ addTo kn n rs = a ++ (r ++ [n]) :: b
  | [] => .inl ⟨rfl, fun r h => absurd h List.not_mem_nil⟩
  | r :: rs => by
    unfold addTo
    by_cases e : fitsR kn n r = true
    · rw [if_pos e]
      exact .inr ⟨[], r, rs, rfl, e, rfl⟩
    · rw [if_neg e]
      rcases addTo_cases kn n rs with ⟨h1, h2⟩ | ⟨a, r2, b, rfl, h2, h3⟩
      · refine .inl ⟨by rw [h1]; rfl, fun r3 h3 => ?_⟩
        rcases List.mem_cons.mp h3 with rfl | h3
        · simpa using e
        · exact h2 r3 h3
      · exact .inr ⟨r :: a, r2, b, rfl, h2, by rw [h3]; rfl⟩
theorem lasts_nodup : ∀ {rs : List (List Str)}, rs.flatten.Nodup → (∀ r ∈ rs, r ≠ []) → (rs.map lastS).Nodup
  | [], _, _ => List.nodup_nil
  | r :: rs, nd, h => by
    rw [List.flatten_cons, List.nodup_append] at nd
    rw [List.map_cons, List.nodup_cons]
    refine ⟨fun hm => ?_, lasts_nodup nd.2.1 fun r2 hr => h r2 (List.mem_cons_of_mem _ hr)⟩
    obtain ⟨r2, hr2, e⟩ := List.mem_map.mp hm
    have h1 := lastS_mem (h r List.mem_cons_self)
    have h2 := lastS_mem (h r2 (List.mem_cons_of_mem _ hr2))
    exact nd.2.2 _ h1 _ (List.mem_flatten.mpr ⟨r2, hr2, h2⟩) e.symm
section
variable {B : Blk} {o : List Str}
theorem once_mem {i : Nat} {x : Str} : x ∈ onceS (waits B o) i ↔ x ∈ B.awaited ∧ idxS o x ≤ i ∧ i < B.rplace o x := by
  unfold onceS
  rw [List.mem_filter, waits_names]
  constructor
  · rintro ⟨h1, h2⟩
    rw [kat_waits h1] at h2
    simp only [Bool.and_eq_true, decide_eq_true_eq] at h2
    exact ⟨h1, h2⟩
  · rintro ⟨h1, h2, h3⟩
    rw [kat_waits h1]
    simp only [Bool.and_eq_true, decide_eq_true_eq]
    exact ⟨h1, h2, h3⟩
theorem Run.nodA (h : Run B o) : B.awaited.Nodup := awaited_nodup h.rdy.nd
theorem Run.once_nd (h : Run B o) (i : Nat) : (onceS (waits B o) i).Nodup := by
  unfold onceS
  rw [waits_names]
  exact h.nodA.sublist List.filter_sublist
theorem Run.most_ub (h : Run B o) {i : Nat} (hi : i < o.length) : (onceS (waits B o) i).length ≤ B.most o := by
  have : (sset (onceS (waits B o) i)).length ≤ B.most o := most_ge (List.mem_map.mpr ⟨i, List.mem_range.mpr hi, rfl⟩)
  rwa [(sset_perm (h.once_nd i)).length_eq] at this
/-- the rows made so far -/
structure RowsUp (B : Blk) (o ns : List Str) (rs : List (List Str)) : Prop where
  pm : rs.flatten.Perm ns
  ne : ∀ r ∈ rs, r ≠ []
  pw : ∀ r ∈ rs, r.Pairwise fun x y => B.rplace o x ≤ idxS o y
  few : rs.length ≤ B.most o
theorem last_top {R : Str → Str → Prop} : ∀ {r : List Str}, r ≠ [] → r.Pairwise R → ∀ x ∈ r, x = lastS r ∨ R x (lastS r) := fun {r} h p x hx => by
  have e : r = r.dropLast ++ [lastS r] := by
    unfold lastS
    rw [List.getLastD_eq_getLast?, List.getLast?_eq_some_getLast h]
    exact (List.dropLast_concat_getLast h).symm
  rw [e] at hx p
  rcases List.mem_append.mp hx with hx | hx
  · exact .inr ((List.pairwise_append.mp p).2.2 x hx _ List.mem_cons_self)
  · exact .inl (List.mem_singleton.mp hx)
theorem Run.rows_more (h : Run B o) {ns : List Str} {rs : List (List Str)} {n : Str} (u : RowsUp B o ns rs) (nd : (ns ++ [n]).Nodup) (hA : ∀ x ∈ ns ++ [n], x ∈ B.awaited) (hs : ∀ x ∈ ns, idxS o x ≤ idxS o n) : RowsUp B o (ns ++ [n]) (addTo (waits B o) n rs) := by
  have hn : n ∈ B.awaited := hA n (by simp)
  have inA : ∀ x ∈ rs.flatten, x ∈ B.awaited := fun x hx => hA x (List.mem_append_left _ (u.pm.mem_iff.mp hx))
  have fit : ∀ r ∈ rs, fitsR (waits B o) n r = decide (B.rplace o (lastS r) ≤ idxS o n) := fun r hr => by
    unfold fitsR
    rw [kat_waits hn, kat_waits (inA _ (List.mem_flatten.mpr ⟨r, hr, lastS_mem (u.ne r hr)⟩))]
  rcases addTo_cases (waits B o) n rs with ⟨e, hf⟩ | ⟨a, r, b, rfl, hf, e⟩
  · rw [e]
    refine ⟨?_, fun r hr => ?_, fun r hr => ?_, ?_⟩
    · rw [List.flatten_append]
      exact u.pm.append (List.Perm.refl _)
    · rcases List.mem_append.mp hr with hr | hr
      · exact u.ne r hr
      · rw [List.mem_singleton.mp hr]; exact List.cons_ne_nil _ _
    · rcases List.mem_append.mp hr with hr | hr
      · exact u.pw r hr
      · rw [List.mem_singleton.mp hr]; exact List.pairwise_singleton _ _
    · have hnn := awaited_name hn
      have h1 := h.most_ub (h.idx_lt hnn)
      have h2 : (rs.map lastS ++ [n]).length ≤ (onceS (waits B o) (idxS o n)).length := by
        refine nodup_sub_len ?_ fun x hx => ?_
        · rw [List.nodup_append] at nd ⊢
          refine ⟨lasts_nodup (u.pm.nodup_iff.mpr nd.1) u.ne, List.pairwise_singleton _ _, fun x hx y hy => ?_⟩
          obtain ⟨r, hr, rfl⟩ := List.mem_map.mp hx
          exact nd.2.2 _ (u.pm.mem_iff.mp (List.mem_flatten.mpr ⟨r, hr, lastS_mem (u.ne r hr)⟩)) y hy
        · rcases List.mem_append.mp hx with hx | hx
          · obtain ⟨r, hr, rfl⟩ := List.mem_map.mp hx
            have hl := List.mem_flatten.mpr ⟨r, hr, lastS_mem (u.ne r hr)⟩
            have h3 := hf r hr
            rw [fit r hr] at h3
            have h3 := of_decide_eq_false h3
            exact once_mem.mpr ⟨inA _ hl, hs _ (u.pm.mem_iff.mp hl), by omega⟩
          · rw [List.mem_singleton.mp hx]
            exact once_mem.mpr ⟨hn, Nat.le_refl _, h.end_gt hnn⟩
      rw [List.length_append, List.length_map, List.length_singleton] at h2
      rw [List.length_append, List.length_singleton]
      omega
  · rw [e]
    have hr : r ∈ a ++ r :: b := List.mem_append_right _ List.mem_cons_self
    rw [fit r hr] at hf
    have hf := of_decide_eq_true hf
    refine ⟨?_, fun r2 hr2 => ?_, fun r2 hr2 => ?_, ?_⟩
    · have p := u.pm
      rw [List.flatten_append, List.flatten_cons] at p ⊢
      have : (a.flatten ++ (r ++ [n] ++ b.flatten)).Perm ((a.flatten ++ (r ++ b.flatten)) ++ [n]) := by
        simp only [List.append_assoc]
        exact ((List.perm_append_comm (l₁ := [n]) (l₂ := b.flatten)).append_left r).append_left _
      exact this.trans (p.append (List.Perm.refl _))
    · rcases List.mem_append.mp hr2 with q | q
      · exact u.ne r2 (List.mem_append_left _ q)
      · rcases List.mem_cons.mp q with rfl | q
        · simp
        · exact u.ne r2 (List.mem_append_right _ (List.mem_cons_of_mem _ q))
    · rcases List.mem_append.mp hr2 with q | q
      · exact u.pw r2 (List.mem_append_left _ q)
      · rcases List.mem_cons.mp q with rfl | q
        · refine List.pairwise_append.mpr ⟨u.pw r hr, List.pairwise_singleton _ _, fun x hx y hy => ?_⟩
          rw [List.mem_singleton.mp hy]
          rcases last_top (u.ne r hr) (u.pw r hr) x hx with rfl | q
          · exact hf
          · have := h.end_gt (awaited_name (inA _ (List.mem_flatten.mpr ⟨r, hr, lastS_mem (u.ne r hr)⟩)))
            omega
        · exact u.pw r2 (List.mem_append_right _ (List.mem_cons_of_mem _ q))
    · have := u.few
      rw [List.length_append, List.length_cons] at this ⊢
      exact this
theorem Run.greedy_up (h : Run B o) : ∀ ns : List Str, ns.Nodup → (∀ x ∈ ns, x ∈ B.awaited) → ns.Pairwise (fun x y => idxS o x ≤ idxS o y) → RowsUp B o ns (greedy (waits B o) ns) := by
  intro ns
  induction ns using snoc_ind with
  | h0 => exact fun _ _ _ => ⟨List.Perm.refl _, fun r hr => absurd hr List.not_mem_nil, fun r hr => absurd hr List.not_mem_nil, Nat.zero_le _⟩
  | h1 ns n ih =>
    intro nd hA hp
    rw [greedy_snoc]
    obtain ⟨p1, p2, p3⟩ := List.pairwise_append.mp hp
    exact h.rows_more (ih (List.nodup_append.mp nd).1 (fun x hx => hA x (List.mem_append_left _ hx)) p1) nd hA fun x hx => p3 x hx n List.mem_cons_self
def rowsOf (B : Blk) (o : List Str) : List (List Str) := greedy (waits B o) (byKey (waits B o))
theorem byKey_perm : (byKey (waits B o)).Perm B.awaited := by
  rw [← waits_names B o]
  exact isort_perm _
theorem Run.rows (h : Run B o) : RowsUp B o B.awaited (rowsOf B o) := by
  have pm := byKey_perm (B := B) (o := o)
  have s : Srt (kle (waits B o)) (byKey (waits B o)) := isort_srt (kle_total _) _
  have hA : ∀ x ∈ byKey (waits B o), x ∈ B.awaited := fun x hx => pm.mem_iff.mp hx
  have s2 : (byKey (waits B o)).Pairwise fun x y => idxS o x ≤ idxS o y := by
    unfold Srt at s
    rw [List.pairwise_iff_getElem] at s ⊢
    intro i j hi hj hij
    have q := s i j hi hj hij
    unfold kle at q
    rw [kat_waits (hA _ (List.getElem_mem hi)), kat_waits (hA _ (List.getElem_mem hj))] at q
    simp only [Bool.or_eq_true, Bool.and_eq_true, decide_eq_true_eq] at q
    omega
  have u := h.greedy_up _ (pm.nodup_iff.mpr h.nodA) hA s2
  exact ⟨u.pm.trans pm, u.ne, u.pw, u.few⟩
theorem Run.rows_apart (h : Run B o) {r : List Str} (hr : r ∈ rowsOf B o) : ApartP B o r :=
  ⟨fun x hx => h.rows.pm.mem_iff.mp (List.mem_flatten.mpr ⟨r, hr, hx⟩), (h.rows.pw r hr).imp fun q => .inl q⟩
/-! ### no parting has fewer -/
theorem Run.one_at (h : Run B o) (i : Nat) : ∀ {l : List Str}, ApartP B o l → (l.filter fun x => decide (idxS o x ≤ i) && decide (i < B.rplace o x)).length ≤ 1 := fun {l} a => by
  have p := a.2.sublist (List.filter_sublist (p := fun x => decide (idxS o x ≤ i) && decide (i < B.rplace o x)))
  cases e : l.filter fun x => decide (idxS o x ≤ i) && decide (i < B.rplace o x) with
  | nil => exact Nat.zero_le _
  | cons x r =>
    cases r with
    | nil => exact Nat.le_refl _
    | cons y r =>
      have hx : x ∈ l.filter fun x => decide (idxS o x ≤ i) && decide (i < B.rplace o x) := by rw [e]; exact List.mem_cons_self
      have hy : y ∈ l.filter fun x => decide (idxS o x ≤ i) && decide (i < B.rplace o x) := by rw [e]; exact List.mem_cons_of_mem _ List.mem_cons_self
      have hx := (List.mem_filter.mp hx).2
      have hy := (List.mem_filter.mp hy).2
      simp only [Bool.and_eq_true, decide_eq_true_eq] at hx hy
      rw [e] at p
      have q := (List.pairwise_cons.mp p).1 y List.mem_cons_self
      rcases q with q | q <;> omega
theorem Run.most_le (h : Run B o) {ls : List (List Str)} (pm : ls.flatten.Perm B.awaited) (ha : ∀ l ∈ ls, ApartP B o l) : B.most o ≤ ls.length := by
  unfold Blk.most
  by_cases e : (List.range o.length).map (fun i => (sset (onceS (waits B o) i)).length) = []
  · rw [e]
    exact Nat.zero_le _
  · obtain ⟨i, hi, e2⟩ := List.mem_map.mp (most_mem e)
    rw [← e2, (sset_perm (h.once_nd i)).length_eq]
    have e3 : (onceS (waits B o) i).Perm (ls.flatten.filter fun x => decide (idxS o x ≤ i) && decide (i < B.rplace o x)) := by
      refine perm_of_mem (h.once_nd i) ((pm.nodup_iff.mpr h.nodA).sublist List.filter_sublist) fun x => ?_
      rw [once_mem, List.mem_filter, pm.mem_iff]
      simp only [Bool.and_eq_true, decide_eq_true_eq]
    rw [e3.length_eq]
    clear e3 e2 e pm
    induction ls with
    | nil => exact Nat.le_refl _
    | cons l ls ih =>
      have h1 := ih fun l hl => ha l (List.mem_cons_of_mem _ hl)
      have h2 := h.one_at i (ha l List.mem_cons_self)
      rw [List.flatten_cons, List.filter_append, List.length_append, List.length_cons]
      omega
theorem Run.rows_len (h : Run B o) : (rowsOf B o).length = B.most o := Nat.le_antisymm h.rows.few (h.most_le h.rows.pm fun r hr => h.rows_apart hr)
end
end K21

/-! The plain law: all partings, the best of them. -/
namespace K21
open PySem PySem.Spec PyProof.Rows L2 RZ
/-- a lot in the order of the tags -/
def arr (tags g : List Str) : List Str := tags.filter fun x => decide (x ∈ g)
theorem arr_snoc_in {tags g : List Str} {t : Str} (h : t ∈ g) : arr (tags ++ [t]) g = arr tags g ++ [t] := by
  unfold arr
  rw [List.filter_append, List.filter_cons, if_pos (decide_eq_true h)]
  rfl
theorem arr_snoc_out {tags g : List Str} {t : Str} (h : t ∉ g) : arr (tags ++ [t]) g = arr tags g := by
  unfold arr
  rw [List.filter_append, List.filter_cons, if_neg (by simpa using h)]
  simp
theorem arr_sub {tags g : List Str} : (arr tags g).Sublist tags := List.filter_sublist
theorem parts_sub {tags : List Str} : ∀ ls ∈ partsOf tags, ∀ l ∈ ls, l.Sublist tags := by
  induction tags using snoc_ind with
  | h0 =>
    intro ls hl l h
    rw [List.mem_singleton.mp (show ls ∈ [[]] from hl)] at h
    cases h
  | h1 tags t ih =>
    intro ls hl l h
    rw [parts_snoc] at hl
    obtain ⟨lots, h1, h2⟩ := List.mem_flatMap.mp hl
    rcases mem_putIn h2 with rfl | ⟨a, m, b, rfl, rfl⟩
    · rcases List.mem_append.mp h with h | h
      · exact (ih lots h1 l h).trans (List.sublist_append_left _ _)
      · rw [List.mem_singleton.mp h]
        exact List.sublist_append_right _ _
    · rcases List.mem_append.mp h with h | h
      · exact (ih _ h1 l (List.mem_append_left _ h)).trans (List.sublist_append_left _ _)
      · rcases List.mem_cons.mp h with rfl | h
        · exact (ih _ h1 m (List.mem_append_right _ List.mem_cons_self)).append (List.Sublist.refl _)
        · exact (ih _ h1 l (List.mem_append_right _ (List.mem_cons_of_mem _ h))).trans (List.sublist_append_left _ _)
theorem putIn_new {t : Str} {lots : List (List Str)} : lots ++ [[t]] ∈ putIn t lots := List.mem_cons_self
theorem putIn_at {t : Str} {a b : List (List Str)} {l : List Str} : a ++ (l ++ [t]) :: b ∈ putIn t (a ++ l :: b) := by
  refine List.mem_cons_of_mem _ (List.mem_map.mpr ⟨(l, a.length), List.mem_zipIdx_iff_getElem?.mpr (by simp), ?_⟩)
  unfold putAt
  simp only [List.append_assoc]
  rw [List.take_left' rfl, List.singleton_append]
  congr 2
  rw [← List.drop_drop, List.drop_left' rfl]
  rfl
theorem split_at {α : Type} {x : α} {l : List α} (h : x ∈ l) : ∃ a b, l = a ++ x :: b := List.append_of_mem h
theorem parts_all {tags : List Str} : tags.Nodup → ∀ gs : List (List Str), (∀ g ∈ gs, g ≠ []) → gs.flatten.Perm tags → ∃ ls ∈ partsOf tags, ls.Perm (gs.map (arr tags)) := by
  induction tags using snoc_ind with
  | h0 =>
    intro _ gs ne pm
    have e : gs = [] := by
      cases gs with
      | nil => rfl
      | cons g gs =>
        have := pm.length_eq
        rw [List.flatten_cons, List.length_append] at this
        have h2 := List.length_pos_iff.mpr (ne g List.mem_cons_self)
        have h3 : ([] : List Str).length = 0 := rfl
        omega
    subst e
    exact ⟨[], List.mem_singleton.mpr rfl, List.Perm.refl _⟩
  | h1 tags t ih =>
    intro nd gs ne pm
    obtain ⟨nd1, _, nd3⟩ := List.nodup_append.mp nd
    have ht : t ∉ tags := fun h => nd3 t h t List.mem_cons_self rfl
    have htg : t ∈ gs.flatten := pm.mem_iff.mpr (by simp)
    obtain ⟨g, hg, htg2⟩ := List.mem_flatten.mp htg
    obtain ⟨a, b, rfl⟩ := split_at hg
    have ndf : (a ++ g :: b).flatten.Nodup := pm.nodup_iff.mpr nd
    rw [List.flatten_append, List.flatten_cons] at ndf pm
    obtain ⟨n1, n2, n3⟩ := List.nodup_append.mp ndf
    obtain ⟨m1, m2, m3⟩ := List.nodup_append.mp n2
    have ta : ∀ x ∈ a, t ∉ x := fun x hx hm => n3 t (List.mem_flatten.mpr ⟨x, hx, hm⟩) t (List.mem_append_left _ htg2) rfl
    have tb : ∀ x ∈ b, t ∉ x := fun x hx hm => m3 t htg2 t (List.mem_flatten.mpr ⟨x, hx, hm⟩) rfl
    have pg : g.Perm (t :: g.erase t) := List.perm_cons_erase htg2
    have p2 : (a.flatten ++ (g.erase t ++ b.flatten)).Perm tags := by
      have q : (t :: (a.flatten ++ (g.erase t ++ b.flatten))).Perm (t :: tags) := by
        refine List.Perm.trans ?_ (pm.trans (List.perm_append_comm (l₁ := tags) (l₂ := [t])))
        refine List.Perm.trans ?_ ((pg.append_right b.flatten).append_left a.flatten).symm
        exact (List.perm_middle (a := t) (l₁ := a.flatten) (l₂ := g.erase t ++ b.flatten)).symm
      exact List.Perm.cons_inv q
    have mapout : ∀ {xs : List (List Str)}, (∀ x ∈ xs, t ∉ x) → xs.map (arr (tags ++ [t])) = xs.map (arr tags) := fun h => List.map_congr_left fun x hx => arr_snoc_out (h x hx)
    have arr_er : arr tags (g.erase t) = arr tags g := by
      unfold arr
      refine List.filter_congr fun x hx => decide_eq_decide.mpr ?_
      have : x ≠ t := fun e => ht (e ▸ hx)
      exact List.mem_erase_of_ne this
    by_cases eg : g.erase t = []
    · rw [eg] at p2 arr_er
      obtain ⟨ls, h1, h2⟩ := ih nd1 (a ++ b) (fun x hx => ne x (by
        rcases List.mem_append.mp hx with h | h
        · exact List.mem_append_left _ h
        · exact List.mem_append_right _ (List.mem_cons_of_mem _ h))) (by rw [List.flatten_append]; exact p2)
      refine ⟨ls ++ [[t]], by rw [parts_snoc]; exact List.mem_flatMap.mpr ⟨ls, h1, putIn_new⟩, ?_⟩
      rw [List.map_append, List.map_cons, mapout ta, mapout tb, arr_snoc_in htg2, ← arr_er]
      have e0 : arr tags [] = [] := by
        unfold arr
        rw [List.filter_eq_nil_iff]
        intro x _ q
        simp at q
      rw [e0]
      rw [List.map_append] at h2
      refine (h2.append_right _).trans ?_
      show ((a.map (arr tags) ++ b.map (arr tags)) ++ [[t]]).Perm (a.map (arr tags) ++ [t] :: b.map (arr tags))
      rw [List.append_assoc]
      exact (List.perm_append_comm (l₁ := b.map (arr tags)) (l₂ := [[t]])).append_left _
    · obtain ⟨ls, h1, h2⟩ := ih nd1 (a ++ g.erase t :: b) (fun x hx => by
        rcases List.mem_append.mp hx with h | h
        · exact ne x (List.mem_append_left _ h)
        · rcases List.mem_cons.mp h with rfl | h
          · exact eg
          · exact ne x (List.mem_append_right _ (List.mem_cons_of_mem _ h))) (by rw [List.flatten_append, List.flatten_cons]; exact p2)
      rw [List.map_append, List.map_cons, arr_er] at h2
      obtain ⟨p, q, rfl⟩ := split_at (h2.mem_iff.mpr (show arr tags g ∈ _ from List.mem_append_right _ List.mem_cons_self))
      refine ⟨p ++ (arr tags g ++ [t]) :: q, by rw [parts_snoc]; exact List.mem_flatMap.mpr ⟨_, h1, putIn_at⟩, ?_⟩
      rw [List.map_append, List.map_cons, mapout ta, mapout tb, arr_snoc_in htg2]
      have h3 : (p ++ q).Perm (a.map (arr tags) ++ b.map (arr tags)) := by
        have z : (arr tags g :: (p ++ q)).Perm (arr tags g :: (a.map (arr tags) ++ b.map (arr tags))) := (List.perm_middle.symm.trans h2).trans List.perm_middle
        exact List.Perm.cons_inv z
      exact (List.perm_middle.trans (h3.cons _)).trans List.perm_middle.symm
section
variable {B : Blk} {o : List Str}
theorem Run.srtA (h : Run B o) : Srt sle B.awaited := by
  have h1 : B.awaited.Sublist B.names := List.filter_sublist.trans (List.Sublist.map _ List.filter_sublist)
  exact h.rdy.srt.sublist h1
theorem Run.sset_arr (h : Run B o) {g : List Str} (hg : ∀ x ∈ g, x ∈ B.awaited) : sset g = arr B.awaited g := by
  refine srt_one sle_anti (perm_of_mem ((isort_perm _).nodup_iff.mpr (ded_nodup g)) (h.nodA.sublist arr_sub) fun x => ?_) (isort_srt sle_total _) (h.srtA.sublist arr_sub)
  show x ∈ sset g ↔ _
  rw [sset_mem]
  unfold arr
  rw [List.mem_filter]
  exact ⟨fun q => ⟨hg x q, decide_eq_true q⟩, fun q => of_decide_eq_true q.2⟩
def fineOf (B : Blk) (o : List Str) : List (List (List Str)) := (partsOf B.awaited).filter fun own => own.all fun l => decide (l ∈ addingOf B o)
theorem Run.fine_iff (h : Run B o) (few : o.length ≤ 10) {own : List (List Str)} (ho : own ∈ partsOf B.awaited) : (own.all fun l => decide (l ∈ addingOf B o)) = own.all fun l => apartK (waits B o) l := by
  rw [Bool.eq_iff_iff, List.all_eq_true, List.all_eq_true]
  have key : ∀ l ∈ own, (decide (l ∈ addingOf B o) = true ↔ apartK (waits B o) l = true) := fun l hl => by
    have hs := parts_sub own ho l hl
    rw [decide_eq_true_iff, adding_mem, h.adds few hs]
    exact ⟨fun q => q.2, fun q => ⟨hs, q⟩⟩
  exact ⟨fun q l hl => (key l hl).mp (q l hl), fun q l hl => (key l hl).mpr (q l hl)⟩
theorem Run.fine_mem (h : Run B o) (few : o.length ≤ 10) {own : List (List Str)} : own ∈ fineOf B o ↔ own ∈ partsOf B.awaited ∧ ∀ l ∈ own, ApartP B o l := by
  unfold fineOf
  rw [List.mem_filter]
  constructor
  · rintro ⟨h1, h2⟩
    rw [h.fine_iff few h1, List.all_eq_true] at h2
    exact ⟨h1, fun l hl => apart_iff.mp (h2 l hl)⟩
  · rintro ⟨h1, h2⟩
    refine ⟨h1, ?_⟩
    rw [h.fine_iff few h1, List.all_eq_true]
    exact fun l hl => apart_iff.mpr (h2 l hl)
theorem Run.fine_len (h : Run B o) (few : o.length ≤ 10) {own : List (List Str)} (ho : own ∈ fineOf B o) : B.most o ≤ own.length := by
  obtain ⟨h1, h2⟩ := (h.fine_mem few).mp ho
  exact h.most_le (parts_in own h1).2.2 h2
/-- the told rows are one of the finest -/
theorem Run.told (h : Run B o) (few : o.length ≤ 10) : ∃ own ∈ fineOf B o, own.Perm (partedS B o) ∧ own.length = B.most o := by
  have u := h.rows
  obtain ⟨ls, h1, h2⟩ := parts_all h.nodA (rowsOf B o) u.ne u.pm
  have e : partedS B o = (rowsOf B o).map (arr B.awaited) := by
    unfold partedS
    exact List.map_congr_left fun r hr => h.sset_arr (h.rows_apart hr).1
  have len : ls.length = B.most o := by rw [h2.length_eq, List.length_map, h.rows_len]
  refine ⟨ls, (h.fine_mem few).mpr ⟨h1, fun l hl => ?_⟩, by rw [e]; exact h2, len⟩
  obtain ⟨r, hr, rfl⟩ := List.mem_map.mp (h2.mem_iff.mp hl)
  have a := h.rows_apart hr
  rw [← h.sset_arr a.1]
  refine a.perm (sset_perm ?_).symm
  exact ((u.pm.nodup_iff.mpr h.nodA).sublist (List.sublist_flatten_of_mem hr))
theorem Run.lot_apart (h : Run B o) {l : List Str} (hl : l ∈ partedS B o) : apartK (waits B o) l = true := by
  obtain ⟨r, hr, rfl⟩ := List.mem_map.mp hl
  have hr : r ∈ rowsOf B o := hr
  refine apart_iff.mpr ((h.rows_apart hr).perm (sset_perm ?_).symm)
  exact ((h.rows.pm.nodup_iff.mpr h.nodA).sublist (List.sublist_flatten_of_mem hr))
theorem Run.told_len (h : Run B o) : (partedS B o).length = B.most o := by
  unfold partedS
  rw [List.length_map]
  exact h.rows_len
theorem Run.told_flat (h : Run B o) (few : o.length ≤ 10) : (partedS B o).flatten.Perm B.awaited := by
  obtain ⟨own, h1, h2, _⟩ := h.told few
  exact h2.flatten.symm.trans (parts_in own ((h.fine_mem few).mp h1).1).2.2
theorem Run.told_ne (h : Run B o) {l : List Str} (hl : l ∈ partedS B o) : l ≠ [] := by
  obtain ⟨r, hr, rfl⟩ := List.mem_map.mp hl
  have hr : r ∈ rowsOf B o := hr
  intro e
  have hx := lastS_mem (h.rows.ne r hr)
  have := sset_mem.mpr hx
  rw [e] at this
  cases this
def bestOf (B : Blk) (o : List Str) : List (List (List Str)) := ((fineOf B o).filter fun own => decide (own.length = B.most o)).map sortT
theorem sortT_eq {l m : List (List Str)} : sortT l = sortT m ↔ l.Perm m := by
  constructor
  · intro e
    have h1 := isort_perm (le := tle) l
    have h2 := isort_perm (le := tle) m
    have e : isort tle l = isort tle m := e
    rw [e] at h1
    exact h1.symm.trans h2
  · exact isort_one tle_total tle_anti
theorem Run.best_told (h : Run B o) (few : o.length ≤ 10) : sortT (partedS B o) ∈ bestOf B o := by
  obtain ⟨own, h1, h2, h3⟩ := h.told few
  exact List.mem_map.mpr ⟨own, List.mem_filter.mpr ⟨h1, decide_eq_true h3⟩, sortT_eq.mpr h2⟩
theorem rising_of_srt : ∀ {l : List Str}, Srt sle l → l.Nodup → rising l = true := fun {l} s nd => by
  unfold rising
  rw [List.all_eq_true]
  rintro ⟨x, y⟩ hp
  obtain ⟨i, hi⟩ := List.getElem?_of_mem hp
  rw [List.getElem?_zip_eq_some] at hi
  obtain ⟨h1, h2⟩ := hi
  rw [List.getElem?_drop] at h2
  obtain ⟨a1, a2⟩ := List.getElem?_eq_some_iff.mp h1
  obtain ⟨b1, b2⟩ := List.getElem?_eq_some_iff.mp h2
  have q := List.pairwise_iff_getElem.mp s i (1 + i) a1 b1 (by omega)
  have ne := List.pairwise_iff_getElem.mp nd i (1 + i) a1 b1 (by omega)
  simp only at a2 b2
  rw [a2, b2] at q ne
  cases e : slt x y with
  | true => rfl
  | false =>
    have q2 : slt y x = false := by
      unfold sle at q
      simpa using q
    exact absurd (slt_of_ne e q2) ne
theorem Run.part_set (h : Run B o) {own : List (List Str)} (ho : own ∈ partsOf B.awaited) {l : List Str} (hl : l ∈ own) : nonE (namesD l) = true ∧ lotS (namesD l) = l := by
  have hs := parts_sub own ho l hl
  have e2 : lotS (namesD l) = l := by
    show (l.map PyData.str).map strOf = l
    rw [List.map_map]
    exact List.map_id' _
  refine ⟨?_, e2⟩
  unfold nonE
  rw [e2, Bool.and_eq_true]
  refine ⟨?_, decide_eq_true (List.length_pos_iff.mpr ((parts_in own ho).2.1 l hl))⟩
  show ((l.map PyData.str).all isNameD && rising ((l.map PyData.str).map strOf)) = true
  have e3 : (l.map PyData.str).map strOf = l := e2
  rw [e3, Bool.and_eq_true]
  refine ⟨?_, rising_of_srt (h.srtA.sublist hs) (h.nodA.sublist hs)⟩
  rw [List.all_map, List.all_eq_true]
  intro x hx
  obtain ⟨r, hr, e⟩ := List.mem_map.mp (awaited_name (hs.subset hx))
  show isNameS x = true
  rw [← e]
  exact h.rdy.nms r hr
theorem Run.parted_iff (h : Run B o) (few : o.length ≤ 10) {own : List (List Str)} (ho : own ∈ partsOf B.awaited) : isPartedD B o (lotsD own) = decide (sortT own ∈ bestOf B o) := by
  unfold lotsD
  rw [isParted_tup]
  have e1 : (own.map namesD).all nonE = true := by
    rw [List.all_map, List.all_eq_true]
    exact fun l hl => (h.part_set ho hl).1
  have e2 : (own.map namesD).map lotS = own := by
    rw [List.map_map]
    conv => rhs; rw [← List.map_id own]
    exact List.map_congr_left fun l hl => (h.part_set ho hl).2
  have e3 : sortS own.flatten = sortS B.awaited := isort_one sle_total sle_anti (parts_in own ho).2.2
  rw [e1, e2, decide_eq_true e3, Bool.true_and, Bool.true_and]
  rw [Bool.eq_iff_iff, Bool.and_eq_true, decide_eq_true_iff, decide_eq_true_iff]
  constructor
  · rintro ⟨a1, a2⟩
    rw [← h.fine_iff few ho] at a1
    exact List.mem_map.mpr ⟨own, List.mem_filter.mpr ⟨List.mem_filter.mpr ⟨ho, a1⟩, decide_eq_true a2⟩, rfl⟩
  · intro hm
    obtain ⟨own2, h1, h2⟩ := List.mem_map.mp hm
    obtain ⟨h3, h4⟩ := List.mem_filter.mp h1
    have pm := sortT_eq.mp h2
    have h5 := ((h.fine_mem few).mp h3).2
    refine ⟨List.all_eq_true.mpr fun l hl => apart_iff.mpr (h5 l (pm.mem_iff.mpr hl)), ?_⟩
    rw [← pm.length_eq]
    exact of_decide_eq_true h4
end
end K21

/-! _law_right: 50. -/
namespace K21
open PySem PySem.Spec PyProof.Rows L2 RZ
open NdefX (NTab TabsN TabN)
/-! ### data facts -/
theorem okD_strs {n : Nat} {l : List Str} (h : ∀ x ∈ l, x.cps.size ≤ 1000) (hl : l.length ≤ 1000) : okD (n + 1) (namesD l) = true := by
  unfold namesD okD
  rw [Bool.and_eq_true]
  refine ⟨decide_eq_true (by rw [List.length_map]; exact hl), ?_⟩
  rw [List.all_map, List.all_eq_true]
  intro x hx
  cases n <;> exact decide_eq_true (h x hx)
theorem okD_strsL {n : Nat} {l : List Str} (h : ∀ x ∈ l, x.cps.size ≤ 1000) (hl : l.length ≤ 1000) : okD (n + 1) (.list (l.map .str)) = true := by
  unfold okD
  rw [Bool.and_eq_true]
  refine ⟨decide_eq_true (by rw [List.length_map]; exact hl), ?_⟩
  rw [List.all_map, List.all_eq_true]
  intro x hx
  cases n <;> exact decide_eq_true (h x hx)
theorem name_size {x : Str} (h : isNameS x = true) : x.cps.size ≤ 1000 := by
  unfold isNameS at h
  rw [Bool.and_eq_true, Bool.and_eq_true] at h
  have := of_decide_eq_true h.1.2
  have e : x.length = x.cps.size := rfl
  omega
theorem Ready.size {B : Blk} (h : Ready B) {x : Str} (hx : x ∈ B.names) : x.cps.size ≤ 1000 := by
  obtain ⟨r, hr, rfl⟩ := List.mem_map.mp hx
  exact name_size (h.nms r hr)
theorem tupl_row (r : Row) : tupl (rowD r) = rowD r := by
  unfold rowD
  rw [tupl, tuplAll_map, List.map_cons, List.map_cons, List.map_cons, List.map_nil, tupl_names]
  simp [tupl]
theorem tupl_blk (B : Blk) : tupl (blkD B) = blkD B := by
  unfold blkD
  rw [tupl, tuplAll_map, List.map_cons, List.map_cons, List.map_nil, tupl_names, tupl, tuplAll_map, List.map_map]
  congr 3
  exact List.map_congr_left fun r _ => tupl_row r
theorem Ready.isB {B : Blk} (h : Ready B) : IsB (blkD B) B := by
  refine ⟨?_, tupl_blk B, h.few, h.rds, h.lives, h.nms⟩
  have hr : ∀ r ∈ B.rows, okD 9 (rowD r) = true := fun r hr => by
    have h1 : okD 8 (namesD r.rd) = true := okD_strs (n := 7) (fun x hx => h.size (h.sub r hr x hx)) (by have := h.rds r hr; omega)
    have h2 : okD 8 (.str r.nm) = true := decide_eq_true (h.size (List.mem_map.mpr ⟨r, hr, rfl⟩))
    show (decide ((3 : Nat) ≤ 1000) && [PyData.str r.nm, namesD r.rd, .bool r.sl].all (okD 8)) = true
    rw [List.all_cons, List.all_cons, List.all_cons, h1, h2]
    rfl
  have h1 : okD 10 (.tuple (B.rows.map rowD)) = true := by
    have := h.few
    show (decide ((B.rows.map rowD).length ≤ 1000) && (B.rows.map rowD).all (okD 9)) = true
    rw [Bool.and_eq_true]
    refine ⟨decide_eq_true (by rw [List.length_map]; omega), ?_⟩
    rw [List.all_map, List.all_eq_true]
    exact hr
  have h2 : okD 10 (namesD B.live) = true := okD_strs (n := 9) (fun x hx => h.size (h.liv x hx)) (by have := h.lives; omega)
  show (decide ((2 : Nat) ≤ 1000) && [PyData.tuple (B.rows.map rowD), namesD B.live].all (okD 10)) = true
  rw [List.all_cons, List.all_cons, h1, h2]
  rfl
theorem Run.fitsT {B : Blk} {o : List Str} (h : Run B o) : Fits (blkD B) B (namesD o) o := by
  have l := h.rdy.few
  have sz : ∀ x ∈ o, x.cps.size ≤ 1000 := fun x hx => h.rdy.size (h.ord.sub x hx)
  exact ⟨h.rdy.isB, h.rdy.nd, .inr rfl, okD_strs (n := 10) sz (by have := h.len; omega), by have := h.len; omega, sz, h.ord.isOrder h.rdy h.len⟩
theorem Run.fitsL {B : Blk} {o : List Str} (h : Run B o) : Fits (blkD B) B (.list (o.map .str)) o := by
  have l := h.rdy.few
  have sz : ∀ x ∈ o, x.cps.size ≤ 1000 := fun x hx => h.rdy.size (h.ord.sub x hx)
  exact ⟨h.rdy.isB, h.rdy.nd, .inl rfl, okD_strsL (n := 10) sz (by have := h.len; omega), by have := h.len; omega, sz, h.ord.isOrder h.rdy h.len⟩
theorem eqv_namesAll : ∀ a b : List (List Str), PyData.eqvAll (a.map namesD) (b.map namesD) = decide (a = b)
  | [], [] => by simp [PyData.eqvAll]
  | [], _ :: _ => by simp [PyData.eqvAll]
  | _ :: _, [] => by simp [PyData.eqvAll]
  | x :: a, y :: b => by
    rw [List.map_cons, List.map_cons, PyData.eqvAll, eqv_namesAll a b, eqv_names]
    by_cases h : x = y
    · subst h
      simp
    · simp [h]
theorem eqv_lots (a b : List (List Str)) : PyData.eqv (lotsD a) (lotsD b) = decide (a = b) := by
  unfold lotsD
  rw [PyData.eqv, eqv_namesAll]
theorem eqv_lotsL (a b : List (List Str)) : PyData.eqv (.list (a.map namesD)) (.list (b.map namesD)) = decide (a = b) := by
  rw [PyData.eqv, eqv_namesAll]
theorem canLay_namesAll : ∀ {ls : List (List Str)}, (∀ l ∈ ls, GoodS l) → PyData.canLayAll0 (ls.map namesD) = true
  | [], _ => by simp [PyData.canLayAll0]
  | l :: ls, h => by
    rw [List.map_cons, PyData.canLayAll0, canLay_namesAll fun x hx => h x (List.mem_cons_of_mem _ hx)]
    have := canLay_strs (h l List.mem_cons_self)
    simp [namesD, PyData.canLay0, this]
theorem depthAll_names : ∀ ls : List (List Str), PyData.depthAll (ls.map namesD) ≤ 1
  | [] => by simp [PyData.depthAll]
  | l :: ls => by
    have h1 := depthAll_names ls
    have h2 := depth_names l
    simp only [List.map_cons, PyData.depthAll, h2]
    omega
theorem depth_lots (ls : List (List Str)) : (lotsD ls).depth ≤ 2 := by
  have h1 := depthAll_names ls
  unfold lotsD
  simp only [PyData.depth]
  omega
theorem shaped_lots {ls : List (List Str)} (h : ∀ l ∈ ls, GoodS l) : SeqAt.shaped (lotsD ls) = true := by
  have h1 := depth_lots ls
  unfold SeqAt.shaped
  rw [Bool.and_eq_true]
  refine ⟨?_, decide_eq_true (by omega)⟩
  simp [lotsD, PyData.canLay0, canLay_namesAll h]
theorem shaped_lotsL {ls : List (List Str)} (h : ∀ l ∈ ls, GoodS l) : SeqAt.shaped (.list (ls.map namesD)) = true := by
  have h1 := depthAll_names ls
  unfold SeqAt.shaped
  rw [Bool.and_eq_true]
  refine ⟨by simp [PyData.canLay0, canLay_namesAll h], decide_eq_true ?_⟩
  simp only [PyData.depth]
  omega
theorem canLay_lotsAll : ∀ {bs : List (List (List Str))}, (∀ ls ∈ bs, ∀ l ∈ ls, GoodS l) → PyData.canLayAll0 (bs.map lotsD) = true
  | [], _ => by simp [PyData.canLayAll0]
  | ls :: bs, h => by
    rw [List.map_cons, PyData.canLayAll0, canLay_lotsAll fun x hx => h x (List.mem_cons_of_mem _ hx)]
    have := canLay_namesAll (h ls List.mem_cons_self)
    simp [lotsD, PyData.canLay0, this]
theorem depthAll_lots : ∀ bs : List (List (List Str)), PyData.depthAll (bs.map lotsD) ≤ 2
  | [] => by simp [PyData.depthAll]
  | ls :: bs => by
    have h1 := depthAll_lots bs
    have h2 := depth_lots ls
    simp only [List.map_cons, PyData.depthAll]
    omega
theorem shaped_best {bs : List (List (List Str))} (h : ∀ ls ∈ bs, ∀ l ∈ ls, GoodS l) : SeqAt.shaped (.list (bs.map lotsD)) = true := by
  have h1 := depthAll_lots bs
  unfold SeqAt.shaped
  rw [Bool.and_eq_true]
  refine ⟨by simp [PyData.canLay0, canLay_lotsAll h], decide_eq_true ?_⟩
  simp only [PyData.depth]
  omega
theorem any_names (a : List (List Str)) (l : List Str) : ((a.map namesD).any fun z => PyData.eqv z (namesD l)) = decide (l ∈ a) := by
  rw [List.any_map, Bool.eq_iff_iff, List.any_eq_true, decide_eq_true_iff]
  constructor
  · rintro ⟨x, hx, e⟩
    have e : PyData.eqv (namesD x) (namesD l) = true := e
    rw [eqv_names] at e
    rw [← of_decide_eq_true e]
    exact hx
  · intro h
    exact ⟨l, h, by show PyData.eqv (namesD l) (namesD l) = true; rw [eqv_names]; exact decide_eq_true rfl⟩
theorem any_lots (a : List (List (List Str))) (l : List (List Str)) : ((a.map lotsD).any fun z => PyData.eqv z (lotsD l)) = decide (l ∈ a) := by
  rw [List.any_map, Bool.eq_iff_iff, List.any_eq_true, decide_eq_true_iff]
  constructor
  · rintro ⟨x, hx, e⟩
    have e : PyData.eqv (lotsD x) (lotsD l) = true := e
    rw [eqv_lots] at e
    rw [← of_decide_eq_true e]
    exact hx
  · intro h
    exact ⟨l, h, by show PyData.eqv (lotsD l) (lotsD l) = true; rw [eqv_lots]; exact decide_eq_true rfl⟩
section
variable {Z : List NTab} {K : PySem.W.Frag} {σ : St} {F H : Hp} {te tz : TE}
theorem ev_minI {ns : List Int} {m : Int} (h : El Z te σ F fun xs F => DpAll K F xs (ns.map .int)) (hm : m ∈ ns) (hu : ∀ y ∈ ns, m ≤ y) : Ev Z (tCB (rMin K) (tCons te tNil)) σ F (.int m) := fun H s Q q =>
  h H s _ fun p xs F1 H1 g h0 h1 h2 pd => ⟨p, ns, rfl, by rw [← dpa_ints pd]; exact .inl (.inl h2), List.length_pos_iff.mpr (List.ne_nil_of_mem hm), fun m2 hm2 hu2 => by
    have : m2 = m := Int.le_antisymm (hu2 m hm) (hu m2 hm2)
    rw [this]
    exact q H1 g.hh⟩
end
end K21

/-! _law_right: 50. -/
namespace K21
open PySem PySem.Spec PyProof.Rows L2 RZ
open NdefX (NTab TabsN TabN)
section
variable {Z : List NTab} {K : PySem.W.Frag} {σ : St} {F H : Hp} {te tz : TE}
theorem dpa_lots : ∀ {ls : List (List Str)} {xs : List V}, DpAll K F xs (ls.map namesD) → ∃ ps : List (Addr × List V), xs = ps.map (fun p => V.ref p.1) ∧ (∀ p ∈ ps, SqT K F p.1 p.2) ∧ ps.flatMap (·.2) = ls.flatten.map V.str
  | [], _, h => by cases h; exact ⟨[], rfl, fun p h => absurd h List.not_mem_nil, rfl⟩
  | l :: ls, _, h => by
    cases h with
    | cons h1 h2 =>
      obtain ⟨ps, e1, e2, e3⟩ := dpa_lots h2
      obtain ⟨a, ys, rfl, hs, hy⟩ := dp_tup h1
      have := dpa_strs hy
      subst this
      refine ⟨(a, l.map V.str) :: ps, by rw [e1]; rfl, fun p hp => ?_, ?_⟩
      · rcases List.mem_cons.mp hp with rfl | hp
        · exact hs
        · exact e2 p hp
      · rw [List.flatMap_cons, e3, List.flatten_cons, List.map_append]
theorem ed_sumT {ls : List (List Str)} (h : Ed Z K te σ F (lotsD ls)) (hz : Ed Z K tz σ F (.tuple [])) (few : ls.flatten.length ≤ 1000) : Ed Z K (tCB (rSumT K) (tCons te (tCons tz tNil))) σ F (namesD ls.flatten) := fun H s Q q =>
  h H s _ fun v F1 H1 g1 p1 => hz.up g1.ff H1 g1.sub _ fun u F2 H2 g2 p2 => by
    obtain ⟨x, xs, rfl, hx, px⟩ := dp_tup (dp_mono g2.ff p1)
    obtain ⟨z, zs, rfl, hz2, pz⟩ := dp_tup p2
    cases pz
    obtain ⟨ps, rfl, e2, e3⟩ := dpa_lots px
    have s2 := g2.sub
    have gg := g1.trans g2
    refine ⟨x, z, ps, rfl, same_t s2.same hx, same_t s2.same hz2, fun p hp => same_t s2.same (e2 p hp), by rw [e3, List.length_map]; exact few, fun r hr => ?_, fun r hr => ?_⟩
    · rw [e3] at hr
      rcases hr with ⟨rfl, e⟩ | hr
      · have hl : ls.flatten = [] := List.map_eq_nil_iff.mp e
        rw [hl] at q
        exact q (.ref r) F2 H2 gg (.tup hz2 .nil)
      · exact q (.ref r) F2 H2 gg (.tup (e2 _ hr) strs_dpa)
    · rw [e3]
      exact q (.ref r) (upd F2 r (.tup (ls.flatten.map V.str))) _ (gg.trans (Go.new s2 hr)) (.tup (.inl (.inl upd_same)) strs_dpa)
end
theorem any_not {own a : List (List Str)} : own.filter (fun l => !decide (l ∈ a)) = [] ↔ (own.all fun l => decide (l ∈ a)) = true := by
  rw [List.filter_eq_nil_iff, List.all_eq_true]
  constructor
  · intro h l hl
    have := h l hl
    simpa using this
  · intro h l hl
    have := h l hl
    simpa using this
theorem s_forM {K : PySem.W.Frag} {σ : St} {H : Hp} {te : TE} {g : TG} {tb : TS} {D : Ends} (h : te σ H fun v H1 => tFor (iList K (tC v)) g tb D σ H1) : tFor (iList K te) g tb D σ H := h
def sp50 (Z : List NTab) (K : PySem.W.Frag) : Sp := fun vs H Q _ => ∃ F N t, vs = [.ref t] ∧ Tb Z t N F H ∧ N + 5000 < 1000000 ∧ ∀ F' H', GoM Z t (N + 5000) F H F' H' → Q (.bl true) H'
theorem len50 {Z : List NTab} {K : PySem.W.Frag} {vs : List V} {H : Hp} {Q : VK} {E : XK} (h : sp50 Z K vs H Q E) : vs.length = 1 := by
  obtain ⟨F, N, t, rfl, _⟩ := h
  rfl
section
variable {P : Program} {w : World} {K : PySem.W.Frag} {mg : Str → Option Value} {base : Heap} {fa : Nat → Addr} {fd : Nat → FuncData} {tl : Nat → Tok} {Z : List NTab}
theorem ok50 (T : Top K mg fa fd tl) (G17 : FnOk P w K mg base CX0 16 (fa 17) (fd 17) ["block"] (sp17 Z K)) (G25 : FnOk P w K mg base CX0 18 (fa 25) (fd 25) ["block", "order", "some"] (sp25 Z K)) (G27 : FnOk P w K mg base CX0 19 (fa 27) (fd 27) ["block", "order"] (sp27 Z K)) (G28 : FnOk P w K mg base CX0 18 (fa 28) (fd 28) ["block", "order"] (sp28 Z K)) (G29 : FnOk P w K mg base CX0 20 (fa 29) (fd 29) ["block", "order", "thing"] (sp29 Z K)) (G32 : FnOk P w K mg base CX0 1 (fa 32) (fd 32) ["_law_tub", "_law_under"] (sp32 Z K)) (G35 : FnOk P w K mg base CX0 2 (fa 35) (fd 35) ["_law_tub", "_law_few_so", "_law_much_so"] (sp35 Z K)) (G36 : FnOk P w K mg base CX0 12 (fa 36) (fd 36) ["_law_got", "_law_due"] (sp36 Z K 11)) (G38 : FnOk P w K mg base CX0 3 (fa 38) (fd 38) ["_law_tub", "_law_many_so"] (sp38 Z K)) (G39 : FnOk P w K mg base CX0 3 (fa 39) (fd 39) ["_law_tub", "_law_block_so"] (sp39 Z K)) (G42 : FnOk P w K mg base CX0 1 (fa 42) (fd 42) ["_law_block_so"] (sp42 Z K)) (G44 : FnOk P w K mg base CX0 2 (fa 44) (fd 44) ["_law_block_so", "_law_line_so"] (sp44 Z K)) (G49 : FnOk P w K mg base CX0 1 (fa 49) (fd 49) ["_law_tags"] (sp49 Z K)) : FnOk P w K mg base CX0 21 (fa 50) (fd 50) ["_law_tub"] (sp50 Z K) := by
  refine T.F50.ok sc50 (fun vs H Q E h => len50 h) (fun cdv A outer s0 H vs Q E hr h => ?_)
  refine ⟨_, (pss_cons (ps_for PassesOwn.never rfl (pi_range1 (by rfl) T.m_range (pa_cons pe_int pa_nil)) (pg_name (i := 1) nd50 rfl (Or.inl rfl)) (pss_cons (ps_set (i := 2) nd50 rfl (Or.inr rfl) (pe_call G38 (hr.mono (by decide)) (by rfl) T.g38 T.F38.kp T.b38 .nil pass0 (pa_cons (pv 0) (pa_cons (pe_op op_add pe_int (pe_call G32 (hr.mono (by decide)) (by rfl) T.g32 T.F32.kp T.b32 .nil pass0 (pa_cons (pv 0) (pa_cons pe_int pa_nil)))) pa_nil))))
  (pss_cons (ps_asg (pe_tup (pa_cons (pe_call G39 (hr.mono (by decide)) (by rfl) T.g39 T.F39.kp T.b39 .nil pass0 (pa_cons (pv 0) (pa_cons (pv 2) pa_nil))) (pa_cons (pe_lst pa_nil) pa_nil))) (kg_tup (n := 2) K (by rfl) rfl (pgs_cons (pg_name (i := 3) nd50 rfl (Or.inr rfl)) (pgs_cons (pg_name (i := 4) nd50 rfl (Or.inl rfl)) pgs_nil))))
  (pss_cons (ps_set (i := 5) nd50 rfl (Or.inr rfl) (pe_call G44 (hr.mono (by decide)) (by rfl) T.g44 T.F44.kp T.b44 .nil pass0 (pa_cons (pv 2) (pa_cons (pv 3) pa_nil))))
  (pss_cons (ps_set (i := 6) nd50 rfl (Or.inl rfl) (pe_call G49 (hr.mono (by decide)) (by rfl) T.g49 T.F49.kp T.b49 .nil pass0 (pa_cons (pe_call G42 (hr.mono (by decide)) (by rfl) T.g42 T.F42.kp T.b42 .nil pass0 (pa_cons (pv 2) pa_nil)) pa_nil)))
  (pss_cons (ps_setLc (i := 4) (own := [("_law_own", 7)]) rfl nd50 rfl rfl (sw_true rfl rfl rfl (by decide +kernel)) (ki_list K (by rfl) (pv 6)) (blkOk_by (N := ["_law_tub", "_law_turn", "_law_kit_here", "_law_line_so", "_law_fine_so", "_law_lots_so", "_law_every", "_law_own", "_law_few_so", "_law_best_so", "_law_told", "_law_lot"]) (sc := (defScope s50)) (own := [("_law_own", 7)]) (by decide +kernel)) (fun _ _ _ _ _ => (pg_name (i := 7) nd50 rfl (Or.inl rfl))) (fun _ _ _ _ _ => (pts_one (pt_cmpR (ko_eqD K (by rfl) hr.units) (pe_lc (own := [("_law_lot", 11)]) rfl nd50 (ki_tup K (by rfl) (pv 7)) (blkOk_by (N := ["_law_tub", "_law_turn", "_law_kit_here", "_law_line_so", "_law_fine_so", "_law_lots_so", "_law_every", "_law_own", "_law_few_so", "_law_best_so", "_law_told", "_law_lot"]) (sc := { kind := .function, names := [(".0", .local), ("_law_own", .local), ("_law_lots_so", .cell)], isGenerator := false, isCoroutine := false, more := [] : Scope }) (own := [("_law_lot", 11)]) (by decide +kernel)) (fun _ _ _ _ _ => (pg_name (i := 11) nd50 rfl (Or.inl rfl))) (fun _ _ _ _ _ => (pts_one (pt_cmpR (ko_notInD K (by rfl) (u65 hr)) (pv 11) (pv 5) (by rfl)))) (fun _ _ _ _ _ => (pv 11))) (pe_lst pa_nil) (nomark _)))) (fun _ _ _ _ _ => (pv 7)))
  (pss_cons (ps_set (i := 8) nd50 rfl (Or.inr rfl) (pe_callB (kc_min K (by rfl) rfl) (by rfl) T.m_min bt_min (pa_cons (pe_lc (own := [("_law_own", 7)]) (tt := tYes) rfl nd50 (ki_list K (by rfl) (pv 4)) (blkOk_by (N := ["_law_tub", "_law_turn", "_law_kit_here", "_law_line_so", "_law_fine_so", "_law_lots_so", "_law_every", "_law_own", "_law_few_so", "_law_best_so", "_law_told", "_law_lot"]) (sc := (defScope s50)) (own := [("_law_own", 7)]) (by decide +kernel)) (fun _ _ _ _ _ => (pg_name (i := 7) nd50 rfl (Or.inl rfl))) (fun _ _ _ _ _ => pts_nil) (fun _ _ _ _ _ => (pe_callB (kc_len K) (by rfl) T.m_len bt_len (pa_cons (pv 7) pa_nil)))) pa_nil)))
  (pss_cons (ps_setLc (i := 9) (own := [("_law_own", 7)]) rfl nd50 rfl rfl (sw_true rfl rfl rfl (by decide +kernel)) (ki_list K (by rfl) (pv 4)) (blkOk_by (N := ["_law_tub", "_law_turn", "_law_kit_here", "_law_line_so", "_law_fine_so", "_law_lots_so", "_law_every", "_law_own", "_law_few_so", "_law_best_so", "_law_told", "_law_lot"]) (sc := (defScope s50)) (own := [("_law_own", 7)]) (by decide +kernel)) (fun _ _ _ _ _ => (pg_name (i := 7) nd50 rfl (Or.inl rfl))) (fun _ _ _ _ _ => (pts_one (pt_cmpR op_eq (pe_callB (kc_len K) (by rfl) T.m_len bt_len (pa_cons (pv 7) pa_nil)) (pv 8) (nomark _)))) (fun _ _ _ _ _ => (pe_callTy (kc_tupOf K) (by rfl) T.m_tuple bt_tuple (pa_cons (pe_callB (kc_sortD K (by rfl) hr.units) (by rfl) T.m_sorted bt_sorted (pa_cons (pv 7) pa_nil)) pa_nil))))
  (pss_cons (ps_set (i := 10) nd50 rfl (Or.inl rfl) (pe_call G28 (hr.mono (by decide)) (by rfl) T.g28 T.F28.kp T.b28 .nil pass0 (pa_cons (pv 2) (pa_cons (pv 3) pa_nil))))
  (pss_cons (ps_if (PW.pt (pw_or (pt_not (pt_val (pe_callB (kc_isi K) (by rfl) T.m_isinstance bt_isinstance (pa_cons (pv 10) (pa_cons (pe_bltn (v := .ty "tuple") (by rfl) T.m_tuple bt_tuple rfl) pa_nil))))) (pw_or1 (pt_cmpR (ko_notInD K (by rfl) (u65 hr)) (pe_callTy (kc_tupOf K) (by rfl) T.m_tuple bt_tuple (pa_cons (pe_callB (kc_sortD K (by rfl) hr.units) (by rfl) T.m_sorted bt_sorted (pa_cons (pv 10) pa_nil)) pa_nil)) (pv 9) (by rfl))))) (pss_one (ps_ret pe_bl)) pss_nil)
  (pss_cons (ps_if (PW.pt (pw_or (pt_cmpR (ko_neD K (by rfl) hr.units) (pv 10) (pe_call G28 (hr.mono (by decide)) (by rfl) T.g28 T.F28.kp T.b28 .nil pass0 (pa_cons (pv 2) (pa_cons (pe_callTy (kc_listOf K) (by rfl) T.m_list bt_list (pa_cons (pv 3) pa_nil)) pa_nil))) (nomark _)) (pw_or1 (pt_not (pt_val (pe_callB (kc_all K (by rfl) rfl) (by rfl) T.m_all bt_all (pa_cons (pe_lc (own := [("_law_own", 7)]) (tt := tYes) rfl nd50 (ki_tup K (by rfl) (pv 10)) (blkOk_by (N := ["_law_tub", "_law_turn", "_law_kit_here", "_law_line_so", "_law_fine_so", "_law_lots_so", "_law_every", "_law_own", "_law_few_so", "_law_best_so", "_law_told", "_law_lot"]) (sc := (defScope s50)) (own := [("_law_own", 7)]) (by decide +kernel)) (fun _ _ _ _ _ => (pg_name (i := 7) nd50 rfl (Or.inl rfl))) (fun _ _ _ _ _ => pts_nil) (fun _ _ _ _ _ => (pe_call G25 (hr.mono (by decide)) (by rfl) T.g25 T.F25.kp T.b25 .nil pass0 (pa_cons (pv 2) (pa_cons (pv 3) (pa_cons (pv 7) pa_nil)))))) pa_nil))))))) (pss_one (ps_ret pe_bl)) pss_nil)
  (pss_cons (ps_if (PW.pt (pw_or (pt_cmpR op_ne (pe_callB (kc_len K) (by rfl) T.m_len bt_len (pa_cons (pv 10) pa_nil)) (pe_call G27 (hr.mono (by decide)) (by rfl) T.g27 T.F27.kp T.b27 .nil pass0 (pa_cons (pv 2) (pa_cons (pv 3) pa_nil))) (nomark _)) (pw_or1 (pt_cmpR (ko_neD K (by rfl) hr.units) (pe_callTy (kc_tupOf K) (by rfl) T.m_tuple bt_tuple (pa_cons (pe_callB (kc_sortD K (by rfl) hr.units) (by rfl) T.m_sorted bt_sorted (pa_cons (pe_callB (kc_sumT K (by rfl) rfl) (by rfl) T.m_sum bt_sum (pa_cons (pv 10) (pa_cons (pe_tup pa_nil) pa_nil))) pa_nil)) pa_nil)) (pe_call G17 (hr.mono (by decide)) (by rfl) T.g17 T.F17.kp T.b17 .nil pass0 (pa_cons (pv 2) pa_nil)) (nomark _))))) (pss_one (ps_ret pe_bl)) pss_nil)
  (pss_one (ps_for PassesOwn.never rfl (ki_list K (by rfl) (pe_call G35 (hr.mono (by decide)) (by rfl) T.g35 T.F35.kp T.b35 .nil pass0 (pa_cons (pv 0) (pa_cons (pv 6) (pa_cons pe_int pa_nil))))) (pg_name (i := 7) nd50 rfl (Or.inl rfl)) (pss_one (ps_if (pt_not (pt_val (pe_call G36 (hr.mono (by decide)) (by rfl) T.g36 T.F36.kp T.b36 .nil pass0 (pa_cons (pe_call G29 (hr.mono (by decide)) (by rfl) T.g29 T.F29.kp T.b29 .nil pass0 (pa_cons (pv 2) (pa_cons (pv 3) (pa_cons (pv 7) pa_nil)))) (pa_cons (pe_cmpR (ko_inD K (by rfl) (u65 hr)) (pe_callTy (kc_tupOf K) (by rfl) T.m_tuple bt_tuple (pa_cons (pe_callB (kc_sortD K (by rfl) hr.units) (by rfl) T.m_sorted bt_sorted (pa_cons (pv 7) pa_nil)) pa_nil)) (pv 9) (by rfl)) pa_nil))))) (pss_one (ps_ret pe_bl)) pss_nil))))))))))))))))
  (pss_one (ps_ret pe_bl))), ?_⟩
  obtain ⟨F, N, t, rfl, b, hN, q⟩ := h
  refine s_rng (n := 6) (F' := F) (ev_c (x := .int 6)) b.sub b.sub (by decide) (fun i σ1 F1 H1 => ∃ y1 y2 y3 y4 y5 y6 y7 y8 y9 y10 y11, σ1 = [some (.ref t), y1, y2, y3, y4, y5, y6, y7, y8, y9, y10, y11] ∧ GoM Z t (N + 500 * i) F H F1 H1)
    (fun F1 H1 g1 => ⟨none, none, none, none, none, none, none, none, none, none, none, rfl, GoM.of b g1⟩) ?_ ?_
  · rintro i σ1 F1 H1 F2 H2 hi s1 ⟨y1, y2, y3, y4, y5, y6, y7, y8, y9, y10, y11, rfl, g⟩ g2
    have gA := g.on g2
    have bA := gA.tb b.fr
    -- the block
    refine ⟨.ref t, rfl, ?_⟩
    refine em_take (K := K) (E := E0) (i := 0) (u := 6) rfl ev_c (by omega) (by decide) (by decide) H2 bA _ fun v F3 H3 g3 ⟨r, hr2, e⟩ => ?_
    subst e
    refine ⟨1, (r : Nat), rfl, rfl, ?_⟩
    have e1 : ((1 : Int) + (r : Nat)) = ((1 + r : Nat) : Int) := by omega
    have gB := gA.trans b.fr g3
    refine ⟨F3, _, t, 1 + r, (by show [V.ref t, V.int ((1 : Int) + ((r : Nat) : Int))] = [V.ref t, V.int ((1 + r : Nat) : Int)]; rw [e1]), gB.tb b.fr, by omega, by omega, fun B kv F4 H4 hB hlen g4 p4 => ?_⟩
    have gC := gB.trans b.fr g4
    -- the order
    refine ⟨.ref t, rfl, kv, rfl, F4, _, t, kv, B, rfl, gC.tb b.fr, hB, by omega, p4, fun o lv F5 H5 hol hO g5 p5 => ?_⟩
    refine ⟨Nat.zero_le _, fun pf f0 => ⟨(by decide : 2 ≤ sizeLine), fun T T0 => ⟨T, [lv, .ref pf], rfl, .inl (.inl upd_same), rfl, _, _, rfl, _, _, rfl, rfl, ?_⟩⟩⟩
    have gD0 := (gC.trans b.fr g5).on (Go.ext g5.sub (ext_new (o := .lst []) f0))
    have gD := gD0.on (Go.ext gD0.sub (ext_new (o := .tup [lv, .ref pf]) T0))
    generalize upd (upd H5 pf (.lst [])) T (.tup [lv, .ref pf]) = H6 at gD
    have run : Run B o := ⟨hB, hO, hol⟩
    have nsl : B.names.length = B.rows.length := List.length_map ..
    have few : o.length ≤ 10 := by omega
    have aw6 : B.awaited.length ≤ 6 := by
      have := nodup_sub_len run.nodA (m := B.names) fun x hx => awaited_sub hx
      omega
    have hk : ∀ {σ F1}, σ[2]? = some (some kv) → Same F5 F1 → Ed Z K (tVar 2) σ F1 (blkD B) := fun h e => ed_var h (dp_mono (g5.ff.trans e) p4)
    have hl : ∀ {σ F1}, σ[3]? = some (some lv) → Same F5 F1 → Ed Z K (tVar 3) σ F1 (namesD o) := fun h e => ed_var h (dp_mono e p5)
    have goodA : ∀ {l : List Str}, (∀ x ∈ l, x ∈ B.awaited) → GoodS l := fun h x hx => hB.good x (awaited_sub (h x hx))
    have goodP : ∀ {own}, own ∈ partsOf B.awaited → ∀ l ∈ own, GoodS l := fun ho l hl => goodA fun x hx => (parts_sub _ ho l hl).subset hx
    have goodAdd : ∀ l ∈ addingOf B o, GoodS l := fun l hl => goodA fun x hx => (adding_mem.mp hl).1.subset hx
    have plen := Nat.le_trans (parts_len B.awaited) (fac_few _ aw6)
    have flen : (fineOf B o).length ≤ 720 := Nat.le_trans (List.length_filter_le _ _) plen
    have fineP : ∀ own ∈ fineOf B o, own ∈ partsOf B.awaited := fun own h => (List.mem_filter.mp h).1
    have ownl : ∀ {own}, own ∈ partsOf B.awaited → own.length ≤ 6 := fun ho => Nat.le_trans (parts_in _ ho).1 aw6
    -- the sets that add up, the partings
    refine q_asg (ed_call (K := K) (ead_cons (hk rfl (Same.refl _)) (ead_cons (hl rfl (Same.refl _)) ead_nil)) ⟨B, o, rfl, hB, hO, hol, by omega, rfl⟩) gD.sub fun av F7 H7 g7 p7 => ?_
    refine q_asg (ed_call (K := K) (ead_cons (ed_call (ead_cons (hk rfl g7.ff) ead_nil) ⟨B, rfl, hB, rfl⟩) ead_nil) ⟨B.awaited, rfl, aw6, rfl⟩) g7.sub fun ev F8 H8 g8 p8 => ?_
    have f58 := g7.ff.trans g8.ff
    -- the fine ones
    have hfine : Ed Z K (tLc (iList K (tVar 6)) (gName 7) (tTest (tOp (rEqD K) (tLc (iTup K (tVar 7)) (gName 11) (tTest (tOp (rNotInD K) (tVar 11) (tVar 5))) (tVar 11) [11]) (tLst tNil))) (tVar 7) [7]) [some (.ref t), some (.int (i : Nat)), some kv, some lv, some (.ref pf), some av, some ev, y7, y8, y9, y10, y11] F8 (.list ((fineOf B o).map lotsD)) := by
      refine El.ed (el_filter (K := K) (fun own : List (List Str) => own.all fun l => decide (l ∈ addingOf B o)) lotsD (IW.of_map (iw_list (ed_var (i := 6) rfl p8))) (by omega) (fun _ => rfl) (fun own x F9 ho e tt => ?_) fun own x F9 ho e tt _ => ed_var rfl tt)
      have inner : Ed Z K (tLc (iTup K (tVar 7)) (gName 11) (tTest (tOp (rNotInD K) (tVar 11) (tVar 5))) (tVar 11) [11]) [some (.ref t), some (.int (i : Nat)), some kv, some lv, some (.ref pf), some av, some ev, some x, y8, y9, y10, y11] F9 (.list ((own.filter fun l => !decide (l ∈ addingOf B o)).map namesD)) := by
        refine El.ed (el_filter (K := K) (fun l : List Str => !decide (l ∈ addingOf B o)) namesD (IW.of_map (iw_tup (ed_var (i := 7) rfl tt))) (by have := ownl ho; omega) (fun _ => rfl) (fun l y F10 hl2 e2 t2 => ?_) fun l y F10 hl2 e2 t2 _ => ed_var rfl t2)
        refine et_test (Ev.to (ev_notInD (ed_var (i := 11) rfl t2) (ed_var (i := 5) rfl (dp_mono ((g8.ff.trans e).trans e2) p7)) (shaped_names (goodP ho l hl2)) (shaped_lotsL goodAdd)) (congrArg V.bl ?_))
        rw [any_names]
      refine et_test (Ev.to (ev_eqD inner (ed_lst ead_nil (by decide)) (shaped_lotsL fun l hl2 => goodP ho l (List.mem_filter.mp hl2).1) (shaped_lotsL (ls := []) fun l hl2 => absurd hl2 List.not_mem_nil)) (congrArg V.bl ?_))
      refine (eqv_lotsL _ []).trans ?_
      rw [Bool.eq_iff_iff, decide_eq_true_iff]
      exact any_not
    refine q_asg hfine g8.sub fun fv F9 H9 g9 p9 => ?_
    have hlen : ∀ {σ F1 x} {own : List (List Str)}, σ[7]? = some (some x) → Dp K F1 x (lotsD own) → Ev Z (tCB (rSize K) (tCons (tVar 7) tNil)) σ F1 (.int (own.length : Nat)) := fun h t => by
      have := ev_lenT (K := K) (Z := Z) (ed_var h t)
      rwa [List.length_map] at this
    -- the fewest
    have hfew : Ev Z (tCB (rMin K) (tCons (tLc (iList K (tVar 4)) (gName 7) tYes (tCB (rSize K) (tCons (tVar 7) tNil)) [7]) tNil)) [some (.ref t), some (.int (i : Nat)), some kv, some lv, some fv, some av, some ev, y7, y8, y9, y10, y11] F9 (.int (B.most o : Nat)) := by
      obtain ⟨own, h1, _, h3⟩ := run.told few
      refine ev_minI (K := K) (ns := (fineOf B o).map fun own => ((own.length : Nat) : Int)) ?_ (List.mem_map.mpr ⟨own, h1, by rw [h3]⟩) fun y hy => ?_
      · rw [List.map_map]
        exact el_map (K := K) (fun own : List (List Str) => .int ((own.length : Nat) : Int)) (IW.of_map (iw_list (ed_var (i := 4) rfl p9))) (by omega) (fun _ => rfl) fun own x F10 ho e t => (hlen rfl t).int
      · obtain ⟨own2, h4, rfl⟩ := List.mem_map.mp hy
        have := run.fine_len few h4
        omega
    refine q_asgV hfew g9.sub fun H10 e10 s10 => ?_
    -- the best
    have hbest : Ed Z K (tLc (iList K (tVar 4)) (gName 7) (tTest (tOp rEq (tCB (rSize K) (tCons (tVar 7) tNil)) (tVar 8))) (tCB (rTupOf K) (tCons (tCB (rSortD K) (tCons (tVar 7) tNil)) tNil)) [7]) [some (.ref t), some (.int (i : Nat)), some kv, some lv, some fv, some av, some ev, y7, some (.int (B.most o : Nat)), y9, y10, y11] F9 (.list ((bestOf B o).map lotsD)) := by
      unfold bestOf
      rw [List.map_map]
      refine El.ed (el_filter (K := K) (fun own : List (List Str) => decide (own.length = B.most o)) (fun own => lotsD (sortT own)) (IW.of_map (iw_list (ed_var (i := 4) rfl p9))) (by omega) (fun _ => rfl) (fun own x F10 ho e t => ?_) fun own x F10 ho e t _ => ?_)
      · refine et_test (Ev.to (ev_eq (hlen rfl t) (ev_var (i := 8) rfl) rfl) (congrArg V.bl (decide_eq_decide.mpr ⟨fun h => by injection h with h; omega, fun h => by rw [h]⟩)))
      · exact ed_tupOf (el_sortT (ed_var (i := 7) rfl t) (.inr rfl) (sort_lots (parts_in own (fineP own ho)).2.1))
    refine q_asg hbest s10 fun bv F11 H11 g11 p11 => ?_
    have f511 := (f58.trans g9.ff).trans g11.ff
    have goodB : ∀ ls ∈ bestOf B o, ∀ l ∈ ls, GoodS l := fun ls h l hl2 => by
      obtain ⟨own, h1, rfl⟩ := List.mem_map.mp h
      exact goodP (fineP own (List.mem_filter.mp h1).1) l ((isort_perm own).mem_iff.mp hl2)
    -- what is told
    have tflat := run.told_flat few
    have goodT : ∀ l ∈ partedS B o, GoodS l := fun l hl2 => goodA fun x hx => tflat.mem_iff.mp (List.mem_flatten.mpr ⟨l, hl2, hx⟩)
    have tflen : (partedS B o).flatten.length ≤ 6 := by rw [tflat.length_eq]; exact aw6
    have tlen : (partedS B o).length ≤ 6 := by
      obtain ⟨own, h1, _, h3⟩ := run.told few
      rw [run.told_len, ← h3]
      exact ownl (fineP own h1)
    refine q_asg (ed_call (K := K) (ead_cons (hk rfl f511) (ead_cons (hl rfl f511) ead_nil)) ⟨blkD B, B, namesD o, o, rfl, run.fitsT, rfl⟩) g11.sub fun tv F12 H12 g12 p12 => ?_
    have f512 := f511.trans g12.ff
    have hT : ∀ {σ F1}, σ[10]? = some (some tv) → Same F12 F1 → Ed Z K (tVar 10) σ F1 (lotsD (partedS B o)) := fun h e => ed_var h (dp_mono e p12)
    have hsT : Ed Z K (tCB (rTupOf K) (tCons (tCB (rSortD K) (tCons (tVar 10) tNil)) tNil)) [some (.ref t), some (.int (i : Nat)), some kv, some lv, some fv, some av, some ev, y7, some (.int (B.most o : Nat)), some bv, some tv, y11] F12 (lotsD (sortT (partedS B o))) := ed_tupOf (el_sortT (hT rfl (Same.refl _)) (.inr rfl) (sort_lots fun l hl2 => run.told_ne hl2))
    refine q_when (b := false) (et_or (b := false) (c := false) (et_not (b := true) (et_B (ev_isi (hT rfl (Same.refl _))))) fun _ => et_test (Ev.to (ev_notInD hsT (ed_var (i := 9) rfl (dp_mono g12.ff p11)) (shaped_lots fun l hl2 => goodT l ((isort_perm _).mem_iff.mp hl2)) (shaped_best goodB)) (congrArg V.bl (by rw [any_lots, decide_eq_true (run.best_told few)]; rfl)))) g12.sub (fun e => absurd e (by decide)) fun _ H13 e13 s13 => ?_
    -- told twice; each row adds up
    have hT2 : Ed Z K (tCall (sp28 Z K) [] E0 (tCons (tVar 2) (tCons (tCB (rListOf K) (tCons (tVar 3) tNil)) tNil))) [some (.ref t), some (.int (i : Nat)), some kv, some lv, some fv, some av, some ev, y7, some (.int (B.most o : Nat)), some bv, some tv, y11] F12 (lotsD (partedS B o)) :=
      ed_call (ead_cons (hk rfl f512) (ead_cons (El.ed (el_listOf (hl rfl f512) (.inr rfl))) ead_nil)) ⟨blkD B, B, .list (o.map .str), o, rfl, run.fitsL, rfl⟩
    have hall : Ev Z (tCB (rAll K) (tCons (tLc (iTup K (tVar 10)) (gName 7) tYes (tCall (sp25 Z K) [] E0 (tCons (tVar 2) (tCons (tVar 3) (tCons (tVar 7) tNil)))) [7]) tNil)) [some (.ref t), some (.int (i : Nat)), some kv, some lv, some fv, some av, some ev, y7, some (.int (B.most o : Nat)), some bv, some tv, y11] F12 (.bl true) := by
      refine Ev.to (ev_all (K := K) (bs := (partedS B o).map fun l => apartK (waits B o) l) ?_) (congrArg V.bl ?_)
      · rw [List.map_map]
        refine el_map (K := K) (fun l : List Str => .bool (apartK (waits B o) l)) (IW.of_map (iw_tup (hT rfl (Same.refl _)))) (by omega) (fun _ => rfl) fun l x F13 hl2 e tt => ?_
        have ll : l.length ≤ 6 := Nat.le_trans (List.sublist_flatten_of_mem hl2).length_le tflen
        have ln : ∀ x ∈ l, x ∈ B.names := fun x hx => awaited_sub (tflat.mem_iff.mp (List.mem_flatten.mpr ⟨l, hl2, hx⟩))
        exact ed_call (ead_cons (hk rfl (f512.trans e)) (ead_cons (hl rfl (f512.trans e)) (ead_cons (ed_var rfl tt) ead_nil))) ⟨blkD B, B, namesD o, o, l, rfl, run.fitsT, by omega, okD_strs (n := 10) (fun x hx => hB.size (ln x hx)) (by omega), ln, rfl⟩
      · rw [List.all_map, List.all_eq_true]
        exact fun l hl2 => run.lot_apart hl2
    refine q_when (b := false) (et_or (b := false) (c := false) (et_test (Ev.to (ev_neD (hT rfl (Same.refl _)) hT2 (shaped_lots goodT) (shaped_lots goodT)) (congrArg V.bl (by rw [eqv_lots, decide_eq_true rfl]; rfl)))) fun _ => et_not (b := true) (et_B hall)) s13 (fun e => absurd e (by decide)) fun _ H14 e14 s14 => ?_
    -- as many as the most at once; all awaited
    have hlenT := ev_lenT (K := K) (Z := Z) (hT (σ := [some (.ref t), some (.int (i : Nat)), some kv, some lv, some fv, some av, some ev, y7, some (.int (B.most o : Nat)), some bv, some tv, y11]) rfl (Same.refl _))
    rw [List.length_map, run.told_len] at hlenT
    have hmost : Ed Z K (tCall (sp27 Z K) [] E0 (tCons (tVar 2) (tCons (tVar 3) tNil))) [some (.ref t), some (.int (i : Nat)), some kv, some lv, some fv, some av, some ev, y7, some (.int (B.most o : Nat)), some bv, some tv, y11] F12 (.int (B.most o : Nat)) :=
      ed_call (ead_cons (hk rfl f512) (ead_cons (hl rfl f512) ead_nil)) ⟨blkD B, B, namesD o, o, rfl, run.fitsT, rfl⟩
    have hsum : Ed Z K (tCB (rTupOf K) (tCons (tCB (rSortD K) (tCons (tCB (rSumT K) (tCons (tVar 10) (tCons (tTup tNil) tNil))) tNil)) tNil)) [some (.ref t), some (.int (i : Nat)), some kv, some lv, some fv, some av, some ev, y7, some (.int (B.most o : Nat)), some bv, some tv, y11] F12 (namesD B.awaited) := by
      have z := ed_tupOf (el_sortS (ed_sumT (K := K) (hT (σ := [some (.ref t), some (.int (i : Nat)), some kv, some lv, some fv, some av, some ev, y7, some (.int (B.most o : Nat)), some bv, some tv, y11]) rfl (Same.refl _)) (ed_tup ead_nil (by decide)) (by omega)) (.inr rfl))
      have e : sortS (partedS B o).flatten = B.awaited := (isort_one sle_total sle_anti tflat).trans (isort_fix sle_total sle_anti run.srtA)
      rw [e] at z
      exact z
    have haw : Ed Z K (tCall (sp17 Z K) [] E0 (tCons (tVar 2) tNil)) [some (.ref t), some (.int (i : Nat)), some kv, some lv, some fv, some av, some ev, y7, some (.int (B.most o : Nat)), some bv, some tv, y11] F12 (namesD B.awaited) := ed_call (ead_cons (hk rfl f512) ead_nil) ⟨blkD B, B, rfl, hB.isB, rfl⟩
    have gooA : GoodS B.awaited := goodA fun x hx => hx
    refine q_when (b := false) (et_or (b := false) (c := false) (et_test (Ev.to (ev_ne hlenT hmost.int rfl) (congrArg V.bl (by rw [decide_eq_true rfl]; rfl)))) fun _ => et_test (Ev.to (ev_neD hsum haw (shaped_names gooA) (shaped_names gooA)) (congrArg V.bl (by rw [eqv_names, decide_eq_true rfl]; rfl)))) s14 (fun e => absurd e (by decide)) fun _ H15 e15 s15 => ?_
    -- some partings, drawn
    have gE := gD.on (((((g7.trans g8).trans g9).trans ((Go.ext g9.sub e10).trans g11)).trans g12).trans (Go.ext g12.sub ((e13.trans e14).trans e15)))
    refine s_forM ?_
    refine ⟨.ref t, rfl, ev, rfl, F12, _, t, ev, 20, (partsOf B.awaited).map lotsD, rfl, gE.tb b.fr, by omega, dp_mono ((g9.ff.trans g11.ff).trans g12.ff) p8, by rw [List.length_map]; omega, fun ys rest pv F16 H16 pm hy g16 p16 => ?_⟩
    have gF := gE.trans b.fr g16
    refine s_for (iw_list (K := K) (tl := tC pv) (es_c p16)) gF.sub (fun j σ1 F1 H1 => ∃ y7, σ1 = [some (.ref t), some (.int (i : Nat)), some kv, some lv, some fv, some av, some ev, y7, some (.int (B.most o : Nat)), some bv, some tv, y11] ∧ GoM Z t (N + 500 * i + 1 + 200 + 50 + 20) F H F1 H1 ∧ Same F12 F1)
      (fun F17 H17 g17 => ⟨y7, rfl, gF.on g17, g16.ff.trans g17.ff⟩) ?_ ?_
    · rintro j d σ1 F17 H17 x F18 H18 hj s17 ⟨y7, rfl, g17, f17⟩ g18 tt
      obtain ⟨own, ho, rfl⟩ := List.mem_map.mp (pm.mem_iff.mp (List.mem_append_left rest (mem_of_get hj)))
      have f18 := f17.trans g18.ff
      have gG := g17.on g18
      have lens : ∀ l ∈ own, l.length ≤ 6 := fun l hl2 => Nat.le_trans (part_lot ho hl2) aw6
      have hok : okD 11 (lotsD own) = true := by
        show (decide ((own.map namesD).length ≤ 1000) && (own.map namesD).all (okD 10)) = true
        rw [Bool.and_eq_true]
        refine ⟨decide_eq_true (by rw [List.length_map]; have := ownl ho; omega), ?_⟩
        rw [List.all_map, List.all_eq_true]
        exact fun l hl2 => okD_strs (n := 9) (fun x hx => hB.size (awaited_sub ((parts_sub own ho l hl2).subset hx))) (by have := lens l hl2; omega)
      have hfw : fewP (lotsD own) = true := by
        show (decide ((own.map namesD).length ≤ 50) && (own.map namesD).all fewD) = true
        rw [Bool.and_eq_true]
        refine ⟨decide_eq_true (by rw [List.length_map]; have := ownl ho; omega), ?_⟩
        rw [List.all_map, List.all_eq_true]
        exact fun l hl2 => decide_eq_true (by rw [List.length_map]; have := lens l hl2; omega)
      have h29 : Ed Z K (tCall (sp29 Z K) [] E0 (tCons (tVar 2) (tCons (tVar 3) (tCons (tVar 7) tNil)))) [some (.ref t), some (.int (i : Nat)), some kv, some lv, some fv, some av, some ev, some x, some (.int (B.most o : Nat)), some bv, some tv, y11] F18 (.bool (decide (sortT own ∈ bestOf B o))) := by
        rw [← run.parted_iff few ho]
        exact ed_call (ead_cons (hk rfl (f512.trans f18)) (ead_cons (hl rfl (f512.trans f18)) (ead_cons (ed_var rfl tt) ead_nil))) ⟨blkD B, B, namesD o, o, lotsD own, 11, rfl, run.fitsT, hok, hfw, rfl⟩
      have hin : Ev Z (tOp (rInD K) (tCB (rTupOf K) (tCons (tCB (rSortD K) (tCons (tVar 7) tNil)) tNil)) (tVar 9)) [some (.ref t), some (.int (i : Nat)), some kv, some lv, some fv, some av, some ev, some x, some (.int (B.most o : Nat)), some bv, some tv, y11] F18 (.bl (decide (sortT own ∈ bestOf B o))) := by
        have z : Ed Z K (tCB (rTupOf K) (tCons (tCB (rSortD K) (tCons (tVar 7) tNil)) tNil)) [some (.ref t), some (.int (i : Nat)), some kv, some lv, some fv, some av, some ev, some x, some (.int (B.most o : Nat)), some bv, some tv, y11] F18 (lotsD (sortT own)) := ed_tupOf (el_sortT (ed_var (i := 7) rfl tt) (.inr rfl) (sort_lots (parts_in own ho).2.1))
        refine Ev.to (ev_inD z (ed_var (i := 9) rfl (dp_mono (g12.ff.trans f18) p11)) (shaped_lots fun l hl2 => goodP ho l ((isort_perm own).mem_iff.mp hl2)) (shaped_best goodB)) (congrArg V.bl ?_)
        rw [any_lots]
      refine s_if (b := false) (et_not (b := true) (et_B (Ed.bl (ed_call (K := K) (r := .bool true) (ead_cons h29 (ead_cons hin.bl ead_nil)) ⟨_, rfl, rfl, rfl⟩)))) gG.sub (fun e => absurd e (by decide)) fun _ H19 e19 s19 => ?_
      exact ⟨F18, g18.ff, s19, some x, rfl, gG.on (Go.ext gG.sub e19), f18⟩
    · rintro σ1 F17 H17 s17 ⟨y7, rfl, g17, f17⟩
      exact ⟨F17, ((g2.ff.trans g3.ff).trans g4.ff).trans ((g5.ff.trans f512).trans f17), s17, _, _, _, _, _, _, _, _, _, _, _, rfl, g17.more (by omega)⟩
  · rintro σ1 F1 H1 s1 ⟨y1, y2, y3, y4, y5, y6, y7, y8, y9, y10, y11, rfl, g⟩
    exact q F1 H1 (g.more (by omega))
end
end K21

/-! An own error made without arguments. -/
namespace K21
open PySem PySem.Spec PyProof.Rows L2 RZ
theorem pmk_own0 {X : Cx} {C : Addr} {bmB : List Value} {B newId initId : String} {x : Str} {p pos : Pos} (F : ExcBaseFacts B newId initId bmB) (q : PySem.W.excIn X.K C bmB newId = true) (gC : X.mg x = some (.ref C))
    (kC : PySem.W.keepIn X.K (.ref C) = true) (r : Raises X (.ref C)) (hg : Gl X x) (hdb : (x == ("__debug__" : Str)) = false := by decide) :
    PMk X (.Call (.Name x p) [] [] pos) (fun σ H Q => Q (.ref C) none H) := by
  intro pins s σ H Q I h
  refine wpAny_Call_Name_kw (ld_glob I hg gC ?_ hdb)
  refine PySem.W.callWith_K0 I.kIn kC ?_
  show wpAny _ _ (call (.ref C) []) _ _ _
  obtain ⟨bm, N, nm, qn, bs, hdct, sn, sub, ab, col, dd, k0, k1, k2, k3, k5, mN, hC, hN, hni, T⟩ := exc_obj I.kIn q
  refine wpAny_call_exc_subT F T hC hN hni (fun h' e hm => ?_) (Nat.zero_le _)
  exact mk_of I hm r h (I.hok.gone hm.new)
end K21

/-! What raises: an order that does not fit. -/
namespace K21
open PySem PySem.Spec PyProof.Rows L2 RZ
open NdefX (NTab TabsN TabN)
/-- NoOrder, at C -/
structure Oops (K : PySem.W.Frag) (mg : Str → Option Value) (C : Addr) (bm : List Value) : Prop where
  gC : mg "NoOrder" = some (.ref C)
  ex : PySem.W.excIn K C bm "ValueError.__new__" = true
  kC : PySem.W.keepIn K (.ref C) = true
  sub : PySem.W.subIn K (.ref C) (.type "BaseException") = some true
  ty : PySem.W.typeIn K (.ref C) = some (.type "type")
  ec : ExcC K C
  exm : PySem.W.exmOne K (.ref C) (.ref C) = some true
  isV : PySem.W.kitOne K (.ref C) (.type "ValueError") = some true
/-- an order that does not fit the block -/
structure Misfit (b : PyData) (B : Blk) (od : PyData) (o : List Str) : Prop where
  blk : IsB b B
  nd : B.names.Nodup
  sq : SeqOf od (o.map .str)
  ok : okD 11 od = true
  few : o.length ≤ 50
  short : ∀ x ∈ o, x.cps.size ≤ 1000
  ord : B.isOrder o = false
theorem Misfit.tup {K : PySem.W.Frag} {b od : PyData} {B : Blk} {o : List Str} (h : Misfit b B od o) : TupSh K od = Pt K (o.map .str) := by
  rcases h.sq with e | e <;> rw [e] <;> show Pt K ((o.map PyData.str).map tupl) = _ <;> rw [tupl_strs]
/-- NoOrder leaves; the heap is kept -/
def spX (Z : List NTab) (K : PySem.W.Frag) (C : Addr) (n : Nat) : Sp := fun vs H Q E => vs.length = n ∧ ∃ F b B od o v u r, Sub Z F H ∧ vs = v :: u :: r ∧ Dp K F v b ∧ Dp K F u od ∧ Misfit b B od o ∧ ∀ H', Ext Z H H' → E (.ref C) none H'
theorem lenX {Z : List NTab} {K : PySem.W.Frag} {C : Addr} {n : Nat} {vs : List V} {H : Hp} {Q : VK} {E : XK} (h : spX Z K C n vs H Q E) : vs.length = n := h.1
section
variable {P : Program} {w : World} {K : PySem.W.Frag} {mg : Str → Option Value} {base : Heap} {fa : Nat → Addr} {fd : Nat → FuncData} {tl : Nat → Tok} {Z : List NTab}
variable {C : Addr} {bm : List Value} {initId : String}
theorem okX19 (T : Top K mg fa fd tl) (O : Oops K mg C bm) (XF : ExcBaseFacts "ValueError" "ValueError.__new__" initId bm) (G10 : FnOk P w K mg base CX0 12 (fa 10) (fd 10) ["value"] (sp10 Z K 11)) (G18 : FnOk P w K mg base CX0 14 (fa 18) (fd 18) ["block", "thing"] (sp18 Z K)) : FnOk P w K mg base (L2.CX P w) 15 (fa 19) (fd 19) ["block", "order"] (spX Z K C 2) := by
  refine T.F19.okX sc19 (fun vs H Q E h => lenX h) (fun cdv A outer s0 H vs Q E hr h => ?_)
  refine ⟨_, pss_one (ps_if (pt_not (pt_val (pe_call G18 (hr.mono (by decide)) (by rfl) T.g18 T.F18.kp T.b18 .nil pass0 (pa_cons (pv 0) (pa_cons (pe_call G10 (hr.mono (by decide)) (by rfl) T.g10 T.F10.kp T.b10 .nil pass0 (pa_cons (pv 1) pa_nil)) pa_nil))))) (pss_one (ps_raise rfl (W := fun cls d _ H => E cls d H) (takes_of rfl rfl rfl rfl) (pmk_own0 XF O.ex O.gC O.kC (raises_own O.sub O.ty) (by rfl)))) pss_nil), ?_⟩
  obtain ⟨_, F, b, B, od, o, v, u, r, s, rfl, p, p2, hf, q⟩ := h
  have hr0 : r = [] := by
    rename_i hl
    cases r with
    | nil => rfl
    | cons _ _ => simp at hl
  subst hr0
  have hv : Ed Z K (tVar 0) (L2.start ["block", "order"] [v, u]) F b := ed_var rfl p
  have hu : Ed Z K (tVar 1) (L2.start ["block", "order"] [v, u]) F od := ed_var rfl p2
  refine s_if (b := !B.isOrder o) (et_not (et_B (ed_call (ead_cons hv (ead_cons ((ed_tupled hf.ok hu).imp fun v F' _ z => (by rw [hf.tup] at z; exact Pt.dp z)) ead_nil)) ⟨b, B, o, rfl, hf.blk, hf.nd, hf.few, hf.short, rfl⟩).bl)) s (fun e H1 e1 s1 => q H1 e1) fun e => ?_
  rw [hf.ord] at e
  cases e
theorem nil_of {α : Type} {v u : α} {r : List α} (h : (v :: u :: r).length = 2) : r = [] := by
  cases r with
  | nil => rfl
  | cons _ _ => simp at h
theorem okX22 (T : Top K mg fa fd tl) (GX19 : FnOk P w K mg base (L2.CX P w) 15 (fa 19) (fd 19) ["block", "order"] (spX Z K C 2)) : FnOk P w K mg base (L2.CX P w) 16 (fa 22) (fd 22) ["block", "order"] (spX Z K C 2) := by
  refine T.F22.okX sc22 (fun vs H Q E h => lenX h) (fun cdv A outer s0 H vs Q E hr h => ?_)
  refine ⟨_, pss_cons (ps_expr (pe_callS GX19 (hr.mono (by decide)) (by rfl) T.g19 T.F19.kp T.b19 (fun σ => passAt (W := fun cls d _ H => E cls d H) (takes_of rfl rfl rfl rfl) σ) (pa_cons (pv 0) (pa_cons (pv 1) pa_nil)))) pss_never, ?_⟩
  obtain ⟨hl, F, b, B, od, o, v, u, r, s, rfl, p, p2, hf, q⟩ := h
  have hr0 := nil_of hl
  subst hr0
  exact ⟨v, rfl, u, rfl, rfl, F, b, B, od, o, v, u, [], s, rfl, p, p2, hf, q⟩
theorem okX28 (T : Top K mg fa fd tl) (GX22 : FnOk P w K mg base (L2.CX P w) 16 (fa 22) (fd 22) ["block", "order"] (spX Z K C 2)) : FnOk P w K mg base (L2.CX P w) 17 (fa 28) (fd 28) ["block", "order"] (spX Z K C 2) := by
  refine T.F28.okX sc28 (fun vs H Q E h => lenX h) (fun cdv A outer s0 H vs Q E hr h => ?_)
  refine ⟨_, pss_cons (ps_asg (pe_tup (pa_cons (pe_callS GX22 (hr.mono (by decide)) (by rfl) T.g22 T.F22.kp T.b22 (fun σ => passAt (W := fun cls d _ H => E cls d H) (takes_of rfl rfl rfl rfl) σ) (pa_cons (pv 0) (pa_cons (pv 1) pa_nil))) (pa_cons (pe_lst pa_nil) pa_nil))) (kg_tup (n := 2) K (by rfl) rfl (pgs_cons (pg_name (i := 5) nd28 rfl (Or.inr rfl)) (pgs_cons (pg_name (i := 2) nd28 rfl (Or.inl rfl)) pgs_nil)))) pss_never, ?_⟩
  obtain ⟨hl, F, b, B, od, o, v, u, r, s, rfl, p, p2, hf, q⟩ := h
  have hr0 := nil_of hl
  subst hr0
  exact ⟨v, rfl, u, rfl, rfl, F, b, B, od, o, v, u, [], s, rfl, p, p2, hf, q⟩
theorem okX29 (T : Top K mg fa fd tl) (GX22 : FnOk P w K mg base (L2.CX P w) 16 (fa 22) (fd 22) ["block", "order"] (spX Z K C 2)) : FnOk P w K mg base (L2.CX P w) 17 (fa 29) (fd 29) ["block", "order", "thing"] (spX Z K C 3) := by
  refine T.F29.okX sc29 (fun vs H Q E h => lenX h) (fun cdv A outer s0 H vs Q E hr h => ?_)
  refine ⟨_, pss_cons (ps_set (i := 3) nd29 rfl (Or.inr rfl) (pe_callS GX22 (hr.mono (by decide)) (by rfl) T.g22 T.F22.kp T.b22 (fun σ => passAt (W := fun cls d _ H => E cls d H) (takes_of rfl rfl rfl rfl) σ) (pa_cons (pv 0) (pa_cons (pv 1) pa_nil)))) pss_never, ?_⟩
  obtain ⟨hl, F, b, B, od, o, v, u, r, s, rfl, p, p2, hf, q⟩ := h
  obtain ⟨t, rfl⟩ : ∃ t, r = [t] := by
    cases r with
    | nil => simp at hl
    | cons t r =>
      cases r with
      | nil => exact ⟨t, rfl⟩
      | cons _ _ => simp at hl
  exact ⟨v, rfl, u, rfl, rfl, F, b, B, od, o, v, u, [], s, rfl, p, p2, hf, q⟩
end
end K21

/-! _law_heard: 46. -/
namespace K21
open PySem PySem.Spec PyProof.Rows L2 RZ
open NdefX (NTab TabsN TabN)
/-- isinstance(error, ValueError), the error held by the suite -/
def tIsE (K : PySem.W.Frag) (C a : Addr) (cls : Value) (d : Option Addr) (t : TA) : TE := fun σ H Q => cls = .ref C ∧ d = none ∧ tCB (rIsE K C a) t σ H Q
theorem pe_isE {X : Cx} {C a : Addr} {oe : Obj} {cls : Value} {d : Option Addr} {pn : List (Addr × Obj)} {e : Expr} {es : List Expr} {t : TA} {p pos : Pos} (ec : ExcC X.K C) (hz : Zc cls d oe) (hf : ∃ vs, oe.data = .fields vs) (hg : Gl (X.suite a ((a, oe) :: pn)) "isinstance") (hm : X.mg "isinstance" = none) (ha : PA (X.suite a ((a, oe) :: pn)) (e :: es) t)
    (he : starEach (e :: es) X.env = (false, eval e X.env) :: starEach es X.env := by rfl) (hpl : (backTo pos (starEach es X.env)).any (·.1) = false := by rfl) :
    PE (X.suite a ((a, oe) :: pn)) (.Call (.Name "isinstance" p) (e :: es) [] pos) (tIsE X.K C a cls d t) := by
  refine ⟨fun pins s σ H Q I h => ?_⟩
  obtain ⟨rfl, rfl, h⟩ := h
  exact (pe_callB (call_isE ec hz hf) hg hm bt_isinstance ha (he := he) (hpl := hpl)).run pins s σ H Q I h
def tHeard (Z : List NTab) (K : PySem.W.Frag) (C : Addr) (W : WX) : TS := tAsg (tIf (tTest (tOp (fun x y H Q => y = .non ∧ Q (.bl (decide (x = .non))) H) (tVar 2) (tC .non))) (tCallS (spX Z K C 2) (WE W) (tCons (tVar 0) (tCons (tVar 1) tNil))) (tCallS (spX Z K C 3) (WE W) (tCons (tVar 0) (tCons (tVar 1) (tCons (tVar 2) tNil))))) (gName 4)
def tSaid (K : PySem.W.Frag) (C : Addr) (a : Addr) (cls : Value) (d : Option Addr) : TS := tAsg (tLst (tCons (tC (.str "order")) (tCons (tIsE K C a cls d (tCons (tVar 5) (tCons (tC (.ty "ValueError")) tNil))) tNil))) (gName 3)
def sp46 (Z : List NTab) (K : PySem.W.Frag) : Sp := spD Z K fun ds r => ∃ b B od o d, ds = [b, od, d] ∧ Misfit b B od o ∧ r = .list [.str "order", .bool true]
theorem len46 {Z : List NTab} {K : PySem.W.Frag} {vs : List V} {H : Hp} {Q : VK} {E : XK} (h : sp46 Z K vs H Q E) : vs.length = 3 := spD_len (n := 3) (by rintro _ _ ⟨b, B, od, o, d, rfl, _⟩; rfl) h
section
variable {P : Program} {w : World} {K : PySem.W.Frag} {mg : Str → Option Value} {base : Heap} {fa : Nat → Addr} {fd : Nat → FuncData} {tl : Nat → Tok} {Z : List NTab}
variable {C : Addr} {bm : List Value}
theorem ok46 (T : Top K mg fa fd tl) (O : Oops K mg C bm) (GX28 : FnOk P w K mg base (L2.CX P w) 17 (fa 28) (fd 28) ["block", "order"] (spX Z K C 2)) (GX29 : FnOk P w K mg base (L2.CX P w) 17 (fa 29) (fd 29) ["block", "order", "thing"] (spX Z K C 3)) : FnOk P w K mg base CX0 21 (fa 46) (fd 46) ["_law_kit_here", "_law_line_so", "_law_odd_so"] (sp46 Z K) := by
  refine T.F46.ok sc46 (fun vs H Q E h => len46 h) (fun cdv A outer s0 H vs Q E hr h => ?_)
  refine ⟨_, (pss_cons (ps_asg (pe_tup (pa_cons pe_non (pa_cons pe_non pa_nil))) (kg_tup (n := 2) K (by rfl) rfl (pgs_cons (pg_name (i := 3) nd46 rfl (Or.inl rfl)) (pgs_cons (pg_name (i := 4) nd46 rfl (Or.inl rfl)) pgs_nil))))
    (pss_cons (ps_try_as (i := 5) (tb := tHeard Z K C) (ts := tSaid K C) (Wout := fun _ _ _ _ => False) rfl rfl nd46 rfl rfl ⟨by rfl, by decide, Or.inl O.gC⟩ takes0
      (fun W pn xe tk _ => pss_one (ps_set (i := 4) nd46 rfl (Or.inl rfl) (by exact (pe_ifExp (pt_cmpR op_isN (pv 2) pe_non (nomark _)) (pe_callS GX28 (hr.mono (by decide)) (by rfl) T.g28 T.F28.kp T.b28 (fun σ => passAt tk σ) (pa_cons (pv 0) (pa_cons (pv 1) pa_nil))) (pe_callS GX29 (hr.mono (by decide)) (by rfl) T.g29 T.F29.kp T.b29 (fun σ => passAt tk σ) (pa_cons (pv 0) (pa_cons (pv 1) (pa_cons (pv 2) pa_nil))))))))
      (fun a oe cls d pn hz hf => pss_one (ps_set (i := 3) nd46 rfl (Or.inl rfl) (by exact (pe_lst (pa_cons pe_str (pa_cons (pe_isE O.ec hz hf (by rfl) T.m_isinstance (pa_cons (pv 5) (pa_cons (pe_bltn (v := .ty "ValueError") (by rfl) T.m_ValueError bt_ValueError rfl) pa_nil))) pa_nil)))))))
    (pss_one (ps_ret (pe_ifExp (pt_cmpR op_isN (pv 3) pe_non (nomark _)) (pv 4) (pv 3)))))), ?_⟩
  obtain ⟨F, _, _, s, pd, ⟨b, B, od, o, d, rfl, hf, rfl⟩, q⟩ := h
  obtain ⟨v, u, t, rfl, p, p2, p3⟩ := dpa3 pd
  refine ⟨(by decide : 2 ≤ sizeLine), fun T0 hT => ⟨T0, [.non, .non], rfl, .inl (.inl upd_same), rfl, _, _, rfl, _, _, rfl, rfl, ?_⟩⟩
  have e1 : Ext Z H (upd H T0 (.tup [.non, .non])) := ext_new hT
  generalize upd H T0 (.tup [.non, .non]) = H1 at e1
  have said : ∀ H3, Ext Z H H3 → ∀ a0 : Addr, tSaid K C a0 (.ref C) none { nx := fun σ' H' => tRet (tIf (tTest (tOp (fun x y H Q => y = .non ∧ Q (.bl (decide (x = .non))) H) (tVar 3) (tC .non))) (tVar 4) (tVar 3)) { nx := fun _ H' => Q .non H', rt := Q } (σ'.set 5 none) H', rt := Q } ([some v, some u, some t, some .non, some .non, none].set 5 (some (.ref a0))) H3 := fun H3 e3 a0 => by
    refine ⟨rfl, rfl, .ref a0, rfl, .ty "ValueError", .type "ValueError", true, rfl, (fun u r => by cases r; rfl), O.isV, (by decide : 2 ≤ sizeLine), fun p hp => ?_⟩
    have s3 := s.up e3
    have g4 : Go Z F H (upd F p (.lst [.str "order", .bl true])) (upd H3 p (.lst [.str "order", .bl true])) := (Go.ext s e3).trans (Go.new s3 hp)
    have hd : Ed Z K (tVar 3) [some v, some u, some t, some (.ref p), some .non, none] (upd F p (.lst [.str "order", .bl true])) (.list [.str "order", .bool true]) := ed_var rfl (.lst (.inl (.inl upd_same)) (.cons (.str _) (.cons (.bl _) .nil)))
    exact s_ret (D := { nx := fun _ H' => Q .non H', rt := Q }) (es_if (P := fun v F => Dp K F v (.list [.str "order", .bool true])) (b := false) (et_test (ev_isN hd)) (fun e => absurd e (by decide)) fun _ => hd) g4.sub fun v' F' H' g z => q v' F' H' (g4.trans g) z
  unfold tHeard
  refine et_test (ev_isN (Z := Z) (K := K) (F := F) (σ := [some v, some u, some t, some .non, some .non, none]) (d := d) (ed_var (i := 2) rfl p3)) H1 (s.up e1) _ fun H2 e2 => ?_
  cases isNone d with
  | true => exact iteT ⟨v, rfl, u, rfl, rfl, F, b, B, od, o, v, u, [], (s.up e1).up e2, rfl, p, p2, hf, fun H3 e3 => ⟨true, O.exm, fun _ a0 _ => said H3 ((e1.trans e2).trans e3) a0, fun q => Bool.noConfusion q⟩⟩
  | false => exact iteF ⟨v, rfl, u, rfl, t, rfl, rfl, F, b, B, od, o, v, u, [t], (s.up e1).up e2, rfl, p, p2, hf, fun H3 e3 => ⟨true, O.exm, fun _ a0 _ => said H3 ((e1.trans e2).trans e3) a0, fun q => Bool.noConfusion q⟩⟩
end
end K21

/-! law: 51. -/
namespace K21
open PySem PySem.Spec PyProof.Rows L2 RZ
open NdefX (NTab TabsN TabN)
def sp47 (Z : List NTab) (K : PySem.W.Frag) : Sp := spD Z K fun ds r => ds = [] ∧ r = .bool true
theorem len47 {Z : List NTab} {K : PySem.W.Frag} {vs : List V} {H : Hp} {Q : VK} {E : XK} (h : sp47 Z K vs H Q E) : vs.length = 0 := spD_len (n := 0) (by rintro _ _ ⟨rfl, _⟩; rfl) h
def sp48 (Z : List NTab) (K : PySem.W.Frag) : Sp := spD Z K fun ds r => ds = [] ∧ r = .bool true
theorem len48 {Z : List NTab} {K : PySem.W.Frag} {vs : List V} {H : Hp} {Q : VK} {E : XK} (h : sp48 Z K vs H Q E) : vs.length = 0 := spD_len (n := 0) (by rintro _ _ ⟨rfl, _⟩; rfl) h
def sp51 (Z : List NTab) (K : PySem.W.Frag) : Sp := fun vs H Q _ => ∃ F w, ∃ sc : List Int, vs = [w] ∧ Sub Z F H ∧ Dp K F w (.list (sc.map .int)) ∧ sc.length ≤ 63 ∧ ∀ H', Q (.bl true) H'
theorem len51 {Z : List NTab} {K : PySem.W.Frag} {vs : List V} {H : Hp} {Q : VK} {E : XK} (h : sp51 Z K vs H Q E) : vs.length = 1 := by
  obtain ⟨F, w, sc, rfl, _⟩ := h
  rfl
section
variable {P : Program} {w : World} {K : PySem.W.Frag} {mg : Str → Option Value} {base : Heap} {fa : Nat → Addr} {fd : Nat → FuncData} {tl : Nat → Tok} {Z : List NTab}
theorem ok51 (T : Top K mg fa fd tl) (G31 : FnOk P w K mg base CX0 1 (fa 31) (fd 31) ["_law_script", "_law_k"] (sp31 Z K)) (G33 : FnOk P w K mg base CX0 1 (fa 33) (fd 33) ["_law_script", "_law_top"] (sp33 Z K)) (G47 : FnOk P w K mg base CX0 22 (fa 47) (fd 47) [] (sp47 Z K)) (G50 : FnOk P w K mg base CX0 21 (fa 50) (fd 50) ["_law_tub"] (sp50 Z K)) : FnOk P w K mg base CX0 23 (fa 51) (fd 51) ["_law_script"] (sp51 Z K) := by
  refine T.F51.ok sc51 (fun vs H Q E h => len51 h) (fun cdv A outer s0 H vs Q E hr h => ?_)
  refine ⟨_, (pss_cons (ps_if (pt_not (pt_val (pe_call0 G47 (hr.mono (by decide)) (by rfl) T.g47 T.F47.kp T.b47 .nil pass0))) (pss_one (ps_ret pe_bl)) pss_nil)
  (pss_cons (ps_set (i := 1) nd51 rfl (Or.inr rfl) (pe_call G33 (hr.mono (by decide)) (by rfl) T.g33 T.F33.kp T.b33 .nil pass0 (pa_cons (pv 0) (pa_cons pe_int pa_nil))))
  (pss_one (ps_ret (pe_callB (kc_all K (by rfl) rfl) (by rfl) T.m_all bt_all (pa_cons (pe_lc (own := [("_law_k", 2)]) (tt := tYes) rfl nd51 (pi_range1 (by rfl) T.m_range (pa_cons (pe_callB (kc_len K) (by rfl) T.m_len bt_len (pa_cons (pv 1) pa_nil)) pa_nil)) (blkOk_by (N := ["_law_script", "_law_cells_here", "_law_k"]) (sc := (defScope s51)) (own := [("_law_k", 2)]) (by decide +kernel)) (fun _ _ _ _ _ => (pg_name (i := 2) nd51 rfl (Or.inl rfl))) (fun _ _ _ _ _ => pts_nil) (fun _ _ _ _ _ => (pe_call G50 (hr.mono (by decide)) (by rfl) T.g50 T.F50.kp T.b50 .nil pass0 (pa_cons (pe_call G31 (hr.mono (by decide)) (by rfl) T.g31 T.F31.kp T.b31 .nil pass0 (pa_cons (pv 1) (pa_cons (pv 2) pa_nil))) pa_nil)))) pa_nil)))))), ?_⟩
  obtain ⟨F, w, sc, rfl, s, p, few, q⟩ := h
  refine q_when (b := false) (et_not (b := true) (et_B (Ed.bl (ed_call (K := K) (r := .bool true) ead_nil ⟨rfl, rfl⟩)))) s (fun e => absurd e (by decide)) fun _ H1 e1 s1 => ?_
  refine q_asg (P := fun v F' => ∃ cs : List Int, cs.length ≤ 2 ∧ Dp K F' v (.list (cs.map .int))) (fun H s Q q => ⟨w, rfl, F, sc, w, rfl, s, p, few, fun cs v F' H' c1 c2 g pv => q v F' H' g ⟨cs, c2, pv⟩⟩) s1 fun cv F2 H2 g2 ⟨cs, c2, pc⟩ => ?_
  have hlen := ev_lenL (K := K) (Z := Z) (F := F2) (te := tVar 1) (σ := [some w, some cv, none]) (ed_var rfl pc)
  rw [List.length_map] at hlen
  refine s_retV (x := .bl true) (Ev.to (ev_all (K := K) (bs := (List.range cs.length).map fun _ => true) ?_) (congrArg V.bl ?_)) g2.sub fun H3 _ _ => q H3
  · rw [List.map_map]
    refine el_map (K := K) (fun _ : Nat => .bool true) (iw_rng1 hlen (by omega)) (by rw [List.length_range]; omega) (fun _ => rfl) fun k x F3 hk e t => ?_
    subst t
    intro H s Q q
    refine ⟨cv, rfl, .int (k : Nat), rfl, F3, cs, k, cv, rfl, s, dp_mono e pc, List.mem_range.mp hk, fun p F' H' l g p0 pf hp tl => ?_⟩
    refine ⟨F', 0, p, rfl, ⟨g.sub, pf, l, hp, tl⟩, by decide, fun F4 H4 gm => ?_⟩
    obtain ⟨l2, _, g2⟩ := gm.go
    exact q _ F4 H4 ((g.mut p0 pf hp).trans g2) (.bl true)
  · rw [List.all_map]
    simp
end
end K21

/-! The kits laid by hand. -/
namespace K21
open PySem PySem.Spec PyProof.Rows L2 RZ
open NdefX (NTab TabsN TabN)
def szS (l : List Str) : Bool := l.all fun x => decide (x.cps.size ≤ 1000)
theorem szS_mem {l : List Str} (h : szS l = true) {x : Str} (hx : x ∈ l) : x.cps.size ≤ 1000 := of_decide_eq_true (List.all_eq_true.mp h x hx)
def blkB (B : Blk) : Bool := decide (B.rows.length ≤ 50) && B.rows.all (fun r => decide (r.rd.length ≤ 50) && isNameS r.nm && szS r.rd) && decide (B.live.length ≤ 50) && szS B.live
def lineB (B : Blk) (o : List Str) : Bool := decide B.names.Nodup && decide (o.length ≤ 50) && szS o
theorem isB_of {B : Blk} (h : blkB B = true) : IsB (blkD B) B := by
  unfold blkB at h
  simp only [Bool.and_eq_true, decide_eq_true_eq, List.all_eq_true] at h
  obtain ⟨⟨⟨h1, h2⟩, h3⟩, h4⟩ := h
  refine ⟨?_, tupl_blk B, h1, fun r hr => (h2 r hr).1.1, h3, fun r hr => (h2 r hr).1.2⟩
  have hr : ∀ r ∈ B.rows, okD 9 (rowD r) = true := fun r hr => by
    obtain ⟨⟨a1, a2⟩, a3⟩ := h2 r hr
    have e1 : okD 8 (namesD r.rd) = true := okD_strs (n := 7) (fun x hx => szS_mem a3 hx) (by omega)
    have e2 : okD 8 (.str r.nm) = true := decide_eq_true (name_size a2)
    show (decide ((3 : Nat) ≤ 1000) && [PyData.str r.nm, namesD r.rd, .bool r.sl].all (okD 8)) = true
    rw [List.all_cons, List.all_cons, List.all_cons, e1, e2]
    rfl
  have e1 : okD 10 (.tuple (B.rows.map rowD)) = true := by
    show (decide ((B.rows.map rowD).length ≤ 1000) && (B.rows.map rowD).all (okD 9)) = true
    rw [Bool.and_eq_true]
    refine ⟨decide_eq_true (by rw [List.length_map]; omega), ?_⟩
    rw [List.all_map, List.all_eq_true]
    exact hr
  have e2 : okD 10 (namesD B.live) = true := okD_strs (n := 9) (fun x hx => szS_mem h4 hx) (by omega)
  show (decide ((2 : Nat) ≤ 1000) && [PyData.tuple (B.rows.map rowD), namesD B.live].all (okD 10)) = true
  rw [List.all_cons, List.all_cons, e1, e2]
  rfl
theorem fits_by {B : Blk} {o : List Str} (h : blkB B = true) (hl : lineB B o = true) (ho : B.isOrder o = true) : Fits (blkD B) B (namesD o) o := by
  unfold lineB at hl
  simp only [Bool.and_eq_true, decide_eq_true_eq] at hl
  obtain ⟨⟨h1, h2⟩, h3⟩ := hl
  exact ⟨isB_of h, h1, .inr rfl, okD_strs (n := 10) (fun x hx => szS_mem h3 hx) (by omega), h2, fun x hx => szS_mem h3 hx, ho⟩
theorem misfit_by {B : Blk} {o : List Str} (h : blkB B = true) (hl : lineB B o = true) (ho : B.isOrder o = false) : Misfit (blkD B) B (namesD o) o := by
  unfold lineB at hl
  simp only [Bool.and_eq_true, decide_eq_true_eq] at hl
  obtain ⟨⟨h1, h2⟩, h3⟩ := hl
  exact ⟨isB_of h, h1, .inr rfl, okD_strs (n := 10) (fun x hx => szS_mem h3 hx) (by omega), h2, fun x hx => szS_mem h3 hx, ho⟩
def wideB : Blk := ⟨[⟨"a", [], true⟩, ⟨"b", [], true⟩, ⟨"c", [], true⟩, ⟨"d", [], true⟩, ⟨"u", ["a"], false⟩, ⟨"v", ["c"], false⟩], ["b", "d"]⟩
def wideO : List Str := ["a", "c", "u", "d", "v", "b"]
def sixB : Blk := ⟨[⟨"a", [], true⟩, ⟨"b", [], true⟩, ⟨"c", ["b"], true⟩, ⟨"d", ["c"], true⟩, ⟨"e", ["a"], true⟩, ⟨"f", ["e"], true⟩, ⟨"g", ["f"], false⟩], ["d"]⟩
def sixO : List Str := ["a", "b", "c", "d", "e", "f", "g"]
theorem fits_wide : Fits (blkD wideB) wideB (namesD wideO) wideO := fits_by (by decide +kernel) (by decide +kernel) (by decide +kernel)
theorem fits_six : Fits (blkD sixB) sixB (namesD sixO) sixO := fits_by (by decide +kernel) (by decide +kernel) (by decide +kernel)
theorem wide_1 : sortT (partedS wideB wideO) = ([["a", "d"], ["b", "c"]] : List (List Str)) := by decide +kernel
theorem wide_2 : isPartedD wideB wideO (lotsD [["b", "c"], ["a", "d"]]) = true := by decide +kernel
theorem wide_3 : isPartedD wideB wideO (lotsD [["a", "b"], ["c"], ["d"]]) = false := by decide +kernel
theorem six_1 : sortT (partedS sixB sixO) = ([["a", "e", "f"], ["b", "c", "d"]] : List (List Str)) := by decide +kernel
theorem six_2 : isPartedD sixB sixO (lotsD [["b", "c", "e", "f"], ["a"], ["d"]]) = false := by decide +kernel
end K21

/-! _law_fits_right: 48. -/
namespace K21
open PySem PySem.Spec PyProof.Rows L2 RZ
open NdefX (NTab TabsN TabN)
section
variable {Z : List NTab} {K : PySem.W.Frag} {σ : St} {F H : Hp} {ta tb : TE} {d e : PyData} {i j : Nat} {t : TS} {D : Ends}
theorem q_par (ha : Ed Z K ta σ F d) (hb : Ed Z K tb σ F e) (s : Sub Z F H) (k : ∀ v w F' H', Go Z F H F' H' → Dp K F' v d → Dp K F' w e → t D ((σ.set i (some v)).set j (some w)) H') : tSeq (tPar i j (tCons ta (tCons tb tNil))) t D σ H :=
  ha H s _ fun v F1 H1 g1 p1 => hb.up g1.ff H1 g1.sub _ fun w F2 H2 g2 p2 => ⟨v, w, rfl, k v w F2 H2 (g1.trans g2) (dp_mono g2.ff p1) p2⟩
theorem ed_isp {tc : TE} {b od x : PyData} {B : Blk} {o : List Str} {r : Bool} {E : XK} (ha : Ed Z K ta σ F b) (hb : Ed Z K tb σ F od) (hc : Ed Z K tc σ F x) (hf : Fits b B od o) (ok : okD 11 x = true) (fw : fewP x = true) (hr : isPartedD B o x = r) : Ed Z K (tCall (sp29 Z K) [] E (tCons ta (tCons tb (tCons tc tNil)))) σ F (.bool r) := by
  rw [← hr]
  exact ed_call (ead_cons ha (ead_cons hb (ead_cons hc ead_nil))) ⟨b, B, od, o, x, 11, rfl, hf, ok, fw, rfl⟩
theorem ed_par {b od : PyData} {B : Blk} {o : List Str} {ls : List (List Str)} {E : XK} (ha : Ed Z K ta σ F b) (hb : Ed Z K tb σ F od) (hf : Fits b B od o) (hr : partedS B o = ls) : Ed Z K (tCall (sp28 Z K) [] E (tCons ta (tCons tb tNil))) σ F (lotsD ls) := by
  rw [← hr]
  exact ed_call (ead_cons ha (ead_cons hb ead_nil)) ⟨b, B, od, o, rfl, hf, rfl⟩
end
def abcdR : List Row := ("abcd" : Str).cps.toList.map fun c => ⟨⟨#[c]⟩, [], true⟩
theorem wide_rows : abcdR ++ [⟨"u", ["a"], false⟩, ⟨"v", ["c"], false⟩] = wideB.rows := by decide +kernel
section
variable {P : Program} {w : World} {K : PySem.W.Frag} {mg : Str → Option Value} {base : Heap} {fa : Nat → Addr} {fd : Nat → FuncData} {tl : Nat → Tok} {Z : List NTab}
theorem ok48 (T : Top K mg fa fd tl) (G28 : FnOk P w K mg base CX0 18 (fa 28) (fd 28) ["block", "order"] (sp28 Z K)) (G29 : FnOk P w K mg base CX0 20 (fa 29) (fd 29) ["block", "order", "thing"] (sp29 Z K)) (G36 : FnOk P w K mg base CX0 12 (fa 36) (fd 36) ["_law_got", "_law_due"] (sp36 Z K 11)) : FnOk P w K mg base CX0 21 (fa 48) (fd 48) [] (sp48 Z K) := by
  refine T.F48.ok sc48 (fun vs H Q E h => len48 h) (fun cdv A outer s0 H vs Q E hr h => ?_)
  refine ⟨_, (pss_cons (ps_set (i := 0) nd48 rfl (Or.inl rfl) (pe_op (ko_catA K) (pe_callTy (kc_tupOf K) (by rfl) T.m_tuple bt_tuple (pa_cons (pe_lc (own := [("_law_tag", 5)]) (tt := tYes) rfl nd48 (pi_str pe_str) (blkOk_by (N := ["_law_rows_so", "_law_wide_so", "_law_line_so", "_law_got", "_law_six_so", "_law_tag"]) (sc := (defScope s48)) (own := [("_law_tag", 5)]) (by decide +kernel)) (fun _ _ _ _ _ => (pg_name (i := 5) nd48 rfl (Or.inl rfl))) (fun _ _ _ _ _ => pts_nil) (fun _ _ _ _ _ => (pe_tup (pa_cons (pv 5) (pa_cons (pe_tup pa_nil) (pa_cons pe_bl pa_nil)))))) pa_nil)) (pe_tup (pa_cons (pe_tup (pa_cons pe_str (pa_cons (pe_tup (pa_cons pe_str pa_nil)) (pa_cons pe_bl pa_nil)))) (pa_cons (pe_tup (pa_cons pe_str (pa_cons (pe_tup (pa_cons pe_str pa_nil)) (pa_cons pe_bl pa_nil)))) pa_nil)))))
  (pss_cons (ps_par (i := 1) (j := 2) rfl nd48 rfl rfl (by decide) rfl rfl (pa_cons (pe_tup (pa_cons (pv 0) (pa_cons (pe_tup (pa_cons pe_str (pa_cons pe_str pa_nil))) pa_nil))) (pa_cons (pe_callTy (kc_tupS rfl) (by rfl) T.m_tuple bt_tuple (pa_cons pe_str pa_nil)) pa_nil)) (by rfl))
  (pss_cons (ps_set (i := 3) nd48 rfl (Or.inl rfl) (pe_lst (pa_cons (pe_callB (kc_sortD K (by rfl) hr.units) (by rfl) T.m_sorted bt_sorted (pa_cons (pe_call G28 (hr.mono (by decide)) (by rfl) T.g28 T.F28.kp T.b28 .nil pass0 (pa_cons (pv 1) (pa_cons (pv 2) pa_nil))) pa_nil)) (pa_cons (pe_call G29 (hr.mono (by decide)) (by rfl) T.g29 T.F29.kp T.b29 .nil pass0 (pa_cons (pv 1) (pa_cons (pv 2) (pa_cons (pe_tup (pa_cons (pe_tup (pa_cons pe_str (pa_cons pe_str pa_nil))) (pa_cons (pe_tup (pa_cons pe_str (pa_cons pe_str pa_nil))) pa_nil))) pa_nil)))) pa_nil))))
  (pss_cons (ps_expr (ke_bm K (by rfl) PySem.F.plainAttrs_list PySem.F.slot_list_append PySem.F.type_list_append mt_append (pv 3) (pa_cons (pe_call G29 (hr.mono (by decide)) (by rfl) T.g29 T.F29.kp T.b29 .nil pass0 (pa_cons (pv 1) (pa_cons (pv 2) (pa_cons (pe_tup (pa_cons (pe_tup (pa_cons pe_str (pa_cons pe_str pa_nil))) (pa_cons (pe_tup (pa_cons pe_str pa_nil)) (pa_cons (pe_tup (pa_cons pe_str pa_nil)) pa_nil)))) pa_nil)))) pa_nil)))
  (pss_cons (ps_set (i := 0) nd48 rfl (Or.inl rfl) (pe_tup (pa_cons (pe_tup (pa_cons pe_str (pa_cons (pe_tup pa_nil) (pa_cons pe_bl pa_nil)))) (pa_cons (pe_tup (pa_cons pe_str (pa_cons (pe_tup pa_nil) (pa_cons pe_bl pa_nil)))) (pa_cons (pe_tup (pa_cons pe_str (pa_cons (pe_tup (pa_cons pe_str pa_nil)) (pa_cons pe_bl pa_nil)))) (pa_cons (pe_tup (pa_cons pe_str (pa_cons (pe_tup (pa_cons pe_str pa_nil)) (pa_cons pe_bl pa_nil)))) pa_nil))))))
  (pss_cons (ps_set (i := 0) nd48 rfl (Or.inl rfl) (pe_op (ko_catA K) (pv 0) (pe_tup (pa_cons (pe_tup (pa_cons pe_str (pa_cons (pe_tup (pa_cons pe_str pa_nil)) (pa_cons pe_bl pa_nil)))) (pa_cons (pe_tup (pa_cons pe_str (pa_cons (pe_tup (pa_cons pe_str pa_nil)) (pa_cons pe_bl pa_nil)))) (pa_cons (pe_tup (pa_cons pe_str (pa_cons (pe_tup (pa_cons pe_str pa_nil)) (pa_cons pe_bl pa_nil)))) pa_nil))))))
  (pss_cons (ps_par (i := 4) (j := 2) rfl nd48 rfl rfl (by decide) rfl rfl (pa_cons (pe_tup (pa_cons (pv 0) (pa_cons (pe_tup (pa_cons pe_str pa_nil)) pa_nil))) (pa_cons (pe_callTy (kc_tupS rfl) (by rfl) T.m_tuple bt_tuple (pa_cons pe_str pa_nil)) pa_nil)) (by rfl))
  (pss_cons (ps_set (i := 3) nd48 rfl (Or.inl rfl) (pe_op op_cat (pv 3) (pe_lst (pa_cons (pe_callB (kc_sortD K (by rfl) hr.units) (by rfl) T.m_sorted bt_sorted (pa_cons (pe_call G28 (hr.mono (by decide)) (by rfl) T.g28 T.F28.kp T.b28 .nil pass0 (pa_cons (pv 4) (pa_cons (pv 2) pa_nil))) pa_nil)) pa_nil))))
  (pss_cons (ps_set (i := 3) nd48 rfl (Or.inl rfl) (pe_op op_cat (pv 3) (pe_lst (pa_cons (pe_call G29 (hr.mono (by decide)) (by rfl) T.g29 T.F29.kp T.b29 .nil pass0 (pa_cons (pv 4) (pa_cons (pv 2) (pa_cons (pe_tup (pa_cons (pe_tup (pa_cons pe_str (pa_cons pe_str (pa_cons pe_str (pa_cons pe_str pa_nil))))) (pa_cons (pe_tup (pa_cons pe_str pa_nil)) (pa_cons (pe_tup (pa_cons pe_str pa_nil)) pa_nil)))) pa_nil)))) pa_nil))))
  (pss_one (ps_ret (pe_call G36 (hr.mono (by decide)) (by rfl) T.g36 T.F36.kp T.b36 .nil pass0 (pa_cons (pv 3) (pa_cons (pe_lst (pa_cons (pe_lst (pa_cons (pe_tup (pa_cons pe_str (pa_cons pe_str pa_nil))) (pa_cons (pe_tup (pa_cons pe_str (pa_cons pe_str pa_nil))) pa_nil))) (pa_cons pe_bl (pa_cons pe_bl (pa_cons (pe_lst (pa_cons (pe_tup (pa_cons pe_str (pa_cons pe_str (pa_cons pe_str pa_nil)))) (pa_cons (pe_tup (pa_cons pe_str (pa_cons pe_str (pa_cons pe_str pa_nil)))) pa_nil))) (pa_cons pe_bl pa_nil)))))) pa_nil)))))))))))))), ?_⟩
  obtain ⟨F, _, _, s, pd, ⟨rfl, rfl⟩, q⟩ := h
  cases pd
  have er : PyData.tuple ((("abcd" : Str).cps.toList.map fun c => PyData.tuple [.str ⟨#[c]⟩, .tuple [], .bool true]) ++ [rowD ⟨"u", ["a"], false⟩, rowD ⟨"v", ["c"], false⟩]) = .tuple (wideB.rows.map rowD) := by
    rw [← wide_rows, List.map_append]
    unfold abcdR
    rw [List.map_map]
    rfl
  refine q_asg (P := fun v F => Dp K F v (.tuple (wideB.rows.map rowD))) (Ed.to (ed_catT (ed_tupOf (el_map (K := K) (fun c : Nat => .tuple [.str ⟨#[c]⟩, .tuple [], .bool true]) (iw_str ev_c) (by decide) (fun _ => rfl) fun c x F1 hc e t => ?_)) (ed_tup (ead_cons (ed_tup (ead_cons ev_c.str (ead_cons (ed_tup (ead_cons ev_c.str ead_nil) (by simp)) (ead_cons ev_c.bl ead_nil))) (by simp)) (ead_cons (ed_tup (ead_cons ev_c.str (ead_cons (ed_tup (ead_cons ev_c.str ead_nil) (by simp)) (ead_cons ev_c.bl ead_nil))) (by simp)) ead_nil)) (by simp)) ?_) er) s fun rv F1 H1 g1 p1 => ?_
  · subst t
    exact ed_tup (ead_cons (ev_var rfl).str (ead_cons (ed_tup ead_nil (by simp)) (ead_cons ev_c.bl ead_nil))) (by simp)
  · rw [List.length_map]
    decide
  refine q_par (d := blkD wideB) (e := namesD wideO) (ed_tup (ead_cons (ed_var rfl p1) (ead_cons (ed_tup (ead_cons ev_c.str (ead_cons ev_c.str ead_nil)) (by decide)) ead_nil)) (by decide)) (ed_tupS ev_c (by decide)) g1.sub fun bv lv F2 H2 g2 p2 p3 => ?_
  have g12 := g1.trans g2
  have ne1 : ∀ l ∈ partedS wideB wideO, l ≠ [] := by decide +kernel
  have ne2 : ∀ l ∈ partedS sixB sixO, l ≠ [] := by decide +kernel
  have hA : Ed Z K (tCB (rSortD K) (tCons (tCall (sp28 Z K) [] E0 (tCons (tVar 1) (tCons (tVar 2) tNil))) tNil)) [some rv, some bv, some lv, none, none, none] F2 (.list (([["a", "d"], ["b", "c"]] : List (List Str)).map namesD)) := by
    rw [← wide_1]
    exact El.ed (el_sortT (ed_par (ed_var rfl p2) (ed_var rfl p3) fits_wide rfl) (.inr rfl) (sort_lots ne1))
  refine q_asgL (el_lst (K := K) (ds := [.list (([["a", "d"], ["b", "c"]] : List (List Str)).map namesD), .bool true]) (ead_cons hA (ead_cons (ed_isp (x := lotsD [["b", "c"], ["a", "d"]]) (ed_var rfl p2) (ed_var rfl p3) (ed_tup (ead_cons (ed_tup (ead_cons ev_c.str (ead_cons ev_c.str ead_nil)) (by simp)) (ead_cons (ed_tup (ead_cons ev_c.str (ead_cons ev_c.str ead_nil)) (by simp)) ead_nil)) (by simp)) fits_wide (by decide +kernel) (by decide +kernel) wide_2) ead_nil)) (by simp)) g2.sub fun R zs F3 H3 g3 R0 Rf hR pz => ?_
  have R00 : H R = none := g12.back R0
  have zl : zs.length ≤ 50000 := by rw [dpa_length pz]; decide
  refine q_app (i := 3) (d := .bool false) rfl (g12.trans g3) R00 Rf hR zl (ed_isp (x := lotsD [["a", "b"], ["c"], ["d"]]) (ed_var rfl (dp_mono g3.ff p2)) (ed_var rfl (dp_mono g3.ff p3)) (ed_tup (ead_cons (ed_tup (ead_cons ev_c.str (ead_cons ev_c.str ead_nil)) (by simp)) (ead_cons (ed_tup (ead_cons ev_c.str ead_nil) (by simp)) (ead_cons (ed_tup (ead_cons ev_c.str ead_nil) (by simp)) ead_nil))) (by simp)) fits_wide (by decide +kernel) (by decide +kernel) wide_3) fun z F4 H4 g4 f34 Rf4 hR4 p4 => ?_
  have g5 := g4.freeze R00 hR4
  have pf : Fl K [.list (([["a", "d"], ["b", "c"]] : List (List Str)).map namesD), .bool true, .bool false] (.ref R) (upd F4 R (.lst (zs ++ [z]))) := ⟨R, _, rfl, upd_same, dpa_mono (same_new Rf4) (dpa_snoc (dpa_mono f34 pz) p4)⟩
  generalize upd F4 R (.lst (zs ++ [z])) = F5 at g5 pf
  -- six
  refine q_asg (ed_tup (K := K) (ds := (sixB.rows.take 4).map rowD) (ead_cons (ed_tup (ead_cons ev_c.str (ead_cons (ed_tup ead_nil (by simp)) (ead_cons ev_c.bl ead_nil))) (by simp)) (ead_cons (ed_tup (ead_cons ev_c.str (ead_cons (ed_tup ead_nil (by simp)) (ead_cons ev_c.bl ead_nil))) (by simp)) (ead_cons (ed_tup (ead_cons ev_c.str (ead_cons (ed_tup (ead_cons ev_c.str ead_nil) (by simp)) (ead_cons ev_c.bl ead_nil))) (by simp)) (ead_cons (ed_tup (ead_cons ev_c.str (ead_cons (ed_tup (ead_cons ev_c.str ead_nil) (by simp)) (ead_cons ev_c.bl ead_nil))) (by simp)) ead_nil)))) (by decide)) g5.sub fun r1 F6 H6 g6 p6 => ?_
  refine q_asg (P := fun v F => Dp K F v (.tuple (sixB.rows.map rowD))) (ed_catT (ds := (sixB.rows.take 4).map rowD) (es := (sixB.rows.drop 4).map rowD) (ed_var rfl p6) (ed_tup (ead_cons (ed_tup (ead_cons ev_c.str (ead_cons (ed_tup (ead_cons ev_c.str ead_nil) (by simp)) (ead_cons ev_c.bl ead_nil))) (by simp)) (ead_cons (ed_tup (ead_cons ev_c.str (ead_cons (ed_tup (ead_cons ev_c.str ead_nil) (by simp)) (ead_cons ev_c.bl ead_nil))) (by simp)) (ead_cons (ed_tup (ead_cons ev_c.str (ead_cons (ed_tup (ead_cons ev_c.str ead_nil) (by simp)) (ead_cons ev_c.bl ead_nil))) (by simp)) ead_nil))) (by decide)) (by decide)) g6.sub fun r2 F7 H7 g7 p7 => ?_
  refine q_par (d := blkD sixB) (e := namesD sixO) (ed_tup (ead_cons (ed_var rfl p7) (ead_cons (ed_tup (ead_cons ev_c.str ead_nil) (by decide)) ead_nil)) (by decide)) (ed_tupS ev_c (by decide)) g7.sub fun sv sl F8 H8 g8 p8 p9 => ?_
  have pf8 := mono_fl _ _ _ ((g6.ff.trans g7.ff).trans g8.ff) pf
  have hB : Ed Z K (tCB (rSortD K) (tCons (tCall (sp28 Z K) [] E0 (tCons (tVar 4) (tCons (tVar 2) tNil))) tNil)) [some r2, some bv, some sl, some (.ref R), some sv, none] F8 (.list (([["a", "e", "f"], ["b", "c", "d"]] : List (List Str)).map namesD)) := by
    rw [← six_1]
    exact El.ed (el_sortT (ed_par (ed_var rfl p8) (ed_var rfl p9) fits_six rfl) (.inr rfl) (sort_lots ne2))
  refine q_asg (El.fl (el_cat (es_var rfl pf8) (El.fl (el_lst (ead_cons hB ead_nil) (by simp))) (by simp))) g8.sub fun gv F9 H9 g9 p10 => ?_
  refine q_asg (El.fl (el_cat (es_var rfl p10) (El.fl (el_lst (ead_cons (ed_isp (x := lotsD [["b", "c", "e", "f"], ["a"], ["d"]]) (ed_var rfl (dp_mono g9.ff p8)) (ed_var rfl (dp_mono g9.ff p9)) (ed_tup (ead_cons (ed_tup (ead_cons ev_c.str (ead_cons ev_c.str (ead_cons ev_c.str (ead_cons ev_c.str ead_nil)))) (by simp)) (ead_cons (ed_tup (ead_cons ev_c.str ead_nil) (by simp)) (ead_cons (ed_tup (ead_cons ev_c.str ead_nil) (by simp)) ead_nil))) (by simp)) fits_six (by decide +kernel) (by decide +kernel) six_2) ead_nil) (by simp))) (by simp))) g9.sub fun gw F10 H10 g10 p11 => ?_
  have gg := ((((((g5.trans g6).trans g7).trans g8).trans g9).trans g10))
  have hdue : Ed Z K (tLst (tCons (tLst (tCons (tTup (tCons (tC (.str "a")) (tCons (tC (.str "d")) tNil))) (tCons (tTup (tCons (tC (.str "b")) (tCons (tC (.str "c")) tNil))) tNil))) (tCons (tC (.bl true)) (tCons (tC (.bl false)) (tCons (tLst (tCons (tTup (tCons (tC (.str "a")) (tCons (tC (.str "e")) (tCons (tC (.str "f")) tNil)))) (tCons (tTup (tCons (tC (.str "b")) (tCons (tC (.str "c")) (tCons (tC (.str "d")) tNil)))) tNil))) (tCons (tC (.bl false)) tNil)))))) [some r2, some bv, some sl, some gw, some sv, none] F10 (.list [.list (([["a", "d"], ["b", "c"]] : List (List Str)).map namesD), .bool true, .bool false, .list (([["a", "e", "f"], ["b", "c", "d"]] : List (List Str)).map namesD), .bool false]) :=
    ed_lst (ead_cons (ed_lst (ead_cons (ed_tup (ead_cons ev_c.str (ead_cons ev_c.str ead_nil)) (by simp)) (ead_cons (ed_tup (ead_cons ev_c.str (ead_cons ev_c.str ead_nil)) (by simp)) ead_nil)) (by simp)) (ead_cons ev_c.bl (ead_cons ev_c.bl (ead_cons (ed_lst (ead_cons (ed_tup (ead_cons ev_c.str (ead_cons ev_c.str (ead_cons ev_c.str ead_nil))) (by simp)) (ead_cons (ed_tup (ead_cons ev_c.str (ead_cons ev_c.str (ead_cons ev_c.str ead_nil))) (by simp)) ead_nil)) (by simp)) (ead_cons ev_c.bl ead_nil))))) (by simp)
  refine s_ret (P := fun v F => Dp K F v (.bool true)) (ed_call (ead_cons (Es.dp (es_var (P := Fl K [.list (([["a", "d"], ["b", "c"]] : List (List Str)).map namesD), .bool true, .bool false, .list (([["a", "e", "f"], ["b", "c", "d"]] : List (List Str)).map namesD), .bool false]) rfl p11)) (ead_cons hdue ead_nil)) ⟨_, rfl, ?_, rfl⟩) gg.sub fun v F' H' g z => q v F' H' (gg.trans g) z
  decide +kernel
end
end K21

/-! _law_by_hand_right: 47. -/
namespace K21
open PySem PySem.Spec PyProof.Rows L2 RZ
open NdefX (NTab TabsN TabN)
def hSome : List PyData := [lotsD [["a", "d"], ["b"]], lotsD [["b", "d"], ["a"]], lotsD [["a"], ["b", "d"]], lotsD [["b"], ["a", "d"]]]
def hOdd1 : List PyData := [lotsD [["a"], ["b"], ["d"]], lotsD [["a", "b"], ["d"]], lotsD [["a", "d"]]]
def hOdd2 : List PyData := [lotsD [["a", "d"], ["b", "d"]], lotsD []]
def hOdd3 : List PyData := [lotsD [["a", "d"], ["b"], []], .list [namesD ["a", "d"], namesD ["b"]], .tuple [.list [.str "a", .str "d"], namesD ["b"]]]
def hOdd4 : List PyData := [lotsD [["d", "a"], ["b"]]]
def hOdd5 : List PyData := [lotsD [["a", "d"], ["b", "e"]], lotsD [["a", "d"], ["x"]], namesD ["ad", "b"], .tuple [namesD ["a", "d"], .str "b"]]
def hOdd6 : List PyData := [.none, .int 2, .bool true]
def hOdd7 : List PyData := [.tuple [.tuple [namesD ["a"], .str "d"], namesD ["b"]], .tuple [.tuple [.str "a", .none], namesD ["b"]], lotsD [["a", "d"], ["b"], ["b"]]]
def hOdd8 : List PyData := [.str "ab", .tuple [.int 1, .int 2]]
def hOdd : List PyData := hOdd1 ++ hOdd2 ++ hOdd3 ++ hOdd4 ++ hOdd5 ++ hOdd6 ++ hOdd7 ++ hOdd8
theorem fits_kitL : Fits (blkD kitB) kitB (namesD kitL) kitL := fits_by (by decide +kernel) (by decide +kernel) (by decide +kernel)
theorem fits_kitM : Fits (blkD kitB) kitB (namesD kitM) kitM := fits_by (by decide +kernel) (by decide +kernel) (by decide +kernel)
theorem some_true : hSome.map (isPartedD kitB kitL) = List.replicate 4 true := by decide +kernel
theorem odd_false : hOdd.map (isPartedD kitB kitL) = List.replicate hOdd.length false := by decide +kernel
theorem odd_ok : hOdd.all (fun d => okD 11 d && fewP d) = true := by decide +kernel
theorem some_ok : hSome.all (fun d => okD 11 d && fewP d) = true := by decide +kernel
def freeB : Blk := ⟨[⟨"a", [], true⟩, ⟨"b", [], true⟩, ⟨"c", [], true⟩, ⟨"d", [], true⟩, ⟨"e", [], true⟩, ⟨"f", [], true⟩, ⟨"g", [], true⟩, ⟨"h", [], true⟩], ["a", "b", "c", "d", "e", "f", "g", "h"]⟩
def chainB : Blk := ⟨[⟨"a", [], true⟩, ⟨"b", ["a"], true⟩, ⟨"c", ["b"], true⟩, ⟨"d", ["c"], true⟩, ⟨"e", ["d"], true⟩, ⟨"f", ["e"], true⟩, ⟨"g", ["f"], true⟩, ⟨"h", ["g"], true⟩], ["h"]⟩
def tagsO : List Str := ["a", "b", "c", "d", "e", "f", "g", "h"]
def deadB : Blk := ⟨freeB.rows, []⟩
def noB : Blk := ⟨[], []⟩
theorem fits_free : Fits (blkD freeB) freeB (namesD tagsO) tagsO := fits_by (by decide +kernel) (by decide +kernel) (by decide +kernel)
theorem fits_chain : Fits (blkD chainB) chainB (namesD tagsO) tagsO := fits_by (by decide +kernel) (by decide +kernel) (by decide +kernel)
theorem fits_dead : Fits (blkD deadB) deadB (namesD tagsO) tagsO := fits_by (by decide +kernel) (by decide +kernel) (by decide +kernel)
theorem fits_no : Fits (blkD noB) noB (namesD []) [] := fits_by (by decide +kernel) (by decide +kernel) (by decide +kernel)
theorem back_1 : isPartedD kitB kitL (lotsD (partedS kitB kitL)) = true := by decide +kernel
theorem back_2 : isPartedD kitB kitM (lotsD (partedS kitB kitM)) = true := by decide +kernel
theorem back_3 : isPartedD kitB kitM (lotsD [["b", "d"], ["a"]]) = true := by decide +kernel
theorem free_1 : sortT (partedS freeB tagsO) = tagsO.map fun x => [x] := by decide +kernel
theorem chain_1 : partedS chainB tagsO = [tagsO] := by decide +kernel
theorem dead_1 : partedS deadB tagsO = [] := by decide +kernel
theorem no_1 : partedS noB [] = [] := by decide +kernel
theorem chain_2 : isPartedD chainB tagsO (lotsD [tagsO.take 4, tagsO.drop 4]) = false := by decide +kernel
theorem no_2 : isPartedD noB [] (lotsD []) = true := by decide +kernel
theorem free_2 : isPartedD freeB tagsO (lotsD []) = false := by decide +kernel
theorem two_1 : (partedS kitB kitL).length = 2 := by decide +kernel
def accO : List Str := ["a", "c", "b", "d", "e"]
theorem misfit_acc : Misfit (blkD kitB) kitB (namesD accO) accO := misfit_by (by decide +kernel) (by decide +kernel) (by decide +kernel)
end K21

/-! _law_by_hand_right: 47, what the walk wants beside. -/
namespace K21
open PySem PySem.Spec PyProof.Rows L2 RZ
open NdefX (NTab TabsN TabN)
section
variable {Z : List NTab} {K : PySem.W.Frag} {σ : St} {F H : Hp} {ta tb : TE} {d e : PyData} {i j : Nat} {t : TS} {D : Ends}
theorem dpa_rev {vs : List V} {ds : List PyData} (h : DpAll K F vs ds) : DpAll K F vs.reverse ds.reverse := by
  induction ds generalizing vs with
  | nil =>
    cases h
    exact .nil
  | cons d ds ih =>
    cases h with
    | cons h1 h2 =>
      rw [List.reverse_cons, List.reverse_cons]
      exact dpa_snoc (ih h2) h1
theorem st_to {σ' : St} (e : σ' = σ) (h : t D σ' H) : t D σ H := e ▸ h
/-- a call by keywords, all the parameters, the last first -/
theorem ed_turned {R : List PyData → PyData → Prop} {tk : TA} {ds : List PyData} {r : PyData} {E : XK} (h : Ea Z tk σ F fun vs F => DpAll K F vs ds) (hr : R ds.reverse r) : Ed Z K (tTurned (spD Z K R) E tk) σ F r := fun H s Q q =>
  h H s _ fun vs F1 H1 g p => ⟨F1, ds.reverse, r, g.sub, dpa_rev p, hr, fun v F2 H2 g2 p2 => q v F2 H2 (g.trans g2) p2⟩
theorem ev_more {m n : Int} (ha : Ev Z ta σ F (.int m)) (hb : Ev Z tb σ F (.int n)) : Ev Z (tCB (fun xs H Q => ∃ i j, xs = [.int i, .int j] ∧ Q (.int (if j > i then j else i)) H) (tCons ta (tCons tb tNil))) σ F (.int (if n > m then n else m)) := fun H s Q q =>
  ha H s _ fun H1 e1 => hb H1 (s.up e1) _ fun H2 e2 => ⟨m, n, rfl, q H2 (e1.trans e2)⟩
end
theorem rep_flat {α : Type} (x : α) : ∀ n : Nat, (List.replicate n [x]).flatten = List.replicate n x
  | 0 => rfl
  | n + 1 => by rw [List.replicate_succ, List.replicate_succ, List.flatten_cons, rep_flat x n]; rfl
theorem some_bools : (hSome.map fun d => PyData.bool (isPartedD kitB kitL d)) = List.replicate 4 (PyData.bool true) := by
  have z := congrArg (List.map PyData.bool) some_true
  rw [List.map_map, List.map_replicate] at z
  exact z
theorem odd_bools : (hOdd.map fun d => PyData.bool (isPartedD kitB kitL d)) = List.replicate hOdd.length (PyData.bool false) := by
  have z := congrArg (List.map PyData.bool) odd_false
  rw [List.map_map, List.map_replicate] at z
  exact z
theorem kit_back : tupl (lstD (blkD kitB)) = blkD kitB := by
  simp [blkD, kitB, rowD, namesD, lstD, lstAll, tupl, tuplAll]
theorem fits_turn : Fits (lstD (blkD kitB)) kitB (.list (kitL.map .str)) kitL :=
  ⟨⟨by decide +kernel, kit_back, fits_kitL.blk.few, fits_kitL.blk.rds, fits_kitL.blk.lives, fits_kitL.blk.nms⟩, fits_kitL.nd, .inl rfl, by decide +kernel, fits_kitL.few, fits_kitL.short, fits_kitL.ord⟩
theorem kit_small : okT 11 (blkD kitB) = true := by decide +kernel
theorem free_full : ∀ l ∈ partedS freeB tagsO, l ≠ [] := by decide +kernel
/-- what the second half of the answers is -/
def hMid : List PyData := [.list ((tagsO.map fun x => [x]).map namesD), lotsD [tagsO], lotsD []]
def hOrd : PyData := .list [.str "order", .bool true]
def hAll : List PyData := [.list (List.replicate 4 (PyData.bool true)), .list (List.replicate hOdd.length (PyData.bool false)), .list [.bool true, .bool true], .bool true] ++ (hMid ++ [lotsD [], .bool false, .bool true, .bool false, hOrd, hOrd, hOrd, .bool true, .int 2])
theorem all_small : okS 11 (.list hAll) = true := by decide +kernel
end K21

/-! _law_by_hand_right: 47, the walk. -/
namespace K21
open PySem PySem.Spec PyProof.Rows L2 RZ
open NdefX (NTab TabsN TabN)
section
variable {P : Program} {w : World} {K : PySem.W.Frag} {mg : Str → Option Value} {base : Heap} {fa : Nat → Addr} {fd : Nat → FuncData} {tl : Nat → Tok} {Z : List NTab}
theorem ok47 (T : Top K mg fa fd tl) (G28 : FnOk P w K mg base CX0 18 (fa 28) (fd 28) ["block", "order"] (sp28 Z K)) (G29 : FnOk P w K mg base CX0 20 (fa 29) (fd 29) ["block", "order", "thing"] (sp29 Z K)) (G36 : FnOk P w K mg base CX0 12 (fa 36) (fd 36) ["_law_got", "_law_due"] (sp36 Z K 11)) (G37 : FnOk P w K mg base CX0 12 (fa 37) (fd 37) ["_law_matter"] (sp37 Z K 11)) (G45 : FnOk P w K mg base CX0 1 (fa 45) (fd 45) [] (sp45 Z K)) (G46 : FnOk P w K mg base CX0 21 (fa 46) (fd 46) ["_law_kit_here", "_law_line_so", "_law_odd_so"] (sp46 Z K)) (G48 : FnOk P w K mg base CX0 21 (fa 48) (fd 48) [] (sp48 Z K)) : FnOk P w K mg base CX0 22 (fa 47) (fd 47) [] (sp47 Z K) := by
  refine T.F47.ok sc47 (fun vs H Q E h => len47 h) (fun cdv A outer s0 H vs Q E hr h => ?_)
  refine ⟨_, (pss_cons (ps_asg (pe_call0 G45 (hr.mono (by decide)) (by rfl) T.g45 T.F45.kp T.b45 .nil pass0) (kg_tup (n := 3) K (by rfl) rfl (pgs_cons (pg_name (i := 0) nd47 rfl (Or.inr rfl)) (pgs_cons (pg_name (i := 1) nd47 rfl (Or.inr rfl)) (pgs_cons (pg_name (i := 2) nd47 rfl (Or.inl rfl)) pgs_nil)))))
  (pss_cons (ps_set (i := 3) nd47 rfl (Or.inl rfl) (pe_lst (pa_cons (pe_tup (pa_cons (pe_tup (pa_cons pe_str (pa_cons pe_str pa_nil))) (pa_cons (pe_tup (pa_cons pe_str pa_nil)) pa_nil))) (pa_cons (pe_tup (pa_cons (pe_tup (pa_cons pe_str (pa_cons pe_str pa_nil))) (pa_cons (pe_tup (pa_cons pe_str pa_nil)) pa_nil))) (pa_cons (pe_tup (pa_cons (pe_tup (pa_cons pe_str pa_nil)) (pa_cons (pe_tup (pa_cons pe_str (pa_cons pe_str pa_nil))) pa_nil))) (pa_cons (pe_tup (pa_cons (pe_tup (pa_cons pe_str pa_nil)) (pa_cons (pe_tup (pa_cons pe_str (pa_cons pe_str pa_nil))) pa_nil))) pa_nil))))))
  (pss_cons (ps_set (i := 4) nd47 rfl (Or.inl rfl) (pe_lst (pa_cons (pe_tup (pa_cons (pe_tup (pa_cons pe_str pa_nil)) (pa_cons (pe_tup (pa_cons pe_str pa_nil)) (pa_cons (pe_tup (pa_cons pe_str pa_nil)) pa_nil)))) (pa_cons (pe_tup (pa_cons (pe_tup (pa_cons pe_str (pa_cons pe_str pa_nil))) (pa_cons (pe_tup (pa_cons pe_str pa_nil)) pa_nil))) (pa_cons (pe_tup (pa_cons (pe_tup (pa_cons pe_str (pa_cons pe_str pa_nil))) pa_nil)) pa_nil)))))
  (pss_cons (ps_set (i := 4) nd47 rfl (Or.inl rfl) (pe_op op_cat (pv 4) (pe_lst (pa_cons (pe_tup (pa_cons (pe_tup (pa_cons pe_str (pa_cons pe_str pa_nil))) (pa_cons (pe_tup (pa_cons pe_str (pa_cons pe_str pa_nil))) pa_nil))) (pa_cons (pe_tup pa_nil) pa_nil)))))
  (pss_cons (ps_set (i := 4) nd47 rfl (Or.inl rfl) (pe_op op_cat (pv 4) (pe_lst (pa_cons (pe_tup (pa_cons (pe_tup (pa_cons pe_str (pa_cons pe_str pa_nil))) (pa_cons (pe_tup (pa_cons pe_str pa_nil)) (pa_cons (pe_tup pa_nil) pa_nil)))) (pa_cons (pe_lst (pa_cons (pe_tup (pa_cons pe_str (pa_cons pe_str pa_nil))) (pa_cons (pe_tup (pa_cons pe_str pa_nil)) pa_nil))) (pa_cons (pe_tup (pa_cons (pe_lst (pa_cons pe_str (pa_cons pe_str pa_nil))) (pa_cons (pe_tup (pa_cons pe_str pa_nil)) pa_nil))) pa_nil))))))
  (pss_cons (ps_set (i := 4) nd47 rfl (Or.inl rfl) (pe_op op_cat (pv 4) (pe_lst (pa_cons (pe_tup (pa_cons (pe_tup (pa_cons pe_str (pa_cons pe_str pa_nil))) (pa_cons (pe_tup (pa_cons pe_str pa_nil)) pa_nil))) pa_nil))))
  (pss_cons (ps_set (i := 4) nd47 rfl (Or.inl rfl) (pe_op op_cat (pv 4) (pe_lst (pa_cons (pe_tup (pa_cons (pe_tup (pa_cons pe_str (pa_cons pe_str pa_nil))) (pa_cons (pe_tup (pa_cons pe_str (pa_cons pe_str pa_nil))) pa_nil))) (pa_cons (pe_tup (pa_cons (pe_tup (pa_cons pe_str (pa_cons pe_str pa_nil))) (pa_cons (pe_tup (pa_cons pe_str pa_nil)) pa_nil))) (pa_cons (pe_tup (pa_cons pe_str (pa_cons pe_str pa_nil))) (pa_cons (pe_tup (pa_cons (pe_tup (pa_cons pe_str (pa_cons pe_str pa_nil))) (pa_cons pe_str pa_nil))) pa_nil)))))))
  (pss_cons (ps_set (i := 4) nd47 rfl (Or.inl rfl) (pe_op op_cat (pv 4) (pe_lst (pa_cons pe_non (pa_cons pe_int (pa_cons pe_bl pa_nil))))))
  (pss_cons (ps_set (i := 4) nd47 rfl (Or.inl rfl) (pe_op op_cat (pv 4) (pe_lst (pa_cons (pe_tup (pa_cons (pe_tup (pa_cons (pe_tup (pa_cons pe_str pa_nil)) (pa_cons pe_str pa_nil))) (pa_cons (pe_tup (pa_cons pe_str pa_nil)) pa_nil))) (pa_cons (pe_tup (pa_cons (pe_tup (pa_cons pe_str (pa_cons pe_non pa_nil))) (pa_cons (pe_tup (pa_cons pe_str pa_nil)) pa_nil))) (pa_cons (pe_tup (pa_cons (pe_tup (pa_cons pe_str (pa_cons pe_str pa_nil))) (pa_cons (pe_tup (pa_cons pe_str pa_nil)) (pa_cons (pe_tup (pa_cons pe_str pa_nil)) pa_nil)))) pa_nil))))))
  (pss_cons (ps_set (i := 4) nd47 rfl (Or.inl rfl) (pe_op op_cat (pv 4) (pe_lst (pa_cons pe_str (pa_cons (pe_tup (pa_cons pe_int (pa_cons pe_int pa_nil))) pa_nil)))))
  (pss_cons (ps_set (i := 5) nd47 rfl (Or.inl rfl) (pe_lst (pa_cons (pe_lc (own := [("_law_own", 10)]) (tt := tYes) rfl nd47 (ki_list K (by rfl) (pv 3)) (blkOk_by (N := ["_law_kit_here", "_law_line_so", "_law_back_so", "_law_some_so", "_law_odd_so", "_law_got", "_law_due", "_law_tags", "_law_free_so", "_law_chain_so", "_law_own", "_law_tag", "_law_k"]) (sc := (defScope s47)) (own := [("_law_own", 10)]) (by decide +kernel)) (fun _ _ _ _ _ => (pg_name (i := 10) nd47 rfl (Or.inl rfl))) (fun _ _ _ _ _ => pts_nil) (fun _ _ _ _ _ => (pe_call G29 (hr.mono (by decide)) (by rfl) T.g29 T.F29.kp T.b29 .nil pass0 (pa_cons (pv 0) (pa_cons (pv 1) (pa_cons (pv 10) pa_nil)))))) (pa_cons (pe_lc (own := [("_law_own", 10)]) (tt := tYes) rfl nd47 (ki_list K (by rfl) (pv 4)) (blkOk_by (N := ["_law_kit_here", "_law_line_so", "_law_back_so", "_law_some_so", "_law_odd_so", "_law_got", "_law_due", "_law_tags", "_law_free_so", "_law_chain_so", "_law_own", "_law_tag", "_law_k"]) (sc := (defScope s47)) (own := [("_law_own", 10)]) (by decide +kernel)) (fun _ _ _ _ _ => (pg_name (i := 10) nd47 rfl (Or.inl rfl))) (fun _ _ _ _ _ => pts_nil) (fun _ _ _ _ _ => (pe_call G29 (hr.mono (by decide)) (by rfl) T.g29 T.F29.kp T.b29 .nil pass0 (pa_cons (pv 0) (pa_cons (pv 1) (pa_cons (pv 10) pa_nil)))))) pa_nil))))
  (pss_cons (ps_set (i := 6) nd47 rfl (Or.inl rfl) (pe_lst (pa_cons (pe_op op_rep (pe_lst (pa_cons pe_bl pa_nil)) pe_int) (pa_cons (pe_op op_rep (pe_lst (pa_cons pe_bl pa_nil)) (pe_callB (kc_len K) (by rfl) T.m_len bt_len (pa_cons (pv 4) pa_nil))) pa_nil))))
  (pss_cons (ps_set (i := 5) nd47 rfl (Or.inl rfl) (pe_op op_cat (pv 5) (pe_lst (pa_cons (pe_lc (own := [("_law_own", 10)]) (tt := tYes) rfl nd47 (ki_tup K (by rfl) (pe_tup (pa_cons (pv 1) (pa_cons (pv 2) pa_nil)))) (blkOk_by (N := ["_law_kit_here", "_law_line_so", "_law_back_so", "_law_some_so", "_law_odd_so", "_law_got", "_law_due", "_law_tags", "_law_free_so", "_law_chain_so", "_law_own", "_law_tag", "_law_k"]) (sc := (defScope s47)) (own := [("_law_own", 10)]) (by decide +kernel)) (fun _ _ _ _ _ => (pg_name (i := 10) nd47 rfl (Or.inl rfl))) (fun _ _ _ _ _ => pts_nil) (fun _ _ _ _ _ => (pe_call G29 (hr.mono (by decide)) (by rfl) T.g29 T.F29.kp T.b29 .nil pass0 (pa_cons (pv 0) (pa_cons (pv 10) (pa_cons (pe_call G28 (hr.mono (by decide)) (by rfl) T.g28 T.F28.kp T.b28 .nil pass0 (pa_cons (pv 0) (pa_cons (pv 10) pa_nil))) pa_nil)))))) (pa_cons (pe_call G29 (hr.mono (by decide)) (by rfl) T.g29 T.F29.kp T.b29 .nil pass0 (pa_cons (pv 0) (pa_cons (pv 2) (pa_cons (pe_ix (kx_list K) (pv 3) pe_int (fun _ _ => rfl)) pa_nil)))) pa_nil)))))
  (pss_cons (ps_set (i := 6) nd47 rfl (Or.inl rfl) (pe_op op_cat (pv 6) (pe_lst (pa_cons (pe_lst (pa_cons pe_bl (pa_cons pe_bl pa_nil))) (pa_cons pe_bl pa_nil)))))
  (pss_cons (ps_set (i := 7) nd47 rfl (Or.inr rfl) (pe_callTy (kc_tupS rfl) (by rfl) T.m_tuple bt_tuple (pa_cons pe_str pa_nil)))
  (pss_cons (ps_set (i := 8) nd47 rfl (Or.inl rfl) (pe_tup (pa_cons (pe_callTy (kc_tupOf K) (by rfl) T.m_tuple bt_tuple (pa_cons (pe_lc (own := [("_law_tag", 11)]) (tt := tYes) rfl nd47 (ki_tup K (by rfl) (pv 7)) (blkOk_by (N := ["_law_kit_here", "_law_line_so", "_law_back_so", "_law_some_so", "_law_odd_so", "_law_got", "_law_due", "_law_tags", "_law_free_so", "_law_chain_so", "_law_own", "_law_tag", "_law_k"]) (sc := (defScope s47)) (own := [("_law_tag", 11)]) (by decide +kernel)) (fun _ _ _ _ _ => (pg_name (i := 11) nd47 rfl (Or.inl rfl))) (fun _ _ _ _ _ => pts_nil) (fun _ _ _ _ _ => (pe_tup (pa_cons (pv 11) (pa_cons (pe_tup pa_nil) (pa_cons pe_bl pa_nil)))))) pa_nil)) (pa_cons (pv 7) pa_nil))))
  (pss_cons (ps_set (i := 9) nd47 rfl (Or.inl rfl) (pe_tup (pa_cons (pe_callTy (kc_tupOf K) (by rfl) T.m_tuple bt_tuple (pa_cons (pe_lc (own := [("_law_k", 12), ("_law_tag", 11)]) (tt := tYes) rfl nd47 (ki_enumT K (by rfl) (by rfl) T.m_enumerate (pa_cons (pv 7) pa_nil)) (blkOk_by (N := ["_law_kit_here", "_law_line_so", "_law_back_so", "_law_some_so", "_law_odd_so", "_law_got", "_law_due", "_law_tags", "_law_free_so", "_law_chain_so", "_law_own", "_law_tag", "_law_k"]) (sc := (defScope s47)) (own := [("_law_k", 12), ("_law_tag", 11)]) (by decide +kernel)) (fun _ _ _ _ _ => (kg_tup (n := 2) K (by rfl) rfl (pgs_cons (pg_name (i := 12) nd47 rfl (Or.inl rfl)) (pgs_cons (pg_name (i := 11) nd47 rfl (Or.inl rfl)) pgs_nil)))) (fun _ _ _ _ _ => pts_nil) (fun _ _ _ _ _ => (pe_tup (pa_cons (pv 11) (pa_cons (pe_callTy (kc_tupOf K) (by rfl) T.m_tuple bt_tuple (pa_cons (pe_slice (kl_tup K) (pv 7) (po_some (pe_callB (call_max2 rfl) (by rfl) T.m_max bt_max (pa_cons (pe_op op_sub (pv 12) pe_int) (pa_cons pe_int pa_nil)))) (po_some (pv 12))) pa_nil)) (pa_cons pe_bl pa_nil)))))) pa_nil)) (pa_cons (pe_tup (pa_cons pe_str pa_nil)) pa_nil))))
  (pss_cons (ps_set (i := 5) nd47 rfl (Or.inl rfl) (pe_op op_cat (pv 5) (pe_lst (pa_cons (pe_callB (kc_sortD K (by rfl) hr.units) (by rfl) T.m_sorted bt_sorted (pa_cons (pe_call G28 (hr.mono (by decide)) (by rfl) T.g28 T.F28.kp T.b28 .nil pass0 (pa_cons (pv 8) (pa_cons (pv 7) pa_nil))) pa_nil)) (pa_cons (pe_call G28 (hr.mono (by decide)) (by rfl) T.g28 T.F28.kp T.b28 .nil pass0 (pa_cons (pv 9) (pa_cons (pv 7) pa_nil))) (pa_cons (pe_call G28 (hr.mono (by decide)) (by rfl) T.g28 T.F28.kp T.b28 .nil pass0 (pa_cons (pe_tup (pa_cons (pe_ix (kx_tup K) (pv 8) pe_int (fun _ _ => rfl)) (pa_cons (pe_tup pa_nil) pa_nil))) (pa_cons (pv 7) pa_nil))) pa_nil))))))
  (pss_cons (ps_set (i := 5) nd47 rfl (Or.inl rfl) (pe_op op_cat (pv 5) (pe_lst (pa_cons (pe_call G28 (hr.mono (by decide)) (by rfl) T.g28 T.F28.kp T.b28 .nil pass0 (pa_cons (pe_tup (pa_cons (pe_tup pa_nil) (pa_cons (pe_tup pa_nil) pa_nil))) (pa_cons (pe_tup pa_nil) pa_nil))) pa_nil))))
  (pss_cons (ps_set (i := 6) nd47 rfl (Or.inl rfl) (pe_op op_cat (pv 6) (pe_lst (pa_cons (pe_lc (own := [("_law_tag", 11)]) (tt := tYes) rfl nd47 (ki_tup K (by rfl) (pv 7)) (blkOk_by (N := ["_law_kit_here", "_law_line_so", "_law_back_so", "_law_some_so", "_law_odd_so", "_law_got", "_law_due", "_law_tags", "_law_free_so", "_law_chain_so", "_law_own", "_law_tag", "_law_k"]) (sc := (defScope s47)) (own := [("_law_tag", 11)]) (by decide +kernel)) (fun _ _ _ _ _ => (pg_name (i := 11) nd47 rfl (Or.inl rfl))) (fun _ _ _ _ _ => pts_nil) (fun _ _ _ _ _ => (pe_tup (pa_cons (pv 11) pa_nil)))) (pa_cons (pe_tup (pa_cons (pv 7) pa_nil)) (pa_cons (pe_tup pa_nil) (pa_cons (pe_tup pa_nil) pa_nil)))))))
  (pss_cons (ps_set (i := 5) nd47 rfl (Or.inl rfl) (pe_op op_cat (pv 5) (pe_lst (pa_cons (pe_call G29 (hr.mono (by decide)) (by rfl) T.g29 T.F29.kp T.b29 .nil pass0 (pa_cons (pv 9) (pa_cons (pv 7) (pa_cons (pe_tup (pa_cons (pe_slice (kl_tup K) (pv 7) po_none (po_some pe_int)) (pa_cons (pe_slice (kl_tup K) (pv 7) (po_some pe_int) po_none) pa_nil))) pa_nil)))) (pa_cons (pe_call G29 (hr.mono (by decide)) (by rfl) T.g29 T.F29.kp T.b29 .nil pass0 (pa_cons (pe_tup (pa_cons (pe_tup pa_nil) (pa_cons (pe_tup pa_nil) pa_nil))) (pa_cons (pe_tup pa_nil) (pa_cons (pe_tup pa_nil) pa_nil)))) pa_nil)))))
  (pss_cons (ps_set (i := 5) nd47 rfl (Or.inl rfl) (pe_op op_cat (pv 5) (pe_lst (pa_cons (pe_call G29 (hr.mono (by decide)) (by rfl) T.g29 T.F29.kp T.b29 .nil pass0 (pa_cons (pv 8) (pa_cons (pv 7) (pa_cons (pe_tup pa_nil) pa_nil)))) pa_nil))))
  (pss_cons (ps_set (i := 6) nd47 rfl (Or.inl rfl) (pe_op op_cat (pv 6) (pe_lst (pa_cons pe_bl (pa_cons pe_bl (pa_cons pe_bl pa_nil))))))
  (pss_cons (ps_set (i := 5) nd47 rfl (Or.inl rfl) (pe_op op_cat (pv 5) (pe_lc (own := [("_law_own", 10)]) (tt := tYes) rfl nd47 (ki_tup K (by rfl) (pe_tup (pa_cons pe_non (pa_cons (pe_tup pa_nil) (pa_cons pe_int pa_nil))))) (blkOk_by (N := ["_law_kit_here", "_law_line_so", "_law_back_so", "_law_some_so", "_law_odd_so", "_law_got", "_law_due", "_law_tags", "_law_free_so", "_law_chain_so", "_law_own", "_law_tag", "_law_k"]) (sc := (defScope s47)) (own := [("_law_own", 10)]) (by decide +kernel)) (fun _ _ _ _ _ => (pg_name (i := 10) nd47 rfl (Or.inl rfl))) (fun _ _ _ _ _ => pts_nil) (fun _ _ _ _ _ => (pe_call G46 (hr.mono (by decide)) (by rfl) T.g46 T.F46.kp T.b46 .nil pass0 (pa_cons (pv 0) (pa_cons (pe_callTy (kc_tupS rfl) (by rfl) T.m_tuple bt_tuple (pa_cons pe_str pa_nil)) (pa_cons (pv 10) pa_nil))))))))
  (pss_cons (ps_set (i := 5) nd47 rfl (Or.inl rfl) (pe_op op_cat (pv 5) (pe_lst (pa_cons (pe_turned G29 (hr.mono (by decide)) (by rfl) T.g29 T.F29.kp T.t29 pass0 (pk_cons (pe_ix (kx_list K) (pv 3) pe_int (fun _ _ => rfl)) (pk_cons (pe_callTy (kc_listOf K) (by rfl) T.m_list bt_list (pa_cons (pv 1) pa_nil)) (pk_cons (pe_call G37 (hr.mono (by decide)) (by rfl) T.g37 T.F37.kp T.b37 .nil pass0 (pa_cons (pv 0) pa_nil)) pk_nil)))) pa_nil))))
  (pss_cons (ps_expr (ke_bm K (by rfl) PySem.F.plainAttrs_list PySem.F.slot_list_append PySem.F.type_list_append mt_append (pv 5) (pa_cons (pe_callB (kc_len K) (by rfl) T.m_len bt_len (pa_cons (pe_turned G28 (hr.mono (by decide)) (by rfl) T.g28 T.F28.kp T.t28 pass0 (pk_cons (pe_callTy (kc_listOf K) (by rfl) T.m_list bt_list (pa_cons (pv 1) pa_nil)) (pk_cons (pe_call G37 (hr.mono (by decide)) (by rfl) T.g37 T.F37.kp T.b37 .nil pass0 (pa_cons (pv 0) pa_nil)) pk_nil))) pa_nil)) pa_nil)))
  (pss_one (ps_ret (pe_and (pe_call G36 (hr.mono (by decide)) (by rfl) T.g36 T.F36.kp T.b36 .nil pass0 (pa_cons (pv 5) (pa_cons (pe_op op_cat (pe_op op_cat (pv 6) (pe_op op_rep (pe_lst (pa_cons (pe_lst (pa_cons pe_str (pa_cons pe_bl pa_nil))) pa_nil)) pe_int)) (pe_lst (pa_cons pe_bl (pa_cons pe_int pa_nil)))) pa_nil))) (pe_one (pe_call0 G48 (hr.mono (by decide)) (by rfl) T.g48 T.F48.kp T.b48 .nil pass0))))))))))))))))))))))))))))))), ?_⟩
  obtain ⟨F, _, _, s, pd, ⟨rfl, rfl⟩, q⟩ := h
  cases pd
  refine ed_call (E := E0) (σ := L2.start ["_law_kit_here", "_law_line_so", "_law_back_so", "_law_some_so", "_law_odd_so", "_law_got", "_law_due", "_law_tags", "_law_free_so", "_law_chain_so", "_law_own", "_law_tag", "_law_k"] []) (K := K) (r := .tuple [blkD kitB, namesD kitL, namesD kitM]) ead_nil ⟨rfl, rfl⟩ H s _ fun v F1 H1 g1 p1 => g_triple p1 g1.sub fun kv lv mv pk pl pm => ?_
  refine q_asg (P := Fl K hSome) (El.fl (el_lst (ead_cons (ed_tup (ead_cons (ed_tup (ead_cons ev_c.str (ead_cons ev_c.str ead_nil)) (by simp)) (ead_cons (ed_tup (ead_cons ev_c.str ead_nil) (by simp)) ead_nil)) (by simp)) (ead_cons (ed_tup (ead_cons (ed_tup (ead_cons ev_c.str (ead_cons ev_c.str ead_nil)) (by simp)) (ead_cons (ed_tup (ead_cons ev_c.str ead_nil) (by simp)) ead_nil)) (by simp)) (ead_cons (ed_tup (ead_cons (ed_tup (ead_cons ev_c.str ead_nil) (by simp)) (ead_cons (ed_tup (ead_cons ev_c.str (ead_cons ev_c.str ead_nil)) (by simp)) ead_nil)) (by simp)) (ead_cons (ed_tup (ead_cons (ed_tup (ead_cons ev_c.str ead_nil) (by simp)) (ead_cons (ed_tup (ead_cons ev_c.str (ead_cons ev_c.str ead_nil)) (by simp)) ead_nil)) (by simp)) ead_nil)))) (by decide))) g1.sub fun sv F2 H2 g2 p2 => ?_
  refine q_asg (P := Fl K hOdd1) (El.fl (el_lst (ead_cons (ed_tup (ead_cons (ed_tup (ead_cons ev_c.str ead_nil) (by simp)) (ead_cons (ed_tup (ead_cons ev_c.str ead_nil) (by simp)) (ead_cons (ed_tup (ead_cons ev_c.str ead_nil) (by simp)) ead_nil))) (by simp)) (ead_cons (ed_tup (ead_cons (ed_tup (ead_cons ev_c.str (ead_cons ev_c.str ead_nil)) (by simp)) (ead_cons (ed_tup (ead_cons ev_c.str ead_nil) (by simp)) ead_nil)) (by simp)) (ead_cons (ed_tup (ead_cons (ed_tup (ead_cons ev_c.str (ead_cons ev_c.str ead_nil)) (by simp)) ead_nil) (by simp)) ead_nil))) (by decide))) g2.sub fun o1 F3 H3 g3 p3 => ?_
  refine q_asg (P := Fl K (hOdd1 ++ hOdd2)) (El.fl (el_cat (es := hOdd2) (es_var rfl p3) (El.fl (el_lst (ead_cons (ed_tup (ead_cons (ed_tup (ead_cons ev_c.str (ead_cons ev_c.str ead_nil)) (by simp)) (ead_cons (ed_tup (ead_cons ev_c.str (ead_cons ev_c.str ead_nil)) (by simp)) ead_nil)) (by simp)) (ead_cons (ed_tup ead_nil (by simp)) ead_nil)) (by decide))) (by decide))) g3.sub fun o2 F4 H4 g4 p4 => ?_
  refine q_asg (P := Fl K ((hOdd1 ++ hOdd2) ++ hOdd3)) (El.fl (el_cat (es := hOdd3) (es_var rfl p4) (El.fl (el_lst (ead_cons (ed_tup (ead_cons (ed_tup (ead_cons ev_c.str (ead_cons ev_c.str ead_nil)) (by simp)) (ead_cons (ed_tup (ead_cons ev_c.str ead_nil) (by simp)) (ead_cons (ed_tup ead_nil (by simp)) ead_nil))) (by simp)) (ead_cons (ed_lst (ead_cons (ed_tup (ead_cons ev_c.str (ead_cons ev_c.str ead_nil)) (by simp)) (ead_cons (ed_tup (ead_cons ev_c.str ead_nil) (by simp)) ead_nil)) (by simp)) (ead_cons (ed_tup (ead_cons (ed_lst (ead_cons ev_c.str (ead_cons ev_c.str ead_nil)) (by simp)) (ead_cons (ed_tup (ead_cons ev_c.str ead_nil) (by simp)) ead_nil)) (by simp)) ead_nil))) (by decide))) (by decide))) g4.sub fun o3 F5 H5 g5 p5 => ?_
  refine q_asg (P := Fl K (((hOdd1 ++ hOdd2) ++ hOdd3) ++ hOdd4)) (El.fl (el_cat (es := hOdd4) (es_var rfl p5) (El.fl (el_lst (ead_cons (ed_tup (ead_cons (ed_tup (ead_cons ev_c.str (ead_cons ev_c.str ead_nil)) (by simp)) (ead_cons (ed_tup (ead_cons ev_c.str ead_nil) (by simp)) ead_nil)) (by simp)) ead_nil) (by decide))) (by decide))) g5.sub fun o4 F6 H6 g6 p6 => ?_
  refine q_asg (P := Fl K ((((hOdd1 ++ hOdd2) ++ hOdd3) ++ hOdd4) ++ hOdd5)) (El.fl (el_cat (es := hOdd5) (es_var rfl p6) (El.fl (el_lst (ead_cons (ed_tup (ead_cons (ed_tup (ead_cons ev_c.str (ead_cons ev_c.str ead_nil)) (by simp)) (ead_cons (ed_tup (ead_cons ev_c.str (ead_cons ev_c.str ead_nil)) (by simp)) ead_nil)) (by simp)) (ead_cons (ed_tup (ead_cons (ed_tup (ead_cons ev_c.str (ead_cons ev_c.str ead_nil)) (by simp)) (ead_cons (ed_tup (ead_cons ev_c.str ead_nil) (by simp)) ead_nil)) (by simp)) (ead_cons (ed_tup (ead_cons ev_c.str (ead_cons ev_c.str ead_nil)) (by simp)) (ead_cons (ed_tup (ead_cons (ed_tup (ead_cons ev_c.str (ead_cons ev_c.str ead_nil)) (by simp)) (ead_cons ev_c.str ead_nil)) (by simp)) ead_nil)))) (by decide))) (by decide))) g6.sub fun o5 F7 H7 g7 p7 => ?_
  refine q_asg (P := Fl K (((((hOdd1 ++ hOdd2) ++ hOdd3) ++ hOdd4) ++ hOdd5) ++ hOdd6)) (El.fl (el_cat (es := hOdd6) (es_var rfl p7) (El.fl (el_lst (ead_cons ev_c.non (ead_cons ev_c.int (ead_cons ev_c.bl ead_nil))) (by decide))) (by decide))) g7.sub fun o6 F8 H8 g8 p8 => ?_
  refine q_asg (P := Fl K ((((((hOdd1 ++ hOdd2) ++ hOdd3) ++ hOdd4) ++ hOdd5) ++ hOdd6) ++ hOdd7)) (El.fl (el_cat (es := hOdd7) (es_var rfl p8) (El.fl (el_lst (ead_cons (ed_tup (ead_cons (ed_tup (ead_cons (ed_tup (ead_cons ev_c.str ead_nil) (by simp)) (ead_cons ev_c.str ead_nil)) (by simp)) (ead_cons (ed_tup (ead_cons ev_c.str ead_nil) (by simp)) ead_nil)) (by simp)) (ead_cons (ed_tup (ead_cons (ed_tup (ead_cons ev_c.str (ead_cons ev_c.non ead_nil)) (by simp)) (ead_cons (ed_tup (ead_cons ev_c.str ead_nil) (by simp)) ead_nil)) (by simp)) (ead_cons (ed_tup (ead_cons (ed_tup (ead_cons ev_c.str (ead_cons ev_c.str ead_nil)) (by simp)) (ead_cons (ed_tup (ead_cons ev_c.str ead_nil) (by simp)) (ead_cons (ed_tup (ead_cons ev_c.str ead_nil) (by simp)) ead_nil))) (by simp)) ead_nil))) (by decide))) (by decide))) g8.sub fun o7 F9 H9 g9 p9 => ?_
  refine q_asg (P := Fl K (((((((hOdd1 ++ hOdd2) ++ hOdd3) ++ hOdd4) ++ hOdd5) ++ hOdd6) ++ hOdd7) ++ hOdd8)) (El.fl (el_cat (es := hOdd8) (es_var rfl p9) (El.fl (el_lst (ead_cons ev_c.str (ead_cons (ed_tup (ead_cons ev_c.int (ead_cons ev_c.int ead_nil)) (by simp)) ead_nil)) (by decide))) (by decide))) g9.sub fun o8 F10 H10 g10 p10 => ?_
  refine st_to (σ' := [some kv, some lv, some mv, some sv, some o8, none, none, none, none, none, none, none, none]) rfl ?_
  have f2a := ((((((g3.ff.trans g4.ff).trans g5.ff).trans g6.ff).trans g7.ff).trans g8.ff).trans g9.ff).trans g10.ff
  have f1a := g2.ff.trans f2a
  have ga := ((((((((g1.trans g2).trans g3).trans g4).trans g5).trans g6).trans g7).trans g8).trans g9).trans g10
  have ps := mono_fl _ _ _ f2a p2
  have pk := dp_mono f1a pk
  have pl := dp_mono f1a pl
  have pm := dp_mono f1a pm
  have p10 : Fl K hOdd o8 F10 := p10
  clear p3 p4 p5 p6 p7 p8 p9 p2 p1
  have oks : ∀ {ds : List PyData}, ds.all (fun d => okD 11 d && fewP d) = true → ∀ d ∈ ds, okD 11 d = true ∧ fewP d = true := fun h d hd => by
    have := List.all_eq_true.mp h d hd
    rwa [Bool.and_eq_true] at this
  refine q_asg (P := Fl K [.list (hSome.map fun d => .bool (isPartedD kitB kitL d)), .list (hOdd.map fun d => .bool (isPartedD kitB kitL d))]) (El.fl (el_lst (ead_cons (El.ed (el_map (K := K) (fun d => .bool (isPartedD kitB kitL d)) (iw_list (Es.dp (es_var (i := 3) rfl ps))) (by decide) (fun _ => rfl) fun d x Fx hd e t => ?_)) (ead_cons (El.ed (el_map (K := K) (fun d => .bool (isPartedD kitB kitL d)) (iw_list (Es.dp (es_var (i := 4) rfl p10))) (by decide) (fun _ => rfl) fun d x Fx hd e t => ?_)) ead_nil)) (by simp))) ga.sub fun gv1 F11 H11 g11 p11 => ?_
  · obtain ⟨h1, h2⟩ := oks some_ok d hd
    exact ed_isp (ed_var rfl (dp_mono e pk)) (ed_var rfl (dp_mono e pl)) (ed_var rfl t) fits_kitL h1 h2 rfl
  · obtain ⟨h1, h2⟩ := oks odd_ok d hd
    exact ed_isp (ed_var rfl (dp_mono e pk)) (ed_var rfl (dp_mono e pl)) (ed_var rfl t) fits_kitL h1 h2 rfl
  rw [some_bools, odd_bools] at p11
  refine st_to (σ' := [some kv, some lv, some mv, some sv, some o8, some gv1, none, none, none, none, none, none, none]) rfl ?_
  have po := mono_fl _ _ _ g11.ff p10
  have gb := ga.trans g11
  have hlo := ev_lenL (K := K) (Z := Z) (F := F11) (te := tVar 4) (σ := [some kv, some lv, some mv, some sv, some o8, some gv1, none, none, none, none, none, none, none]) (Es.dp (es_var rfl po))
  refine q_asg (P := Fl K [.list (List.replicate 4 [PyData.bool true]).flatten, .list (List.replicate hOdd.length [PyData.bool false]).flatten]) (El.fl (el_lst (ead_cons (El.ed (el_rep (n := 4) (El.fl (el_lst (ead_cons ev_c.bl ead_nil) (by simp))) ev_c (by simp) (by decide))) (ead_cons (El.ed (el_rep (El.fl (el_lst (ead_cons ev_c.bl ead_nil) (by simp))) hlo (by decide) (by decide))) ead_nil)) (by simp))) gb.sub fun dv1 F12 H12 g12 p12 => ?_
  refine st_to (σ' := [some kv, some lv, some mv, some sv, some o8, some gv1, some dv1, none, none, none, none, none, none]) rfl ?_
  rw [rep_flat, rep_flat] at p12
  have pk := dp_mono (g11.ff.trans g12.ff) pk
  have pl := dp_mono (g11.ff.trans g12.ff) pl
  have pm := dp_mono (g11.ff.trans g12.ff) pm
  have ps := mono_fl _ _ _ (g11.ff.trans g12.ff) ps
  have p11 := mono_fl _ _ _ g12.ff p11
  have gc := gb.trans g12
  have fitK : ∀ o ∈ [kitL, kitM], Fits (blkD kitB) kitB (namesD o) o ∧ isPartedD kitB o (lotsD (partedS kitB o)) = true ∧ okD 11 (lotsD (partedS kitB o)) = true ∧ fewP (lotsD (partedS kitB o)) = true := fun o ho => by
    rcases List.mem_cons.mp ho with rfl | ho
    · exact ⟨fits_kitL, back_1, by decide +kernel, by decide +kernel⟩
    · rw [List.mem_singleton.mp ho]
      exact ⟨fits_kitM, back_2, by decide +kernel, by decide +kernel⟩
  refine q_asg (El.fl (el_cat (es := [.list [.bool true, .bool true], .bool true]) (es_var rfl p11) (El.fl (el_lst (ead_cons (El.ed (el_map (K := K) (ls := [kitL, kitM]) (fun _ => .bool true) (IW.of_map (f := namesD) (iw_tup (ds := [namesD kitL, namesD kitM]) (ed_tup (ead_cons (ed_var rfl pl) (ead_cons (ed_var rfl pm) ead_nil)) (by simp)))) (by decide) (fun _ => rfl) fun o x Fx ho e t => ?_)) (ead_cons (ed_isp (x := lotsD [["b", "d"], ["a"]]) (ed_var rfl pk) (ed_var rfl pm) (ed_ixL (j := 1) (Es.dp (es_var (i := 3) rfl ps)) ev_c rfl) fits_kitM (by decide +kernel) (by decide +kernel) back_3) ead_nil)) (by simp))) (by decide))) gc.sub fun gv2 F13 H13 g13 p13 => ?_
  · obtain ⟨h1, h2, h3, h4⟩ := fitK o ho
    exact ed_isp (ed_var rfl (dp_mono e pk)) (ed_var rfl t) (ed_par (ed_var rfl (dp_mono e pk)) (ed_var rfl t) h1 rfl) h1 h3 h4 h2
  have gd := gc.trans g13
  refine st_to (σ' := [some kv, some lv, some mv, some sv, some o8, some gv2, some dv1, none, none, none, none, none, none]) rfl ?_
  have pk := dp_mono g13.ff pk
  have pl := dp_mono g13.ff pl
  have ps := mono_fl _ _ _ g13.ff ps
  have p12 := mono_fl _ _ _ g13.ff p12
  clear pm po p11 hlo fitK
  refine q_asg (El.fl (el_cat (es := [.list [.bool true, .bool true], .bool true]) (es_var rfl p12) (El.fl (el_lst (ead_cons (ed_lst (ead_cons ev_c.bl (ead_cons ev_c.bl ead_nil)) (by decide)) (ead_cons ev_c.bl ead_nil)) (by decide))) (by decide))) gd.sub fun dv2 F14 H14 g14 p14 => ?_
  refine st_to (σ' := [some kv, some lv, some mv, some sv, some o8, some gv2, some dv2, none, none, none, none, none, none]) rfl ?_
  have ge := gd.trans g14
  refine q_asg (P := fun v F => Dp K F v (namesD tagsO)) (ed_tupS ev_c (by decide)) ge.sub fun tv F15 H15 g15 pt => ?_
  refine st_to (σ' := [some kv, some lv, some mv, some sv, some o8, some gv2, some dv2, some tv, none, none, none, none, none]) rfl ?_
  have gf := ge.trans g15
  refine q_asg (P := fun v F => Dp K F v (blkD freeB)) (ed_tup (ead_cons (ed_tupOf (el_map (K := K) (ls := tagsO) (fun x => rowD ⟨x, [], true⟩) (IW.of_map (f := PyData.str) (iw_tup (ds := tagsO.map .str) (ed_var rfl pt))) (by decide) (fun _ => rfl) fun l x Fx hl e t => ?_)) (ead_cons (ed_var rfl pt) ead_nil)) (by decide)) gf.sub fun fv F16 H16 g16 pf => ?_
  · exact ed_tup (ead_cons (ed_var rfl t) (ead_cons (ed_tup ead_nil (Nat.le_of_ble_eq_true rfl)) (ead_cons ev_c.bl ead_nil))) (Nat.le_of_ble_eq_true rfl)
  have pt := dp_mono g16.ff pt
  refine st_to (σ' := [some kv, some lv, some mv, some sv, some o8, some gv2, some dv2, some tv, some fv, none, none, none, none]) rfl ?_
  have gg := gf.trans g16
  have hch : ((((tagsO.map PyData.str).zipIdx).filter fun _ => true).map fun l : PyData × Nat => PyData.tuple [l.1, .tuple (cutD (tagsO.map PyData.str) (some (l.2 - 1)) (some l.2)), .bool true]) = chainB.rows.map rowD := by rfl
  refine q_asg (P := fun v F => Dp K F v (blkD chainB)) (ed_tup (ead_cons (ed_tupOf (ds := chainB.rows.map rowD) ?_) (ead_cons (ed_tup (ead_cons ev_c.str ead_nil) (by decide)) ead_nil)) (by decide)) gg.sub fun cv F17 H17 g17 pc => ?_
  · rw [← hch]
    refine el_lcD (K := K) (fun _ => true) (fun l : PyData × Nat => PyData.tuple [l.1, .tuple (cutD (tagsO.map PyData.str) (some (l.2 - 1)) (some l.2)), .bool true]) (iw_enumT (ds := tagsO.map PyData.str) (ed_var rfl pt)) (by decide) (fun l x F1 H1 hl e s t => ?_) gm_pair
    refine g_pair t s fun u1 u2 q1 q2 => ⟨rfl, rfl, et_yes, fun _ => ?_⟩
    refine ed_tup (ead_cons (ed_var rfl q2) (ead_cons (ed_tupOfT (ed_slT (ed_var rfl (dp_mono e pt)) (eo_some (Ev.to (ev_more (ev_i0 (g := fun i j => .int (i - j)) (ed_var rfl q1).int ev_c) ev_c) ?_)) (eo_some (ed_var rfl q1).int))) (ead_cons ev_c.bl ead_nil))) (Nat.le_of_ble_eq_true rfl)
    congr 1
    split <;> omega
  have pt := dp_mono g17.ff pt
  have pf := dp_mono g17.ff pf
  have gh := gg.trans g17
  refine st_to (σ' := [some kv, some lv, some mv, some sv, some o8, some gv2, some dv2, some tv, some fv, some cv, none, none, none]) rfl ?_
  have gk := (((g14.trans g15).trans g16).trans g17).ff
  have p13 := mono_fl _ _ _ gk p13
  have p14 := mono_fl _ _ _ ((g15.trans g16).trans g17).ff p14
  have pk := dp_mono gk pk
  have pl := dp_mono gk pl
  have ps := mono_fl _ _ _ gk ps
  clear p12 hch
  have hA : Ed Z K (tCB (rSortD K) (tCons (tCall (sp28 Z K) [] E0 (tCons (tVar 8) (tCons (tVar 7) tNil))) tNil)) [some kv, some lv, some mv, some sv, some o8, some gv2, some dv2, some tv, some fv, some cv, none, none, none] F17 (.list ((tagsO.map fun x => [x]).map namesD)) := by
    rw [← free_1]
    exact El.ed (el_sortT (ed_par (ed_var rfl pf) (ed_var rfl pt) fits_free rfl) (.inr rfl) (sort_lots free_full))
  refine q_asg (El.fl (el_cat (es := hMid) (es_var rfl p13) (El.fl (el_lst (ead_cons hA (ead_cons (ed_par (ed_var rfl pc) (ed_var rfl pt) fits_chain chain_1) (ead_cons (ed_par (b := blkD deadB) (ed_tup (ead_cons (ed_ixT (j := 0) (ed_var rfl pf) ev_c rfl) (ead_cons (ed_tup ead_nil (by decide)) ead_nil)) (by decide)) (ed_var rfl pt) fits_dead dead_1) ead_nil))) (by decide))) (by decide))) gh.sub fun gv3 F18 H18 g18 p18 => ?_
  refine st_to (σ' := [some kv, some lv, some mv, some sv, some o8, some gv3, some dv2, some tv, some fv, some cv, none, none, none]) rfl ?_
  refine q_asg (El.fl (el_cat (es := [lotsD []]) (es_var rfl p18) (El.fl (el_lst (ead_cons (ed_par (b := blkD noB) (od := namesD []) (ed_tup (ead_cons (ed_tup ead_nil (by decide)) (ead_cons (ed_tup ead_nil (by decide)) ead_nil)) (by decide)) (ed_tup ead_nil (by decide)) fits_no no_1) ead_nil) (by decide))) (by decide))) g18.sub fun gv4 F19 H19 g19 p19 => ?_
  refine st_to (σ' := [some kv, some lv, some mv, some sv, some o8, some gv4, some dv2, some tv, some fv, some cv, none, none, none]) rfl ?_
  have g89 := g18.trans g19
  have pt := dp_mono g89.ff pt
  have pf := dp_mono g89.ff pf
  have pc := dp_mono g89.ff pc
  have pk := dp_mono g89.ff pk
  have pl := dp_mono g89.ff pl
  have ps := mono_fl _ _ _ g89.ff ps
  have p14 := mono_fl _ _ _ g89.ff p14
  have gi := gh.trans g89
  clear hA p13 p18
  refine q_asg (El.fl (el_cat (es := hMid ++ [lotsD []]) (es_var rfl p14) (El.fl (el_lst (ead_cons (El.ed (el_map (K := K) (ls := tagsO) (fun x => namesD [x]) (IW.of_map (f := PyData.str) (iw_tup (ds := tagsO.map .str) (ed_var rfl pt))) (by decide) (fun _ => rfl) fun l x Fx hl e t => ?_)) (ead_cons (ed_tup (ead_cons (ed_var rfl pt) ead_nil) (by decide)) (ead_cons (ed_tup ead_nil (by decide)) (ead_cons (ed_tup ead_nil (by decide)) ead_nil)))) (by decide))) (by decide))) gi.sub fun dv3 F20 H20 g20 p20 => ?_
  · exact ed_tup (ead_cons (ed_var rfl t) ead_nil) (Nat.le_of_ble_eq_true rfl)
  have pt := dp_mono g20.ff pt
  have pf := dp_mono g20.ff pf
  have pc := dp_mono g20.ff pc
  have p19 := mono_fl _ _ _ g20.ff p19
  have gj := gi.trans g20
  refine st_to (σ' := [some kv, some lv, some mv, some sv, some o8, some gv4, some dv3, some tv, some fv, some cv, none, none, none]) rfl ?_
  refine q_asg (El.fl (el_cat (es := [.bool false, .bool true]) (es_var rfl p19) (El.fl (el_lst (ead_cons (ed_isp (x := lotsD [tagsO.take 4, tagsO.drop 4]) (ed_var rfl pc) (ed_var rfl pt) (ed_tup (ds := [namesD (tagsO.take 4), namesD (tagsO.drop 4)]) (ead_cons (Ed.to (d := .tuple (cutD (tagsO.map .str) none (some 4))) (ed_slT (ed_var rfl pt) eo_none (eo_some (n := 4) ev_c)) rfl) (ead_cons (Ed.to (d := .tuple (cutD (tagsO.map .str) (some 4) none)) (ed_slT (ed_var rfl pt) (eo_some (n := 4) ev_c) eo_none) rfl) ead_nil)) (by decide)) fits_chain (by decide +kernel) (by decide +kernel) chain_2) (ead_cons (ed_isp (b := blkD noB) (od := namesD []) (x := lotsD []) (ed_tup (ead_cons (ed_tup ead_nil (by decide)) (ead_cons (ed_tup ead_nil (by decide)) ead_nil)) (by decide)) (ed_tup ead_nil (by decide)) (ed_tup ead_nil (by decide)) fits_no (by decide +kernel) (by decide +kernel) no_2) ead_nil)) (by decide))) (by decide))) gj.sub fun gv5 F21 H21 g21 p21 => ?_
  refine st_to (σ' := [some kv, some lv, some mv, some sv, some o8, some gv5, some dv3, some tv, some fv, some cv, none, none, none]) rfl ?_
  have pt := dp_mono g21.ff pt
  have pf := dp_mono g21.ff pf
  refine q_asg (El.fl (el_cat (es := [.bool false]) (es_var rfl p21) (El.fl (el_lst (ead_cons (ed_isp (x := lotsD []) (ed_var rfl pf) (ed_var rfl pt) (ed_tup ead_nil (by decide)) fits_free (by decide +kernel) (by decide +kernel) free_2) ead_nil) (by decide))) (by decide))) g21.sub fun gv6 F22 H22 g22 p22 => ?_
  refine st_to (σ' := [some kv, some lv, some mv, some sv, some o8, some gv6, some dv3, some tv, some fv, some cv, none, none, none]) rfl ?_
  have p20 := mono_fl _ _ _ (g21.trans g22).ff p20
  refine q_asg (El.fl (el_cat (es := [.bool false, .bool true, .bool false]) (es_var rfl p20) (El.fl (el_lst (ead_cons ev_c.bl (ead_cons ev_c.bl (ead_cons ev_c.bl ead_nil))) (by decide))) (by decide))) g22.sub fun dv4 F23 H23 g23 p23 => ?_
  refine st_to (σ' := [some kv, some lv, some mv, some sv, some o8, some gv6, some dv4, some tv, some fv, some cv, none, none, none]) rfl ?_
  have gl := ((g20.trans g21).trans g22).trans g23
  have pk := dp_mono gl.ff pk
  have pl := dp_mono gl.ff pl
  have ps := mono_fl _ _ _ gl.ff ps
  have p22 := mono_fl _ _ _ g23.ff p22
  have gm := gi.trans gl
  clear p14 p19 p20 p21 pt pf pc
  refine q_asg (El.fl (el_cat (es := [hOrd, hOrd, hOrd]) (es_var rfl p22) (El.fl (el_map (K := K) (ls := [PyData.none, .tuple [], .int 5]) (fun _ => hOrd) (iw_tup (ed_tup (ead_cons ev_c.non (ead_cons (ed_tup ead_nil (by decide)) (ead_cons ev_c.int ead_nil))) (by decide))) (by decide) (fun _ => rfl) fun d x Fx hd e t => ?_)) (by decide))) gm.sub fun gv7 F24 H24 g24 p24 => ?_
  · exact ed_call (ead_cons (ed_var rfl (dp_mono e pk)) (ead_cons (Ed.to (e := namesD accO) (ed_tupS ev_c (by decide)) rfl) (ead_cons (ed_var rfl t) ead_nil))) ⟨_, kitB, _, accO, d, rfl, misfit_acc, rfl⟩
  have pk := dp_mono g24.ff pk
  have pl := dp_mono g24.ff pl
  have ps := mono_fl _ _ _ g24.ff ps
  have gn := gm.trans g24
  refine st_to (σ' := [some kv, some lv, some mv, some sv, some o8, some gv7, some dv4, some tv, some fv, some cv, none, none, none]) rfl ?_
  have hkit : Ed Z K (tCall (sp37 Z K 11) [] E0 (tCons (tVar 0) tNil)) [some kv, some lv, some mv, some sv, some o8, some gv7, some dv4, some tv, some fv, some cv, none, none, none] F24 (lstD (blkD kitB)) := ed_call (ead_cons (ed_var rfl pk) ead_nil) ⟨_, rfl, kit_small, rfl⟩
  have hlin : Ed Z K (tCB (rListOf K) (tCons (tVar 1) tNil)) [some kv, some lv, some mv, some sv, some o8, some gv7, some dv4, some tv, some fv, some cv, none, none, none] F24 (.list (kitL.map .str)) := El.ed (el_listOf (ed_var rfl pl) (.inr rfl))
  refine q_asgL (el_cat (es := [.bool true]) (es_var rfl p24) (El.fl (el_lst (ead_cons (ed_turned (ds := [lotsD [["a", "d"], ["b"]], .list (kitL.map .str), lstD (blkD kitB)]) (ead_cons (ed_ixL (j := 0) (Es.dp (es_var (i := 3) rfl ps)) ev_c rfl) (ead_cons hlin (ead_cons hkit ead_nil))) ⟨_, kitB, _, kitL, _, 11, rfl, fits_turn, by decide +kernel, by decide +kernel, ?_⟩) ead_nil) (by decide))) (by decide)) gn.sub fun R zs F25 H25 g25 R0 Rf hR pz => ?_
  · rfl
  have R00 : H R = none := gn.back R0
  refine st_to (σ' := [some kv, some lv, some mv, some sv, some o8, some (.ref R), some dv4, some tv, some fv, some cv, none, none, none]) rfl ?_
  have zl : zs.length ≤ 50000 := by
    rw [dpa_length pz]
    decide
  have hkit : Ed Z K (tCall (sp37 Z K 11) [] E0 (tCons (tVar 0) tNil)) [some kv, some lv, some mv, some sv, some o8, some (.ref R), some dv4, some tv, some fv, some cv, none, none, none] F25 (lstD (blkD kitB)) := ed_call (ead_cons (ed_var rfl (dp_mono g25.ff pk)) ead_nil) ⟨_, rfl, kit_small, rfl⟩
  have hlin : Ed Z K (tCB (rListOf K) (tCons (tVar 1) tNil)) [some kv, some lv, some mv, some sv, some o8, some (.ref R), some dv4, some tv, some fv, some cv, none, none, none] F25 (.list (kitL.map .str)) := El.ed (el_listOf (ed_var rfl (dp_mono g25.ff pl)) (.inr rfl))
  refine q_app (i := 5) (d := .int 2) rfl (gn.trans g25) R00 Rf hR zl (Ev.int (Ev.to (ev_lenT (ds := (partedS kitB kitL).map namesD) (ed_turned (ds := [.list (kitL.map .str), lstD (blkD kitB)]) (ead_cons hlin (ead_cons hkit ead_nil)) ⟨_, kitB, _, kitL, rfl, fits_turn, rfl⟩)) (by rw [List.length_map, two_1]; rfl))) fun z F26 H26 g26 f56 Rf6 hR6 p26 => ?_
  have g27 := g26.freeze R00 hR6
  have p23 := mono_fl _ _ _ ((g24.trans g25).ff.trans f56) p23
  have pG : Fl K hAll (.ref R) (upd F26 R (.lst (zs ++ [z]))) := ⟨R, _, rfl, upd_same, dpa_mono (same_new Rf6) (dpa_snoc (dpa_mono f56 pz) p26)⟩
  have pD := mono_fl _ _ _ (same_new (o := .lst (zs ++ [z])) Rf6) p23
  generalize upd F26 R (.lst (zs ++ [z])) = F27 at g27 pG pD
  have hD := el_cat (es := [.bool true, .int 2]) (El.fl (el_cat (es_var (i := 6) (σ := [some kv, some lv, some mv, some sv, some o8, some (.ref R), some dv4, some tv, some fv, some cv, none, none, none]) rfl pD) (El.fl (el_rep (Z := Z) (n := 3) (El.fl (el_lst (ead_cons (ed_lst (ead_cons (ev_c (x := V.str "order")).str (ead_cons (ev_c (x := V.bl true)).bl ead_nil)) (by decide)) ead_nil) (by decide))) (ev_c (x := V.int 3)) (by decide) (by decide))) (by decide))) (El.fl (el_lst (ead_cons (ev_c (x := V.bl true)).bl (ead_cons (ev_c (x := V.int 2)).int ead_nil)) (by decide))) (by decide)
  refine s_ret (P := fun v F => Dp K F v (.bool true)) (Ev.bl (Ev.to (ev_andV (b := true) (c := true) (Ed.bl (ed_call (ds := [.list hAll, .list hAll]) (ead_cons (Es.dp (es_var rfl pG)) (ead_cons (El.ed hD) ead_nil)) ⟨_, rfl, all_small, rfl⟩)) fun _ => Ed.bl (ed_call ead_nil ⟨rfl, rfl⟩)) rfl)) g27.sub fun v F' H' g z => q v F' H' (g27.trans g) z
end
end K21

/-! All promises collected. Printed by gen_end.py. -/
namespace K21
open PySem PySem.Spec PyProof.Rows L2 RZ
open NdefX (NTab TabsN TabN)
def noTbl : Option HO → Option HO
  | some (.tbl _) => none
  | u => u
theorem noTbl_some {u : Option HO} {o : HO} (h : noTbl u = some o) : u = some o ∧ ∀ ps, o ≠ .tbl ps := by
  cases u with
  | none => cases h
  | some x => cases x <;> cases h <;> exact ⟨rfl, fun ps e => nomatch e⟩
theorem noTbl_keep {u : Option HO} {o : HO} (h : u = some o) (n : ∀ ps, o ≠ .tbl ps) : noTbl u = some o := by
  subst h
  cases o <;> first | rfl | exact absurd rfl (n _)
/-- the law's promise at the head's heap -/
theorem law_at {K : PySem.W.Frag} {P0 a : Addr} {H : Hp} {ns : List Int} (hl : ns.length ≤ 63) (hP : H P0 = some (.tbl #[])) (hS : SqL K H a (ns.map V.int)) : sp51 [(P0, fun _ _ => qL)] K [.ref a] H (fun v _ => v = .bl true) fun _ _ _ => False := by
  have sub : Sub [(P0, fun _ _ => qL)] (fun b => noTbl (H b)) H := ⟨fun b o e => (noTbl_some e).1, fun b ps e => (noTbl_some e).2 ps rfl, fun q hq => by
    rw [List.mem_singleton.mp hq]
    exact TabN.nil hP⟩
  refine ⟨fun b => noTbl (H b), .ref a, ns, rfl, sub, .lst ?_ dpa_intsL, hl, fun _ => rfl⟩
  rcases hS with (h | ⟨o, h⟩) | h
  · exact .inl (.inl (noTbl_keep h fun ps e => by cases e))
  · exact .inl (.inr ⟨o, noTbl_keep h fun ps e => by cases e⟩)
  · exact .inr h
theorem all_mk {l : PySem.W.OpenLaw} {w : World} {K : PySem.W.Frag} {h : Heap} {mg : Str → Option Value} {f0 C c P0 : Addr} (X : K.In h) (G : h.Ns mainGlobals mg) (hfa : mg "law" = some (.ref f0)) (hT : h.get? P0 = some { cls := .none, data := .fields #[] })
    {f6 f7 f8 f9 f10 f12 f13 f14 f15 f16 f17 f18 f19 f21 f22 f23 f24 f25 f26 f27 f28 f29 f31 f32 f33 f34 f35 f36 f37 f38 f39 f40 f41 f42 f43 f44 f45 f46 f47 f48 f49 f50 f51 : Addr} {od6 od7 od8 od9 od10 od12 od13 od14 od15 od16 od17 od18 od19 od21 od22 od23 od24 od25 od26 od27 od28 od29 od31 od32 od33 od34 od35 od36 od37 od38 od39 od40 od41 od42 od43 od44 od45 od46 od47 od48 od49 od50 od51 an6 an7 an8 an9 an10 an12 an13 an14 an15 an16 an17 an18 an19 an21 an22 an23 an24 an25 an26 an27 an28 an29 an31 an32 an33 an34 an35 an36 an37 an38 an39 an40 an41 an42 an43 an44 an45 an46 an47 an48 an49 an50 an51 : Option Addr} {sl6 sl7 sl8 sl9 sl10 sl12 sl13 sl14 sl15 sl16 sl17 sl18 sl19 sl21 sl22 sl23 sl24 sl25 sl26 sl27 sl28 sl29 sl31 sl32 sl33 sl34 sl35 sl36 sl37 sl38 sl39 sl40 sl41 sl42 sl43 sl44 sl45 sl46 sl47 sl48 sl49 sl50 sl51 : Array (Option Value)}
    {oc6 kV6 dc6 pm6 ct6 cd6 oc7 kV7 dc7 pm7 ct7 cd7 oc8 kV8 dc8 pm8 ct8 cd8 oc9 kV9 dc9 pm9 ct9 cd9 oc10 kV10 dc10 pm10 ct10 cd10 oc12 kV12 dc12 pm12 ct12 cd12 oc13 kV13 dc13 pm13 ct13 cd13 oc14 kV14 dc14 pm14 ct14 cd14 oc15 kV15 dc15 pm15 ct15 cd15 oc16 kV16 dc16 pm16 ct16 cd16 oc17 kV17 dc17 pm17 ct17 cd17 oc18 kV18 dc18 pm18 ct18 cd18 oc19 kV19 dc19 pm19 ct19 cd19 oc21 kV21 dc21 pm21 ct21 cd21 oc22 kV22 dc22 pm22 ct22 cd22 oc23 kV23 dc23 pm23 ct23 cd23 oc24 kV24 dc24 pm24 ct24 cd24 oc25 kV25 dc25 pm25 ct25 cd25 oc26 kV26 dc26 pm26 ct26 cd26 oc27 kV27 dc27 pm27 ct27 cd27 oc28 kV28 dc28 pm28 ct28 oc29 kV29 dc29 pm29 ct29 cd29 oc31 kV31 dc31 pm31 ct31 cd31 oc32 kV32 dc32 pm32 ct32 cd32 oc33 kV33 dc33 pm33 ct33 cd33 oc34 kV34 dc34 pm34 ct34 cd34 oc35 kV35 dc35 pm35 ct35 cd35 oc36 kV36 dc36 pm36 ct36 cd36 oc37 kV37 dc37 pm37 ct37 cd37 oc38 kV38 dc38 pm38 ct38 cd38 oc39 kV39 dc39 pm39 ct39 cd39 oc40 kV40 dc40 pm40 ct40 cd40 oc41 kV41 dc41 pm41 ct41 cd41 oc42 kV42 dc42 pm42 ct42 cd42 oc43 kV43 dc43 pm43 ct43 cd43 oc44 kV44 dc44 pm44 ct44 cd44 oc45 kV45 dc45 pm45 ct45 cd45 oc46 kV46 dc46 pm46 ct46 cd46 oc47 kV47 dc47 pm47 ct47 cd47 oc48 kV48 dc48 pm48 ct48 cd48 oc49 kV49 dc49 pm49 ct49 cd49 oc50 kV50 dc50 pm50 ct50 cd50 oc51 kV51 dc51 pm51 ct51 cd51 : Value} {t0 t1 : Tok}
    (a6 : PySem.W.nsIn K mainGlobals "is_name" = some (some (.ref f6)))
    (l6 : K.lookup f6 = some ⟨oc6, od6, .func (PySem.W.fnOf "is_name" "is_name" (defArgs s6) (defBody s6) (defScope s6) .none kV6 dc6 pm6 an6 (cd6) ct6), sl6⟩)
    (c6 : PySem.W.codeIn K (cd6) "is_name" = true)
    (k6 : PySem.W.keepIn K (.ref f6) = true)
    (a7 : PySem.W.nsIn K mainGlobals "is_rising" = some (some (.ref f7)))
    (l7 : K.lookup f7 = some ⟨oc7, od7, .func (PySem.W.fnOf "is_rising" "is_rising" (defArgs s7) (defBody s7) (defScope s7) .none kV7 dc7 pm7 an7 (cd7) ct7), sl7⟩)
    (c7 : PySem.W.codeIn K (cd7) "is_rising" = true)
    (k7 : PySem.W.keepIn K (.ref f7) = true)
    (a8 : PySem.W.nsIn K mainGlobals "is_name_set" = some (some (.ref f8)))
    (l8 : K.lookup f8 = some ⟨oc8, od8, .func (PySem.W.fnOf "is_name_set" "is_name_set" (defArgs s8) (defBody s8) (defScope s8) .none kV8 dc8 pm8 an8 (cd8) ct8), sl8⟩)
    (c8 : PySem.W.codeIn K (cd8) "is_name_set" = true)
    (k8 : PySem.W.keepIn K (.ref f8) = true)
    (a9 : PySem.W.nsIn K mainGlobals "set_of" = some (some (.ref f9)))
    (l9 : K.lookup f9 = some ⟨oc9, od9, .func (PySem.W.fnOf "set_of" "set_of" (defArgs s9) (defBody s9) (defScope s9) .none kV9 dc9 pm9 an9 (cd9) ct9), sl9⟩)
    (c9 : PySem.W.codeIn K (cd9) "set_of" = true)
    (k9 : PySem.W.keepIn K (.ref f9) = true)
    (a10 : PySem.W.nsIn K mainGlobals "tupled" = some (some (.ref f10)))
    (l10 : K.lookup f10 = some ⟨oc10, od10, .func (PySem.W.fnOf "tupled" "tupled" (defArgs s10) (defBody s10) (defScope s10) .none kV10 dc10 pm10 an10 (cd10) ct10), sl10⟩)
    (c10 : PySem.W.codeIn K (cd10) "tupled" = true)
    (k10 : PySem.W.keepIn K (.ref f10) = true)
    (a12 : PySem.W.nsIn K mainGlobals "table_of" = some (some (.ref f12)))
    (l12 : K.lookup f12 = some ⟨oc12, od12, .func (PySem.W.fnOf "table_of" "table_of" (defArgs s12) (defBody s12) (defScope s12) .none kV12 dc12 pm12 an12 (cd12) ct12), sl12⟩)
    (c12 : PySem.W.codeIn K (cd12) "table_of" = true)
    (k12 : PySem.W.keepIn K (.ref f12) = true)
    (a13 : PySem.W.nsIn K mainGlobals "names_in" = some (some (.ref f13)))
    (l13 : K.lookup f13 = some ⟨oc13, od13, .func (PySem.W.fnOf "names_in" "names_in" (defArgs s13) (defBody s13) (defScope s13) .none kV13 dc13 pm13 an13 (cd13) ct13), sl13⟩)
    (c13 : PySem.W.codeIn K (cd13) "names_in" = true)
    (k13 : PySem.W.keepIn K (.ref f13) = true)
    (a14 : PySem.W.nsIn K mainGlobals "check_names" = some (some (.ref f14)))
    (l14 : K.lookup f14 = some ⟨oc14, od14, .func (PySem.W.fnOf "check_names" "check_names" (defArgs s14) (defBody s14) (defScope s14) .none kV14 dc14 pm14 an14 (cd14) ct14), sl14⟩)
    (c14 : PySem.W.codeIn K (cd14) "check_names" = true)
    (k14 : PySem.W.keepIn K (.ref f14) = true)
    (a15 : PySem.W.nsIn K mainGlobals "readers_of" = some (some (.ref f15)))
    (l15 : K.lookup f15 = some ⟨oc15, od15, .func (PySem.W.fnOf "readers_of" "readers_of" (defArgs s15) (defBody s15) (defScope s15) .none kV15 dc15 pm15 an15 (cd15) ct15), sl15⟩)
    (c15 : PySem.W.codeIn K (cd15) "readers_of" = true)
    (k15 : PySem.W.keepIn K (.ref f15) = true)
    (a16 : PySem.W.nsIn K mainGlobals "slow_in" = some (some (.ref f16)))
    (l16 : K.lookup f16 = some ⟨oc16, od16, .func (PySem.W.fnOf "slow_in" "slow_in" (defArgs s16) (defBody s16) (defScope s16) .none kV16 dc16 pm16 an16 (cd16) ct16), sl16⟩)
    (c16 : PySem.W.codeIn K (cd16) "slow_in" = true)
    (k16 : PySem.W.keepIn K (.ref f16) = true)
    (a17 : PySem.W.nsIn K mainGlobals "awaited_in" = some (some (.ref f17)))
    (l17 : K.lookup f17 = some ⟨oc17, od17, .func (PySem.W.fnOf "awaited_in" "awaited_in" (defArgs s17) (defBody s17) (defScope s17) .none kV17 dc17 pm17 an17 (cd17) ct17), sl17⟩)
    (c17 : PySem.W.codeIn K (cd17) "awaited_in" = true)
    (k17 : PySem.W.keepIn K (.ref f17) = true)
    (a18 : PySem.W.nsIn K mainGlobals "is_order" = some (some (.ref f18)))
    (l18 : K.lookup f18 = some ⟨oc18, od18, .func (PySem.W.fnOf "is_order" "is_order" (defArgs s18) (defBody s18) (defScope s18) .none kV18 dc18 pm18 an18 (cd18) ct18), sl18⟩)
    (c18 : PySem.W.codeIn K (cd18) "is_order" = true)
    (k18 : PySem.W.keepIn K (.ref f18) = true)
    (a19 : PySem.W.nsIn K mainGlobals "check_order" = some (some (.ref f19)))
    (l19 : K.lookup f19 = some ⟨oc19, od19, .func (PySem.W.fnOf "check_order" "check_order" (defArgs s19) (defBody s19) (defScope s19) .none kV19 dc19 pm19 an19 (cd19) ct19), sl19⟩)
    (c19 : PySem.W.codeIn K (cd19) "check_order" = true)
    (k19 : PySem.W.keepIn K (.ref f19) = true)
    (a21 : PySem.W.nsIn K mainGlobals "reader_place" = some (some (.ref f21)))
    (l21 : K.lookup f21 = some ⟨oc21, od21, .func (PySem.W.fnOf "reader_place" "reader_place" (defArgs s21) (defBody s21) (defScope s21) .none kV21 dc21 pm21 an21 (cd21) ct21), sl21⟩)
    (c21 : PySem.W.codeIn K (cd21) "reader_place" = true)
    (k21 : PySem.W.keepIn K (.ref f21) = true)
    (a22 : PySem.W.nsIn K mainGlobals "all_waits" = some (some (.ref f22)))
    (l22 : K.lookup f22 = some ⟨oc22, od22, .func (PySem.W.fnOf "all_waits" "all_waits" (defArgs s22) (defBody s22) (defScope s22) .none kV22 dc22 pm22 an22 (cd22) ct22), sl22⟩)
    (c22 : PySem.W.codeIn K (cd22) "all_waits" = true)
    (k22 : PySem.W.keepIn K (.ref f22) = true)
    (a23 : PySem.W.nsIn K mainGlobals "are_meeting" = some (some (.ref f23)))
    (l23 : K.lookup f23 = some ⟨oc23, od23, .func (PySem.W.fnOf "are_meeting" "are_meeting" (defArgs s23) (defBody s23) (defScope s23) .none kV23 dc23 pm23 an23 (cd23) ct23), sl23⟩)
    (c23 : PySem.W.codeIn K (cd23) "are_meeting" = true)
    (k23 : PySem.W.keepIn K (.ref f23) = true)
    (a24 : PySem.W.nsIn K mainGlobals "are_apart" = some (some (.ref f24)))
    (l24 : K.lookup f24 = some ⟨oc24, od24, .func (PySem.W.fnOf "are_apart" "are_apart" (defArgs s24) (defBody s24) (defScope s24) .none kV24 dc24 pm24 an24 (cd24) ct24), sl24⟩)
    (c24 : PySem.W.codeIn K (cd24) "are_apart" = true)
    (k24 : PySem.W.keepIn K (.ref f24) = true)
    (a25 : PySem.W.nsIn K mainGlobals "adds_up" = some (some (.ref f25)))
    (l25 : K.lookup f25 = some ⟨oc25, od25, .func (PySem.W.fnOf "adds_up" "adds_up" (defArgs s25) (defBody s25) (defScope s25) .none kV25 dc25 pm25 an25 (cd25) ct25), sl25⟩)
    (c25 : PySem.W.codeIn K (cd25) "adds_up" = true)
    (k25 : PySem.W.keepIn K (.ref f25) = true)
    (a26 : PySem.W.nsIn K mainGlobals "at_once" = some (some (.ref f26)))
    (l26 : K.lookup f26 = some ⟨oc26, od26, .func (PySem.W.fnOf "at_once" "at_once" (defArgs s26) (defBody s26) (defScope s26) .none kV26 dc26 pm26 an26 (cd26) ct26), sl26⟩)
    (c26 : PySem.W.codeIn K (cd26) "at_once" = true)
    (k26 : PySem.W.keepIn K (.ref f26) = true)
    (a27 : PySem.W.nsIn K mainGlobals "most_at_once" = some (some (.ref f27)))
    (l27 : K.lookup f27 = some ⟨oc27, od27, .func (PySem.W.fnOf "most_at_once" "most_at_once" (defArgs s27) (defBody s27) (defScope s27) .none kV27 dc27 pm27 an27 (cd27) ct27), sl27⟩)
    (c27 : PySem.W.codeIn K (cd27) "most_at_once" = true)
    (k27 : PySem.W.keepIn K (.ref f27) = true)
    (a28 : PySem.W.nsIn K mainGlobals "parted" = some (some (.ref f28)))
    (l28 : K.lookup f28 = some ⟨oc28, od28, .func (PySem.W.fnOf "parted" "parted" (defArgs s28) (defBody s28) (defScope s28) .none kV28 dc28 pm28 an28 (.ref c) ct28), sl28⟩)
    (c28 : PySem.W.codeIn K (.ref c) "parted" = true)
    (k28 : PySem.W.keepIn K (.ref f28) = true)
    (a29 : PySem.W.nsIn K mainGlobals "is_parted" = some (some (.ref f29)))
    (l29 : K.lookup f29 = some ⟨oc29, od29, .func (PySem.W.fnOf "is_parted" "is_parted" (defArgs s29) (defBody s29) (defScope s29) .none kV29 dc29 pm29 an29 (cd29) ct29), sl29⟩)
    (c29 : PySem.W.codeIn K (cd29) "is_parted" = true)
    (k29 : PySem.W.keepIn K (.ref f29) = true)
    (a31 : PySem.W.nsIn K mainGlobals "_law_box" = some (some (.ref f31)))
    (l31 : K.lookup f31 = some ⟨oc31, od31, .func (PySem.W.fnOf "_law_box" "_law_box" (defArgs s31) (defBody s31) (defScope s31) .none kV31 dc31 pm31 an31 (cd31) ct31), sl31⟩)
    (c31 : PySem.W.codeIn K (cd31) "_law_box" = true)
    (k31 : PySem.W.keepIn K (.ref f31) = true)
    (a32 : PySem.W.nsIn K mainGlobals "_law_take" = some (some (.ref f32)))
    (l32 : K.lookup f32 = some ⟨oc32, od32, .func (PySem.W.fnOf "_law_take" "_law_take" (defArgs s32) (defBody s32) (defScope s32) .none kV32 dc32 pm32 an32 (cd32) ct32), sl32⟩)
    (c32 : PySem.W.codeIn K (cd32) "_law_take" = true)
    (k32 : PySem.W.keepIn K (.ref f32) = true)
    (a33 : PySem.W.nsIn K mainGlobals "_law_cells" = some (some (.ref f33)))
    (l33 : K.lookup f33 = some ⟨oc33, od33, .func (PySem.W.fnOf "_law_cells" "_law_cells" (defArgs s33) (defBody s33) (defScope s33) .none kV33 dc33 pm33 an33 (cd33) ct33), sl33⟩)
    (c33 : PySem.W.codeIn K (cd33) "_law_cells" = true)
    (k33 : PySem.W.keepIn K (.ref f33) = true)
    (a34 : PySem.W.nsIn K mainGlobals "_law_of" = some (some (.ref f34)))
    (l34 : K.lookup f34 = some ⟨oc34, od34, .func (PySem.W.fnOf "_law_of" "_law_of" (defArgs s34) (defBody s34) (defScope s34) .none kV34 dc34 pm34 an34 (cd34) ct34), sl34⟩)
    (c34 : PySem.W.codeIn K (cd34) "_law_of" = true)
    (k34 : PySem.W.keepIn K (.ref f34) = true)
    (a35 : PySem.W.nsIn K mainGlobals "_law_pick" = some (some (.ref f35)))
    (l35 : K.lookup f35 = some ⟨oc35, od35, .func (PySem.W.fnOf "_law_pick" "_law_pick" (defArgs s35) (defBody s35) (defScope s35) .none kV35 dc35 pm35 an35 (cd35) ct35), sl35⟩)
    (c35 : PySem.W.codeIn K (cd35) "_law_pick" = true)
    (k35 : PySem.W.keepIn K (.ref f35) = true)
    (a36 : PySem.W.nsIn K mainGlobals "_law_same" = some (some (.ref f36)))
    (l36 : K.lookup f36 = some ⟨oc36, od36, .func (PySem.W.fnOf "_law_same" "_law_same" (defArgs s36) (defBody s36) (defScope s36) .none kV36 dc36 pm36 an36 (cd36) ct36), sl36⟩)
    (c36 : PySem.W.codeIn K (cd36) "_law_same" = true)
    (k36 : PySem.W.keepIn K (.ref f36) = true)
    (a37 : PySem.W.nsIn K mainGlobals "_law_lists" = some (some (.ref f37)))
    (l37 : K.lookup f37 = some ⟨oc37, od37, .func (PySem.W.fnOf "_law_lists" "_law_lists" (defArgs s37) (defBody s37) (defScope s37) .none kV37 dc37 pm37 an37 (cd37) ct37), sl37⟩)
    (c37 : PySem.W.codeIn K (cd37) "_law_lists" = true)
    (k37 : PySem.W.keepIn K (.ref f37) = true)
    (a38 : PySem.W.nsIn K mainGlobals "_law_block" = some (some (.ref f38)))
    (l38 : K.lookup f38 = some ⟨oc38, od38, .func (PySem.W.fnOf "_law_block" "_law_block" (defArgs s38) (defBody s38) (defScope s38) .none kV38 dc38 pm38 an38 (cd38) ct38), sl38⟩)
    (c38 : PySem.W.codeIn K (cd38) "_law_block" = true)
    (k38 : PySem.W.keepIn K (.ref f38) = true)
    (a39 : PySem.W.nsIn K mainGlobals "_law_order" = some (some (.ref f39)))
    (l39 : K.lookup f39 = some ⟨oc39, od39, .func (PySem.W.fnOf "_law_order" "_law_order" (defArgs s39) (defBody s39) (defScope s39) .none kV39 dc39 pm39 an39 (cd39) ct39), sl39⟩)
    (c39 : PySem.W.codeIn K (cd39) "_law_order" = true)
    (k39 : PySem.W.keepIn K (.ref f39) = true)
    (a40 : PySem.W.nsIn K mainGlobals "_law_inside" = some (some (.ref f40)))
    (l40 : K.lookup f40 = some ⟨oc40, od40, .func (PySem.W.fnOf "_law_inside" "_law_inside" (defArgs s40) (defBody s40) (defScope s40) .none kV40 dc40 pm40 an40 (cd40) ct40), sl40⟩)
    (c40 : PySem.W.codeIn K (cd40) "_law_inside" = true)
    (k40 : PySem.W.keepIn K (.ref f40) = true)
    (a41 : PySem.W.nsIn K mainGlobals "_law_end" = some (some (.ref f41)))
    (l41 : K.lookup f41 = some ⟨oc41, od41, .func (PySem.W.fnOf "_law_end" "_law_end" (defArgs s41) (defBody s41) (defScope s41) .none kV41 dc41 pm41 an41 (cd41) ct41), sl41⟩)
    (c41 : PySem.W.codeIn K (cd41) "_law_end" = true)
    (k41 : PySem.W.keepIn K (.ref f41) = true)
    (a42 : PySem.W.nsIn K mainGlobals "_law_awaited" = some (some (.ref f42)))
    (l42 : K.lookup f42 = some ⟨oc42, od42, .func (PySem.W.fnOf "_law_awaited" "_law_awaited" (defArgs s42) (defBody s42) (defScope s42) .none kV42 dc42 pm42 an42 (cd42) ct42), sl42⟩)
    (c42 : PySem.W.codeIn K (cd42) "_law_awaited" = true)
    (k42 : PySem.W.keepIn K (.ref f42) = true)
    (a43 : PySem.W.nsIn K mainGlobals "_law_sets" = some (some (.ref f43)))
    (l43 : K.lookup f43 = some ⟨oc43, od43, .func (PySem.W.fnOf "_law_sets" "_law_sets" (defArgs s43) (defBody s43) (defScope s43) .none kV43 dc43 pm43 an43 (cd43) ct43), sl43⟩)
    (c43 : PySem.W.codeIn K (cd43) "_law_sets" = true)
    (k43 : PySem.W.keepIn K (.ref f43) = true)
    (a44 : PySem.W.nsIn K mainGlobals "_law_adding" = some (some (.ref f44)))
    (l44 : K.lookup f44 = some ⟨oc44, od44, .func (PySem.W.fnOf "_law_adding" "_law_adding" (defArgs s44) (defBody s44) (defScope s44) .none kV44 dc44 pm44 an44 (cd44) ct44), sl44⟩)
    (c44 : PySem.W.codeIn K (cd44) "_law_adding" = true)
    (k44 : PySem.W.keepIn K (.ref f44) = true)
    (a45 : PySem.W.nsIn K mainGlobals "_law_kit" = some (some (.ref f45)))
    (l45 : K.lookup f45 = some ⟨oc45, od45, .func (PySem.W.fnOf "_law_kit" "_law_kit" (defArgs s45) (defBody s45) (defScope s45) .none kV45 dc45 pm45 an45 (cd45) ct45), sl45⟩)
    (c45 : PySem.W.codeIn K (cd45) "_law_kit" = true)
    (k45 : PySem.W.keepIn K (.ref f45) = true)
    (a46 : PySem.W.nsIn K mainGlobals "_law_heard" = some (some (.ref f46)))
    (l46 : K.lookup f46 = some ⟨oc46, od46, .func (PySem.W.fnOf "_law_heard" "_law_heard" (defArgs s46) (defBody s46) (defScope s46) .none kV46 dc46 pm46 an46 (cd46) ct46), sl46⟩)
    (c46 : PySem.W.codeIn K (cd46) "_law_heard" = true)
    (k46 : PySem.W.keepIn K (.ref f46) = true)
    (a47 : PySem.W.nsIn K mainGlobals "_law_by_hand_right" = some (some (.ref f47)))
    (l47 : K.lookup f47 = some ⟨oc47, od47, .func (PySem.W.fnOf "_law_by_hand_right" "_law_by_hand_right" (defArgs s47) (defBody s47) (defScope s47) .none kV47 dc47 pm47 an47 (cd47) ct47), sl47⟩)
    (c47 : PySem.W.codeIn K (cd47) "_law_by_hand_right" = true)
    (k47 : PySem.W.keepIn K (.ref f47) = true)
    (a48 : PySem.W.nsIn K mainGlobals "_law_fits_right" = some (some (.ref f48)))
    (l48 : K.lookup f48 = some ⟨oc48, od48, .func (PySem.W.fnOf "_law_fits_right" "_law_fits_right" (defArgs s48) (defBody s48) (defScope s48) .none kV48 dc48 pm48 an48 (cd48) ct48), sl48⟩)
    (c48 : PySem.W.codeIn K (cd48) "_law_fits_right" = true)
    (k48 : PySem.W.keepIn K (.ref f48) = true)
    (a49 : PySem.W.nsIn K mainGlobals "_law_partings" = some (some (.ref f49)))
    (l49 : K.lookup f49 = some ⟨oc49, od49, .func (PySem.W.fnOf "_law_partings" "_law_partings" (defArgs s49) (defBody s49) (defScope s49) .none kV49 dc49 pm49 an49 (cd49) ct49), sl49⟩)
    (c49 : PySem.W.codeIn K (cd49) "_law_partings" = true)
    (k49 : PySem.W.keepIn K (.ref f49) = true)
    (a50 : PySem.W.nsIn K mainGlobals "_law_right" = some (some (.ref f50)))
    (l50 : K.lookup f50 = some ⟨oc50, od50, .func (PySem.W.fnOf "_law_right" "_law_right" (defArgs s50) (defBody s50) (defScope s50) .none kV50 dc50 pm50 an50 (cd50) ct50), sl50⟩)
    (c50 : PySem.W.codeIn K (cd50) "_law_right" = true)
    (k50 : PySem.W.keepIn K (.ref f50) = true)
    (a51 : PySem.W.nsIn K mainGlobals "law" = some (some (.ref f51)))
    (l51 : K.lookup f51 = some ⟨oc51, od51, .func (PySem.W.fnOf "law" "law" (defArgs s51) (defBody s51) (defScope s51) .none kV51 dc51 pm51 an51 (cd51) ct51), sl51⟩)
    (c51 : PySem.W.codeIn K (cd51) "law" = true)
    (k51 : PySem.W.keepIn K (.ref f51) = true)
    (z_ValueError : PySem.W.nsIn K mainGlobals "ValueError" = some none)
    (z_abs : PySem.W.nsIn K mainGlobals "abs" = some none)
    (z_all : PySem.W.nsIn K mainGlobals "all" = some none)
    (z_any : PySem.W.nsIn K mainGlobals "any" = some none)
    (z_bool : PySem.W.nsIn K mainGlobals "bool" = some none)
    (z_dict : PySem.W.nsIn K mainGlobals "dict" = some none)
    (z_enumerate : PySem.W.nsIn K mainGlobals "enumerate" = some none)
    (z_int : PySem.W.nsIn K mainGlobals "int" = some none)
    (z_isinstance : PySem.W.nsIn K mainGlobals "isinstance" = some none)
    (z_len : PySem.W.nsIn K mainGlobals "len" = some none)
    (z_list : PySem.W.nsIn K mainGlobals "list" = some none)
    (z_max : PySem.W.nsIn K mainGlobals "max" = some none)
    (z_min : PySem.W.nsIn K mainGlobals "min" = some none)
    (z_range : PySem.W.nsIn K mainGlobals "range" = some none)
    (z_set : PySem.W.nsIn K mainGlobals "set" = some none)
    (z_sorted : PySem.W.nsIn K mainGlobals "sorted" = some none)
    (z_str : PySem.W.nsIn K mainGlobals "str" = some none)
    (z_sum : PySem.W.nsIn K mainGlobals "sum" = some none)
    (z_tuple : PySem.W.nsIn K mainGlobals "tuple" = some none)
    (z_zip : PySem.W.nsIn K mainGlobals "zip" = some none)
    (vL : PySem.W.nsIn K mainGlobals "LETTERS" = some (some (.str "abcdefghijklmnopqrstuvwxyz" t0)))
    (vM : PySem.W.nsIn K mainGlobals "LONGEST" = some (some (.int 8 t1)))
    (eC : PySem.W.nsIn K mainGlobals "NoOrder" = some (some (.ref C)))
    (eK : PySem.W.keepIn K (.ref C) = true)
    (eS : PySem.W.subIn K (.ref C) (.type "BaseException") = some true)
    (eS2 : PySem.W.subIn K (.ref C) (.ref C) = some true)
    (eT : PySem.W.typeIn K (.ref C) = some (.type "type"))
    (eD : PySem.W.hasDictIn K C = true)
    (eG : PySem.W.findIn K (.ref C) "__getattribute__" = some (some (.builtin "BaseException.__getattribute__")))
    (eH : PySem.W.findIn K (.ref C) "__getattr__" = some none)
    (eA : PySem.W.findIn K (.ref C) "__class__" = some (some (.builtin "object.__class__")))
    (eN : PySem.W.specialIn K (.builtin "object.__class__") "__get__" = some (some (.builtin "getset_descriptor.__get__")))
    (eP : PySem.W.takesIn K (.builtin "object.__class__") = some true)
    (eM : PySem.W.mroIn K C (.type "object") = some true)
    (eX : PySem.W.excIn K C [.type "ValueError", .type "Exception", .type "BaseException", .type "object"] "ValueError.__new__" = true)
    (eV : PySem.W.kitOne K (.ref C) (.type "ValueError") = some true)
    (ch : PySem.W.codeHdIn K c P0 = true)
    (nT : K.lookup P0 = none) :
    LamX.LawAtS l w K CX0 23 63 "_law_script" mg f0 h := by
  have e0 : f51 = f0 := Value.ref.inj (Option.some.inj ((PySem.W.mg_of X G a51).symm.trans hfa))
  subst e0
  have T : Top K mg (fun i => match i with | 6 => f6 | 7 => f7 | 8 => f8 | 9 => f9 | 10 => f10 | 12 => f12 | 13 => f13 | 14 => f14 | 15 => f15 | 16 => f16 | 17 => f17 | 18 => f18 | 19 => f19 | 21 => f21 | 22 => f22 | 23 => f23 | 24 => f24 | 25 => f25 | 26 => f26 | 27 => f27 | 28 => f28 | 29 => f29 | 31 => f31 | 32 => f32 | 33 => f33 | 34 => f34 | 35 => f35 | 36 => f36 | 37 => f37 | 38 => f38 | 39 => f39 | 40 => f40 | 41 => f41 | 42 => f42 | 43 => f43 | 44 => f44 | 45 => f45 | 46 => f46 | 47 => f47 | 48 => f48 | 49 => f49 | 50 => f50 | 51 => f51 | _ => 0) (fun i => match i with | 6 => PySem.W.fnOf "is_name" "is_name" (defArgs s6) (defBody s6) (defScope s6) .none kV6 dc6 pm6 an6 (cd6) ct6 | 7 => PySem.W.fnOf "is_rising" "is_rising" (defArgs s7) (defBody s7) (defScope s7) .none kV7 dc7 pm7 an7 (cd7) ct7 | 8 => PySem.W.fnOf "is_name_set" "is_name_set" (defArgs s8) (defBody s8) (defScope s8) .none kV8 dc8 pm8 an8 (cd8) ct8 | 9 => PySem.W.fnOf "set_of" "set_of" (defArgs s9) (defBody s9) (defScope s9) .none kV9 dc9 pm9 an9 (cd9) ct9 | 10 => PySem.W.fnOf "tupled" "tupled" (defArgs s10) (defBody s10) (defScope s10) .none kV10 dc10 pm10 an10 (cd10) ct10 | 12 => PySem.W.fnOf "table_of" "table_of" (defArgs s12) (defBody s12) (defScope s12) .none kV12 dc12 pm12 an12 (cd12) ct12 | 13 => PySem.W.fnOf "names_in" "names_in" (defArgs s13) (defBody s13) (defScope s13) .none kV13 dc13 pm13 an13 (cd13) ct13 | 14 => PySem.W.fnOf "check_names" "check_names" (defArgs s14) (defBody s14) (defScope s14) .none kV14 dc14 pm14 an14 (cd14) ct14 | 15 => PySem.W.fnOf "readers_of" "readers_of" (defArgs s15) (defBody s15) (defScope s15) .none kV15 dc15 pm15 an15 (cd15) ct15 | 16 => PySem.W.fnOf "slow_in" "slow_in" (defArgs s16) (defBody s16) (defScope s16) .none kV16 dc16 pm16 an16 (cd16) ct16 | 17 => PySem.W.fnOf "awaited_in" "awaited_in" (defArgs s17) (defBody s17) (defScope s17) .none kV17 dc17 pm17 an17 (cd17) ct17 | 18 => PySem.W.fnOf "is_order" "is_order" (defArgs s18) (defBody s18) (defScope s18) .none kV18 dc18 pm18 an18 (cd18) ct18 | 19 => PySem.W.fnOf "check_order" "check_order" (defArgs s19) (defBody s19) (defScope s19) .none kV19 dc19 pm19 an19 (cd19) ct19 | 21 => PySem.W.fnOf "reader_place" "reader_place" (defArgs s21) (defBody s21) (defScope s21) .none kV21 dc21 pm21 an21 (cd21) ct21 | 22 => PySem.W.fnOf "all_waits" "all_waits" (defArgs s22) (defBody s22) (defScope s22) .none kV22 dc22 pm22 an22 (cd22) ct22 | 23 => PySem.W.fnOf "are_meeting" "are_meeting" (defArgs s23) (defBody s23) (defScope s23) .none kV23 dc23 pm23 an23 (cd23) ct23 | 24 => PySem.W.fnOf "are_apart" "are_apart" (defArgs s24) (defBody s24) (defScope s24) .none kV24 dc24 pm24 an24 (cd24) ct24 | 25 => PySem.W.fnOf "adds_up" "adds_up" (defArgs s25) (defBody s25) (defScope s25) .none kV25 dc25 pm25 an25 (cd25) ct25 | 26 => PySem.W.fnOf "at_once" "at_once" (defArgs s26) (defBody s26) (defScope s26) .none kV26 dc26 pm26 an26 (cd26) ct26 | 27 => PySem.W.fnOf "most_at_once" "most_at_once" (defArgs s27) (defBody s27) (defScope s27) .none kV27 dc27 pm27 an27 (cd27) ct27 | 28 => PySem.W.fnOf "parted" "parted" (defArgs s28) (defBody s28) (defScope s28) .none kV28 dc28 pm28 an28 (.ref c) ct28 | 29 => PySem.W.fnOf "is_parted" "is_parted" (defArgs s29) (defBody s29) (defScope s29) .none kV29 dc29 pm29 an29 (cd29) ct29 | 31 => PySem.W.fnOf "_law_box" "_law_box" (defArgs s31) (defBody s31) (defScope s31) .none kV31 dc31 pm31 an31 (cd31) ct31 | 32 => PySem.W.fnOf "_law_take" "_law_take" (defArgs s32) (defBody s32) (defScope s32) .none kV32 dc32 pm32 an32 (cd32) ct32 | 33 => PySem.W.fnOf "_law_cells" "_law_cells" (defArgs s33) (defBody s33) (defScope s33) .none kV33 dc33 pm33 an33 (cd33) ct33 | 34 => PySem.W.fnOf "_law_of" "_law_of" (defArgs s34) (defBody s34) (defScope s34) .none kV34 dc34 pm34 an34 (cd34) ct34 | 35 => PySem.W.fnOf "_law_pick" "_law_pick" (defArgs s35) (defBody s35) (defScope s35) .none kV35 dc35 pm35 an35 (cd35) ct35 | 36 => PySem.W.fnOf "_law_same" "_law_same" (defArgs s36) (defBody s36) (defScope s36) .none kV36 dc36 pm36 an36 (cd36) ct36 | 37 => PySem.W.fnOf "_law_lists" "_law_lists" (defArgs s37) (defBody s37) (defScope s37) .none kV37 dc37 pm37 an37 (cd37) ct37 | 38 => PySem.W.fnOf "_law_block" "_law_block" (defArgs s38) (defBody s38) (defScope s38) .none kV38 dc38 pm38 an38 (cd38) ct38 | 39 => PySem.W.fnOf "_law_order" "_law_order" (defArgs s39) (defBody s39) (defScope s39) .none kV39 dc39 pm39 an39 (cd39) ct39 | 40 => PySem.W.fnOf "_law_inside" "_law_inside" (defArgs s40) (defBody s40) (defScope s40) .none kV40 dc40 pm40 an40 (cd40) ct40 | 41 => PySem.W.fnOf "_law_end" "_law_end" (defArgs s41) (defBody s41) (defScope s41) .none kV41 dc41 pm41 an41 (cd41) ct41 | 42 => PySem.W.fnOf "_law_awaited" "_law_awaited" (defArgs s42) (defBody s42) (defScope s42) .none kV42 dc42 pm42 an42 (cd42) ct42 | 43 => PySem.W.fnOf "_law_sets" "_law_sets" (defArgs s43) (defBody s43) (defScope s43) .none kV43 dc43 pm43 an43 (cd43) ct43 | 44 => PySem.W.fnOf "_law_adding" "_law_adding" (defArgs s44) (defBody s44) (defScope s44) .none kV44 dc44 pm44 an44 (cd44) ct44 | 45 => PySem.W.fnOf "_law_kit" "_law_kit" (defArgs s45) (defBody s45) (defScope s45) .none kV45 dc45 pm45 an45 (cd45) ct45 | 46 => PySem.W.fnOf "_law_heard" "_law_heard" (defArgs s46) (defBody s46) (defScope s46) .none kV46 dc46 pm46 an46 (cd46) ct46 | 47 => PySem.W.fnOf "_law_by_hand_right" "_law_by_hand_right" (defArgs s47) (defBody s47) (defScope s47) .none kV47 dc47 pm47 an47 (cd47) ct47 | 48 => PySem.W.fnOf "_law_fits_right" "_law_fits_right" (defArgs s48) (defBody s48) (defScope s48) .none kV48 dc48 pm48 an48 (cd48) ct48 | 49 => PySem.W.fnOf "_law_partings" "_law_partings" (defArgs s49) (defBody s49) (defScope s49) .none kV49 dc49 pm49 an49 (cd49) ct49 | 50 => PySem.W.fnOf "_law_right" "_law_right" (defArgs s50) (defBody s50) (defScope s50) .none kV50 dc50 pm50 an50 (cd50) ct50 | 51 => PySem.W.fnOf "law" "law" (defArgs s51) (defBody s51) (defScope s51) .none kV51 dc51 pm51 an51 (cd51) ct51 | _ => PySem.W.fnOf "" "" (defArgs s6) (defBody s6) (defScope s6) .none .none .none .none none .none .none) (fun i => match i with | 0 => t0 | _ => t1) := {
    m_ValueError := PySem.W.mg_none_of X G z_ValueError
    m_abs := PySem.W.mg_none_of X G z_abs
    m_all := PySem.W.mg_none_of X G z_all
    m_any := PySem.W.mg_none_of X G z_any
    m_bool := PySem.W.mg_none_of X G z_bool
    m_dict := PySem.W.mg_none_of X G z_dict
    m_enumerate := PySem.W.mg_none_of X G z_enumerate
    m_int := PySem.W.mg_none_of X G z_int
    m_isinstance := PySem.W.mg_none_of X G z_isinstance
    m_len := PySem.W.mg_none_of X G z_len
    m_list := PySem.W.mg_none_of X G z_list
    m_max := PySem.W.mg_none_of X G z_max
    m_min := PySem.W.mg_none_of X G z_min
    m_range := PySem.W.mg_none_of X G z_range
    m_set := PySem.W.mg_none_of X G z_set
    m_sorted := PySem.W.mg_none_of X G z_sorted
    m_str := PySem.W.mg_none_of X G z_str
    m_sum := PySem.W.mg_none_of X G z_sum
    m_tuple := PySem.W.mg_none_of X G z_tuple
    m_zip := PySem.W.mg_none_of X G z_zip
    g_LETTERS := PySem.W.mg_of X G vL
    g_LONGEST := PySem.W.mg_of X G vM
    F6 := fun_mk (st := s6) l6 c6 k6
    g6 := PySem.W.mg_of X G a6
    F7 := fun_mk (st := s7) l7 c7 k7
    g7 := PySem.W.mg_of X G a7
    F8 := fun_mk (st := s8) l8 c8 k8
    g8 := PySem.W.mg_of X G a8
    F9 := fun_mk (st := s9) l9 c9 k9
    g9 := PySem.W.mg_of X G a9
    F10 := fun_mk (st := s10) l10 c10 k10
    g10 := PySem.W.mg_of X G a10
    F12 := fun_mk (st := s12) l12 c12 k12
    g12 := PySem.W.mg_of X G a12
    F13 := fun_mk (st := s13) l13 c13 k13
    g13 := PySem.W.mg_of X G a13
    F14 := fun_mk (st := s14) l14 c14 k14
    g14 := PySem.W.mg_of X G a14
    F15 := fun_mk (st := s15) l15 c15 k15
    g15 := PySem.W.mg_of X G a15
    F16 := fun_mk (st := s16) l16 c16 k16
    g16 := PySem.W.mg_of X G a16
    F17 := fun_mk (st := s17) l17 c17 k17
    g17 := PySem.W.mg_of X G a17
    F18 := fun_mk (st := s18) l18 c18 k18
    g18 := PySem.W.mg_of X G a18
    F19 := fun_mk (st := s19) l19 c19 k19
    g19 := PySem.W.mg_of X G a19
    F21 := fun_mk (st := s21) l21 c21 k21
    g21 := PySem.W.mg_of X G a21
    F22 := fun_mk (st := s22) l22 c22 k22
    g22 := PySem.W.mg_of X G a22
    F23 := fun_mk (st := s23) l23 c23 k23
    g23 := PySem.W.mg_of X G a23
    F24 := fun_mk (st := s24) l24 c24 k24
    g24 := PySem.W.mg_of X G a24
    F25 := fun_mk (st := s25) l25 c25 k25
    g25 := PySem.W.mg_of X G a25
    F26 := fun_mk (st := s26) l26 c26 k26
    g26 := PySem.W.mg_of X G a26
    F27 := fun_mk (st := s27) l27 c27 k27
    g27 := PySem.W.mg_of X G a27
    F28 := fun_mk (st := s28) l28 c28 k28
    g28 := PySem.W.mg_of X G a28
    F29 := fun_mk (st := s29) l29 c29 k29
    g29 := PySem.W.mg_of X G a29
    F31 := fun_mk (st := s31) l31 c31 k31
    g31 := PySem.W.mg_of X G a31
    F32 := fun_mk (st := s32) l32 c32 k32
    g32 := PySem.W.mg_of X G a32
    F33 := fun_mk (st := s33) l33 c33 k33
    g33 := PySem.W.mg_of X G a33
    F34 := fun_mk (st := s34) l34 c34 k34
    g34 := PySem.W.mg_of X G a34
    F35 := fun_mk (st := s35) l35 c35 k35
    g35 := PySem.W.mg_of X G a35
    F36 := fun_mk (st := s36) l36 c36 k36
    g36 := PySem.W.mg_of X G a36
    F37 := fun_mk (st := s37) l37 c37 k37
    g37 := PySem.W.mg_of X G a37
    F38 := fun_mk (st := s38) l38 c38 k38
    g38 := PySem.W.mg_of X G a38
    F39 := fun_mk (st := s39) l39 c39 k39
    g39 := PySem.W.mg_of X G a39
    F40 := fun_mk (st := s40) l40 c40 k40
    g40 := PySem.W.mg_of X G a40
    F41 := fun_mk (st := s41) l41 c41 k41
    g41 := PySem.W.mg_of X G a41
    F42 := fun_mk (st := s42) l42 c42 k42
    g42 := PySem.W.mg_of X G a42
    F43 := fun_mk (st := s43) l43 c43 k43
    g43 := PySem.W.mg_of X G a43
    F44 := fun_mk (st := s44) l44 c44 k44
    g44 := PySem.W.mg_of X G a44
    F45 := fun_mk (st := s45) l45 c45 k45
    g45 := PySem.W.mg_of X G a45
    F46 := fun_mk (st := s46) l46 c46 k46
    g46 := PySem.W.mg_of X G a46
    F47 := fun_mk (st := s47) l47 c47 k47
    g47 := PySem.W.mg_of X G a47
    F48 := fun_mk (st := s48) l48 c48 k48
    g48 := PySem.W.mg_of X G a48
    F49 := fun_mk (st := s49) l49 c49 k49
    g49 := PySem.W.mg_of X G a49
    F50 := fun_mk (st := s50) l50 c50 k50
    g50 := PySem.W.mg_of X G a50
    F51 := fun_mk (st := s51) l51 c51 k51
    g51 := PySem.W.mg_of X G a51
  }
  have O : Oops K mg C [.type "ValueError", .type "Exception", .type "BaseException", .type "object"] := ⟨PySem.W.mg_of X G eC, eX, eK, eS, eT, ⟨eG, eH, eS, eD, eA, eN, eP, eM⟩, PySem.W.exm_ref eS eD eT eS2, eV⟩
  have XF := PySem.F.excBase_ValueError
  refine ⟨PySem.W.fnOf "law" "law" (defArgs s51) (defBody s51) (defScope s51) .none kV51 dc51 pm51 an51 cd51 ct51, [(c, P0)], sp51 [(P0, fun _ _ => qL)] K, fun p hp => ?_, fun p hp => ?_, fun p hp => ?_, fun s u => .of_eq rfl, fun H a ns hl _ hP hS => law_at hl (hP _ (List.mem_singleton.mpr rfl)) hS, fun base _ _ hB => ?_⟩
  · rw [List.mem_singleton.mp hp]
    exact hT
  · rw [List.mem_singleton.mp hp]
    exact nT
  · rw [List.mem_singleton.mp hp]
    exact PySem.W.codeHd_of_K X ch
  have TB := hB (c, P0) (List.mem_singleton.mpr rfl)
  have G6 := ok6 (P := l.prog) (w := w) (base := base) (Z := [(P0, fun _ _ => qL)]) T
  have G7 := ok7 (P := l.prog) (w := w) (base := base) (Z := [(P0, fun _ _ => qL)]) T
  have G8 := ok8 (P := l.prog) (w := w) (base := base) (Z := [(P0, fun _ _ => qL)]) T G6 G7
  have G9 := ok9 (P := l.prog) (w := w) (base := base) (Z := [(P0, fun _ _ => qL)]) T
  have G10 := ok10 (P := l.prog) (w := w) (base := base) (Z := [(P0, fun _ _ => qL)]) T 11
  have G12 := ok12 (P := l.prog) (w := w) (base := base) (Z := [(P0, fun _ _ => qL)]) T G10
  have G13 := ok13 (P := l.prog) (w := w) (base := base) (Z := [(P0, fun _ _ => qL)]) T G10
  have G14 := ok14 (P := l.prog) (w := w) (base := base) (Z := [(P0, fun _ _ => qL)]) T G13
  have G15 := ok15 (P := l.prog) (w := w) (base := base) (Z := [(P0, fun _ _ => qL)]) T G10 G14
  have G16 := ok16 (P := l.prog) (w := w) (base := base) (Z := [(P0, fun _ _ => qL)]) T G10
  have G17 := ok17 (P := l.prog) (w := w) (base := base) (Z := [(P0, fun _ _ => qL)]) T G10 G15 G16
  have G18 := ok18 (P := l.prog) (w := w) (base := base) (Z := [(P0, fun _ _ => qL)]) T G6 G12 G13
  have G19 := ok19 (P := l.prog) (w := w) (base := base) (Z := [(P0, fun _ _ => qL)]) T G10 G18
  have GX19 := okX19 (P := l.prog) (w := w) (base := base) (Z := [(P0, fun _ _ => qL)]) T O XF G10 G18
  have G21 := ok21 (P := l.prog) (w := w) (base := base) (Z := [(P0, fun _ _ => qL)]) T G15
  have G22 := ok22 (P := l.prog) (w := w) (base := base) (Z := [(P0, fun _ _ => qL)]) T G10 G17 G19 G21
  have GX22 := okX22 (P := l.prog) (w := w) (base := base) (Z := [(P0, fun _ _ => qL)]) T GX19
  have G23 := ok23 (P := l.prog) (w := w) (base := base) (Z := [(P0, fun _ _ => qL)]) T
  have G24 := ok24 (P := l.prog) (w := w) (base := base) (Z := [(P0, fun _ _ => qL)]) T G23
  have G25 := ok25 (P := l.prog) (w := w) (base := base) (Z := [(P0, fun _ _ => qL)]) T G10 G14 G22 G24
  have G26 := ok26 (P := l.prog) (w := w) (base := base) (Z := [(P0, fun _ _ => qL)]) T G9 G22
  have G27 := ok27 (P := l.prog) (w := w) (base := base) (Z := [(P0, fun _ _ => qL)]) T G26
  have G28 := ok28 (P := l.prog) (w := w) (base := base) (Z := [(P0, fun _ _ => qL)]) T G9 G22 TB (List.mem_singleton.mpr rfl) (fun q hq _ => by rw [List.mem_singleton.mp hq]) rfl l28 c28
  have GX28 := okX28 (P := l.prog) (w := w) (base := base) (Z := [(P0, fun _ _ => qL)]) T GX22
  have G29 := ok29 (P := l.prog) (w := w) (base := base) (Z := [(P0, fun _ _ => qL)]) T G8 G22 G24 G27
  have GX29 := okX29 (P := l.prog) (w := w) (base := base) (Z := [(P0, fun _ _ => qL)]) T GX22
  have G31 := ok31 (P := l.prog) (w := w) (base := base) (Z := [(P0, fun _ _ => qL)]) T
  have G32 := ok32 (P := l.prog) (w := w) (base := base) (Z := [(P0, fun _ _ => qL)]) T
  have G33 := ok33 (P := l.prog) (w := w) (base := base) (Z := [(P0, fun _ _ => qL)]) T
  have G34 := ok34 (P := l.prog) (w := w) (base := base) (Z := [(P0, fun _ _ => qL)]) T G32
  have G35 := ok35 (P := l.prog) (w := w) (base := base) (Z := [(P0, fun _ _ => qL)]) T G32
  have G36 := ok36 (P := l.prog) (w := w) (base := base) (Z := [(P0, fun _ _ => qL)]) T 11
  have G37 := ok37 (P := l.prog) (w := w) (base := base) (Z := [(P0, fun _ _ => qL)]) T 11
  have G38 := ok38 (P := l.prog) (w := w) (base := base) (Z := [(P0, fun _ _ => qL)]) T G32 G34 G35
  have G40 := ok40 (P := l.prog) (w := w) (base := base) (Z := [(P0, fun _ _ => qL)]) T
  have G39 := ok39 (P := l.prog) (w := w) (base := base) (Z := [(P0, fun _ _ => qL)]) T G34 G40
  have G41 := ok41 (P := l.prog) (w := w) (base := base) (Z := [(P0, fun _ _ => qL)]) T
  have G42 := ok42 (P := l.prog) (w := w) (base := base) (Z := [(P0, fun _ _ => qL)]) T
  have G43 := ok43 (P := l.prog) (w := w) (base := base) (Z := [(P0, fun _ _ => qL)]) T
  have G44 := ok44 (P := l.prog) (w := w) (base := base) (Z := [(P0, fun _ _ => qL)]) T G41 G42 G43
  have G45 := ok45 (P := l.prog) (w := w) (base := base) (Z := [(P0, fun _ _ => qL)]) T
  have G46 := ok46 (P := l.prog) (w := w) (base := base) (Z := [(P0, fun _ _ => qL)]) T O GX28 GX29
  have G48 := ok48 (P := l.prog) (w := w) (base := base) (Z := [(P0, fun _ _ => qL)]) T G28 G29 G36
  have G47 := ok47 (P := l.prog) (w := w) (base := base) (Z := [(P0, fun _ _ => qL)]) T G28 G29 G36 G37 G45 G46 G48
  have G49 := ok49 (P := l.prog) (w := w) (base := base) (Z := [(P0, fun _ _ => qL)]) T
  have G50 := ok50 (P := l.prog) (w := w) (base := base) (Z := [(P0, fun _ _ => qL)]) T G17 G25 G27 G28 G29 G32 G35 G36 G38 G39 G42 G44 G49
  have G51 := ok51 (P := l.prog) (w := w) (base := base) (Z := [(P0, fun _ _ => qL)]) T G31 G33 G47 G50
  exact G51
end K21

open PySem PySem.W PyProof.Rows in
set_option maxRecDepth 100000 in
set_option maxHeartbeats 0 in
theorem PySem.Challenge.cw_anylatency_k21_whole_parted_into_fewest_holds : PySem.Challenge.rw_anylatency_k21_whole_parted_into_fewest.Holds := by
  w_on; o_law; k_head; (case hw => w_witness2)
  k_fill
  refine LamX.walk_ofTs (l := PySem.Challenge.rw_anylatency_k21_whole_parted_into_fewest) (n := 63) (k := 23) (x := "_law_script") (CX := fun _ => L2.CX0) rfl (by decide) rfl ⟨rfl, by decide, by decide⟩ (fun w h Y => PySem.W.km_in_of Y) ?F (fun _ _ _ _ _ z => z)
  case F =>
    intro w mg fa h Y KX G hmg
    refine' K21.all_mk KX G hmg ?hT ?a6 ?l6 ?c6 ?k6 ?a7 ?l7 ?c7 ?k7 ?a8 ?l8 ?c8 ?k8 ?a9 ?l9 ?c9 ?k9 ?a10 ?l10 ?c10 ?k10 ?a12 ?l12 ?c12 ?k12 ?a13 ?l13 ?c13 ?k13 ?a14 ?l14 ?c14 ?k14 ?a15 ?l15 ?c15 ?k15 ?a16 ?l16 ?c16 ?k16 ?a17 ?l17 ?c17 ?k17 ?a18 ?l18 ?c18 ?k18 ?a19 ?l19 ?c19 ?k19 ?a21 ?l21 ?c21 ?k21 ?a22 ?l22 ?c22 ?k22 ?a23 ?l23 ?c23 ?k23 ?a24 ?l24 ?c24 ?k24 ?a25 ?l25 ?c25 ?k25 ?a26 ?l26 ?c26 ?k26 ?a27 ?l27 ?c27 ?k27 ?a28 ?l28 ?c28 ?k28 ?a29 ?l29 ?c29 ?k29 ?a31 ?l31 ?c31 ?k31 ?a32 ?l32 ?c32 ?k32 ?a33 ?l33 ?c33 ?k33 ?a34 ?l34 ?c34 ?k34 ?a35 ?l35 ?c35 ?k35 ?a36 ?l36 ?c36 ?k36 ?a37 ?l37 ?c37 ?k37 ?a38 ?l38 ?c38 ?k38 ?a39 ?l39 ?c39 ?k39 ?a40 ?l40 ?c40 ?k40 ?a41 ?l41 ?c41 ?k41 ?a42 ?l42 ?c42 ?k42 ?a43 ?l43 ?c43 ?k43 ?a44 ?l44 ?c44 ?k44 ?a45 ?l45 ?c45 ?k45 ?a46 ?l46 ?c46 ?k46 ?a47 ?l47 ?c47 ?k47 ?a48 ?l48 ?c48 ?k48 ?a49 ?l49 ?c49 ?k49 ?a50 ?l50 ?c50 ?k50 ?a51 ?l51 ?c51 ?k51 ?z_ValueError ?z_abs ?z_all ?z_any ?z_bool ?z_dict ?z_enumerate ?z_int ?z_isinstance ?z_len ?z_list ?z_max ?z_min ?z_range ?z_set ?z_sorted ?z_str ?z_sum ?z_tuple ?z_zip ?vL ?vM ?eC ?eK ?eS ?eS2 ?eT ?eD ?eG ?eH ?eA ?eN ?eP ?eM ?eX ?eV ?ch ?nT
    rotate_left
    (case a6 => k_is)
    (case l6 => k_is)
    (case c6 => k_is)
    (case k6 => k_is)
    (case a7 => k_is)
    (case l7 => k_is)
    (case c7 => k_is)
    (case k7 => k_is)
    (case a8 => k_is)
    (case l8 => k_is)
    (case c8 => k_is)
    (case k8 => k_is)
    (case a9 => k_is)
    (case l9 => k_is)
    (case c9 => k_is)
    (case k9 => k_is)
    (case a10 => k_is)
    (case l10 => k_is)
    (case c10 => k_is)
    (case k10 => k_is)
    (case a12 => k_is)
    (case l12 => k_is)
    (case c12 => k_is)
    (case k12 => k_is)
    (case a13 => k_is)
    (case l13 => k_is)
    (case c13 => k_is)
    (case k13 => k_is)
    (case a14 => k_is)
    (case l14 => k_is)
    (case c14 => k_is)
    (case k14 => k_is)
    (case a15 => k_is)
    (case l15 => k_is)
    (case c15 => k_is)
    (case k15 => k_is)
    (case a16 => k_is)
    (case l16 => k_is)
    (case c16 => k_is)
    (case k16 => k_is)
    (case a17 => k_is)
    (case l17 => k_is)
    (case c17 => k_is)
    (case k17 => k_is)
    (case a18 => k_is)
    (case l18 => k_is)
    (case c18 => k_is)
    (case k18 => k_is)
    (case a19 => k_is)
    (case l19 => k_is)
    (case c19 => k_is)
    (case k19 => k_is)
    (case a21 => k_is)
    (case l21 => k_is)
    (case c21 => k_is)
    (case k21 => k_is)
    (case a22 => k_is)
    (case l22 => k_is)
    (case c22 => k_is)
    (case k22 => k_is)
    (case a23 => k_is)
    (case l23 => k_is)
    (case c23 => k_is)
    (case k23 => k_is)
    (case a24 => k_is)
    (case l24 => k_is)
    (case c24 => k_is)
    (case k24 => k_is)
    (case a25 => k_is)
    (case l25 => k_is)
    (case c25 => k_is)
    (case k25 => k_is)
    (case a26 => k_is)
    (case l26 => k_is)
    (case c26 => k_is)
    (case k26 => k_is)
    (case a27 => k_is)
    (case l27 => k_is)
    (case c27 => k_is)
    (case k27 => k_is)
    (case a28 => k_is)
    (case l28 => k_is)
    (case c28 => k_is)
    (case k28 => k_is)
    (case a29 => k_is)
    (case l29 => k_is)
    (case c29 => k_is)
    (case k29 => k_is)
    (case a31 => k_is)
    (case l31 => k_is)
    (case c31 => k_is)
    (case k31 => k_is)
    (case a32 => k_is)
    (case l32 => k_is)
    (case c32 => k_is)
    (case k32 => k_is)
    (case a33 => k_is)
    (case l33 => k_is)
    (case c33 => k_is)
    (case k33 => k_is)
    (case a34 => k_is)
    (case l34 => k_is)
    (case c34 => k_is)
    (case k34 => k_is)
    (case a35 => k_is)
    (case l35 => k_is)
    (case c35 => k_is)
    (case k35 => k_is)
    (case a36 => k_is)
    (case l36 => k_is)
    (case c36 => k_is)
    (case k36 => k_is)
    (case a37 => k_is)
    (case l37 => k_is)
    (case c37 => k_is)
    (case k37 => k_is)
    (case a38 => k_is)
    (case l38 => k_is)
    (case c38 => k_is)
    (case k38 => k_is)
    (case a39 => k_is)
    (case l39 => k_is)
    (case c39 => k_is)
    (case k39 => k_is)
    (case a40 => k_is)
    (case l40 => k_is)
    (case c40 => k_is)
    (case k40 => k_is)
    (case a41 => k_is)
    (case l41 => k_is)
    (case c41 => k_is)
    (case k41 => k_is)
    (case a42 => k_is)
    (case l42 => k_is)
    (case c42 => k_is)
    (case k42 => k_is)
    (case a43 => k_is)
    (case l43 => k_is)
    (case c43 => k_is)
    (case k43 => k_is)
    (case a44 => k_is)
    (case l44 => k_is)
    (case c44 => k_is)
    (case k44 => k_is)
    (case a45 => k_is)
    (case l45 => k_is)
    (case c45 => k_is)
    (case k45 => k_is)
    (case a46 => k_is)
    (case l46 => k_is)
    (case c46 => k_is)
    (case k46 => k_is)
    (case a47 => k_is)
    (case l47 => k_is)
    (case c47 => k_is)
    (case k47 => k_is)
    (case a48 => k_is)
    (case l48 => k_is)
    (case c48 => k_is)
    (case k48 => k_is)
    (case a49 => k_is)
    (case l49 => k_is)
    (case c49 => k_is)
    (case k49 => k_is)
    (case a50 => k_is)
    (case l50 => k_is)
    (case c50 => k_is)
    (case k50 => k_is)
    (case a51 => k_is)
    (case l51 => k_is)
    (case c51 => k_is)
    (case k51 => k_is)
    (case z_ValueError => k_is)
    (case z_abs => k_is)
    (case z_all => k_is)
    (case z_any => k_is)
    (case z_bool => k_is)
    (case z_dict => k_is)
    (case z_enumerate => k_is)
    (case z_int => k_is)
    (case z_isinstance => k_is)
    (case z_len => k_is)
    (case z_list => k_is)
    (case z_max => k_is)
    (case z_min => k_is)
    (case z_range => k_is)
    (case z_set => k_is)
    (case z_sorted => k_is)
    (case z_str => k_is)
    (case z_sum => k_is)
    (case z_tuple => k_is)
    (case z_zip => k_is)
    (case vL => k_is)
    (case vM => k_is)
    (case eC => k_is)
    (case eK => k_is)
    (case eS => k_is)
    (case eS2 => k_is)
    (case eT => k_is)
    (case eD => k_is)
    (case eG => k_is)
    (case eH => k_is)
    (case eA => k_is)
    (case eN => k_is)
    (case eP => k_is)
    (case eM => k_is)
    (case eX => kernel_rfl)
    (case eV => kernel_rfl)
    (case ch => kernel_rfl)
    (case nT => kernel_rfl)
    (case hT => exact PySem.W.km_tabs_of Y _ (by k_mem))
