import PyProof.Rows.All
import Wide.All
import OpenK.AllK
import Wide.FinOn
import HandS.ForMost
import HandS.ForExc
import HandS.SortInts
import HandS.IsInst
import HandS.ExcIs
import HandS.Style
import HandS.Conv
import HandS.Wide
import HandS.Steps
import HandS.SetFor
import HandS.SortKw
import KE.KMinKey
import PyProof.MinMaxWalk
import PyProof.WalkInts
import HandS.Dict
import KE.KDictDisplayH
import PySem.Challenge.RW_rodbeads_k15_fillings
set_option Elab.async false
set_option linter.all false
set_option maxRecDepth 100000
set_option maxHeartbeats 4000000
/-! # A calculus over the hand layer's readings: what a reading does, told on plain data alone -/
namespace Pur
open PySem L2
abbrev Frg := PySem.W.Frag
abbrev DE := List (Option PyData)
/-! ## data in the heap -/
mutual
/-- v is the data d, read in H -/
inductive Rp (K : Frg) (H : Hp) : V → PyData → Prop
  | non : Rp K H .non .none
  | bl (b : Bool) : Rp K H (.bl b) (.bool b)
  | int (i : Int) : Rp K H (.int i) (.int i)
  | str (x : Str) : Rp K H (.str x) (.str x)
  | lst {a : Addr} {xs : List V} {ds : List PyData} : H a = some (.lst xs) → RpAll K H xs ds → Rp K H (.ref a) (.list ds)
  | tup {a : Addr} {xs : List V} {ds : List PyData} : H a = some (.tup xs) → RpAll K H xs ds → Rp K H (.ref a) (.tuple ds)
  | scr {a : Addr} {ns : List Int} : SqL K H a (ns.map V.int) → Rp K H (.ref a) (.dict (ns.map fun n => (.int n, .none)))
  | adr (a : Addr) : Rp K H (.ref a) (.dict [(.int a, .bool true)])
inductive RpAll (K : Frg) (H : Hp) : List V → List PyData → Prop
  | nil : RpAll K H [] []
  | cons {v : V} {vs : List V} {d : PyData} {ds : List PyData} : Rp K H v d → RpAll K H vs ds → RpAll K H (v :: vs) (d :: ds)
end
mutual
/-- v is the data d, all of it at the addresses F, each once -/
inductive Ow (H : Hp) : V → PyData → List Addr → Prop
  | non : Ow H .non .none []
  | bl (b : Bool) : Ow H (.bl b) (.bool b) []
  | int (i : Int) : Ow H (.int i) (.int i) []
  | str (x : Str) : Ow H (.str x) (.str x) []
  | lst {a : Addr} {xs : List V} {ds : List PyData} {F : List Addr} : H a = some (.lst xs) → OwAll H xs ds F → a ∉ F → Ow H (.ref a) (.list ds) (a :: F)
  | tup {a : Addr} {xs : List V} {ds : List PyData} {F : List Addr} : H a = some (.tup xs) → OwAll H xs ds F → a ∉ F → Ow H (.ref a) (.tuple ds) (a :: F)
inductive OwAll (H : Hp) : List V → List PyData → List Addr → Prop
  | nil : OwAll H [] [] []
  | cons {v : V} {vs : List V} {d : PyData} {ds : List PyData} {F G : List Addr} : Ow H v d F → OwAll H vs ds G → (∀ a ∈ F, a ∉ G) → OwAll H (v :: vs) (d :: ds) (F ++ G)
end
section
variable {K : Frg} {H H' : Hp}
mutual
theorem Rp.mono (e : Same H H') : ∀ {d : PyData} {v : V}, Rp K H v d → Rp K H' v d
  | .none, _, h => by cases h; exact .non
  | .bool _, _, h => by cases h; exact .bl _
  | .int _, _, h => by cases h; exact .int _
  | .str _, _, h => by cases h; exact .str _
  | .list _, _, h => by cases h with | lst ha hs => exact .lst (e _ _ ha) (RpAll.mono e hs)
  | .tuple _, _, h => by cases h with | tup ha hs => exact .tup (e _ _ ha) (RpAll.mono e hs)
  | .dict _, _, h => by
    cases h with
    | scr hs => exact .scr (e.seq hs)
    | adr a => exact .adr a
theorem RpAll.mono (e : Same H H') : ∀ {ds : List PyData} {vs : List V}, RpAll K H vs ds → RpAll K H' vs ds
  | [], _, h => by cases h; exact .nil
  | _ :: _, _, h => by cases h with | cons h1 h2 => exact .cons (Rp.mono e h1) (RpAll.mono e h2)
end
mutual
theorem Ow.keep : ∀ {d : PyData} {v : V} {F : List Addr}, Ow H v d F → (∀ a ∈ F, H' a = H a) → Ow H' v d F
  | .none, _, _, h, _ => by cases h; exact .non
  | .bool _, _, _, h, _ => by cases h; exact .bl _
  | .int _, _, _, h, _ => by cases h; exact .int _
  | .str _, _, _, h, _ => by cases h; exact .str _
  | .list _, _, _, h, k => by
    cases h with
    | lst ha hs hn => exact .lst ((k _ List.mem_cons_self).trans ha) (OwAll.keep hs fun a m => k a (List.mem_cons_of_mem _ m)) hn
  | .tuple _, _, _, h, k => by
    cases h with
    | tup ha hs hn => exact .tup ((k _ List.mem_cons_self).trans ha) (OwAll.keep hs fun a m => k a (List.mem_cons_of_mem _ m)) hn
  | .dict _, _, _, h, _ => by cases h
theorem OwAll.keep : ∀ {ds : List PyData} {vs : List V} {F : List Addr}, OwAll H vs ds F → (∀ a ∈ F, H' a = H a) → OwAll H' vs ds F
  | [], _, _, h, _ => by cases h; exact .nil
  | _ :: _, _, _, h, k => by
    cases h with
    | cons h1 h2 hd => exact .cons (Ow.keep h1 fun a m => k a (List.mem_append_left _ m)) (OwAll.keep h2 fun a m => k a (List.mem_append_right _ m)) hd
end
mutual
/-- read in any heap that has the same at F -/
theorem Ow.rpz : ∀ {d : PyData} {v : V} {F : List Addr}, Ow H v d F → (∀ a ∈ F, H' a = H a) → Rp K H' v d
  | .none, _, _, h, _ => by cases h; exact .non
  | .bool _, _, _, h, _ => by cases h; exact .bl _
  | .int _, _, _, h, _ => by cases h; exact .int _
  | .str _, _, _, h, _ => by cases h; exact .str _
  | .list _, _, _, h, k => by
    cases h with
    | lst ha hs hn => exact .lst ((k _ List.mem_cons_self).trans ha) (OwAll.rpz hs fun a m => k a (List.mem_cons_of_mem _ m))
  | .tuple _, _, _, h, k => by
    cases h with
    | tup ha hs hn => exact .tup ((k _ List.mem_cons_self).trans ha) (OwAll.rpz hs fun a m => k a (List.mem_cons_of_mem _ m))
  | .dict _, _, _, h, _ => by cases h
theorem OwAll.rpz : ∀ {ds : List PyData} {vs : List V} {F : List Addr}, OwAll H vs ds F → (∀ a ∈ F, H' a = H a) → RpAll K H' vs ds
  | [], _, _, h, _ => by cases h; exact .nil
  | _ :: _, _, _, h, k => by
    cases h with
    | cons h1 h2 hd => exact .cons (Ow.rpz h1 fun a m => k a (List.mem_append_left _ m)) (OwAll.rpz h2 fun a m => k a (List.mem_append_right _ m))
end
mutual
theorem Ow.dom : ∀ {d : PyData} {v : V} {F : List Addr}, Ow H v d F → ∀ a ∈ F, ∃ o, H a = some o
  | .none, _, _, h => by cases h; exact fun _ m => nomatch m
  | .bool _, _, _, h => by cases h; exact fun _ m => nomatch m
  | .int _, _, _, h => by cases h; exact fun _ m => nomatch m
  | .str _, _, _, h => by cases h; exact fun _ m => nomatch m
  | .list _, _, _, h => by
    cases h with
    | lst ha hs hn =>
      intro a m
      rcases List.mem_cons.mp m with rfl | m
      · exact ⟨_, ha⟩
      · exact OwAll.dom hs a m
  | .tuple _, _, _, h => by
    cases h with
    | tup ha hs hn =>
      intro a m
      rcases List.mem_cons.mp m with rfl | m
      · exact ⟨_, ha⟩
      · exact OwAll.dom hs a m
  | .dict _, _, _, h => by cases h
theorem OwAll.dom : ∀ {ds : List PyData} {vs : List V} {F : List Addr}, OwAll H vs ds F → ∀ a ∈ F, ∃ o, H a = some o
  | [], _, _, h => by cases h; exact fun _ m => nomatch m
  | _ :: _, _, _, h => by
    cases h with
    | cons h1 h2 hd =>
      intro a m
      rcases List.mem_append.mp m with m | m
      · exact Ow.dom h1 a m
      · exact OwAll.dom h2 a m
end
theorem Ow.rp {d : PyData} {v : V} {F : List Addr} (h : Ow H v d F) : Rp K H v d := h.rpz fun _ _ => rfl
theorem OwAll.rp {ds : List PyData} {vs : List V} {F : List Addr} (h : OwAll H vs ds F) : RpAll K H vs ds := h.rpz fun _ _ => rfl
theorem Ow.grow {d : PyData} {v : V} {F : List Addr} (h : Ow H v d F) (e : Same H H') : Ow H' v d F := h.keep fun a m => by
  obtain ⟨o, q⟩ := h.dom a m
  rw [q]
  exact e a o q
theorem OwAll.grow {ds : List PyData} {vs : List V} {F : List Addr} (h : OwAll H vs ds F) (e : Same H H') : OwAll H' vs ds F := h.keep fun a m => by
  obtain ⟨o, q⟩ := h.dom a m
  rw [q]
  exact e a o q
theorem RpAll.length : ∀ {ds : List PyData} {vs : List V}, RpAll K H vs ds → vs.length = ds.length
  | [], _, h => by cases h; rfl
  | _ :: _, _, h => by cases h with | cons _ h2 => exact congrArg (· + 1) (RpAll.length h2)
theorem RpAll.get : ∀ {ds : List PyData} {vs : List V} {i : Nat} {d : PyData}, RpAll K H vs ds → ds[i]? = some d → ∃ v, vs[i]? = some v ∧ Rp K H v d
  | [], _, _, _, _, e => by simp at e
  | _ :: _, _, 0, _, h, e => by
    cases h with
    | cons h1 _ =>
      simp at e
      subst e
      exact ⟨_, rfl, h1⟩
  | _ :: _, _, i + 1, _, h, e => by
    cases h with
    | cons _ h2 => exact RpAll.get (i := i) h2 (by simpa using e)
theorem RpAll.append : ∀ {ds es : List PyData} {vs us : List V}, RpAll K H vs ds → RpAll K H us es → RpAll K H (vs ++ us) (ds ++ es)
  | [], _, _, _, h, q => by cases h; exact q
  | _ :: _, _, _, _, h, q => by cases h with | cons h1 h2 => exact .cons h1 (RpAll.append h2 q)
theorem RpAll.rev : ∀ {ds : List PyData} {vs : List V}, RpAll K H vs ds → RpAll K H vs.reverse ds.reverse
  | [], _, h => by cases h; exact .nil
  | _ :: _, _, h => by
    cases h with
    | cons h1 h2 =>
      rw [List.reverse_cons, List.reverse_cons]
      exact RpAll.append (RpAll.rev h2) (.cons h1 .nil)
theorem RpAll.drop : ∀ {n : Nat} {ds : List PyData} {vs : List V}, RpAll K H vs ds → RpAll K H (vs.drop n) (ds.drop n)
  | 0, _, _, h => h
  | _ + 1, [], _, h => by cases h; exact .nil
  | n + 1, _ :: _, _, h => by cases h with | cons _ h2 => exact RpAll.drop (n := n) h2
theorem RpAll.take : ∀ {n : Nat} {ds : List PyData} {vs : List V}, RpAll K H vs ds → RpAll K H (vs.take n) (ds.take n)
  | 0, _, _, _ => .nil
  | _ + 1, [], _, h => by cases h; exact .nil
  | n + 1, _ :: _, _, h => by cases h with | cons h1 h2 => exact .cons h1 (RpAll.take (n := n) h2)
theorem Rp.int_eq {v : V} {i : Int} (h : Rp K H v (.int i)) : v = .int i := by cases h; rfl
theorem Rp.bl_eq {v : V} {b : Bool} (h : Rp K H v (.bool b)) : v = .bl b := by cases h; rfl
theorem Rp.str_eq {v : V} {x : Str} (h : Rp K H v (.str x)) : v = .str x := by cases h; rfl
theorem Rp.non_eq {v : V} (h : Rp K H v .none) : v = .non := by cases h; rfl
theorem RpAll.ints : ∀ {ns : List Int} {vs : List V}, RpAll K H vs (ns.map .int) → vs = ns.map V.int
  | [], _, h => by cases h; rfl
  | _ :: _, _, h => by
    cases h with
    | cons h1 h2 => rw [Rp.int_eq h1, RpAll.ints h2]; rfl
theorem RpAll.of_ints : ∀ (ns : List Int), RpAll K H (ns.map V.int) (ns.map .int)
  | [] => .nil
  | n :: ns => .cons (.int n) (RpAll.of_ints ns)
theorem OwAll.of_ints : ∀ (ns : List Int), OwAll H (ns.map V.int) (ns.map .int) []
  | [] => .nil
  | n :: ns => .cons (F := []) (G := []) (.int n) (OwAll.of_ints ns) (fun _ m => nomatch m)
theorem RpAll.strs : ∀ {ns : List Str} {vs : List V}, RpAll K H vs (ns.map .str) → vs = ns.map V.str
  | [], _, h => by cases h; rfl
  | _ :: _, _, h => by
    cases h with
    | cons h1 h2 => rw [Rp.str_eq h1, RpAll.strs h2]; rfl
theorem RpAll.of_strs : ∀ (ns : List Str), RpAll K H (ns.map V.str) (ns.map .str)
  | [] => .nil
  | n :: ns => .cons (.str n) (RpAll.of_strs ns)
theorem OwAll.of_strs : ∀ (ns : List Str), OwAll H (ns.map V.str) (ns.map .str) []
  | [] => .nil
  | n :: ns => .cons (F := []) (G := []) (.str n) (OwAll.of_strs ns) (fun _ m => nomatch m)
theorem OwAll.append : ∀ {ds es : List PyData} {vs us : List V} {F G : List Addr}, OwAll H vs ds F → OwAll H us es G → (∀ a ∈ F, a ∉ G) → OwAll H (vs ++ us) (ds ++ es) (F ++ G)
  | [], _, _, _, _, _, h, q, _ => by cases h; exact q
  | _ :: _, _, _, _, _, _, h, q, n => by
    cases h with
    | cons h1 h2 hd =>
      rw [List.append_assoc]
      refine .cons h1 (OwAll.append h2 q fun a m => n a (List.mem_append_right _ m)) fun a m z => ?_
      rcases List.mem_append.mp z with z | z
      · exact hd a m z
      · exact n a (List.mem_append_left _ m) z
theorem OwAll.length : ∀ {ds : List PyData} {vs : List V} {F : List Addr}, OwAll H vs ds F → vs.length = ds.length
  | [], _, _, h => by cases h; rfl
  | _ :: _, _, _, h => by cases h with | cons _ h2 _ => exact congrArg (· + 1) (OwAll.length h2)
end
/-- no address in it -/
def Scal : PyData → Prop
  | .none => True
  | .bool _ => True
  | .int _ => True
  | .str _ => True
  | _ => False
theorem Rp.ow {K : Frg} {H H' : Hp} {v : V} {d : PyData} (h : Rp K H v d) (s : Scal d) : Ow H' v d [] := by
  cases h with
  | non => exact .non
  | bl b => exact .bl b
  | int i => exact .int i
  | str x => exact .str x
  | lst _ _ => exact s.elim
  | tup _ _ => exact s.elim
  | scr _ => exact s.elim
  | adr _ => exact s.elim
theorem Rp.any {K : Frg} {H H' : Hp} {v : V} {d : PyData} (h : Rp K H v d) (s : Scal d) : Rp K H' v d := (h.ow (H' := H') s).rp
/-! ## data of ints -/
abbrev dR (r : List Int) : PyData := .list (r.map .int)
abbrev dRR (rr : List (List Int)) : PyData := .list (rr.map dR)
abbrev dS (xs : List Str) : PyData := .list (xs.map .str)
abbrev dScr (ns : List Int) : PyData := .dict (ns.map fun n => (.int n, .none))
abbrev dAdr (a : Addr) : PyData := .dict [(.int a, .bool true)]
theorem scr_inj : ∀ {ns ms : List Int}, (ns.map fun n => ((.int n, .none) : PyData × PyData)) = ms.map (fun n => (.int n, .none)) → ns = ms
  | [], [], _ => rfl
  | [], _ :: _, h => by cases h
  | _ :: _, [], h => by cases h
  | n :: ns, m :: ms, h => by
    rw [List.map_cons, List.map_cons] at h
    injection h with h1 h2
    injection h1 with h1 _
    injection h1 with h1
    rw [h1, scr_inj h2]
theorem Rp.script {K : Frg} {H : Hp} {v : V} {ns : List Int} (h : Rp K H v (dScr ns)) : ∃ a, v = .ref a ∧ (SqL K H a (ns.map V.int)) := by
  generalize e : dScr ns = d at h
  cases h with
  | scr hs =>
    have e2 := PyData.dict.inj e
    rw [scr_inj e2]
    exact ⟨_, rfl, hs⟩
  | adr a =>
    have e2 := PyData.dict.inj e
    cases ns with
    | nil => cases e2
    | cons n r => cases e2
  | _ => cases e
theorem Rp.list {K : Frg} {H : Hp} {v : V} {ds : List PyData} (h : Rp K H v (.list ds)) : ∃ a xs, v = .ref a ∧ H a = some (.lst xs) ∧ RpAll K H xs ds := by
  cases h with
  | lst ha hs => exact ⟨_, _, rfl, ha, hs⟩
theorem Rp.row {K : Frg} {H : Hp} {v : V} {r : List Int} (h : Rp K H v (dR r)) : ∃ a, v = .ref a ∧ H a = some (.lst (r.map V.int)) := by
  cases h with
  | lst ha hs => rw [RpAll.ints hs] at ha; exact ⟨_, rfl, ha⟩
theorem Rp.tuple {K : Frg} {H : Hp} {v : V} {ds : List PyData} (h : Rp K H v (.tuple ds)) : ∃ a xs, v = .ref a ∧ H a = some (.tup xs) ∧ RpAll K H xs ds := by
  cases h with
  | tup ha hs => exact ⟨_, _, rfl, ha, hs⟩
theorem sql {K : Frg} {H : Hp} {a : Addr} {xs : List V} (h : H a = some (.lst xs)) : SqL K H a xs := .inl (.inl h)
theorem sqt {K : Frg} {H : Hp} {a : Addr} {xs : List V} (h : H a = some (.tup xs)) : SqT K H a xs := .inl (.inl h)
theorem Ow.row {H : Hp} {a : Addr} {r : List Int} (h : H a = some (.lst (r.map V.int))) : Ow H (.ref a) (dR r) [a] := .lst h (OwAll.of_ints r) (fun m => nomatch m)
theorem same_upd {H : Hp} {p : Addr} {o : HO} (h : H p = none) : Same H (upd H p o) := fun b x e => by
  rw [upd_ne (ne_of_none e h)]
  exact e
theorem same_mut {H H' : Hp} {p : Addr} {o : HO} (e : Same H H') (h : H p = none) : Same H (upd H' p o) := fun a u ha => by
  rw [upd_ne (ne_of_none ha h)]
  exact e a u ha
/-! ## names' data -/
structure RelE (K : Frg) (ρ : DE) (σ : L2.St) (H : Hp) : Prop where
  len : ρ.length = σ.length
  get : ∀ (i : Nat) (d : PyData), ρ[i]? = some (some d) → ∃ v, σ[i]? = some (some v) ∧ Rp K H v d
def wipeD (ρ : DE) : List Nat → DE
  | [] => ρ
  | v :: vs => (wipeD ρ vs).set v none
section
variable {K : Frg} {H H' : Hp} {ρ : DE} {σ : L2.St}
theorem RelE.mono (R : RelE K ρ σ H) (e : Same H H') : RelE K ρ σ H' := ⟨R.len, fun i d h => by
  obtain ⟨v, h1, h2⟩ := R.get i d h
  exact ⟨v, h1, h2.mono e⟩⟩
theorem RelE.set (R : RelE K ρ σ H) {v : V} {d : PyData} (r : Rp K H v d) (i : Nat) : RelE K (ρ.set i (some d)) (σ.set i (some v)) H := by
  refine ⟨by rw [List.length_set, List.length_set]; exact R.len, fun j e h => ?_⟩
  rw [List.getElem?_set] at h
  rw [List.getElem?_set]
  by_cases hij : i = j
  · rw [if_pos hij] at h
    rw [if_pos hij]
    by_cases hl : i < ρ.length
    · rw [if_pos hl] at h
      rw [if_pos (by rw [← R.len]; exact hl)]
      cases h
      exact ⟨v, rfl, r⟩
    · rw [if_neg hl] at h
      cases h
  · rw [if_neg hij] at h
    rw [if_neg hij]
    exact R.get j e h
theorem RelE.unset (R : RelE K ρ σ H) (i : Nat) : RelE K (ρ.set i none) (σ.set i none) H := by
  refine ⟨by rw [List.length_set, List.length_set]; exact R.len, fun j e h => ?_⟩
  rw [List.getElem?_set] at h
  rw [List.getElem?_set]
  by_cases hij : i = j
  · rw [if_pos hij] at h
    by_cases hl : i < ρ.length
    · rw [if_pos hl] at h
      cases h
    · rw [if_neg hl] at h
      cases h
  · rw [if_neg hij] at h
    rw [if_neg hij]
    exact R.get j e h
theorem RelE.wipe (R : RelE K ρ σ H) : ∀ vs : List Nat, RelE K (wipeD ρ vs) (L2.wipe σ vs) H
  | [] => R
  | v :: vs => (R.wipe vs).unset v
end
/-! ## what a reading evaluates to -/
/-- it reads as d -/
def Evr (K : Frg) (te : TE) (ρ : DE) (d : PyData) : Prop := ∀ (σ : L2.St) (H : Hp) (Q : VK), RelE K ρ σ H → (∀ v H', Same H H' → Rp K H' v d → Q v H') → te σ H Q
/-- it gives d, new -/
def Evf (K : Frg) (te : TE) (ρ : DE) (d : PyData) : Prop := ∀ (σ : L2.St) (H : Hp) (Q : VK), RelE K ρ σ H → (∀ v H' F, Same H H' → Ow H' v d F → (∀ a ∈ F, H a = none) → Q v H') → te σ H Q
def Evt (K : Frg) (tt : TT) (ρ : DE) (b : Bool) : Prop := ∀ (σ : L2.St) (H : Hp) (Q : Bool → Hp → Prop), RelE K ρ σ H → (∀ H', Same H H' → Q b H') → tt σ H Q
def Eva (K : Frg) (ta : TA) (ρ : DE) (ds : List PyData) : Prop := ∀ (σ : L2.St) (H : Hp) (Q : List V → Hp → Prop), RelE K ρ σ H → (∀ vs H', Same H H' → RpAll K H' vs ds → Q vs H') → ta σ H Q
def Evaf (K : Frg) (ta : TA) (ρ : DE) (ds : List PyData) : Prop := ∀ (σ : L2.St) (H : Hp) (Q : List V → Hp → Prop), RelE K ρ σ H → (∀ vs H' F, Same H H' → OwAll H' vs ds F → (∀ a ∈ F, H a = none) → Q vs H') → ta σ H Q
def Evo (K : Frg) (to : TO) (ρ : DE) (o : Option Int) : Prop := ∀ (σ : L2.St) (H : Hp) (Q : Option Int → Hp → Prop), RelE K ρ σ H → (∀ H', Same H H' → Q o H') → to σ H Q
section
variable {K : Frg} {ρ : DE} {ta tb te tx : TE} {d e : PyData}
theorem Evf.r (h : Evf K te ρ d) : Evr K te ρ d := fun σ H Q R q => h σ H Q R fun v H' F e o _ => q v H' e o.rp
theorem Evr.f (h : Evr K te ρ d) (s : Scal d) : Evf K te ρ d := fun σ H Q R q => h σ H Q R fun v H' e r => q v H' [] e (r.ow s) fun _ m => nomatch m
theorem Evr.cast (h : Evr K te ρ d) (q : d = e) : Evr K te ρ e := q ▸ h
theorem Evf.cast (h : Evf K te ρ d) (q : d = e) : Evf K te ρ e := q ▸ h
theorem Evt.cast {tt : TT} {a b : Bool} (h : Evt K tt ρ a) (q : a = b) : Evt K tt ρ b := q ▸ h
theorem ev_var {i : Nat} (h : ρ[i]? = some (some d)) : Evr K (tVar i) ρ d := fun σ H Q R q => by
  obtain ⟨v, h1, h2⟩ := R.get i d h
  exact ⟨v, h1, q v H (Same.refl H) h2⟩
theorem ev_int {n : Int} : Evr K (tC (.int n)) ρ (.int n) := fun σ H Q _ q => q _ H (Same.refl H) (.int n)
theorem ev_bl {b : Bool} : Evr K (tC (.bl b)) ρ (.bool b) := fun σ H Q _ q => q _ H (Same.refl H) (.bl b)
theorem ev_str {x : Str} : Evr K (tC (.str x)) ρ (.str x) := fun σ H Q _ q => q _ H (Same.refl H) (.str x)
theorem ev_non : Evr K (tC .non) ρ .none := fun σ H Q _ q => q _ H (Same.refl H) .non
theorem ev_op {r : R2} {a b : PyData} (ha : Evr K ta ρ a) (hb : Evr K tb ρ b) (hr : ∀ (H : Hp) (x y : V) (Q : VK), Rp K H x a → Rp K H y b → (∀ v H', Same H H' → Rp K H' v d → Q v H') → r x y H Q) : Evr K (tOp r ta tb) ρ d :=
  fun σ H Q R q => ha σ H _ R fun x H1 e1 r1 => hb σ H1 _ (R.mono e1) fun y H2 e2 r2 => hr H2 x y Q (r1.mono e2) r2 fun v H3 e3 r3 => q v H3 ((e1.trans e2).trans e3) r3
theorem evf_op {r : R2} {a b : PyData} (ha : Evr K ta ρ a) (hb : Evr K tb ρ b) (hr : ∀ (H : Hp) (x y : V) (Q : VK), Rp K H x a → Rp K H y b → (∀ v H' F, Same H H' → Ow H' v d F → (∀ a ∈ F, H a = none) → Q v H') → r x y H Q) : Evf K (tOp r ta tb) ρ d :=
  fun σ H Q R q => ha σ H _ R fun x H1 e1 r1 => hb σ H1 _ (R.mono e1) fun y H2 e2 r2 => hr H2 x y Q (r1.mono e2) r2 fun v H3 F e3 r3 fr => q v H3 F ((e1.trans e2).trans e3) r3 fun a m => (e1.trans e2).free (fr a m)
theorem ev_un {r : V → Hp → VK → Prop} {a : PyData} (ha : Evr K ta ρ a) (hr : ∀ (H : Hp) (x : V) (Q : VK), Rp K H x a → (∀ v H', Same H H' → Rp K H' v d → Q v H') → r x H Q) : Evr K (tUn r ta) ρ d :=
  fun σ H Q R q => ha σ H _ R fun x H1 e1 r1 => hr H1 x Q r1 fun v H3 e3 r3 => q v H3 (e1.trans e3) r3
theorem eva_nil : Eva K tNil ρ [] := fun σ H Q _ q => q [] H (Same.refl H) .nil
theorem eva_cons {tr : TA} {ds : List PyData} (ha : Evr K ta ρ d) (hr : Eva K tr ρ ds) : Eva K (tCons ta tr) ρ (d :: ds) :=
  fun σ H Q R q => ha σ H _ R fun x H1 e1 r1 => hr σ H1 _ (R.mono e1) fun vs H2 e2 r2 => q _ H2 (e1.trans e2) (.cons (r1.mono e2) r2)
theorem evaf_nil : Evaf K tNil ρ [] := fun σ H Q _ q => q [] H [] (Same.refl H) .nil fun _ m => nomatch m
theorem evaf_cons {tr : TA} {ds : List PyData} (ha : Evf K ta ρ d) (hr : Evaf K tr ρ ds) : Evaf K (tCons ta tr) ρ (d :: ds) :=
  fun σ H Q R q => ha σ H _ R fun x H1 F e1 r1 f1 => hr σ H1 _ (R.mono e1) fun vs H2 G e2 r2 f2 => q _ H2 (F ++ G) (e1.trans e2) (.cons (r1.grow e2) r2 fun a m z => by
    obtain ⟨o, ho⟩ := r1.dom a m
    rw [f2 a z] at ho
    cases ho) fun a m => by
    rcases List.mem_append.mp m with m | m
    · exact f1 a m
    · exact e1.free (f2 a m)
/-- a call of a built-in, by its values -/
theorem ev_cb {r : List V → Hp → VK → Prop} {t : TA} {ds : List PyData} (ha : Eva K t ρ ds) (hr : ∀ (H : Hp) (vs : List V) (Q : VK), RpAll K H vs ds → (∀ v H', Same H H' → Rp K H' v d → Q v H') → r vs H Q) : Evr K (tCB r t) ρ d :=
  fun σ H Q R q => ha σ H _ R fun vs H1 e1 r1 => hr H1 vs Q r1 fun v H3 e3 r3 => q v H3 (e1.trans e3) r3
theorem evf_cb {r : List V → Hp → VK → Prop} {t : TA} {ds : List PyData} (ha : Eva K t ρ ds) (hr : ∀ (H : Hp) (vs : List V) (Q : VK), RpAll K H vs ds → (∀ v H' F, Same H H' → Ow H' v d F → (∀ a ∈ F, H a = none) → Q v H') → r vs H Q) : Evf K (tCB r t) ρ d :=
  fun σ H Q R q => ha σ H _ R fun vs H1 e1 r1 => hr H1 vs Q r1 fun v H3 F e3 r3 f3 => q v H3 F (e1.trans e3) r3 fun a m => e1.free (f3 a m)
end
end Pur

set_option Elab.async false
set_option linter.all false
set_option maxRecDepth 100000
set_option maxHeartbeats 4000000
namespace Pur
open PySem L2
/-! ## operators that serve several kinds -/
def rAddA : R2 := fun x y H Q => (∃ i j, x = .int i ∧ y = .int j ∧ Q (.int (i + j)) H) ∨ rCat x y H Q ∨ (∃ i j, x = .str i ∧ y = .str j ∧ i.length + j.length ≤ sizeLine ∧ Q (.str (i ++ j)) H)
def rMulA : R2 := fun x y H Q => (∃ i j, x = .int i ∧ y = .int j ∧ (CMul i j ∨ CMulW i j) ∧ Q (.int (i * j)) H) ∨ rRep x y H Q
def rEqA (K : Frg) : R2 := fun x y H Q => rEq x y H Q ∨ rEqD K x y H Q
def rNeA (K : Frg) : R2 := fun x y H Q => rNe x y H Q ∨ rNeD K x y H Q
def rInA (K : Frg) : R2 := fun x y H Q => rIn K false x y H Q ∨ rInS x y H Q
def rNiA (K : Frg) : R2 := fun x y H Q => rIn K true x y H Q ∨ rNotInS x y H Q
def rSlA (K : Frg) : V → Option Int → Option Int → Hp → VK → Prop := fun x lo hi H Q => rSlL K x lo hi H Q ∨ rSlS x lo hi H Q
section
variable {X : Cx}
theorem op_addA : OpR X (binaryOp .Add) rAddA := by
  intro pins s σ H x y v u Q I rx ry h
  rcases h with h | h | h
  · exact op_add pins s σ H x y v u Q I rx ry h
  · exact op_cat pins s σ H x y v u Q I rx ry h
  · exact op_add_str pins s σ H x y v u Q I rx ry h
theorem op_mulA : OpR X (binaryOp .Mult) rMulA := by
  intro pins s σ H x y v u Q I rx ry h
  rcases h with ⟨i, j, h1, h2, h3 | h3, h4⟩ | h
  · exact op_mul pins s σ H x y v u Q I rx ry ⟨i, j, h1, h2, h3, h4⟩
  · exact op_mulW pins s σ H x y v u Q I rx ry ⟨i, j, h1, h2, h3, h4⟩
  · exact op_rep pins s σ H x y v u Q I rx ry h
theorem op_eqA (hu : X.A.units + 64 < cLine) : OpR X (compareOp .Eq) (rEqA X.K) := by
  intro pins s σ H x y v u Q I rx ry h
  rcases h with h | h
  · exact op_eq pins s σ H x y v u Q I rx ry h
  · exact op_eqD hu pins s σ H x y v u Q I rx ry h
theorem op_neA (hu : X.A.units + 64 < cLine) : OpR X (compareOp .NotEq) (rNeA X.K) := by
  intro pins s σ H x y v u Q I rx ry h
  rcases h with h | h
  · exact op_ne pins s σ H x y v u Q I rx ry h
  · exact op_neD hu pins s σ H x y v u Q I rx ry h
theorem op_inA : OpR X (compareOp .In) (rInA X.K) := by
  intro pins s σ H x y v u Q I rx ry h
  rcases h with h | h
  · exact op_in_seq pins s σ H x y v u Q I rx ry h
  · exact op_inS pins s σ H x y v u Q I rx ry h
theorem op_niA : OpR X (compareOp .NotIn) (rNiA X.K) := by
  intro pins s σ H x y v u Q I rx ry h
  rcases h with h | h
  · exact op_notIn_seq pins s σ H x y v u Q I rx ry h
  · exact op_notInS pins s σ H x y v u Q I rx ry h
theorem sl_any : SlR X (rSlA X.K) := SlR.or sl_list sl_str
end
/-! ## their values on data -/
/-- the item at a place that lies within -/
def gi (r : List Int) (i : Int) : Int := r.getD i.toNat 0
theorem atI_map {α β : Type} (f : α → β) (xs : List α) (i : Int) : atI (xs.map f) i = (atI xs i).map f := by
  unfold atI
  rw [List.length_map]
  cases ixN xs.length i with
  | none => rfl
  | some j => rw [Option.bind_some, Option.bind_some, List.getElem?_map]
theorem atI_in {α : Type} (xs : List α) (d : α) {i : Int} (h0 : 0 ≤ i) (h1 : i < xs.length) : atI xs i = some (xs.getD i.toNat d) := by
  obtain ⟨k, rfl⟩ := Int.eq_ofNat_of_zero_le h0
  have hk : k < xs.length := by omega
  rw [Int.toNat_natCast, List.getD_eq_getElem?_getD, List.getElem?_eq_getElem hk]
  exact atI_nat (List.getElem?_eq_getElem hk)
theorem cut_from (xs : List V) (k : Nat) : cutV xs (some (k : Int)) none = xs.drop k := by
  unfold cutV
  rw [HT.sIx_nat, HT.sIx_none]
  rw [List.take_of_length_le (by rw [List.length_drop]; omega)]
  by_cases h : k ≤ xs.length
  · rw [Nat.min_eq_left h]
  · rw [Nat.min_eq_right (by omega), List.drop_of_length_le (Nat.le_refl _), List.drop_of_length_le (by omega)]
theorem cut_to (xs : List V) (k : Nat) : cutV xs none (some (k : Int)) = xs.take k := by
  unfold cutV
  rw [HT.sIx_nat, HT.sIx_none, List.drop_zero, Nat.sub_zero]
  by_cases h : k ≤ xs.length
  · rw [Nat.min_eq_left h]
  · rw [Nat.min_eq_right (by omega), List.take_of_length_le (Nat.le_refl _), List.take_of_length_le (by omega)]
theorem cut_mid (xs : List V) (j k : Nat) : cutV xs (some (j : Int)) (some (k : Int)) = (xs.drop j).take (k - j) := by
  unfold cutV
  rw [HT.sIx_nat, HT.sIx_nat]
  by_cases h : j ≤ xs.length
  · rw [Nat.min_eq_left h]
    by_cases h2 : k ≤ xs.length
    · rw [Nat.min_eq_left h2]
    · rw [Nat.min_eq_right (by omega), List.take_of_length_le (by rw [List.length_drop]; omega), List.take_of_length_le (by rw [List.length_drop]; omega)]
  · rw [Nat.min_eq_right (show xs.length ≤ j by omega), List.drop_of_length_le (Nat.le_refl _), List.drop_of_length_le (show xs.length ≤ j by omega), List.take_nil, List.take_nil]
theorem sz_le {n : Nat} (h : n ≤ 1000000) : n ≤ sizeLine := Nat.le_trans h (by decide)
theorem sz_lt {n : Nat} (h : n < 1000000) : n < sizeLine := Nat.lt_of_lt_of_le h (by decide)
/-- two sorted arrangements are one -/
theorem sorted_one {r s : List Int} (h : r.Perm s) (hr : r.Pairwise (· ≤ ·)) (hs : s.Pairwise (· ≤ ·)) : r = s := List.Perm.eq_of_pairwise (fun x y _ _ h1 h2 => Int.le_antisymm h1 h2) hr hs h
/-- a code whose data are told apart by == -/
def Cd {α : Type} [DecidableEq α] (c : α → PyData) : Prop := ∀ x y, PyData.eqv (c x) (c y) = decide (x = y)
theorem cd_all {α : Type} [DecidableEq α] {c : α → PyData} (h : Cd c) : ∀ xs ys : List α, PyData.eqvAll (xs.map c) (ys.map c) = decide (xs = ys)
  | [], [] => by simp [PyData.eqvAll]
  | [], _ :: _ => by simp [PyData.eqvAll]
  | _ :: _, [] => by simp [PyData.eqvAll]
  | x :: xs, y :: ys => by
    rw [List.map_cons, List.map_cons, PyData.eqvAll, h x y, cd_all h xs ys]
    by_cases e : x = y
    · subst e; simp
    · simp [e]
theorem cd_int : Cd PyData.int := fun x y => by
  rw [PyData.eqv]
  by_cases e : x = y <;> simp [e]
theorem cd_list {α : Type} [DecidableEq α] {c : α → PyData} (h : Cd c) : Cd fun xs : List α => PyData.list (xs.map c) := fun x y => by
  rw [PyData.eqv]
  exact cd_all h x y
theorem cd_dR : Cd dR := cd_list cd_int
/-- data that may be laid, by its depth -/
def Lay (n : Nat) (d : PyData) : Prop := d.canLay0 = true ∧ d.depth ≤ n
def LayAll (n : Nat) (ds : List PyData) : Prop := PyData.canLayAll0 ds = true ∧ PyData.depthAll ds ≤ n
theorem Lay.mono {n m : Nat} {d : PyData} (h : Lay n d) (l : n ≤ m) : Lay m d := ⟨h.1, Nat.le_trans h.2 l⟩
theorem lay_shaped {n : Nat} {d : PyData} (h : Lay n d) (l : n ≤ 64 := by decide) : SeqAt.shaped d = true := by
  unfold SeqAt.shaped
  rw [h.1, Bool.true_and]
  exact decide_eq_true (Nat.le_trans h.2 l)
theorem layAll_nil {n : Nat} : LayAll n [] := ⟨by simp [PyData.canLayAll0], by simp [PyData.depthAll]⟩
theorem layAll_cons {n : Nat} {d : PyData} {ds : List PyData} (h : Lay n d) (t : LayAll n ds) : LayAll n (d :: ds) :=
  ⟨by rw [PyData.canLayAll0, h.1, t.1]; rfl, by rw [PyData.depthAll]; exact Nat.max_le.mpr ⟨h.2, t.2⟩⟩
theorem layAll_map {α : Type} {n : Nat} {c : α → PyData} : ∀ {xs : List α}, (∀ x ∈ xs, Lay n (c x)) → LayAll n (xs.map c)
  | [], _ => layAll_nil
  | _ :: _, h => layAll_cons (h _ List.mem_cons_self) (layAll_map fun x m => h x (List.mem_cons_of_mem _ m))
theorem lay_list {n : Nat} {ds : List PyData} (h : LayAll n ds) : Lay (n + 1) (.list ds) :=
  ⟨by rw [PyData.canLay0]; exact h.1, by rw [PyData.depth]; have := h.2; omega⟩
theorem lay_tuple {n : Nat} {ds : List PyData} (h : LayAll n ds) : Lay (n + 1) (.tuple ds) :=
  ⟨by rw [PyData.canLay0]; exact h.1, by rw [PyData.depth]; have := h.2; omega⟩
theorem lay_int (i : Int) : Lay 0 (.int i) := ⟨by simp [PyData.canLay0], by simp [PyData.depth]⟩
theorem lay_bool (b : Bool) : Lay 0 (.bool b) := ⟨by simp [PyData.canLay0], by simp [PyData.depth]⟩
theorem lay_none : Lay 0 .none := ⟨by simp [PyData.canLay0], by simp [PyData.depth]⟩
theorem lay_dR (r : List Int) : Lay 1 (dR r) := lay_list (layAll_map fun x _ => lay_int x)
theorem lay_dRR (rr : List (List Int)) : Lay 2 (dRR rr) := lay_list (layAll_map fun x _ => lay_dR x)
mutual
theorem Rp.dp {K : Frg} {H : Hp} : ∀ {d : PyData} {v : V}, d.canLay0 = true → Rp K H v d → Dp K H v d
  | .none, _, _, h => by cases h; exact .non
  | .bool _, _, _, h => by cases h; exact .bl _
  | .int _, _, _, h => by cases h; exact .int _
  | .str _, _, _, h => by cases h; exact .str _
  | .list ds, _, l, h => by cases h with | lst ha hs => exact .lst (sql ha) (RpAll.dp (by rw [PyData.canLay0] at l; exact l) hs)
  | .tuple ds, _, l, h => by cases h with | tup ha hs => exact .tup (sqt ha) (RpAll.dp (by rw [PyData.canLay0] at l; exact l) hs)
  | .dict _, _, l, _ => by simp [PyData.canLay0] at l
theorem RpAll.dp {K : Frg} {H : Hp} : ∀ {ds : List PyData} {vs : List V}, PyData.canLayAll0 ds = true → RpAll K H vs ds → DpAll K H vs ds
  | [], _, _, h => by cases h; exact .nil
  | d :: ds, _, l, h => by
    have l2 : d.canLay0 = true ∧ PyData.canLayAll0 ds = true := by simpa [PyData.canLayAll0] using l
    cases h with
    | cons h1 h2 => exact .cons (Rp.dp l2.1 h1) (RpAll.dp l2.2 h2)
end
section
variable {K : Frg} {ρ : DE} {ta tb te tx : TE}
/-! ### numbers -/
theorem ev_i0 {g : Int → Int → Int} {i j : Int} (ha : Evr K ta ρ (.int i)) (hb : Evr K tb ρ (.int j)) : Evr K (tOp (rI0 fun i j => .int (g i j)) ta tb) ρ (.int (g i j)) :=
  ev_op ha hb fun H x y Q hx hy q => ⟨i, j, hx.int_eq, hy.int_eq, q _ H (Same.refl H) (.int _)⟩
theorem ev_c0 {g : Int → Int → Bool} {i j : Int} (ha : Evr K ta ρ (.int i)) (hb : Evr K tb ρ (.int j)) : Evr K (tOp (rI0 fun i j => .bl (g i j)) ta tb) ρ (.bool (g i j)) :=
  ev_op ha hb fun H x y Q hx hy q => ⟨i, j, hx.int_eq, hy.int_eq, q _ H (Same.refl H) (.bl _)⟩
theorem ev_i1 {C : Int → Int → Prop} {g : Int → Int → Int} {i j : Int} (ha : Evr K ta ρ (.int i)) (hb : Evr K tb ρ (.int j)) (hc : C i j) : Evr K (tOp (rI C fun i j => .int (g i j)) ta tb) ρ (.int (g i j)) :=
  ev_op ha hb fun H x y Q hx hy q => ⟨i, j, hx.int_eq, hy.int_eq, hc, q _ H (Same.refl H) (.int _)⟩
theorem ev_add {i j : Int} (ha : Evr K ta ρ (.int i)) (hb : Evr K tb ρ (.int j)) : Evr K (tOp rAddA ta tb) ρ (.int (i + j)) :=
  ev_op ha hb fun H x y Q hx hy q => .inl ⟨i, j, hx.int_eq, hy.int_eq, q _ H (Same.refl H) (.int _)⟩
theorem ev_mul {i j : Int} (ha : Evr K ta ρ (.int i)) (hb : Evr K tb ρ (.int j)) (hc : CMul i j) : Evr K (tOp rMulA ta tb) ρ (.int (i * j)) :=
  ev_op ha hb fun H x y Q hx hy q => .inl ⟨i, j, hx.int_eq, hy.int_eq, .inl hc, q _ H (Same.refl H) (.int _)⟩
theorem ev_mulW {i j : Int} (ha : Evr K ta ρ (.int i)) (hb : Evr K tb ρ (.int j)) (hc : CMulW i j) : Evr K (tOp rMulA ta tb) ρ (.int (i * j)) :=
  ev_op ha hb fun H x y Q hx hy q => .inl ⟨i, j, hx.int_eq, hy.int_eq, .inr hc, q _ H (Same.refl H) (.int _)⟩
theorem ev_neg {i : Int} (ha : Evr K ta ρ (.int i)) : Evr K (tUn (rU fun i => .int (-i)) ta) ρ (.int (-i)) :=
  ev_un ha fun H x Q hx q => ⟨i, hx.int_eq, q _ H (Same.refl H) (.int _)⟩
theorem mul_l {i j : Int} (h : -(2 ^ 64) < i ∧ i < 2 ^ 64) : CMul i j := .inl h
theorem mul_r {i j : Int} (h : -(2 ^ 64) < j ∧ j < 2 ^ 64) : CMul i j := .inr h
/-! ### texts -/
theorem ev_adds {i j : Str} (ha : Evr K ta ρ (.str i)) (hb : Evr K tb ρ (.str j)) (hl : i.length + j.length ≤ 1000000) : Evr K (tOp rAddA ta tb) ρ (.str (i ++ j)) :=
  ev_op ha hb fun H x y Q hx hy q => .inr (.inr ⟨i, j, hx.str_eq, hy.str_eq, sz_le hl, q _ H (Same.refl H) (.str _)⟩)
/-! ### lists joined -/
theorem evf_cat {r s : List Int} (ha : Evr K ta ρ (dR r)) (hb : Evr K tb ρ (dR s)) (hl : r.length + s.length ≤ 1000000) : Evf K (tOp rAddA ta tb) ρ (dR (r ++ s)) :=
  evf_op ha hb fun H x y Q hx hy q => by
    obtain ⟨a, rfl, h1⟩ := hx.row
    obtain ⟨b, rfl, h2⟩ := hy.row
    refine .inr (.inl ⟨a, b, _, _, rfl, rfl, h1, h2, by rw [List.length_map, List.length_map]; exact sz_le hl, fun p hp => q _ _ [p] (same_upd hp) ?_ fun c m => ?_⟩)
    · rw [← List.map_append]
      exact Ow.row upd_same
    · rw [List.mem_singleton.mp m]; exact hp
theorem evf_catS {r s : List Str} (ha : Evr K ta ρ (dS r)) (hb : Evr K tb ρ (dS s)) (hl : r.length + s.length ≤ 1000000) : Evf K (tOp rAddA ta tb) ρ (dS (r ++ s)) :=
  evf_op ha hb fun H x y Q hx hy q => by
    obtain ⟨a, xs, rfl, h1, k1⟩ := hx.list
    obtain ⟨b, ys, rfl, h2, k2⟩ := hy.list
    rw [k1.strs] at h1
    rw [k2.strs] at h2
    refine .inr (.inl ⟨a, b, _, _, rfl, rfl, h1, h2, by rw [List.length_map, List.length_map]; exact sz_le hl, fun p hp => q _ _ [p] (same_upd hp) ?_ fun c m => ?_⟩)
    · rw [← List.map_append]
      exact .lst upd_same (OwAll.of_strs _) (fun m => nomatch m)
    · rw [List.mem_singleton.mp m]; exact hp
theorem evf_rep {r : List Int} {k : Int} (ha : Evr K ta ρ (dR r)) (hb : Evr K tb ρ (.int k)) (h0 : -1000000000 ≤ k ∧ k ≤ 1000000000) (hl : r.length * k.toNat ≤ 1000000) : Evf K (tOp rMulA ta tb) ρ (dR (List.replicate k.toNat r).flatten) :=
  evf_op ha hb fun H x y Q hx hy q => by
    obtain ⟨a, rfl, h1⟩ := hx.row
    refine .inr ⟨a, k, _, rfl, hy.int_eq, h1, by omega, by omega, by rw [List.length_map]; exact sz_le hl, fun p hp => q _ _ [p] (same_upd hp) ?_ fun c m => ?_⟩
    · have e : (List.replicate k.toNat (r.map V.int)).flatten = ((List.replicate k.toNat r).flatten).map V.int := by
        rw [List.map_flatten, List.map_replicate]
      rw [e]
      exact Ow.row upd_same
    · rw [List.mem_singleton.mp m]; exact hp
/-! ### == and its like -/
theorem ev_eqi {i j : Int} (ha : Evr K ta ρ (.int i)) (hb : Evr K tb ρ (.int j)) : Evr K (tOp (rEqA K) ta tb) ρ (.bool (decide (i = j))) :=
  ev_op ha hb fun H x y Q hx hy q => .inl (by
    obtain rfl := hx.int_eq
    obtain rfl := hy.int_eq
    refine ⟨rfl, ?_⟩
    have e : decide (V.int i = V.int j) = decide (i = j) := by by_cases h : i = j <;> simp [h]
    rw [e]
    exact q _ H (Same.refl H) (.bl _))
theorem ev_nei {i j : Int} (ha : Evr K ta ρ (.int i)) (hb : Evr K tb ρ (.int j)) : Evr K (tOp (rNeA K) ta tb) ρ (.bool (decide (i ≠ j))) :=
  ev_op ha hb fun H x y Q hx hy q => .inl (by
    obtain rfl := hx.int_eq
    obtain rfl := hy.int_eq
    refine ⟨rfl, ?_⟩
    have e : (!decide (V.int i = V.int j)) = decide (i ≠ j) := by by_cases h : i = j <;> simp [h]
    rw [e]
    exact q _ H (Same.refl H) (.bl _))
theorem ev_eqb {i j : Bool} (ha : Evr K ta ρ (.bool i)) (hb : Evr K tb ρ (.bool j)) : Evr K (tOp (rEqA K) ta tb) ρ (.bool (decide (i = j))) :=
  ev_op ha hb fun H x y Q hx hy q => .inl (by
    obtain rfl := hx.bl_eq
    obtain rfl := hy.bl_eq
    refine ⟨rfl, ?_⟩
    have e : decide (V.bl i = V.bl j) = decide (i = j) := by by_cases h : i = j <;> simp [h]
    rw [e]
    exact q _ H (Same.refl H) (.bl _))
theorem ev_neb {i j : Bool} (ha : Evr K ta ρ (.bool i)) (hb : Evr K tb ρ (.bool j)) : Evr K (tOp (rNeA K) ta tb) ρ (.bool (decide (i ≠ j))) :=
  ev_op ha hb fun H x y Q hx hy q => .inl (by
    obtain rfl := hx.bl_eq
    obtain rfl := hy.bl_eq
    refine ⟨rfl, ?_⟩
    have e : (!decide (V.bl i = V.bl j)) = decide (i ≠ j) := by by_cases h : i = j <;> simp [h]
    rw [e]
    exact q _ H (Same.refl H) (.bl _))
theorem ev_eqs {i j : Str} (ha : Evr K ta ρ (.str i)) (hb : Evr K tb ρ (.str j)) : Evr K (tOp (rEqA K) ta tb) ρ (.bool (decide (i = j))) :=
  ev_op ha hb fun H x y Q hx hy q => .inl (by
    obtain rfl := hx.str_eq
    obtain rfl := hy.str_eq
    refine ⟨rfl, ?_⟩
    have e : decide (V.str i = V.str j) = decide (i = j) := by by_cases h : i = j <;> simp [h]
    rw [e]
    exact q _ H (Same.refl H) (.bl _))
theorem ev_nes {i j : Str} (ha : Evr K ta ρ (.str i)) (hb : Evr K tb ρ (.str j)) : Evr K (tOp (rNeA K) ta tb) ρ (.bool (decide (i ≠ j))) :=
  ev_op ha hb fun H x y Q hx hy q => .inl (by
    obtain rfl := hx.str_eq
    obtain rfl := hy.str_eq
    refine ⟨rfl, ?_⟩
    have e : (!decide (V.str i = V.str j)) = decide (i ≠ j) := by by_cases h : i = j <;> simp [h]
    rw [e]
    exact q _ H (Same.refl H) (.bl _))
theorem ev_eqd {d e : PyData} {n m : Nat} (ha : Evr K ta ρ d) (hb : Evr K tb ρ e) (hd : Lay n d) (he : Lay m e) (hn : n ≤ 64 := by decide) (hm : m ≤ 64 := by decide) : Evr K (tOp (rEqA K) ta tb) ρ (.bool (PyData.eqv d e)) :=
  ev_op ha hb fun H x y Q hx hy q => .inr ⟨d, e, hx.dp hd.1, hy.dp he.1, lay_shaped hd hn, lay_shaped he hm, q _ H (Same.refl H) (.bl _)⟩
theorem ev_ned {d e : PyData} {n m : Nat} (ha : Evr K ta ρ d) (hb : Evr K tb ρ e) (hd : Lay n d) (he : Lay m e) (hn : n ≤ 64 := by decide) (hm : m ≤ 64 := by decide) : Evr K (tOp (rNeA K) ta tb) ρ (.bool (!PyData.eqv d e)) :=
  ev_op ha hb fun H x y Q hx hy q => .inr ⟨d, e, hx.dp hd.1, hy.dp he.1, lay_shaped hd hn, lay_shaped he hm, q _ H (Same.refl H) (.bl _)⟩
theorem ev_eqR {r s : List Int} (ha : Evr K ta ρ (dR r)) (hb : Evr K tb ρ (dR s)) : Evr K (tOp (rEqA K) ta tb) ρ (.bool (decide (r = s))) := (ev_eqd ha hb (lay_dR r) (lay_dR s)).cast (by rw [cd_dR])
theorem ev_neR {r s : List Int} (ha : Evr K ta ρ (dR r)) (hb : Evr K tb ρ (dR s)) : Evr K (tOp (rNeA K) ta tb) ρ (.bool (decide (r ≠ s))) := (ev_ned ha hb (lay_dR r) (lay_dR s)).cast (by rw [cd_dR]; by_cases h : r = s <;> simp [h])
theorem ev_eqRR {r s : List (List Int)} (ha : Evr K ta ρ (dRR r)) (hb : Evr K tb ρ (dRR s)) : Evr K (tOp (rEqA K) ta tb) ρ (.bool (decide (r = s))) := (ev_eqd ha hb (lay_dRR r) (lay_dRR s)).cast (by rw [cd_list cd_dR])
theorem ev_neRR {r s : List (List Int)} (ha : Evr K ta ρ (dRR r)) (hb : Evr K tb ρ (dRR s)) : Evr K (tOp (rNeA K) ta tb) ρ (.bool (decide (r ≠ s))) := (ev_ned ha hb (lay_dRR r) (lay_dRR s)).cast (by rw [cd_list cd_dR]; by_cases h : r = s <;> simp [h])
/-! ### in -/
theorem inV_int (n : Int) : ∀ r : List Int, inV (.int n) (r.map V.int) = decide (n ∈ r)
  | [] => by simp [inV]
  | m :: r => by
    have ih := inV_int n r
    unfold inV at ih ⊢
    rw [List.map_cons, List.any_cons, ih]
    by_cases h : n = m
    · subst h; simp [eqV]
    · have h' : ¬ m = n := fun z => h z.symm
      simp [eqV, h, h']
theorem flat_ints (r : List Int) : (r.map V.int).all flatV = true := by
  rw [List.all_map, List.all_eq_true]
  intro x _
  rfl
theorem ev_in {n : Int} {r : List Int} (ha : Evr K ta ρ (.int n)) (hb : Evr K tb ρ (dR r)) : Evr K (tOp (rInA K) ta tb) ρ (.bool (decide (n ∈ r))) :=
  ev_op ha hb fun H x y Q hx hy q => .inl (by
    obtain rfl := hx.int_eq
    obtain ⟨a, rfl, h1⟩ := hy.row
    refine ⟨a, _, rfl, .inl (sql h1), rfl, flat_ints r, ?_⟩
    rw [if_neg Bool.false_ne_true, inV_int]
    exact q _ H (Same.refl H) (.bl _))
theorem ev_ni {n : Int} {r : List Int} (ha : Evr K ta ρ (.int n)) (hb : Evr K tb ρ (dR r)) : Evr K (tOp (rNiA K) ta tb) ρ (.bool (decide (n ∉ r))) :=
  ev_op ha hb fun H x y Q hx hy q => .inl (by
    obtain rfl := hx.int_eq
    obtain ⟨a, rfl, h1⟩ := hy.row
    refine ⟨a, _, rfl, .inl (sql h1), rfl, flat_ints r, ?_⟩
    have e : (if true = true then !inV (.int n) (r.map V.int) else inV (.int n) (r.map V.int)) = decide (n ∉ r) := by
      rw [if_pos rfl, inV_int]
      by_cases h : n ∈ r <;> simp [h]
    rw [e]
    exact q _ H (Same.refl H) (.bl _))
theorem ev_nis {c : Nat} {z : Str} (ha : Evr K ta ρ (.str ⟨#[c]⟩)) (hb : Evr K tb ρ (.str z)) : Evr K (tOp (rNiA K) ta tb) ρ (.bool (decide (c ∉ z.cps.toList))) :=
  ev_op ha hb fun H x y Q hx hy q => .inr (by
    obtain rfl := hx.str_eq
    obtain rfl := hy.str_eq
    refine ⟨c, z, rfl, rfl, ?_⟩
    have e : (!decide (c ∈ z.cps.toList)) = decide (c ∉ z.cps.toList) := by by_cases h : c ∈ z.cps.toList <;> simp [h]
    rw [e]
    exact q _ H (Same.refl H) (.bl _))
/-! ### None -/
def rIsNn : R2 := fun x y H Q => y = .non ∧ Q (.bl (decide (x = .non))) H
def rNotNn : R2 := fun x y H Q => y = .non ∧ Q (.bl (!decide (x = .non))) H
theorem op_isNn {X : Cx} : OpR X (compareOp .Is) rIsNn := op_isN
theorem op_notNn {X : Cx} : OpR X (compareOp .IsNot) rNotNn := op_notN
def isNn : PyData → Bool
  | .none => true
  | _ => false
theorem non_dec {d : PyData} {H : Hp} {v : V} (h : Rp K H v d) : decide (v = V.non) = isNn d := by
  cases h <;> simp [isNn]
theorem ev_isN {d : PyData} {b : Bool} (ha : Evr K ta ρ d) (hb : Evr K tb ρ .none) (e : isNn d = b) : Evr K (tOp rIsNn ta tb) ρ (.bool b) :=
  ev_op ha hb fun H x y Q hx hy q => ⟨hy.non_eq, by rw [non_dec hx, e]; exact q _ H (Same.refl H) (.bl _)⟩
theorem ev_notN {d : PyData} {b : Bool} (ha : Evr K ta ρ d) (hb : Evr K tb ρ .none) (e : (!isNn d) = b) : Evr K (tOp rNotNn ta tb) ρ (.bool b) :=
  ev_op ha hb fun H x y Q hx hy q => ⟨hy.non_eq, by rw [non_dec hx, e]; exact q _ H (Same.refl H) (.bl _)⟩
/-! ### items -/
theorem ev_ixM {α : Type} {c : α → PyData} {xs : List α} {i : Int} {x : α} (ha : Evr K ta ρ (.list (xs.map c))) (hb : Evr K tb ρ (.int i)) (h : atI xs i = some x) : Evr K (tOp (rIx K) ta tb) ρ (c x) :=
  ev_op ha hb fun H v y Q hx hy q => .inl (by
    obtain ⟨a, vs, rfl, h1, k1⟩ := hx.list
    have hl := k1.length
    rw [List.length_map] at hl
    obtain ⟨j, e1, e2⟩ : ∃ j, ixN xs.length i = some j ∧ xs[j]? = some x := by
      unfold atI at h
      cases e : ixN xs.length i with
      | none => rw [e] at h; cases h
      | some j => rw [e] at h; exact ⟨j, rfl, h⟩
    obtain ⟨w, hw, rw'⟩ := k1.get (i := j) (d := c x) (by rw [List.getElem?_map, e2]; rfl)
    refine ⟨a, vs, i, w, rfl, hy.int_eq, sql h1, ?_, q _ H (Same.refl H) rw'⟩
    unfold atI
    rw [hl, e1]
    exact hw)
theorem ev_ixL {ds : List PyData} {i : Int} {d : PyData} (ha : Evr K ta ρ (.list ds)) (hb : Evr K tb ρ (.int i)) (h : atI ds i = some d) : Evr K (tOp (rIx K) ta tb) ρ d :=
  ev_ixM (c := id) (xs := ds) (ha.cast (by rw [List.map_id])) hb h
theorem ev_ixT {ds : List PyData} {i : Int} {d : PyData} (ha : Evr K ta ρ (.tuple ds)) (hb : Evr K tb ρ (.int i)) (h : atI ds i = some d) : Evr K (tOp (rIx K) ta tb) ρ d :=
  ev_op ha hb fun H v y Q hx hy q => .inr (.inl (by
    obtain ⟨a, vs, rfl, h1, k1⟩ := hx.tuple
    have hl := k1.length
    obtain ⟨j, e1, e2⟩ : ∃ j, ixN ds.length i = some j ∧ ds[j]? = some d := by
      unfold atI at h
      cases e : ixN ds.length i with
      | none => rw [e] at h; cases h
      | some j => rw [e] at h; exact ⟨j, rfl, h⟩
    obtain ⟨w, hw, rw'⟩ := k1.get (i := j) (d := d) e2
    refine ⟨a, vs, i, w, rfl, hy.int_eq, sqt h1, ?_, q _ H (Same.refl H) rw'⟩
    unfold atI
    rw [hl, e1]
    exact hw))
theorem ev_ix {r : List Int} {i : Int} (ha : Evr K ta ρ (dR r)) (hb : Evr K tb ρ (.int i)) (h0 : 0 ≤ i) (h1 : i < r.length) : Evr K (tOp (rIx K) ta tb) ρ (.int (gi r i)) :=
  ev_ixM (c := PyData.int) ha hb (atI_in r 0 h0 h1)
theorem ev_ixRR {r : List (List Int)} {i : Int} (ha : Evr K ta ρ (dRR r)) (hb : Evr K tb ρ (.int i)) (h0 : 0 ≤ i) (h1 : i < r.length) : Evr K (tOp (rIx K) ta tb) ρ (dR (r.getD i.toNat [])) :=
  ev_ixM (c := dR) ha hb (atI_in r [] h0 h1)
theorem ev_ixScr {ns : List Int} {i : Int} (ha : Evr K ta ρ (dScr ns)) (hb : Evr K tb ρ (.int i)) (h0 : 0 ≤ i) (h1 : i < ns.length) : Evr K (tOp (rIx K) ta tb) ρ (.int (gi ns i)) :=
  ev_op ha hb fun H v y Q hx hy q => .inl (by
    obtain ⟨a, rfl, hs⟩ := hx.script
    refine ⟨a, _, i, .int (gi ns i), rfl, hy.int_eq, hs, ?_, q _ H (Same.refl H) (.int _)⟩
    rw [atI_map, atI_in ns 0 h0 h1]
    rfl)
theorem ev_ixStr {z : Str} {i : Int} {c : Nat} (ha : Evr K ta ρ (.str z)) (hb : Evr K tb ρ (.int i)) (hl : z.length ≤ 1000000) (h : atI z.cps.toList i = some c) : Evr K (tOp (rIx K) ta tb) ρ (.str ⟨#[c]⟩) :=
  ev_op ha hb fun H v y Q hx hy q => .inr (.inr ⟨z, i, c, hx.str_eq, hy.int_eq, sz_le hl, h, q _ H (Same.refl H) (.str _)⟩)
/-! ### slices -/
theorem evo_none : Evo K tNoPart ρ none := fun σ H Q _ q => q H (Same.refl H)
theorem evo_some {i : Int} (ha : Evr K ta ρ (.int i)) : Evo K (tPart ta) ρ (some i) := fun σ H Q R q => ha σ H _ R fun v H1 e1 r1 => ⟨i, r1.int_eq, q H1 e1⟩
theorem ev_sl {d e : PyData} {lo hi : Option Int} {tl th : TO} (ha : Evr K ta ρ d) (hl : Evo K tl ρ lo) (hh : Evo K th ρ hi) (hr : ∀ (H : Hp) (x : V) (Q : VK), Rp K H x d → (∀ v H', Same H H' → Rp K H' v e → Q v H') → rSlA K x lo hi H Q) : Evr K (tSl (rSlA K) ta tl th) ρ e :=
  fun σ H Q R q => ha σ H _ R fun x H1 e1 r1 => hl σ H1 _ (R.mono e1) fun H2 e2 => hh σ H2 _ (R.mono (e1.trans e2)) fun H3 e3 => hr H3 x Q (r1.mono (e2.trans e3)) fun v H4 e4 r4 => q v H4 (((e1.trans e2).trans e3).trans e4) r4
theorem evf_sl {d e : PyData} {lo hi : Option Int} {tl th : TO} (ha : Evr K ta ρ d) (hl : Evo K tl ρ lo) (hh : Evo K th ρ hi) (hr : ∀ (H : Hp) (x : V) (Q : VK), Rp K H x d → (∀ v H' F, Same H H' → Ow H' v e F → (∀ a ∈ F, H a = none) → Q v H') → rSlA K x lo hi H Q) : Evf K (tSl (rSlA K) ta tl th) ρ e :=
  fun σ H Q R q => ha σ H _ R fun x H1 e1 r1 => hl σ H1 _ (R.mono e1) fun H2 e2 => hh σ H2 _ (R.mono (e1.trans e2)) fun H3 e3 => hr H3 x Q (r1.mono (e2.trans e3)) fun v H4 F e4 r4 f4 => q v H4 F (((e1.trans e2).trans e3).trans e4) r4 fun a m => ((e1.trans e2).trans e3).free (f4 a m)
theorem evf_slv {r s : List Int} {lo hi : Option Int} {tl th : TO} (ha : Evr K ta ρ (dR r)) (hl : Evo K tl ρ lo) (hh : Evo K th ρ hi) (e : cutV (r.map V.int) lo hi = s.map V.int) : Evf K (tSl (rSlA K) ta tl th) ρ (dR s) :=
  evf_sl ha hl hh fun H x Q hx q => .inl (by
    obtain ⟨a, rfl, h1⟩ := hx.row
    refine ⟨a, _, rfl, sql h1, fun p hp => q _ _ [p] (same_upd hp) ?_ fun c m => ?_⟩
    · rw [e]; exact Ow.row upd_same
    · rw [List.mem_singleton.mp m]; exact hp)
theorem evf_from {r : List Int} {i : Int} (ha : Evr K ta ρ (dR r)) (hb : Evr K tb ρ (.int i)) (h0 : 0 ≤ i) : Evf K (tSl (rSlA K) ta (tPart tb) tNoPart) ρ (dR (r.drop i.toNat)) :=
  evf_slv ha (evo_some hb) evo_none (by
    obtain ⟨k, rfl⟩ := Int.eq_ofNat_of_zero_le h0
    rw [cut_from, Int.toNat_natCast, List.map_drop])
theorem evf_to {r : List Int} {i : Int} (ha : Evr K ta ρ (dR r)) (hb : Evr K tb ρ (.int i)) (h0 : 0 ≤ i) : Evf K (tSl (rSlA K) ta tNoPart (tPart tb)) ρ (dR (r.take i.toNat)) :=
  evf_slv ha evo_none (evo_some hb) (by
    obtain ⟨k, rfl⟩ := Int.eq_ofNat_of_zero_le h0
    rw [cut_to, Int.toNat_natCast, List.map_take])
theorem evf_mid {r : List Int} {i j : Int} (ha : Evr K ta ρ (dR r)) (hb : Evr K tb ρ (.int i)) (hx : Evr K tx ρ (.int j)) (h0 : 0 ≤ i) (h1 : 0 ≤ j) : Evf K (tSl (rSlA K) ta (tPart tb) (tPart tx)) ρ (dR ((r.drop i.toNat).take (j.toNat - i.toNat))) :=
  evf_slv ha (evo_some hb) (evo_some hx) (by
    obtain ⟨k, rfl⟩ := Int.eq_ofNat_of_zero_le h0
    obtain ⟨l, rfl⟩ := Int.eq_ofNat_of_zero_le h1
    rw [cut_mid, Int.toNat_natCast, Int.toNat_natCast, List.map_take, List.map_drop])
theorem evf_slS {r s : List Str} {lo hi : Option Int} {tl th : TO} (ha : Evr K ta ρ (dS r)) (hl : Evo K tl ρ lo) (hh : Evo K th ρ hi) (e : cutV (r.map V.str) lo hi = s.map V.str) : Evf K (tSl (rSlA K) ta tl th) ρ (dS s) :=
  evf_sl ha hl hh fun H x Q hx q => .inl (by
    obtain ⟨a, xs, rfl, h1, k1⟩ := hx.list
    rw [k1.strs] at h1
    refine ⟨a, _, rfl, sql h1, fun p hp => q _ _ [p] (same_upd hp) ?_ fun c m => ?_⟩
    · rw [e]; exact .lst upd_same (OwAll.of_strs _) (fun m => nomatch m)
    · rw [List.mem_singleton.mp m]; exact hp)
theorem ev_slStr {z : Str} {lo hi : Option Int} {tl th : TO} (ha : Evr K ta ρ (.str z)) (hl : Evo K tl ρ lo) (hh : Evo K th ρ hi) (hz : z.length ≤ 1000000) : Evr K (tSl (rSlA K) ta tl th) ρ (.str (cutS z lo hi)) :=
  ev_sl ha hl hh fun H x Q hx q => .inr ⟨z, hx.str_eq, sz_le hz, q _ H (Same.refl H) (.str _)⟩
theorem evf_rev {r : List Int} (ha : Evr K ta ρ (dR r)) : Evf K (tRevL K ta) ρ (dR r.reverse) := fun σ H Q R q => ha σ H _ R fun x H1 e1 r1 => by
  obtain ⟨a, rfl, h1⟩ := r1.row
  refine ⟨a, _, rfl, sql h1, fun p hp => q _ _ [p] (e1.trans (same_upd hp)) ?_ fun c m => ?_⟩
  · rw [← List.map_reverse]; exact Ow.row upd_same
  · rw [List.mem_singleton.mp m]; exact e1.free hp
/-! ### built-ins -/
def rLenA (K : Frg) : List V → Hp → VK → Prop := fun xs H Q => ∃ x n, xs = [x] ∧ LenV K x H n ∧ Q (.int (n : Nat)) H
theorem cr_len {X : Cx} : CallR X (.builtin "len") (rLenA X.K) := call_len
theorem RpAll.one {H : Hp} {vs : List V} {d : PyData} (h : RpAll K H vs [d]) : ∃ v, vs = [v] ∧ Rp K H v d := by
  cases h with
  | cons h1 h2 => cases h2; exact ⟨_, rfl, h1⟩
theorem RpAll.two {H : Hp} {vs : List V} {d e : PyData} (h : RpAll K H vs [d, e]) : ∃ v w, vs = [v, w] ∧ Rp K H v d ∧ Rp K H w e := by
  cases h with
  | cons h1 h2 =>
    obtain ⟨w, rfl, h3⟩ := RpAll.one h2
    exact ⟨_, _, rfl, h1, h3⟩
theorem ev_lenL {ds : List PyData} (ha : Evr K ta ρ (.list ds)) : Evr K (tCB (rLenA K) (tCons ta tNil)) ρ (.int ds.length) := ev_cb (eva_cons ha eva_nil) fun H vs Q h q => by
  obtain ⟨v, rfl, hv⟩ := h.one
  obtain ⟨a, xs, rfl, h1, k1⟩ := hv.list
  exact ⟨_, ds.length, rfl, .inl ⟨xs, sql h1, k1.length.symm⟩, q _ H (Same.refl H) (.int _)⟩
theorem ev_len {α : Type} {c : α → PyData} {xs : List α} (ha : Evr K ta ρ (.list (xs.map c))) : Evr K (tCB (rLenA K) (tCons ta tNil)) ρ (.int xs.length) := (ev_lenL ha).cast (by rw [List.length_map])
theorem ev_lenT {ds : List PyData} (ha : Evr K ta ρ (.tuple ds)) : Evr K (tCB (rLenA K) (tCons ta tNil)) ρ (.int ds.length) := ev_cb (eva_cons ha eva_nil) fun H vs Q h q => by
  obtain ⟨v, rfl, hv⟩ := h.one
  obtain ⟨a, xs, rfl, h1, k1⟩ := hv.tuple
  exact ⟨_, ds.length, rfl, .inr ⟨xs, sqt h1, k1.length.symm⟩, q _ H (Same.refl H) (.int _)⟩
theorem ev_lenScr {ns : List Int} (ha : Evr K ta ρ (dScr ns)) : Evr K (tCB (rLenA K) (tCons ta tNil)) ρ (.int ns.length) := ev_cb (eva_cons ha eva_nil) fun H vs Q h q => by
  obtain ⟨v, rfl, hv⟩ := h.one
  obtain ⟨a, rfl, hs⟩ := hv.script
  exact ⟨_, ns.length, rfl, .inl ⟨_, hs, (List.length_map _).symm⟩, q _ H (Same.refl H) (.int _)⟩
theorem ev_lenStr {z : Str} (ha : Evr K ta ρ (.str z)) (hz : z.length ≤ 1000000) : Evr K (tCB (rLenA K) (tCons ta tNil)) ρ (.int z.length) := ev_cb (eva_cons ha eva_nil) fun H vs Q h q => by
  obtain ⟨v, rfl, hv⟩ := h.one
  obtain rfl := hv.str_eq
  exact ⟨_, z.length, rfl, ⟨sz_le hz, rfl⟩, q _ H (Same.refl H) (.int _)⟩
theorem ev_sum {r : List Int} (ha : Evr K ta ρ (dR r)) : Evr K (tCB (rSum K) (tCons ta tNil)) ρ (.int r.sum) := ev_cb (eva_cons ha eva_nil) fun H vs Q h q => by
  obtain ⟨v, rfl, hv⟩ := h.one
  obtain ⟨a, rfl, h1⟩ := hv.row
  exact ⟨a, r, rfl, sql h1, q _ H (Same.refl H) (.int _)⟩
def rMin2 : List V → Hp → VK → Prop := fun xs H Q => ∃ i j, xs = [.int i, .int j] ∧ Q (.int (if j < i then j else i)) H
def rMax2 : List V → Hp → VK → Prop := fun xs H Q => ∃ i j, xs = [.int i, .int j] ∧ Q (.int (if j > i then j else i)) H
theorem cr_min2 {X : Cx} (hc : X.calm = true) : CallR X (.builtin "min") rMin2 := call_min2 hc
theorem cr_max2 {X : Cx} (hc : X.calm = true) : CallR X (.builtin "max") rMax2 := call_max2 hc
theorem ev_min2 {i j : Int} (ha : Evr K ta ρ (.int i)) (hb : Evr K tb ρ (.int j)) : Evr K (tCB rMin2 (tCons ta (tCons tb tNil))) ρ (.int (min i j)) := ev_cb (eva_cons ha (eva_cons hb eva_nil)) fun H vs Q h q => by
  obtain ⟨v, w, rfl, hv, hw⟩ := h.two
  refine ⟨i, j, by rw [hv.int_eq, hw.int_eq], ?_⟩
  have e : (if j < i then j else i) = min i j := by split <;> omega
  rw [e]
  exact q _ H (Same.refl H) (.int _)
theorem ev_max2 {i j : Int} (ha : Evr K ta ρ (.int i)) (hb : Evr K tb ρ (.int j)) : Evr K (tCB rMax2 (tCons ta (tCons tb tNil))) ρ (.int (max i j)) := ev_cb (eva_cons ha (eva_cons hb eva_nil)) fun H vs Q h q => by
  obtain ⟨v, w, rfl, hv, hw⟩ := h.two
  refine ⟨i, j, by rw [hv.int_eq, hw.int_eq], ?_⟩
  have e : (if j > i then j else i) = max i j := by split <;> omega
  rw [e]
  exact q _ H (Same.refl H) (.int _)
theorem ev_maxL {r : List Int} {m : Int} (ha : Evr K ta ρ (dR r)) (hm : m ∈ r) (hle : ∀ y ∈ r, y ≤ m) : Evr K (tCB (rMax K) (tCons ta tNil)) ρ (.int m) := ev_cb (eva_cons ha eva_nil) fun H vs Q h q => by
  obtain ⟨v, rfl, hv⟩ := h.one
  obtain ⟨a, rfl, h1⟩ := hv.row
  refine ⟨a, r, rfl, sql h1, List.length_pos_of_mem hm, fun k hk hkl => ?_⟩
  have e : k = m := Int.le_antisymm (hle k hk) (hkl m hm)
  rw [e]
  exact q _ H (Same.refl H) (.int _)
theorem ev_minL {r : List Int} {m : Int} (ha : Evr K ta ρ (dR r)) (hm : m ∈ r) (hle : ∀ y ∈ r, m ≤ y) : Evr K (tCB (rMin K) (tCons ta tNil)) ρ (.int m) := ev_cb (eva_cons ha eva_nil) fun H vs Q h q => by
  obtain ⟨v, rfl, hv⟩ := h.one
  obtain ⟨a, rfl, h1⟩ := hv.row
  refine ⟨a, r, rfl, sql h1, List.length_pos_of_mem hm, fun k hk hkl => ?_⟩
  have e : k = m := Int.le_antisymm (hkl m hm) (hle k hk)
  rw [e]
  exact q _ H (Same.refl H) (.int _)
theorem evf_sorted {r s : List Int} (ha : Evr K ta ρ (dR r)) (hp : s.Perm r) (hs : s.Pairwise (· ≤ ·)) : Evf K (tCB (rSortedI K) (tCons ta tNil)) ρ (dR s) := evf_cb (eva_cons ha eva_nil) fun H vs Q h q => by
  obtain ⟨v, rfl, hv⟩ := h.one
  obtain ⟨a, rfl, h1⟩ := hv.row
  refine ⟨a, r, rfl, sql h1, fun ns' p e1 e2 hn => ?_⟩
  rw [sorted_one (e1.trans hp.symm) e2 hs]
  refine q _ _ [p] (same_upd hn) (Ow.row upd_same) fun c m => ?_
  rw [List.mem_singleton.mp m]; exact hn
def rListA (K : Frg) : List V → Hp → VK → Prop := fun xs H Q => ∃ p ys, xs = [.ref p] ∧ (SqL K H p ys ∨ SqT K H p ys) ∧ ∀ l, H l = none → Q (.ref l) (upd H l (.lst ys))
theorem cr_list {X : Cx} : CallR X (.type "list") (rListA X.K) := call_list_of
theorem evf_list {r : List Int} (ha : Evr K ta ρ (dR r)) : Evf K (tCB (rListA K) (tCons ta tNil)) ρ (dR r) := evf_cb (eva_cons ha eva_nil) fun H vs Q h q => by
  obtain ⟨v, rfl, hv⟩ := h.one
  obtain ⟨a, rfl, h1⟩ := hv.row
  refine ⟨a, _, rfl, .inl (sql h1), fun l hl => q _ _ [l] (same_upd hl) (Ow.row upd_same) fun c m => ?_⟩
  rw [List.mem_singleton.mp m]; exact hl
theorem rgV_ints (n : Int) : rgV 0 n = ((List.range n.toNat).map fun i : Nat => (i : Int)).map V.int := by
  unfold rgV
  rw [List.map_map, Int.sub_zero]
  refine List.map_congr_left fun i _ => ?_
  show V.int (0 + (i : Int)) = V.int (i : Int)
  rw [Int.zero_add]
theorem evf_listRg {n : Int} (ha : Evr K ta ρ (.int n)) (hn : n ≤ 1000000) (h0 : -1000000 ≤ n) : Evf K (tLstRg (tRg1 ta)) ρ (dR ((List.range n.toNat).map fun i : Nat => (i : Int))) := fun σ H Q R q => ha σ H _ R fun x H1 e1 r1 => by
  refine ⟨n, r1.int_eq, ⟨by omega, by omega, by omega, by omega⟩, fun p hp => ?_⟩
  rw [rgV_ints]
  refine q _ _ [p] (e1.trans (same_upd hp)) (Ow.row upd_same) fun c m => ?_
  rw [List.mem_singleton.mp m]; exact e1.free hp
/-! ### displays -/
theorem evf_lst {t : TA} {ds : List PyData} (h : Evaf K t ρ ds) (hl : ds.length ≤ 1000000 := by first | decide | simp) : Evf K (tLst t) ρ (.list ds) := fun σ H Q R q => h σ H _ R fun vs H1 F e1 r1 f1 =>
  ⟨by rw [r1.length]; exact sz_le hl, fun p hp => q _ _ (p :: F) (e1.trans (same_upd hp)) (.lst upd_same (r1.grow (same_upd hp)) fun m => by
    obtain ⟨o, ho⟩ := r1.dom p m
    rw [hp] at ho
    cases ho) fun a m => by
    rcases List.mem_cons.mp m with rfl | m
    · exact e1.free hp
    · exact f1 a m⟩
theorem evf_tup {t : TA} {ds : List PyData} (h : Evaf K t ρ ds) (hl : ds.length ≤ 1000000 := by first | decide | simp) : Evf K (tTup t) ρ (.tuple ds) := fun σ H Q R q => h σ H _ R fun vs H1 F e1 r1 f1 =>
  ⟨by rw [r1.length]; exact sz_le hl, fun p hp => q _ _ (p :: F) (e1.trans (same_upd hp)) (.tup upd_same (r1.grow (same_upd hp)) fun m => by
    obtain ⟨o, ho⟩ := r1.dom p m
    rw [hp] at ho
    cases ho) fun a m => by
    rcases List.mem_cons.mp m with rfl | m
    · exact e1.free hp
    · exact f1 a m⟩
theorem ev_lst {t : TA} {ds : List PyData} (h : Eva K t ρ ds) (hl : ds.length ≤ 1000000 := by first | decide | simp) : Evr K (tLst t) ρ (.list ds) := fun σ H Q R q => h σ H _ R fun vs H1 e1 r1 =>
  ⟨by rw [r1.length]; exact sz_le hl, fun p hp => q _ _ (e1.trans (same_upd hp)) (.lst upd_same (r1.mono (same_upd hp)))⟩
theorem ev_tup {t : TA} {ds : List PyData} (h : Eva K t ρ ds) (hl : ds.length ≤ 1000000 := by first | decide | simp) : Evr K (tTup t) ρ (.tuple ds) := fun σ H Q R q => h σ H _ R fun vs H1 e1 r1 =>
  ⟨by rw [r1.length]; exact sz_le hl, fun p hp => q _ _ (e1.trans (same_upd hp)) (.tup upd_same (r1.mono (same_upd hp)))⟩
/-! ### truth -/
theorem et_test {b : Bool} (h : Evr K te ρ (.bool b)) : Evt K (tTest te) ρ b := fun σ H Q R q => h σ H _ R fun v H1 e1 r1 => ⟨b, r1.bl_eq, q H1 e1⟩
theorem et_B {b : Bool} (h : Evr K te ρ (.bool b)) : Evt K (tB te) ρ b := fun σ H Q R q => h σ H _ R fun v H1 e1 r1 => ⟨b, r1.bl_eq, q H1 e1⟩
theorem et_yes : Evt K tYes ρ true := fun σ H Q R q => q H (Same.refl H)
theorem et_not {t : TT} {b : Bool} (h : Evt K t ρ b) : Evt K (tNot t) ρ (!b) := fun σ H Q R q => h σ H _ R fun H1 e1 => q H1 e1
theorem et_and {t u : TT} {a b : Bool} (h : Evt K t ρ a) (h2 : a = true → Evt K u ρ b) : Evt K (tAnd t u) ρ (a && b) := fun σ H Q R q => h σ H _ R fun H1 e1 => by
  cases a with
  | true =>
    show u σ H1 Q
    exact h2 rfl σ H1 Q (R.mono e1) fun H2 e2 => q H2 (e1.trans e2)
  | false =>
    show Q false H1
    exact q H1 e1
theorem et_or {t u : TT} {a b : Bool} (h : Evt K t ρ a) (h2 : a = false → Evt K u ρ b) : Evt K (tOr t u) ρ (a || b) := fun σ H Q R q => h σ H _ R fun H1 e1 => by
  cases a with
  | true =>
    show Q true H1
    exact q H1 e1
  | false =>
    show u σ H1 Q
    exact h2 rfl σ H1 Q (R.mono e1) fun H2 e2 => q H2 (e1.trans e2)
theorem ev_andV {a b : Bool} (h : Evr K ta ρ (.bool a)) (h2 : a = true → Evr K tb ρ (.bool b)) : Evr K (tAndV ta tb) ρ (.bool (a && b)) := fun σ H Q R q => h σ H _ R fun v H1 e1 r1 => ⟨a, r1.bl_eq, by
  cases a with
  | true =>
    show tb σ H1 Q
    exact h2 rfl σ H1 Q (R.mono e1) fun w H2 e2 r2 => q w H2 (e1.trans e2) r2
  | false =>
    show Q (.bl false) H1
    exact q _ H1 e1 (.bl _)⟩
theorem ev_orV {a b : Bool} (h : Evr K ta ρ (.bool a)) (h2 : a = false → Evr K tb ρ (.bool b)) : Evr K (tOrV ta tb) ρ (.bool (a || b)) := fun σ H Q R q => h σ H _ R fun v H1 e1 r1 => ⟨a, r1.bl_eq, by
  cases a with
  | true =>
    show Q (.bl true) H1
    exact q _ H1 e1 (.bl _)
  | false =>
    show tb σ H1 Q
    exact h2 rfl σ H1 Q (R.mono e1) fun w H2 e2 r2 => q w H2 (e1.trans e2) r2⟩
theorem ev_notV {a : Bool} (h : Evr K ta ρ (.bool a)) : Evr K (tNotV ta) ρ (.bool (!a)) := fun σ H Q R q => h σ H _ R fun v H1 e1 r1 => ⟨a, r1.bl_eq, q _ H1 e1 (.bl _)⟩
end
end Pur

set_option Elab.async false
set_option linter.all false
set_option maxRecDepth 100000
set_option maxHeartbeats 4000000
namespace Pur
open PySem L2
/-! ## comprehensions -/
section
variable {K : Frg} {H H' : Hp}
theorem RpAll.getV : ∀ {ds : List PyData} {vs : List V} {i : Nat} {v : V}, RpAll K H vs ds → vs[i]? = some v → ∃ d, ds[i]? = some d ∧ Rp K H v d
  | [], _, _, _, h, e => by cases h; simp at e
  | _ :: _, _, 0, _, h, e => by
    cases h with
    | cons h1 _ =>
      simp at e
      subst e
      exact ⟨_, rfl, h1⟩
  | _ :: _, _, i + 1, _, h, e => by
    cases h with
    | cons _ h2 => exact RpAll.getV (i := i) h2 (by simpa using e)
end
/-- the list at D holds what is made so far, new -/
def Cw (H : Hp) (D : Addr) (ds : List PyData) (H' : Hp) : Prop := H D = none ∧ Same H H' ∧ ∃ acc F, H' D = some (.lst acc) ∧ OwAll H' acc ds F ∧ ∀ a ∈ F, H a = none ∧ a ≠ D
section
variable {K : Frg} {ρ : DE} {ta tb te tl : TE} {tt : TT} {t : TA} {H H' : Hp} {D : Addr} {ds : List PyData} {σ : L2.St}
theorem Cw.start (h : H D = none) : Cw H D [] (upd H D (.lst [])) := ⟨h, same_upd h, [], [], upd_same, .nil, fun _ m => nomatch m⟩
theorem Cw.turn {d : PyData} {b : Bool} {Nx : Hp → Prop} (w : Cw H D ds H') (R : RelE K ρ σ H) (hl : ds.length < 1000000) (ht : Evt K tt ρ b) (he : b = true → Evf K te ρ d) (hn : ∀ H2, Cw H D (if b = true then ds ++ [d] else ds) H2 → Nx H2) :
    tt σ H' fun b H3 => if b = true then te σ H3 fun y H4 => ∃ acc, H4 D = some (.lst acc) ∧ acc.length < sizeLine ∧ Nx (upd H4 D (.lst (acc ++ [y]))) else Nx H3 := by
  obtain ⟨w1, w2, acc, F, w3, w4, w5⟩ := w
  refine ht σ H' _ (R.mono w2) fun H3 e3 => ?_
  cases b with
  | true =>
    show te σ H3 fun y H4 => ∃ acc, H4 D = some (.lst acc) ∧ acc.length < sizeLine ∧ Nx (upd H4 D (.lst (acc ++ [y])))
    refine he rfl σ H3 _ (R.mono (w2.trans e3)) fun y H4 G e4 o4 f4 => ?_
    have hD : H4 D = some (.lst acc) := e4 _ _ (e3 _ _ w3)
    have oD : ∀ a ∈ F ++ G, H a = none ∧ a ≠ D := fun a m => by
      rcases List.mem_append.mp m with m | m
      · exact w5 a m
      · refine ⟨(w2.trans e3).free (f4 a m), fun z => ?_⟩
        have q := f4 a m
        rw [z, e3 _ _ w3] at q
        cases q
    refine ⟨acc, hD, by rw [w4.length]; exact sz_lt hl, hn _ ⟨w1, same_mut ((w2.trans e3).trans e4) w1, acc ++ [y], F ++ (G ++ []), upd_same, ?_, fun a m => oD a (by simpa using m)⟩⟩
    refine OwAll.append ((w4.grow (e3.trans e4)).keep fun a m => upd_ne (w5 a m).2) (.cons (o4.keep fun a m => upd_ne (oD a (List.mem_append_right _ m)).2) .nil fun _ _ m => nomatch m) fun a m z => ?_
    have z2 : a ∈ G := by simpa using z
    obtain ⟨o, ho⟩ := (w4.grow e3).dom a m
    rw [f4 a z2] at ho
    cases ho
  | false =>
    show Nx H3
    exact hn _ ⟨w1, w2.trans e3, acc, F, e3 _ _ w3, w4.grow e3, w5⟩
theorem Cw.done {Q : VK} (w : Cw H D ds H') (q : ∀ v H2 F, Same H H2 → Ow H2 v (.list ds) F → (∀ a ∈ F, H a = none) → Q v H2) : Q (.ref D) H' := by
  obtain ⟨w1, w2, acc, F, w3, w4, w5⟩ := w
  refine q _ _ (D :: F) w2 (.lst w3 w4 fun m => (w5 D m).2 rfl) fun a m => ?_
  rcases List.mem_cons.mp m with rfl | m
  · exact w1
  · exact (w5 a m).1
theorem take_succ_some {α : Type} {xs : List α} {i : Nat} {x : α} (h : xs[i]? = some x) : xs.take (i + 1) = xs.take i ++ [x] := by
  rw [List.take_add_one, h]
  rfl
theorem fm_succ {α : Type} {xs : List α} {i : Nat} {x : α} {p : α → Bool} {g : α → PyData} (h : xs[i]? = some x) :
    (((xs.take (i + 1)).filter p).map g) = if p x = true then ((xs.take i).filter p).map g ++ [g x] else ((xs.take i).filter p).map g := by
  rw [take_succ_some h, List.filter_append, List.map_append]
  cases hp : p x with
  | true => simp [hp]
  | false => simp [hp]
theorem fm_len {α : Type} {xs : List α} {i : Nat} {p : α → Bool} {g : α → PyData} {m : Nat} (hi : i < xs.length) (hz : xs.length ≤ m) : (((xs.take i).filter p).map g).length < m := by
  rw [List.length_map]
  have := List.length_filter_le p (xs.take i)
  rw [List.length_take] at this
  omega
theorem wipe1 (σ : L2.St) (j : Nat) (x : Option V) : L2.wipe ((L2.wipe σ [j]).set j x) [j] = L2.wipe σ [j] := by
  show ((σ.set j none).set j x).set j none = σ.set j none
  rw [List.set_set, List.set_set]
theorem RelE.comp (R : RelE K ρ σ H) {v : V} {d : PyData} (r : Rp K H v d) (j : Nat) : RelE K (ρ.set j (some d)) ((L2.wipe σ [j]).set j (some v)) H := by
  show RelE K (ρ.set j (some d)) ((σ.set j none).set j (some v)) H
  rw [List.set_set]
  exact R.set r j
/-- [e for x in a list, if ..] -/
theorem evf_lcL {α : Type} {c : α → PyData} {xs : List α} {j : Nat} (p : α → Bool) (g : α → PyData) (hl : Evr K tl ρ (.list (xs.map c))) (hz : xs.length ≤ 1000000)
    (ht : ∀ x ∈ xs, Evt K tt (ρ.set j (some (c x))) (p x)) (he : ∀ x ∈ xs, p x = true → Evf K te (ρ.set j (some (c x))) (g x)) :
    Evf K (tLc (iList K tl) (gName j) tt te [j]) ρ (.list ((xs.filter p).map g)) := fun σ H Q R q => hl σ H _ R fun v H1 e1 r1 => by
  obtain ⟨a, vs, rfl, h1, k1⟩ := r1.list
  have hlen := k1.length
  rw [List.length_map] at hlen
  refine ⟨a, rfl, ⟨vs, sql h1⟩, fun D hD => ?_⟩
  refine lc_list (xs := vs) (fun i H' => Cw H1 D (((xs.take i).filter p).map g) H') (Cw.start hD) (fun i H' _ w => sql (w.2.1 a _ h1)) (fun i x H' hi w => ?_) (fun H' w => ?_)
  · have hi2 : i < xs.length := by
      rw [← hlen]
      exact (List.getElem?_eq_some_iff.mp hi).1
    obtain ⟨d, hd, rd⟩ := k1.getV hi
    rw [List.getElem?_map, List.getElem?_eq_getElem hi2] at hd
    have hm : xs[i] ∈ xs := List.getElem_mem hi2
    have ed : c xs[i] = d := Option.some.inj hd
    subst ed
    refine ⟨wipe1 _ _ _, ?_⟩
    refine w.turn (d := g xs[i]) ((R.mono e1).comp rd j) (fm_len hi2 hz) (ht _ hm) (he _ hm) fun H2 w2 => ?_
    rw [fm_succ (List.getElem?_eq_getElem hi2)]
    exact w2
  · rw [hlen, List.take_length] at w
    exact w.done fun v H2 F e o f => q v H2 F (e1.trans e) o fun a m => e1.free (f a m)
/-- over range(n) -/
theorem evf_lcR {n : Int} {j : Nat} (p : Nat → Bool) (g : Nat → PyData) (hl : Eva K t ρ [.int n]) (hz : n ≤ 1000000) (h0 : -1000000 ≤ n)
    (ht : ∀ i : Nat, (i : Int) < n → Evt K tt (ρ.set j (some (.int (i : Int)))) (p i)) (he : ∀ i : Nat, (i : Int) < n → p i = true → Evf K te (ρ.set j (some (.int (i : Int)))) (g i)) :
    Evf K (tLc (iRng1 t) (gName j) tt te [j]) ρ (.list (((List.range n.toNat).filter p).map g)) := fun σ H Q R q => hl σ H _ R fun vs H1 e1 r1 => by
  obtain ⟨v, rfl, hv⟩ := r1.one
  obtain rfl := hv.int_eq
  refine ⟨n, rfl, by omega, by omega, fun D hD => ?_⟩
  refine lc_range (lo := 0) (n := n.toNat) (fun i H' => Cw H1 D ((((List.range n.toNat).take i).filter p).map g) H') (Cw.start hD) (fun i H' hi w => ?_) (fun H' w => ?_)
  · have hi2 : i < (List.range n.toNat).length := by rw [List.length_range]; exact hi
    have hg : (List.range n.toNat)[i]? = some i := by rw [List.getElem?_eq_getElem hi2, List.getElem_range]
    refine ⟨wipe1 _ _ _, ?_⟩
    have e0 : (0 : Int) + (i : Int) = (i : Int) := Int.zero_add _
    rw [e0]
    refine w.turn (d := g i) ((R.mono e1).comp (.int (i : Int)) j) (fm_len hi2 (by rw [List.length_range]; omega)) (ht i (by omega)) (he i (by omega)) fun H2 w2 => ?_
    rw [fm_succ hg]
    exact w2
  · rw [List.take_of_length_le (by rw [List.length_range]; exact Nat.le_refl _)] at w
    exact w.done fun v H2 F e o f => q v H2 F (e1.trans e) o fun a m => e1.free (f a m)
/-- over range(lo, n) -/
theorem evf_lcR2 {lo n : Int} {j : Nat} (p : Nat → Bool) (g : Nat → PyData) (hl : Eva K t ρ [.int lo, .int n]) (hz : n ≤ 1000000 ∧ -1000000 ≤ n) (h0 : -1000000 ≤ lo ∧ lo ≤ 1000000) (hd : (n - lo).toNat ≤ 1000000)
    (ht : ∀ i : Nat, lo + (i : Int) < n → Evt K tt (ρ.set j (some (.int (lo + (i : Int))))) (p i)) (he : ∀ i : Nat, lo + (i : Int) < n → p i = true → Evf K te (ρ.set j (some (.int (lo + (i : Int))))) (g i)) :
    Evf K (tLc (iRng2 t) (gName j) tt te [j]) ρ (.list (((List.range (n - lo).toNat).filter p).map g)) := fun σ H Q R q => hl σ H _ R fun vs H1 e1 r1 => by
  obtain ⟨v, w, rfl, hv, hw⟩ := r1.two
  obtain rfl := hv.int_eq
  obtain rfl := hw.int_eq
  refine ⟨lo, n, rfl, ⟨by omega, by omega, by omega, by omega⟩, fun D hD => ?_⟩
  refine lc_range (lo := lo) (n := (n - lo).toNat) (fun i H' => Cw H1 D ((((List.range (n - lo).toNat).take i).filter p).map g) H') (Cw.start hD) (fun i H' hi w => ?_) (fun H' w => ?_)
  · have hi2 : i < (List.range (n - lo).toNat).length := by rw [List.length_range]; exact hi
    have hg : (List.range (n - lo).toNat)[i]? = some i := by rw [List.getElem?_eq_getElem hi2, List.getElem_range]
    refine ⟨wipe1 _ _ _, ?_⟩
    refine w.turn (d := g i) ((R.mono e1).comp (.int (lo + (i : Int))) j) (fm_len hi2 (by rw [List.length_range]; exact hd)) (ht i (by omega)) (he i (by omega)) fun H2 w2 => ?_
    rw [fm_succ hg]
    exact w2
  · rw [List.take_of_length_le (by rw [List.length_range]; exact Nat.le_refl _)] at w
    exact w.done fun v H2 F e o f => q v H2 F (e1.trans e) o fun a m => e1.free (f a m)
end
/-! ## what a def promises -/
def After (H : Hp) (Q : VK) (E : XK) : Except Addr PyData → Prop
  | .ok d => ∀ v H' F, Same H H' → Ow H' v d F → (∀ a ∈ F, H a = none) → Q v H'
  | .error c => ∀ H', Same H H' → E (.ref c) none H'
/-- R: from the arguments' data to what is handed back, or the error's class -/
def spOf (K : Frg) (R : List PyData → Except Addr PyData → Prop) : Sp := fun vs H Q E => ∃ ds o, RpAll K H vs ds ∧ R ds o ∧ After H Q E o
/-- evaluating raises an error of the class at c -/
def EvX (K : Frg) (W : WX) (te : TE) (ρ : DE) (c : Addr) : Prop := ∀ (σ : L2.St) (H : Hp) (Q : VK), RelE K ρ σ H → (∀ H', Same H H' → W (.ref c) none σ H') → te σ H Q
def EvaX (K : Frg) (W : WX) (ta : TA) (ρ : DE) (c : Addr) : Prop := ∀ (σ : L2.St) (H : Hp) (Q : List V → Hp → Prop), RelE K ρ σ H → (∀ H', Same H H' → W (.ref c) none σ H') → ta σ H Q
section
variable {K : Frg} {ρ : DE} {ta tb te : TE} {t : TA} {R : List PyData → Except Addr PyData → Prop} {ds : List PyData} {d : PyData} {E : XK} {W : WX} {c : Addr}
theorem evf_call (ha : Eva K t ρ ds) (h : R ds (.ok d)) : Evf K (tCall (spOf K R) [] E t) ρ d := fun σ H Q Re q => ha σ H _ Re fun vs H1 e1 r1 =>
  ⟨ds, .ok d, by rw [List.append_nil]; exact r1, h, fun v H2 F e2 o f => q v H2 F (e1.trans e2) o fun a m => e1.free (f a m)⟩
theorem evf_callS {E : L2.St → XK} (ha : Eva K t ρ ds) (h : R ds (.ok d)) : Evf K (tCallS (spOf K R) E t) ρ d := fun σ H Q Re q => ha σ H _ Re fun vs H1 e1 r1 =>
  ⟨ds, .ok d, r1, h, fun v H2 F e2 o f => q v H2 F (e1.trans e2) o fun a m => e1.free (f a m)⟩
theorem evx_callS (ha : Eva K t ρ ds) (h : R ds (.error c)) : EvX K W (tCallS (spOf K R) (WE W) t) ρ c := fun σ H Q Re q => ha σ H _ Re fun vs H1 e1 r1 =>
  ⟨ds, .error c, r1, h, fun H2 e2 => q H2 (e1.trans e2)⟩
theorem evax_1 {tr : TA} (h : EvX K W ta ρ c) : EvaX K W (tCons ta tr) ρ c := fun σ H Q R q => h σ H _ R q
theorem evax_2 {tr : TA} (ha : Evr K ta ρ d) (h : EvaX K W tr ρ c) : EvaX K W (tCons ta tr) ρ c := fun σ H Q R q => ha σ H _ R fun v H1 e1 _ => h σ H1 _ (R.mono e1) fun H2 e2 => q H2 (e1.trans e2)
theorem evx_cb {r : List V → Hp → VK → Prop} (h : EvaX K W t ρ c) : EvX K W (tCB r t) ρ c := fun σ H Q R q => h σ H _ R q
theorem evx_arg {sp : Sp} {E : L2.St → XK} (h : EvaX K W t ρ c) : EvX K W (tCallS sp E t) ρ c := fun σ H Q R q => h σ H _ R q
theorem evx_arg0 {sp : Sp} {E : XK} (h : EvaX K W t ρ c) : EvX K W (tCall sp [] E t) ρ c := fun σ H Q R q => h σ H _ R q
theorem evx_op1 {r : R2} (h : EvX K W ta ρ c) : EvX K W (tOp r ta tb) ρ c := fun σ H Q R q => h σ H _ R q
theorem evx_op2 {r : R2} (ha : Evr K ta ρ d) (h : EvX K W tb ρ c) : EvX K W (tOp r ta tb) ρ c := fun σ H Q R q => ha σ H _ R fun v H1 e1 _ => h σ H1 _ (R.mono e1) fun H2 e2 => q H2 (e1.trans e2)
theorem evx_lcL {g : TG} {tt : TT} {vs : List Nat} (h : EvX K W ta ρ c) : EvX K W (tLc (iList K ta) g tt te vs) ρ c := fun σ H Q R q => h σ H _ R q
end
end Pur

set_option Elab.async false
set_option linter.all false
set_option maxRecDepth 100000
set_option maxHeartbeats 4000000
namespace Pur
open PySem L2
/-! ## what a name holds between statements: no: nothing that is known; fr: data that stays; al: data that stays till something is changed; o1: a list of its own, what is in it stays; ow: data of its own -/
inductive Sl where
  | no
  | fr (d : PyData)
  | al (d : PyData)
  | o1 (d : PyData)
  | ow (d : PyData)
  | at (a : Addr) (r : List Int)
def erS : Sl → Option PyData
  | .no => none
  | .fr d => some d
  | .al d => some d
  | .o1 d => some d
  | .ow d => some d
  | .at _ r => some (dR r)
abbrev er (ρ : List Sl) : DE := ρ.map erS
def killS : Sl → Sl
  | .al _ => .no
  | s => s
abbrev kill (ρ : List Sl) : List Sl := ρ.map killS
def SlOk (K : Frg) (Z H : Hp) : Sl → Option (Option V) → List Addr → Prop
  | .no, _, F => F = []
  | .fr d, x, F => F = [] ∧ ∃ v, x = some (some v) ∧ Rp K Z v d
  | .al d, x, F => F = [] ∧ ∃ v, x = some (some v) ∧ Rp K H v d
  | .o1 d, x, F => ∃ a xs ds, d = .list ds ∧ x = some (some (.ref a)) ∧ H a = some (.lst xs) ∧ RpAll K Z xs ds ∧ F = [a]
  | .ow d, x, F => ∃ v, x = some (some v) ∧ Ow H v d F
  | .at a r, x, F => x = some (some (.ref a)) ∧ H a = some (.lst (r.map V.int)) ∧ F = [a]
structure Own (K : Frg) (Z H : Hp) (ρ : List Sl) (σ : L2.St) (Fs : Nat → List Addr) : Prop where
  ok : ∀ i s, ρ[i]? = some s → SlOk K Z H s σ[i]? (Fs i)
  dis : ∀ i j, i ≠ j → ∀ a ∈ Fs i, a ∉ Fs j
  fr : ∀ i, ∀ a ∈ Fs i, Z a = none
  out : ∀ i, ρ.length ≤ i → Fs i = []
structure RelS (K : Frg) (Z : Hp) (ρ : List Sl) (σ : L2.St) (H : Hp) : Prop where
  len : ρ.length = σ.length
  ext : Same Z H
  ex : ∃ Fs, Own K Z H ρ σ Fs
section
variable {K : Frg} {Z Z' H H' : Hp} {ρ : List Sl} {σ : L2.St} {Fs : Nat → List Addr} {s : Sl} {x : Option (Option V)} {F : List Addr}
theorem SlOk.dom (h : SlOk K Z H s x F) : ∀ a ∈ F, ∃ o, H a = some o := by
  cases s with
  | no =>
    obtain rfl := h
    exact fun _ m => nomatch m
  | fr d =>
    obtain ⟨rfl, _⟩ := h
    exact fun _ m => nomatch m
  | al d =>
    obtain ⟨rfl, _⟩ := h
    exact fun _ m => nomatch m
  | o1 d =>
    obtain ⟨a, xs, ds, rfl, rfl, h1, h2, rfl⟩ := h
    intro b m
    rw [List.mem_singleton.mp m]
    exact ⟨_, h1⟩
  | ow d =>
    obtain ⟨v, rfl, h1⟩ := h
    exact h1.dom
  | «at» a r =>
    obtain ⟨rfl, h1, rfl⟩ := h
    intro b m
    rw [List.mem_singleton.mp m]
    exact ⟨_, h1⟩
theorem SlOk.grow (h : SlOk K Z H s x F) (e : Same H H') : SlOk K Z H' s x F := by
  cases s with
  | no => exact h
  | fr d => exact h
  | al d =>
    obtain ⟨rfl, v, h1, h2⟩ := h
    exact ⟨rfl, v, h1, h2.mono e⟩
  | o1 d =>
    obtain ⟨a, xs, ds, rfl, rfl, h1, h2, rfl⟩ := h
    exact ⟨a, xs, ds, rfl, rfl, e _ _ h1, h2, rfl⟩
  | ow d =>
    obtain ⟨v, rfl, h1⟩ := h
    exact ⟨v, rfl, h1.grow e⟩
  | «at» a r =>
    obtain ⟨rfl, h1, rfl⟩ := h
    exact ⟨rfl, e _ _ h1, rfl⟩
/-- more stays -/
theorem SlOk.more (h : SlOk K Z H s x F) (e : Same Z Z') : SlOk K Z' H s x F := by
  cases s with
  | no => exact h
  | fr d =>
    obtain ⟨rfl, v, h1, h2⟩ := h
    exact ⟨rfl, v, h1, h2.mono e⟩
  | al d => exact h
  | o1 d =>
    obtain ⟨a, xs, ds, rfl, rfl, h1, h2, rfl⟩ := h
    exact ⟨a, xs, ds, rfl, rfl, h1, h2.mono e, rfl⟩
  | ow d => exact h
  | «at» a r => exact h
/-- changed elsewhere -/
theorem SlOk.keep (h : SlOk K Z H s x F) (k : ∀ a ∈ F, H' a = H a) : SlOk K Z H' (killS s) x F := by
  cases s with
  | no => exact h
  | fr d => exact h
  | al d =>
    obtain ⟨rfl, v, h1, h2⟩ := h
    exact rfl
  | o1 d =>
    obtain ⟨a, xs, ds, rfl, rfl, h1, h2, rfl⟩ := h
    exact ⟨a, xs, ds, rfl, rfl, (k a List.mem_cons_self).trans h1, h2, rfl⟩
  | ow d =>
    obtain ⟨v, rfl, h1⟩ := h
    exact ⟨v, rfl, h1.keep k⟩
  | «at» a r =>
    obtain ⟨rfl, h1, rfl⟩ := h
    exact ⟨rfl, (k a List.mem_cons_self).trans h1, rfl⟩
theorem SlOk.read (h : SlOk K Z H s x F) (e : Same Z H) {d : PyData} (q : erS s = some d) : ∃ v, x = some (some v) ∧ Rp K H v d := by
  cases s with
  | no => cases q
  | fr d =>
    cases q
    obtain ⟨rfl, v, h1, h2⟩ := h
    exact ⟨v, h1, h2.mono e⟩
  | al d =>
    cases q
    obtain ⟨rfl, v, h1, h2⟩ := h
    exact ⟨v, h1, h2⟩
  | o1 d =>
    cases q
    obtain ⟨a, xs, ds, rfl, rfl, h1, h2, rfl⟩ := h
    exact ⟨_, rfl, .lst h1 (h2.mono e)⟩
  | ow d =>
    cases q
    obtain ⟨v, rfl, h1⟩ := h
    exact ⟨v, rfl, h1.rp⟩
  | «at» a r =>
    cases q
    obtain ⟨rfl, h1, rfl⟩ := h
    exact ⟨_, rfl, .lst h1 (RpAll.of_ints r)⟩
theorem RelS.relE (R : RelS K Z ρ σ H) : RelE K (er ρ) σ H := by
  obtain ⟨Fs, O⟩ := R.ex
  refine ⟨by rw [List.length_map]; exact R.len, fun i d h => ?_⟩
  rw [List.getElem?_map] at h
  cases e : ρ[i]? with
  | none => rw [e] at h; cases h
  | some s =>
    rw [e] at h
    have q : erS s = some d := Option.some.inj h
    exact (O.ok i s e).read R.ext q
theorem RelS.grow (R : RelS K Z ρ σ H) (e : Same H H') : RelS K Z ρ σ H' := by
  obtain ⟨Fs, O⟩ := R.ex
  exact ⟨R.len, R.ext.trans e, Fs, fun i s h => (O.ok i s h).grow e, O.dis, O.fr, O.out⟩
theorem Own.dom (O : Own K Z H ρ σ Fs) (j : Nat) : ∀ a ∈ Fs j, ∃ o, H a = some o := fun a m => by
  by_cases hj : j < ρ.length
  · exact (O.ok j ρ[j] (List.getElem?_eq_getElem hj)).dom a m
  · rw [O.out j (by omega)] at m
    cases m
def putF (Fs : Nat → List Addr) (i : Nat) (F : List Addr) : Nat → List Addr := fun k => if k = i then F else Fs k
theorem putF_same {i : Nat} : putF Fs i F i = F := if_pos rfl
theorem putF_ne {i k : Nat} (h : k ≠ i) : putF Fs i F k = Fs k := if_neg h
/-- one name's part exchanged -/
theorem Own.put {τ : L2.St} {ρ' : List Sl} {i : Nat} {s' : Sl} (hρ : ρ'.length = ρ.length) (hi : i < ρ.length) (hs : ρ'[i]? = some s') (ok : SlOk K Z H s' τ[i]? F) (ho : ∀ k s, k ≠ i → ρ'[k]? = some s → SlOk K Z H s τ[k]? (Fs k))
    (dis : ∀ i j, i ≠ j → ∀ a ∈ Fs i, a ∉ Fs j) (hfr : ∀ i, ∀ a ∈ Fs i, Z a = none) (out : ∀ i, ρ.length ≤ i → Fs i = []) (off : ∀ k, k ≠ i → ∀ a ∈ F, a ∉ Fs k) (fr : ∀ a ∈ F, Z a = none) : Own K Z H ρ' τ (putF Fs i F) := by
  refine ⟨fun k s h => ?_, fun k j hkj a m => ?_, fun k a m => ?_, fun k hk => ?_⟩
  · by_cases hk : k = i
    · subst hk
      rw [hs] at h
      cases h
      rw [putF_same]
      exact ok
    · rw [putF_ne hk]
      exact ho k s hk h
  · by_cases hk : k = i
    · subst hk
      rw [putF_same] at m
      rw [putF_ne (Ne.symm hkj)]
      exact off j (Ne.symm hkj) a m
    · rw [putF_ne hk] at m
      by_cases hj : j = i
      · subst hj
        rw [putF_same]
        exact fun z => off k hk a z m
      · rw [putF_ne hj]
        exact dis k j hkj a m
  · by_cases hk : k = i
    · subst hk
      rw [putF_same] at m
      exact fr a m
    · rw [putF_ne hk] at m
      exact hfr k a m
  · rw [putF_ne (by omega)]
    exact out k (by omega)
/-- a name gets a value -/
theorem RelS.put (R : RelS K Z ρ σ H) (e : Same H H') {i : Nat} {s' : Sl} {v : V} (ok : SlOk K Z H' s' (some (some v)) F) (fr : ∀ a ∈ F, H a = none) : RelS K Z (ρ.set i s') (σ.set i (some v)) H' := by
  by_cases hi : i < ρ.length
  case neg =>
    rw [List.set_eq_of_length_le (by omega), List.set_eq_of_length_le (by rw [← R.len]; omega)]
    exact R.grow e
  obtain ⟨Fs, O⟩ := R.ex
  have hiσ : i < σ.length := by rw [← R.len]; exact hi
  refine ⟨by rw [List.length_set, List.length_set]; exact R.len, R.ext.trans e, putF Fs i F, ?_⟩
  refine Own.put (ρ := ρ) (by rw [List.length_set]) hi (List.getElem?_set_self hi) (by rw [List.getElem?_set_self hiσ]; exact ok) (fun k s hk h => ?_) O.dis O.fr O.out (fun k hk a m z => ?_) fun a m => R.ext.free (fr a m)
  · rw [List.getElem?_set_ne (Ne.symm hk)] at h
    rw [List.getElem?_set_ne (Ne.symm hk)]
    exact (O.ok k s h).grow e
  · obtain ⟨o, q⟩ := O.dom k a z
    rw [fr a m] at q
    cases q
/-- less is known -/
inductive Wk : Sl → Sl → Prop
  | rfl (s : Sl) : Wk s s
  | no (s : Sl) : Wk s .no
  | oa (d : PyData) : Wk (.ow d) (.al d)
  | fa (d : PyData) : Wk (.fr d) (.al d)
  | so {d : PyData} : Scal d → Wk (.fr d) (.ow d)
  | sf {d : PyData} : Scal d → Wk (.ow d) (.fr d)
  | sa {d : PyData} : Scal d → Wk (.al d) (.fr d)
  | oo (d : PyData) : Wk (.o1 d) (.al d)
theorem SlOk.wk {s' : Sl} (h : SlOk K Z H s x F) (w : Wk s s') (e : Same Z H) : ∃ F', SlOk K Z H s' x F' ∧ ∀ a ∈ F', a ∈ F := by
  cases w with
  | rfl => exact ⟨F, h, fun _ m => m⟩
  | no => exact ⟨[], rfl, fun _ m => nomatch m⟩
  | oa d =>
    obtain ⟨v, h1, h2⟩ := h
    exact ⟨[], ⟨rfl, v, h1, h2.rp⟩, fun _ m => nomatch m⟩
  | fa d =>
    obtain ⟨_, v, h1, h2⟩ := h
    exact ⟨[], ⟨rfl, v, h1, h2.mono e⟩, fun _ m => nomatch m⟩
  | so sc =>
    obtain ⟨_, v, h1, h2⟩ := h
    exact ⟨[], ⟨v, h1, h2.ow sc⟩, fun _ m => nomatch m⟩
  | sf sc =>
    obtain ⟨v, h1, h2⟩ := h
    exact ⟨[], ⟨rfl, v, h1, (h2.rp (K := K)).any sc⟩, fun _ m => nomatch m⟩
  | sa sc =>
    obtain ⟨_, v, h1, h2⟩ := h
    exact ⟨[], ⟨rfl, v, h1, h2.any sc⟩, fun _ m => nomatch m⟩
  | oo d =>
    obtain ⟨a, xs, ds, rfl, rfl, h1, h2, rfl⟩ := h
    exact ⟨[], ⟨rfl, _, rfl, .lst h1 (h2.mono e)⟩, fun _ m => nomatch m⟩
theorem RelS.wk1 (R : RelS K Z ρ σ H) {i : Nat} {s s' : Sl} (hs : ρ[i]? = some s) (w : Wk s s') : RelS K Z (ρ.set i s') σ H := by
  obtain ⟨Fs, O⟩ := R.ex
  have hi : i < ρ.length := (List.getElem?_eq_some_iff.mp hs).1
  obtain ⟨F', h1, h2⟩ := (O.ok i s hs).wk w R.ext
  refine ⟨by rw [List.length_set]; exact R.len, R.ext, putF Fs i F', ?_⟩
  refine Own.put (ρ := ρ) (by rw [List.length_set]) hi (List.getElem?_set_self hi) h1 (fun k s hk h => ?_) O.dis O.fr O.out (fun k hk a m z => ?_) fun a m => O.fr i a (h2 a m)
  · rw [List.getElem?_set_ne (Ne.symm hk)] at h
    exact O.ok k s h
  · exact O.dis i k (Ne.symm hk) a (h2 a m) z
theorem RelS.no (R : RelS K Z ρ σ H) (i : Nat) : RelS K Z (ρ.set i .no) σ H := by
  by_cases hi : i < ρ.length
  · exact R.wk1 (List.getElem?_eq_getElem hi) (.no _)
  · rw [List.set_eq_of_length_le (by omega)]
    exact R
/-- what is held stays from now on -/
theorem RelS.frz (R : RelS K Z ρ σ H) {i : Nat} {d : PyData} (hs : ρ[i]? = some (.ow d)) : ∃ Z', Same Z Z' ∧ RelS K Z' (ρ.set i (.fr d)) σ H := by
  obtain ⟨Fs, O⟩ := R.ex
  have hi : i < ρ.length := (List.getElem?_eq_some_iff.mp hs).1
  obtain ⟨v, h1, h2⟩ := O.ok i _ hs
  have hz : Same Z (fun b => if b ∈ Fs i then H b else Z b) := fun a o q => by
    show (if a ∈ Fs i then H a else Z a) = some o
    by_cases m : a ∈ Fs i
    · rw [O.fr i a m] at q
      cases q
    · rw [if_neg m]
      exact q
  refine ⟨fun b => if b ∈ Fs i then H b else Z b, hz, by rw [List.length_set]; exact R.len, fun a o q => ?_, putF Fs i [], ?_⟩
  · have q' : (if a ∈ Fs i then H a else Z a) = some o := q
    by_cases m : a ∈ Fs i
    · rw [if_pos m] at q'
      exact q'
    · rw [if_neg m] at q'
      exact R.ext a o q'
  refine ⟨fun k s h => ?_, fun k j hkj a m => ?_, fun k a m => ?_, fun k hk => ?_⟩
  · by_cases hk : k = i
    · subst hk
      rw [List.getElem?_set_self hi] at h
      cases h
      exact ⟨putF_same, v, h1, h2.rpz fun a m => if_pos m⟩
    · rw [List.getElem?_set_ne (Ne.symm hk)] at h
      rw [putF_ne hk]
      exact (O.ok k s h).more hz
  · by_cases hk : k = i
    · subst hk
      rw [putF_same] at m
      cases m
    · rw [putF_ne hk] at m
      by_cases hj : j = i
      · subst hj
        rw [putF_same]
        exact fun z => nomatch z
      · rw [putF_ne hj]
        exact O.dis k j hkj a m
  · by_cases hk : k = i
    · subst hk
      rw [putF_same] at m
      cases m
    · rw [putF_ne hk] at m
      show (if a ∈ Fs i then H a else Z a) = none
      rw [if_neg (O.dis k i hk a m)]
      exact O.fr k a m
  · by_cases hk2 : k = i
    · subst hk2
      exact putF_same
    · rw [putF_ne hk2]
      exact O.out k (by rw [List.length_set] at hk; exact hk)
/-- a moved name: i takes what j held -/
theorem RelS.move (R : RelS K Z ρ σ H) {i j : Nat} {d : PyData} {v : V} (hs : ρ[j]? = some (.ow d)) (hv : σ[j]? = some (some v)) (hi : i < ρ.length) (hij : i ≠ j) : RelS K Z ((ρ.set j .no).set i (.ow d)) (σ.set i (some v)) H := by
  obtain ⟨Fs, O⟩ := R.ex
  have hj : j < ρ.length := (List.getElem?_eq_some_iff.mp hs).1
  have hiσ : i < σ.length := by rw [← R.len]; exact hi
  obtain ⟨v', h1, h2⟩ := O.ok j _ hs
  rw [hv] at h1
  cases h1
  refine ⟨by rw [List.length_set, List.length_set, List.length_set]; exact R.len, R.ext, putF (putF Fs j []) i (Fs j), ?_⟩
  refine Own.put (ρ := ρ.set j .no) (by rw [List.length_set, List.length_set]) (by rw [List.length_set]; exact hi) (List.getElem?_set_self (by rw [List.length_set]; exact hi)) (by rw [List.getElem?_set_self hiσ]; exact ⟨v, rfl, h2⟩) (fun k s hk h => ?_) ?_ ?_ ?_ (fun k hk a m z => ?_) fun a m => O.fr j a m
  · rw [List.getElem?_set_ne (Ne.symm hk)] at h
    rw [List.getElem?_set_ne (Ne.symm hk)]
    by_cases hkj : k = j
    · subst hkj
      rw [List.getElem?_set_self hj] at h
      cases h
      exact putF_same
    · rw [List.getElem?_set_ne (Ne.symm hkj)] at h
      rw [putF_ne hkj]
      exact O.ok k s h
  · intro k l hkl a m
    by_cases hk : k = j
    · subst hk
      rw [putF_same] at m
      cases m
    · rw [putF_ne hk] at m
      by_cases hl : l = j
      · subst hl
        rw [putF_same]
        exact fun z => nomatch z
      · rw [putF_ne hl]
        exact O.dis k l hkl a m
  · intro k a m
    by_cases hk : k = j
    · subst hk
      rw [putF_same] at m
      cases m
    · rw [putF_ne hk] at m
      exact O.fr k a m
  · intro k hk
    by_cases hkj : k = j
    · subst hkj
      exact putF_same
    · rw [putF_ne hkj]
      exact O.out k (by rw [List.length_set] at hk; exact hk)
  · by_cases hkj : k = j
    · subst hkj
      rw [putF_same] at z
      cases z
    · rw [putF_ne hkj] at z
      exact O.dis j k (Ne.symm hkj) a m z
/-- the object at a, a part of what i owns, is changed; s' is what i holds then, at F' -/
theorem RelS.chg (R : RelS K Z ρ σ H) {i : Nat} {s s' : Sl} {F' : List Addr} (hs : ρ[i]? = some s) (O : Own K Z H ρ σ Fs) (k : ∀ b, b ∉ Fs i → ∀ o, H b = some o → H' b = some o)
    (ok : SlOk K Z H' s' σ[i]? F') (hF : ∀ a ∈ F', a ∈ Fs i ∨ H a = none) : RelS K Z ((kill ρ).set i s') σ H' := by
  have hi : i < ρ.length := (List.getElem?_eq_some_iff.mp hs).1
  have hkl : (kill ρ).length = ρ.length := List.length_map _
  refine ⟨by rw [List.length_set, hkl]; exact R.len, fun a o q => k a (fun m => ?_) o (R.ext a o q), putF Fs i F', ?_⟩
  · rw [O.fr i a m] at q
    cases q
  refine Own.put (ρ := ρ) (by rw [List.length_set, hkl]) hi (List.getElem?_set_self (by rw [hkl]; exact hi)) ok (fun j t hj h => ?_) O.dis O.fr O.out (fun j hj a m z => ?_) fun a m => ?_
  · rw [List.getElem?_set_ne (Ne.symm hj), List.getElem?_map] at h
    cases e : ρ[j]? with
    | none => rw [e] at h; cases h
    | some u =>
      rw [e] at h
      have q : killS u = t := Option.some.inj h
      subst q
      refine (O.ok j u e).keep fun a m => ?_
      obtain ⟨o, ho⟩ := (O.ok j u e).dom a m
      rw [ho]
      exact k a (O.dis j i hj a m) o ho
  · rcases hF a m with m | m
    · exact O.dis i j (Ne.symm hj) a m z
    · obtain ⟨o, ho⟩ := O.dom j a z
      rw [m] at ho
      cases ho
  · rcases hF a m with m | m
    · exact O.fr i a m
    · exact R.ext.free m
end
/-! ## what a statement does -/
inductive Out where
  | nx (ρ : List Sl)
  | rt (d : PyData)
  | ex (c : Addr) (ρ : List Sl)
def Done (K : Frg) (W : WX) (Z : Hp) (D : Ends) : Out → Prop
  | .nx ρ => ∀ Z' σ H, Same Z Z' → RelS K Z' ρ σ H → D.nx σ H
  | .rt d => ∀ v H F, Same Z H → Ow H v d F → (∀ a ∈ F, Z a = none) → D.rt v H
  | .ex c ρ => ∀ Z' σ H, Same Z Z' → RelS K Z' ρ σ H → W (.ref c) none σ H
def Does (K : Frg) (W : WX) (t : TS) (ρ : List Sl) (o : Out) : Prop := ∀ Z σ H D, RelS K Z ρ σ H → Done K W Z D o → t D σ H
section
variable {K : Frg} {W : WX} {Z Z' H H' : Hp} {ρ ρ1 ρ2 : List Sl} {σ : L2.St} {t u : TS} {te ta tb : TE} {tc : TT} {o : Out} {d e : PyData} {i j : Nat} {D : Ends} {c : Addr} {b : Bool}
theorem Done.more (h : Done K W Z D o) (e : Same Z Z') : Done K W Z' D o := by
  cases o with
  | nx ρ => exact fun Z2 σ H e2 R => h Z2 σ H (e.trans e2) R
  | rt d => exact fun v H F e2 w f => h v H F (e.trans e2) w fun a m => e.free (f a m)
  | ex c ρ => exact fun Z2 σ H e2 R => h Z2 σ H (e.trans e2) R
theorem does_seq (h : Does K W t ρ (.nx ρ1)) (h2 : Does K W u ρ1 o) : Does K W (tSeq t u) ρ o := fun Z σ H D R q =>
  h Z σ H { D with nx := u D } R fun Z2 σ2 H2 e2 R2 => h2 Z2 σ2 H2 D R2 (q.more e2)
theorem does_seq_rt (h : Does K W t ρ (.rt d)) : Does K W (tSeq t u) ρ (.rt d) := fun Z σ H D R q => h Z σ H { D with nx := u D } R q
theorem does_seq_ex (h : Does K W t ρ (.ex c ρ1)) : Does K W (tSeq t u) ρ (.ex c ρ1) := fun Z σ H D R q => h Z σ H { D with nx := u D } R q
theorem does_next : Does K W tNext ρ (.nx ρ) := fun Z σ H D R q => q Z σ H (Same.refl Z) R
theorem does_skip (h : Does K W u ρ o) : Does K W (tSeq tNext u) ρ o := does_seq does_next h
theorem does_cast (h : Does K W t ρ o) {o' : Out} (q : o = o') : Does K W t ρ o' := q ▸ h
theorem does_if (hc : Evt K tc (er ρ) b) (h1 : b = true → Does K W t ρ o) (h2 : b = false → Does K W u ρ o) : Does K W (tIfS tc t u) ρ o := fun Z σ H D R q => hc σ H _ R.relE fun H1 e1 => by
  cases b with
  | true =>
    show t D σ H1
    exact h1 rfl Z σ H1 D (R.grow e1) q
  | false =>
    show u D σ H1
    exact h2 rfl Z σ H1 D (R.grow e1) q
theorem does_ift (hc : Evt K tc (er ρ) true) (h1 : Does K W t ρ o) : Does K W (tIfS tc t u) ρ o := does_if hc (fun _ => h1) fun z => nomatch z
theorem does_iff (hc : Evt K tc (er ρ) false) (h1 : Does K W u ρ o) : Does K W (tIfS tc t u) ρ o := does_if hc (fun z => nomatch z) fun _ => h1
/-- x = e, e new -/
theorem does_asg (h : Evf K te (er ρ) d): Does K W (tAsg te (gName i)) ρ (.nx (ρ.set i (.ow d))) := fun Z σ H D R q => h σ H _ R.relE fun v H1 F e1 w f =>
  q Z _ H1 (Same.refl Z) (R.put e1 (s' := .ow d) ⟨v, rfl, w⟩ f)
/-- x = e, a number, a truth value, a text -/
theorem does_asgs (h : Evr K te (er ρ) d) (s : Scal d): Does K W (tAsg te (gName i)) ρ (.nx (ρ.set i (.fr d))) := fun Z σ H D R q => h σ H _ R.relE fun v H1 e1 r =>
  q Z _ H1 (Same.refl Z) (R.put e1 (s' := .fr d) (F := []) ⟨rfl, v, rfl, r.any s⟩ (fun _ m => nomatch m))
theorem does_asgi {n : Int} (h : Evr K te (er ρ) (.int n)): Does K W (tAsg te (gName i)) ρ (.nx (ρ.set i (.fr (.int n)))) := does_asgs h True.intro
theorem does_asgb {n : Bool} (h : Evr K te (er ρ) (.bool n)): Does K W (tAsg te (gName i)) ρ (.nx (ρ.set i (.fr (.bool n)))) := does_asgs h True.intro
theorem does_asgt {n : Str} (h : Evr K te (er ρ) (.str n)): Does K W (tAsg te (gName i)) ρ (.nx (ρ.set i (.fr (.str n)))) := does_asgs h True.intro
/-- x = e, e something that is held elsewhere, too -/
theorem does_asga (h : Evr K te (er ρ) d): Does K W (tAsg te (gName i)) ρ (.nx (ρ.set i (.al d))) := fun Z σ H D R q => h σ H _ R.relE fun v H1 e1 r =>
  q Z _ H1 (Same.refl Z) (R.put e1 (s' := .al d) (F := []) ⟨rfl, v, rfl, r⟩ (fun _ m => nomatch m))
/-- x = y, y not read again -/
theorem does_move (hs : ρ[j]? = some (.ow d)) (hij : i ≠ j := by decide) (hi : i < ρ.length := by decide) : Does K W (tAsg (tVar j) (gName i)) ρ (.nx ((ρ.set j .no).set i (.ow d))) := fun Z σ H D R q => by
  obtain ⟨v, hv, _⟩ := R.relE.get j d (by rw [List.getElem?_map, hs]; rfl)
  exact ⟨v, hv, q Z _ H (Same.refl Z) (R.move hs hv hi hij)⟩
theorem does_drop (h : Evr K te (er ρ) d) : Does K W (tDrop te) ρ (.nx ρ) := fun Z σ H D R q => h σ H _ R.relE fun v H1 e1 r => q Z _ H1 (Same.refl Z) (R.grow e1)
theorem does_ret (h : Evf K te (er ρ) d) : Does K W (tRet te) ρ (.rt d) := fun Z σ H D R q => h σ H _ R.relE fun v H1 F e1 w f => q v H1 F (R.ext.trans e1) w fun a m => R.ext.free (f a m)
theorem does_rets (h : Evr K te (er ρ) d) (s : Scal d) : Does K W (tRet te) ρ (.rt d) := does_ret (h.f s)
theorem does_reti {n : Int} (h : Evr K te (er ρ) (.int n)) : Does K W (tRet te) ρ (.rt (.int n)) := does_ret (h.f True.intro)
theorem does_retb {n : Bool} (h : Evr K te (er ρ) (.bool n)) : Does K W (tRet te) ρ (.rt (.bool n)) := does_ret (h.f True.intro)
theorem does_rett {n : Str} (h : Evr K te (er ρ) (.str n)) : Does K W (tRet te) ρ (.rt (.str n)) := does_ret (h.f True.intro)
theorem does_retn : Does K W tRetN ρ (.rt .none) := fun Z σ H D R q => q .non H [] R.ext .non fun _ m => nomatch m
theorem does_retv (hs : ρ[j]? = some (.ow d)) : Does K W (tRet (tVar j)) ρ (.rt d) := fun Z σ H D R q => by
  obtain ⟨Fs, O⟩ := R.ex
  obtain ⟨v, hv, w⟩ := O.ok j _ hs
  exact ⟨v, hv, q v H (Fs j) R.ext w (O.fr j)⟩
theorem does_wk {s s' : Sl} (hs : ρ1[i]? = some s) (w : Wk s s') (h : Does K W t ρ (.nx ρ1)) : Does K W t ρ (.nx (ρ1.set i s')) := fun Z σ H D R q => h Z σ H D R fun Z2 σ2 H2 e2 R2 => q Z2 σ2 H2 e2 (R2.wk1 hs w)
theorem does_no (i : Nat) (h : Does K W t ρ (.nx ρ1)) : Does K W t ρ (.nx (ρ1.set i .no)) := fun Z σ H D R q => h Z σ H D R fun Z2 σ2 H2 e2 R2 => q Z2 σ2 H2 e2 (R2.no i)
/-- ahead: less is known -/
theorem does_wkp {s s' : Sl} (hs : ρ[i]? = some s) (w : Wk s s') (h : Does K W t (ρ.set i s') o) : Does K W t ρ o := fun Z σ H D R q => h Z σ H D (R.wk1 hs w) q
theorem does_nop (i : Nat) (h : Does K W t (ρ.set i .no) o) : Does K W t ρ o := fun Z σ H D R q => h Z σ H D (R.no i) q
theorem does_frz (hs : ρ[i]? = some (.ow d)) (h : Does K W t (ρ.set i (.fr d)) o) : Does K W t ρ o := fun Z σ H D R q => by
  obtain ⟨Z2, e2, R2⟩ := R.frz hs
  exact h Z2 σ H D R2 (q.more e2)
theorem does_asgx (h : EvX K W te (er ρ) c) {g : TG} : Does K W (tAsg te g) ρ (.ex c ρ) := fun Z σ H D R q => h σ H _ R.relE fun H1 e1 => q Z σ H1 (Same.refl Z) (R.grow e1)
theorem does_retx (h : EvX K W te (er ρ) c) : Does K W (tRet te) ρ (.ex c ρ) := fun Z σ H D R q => h σ H _ R.relE fun H1 e1 => q Z σ H1 (Same.refl Z) (R.grow e1)
theorem does_dropx (h : EvX K W te (er ρ) c) : Does K W (tDrop te) ρ (.ex c ρ) := fun Z σ H D R q => h σ H _ R.relE fun H1 e1 => q Z σ H1 (Same.refl Z) (R.grow e1)
theorem does_raise : Does K W (fun _ σ H => W (.ref c) none σ H) ρ (.ex c ρ) := fun Z σ H D R q => q Z σ H (Same.refl Z) R
end
end Pur

set_option Elab.async false
set_option linter.all false
set_option maxRecDepth 100000
set_option maxHeartbeats 4000000
namespace Pur
open PySem L2
/-! ## changes -/
section
variable {K : Frg} {W : WX} {Z Z' H H' : Hp} {ρ ρ1 ρ2 : List Sl} {σ : L2.St} {t u tb : TS} {te ta tk tl : TE} {tc : TT} {o : Out} {d e : PyData} {i j k : Nat} {D : Ends} {c : Addr} {b : Bool} {ds es : List PyData}
theorem tyl {a : Addr} {xs : List V} (h : H a = some (.lst xs)) : tyV K "list" (.ref a) H := Or.inl ⟨rfl, _, Or.inl (Or.inl h)⟩
theorem OwAll.setv : ∀ {ds : List PyData} {vs : List V} {F : List Addr} {n : Nat} {v : V} {d : PyData} {G : List Addr}, OwAll H vs ds F → Ow H v d G → (∀ a ∈ G, a ∉ F) → ∃ F', OwAll H (vs.set n v) (ds.set n d) F' ∧ ∀ a ∈ F', a ∈ F ∨ a ∈ G
  | [], _, _, _, _, _, _, h, _, _ => by cases h; exact ⟨[], .nil, fun _ m => nomatch m⟩
  | _ :: _, _, _, 0, _, _, G, h, q, n => by
    cases h with
    | @cons v0 vs0 d0 ds0 F0 G0 h1 h2 hd =>
      refine ⟨G ++ G0, .cons q h2 fun a m z => n a m (List.mem_append_right _ z), fun a m => ?_⟩
      rcases List.mem_append.mp m with m | m
      · exact .inr m
      · exact .inl (List.mem_append_right _ m)
  | _ :: _, _, _, i + 1, _, _, G, h, q, n => by
    cases h with
    | @cons v0 vs0 d0 ds0 F0 G0 h1 h2 hd =>
      obtain ⟨F', p1, p2⟩ := OwAll.setv (n := i) h2 q fun a m z => n a m (List.mem_append_right _ z)
      refine ⟨F0 ++ F', .cons h1 p1 fun a m z => ?_, fun a m => ?_⟩
      · rcases p2 a z with z | z
        · exact hd a m z
        · exact n a z (List.mem_append_left _ m)
      · rcases List.mem_append.mp m with m | m
        · exact .inl (List.mem_append_left _ m)
        · rcases p2 a m with m | m
          · exact .inl (List.mem_append_right _ m)
          · exact .inr m
/-- what i owns, a list -/
theorem Own.lst (O : Own K Z H ρ σ Fs) (hs : ρ[i]? = some (.ow (.list ds))) : ∃ a xs F, σ[i]? = some (some (.ref a)) ∧ H a = some (.lst xs) ∧ OwAll H xs ds F ∧ a ∉ F ∧ Fs i = a :: F := by
  obtain ⟨v, hv, w⟩ := O.ok i _ hs
  generalize Fs i = G at w
  cases w with
  | lst ha hs hn => exact ⟨_, _, _, hv, ha, hs, hn, rfl⟩
/-- x.append(e), e new -/
theorem does_app (hs : ρ[i]? = some (.ow (.list ds))) (h : Evf K te (er ρ) d) (hl : ds.length < 1000000) : Does K W (tDrop (tBM K "list" rAppend (tVar i) (tCons te tNil))) ρ (.nx ((kill ρ).set i (.ow (.list (ds ++ [d]))))) := fun Z σ H D R q => by
  obtain ⟨Fs, O⟩ := R.ex
  obtain ⟨a, xs, F, hσ, ha, hx, hn, hF⟩ := O.lst hs
  refine ⟨.ref a, hσ, tyl ha, h σ H _ R.relE fun v H1 G e1 w f => ⟨a, xs, v, rfl, rfl, e1 _ _ ha, by rw [hx.length]; exact sz_lt hl, q Z _ _ (Same.refl Z) ?_⟩⟩
  have hG : ∀ b ∈ G, b ≠ a := fun b m z => by
    have q := f b m
    rw [z, ha] at q
    cases q
  refine R.chg hs O (H' := upd H1 a (.lst (xs ++ [v]))) (F' := a :: (F ++ (G ++ []))) (fun b hb o ho => ?_) ⟨_, hσ, .lst upd_same (OwAll.append ((hx.grow e1).keep fun b m => upd_ne fun z => hn (z ▸ m)) (.cons (w.keep fun b m => upd_ne (hG b m)) .nil fun _ _ m => nomatch m) fun b m z => ?_) fun m => ?_⟩ fun b m => ?_
  · rw [upd_ne (fun z => hb (by rw [hF, z]; exact List.mem_cons_self))]
    exact e1 _ _ ho
  · have z2 : b ∈ G := by simpa using z
    obtain ⟨o, ho⟩ := hx.dom b m
    rw [f b z2] at ho
    cases ho
  · rcases List.mem_append.mp m with m | m
    · exact hn m
    · exact hG a (by simpa using m) rfl
  · rw [hF]
    rcases List.mem_cons.mp m with rfl | m
    · exact .inl List.mem_cons_self
    · rcases List.mem_append.mp m with m | m
      · exact .inl (List.mem_cons_of_mem _ m)
      · exact .inr (f b (by simpa using m))
theorem does_appi {r : List Int} {n : Int} (hs : ρ[i]? = some (.ow (dR r))) (h : Evr K te (er ρ) (.int n)) (hl : r.length < 1000000) : Does K W (tDrop (tBM K "list" rAppend (tVar i) (tCons te tNil))) ρ (.nx ((kill ρ).set i (.ow (dR (r ++ [n]))))) :=
  does_cast (does_app hs (h.f True.intro) (by rw [List.length_map]; exact hl)) (by rw [dR, List.map_append]; rfl)
/-- x.append(y), y not changed from now on through its own name -/
theorem does_appv (hs : ρ[i]? = some (.ow (.list ds))) (hj : ρ[j]? = some (.ow d)) (hij : i ≠ j) (hl : ds.length < 1000000) : Does K W (tDrop (tBM K "list" rAppend (tVar i) (tCons (tVar j) tNil))) ρ (.nx ((kill (ρ.set j .no)).set i (.ow (.list (ds ++ [d]))))) := fun Z σ H D R q => by
  obtain ⟨Fs, O⟩ := R.ex
  obtain ⟨a, xs, F, hσ, ha, hx, hn, hF⟩ := O.lst hs
  obtain ⟨v, hv, w⟩ := O.ok j _ hj
  have hi : i < ρ.length := (List.getElem?_eq_some_iff.mp hs).1
  have hjl : j < ρ.length := (List.getElem?_eq_some_iff.mp hj).1
  have off : ∀ b ∈ Fs j, b ∉ a :: F := fun b m z => O.dis j i (Ne.symm hij) b m (by rw [hF]; exact z)
  refine ⟨.ref a, hσ, tyl ha, v, hv, a, xs, v, rfl, rfl, ha, by rw [hx.length]; exact sz_lt hl, q Z _ _ (Same.refl Z) ?_⟩
  have hk : (kill (ρ.set j .no)).length = ρ.length := by rw [List.length_map, List.length_set]
  refine ⟨by rw [List.length_set, hk]; exact R.len, fun b o ho => ?_, putF (putF Fs j []) i (a :: (F ++ (Fs j ++ []))), ?_⟩
  · rw [upd_ne fun z => ?_]
    · exact R.ext b o ho
    · have := O.fr i a (by rw [hF]; exact List.mem_cons_self)
      rw [← z, ho] at this
      cases this
  refine Own.put (ρ := ρ) (by rw [List.length_set, hk]) hi (List.getElem?_set_self (by rw [hk]; exact hi)) ⟨_, hσ, .lst upd_same (OwAll.append (hx.keep fun b m => upd_ne fun z => hn (z ▸ m)) (.cons (w.keep fun b m => upd_ne fun z => off b m (z ▸ List.mem_cons_self)) .nil fun _ _ m => nomatch m) fun b m z => ?_) fun m => ?_⟩ (fun l s hl h => ?_) ?_ ?_ ?_ (fun l hl b m z => ?_) fun b m => ?_
  · exact off b (by simpa using z) (List.mem_cons_of_mem _ m)
  · rcases List.mem_append.mp m with m | m
    · exact hn m
    · exact off a (by simpa using m) List.mem_cons_self
  · rw [List.getElem?_set_ne (Ne.symm hl), List.getElem?_map] at h
    by_cases hlj : l = j
    · subst hlj
      rw [List.getElem?_set_self hjl] at h
      cases h
      exact putF_same
    · rw [List.getElem?_set_ne (Ne.symm hlj)] at h
      rw [putF_ne hlj]
      cases e : ρ[l]? with
      | none => rw [e] at h; cases h
      | some u =>
        rw [e] at h
        have q : killS u = s := Option.some.inj h
        subst q
        refine (O.ok l u e).keep fun b m => upd_ne fun z => ?_
        exact O.dis l i hl b m (by rw [hF, z]; exact List.mem_cons_self)
  · intro k l hkl b m
    by_cases hk : k = j
    · subst hk
      rw [putF_same] at m
      cases m
    · rw [putF_ne hk] at m
      by_cases hl : l = j
      · subst hl
        rw [putF_same]
        exact fun z => nomatch z
      · rw [putF_ne hl]
        exact O.dis k l hkl b m
  · intro k b m
    by_cases hk : k = j
    · subst hk
      rw [putF_same] at m
      cases m
    · rw [putF_ne hk] at m
      exact O.fr k b m
  · intro k hk
    by_cases hkj : k = j
    · subst hkj
      exact putF_same
    · rw [putF_ne hkj]
      exact O.out k hk
  · by_cases hlj : l = j
    · subst hlj
      rw [putF_same] at z
      cases z
    · rw [putF_ne hlj] at z
      rcases List.mem_cons.mp m with rfl | m
      · exact O.dis i l (Ne.symm hl) b (by rw [hF]; exact List.mem_cons_self) z
      · rcases List.mem_append.mp m with m | m
        · exact O.dis i l (Ne.symm hl) b (by rw [hF]; exact List.mem_cons_of_mem _ m) z
        · exact O.dis j l (Ne.symm hlj) b (by simpa using m) z
  · rcases List.mem_cons.mp m with rfl | m
    · exact O.fr i b (by rw [hF]; exact List.mem_cons_self)
    · rcases List.mem_append.mp m with m | m
      · exact O.fr i b (by rw [hF]; exact List.mem_cons_of_mem _ m)
      · exact O.fr j b (by simpa using m)
/-- x.extend(e), e new -/
theorem does_ext (hs : ρ[i]? = some (.ow (.list ds))) (h : Evf K te (er ρ) (.list es)) (hl : ds.length + es.length ≤ 1000000) : Does K W (tDrop (tBM K "list" rExtend (tVar i) (tCons te tNil))) ρ (.nx ((kill ρ).set i (.ow (.list (ds ++ es))))) := fun Z σ H D R q => by
  obtain ⟨Fs, O⟩ := R.ex
  obtain ⟨a, xs, F, hσ, ha, hx, hn, hF⟩ := O.lst hs
  refine ⟨.ref a, hσ, tyl ha, h σ H _ R.relE fun v H1 G e1 w f => ?_⟩
  cases w with
  | @lst c ys _ G hc hy hcn =>
    refine ⟨a, c, xs, ys, rfl, rfl, e1 _ _ ha, hc, by rw [hx.length, hy.length]; exact sz_le hl, q Z _ _ (Same.refl Z) ?_⟩
    have hG : ∀ b ∈ G, b ≠ a := fun b m z => by
      have q := f b (List.mem_cons_of_mem _ m)
      rw [z, ha] at q
      cases q
    refine R.chg hs O (H' := upd H1 a (.lst (xs ++ ys))) (F' := a :: (F ++ G)) (fun b hb o ho => ?_) ⟨_, hσ, .lst upd_same (OwAll.append ((hx.grow e1).keep fun b m => upd_ne fun z => hn (z ▸ m)) (hy.keep fun b m => upd_ne (hG b m)) fun b m z => ?_) fun m => ?_⟩ fun b m => ?_
    · rw [upd_ne (fun z => hb (by rw [hF, z]; exact List.mem_cons_self))]
      exact e1 _ _ ho
    · obtain ⟨o, ho⟩ := hx.dom b m
      rw [f b (List.mem_cons_of_mem _ z)] at ho
      cases ho
    · rcases List.mem_append.mp m with m | m
      · exact hn m
      · exact hG a m rfl
    · rw [hF]
      rcases List.mem_cons.mp m with rfl | m
      · exact .inl List.mem_cons_self
      · rcases List.mem_append.mp m with m | m
        · exact .inl (List.mem_cons_of_mem _ m)
        · exact .inr (f b (List.mem_cons_of_mem _ m))
theorem does_extR {r s : List Int} (hs : ρ[i]? = some (.ow (dR r))) (h : Evf K te (er ρ) (dR s)) (hl : r.length + s.length ≤ 1000000) : Does K W (tDrop (tBM K "list" rExtend (tVar i) (tCons te tNil))) ρ (.nx ((kill ρ).set i (.ow (dR (r ++ s))))) :=
  does_cast (does_ext hs h (by rw [List.length_map, List.length_map]; exact hl)) (by rw [dR, List.map_append])
theorem ixN_nat {n : Nat} {i : Int} (h0 : 0 ≤ i) (h1 : i < n) : ixN n i = some i.toNat := by
  unfold ixN
  rw [if_pos h0, if_pos h1]
/-- x[k] = e, e new -/
theorem does_set {n : Int} (hs : ρ[i]? = some (.ow (.list ds))) (h : Evf K te (er ρ) d) (hk : Evr K tk (er ρ) (.int n)) (h0 : 0 ≤ n) (h1 : n < ds.length) : Does K W (tAsg te (gSub (tVar i) tk rSetL)) ρ (.nx ((kill ρ).set i (.ow (.list (ds.set n.toNat d))))) := fun Z σ H D R q => by
  obtain ⟨Fs, O⟩ := R.ex
  obtain ⟨a, xs, F, hσ, ha, hx, hn, hF⟩ := O.lst hs
  refine h σ H _ R.relE fun v H1 G e1 w f => ?_
  refine ⟨.ref a, hσ, hk σ H1 _ (R.relE.mono e1) fun y H2 e2 r2 => ?_⟩
  obtain rfl := r2.int_eq
  refine ⟨a, xs, n, n.toNat, rfl, rfl, e2 _ _ (e1 _ _ ha), ixN_nat h0 (by rw [hx.length]; exact h1), q Z _ _ (Same.refl Z) ?_⟩
  have hG : ∀ b ∈ G, b ≠ a := fun b m z => by
    have q := f b m
    rw [z, ha] at q
    cases q
  obtain ⟨F', p1, p2⟩ := OwAll.setv (n := n.toNat) ((hx.grow (e1.trans e2)).keep (H' := upd H2 a (.lst (xs.set n.toNat v))) fun b m => upd_ne fun z => hn (z ▸ m)) ((w.grow e2).keep fun b m => upd_ne (hG b m)) fun b m z => by
    obtain ⟨o, ho⟩ := hx.dom b z
    rw [f b m] at ho
    cases ho
  refine R.chg hs O (F' := a :: F') (fun b hb o ho => ?_) ⟨_, hσ, .lst upd_same p1 fun m => ?_⟩ fun b m => ?_
  · rw [upd_ne (fun z => hb (by rw [hF, z]; exact List.mem_cons_self))]
    exact e2 _ _ (e1 _ _ ho)
  · rcases p2 a m with m | m
    · exact hn m
    · exact hG a m rfl
  · rw [hF]
    rcases List.mem_cons.mp m with rfl | m
    · exact .inl List.mem_cons_self
    · rcases p2 b m with m | m
      · exact .inl (List.mem_cons_of_mem _ m)
      · exact .inr (f b m)
theorem does_seti {r : List Int} {n m : Int} (hs : ρ[i]? = some (.ow (dR r))) (h : Evr K te (er ρ) (.int m)) (hk : Evr K tk (er ρ) (.int n)) (h0 : 0 ≤ n) (h1 : n < r.length) : Does K W (tAsg te (gSub (tVar i) tk rSetL)) ρ (.nx ((kill ρ).set i (.ow (dR (r.set n.toNat m))))) :=
  does_cast (does_set hs (h.f True.intro) hk h0 (by rw [List.length_map]; exact h1)) (by rw [dR, List.map_set])
/-- x.reverse() -/
theorem does_rev {r : List Int} (hs : ρ[i]? = some (.ow (dR r))) : Does K W (tDrop (tBM0 K "list" rReverse (tVar i))) ρ (.nx ((kill ρ).set i (.ow (dR r.reverse)))) := fun Z σ H D R q => by
  obtain ⟨Fs, O⟩ := R.ex
  obtain ⟨a, xs, F, hσ, ha, hx, hn, hF⟩ := O.lst hs
  have ex := (hx.rp (K := K)).ints
  subst ex
  refine ⟨.ref a, hσ, tyl ha, a, _, rfl, rfl, ha, q Z _ _ (Same.refl Z) ?_⟩
  refine R.chg hs O (F' := [a]) (fun b hb o ho => ?_) ⟨_, hσ, by rw [← List.map_reverse]; exact Ow.row upd_same⟩ fun b m => ?_
  · rw [upd_ne (fun z => hb (by rw [hF, z]; exact List.mem_cons_self))]
    exact ho
  · rw [hF, List.mem_singleton.mp m]
    exact .inl List.mem_cons_self
/-- the same for a row at a told place -/
theorem does_setAt {a : Addr} {r : List Int} {n m : Int} (hs : ρ[i]? = some (.at a r)) (h : Evr K te (er ρ) (.int m)) (hk : Evr K tk (er ρ) (.int n)) (h0 : 0 ≤ n) (h1 : n < r.length) : Does K W (tAsg te (gSub (tVar i) tk rSetL)) ρ (.nx ((kill ρ).set i (.at a (r.set n.toNat m)))) := fun Z σ H D R q => by
  obtain ⟨Fs, O⟩ := R.ex
  obtain ⟨hσ, ha, hF⟩ := O.ok i _ hs
  refine h σ H _ R.relE fun v H1 e1 r1 => ?_
  obtain rfl := r1.int_eq
  refine ⟨.ref a, hσ, hk σ H1 _ (R.relE.mono e1) fun y H2 e2 r2 => ?_⟩
  obtain rfl := r2.int_eq
  refine ⟨a, _, n, n.toNat, rfl, rfl, e2 _ _ (e1 _ _ ha), ixN_nat h0 (by rw [List.length_map]; exact h1), q Z _ _ (Same.refl Z) ?_⟩
  refine R.chg hs O (F' := [a]) (fun b hb o ho => ?_) ⟨hσ, by rw [upd_same, List.map_set], rfl⟩ fun b m => ?_
  · rw [upd_ne (fun z => hb (by rw [hF, z]; exact List.mem_cons_self))]
    exact e2 _ _ (e1 _ _ ho)
  · rw [hF]; exact .inl m
def rInsert : V → List V → Hp → VK → Prop := fun x vs H Q => ∃ (l : Addr) (xs : List V) (i : Int) (y : V), x = .ref l ∧ vs = [.int i, y] ∧ H l = some (.lst xs) ∧ xs.length < sizeLine ∧ 0 ≤ i ∧ i < 2 ^ 63 ∧ Q .non (upd H l (.lst (xs.take i.toNat ++ [y] ++ xs.drop i.toNat)))
theorem does_insAt {a : Addr} {r : List Int} {n m : Int} (hs : ρ[i]? = some (.at a r)) (hk : Evr K tk (er ρ) (.int n)) (h : Evr K te (er ρ) (.int m)) (h0 : 0 ≤ n) (h1 : n ≤ 1000000) (hl : r.length < 1000000) : Does K W (tDrop (tBM K "list" rInsert (tVar i) (tCons tk (tCons te tNil)))) ρ (.nx ((kill ρ).set i (.at a (r.take n.toNat ++ [m] ++ r.drop n.toNat)))) := fun Z σ H D R q => by
  obtain ⟨Fs, O⟩ := R.ex
  obtain ⟨hσ, ha, hF⟩ := O.ok i _ hs
  refine ⟨.ref a, hσ, tyl ha, hk σ H _ R.relE fun y H1 e1 r1 => h σ H1 _ (R.relE.mono e1) fun v H2 e2 r2 => ?_⟩
  obtain rfl := r1.int_eq
  obtain rfl := r2.int_eq
  refine ⟨a, _, n, _, rfl, rfl, e2 _ _ (e1 _ _ ha), by rw [List.length_map]; exact sz_lt hl, h0, by omega, q Z _ _ (Same.refl Z) ?_⟩
  refine R.chg hs O (F' := [a]) (fun b hb o ho => ?_) ⟨hσ, by rw [upd_same, List.map_append, List.map_append, List.map_take, List.map_drop]; rfl, rfl⟩ fun b m => ?_
  · rw [upd_ne (fun z => hb (by rw [hF, z]; exact List.mem_cons_self))]
    exact e2 _ _ (e1 _ _ ho)
  · rw [hF]; exact .inl m
theorem does_insR {r : List Int} {n m : Int} (hs : ρ[i]? = some (.ow (dR r))) (hk : Evr K tk (er ρ) (.int n)) (h : Evr K te (er ρ) (.int m)) (h0 : 0 ≤ n) (h1 : n ≤ 1000000) (hl : r.length < 1000000) : Does K W (tDrop (tBM K "list" rInsert (tVar i) (tCons tk (tCons te tNil)))) ρ (.nx ((kill ρ).set i (.ow (dR (r.take n.toNat ++ [m] ++ r.drop n.toNat))))) := fun Z σ H D R q => by
  obtain ⟨Fs, O⟩ := R.ex
  obtain ⟨a, xs, F, hσ, ha, hx, hn, hF⟩ := O.lst hs
  have ex := (hx.rp (K := K)).ints
  subst ex
  refine ⟨.ref a, hσ, tyl ha, hk σ H _ R.relE fun y H1 e1 r1 => h σ H1 _ (R.relE.mono e1) fun v H2 e2 r2 => ?_⟩
  obtain rfl := r1.int_eq
  obtain rfl := r2.int_eq
  refine ⟨a, _, n, _, rfl, rfl, e2 _ _ (e1 _ _ ha), by rw [List.length_map]; exact sz_lt hl, h0, by omega, q Z _ _ (Same.refl Z) ?_⟩
  refine R.chg hs O (F' := [a]) (fun b hb o ho => ?_) ⟨_, hσ, ?_⟩ fun b m => ?_
  · rw [upd_ne (fun z => hb (by rw [hF, z]; exact List.mem_cons_self))]
    exact e2 _ _ (e1 _ _ ho)
  · refine Ow.row ?_
    rw [upd_same, List.map_append, List.map_append, List.map_take, List.map_drop]; rfl
  · rw [hF, List.mem_singleton.mp m]; exact .inl List.mem_cons_self
/-- x[k].append(e): a list in a list -/
theorem OwAll.at_ : ∀ {ds : List PyData} {vs : List V} {F : List Addr} {n : Nat} {d : PyData}, OwAll H vs ds F → ds[n]? = some d → ∃ v G, vs[n]? = some v ∧ Ow H v d G ∧ (∀ a ∈ G, a ∈ F) ∧
    ∀ (H' : Hp) (d' : PyData) (G' : List Addr), (∀ a ∈ F, a ∉ G → H' a = H a) → Ow H' v d' G' → (∀ a ∈ G', a ∈ G ∨ a ∉ F) → ∃ F', OwAll H' vs (ds.set n d') F' ∧ ∀ a ∈ F', a ∈ F ∨ a ∈ G'
  | [], _, _, _, _, _, e => by simp at e
  | _ :: _, _, _, 0, _, h, e => by
    cases h with
    | @cons v0 vs0 d0 ds0 F0 G0 h1 h2 hd =>
      have e2 := Option.some.inj e
      subst e2
      refine ⟨v0, F0, rfl, h1, fun a m => List.mem_append_left _ m, fun H' d' G' k w g => ?_⟩
      refine ⟨G' ++ G0, .cons w (h2.keep fun a m => k a (List.mem_append_right _ m) fun z => hd a z m) fun a m z => ?_, fun a m => ?_⟩
      · rcases g a m with g | g
        · exact hd a g z
        · exact g (List.mem_append_right _ z)
      · rcases List.mem_append.mp m with m | m
        · exact .inr m
        · exact .inl (List.mem_append_right _ m)
  | _ :: _, _, _, n + 1, d, h, e => by
    cases h with
    | @cons v0 vs0 d0 ds0 F0 G0 h1 h2 hd =>
      obtain ⟨v, G, p1, p2, p3, p4⟩ := OwAll.at_ (n := n) (d := d) h2 (by simpa using e)
      refine ⟨v, G, by simpa using p1, p2, fun a m => List.mem_append_right _ (p3 a m), fun H' d' G' k w g => ?_⟩
      obtain ⟨F', q1, q2⟩ := p4 H' d' G' (fun a m z => k a (List.mem_append_right _ m) z) w fun a m => by
        rcases g a m with g | g
        · exact .inl g
        · exact .inr fun z => g (List.mem_append_right _ z)
      refine ⟨F0 ++ F', .cons (h1.keep fun a m => k a (List.mem_append_left _ m) fun z => hd a m (p3 a z)) q1 fun a m z => ?_, fun a m => ?_⟩
      · rcases q2 a z with z | z
        · exact hd a m z
        · rcases g a z with g | g
          · exact hd a m (p3 a g)
          · exact g (List.mem_append_left _ m)
      · rcases List.mem_append.mp m with m | m
        · exact .inl (List.mem_append_left _ m)
        · rcases q2 a m with m | m
          · exact .inl (List.mem_append_right _ m)
          · exact .inr m
theorem does_appix {n : Int} (hs : ρ[i]? = some (.ow (.list ds))) (hk : Evr K tk (er ρ) (.int n)) (h : Evr K te (er ρ) d) (hd : Scal d) (h0 : 0 ≤ n) (hn : ds[n.toNat]? = some (.list es)) (hl : es.length < 1000000) :
    Does K W (tDrop (tBM K "list" rAppend (tOp (rIx K) (tVar i) tk) (tCons te tNil))) ρ (.nx ((kill ρ).set i (.ow (.list (ds.set n.toNat (.list (es ++ [d]))))))) := fun Z σ H D R q => by
  obtain ⟨Fs, O⟩ := R.ex
  obtain ⟨a, xs, F, hσ, ha, hx, hna, hF⟩ := O.lst hs
  obtain ⟨v, G, p1, p2, p3, p4⟩ := hx.at_ hn
  have hnl : n.toNat < xs.length := (List.getElem?_eq_some_iff.mp p1).1
  refine ⟨.ref a, hσ, hk σ H _ R.relE fun y H1 e1 r1 => ?_⟩
  obtain rfl := r1.int_eq
  cases p2 with
  | @lst b ys _ G1 hb hy hbn =>
    refine .inl ⟨a, xs, n, .ref b, rfl, rfl, sql (e1 _ _ ha), at_of (j := n.toNat) (by omega) p1, tyl (e1 _ _ hb), h σ H1 _ (R.relE.mono e1) fun w H2 e2 r2 => ?_⟩
    refine ⟨b, ys, w, rfl, rfl, e2 _ _ (e1 _ _ hb), by rw [hy.length]; exact sz_lt hl, q Z _ _ (Same.refl Z) ?_⟩
    have hba : b ≠ a := fun z => hna (z ▸ p3 b List.mem_cons_self)
    have hg : ∀ c ∈ F, c ∉ b :: G1 → (upd H2 b (.lst (ys ++ [w]))) c = H c := fun c m z => by
      rw [upd_ne (show c ≠ b from fun e => z (by rw [e]; exact List.mem_cons_self))]
      obtain ⟨o, ho⟩ := hx.dom c m
      rw [ho]
      exact e2 _ _ (e1 _ _ ho)
    obtain ⟨F', q1, q2⟩ := p4 (upd H2 b (.lst (ys ++ [w]))) (.list (es ++ [d])) (b :: (G1 ++ ([] ++ []))) hg (.lst upd_same (OwAll.append ((hy.grow (e1.trans e2)).keep fun c m => upd_ne fun z => hbn (z ▸ m)) (.cons (r2.ow hd) .nil fun _ m => nomatch m) fun c m z => by simp at z) (fun m => hbn (by simpa using m))) fun c m => .inl (by simpa using m)
    refine R.chg hs O (F' := a :: F') (fun c hc o ho => ?_) ⟨_, hσ, .lst (by rw [upd_ne (Ne.symm hba)]; exact e2 _ _ (e1 _ _ ha)) q1 fun m => ?_⟩ fun c m => ?_
    · rw [upd_ne (fun z => hc (by rw [hF, z]; exact List.mem_cons_of_mem _ (p3 b List.mem_cons_self)))]
      exact e2 _ _ (e1 _ _ ho)
    · rcases q2 a m with m | m
      · exact hna m
      · have m2 : a ∈ b :: G1 := by simpa using m
        exact hna (p3 a m2)
    · rw [hF]
      rcases List.mem_cons.mp m with rfl | m
      · exact .inl List.mem_cons_self
      · rcases q2 c m with m | m
        · exact .inl (List.mem_cons_of_mem _ m)
        · exact .inl (List.mem_cons_of_mem _ (p3 c (by simpa using m)))
/-! ## loops -/
/-- a list that stays -/
theorem does_forv {α : Type} {cd : α → PyData} {xs : List α} (hk : ρ[k]? = some (.fr (.list (xs.map cd)))) (S : Nat → List Sl) (h0 : ρ.set j .no = S 0)
    (hs : ∀ i x, xs[i]? = some x → ∃ ρ', Does K W tb ((S i).set j (.fr (cd x))) (.nx ρ') ∧ ρ'.set j .no = S (i + 1)) : Does K W (tFor (iList K (tVar k)) (gName j) tb) ρ (.nx (S xs.length)) := fun Z σ H D R q => by
  obtain ⟨Fs, O⟩ := R.ex
  obtain ⟨_, v, hv, hr⟩ := O.ok k _ hk
  obtain ⟨a, vs, rfl, ha, hx⟩ := hr.list
  have hlen := hx.length
  rw [List.length_map] at hlen
  refine ⟨_, hv, a, rfl, ⟨vs, sql (R.ext _ _ ha)⟩, ?_⟩
  refine for_list (K := K) (a := a) (xs := vs) (fun i σ H => ∃ Z', Same Z Z' ∧ RelS K Z' (S i) σ H) ⟨Z, Same.refl Z, h0 ▸ R.no j⟩ (fun i σ H _ ⟨Z', e, R'⟩ => sql (R'.ext _ _ (e _ _ ha))) (fun i x σ H hi ⟨Z', e, R'⟩ => ?_) fun σ H ⟨Z', e, R'⟩ => q Z' σ H e (hlen ▸ R')
  obtain ⟨d, hd, rd⟩ := hx.getV hi
  rw [List.getElem?_map] at hd
  cases ex : xs[i]? with
  | none => rw [ex] at hd; cases hd
  | some y =>
    rw [ex] at hd
    have ed : cd y = d := Option.some.inj hd
    subst ed
    obtain ⟨ρ', h1, h2⟩ := hs i y ex
    exact h1 Z' _ H _ (R'.put (Same.refl H) (s' := .fr (cd y)) (F := []) ⟨rfl, x, rfl, rd.mono e⟩ fun _ m => nomatch m) fun Z2 σ2 H2 e2 R2 => ⟨Z2, e.trans e2, h2 ▸ R2.no j⟩
/-- .. left by a return at the turn n -/
theorem does_forv_rt {α : Type} {cd : α → PyData} {xs : List α} (hk : ρ[k]? = some (.fr (.list (xs.map cd)))) (S : Nat → List Sl) (n : Nat) (y : α) (hn : xs[n]? = some y) (h0 : ρ.set j .no = S 0)
    (hs : ∀ i x, i < n → xs[i]? = some x → ∃ ρ', Does K W tb ((S i).set j (.fr (cd x))) (.nx ρ') ∧ ρ'.set j .no = S (i + 1)) (hr : Does K W tb ((S n).set j (.fr (cd y))) (.rt d)) : Does K W (tFor (iList K (tVar k)) (gName j) tb) ρ (.rt d) := fun Z σ H D R q => by
  obtain ⟨Fs, O⟩ := R.ex
  obtain ⟨_, v, hv, hr'⟩ := O.ok k _ hk
  obtain ⟨a, vs, rfl, ha, hx⟩ := hr'.list
  have hlen := hx.length
  rw [List.length_map] at hlen
  have hnl : n < xs.length := (List.getElem?_eq_some_iff.mp hn).1
  refine ⟨_, hv, a, rfl, ⟨vs, sql (R.ext _ _ ha)⟩, ?_⟩
  refine for_list (K := K) (a := a) (xs := vs) (fun i σ H => i ≤ n ∧ ∃ Z', Same Z Z' ∧ RelS K Z' (S i) σ H) ⟨Nat.zero_le _, Z, Same.refl Z, h0 ▸ R.no j⟩ (fun i σ H _ ⟨_, Z', e, R'⟩ => sql (R'.ext _ _ (e _ _ ha))) (fun i x σ H hi ⟨hin, Z', e, R'⟩ => ?_) fun σ H ⟨hin, _⟩ => absurd hin (by omega)
  obtain ⟨d', hd, rd⟩ := hx.getV hi
  rw [List.getElem?_map] at hd
  cases ex : xs[i]? with
  | none => rw [ex] at hd; cases hd
  | some z =>
    rw [ex] at hd
    have ed : cd z = d' := Option.some.inj hd
    subst ed
    have R2 := R'.put (Same.refl H) (s' := .fr (cd z)) (F := []) (i := j) ⟨rfl, x, rfl, rd.mono e⟩ fun _ m => nomatch m
    by_cases hlt : i < n
    · obtain ⟨ρ', h1, h2⟩ := hs i z hlt ex
      exact h1 Z' _ H _ R2 fun Z2 σ2 H2 e2 R2 => ⟨hlt, Z2, e.trans e2, h2 ▸ R2.no j⟩
    · have ein : i = n := by omega
      subst ein
      rw [hn] at ex
      have ez := Option.some.inj ex
      subst ez
      exact hr Z' _ H _ R2 fun v H F e2 w f => q v H F (e.trans e2) w fun a m => e.free (f a m)
/-- a new list -/
theorem does_forf {α : Type} {cd : α → PyData} {xs : List α} (hk : Evf K tl (er ρ) (.list (xs.map cd))) (S : Nat → List Sl) (h0 : ρ.set j .no = S 0)
    (hs : ∀ i x, xs[i]? = some x → ∃ ρ', Does K W tb ((S i).set j (.fr (cd x))) (.nx ρ') ∧ ρ'.set j .no = S (i + 1)) : Does K W (tFor (iList K tl) (gName j) tb) ρ (.nx (S xs.length)) := fun Z σ H D R q => hk σ H _ R.relE fun v H1 F e1 w f => by
  -- the new list's addresses stay from now on
  have hz : Same Z (fun b => if b ∈ F then H1 b else Z b) := fun a o q => by
    show (if a ∈ F then H1 a else Z a) = some o
    by_cases m : a ∈ F
    · rw [R.ext.free (f a m)] at q
      cases q
    · rw [if_neg m]
      exact q
  have hzH : Same (fun b => if b ∈ F then H1 b else Z b) H1 := fun a o q => by
    have q' : (if a ∈ F then H1 a else Z a) = some o := q
    by_cases m : a ∈ F
    · rw [if_pos m] at q'
      exact q'
    · rw [if_neg m] at q'
      exact e1 _ _ (R.ext a o q')
  have hr : Rp K (fun b => if b ∈ F then H1 b else Z b) v (.list (xs.map cd)) := w.rpz fun a m => if_pos m
  have R1 : RelS K (fun b => if b ∈ F then H1 b else Z b) ρ σ H1 := by
    obtain ⟨Fs, O⟩ := R.ex
    refine ⟨R.len, hzH, Fs, fun i s h => ((O.ok i s h).grow e1).more hz, O.dis, fun i a m => ?_, O.out⟩
    show (if a ∈ F then H1 a else Z a) = none
    by_cases m2 : a ∈ F
    · obtain ⟨o, ho⟩ := O.dom i a m
      rw [f a m2] at ho
      cases ho
    · rw [if_neg m2]
      exact O.fr i a m
  generalize hZ1 : (fun b => if b ∈ F then H1 b else Z b) = Z1 at hz hzH hr R1
  obtain ⟨a, vs, rfl, ha, hx⟩ := hr.list
  have hlen := hx.length
  rw [List.length_map] at hlen
  refine ⟨a, rfl, ⟨vs, sql (R1.ext _ _ ha)⟩, ?_⟩
  refine for_list (K := K) (a := a) (xs := vs) (fun i σ H => ∃ Z', Same Z1 Z' ∧ RelS K Z' (S i) σ H) ⟨Z1, Same.refl Z1, h0 ▸ R1.no j⟩ (fun i σ H _ ⟨Z', e, R'⟩ => sql (R'.ext _ _ (e _ _ ha))) (fun i x σ H hi ⟨Z', e, R'⟩ => ?_) fun σ H ⟨Z', e, R'⟩ => q Z' σ H (hz.trans e) (hlen ▸ R')
  obtain ⟨d, hd, rd⟩ := hx.getV hi
  rw [List.getElem?_map] at hd
  cases ex : xs[i]? with
  | none => rw [ex] at hd; cases hd
  | some y =>
    rw [ex] at hd
    have ed : cd y = d := Option.some.inj hd
    subst ed
    obtain ⟨ρ', h1, h2⟩ := hs i y ex
    exact h1 Z' _ H _ (R'.put (Same.refl H) (s' := .fr (cd y)) (F := []) ⟨rfl, x, rfl, rd.mono e⟩ fun _ m => nomatch m) fun Z2 σ2 H2 e2 R2 => ⟨Z2, e.trans e2, h2 ▸ R2.no j⟩
/-- range(n) -/
theorem does_forR {n : Int} {ta : TA} (hn : Eva K ta (er ρ) [.int n]) (hz : n ≤ 1000000) (hz0 : -1000000 ≤ n) (S : Nat → List Sl) (h0 : ρ.set j .no = S 0)
    (hs : ∀ i : Nat, (i : Int) < n → ∃ ρ', Does K W tb ((S i).set j (.fr (.int (i : Int)))) (.nx ρ') ∧ ρ'.set j .no = S (i + 1)) : Does K W (tFor (iRng1 ta) (gName j) tb) ρ (.nx (S n.toNat)) := fun Z σ H D R q => hn σ H _ R.relE fun vs H1 e1 r1 => by
  obtain ⟨v, rfl, hv⟩ := r1.one
  obtain rfl := hv.int_eq
  refine ⟨n, rfl, by omega, by omega, ?_⟩
  refine for_range (lo := 0) (n := n.toNat) (fun i σ H => ∃ Z', Same Z Z' ∧ RelS K Z' (S i) σ H) ⟨Z, Same.refl Z, h0 ▸ (R.grow e1).no j⟩ (fun i σ H hi ⟨Z', e, R'⟩ => ?_) fun σ H ⟨Z', e, R'⟩ => q Z' σ H e R'
  obtain ⟨ρ', h1, h2⟩ := hs i (by omega)
  have e0 : (0 : Int) + (i : Int) = (i : Int) := Int.zero_add _
  rw [e0]
  exact h1 Z' _ H _ (R'.put (Same.refl H) (s' := .fr (.int (i : Int))) (F := []) ⟨rfl, _, rfl, .int _⟩ fun _ m => nomatch m) fun Z2 σ2 H2 e2 R2 => ⟨Z2, e.trans e2, h2 ▸ R2.no j⟩
/-- range(lo, n) -/
theorem does_forR2 {lo n : Int} {ta : TA} (hn : Eva K ta (er ρ) [.int lo, .int n]) (hz : n ≤ 1000000 ∧ -1000000 ≤ n) (hz0 : -1000000 ≤ lo ∧ lo ≤ 1000000) (S : Nat → List Sl) (h0 : ρ.set j .no = S 0)
    (hs : ∀ i : Nat, lo + (i : Int) < n → ∃ ρ', Does K W tb ((S i).set j (.fr (.int (lo + (i : Int))))) (.nx ρ') ∧ ρ'.set j .no = S (i + 1)) : Does K W (tFor (iRng2 ta) (gName j) tb) ρ (.nx (S (n - lo).toNat)) := fun Z σ H D R q => hn σ H _ R.relE fun vs H1 e1 r1 => by
  obtain ⟨v, w, rfl, hv, hw⟩ := r1.two
  obtain rfl := hv.int_eq
  obtain rfl := hw.int_eq
  refine ⟨lo, n, rfl, ⟨by omega, by omega, by omega, by omega⟩, ?_⟩
  refine for_range (lo := lo) (n := (n - lo).toNat) (fun i σ H => ∃ Z', Same Z Z' ∧ RelS K Z' (S i) σ H) ⟨Z, Same.refl Z, h0 ▸ (R.grow e1).no j⟩ (fun i σ H hi ⟨Z', e, R'⟩ => ?_) fun σ H ⟨Z', e, R'⟩ => q Z' σ H e R'
  obtain ⟨ρ', h1, h2⟩ := hs i (by omega)
  exact h1 Z' _ H _ (R'.put (Same.refl H) (s' := .fr (.int (lo + (i : Int)))) (F := []) ⟨rfl, _, rfl, .int _⟩ fun _ m => nomatch m) fun Z2 σ2 H2 e2 R2 => ⟨Z2, e.trans e2, h2 ▸ R2.no j⟩
/-- range(lo, n, -1) -/
theorem does_forD {lo n : Int} {ta : TA} (hn : Eva K ta (er ρ) [.int lo, .int n, .int (-1)]) (hz : n ≤ 1000000 ∧ -1000000 ≤ n) (hz0 : -1000000 ≤ lo ∧ lo ≤ 1000000) (S : Nat → List Sl) (h0 : ρ.set j .no = S 0)
    (hs : ∀ i : Nat, n < lo - (i : Int) → ∃ ρ', Does K W tb ((S i).set j (.fr (.int (lo - (i : Int))))) (.nx ρ') ∧ ρ'.set j .no = S (i + 1)) : Does K W (tFor (iRng3 ta) (gName j) tb) ρ (.nx (S (lo - n).toNat)) := fun Z σ H D R q => hn σ H _ R.relE fun vs H1 e1 r1 => by
  cases r1 with
  | cons hv r2 =>
    obtain ⟨w, u, rfl, hw, hu⟩ := r2.two
    obtain rfl := hv.int_eq
    obtain rfl := hw.int_eq
    obtain rfl := hu.int_eq
    refine ⟨lo, n, -1, (lo - n).toNat, rfl, RgC.neg (by omega) (by omega) (by omega) (by omega), ?_⟩
    refine for_rangeC (lo := lo) (c := -1) (n := (lo - n).toNat) (fun i σ H => ∃ Z', Same Z Z' ∧ RelS K Z' (S i) σ H) ⟨Z, Same.refl Z, h0 ▸ (R.grow e1).no j⟩ (fun i σ H hi ⟨Z', e, R'⟩ => ?_) fun σ H ⟨Z', e, R'⟩ => q Z' σ H e R'
    obtain ⟨ρ', h1, h2⟩ := hs i (by omega)
    have e0 : lo + (i : Int) * -1 = lo - (i : Int) := by omega
    rw [e0]
    exact h1 Z' _ H _ (R'.put (Same.refl H) (s' := .fr (.int (lo - (i : Int)))) (F := []) ⟨rfl, _, rfl, .int _⟩ fun _ m => nomatch m) fun Z2 σ2 H2 e2 R2 => ⟨Z2, e.trans e2, h2 ▸ R2.no j⟩
/-- while -/
theorem does_while (n : Nat) (S : Nat → List Sl) (h0 : ρ = S 0) (hc : ∀ i, i < n → Evt K tc (er (S i)) true) (hs : ∀ i, i < n → Does K W tb (S i) (.nx (S (i + 1)))) (he : Evt K tc (er (S n)) false) : Does K W (tWhile tc tb) ρ (.nx (S n)) := fun Z σ H D R q => by
  refine ⟨fun m σ H => ∃ i Z', m = n - i ∧ i ≤ n ∧ Same Z Z' ∧ RelS K Z' (S i) σ H, ⟨n, 0, Z, rfl, Nat.zero_le _, Same.refl Z, h0 ▸ R⟩, ?_⟩
  rintro m σ H ⟨i, Z', rfl, hi, e, R'⟩
  by_cases hlt : i < n
  · refine hc i hlt σ H _ R'.relE fun H1 e1 => ?_
    show ∃ N : L2.St → Hp → Prop, _
    refine ⟨fun σ2 H2 => ∃ Z2, Same Z Z2 ∧ RelS K Z2 (S (i + 1)) σ2 H2, fun σ2 H2 ⟨Z2, e2, R2⟩ => ⟨n - (i + 1), by omega, i + 1, Z2, rfl, hlt, e2, R2⟩, ?_⟩
    exact hs i hlt Z' σ H1 _ (R'.grow e1) fun Z2 σ2 H2 e2 R2 => ⟨Z2, e.trans e2, R2⟩
  · have ein : i = n := by omega
    subst ein
    refine he σ H _ R'.relE fun H1 e1 => ?_
    show D.nx σ H1
    exact q Z' σ H1 e (R'.grow e1)
end
end Pur

set_option Elab.async false
set_option linter.all false
set_option maxRecDepth 100000
set_option maxHeartbeats 4000000
namespace Pur
open PySem PySem.Spec L2
/-! ## checks: nothing is changed; it goes on, or it ends -/
inductive CO where
  | go
  | rt (d : PyData)
  | ex (c : Addr)
def CDone (K : Frg) (W : WX) (D : Ends) (σ : L2.St) (H : Hp) : CO → Prop
  | .go => ∀ H', Same H H' → D.nx σ H'
  | .rt d => ∀ v H', Same H H' → Rp K H' v d → D.rt v H'
  | .ex c => ∀ H', Same H H' → W (.ref c) none σ H'
def Chk (K : Frg) (W : WX) (t : TS) (ρ : DE) (o : CO) : Prop := ∀ σ H D, RelE K ρ σ H → CDone K W D σ H o → t D σ H
def toOut (ρ : List Sl) : CO → Out
  | .go => .nx ρ
  | .rt d => .rt d
  | .ex c => .ex c ρ
section
variable {K : Frg} {W : WX} {Z Z' H H' : Hp} {ρ : DE} {σ : L2.St} {t u tb : TS} {te ta tk tl : TE} {tc : TT} {o : CO} {d e : PyData} {i j k : Nat} {D : Ends} {c : Addr} {b : Bool}
theorem CDone.more (h : CDone K W D σ H o) (e : Same H H') : CDone K W D σ H' o := by
  cases o with
  | go => exact fun H2 e2 => h H2 (e.trans e2)
  | rt d => exact fun v H2 e2 r => h v H2 (e.trans e2) r
  | ex c => exact fun H2 e2 => h H2 (e.trans e2)
theorem chk_next : Chk K W tNext ρ .go := fun σ H D R q => q H (Same.refl H)
theorem chk_if (hc : Evt K tc ρ b) (h1 : b = true → Chk K W t ρ o) (h2 : b = false → Chk K W u ρ o) : Chk K W (tIfS tc t u) ρ o := fun σ H D R q => hc σ H _ R fun H1 e1 => by
  cases b with
  | true =>
    show t D σ H1
    exact h1 rfl σ H1 D (R.mono e1) (q.more e1)
  | false =>
    show u D σ H1
    exact h2 rfl σ H1 D (R.mono e1) (q.more e1)
theorem chk_seq (h : Chk K W t ρ .go) (h2 : Chk K W u ρ o) : Chk K W (tSeq t u) ρ o := fun σ H D R q => h σ H { D with nx := u D } R fun H1 e1 => h2 σ H1 D (R.mono e1) (q.more e1)
theorem chk_seq_rt (h : Chk K W t ρ (.rt d)) : Chk K W (tSeq t u) ρ (.rt d) := fun σ H D R q => h σ H { D with nx := u D } R q
theorem chk_seq_ex (h : Chk K W t ρ (.ex c)) : Chk K W (tSeq t u) ρ (.ex c) := fun σ H D R q => h σ H { D with nx := u D } R q
theorem chk_ret (h : Evr K te ρ d) : Chk K W (tRet te) ρ (.rt d) := fun σ H D R q => h σ H _ R fun v H1 e1 r => q v H1 e1 r
theorem chk_raise : Chk K W (fun _ σ H => W (.ref c) none σ H) ρ (.ex c) := fun σ H D R q => q H (Same.refl H)
theorem chk_drop (h : Evr K te ρ d) : Chk K W (tDrop te) ρ .go := fun σ H D R q => h σ H _ R fun v H1 e1 r => q H1 e1
theorem chk_dropx (h : EvX K W te ρ c) : Chk K W (tDrop te) ρ (.ex c) := fun σ H D R q => h σ H _ R fun H1 e1 => q H1 e1
end
section
variable {K : Frg} {W : WX} {Z Z' H H' : Hp} {ρ : List Sl} {σ : L2.St} {t u tb : TS} {te ta tk tl : TE} {tc : TT} {d e : PyData} {i j k : Nat} {D : Ends} {c : Addr} {b : Bool}
theorem chk_does {o : CO} (h : Chk K W t (er ρ) o) (hs : ∀ d, o = .rt d → Scal d) : Does K W t ρ (toOut ρ o) := fun Z σ H D R q => by
  cases o with
  | go => exact h σ H D R.relE fun H' e => q Z σ H' (Same.refl Z) (R.grow e)
  | rt d => exact h σ H D R.relE fun v H' e r => q v H' [] (R.ext.trans e) (r.ow (hs d rfl)) fun _ m => nomatch m
  | ex c => exact h σ H D R.relE fun H' e => q Z σ H' (Same.refl Z) (R.grow e)
theorem set_or {σ σ' : L2.St} {j : Nat} (h : σ' = σ ∨ ∃ y, σ' = σ.set j y) (x : Option V) : σ'.set j x = σ.set j x := by
  rcases h with rfl | ⟨y, rfl⟩
  · rfl
  · rw [List.set_set]
theorem RelS.loose (R : RelS K Z ρ σ H) (e : Same H H') {σ' : L2.St} {j : Nat} (h : σ' = σ ∨ ∃ y : V, σ' = σ.set j (some y)) : RelS K Z (ρ.set j .no) σ' H' := by
  rcases h with rfl | ⟨y, rfl⟩
  · exact (R.grow e).no j
  · exact R.put e (s' := .no) (F := []) rfl fun _ m => nomatch m
theorem or_set {σ σ' : L2.St} {j : Nat} (x : V) (h : σ' = σ ∨ ∃ y : V, σ' = σ.set j (some y)) : σ'.set j (some x) = σ.set j (some x) := by
  rcases h with rfl | ⟨y, rfl⟩
  · rfl
  · rw [List.set_set]
/-- a checking loop over a list that goes through -/
theorem does_chkL {α : Type} {cd : α → PyData} {xs : List α} (hl : Evr K tl (er ρ) (.list (xs.map cd))) (hs : ∀ x ∈ xs, Chk K W tb ((er ρ).set j (some (cd x))) .go) : Does K W (tFor (iList K tl) (gName j) tb) ρ (.nx (ρ.set j .no)) := fun Z σ H D R q => hl σ H _ R.relE fun v H1 e1 r1 => by
  obtain ⟨a, vs, rfl, ha, hx⟩ := r1.list
  have hlen := hx.length
  rw [List.length_map] at hlen
  refine ⟨a, rfl, ⟨vs, sql ha⟩, ?_⟩
  refine for_list (K := K) (a := a) (xs := vs) (fun i σ' H' => Same H1 H' ∧ (σ' = σ ∨ ∃ y : V, σ' = σ.set j (some y))) ⟨Same.refl _, .inl rfl⟩ (fun i σ' H' _ p => sql (p.1 _ _ ha)) (fun i x σ' H' hi p => ?_) fun σ' H' p => q Z σ' H' (Same.refl Z) (R.loose (e1.trans p.1) p.2)
  obtain ⟨d, hd, rd⟩ := hx.getV hi
  rw [List.getElem?_map] at hd
  cases ex : xs[i]? with
  | none => rw [ex] at hd; cases hd
  | some y =>
    rw [ex] at hd
    have ed : cd y = d := Option.some.inj hd
    subst ed
    show tb _ (σ'.set j (some x)) H'
    rw [or_set x p.2]
    exact hs y (List.mem_of_getElem? ex) _ H' _ ((R.relE.mono (e1.trans p.1)).set (rd.mono p.1) j) fun H2 e2 => ⟨p.1.trans e2, .inr ⟨x, rfl⟩⟩
theorem does_chkLx {α : Type} {cd : α → PyData} {xs : List α} {o : CO} (hl : Evr K tl (er ρ) (.list (xs.map cd))) (n : Nat) (y : α) (hn : xs[n]? = some y) (hs : ∀ i x, i < n → xs[i]? = some x → Chk K W tb ((er ρ).set j (some (cd x))) .go) (ho : Chk K W tb ((er ρ).set j (some (cd y))) o) (hg : o ≠ .go) (hsc : ∀ d, o = .rt d → Scal d) :
    Does K W (tFor (iList K tl) (gName j) tb) ρ (toOut (ρ.set j .no) o) := fun Z σ H D R q => hl σ H _ R.relE fun v H1 e1 r1 => by
  obtain ⟨a, vs, rfl, ha, hx⟩ := r1.list
  have hlen := hx.length
  rw [List.length_map] at hlen
  have hnl : n < xs.length := (List.getElem?_eq_some_iff.mp hn).1
  refine ⟨a, rfl, ⟨vs, sql ha⟩, ?_⟩
  refine for_list (K := K) (a := a) (xs := vs) (fun i σ' H' => i ≤ n ∧ Same H1 H' ∧ (σ' = σ ∨ ∃ y : V, σ' = σ.set j (some y))) ⟨Nat.zero_le _, Same.refl _, .inl rfl⟩ (fun i σ' H' _ p => sql (p.2.1 _ _ ha)) (fun i x σ' H' hi p => ?_) fun σ' H' p => absurd p.1 (by omega)
  obtain ⟨hin, p1, p2⟩ := p
  obtain ⟨d, hd, rd⟩ := hx.getV hi
  rw [List.getElem?_map] at hd
  cases ex : xs[i]? with
  | none => rw [ex] at hd; cases hd
  | some z =>
    rw [ex] at hd
    have ed : cd z = d := Option.some.inj hd
    subst ed
    show tb _ (σ'.set j (some x)) H'
    rw [or_set x p2]
    have R2 := (R.relE.mono (e1.trans p1)).set (rd.mono p1) j
    by_cases hlt : i < n
    · exact hs i z hlt ex _ H' _ R2 fun H2 e2 => ⟨hlt, p1.trans e2, .inr ⟨x, rfl⟩⟩
    · have ein : i = n := by omega
      subst ein
      rw [hn] at ex
      have ez := Option.some.inj ex
      subst ez
      refine ho _ H' _ R2 ?_
      cases o with
      | go => exact absurd rfl hg
      | rt d => exact fun v H2 e2 r => q v H2 [] (R.ext.trans ((e1.trans p1).trans e2)) (r.ow (hsc d rfl)) fun _ m => nomatch m
      | ex c => exact fun H2 e2 => q Z _ H2 (Same.refl Z) (R.loose ((e1.trans p1).trans e2) (.inr ⟨x, rfl⟩))
theorem does_chkR {n : Int} {ta : TA} (hn : Eva K ta (er ρ) [.int n]) (hz : n ≤ 1000000) (hz0 : -1000000 ≤ n) (hs : ∀ i : Nat, (i : Int) < n → Chk K W tb ((er ρ).set j (some (.int (i : Int)))) .go) : Does K W (tFor (iRng1 ta) (gName j) tb) ρ (.nx (ρ.set j .no)) := fun Z σ H D R q => hn σ H _ R.relE fun vs H1 e1 r1 => by
  obtain ⟨v, rfl, hv⟩ := r1.one
  obtain rfl := hv.int_eq
  refine ⟨n, rfl, by omega, by omega, ?_⟩
  refine for_range (lo := 0) (n := n.toNat) (fun i σ' H' => Same H1 H' ∧ (σ' = σ ∨ ∃ y : V, σ' = σ.set j (some y))) ⟨Same.refl _, .inl rfl⟩ (fun i σ' H' hi p => ?_) fun σ' H' p => q Z σ' H' (Same.refl Z) (R.loose (e1.trans p.1) p.2)
  have e0 : (0 : Int) + (i : Int) = (i : Int) := Int.zero_add _
  rw [e0]
  show tb _ (σ'.set j (some _)) H'
  rw [or_set _ p.2]
  exact hs i (by omega) _ H' _ ((R.relE.mono (e1.trans p.1)).set (.int _) j) fun H2 e2 => ⟨p.1.trans e2, .inr ⟨_, rfl⟩⟩
theorem does_chkRx {n : Int} {ta : TA} {o : CO} (hn : Eva K ta (er ρ) [.int n]) (hz : n ≤ 1000000) (m : Nat) (hm : (m : Int) < n) (hs : ∀ i : Nat, i < m → Chk K W tb ((er ρ).set j (some (.int (i : Int)))) .go) (ho : Chk K W tb ((er ρ).set j (some (.int (m : Int)))) o) (hg : o ≠ .go) (hsc : ∀ d, o = .rt d → Scal d) :
    Does K W (tFor (iRng1 ta) (gName j) tb) ρ (toOut (ρ.set j .no) o) := fun Z σ H D R q => hn σ H _ R.relE fun vs H1 e1 r1 => by
  obtain ⟨v, rfl, hv⟩ := r1.one
  obtain rfl := hv.int_eq
  refine ⟨n, rfl, by omega, by omega, ?_⟩
  refine for_range (lo := 0) (n := n.toNat) (fun i σ' H' => i ≤ m ∧ Same H1 H' ∧ (σ' = σ ∨ ∃ y : V, σ' = σ.set j (some y))) ⟨Nat.zero_le _, Same.refl _, .inl rfl⟩ (fun i σ' H' hi p => ?_) fun σ' H' p => absurd p.1 (by omega)
  obtain ⟨hin, p1, p2⟩ := p
  have e0 : (0 : Int) + (i : Int) = (i : Int) := Int.zero_add _
  rw [e0]
  show tb _ (σ'.set j (some _)) H'
  rw [or_set _ p2]
  have R2 := (R.relE.mono (e1.trans p1)).set (.int (i : Int)) j
  by_cases hlt : i < m
  · exact hs i hlt _ H' _ R2 fun H2 e2 => ⟨hlt, p1.trans e2, .inr ⟨_, rfl⟩⟩
  · have ein : i = m := by omega
    subst ein
    refine ho _ H' _ R2 ?_
    cases o with
    | go => exact absurd rfl hg
    | rt d => exact fun v H2 e2 r => q v H2 [] (R.ext.trans ((e1.trans p1).trans e2)) (r.ow (hsc d rfl)) fun _ m => nomatch m
    | ex c => exact fun H2 e2 => q Z _ H2 (Same.refl Z) (R.loose ((e1.trans p1).trans e2) (.inr ⟨_, rfl⟩))
/-- the first that fails -/
theorem first_bad (p : Nat → Bool) : ∀ n : Nat, (∀ i, i < n → p i = true) ∨ ∃ m, m < n ∧ p m = false ∧ ∀ i, i < m → p i = true
  | 0 => .inl fun _ h => absurd h (Nat.not_lt_zero _)
  | n + 1 => by
    rcases first_bad p n with h | ⟨m, h1, h2, h3⟩
    · cases e : p n with
      | true =>
        refine .inl fun i hi => ?_
        by_cases e2 : i = n
        · rw [e2]; exact e
        · exact h i (by omega)
      | false => exact .inr ⟨n, by omega, e, h⟩
    · exact .inr ⟨m, by omega, h2, h3⟩
/-- for k in range(n): .. return d, where p fails; then u -/
theorem does_searchR {n : Int} {ta : TA} {o : Out} {d : PyData} (p : Nat → Bool) (hn : Eva K ta (er ρ) [.int n]) (hz : n ≤ 1000000) (hz0 : -1000000 ≤ n) (hd : Scal d) (hg : ∀ i : Nat, (i : Int) < n → p i = true → Chk K W tb ((er ρ).set j (some (.int (i : Int)))) .go)
    (hb : ∀ i : Nat, (i : Int) < n → (∀ l, l < i → p l = true) → p i = false → Chk K W tb ((er ρ).set j (some (.int (i : Int)))) (.rt d)) (hall : (∀ i : Nat, (i : Int) < n → p i = true) → Does K W u (ρ.set j .no) o) (hex : ∀ m : Nat, (m : Int) < n → p m = false → o = .rt d) : Does K W (tSeq (tFor (iRng1 ta) (gName j) tb) u) ρ o := by
  rcases first_bad p n.toNat with h | ⟨m, h1, h2, h3⟩
  · exact does_seq (does_chkR hn hz hz0 fun i hi => hg i hi (h i (by omega))) (hall fun i hi => h i (by omega))
  · rw [hex m (by omega) h2]
    exact does_seq_rt (does_chkRx hn hz m (by omega) (fun i hi => hg i (by omega) (h3 i hi)) (hb m (by omega) h3 h2) (fun z => nomatch z) fun e q => by cases q; exact hd)
end
/-! ## a def -/
def entry (N : List Str) (ds : List PyData) : List Sl := ds.map .fr ++ List.replicate (N.length - ds.length) .no
def FnDoes (K : Frg) (W : WX) (t : TS) (ρ : List Sl) : Except Addr PyData → Prop
  | .ok d => Does K W t ρ (.rt d) ∨ (d = .none ∧ ∃ ρ', Does K W t ρ (.nx ρ'))
  | .error c => ∃ ρ', Does K W t ρ (.ex c ρ')
theorem entry_rel {K : Frg} {H : Hp} {N : List Str} {vs : List V} {ds : List PyData} (r : RpAll K H vs ds) : RelS K H (entry N ds) (L2.start N vs) H := by
  have hl := r.length
  refine ⟨by unfold entry L2.start; simp [hl], Same.refl H, fun _ => [], ⟨fun i s h => ?_, fun _ _ _ _ m => (nomatch m), fun _ _ m => (nomatch m), fun _ _ => rfl⟩⟩
  unfold entry at h
  by_cases hi : i < ds.length
  · rw [List.getElem?_append_left (by rw [List.length_map]; exact hi), List.getElem?_map, List.getElem?_eq_getElem hi] at h
    have q : Sl.fr ds[i] = s := Option.some.inj h
    subst q
    obtain ⟨v, hv, rv⟩ := r.get (List.getElem?_eq_getElem hi)
    refine ⟨rfl, v, ?_, rv⟩
    unfold L2.start
    rw [List.getElem?_append_left (by rw [List.length_map, hl]; exact hi), List.getElem?_map, hv]
    rfl
  · rw [List.getElem?_append_right (by rw [List.length_map]; omega), List.getElem?_replicate] at h
    split at h
    · have q : Sl.no = s := Option.some.inj h
      subst q
      rfl
    · cases h
section
variable {P : Program} {w : World} {K : Frg} {mg : Str → Option Value} {base : Heap}
open PyProof.Rows in
theorem fn_pur {x qual : Str} {st : Stmt} {f : Addr} {fd : FuncData} {N ps : List Str} {k : Nat} {R : List PyData → Except Addr PyData → Prop} (F : Fun K x qual st f fd) (S : FnScope N ps (defScope st)) (len : ∀ ds o, R ds o → ds.length = ps.length)
    (hbody : ∀ (cdv : Value) (A : Around) (outer : List Env) (s : Shared) (H : Hp) (E : XK), Room k (A.deeper (envOfC qual (defScope st) s.heap.objs.size f cdv)) → ∀ ds o, R ds o →
      ∃ t, PSs (cxOf (L2.CX P w) P w K mg base N qual (defScope st) f cdv A outer s H E) (defBody st) t ∧ FnDoes K (fun cls d _ H => E cls d H) t (entry N ds) o) : FnOk P w K mg base (L2.CX P w) (k + 1) f fd ps (spOf K R) := by
  refine F.okX S (fun vs H Q E h => ?_) (fun cdv A outer s H vs Q E hr h => ?_)
  · obtain ⟨ds, o, h1, h2, _⟩ := h
    rw [h1.length]
    exact len ds o h2
  · obtain ⟨ds, o, h1, h2, h3⟩ := h
    obtain ⟨t, ht, hd⟩ := hbody cdv A outer s H E hr ds o h2
    refine ⟨t, ht, ?_⟩
    cases o with
    | ok d =>
      rcases hd with hd | ⟨rfl, ρ', hd⟩
      · exact hd H _ H _ (entry_rel h1) fun v H' F e w' f => h3 v H' F e w' f
      · exact hd H _ H _ (entry_rel h1) fun Z' σ' H' e R' => h3 .non H' [] (e.trans R'.ext) .non fun _ m => nomatch m
    | error c =>
      obtain ⟨ρ', hd⟩ := hd
      exact hd H _ H _ (entry_rel h1) fun Z' σ' H' e R' => h3 H' (e.trans R'.ext)
end
/-- a def that stands in the text -/
structure Df (K : Frg) (mg : Str → Option Value) (x : Str) (st : Stmt) (ps : List Str) (f : Addr) (fd : FuncData) : Prop where
  F : Fun K x x st f fd
  b : Binds K fd ps []
  g : mg x = some (.ref f)
end Pur

set_option Elab.async false
set_option linter.all false
set_option maxRecDepth 100000
set_option maxHeartbeats 4000000
namespace Pur
open PySem PySem.Spec PyProof.Rows L2
/-! ## the errors' classes -/
structure Ec where
  BeadError : Addr
  TooFew : Addr
  NoBeads : Addr
  NoRods : Addr
  NoCore : Addr
  NoQuotient : Addr
  NoCharges : Addr
  NoNote : Addr
/-- what the text says of a class of errors -/
structure Xc (K : Frg) (mg : Str → Option Value) (x : Str) (c : Addr) : Prop where
  g : mg x = some (.ref c)
  x : PySem.W.excIn K c [.type "ValueError", .type "Exception", .type "BaseException", .type "object"] "ValueError.__new__" = true
  k : PySem.W.keepIn K (.ref c) = true
  b : PySem.W.subIn K (.ref c) (.type "BaseException") = some true
  t : PySem.W.typeIn K (.ref c) = some (.type "type")
/-- raise X('..') -/
def tRz (W : WX) (c : Addr) : TS := fun _ σ H => W (.ref c) none σ H
/-! ## names of the operators -/
def rSubI : R2 := rI0 fun i j => .int (i - j)
def rDivI : R2 := rI CDiv fun i j => .int (i / j)
def rModI : R2 := rI (fun _ j => 0 < j) fun i j => .int (i % j)
def rPowI : R2 := rI CPow fun i j => .int (i ^ j.toNat)
def rLtI : R2 := rI0 fun i j => .bl (decide (i < j))
def rLeI : R2 := rI0 fun i j => .bl (decide (i ≤ j))
def rGtI : R2 := rI0 fun i j => .bl (decide (j < i))
def rGeI : R2 := rI0 fun i j => .bl (decide (j ≤ i))
section
variable {X : Cx}
theorem op_subI : OpR X (binaryOp .Sub) rSubI := op_sub
theorem op_divI : OpR X (binaryOp .FloorDiv) rDivI := op_fdiv
theorem op_modI : OpR X (binaryOp .Mod) rModI := op_mod
theorem op_powI : OpR X (binaryOp .Pow) rPowI := op_pow
theorem op_ltI : OpR X (compareOp .Lt) rLtI := op_lt
theorem op_leI : OpR X (compareOp .LtE) rLeI := op_le
theorem op_gtI : OpR X (compareOp .Gt) rGtI := op_gt
theorem op_geI : OpR X (compareOp .GtE) rGeI := op_ge
end
section
variable {K : Frg} {W : WX} {ρ : DE} {ta tb te tx : TE} {i j : Int} {d : PyData} {c : Addr}
theorem ev_sub (ha : Evr K ta ρ (.int i)) (hb : Evr K tb ρ (.int j)) : Evr K (tOp rSubI ta tb) ρ (.int (i - j)) := ev_i0 ha hb
theorem ev_div (ha : Evr K ta ρ (.int i)) (hb : Evr K tb ρ (.int j)) (h : 0 < j ∧ j < 1073741824) : Evr K (tOp rDivI ta tb) ρ (.int (i / j)) := ev_i1 ha hb h
theorem ev_mod (ha : Evr K ta ρ (.int i)) (hb : Evr K tb ρ (.int j)) (h : 0 < j) : Evr K (tOp rModI ta tb) ρ (.int (i % j)) := ev_i1 ha hb h
theorem ev_pow (ha : Evr K ta ρ (.int i)) (hb : Evr K tb ρ (.int j)) (h : 0 ≤ j ∧ j ≤ 1000000 ∧ i.natAbs < 2 ^ 64) : Evr K (tOp rPowI ta tb) ρ (.int (i ^ j.toNat)) := ev_i1 ha hb h
theorem ev_lt (ha : Evr K ta ρ (.int i)) (hb : Evr K tb ρ (.int j)) : Evr K (tOp rLtI ta tb) ρ (.bool (decide (i < j))) := ev_c0 ha hb
theorem ev_le (ha : Evr K ta ρ (.int i)) (hb : Evr K tb ρ (.int j)) : Evr K (tOp rLeI ta tb) ρ (.bool (decide (i ≤ j))) := ev_c0 ha hb
theorem ev_gt (ha : Evr K ta ρ (.int i)) (hb : Evr K tb ρ (.int j)) : Evr K (tOp rGtI ta tb) ρ (.bool (decide (j < i))) := ev_c0 ha hb
theorem ev_ge (ha : Evr K ta ρ (.int i)) (hb : Evr K tb ρ (.int j)) : Evr K (tOp rGeI ta tb) ρ (.bool (decide (j ≤ i))) := ev_c0 ha hb
/-! ### isinstance -/
def tyN : PyData → String
  | .none => "NoneType"
  | .bool _ => "bool"
  | .int _ => "int"
  | .str _ => "str"
  | .list _ => "list"
  | .tuple _ => "tuple"
  | .dict _ => "dict"
theorem Rp.ty {H : Hp} {v : V} (h : Rp K H v d) (n : tyN d ≠ "dict") : TyX K H v (.type (tyN d)) := by
  cases h with
  | non => exact .base .non
  | bl b => exact .base (.bl b)
  | int i => exact .base (.int i)
  | str x => exact .base (.str x)
  | lst ha _ => exact .base (.lst ha)
  | tup ha _ => exact .base (.tup ha)
  | scr _ => exact absurd rfl n
  | adr _ => exact absurd rfl n
theorem ev_isi {T : String} {b : Bool} (ha : Evr K ta ρ d) (hk : kitB (tyN d) T = some b) (n : tyN d ≠ "dict" := by decide) : Evr K (tCB (rIsi K) (tCons ta (tCons (tC (.ty T)) tNil))) ρ (.bool b) := fun σ H Q R q => ha σ H _ R fun v H1 e1 r1 =>
  ⟨v, .ty T, .type (tyN d), .type T, b, rfl, .ty T, r1.ty n, kit_ty hk, q _ H1 e1 (.bl b)⟩
theorem ev_call {R : List PyData → Except Addr PyData → Prop} {t : TA} {ds : List PyData} {E : XK} (ha : Eva K t ρ ds) (h : R ds (.ok d)) : Evr K (tCall (spOf K R) [] E t) ρ d := (evf_call ha h).r
theorem ev_callS {R : List PyData → Except Addr PyData → Prop} {t : TA} {ds : List PyData} {E : L2.St → XK} (ha : Eva K t ρ ds) (h : R ds (.ok d)) : Evr K (tCallS (spOf K R) E t) ρ d := (evf_callS ha h).r
end
theorem does_rz {K : Frg} {W : WX} {ρ : List Sl} {c : Addr} : Does K W (tRz W c) ρ (.ex c ρ) := fun Z σ H D R q => q Z σ H (Same.refl Z) R
theorem chk_rz {K : Frg} {W : WX} {ρ : DE} {c : Addr} : Chk K W (tRz W c) ρ (.ex c) := fun σ H D R q => q H (Same.refl H)
theorem kit_bb : kitB "bool" "bool" = some true := by decide +kernel
theorem kit_ib : kitB "int" "bool" = some false := by decide +kernel
theorem kit_ii : kitB "int" "int" = some true := by decide +kernel
theorem kit_bi : kitB "bool" "int" = some true := by decide +kernel
theorem kit_ll : kitB "list" "list" = some true := by decide +kernel
theorem kit_tt : kitB "tuple" "tuple" = some true := by decide +kernel
theorem kit_ss : kitB "str" "str" = some true := by decide +kernel
section
variable {K : Frg} {ρ : DE} {ta : TE}
theorem ev_isl {ds : List PyData} (ha : Evr K ta ρ (.list ds)) : Evr K (tCB (rIsi K) (tCons ta (tCons (tC (.ty "list")) tNil))) ρ (.bool true) := ev_isi ha (T := "list") kit_ll (show "list" ≠ "dict" by decide)
theorem ev_ist {ds : List PyData} (ha : Evr K ta ρ (.tuple ds)) : Evr K (tCB (rIsi K) (tCons ta (tCons (tC (.ty "tuple")) tNil))) ρ (.bool true) := ev_isi ha (T := "tuple") kit_tt (show "tuple" ≠ "dict" by decide)
theorem ev_isb {b : Bool} (ha : Evr K ta ρ (.bool b)) : Evr K (tCB (rIsi K) (tCons ta (tCons (tC (.ty "bool")) tNil))) ρ (.bool true) := ev_isi ha (T := "bool") kit_bb (show "bool" ≠ "dict" by decide)
theorem ev_isn {i : Int} (ha : Evr K ta ρ (.int i)) : Evr K (tCB (rIsi K) (tCons ta (tCons (tC (.ty "int")) tNil))) ρ (.bool true) := ev_isi ha (T := "int") kit_ii (show "int" ≠ "dict" by decide)
theorem ev_iss {z : Str} (ha : Evr K ta ρ (.str z)) : Evr K (tCB (rIsi K) (tCons ta (tCons (tC (.ty "str")) tNil))) ρ (.bool true) := ev_isi ha (T := "str") kit_ss (show "str" ≠ "dict" by decide)
end
end Pur
namespace Pur
open PySem PySem.Spec PyProof.Rows L2
/-- the law's promise, from what the walk gives -/
theorem law_sp {K : Frg} {H : Hp} {a : Addr} {ns : List Int} {n : Nat} (hl : ns.length ≤ n) (hS : SqL K H a (ns.map V.int)) : spOf K (fun ds o => ∃ ns : List Int, ds = [dScr ns] ∧ ns.length ≤ n ∧ o = .ok (.bool true)) [.ref a] H (fun v _ => v = .bl true) (fun _ _ _ => False) :=
  ⟨[dScr ns], .ok (.bool true), .cons (.scr hS) .nil, ⟨ns, rfl, hl, rfl⟩, fun v H' F e w f => by cases w; rfl⟩
theorem cx_no {P : Program} {w : World} {l : List Env} {H : Hp} {s : Shared} {e : Value} {s' : Shared} (h : L2.CX P w l H s (fun _ _ _ => False) e s') : False := by
  obtain ⟨_, _, _, _, _, _, _, _, _, _, _, _, z⟩ := h
  exact z
end Pur

set_option Elab.async false
set_option linter.all false
set_option maxRecDepth 100000
set_option maxHeartbeats 400000
namespace Pur
open PySem PySem.Spec PySem.W PyProof.Rows L2

section
variable {prog : Program} {w : World} {A : Around} {R : Result → Shared → Prop} {I : Addr} {fp wr : List Addr} {n : Nat} {P : Nat → Value → Prop} {St : Nat → Heap → Prop}
/-- the loop of min(.., default=..), whatever the keywords -/
theorem minD_turns (kw : List (Str × Value)) (val : Nat → Int) (Wk : Walks prog w A.in1 I fp wr n P St) (cm : CmpOf prog w A.in1 .Lt P (fun i j => decide (val i < val j))) (S : Addr) (off : S ∉ fp) :
    ∀ (k i b : Nat) (s : Shared) (v : Value) (c : Nat), n - i = k → i ≤ n → b < i → (∀ j, j < i → val b ≤ val j) → St i s.heap → P b v → s.heap.get? S = some { cls := .type "list", dict := none, data := .seq #[v, v] c, slots := #[] } →
      (∀ b v h2 tk2, b < n → (∀ j, j < n → val b ≤ val j) → P b v → (∀ x o, x ∉ wr → x ≠ S → s.heap.get? x = some o → h2.get? x = some o) → R (.ok (.ret v)) { s with heap := h2, toks := tk2 }) →
      codeAny (model prog w) A (.builtin "min.loop" ⟨[.ref I, .none, .ref S], kw⟩) R s := by
  have offw : S ∉ wr := fun z => off (Wk.sub _ z)
  have nam : (toString "min" ++ toString ".loop" : String) = "min.loop" := by decide
  intro k
  induction k with
  | zero =>
    intro i b s v c hk hi hb hle st pv gS fin
    obtain rfl : i = n := by omega
    refine codeAny_builtin PySem.F.entry_min_loop ?_
    rw [Around.under_plainId PySem.F.plain_min_loop _]
    show wpAny _ A.in1 (seqItems? (.ref S) >>= _) _ _ s
    refine wpAny_bind (wpAny_seqItems gS rfl ?_)
    show wpAny _ A.in1 (tryCatch (pyNext (.ref I)) _ >>= _) _ _ s
    refine wpAny_bind (wpAny_tryCatch (Wk.done s _ _ st fun h1 tk1 kp => ?_))
    have gS1 := kp S _ offw gS
    show wpAny _ A.in1 (updateSeq S (fun _ => #[]) >>= _) _ _ _
    refine wpAny_bind ?_
    refine wpAny_updateSeq gS1 rfl ?_
    refine wpAny_bind (wpAny_letGo (wpAny_pure ?_))
    exact fin b v _ tk1 hb hle pv fun x o hx hxS e => (Heap.get?_update_other _ _ (Ne.symm hxS)).trans (kp x o hx e)
  | succ k ih =>
    intro i b s v c hk hi hb hle st pv gS fin
    have hlt : i < n := by omega
    refine codeAny_builtin PySem.F.entry_min_loop ?_
    rw [Around.under_plainId PySem.F.plain_min_loop _]
    show wpAny _ A.in1 (seqItems? (.ref S) >>= _) _ _ s
    refine wpAny_bind (wpAny_seqItems gS rfl ?_)
    show wpAny _ A.in1 (tryCatch (pyNext (.ref I)) _ >>= _) _ _ s
    refine wpAny_bind (wpAny_tryCatch (Wk.item i s _ _ hlt st fun u h1 tk1 pu st1 kp => ?_))
    have gS1 := kp S _ offw gS
    show wpAny _ A.in1 (tryCatch (holding [u, u] (richCompare .Lt u v >>= _)) _ >>= _) _ _ _
    refine wpAny_bind (wpAny_tryCatch (wpAny_holding (wpAny_bind (cm i b u v _ _ _ pu pv ?_))))
    refine wpAny_bind (wpAny_holding (wpAny_truthy_bool ?_))
    refine wpAny_bind (wpAny_letGo (wpAny_pure ?_))
    by_cases l2 : val i < val b
    · simp only [decide_eq_true l2, if_true]
      refine wpAny_bind ?_
      refine wpAny_updateSeq gS1 rfl ?_
      refine wpAny_bind (wpAny_letGo ?_)
      rw [nam]
      refine wpAny_pure ⟨plainId_quiet PySem.F.plain_min_loop _, ih (i + 1) i _ u _ (by omega) hlt (by omega) (fun j hj => ?_) (Wk.frame _ _ _ st1 fun x hx o e => ?_) pu (Heap.get?_update_self _ gS1 rfl) fun b2 v2 h2 tk2 q1 q2 q3 q4 => ?_⟩
      · by_cases e : j = i
        · rw [e]; exact Int.le_refl _
        · have := hle j (by omega); omega
      · exact (Heap.get?_update_other _ _ (fun z : S = x => off (by rw [z]; exact hx))).trans e
      · exact fin b2 v2 h2 tk2 q1 q2 q3 fun x o hx hxS e => q4 x o hx hxS ((Heap.get?_update_other _ _ (Ne.symm hxS)).trans (kp x o hx e))
    · simp only [decide_eq_false l2, Bool.false_eq_true, if_false]
      refine wpAny_bind (wpAny_letGo ?_)
      rw [nam]
      refine wpAny_pure ⟨plainId_quiet PySem.F.plain_min_loop _, ih (i + 1) b _ v c (by omega) hlt (by omega) (fun j hj => ?_) st1 pv gS1 fun b2 v2 h2 tk2 q1 q2 q3 q4 => ?_⟩
      · by_cases e : j = i
        · rw [e]; omega
        · exact hle j (by omega)
      · exact fin b2 v2 h2 tk2 q1 q2 q3 fun x o hx hxS e => q4 x o hx hxS (kp x o hx e)
theorem minD_first (d : Value) (val : Nat → Int) (Wk : Walks prog w A.in1 I fp wr n P St) (cm : CmpOf prog w A.in1 .Lt P (fun i j => decide (val i < val j))) (S : Addr) (off : S ∉ fp) {s : Shared} {c : Nat} (st : St 0 s.heap)
    (gS : s.heap.get? S = some { cls := .type "list", dict := none, data := .seq #[] c, slots := #[] })
    (fin : ∀ b v h2 tk2, b < n → (∀ j, j < n → val b ≤ val j) → P b v → (∀ x o, x ∉ wr → x ≠ S → s.heap.get? x = some o → h2.get? x = some o) → R (.ok (.ret v)) { s with heap := h2, toks := tk2 })
    (emp : n = 0 → ∀ h2 tk2, (∀ x o, x ∉ wr → x ≠ S → s.heap.get? x = some o → h2.get? x = some o) → R (.ok (.ret d)) { s with heap := h2, toks := tk2 }) :
    codeAny (model prog w) A (.builtin "min.loop" ⟨[.ref I, .none, .ref S], [(Str.ofString "default", d)]⟩) R s := by
  have offw : S ∉ wr := fun z => off (Wk.sub _ z)
  have nam : (toString "min" ++ toString ".loop" : String) = "min.loop" := by decide
  refine codeAny_builtin PySem.F.entry_min_loop ?_
  rw [Around.under_plainId PySem.F.plain_min_loop _]
  show wpAny _ A.in1 (seqItems? (.ref S) >>= _) _ _ s
  refine wpAny_bind (wpAny_seqItems gS rfl ?_)
  show wpAny _ A.in1 (tryCatch (pyNext (.ref I)) _ >>= _) _ _ s
  by_cases hn : n = 0
  · subst hn
    refine wpAny_bind (wpAny_tryCatch (Wk.done s _ _ st fun h1 tk1 kp => ?_))
    show wpAny _ A.in1 (rule _ >>= _) _ _ _
    exact wpAny_bind (wpAny_rule (wpAny_pure (emp rfl _ tk1 fun x o hx _ e => kp x o hx e)))
  · refine wpAny_bind (wpAny_tryCatch (Wk.item 0 s _ _ (by omega) st fun u h1 tk1 pu st1 kp => ?_))
    have gS1 := kp S _ offw gS
    show wpAny _ A.in1 (updateSeq S (fun _ => #[u, u]) >>= _) _ _ _
    refine wpAny_bind ?_
    refine wpAny_updateSeq gS1 rfl ?_
    rw [nam]
    refine wpAny_pure ⟨plainId_quiet PySem.F.plain_min_loop _, minD_turns _ val Wk cm S off _ 1 0 _ u _ rfl (by omega) (by omega) (fun j hj => ?_) (Wk.frame _ _ _ st1 fun x hx o e => ?_) pu (Heap.get?_update_self _ gS1 rfl) fun b2 v2 h2 tk2 q1 q2 q3 q4 => ?_⟩
    · obtain rfl : j = 0 := by omega
      exact Int.le_refl _
    · exact (Heap.get?_update_other _ _ (fun z : S = x => off (by rw [z]; exact hx))).trans e
    · exact fin b2 v2 h2 tk2 q1 q2 q3 fun x o hx hxS e => q4 x o hx hxS ((Heap.get?_update_other _ _ (Ne.symm hxS)).trans (kp x o hx e))
end
theorem minD_args (a d : Value) : argsOk "min" ⟨[a], [(Str.ofString "default", d)]⟩ := by unfold argsOk; kernel_rfl
/-- min(xs, default=d), whole numbers -/
def r_minD (K : Frg) : List V → List V → Hp → VK → Prop := fun vs zs H Q => ∃ (a : Addr) (ns : List Int) (d : Int), vs = [V.ref a] ∧ zs = [V.int d] ∧ SqL K H a (ns.map V.int) ∧ (ns = [] → Q (.int d) H) ∧ ∀ m, m ∈ ns → (∀ y, y ∈ ns → m ≤ y) → Q (.int m) H
theorem cr_minD {X : Cx} (hc : X.calm = true) : CallRK X (.builtin "min") [Str.ofString "default"] (r_minD X.K) := by
  intro pins s σ H vs zs us ws Q I r rz h
  obtain ⟨a, ns, d, rfl, rfl, hs, q0, q1⟩ := h
  obtain ⟨its, rv, hl, hz⟩ := I.list hs
  obtain rfl := Vals.ref1 r
  obtain ⟨w1, rfl, td, rfl⟩ := vals1 rz
  have hi := rv.ints
  have hlen : its.length = ns.length := by rw [← rv.length, List.length_map]
  have old : a < s.heap.objs.size := by
    obtain ⟨o, ho, _⟩ := hl.isList
    exact Heap.lt_size ho
  have nam : (toString "min" ++ toString ".loop" : String) = "min.loop" := by decide
  refine kmk_tree PySem.F.kind_min PySem.F.plain_min PySem.F.entry_min (minD_args _ _) ?_
  show wpAny _ X.A.in1 (Builtin.Builtins.bindParams "min" ["key", "default"] 0 ⟨[], [(Str.ofString "default", .int d td)]⟩ >>= _) _ _ s
  refine wpAny_bind (wpAny_of_eq (show Builtin.Builtins.bindParams "min" ["key", "default"] 0 ⟨[], [(Str.ofString "default", .int d td)]⟩ = pure [none, some (.int d td)] from rfl) ?_)
  refine wpAny_bind (wpAny_pure ?_)
  refine wpAny_bind (wpAny_pyIter_list hl.isList ?_)
  refine wpAny_bind (wpAny_newList ?_ (Nat.zero_le _))
  rw [nam]
  have hS : (s.heap.push { cls := .type "list_iterator", data := .fields #[.ref a, .int 0 0] }).objs.size = s.heap.objs.size + 1 := size_push' ..
  have keep2 : ∀ b o, s.heap.get? b = some o → ((s.heap.push { cls := .type "list_iterator", data := .fields #[.ref a, .int 0 0] }).push { cls := .type "list", data := .seq ([] : List Value).toArray }).get? b = some o := fun b o e => Heap.get?_push_of_some _ (Heap.get?_push_of_some _ e)
  have gI : ((s.heap.push { cls := .type "list_iterator", data := .fields #[.ref a, .int 0 0] }).push { cls := .type "list", data := .seq ([] : List Value).toArray }).get? s.heap.objs.size = some { cls := .type "list_iterator", data := .fields #[.ref a, .int 0 0] } := Heap.get?_push_of_some _ (Heap.get?_push_size _ rfl)
  have gS : ((s.heap.push { cls := .type "list_iterator", data := .fields #[.ref a, .int 0 0] }).push { cls := .type "list", data := .seq ([] : List Value).toArray }).get? (s.heap.push { cls := .type "list_iterator", data := .fields #[.ref a, .int 0 0] }).objs.size = some { cls := .type "list", dict := none, data := .seq #[] 0, slots := #[] } := Heap.get?_push_size _ rfl
  have offS : (s.heap.push { cls := .type "list_iterator", data := .fields #[.ref a, .int 0 0] }).objs.size ∉ [s.heap.objs.size, a] := fun z => by
    rw [hS] at z
    rcases List.mem_cons.mp z with z | z
    · exact Nat.succ_ne_self _ z
    · rw [← List.mem_singleton.mp z] at old
      exact Nat.lt_irrefl _ (Nat.lt_of_succ_lt old)
  have hP : ∀ (i : Nat) (v : Value), its.toArray[i]? = some v → ∃ t, v = .int (ns.getD i 0) t := fun i v e => by
    have e2 : its[i]? = some v := by simpa using e
    obtain ⟨x, hx, rx⟩ : ∃ x, (ns.map V.int)[i]? = some x ∧ RelV x v := by
      have hi' : i < ns.length := by rw [← hlen]; exact (List.getElem?_eq_some_iff.mp e2).1
      obtain ⟨u, hu, ru⟩ := Vals.get (x := V.int ns[i]) rv (by rw [List.getElem?_map, List.getElem?_eq_getElem hi']; rfl)
      rw [e2] at hu
      cases hu
      exact ⟨_, by rw [List.getElem?_map, List.getElem?_eq_getElem hi']; rfl, ru⟩
    rw [List.getElem?_map] at hx
    cases en : ns[i]? with
    | none => rw [en] at hx; cases hx
    | some m =>
      rw [en] at hx
      cases hx
      obtain ⟨t, rfl⟩ := rx
      exact ⟨t, by rw [List.getD_eq_getElem?_getD, en]; rfl⟩
  refine wpAny_pure ⟨plainId_quiet PySem.F.plain_min_loop _, ?_⟩
  refine minD_first (.int d td) (fun i => ns.getD i 0) (Walks.list (A := X.A.in1) (I.ok.hd hc) s.heap.objs.size a (Nat.ne_of_lt old) its.toArray) (CmpOf.ints_lt _ hP) _ offS ⟨⟨_, gI, rfl, rfl⟩, hl.isList.at fun o e => keep2 _ _ e⟩ (c := 0) gS (fun b v h2 tk2 hb hle pv kp => ?_) fun hn h2 tk2 kp => ?_
  · obtain ⟨t, rfl⟩ := hP b v pv
    have hbn : b < ns.length := by rw [← hlen]; simpa using hb
    refine ⟨.int (ns.getD b 0), H, I.kept (h' := h2) (t' := tk2) fun x o e => kp x o (fun z => ?_) (fun z => ?_) (keep2 x o e), ⟨t, rfl⟩, q1 _ ?_ fun y hy => ?_⟩
    · have := Heap.lt_size e
      rw [List.mem_singleton.mp z] at this
      exact Nat.lt_irrefl _ this
    · have := Heap.lt_size e
      rw [z, hS] at this
      exact Nat.lt_irrefl _ (Nat.lt_of_succ_lt this)
    · rw [List.getD_eq_getElem?_getD, List.getElem?_eq_getElem hbn]
      exact List.getElem_mem hbn
    · obtain ⟨j, hj, rfl⟩ := List.getElem_of_mem hy
      have := hle j (by simp [hlen]; exact hj)
      rw [List.getD_eq_getElem?_getD, List.getD_eq_getElem?_getD, List.getElem?_eq_getElem hj] at this
      rw [List.getD_eq_getElem?_getD]
      exact this
  · have hn0 : ns = [] := by
      have : ns.length = 0 := by rw [← hlen]; simpa using hn
      exact List.length_eq_zero_iff.mp this
    refine ⟨.int d, H, I.kept (h' := h2) (t' := tk2) fun x o e => kp x o (fun z => ?_) (fun z => ?_) (keep2 x o e), ⟨td, rfl⟩, q0 hn0⟩
    · have := Heap.lt_size e
      rw [List.mem_singleton.mp z] at this
      exact Nat.lt_irrefl _ this
    · have := Heap.lt_size e
      rw [z, hS] at this
      exact Nat.lt_irrefl _ (Nat.lt_of_succ_lt this)

section
variable {prog : Program} {w : World} {A : Around} {R : Result → Shared → Prop} {I : Addr} {fp wr : List Addr} {n : Nat} {P : Nat → Value → Prop} {St : Nat → Heap → Prop}
/-- the loop of max(.., default=..), whatever the keywords -/
theorem maxD_turns (kw : List (Str × Value)) (val : Nat → Int) (Wk : Walks prog w A.in1 I fp wr n P St) (cm : CmpOf prog w A.in1 .Gt P (fun i j => decide (val i > val j))) (S : Addr) (off : S ∉ fp) :
    ∀ (k i b : Nat) (s : Shared) (v : Value) (c : Nat), n - i = k → i ≤ n → b < i → (∀ j, j < i → val j ≤ val b) → St i s.heap → P b v → s.heap.get? S = some { cls := .type "list", dict := none, data := .seq #[v, v] c, slots := #[] } →
      (∀ b v h2 tk2, b < n → (∀ j, j < n → val j ≤ val b) → P b v → (∀ x o, x ∉ wr → x ≠ S → s.heap.get? x = some o → h2.get? x = some o) → R (.ok (.ret v)) { s with heap := h2, toks := tk2 }) →
      codeAny (model prog w) A (.builtin "max.loop" ⟨[.ref I, .none, .ref S], kw⟩) R s := by
  have offw : S ∉ wr := fun z => off (Wk.sub _ z)
  have nam : (toString "max" ++ toString ".loop" : String) = "max.loop" := by decide
  intro k
  induction k with
  | zero =>
    intro i b s v c hk hi hb hle st pv gS fin
    obtain rfl : i = n := by omega
    refine codeAny_builtin PySem.F.entry_max_loop ?_
    rw [Around.under_plainId PySem.F.plain_max_loop _]
    show wpAny _ A.in1 (seqItems? (.ref S) >>= _) _ _ s
    refine wpAny_bind (wpAny_seqItems gS rfl ?_)
    show wpAny _ A.in1 (tryCatch (pyNext (.ref I)) _ >>= _) _ _ s
    refine wpAny_bind (wpAny_tryCatch (Wk.done s _ _ st fun h1 tk1 kp => ?_))
    have gS1 := kp S _ offw gS
    show wpAny _ A.in1 (updateSeq S (fun _ => #[]) >>= _) _ _ _
    refine wpAny_bind ?_
    refine wpAny_updateSeq gS1 rfl ?_
    refine wpAny_bind (wpAny_letGo (wpAny_pure ?_))
    exact fin b v _ tk1 hb hle pv fun x o hx hxS e => (Heap.get?_update_other _ _ (Ne.symm hxS)).trans (kp x o hx e)
  | succ k ih =>
    intro i b s v c hk hi hb hle st pv gS fin
    have hlt : i < n := by omega
    refine codeAny_builtin PySem.F.entry_max_loop ?_
    rw [Around.under_plainId PySem.F.plain_max_loop _]
    show wpAny _ A.in1 (seqItems? (.ref S) >>= _) _ _ s
    refine wpAny_bind (wpAny_seqItems gS rfl ?_)
    show wpAny _ A.in1 (tryCatch (pyNext (.ref I)) _ >>= _) _ _ s
    refine wpAny_bind (wpAny_tryCatch (Wk.item i s _ _ hlt st fun u h1 tk1 pu st1 kp => ?_))
    have gS1 := kp S _ offw gS
    show wpAny _ A.in1 (tryCatch (holding [u, u] (richCompare .Gt u v >>= _)) _ >>= _) _ _ _
    refine wpAny_bind (wpAny_tryCatch (wpAny_holding (wpAny_bind (cm i b u v _ _ _ pu pv ?_))))
    refine wpAny_bind (wpAny_holding (wpAny_truthy_bool ?_))
    refine wpAny_bind (wpAny_letGo (wpAny_pure ?_))
    by_cases l2 : val i > val b
    · simp only [decide_eq_true l2, if_true]
      refine wpAny_bind ?_
      refine wpAny_updateSeq gS1 rfl ?_
      refine wpAny_bind (wpAny_letGo ?_)
      rw [nam]
      refine wpAny_pure ⟨plainId_quiet PySem.F.plain_max_loop _, ih (i + 1) i _ u _ (by omega) hlt (by omega) (fun j hj => ?_) (Wk.frame _ _ _ st1 fun x hx o e => ?_) pu (Heap.get?_update_self _ gS1 rfl) fun b2 v2 h2 tk2 q1 q2 q3 q4 => ?_⟩
      · by_cases e : j = i
        · rw [e]; exact Int.le_refl _
        · have := hle j (by omega); omega
      · exact (Heap.get?_update_other _ _ (fun z : S = x => off (by rw [z]; exact hx))).trans e
      · exact fin b2 v2 h2 tk2 q1 q2 q3 fun x o hx hxS e => q4 x o hx hxS ((Heap.get?_update_other _ _ (Ne.symm hxS)).trans (kp x o hx e))
    · simp only [decide_eq_false l2, Bool.false_eq_true, if_false]
      refine wpAny_bind (wpAny_letGo ?_)
      rw [nam]
      refine wpAny_pure ⟨plainId_quiet PySem.F.plain_max_loop _, ih (i + 1) b _ v c (by omega) hlt (by omega) (fun j hj => ?_) st1 pv gS1 fun b2 v2 h2 tk2 q1 q2 q3 q4 => ?_⟩
      · by_cases e : j = i
        · rw [e]; omega
        · exact hle j (by omega)
      · exact fin b2 v2 h2 tk2 q1 q2 q3 fun x o hx hxS e => q4 x o hx hxS (kp x o hx e)
theorem maxD_first (d : Value) (val : Nat → Int) (Wk : Walks prog w A.in1 I fp wr n P St) (cm : CmpOf prog w A.in1 .Gt P (fun i j => decide (val i > val j))) (S : Addr) (off : S ∉ fp) {s : Shared} {c : Nat} (st : St 0 s.heap)
    (gS : s.heap.get? S = some { cls := .type "list", dict := none, data := .seq #[] c, slots := #[] })
    (fin : ∀ b v h2 tk2, b < n → (∀ j, j < n → val j ≤ val b) → P b v → (∀ x o, x ∉ wr → x ≠ S → s.heap.get? x = some o → h2.get? x = some o) → R (.ok (.ret v)) { s with heap := h2, toks := tk2 })
    (emp : n = 0 → ∀ h2 tk2, (∀ x o, x ∉ wr → x ≠ S → s.heap.get? x = some o → h2.get? x = some o) → R (.ok (.ret d)) { s with heap := h2, toks := tk2 }) :
    codeAny (model prog w) A (.builtin "max.loop" ⟨[.ref I, .none, .ref S], [(Str.ofString "default", d)]⟩) R s := by
  have offw : S ∉ wr := fun z => off (Wk.sub _ z)
  have nam : (toString "max" ++ toString ".loop" : String) = "max.loop" := by decide
  refine codeAny_builtin PySem.F.entry_max_loop ?_
  rw [Around.under_plainId PySem.F.plain_max_loop _]
  show wpAny _ A.in1 (seqItems? (.ref S) >>= _) _ _ s
  refine wpAny_bind (wpAny_seqItems gS rfl ?_)
  show wpAny _ A.in1 (tryCatch (pyNext (.ref I)) _ >>= _) _ _ s
  by_cases hn : n = 0
  · subst hn
    refine wpAny_bind (wpAny_tryCatch (Wk.done s _ _ st fun h1 tk1 kp => ?_))
    show wpAny _ A.in1 (rule _ >>= _) _ _ _
    exact wpAny_bind (wpAny_rule (wpAny_pure (emp rfl _ tk1 fun x o hx _ e => kp x o hx e)))
  · refine wpAny_bind (wpAny_tryCatch (Wk.item 0 s _ _ (by omega) st fun u h1 tk1 pu st1 kp => ?_))
    have gS1 := kp S _ offw gS
    show wpAny _ A.in1 (updateSeq S (fun _ => #[u, u]) >>= _) _ _ _
    refine wpAny_bind ?_
    refine wpAny_updateSeq gS1 rfl ?_
    rw [nam]
    refine wpAny_pure ⟨plainId_quiet PySem.F.plain_max_loop _, maxD_turns _ val Wk cm S off _ 1 0 _ u _ rfl (by omega) (by omega) (fun j hj => ?_) (Wk.frame _ _ _ st1 fun x hx o e => ?_) pu (Heap.get?_update_self _ gS1 rfl) fun b2 v2 h2 tk2 q1 q2 q3 q4 => ?_⟩
    · obtain rfl : j = 0 := by omega
      exact Int.le_refl _
    · exact (Heap.get?_update_other _ _ (fun z : S = x => off (by rw [z]; exact hx))).trans e
    · exact fin b2 v2 h2 tk2 q1 q2 q3 fun x o hx hxS e => q4 x o hx hxS ((Heap.get?_update_other _ _ (Ne.symm hxS)).trans (kp x o hx e))
end
theorem maxD_args (a d : Value) : argsOk "max" ⟨[a], [(Str.ofString "default", d)]⟩ := by unfold argsOk; kernel_rfl
/-- max(xs, default=d), whole numbers -/
def r_maxD (K : Frg) : List V → List V → Hp → VK → Prop := fun vs zs H Q => ∃ (a : Addr) (ns : List Int) (d : Int), vs = [V.ref a] ∧ zs = [V.int d] ∧ SqL K H a (ns.map V.int) ∧ (ns = [] → Q (.int d) H) ∧ ∀ m, m ∈ ns → (∀ y, y ∈ ns → y ≤ m) → Q (.int m) H
theorem cr_maxD {X : Cx} (hc : X.calm = true) : CallRK X (.builtin "max") [Str.ofString "default"] (r_maxD X.K) := by
  intro pins s σ H vs zs us ws Q I r rz h
  obtain ⟨a, ns, d, rfl, rfl, hs, q0, q1⟩ := h
  obtain ⟨its, rv, hl, hz⟩ := I.list hs
  obtain rfl := Vals.ref1 r
  obtain ⟨w1, rfl, td, rfl⟩ := vals1 rz
  have hi := rv.ints
  have hlen : its.length = ns.length := by rw [← rv.length, List.length_map]
  have old : a < s.heap.objs.size := by
    obtain ⟨o, ho, _⟩ := hl.isList
    exact Heap.lt_size ho
  have nam : (toString "max" ++ toString ".loop" : String) = "max.loop" := by decide
  refine kmk_tree PySem.F.kind_max PySem.F.plain_max PySem.F.entry_max (maxD_args _ _) ?_
  show wpAny _ X.A.in1 (Builtin.Builtins.bindParams "max" ["key", "default"] 0 ⟨[], [(Str.ofString "default", .int d td)]⟩ >>= _) _ _ s
  refine wpAny_bind (wpAny_of_eq (show Builtin.Builtins.bindParams "max" ["key", "default"] 0 ⟨[], [(Str.ofString "default", .int d td)]⟩ = pure [none, some (.int d td)] from rfl) ?_)
  refine wpAny_bind (wpAny_pure ?_)
  refine wpAny_bind (wpAny_pyIter_list hl.isList ?_)
  refine wpAny_bind (wpAny_newList ?_ (Nat.zero_le _))
  rw [nam]
  have hS : (s.heap.push { cls := .type "list_iterator", data := .fields #[.ref a, .int 0 0] }).objs.size = s.heap.objs.size + 1 := size_push' ..
  have keep2 : ∀ b o, s.heap.get? b = some o → ((s.heap.push { cls := .type "list_iterator", data := .fields #[.ref a, .int 0 0] }).push { cls := .type "list", data := .seq ([] : List Value).toArray }).get? b = some o := fun b o e => Heap.get?_push_of_some _ (Heap.get?_push_of_some _ e)
  have gI : ((s.heap.push { cls := .type "list_iterator", data := .fields #[.ref a, .int 0 0] }).push { cls := .type "list", data := .seq ([] : List Value).toArray }).get? s.heap.objs.size = some { cls := .type "list_iterator", data := .fields #[.ref a, .int 0 0] } := Heap.get?_push_of_some _ (Heap.get?_push_size _ rfl)
  have gS : ((s.heap.push { cls := .type "list_iterator", data := .fields #[.ref a, .int 0 0] }).push { cls := .type "list", data := .seq ([] : List Value).toArray }).get? (s.heap.push { cls := .type "list_iterator", data := .fields #[.ref a, .int 0 0] }).objs.size = some { cls := .type "list", dict := none, data := .seq #[] 0, slots := #[] } := Heap.get?_push_size _ rfl
  have offS : (s.heap.push { cls := .type "list_iterator", data := .fields #[.ref a, .int 0 0] }).objs.size ∉ [s.heap.objs.size, a] := fun z => by
    rw [hS] at z
    rcases List.mem_cons.mp z with z | z
    · exact Nat.succ_ne_self _ z
    · rw [← List.mem_singleton.mp z] at old
      exact Nat.lt_irrefl _ (Nat.lt_of_succ_lt old)
  have hP : ∀ (i : Nat) (v : Value), its.toArray[i]? = some v → ∃ t, v = .int (ns.getD i 0) t := fun i v e => by
    have e2 : its[i]? = some v := by simpa using e
    obtain ⟨x, hx, rx⟩ : ∃ x, (ns.map V.int)[i]? = some x ∧ RelV x v := by
      have hi' : i < ns.length := by rw [← hlen]; exact (List.getElem?_eq_some_iff.mp e2).1
      obtain ⟨u, hu, ru⟩ := Vals.get (x := V.int ns[i]) rv (by rw [List.getElem?_map, List.getElem?_eq_getElem hi']; rfl)
      rw [e2] at hu
      cases hu
      exact ⟨_, by rw [List.getElem?_map, List.getElem?_eq_getElem hi']; rfl, ru⟩
    rw [List.getElem?_map] at hx
    cases en : ns[i]? with
    | none => rw [en] at hx; cases hx
    | some m =>
      rw [en] at hx
      cases hx
      obtain ⟨t, rfl⟩ := rx
      exact ⟨t, by rw [List.getD_eq_getElem?_getD, en]; rfl⟩
  refine wpAny_pure ⟨plainId_quiet PySem.F.plain_max_loop _, ?_⟩
  refine maxD_first (.int d td) (fun i => ns.getD i 0) (Walks.list (A := X.A.in1) (I.ok.hd hc) s.heap.objs.size a (Nat.ne_of_lt old) its.toArray) (CmpOf.ints_gt _ hP) _ offS ⟨⟨_, gI, rfl, rfl⟩, hl.isList.at fun o e => keep2 _ _ e⟩ (c := 0) gS (fun b v h2 tk2 hb hle pv kp => ?_) fun hn h2 tk2 kp => ?_
  · obtain ⟨t, rfl⟩ := hP b v pv
    have hbn : b < ns.length := by rw [← hlen]; simpa using hb
    refine ⟨.int (ns.getD b 0), H, I.kept (h' := h2) (t' := tk2) fun x o e => kp x o (fun z => ?_) (fun z => ?_) (keep2 x o e), ⟨t, rfl⟩, q1 _ ?_ fun y hy => ?_⟩
    · have := Heap.lt_size e
      rw [List.mem_singleton.mp z] at this
      exact Nat.lt_irrefl _ this
    · have := Heap.lt_size e
      rw [z, hS] at this
      exact Nat.lt_irrefl _ (Nat.lt_of_succ_lt this)
    · rw [List.getD_eq_getElem?_getD, List.getElem?_eq_getElem hbn]
      exact List.getElem_mem hbn
    · obtain ⟨j, hj, rfl⟩ := List.getElem_of_mem hy
      have := hle j (by simp [hlen]; exact hj)
      rw [List.getD_eq_getElem?_getD, List.getD_eq_getElem?_getD, List.getElem?_eq_getElem hj] at this
      rw [List.getD_eq_getElem?_getD]
      exact this
  · have hn0 : ns = [] := by
      have : ns.length = 0 := by rw [← hlen]; simpa using hn
      exact List.length_eq_zero_iff.mp this
    refine ⟨.int d, H, I.kept (h' := h2) (t' := tk2) fun x o e => kp x o (fun z => ?_) (fun z => ?_) (keep2 x o e), ⟨td, rfl⟩, q0 hn0⟩
    · have := Heap.lt_size e
      rw [List.mem_singleton.mp z] at this
      exact Nat.lt_irrefl _ this
    · have := Heap.lt_size e
      rw [z, hS] at this
      exact Nat.lt_irrefl _ (Nat.lt_of_succ_lt this)

section
variable {K : Frg} {ρ : DE} {ta td : TE} {r : List Int} {d m : Int}
theorem ev_minD (ha : Evr K ta ρ (dR r)) (hd : Evr K td ρ (.int d)) (h0 : r = [] → m = d) (h1 : r ≠ [] → m ∈ r ∧ ∀ y ∈ r, m ≤ y) : Evr K (tCKw (r_minD K) (tCons ta tNil) (tCons td tNil)) ρ (.int m) := fun σ H Q R q => ha σ H _ R fun v H1 e1 r1 => hd σ H1 _ (R.mono e1) fun w H2 e2 r2 => by
  obtain ⟨a, rfl, ha⟩ := (r1.mono e2).row
  obtain rfl := r2.int_eq
  refine ⟨a, r, d, rfl, rfl, sql ha, fun e => ?_, fun k hk hkl => ?_⟩
  · rw [← h0 e]; exact q _ H2 (e1.trans e2) (.int m)
  · have hr : r ≠ [] := fun z => by rw [z] at hk; cases hk
    have e : k = m := Int.le_antisymm (hkl m (h1 hr).1) ((h1 hr).2 k hk)
    rw [e]; exact q _ H2 (e1.trans e2) (.int m)
theorem ev_maxD (ha : Evr K ta ρ (dR r)) (hd : Evr K td ρ (.int d)) (h0 : r = [] → m = d) (h1 : r ≠ [] → m ∈ r ∧ ∀ y ∈ r, y ≤ m) : Evr K (tCKw (r_maxD K) (tCons ta tNil) (tCons td tNil)) ρ (.int m) := fun σ H Q R q => ha σ H _ R fun v H1 e1 r1 => hd σ H1 _ (R.mono e1) fun w H2 e2 r2 => by
  obtain ⟨a, rfl, ha⟩ := (r1.mono e2).row
  obtain rfl := r2.int_eq
  refine ⟨a, r, d, rfl, rfl, sql ha, fun e => ?_, fun k hk hkl => ?_⟩
  · rw [← h0 e]; exact q _ H2 (e1.trans e2) (.int m)
  · have hr : r ≠ [] := fun z => by rw [z] at hk; cases hk
    have e : k = m := Int.le_antisymm ((h1 hr).2 k hk) (hkl m (h1 hr).1)
    rw [e]; exact q _ H2 (e1.trans e2) (.int m)
end
end Pur

set_option Elab.async false
set_option linter.all false
set_option maxRecDepth 100000
set_option maxHeartbeats 4000000
namespace Pur
open PySem PySem.Spec PyProof.Rows L2
section
variable {K : Frg} {W : WX} {Z Z' H H' : Hp} {ρ : List Sl} {σ : L2.St} {ds es : List PyData} {d : PyData} {i j m : Nat}
/-- a list within a list grows -/
theorem RelS.app_in (R : RelS K Z ρ σ H) (hs : ρ[i]? = some (.ow (.list ds))) (hm : ds[m]? = some (.list es)) {w : V} (hw : Rp K H w d) (hd : Scal d) :
    ∃ a vs b ys, σ[i]? = some (some (.ref a)) ∧ H a = some (.lst vs) ∧ vs.length = ds.length ∧ vs[m]? = some (.ref b) ∧ H b = some (.lst ys) ∧ ys.length = es.length ∧ b ≠ a ∧
      RelS K Z ((kill ρ).set i (.ow (.list (ds.set m (.list (es ++ [d])))))) σ (upd H b (.lst (ys ++ [w]))) := by
  obtain ⟨Fs, O⟩ := R.ex
  obtain ⟨a, xs, F, hσ, ha, hx, hna, hF⟩ := O.lst hs
  obtain ⟨v, G, p1, p2, p3, p4⟩ := hx.at_ hm
  cases p2 with
  | @lst b ys _ G1 hb hy hbn =>
    have hba : b ≠ a := fun z => hna (z ▸ p3 b List.mem_cons_self)
    have hg : ∀ c ∈ F, c ∉ b :: G1 → (upd H b (.lst (ys ++ [w]))) c = H c := fun c m z => upd_ne (show c ≠ b from fun e => z (by rw [e]; exact List.mem_cons_self))
    obtain ⟨F', q1, q2⟩ := p4 (upd H b (.lst (ys ++ [w]))) (.list (es ++ [d])) (b :: (G1 ++ ([] ++ []))) hg (.lst upd_same (OwAll.append (hy.keep fun c m => upd_ne fun z => hbn (z ▸ m)) (.cons (hw.ow hd) .nil fun _ m => nomatch m) fun c m z => by simp at z) (fun m => hbn (by simpa using m))) fun c m => .inl (by simpa using m)
    refine ⟨a, xs, b, ys, hσ, ha, hx.length, p1, hb, hy.length, hba, R.chg hs O (F' := a :: F') (fun c hc o ho => ?_) ⟨_, hσ, .lst (by rw [upd_ne (Ne.symm hba)]; exact ha) q1 fun m => ?_⟩ fun c m => ?_⟩
    · rw [upd_ne (fun z => hc (by rw [hF, z]; exact List.mem_cons_of_mem _ (p3 b List.mem_cons_self)))]
      exact ho
    · rcases q2 a m with m | m
      · exact hna m
      · have m2 : a ∈ b :: G1 := by simpa using m
        exact hna (p3 a m2)
    · rw [hF]
      rcases List.mem_cons.mp m with rfl | m
      · exact .inl List.mem_cons_self
      · rcases q2 c m with m | m
        · exact .inl (List.mem_cons_of_mem _ m)
        · exact .inl (List.mem_cons_of_mem _ (p3 c (by simpa using m)))
theorem kill_kill (ρ : List Sl) : kill (kill ρ) = kill ρ := by
  rw [kill, kill, List.map_map]
  refine List.map_congr_left fun s _ => ?_
  cases s <;> rfl
theorem kill_set (ρ : List Sl) (i : Nat) (s : Sl) : kill (ρ.set i s) = (kill ρ).set i (killS s) := List.map_set
theorem RelS.killed (R : RelS K Z ρ σ H) : RelS K Z (kill ρ) σ H := by
  obtain ⟨Fs, O⟩ := R.ex
  refine ⟨by rw [List.length_map]; exact R.len, R.ext, Fs, fun i s h => ?_, O.dis, O.fr, fun i hi => O.out i (by rw [List.length_map] at hi; exact hi)⟩
  rw [List.getElem?_map] at h
  cases e : ρ[i]? with
  | none => rw [e] at h; cases h
  | some u =>
    rw [e] at h
    have q : killS u = s := Option.some.inj h
    subst q
    exact (O.ok i u e).keep fun _ _ => rfl
/-- for x in xs: x.append(n), xs a list of rows of one's own -/
theorem does_forapp {rr : List (List Int)} {n : Int} (hs : ρ[i]? = some (.ow (dRR rr))) (hij : i ≠ j) (hjr : j < ρ.length) (hz : ∀ r ∈ rr, r.length < 1000000) :
    Does K W (tFor (iList K (tVar i)) (gName j) (tDrop (tBM K "list" rAppend (tVar j) (tCons (tC (.int n)) tNil)))) ρ (.nx (((kill ρ).set j .no).set i (.ow (dRR (rr.map (· ++ [n])))))) := fun Z σ H D R q => by
  obtain ⟨Fs, O⟩ := R.ex
  obtain ⟨a, vs, F, hσ, ha, hx, hna, hF⟩ := O.lst hs
  have hlen : vs.length = rr.length := by rw [hx.length, List.length_map]
  have hi : i < ρ.length := (List.getElem?_eq_some_iff.mp hs).1
  refine ⟨.ref a, hσ, a, rfl, ⟨vs, sql ha⟩, ?_⟩
  let cur : Nat → List PyData := fun m => ((rr.take m).map (· ++ [n]) ++ rr.drop m).map dR
  let ρm : Nat → List Sl := fun m => ((kill ρ).set j .no).set i (.ow (.list (cur m)))
  have h0 : RelS K Z (ρm 0) σ H := by
    have e : ρm 0 = (kill ρ).set j .no := by
      show ((kill ρ).set j .no).set i (.ow (.list (cur 0))) = _
      have e1 : cur 0 = rr.map dR := by show ((rr.take 0).map (· ++ [n]) ++ rr.drop 0).map dR = _; simp
      rw [e1]
      refine List.ext_getElem? fun k => ?_
      rw [List.getElem?_set]
      by_cases hk : i = k
      · subst hk
        rw [if_pos rfl, List.getElem?_set_ne (Ne.symm hij), List.getElem?_map, hs]
        simp [hi, killS]
      · rw [if_neg hk]
    rw [e]
    exact R.killed.no j
  have curS : ∀ m (hm : m < rr.length), cur (m + 1) = (cur m).set m (dR (rr[m] ++ [n])) := fun m hm => by
    show ((rr.take (m + 1)).map (· ++ [n]) ++ rr.drop (m + 1)).map dR = (((rr.take m).map (· ++ [n]) ++ rr.drop m).map dR).set m (dR (rr[m] ++ [n]))
    rw [← List.map_set, List.drop_eq_getElem_cons hm, List.set_append_right _ _ (by rw [List.length_map, List.length_take]; omega), List.length_map, List.length_take, Nat.min_eq_left (Nat.le_of_lt hm), Nat.sub_self, List.set_cons_zero, List.take_add_one, List.getElem?_eq_getElem hm]
    show ((rr.take m ++ [rr[m]]).map (· ++ [n]) ++ rr.drop (m + 1)).map dR = _
    rw [List.map_append (l₁ := rr.take m), List.append_assoc]
    rfl
  have curG : ∀ m (hm : m < rr.length), (cur m)[m]? = some (dR rr[m]) := fun m hm => by
    show (((rr.take m).map (· ++ [n]) ++ rr.drop m).map dR)[m]? = _
    rw [List.getElem?_map, List.getElem?_append_right (by rw [List.length_map, List.length_take]; omega), List.length_map, List.length_take, Nat.min_eq_left (Nat.le_of_lt hm), Nat.sub_self, List.getElem?_drop, Nat.add_zero, List.getElem?_eq_getElem hm]
    rfl
  have hkl : (kill ρ).length = ρ.length := List.length_map _
  have seq : ∀ m (c' : List PyData), (kill ((ρm m).set j .no)).set i (.ow (.list c')) = ((kill ρ).set j .no).set i (.ow (.list c')) := fun m c' => by
    refine List.ext_getElem? fun k => ?_
    by_cases hk : k = i
    · subst hk
      rw [List.getElem?_set_self (by simp [ρm, kill, hi]), List.getElem?_set_self (by simp [kill, hi])]
    · rw [List.getElem?_set_ne (Ne.symm hk), List.getElem?_set_ne (Ne.symm hk), kill, List.getElem?_map]
      by_cases hj : k = j
      · subst hj
        by_cases hjl : k < ρ.length
        · rw [List.getElem?_set_self (by simp [ρm, kill, hjl]), List.getElem?_set_self (by simp [kill, hjl])]
          rfl
        · rw [List.getElem?_eq_none (by simp [ρm, kill]; omega), List.getElem?_eq_none (by simp [kill]; omega)]
          rfl
      · rw [List.getElem?_set_ne (Ne.symm hj), List.getElem?_set_ne (Ne.symm hk), List.getElem?_set_ne (Ne.symm hj), kill, List.getElem?_map]
        cases ρ[k]? with
        | none => rfl
        | some s => cases s <;> rfl
  refine for_list (K := K) (a := a) (xs := vs) (fun m σ' H' => ∃ Z', Same Z Z' ∧ RelS K Z' (ρm m) σ' H' ∧ H' a = some (.lst vs) ∧ σ'[i]? = some (some (.ref a))) ⟨Z, Same.refl Z, h0, ha, hσ⟩ (fun m σ' H' _ p => by obtain ⟨_, _, _, h, _⟩ := p; exact sql h) (fun m x σ' H' hm p => ?_) fun σ' H' p => ?_
  · obtain ⟨Z', e, R', ha', hσ'⟩ := p
    have hml : m < rr.length := by rw [← hlen]; exact (List.getElem?_eq_some_iff.mp hm).1
    have R2 : RelS K Z' ((ρm m).set j .no) (σ'.set j (some x)) H' := R'.put (Same.refl H') (s' := .no) (F := []) rfl fun _ m => nomatch m
    have hs2 : ((ρm m).set j .no)[i]? = some (.ow (.list (cur m))) := by
      rw [List.getElem?_set_ne (Ne.symm hij)]
      exact List.getElem?_set_self (by simp [kill, hi])
    have hσ2 : (σ'.set j (some x))[i]? = some (some (.ref a)) := by rw [List.getElem?_set_ne (Ne.symm hij)]; exact hσ'
    obtain ⟨a1, vs1, b, ys, q1, q2, q3, q4, q5, q6, q7, q8⟩ := R2.app_in hs2 (curG m hml) (w := .int n) (.int n) True.intro
    rw [hσ2] at q1
    cases q1
    rw [ha'] at q2
    cases q2
    rw [hm] at q4
    cases q4
    have hjt : (σ'.set j (some (V.ref b)))[j]? = some (some (V.ref b)) := by
      refine List.getElem?_set_self ?_
      have h1 := R'.len
      simp only [ρm, List.length_set] at h1
      rw [hkl] at h1
      rw [← h1]
      exact hjr
    refine ⟨.ref b, hjt, tyl q5, b, ys, .int n, rfl, rfl, q5, by rw [q6, List.length_map]; exact sz_lt (hz _ (List.getElem_mem hml)), Z', e, ?_, by rw [upd_ne (Ne.symm q7)]; exact ha', hσ2⟩
    rw [seq] at q8
    have ec : (cur m).set m (.list (rr[m].map PyData.int ++ [.int n])) = cur (m + 1) := by
      rw [curS m hml, dR, List.map_append]
      rfl
    rw [ec] at q8
    exact q8
  · obtain ⟨Z', e, R', _, _⟩ := p
    refine q Z' σ' H' e ?_
    have ec : cur vs.length = (rr.map (· ++ [n])).map dR := by
      show ((rr.take vs.length).map (· ++ [n]) ++ rr.drop vs.length).map dR = _
      rw [hlen, List.take_length, List.drop_length, List.append_nil]
    have R3 : RelS K Z' (((kill ρ).set j .no).set i (.ow (.list (cur vs.length)))) σ' H' := R'
    rw [ec] at R3
    exact R3
end
end Pur

set_option Elab.async false
set_option linter.all false
set_option maxRecDepth 100000
set_option maxHeartbeats 4000000
namespace Pur
open PySem PySem.Spec PyProof.Rows L2
/-! ## try: .. except X as e: .. -/
def tTry (K : Frg) (c : Addr) (i : Nat) (tb : WX → TS) (ts : Addr → Addr → TS) (W : WX) : TS := fun D σ H =>
  tb (wAs K (.ref c) i (fun a cls d D σ H => ∃ Dc, cls = .ref Dc ∧ d = none ∧ ExcC K Dc ∧ ts a Dc D σ H) W D) D σ H
theorem ps_tryE {X : Cx} {x n : Str} {c : Addr} {i : Nat} {body suite : List Stmt} {b₀ : Stmt} {np pos pos' : Pos} {tb : WX → TS} {ts : Addr → Addr → TS} {Wout : WX}
    (hs : X.stack = X.env :: X.outer) (hf : X.env.frame = some X.env.locals) (hN : X.N.Nodup) (hi : X.N[i]? = some n) (hln : X.env.kindOf n = some .local) (hc : Names X x (.ref c)) (tk : Takes X Wout)
    (hb : ∀ (W : WX) (pn : List (Addr × Obj)) (xe : Value → Shared → Prop), Takes (X.tr pn xe) W → PassesOwn (model X.prog X.w) X.A X.env xe → PSs (X.tr pn xe) body (tb W))
    (hsu : ∀ (a : Addr) (oe : Obj) (D : Addr) (pn : List (Addr × Obj)), Zc (.ref D) none oe → (∃ vs, oe.data = .fields vs) → ExcC X.K D → PSs (X.suite a ((a, oe) :: pn)) (b₀ :: suite) (ts a D)) :
    PS X (.Try body [.ExceptHandler (some (.Name x np)) (some n) (b₀ :: suite) pos'] [] [] pos) (tTry X.K c i tb ts Wout) := by
  refine ps_try_as hs hf hN hi hln hc tk hb fun a oe cls d pn hz hv => ⟨fun pins s σ H D I h => ?_⟩
  obtain ⟨Dc, rfl, rfl, hx, h⟩ := h
  exact (hsu a oe Dc pn hz hv hx).run pins s σ H D I h
/-- an error of the class at D is caught by a clause that names the class at B, and can be asked -/
structure Xr (K : Frg) (B D : Addr) : Prop where
  m : PySem.W.exmOne K (.ref D) (.ref B) = some true
  e : ExcC K D
  v : PySem.W.kitOne K (.ref D) (.type "ValueError") = some true
abbrev Kf (K : Frg) (D X : Addr) (b : Bool) : Prop := PySem.W.kitOne K (.ref D) (.ref X) = some b
theorem kit_self {K : Frg} {D : Addr} : PySem.W.kitOne K (.ref D) (.ref D) = some true := by
  unfold PySem.W.kitOne
  rw [if_pos (beq_self_eq_true _)]
theorem kit_val {K : Frg} {D : Addr} (h : PySem.W.subIn K (.ref D) (.type "ValueError") = some true) : PySem.W.kitOne K (.ref D) (.type "ValueError") = some true := by
  unfold PySem.W.kitOne PySem.W.kitCls
  rw [if_neg (fun z => by have := eq_of_beq z; cases this)]
  show (if PySem.W.kitMeta "ValueError" = true then _ else _) = _
  rw [if_pos (by decide +kernel)]
  exact h
theorem kit_sub {K : Frg} {D X : Addr} {b : Bool} (hd : PySem.W.hasDictIn K X = true) (ht : PySem.W.typeIn K (.ref X) = some (.type "type")) (h : PySem.W.subIn K (.ref D) (.ref X) = some b) (hx : PySem.W.subIn K (.ref X) (.ref X) = some true) : PySem.W.kitOne K (.ref D) (.ref X) = some b := by
  obtain ⟨cd, hc, _⟩ := PySem.W.any_some hd
  have e2 : ((PySem.W.clsIn K X).isSome && PySem.W.typeIn K (.ref X) == some (.type "type")) = true := by rw [hc, ht] <;> rfl
  unfold PySem.W.kitOne
  by_cases e : ((Value.ref D) == (Value.ref X)) = true
  · rw [if_pos e]
    have e3 : D = X := by
      have := eq_of_beq e
      cases this
      rfl
    subst e3
    rw [hx] at h
    exact h
  · rw [if_neg e]
    unfold PySem.W.kitCls
    show (if _ = true then _ else _) = _
    rw [if_pos e2]
    exact h
section
variable {K : Frg} {W : WX} {ρ ρ1 : List Sl} {tb : WX → TS} {ts : Addr → Addr → TS} {d : PyData} {c D X : Addr} {i j : Nat} {o : Out}
theorem does_try_nx (hb : ∀ W, Does K W (tb W) ρ (.nx ρ1)) : Does K W (tTry K c i tb ts W) ρ (.nx ρ1) := fun Z σ H D R q => hb _ Z σ H D R q
theorem does_try_rt (hb : ∀ W, Does K W (tb W) ρ (.rt d)) : Does K W (tTry K c i tb ts W) ρ (.rt d) := fun Z σ H D R q => hb _ Z σ H D R q
theorem does_try_ex (hb : ∀ W, Does K W (tb W) ρ (.ex D ρ1)) (y : Xr K c D) (hs : ∀ a, Does K W (ts a D) (ρ1.set i (.fr (dAdr a))) (.rt d)) : Does K W (tTry K c i tb ts W) ρ (.rt d) := fun Z σ H E R q => hb _ Z σ H E R fun Z1 σ1 H1 e1 R1 =>
  ⟨true, y.m, fun _ a ha => ⟨D, rfl, rfl, y.e, hs a Z1 _ H1 _ (R1.put (Same.refl H1) (s' := .fr (dAdr a)) (F := []) ⟨rfl, .ref a, rfl, .adr a⟩ fun _ m => nomatch m) (q.more e1)⟩, fun z => nomatch z⟩
theorem _root_.Pur.Rp.adr_eq {H : Hp} {v : V} {a : Addr} (h : Rp K H v (dAdr a)) : v = .ref a := by
  generalize e : dAdr a = d at h
  cases h with
  | scr hs =>
    rename_i ns
    cases ns with
    | nil => cases e
    | cons n ns => simp at e
  | adr b =>
    have : (a : Int) = b := by simpa using e
    have : a = b := by exact_mod_cast this
    rw [this]
  | _ => cases e
theorem ev_isE {ρ : DE} {te : TE} {a : Addr} {b : Bool} (h : Evr K te ρ (dAdr a)) (k : Kf K D X b) : Evr K (tCB (rIsE K D a) (tCons te (tCons (tC (.ref X)) tNil))) ρ (.bool b) := fun σ H Q R q => h σ H _ R fun v H1 e1 r1 => by
  cases r1.adr_eq
  exact ⟨.ref X, .ref X, b, rfl, fun u r => by cases r; rfl, k, q _ H1 e1 (.bl b)⟩
theorem ev_isV {ρ : DE} {te : TE} {a : Addr} (h : Evr K te ρ (dAdr a)) (k : PySem.W.kitOne K (.ref D) (.type "ValueError") = some true) : Evr K (tCB (rIsE K D a) (tCons te (tCons (tC (.ty "ValueError")) tNil))) ρ (.bool true) := fun σ H Q R q => h σ H _ R fun v H1 e1 r1 => by
  cases r1.adr_eq
  exact ⟨.ty "ValueError", .type "ValueError", true, rfl, fun u r => by cases r; rfl, k, q _ H1 e1 (.bl true)⟩
theorem does_seqI {t u : TS} {α : Type} {P : α → Prop} (f : α → List Sl) (h : ∃ m, P m ∧ Does K W t ρ (.nx (f m))) (h2 : ∀ m, P m → Does K W u (f m) o) : Does K W (tSeq t u) ρ o := by
  obtain ⟨m, hm, h⟩ := h
  exact does_seq h (h2 m hm)
/-- return (e, x), x not read again -/
theorem does_ret2v {ta : TE} {d e : PyData} (h : Evf K ta (er ρ) e) (hs : ρ[j]? = some (.ow d)) : Does K W (tRet (tTup (tCons ta (tCons (tVar j) tNil)))) ρ (.rt (.tuple [e, d])) := fun Z σ H D R q => h σ H _ R.relE fun v H1 F e1 w f => by
  obtain ⟨Fs, O⟩ := R.ex
  obtain ⟨u, hv, wu⟩ := O.ok j _ hs
  refine ⟨u, hv, by show 2 ≤ sizeLine; decide, fun p hp => ?_⟩
  have hsame : Same H1 (upd H1 p (.tup [v, u])) := same_upd hp
  have e2 : Same H (upd H1 p (.tup [v, u])) := e1.trans hsame
  have hpF : p ∉ F := fun m => by
    obtain ⟨o, ho⟩ := w.dom p m
    rw [hp] at ho
    cases ho
  have hpJ : p ∉ Fs j := fun m => by
    obtain ⟨o, ho⟩ := wu.dom p m
    rw [e1 _ _ ho] at hp
    cases hp
  refine q (.ref p) _ (p :: (F ++ (Fs j ++ []))) (R.ext.trans e2) (.tup upd_same (.cons (w.grow hsame) (.cons (wu.grow e2) .nil fun _ _ m => nomatch m) fun a m z => ?_) fun m => ?_) fun a m => ?_
  · rw [List.append_nil] at z
    obtain ⟨o, ho⟩ := wu.dom a z
    rw [f a m] at ho
    cases ho
  · rw [List.append_nil] at m
    rcases List.mem_append.mp m with m | m
    · exact hpF m
    · exact hpJ m
  · rw [List.append_nil] at m
    rcases List.mem_cons.mp m with rfl | m
    · exact R.ext.free (e1.free hp)
    · rcases List.mem_append.mp m with m | m
      · exact R.ext.free (f a m)
      · exact O.fr j a m
/-- x[k].append(e), x a tuple -/
theorem does_appixT {tk te : TE} {n : Int} {ds es : List PyData} {d : PyData} (hs : ρ[i]? = some (.ow (.tuple ds))) (hk : Evr K tk (er ρ) (.int n)) (h : Evr K te (er ρ) d) (hd : Scal d) (h0 : 0 ≤ n) (hn : ds[n.toNat]? = some (.list es)) (hl : es.length < 1000000) :
    Does K W (tDrop (tBM K "list" rAppend (tOp (rIx K) (tVar i) tk) (tCons te tNil))) ρ (.nx ((kill ρ).set i (.ow (.tuple (ds.set n.toNat (.list (es ++ [d]))))))) := fun Z σ H D R q => by
  obtain ⟨Fs, O⟩ := R.ex
  obtain ⟨v0, hσ, w0⟩ := O.ok i _ hs
  generalize hF : Fs i = FF at w0
  cases w0 with
  | @tup a xs _ F ha hx hna =>
  obtain ⟨v, G, p1, p2, p3, p4⟩ := hx.at_ hn
  have hnl : n.toNat < xs.length := (List.getElem?_eq_some_iff.mp p1).1
  refine ⟨.ref a, hσ, hk σ H _ R.relE fun y H1 e1 r1 => ?_⟩
  obtain rfl := r1.int_eq
  cases p2 with
  | @lst b ys _ G1 hb hy hbn =>
    refine .inr (.inl ⟨a, xs, n, .ref b, rfl, rfl, sqt (e1 _ _ ha), at_of (j := n.toNat) (by omega) p1, tyl (e1 _ _ hb), h σ H1 _ (R.relE.mono e1) fun w H2 e2 r2 => ?_⟩)
    refine ⟨b, ys, w, rfl, rfl, e2 _ _ (e1 _ _ hb), by rw [hy.length]; exact sz_lt hl, q Z _ _ (Same.refl Z) ?_⟩
    have hba : b ≠ a := fun z => hna (z ▸ p3 b List.mem_cons_self)
    have hg : ∀ c ∈ F, c ∉ b :: G1 → (upd H2 b (.lst (ys ++ [w]))) c = H c := fun c m z => by
      rw [upd_ne (show c ≠ b from fun e => z (by rw [e]; exact List.mem_cons_self))]
      obtain ⟨o, ho⟩ := hx.dom c m
      rw [ho]
      exact e2 _ _ (e1 _ _ ho)
    obtain ⟨F', q1, q2⟩ := p4 (upd H2 b (.lst (ys ++ [w]))) (.list (es ++ [d])) (b :: (G1 ++ ([] ++ []))) hg (.lst upd_same (OwAll.append ((hy.grow (e1.trans e2)).keep fun c m => upd_ne fun z => hbn (z ▸ m)) (.cons (r2.ow hd) .nil fun _ m => nomatch m) fun c m z => by simp at z) (fun m => hbn (by simpa using m))) fun c m => .inl (by simpa using m)
    refine R.chg hs O (F' := a :: F') (fun c hc o ho => ?_) ⟨_, hσ, .tup (by rw [upd_ne (Ne.symm hba)]; exact e2 _ _ (e1 _ _ ha)) q1 fun m => ?_⟩ fun c m => ?_
    · rw [upd_ne (fun z => hc (by rw [hF, z]; exact List.mem_cons_of_mem _ (p3 b List.mem_cons_self)))]
      exact e2 _ _ (e1 _ _ ho)
    · rcases q2 a m with m | m
      · exact hna m
      · have m2 : a ∈ b :: G1 := by simpa using m
        exact hna (p3 a m2)
    · rw [hF]
      rcases List.mem_cons.mp m with rfl | m
      · exact .inl List.mem_cons_self
      · rcases q2 c m with m | m
        · exact .inl (List.mem_cons_of_mem _ m)
        · exact .inl (List.mem_cons_of_mem _ (p3 c (by simpa using m)))
end
/-! ## comprehensions of numbers -/
section
variable {K : Frg} {ρ : DE} {tl te : TE} {tt : TT} {t : TA} {j : Nat}
theorem evf_lcRi {n : Int} (p : Nat → Bool) (f : Nat → Int) (hl : Eva K t ρ [.int n]) (hz : n ≤ 1000000) (h0 : -1000000 ≤ n)
    (ht : ∀ i : Nat, (i : Int) < n → Evt K tt (ρ.set j (some (.int (i : Int)))) (p i)) (he : ∀ i : Nat, (i : Int) < n → p i = true → Evr K te (ρ.set j (some (.int (i : Int)))) (.int (f i))) :
    Evf K (tLc (iRng1 t) (gName j) tt te [j]) ρ (dR (((List.range n.toNat).filter p).map f)) :=
  Evf.cast (evf_lcR p (fun i => .int (f i)) hl hz h0 ht fun i hi hp => (he i hi hp).f True.intro) (by rw [dR, List.map_map]; rfl)
theorem evf_mapR {n : Int} (f : Nat → Int) (hl : Eva K t ρ [.int n]) (hz : n ≤ 1000000) (h0 : -1000000 ≤ n) (he : ∀ i : Nat, (i : Int) < n → Evr K te (ρ.set j (some (.int (i : Int)))) (.int (f i))) :
    Evf K (tLc (iRng1 t) (gName j) tYes te [j]) ρ (dR ((List.range n.toNat).map f)) :=
  Evf.cast (evf_lcRi (fun _ => true) f hl hz h0 (fun _ _ => et_yes) fun i hi _ => he i hi) (by rw [List.filter_eq_self.mpr fun _ _ => rfl])
theorem evf_lcLi {α : Type} {c : α → PyData} {xs : List α} (p : α → Bool) (f : α → Int) (hl : Evr K tl ρ (.list (xs.map c))) (hz : xs.length ≤ 1000000)
    (ht : ∀ x ∈ xs, Evt K tt (ρ.set j (some (c x))) (p x)) (he : ∀ x ∈ xs, p x = true → Evr K te (ρ.set j (some (c x))) (.int (f x))) : Evf K (tLc (iList K tl) (gName j) tt te [j]) ρ (dR ((xs.filter p).map f)) :=
  Evf.cast (evf_lcL p (fun x => .int (f x)) hl hz ht fun x hx hp => (he x hx hp).f True.intro) (by rw [dR, List.map_map]; rfl)
theorem evf_mapL {α : Type} {c : α → PyData} {xs : List α} (f : α → Int) (hl : Evr K tl ρ (.list (xs.map c))) (hz : xs.length ≤ 1000000)
    (he : ∀ x ∈ xs, Evr K te (ρ.set j (some (c x))) (.int (f x))) : Evf K (tLc (iList K tl) (gName j) tYes te [j]) ρ (dR (xs.map f)) :=
  Evf.cast (evf_lcLi (fun _ => true) f hl hz (fun _ _ => et_yes) fun x hx _ => he x hx) (by rw [List.filter_eq_self.mpr fun _ _ => rfl])
/-- [x for x in r if ..] -/
theorem evf_fil {r : List Int} (p : Int → Bool) (hl : Evr K tl ρ (dR r)) (hz : r.length ≤ 1000000) (ht : ∀ x ∈ r, Evt K tt (ρ.set j (some (.int x))) (p x)) (hj : j < ρ.length) : Evf K (tLc (iList K tl) (gName j) tt (tVar j) [j]) ρ (dR (r.filter p)) :=
  Evf.cast (evf_lcLi (c := PyData.int) p id hl hz ht fun x hx _ => ev_var (by rw [List.getElem?_set_self hj]; rfl)) (by rw [List.map_id])
theorem evf_mapRR {n : Int} (f : Nat → PyData) (hl : Eva K t ρ [.int n]) (hz : n ≤ 1000000) (h0 : -1000000 ≤ n) (he : ∀ i : Nat, (i : Int) < n → Evf K te (ρ.set j (some (.int (i : Int)))) (f i)) :
    Evf K (tLc (iRng1 t) (gName j) tYes te [j]) ρ (.list ((List.range n.toNat).map f)) :=
  Evf.cast (evf_lcR (fun _ => true) f hl hz h0 (fun _ _ => et_yes) fun i hi _ => he i hi) (by rw [List.filter_eq_self.mpr fun _ _ => rfl])
theorem evf_mapLL {α : Type} {c : α → PyData} {xs : List α} (f : α → PyData) (hl : Evr K tl ρ (.list (xs.map c))) (hz : xs.length ≤ 1000000)
    (he : ∀ x ∈ xs, Evf K te (ρ.set j (some (c x))) (f x)) : Evf K (tLc (iList K tl) (gName j) tYes te [j]) ρ (.list (xs.map f)) :=
  Evf.cast (evf_lcL (fun _ => true) f hl hz (fun _ _ => et_yes) fun x hx _ => he x hx) (by rw [List.filter_eq_self.mpr fun _ _ => rfl])
end
end Pur

set_option Elab.async false
set_option linter.all false
set_option maxRecDepth 100000
set_option maxHeartbeats 4000000
namespace Pur
open PySem PySem.Spec PyProof.Rows L2
/-! ## lists of what is no list, joined -/
theorem RpAll.owSc {K : Frg} {H H' : Hp} : ∀ {ds : List PyData} {vs : List V}, RpAll K H vs ds → (∀ d ∈ ds, Scal d) → OwAll H' vs ds []
  | [], _, h, _ => by cases h; exact .nil
  | _ :: _, _, h, s => by
    cases h with
    | cons h1 h2 => exact OwAll.cons (F := []) (G := []) (h1.ow (s _ List.mem_cons_self)) (RpAll.owSc h2 fun d m => s d (List.mem_cons_of_mem _ m)) fun _ m => nomatch m
theorem evf_catSc {K : Frg} {ρ : DE} {ta tb : TE} {ds es : List PyData} (ha : Evr K ta ρ (.list ds)) (hb : Evr K tb ρ (.list es)) (hd : ∀ d ∈ ds, Scal d) (he : ∀ d ∈ es, Scal d) (hl : ds.length + es.length ≤ 1000000) : Evf K (tOp rAddA ta tb) ρ (.list (ds ++ es)) :=
  evf_op ha hb fun H x y Q hx hy q => by
    obtain ⟨a, xs, rfl, h1, k1⟩ := hx.list
    obtain ⟨b, ys, rfl, h2, k2⟩ := hy.list
    refine .inr (.inl ⟨a, b, _, _, rfl, rfl, h1, h2, by rw [k1.length, k2.length]; exact sz_le hl, fun p hp => q _ _ [p] (same_upd hp) ?_ fun c m => ?_⟩)
    · refine .lst upd_same ((k1.append k2).owSc fun d m => ?_) (fun m => nomatch m)
      rcases List.mem_append.mp m with m | m
      · exact hd d m
      · exact he d m
    · rw [List.mem_singleton.mp m]; exact hp
end Pur

set_option Elab.async false
set_option linter.all false
set_option maxRecDepth 100000
set_option maxHeartbeats 4000000
namespace Pur
open PySem PySem.Spec PyProof.Rows L2
/-! ## comprehensions that hand on what they walk -/
theorem OwAll.fil {α : Type} {H : Hp} {c : α → PyData} (p : α → Bool) : ∀ {xs : List α} {vs : List V} {F : List Addr}, OwAll H vs (xs.map c) F → ∃ F', OwAll H (((vs.zip xs).filter fun q => p q.2).map Prod.fst) ((xs.filter p).map c) F' ∧ ∀ a ∈ F', a ∈ F
  | [], vs, F, h => by
    cases h
    exact ⟨[], .nil, fun _ m => m⟩
  | x :: xs, vs, F, h => by
    cases h with
    | @cons v vs' _ _ F0 G0 h1 h2 hd =>
      obtain ⟨F', q1, q2⟩ := OwAll.fil p h2
      rw [List.zip_cons_cons, List.filter_cons, List.filter_cons]
      cases hp : p x with
      | true =>
        exact ⟨F0 ++ F', .cons h1 q1 fun a m z => hd a m (q2 a z), fun a m => (List.mem_append.mp m).elim (fun m => List.mem_append_left _ m) fun m => List.mem_append_right _ (q2 a m)⟩
      | false => exact ⟨F', q1, fun a m => List.mem_append_right _ (q2 a m)⟩
theorem zip_get {α : Type} {vs : List V} {xs : List α} {i : Nat} {v : V} {x : α} (h1 : vs[i]? = some v) (h2 : xs[i]? = some x) : (vs.zip xs)[i]? = some (v, x) := by
  rw [List.getElem?_zip_eq_some]
  exact ⟨h1, h2⟩
section
variable {K : Frg} {ρ : DE} {tl te : TE} {tt : TT} {t : TA}
/-- [x for x in a new list, if ..] -/
theorem evf_lcFil {α : Type} {c : α → PyData} {xs : List α} {j : Nat} (p : α → Bool) (hl : Evf K tl ρ (.list (xs.map c))) (hz : xs.length ≤ 1000000) (hj : j < ρ.length)
    (ht : ∀ x ∈ xs, Evt K tt (ρ.set j (some (c x))) (p x)) : Evf K (tLc (iList K tl) (gName j) tt (tVar j) [j]) ρ (.list ((xs.filter p).map c)) := fun σ H Q R q => hl σ H _ R fun v H1 F0 e1 o1 f1 => by
  cases o1 with
  | @lst a vs _ F h1 hx hna =>
  have k1 := hx.rp (K := K)
  have hlen := k1.length
  rw [List.length_map] at hlen
  have hzip : (vs.zip xs).length = xs.length := by rw [List.length_zip]; omega
  refine ⟨a, rfl, ⟨vs, sql h1⟩, fun D hD => ?_⟩
  let fv : Nat → List V := fun i => (((vs.zip xs).take i).filter fun q => p q.2).map Prod.fst
  refine lc_list (xs := vs) (fun i H' => Same H1 H' ∧ H' D = some (.lst (fv i))) ⟨same_upd hD, upd_same⟩ (fun i H' _ w => sql (w.1 a _ h1)) (fun i x H' hi w => ?_) (fun H' w => ?_)
  · have hi2 : i < xs.length := by
      rw [← hlen]
      exact (List.getElem?_eq_some_iff.mp hi).1
    obtain ⟨d, hd, rd⟩ := k1.getV hi
    rw [List.getElem?_map, List.getElem?_eq_getElem hi2] at hd
    have hm : xs[i] ∈ xs := List.getElem_mem hi2
    have ed : c xs[i] = d := Option.some.inj hd
    subst ed
    have hs : fv (i + 1) = if p xs[i] = true then fv i ++ [x] else fv i := by
      show (((vs.zip xs).take (i + 1)).filter _).map _ = _
      rw [take_succ_some (zip_get hi (List.getElem?_eq_getElem hi2)), List.filter_append, List.map_append, List.filter_cons]
      cases hp : p xs[i] with
      | true => simp [hp, fv]
      | false => simp [hp, fv]
    refine ⟨wipe1 _ _ _, ?_⟩
    have R2 := (R.mono e1).comp rd j
    refine ht _ hm _ H' _ (R2.mono w.1) fun H3 e3 => ?_
    cases hp : p xs[i] with
    | true =>
      rw [hp, if_pos rfl] at hs
      rw [if_pos rfl]
      refine ⟨x, ?_, fv i, e3 _ _ w.2, ?_, same_mut (w.1.trans e3) hD, by rw [hs]; exact upd_same⟩
      · show ((σ.set j none).set j (some x))[j]? = _
        rw [List.set_set, List.getElem?_set_self (by rw [← R.len]; exact hj)]
      · refine sz_lt (Nat.lt_of_lt_of_le ?_ hz)
        show ((((vs.zip xs).take i).filter _).map _).length < _
        rw [List.length_map]
        refine Nat.lt_of_le_of_lt (List.length_filter_le _ _) ?_
        rw [List.length_take]
        omega
    | false =>
      rw [hp, if_neg (by decide)] at hs
      rw [if_neg (by decide)]
      exact ⟨w.1.trans e3, by rw [hs]; exact e3 _ _ w.2⟩
  · obtain ⟨w1, w2⟩ := w
    obtain ⟨F', g1, g2⟩ := hx.fil p
    have e : fv vs.length = ((vs.zip xs).filter fun q => p q.2).map Prod.fst := by
      show (((vs.zip xs).take vs.length).filter _).map _ = _
      rw [List.take_of_length_le (by omega)]
    rw [e] at w2
    refine q _ H' (D :: F') (e1.trans w1) (.lst w2 (g1.grow w1) fun m => ?_) fun b m => ?_
    · obtain ⟨o, ho⟩ := hx.dom D (g2 D m)
      rw [hD] at ho
      cases ho
    · rcases List.mem_cons.mp m with rfl | m
      · exact e1.free hD
      · exact f1 b (List.mem_cons_of_mem _ (g2 b m))
/-- reads what stands, and nothing new -/
def Evs (K : Frg) (te : TE) (ρ : DE) (d : PyData) : Prop := ∀ (σ : L2.St) (H H3 : Hp) (Q : VK), RelE K ρ σ H → Same H H3 → (∀ v, Rp K H v d → Q v H3) → te σ H3 Q
theorem evs_var {i : Nat} {d : PyData} (h : ρ[i]? = some (some d)) : Evs K (tVar i) ρ d := fun σ H H3 Q R e q => by
  obtain ⟨v, hv, r⟩ := R.get i d h
  exact ⟨v, hv, q v r⟩
theorem evs_ixT {ta : TE} {ds : List PyData} {n : Int} {d : PyData} (ha : Evs K ta ρ (.tuple ds)) (h : atI ds n = some d) : Evs K (tOp (rIx K) ta (tC (.int n))) ρ d := fun σ H H3 Q R e q => ha σ H H3 _ R e fun v r => .inr (.inl (by
    obtain ⟨a, vs, rfl, h1, k1⟩ := r.tuple
    have hl := k1.length
    obtain ⟨j, e1, e2⟩ : ∃ j, ixN ds.length n = some j ∧ ds[j]? = some d := by
      unfold atI at h
      cases e : ixN ds.length n with
      | none => rw [e] at h; cases h
      | some j => rw [e] at h; exact ⟨j, rfl, h⟩
    obtain ⟨w, hw, rw'⟩ := k1.get (i := j) (d := d) e2
    refine ⟨a, vs, n, w, rfl, rfl, sqt (e _ _ h1), ?_, q w rw'⟩
    unfold atI
    rw [hl, e1]
    exact hw))
/-- [e for x in a list], e read from what stands -/
theorem ev_lcS {α : Type} {c g : α → PyData} {xs : List α} {j : Nat} (hl : Evr K tl ρ (.list (xs.map c))) (hz : xs.length ≤ 1000000) (he : ∀ x ∈ xs, Evs K te (ρ.set j (some (c x))) (g x)) :
    Evr K (tLc (iList K tl) (gName j) tYes te [j]) ρ (.list (xs.map g)) := fun σ H Q R q => hl σ H _ R fun v H1 e1 r1 => by
  obtain ⟨a, vs, rfl, h1, k1⟩ := r1.list
  have hlen := k1.length
  rw [List.length_map] at hlen
  refine ⟨a, rfl, ⟨vs, sql h1⟩, fun D hD => ?_⟩
  refine lc_list (xs := vs) (fun i H' => Same H1 H' ∧ ∃ acc, H' D = some (.lst acc) ∧ RpAll K H1 acc ((xs.take i).map g)) ⟨same_upd hD, [], upd_same, .nil⟩ (fun i H' _ w => sql (w.1 a _ h1)) (fun i x H' hi w => ?_) (fun H' w => ?_)
  · have hi2 : i < xs.length := by
      rw [← hlen]
      exact (List.getElem?_eq_some_iff.mp hi).1
    obtain ⟨d, hd, rd⟩ := k1.getV hi
    rw [List.getElem?_map, List.getElem?_eq_getElem hi2] at hd
    have hm : xs[i] ∈ xs := List.getElem_mem hi2
    have ed : c xs[i] = d := Option.some.inj hd
    subst ed
    obtain ⟨w1, acc, w2, w3⟩ := w
    refine ⟨wipe1 _ _ _, ?_⟩
    have R2 := (R.mono e1).comp rd j
    show te _ H' _
    refine he _ hm _ H1 H' _ R2 w1 fun y ry => ⟨acc, w2, ?_, same_mut w1 hD, acc ++ [y], upd_same, ?_⟩
    · rw [w3.length, List.length_map, List.length_take]
      exact sz_lt (by omega)
    · rw [take_succ_some (List.getElem?_eq_getElem hi2), List.map_append]
      exact w3.append (.cons ry .nil)
  · obtain ⟨w1, acc, w2, w3⟩ := w
    rw [hlen, List.take_length] at w3
    exact q _ H' (e1.trans w1) (.lst w2 (w3.mono w1))
end
section
variable {K : Frg} {W : WX} {Z H : Hp} {ρ : List Sl} {σ : L2.St} {ds : List PyData} {d : PyData} {i j : Nat}
theorem RelS.al (R : RelS K Z ρ σ H) {v : V} (hs : ρ[j]? = some .no) (hv : σ[j]? = some (some v)) (r : Rp K H v d) : RelS K Z (ρ.set j (.al d)) σ H := by
  obtain ⟨Fs, O⟩ := R.ex
  have hj : j < ρ.length := (List.getElem?_eq_some_iff.mp hs).1
  refine ⟨by rw [List.length_set]; exact R.len, R.ext, putF Fs j [], ?_⟩
  refine Own.put (ρ := ρ) (by rw [List.length_set]) hj (List.getElem?_set_self hj) ⟨rfl, v, hv, r⟩ (fun k s hk h => ?_) O.dis O.fr O.out (fun k hk a m => nomatch m) fun a m => nomatch m
  rw [List.getElem?_set_ne (Ne.symm hk)] at h
  exact O.ok k s h
/-- x.append(y), y read on -/
theorem does_appva (hs : ρ[i]? = some (.ow (.list ds))) (hj : ρ[j]? = some (.ow d)) (hij : i ≠ j) (hl : ds.length < 1000000) : Does K W (tDrop (tBM K "list" rAppend (tVar i) (tCons (tVar j) tNil))) ρ (.nx (((kill (ρ.set j .no)).set i (.ow (.list (ds ++ [d])))).set j (.al d))) := fun Z σ H D R q => by
  obtain ⟨Fs, O⟩ := R.ex
  obtain ⟨a, xs, F, hσ, ha, hx, hn, hF⟩ := O.lst hs
  obtain ⟨v, hv, w⟩ := O.ok j _ hj
  have hi : i < ρ.length := (List.getElem?_eq_some_iff.mp hs).1
  have hjl : j < ρ.length := (List.getElem?_eq_some_iff.mp hj).1
  have off : ∀ b ∈ Fs j, b ∉ a :: F := fun b m z => O.dis j i (Ne.symm hij) b m (by rw [hF]; exact z)
  refine ⟨.ref a, hσ, tyl ha, v, hv, a, xs, v, rfl, rfl, ha, by rw [hx.length]; exact sz_lt hl, q Z _ _ (Same.refl Z) (RelS.al ?_ (by rw [List.getElem?_set_ne hij, List.getElem?_map, List.getElem?_set_self hjl]; rfl) hv (w.keep fun b m => upd_ne fun z => off b m (z ▸ List.mem_cons_self)).rp)⟩
  have hk : (kill (ρ.set j .no)).length = ρ.length := by rw [List.length_map, List.length_set]
  refine ⟨by rw [List.length_set, hk]; exact R.len, fun b o ho => ?_, putF (putF Fs j []) i (a :: (F ++ (Fs j ++ []))), ?_⟩
  · rw [upd_ne fun z => ?_]
    · exact R.ext b o ho
    · have := O.fr i a (by rw [hF]; exact List.mem_cons_self)
      rw [← z, ho] at this
      cases this
  refine Own.put (ρ := ρ) (by rw [List.length_set, hk]) hi (List.getElem?_set_self (by rw [hk]; exact hi)) ⟨_, hσ, .lst upd_same (OwAll.append (hx.keep fun b m => upd_ne fun z => hn (z ▸ m)) (.cons (w.keep fun b m => upd_ne fun z => off b m (z ▸ List.mem_cons_self)) .nil fun _ _ m => nomatch m) fun b m z => ?_) fun m => ?_⟩ (fun l s hl h => ?_) ?_ ?_ ?_ (fun l hl b m z => ?_) fun b m => ?_
  · exact off b (by simpa using z) (List.mem_cons_of_mem _ m)
  · rcases List.mem_append.mp m with m | m
    · exact hn m
    · exact off a (by simpa using m) List.mem_cons_self
  · rw [List.getElem?_set_ne (Ne.symm hl), List.getElem?_map] at h
    by_cases hlj : l = j
    · subst hlj
      rw [List.getElem?_set_self hjl] at h
      cases h
      exact putF_same
    · rw [List.getElem?_set_ne (Ne.symm hlj)] at h
      rw [putF_ne hlj]
      cases e : ρ[l]? with
      | none => rw [e] at h; cases h
      | some u =>
        rw [e] at h
        have q : killS u = s := Option.some.inj h
        subst q
        refine (O.ok l u e).keep fun b m => upd_ne fun z => ?_
        exact O.dis l i hl b m (by rw [hF, z]; exact List.mem_cons_self)
  · intro k l hkl b m
    by_cases hk : k = j
    · subst hk
      rw [putF_same] at m
      cases m
    · rw [putF_ne hk] at m
      by_cases hl : l = j
      · subst hl
        rw [putF_same]
        exact fun z => nomatch z
      · rw [putF_ne hl]
        exact O.dis k l hkl b m
  · intro k b m
    by_cases hk : k = j
    · subst hk
      rw [putF_same] at m
      cases m
    · rw [putF_ne hk] at m
      exact O.fr k b m
  · intro k hk
    by_cases hkj : k = j
    · subst hkj
      exact putF_same
    · rw [putF_ne hkj]
      exact O.out k hk
  · by_cases hlj : l = j
    · subst hlj
      rw [putF_same] at z
      cases z
    · rw [putF_ne hlj] at z
      rcases List.mem_cons.mp m with rfl | m
      · exact O.dis i l (Ne.symm hl) b (by rw [hF]; exact List.mem_cons_self) z
      · rcases List.mem_append.mp m with m | m
        · exact O.dis i l (Ne.symm hl) b (by rw [hF]; exact List.mem_cons_of_mem _ m) z
        · exact O.dis j l (Ne.symm hlj) b (by simpa using m) z
  · rcases List.mem_cons.mp m with rfl | m
    · exact O.fr i b (by rw [hF]; exact List.mem_cons_self)
    · rcases List.mem_append.mp m with m | m
      · exact O.fr i b (by rw [hF]; exact List.mem_cons_of_mem _ m)
      · exact O.fr j b (by simpa using m)
end
end Pur

set_option Elab.async false
set_option linter.all false
set_option maxRecDepth 100000
set_option maxHeartbeats 4000000
namespace Pur
open PySem PySem.Spec PyProof.Rows L2
/-! ## pairs of a row and a number -/
abbrev dL (p : List Int × Int) : PyData := .tuple [dR p.1, .int p.2]
def app0 (n : Int) (p : List Int × Int) : List Int × Int := (p.1 ++ [n], p.2)
section
variable {K : Frg} {W : WX} {Z Z' H H' : Hp} {ρ : List Sl} {σ : L2.St} {ds es ts : List PyData} {d : PyData} {i j m : Nat}
/-- a list within a tuple within a list grows -/
theorem RelS.app_in2 (R : RelS K Z ρ σ H) (hs : ρ[i]? = some (.ow (.list ds))) (hm : ds[m]? = some (.tuple ts)) (h0 : ts[0]? = some (.list es)) {w : V} (hw : Rp K H w d) (hd : Scal d) :
    ∃ a vs t zs b ys, σ[i]? = some (some (.ref a)) ∧ H a = some (.lst vs) ∧ vs.length = ds.length ∧ vs[m]? = some (.ref t) ∧ H t = some (.tup zs) ∧ atI zs 0 = some (.ref b) ∧ H b = some (.lst ys) ∧ ys.length = es.length ∧ b ≠ a ∧
      RelS K Z ((kill ρ).set i (.ow (.list (ds.set m (.tuple (ts.set 0 (.list (es ++ [d])))))))) σ (upd H b (.lst (ys ++ [w]))) := by
  obtain ⟨Fs, O⟩ := R.ex
  obtain ⟨a, xs, F, hσ, ha, hx, hna, hF⟩ := O.lst hs
  obtain ⟨v, G, p1, p2, p3, p4⟩ := hx.at_ hm
  cases p2 with
  | @tup t zs _ G1 ht hz htn =>
  obtain ⟨v2, G2, r1, r2, r3, r4⟩ := hz.at_ h0
  cases r2 with
  | @lst b ys _ G3 hb hy hbn =>
    have hbG : b ∈ G1 := r3 b List.mem_cons_self
    have hbF : b ∈ F := p3 b (List.mem_cons_of_mem _ hbG)
    have hba : b ≠ a := fun z => hna (z ▸ hbF)
    have hbt : b ≠ t := fun z => htn (z ▸ hbG)
    have hu : ∀ c, c ≠ b → (upd H b (.lst (ys ++ [w]))) c = H c := fun c h => upd_ne h
    obtain ⟨G1', q1, q2⟩ := r4 (upd H b (.lst (ys ++ [w]))) (.list (es ++ [d])) (b :: (G3 ++ ([] ++ []))) (fun c m z => hu c fun e => z (by rw [e]; exact List.mem_cons_self)) (.lst upd_same (OwAll.append (hy.keep fun c m => upd_ne fun z => hbn (z ▸ m)) (.cons (hw.ow hd) .nil fun _ m => nomatch m) fun c m z => by simp at z) (fun m => hbn (by simpa using m))) fun c m => .inl (by simpa using m)
    have hG1 : ∀ c ∈ G1', c ∈ G1 := fun c m => by
      rcases q2 c m with m | m
      · exact m
      · exact r3 c (by simpa using m)
    obtain ⟨F', s1, s2⟩ := p4 (upd H b (.lst (ys ++ [w]))) (.tuple (ts.set 0 (.list (es ++ [d])))) (t :: G1') (fun c m z => hu c fun e => z (by rw [e]; exact List.mem_cons_of_mem _ hbG)) (.tup (by rw [hu t (Ne.symm hbt)]; exact ht) q1 fun m => htn (hG1 t m)) fun c m => .inl (by
      rcases List.mem_cons.mp m with rfl | m
      · exact List.mem_cons_self
      · exact List.mem_cons_of_mem _ (hG1 c m))
    refine ⟨a, xs, t, zs, b, ys, hσ, ha, hx.length, p1, ht, at_of (j := 0) rfl r1, hb, hy.length, hba, R.chg hs O (F' := a :: F') (fun c hc o ho => ?_) ⟨_, hσ, .lst (by rw [hu a (Ne.symm hba)]; exact ha) s1 fun m => ?_⟩ fun c m => ?_⟩
    · rw [hu c fun z => hc (by rw [hF, z]; exact List.mem_cons_of_mem _ hbF)]
      exact ho
    · rcases s2 a m with m | m
      · exact hna m
      · refine hna (p3 a ?_)
        rcases List.mem_cons.mp m with rfl | m
        · exact List.mem_cons_self
        · exact List.mem_cons_of_mem _ (hG1 a m)
    · rw [hF]
      rcases List.mem_cons.mp m with rfl | m
      · exact .inl List.mem_cons_self
      · rcases s2 c m with m | m
        · exact .inl (List.mem_cons_of_mem _ m)
        · refine .inl (List.mem_cons_of_mem _ (p3 c ?_))
          rcases List.mem_cons.mp m with rfl | m
          · exact List.mem_cons_self
          · exact List.mem_cons_of_mem _ (hG1 c m)
/-- for x in xs: x[0].append(n) -/
theorem does_forapp0 {rr : List (List Int × Int)} {n : Int} (hs : ρ[i]? = some (.ow (.list (rr.map dL)))) (hij : i ≠ j) (hjr : j < ρ.length) (hz : ∀ r ∈ rr, r.1.length < 1000000) :
    Does K W (tFor (iList K (tVar i)) (gName j) (tDrop (tBM K "list" rAppend (tOp (rIx K) (tVar j) (tC (.int 0))) (tCons (tC (.int n)) tNil)))) ρ (.nx (((kill ρ).set j .no).set i (.ow (.list ((rr.map (app0 n)).map dL))))) := fun Z σ H D R q => by
  obtain ⟨Fs, O⟩ := R.ex
  obtain ⟨a, vs, F, hσ, ha, hx, hna, hF⟩ := O.lst hs
  have hlen : vs.length = rr.length := by rw [hx.length, List.length_map]
  have hi : i < ρ.length := (List.getElem?_eq_some_iff.mp hs).1
  refine ⟨.ref a, hσ, a, rfl, ⟨vs, sql ha⟩, ?_⟩
  let cur : Nat → List PyData := fun m => ((rr.take m).map (app0 n) ++ rr.drop m).map dL
  let ρm : Nat → List Sl := fun m => ((kill ρ).set j .no).set i (.ow (.list (cur m)))
  have h0 : RelS K Z (ρm 0) σ H := by
    have e : ρm 0 = (kill ρ).set j .no := by
      show ((kill ρ).set j .no).set i (.ow (.list (cur 0))) = _
      have e1 : cur 0 = rr.map dL := by show ((rr.take 0).map (app0 n) ++ rr.drop 0).map dL = _; simp
      rw [e1]
      refine List.ext_getElem? fun k => ?_
      rw [List.getElem?_set]
      by_cases hk : i = k
      · subst hk
        rw [if_pos rfl, List.getElem?_set_ne (Ne.symm hij), List.getElem?_map, hs]
        simp [hi, killS]
      · rw [if_neg hk]
    rw [e]
    exact R.killed.no j
  have curS : ∀ m (hm : m < rr.length), cur (m + 1) = (cur m).set m (dL (app0 n rr[m])) := fun m hm => by
    show ((rr.take (m + 1)).map (app0 n) ++ rr.drop (m + 1)).map dL = (((rr.take m).map (app0 n) ++ rr.drop m).map dL).set m (dL (app0 n rr[m]))
    rw [← List.map_set, List.drop_eq_getElem_cons hm, List.set_append_right _ _ (by rw [List.length_map, List.length_take]; omega), List.length_map, List.length_take, Nat.min_eq_left (Nat.le_of_lt hm), Nat.sub_self, List.set_cons_zero, List.take_add_one, List.getElem?_eq_getElem hm]
    show ((rr.take m ++ [rr[m]]).map (app0 n) ++ rr.drop (m + 1)).map dL = _
    rw [List.map_append (l₁ := rr.take m), List.append_assoc]
    rfl
  have curG : ∀ m (hm : m < rr.length), (cur m)[m]? = some (dL rr[m]) := fun m hm => by
    show (((rr.take m).map (app0 n) ++ rr.drop m).map dL)[m]? = _
    rw [List.getElem?_map, List.getElem?_append_right (by rw [List.length_map, List.length_take]; omega), List.length_map, List.length_take, Nat.min_eq_left (Nat.le_of_lt hm), Nat.sub_self, List.getElem?_drop, Nat.add_zero, List.getElem?_eq_getElem hm]
    rfl
  have hkl : (kill ρ).length = ρ.length := List.length_map _
  have seq : ∀ m (c' : List PyData), (kill ((ρm m).set j .no)).set i (.ow (.list c')) = ((kill ρ).set j .no).set i (.ow (.list c')) := fun m c' => by
    refine List.ext_getElem? fun k => ?_
    by_cases hk : k = i
    · subst hk
      rw [List.getElem?_set_self (by simp [ρm, kill, hi]), List.getElem?_set_self (by simp [kill, hi])]
    · rw [List.getElem?_set_ne (Ne.symm hk), List.getElem?_set_ne (Ne.symm hk), kill, List.getElem?_map]
      by_cases hj : k = j
      · subst hj
        by_cases hjl : k < ρ.length
        · rw [List.getElem?_set_self (by simp [ρm, kill, hjl]), List.getElem?_set_self (by simp [kill, hjl])]
          rfl
        · rw [List.getElem?_eq_none (by simp [ρm, kill]; omega), List.getElem?_eq_none (by simp [kill]; omega)]
          rfl
      · rw [List.getElem?_set_ne (Ne.symm hj), List.getElem?_set_ne (Ne.symm hk), List.getElem?_set_ne (Ne.symm hj), kill, List.getElem?_map]
        cases ρ[k]? with
        | none => rfl
        | some s => cases s <;> rfl
  refine for_list (K := K) (a := a) (xs := vs) (fun m σ' H' => ∃ Z', Same Z Z' ∧ RelS K Z' (ρm m) σ' H' ∧ H' a = some (.lst vs) ∧ σ'[i]? = some (some (.ref a))) ⟨Z, Same.refl Z, h0, ha, hσ⟩ (fun m σ' H' _ p => by obtain ⟨_, _, _, h, _⟩ := p; exact sql h) (fun m x σ' H' hm p => ?_) fun σ' H' p => ?_
  · obtain ⟨Z', e, R', ha', hσ'⟩ := p
    have hml : m < rr.length := by rw [← hlen]; exact (List.getElem?_eq_some_iff.mp hm).1
    have R2 : RelS K Z' ((ρm m).set j .no) (σ'.set j (some x)) H' := R'.put (Same.refl H') (s' := .no) (F := []) rfl fun _ m => nomatch m
    have hs2 : ((ρm m).set j .no)[i]? = some (.ow (.list (cur m))) := by
      rw [List.getElem?_set_ne (Ne.symm hij)]
      exact List.getElem?_set_self (by simp [kill, hi])
    have hσ2 : (σ'.set j (some x))[i]? = some (some (.ref a)) := by rw [List.getElem?_set_ne (Ne.symm hij)]; exact hσ'
    obtain ⟨a1, vs1, t, zs, b, ys, q1, q2, q3, q4, q4b, q4c, q5, q6, q7, q8⟩ := R2.app_in2 hs2 (curG m hml) (es := rr[m].1.map .int) rfl (w := .int n) (.int n) True.intro
    rw [hσ2] at q1
    cases q1
    rw [ha'] at q2
    cases q2
    rw [hm] at q4
    cases q4
    have hjt : (σ'.set j (some (V.ref t)))[j]? = some (some (V.ref t)) := by
      refine List.getElem?_set_self ?_
      have h1 := R'.len
      simp only [ρm, List.length_set] at h1
      rw [hkl] at h1
      rw [← h1]
      exact hjr
    refine ⟨.ref t, hjt, .inr (.inl ⟨t, zs, 0, .ref b, rfl, rfl, sqt q4b, q4c, tyl q5, b, ys, .int n, rfl, rfl, q5, by rw [q6, List.length_map]; exact sz_lt (hz _ (List.getElem_mem hml)), Z', e, ?_, by rw [upd_ne (Ne.symm q7)]; exact ha', hσ2⟩)⟩
    rw [seq] at q8
    have ec : (cur m).set m (.tuple (([dR rr[m].1, .int rr[m].2] : List PyData).set 0 (.list (rr[m].1.map PyData.int ++ [.int n])))) = cur (m + 1) := by
      rw [curS m hml]
      show _ = (cur m).set m (.tuple [dR (rr[m].1 ++ [n]), .int rr[m].2])
      rw [show dR (rr[m].1 ++ [n]) = .list (rr[m].1.map PyData.int ++ [.int n]) by show PyData.list ((rr[m].1 ++ [n]).map .int) = _; rw [List.map_append]; rfl]
      rfl
    rw [ec] at q8
    exact q8
  · obtain ⟨Z', e, R', _, _⟩ := p
    refine q Z' σ' H' e ?_
    have ec : cur vs.length = (rr.map (app0 n)).map dL := by
      show ((rr.take vs.length).map (app0 n) ++ rr.drop vs.length).map dL = _
      rw [hlen, List.take_length, List.drop_length, List.append_nil]
    have R3 : RelS K Z' (((kill ρ).set j .no).set i (.ow (.list (cur vs.length)))) σ' H' := R'
    rw [ec] at R3
    exact R3
end
/-! ## index -/
theorem ev_index {K : Frg} {ρ : DE} {ta tb : TE} {r : List Int} {n : Int} {j : Nat} (ha : Evr K ta ρ (dR r)) (hb : Evr K tb ρ (.int n)) (h : r[j]? = some n) (hno : ∀ (m : Nat) (z : Int), m < j → r[m]? = some z → z ≠ n) : Evr K (tBM K "list" (rIndex K) ta (tCons tb tNil)) ρ (.int (j : Int)) := fun σ H Q R q => ha σ H _ R fun v H1 e1 r1 => by
  obtain ⟨a, rfl, h1⟩ := r1.row
  refine ⟨tyl h1, hb σ H1 _ (R.mono e1) fun y H2 e2 r2 => ?_⟩
  obtain rfl := r2.int_eq
  refine ⟨a, r.map V.int, .int n, j, .int n, rfl, rfl, sql (e2 _ _ h1), rfl, ?_, by rw [List.getElem?_map, h]; rfl, ?_, fun m z hm hz => ?_, q _ H2 (e1.trans e2) (.int _)⟩
  · rw [List.all_map]
    exact List.all_eq_true.mpr fun x _ => rfl
  · simp [eqV]
  · rw [List.getElem?_map] at hz
    cases e : r[m]? with
    | none => rw [e] at hz; cases hz
    | some x =>
      rw [e] at hz
      have q := Option.some.inj hz
      subst q
      have := hno m x hm e
      simp [eqV, this]
end Pur

set_option Elab.async false
set_option linter.all false
set_option maxRecDepth 100000
set_option maxHeartbeats 4000000
namespace Pur
open PySem PySem.Spec PyProof.Rows L2
/-! ## from the last on -/
theorem lc_rev {K : Frg} {a : Addr} {xs : List V} {g : TG} {tt : TT} {te : TE} {vs : List Nat} {σ : L2.St} {H1 : Hp} {D : Addr} {Qd : Hp → Prop} (Pv : Nat → Hp → Prop) (h0 : Pv 0 (upd H1 D (.lst []))) (hl : ∀ i H, i ≤ xs.length → Pv i H → SqL K H a xs)
    (hs : ∀ i x H, i < xs.length → xs[xs.length - 1 - i]? = some x → Pv i H → g x (wipe σ vs) H fun σ2 H2 => wipe σ2 vs = wipe σ vs ∧ tt σ2 H2 fun b H3 =>
      if b = true then te σ2 H3 fun y H4 => ∃ acc, H4 D = some (.lst acc) ∧ acc.length < sizeLine ∧ Pv (i + 1) (upd H4 D (.lst (acc ++ [y]))) else Pv (i + 1) H3) (hd : ∀ H, Pv xs.length H → Qd H) :
    ∃ W : Nat → Nat → Hp → Prop, (∃ m, W 0 m (upd H1 D (.lst []))) ∧ ∀ i m H, W i m H →
      ((Itv K a xs.length).stop i H ∧ Qd H) ∨ ((Itv K a xs.length).go i H ∧ ∃ Nx : Hp → Prop, (∀ H', Nx H' → ∃ m', m' < m ∧ W (i + 1) m' H') ∧ ∀ x H', (Itv K a xs.length).yld i H x H' → g x (wipe σ vs) H' fun σ2 H2 => wipe σ2 vs = wipe σ vs ∧ tt σ2 H2 fun b H3 =>
        if b = true then te σ2 H3 fun y H4 => ∃ acc, H4 D = some (.lst acc) ∧ acc.length < sizeLine ∧ Nx (upd H4 D (.lst (acc ++ [y]))) else Nx H3) := by
  refine ⟨fun i m H => m = xs.length - i ∧ i ≤ xs.length ∧ Pv i H, ⟨xs.length, by simp, Nat.zero_le _, h0⟩, ?_⟩
  rintro i m H ⟨rfl, hi, p⟩
  have q := hl i H hi p
  by_cases hlt : i < xs.length
  · refine .inr ⟨⟨hlt, xs, xs[xs.length - 1 - i], q, List.getElem?_eq_getElem _⟩, Pv (i + 1), fun H' p' => ⟨xs.length - (i + 1), by omega, rfl, hlt, p'⟩, fun x H' y => ?_⟩
    obtain ⟨e, y⟩ := y
    subst e
    exact hs i x _ hlt (y xs q) p
  · have e : i = xs.length := by omega
    subst e
    exact .inl ⟨Nat.le_refl _, hd H p⟩
section
variable {K : Frg} {ρ : DE} {te : TE} {ta : TA}
theorem evf_lcRev {α : Type} {c : α → PyData} {xs : List α} {j : Nat} (g : α → PyData) (hl : Eva K ta ρ [.list (xs.map c)]) (hz : xs.length ≤ 1000000) (he : ∀ x ∈ xs, Evf K te (ρ.set j (some (c x))) (g x)) :
    Evf K (tLc (iRev K ta) (gName j) tYes te [j]) ρ (.list (xs.reverse.map g)) := fun σ H Q R q => hl σ H _ R fun us H1 e1 r0 => by
  obtain ⟨v, rfl, r1⟩ := r0.one
  obtain ⟨a, vs, rfl, h1, k1⟩ := r1.list
  have hlen := k1.length
  rw [List.length_map] at hlen
  refine ⟨a, vs, rfl, sql h1, fun D hD => ?_⟩
  refine lc_rev (xs := vs) (fun i H' => Cw H1 D ((xs.reverse.take i).map g) H') (Cw.start hD) (fun i H' _ w => sql (w.2.1 a _ h1)) (fun i x H' hi hx w => ?_) (fun H' w => ?_)
  · have hi2 : i < xs.length := by omega
    obtain ⟨d, hd, rd⟩ := k1.getV hx
    rw [hlen, List.getElem?_map, List.getElem?_eq_getElem (show xs.length - 1 - i < xs.length by omega)] at hd
    have hm : xs[xs.length - 1 - i] ∈ xs := List.getElem_mem (show xs.length - 1 - i < xs.length by omega)
    have ed : c xs[xs.length - 1 - i] = d := Option.some.inj hd
    subst ed
    have hget : xs.reverse[i]? = some xs[xs.length - 1 - i] := by
      rw [List.getElem?_eq_getElem (by rw [List.length_reverse]; exact hi2), List.getElem_reverse]
    refine ⟨wipe1 _ _ _, ?_⟩
    refine w.turn (d := g xs[xs.length - 1 - i]) ((R.mono e1).comp rd j) ?_ et_yes (fun _ => he _ hm) fun H2 w2 => ?_
    · rw [List.length_map, List.length_take, List.length_reverse]
      omega
    · rw [take_succ_some hget, List.map_append]
      exact w2
  · rw [hlen, List.take_of_length_le (by rw [List.length_reverse]; exact Nat.le_refl _)] at w
    exact w.done fun v H2 F e o f => q v H2 F (e1.trans e) o fun a m => e1.free (f a m)
end
end Pur

set_option Elab.async false
set_option linter.all false
set_option maxRecDepth 100000
set_option maxHeartbeats 4000000
namespace Pur
open PySem PySem.Spec PyProof.Rows L2
/-! ## int(..), count, texts -/
def rInt1 : List V → Hp → VK → Prop := fun xs H Q => (∃ i, xs = [.int i] ∧ Q (.int i) H) ∨ ∃ k, xs = [.bl k] ∧ Q (.int (if k then 1 else 0)) H
def rIntS : List V → Hp → VK → Prop := fun xs H Q => ∃ a n, xs = [.str a] ∧ PySem.intText? a = some n ∧ a.length ≤ 640 ∧ Q (.int n) H
def rStrI : List V → Hp → VK → Prop := fun xs H Q => ∃ i : Int, xs = [.int i] ∧ i.natAbs.log2 < 1920 ∧ Q (.str (toString i)) H
def rJoinL (K : Frg) : V → List V → Hp → VK → Prop := fun x xs H Q => ∃ a p, ∃ ys : List Str, x = .str a ∧ xs = [.ref p] ∧ (SqL K H p (ys.map V.str) ∨ SqT K H p (ys.map V.str)) ∧ (ys.map (·.length)).sum + ys.length * a.length ≤ 16777216 ∧ Q (.str (Txt.join a ys)) H
def rSplitS : V → List V → Hp → VK → Prop := fun x xs H Q => ∃ a b, x = .str a ∧ xs = [.str b] ∧ (b.length == 0) = false ∧ a.length + 2 ≤ sizeLine ∧ rNewStrs (Txt.split a b) H Q
def strI (i : Int) : Str := toString i
theorem cr_int1 {X : Cx} : CallR X (.type "int") rInt1 := call_int1
theorem cr_intS {X : Cx} : CallR X (.type "int") rIntS := call_int_str
theorem cr_strI {X : Cx} : CallR X (.type "str") rStrI := call_str_int
section
variable {K : Frg} {ρ : DE} {ta tb : TE}
theorem ev_intB {b : Bool} (ha : Evr K ta ρ (.bool b)) : Evr K (tCB rInt1 (tCons ta tNil)) ρ (.int (if b then 1 else 0)) := ev_cb (eva_cons ha eva_nil) fun H vs Q h q => by
  obtain ⟨v, rfl, hv⟩ := h.one
  obtain rfl := hv.bl_eq
  exact .inr ⟨b, rfl, q _ H (Same.refl H) (.int _)⟩
theorem ev_intS {a : Str} {n : Int} (ha : Evr K ta ρ (.str a)) (hn : PySem.intText? a = some n) (hl : a.length ≤ 640) : Evr K (tCB rIntS (tCons ta tNil)) ρ (.int n) := ev_cb (eva_cons ha eva_nil) fun H vs Q h q => by
  obtain ⟨v, rfl, hv⟩ := h.one
  obtain rfl := hv.str_eq
  exact ⟨a, n, rfl, hn, hl, q _ H (Same.refl H) (.int _)⟩
theorem ev_strI {i : Int} (ha : Evr K ta ρ (.int i)) (hi : i.natAbs.log2 < 1920) : Evr K (tCB rStrI (tCons ta tNil)) ρ (.str (strI i)) := ev_cb (eva_cons ha eva_nil) fun H vs Q h q => by
  obtain ⟨v, rfl, hv⟩ := h.one
  obtain rfl := hv.int_eq
  exact ⟨i, rfl, hi, q _ H (Same.refl H) (.str _)⟩
theorem ev_count {r : List Int} {n : Int} (ha : Evr K ta ρ (dR r)) (hb : Evr K tb ρ (.int n)) : Evr K (tBM K "list" (rCntI K) ta (tCons tb tNil)) ρ (.int ((r.count n : Nat) : Int)) := fun σ H Q R q => ha σ H _ R fun v H1 e1 r1 => by
  obtain ⟨a, rfl, h1⟩ := r1.row
  refine ⟨tyl h1, hb σ H1 _ (R.mono e1) fun y H2 e2 r2 => ?_⟩
  obtain rfl := r2.int_eq
  exact ⟨a, r, n, rfl, rfl, sql (e2 _ _ h1), q _ H2 (e1.trans e2) (.int _)⟩
theorem ev_joinS {a : Str} {ys : List Str} (ha : Evr K ta ρ (.str a)) (hb : Evr K tb ρ (dS ys)) (hl : (ys.map (·.length)).sum + ys.length * a.length ≤ 1000000) : Evr K (tM1 (rJoinL K) ta tb) ρ (.str (Txt.join a ys)) := fun σ H Q R q => ha σ H _ R fun v H1 e1 r1 => by
  obtain rfl := r1.str_eq
  refine ⟨⟨a, rfl⟩, hb σ H1 _ (R.mono e1) fun y H2 e2 r2 => ?_⟩
  obtain ⟨p, xs, rfl, h1, k1⟩ := r2.list
  rw [k1.strs] at h1
  exact ⟨a, p, ys, rfl, rfl, .inl (sql h1), Nat.le_trans hl (by decide), q _ H2 (e1.trans e2) (.str _)⟩
theorem evf_splitS {a b : Str} (ha : Evr K ta ρ (.str a)) (hb : Evr K tb ρ (.str b)) (h0 : (b.length == 0) = false) (hl : a.length ≤ 900000) : Evf K (tM1 rSplitS ta tb) ρ (dS (Txt.split a b)) := fun σ H Q R q => ha σ H _ R fun v H1 e1 r1 => by
  obtain rfl := r1.str_eq
  refine ⟨⟨a, rfl⟩, hb σ H1 _ (R.mono e1) fun y H2 e2 r2 => ?_⟩
  obtain rfl := r2.str_eq
  refine ⟨a, b, rfl, rfl, h0, sz_le (by omega), fun p hp => q (.ref p) _ [p] ((e1.trans e2).trans (same_upd hp)) (.lst upd_same (OwAll.of_strs _) fun m => nomatch m) fun c m => ?_⟩
  rw [List.mem_singleton.mp m]
  exact (e1.trans e2).free hp
end
end Pur

set_option Elab.async false
set_option linter.all false
set_option maxRecDepth 100000
set_option maxHeartbeats 4000000
namespace Pur
open PySem PySem.Spec PyProof.Rows L2
/-! ## a table whose keys are tuples -/
/-- {k: v}, k a tuple -/
def tDispT (tk tv : TE) : TE := fun σ H Q => ∀ p, H p = none → tk σ (upd H p (.dT [])) fun x H1 => tv σ H1 fun y H2 => H2 p = some (.dT []) ∧ ∃ (b : Addr) (ks : List Key), x = .ref b ∧ H2 b = some (.tup (ks.map kV)) ∧ Q (.ref p) (upd H2 p (.dT [(ks, y)]))
def one2 (P : V → V → Hp → Prop) : List (V × V) → Hp → Prop
  | [(x, y)], H => P x y H
  | _, _ => False
theorem pe_dispT {X : Cx} {pos : Pos} {k v : Expr} {tk tv : TE} (hu : X.A.units < cLine) (hk : PE X k tk) (hv : PE X v tv) : PE X (.Dict [some k] [v] pos) (tDispT tk tv) := by
  refine ⟨fun pins s σ H Q I q => ?_⟩
  have hn := HOk.fresh I.hok (Nat.le_refl s.heap.objs.size)
  have I1 : L2.Inv X pins σ (upd H s.heap.objs.size (.dT [])) { s with heap := s.heap.push { cls := Value.type "dict", data := Data.dict #[] } } := Inv.laid I (fun x x_1 q => Heap.get?_push_of_some { cls := Value.type "dict", data := Data.dict #[] } q) (Nat.le_refl s.heap.objs.size) (dt_empty s.heap (Inv.big I))
  have hp : PPs X pos [some k] [v] [(tk, tv)] := pps_cons hk hv pps_nil
  have run := hp.run pins _ σ _ (one2 fun x y H2 => H2 s.heap.objs.size = some (.dT []) ∧ ∃ (b : Addr) (ks : List Key), x = .ref b ∧ H2 b = some (.tup (ks.map kV)) ∧ Q (.ref s.heap.objs.size) (upd H2 s.heap.objs.size (.dT [(ks, y)]))) I1 (q s.heap.objs.size hn)
  have hlen : (pairTrees [some k] [v] X.env pos).length = 1 := by rw [pairTrees_length] <;> rfl
  have hne : pairTrees [some k] [v] X.env pos ≠ [] := fun z => by rw [z] at hlen; cases hlen
  rw [arm_eval_Dict, zip_pairTrees _ _ _ _ rfl rfl, dictDisplay_pairs _ hne (by omega)]
  refine wpAny_bind (wpAny_standAt (wpAny_bind (wpAny_subDictH (knd := tupleKind (mixKind X.prog X.w)) hu (by omega) (wpAny_mono run (fun vs s2 h => ?_) fun _ _ e => e))))
  obtain ⟨ps, H2, I2, rel, z⟩ := h
  cases ps with
  | nil => exact z.elim
  | cons p ps =>
    cases ps with
    | cons _ _ => exact z.elim
    | nil =>
      obtain ⟨x, y⟩ := p
      obtain ⟨e, b, ks, rfl, hb, q2⟩ := z
      cases rel with
      | cons r rest =>
        cases rest
        rename_i w
        obtain ⟨kx, vy⟩ := w
        obtain ⟨r1, r2⟩ := r
        have r1' : kx = .ref b := r1
        subst r1'
        obtain ⟨l1, l2, xs, kt, dd⟩ := dt_of I2.hok e
        cases kt
        have ky := key_of I2.hok hb
        refine ⟨[(ks, b, vy)], ⟨rfl, rfl, ky, trivial⟩, dd, fun h' tk dd' hs => wpAny_pure ?_⟩
        have hbp : b ≠ s.heap.objs.size := fun z => by rw [z, e] at hb; cases hb
        obtain ⟨o, es, ep, g1, g2, g3, g4, g5, g6⟩ := dd'
        refine ⟨.ref s.heap.objs.size, upd H2 s.heap.objs.size (.dT [(ks, y)]), d_write I2 (by rw [e]; trivial) hs ⟨o, g1⟩ ?_, rfl, q2⟩
        refine ⟨?_, l2, _, .cons ⟨rfl, (upd_ne hbp).trans hb, r2⟩ .nil, o, es, ep, g1, g2, g3, g4, g6⟩
        rw [sizeLine_eq, List.length_singleton]
        decide
theorem un0 {n c : Nat} (h : n + 64 < c) : n < c := by omega
theorem un1 {n c : Nat} (h : n + 64 < c) : n + 1 < c := by omega
/-! ### tuple(a list) -/
def rTupA (K : Frg) : List V → Hp → VK → Prop := fun xs H Q => ∃ p ys, xs = [.ref p] ∧ ((SqL K H p ys ∧ ∀ l, H l = none → Q (.ref l) (upd H l (.tup ys))) ∨ SqT K H p ys ∧ Q (.ref p) H)
theorem cr_tuple {X : Cx} : CallR X (.type "tuple") (rTupA X.K) := call_tuple_of
theorem evf_tuple {K : Frg} {ta : TE} {ρ : DE} {r : List Int} (ha : Evr K ta ρ (dR r)) : Evf K (tCB (rTupA K) (tCons ta tNil)) ρ (.tuple (r.map .int)) := evf_cb (eva_cons ha eva_nil) fun H vs Q h q => by
  obtain ⟨v, rfl, hv⟩ := h.one
  obtain ⟨a, rfl, h1⟩ := hv.row
  refine ⟨a, _, rfl, .inl ⟨sql h1, fun l hl => q _ _ [l] (same_upd hl) (.tup upd_same (OwAll.of_ints r) fun m => nomatch m) fun c m => ?_⟩⟩
  rw [List.mem_singleton.mp m]; exact hl
/-! ### what stands beside the table -/
def butT (H : Hp) (t : Addr) : Hp := fun b => if b = t then none else H b
theorem butT_ne {H : Hp} {t b : Addr} (h : b ≠ t) : butT H t b = H b := if_neg h
theorem butT_same (H : Hp) (t : Addr) : Same (butT H t) H := fun b o e => by
  unfold butT at e
  by_cases h : b = t
  · rw [if_pos h] at e; cases e
  · rw [if_neg h] at e; exact e
section
variable {K : Frg} {H : Hp} {t : Addr} {kvs : List (List Key × V)}
mutual
theorem Rp.butT (ht : H t = some (.dT kvs)) : ∀ {d : PyData} {v : V}, Rp K H v d → Rp K (butT H t) v d
  | .none, _, h => by cases h; exact .non
  | .bool _, _, h => by cases h; exact .bl _
  | .int _, _, h => by cases h; exact .int _
  | .str _, _, h => by cases h; exact .str _
  | .list _, _, h => by
    cases h with
    | lst ha hs => exact .lst ((butT_ne fun z => by rw [z, ht] at ha; cases ha).trans ha) (RpAll.butT ht hs)
  | .tuple _, _, h => by
    cases h with
    | tup ha hs => exact .tup ((butT_ne fun z => by rw [z, ht] at ha; cases ha).trans ha) (RpAll.butT ht hs)
  | .dict _, _, h => by
    cases h with
    | @scr a ns hs =>
      refine .scr ?_
      rcases hs with (hs | ⟨o, hs⟩) | hs
      · exact .inl (.inl ((butT_ne fun z => by rw [z, ht] at hs; cases hs).trans hs))
      · exact .inl (.inr ⟨o, (butT_ne fun z => by rw [z, ht] at hs; cases hs).trans hs⟩)
      · exact .inr hs
    | adr a => exact .adr a
theorem RpAll.butT (ht : H t = some (.dT kvs)) : ∀ {ds : List PyData} {vs : List V}, RpAll K H vs ds → RpAll K (butT H t) vs ds
  | [], _, h => by cases h; exact .nil
  | _ :: _, _, h => by cases h with | cons h1 h2 => exact .cons (Rp.butT ht h1) (RpAll.butT ht h2)
end
mutual
theorem Ow.off (ht : H t = some (.dT kvs)) : ∀ {d : PyData} {v : V} {F : List Addr}, Ow H v d F → t ∉ F
  | .none, _, _, h => by cases h; exact fun m => nomatch m
  | .bool _, _, _, h => by cases h; exact fun m => nomatch m
  | .int _, _, _, h => by cases h; exact fun m => nomatch m
  | .str _, _, _, h => by cases h; exact fun m => nomatch m
  | .list _, _, _, h => by
    cases h with
    | lst ha hs hn =>
      intro m
      rcases List.mem_cons.mp m with rfl | m
      · rw [ht] at ha; cases ha
      · exact OwAll.off ht hs m
  | .tuple _, _, _, h => by
    cases h with
    | tup ha hs hn =>
      intro m
      rcases List.mem_cons.mp m with rfl | m
      · rw [ht] at ha; cases ha
      · exact OwAll.off ht hs m
  | .dict _, _, _, h => by cases h
theorem OwAll.off (ht : H t = some (.dT kvs)) : ∀ {ds : List PyData} {vs : List V} {F : List Addr}, OwAll H vs ds F → t ∉ F
  | [], _, _, h => by cases h; exact fun m => nomatch m
  | _ :: _, _, _, h => by
    cases h with
    | cons h1 h2 hd =>
      intro m
      rcases List.mem_append.mp m with m | m
      · exact Ow.off ht h1 m
      · exact OwAll.off ht h2 m
end
theorem SlOk.off {Z : Hp} {s : Sl} {x : Option (Option V)} {F : List Addr} (ht : H t = some (.dT kvs)) (h : SlOk K Z H s x F) : t ∉ F := by
  cases s with
  | no =>
    obtain rfl := h
    exact fun m => nomatch m
  | fr d =>
    obtain ⟨rfl, _⟩ := h
    exact fun m => nomatch m
  | al d =>
    obtain ⟨rfl, _⟩ := h
    exact fun m => nomatch m
  | o1 d =>
    obtain ⟨a, xs, ds, rfl, rfl, h1, h2, rfl⟩ := h
    intro m
    rw [List.mem_singleton.mp m, h1] at ht
    cases ht
  | ow d =>
    obtain ⟨v, rfl, h1⟩ := h
    exact h1.off ht
  | «at» a r =>
    obtain ⟨rfl, h1, rfl⟩ := h
    intro m
    rw [List.mem_singleton.mp m, h1] at ht
    cases ht
theorem Own.off {Z : Hp} {ρ : List Sl} {σ : L2.St} {Fs : Nat → List Addr} (ht : H t = some (.dT kvs)) (O : Own K Z H ρ σ Fs) (i : Nat) : t ∉ Fs i := by
  by_cases hi : i < ρ.length
  · exact (O.ok i ρ[i] (List.getElem?_eq_getElem hi)).off ht
  · rw [O.out i (by omega)]
    exact fun m => nomatch m
/-- a table at t, of which G holds, beside the rest -/
structure RelT (K : Frg) (t : Addr) (G : List (List Key × V) → Prop) (Z : Hp) (ρ : List Sl) (σ : L2.St) (H : Hp) : Prop where
  rel : RelS K Z ρ σ H
  off : Z t = none
  tab : ∃ kvs, H t = some (.dT kvs) ∧ G kvs
variable {W : WX} {G G' : List (List Key × V) → Prop} {Z : Hp} {ρ ρ1 ρ2 : List Sl} {σ : L2.St} {tt u : TS}
theorem RelT.grow {H' : Hp} (R : RelT K t G Z ρ σ H) (e : Same H H') : RelT K t G Z ρ σ H' := by
  obtain ⟨kvs, h, g⟩ := R.tab
  exact ⟨R.rel.grow e, R.off, kvs, e _ _ h, g⟩
/-- the table changed, all else stays -/
theorem RelS.tab {H' : Hp} (R : RelS K Z ρ σ H) (hz : Z t = none) (ht : H t = some (.dT kvs)) (k : ∀ b, b ≠ t → ∀ o, H b = some o → H' b = some o) : RelS K Z (kill ρ) σ H' := by
  obtain ⟨Fs, O⟩ := R.ex
  refine ⟨by rw [List.length_map]; exact R.len, fun a o q => k a (fun z => by rw [z, hz] at q; cases q) o (R.ext a o q), Fs, fun i s h => ?_, O.dis, O.fr, fun i hi => O.out i (by rw [List.length_map] at hi; exact hi)⟩
  rw [List.getElem?_map] at h
  cases e : ρ[i]? with
  | none => rw [e] at h; cases h
  | some s0 =>
    rw [e] at h
    have q : killS s0 = s := Option.some.inj h
    subst q
    refine (O.ok i s0 e).keep fun a m => ?_
    obtain ⟨o, ho⟩ := (O.ok i s0 e).dom a m
    rw [ho]
    exact k a (fun z => O.off ht i (z ▸ m)) o ho
def DoesT (K : Frg) (t : Addr) (G : List (List Key × V) → Prop) (tt : TS) (ρ : List Sl) (G' : List (List Key × V) → Prop) (ρ' : List Sl) : Prop :=
  ∀ Z σ H D, RelT K t G Z ρ σ H → (∀ Z' σ' H', Same Z Z' → RelT K t G' Z' ρ' σ' H' → D.nx σ' H') → tt D σ H
theorem doesT_seq {G2 : List (List Key × V) → Prop} (h : DoesT K t G tt ρ G' ρ1) (h2 : DoesT K t G' u ρ1 G2 ρ2) : DoesT K t G (tSeq tt u) ρ G2 ρ2 := fun Z σ H D R q =>
  h Z σ H { D with nx := u D } R fun Z2 σ2 H2 e2 R2 => h2 Z2 σ2 H2 D R2 fun Z3 σ3 H3 e3 R3 => q Z3 σ3 H3 (e2.trans e3) R3
/-- a statement that does nothing with the table -/
theorem doesT_of (h : Does K W tt ρ (.nx ρ1)) : DoesT K t G tt ρ G ρ1 := fun Z σ H D R q => by
  obtain ⟨R0, hz, kvs, ht, g⟩ := R
  obtain ⟨Fs, O⟩ := R0.ex
  have hZ1 : Same Z (fun b => if b = t then H t else Z b) := fun a o e => by
    show (if a = t then H t else Z a) = some o
    rw [if_neg fun z => by rw [z, hz] at e; cases e]
    exact e
  have hZ1t : (fun b => if b = t then H t else Z b) t = some (.dT kvs) := by
    show (if t = t then H t else Z t) = _
    rw [if_pos rfl]
    exact ht
  have R1 : RelS K (fun b => if b = t then H t else Z b) ρ σ H := ⟨R0.len, fun a o e => by
    have e' : (if a = t then H t else Z a) = some o := e
    by_cases z : a = t
    · rw [if_pos z] at e'
      rw [z]
      exact e'
    · rw [if_neg z] at e'
      exact R0.ext a o e', Fs, fun i s hs => (O.ok i s hs).more hZ1, O.dis, fun i a m => by
        show (if a = t then H t else Z a) = none
        rw [if_neg fun (z : a = t) => O.off ht i (z ▸ m)]
        exact O.fr i a m, O.out⟩
  refine h _ σ H D R1 fun Z' σ' H' e R' => ?_
  have hz' : Z' t = some (.dT kvs) := e _ _ hZ1t
  have ht' : H' t = some (.dT kvs) := R'.ext _ _ hz'
  obtain ⟨Fs', O'⟩ := R'.ex
  refine q (butT Z' t) σ' H' (fun a o ha => ?_) ⟨⟨R'.len, (butT_same Z' t).trans R'.ext, Fs', fun i s hs => ?_, O'.dis, fun i a m => ?_, O'.out⟩, if_pos rfl, kvs, ht', g⟩
  · rw [butT_ne fun z => by rw [z, hz] at ha; cases ha]
    exact e a o (hZ1 a o ha)
  · have k := O'.ok i s hs
    cases s with
    | no => exact k
    | fr d =>
      obtain ⟨k0, v, k1, k2⟩ := k
      exact ⟨k0, v, k1, k2.butT hz'⟩
    | al d => exact k
    | o1 d =>
      obtain ⟨a, xs, ds, k0, k1, k2, k3, k4⟩ := k
      exact ⟨a, xs, ds, k0, k1, k2, k3.butT hz', k4⟩
    | ow d => exact k
    | «at» a r => exact k
  · unfold butT
    split
    · rfl
    · exact O'.fr i a m
theorem doesT_no (i : Nat) (h : DoesT K t G tt ρ G' ρ1) : DoesT K t G tt ρ G' (ρ1.set i .no) := fun Z σ H D R q => h Z σ H D R fun Z2 σ2 H2 e2 R2 => q Z2 σ2 H2 e2 ⟨R2.rel.no i, R2.off, R2.tab⟩
theorem doesT_next : DoesT K t G tNext ρ G ρ := fun Z σ H D R q => q Z σ H (Same.refl Z) R
/-- a test that reads no table -/
theorem doesT_if {tc : TT} {b : Bool} (hc : Evt K tc (er ρ) b) (h1 : b = true → DoesT K t G tt ρ G' ρ1) (h2 : b = false → DoesT K t G u ρ G' ρ1) : DoesT K t G (tIfS tc tt u) ρ G' ρ1 := fun Z σ H D R q => hc σ H _ R.rel.relE fun H1 e1 => by
  cases b with
  | true =>
    show tt D σ H1
    exact h1 rfl Z σ H1 D (R.grow e1) q
  | false =>
    show u D σ H1
    exact h2 rfl Z σ H1 D (R.grow e1) q
/-- for _ in range(n) -/
theorem doesT_forR {n : Int} {ta : TA} {tb : TS} {j : Nat} (hn : Eva K ta (er ρ) [.int n]) (hz : n ≤ 1000000) (hz0 : -1000000 ≤ n) (S : Nat → List Sl) (h0 : ρ.set j .no = S 0)
    (hs : ∀ i : Nat, (i : Int) < n → ∃ ρ', DoesT K t G tb ((S i).set j (.fr (.int (i : Int)))) G ρ' ∧ ρ'.set j .no = S (i + 1)) : DoesT K t G (tFor (iRng1 ta) (gName j) tb) ρ G (S n.toNat) := fun Z σ H D R q => hn σ H _ R.rel.relE fun vs H1 e1 r1 => by
  obtain ⟨v, rfl, hv⟩ := r1.one
  obtain rfl := hv.int_eq
  have R1 := R.grow e1
  refine ⟨n, rfl, by omega, by omega, ?_⟩
  refine for_range (lo := 0) (n := n.toNat) (fun i σ H => ∃ Z', Same Z Z' ∧ RelT K t G Z' (S i) σ H) ⟨Z, Same.refl Z, h0 ▸ (RelT.mk (R1.rel.no j) R1.off R1.tab)⟩ (fun i σ H hi ⟨Z', e, R'⟩ => ?_) fun σ H ⟨Z', e, R'⟩ => q Z' σ H e R'
  obtain ⟨ρ', h1, h2⟩ := hs i (by omega)
  have e0 : (0 : Int) + (i : Int) = (i : Int) := Int.zero_add _
  rw [e0]
  exact h1 Z' _ H _ ⟨R'.rel.put (Same.refl H) (s' := .fr (.int (i : Int))) (F := []) ⟨rfl, _, rfl, .int _⟩ (fun _ m => nomatch m), R'.off, R'.tab⟩ fun Z2 σ2 H2 e2 R2 => ⟨Z2, e.trans e2, h2 ▸ (RelT.mk (R2.rel.no j) R2.off R2.tab)⟩
def keyR (r : List Int) : List Key := r.map Sum.inl
theorem keyR_kV (r : List Int) : (keyR r).map kV = r.map V.int := by
  unfold keyR
  rw [List.map_map]
  rfl
theorem keyR_inj : ∀ {r s : List Int}, keyR r = keyR s → r = s
  | [], [], _ => rfl
  | [], _ :: _, h => by cases h
  | _ :: _, [], h => by cases h
  | x :: r, y :: s, h => by
    have h' : (Sum.inl x : Key) :: keyR r = Sum.inl y :: keyR s := h
    injection h' with h1 h2
    injection h1 with h1
    rw [h1, keyR_inj h2]
theorem RelS.adr (R : RelS K Z ρ σ H) {i : Nat} {a : Addr} (h : ρ[i]? = some (.fr (dAdr a))) : σ[i]? = some (some (.ref a)) := by
  obtain ⟨Fs, O⟩ := R.ex
  obtain ⟨_, v, h1, h2⟩ := O.ok i _ h
  rw [h2.adr_eq] at h1
  exact h1
theorem RelS.key (R : RelS K Z ρ σ H) {i : Nat} {r : List Int} (h : ρ[i]? = some (.fr (.tuple (r.map .int)))) : ∃ b, σ[i]? = some (some (.ref b)) ∧ H b = some (.tup ((keyR r).map kV)) := by
  obtain ⟨Fs, O⟩ := R.ex
  obtain ⟨_, v, h1, h2⟩ := O.ok i _ h
  obtain ⟨a, xs, rfl, h3, h4⟩ := (h2.mono R.ext).tuple
  rw [RpAll.ints h4, ← keyR_kV] at h3
  exact ⟨a, h1, h3⟩
theorem RelS.intv (R : RelS K Z ρ σ H) {i : Nat} {m : Int} (h : ρ[i]? = some (.fr (.int m))) : σ[i]? = some (some (.int m)) := by
  obtain ⟨Fs, O⟩ := R.ex
  obtain ⟨_, v, h1, h2⟩ := O.ok i _ h
  rw [h2.int_eq] at h1
  exact h1
/-- x = e, e new, it stays -/
theorem does_asgfr {te : TE} {i : Nat} {d : PyData} (h : Evf K te (er ρ) d) (hi : i < ρ.length) : Does K W (tAsg te (gName i)) ρ (.nx (ρ.set i (.fr d))) := fun Z σ H D R q => does_asg (W := W) h Z σ H D R fun Z2 σ2 H2 e2 R2 => by
  obtain ⟨Z3, e3, R3⟩ := R2.frz (i := i) (d := d) (List.getElem?_set_self hi)
  rw [List.set_set] at R3
  exact q Z3 σ2 H2 (e2.trans e3) R3
/-- if key not in table -/
theorem doesT_ifni {i k : Nat} {r : List Int} (hi : ρ[i]? = some (.fr (dAdr t))) (hk : ρ[k]? = some (.fr (.tuple (r.map .int)))) (h1 : (∃ kvs, G kvs ∧ (valV kvs (keyR r)).isSome = false) → DoesT K t G tt ρ G' ρ1) (h2 : DoesT K t (fun kvs => G kvs ∧ (valV kvs (keyR r)).isSome = true) u ρ G' ρ1) : DoesT K t G (tIfS (tB (tDNotIn (tVar k) (tVar i))) tt u) ρ G' ρ1 := fun Z σ H D R q => by
  obtain ⟨R0, hz, kvs, ht, g⟩ := R
  obtain ⟨b, hb, hk2⟩ := R0.key hk
  refine ⟨.ref b, hb, .ref t, R0.adr hi, t, _, rfl, DGet.t ht hk2, _, rfl, ?_⟩
  cases e : (valV kvs (keyR r)).isSome with
  | false =>
    show tt D σ H
    exact h1 ⟨kvs, g, e⟩ Z σ H D ⟨R0, hz, kvs, ht, g⟩ q
  | true =>
    show u D σ H
    exact h2 Z σ H D ⟨R0, hz, kvs, ht, g, e⟩ q
/-- table[key] = n -/
theorem doesT_put {i k j : Nat} {r : List Int} {n : Int} (hi : ρ[i]? = some (.fr (dAdr t))) (hk : ρ[k]? = some (.fr (.tuple (r.map .int)))) (hj : ρ[j]? = some (.fr (.int n))) (hg : ∀ kvs, G kvs → kvs.length < sizeLine ∧ G' (putK kvs (keyR r) (.int n))) : DoesT K t G (sDPut (tVar i) (tVar k) (tVar j)) ρ G' (kill ρ) := fun Z σ H D R q => by
  obtain ⟨R0, hz, kvs, ht, g⟩ := R
  obtain ⟨b, hb, hk2⟩ := R0.key hk
  obtain ⟨g1, g2⟩ := hg kvs g
  refine ⟨.int n, R0.intv hj, .ref t, R0.adr hi, .ref b, hb, t, _, rfl, DPut.t ht hk2 g1, ?_⟩
  exact q Z σ _ (Same.refl Z) ⟨R0.tab hz ht fun b hbt o hb => (upd_ne hbt).trans hb, hz, _, upd_same, g2⟩
/-- return table[key] -/
theorem ret_get {i k : Nat} {r : List Int} {D : Ends} (hi : ρ[i]? = some (.fr (dAdr t))) (hk : ρ[k]? = some (.fr (.tuple (r.map .int)))) (R : RelT K t (fun kvs => G kvs ∧ (valV kvs (keyR r)).isSome = true) Z ρ σ H) (q : ∀ v kvs, H t = some (.dT kvs) → G kvs → valV kvs (keyR r) = some v → D.rt v H) : tRet (tDGet (tVar i) (tVar k)) D σ H := by
  obtain ⟨R0, hz, kvs, ht, g, e⟩ := R
  obtain ⟨b, hb, hk2⟩ := R0.key hk
  obtain ⟨v, hv⟩ := Option.isSome_iff_exists.mp e
  exact ⟨.ref t, R0.adr hi, .ref b, hb, t, v, rfl, hv ▸ DGet.t ht hk2, q v kvs ht g hv⟩
end
end Pur

set_option Elab.async false
set_option linter.all false
set_option maxRecDepth 100000
set_option maxHeartbeats 4000000
namespace Pur
open PySem PySem.Spec PyProof.Rows L2
/-! ## rows -/
/-- a row: numbers from one on, none greater than the one ahead -/
structure Row (r : List Int) : Prop where
  pos : ∀ x ∈ r, 1 ≤ x
  fall : r.Pairwise (fun a b => b ≤ a)
theorem Row.nil : Row [] := ⟨fun _ m => (nomatch m), List.Pairwise.nil⟩
theorem Row.tail {x : Int} {r : List Int} (h : Row (x :: r)) : Row r := ⟨fun y m => h.pos y (List.mem_cons_of_mem _ m), (List.pairwise_cons.mp h.fall).2⟩
theorem Row.head {x : Int} {r : List Int} (h : Row (x :: r)) : 1 ≤ x ∧ ∀ y ∈ r, y ≤ x := ⟨h.pos x List.mem_cons_self, (List.pairwise_cons.mp h.fall).1⟩
theorem Row.le {r : List Int} (h : Row r) {i j : Nat} (hij : i ≤ j) (hj : j < r.length) : r[j] ≤ r[i]'(by omega) := by
  by_cases e : i = j
  · subst e; exact Int.le_refl _
  · exact List.pairwise_iff_getElem.mp h.fall i j (by omega) hj (by omega)
theorem sum_nonneg : ∀ {r : List Int}, (∀ x ∈ r, 0 ≤ x) → 0 ≤ r.sum
  | [], _ => Int.le_refl _
  | x :: r, h => by
    rw [List.sum_cons]
    have := sum_nonneg (r := r) fun y m => h y (List.mem_cons_of_mem _ m)
    have := h x List.mem_cons_self
    omega
theorem Row.sum_len : ∀ {r : List Int}, Row r → (r.length : Int) ≤ r.sum
  | [], _ => Int.le_refl _
  | x :: r, h => by
    rw [List.sum_cons, List.length_cons]
    have := Row.sum_len h.tail
    have := h.head.1
    omega
theorem Row.mem_sum : ∀ {r : List Int}, Row r → ∀ x ∈ r, x ≤ r.sum
  | [], _, _, m => (nomatch m)
  | y :: r, h, x, m => by
    rw [List.sum_cons]
    have h0 := sum_nonneg (r := r) fun z m => Int.le_trans (by decide) (h.tail.pos z m)
    rcases List.mem_cons.mp m with rfl | m
    · omega
    · have := Row.mem_sum h.tail x m
      have := h.head.1
      omega
/-- how many numbers are greater than j -/
def cnt (r : List Int) (j : Int) : Nat := (r.filter fun x => decide (j < x)).length
theorem cnt_nil (j : Int) : cnt [] j = 0 := rfl
theorem cnt_cons (x : Int) (r : List Int) (j : Int) : cnt (x :: r) j = (if j < x then 1 else 0) + cnt r j := by
  unfold cnt
  rw [List.filter_cons]
  by_cases h : j < x
  · rw [if_pos (decide_eq_true h), if_pos h, List.length_cons]; omega
  · rw [if_neg (by simpa using h), if_neg h]; omega
theorem cnt_append (r s : List Int) (j : Int) : cnt (r ++ s) j = cnt r j + cnt s j := by
  unfold cnt
  rw [List.filter_append, List.length_append]
theorem cnt_le (r : List Int) (j : Int) : cnt r j ≤ r.length := List.length_filter_le _ _
theorem cnt_anti (r : List Int) {i j : Int} (h : i ≤ j) : cnt r j ≤ cnt r i := by
  induction r with
  | nil => exact Nat.le_refl _
  | cons x r ih =>
    rw [cnt_cons, cnt_cons]
    split <;> split <;> omega
theorem cnt_zero_of {r : List Int} {j : Int} (h : ∀ x ∈ r, x ≤ j) : cnt r j = 0 := by
  induction r with
  | nil => rfl
  | cons x r ih =>
    rw [cnt_cons, ih fun y m => h y (List.mem_cons_of_mem _ m), if_neg (by have := h x List.mem_cons_self; omega)]
/-- of a row: the first so many -/
theorem cnt_iff : ∀ {r : List Int}, Row r → ∀ {k : Nat} (hk : k < r.length) (j : Int), j < r[k] ↔ k < cnt r j
  | [], _, k, hk, j => absurd hk (Nat.not_lt_zero _)
  | x :: r, h, 0, hk, j => by
    rw [cnt_cons]
    show j < x ↔ _
    by_cases c : j < x
    · rw [if_pos c]; constructor <;> intro <;> omega
    · have e : cnt r j = 0 := cnt_zero_of fun y m => by have := h.head.2 y m; omega
      rw [if_neg c, e]; constructor <;> intro <;> omega
  | x :: r, h, k + 1, hk, j => by
    have hk' : k < r.length := by simpa using hk
    have ih := cnt_iff h.tail hk' j
    rw [cnt_cons]
    show j < r[k] ↔ _
    rw [ih]
    by_cases c : j < x
    · rw [if_pos c]; omega
    · have e : cnt r j = 0 := cnt_zero_of fun y m => by have := h.head.2 y m; omega
      rw [if_neg c, e]; omega
theorem cnt_zero {r : List Int} (h : Row r) : cnt r 0 = r.length := by
  unfold cnt
  rw [List.filter_eq_self.mpr fun x m => decide_eq_true (by have := h.pos x m; omega)]
/-! ### the turned row -/
def turnedM (r : List Int) : List Int := (List.range (gi r 0).toNat).map fun j : Nat => (cnt r (j : Int) : Int)
theorem gi_get {r : List Int} {i : Nat} (h : i < r.length) : gi r (i : Int) = r[i] := by
  unfold gi
  rw [Int.toNat_natCast, List.getD_eq_getElem?_getD, List.getElem?_eq_getElem h]
  rfl
theorem gi_zero (x : Int) (r : List Int) : gi (x :: r) 0 = x := rfl
theorem turned_len (r : List Int) : (turnedM r).length = (gi r 0).toNat := by unfold turnedM; rw [List.length_map, List.length_range]
theorem turned_get {r : List Int} {j : Nat} (h : j < (turnedM r).length) : (turnedM r)[j] = (cnt r (j : Int) : Int) := by
  simp [turnedM]
theorem gi0_pos {r : List Int} (h : Row r) : 0 ≤ gi r 0 := by
  cases r with
  | nil => exact Int.le_refl _
  | cons x r => have := h.head.1; rw [gi_zero]; omega
theorem turned_row {r : List Int} (h : Row r) : Row (turnedM r) := by
  refine ⟨fun x m => ?_, ?_⟩
  · obtain ⟨j, hj, rfl⟩ := List.getElem_of_mem m
    rw [turned_get hj]
    rw [turned_len] at hj
    cases r with
    | nil => exact absurd hj (by show ¬ j < 0; omega)
    | cons y t =>
      rw [gi_zero] at hj
      rw [cnt_cons, if_pos (by omega)]
      omega
  · refine List.pairwise_iff_getElem.mpr fun i j hi hj hij => ?_
    rw [turned_get hi, turned_get hj]
    have := cnt_anti r (show (i : Int) ≤ j by omega)
    omega
theorem turned_twice {r : List Int} (h : Row r) : turnedM (turnedM r) = r := by
  have hl : (turnedM (turnedM r)).length = r.length := by
    rw [turned_len]
    cases r with
    | nil => rfl
    | cons x t =>
      have hx := h.head.1
      have h0 : 0 < (turnedM (x :: t)).length := by rw [turned_len, gi_zero]; omega
      have := gi_get h0
      have e : gi (turnedM (x :: t)) 0 = (turnedM (x :: t))[0] := this
      rw [e, turned_get h0]
      have := cnt_zero h
      show (cnt (x :: t) ((0 : Nat) : Int) : Int).toNat = _
      rw [show ((0 : Nat) : Int) = 0 from rfl, this]
      rfl
  refine List.ext_getElem hl fun k h1 h2 => ?_
  rw [turned_get h1]
  have hk := h.pos _ (List.getElem_mem h2)
  -- how many columns are longer than k
  have key : ∀ n : Nat, cnt ((List.range n).map fun j : Nat => (cnt r (j : Int) : Int)) (k : Int) = min n (r[k]).toNat := fun n => by
    induction n with
    | zero => rw [Nat.zero_min]; rfl
    | succ n ih =>
      rw [List.range_succ, List.map_append, cnt_append, ih, List.map_singleton, cnt_cons, cnt_nil]
      have q := cnt_iff h h2 (n : Int)
      by_cases c : (n : Int) < r[k]
      · rw [if_pos (by have := q.mp c; omega)]; omega
      · rw [if_neg (fun z => c (q.mpr (by omega)))]; omega
  have e := key (gi r 0).toNat
  have le : r[k] ≤ gi r 0 := by
    have h0 : 0 < r.length := by omega
    have := h.le (Nat.zero_le k) h2
    have e0 : gi r 0 = r[0] := gi_get h0
    omega
  show ((cnt (turnedM r) (k : Int) : Nat) : Int) = _
  unfold turnedM
  rw [e]
  omega
theorem turned_sum {r : List Int} (h : Row r) : (turnedM r).sum = r.sum := by
  have key : ∀ (r : List Int) (n : Nat), (∀ x ∈ r, 0 ≤ x ∧ x ≤ n) → ((List.range n).map fun j : Nat => (cnt r (j : Int) : Int)).sum = r.sum := by
    intro r n
    induction r with
    | nil =>
      intro q
      clear q
      induction n with
      | zero => rfl
      | succ n ih => rw [List.range_succ, List.map_append, List.sum_append, ih]; rfl
    | cons x r ih =>
      intro hb
      have ih' := ih fun y m => hb y (List.mem_cons_of_mem _ m)
      have e : ∀ n : Nat, ((List.range n).map fun j : Nat => (cnt (x :: r) (j : Int) : Int)).sum = min (n : Int) (max 0 x) + ((List.range n).map fun j : Nat => (cnt r (j : Int) : Int)).sum := fun n => by
        induction n with
        | zero => show (0 : Int) = min 0 (max 0 x) + 0; omega
        | succ n ihn =>
          rw [List.range_succ, List.map_append, List.map_append, List.sum_append, List.sum_append, ihn, List.map_singleton, List.map_singleton, List.sum_singleton, List.sum_singleton, cnt_cons]
          by_cases c : (n : Int) < x
          · rw [if_pos c]; omega
          · rw [if_neg c]; omega
      rw [e n, ih', List.sum_cons]
      have := hb x List.mem_cons_self
      omega
  refine key r _ fun x m => ?_
  have := h.pos x m
  obtain ⟨k, hk, rfl⟩ := List.getElem_of_mem m
  have h0 : 0 < r.length := by omega
  have le := h.le (Nat.zero_le k) hk
  have e0 : gi r 0 = r[0] := gi_get h0
  omega
/-! ### the hooks -/
def hookAt (r : List Int) (k j : Nat) : Int := gi r k - j + (cnt r (j : Int) : Int) - k - 1
def hooksM (r : List Int) : List (List Int) := (List.range r.length).map fun k : Nat => (List.range (gi r k).toNat).map fun j : Nat => hookAt r k j
abbrev N_is_row : List Str := ["numbers", "k"]
def rd_is_row (K : Frg) (C : Ec) (W : WX) : TS := (tSeq (tFor (iRng1 (tCons (tCB (rLenA K) (tCons (tVar 0) tNil)) tNil)) (gName 1)
  (tIfS (tOr (tTest (tOp rLtI (tOp (rIx K) (tVar 0) (tVar 1)) (tC (.int 1)))) (tAnd (tTest (tOp rGtI (tVar 1) (tC (.int 0)))) (tTest (tOp rLtI (tOp (rIx K) (tVar 0) (tOp rSubI (tVar 1) (tC (.int 1)))) (tOp (rIx K) (tVar 0) (tVar 1))))))
  (tRet (tC (.bl false))) tNext))
  (tRet (tC (.bl true))))
/-- the k-th number is as a row's: one or more, none greater than the one ahead -/
def rowAt (r : List Int) (k : Nat) : Bool := !(decide (gi r (k : Int) < 1) || (decide (0 < (k : Int)) && decide (gi r ((k : Int) - 1) < gi r (k : Int))))
def isRowB (r : List Int) : Bool := (List.range r.length).all (rowAt r)
def R_is_row (C : Ec) (ds : List PyData) (o : Except Addr PyData) : Prop := ∃ r : List Int, ds = [dR r] ∧ r.length ≤ 1000 ∧ o = .ok (.bool (isRowB r))
theorem len_is_row {C : Ec} (ds : List PyData) (o : Except Addr PyData) : R_is_row C ds o → ds.length = ["numbers"].length := by
  rintro ⟨r, rfl, _⟩; rfl
theorem does_is_row {K : Frg} {C : Ec} {W : WX} {ds : List PyData} {o : Except Addr PyData} : R_is_row C ds o → FnDoes K W (rd_is_row K C W) (entry N_is_row ds) o := by
  rintro ⟨r, rfl, hl, rfl⟩
  refine .inl ?_
  show Does K W (rd_is_row K C W) [.fr (dR r), .no] (.rt (.bool (isRowB r)))
  have key : ∀ i : Nat, (i : Int) < r.length → Evt K (tOr (tTest (tOp rLtI (tOp (rIx K) (tVar 0) (tVar 1)) (tC (.int 1)))) (tAnd (tTest (tOp rGtI (tVar 1) (tC (.int 0)))) (tTest (tOp rLtI (tOp (rIx K) (tVar 0) (tOp rSubI (tVar 1) (tC (.int 1)))) (tOp (rIx K) (tVar 0) (tVar 1))))))
      ((er [.fr (dR r), .no]).set 1 (some (.int (i : Int)))) (!rowAt r i) := fun i hi => by
    unfold rowAt
    rw [Bool.not_not]
    refine et_or (et_test (ev_lt (ev_ix (ev_var rfl) (ev_var rfl) (by omega) hi) ev_int)) fun _ => et_and (et_test (ev_gt (ev_var rfl) ev_int)) fun h => ?_
    have h0 : 0 < (i : Int) := of_decide_eq_true h
    exact et_test (ev_lt (ev_ix (ev_var rfl) (ev_sub (ev_var rfl) ev_int) (by omega) (by omega)) (ev_ix (ev_var rfl) (ev_var rfl) (by omega) hi))
  refine does_searchR (rowAt r) (eva_cons (ev_len (ev_var rfl)) eva_nil) (by omega) (by omega) (d := .bool false) True.intro (fun i hi h => ?_) (fun i hi _ h => ?_) (fun h => ?_) fun m hm h => ?_
  · refine chk_if (key i hi) (fun z => ?_) fun _ => chk_next
    rw [h] at z; cases z
  · refine chk_if (key i hi) (fun _ => chk_ret ev_bl) fun z => ?_
    rw [h] at z; cases z
  · have e : isRowB r = true := List.all_eq_true.mpr fun i hi => h i (by have := List.mem_range.mp hi; omega)
    rw [e]
    exact does_retb ev_bl
  · have e : isRowB r = false := by
      cases q : isRowB r with
      | false => rfl
      | true =>
        have := List.all_eq_true.mp q m (List.mem_range.mpr (by omega))
        rw [h] at this; cases this
    rw [e]
abbrev N_law_drawn : List Str := ["script", "k", "many", "cell", "mixed"]
def rd_law_drawn (K : Frg) (C : Ec) (W : WX) : TS := (tSeq (tAsg (tC (.int 7)) (gName 3))
  (tSeq (tIfS (tTest (tOp rGtI (tCB (rLenA K) (tCons (tVar 0) tNil)) (tC (.int 0))))
  (tAsg (tOp (rIx K) (tVar 0) (tOp rModI (tVar 1) (tCB (rLenA K) (tCons (tVar 0) tNil)))) (gName 3)) tNext)
  (tSeq (tAsg (tOp rAddA (tOp rAddA (tOp rMulA (tVar 3) (tOp rAddA (tC (.int 48271)) (tOp rMulA (tC (.int 9973)) (tOp rModI (tVar 1) (tC (.int 97)))))) (tOp rMulA (tOp rMulA (tOp rAddA (tVar 1) (tC (.int 1))) (tOp rAddA (tVar 1) (tC (.int 3)))) (tC (.int 16807)))) (tCB (rLenA K) (tCons (tVar 0) tNil))) (gName 4))
  (tRet (tOp rModI (tOp rDivI (tOp rModI (tVar 4) (tC (.int 2147483647))) (tC (.int 16))) (tVar 2))))))
def drawnM (ns : List Int) (k many : Int) : Int :=
  ((if 0 < (ns.length : Int) then gi ns (k % ns.length) else 7) * (48271 + 9973 * (k % 97)) + (k + 1) * (k + 3) * 16807 + ns.length) % 2147483647 / 16 % many
theorem drawnM_ge {ns : List Int} {k many : Int} (h : 0 < many) : 0 ≤ drawnM ns k many := Int.emod_nonneg _ (by omega)
theorem drawnM_lt {ns : List Int} {k many : Int} (h : 0 < many) : drawnM ns k many < many := Int.emod_lt_of_pos _ h
def R_law_drawn (C : Ec) (ds : List PyData) (o : Except Addr PyData) : Prop := ∃ (ns : List Int) (k many : Int), ds = [dScr ns, .int k, .int many] ∧ 0 ≤ k ∧ k < 10000 ∧ 0 < many ∧ o = .ok (.int (drawnM ns k many))
theorem len_law_drawn {C : Ec} (ds : List PyData) (o : Except Addr PyData) : R_law_drawn C ds o → ds.length = ["script", "k", "many"].length := by
  rintro ⟨_, _, _, rfl, _⟩; rfl
theorem does_law_drawn {K : Frg} {C : Ec} {W : WX} {ds : List PyData} {o : Except Addr PyData} : R_law_drawn C ds o → FnDoes K W (rd_law_drawn K C W) (entry N_law_drawn ds) o := by
  rintro ⟨ns, k, many, rfl, hk0, hk1, hm, rfl⟩
  refine .inl ?_
  show Does K W (rd_law_drawn K C W) [.fr (dScr ns), .fr (.int k), .fr (.int many), .no, .no] (.rt (.int (drawnM ns k many)))
  have hp : -(2 ^ 64) < (k + 1) * (k + 3) ∧ (k + 1) * (k + 3) < 2 ^ 64 := by
    have h1 : 0 ≤ (k + 1) * (k + 3) := Int.mul_nonneg (by omega) (by omega)
    have h2 : (k + 1) * (k + 3) ≤ 10000 * 10010 := Int.mul_le_mul (by omega) (by omega) (by omega) (by omega)
    omega
  refine does_seq (does_asgi ev_int) (does_seq (ρ1 := [.fr (dScr ns), .fr (.int k), .fr (.int many), .fr (.int (if 0 < (ns.length : Int) then gi ns (k % ns.length) else 7)), .no]) ?_ ?_)
  · refine does_if (et_test (ev_gt (ev_lenScr (ev_var rfl)) ev_int)) (fun h => ?_) fun h => ?_
    · have h0 : 0 < (ns.length : Int) := of_decide_eq_true h
      rw [if_pos h0]
      exact does_asgi (ev_ixScr (ev_var rfl) (ev_mod (ev_var rfl) (ev_lenScr (ev_var rfl)) h0) (Int.emod_nonneg _ (by omega)) (Int.emod_lt_of_pos _ h0))
    · rw [if_neg (of_decide_eq_false h)]
      exact does_next
  refine does_seq (does_asgi (ev_add (ev_add (ev_mul (ev_var rfl) (ev_add ev_int (ev_mul ev_int (ev_mod (ev_var rfl) ev_int (by decide)) (mul_l (by decide)))) (mul_r (by omega))) (ev_mul (ev_mul (ev_add (ev_var rfl) ev_int) (ev_add (ev_var rfl) ev_int) (mul_l (by omega))) ev_int (mul_l hp))) (ev_lenScr (ev_var rfl)))) ?_
  exact does_reti (ev_mod (ev_div (ev_mod (ev_var rfl) ev_int (by decide)) ev_int (by decide)) (ev_var rfl) hm)
abbrev N_law_whole : List Str := ["found"]
def rd_law_whole (K : Frg) (C : Ec) (W : WX) : TS := (tRet (tAndV (tCB (rIsi K) (tCons (tVar 0) (tCons (tC (.ty "int")) tNil))) (tNotV (tCB (rIsi K) (tCons (tVar 0) (tCons (tC (.ty "bool")) tNil))))))
def wholeB : PyData → Bool
  | .int _ => true
  | _ => false
def R_law_whole (C : Ec) (ds : List PyData) (o : Except Addr PyData) : Prop := ∃ d : PyData, ds = [d] ∧ tyN d ≠ "dict" ∧ o = .ok (.bool (wholeB d))
theorem len_law_whole {C : Ec} (ds : List PyData) (o : Except Addr PyData) : R_law_whole C ds o → ds.length = ["found"].length := by
  rintro ⟨_, rfl, _⟩; rfl
theorem kit_all : ["NoneType", "str", "list", "tuple"].all (fun t => decide (kitB t "int" = some false)) = true := by decide +kernel
theorem does_law_whole {K : Frg} {C : Ec} {W : WX} {ds : List PyData} {o : Except Addr PyData} : R_law_whole C ds o → FnDoes K W (rd_law_whole K C W) (entry N_law_whole ds) o := by
  rintro ⟨d, rfl, hd, rfl⟩
  refine .inl ?_
  show Does K W (rd_law_whole K C W) [.fr d] (.rt (.bool (wholeB d)))
  have ka := List.all_eq_true.mp kit_all
  have go : ∀ {a b : Bool}, kitB (tyN d) "int" = some a → (a = true → kitB (tyN d) "bool" = some b) → (a && !b) = wholeB d → Does K W (rd_law_whole K C W) [.fr d] (.rt (.bool (wholeB d))) := fun {a b} h1 h2 h3 => by
    rw [← h3]
    exact does_retb (ev_andV (ev_isi (ev_var rfl) h1 hd) fun e => ev_notV (ev_isi (ev_var rfl) (h2 e) hd))
  cases d with
  | none => exact go (a := false) (b := false) (of_decide_eq_true (ka "NoneType" (by simp))) (fun z => nomatch z) rfl
  | bool x => exact go (b := true) kit_bi (fun _ => kit_bb) rfl
  | int i => exact go (b := false) kit_ii (fun _ => kit_ib) rfl
  | str x => exact go (a := false) (b := false) (of_decide_eq_true (ka "str" (by simp))) (fun z => nomatch z) rfl
  | list x => exact go (a := false) (b := false) (of_decide_eq_true (ka "list" (by simp))) (fun z => nomatch z) rfl
  | tuple x => exact go (a := false) (b := false) (of_decide_eq_true (ka "tuple" (by simp))) (fun z => nomatch z) rfl
  | dict x => exact absurd rfl hd
abbrev N_law_row : List Str := ["found", "due", "k"]
def rd_law_row (K : Frg) (C : Ec) (W : WX) : TS := (tSeq (tIfS (tOr (tNot (tB (tCB (rIsi K) (tCons (tVar 0) (tCons (tC (.ty "list")) tNil))))) (tTest (tOp (rNeA K) (tCB (rLenA K) (tCons (tVar 0) tNil)) (tCB (rLenA K) (tCons (tVar 1) tNil)))))
  (tRet (tC (.bl false))) tNext)
  (tSeq (tFor (iRng1 (tCons (tCB (rLenA K) (tCons (tVar 1) tNil)) tNil)) (gName 2)
  (tIfS (tOr (tNot (tB (tCall (spOf K (R_law_whole C)) [] E0 (tCons (tOp (rIx K) (tVar 0) (tVar 2)) tNil)))) (tTest (tOp (rNeA K) (tOp (rIx K) (tVar 0) (tVar 2)) (tOp (rIx K) (tVar 1) (tVar 2)))))
  (tRet (tC (.bl false))) tNext))
  (tRet (tC (.bl true)))))
def R_law_row (C : Ec) (ds : List PyData) (o : Except Addr PyData) : Prop := ∃ r s : List Int, ds = [dR r, dR s] ∧ s.length ≤ 100000 ∧ o = .ok (.bool (decide (r = s)))
theorem len_law_row {C : Ec} (ds : List PyData) (o : Except Addr PyData) : R_law_row C ds o → ds.length = ["found", "due"].length := by
  rintro ⟨_, _, rfl, _⟩; rfl
theorem eq_of_gi {r s : List Int} (hl : r.length = s.length) (h : ∀ i : Nat, i < s.length → gi r i = gi s i) : r = s := by
  refine List.ext_getElem hl fun i h1 h2 => ?_
  have := h i h2
  rw [gi_get h1, gi_get h2] at this
  exact this
theorem does_law_row {K : Frg} {C : Ec} {W : WX} {ds : List PyData} {o : Except Addr PyData} : R_law_row C ds o → FnDoes K W (rd_law_row K C W) (entry N_law_row ds) o := by
  rintro ⟨r, s, rfl, hz, rfl⟩
  refine .inl ?_
  show Does K W (rd_law_row K C W) [.fr (dR r), .fr (dR s), .no] (.rt (.bool (decide (r = s))))
  by_cases hl : r.length = s.length
  · refine does_seq (ρ1 := [.fr (dR r), .fr (dR s), .no]) (does_if (b := false) ((et_or (et_not (et_B (ev_isl (ev_var rfl)))) fun _ => et_test (ev_nei (ev_len (ev_var rfl)) (ev_len (ev_var rfl)))).cast (by simp [hl])) (fun z => nomatch z) fun _ => does_next) ?_
    have key : ∀ i : Nat, (i : Int) < s.length → Evt K (tOr (tNot (tB (tCall (spOf K (R_law_whole C)) [] E0 (tCons (tOp (rIx K) (tVar 0) (tVar 2)) tNil)))) (tTest (tOp (rNeA K) (tOp (rIx K) (tVar 0) (tVar 2)) (tOp (rIx K) (tVar 1) (tVar 2)))))
        ((er [.fr (dR r), .fr (dR s), .no]).set 2 (some (.int (i : Int)))) (!decide (gi r i = gi s i)) := fun i hi => by
      refine (et_or (et_not (et_B (ev_call (eva_cons (ev_ix (ev_var rfl) (ev_var rfl) (by omega) (by omega)) eva_nil) ⟨_, rfl, (show "int" ≠ "dict" by decide), rfl⟩))) fun _ => et_test (ev_nei (ev_ix (ev_var rfl) (ev_var rfl) (by omega) (by omega)) (ev_ix (ev_var rfl) (ev_var rfl) (by omega) (by omega)))).cast ?_
      show (!true || decide (gi r i ≠ gi s i)) = _
      simp
    refine does_searchR (fun i => decide (gi r i = gi s i)) (eva_cons (ev_len (ev_var rfl)) eva_nil) (by omega) (by omega) (d := .bool false) True.intro (fun i hi h => ?_) (fun i hi _ h => ?_) (fun h => ?_) fun m hm h => ?_
    · refine chk_if (key i hi) (fun z => ?_) fun _ => chk_next
      have h' : decide (gi r i = gi s i) = true := h
      rw [h'] at z; cases z
    · refine chk_if (key i hi) (fun _ => chk_ret ev_bl) fun z => ?_
      have h' : decide (gi r i = gi s i) = false := h
      rw [h'] at z; cases z
    · have e : decide (r = s) = true := decide_eq_true (eq_of_gi hl fun i hi => of_decide_eq_true (h i (by omega)))
      rw [e]
      exact does_retb ev_bl
    · have e : decide (r = s) = false := decide_eq_false fun z => by
        have h' : decide (gi r m = gi s m) = false := h
        rw [z, decide_eq_true rfl] at h'
        cases h'
      rw [e]
  · refine does_seq_rt (does_if (b := true) ((et_or (et_not (et_B (ev_isl (ev_var rfl)))) fun _ => et_test (ev_nei (ev_len (ev_var rfl)) (ev_len (ev_var rfl)))).cast ?_) (fun _ => ?_) fun z => nomatch z)
    · have : ¬ (r.length : Int) = s.length := by omega
      simp [this]
    · have e : decide (r = s) = false := decide_eq_false fun z => hl (by rw [z])
      rw [e]
      exact does_retb ev_bl
abbrev N_law_rows : List Str := ["found", "due", "k"]
def rd_law_rows (K : Frg) (C : Ec) (W : WX) : TS := (tSeq (tIfS (tOr (tNot (tB (tCB (rIsi K) (tCons (tVar 0) (tCons (tC (.ty "list")) tNil))))) (tTest (tOp (rNeA K) (tCB (rLenA K) (tCons (tVar 0) tNil)) (tCB (rLenA K) (tCons (tVar 1) tNil)))))
  (tRet (tC (.bl false))) tNext)
  (tSeq (tFor (iRng1 (tCons (tCB (rLenA K) (tCons (tVar 1) tNil)) tNil)) (gName 2)
  (tIfS (tNot (tB (tCall (spOf K (R_law_row C)) [] E0 (tCons (tOp (rIx K) (tVar 0) (tVar 2)) (tCons (tOp (rIx K) (tVar 1) (tVar 2)) tNil)))))
  (tRet (tC (.bl false))) tNext))
  (tRet (tC (.bl true)))))
def R_law_rows (C : Ec) (ds : List PyData) (o : Except Addr PyData) : Prop := ∃ r s : List (List Int), ds = [dRR r, dRR s] ∧ s.length ≤ 100000 ∧ (∀ x ∈ s, x.length ≤ 100000) ∧ o = .ok (.bool (decide (r = s)))
theorem len_law_rows {C : Ec} (ds : List PyData) (o : Except Addr PyData) : R_law_rows C ds o → ds.length = ["found", "due"].length := by
  rintro ⟨_, _, rfl, _⟩; rfl
theorem getD_get {α : Type} {r : List α} {d : α} {i : Nat} (h : i < r.length) : r.getD i d = r[i] := by
  rw [List.getD_eq_getElem?_getD, List.getElem?_eq_getElem h]
  rfl
theorem eq_of_getD {α : Type} {r s : List α} {d : α} (hl : r.length = s.length) (h : ∀ i : Nat, i < s.length → r.getD i d = s.getD i d) : r = s := by
  refine List.ext_getElem hl fun i h1 h2 => ?_
  have := h i h2
  rw [getD_get h1, getD_get h2] at this
  exact this
theorem does_law_rows {K : Frg} {C : Ec} {W : WX} {ds : List PyData} {o : Except Addr PyData} : R_law_rows C ds o → FnDoes K W (rd_law_rows K C W) (entry N_law_rows ds) o := by
  rintro ⟨r, s, rfl, hz, hzz, rfl⟩
  refine .inl ?_
  show Does K W (rd_law_rows K C W) [.fr (dRR r), .fr (dRR s), .no] (.rt (.bool (decide (r = s))))
  by_cases hl : r.length = s.length
  · refine does_seq (ρ1 := [.fr (dRR r), .fr (dRR s), .no]) (does_if (b := false) ((et_or (et_not (et_B (ev_isl (ev_var rfl)))) fun _ => et_test (ev_nei (ev_len (ev_var rfl)) (ev_len (ev_var rfl)))).cast (by simp [hl])) (fun z => nomatch z) fun _ => does_next) ?_
    have key : ∀ i : Nat, (i : Int) < s.length → Evt K (tNot (tB (tCall (spOf K (R_law_row C)) [] E0 (tCons (tOp (rIx K) (tVar 0) (tVar 2)) (tCons (tOp (rIx K) (tVar 1) (tVar 2)) tNil)))))
        ((er [.fr (dRR r), .fr (dRR s), .no]).set 2 (some (.int (i : Int)))) (!decide (r.getD i [] = s.getD i [])) := fun i hi => by
      have hm : s.getD i [] ∈ s := by rw [getD_get (by omega)]; exact List.getElem_mem _
      refine (et_not (et_B (ev_call (eva_cons (ev_ixRR (ev_var rfl) (ev_var rfl) (by omega) (by omega)) (eva_cons (ev_ixRR (ev_var rfl) (ev_var rfl) (by omega) (by omega)) eva_nil)) ⟨r.getD i [], s.getD i [], ?_, hzz _ hm, rfl⟩)))
      rw [Int.toNat_natCast]
    refine does_searchR (fun i => decide (r.getD i [] = s.getD i [])) (eva_cons (ev_len (ev_var rfl)) eva_nil) (by omega) (by omega) (d := .bool false) True.intro (fun i hi h => ?_) (fun i hi _ h => ?_) (fun h => ?_) fun m hm h => ?_
    · refine chk_if (key i hi) (fun z => ?_) fun _ => chk_next
      have h' : decide (r.getD i [] = s.getD i []) = true := h
      rw [h'] at z; cases z
    · refine chk_if (key i hi) (fun _ => chk_ret ev_bl) fun z => ?_
      have h' : decide (r.getD i [] = s.getD i []) = false := h
      rw [h'] at z; cases z
    · have e : decide (r = s) = true := decide_eq_true (eq_of_getD (d := []) hl fun i hi => of_decide_eq_true (h i (by omega)))
      rw [e]
      exact does_retb ev_bl
    · have e : decide (r = s) = false := decide_eq_false fun z => by
        have h' : decide (r.getD m [] = s.getD m []) = false := h
        rw [z, decide_eq_true rfl] at h'
        cases h'
      rw [e]
  · refine does_seq_rt (does_if (b := true) ((et_or (et_not (et_B (ev_isl (ev_var rfl)))) fun _ => et_test (ev_nei (ev_len (ev_var rfl)) (ev_len (ev_var rfl)))).cast ?_) (fun _ => ?_) fun z => nomatch z)
    · have : ¬ (r.length : Int) = s.length := by omega
      simp [this]
    · have e : decide (r = s) = false := decide_eq_false fun z => hl (by rw [z])
      rw [e]
      exact does_retb ev_bl
abbrev N_law_row_by : List Str := ["script", "base", "most", "left", "row", "greatest", "bound", "step"]
def rd_law_row_by (K : Frg) (C : Ec) (W : WX) : TS := (tSeq (tAsg (tCall (spOf K (R_law_drawn C)) [] E0 (tCons (tVar 0) (tCons (tVar 1) (tCons (tOp rAddA (tVar 2) (tC (.int 1))) tNil)))) (gName 3))
  (tSeq (tAsg (tLst tNil) (gName 4))
  (tSeq (tAsg (tOp rAddA (tC (.int 1)) (tCall (spOf K (R_law_drawn C)) [] E0 (tCons (tVar 0) (tCons (tOp rAddA (tVar 1) (tC (.int 1))) (tCons (tVar 2) tNil))))) (gName 5))
  (tSeq (tWhile (tTest (tOp rGtI (tVar 3) (tC (.int 0))))
  (tSeq (tAsg (tOp (rIx K) (tLst (tCons (tC (.int 3)) (tCons (tC (.int 3)) (tCons (tC (.int 12)) (tCons (tOp rAddA (tC (.int 1)) (tVar 5)) tNil))))) (tCall (spOf K (R_law_drawn C)) [] E0 (tCons (tVar 0) (tCons (tOp rAddA (tVar 1) (tC (.int 71))) (tCons (tC (.int 4)) tNil))))) (gName 6))
  (tSeq (tAsg (tOp rMulA (tCall (spOf K (R_law_drawn C)) [] E0 (tCons (tVar 0) (tCons (tOp rAddA (tOp rAddA (tVar 1) (tC (.int 2))) (tCB (rLenA K) (tCons (tVar 4) tNil))) (tCons (tVar 6) tNil)))) (tCall (spOf K (R_law_drawn C)) [] E0 (tCons (tVar 0) (tCons (tOp rAddA (tVar 1) (tC (.int 70))) (tCons (tC (.int 2)) tNil))))) (gName 7))
  (tSeq (tAsg (tCB rMin2 (tCons (tVar 3) (tCons (tOp rSubI (tVar 5) (tVar 7)) tNil))) (gName 5))
  (tSeq (tAsg (tCB rMax2 (tCons (tC (.int 1)) (tCons (tVar 5) tNil))) (gName 5))
  (tSeq (tDrop (tBM K "list" rAppend (tVar 4) (tCons (tVar 5) tNil)))
  (tAsg (tOp rSubI (tVar 3) (tVar 5)) (gName 3))))))))
  (tRet (tVar 4))))))
/-- one turn: what is left, the row so far, its greatest next number -/
def rbStep (ns : List Int) (base : Int) (s : Int × List Int × Int) : Int × List Int × Int :=
  if 0 < s.1 then
    let g := max 1 (min s.1 (s.2.2 - drawnM ns (base + 2 + s.2.1.length) (([3, 3, 12, 1 + s.2.2] : List Int).getD (drawnM ns (base + 71) 4).toNat 0) * drawnM ns (base + 70) 2))
    (s.1 - g, s.2.1 ++ [g], g)
  else s
def rbSt (ns : List Int) (base most : Int) : Nat → Int × List Int × Int
  | 0 => (drawnM ns base (most + 1), [], 1 + drawnM ns (base + 1) most)
  | i + 1 => rbStep ns base (rbSt ns base most i)
def rowByM (ns : List Int) (base most : Int) : List Int := (rbSt ns base most most.toNat).2.1
structure RbOk (most : Int) (i : Nat) (s : Int × List Int × Int) : Prop where
  nn : 0 ≤ s.1
  less : 0 < s.1 → s.1 ≤ most - i
  great : 1 ≤ s.2.2
  gmost : s.2.2 ≤ most
  sum : s.1 + s.2.1.sum ≤ most
  row : Row s.2.1
  last : ∀ x ∈ s.2.1, s.2.2 ≤ x
  len : s.2.1.length ≤ i
theorem bound_pos {g : Int} (hg : 1 ≤ g) {d : Int} (h0 : 0 ≤ d) (h4 : d < 4) : 0 < ([3, 3, 12, 1 + g] : List Int).getD d.toNat 0 := by
  obtain ⟨k, rfl⟩ := Int.eq_ofNat_of_zero_le h0
  have hk : k < 4 := by omega
  rw [Int.toNat_natCast]
  match k, hk with
  | 0, _ => show (0 : Int) < 3; decide
  | 1, _ => show (0 : Int) < 3; decide
  | 2, _ => show (0 : Int) < 12; decide
  | 3, _ => show 0 < 1 + g; omega
theorem rbOk_step {ns : List Int} {base most : Int} {i : Nat} {s : Int × List Int × Int} (h : RbOk most i s) : RbOk most (i + 1) (rbStep ns base s) := by
  obtain ⟨left, row, g⟩ := s
  obtain ⟨h1, h2, h3, h3m, h4, h5, h6, h7⟩ := h
  dsimp only at h1 h2 h3 h3m h4 h5 h6 h7
  unfold rbStep
  by_cases hl : 0 < left
  · rw [if_pos (show 0 < (left, row, g).1 from hl)]
    dsimp only
    have hp := bound_pos h3 (drawnM_ge (ns := ns) (k := base + 71) (many := 4) (by decide)) (drawnM_lt (by decide))
    have hd : 0 ≤ drawnM ns (base + 2 + row.length) (([3, 3, 12, 1 + g] : List Int).getD (drawnM ns (base + 71) 4).toNat 0) * drawnM ns (base + 70) 2 := Int.mul_nonneg (drawnM_ge hp) (drawnM_ge (by decide))
    generalize drawnM ns (base + 2 + row.length) (([3, 3, 12, 1 + g] : List Int).getD (drawnM ns (base + 71) 4).toNat 0) * drawnM ns (base + 70) 2 = st at hd
    have hg1 : 1 ≤ max 1 (min left (g - st)) := by omega
    have hg2 : max 1 (min left (g - st)) ≤ left := by omega
    have hg3 : max 1 (min left (g - st)) ≤ g := by omega
    generalize max 1 (min left (g - st)) = n at hg1 hg2 hg3
    refine ⟨by dsimp only; omega, fun _ => by have := h2 hl; dsimp only; omega, hg1, by dsimp only; omega, ?_, ⟨fun x hx => ?_, ?_⟩, fun x hx => ?_, by dsimp only; rw [List.length_append, List.length_singleton]; omega⟩
    · dsimp only; rw [List.sum_append, List.sum_singleton]; omega
    · rcases List.mem_append.mp hx with hx | hx
      · exact h5.pos x hx
      · rw [List.mem_singleton.mp hx]; exact hg1
    · refine List.pairwise_append.mpr ⟨h5.fall, List.pairwise_singleton _ _, fun a ha b hb => ?_⟩
      rw [List.mem_singleton.mp hb]
      have := h6 a ha
      omega
    · rcases List.mem_append.mp hx with hx | hx
      · have := h6 x hx; dsimp only; omega
      · rw [List.mem_singleton.mp hx]; exact Int.le_refl _
  · rw [if_neg (show ¬ 0 < (left, row, g).1 from hl)]
    exact ⟨h1, fun z => absurd z hl, h3, h3m, h4, h5, h6, by dsimp only; omega⟩
theorem rbOk {ns : List Int} {base most : Int} (hm : 0 < most) : ∀ i, RbOk most i (rbSt ns base most i)
  | 0 => ⟨drawnM_ge (by omega), fun _ => by have := drawnM_lt (ns := ns) (k := base) (show 0 < most + 1 by omega); show drawnM ns base (most + 1) ≤ most - ((0 : Nat) : Int); omega,
      by have := drawnM_ge (ns := ns) (k := base + 1) hm; show 1 ≤ 1 + drawnM ns (base + 1) most; omega, by have := drawnM_lt (ns := ns) (k := base + 1) hm; show 1 + drawnM ns (base + 1) most ≤ most; omega, by
        have := drawnM_lt (ns := ns) (k := base) (show 0 < most + 1 by omega)
        show drawnM ns base (most + 1) + ([] : List Int).sum ≤ most
        rw [List.sum_nil]; omega, ⟨fun _ m => (nomatch m), List.Pairwise.nil⟩, fun _ m => (nomatch m), Nat.zero_le _⟩
  | i + 1 => rbOk_step (rbOk hm i)
theorem rb_still {ns : List Int} {base most : Int} {n : Nat} (h : ¬ 0 < (rbSt ns base most n).1) : ∀ m, n ≤ m → rbSt ns base most m = rbSt ns base most n
  | 0, hm => by rw [Nat.le_zero.mp hm]
  | m + 1, hm => by
    by_cases e : n = m + 1
    · rw [e]
    · have ih := rb_still h m (by omega)
      show rbStep ns base (rbSt ns base most m) = _
      rw [ih]
      unfold rbStep
      rw [if_neg h]
theorem rb_end {ns : List Int} {base most : Int} (hm : 0 < most) : ¬ 0 < (rbSt ns base most most.toNat).1 := fun h => by
  have := (rbOk (ns := ns) (base := base) hm most.toNat).less h
  omega
theorem rowBy_row {ns : List Int} {base most : Int} (hm : 0 < most) : Row (rowByM ns base most) := (rbOk hm _).row
theorem rowBy_sum {ns : List Int} {base most : Int} (hm : 0 < most) : (rowByM ns base most).sum ≤ most := by
  have h := rbOk (ns := ns) (base := base) hm most.toNat
  have := h.sum
  have := h.nn
  unfold rowByM
  omega
theorem rowBy_len {ns : List Int} {base most : Int} (hm : 0 < most) : (rowByM ns base most).length ≤ most.toNat := (rbOk hm _).len
def R_law_row_by (C : Ec) (ds : List PyData) (o : Except Addr PyData) : Prop := ∃ (ns : List Int) (base most : Int), ds = [dScr ns, .int base, .int most] ∧ 0 ≤ base ∧ base < 5000 ∧ 0 < most ∧ most ≤ 1000 ∧ o = .ok (dR (rowByM ns base most))
theorem len_law_row_by {C : Ec} (ds : List PyData) (o : Except Addr PyData) : R_law_row_by C ds o → ds.length = ["script", "base", "most"].length := by
  rintro ⟨_, _, _, rfl, _⟩; rfl
theorem does_law_row_by {K : Frg} {C : Ec} {W : WX} {ds : List PyData} {o : Except Addr PyData} : R_law_row_by C ds o → FnDoes K W (rd_law_row_by K C W) (entry N_law_row_by ds) o := by
  rintro ⟨ns, base, most, rfl, hb0, hb1, hm0, hm1, rfl⟩
  refine .inl ?_
  show Does K W (rd_law_row_by K C W) [.fr (dScr ns), .fr (.int base), .fr (.int most), .no, .no, .no, .no, .no] (.rt (dR (rowByM ns base most)))
  -- the first turn at which nothing is left
  obtain ⟨n, hn, hlt⟩ : ∃ n, ¬ 0 < (rbSt ns base most n).1 ∧ ∀ i, i < n → 0 < (rbSt ns base most i).1 := by
    rcases first_bad (fun i => decide (0 < (rbSt ns base most i).1)) (most.toNat + 1) with h | ⟨m, _, h2, h3⟩
    · exact absurd (of_decide_eq_true (h most.toNat (by omega))) (rb_end hm0)
    · exact ⟨m, of_decide_eq_false h2, fun i hi => of_decide_eq_true (h3 i hi)⟩
  have hnm : n ≤ most.toNat := Nat.le_of_not_lt fun z => rb_end hm0 (hlt _ z)
  have er : (rbSt ns base most n).2.1 = rowByM ns base most := by unfold rowByM; rw [rb_still hn _ hnm]
  have cal : ∀ {k m : Int}, 0 ≤ k → k < 10000 → 0 < m → R_law_drawn C [dScr ns, .int k, .int m] (.ok (.int (drawnM ns k m))) := fun h1 h2 h3 => ⟨ns, _, _, rfl, h1, h2, h3, rfl⟩
  let T : Nat → List Sl := fun i => [.fr (dScr ns), .fr (.int base), .fr (.int most), .fr (.int (rbSt ns base most i).1), .ow (dR (rbSt ns base most i).2.1), .fr (.int (rbSt ns base most i).2.2), .no, .no]
  refine does_seq (does_asgi (ev_call (eva_cons (ev_var rfl) (eva_cons (ev_var rfl) (eva_cons (ev_add (ev_var rfl) ev_int) eva_nil))) (cal (by omega) (by omega) (by omega)))) ?_
  refine does_seq (does_asg (evf_lst evaf_nil)) ?_
  refine does_seq (does_asgi (ev_add ev_int (ev_call (eva_cons (ev_var rfl) (eva_cons (ev_add (ev_var rfl) ev_int) (eva_cons (ev_var rfl) eva_nil))) (cal (by omega) (by omega) (by omega))))) ?_
  refine does_seq (does_while n T rfl (fun i hi => ?_) (fun i hi => ?_) ?_) (er ▸ does_retv rfl)
  · exact (et_test (ev_gt (ev_var rfl) ev_int)).cast (decide_eq_true (hlt i hi))
  · have ok := rbOk (ns := ns) (base := base) hm0 i
    have pos := hlt i hi
    have e : T (i + 1) = [.fr (dScr ns), .fr (.int base), .fr (.int most), .fr (.int (rbStep ns base (rbSt ns base most i)).1), .ow (dR (rbStep ns base (rbSt ns base most i)).2.1), .fr (.int (rbStep ns base (rbSt ns base most i)).2.2), .no, .no] := rfl
    rw [e]
    show Does K W _ [.fr (dScr ns), .fr (.int base), .fr (.int most), .fr (.int (rbSt ns base most i).1), .ow (dR (rbSt ns base most i).2.1), .fr (.int (rbSt ns base most i).2.2), .no, .no] _
    unfold rbStep
    rw [if_pos pos]
    generalize rbSt ns base most i = s at ok pos
    obtain ⟨left, row, g⟩ := s
    obtain ⟨k1, k2, k3, k3m, k4, k5, k6, k7⟩ := ok
    dsimp only at k1 k2 k3 k3m k4 k5 k6 k7 pos ⊢
    have k2' := k2 pos
    have d0 := drawnM_ge (ns := ns) (k := base + 71) (many := 4) (by decide)
    have d4 := drawnM_lt (ns := ns) (k := base + 71) (many := 4) (by decide)
    have hp := bound_pos k3 d0 d4
    have ex : atI ([.int 3, .int 3, .int 12, .int (1 + g)] : List PyData) (drawnM ns (base + 71) 4) = some (.int (([3, 3, 12, 1 + g] : List Int).getD (drawnM ns (base + 71) 4).toNat 0)) := by
      have := atI_map PyData.int ([3, 3, 12, 1 + g] : List Int) (drawnM ns (base + 71) 4)
      rw [atI_in ([3, 3, 12, 1 + g] : List Int) 0 d0 (by show _ < ((4 : Nat) : Int); omega)] at this
      exact this
    have two := drawnM_ge (ns := ns) (k := base + 70) (many := 2) (by decide)
    have two2 := drawnM_lt (ns := ns) (k := base + 70) (many := 2) (by decide)
    refine does_no 6 (ρ1 := [.fr (dScr ns), .fr (.int base), .fr (.int most), .fr (.int (left - max 1 (min left (g - drawnM ns (base + 2 + row.length) (([3, 3, 12, 1 + g] : List Int).getD (drawnM ns (base + 71) 4).toNat 0) * drawnM ns (base + 70) 2)))), .ow (dR (row ++ [max 1 (min left (g - drawnM ns (base + 2 + row.length) (([3, 3, 12, 1 + g] : List Int).getD (drawnM ns (base + 71) 4).toNat 0) * drawnM ns (base + 70) 2))])),
      .fr (.int (max 1 (min left (g - drawnM ns (base + 2 + row.length) (([3, 3, 12, 1 + g] : List Int).getD (drawnM ns (base + 71) 4).toNat 0) * drawnM ns (base + 70) 2)))), .fr (.int (([3, 3, 12, 1 + g] : List Int).getD (drawnM ns (base + 71) 4).toNat 0)), .no]) ?_
    refine does_no 7 (ρ1 := [.fr (dScr ns), .fr (.int base), .fr (.int most), .fr (.int (left - max 1 (min left (g - drawnM ns (base + 2 + row.length) (([3, 3, 12, 1 + g] : List Int).getD (drawnM ns (base + 71) 4).toNat 0) * drawnM ns (base + 70) 2)))), .ow (dR (row ++ [max 1 (min left (g - drawnM ns (base + 2 + row.length) (([3, 3, 12, 1 + g] : List Int).getD (drawnM ns (base + 71) 4).toNat 0) * drawnM ns (base + 70) 2))])),
      .fr (.int (max 1 (min left (g - drawnM ns (base + 2 + row.length) (([3, 3, 12, 1 + g] : List Int).getD (drawnM ns (base + 71) 4).toNat 0) * drawnM ns (base + 70) 2)))), .fr (.int (([3, 3, 12, 1 + g] : List Int).getD (drawnM ns (base + 71) 4).toNat 0)), .fr (.int (drawnM ns (base + 2 + row.length) (([3, 3, 12, 1 + g] : List Int).getD (drawnM ns (base + 71) 4).toNat 0) * drawnM ns (base + 70) 2))]) ?_
    refine does_seq (does_asgi (ev_ixL (Evf.r (evf_lst (evaf_cons (Evr.f ev_int True.intro) (evaf_cons (Evr.f ev_int True.intro) (evaf_cons (Evr.f ev_int True.intro) (evaf_cons (Evr.f (ev_add ev_int (ev_var rfl)) True.intro) evaf_nil))))))
      (ev_call (eva_cons (ev_var rfl) (eva_cons (ev_add (ev_var rfl) ev_int) (eva_cons ev_int eva_nil))) (cal (by omega) (by omega) (by decide))) ex)) ?_
    refine does_seq (does_asgi (ev_mul (ev_call (eva_cons (ev_var rfl) (eva_cons (ev_add (ev_add (ev_var rfl) ev_int) (ev_len (ev_var rfl))) (eva_cons (ev_var rfl) eva_nil))) (cal (by omega) (by omega) hp)) (ev_call (eva_cons (ev_var rfl) (eva_cons (ev_add (ev_var rfl) ev_int) (eva_cons ev_int eva_nil))) (cal (by omega) (by omega) (by decide))) (mul_r (by omega)))) ?_
    refine does_seq (does_asgi (ev_min2 (ev_var rfl) (ev_sub (ev_var rfl) (ev_var rfl)))) ?_
    refine does_seq (does_asgi (ev_max2 ev_int (ev_var rfl))) ?_
    refine does_seq (does_appi rfl (ev_var rfl) (by omega)) ?_
    exact does_asgi (ev_sub (ev_var rfl) (ev_var rfl))
  · exact (et_test (ev_gt (ev_var rfl) ev_int)).cast (decide_eq_false hn)
/-! ## beads -/
/-- the places of m beads that tell r -/
def beadsM (r : List Int) (m : Nat) : List Int := (List.range m).map fun k : Nat => gi r ((m : Int) - 1 - k) + k
/-- places that beads have -/
structure Rises (ps : List Int) : Prop where
  nn : ∀ x ∈ ps, 0 ≤ x
  rise : ps.Pairwise (· < ·)
/-- how many beads are lesser, taken off, the greatest first -/
def offM (ps : List Int) : List Int := ((List.range ps.length).map fun k : Nat => gi ps k - k).reverse
def rowOfM (ps : List Int) : List Int := (offM ps).filter fun x => decide (0 < x)
theorem gi_out {r : List Int} {i : Int} (h : r.length ≤ i.toNat) : gi r i = 0 := by
  unfold gi
  rw [List.getD_eq_getElem?_getD, List.getElem?_eq_none h]
  rfl
theorem gi_cons_succ (x : Int) (r : List Int) (i : Nat) : gi (x :: r) ((i + 1 : Nat) : Int) = gi r i := by
  unfold gi
  rw [Int.toNat_natCast, Int.toNat_natCast]
  rfl
theorem gi_append_zeros (r : List Int) (n : Nat) (i : Int) : gi (r ++ List.replicate n 0) i = gi r i := by
  unfold gi
  rw [List.getD_eq_getElem?_getD, List.getD_eq_getElem?_getD, List.getElem?_append]
  split
  · rfl
  · rename_i h
    rw [List.getElem?_eq_none (l := r) (by omega), List.getElem?_replicate]
    split <;> rfl
theorem Row.gi_nn {r : List Int} (h : Row r) (i : Int) : 0 ≤ gi r i := by
  by_cases hl : i.toNat < r.length
  · have e : gi r i = r[i.toNat] := by
      unfold gi
      rw [List.getD_eq_getElem?_getD, List.getElem?_eq_getElem hl]
      rfl
    have := h.pos _ (List.getElem_mem hl)
    omega
  · rw [gi_out (by omega)]; exact Int.le_refl _
theorem Row.gi_anti {r : List Int} (h : Row r) {i j : Int} (h0 : 0 ≤ i) (hij : i ≤ j) : gi r j ≤ gi r i := by
  by_cases hl : j.toNat < r.length
  · have e : gi r j = r[j.toNat] := by
      have := gi_get hl
      rwa [Int.toNat_of_nonneg (by omega)] at this
    have e2 : gi r i = r[i.toNat]'(by omega) := by
      have := gi_get (r := r) (i := i.toNat) (by omega)
      rwa [Int.toNat_of_nonneg (by omega)] at this
    rw [e, e2]
    exact h.le (by omega) hl
  · rw [gi_out (i := j) (by omega)]
    exact h.gi_nn i
theorem beads_len (r : List Int) (m : Nat) : (beadsM r m).length = m := by unfold beadsM; rw [List.length_map, List.length_range]
theorem beads_get {r : List Int} {m k : Nat} (h : k < m) : gi (beadsM r m) k = gi r ((m : Int) - 1 - k) + k := by
  rw [gi_get (by rw [beads_len]; exact h)]
  simp [beadsM]
theorem gi_mem {r : List Int} {i : Nat} (h : i < r.length) : gi r i ∈ r := by
  rw [gi_get h]; exact List.getElem_mem h
theorem mem_gi {r : List Int} {x : Int} (h : x ∈ r) : ∃ i : Nat, i < r.length ∧ gi r i = x := by
  obtain ⟨i, hi, e⟩ := List.getElem_of_mem h
  exact ⟨i, hi, by rw [gi_get hi, e]⟩
theorem beads_rises {r : List Int} (h : Row r) (m : Nat) : Rises (beadsM r m) := by
  refine ⟨fun x hx => ?_, List.pairwise_iff_getElem.mpr fun i j hi hj hij => ?_⟩
  · obtain ⟨k, hk, rfl⟩ := mem_gi hx
    rw [beads_len] at hk
    rw [beads_get hk]
    have := h.gi_nn ((m : Int) - 1 - k)
    omega
  · rw [← gi_get hi, ← gi_get hj]
    rw [beads_len] at hi hj
    rw [beads_get hi, beads_get hj]
    have := h.gi_anti (i := (m : Int) - 1 - j) (j := (m : Int) - 1 - i) (by omega) (by omega)
    omega
theorem off_len (ps : List Int) : (offM ps).length = ps.length := by unfold offM; rw [List.length_reverse, List.length_map, List.length_range]
theorem off_get {ps : List Int} {k : Nat} (h : k < ps.length) : gi (offM ps) k = gi ps ((ps.length : Int) - 1 - k) - ((ps.length : Int) - 1 - k) := by
  rw [gi_get (by rw [off_len]; exact h)]
  unfold offM
  rw [List.getElem_reverse]
  simp only [List.length_map, List.length_range, List.getElem_map, List.getElem_range]
  rw [show ((ps.length - 1 - k : Nat) : Int) = (ps.length : Int) - 1 - k by omega]
theorem Rises.gi_lt {ps : List Int} (h : Rises ps) {i j : Nat} (hij : i < j) (hj : j < ps.length) : gi ps i < gi ps j := by
  rw [gi_get hj, gi_get (show i < ps.length by omega)]
  exact List.pairwise_iff_getElem.mp h.rise i j (by omega) hj hij
theorem Rises.gi_ge {ps : List Int} (h : Rises ps) : ∀ {k : Nat}, k < ps.length → (k : Int) ≤ gi ps k
  | 0, hk => h.nn _ (gi_mem hk)
  | k + 1, hk => by
    have := Rises.gi_ge h (k := k) (by omega)
    have := h.gi_lt (i := k) (j := k + 1) (Nat.lt_succ_self k) hk
    omega
theorem Rises.gi_step {ps : List Int} (h : Rises ps) {i j : Nat} (hij : i ≤ j) (hj : j < ps.length) : gi ps i - i ≤ gi ps j - j := by
  induction j with
  | zero => rw [Nat.le_zero.mp hij]; exact Int.le_refl _
  | succ j ih =>
    by_cases e : i = j + 1
    · subst e; exact Int.le_refl _
    · have := ih (by omega) (by omega)
      have := h.gi_lt (i := j) (j := j + 1) (Nat.lt_succ_self j) hj
      omega
theorem off_fall {ps : List Int} (h : Rises ps) : (∀ x ∈ offM ps, 0 ≤ x) ∧ (offM ps).Pairwise (fun a b => b ≤ a) := by
  refine ⟨fun x hx => ?_, List.pairwise_iff_getElem.mpr fun i j hi hj hij => ?_⟩
  · obtain ⟨k, hk, rfl⟩ := mem_gi hx
    rw [off_len] at hk
    rw [off_get hk]
    have := h.gi_ge (k := ps.length - 1 - k) (by omega)
    rw [show ((ps.length - 1 - k : Nat) : Int) = (ps.length : Int) - 1 - k by omega] at this
    omega
  · rw [← gi_get hi, ← gi_get hj]
    rw [off_len] at hi hj
    rw [off_get hi, off_get hj]
    have := h.gi_step (i := ps.length - 1 - j) (j := ps.length - 1 - i) (by omega) (by omega)
    rw [show ((ps.length - 1 - j : Nat) : Int) = (ps.length : Int) - 1 - j by omega, show ((ps.length - 1 - i : Nat) : Int) = (ps.length : Int) - 1 - i by omega] at this
    omega
theorem gi_pos_filter : ∀ {l : List Int}, (∀ x ∈ l, 0 ≤ x) → l.Pairwise (fun a b => b ≤ a) → ∀ i : Nat, gi (l.filter fun x => decide (0 < x)) i = gi l i
  | [], _, _, _ => rfl
  | x :: t, hn, hp, i => by
    have hp' := List.pairwise_cons.mp hp
    have ih := gi_pos_filter (l := t) (fun y m => hn y (List.mem_cons_of_mem _ m)) hp'.2
    rw [List.filter_cons]
    by_cases h : 0 < x
    · rw [if_pos (decide_eq_true h)]
      cases i with
      | zero => rfl
      | succ i => rw [gi_cons_succ, gi_cons_succ]; exact ih i
    · rw [if_neg (by simpa using h)]
      have hx := hn x List.mem_cons_self
      have e : t.filter (fun x => decide (0 < x)) = [] := List.filter_eq_nil_iff.mpr fun y m => by
        have := hp'.1 y m
        simp
        omega
      have hz : ∀ y ∈ x :: t, y = 0 := fun y m => by
        rcases List.mem_cons.mp m with rfl | m
        · omega
        · have := hp'.1 y m
          have := hn y (List.mem_cons_of_mem _ m)
          omega
      rw [e]
      show (0 : Int) = _
      by_cases hi : i < (x :: t).length
      · rw [hz _ (gi_mem hi)]
      · rw [gi_out (by rw [Int.toNat_natCast]; omega)]
theorem rowOf_row {ps : List Int} (h : Rises ps) : Row (rowOfM ps) :=
  ⟨fun x m => by have := of_decide_eq_true (List.mem_filter.mp m).2; omega, List.Pairwise.filter _ (off_fall h).2⟩
theorem rowOf_len (ps : List Int) : (rowOfM ps).length ≤ ps.length := Nat.le_trans (List.length_filter_le _ _) (Nat.le_of_eq (off_len ps))
theorem rowOf_get {ps : List Int} (h : Rises ps) {k : Nat} (hk : k < ps.length) : gi (rowOfM ps) ((ps.length : Int) - 1 - k) = gi ps k - k := by
  have e := gi_pos_filter (off_fall h).1 (off_fall h).2 (ps.length - 1 - k)
  have q := off_get (ps := ps) (k := ps.length - 1 - k) (by omega)
  rw [show ((ps.length - 1 - k : Nat) : Int) = (ps.length : Int) - 1 - k by omega] at e q
  unfold rowOfM
  rw [e, q, show (ps.length : Int) - 1 - ((ps.length : Int) - 1 - k) = k by omega]
theorem beads_rowOf {ps : List Int} (h : Rises ps) : beadsM (rowOfM ps) ps.length = ps := by
  refine eq_of_gi (beads_len _ _) fun k hk => ?_
  rw [beads_get hk, rowOf_get h hk]
  omega
theorem row_eq {r s : List Int} (hr : Row r) (hs : Row s) (h : ∀ i : Nat, gi r i = gi s i) : r = s := by
  have hl : r.length = s.length := by
    rcases Nat.lt_trichotomy r.length s.length with c | c | c
    · have := h r.length
      rw [gi_out (r := r) (by rw [Int.toNat_natCast]; exact Nat.le_refl _)] at this
      have := hs.pos _ (gi_mem c)
      omega
    · exact c
    · have := h s.length
      rw [gi_out (r := s) (by rw [Int.toNat_natCast]; exact Nat.le_refl _)] at this
      have := hr.pos _ (gi_mem c)
      omega
  exact eq_of_gi hl fun i _ => h i
theorem rowOf_beads {r : List Int} (h : Row r) {m : Nat} (hm : r.length ≤ m) : rowOfM (beadsM r m) = r := by
  have hR := beads_rises h m
  refine row_eq (rowOf_row hR) h fun i => ?_
  by_cases hi : i < m
  · have e := rowOf_get hR (k := m - 1 - i) (by rw [beads_len]; omega)
    rw [beads_len, beads_get (show m - 1 - i < m by omega)] at e
    rw [show (m : Int) - 1 - ((m - 1 - i : Nat) : Int) = i by omega] at e
    omega
  · rw [gi_out (r := r) (by rw [Int.toNat_natCast]; omega), gi_out]
    have := rowOf_len (beadsM r m)
    rw [beads_len] at this
    rw [Int.toNat_natCast]
    omega
/-- lists that rise, one within the other -/
theorem incr_sub : ∀ {B A : List Int}, A.Pairwise (· < ·) → B.Pairwise (· < ·) → (∀ x ∈ A, x ∈ B) → A.Sublist B
  | [], [], _, _, _ => List.Sublist.slnil
  | [], a :: _, _, _, h => absurd (h a List.mem_cons_self) (by simp)
  | _ :: _, [], _, _, _ => List.nil_sublist _
  | b :: B, a :: A, hA, hB, h => by
    have hA' := List.pairwise_cons.mp hA
    have hB' := List.pairwise_cons.mp hB
    by_cases e : a = b
    · subst e
      refine List.Sublist.cons_cons _ (incr_sub hA'.2 hB'.2 fun x m => ?_)
      rcases List.mem_cons.mp (h x (List.mem_cons_of_mem _ m)) with rfl | q
      · exact absurd (hA'.1 x m) (Int.lt_irrefl _)
      · exact q
    · have ha : a ∈ B := by
        rcases List.mem_cons.mp (h a List.mem_cons_self) with q | q
        · exact absurd q e
        · exact q
      refine List.Sublist.cons _ (incr_sub hA hB'.2 fun x m => ?_)
      rcases List.mem_cons.mp (h x m) with rfl | q
      · have hb := hB'.1 a ha
        rcases List.mem_cons.mp m with rfl | m
        · exact absurd rfl e
        · have := hA'.1 x m
          omega
      · exact q
theorem incr_eq {A B : List Int} (hA : A.Pairwise (· < ·)) (hB : B.Pairwise (· < ·)) (h : ∀ x, x ∈ A ↔ x ∈ B) : A = B :=
  (incr_sub hA hB fun x m => (h x).mp m).eq_of_length_le (incr_sub hB hA fun x m => (h x).mpr m).length_le
theorem set_mapR {m j : Nat} {f g : Nat → Int} {v : Int} (h : ∀ k, k < m → k ≠ j → f k = g k) (hv : g j = v) : ((List.range m).map f).set j v = (List.range m).map g := by
  refine List.ext_getElem (by simp) fun k h1 h2 => ?_
  rw [List.getElem_set]
  simp only [List.getElem_map, List.getElem_range]
  split
  · rename_i e; subst e; exact hv.symm
  · rename_i e
    exact h k (by simpa using h2) (fun z => e z.symm)
theorem gi_mapR {m k : Nat} (f : Nat → Int) (h : k < m) : gi ((List.range m).map f) k = f k := by
  rw [gi_get (by simpa using h)]
  simp
theorem len_mapR {m : Nat} (f : Nat → Int) : ((List.range m).map f).length = m := by simp
abbrev N_beads : List Str := ["row", "many", "whole", "k"]
def rd_beads (K : Frg) (C : Ec) (W : WX) : TS := (tSeq (tIfS (tTest (tOp rLtI (tVar 1) (tCB (rLenA K) (tCons (tVar 0) tNil))))
  (tRz W C.TooFew) tNext)
  (tSeq (tAsg (tOp rAddA (tVar 0) (tOp rMulA (tLst (tCons (tC (.int 0)) tNil)) (tOp rSubI (tVar 1) (tCB (rLenA K) (tCons (tVar 0) tNil))))) (gName 2))
  (tRet (tLc (iRng1 (tCons (tVar 1) tNil)) (gName 3) tYes (tOp rAddA (tOp (rIx K) (tVar 2) (tOp rSubI (tOp rSubI (tVar 1) (tC (.int 1))) (tVar 3))) (tVar 3)) [3]))))
def R_beads (C : Ec) (ds : List PyData) (o : Except Addr PyData) : Prop := ∃ (r : List Int) (m : Int), ds = [dR r, .int m] ∧ r.length ≤ 100000 ∧ m ≤ 100000 ∧ ((m < r.length ∧ o = .error C.TooFew) ∨ (r.length ≤ m ∧ o = .ok (dR (beadsM r m.toNat))))
theorem len_beads {C : Ec} (ds : List PyData) (o : Except Addr PyData) : R_beads C ds o → ds.length = ["row", "many"].length := by
  rintro ⟨_, _, rfl, _⟩; rfl
theorem does_beads {K : Frg} {C : Ec} {W : WX} {ds : List PyData} {o : Except Addr PyData} : R_beads C ds o → FnDoes K W (rd_beads K C W) (entry N_beads ds) o := by
  rintro ⟨r, m, rfl, hr, hm, ⟨hlt, rfl⟩ | ⟨hle, rfl⟩⟩
  · refine ⟨[.fr (dR r), .fr (.int m), .no, .no], ?_⟩
    exact does_seq_ex (does_if (b := true) ((et_test (ev_lt (ev_var rfl) (ev_len (ev_var rfl)))).cast (decide_eq_true hlt)) (fun _ => does_rz) fun z => nomatch z)
  · refine .inl ?_
    show Does K W (rd_beads K C W) [.fr (dR r), .fr (.int m), .no, .no] (.rt (dR (beadsM r m.toNat)))
    refine does_seq (ρ1 := [.fr (dR r), .fr (.int m), .no, .no]) (does_if (b := false) ((et_test (ev_lt (ev_var rfl) (ev_len (ev_var rfl)))).cast (decide_eq_false (by omega))) (fun z => nomatch z) fun _ => does_next) ?_
    have e1 : (List.replicate (m - r.length).toNat [(0 : Int)]).flatten = List.replicate (m - r.length).toNat 0 := by
      induction (m - r.length).toNat with
      | zero => rfl
      | succ n ih => rw [List.replicate_succ, List.flatten_cons, ih]; rfl
    refine does_seq (does_asg (evf_cat (ev_var rfl) (Evf.r (Evf.cast (evf_rep (r := [0]) (Evf.r (Evf.cast (evf_lst (evaf_cons (Evr.f ev_int True.intro) evaf_nil)) rfl)) (ev_sub (ev_var rfl) (ev_len (ev_var rfl))) (by omega) (by rw [List.length_singleton]; omega)) (by rw [e1]))) (by rw [List.length_replicate]; omega))) ?_
    refine does_ret (Evf.cast (evf_mapR (fun k : Nat => gi r (m - 1 - k) + k) (eva_cons (ev_var rfl) eva_nil) (by omega) (by omega) fun k hk => Evr.cast (ev_add (ev_ix (ev_var rfl) (ev_sub (ev_sub (ev_var rfl) ev_int) (ev_var rfl)) (by omega) (by rw [List.length_append, List.length_replicate]; omega)) (ev_var rfl)) (by rw [gi_append_zeros])) ?_)
    unfold beadsM
    rw [Int.toNat_of_nonneg (by omega)]
abbrev N_row_of : List Str := ["places", "k", "numbers", "number"]
def rd_row_of (K : Frg) (C : Ec) (W : WX) : TS := (tSeq (tFor (iRng1 (tCons (tCB (rLenA K) (tCons (tVar 0) tNil)) tNil)) (gName 1)
  (tIfS (tOr (tTest (tOp rLtI (tOp (rIx K) (tVar 0) (tVar 1)) (tC (.int 0)))) (tAnd (tTest (tOp rGtI (tVar 1) (tC (.int 0)))) (tTest (tOp rGeI (tOp (rIx K) (tVar 0) (tOp rSubI (tVar 1) (tC (.int 1)))) (tOp (rIx K) (tVar 0) (tVar 1))))))
  (tRz W C.NoBeads) tNext))
  (tSeq (tAsg (tLc (iRng1 (tCons (tCB (rLenA K) (tCons (tVar 0) tNil)) tNil)) (gName 1) tYes (tOp rSubI (tOp (rIx K) (tVar 0) (tVar 1)) (tVar 1)) [1]) (gName 2))
  (tSeq (tDrop (tBM0 K "list" rReverse (tVar 2)))
  (tRet (tLc (iList K (tVar 2)) (gName 3) (tTest (tOp rGtI (tVar 3) (tC (.int 0)))) (tVar 3) [3])))))
def riseAt (ps : List Int) (k : Nat) : Bool := !(decide (gi ps (k : Int) < 0) || (decide (0 < (k : Int)) && decide (gi ps (k : Int) ≤ gi ps ((k : Int) - 1))))
theorem rises_of {ps : List Int} (h : ∀ k : Nat, k < ps.length → riseAt ps k = true) : Rises ps := by
  have h1 : ∀ k : Nat, k < ps.length → 0 ≤ gi ps k := fun k hk => by
    have := h k hk
    unfold riseAt at this
    simp at this
    exact this.1
  have h2 : ∀ k : Nat, k + 1 < ps.length → gi ps k < gi ps ((k + 1 : Nat) : Int) := fun k hk => by
    have := h (k + 1) hk
    unfold riseAt at this
    simp at this
    rw [show ((k + 1 : Nat) : Int) = (k : Int) + 1 by omega]
    exact this.2
  refine ⟨fun x m => ?_, List.pairwise_iff_getElem.mpr fun i j hi hj hij => ?_⟩
  · obtain ⟨k, hk, rfl⟩ := mem_gi m
    exact h1 k hk
  · rw [← gi_get hi, ← gi_get hj]
    induction j with
    | zero => omega
    | succ j ih =>
      have q := h2 j hj
      by_cases e : i = j
      · subst e; exact q
      · have := ih (by omega) (by omega)
        omega
theorem Rises.at_ {ps : List Int} (h : Rises ps) {k : Nat} (hk : k < ps.length) : riseAt ps k = true := by
  unfold riseAt
  have h1 := h.nn _ (gi_mem hk)
  have h2 : 0 < (k : Int) → gi ps ((k : Int) - 1) < gi ps (k : Int) := fun hp => by
    have := h.gi_lt (i := k - 1) (j := k) (by omega) hk
    rwa [show ((k - 1 : Nat) : Int) = (k : Int) - 1 by omega] at this
  by_cases hp : 0 < (k : Int)
  · have := h2 hp
    simp
    omega
  · simp
    omega
def R_row_of (C : Ec) (ds : List PyData) (o : Except Addr PyData) : Prop := ∃ ps : List Int, ds = [dR ps] ∧ ps.length ≤ 100000 ∧ ((Rises ps ∧ o = .ok (dR (rowOfM ps))) ∨ (¬ Rises ps ∧ o = .error C.NoBeads))
theorem len_row_of {C : Ec} (ds : List PyData) (o : Except Addr PyData) : R_row_of C ds o → ds.length = ["places"].length := by
  rintro ⟨_, rfl, _⟩; rfl
theorem does_row_of {K : Frg} {C : Ec} {W : WX} {ds : List PyData} {o : Except Addr PyData} : R_row_of C ds o → FnDoes K W (rd_row_of K C W) (entry N_row_of ds) o := by
  rintro ⟨ps, rfl, hl, ho⟩
  have key : ∀ i : Nat, (i : Int) < ps.length → Evt K (tOr (tTest (tOp rLtI (tOp (rIx K) (tVar 0) (tVar 1)) (tC (.int 0)))) (tAnd (tTest (tOp rGtI (tVar 1) (tC (.int 0)))) (tTest (tOp rGeI (tOp (rIx K) (tVar 0) (tOp rSubI (tVar 1) (tC (.int 1)))) (tOp (rIx K) (tVar 0) (tVar 1))))))
      ((er [.fr (dR ps), .no, .no, .no]).set 1 (some (.int (i : Int)))) (!riseAt ps i) := fun i hi => by
    unfold riseAt
    rw [Bool.not_not]
    refine et_or (et_test (ev_lt (ev_ix (ev_var rfl) (ev_var rfl) (by omega) hi) ev_int)) fun _ => et_and (et_test (ev_gt (ev_var rfl) ev_int)) fun h => ?_
    have h0 : 0 < (i : Int) := of_decide_eq_true h
    exact et_test (ev_ge (ev_ix (ev_var rfl) (ev_sub (ev_var rfl) ev_int) (by omega) (by omega)) (ev_ix (ev_var rfl) (ev_var rfl) (by omega) hi))
  rcases first_bad (riseAt ps) ps.length with hg | ⟨m, hm, hb, hg⟩
  · have hR := rises_of hg
    obtain ⟨_, rfl⟩ | ⟨z, _⟩ := ho
    case inr => exact absurd hR z
    refine .inl ?_
    show Does K W (rd_row_of K C W) [.fr (dR ps), .no, .no, .no] (.rt (dR (rowOfM ps)))
    refine does_seq (does_chkR (eva_cons (ev_len (ev_var rfl)) eva_nil) (by omega) (by omega) fun i hi => chk_if (key i hi) (fun z => ?_) fun _ => chk_next) ?_
    · rw [hg i (by omega)] at z; cases z
    refine does_seq (does_asg (evf_mapR (fun k : Nat => gi ps k - k) (eva_cons (ev_len (ev_var rfl)) eva_nil) (by omega) (by omega) fun k hk => ev_sub (ev_ix (ev_var rfl) (ev_var rfl) (by omega) (by omega)) (ev_var rfl))) ?_
    refine does_seq (does_rev rfl) ?_
    rw [Int.toNat_natCast]
    exact does_ret (evf_fil (r := offM ps) (fun x => decide (0 < x)) (ev_var rfl) (by rw [off_len]; omega) (fun x _ => et_test (ev_gt (ev_var rfl) ev_int)) (by show 3 < 4; decide))
  · have hR : ¬ Rises ps := fun z => by
      rw [z.at_ hm] at hb
      cases hb
    obtain ⟨z, _⟩ | ⟨_, rfl⟩ := ho
    · exact absurd z hR
    refine ⟨[.fr (dR ps), .no, .no, .no], ?_⟩
    exact does_seq_ex (does_chkRx (o := .ex C.NoBeads) (eva_cons (ev_len (ev_var rfl)) eva_nil) (by omega) m (by omega) (fun i hi => chk_if (key i (by omega)) (fun z => by rw [hg i hi] at z; cases z) fun _ => chk_next)
      (chk_if (key m (by omega)) (fun _ => chk_rz) fun z => by rw [hb] at z; cases z) (fun z => nomatch z) fun _ z => nomatch z)
abbrev N_pairs : List Str := ["places", "found", "bead", "gap"]
def rd_pairs (K : Frg) (C : Ec) (W : WX) : TS := (tSeq (tDrop (tCallS (spOf K (R_row_of C)) (WE W) (tCons (tVar 0) tNil)))
  (tSeq (tAsg (tLst tNil) (gName 1))
  (tSeq (tFor (iList K (tVar 0)) (gName 2)
  (tFor (iRng1 (tCons (tVar 2) tNil)) (gName 3)
  (tIfS (tTest (tOp (rNiA K) (tVar 3) (tVar 0)))
  (tDrop (tBM K "list" rAppend (tVar 1) (tCons (tTup (tCons (tVar 2) (tCons (tVar 3) tNil))) tNil))) tNext)))
  (tRet (tVar 1)))))
abbrev dP (p : Int × Int) : PyData := .tuple [.int p.1, .int p.2]
def gapsM (ps : List Int) (n : Nat) : List Int := ((List.range n).map fun g : Nat => (g : Int)).filter fun g => decide (g ∉ ps)
def pairsM (ps : List Int) : List (Int × Int) := ps.flatMap fun b => (gapsM ps b.toNat).map fun g => (b, g)
theorem gaps_succ (ps : List Int) (n : Nat) : gapsM ps (n + 1) = gapsM ps n ++ (if (n : Int) ∈ ps then [] else [(n : Int)]) := by
  unfold gapsM
  rw [List.range_succ, List.map_append, List.filter_append, List.map_singleton, List.filter_cons]
  by_cases h : (n : Int) ∈ ps
  · rw [if_pos h, if_neg (by simpa using h)]; rfl
  · rw [if_neg h, if_pos (by simpa using h)]; rfl
theorem gaps_len (ps : List Int) (n : Nat) : (gapsM ps n).length ≤ n := Nat.le_trans (List.length_filter_le _ _) (by simp)
theorem pairs_len (ps : List Int) (q : List Int) (h : ∀ x ∈ q, x ≤ 1000) : (q.flatMap fun b => (gapsM ps b.toNat).map fun g => (b, g)).length ≤ 1000 * q.length := by
  induction q with
  | nil => exact Nat.le_refl _
  | cons b q ih =>
    rw [List.flatMap_cons, List.length_append, List.length_map, List.length_cons]
    have := ih fun x m => h x (List.mem_cons_of_mem _ m)
    have := gaps_len ps b.toNat
    have := h b List.mem_cons_self
    omega
def R_pairs (C : Ec) (ds : List PyData) (o : Except Addr PyData) : Prop := ∃ ps : List Int, ds = [dR ps] ∧ ps.length ≤ 900 ∧ (∀ x ∈ ps, x ≤ 1000) ∧ ((Rises ps ∧ o = .ok (.list ((pairsM ps).map dP))) ∨ (¬ Rises ps ∧ o = .error C.NoBeads))
theorem len_pairs {C : Ec} (ds : List PyData) (o : Except Addr PyData) : R_pairs C ds o → ds.length = ["places"].length := by
  rintro ⟨_, rfl, _⟩; rfl
theorem does_pairs {K : Frg} {C : Ec} {W : WX} {ds : List PyData} {o : Except Addr PyData} : R_pairs C ds o → FnDoes K W (rd_pairs K C W) (entry N_pairs ds) o := by
  rintro ⟨ps, rfl, hl, hb, ⟨hR, rfl⟩ | ⟨hR, rfl⟩⟩
  · refine .inl ?_
    show Does K W (rd_pairs K C W) [.fr (dR ps), .no, .no, .no] (.rt (.list ((pairsM ps).map dP)))
    refine does_seq (does_drop (Evf.r (evf_callS (eva_cons (ev_var rfl) eva_nil) ⟨ps, rfl, by omega, .inl ⟨hR, rfl⟩⟩))) ?_
    refine does_seq (does_asg (evf_lst evaf_nil)) ?_
    let P : Nat → List (Int × Int) := fun i => (ps.take i).flatMap fun b => (gapsM ps b.toNat).map fun g => (b, g)
    have hP : ∀ i, (P i).length ≤ 1000 * i := fun i => Nat.le_trans (pairs_len ps _ fun x m => hb x (List.mem_of_mem_take m)) (Nat.mul_le_mul_left _ (List.length_take_le _ _))
    refine does_seq (does_forv (cd := PyData.int) (xs := ps) rfl (fun i => [.fr (dR ps), .ow (.list ((P i).map dP)), .no, .no]) rfl fun i x hx => ⟨[.fr (dR ps), .ow (.list ((P (i + 1)).map dP)), .fr (.int x), .no], ?_, rfl⟩) ?_
    · have hxm : x ∈ ps := List.mem_of_getElem? hx
      have hx0 := hR.nn x hxm
      have hx1 := hb x hxm
      have hil : i < ps.length := (List.getElem?_eq_some_iff.mp hx).1
      have e1 : P (i + 1) = P i ++ (gapsM ps x.toNat).map fun g => (x, g) := by
        show (ps.take (i + 1)).flatMap _ = _
        rw [take_succ_some hx, List.flatMap_append]
        simp [P]
      rw [e1]
      refine does_forR (n := x) (eva_cons (ev_var rfl) eva_nil) (by omega) (by omega) (fun j => [.fr (dR ps), .ow (.list ((P i ++ (gapsM ps j).map fun g => (x, g)).map dP)), .fr (.int x), .no]) (by simp [gapsM]) fun j hj =>
        ⟨[.fr (dR ps), .ow (.list ((P i ++ (gapsM ps (j + 1)).map fun g => (x, g)).map dP)), .fr (.int x), .fr (.int j)], ?_, rfl⟩
      rw [gaps_succ]
      by_cases hm : (j : Int) ∈ ps
      · rw [if_pos hm, List.append_nil]
        exact does_iff ((et_test (ev_ni (ev_var rfl) (ev_var rfl))).cast (by simp [hm])) does_next
      · rw [if_neg hm, show (P i ++ (gapsM ps j ++ [(j : Int)]).map fun g => (x, g)).map dP = (P i ++ (gapsM ps j).map fun g => (x, g)).map dP ++ [dP (x, (j : Int))] by simp]
        refine does_ift ((et_test (ev_ni (ev_var rfl) (ev_var rfl))).cast (by simp [hm])) (does_app rfl (evf_tup (evaf_cons (Evr.f (ev_var rfl) True.intro) (evaf_cons (Evr.f (ev_var rfl) True.intro) evaf_nil))) ?_)
        rw [List.length_map, List.length_append, List.length_map]
        have := hP i
        have := gaps_len ps j
        omega
    · rw [show P ps.length = pairsM ps by show (ps.take ps.length).flatMap _ = _; rw [List.take_length]; rfl]
      exact does_retv rfl
  · exact ⟨[.fr (dR ps), .no, .no, .no], does_seq_ex (does_dropx (evx_callS (eva_cons (ev_var rfl) eva_nil) ⟨ps, rfl, by omega, .inr ⟨hR, rfl⟩⟩))⟩
/-! ## gaps, and the hooks -/
/-- how many places are lesser -/
def lessN (ps : List Int) (x : Int) : Nat := (ps.filter fun p => decide (p < x)).length
theorem lessN_cons (p : Int) (ps : List Int) (x : Int) : lessN (p :: ps) x = (if p < x then 1 else 0) + lessN ps x := by
  unfold lessN
  rw [List.filter_cons]
  by_cases h : p < x
  · rw [if_pos (decide_eq_true h), if_pos h, List.length_cons]; omega
  · rw [if_neg (by simpa using h), if_neg h]; omega
theorem lessN_append (ps qs : List Int) (x : Int) : lessN (ps ++ qs) x = lessN ps x + lessN qs x := by
  unfold lessN
  rw [List.filter_append, List.length_append]
theorem lessN_succ : ∀ {ps : List Int}, ps.Nodup → ∀ n : Int, lessN ps (n + 1) = lessN ps n + if n ∈ ps then 1 else 0
  | [], _, n => by rw [if_neg (by simp)]; rfl
  | p :: ps, h, n => by
    have h' := List.nodup_cons.mp h
    rw [lessN_cons, lessN_cons, lessN_succ h'.2]
    by_cases e : p = n
    · subst e
      rw [if_neg h'.1, if_pos (show p < p + 1 by omega), if_neg (show ¬ p < p by omega), if_pos (List.mem_cons_self)]
      omega
    · by_cases m : n ∈ ps
      · rw [if_pos m, if_pos (List.mem_cons_of_mem _ m)]
        by_cases c : p < n
        · rw [if_pos c, if_pos (by omega)]; omega
        · rw [if_neg c, if_neg (by omega)]; omega
      · rw [if_neg m, if_neg (fun z => (List.mem_cons.mp z).elim (fun q => e q.symm) m)]
        by_cases c : p < n
        · rw [if_pos c, if_pos (by omega)]; omega
        · rw [if_neg c, if_neg (by omega)]; omega
theorem Rises.nodup {ps : List Int} (h : Rises ps) : ps.Nodup := List.Pairwise.imp (fun h => Int.ne_of_lt h) h.rise
theorem lessN_none {ps : List Int} {x : Int} (h : ∀ p ∈ ps, x ≤ p) : lessN ps x = 0 := by
  unfold lessN
  rw [List.filter_eq_nil_iff.mpr fun p m => by have := h p m; simpa using this]
  rfl
theorem lessN_all {ps : List Int} {x : Int} (h : ∀ p ∈ ps, p < x) : lessN ps x = ps.length := by
  unfold lessN
  rw [List.filter_eq_self.mpr fun p m => by simpa using h p m]
theorem lessN_at {ps : List Int} (h : ps.Pairwise (· < ·)) {i : Nat} (hi : i < ps.length) : lessN ps (gi ps i) = i := by
  have e := List.take_append_drop i ps
  have hh : gi ps i = ps[i] := gi_get hi
  rw [← e] at h
  have hp := List.pairwise_append.mp h
  have hd : ps.drop i = ps[i] :: ps.drop (i + 1) := List.drop_eq_getElem_cons hi
  have q := lessN_append (ps.take i) (ps.drop i) (gi ps i)
  rw [e] at q
  rw [q, lessN_all, lessN_none, List.length_take, Nat.min_eq_left (by omega)]
  · omega
  · intro p m
    rw [hd] at m hp
    rcases List.mem_cons.mp m with rfl | m
    · omega
    · have := (List.pairwise_cons.mp hp.2.1).1 p m
      omega
  · intro p m
    rw [hh]
    exact hp.2.2 p m _ (by rw [hd]; exact List.mem_cons_self)
theorem gaps_count {ps : List Int} (h : Rises ps) : ∀ n : Nat, (gapsM ps n).length + lessN ps (n : Int) = n
  | 0 => by
    have := lessN_none (ps := ps) (x := ((0 : Nat) : Int)) (fun p m => h.nn p m)
    rw [this]; rfl
  | n + 1 => by
    rw [gaps_succ, List.length_append]
    have := gaps_count h n
    have e := lessN_succ h.nodup (n : Int)
    rw [show ((n + 1 : Nat) : Int) = (n : Int) + 1 by omega, e]
    by_cases m : (n : Int) ∈ ps
    · rw [if_pos m, if_pos m]
      simp only [List.length_nil]
      omega
    · rw [if_neg m, if_neg m]
      simp only [List.length_singleton]
      omega
theorem gaps_rise (ps : List Int) (n : Nat) : (gapsM ps n).Pairwise (· < ·) := by
  refine List.Pairwise.filter _ (List.pairwise_iff_getElem.mpr fun i j hi hj hij => ?_)
  simp only [List.getElem_map, List.getElem_range]
  omega
theorem mem_gaps {ps : List Int} {n : Nat} {x : Int} : x ∈ gapsM ps n ↔ 0 ≤ x ∧ x < n ∧ x ∉ ps := by
  unfold gapsM
  rw [List.mem_filter, List.mem_map]
  constructor
  · rintro ⟨⟨g, hg, rfl⟩, h⟩
    have := List.mem_range.mp hg
    exact ⟨by omega, by omega, by simpa using h⟩
  · rintro ⟨h0, h1, h2⟩
    exact ⟨⟨x.toNat, List.mem_range.mpr (by omega), by omega⟩, by simpa using h2⟩
theorem cnt_gi {r : List Int} (h : Row r) {t j : Nat} : (j : Int) < gi r t ↔ t < cnt r j := by
  by_cases ht : t < r.length
  · rw [gi_get ht]; exact cnt_iff h ht _
  · have := cnt_le r j
    rw [gi_out (by rw [Int.toNat_natCast]; omega)]
    omega
/-- the gaps below a bead -/
theorem gaps_row {r : List Int} (h : Row r) {m k : Nat} (hm : r.length ≤ m) (hk : k < m) : gapsM (beadsM r m) (gi r k + m - 1 - k).toNat = (List.range (gi r k).toNat).map fun j : Nat => (j : Int) + m - cnt r j := by
  have hR := beads_rises h m
  have hg0 := h.gi_nn (k : Int)
  refine (List.Sublist.eq_of_length (incr_sub ?_ (gaps_rise _ _) fun x hx => ?_) ?_).symm
  · refine List.pairwise_iff_getElem.mpr fun i j hi hj hij => ?_
    simp only [List.getElem_map, List.getElem_range]
    have := cnt_anti r (show (i : Int) ≤ j by omega)
    omega
  · obtain ⟨j, hj, rfl⟩ := List.mem_map.mp hx
    have hj' := List.mem_range.mp hj
    have c1 := (cnt_gi h (t := k) (j := j)).mp (by omega)
    have c2 := cnt_le r j
    refine mem_gaps.mpr ⟨by omega, by omega, fun z => ?_⟩
    obtain ⟨i, hi, e⟩ := mem_gi z
    rw [beads_len] at hi
    rw [beads_get hi, show (m : Int) - 1 - i = ((m - 1 - i : Nat) : Int) by omega] at e
    have c3 := cnt_gi h (t := m - 1 - i) (j := j)
    by_cases c : m - 1 - i < cnt r j
    · have := c3.mpr c
      omega
    · have : ¬ (j : Int) < gi r ((m - 1 - i : Nat) : Int) := fun z => c (c3.mp z)
      omega
  · have e1 : gi (beadsM r m) ((m - 1 - k : Nat) : Int) = gi r k + m - 1 - k := by
      rw [beads_get (by omega), show (m : Int) - 1 - ((m - 1 - k : Nat) : Int) = k by omega]
      omega
    have e2 := lessN_at hR.rise (i := m - 1 - k) (by rw [beads_len]; omega)
    have e3 := gaps_count hR (gi r k + m - 1 - k).toNat
    rw [show (((gi r k + m - 1 - k).toNat : Nat) : Int) = gi r k + m - 1 - k by omega, ← e1, e2] at e3
    rw [List.length_map, List.length_range, ← e1]
    omega
def lineM (r : List Int) (k : Nat) : List Int := (List.range (gi r k).toNat).map fun j : Nat => hookAt r k j
theorem diffs_eq {r : List Int} (h : Row r) {m : Nat} (hm : r.length ≤ m) : (pairsM (beadsM r m)).map (fun p => p.1 - p.2) = (List.range m).flatMap fun i => lineM r (m - 1 - i) := by
  unfold pairsM
  rw [List.map_flatMap]
  have e : ∀ (l : List Nat), (∀ i ∈ l, i < m) → (l.map fun i : Nat => gi r ((m : Int) - 1 - i) + i).flatMap (fun b => ((gapsM (beadsM r m) b.toNat).map fun g => (b, g)).map fun p => p.1 - p.2) = l.flatMap fun i => lineM r (m - 1 - i) := by
    intro l
    induction l with
    | nil => intro _; rfl
    | cons i l ih =>
      intro hl
      have hi := hl i List.mem_cons_self
      rw [List.map_cons, List.flatMap_cons, List.flatMap_cons, ih fun j hj => hl j (List.mem_cons_of_mem _ hj)]
      congr 1
      have q := gaps_row h hm (k := m - 1 - i) (by omega)
      have e1 : gi r ((m - 1 - i : Nat) : Int) + m - 1 - ((m - 1 - i : Nat) : Int) = gi r ((m : Int) - 1 - i) + i := by
        rw [show ((m - 1 - i : Nat) : Int) = (m : Int) - 1 - i by omega]
        omega
      rw [e1] at q
      rw [q, List.map_map, List.map_map]
      unfold lineM
      refine List.map_congr_left fun j _ => ?_
      show gi r ((m : Int) - 1 - i) + i - ((j : Int) + m - cnt r j) = hookAt r (m - 1 - i) j
      unfold hookAt
      rw [show ((m - 1 - i : Nat) : Int) = (m : Int) - 1 - i by omega]
      omega
  exact e (List.range m) fun i hi => List.mem_range.mp hi
theorem lines_eq (r : List Int) : hooksM r = (List.range r.length).map (lineM r) := rfl
theorem line_out {r : List Int} {k : Nat} (h : r.length ≤ k) : lineM r k = [] := by
  unfold lineM
  rw [gi_out (by rw [Int.toNat_natCast]; exact h)]
  rfl
theorem diffs_perm {r : List Int} (h : Row r) {m : Nat} (hm : r.length ≤ m) : ((pairsM (beadsM r m)).map fun p => p.1 - p.2).Perm (hooksM r).flatten := by
  rw [diffs_eq h hm, lines_eq, ← List.flatMap_def]
  have e1 : (List.range m).flatMap (fun i => lineM r (m - 1 - i)) = (List.range m).reverse.flatMap (lineM r) := by
    have : (List.range m).reverse = (List.range m).map fun i => m - 1 - i := by
      refine List.ext_getElem (by simp) fun i h1 h2 => ?_
      simp
    rw [this, List.flatMap_map]
  have e2 : (List.range m).flatMap (lineM r) = (List.range r.length).flatMap (lineM r) := by
    obtain ⟨d, rfl⟩ : ∃ d, m = r.length + d := ⟨m - r.length, by omega⟩
    clear hm e1
    induction d with
    | zero => rfl
    | succ d ih => rw [← Nat.add_assoc, List.range_succ, List.flatMap_append, ih, List.flatMap_singleton, line_out (by omega), List.append_nil]
  rw [e1, ← e2]
  exact (List.reverse_perm _).flatMap_right _
/-! ### sorted numbers -/
def sortI (r : List Int) : List Int := r.mergeSort fun a b => decide (a ≤ b)
theorem sortI_perm (r : List Int) : (sortI r).Perm r := List.mergeSort_perm _ _
theorem sortI_rise (r : List Int) : (sortI r).Pairwise (· ≤ ·) :=
  (List.pairwise_mergeSort (le := fun a b => decide (a ≤ b)) (fun a b c h1 h2 => by simp at *; omega) (fun a b => by simp; omega) r).imp fun h => of_decide_eq_true h
theorem sortI_eq {r s : List Int} (h : r.Perm s) : sortI r = sortI s := sorted_one ((sortI_perm r).trans (h.trans (sortI_perm s).symm)) (sortI_rise r) (sortI_rise s)
theorem sortI_self {r : List Int} (h : r.Pairwise (· ≤ ·)) : sortI r = r := sorted_one (sortI_perm r) (sortI_rise r) h
theorem sortI_len (r : List Int) : (sortI r).length = r.length := (sortI_perm r).length_eq
theorem sortI_mem {r : List Int} {x : Int} : x ∈ sortI r ↔ x ∈ r := (sortI_perm r).mem_iff
theorem map_gi (r : List Int) : (List.range r.length).map (fun k : Nat => gi r k) = r := by
  refine List.ext_getElem (by simp) fun i h1 h2 => ?_
  rw [List.getElem_map, List.getElem_range, gi_get h2]
theorem hooks_len {r : List Int} (h : Row r) : (((hooksM r).flatten).length : Int) = r.sum := by
  rw [lines_eq, ← List.flatMap_def]
  have e : ∀ n : Nat, n ≤ r.length → (((List.range n).flatMap (lineM r)).length : Int) = ((List.range n).map fun k : Nat => gi r k).sum := by
    intro n hn
    induction n with
    | zero => rfl
    | succ n ih =>
      rw [List.range_succ, List.flatMap_append, List.length_append, List.map_append, List.sum_append, Int.natCast_add, ih (by omega), List.flatMap_singleton, List.map_singleton, List.sum_singleton]
      have := h.gi_nn (n : Int)
      unfold lineM
      rw [List.length_map, List.length_range]
      omega
  rw [e _ (Nat.le_refl _), map_gi]
theorem mem_hooks {r : List Int} {x : Int} : x ∈ (hooksM r).flatten ↔ ∃ k j : Nat, k < r.length ∧ (j : Int) < gi r k ∧ x = hookAt r k j := by
  rw [lines_eq, List.mem_flatten]
  constructor
  · rintro ⟨l, hl, hx⟩
    obtain ⟨k, hk, rfl⟩ := List.mem_map.mp hl
    obtain ⟨j, hj, rfl⟩ := List.mem_map.mp hx
    have := List.mem_range.mp hj
    exact ⟨k, j, List.mem_range.mp hk, by omega, rfl⟩
  · rintro ⟨k, j, hk, hj, rfl⟩
    exact ⟨lineM r k, List.mem_map.mpr ⟨k, List.mem_range.mpr hk, rfl⟩, List.mem_map.mpr ⟨j, List.mem_range.mpr (by omega), rfl⟩⟩
theorem hook_bounds {r : List Int} (h : Row r) {k j : Nat} (hk : k < r.length) (hj : (j : Int) < gi r k) : 1 ≤ hookAt r k j ∧ hookAt r k j ≤ gi r 0 + r.length - 1 := by
  unfold hookAt
  have c1 := (cnt_gi h).mp hj
  have c2 := cnt_le r j
  have c3 := h.gi_anti (i := 0) (j := k) (by omega) (by omega)
  omega
/-! ## rods -/
/-- the heights on rod k of n -/
def rodM (ps : List Int) (n k : Nat) : List Int := (ps.filter fun p => decide (p % (n : Int) = k)).map fun p => p / (n : Int)
theorem dm {n k : Nat} (hk : k < n) (h : Int) : (h * n + k) / (n : Int) = h ∧ (h * n + k) % (n : Int) = k :=
  (Int.ediv_emod_unique (show (0 : Int) < n by omega)).mpr ⟨by rw [Int.mul_comm h]; omega, by omega, by omega⟩
theorem dm_back {n : Nat} (p : Int) : p / (n : Int) * n + p % (n : Int) = p := by
  have := Int.mul_ediv_add_emod p (n : Int)
  rw [Int.mul_comm] at this
  exact this
theorem mem_rod {ps : List Int} {n k : Nat} (hk : k < n) {h : Int} : h ∈ rodM ps n k ↔ h * n + k ∈ ps := by
  unfold rodM
  rw [List.mem_map]
  constructor
  · rintro ⟨p, hp, rfl⟩
    obtain ⟨h1, h2⟩ := List.mem_filter.mp hp
    have e := of_decide_eq_true h2
    have := dm_back (n := n) p
    rw [e] at this
    rw [this]
    exact h1
  · intro hm
    obtain ⟨h1, h2⟩ := dm hk h
    exact ⟨_, List.mem_filter.mpr ⟨hm, decide_eq_true h2⟩, h1⟩
theorem div_lt {n : Nat} (hn : 0 < n) {p q : Int} (h : p < q) (e : p % (n : Int) = q % (n : Int)) : p / (n : Int) < q / (n : Int) := by
  have h1 := Int.mul_ediv_add_emod p (n : Int)
  have h2 := Int.mul_ediv_add_emod q (n : Int)
  have : (n : Int) * (p / n) < (n : Int) * (q / n) := by omega
  exact Int.lt_of_mul_lt_mul_left this (by omega)
theorem rod_rises {ps : List Int} {n : Nat} (hn : 0 < n) (h : Rises ps) (k : Nat) : Rises (rodM ps n k) := by
  unfold rodM
  refine ⟨fun x m => ?_, ?_⟩
  · obtain ⟨p, hp, rfl⟩ := List.mem_map.mp m
    exact Int.ediv_nonneg (h.nn p (List.mem_filter.mp hp).1) (by omega)
  · refine List.pairwise_map.mpr ?_
    refine List.Pairwise.imp_of_mem ?_ (List.Pairwise.filter _ h.rise)
    intro a b ha hb hab
    have e1 := of_decide_eq_true (List.mem_filter.mp ha).2
    have e2 := of_decide_eq_true (List.mem_filter.mp hb).2
    exact div_lt hn hab (e1.trans e2.symm)
/-- two lists of beads with the same rods -/
theorem ext_rods {ps qs : List Int} {n : Nat} (hn : 0 < n) (hp : Rises ps) (hq : Rises qs) (h : ∀ k, k < n → rodM ps n k = rodM qs n k) : ps = qs := by
  refine incr_eq hp.rise hq.rise fun x => ?_
  have h0 : 0 ≤ x % (n : Int) := Int.emod_nonneg _ (by omega)
  have h1 : x % (n : Int) < n := Int.emod_lt_of_pos _ (by omega)
  have hk : (x % (n : Int)).toNat < n := by omega
  have e : x / (n : Int) * n + ((x % (n : Int)).toNat : Int) = x := by
    have := dm_back (n := n) x
    omega
  have a := mem_rod (ps := ps) hk (h := x / (n : Int))
  have b := mem_rod (ps := qs) hk (h := x / (n : Int))
  rw [e] at a b
  rw [← a, ← b, h _ hk]
/-- heights put together -/
def gatherP (hs : List (List Int)) : List Int := (List.range hs.length).flatMap fun k => (hs.getD k []).map fun h => h * (hs.length : Int) + (k : Int)
def placesOf (hs : List (List Int)) : List Int := sortI (gatherP hs)
def AllR (hs : List (List Int)) : Prop := ∀ k, k < hs.length → Rises (hs.getD k [])
theorem mem_gather {hs : List (List Int)} {k : Nat} (hk : k < hs.length) {h : Int} : h * (hs.length : Int) + k ∈ gatherP hs ↔ h ∈ hs.getD k [] := by
  unfold gatherP
  rw [List.mem_flatMap]
  constructor
  · rintro ⟨j, hj, hm⟩
    obtain ⟨g, hg, e⟩ := List.mem_map.mp hm
    have hj' := List.mem_range.mp hj
    obtain ⟨a1, a2⟩ := dm hk h
    obtain ⟨b1, b2⟩ := dm hj' g
    rw [e] at b1 b2
    have e1 : h = g := a1.symm.trans b1
    have e2 : (k : Int) = j := a2.symm.trans b2
    have e3 : k = j := by omega
    subst e1 e3
    exact hg
  · intro hm
    exact ⟨k, List.mem_range.mpr hk, List.mem_map.mpr ⟨h, hm, rfl⟩⟩
theorem gather_nodup {hs : List (List Int)} (h : AllR hs) : (gatherP hs).Nodup := by
  unfold gatherP
  refine List.pairwise_flatMap.mpr ⟨fun k hk => ?_, ?_⟩
  · have hk' := List.mem_range.mp hk
    refine List.pairwise_map.mpr (List.Pairwise.imp ?_ (h k hk').rise)
    intro a b hab e
    have : a * (hs.length : Int) = b * (hs.length : Int) := by omega
    have := Int.eq_of_mul_eq_mul_right (show (hs.length : Int) ≠ 0 by omega) this
    omega
  · refine List.pairwise_iff_getElem.mpr fun i j hi hj hij x hx y hy e => ?_
    rw [List.length_range] at hi hj
    rw [List.getElem_range] at hx hy
    obtain ⟨a, _, rfl⟩ := List.mem_map.mp hx
    obtain ⟨b, _, rfl⟩ := List.mem_map.mp hy
    have h1 := (dm hi a).2
    have h2 := (dm hj b).2
    rw [e] at h1
    have := h1.symm.trans h2
    omega
theorem sortI_lt {l : List Int} (h : l.Nodup) : (sortI l).Pairwise (· < ·) := by
  have h1 := sortI_rise l
  have h2 : (sortI l).Nodup := (sortI_perm l).nodup_iff.mpr h
  exact List.Pairwise.imp₂ (fun a b (x : a ≤ b) (y : a ≠ b) => by omega) h1 h2
theorem places_rises {hs : List (List Int)} (h : AllR hs) : Rises (placesOf hs) := by
  refine ⟨fun x m => ?_, sortI_lt (gather_nodup h)⟩
  have m' := sortI_mem.mp m
  unfold gatherP at m'
  obtain ⟨k, hk, hm⟩ := List.mem_flatMap.mp m'
  obtain ⟨g, hg, rfl⟩ := List.mem_map.mp hm
  have := (h k (List.mem_range.mp hk)).nn g hg
  have := Int.mul_nonneg this (show (0 : Int) ≤ hs.length by omega)
  omega
theorem rod_places {hs : List (List Int)} (h : AllR hs) {k : Nat} (hk : k < hs.length) : rodM (placesOf hs) hs.length k = hs.getD k [] := by
  refine incr_eq (rod_rises (by omega) (places_rises h) k).rise (h k hk).rise fun x => ?_
  rw [mem_rod hk]
  unfold placesOf
  rw [sortI_mem, mem_gather hk]
def rodsM (ps : List Int) (n : Nat) : List (List Int) := (List.range n).map fun k => rodM ps n k
theorem rods_len (ps : List Int) (n : Nat) : (rodsM ps n).length = n := by simp [rodsM]
theorem rods_get {ps : List Int} {n k : Nat} (hk : k < n) : (rodsM ps n).getD k [] = rodM ps n k := by
  rw [getD_get (by rw [rods_len]; exact hk)]
  simp [rodsM]
theorem rods_all {ps : List Int} {n : Nat} (h : Rises ps) : AllR (rodsM ps n) := fun k hk => by
  rw [rods_len] at hk
  rw [rods_get hk]
  exact rod_rises (by omega) h k
theorem places_rods {ps : List Int} {n : Nat} (hn : 0 < n) (h : Rises ps) : placesOf (rodsM ps n) = ps := by
  refine ext_rods hn (places_rises (rods_all h)) h fun k hk => ?_
  have := rod_places (rods_all h) (k := k) (by rw [rods_len]; exact hk)
  rw [rods_len, rods_get hk] at this
  exact this
theorem rods_places {hs : List (List Int)} (h : AllR hs) : rodsM (placesOf hs) hs.length = hs := by
  refine eq_of_getD (d := []) (rods_len _ _) fun k hk => ?_
  rw [rods_get hk, rod_places h hk]
theorem gather_len (hs : List (List Int)) : (gatherP hs).length = (hs.map List.length).sum := by
  unfold gatherP
  rw [List.length_flatMap]
  congr 1
  refine List.ext_getElem (by simp) fun i h1 h2 => ?_
  simp only [List.length_map, List.length_range] at h1
  simp only [List.getElem_map, List.getElem_range, List.length_map]
  rw [getD_get h1]
theorem rods_total {ps : List Int} {n : Nat} (hn : 0 < n) (h : Rises ps) : ((rodsM ps n).map List.length).sum = ps.length := by
  rw [← gather_len, ← sortI_len]
  exact congrArg List.length (places_rods hn h)
/-! ### one bead more at nought, all others one up: the row stays -/
theorem beads_succ {r : List Int} {m : Nat} (h : r.length ≤ m) : beadsM r (m + 1) = 0 :: (beadsM r m).map (· + 1) := by
  refine eq_of_gi (by rw [List.length_cons, List.length_map, beads_len, beads_len]) fun k hk => ?_
  rw [List.length_cons, List.length_map, beads_len] at hk
  rw [beads_get hk]
  cases k with
  | zero =>
    rw [gi_out (by omega)]
    rfl
  | succ k =>
    have hk' : k < m := by omega
    rw [gi_cons_succ, gi_get (by rw [List.length_map, beads_len]; exact hk'), List.getElem_map, ← gi_get (by rw [beads_len]; exact hk'), beads_get hk', show ((m + 1 : Nat) : Int) - 1 - ((k + 1 : Nat) : Int) = (m : Int) - 1 - k by omega]
    omega
theorem off_shift (ps : List Int) : offM (0 :: ps.map (· + 1)) = offM ps ++ [0] := by
  unfold offM
  rw [List.length_cons, List.length_map, List.range_succ_eq_map, List.map_cons, List.reverse_cons, List.map_map]
  congr 1
  congr 1
  refine List.map_congr_left fun k hk => ?_
  have hk' := List.mem_range.mp hk
  show gi (0 :: ps.map (· + 1)) ((k + 1 : Nat) : Int) - ((k + 1 : Nat) : Int) = _
  rw [gi_cons_succ, gi_get (by rw [List.length_map]; exact hk'), List.getElem_map, ← gi_get hk']
  omega
theorem rowOf_shift (ps : List Int) : rowOfM (0 :: ps.map (· + 1)) = rowOfM ps := by
  unfold rowOfM
  rw [off_shift, List.filter_append]
  show _ ++ [] = _
  rw [List.append_nil]
theorem rises_shift {ps : List Int} (h : Rises ps) : Rises (0 :: ps.map (· + 1)) := by
  refine ⟨fun x m => ?_, List.pairwise_cons.mpr ⟨fun x m => ?_, List.pairwise_map.mpr (h.rise.imp fun q => by omega)⟩⟩
  · rcases List.mem_cons.mp m with rfl | m
    · exact Int.le_refl _
    · obtain ⟨y, hy, rfl⟩ := List.mem_map.mp m
      have := h.nn y hy
      omega
  · obtain ⟨y, hy, rfl⟩ := List.mem_map.mp m
    have := h.nn y hy
    omega
/-- n beads more -/
def shiftN (ps : List Int) (n : Nat) : List Int := (List.range n).map (fun k : Nat => (k : Int)) ++ ps.map (· + (n : Int))
theorem shift_succ (ps : List Int) (n : Nat) : shiftN ps (n + 1) = 0 :: (shiftN ps n).map (· + 1) := by
  unfold shiftN
  rw [List.range_succ_eq_map, List.map_cons, List.map_append, List.map_map, List.map_map, List.map_map, List.cons_append]
  congr 1
  congr 1
  refine List.map_congr_left fun p _ => ?_
  show p + ((n + 1 : Nat) : Int) = p + (n : Int) + 1
  omega
theorem shift_zero (ps : List Int) : shiftN ps 0 = ps := by
  unfold shiftN
  show [] ++ ps.map (· + ((0 : Nat) : Int)) = ps
  rw [List.nil_append]
  refine (List.map_congr_left fun p _ => ?_).trans (List.map_id _)
  show p + ((0 : Nat) : Int) = id p
  show p + 0 = p
  omega
theorem beads_add {r : List Int} {m : Nat} (h : r.length ≤ m) : ∀ n, beadsM r (m + n) = shiftN (beadsM r m) n
  | 0 => (shift_zero _).symm
  | n + 1 => by rw [← Nat.add_assoc, beads_succ (by omega), beads_add h n, shift_succ]
theorem rowOf_shiftN (ps : List Int) : ∀ n, rowOfM (shiftN ps n) = rowOfM ps
  | 0 => by rw [shift_zero]
  | n + 1 => by rw [shift_succ, rowOf_shift, rowOf_shiftN ps n]
theorem rises_shiftN {ps : List Int} (h : Rises ps) : ∀ n, Rises (shiftN ps n)
  | 0 => by rw [shift_zero]; exact h
  | n + 1 => by rw [shift_succ]; exact rises_shift (rises_shiftN h n)
theorem rod_shift {ps : List Int} {n k : Nat} (h : Rises ps) (hk : k < n) : rodM (shiftN ps n) n k = 0 :: (rodM ps n k).map (· + 1) := by
  refine incr_eq (rod_rises (by omega) (rises_shiftN h n) k).rise (rises_shift (rod_rises (by omega) h k)).rise fun x => ?_
  rw [mem_rod hk]
  unfold shiftN
  rw [List.mem_append, List.mem_map, List.mem_map, List.mem_cons, List.mem_map]
  constructor
  · rintro (⟨j, hj, e⟩ | ⟨p, hp, e⟩)
    · left
      have hj' := List.mem_range.mp hj
      have q := (dm hk x).1
      rw [← e] at q
      rw [Int.ediv_eq_zero_of_lt (by omega) (by omega)] at q
      exact q.symm
    · right
      refine ⟨x - 1, (mem_rod hk).mpr ?_, by omega⟩
      have : (x - 1) * (n : Int) = x * n - n := by rw [Int.sub_mul, Int.one_mul]
      rw [this, show x * (n : Int) - n + k = p by omega]
      exact hp
  · rintro (rfl | ⟨y, hy, rfl⟩)
    · left
      exact ⟨k, List.mem_range.mpr hk, by omega⟩
    · right
      refine ⟨_, (mem_rod hk).mp hy, ?_⟩
      rw [Int.add_mul, Int.one_mul]
      omega
/-! ## parted to rods -/
def upM (l n : Nat) : Nat := (l + n - 1) / n * n
theorem up_ge (l : Nat) {n : Nat} (hn : 0 < n) : l ≤ upM l n := by
  unfold upM
  have h1 := Nat.div_add_mod (l + n - 1) n
  have h2 := Nat.mod_lt (l + n - 1) hn
  rw [Nat.mul_comm] at h1
  omega
theorem up_le (l n : Nat) : upM l n ≤ l + n - 1 := Nat.div_mul_le_self _ _
theorem up_cast (l : Nat) {n : Nat} (hn : 0 < n) : ((l : Int) + n - 1) / (n : Int) * n = ((upM l n : Nat) : Int) := by
  unfold upM
  rw [Int.natCast_mul, Int.natCast_ediv, show ((l + n - 1 : Nat) : Int) = (l : Int) + n - 1 by omega]
def spreadM (r : List Int) (n : Nat) : List (List Int) := rodsM (beadsM r (upM r.length n)) n
def idL (l : Nat) : List Int := (List.range l).map fun i : Nat => (i : Int)
theorem id_rises (l : Nat) : Rises (idL l) := by
  refine ⟨fun x m => ?_, List.pairwise_iff_getElem.mpr fun i j hi hj hij => ?_⟩
  · obtain ⟨i, _, rfl⟩ := List.mem_map.mp m
    omega
  · simp only [idL, List.getElem_map, List.getElem_range]
    omega
theorem id_len (l : Nat) : (idL l).length = l := by simp [idL]
def quotM (r : List Int) (n : Nat) : List (List Int) := (spreadM r n).map rowOfM
def flatL (hs : List (List Int)) : List (List Int) := hs.map fun h => idL h.length
def coreM (r : List Int) (n : Nat) : List Int := rowOfM (placesOf (flatL (spreadM r n)))
def chM (r : List Int) (n : Nat) : List Int := (spreadM r n).map fun h => (h.length : Int) - (upM r.length n : Int) / n
def RodsOk (n : Int) : Prop := 1 ≤ n ∧ n ≤ 8
theorem RodsOk.nat {n : Int} (h : RodsOk n) : ∃ k : Nat, n = k ∧ 0 < k ∧ k ≤ 8 := ⟨n.toNat, by have := h.1; omega, by have := h.1; omega, by have := h.2; omega⟩
abbrev N_known : List Str := ["rods"]
def rd_known (K : Frg) (C : Ec) (W : WX) : TS := (tIfS (tOr (tTest (tOp rLtI (tVar 0) (tC (.int 1)))) (tTest (tOp rGtI (tVar 0) (tC (.int 8)))))
  (tRz W C.NoRods) tNext)
def R_known (C : Ec) (ds : List PyData) (o : Except Addr PyData) : Prop := ∃ n : Int, ds = [.int n] ∧ ((RodsOk n ∧ o = .ok .none) ∨ (¬ RodsOk n ∧ o = .error C.NoRods))
theorem len_known {C : Ec} (ds : List PyData) (o : Except Addr PyData) : R_known C ds o → ds.length = ["rods"].length := by
  rintro ⟨_, rfl, _⟩; rfl
theorem does_known {K : Frg} {C : Ec} {W : WX} {ds : List PyData} {o : Except Addr PyData} : R_known C ds o → FnDoes K W (rd_known K C W) (entry N_known ds) o := by
  rintro ⟨n, rfl, ⟨h, rfl⟩ | ⟨h, rfl⟩⟩
  · obtain ⟨h1, h2⟩ := h
    exact .inr ⟨rfl, [.fr (.int n)], does_iff ((et_or (et_test (ev_lt (ev_var rfl) ev_int)) fun _ => et_test (ev_gt (ev_var rfl) ev_int)).cast (by rw [decide_eq_false (by omega), decide_eq_false (by omega)]; rfl)) does_next⟩
  · refine ⟨[.fr (.int n)], does_ift ((et_or (et_test (ev_lt (ev_var rfl) ev_int)) fun _ => et_test (ev_gt (ev_var rfl) ev_int)).cast ?_) does_rz⟩
    unfold RodsOk at h
    by_cases c : n < 1
    · rw [decide_eq_true c]; rfl
    · rw [decide_eq_false c, decide_eq_true (show 8 < n by omega)]; rfl
abbrev N_spread : List Str := ["row", "rods", "many", "places", "k", "place"]
def rd_spread (K : Frg) (C : Ec) (W : WX) : TS := (tSeq (tDrop (tCallS (spOf K (R_known C)) (WE W) (tCons (tVar 1) tNil)))
  (tSeq (tAsg (tOp rMulA (tOp rDivI (tOp rSubI (tOp rAddA (tCB (rLenA K) (tCons (tVar 0) tNil)) (tVar 1)) (tC (.int 1))) (tVar 1)) (tVar 1)) (gName 2))
  (tSeq (tAsg (tCallS (spOf K (R_beads C)) (WE W) (tCons (tVar 0) (tCons (tVar 2) tNil))) (gName 3))
  (tRet (tLc (iRng1 (tCons (tVar 1) tNil)) (gName 4) tYes (tLc (iList K (tVar 3)) (gName 5) (tTest (tOp (rEqA K) (tOp rModI (tVar 5) (tVar 1)) (tVar 4))) (tOp rDivI (tVar 5) (tVar 1)) [5]) [4])))))
def R_spread (C : Ec) (ds : List PyData) (o : Except Addr PyData) : Prop := ∃ (r : List Int) (n : Int), ds = [dR r, .int n] ∧ r.length ≤ 10000 ∧ ((RodsOk n ∧ o = .ok (dRR (spreadM r n.toNat))) ∨ (¬ RodsOk n ∧ o = .error C.NoRods))
theorem len_spread {C : Ec} (ds : List PyData) (o : Except Addr PyData) : R_spread C ds o → ds.length = ["row", "rods"].length := by
  rintro ⟨_, _, rfl, _⟩; rfl
theorem does_spread {K : Frg} {C : Ec} {W : WX} {ds : List PyData} {o : Except Addr PyData} : R_spread C ds o → FnDoes K W (rd_spread K C W) (entry N_spread ds) o := by
  rintro ⟨r, n, rfl, hl, ⟨h, rfl⟩ | ⟨h, rfl⟩⟩
  · refine .inl ?_
    obtain ⟨k, rfl, hk0, hk8⟩ := h.nat
    rw [Int.toNat_natCast]
    show Does K W (rd_spread K C W) [.fr (dR r), .fr (.int k), .no, .no, .no, .no] (.rt (dRR (spreadM r k)))
    have hup := up_ge r.length hk0
    have hle := up_le r.length k
    refine does_seq (does_drop (Evf.r (evf_callS (eva_cons (ev_var rfl) eva_nil) ⟨k, rfl, .inl ⟨h, rfl⟩⟩))) ?_
    refine does_seq (does_asgi (Evr.cast (ev_mul (ev_div (ev_sub (ev_add (ev_len (ev_var rfl)) (ev_var rfl)) ev_int) (ev_var rfl) (by omega)) (ev_var rfl) (mul_r (by omega))) (by rw [up_cast _ hk0]))) ?_
    refine does_seq (does_asg (evf_callS (eva_cons (ev_var rfl) (eva_cons (ev_var rfl) eva_nil)) ⟨r, _, rfl, by omega, by omega, .inr ⟨by omega, rfl⟩⟩)) ?_
    rw [Int.toNat_natCast]
    refine does_ret (Evf.cast (evf_mapRR (fun j : Nat => dR (rodM (beadsM r (upM r.length k)) k j)) (eva_cons (ev_var rfl) eva_nil) (by omega) (by omega) fun j hj => evf_lcLi (c := PyData.int) (fun p => decide (p % (k : Int) = j)) (fun p => p / (k : Int)) (ev_var rfl) (by rw [beads_len]; omega)
      (fun p _ => et_test (ev_eqi (ev_mod (ev_var rfl) (ev_var rfl) (by omega)) (ev_var rfl))) fun p _ _ => ev_div (ev_var rfl) (ev_var rfl) (by omega)) ?_)
    unfold spreadM rodsM
    rw [Int.toNat_natCast, dRR, List.map_map]
    rfl
  · exact ⟨_, does_seq_ex (does_dropx (evx_callS (eva_cons (ev_var rfl) eva_nil) ⟨n, rfl, .inr ⟨h, rfl⟩⟩))⟩
abbrev N_gathered : List Str := ["heights", "rods", "places", "k", "height"]
def rd_gathered (K : Frg) (C : Ec) (W : WX) : TS := (tSeq (tAsg (tCB (rLenA K) (tCons (tVar 0) tNil)) (gName 1))
  (tSeq (tAsg (tLst tNil) (gName 2))
  (tSeq (tFor (iRng1 (tCons (tVar 1) tNil)) (gName 3)
  (tDrop (tBM K "list" rExtend (tVar 2) (tCons (tLc (iList K (tOp (rIx K) (tVar 0) (tVar 3))) (gName 4) tYes (tOp rAddA (tOp rMulA (tVar 4) (tVar 1)) (tVar 3)) [4]) tNil))))
  (tRet (tCall (spOf K (R_row_of C)) [] E0 (tCons (tCB (rSortedI K) (tCons (tVar 2) tNil)) tNil))))))
def R_gathered (C : Ec) (ds : List PyData) (o : Except Addr PyData) : Prop := ∃ hs : List (List Int), ds = [dRR hs] ∧ hs.length ≤ 1000 ∧ (gatherP hs).length ≤ 100000 ∧ AllR hs ∧ o = .ok (dR (rowOfM (placesOf hs)))
theorem len_gathered {C : Ec} (ds : List PyData) (o : Except Addr PyData) : R_gathered C ds o → ds.length = ["heights"].length := by
  rintro ⟨_, rfl, _⟩; rfl
theorem does_gathered {K : Frg} {C : Ec} {W : WX} {ds : List PyData} {o : Except Addr PyData} : R_gathered C ds o → FnDoes K W (rd_gathered K C W) (entry N_gathered ds) o := by
  rintro ⟨hs, rfl, hl, hz, hA, rfl⟩
  refine .inl ?_
  show Does K W (rd_gathered K C W) [.fr (dRR hs), .no, .no, .no, .no] (.rt (dR (rowOfM (placesOf hs))))
  let P : Nat → List Int := fun i => (List.range i).flatMap fun k => (hs.getD k []).map fun h => h * (hs.length : Int) + (k : Int)
  have hP : ∀ i, i ≤ hs.length → (P i).length ≤ 100000 := fun i hi => by
    refine Nat.le_trans (List.Sublist.length_le ?_) hz
    obtain ⟨d, e⟩ : ∃ d, hs.length = i + d := ⟨hs.length - i, by omega⟩
    show (P i).Sublist (P hs.length)
    rw [e]
    clear e
    induction d with
    | zero => exact List.Sublist.refl _
    | succ d ih =>
      refine ih.trans ?_
      show (P (i + d)).Sublist (P (i + d + 1))
      have : P (i + d + 1) = P (i + d) ++ (hs.getD (i + d) []).map (fun h => h * (hs.length : Int) + ((i + d : Nat) : Int)) := by show (List.range (i + d + 1)).flatMap _ = _; rw [List.range_succ, List.flatMap_append, List.flatMap_singleton]
      rw [this]
      exact List.sublist_append_left _ _
  refine does_seq (does_asgi (ev_len (c := dR) (xs := hs) (ev_var rfl))) ?_
  refine does_seq (does_asg (evf_lst evaf_nil)) ?_
  refine does_seq (does_forR (eva_cons (ev_var rfl) eva_nil) (by omega) (by omega) (fun i => [.fr (dRR hs), .fr (.int hs.length), .ow (dR (P i)), .no, .no]) rfl fun i hi => ⟨[.fr (dRR hs), .fr (.int hs.length), .ow (dR (P (i + 1))), .fr (.int i), .no], ?_, rfl⟩) ?_
  · have e : P (i + 1) = P i ++ (hs.getD i []).map fun h => h * (hs.length : Int) + (i : Int) := by
      show (List.range (i + 1)).flatMap _ = _
      rw [List.range_succ, List.flatMap_append, List.flatMap_singleton]
    have q := hP (i + 1) (by omega)
    rw [e] at q ⊢
    rw [List.length_append] at q
    refine does_extR rfl (evf_mapL (c := PyData.int) (xs := hs.getD i []) (fun h => h * (hs.length : Int) + (i : Int)) (Evr.cast (ev_ixRR (ev_var rfl) (ev_var rfl) (by omega) (by omega)) (by rw [Int.toNat_natCast])) (by rw [List.length_map] at q; omega) fun h _ => ev_add (ev_mul (ev_var rfl) (ev_var rfl) (mul_r (by omega))) (ev_var rfl)) (by omega)
  rw [Int.toNat_natCast]
  refine does_ret (evf_call (eva_cons (Evf.r (evf_sorted (s := placesOf hs) (ev_var rfl) (sortI_perm _) (sortI_rise _))) eva_nil) ⟨placesOf hs, rfl, ?_, .inl ⟨places_rises hA, rfl⟩⟩)
  unfold placesOf
  rw [sortI_len]
  exact hz
abbrev N_quotient : List Str := ["row", "rods", "heights"]
def rd_quotient (K : Frg) (C : Ec) (W : WX) : TS := (tRet (tLc (iList K (tCallS (spOf K (R_spread C)) (WE W) (tCons (tVar 0) (tCons (tVar 1) tNil)))) (gName 2) tYes (tCall (spOf K (R_row_of C)) [] E0 (tCons (tVar 2) tNil)) [2]))
def R_quotient (C : Ec) (ds : List PyData) (o : Except Addr PyData) : Prop := ∃ (r : List Int) (n : Int), ds = [dR r, .int n] ∧ Row r ∧ r.length ≤ 10000 ∧ ((RodsOk n ∧ o = .ok (dRR (quotM r n.toNat))) ∨ (¬ RodsOk n ∧ o = .error C.NoRods))
theorem len_quotient {C : Ec} (ds : List PyData) (o : Except Addr PyData) : R_quotient C ds o → ds.length = ["row", "rods"].length := by
  rintro ⟨_, _, rfl, _⟩; rfl
theorem mem_rods {ps x : List Int} {n : Nat} (m : x ∈ rodsM ps n) : ∃ k, k < n ∧ x = rodM ps n k := by
  obtain ⟨k, hk, rfl⟩ := List.mem_map.mp m
  exact ⟨k, List.mem_range.mp hk, rfl⟩
theorem rod_len (ps : List Int) (n k : Nat) : (rodM ps n k).length ≤ ps.length := by
  unfold rodM
  rw [List.length_map]
  exact List.length_filter_le _ _
theorem does_quotient {K : Frg} {C : Ec} {W : WX} {ds : List PyData} {o : Except Addr PyData} : R_quotient C ds o → FnDoes K W (rd_quotient K C W) (entry N_quotient ds) o := by
  rintro ⟨r, n, rfl, hr, hl, ⟨h, rfl⟩ | ⟨h, rfl⟩⟩
  · refine .inl ?_
    obtain ⟨k, rfl, hk0, hk8⟩ := h.nat
    have hle := up_le r.length k
    refine does_ret (Evf.cast (evf_mapLL (c := dR) (xs := spreadM r k) (fun x => dR (rowOfM x)) (Evf.r (evf_callS (eva_cons (ev_var rfl) (eva_cons (ev_var rfl) eva_nil)) ⟨r, k, rfl, by omega, .inl ⟨h, by rw [Int.toNat_natCast]⟩⟩)) (by unfold spreadM; rw [rods_len]; omega) fun x hx => evf_call (eva_cons (ev_var rfl) eva_nil) ?_) ?_)
    · obtain ⟨j, hj, rfl⟩ := mem_rods hx
      have := rod_len (beadsM r (upM r.length k)) k j
      rw [beads_len] at this
      exact ⟨_, rfl, by omega, .inl ⟨rod_rises hk0 (beads_rises hr _) j, rfl⟩⟩
    · unfold quotM
      rw [Int.toNat_natCast, dRR, List.map_map]
      rfl
  · exact ⟨_, does_retx (evx_lcL (evx_callS (eva_cons (ev_var rfl) (eva_cons (ev_var rfl) eva_nil)) ⟨r, n, rfl, by omega, .inr ⟨h, rfl⟩⟩))⟩
abbrev N_core : List Str := ["row", "rods", "heights"]
def rd_core (K : Frg) (C : Ec) (W : WX) : TS := (tRet (tCall (spOf K (R_gathered C)) [] E0 (tCons (tLc (iList K (tCallS (spOf K (R_spread C)) (WE W) (tCons (tVar 0) (tCons (tVar 1) tNil)))) (gName 2) tYes (tLstRg (tRg1 (tCB (rLenA K) (tCons (tVar 2) tNil)))) [2]) tNil)))
def R_core (C : Ec) (ds : List PyData) (o : Except Addr PyData) : Prop := ∃ (r : List Int) (n : Int), ds = [dR r, .int n] ∧ Row r ∧ r.length ≤ 10000 ∧ ((RodsOk n ∧ o = .ok (dR (coreM r n.toNat))) ∨ (¬ RodsOk n ∧ o = .error C.NoRods))
theorem len_core {C : Ec} (ds : List PyData) (o : Except Addr PyData) : R_core C ds o → ds.length = ["row", "rods"].length := by
  rintro ⟨_, _, rfl, _⟩; rfl
theorem flat_all (hs : List (List Int)) : AllR (flatL hs) := fun k hk => by
  rw [getD_get hk]
  unfold flatL at hk ⊢
  rw [List.getElem_map]
  exact id_rises _
theorem flat_len (hs : List (List Int)) : (flatL hs).length = hs.length := by unfold flatL; rw [List.length_map]
theorem flat_total (hs : List (List Int)) : (gatherP (flatL hs)).length = (hs.map List.length).sum := by
  rw [gather_len]
  congr 1
  unfold flatL
  rw [List.map_map]
  refine List.map_congr_left fun x _ => id_len _
theorem does_core {K : Frg} {C : Ec} {W : WX} {ds : List PyData} {o : Except Addr PyData} : R_core C ds o → FnDoes K W (rd_core K C W) (entry N_core ds) o := by
  rintro ⟨r, n, rfl, hr, hl, ⟨h, rfl⟩ | ⟨h, rfl⟩⟩
  · refine .inl ?_
    obtain ⟨k, rfl, hk0, hk8⟩ := h.nat
    have hle := up_le r.length k
    have hb := beads_rises hr (upM r.length k)
    have ht := rods_total hk0 hb
    rw [beads_len] at ht
    refine does_ret (evf_call (eva_cons (Evf.r (Evf.cast (evf_mapLL (c := dR) (xs := spreadM r k) (fun x => dR (idL x.length)) (Evf.r (evf_callS (eva_cons (ev_var rfl) (eva_cons (ev_var rfl) eva_nil)) ⟨r, k, rfl, by omega, .inl ⟨h, by rw [Int.toNat_natCast]⟩⟩)) (by unfold spreadM; rw [rods_len]; omega)
      fun x hx => ?_) (show _ = dRR (flatL (spreadM r k)) by unfold flatL; rw [dRR, List.map_map]; rfl))) eva_nil) ⟨_, rfl, by rw [flat_len]; unfold spreadM; rw [rods_len]; omega, ?_, flat_all _, by rw [Int.toNat_natCast]; rfl⟩)
    · obtain ⟨j, hj, rfl⟩ := mem_rods hx
      have := rod_len (beadsM r (upM r.length k)) k j
      rw [beads_len] at this
      exact Evf.cast (evf_listRg (ev_len (ev_var rfl)) (by omega) (by omega)) (by rw [Int.toNat_natCast]; rfl)
    · rw [flat_total]
      unfold spreadM
      rw [ht]
      omega
  · exact ⟨_, does_retx (evx_arg0 (evax_1 (evx_lcL (evx_callS (eva_cons (ev_var rfl) (eva_cons (ev_var rfl) eva_nil)) ⟨r, n, rfl, by omega, .inr ⟨h, rfl⟩⟩))))⟩
abbrev N_is_core : List Str := ["row", "rods"]
def rd_is_core (K : Frg) (C : Ec) (W : WX) : TS := (tRet (tOp (rEqA K) (tCallS (spOf K (R_core C)) (WE W) (tCons (tVar 0) (tCons (tVar 1) tNil))) (tVar 0)))
def R_is_core (C : Ec) (ds : List PyData) (o : Except Addr PyData) : Prop := ∃ (r : List Int) (n : Int), ds = [dR r, .int n] ∧ Row r ∧ r.length ≤ 10000 ∧ ((RodsOk n ∧ o = .ok (.bool (decide (coreM r n.toNat = r)))) ∨ (¬ RodsOk n ∧ o = .error C.NoRods))
theorem len_is_core {C : Ec} (ds : List PyData) (o : Except Addr PyData) : R_is_core C ds o → ds.length = ["row", "rods"].length := by
  rintro ⟨_, _, rfl, _⟩; rfl
theorem does_is_core {K : Frg} {C : Ec} {W : WX} {ds : List PyData} {o : Except Addr PyData} : R_is_core C ds o → FnDoes K W (rd_is_core K C W) (entry N_is_core ds) o := by
  rintro ⟨r, n, rfl, hr, hl, ⟨h, rfl⟩ | ⟨h, rfl⟩⟩
  · exact .inl (does_retb (ev_eqR (Evf.r (evf_callS (eva_cons (ev_var rfl) (eva_cons (ev_var rfl) eva_nil)) ⟨r, n, rfl, hr, hl, .inl ⟨h, rfl⟩⟩)) (ev_var rfl)))
  · exact ⟨_, does_retx (evx_op1 (evx_callS (eva_cons (ev_var rfl) (eva_cons (ev_var rfl) eva_nil)) ⟨r, n, rfl, hr, hl, .inr ⟨h, rfl⟩⟩))⟩
abbrev N_charges : List Str := ["row", "rods", "heights", "many", "one"]
def rd_charges (K : Frg) (C : Ec) (W : WX) : TS := (tSeq (tAsg (tCallS (spOf K (R_spread C)) (WE W) (tCons (tVar 0) (tCons (tVar 1) tNil))) (gName 2))
  (tSeq (tAsg (tCB (rSum K) (tCons (tLc (iList K (tVar 2)) (gName 4) tYes (tCB (rLenA K) (tCons (tVar 4) tNil)) [4]) tNil)) (gName 3))
  (tRet (tLc (iList K (tVar 2)) (gName 4) tYes (tOp rSubI (tCB (rLenA K) (tCons (tVar 4) tNil)) (tOp rDivI (tVar 3) (tVar 1))) [4]))))
def R_charges (C : Ec) (ds : List PyData) (o : Except Addr PyData) : Prop := ∃ (r : List Int) (n : Int), ds = [dR r, .int n] ∧ Row r ∧ r.length ≤ 10000 ∧ ((RodsOk n ∧ o = .ok (dR (chM r n.toNat))) ∨ (¬ RodsOk n ∧ o = .error C.NoRods))
theorem len_charges {C : Ec} (ds : List PyData) (o : Except Addr PyData) : R_charges C ds o → ds.length = ["row", "rods"].length := by
  rintro ⟨_, _, rfl, _⟩; rfl
theorem sum_lens (hs : List (List Int)) : (hs.map fun h => (h.length : Int)).sum = ((hs.map List.length).sum : Nat) := by
  induction hs with
  | nil => rfl
  | cons h hs ih => rw [List.map_cons, List.sum_cons, ih, List.map_cons, List.sum_cons]; omega
theorem does_charges {K : Frg} {C : Ec} {W : WX} {ds : List PyData} {o : Except Addr PyData} : R_charges C ds o → FnDoes K W (rd_charges K C W) (entry N_charges ds) o := by
  rintro ⟨r, n, rfl, hr, hl, ⟨h, rfl⟩ | ⟨h, rfl⟩⟩
  · refine .inl ?_
    obtain ⟨k, rfl, hk0, hk8⟩ := h.nat
    have hle := up_le r.length k
    have hb := beads_rises hr (upM r.length k)
    have ht := rods_total hk0 hb
    rw [beads_len] at ht
    have hsl : (spreadM r k).length = k := rods_len _ _
    have e : ((spreadM r k).map fun h => (h.length : Int)).sum = (upM r.length k : Int) := by rw [sum_lens]; exact congrArg Nat.cast ht
    refine does_seq (does_asg (evf_callS (eva_cons (ev_var rfl) (eva_cons (ev_var rfl) eva_nil)) ⟨r, k, rfl, by omega, .inl ⟨h, by rw [Int.toNat_natCast]⟩⟩)) ?_
    refine does_seq (does_asgi (Evr.cast (ev_sum (Evf.r (evf_mapL (c := dR) (xs := spreadM r k) (fun x => (x.length : Int)) (ev_var rfl) (by omega) fun x _ => ev_len (ev_var rfl)))) (by rw [e]))) ?_
    rw [Int.toNat_natCast]
    exact does_ret (evf_mapL (c := dR) (xs := spreadM r k) (fun x => (x.length : Int) - (upM r.length k : Int) / k) (ev_var rfl) (by omega) fun x _ => ev_sub (ev_len (ev_var rfl)) (ev_div (ev_var rfl) (ev_var rfl) (by omega)))
  · exact ⟨_, does_seq_ex (does_asgx (evx_callS (eva_cons (ev_var rfl) (eva_cons (ev_var rfl) eva_nil)) ⟨r, n, rfl, by omega, .inr ⟨h, rfl⟩⟩))⟩
/-! ## the law's own parting -/
def toldL (ps : List Int) : List Int := ((sortI ps).reverse.map fun p => p - lessN ps p).filter fun x => decide (0 < x)
theorem lessN_perm {ps qs : List Int} (h : ps.Perm qs) (x : Int) : lessN ps x = lessN qs x := (h.filter _).length_eq
theorem told_eq {ps : List Int} (h : ps.Nodup) : toldL ps = rowOfM (sortI ps) := by
  unfold toldL rowOfM offM
  congr 1
  rw [List.map_reverse]
  congr 1
  conv => lhs; rw [← map_gi (sortI ps)]
  rw [List.map_map]
  refine List.map_congr_left fun k hk => ?_
  show gi (sortI ps) k - lessN ps (gi (sortI ps) k) = _
  rw [← lessN_perm (sortI_perm ps), lessN_at (sortI_lt h) (List.mem_range.mp hk)]
def loM (l n : Nat) : Nat := n * (1 + l / n)
def lspreadM (r : List Int) (n : Nat) : List (List Int) := rodsM (beadsM r (loM r.length n)) n
theorem lo_up (l : Nat) {n : Nat} (hn : 0 < n) : loM l n = upM l n ∨ loM l n = upM l n + n := by
  unfold loM upM
  have h1 := Nat.div_add_mod l n
  have h2 := Nat.mod_lt l hn
  by_cases c : l % n = 0
  · right
    have e : l + n - 1 = (n - 1) + n * (l / n) := by omega
    rw [e, Nat.add_mul_div_left _ _ hn, Nat.div_eq_of_lt (show n - 1 < n by omega), Nat.zero_add, Nat.mul_add, Nat.mul_one, Nat.mul_comm n]
    omega
  · left
    have e : l + n - 1 = (l % n - 1) + n * (1 + l / n) := by rw [Nat.mul_add, Nat.mul_one]; omega
    rw [e, Nat.add_mul_div_left _ _ hn, Nat.div_eq_of_lt (show l % n - 1 < n by omega), Nat.zero_add, Nat.mul_comm n]
theorem lo_ge (l : Nat) {n : Nat} (hn : 0 < n) : l ≤ loM l n := by
  have := up_ge l hn
  rcases lo_up l hn with h | h <;> omega
theorem lo_le (l : Nat) {n : Nat} (hn : 0 < n) : loM l n ≤ l + 2 * n := by
  have := up_le l n
  rcases lo_up l hn with h | h <;> omega
theorem lspread_or (r : List Int) {n : Nat} (hr : Row r) (hn : 0 < n) : lspreadM r n = spreadM r n ∨ lspreadM r n = (spreadM r n).map fun h => 0 :: h.map (· + 1) := by
  rcases lo_up r.length hn with h | h
  · left
    unfold lspreadM spreadM
    rw [h]
  · right
    unfold lspreadM spreadM rodsM
    rw [h, beads_add (up_ge _ hn), List.map_map]
    refine List.map_congr_left fun k hk => ?_
    exact rod_shift (beads_rises hr _) (List.mem_range.mp hk)
theorem lquot_eq {r : List Int} {n : Nat} (hr : Row r) (hn : 0 < n) : (lspreadM r n).map rowOfM = quotM r n := by
  unfold quotM
  rcases lspread_or r hr hn with h | h
  · rw [h]
  · rw [h, List.map_map]
    exact List.map_congr_left fun x _ => rowOf_shift x
theorem id_shift (l : Nat) : 0 :: (idL l).map (· + 1) = idL (l + 1) := by
  unfold idL
  rw [List.range_succ_eq_map, List.map_cons, List.map_map, List.map_map]
  congr 1
theorem places_shift {hs : List (List Int)} (hn : 0 < hs.length) : placesOf (flatL (hs.map fun h => 0 :: h.map (· + 1))) = shiftN (placesOf (flatL hs)) hs.length := by
  have hA := flat_all (hs.map fun h => 0 :: h.map (· + 1))
  have hB := flat_all hs
  refine ext_rods hn (places_rises hA) (rises_shiftN (places_rises hB) _) fun k hk => ?_
  rw [rod_shift (places_rises hB) hk]
  have q1 := rod_places hA (k := k) (by rw [flat_len, List.length_map]; exact hk)
  have q2 := rod_places hB (k := k) (by rw [flat_len]; exact hk)
  rw [flat_len, List.length_map] at q1
  rw [flat_len] at q2
  rw [q1, q2]
  unfold flatL
  rw [getD_get (by simpa using hk), getD_get (by simpa using hk)]
  simp only [List.getElem_map]
  rw [id_shift, List.length_cons, List.length_map]
theorem lcore_eq {r : List Int} {n : Nat} (hr : Row r) (hn : 0 < n) : rowOfM (placesOf (flatL (lspreadM r n))) = coreM r n := by
  unfold coreM
  rcases lspread_or r hr hn with h | h
  · rw [h]
  · rw [h, places_shift (by unfold spreadM; rw [rods_len]; exact hn), rowOf_shiftN]
theorem lch_eq {r : List Int} {n : Nat} (hr : Row r) (hn : 0 < n) : ((lspreadM r n).map fun h => (h.length : Int) - 1 - (r.length : Int) / n) = chM r n := by
  unfold chM
  have e1 : ((loM r.length n : Nat) : Int) / n = 1 + (r.length : Int) / n := by
    unfold loM
    rw [Int.natCast_mul, Int.mul_ediv_cancel_left _ (by omega), Int.natCast_add, Int.natCast_ediv]
    rfl
  rcases lo_up r.length hn with h | h
  · have e : lspreadM r n = spreadM r n := by unfold lspreadM spreadM; rw [h]
    rw [e]
    refine List.map_congr_left fun x _ => ?_
    rw [← h, e1]
    omega
  · have e : lspreadM r n = (spreadM r n).map fun h => 0 :: h.map (· + 1) := by
      unfold lspreadM spreadM rodsM
      rw [h, beads_add (up_ge _ hn), List.map_map]
      exact List.map_congr_left fun k hk => rod_shift (beads_rises hr _) (List.mem_range.mp hk)
    rw [e, List.map_map]
    refine List.map_congr_left fun x _ => ?_
    show ((0 :: x.map (· + 1)).length : Int) - 1 - (r.length : Int) / n = _
    rw [List.length_cons, List.length_map]
    rw [h, Int.natCast_add, Int.add_ediv_of_dvd_right (Int.dvd_refl _), Int.ediv_self (by omega)] at e1
    omega
theorem rods_step (ps : List Int) (p : Int) {n : Nat} (hn : 0 < n) : rodsM (ps ++ [p]) n = (rodsM ps n).set (p % (n : Int)).toNat ((rodM ps n (p % (n : Int)).toNat) ++ [p / (n : Int)]) := by
  have h0 : 0 ≤ p % (n : Int) := Int.emod_nonneg _ (by omega)
  have h1 : p % (n : Int) < n := Int.emod_lt_of_pos _ (by omega)
  unfold rodsM
  refine List.ext_getElem (by simp) fun k g1 g2 => ?_
  rw [List.getElem_set]
  simp only [List.getElem_map, List.getElem_range]
  unfold rodM
  rw [List.filter_append, List.map_append, List.filter_cons]
  by_cases e : (p % (n : Int)).toNat = k
  · subst e
    rw [if_pos rfl, if_pos (decide_eq_true (by omega))]
    rfl
  · rw [if_neg e, if_neg (fun z => e (by have := of_decide_eq_true z; omega))]
    show _ ++ [] = _
    rw [List.append_nil]
abbrev N_law_spread : List Str := ["row", "rods", "many", "heights", "k", "number", "place"]
def rd_law_spread (K : Frg) (C : Ec) (W : WX) : TS := (tSeq (tAsg (tOp rMulA (tVar 1) (tOp rAddA (tC (.int 1)) (tOp rDivI (tCB (rLenA K) (tCons (tVar 0) tNil)) (tVar 1)))) (gName 2))
  (tSeq (tAsg (tLc (iRng1 (tCons (tVar 1) tNil)) (gName 4) tYes (tLst tNil) [4]) (gName 3))
  (tSeq (tFor (iRng1 (tCons (tVar 2) tNil)) (gName 4)
  (tSeq (tAsg (tC (.int 0)) (gName 5))
  (tSeq (tIfS (tTest (tOp rLtI (tOp rSubI (tOp rSubI (tVar 2) (tC (.int 1))) (tVar 4)) (tCB (rLenA K) (tCons (tVar 0) tNil))))
  (tAsg (tOp (rIx K) (tVar 0) (tOp rSubI (tOp rSubI (tVar 2) (tC (.int 1))) (tVar 4))) (gName 5)) tNext)
  (tSeq (tAsg (tOp rAddA (tVar 5) (tVar 4)) (gName 6))
  (tDrop (tBM K "list" rAppend (tOp (rIx K) (tVar 3) (tOp rModI (tVar 6) (tVar 1))) (tCons (tOp rDivI (tVar 6) (tVar 1)) tNil)))))))
  (tRet (tVar 3)))))
def R_law_spread (C : Ec) (ds : List PyData) (o : Except Addr PyData) : Prop := ∃ (r : List Int) (n : Nat), ds = [dR r, .int n] ∧ Row r ∧ r.length ≤ 10000 ∧ 0 < n ∧ n ≤ 1000 ∧ o = .ok (dRR (lspreadM r n))
theorem len_law_spread {C : Ec} (ds : List PyData) (o : Except Addr PyData) : R_law_spread C ds o → ds.length = ["row", "rods"].length := by
  rintro ⟨_, _, rfl, _⟩; rfl
theorem does_law_spread {K : Frg} {C : Ec} {W : WX} {ds : List PyData} {o : Except Addr PyData} : R_law_spread C ds o → FnDoes K W (rd_law_spread K C W) (entry N_law_spread ds) o := by
  rintro ⟨r, n, rfl, hr, hl, hn, hn2, rfl⟩
  refine .inl ?_
  show Does K W (rd_law_spread K C W) [.fr (dR r), .fr (.int n), .no, .no, .no, .no, .no] (.rt (dRR (lspreadM r n)))
  have hlo := lo_le r.length hn
  have hge := lo_ge r.length hn
  have e0 : (n : Int) * (1 + (r.length : Int) / n) = (loM r.length n : Int) := by
    unfold loM
    rw [Int.natCast_mul, Int.natCast_add, Int.natCast_ediv]
    rfl
  refine does_seq (does_asgi (Evr.cast (ev_mul (ev_var rfl) (ev_add ev_int (ev_div (ev_len (ev_var rfl)) (ev_var rfl) (by omega))) (mul_l (by omega))) (by rw [e0]))) ?_
  have e1 : rodsM ((beadsM r (loM r.length n)).take 0) n = (List.range n).map fun _ => [] := List.map_congr_left fun k _ => rfl
  refine does_seq (does_asg (Evf.cast (evf_mapRR (fun _ => .list []) (eva_cons (ev_var rfl) eva_nil) (by omega) (by omega) fun k _ => evf_lst evaf_nil) (show _ = dRR (rodsM ((beadsM r (loM r.length n)).take 0) n) by rw [e1, dRR, List.map_map, Int.toNat_natCast]; rfl))) ?_
  have hbl := beads_len r (loM r.length n)
  refine does_seq (does_forR (n := (loM r.length n : Int)) (eva_cons (ev_var rfl) eva_nil) (by omega) (by omega) (fun i => [.fr (dR r), .fr (.int n), .fr (.int (loM r.length n)), .ow (dRR (rodsM ((beadsM r (loM r.length n)).take i) n)), .no, .no, .no]) rfl fun i hi =>
    ⟨[.fr (dR r), .fr (.int n), .fr (.int (loM r.length n)), .ow (dRR (rodsM ((beadsM r (loM r.length n)).take (i + 1)) n)), .fr (.int i), .no, .no], ?_, rfl⟩) ?_
  · have hi' : i < loM r.length n := by omega
    have hb := beads_get (r := r) hi'
    have hmem : (beadsM r (loM r.length n))[i]? = some (gi (beadsM r (loM r.length n)) i) := by
      rw [List.getElem?_eq_getElem (by omega), gi_get (by omega)]
    generalize hL : loM r.length n = L at *
    have e2 := rods_step ((beadsM r L).take i) (gi (beadsM r L) i) hn
    rw [← take_succ_some hmem] at e2
    generalize hp : gi (beadsM r L) i = p at *
    have h0 : 0 ≤ p % (n : Int) := Int.emod_nonneg _ (by omega)
    have h1 : p % (n : Int) < n := Int.emod_lt_of_pos _ (by omega)
    refine does_no 5 (ρ1 := [.fr (dR r), .fr (.int n), .fr (.int L), .ow (dRR (rodsM ((beadsM r L).take (i + 1)) n)), .fr (.int i), .fr (.int (gi r ((L : Int) - 1 - i))), .no]) (does_no 6 (ρ1 := [.fr (dR r), .fr (.int n), .fr (.int L), .ow (dRR (rodsM ((beadsM r L).take (i + 1)) n)), .fr (.int i), .fr (.int (gi r ((L : Int) - 1 - i))), .fr (.int p)]) ?_)
    refine does_seq (does_asgi ev_int) ?_
    refine does_seq (ρ1 := [.fr (dR r), .fr (.int n), .fr (.int L), .ow (dRR (rodsM ((beadsM r L).take i) n)), .fr (.int i), .fr (.int (gi r ((L : Int) - 1 - i))), .no]) ?_ ?_
    · by_cases c : (L : Int) - 1 - i < r.length
      · exact does_ift ((et_test (ev_lt (ev_sub (ev_sub (ev_var rfl) ev_int) (ev_var rfl)) (ev_len (ev_var rfl)))).cast (decide_eq_true c)) (does_asgi (ev_ix (ev_var rfl) (ev_sub (ev_sub (ev_var rfl) ev_int) (ev_var rfl)) (by omega) c))
      · refine does_iff ((et_test (ev_lt (ev_sub (ev_sub (ev_var rfl) ev_int) (ev_var rfl)) (ev_len (ev_var rfl)))).cast (decide_eq_false c)) (does_cast does_next ?_)
        rw [gi_out (by omega)]
        rfl
    refine does_seq (does_asgi (n := p) (Evr.cast (ev_add (ev_var rfl) (ev_var rfl)) (by rw [← hb]))) ?_
    refine does_cast (does_appix rfl (ev_mod (ev_var rfl) (ev_var rfl) (by omega)) (ev_div (ev_var rfl) (ev_var rfl) (by omega)) True.intro h0 (es := (rodM ((beadsM r L).take i) n (p % (n : Int)).toNat).map .int) ?_ ?_) ?_
    · rw [List.getElem?_map, List.getElem?_eq_getElem (by rw [rods_len]; omega)]
      unfold rodsM
      rw [List.getElem_map, List.getElem_range]
      rfl
    · rw [List.length_map]
      have := rod_len ((beadsM r L).take i) n (p % (n : Int)).toNat
      rw [List.length_take] at this
      omega
    · show Out.nx [_, _, _, Sl.ow (.list (((rodsM ((beadsM r L).take i) n).map dR).set (p % (n : Int)).toNat (.list ((rodM ((beadsM r L).take i) n (p % (n : Int)).toNat).map .int ++ [.int (p / (n : Int))])))), _, _, _] = _
      rw [e2, dRR, List.map_set]
      simp [dR, killS]
  · rw [Int.toNat_natCast, List.take_of_length_le (by omega)]
    exact does_retv rfl
abbrev N_law_told : List Str := ["places", "found", "place", "number", "other"]
def rd_law_told (K : Frg) (C : Ec) (W : WX) : TS := (tSeq (tAsg (tLst tNil) (gName 1))
  (tSeq (tFor (iList K (tRevL K (tCB (rSortedI K) (tCons (tVar 0) tNil)))) (gName 2)
  (tSeq (tAsg (tOp rSubI (tVar 2) (tCB (rLenA K) (tCons (tLc (iList K (tVar 0)) (gName 4) (tTest (tOp rLtI (tVar 4) (tVar 2))) (tVar 4) [4]) tNil))) (gName 3))
  (tIfS (tTest (tOp rGtI (tVar 3) (tC (.int 0))))
  (tDrop (tBM K "list" rAppend (tVar 1) (tCons (tVar 3) tNil))) tNext)))
  (tRet (tVar 1))))
def R_law_told (C : Ec) (ds : List PyData) (o : Except Addr PyData) : Prop := ∃ ps : List Int, ds = [dR ps] ∧ ps.length ≤ 100000 ∧ o = .ok (dR (toldL ps))
theorem len_law_told {C : Ec} (ds : List PyData) (o : Except Addr PyData) : R_law_told C ds o → ds.length = ["places"].length := by
  rintro ⟨_, rfl, _⟩; rfl
theorem does_law_told {K : Frg} {C : Ec} {W : WX} {ds : List PyData} {o : Except Addr PyData} : R_law_told C ds o → FnDoes K W (rd_law_told K C W) (entry N_law_told ds) o := by
  rintro ⟨ps, rfl, hl, rfl⟩
  refine .inl ?_
  show Does K W (rd_law_told K C W) [.fr (dR ps), .no, .no, .no, .no] (.rt (dR (toldL ps)))
  let F : Nat → List Int := fun i => (((sortI ps).reverse.take i).map fun p => p - lessN ps p).filter fun x => decide (0 < x)
  refine does_seq (does_asg (evf_lst evaf_nil)) ?_
  refine does_seq (does_forf (cd := PyData.int) (xs := (sortI ps).reverse) (evf_rev (Evf.r (evf_sorted (ev_var rfl) (sortI_perm _) (sortI_rise _)))) (fun i => [.fr (dR ps), .ow (dR (F i)), .no, .no, .no]) rfl fun i x hx => ⟨[.fr (dR ps), .ow (dR (F (i + 1))), .fr (.int x), .no, .no], does_no 3 (ρ1 := [.fr (dR ps), .ow (dR (F (i + 1))), .fr (.int x), .fr (.int (x - (lessN ps x : Int))), .no]) ?_, rfl⟩) ?_
  · refine does_seq (does_asgi (ev_sub (ev_var rfl) (ev_len (c := PyData.int) (xs := ps.filter fun p => decide (p < x)) (Evf.r (evf_fil (fun p => decide (p < x)) (ev_var rfl) (by omega) (fun p _ => et_test (ev_lt (ev_var rfl) (ev_var rfl))) (by show 4 < 5; decide)))))) ?_
    have e : F (i + 1) = F i ++ if 0 < x - (lessN ps x : Int) then [x - (lessN ps x : Int)] else [] := by
      show List.filter _ (((sortI ps).reverse.take (i + 1)).map _) = _
      rw [take_succ_some hx, List.map_append, List.filter_append, List.map_singleton, List.filter_cons]
      by_cases c : 0 < x - (lessN ps x : Int)
      · rw [if_pos (decide_eq_true c), if_pos c]; rfl
      · rw [if_neg (by simpa using c), if_neg c]; rfl
    have hF : (F i).length ≤ ps.length := by
      refine Nat.le_trans (List.length_filter_le _ _) ?_
      rw [List.length_map, List.length_take, List.length_reverse, sortI_len]
      omega
    rw [e]
    show Does K W _ [.fr (dR ps), .ow (dR (F i)), .fr (.int x), .fr (.int (x - (lessN ps x : Int))), .no] _
    by_cases c : 0 < x - (lessN ps x : Int)
    · rw [if_pos c]
      exact does_ift ((et_test (ev_gt (ev_var rfl) ev_int)).cast (decide_eq_true c)) (does_appi rfl (ev_var rfl) (by omega))
    · rw [if_neg c, List.append_nil]
      exact does_iff ((et_test (ev_gt (ev_var rfl) ev_int)).cast (decide_eq_false c)) does_next
  · rw [show F (sortI ps).reverse.length = toldL ps by show List.filter _ (((sortI ps).reverse.take _).map _) = _; rw [List.take_length]; rfl]
    exact does_retv rfl
abbrev N_law_core : List Str := ["row", "rods", "places", "heights", "k", "h"]
def rd_law_core (K : Frg) (C : Ec) (W : WX) : TS := (tSeq (tAsg (tLst tNil) (gName 2))
  (tSeq (tAsg (tCall (spOf K (R_law_spread C)) [] E0 (tCons (tVar 0) (tCons (tVar 1) tNil))) (gName 3))
  (tSeq (tFor (iRng1 (tCons (tVar 1) tNil)) (gName 4)
  (tDrop (tBM K "list" rExtend (tVar 2) (tCons (tLc (iRng1 (tCons (tCB (rLenA K) (tCons (tOp (rIx K) (tVar 3) (tVar 4)) tNil)) tNil)) (gName 5) tYes (tOp rAddA (tOp rMulA (tVar 5) (tVar 1)) (tVar 4)) [5]) tNil))))
  (tRet (tCall (spOf K (R_law_told C)) [] E0 (tCons (tVar 2) tNil))))))
def R_law_core (C : Ec) (ds : List PyData) (o : Except Addr PyData) : Prop := ∃ (r : List Int) (n : Nat), ds = [dR r, .int n] ∧ Row r ∧ r.length ≤ 10000 ∧ 0 < n ∧ n ≤ 1000 ∧ o = .ok (dR (coreM r n))
theorem len_law_core {C : Ec} (ds : List PyData) (o : Except Addr PyData) : R_law_core C ds o → ds.length = ["row", "rods"].length := by
  rintro ⟨_, _, rfl, _⟩; rfl
theorem gather_take_len (hs : List (List Int)) (m : Nat) : ∀ i, i ≤ hs.length → ((List.range i).flatMap fun k => (hs.getD k []).map fun h => h * (m : Int) + (k : Int)).length ≤ (hs.map List.length).sum := fun i hi => by
  have e : (hs.map List.length).sum = ((hs.take i).map List.length).sum + ((hs.drop i).map List.length).sum := by
    rw [← List.sum_append, ← List.map_append, List.take_append_drop]
  rw [List.length_flatMap]
  have e2 : (List.range i).map (fun k => ((hs.getD k []).map fun h => h * (m : Int) + (k : Int)).length) = (hs.take i).map List.length := by
    refine List.ext_getElem (by simp; omega) fun j h1 h2 => ?_
    simp only [List.length_map, List.length_range] at h1
    simp only [List.getElem_map, List.getElem_range, List.length_map, List.getElem_take]
    rw [getD_get (by omega)]
  rw [e2, e]
  omega
theorem does_law_core {K : Frg} {C : Ec} {W : WX} {ds : List PyData} {o : Except Addr PyData} : R_law_core C ds o → FnDoes K W (rd_law_core K C W) (entry N_law_core ds) o := by
  rintro ⟨r, n, rfl, hr, hl, hn, hn2, rfl⟩
  refine .inl ?_
  show Does K W (rd_law_core K C W) [.fr (dR r), .fr (.int n), .no, .no, .no, .no] (.rt (dR (coreM r n)))
  have hlo := lo_le r.length hn
  have hb := beads_rises hr (loM r.length n)
  have ht := rods_total hn hb
  rw [beads_len] at ht
  have hhl : (lspreadM r n).length = n := rods_len _ _
  have hht : ((lspreadM r n).map List.length).sum = loM r.length n := ht
  rw [← lcore_eq hr hn]
  refine does_seq (does_asg (evf_lst evaf_nil)) ?_
  refine does_seq (does_asg (evf_call (eva_cons (ev_var rfl) (eva_cons (ev_var rfl) eva_nil)) ⟨r, n, rfl, hr, hl, hn, hn2, rfl⟩)) ?_
  generalize lspreadM r n = hs at *
  have hfl : (flatL hs).length = n := by rw [flat_len]; exact hhl
  let P : Nat → List Int := fun i => (List.range i).flatMap fun k => ((flatL hs).getD k []).map fun h => h * (n : Int) + (k : Int)
  have hP : ∀ i, i ≤ n → (P i).length ≤ 20000 := fun i hi => by
    have q := gather_take_len (flatL hs) n i (by omega)
    rw [← gather_len, flat_total, hht] at q
    exact Nat.le_trans q (by omega)
  refine does_seq (does_forR (eva_cons (ev_var rfl) eva_nil) (by omega) (by omega) (fun i => [.fr (dR r), .fr (.int n), .ow (dR (P i)), .ow (dRR hs), .no, .no]) rfl fun i hi => ⟨[.fr (dR r), .fr (.int n), .ow (dR (P (i + 1))), .ow (dRR hs), .fr (.int i), .no], ?_, rfl⟩) ?_
  · have hi' : i < hs.length := by omega
    have e3 : (flatL hs).getD i [] = idL (hs.getD i []).length := by
      unfold flatL
      rw [getD_get (by simpa using hi'), getD_get hi', List.getElem_map]
    have e : P (i + 1) = P i ++ (List.range (hs.getD i []).length).map fun h : Nat => (h : Int) * (n : Int) + (i : Int) := by
      show (List.range (i + 1)).flatMap _ = _
      rw [List.range_succ, List.flatMap_append, List.flatMap_singleton, e3]
      unfold idL
      rw [List.map_map]
      rfl
    have q := hP (i + 1) (by omega)
    rw [e] at q ⊢
    rw [List.length_append, List.length_map, List.length_range] at q
    refine does_extR rfl (Evf.cast (evf_mapR (n := ((hs.getD i []).length : Int)) (fun h : Nat => (h : Int) * (n : Int) + (i : Int)) (eva_cons (ev_len (c := PyData.int) (xs := hs.getD i []) (Evr.cast (ev_ixRR (ev_var rfl) (ev_var rfl) (by omega) (by omega)) (by rw [Int.toNat_natCast]))) eva_nil) (by omega) (by omega) fun h _ => ev_add (ev_mul (ev_var rfl) (ev_var rfl) (mul_r (by omega))) (ev_var rfl)) (by rw [Int.toNat_natCast])) (by rw [List.length_map, List.length_range]; omega)
  rw [Int.toNat_natCast]
  have hPn : P n = gatherP (flatL hs) := by
    show (List.range n).flatMap _ = _
    unfold gatherP
    rw [hfl]
  rw [hPn]
  have hgl : (gatherP (flatL hs)).length ≤ 20000 := by rw [← hPn]; exact hP n (Nat.le_refl _)
  refine does_ret (Evf.cast (evf_call (eva_cons (ev_var rfl) eva_nil) ⟨_, rfl, by omega, rfl⟩) ?_)
  rw [told_eq (gather_nodup (flat_all hs))]
  rfl
abbrev N_law_quotient : List Str := ["row", "rods", "heights"]
def rd_law_quotient (K : Frg) (C : Ec) (W : WX) : TS := (tRet (tLc (iList K (tCall (spOf K (R_law_spread C)) [] E0 (tCons (tVar 0) (tCons (tVar 1) tNil)))) (gName 2) tYes (tCall (spOf K (R_law_told C)) [] E0 (tCons (tVar 2) tNil)) [2]))
def R_law_quotient (C : Ec) (ds : List PyData) (o : Except Addr PyData) : Prop := ∃ (r : List Int) (n : Nat), ds = [dR r, .int n] ∧ Row r ∧ r.length ≤ 10000 ∧ 0 < n ∧ n ≤ 1000 ∧ o = .ok (dRR (quotM r n))
theorem len_law_quotient {C : Ec} (ds : List PyData) (o : Except Addr PyData) : R_law_quotient C ds o → ds.length = ["row", "rods"].length := by
  rintro ⟨_, _, rfl, _⟩; rfl
theorem Rises.sort {ps : List Int} (h : Rises ps) : sortI ps = ps := sortI_self (h.rise.imp fun q => by omega)
theorem does_law_quotient {K : Frg} {C : Ec} {W : WX} {ds : List PyData} {o : Except Addr PyData} : R_law_quotient C ds o → FnDoes K W (rd_law_quotient K C W) (entry N_law_quotient ds) o := by
  rintro ⟨r, n, rfl, hr, hl, hn, hn2, rfl⟩
  refine .inl ?_
  have hlo := lo_le r.length hn
  refine does_ret (Evf.cast (evf_mapLL (c := dR) (xs := lspreadM r n) (fun x => dR (toldL x)) (Evf.r (evf_call (eva_cons (ev_var rfl) (eva_cons (ev_var rfl) eva_nil)) ⟨r, n, rfl, hr, hl, hn, hn2, rfl⟩)) (by unfold lspreadM; rw [rods_len]; omega) fun x hx => evf_call (eva_cons (ev_var rfl) eva_nil) ?_) ?_)
  · obtain ⟨j, hj, rfl⟩ := mem_rods hx
    have := rod_len (beadsM r (loM r.length n)) n j
    rw [beads_len] at this
    exact ⟨_, rfl, by omega, rfl⟩
  · rw [← lquot_eq hr hn, dRR, List.map_map]
    congr 1
    refine List.map_congr_left fun x hx => ?_
    obtain ⟨j, hj, rfl⟩ := mem_rods hx
    have h := rod_rises hn (beads_rises hr (loM r.length n)) j
    show dR (toldL _) = dR (rowOfM _)
    rw [told_eq h.nodup, h.sort]
/-! ## core, quotient and charges, whatever the count of beads -/
theorem shift_shift (ps : List Int) (a : Nat) : ∀ b, shiftN (shiftN ps a) b = shiftN ps (a + b)
  | 0 => by rw [shift_zero]; rfl
  | b + 1 => by rw [shift_succ, shift_shift ps a b, ← Nat.add_assoc, shift_succ]
theorem shift_one (ps : List Int) : 0 :: ps.map (· + 1) = shiftN ps 1 := by rw [shift_succ, shift_zero]
theorem rod_shift_mul {ps : List Int} {n k : Nat} (h : Rises ps) (hk : k < n) : ∀ j, rodM (shiftN ps (j * n)) n k = shiftN (rodM ps n k) j
  | 0 => by rw [Nat.zero_mul, shift_zero, shift_zero]
  | j + 1 => by rw [Nat.succ_mul, ← shift_shift, rod_shift (rises_shiftN h _) hk, rod_shift_mul h hk j, shift_one, shift_shift]
theorem shift_len (ps : List Int) (n : Nat) : (shiftN ps n).length = ps.length + n := by
  unfold shiftN
  rw [List.length_append, List.length_map, List.length_map, List.length_range]
  omega
theorem shift_row {h : List Int} (hR : Rises h) (j : Nat) : shiftN h j = beadsM (rowOfM h) (h.length + j) := by
  rw [beads_add (rowOf_len h), beads_rowOf hR]
theorem up_mul (l : Nat) (n : Nat) : ∃ u, upM l n = u * n := ⟨_, rfl⟩
theorem mult_up {l n m : Nat} (hn : 0 < n) (hd : n ∣ m) (h : l ≤ m) : ∃ j, m = upM l n + j * n := by
  obtain ⟨q, rfl⟩ := hd
  have h1 : (l + n - 1) / n ≤ q := by
    refine Nat.le_trans (Nat.div_le_div_right (show l + n - 1 ≤ (n - 1) + n * q by omega)) ?_
    rw [Nat.add_mul_div_left _ _ hn, Nat.div_eq_of_lt (by omega)]
    omega
  refine ⟨q - (l + n - 1) / n, ?_⟩
  unfold upM
  rw [← Nat.add_mul, Nat.mul_comm, Nat.add_sub_cancel' h1]
theorem quot_get {r : List Int} {n k : Nat} (hk : k < n) : (quotM r n).getD k [] = rowOfM (rodM (beadsM r (upM r.length n)) n k) := by
  unfold quotM spreadM rodsM
  rw [getD_get (by simpa using hk)]
  simp
theorem ch_get {r : List Int} {n k : Nat} (hk : k < n) : gi (chM r n) k = ((rodM (beadsM r (upM r.length n)) n k).length : Int) - (upM r.length n : Int) / n := by
  unfold chM spreadM rodsM
  rw [gi_get (by simpa using hk)]
  simp
/-- the rods of so many beads -/
theorem rod_form {r : List Int} {n k m : Nat} (hr : Row r) (hk : k < n) (hd : n ∣ m) (hm : r.length ≤ m) :
    0 ≤ gi (chM r n) k + (m : Int) / n ∧ rodM (beadsM r m) n k = beadsM ((quotM r n).getD k []) (gi (chM r n) k + (m : Int) / n).toNat ∧ ((quotM r n).getD k []).length ≤ (gi (chM r n) k + (m : Int) / n).toNat := by
  have hn : 0 < n := by omega
  obtain ⟨j, rfl⟩ := mult_up hn hd hm
  have hB := beads_rises hr (upM r.length n)
  have hR := rod_rises hn hB k
  rw [quot_get hk, ch_get hk, beads_add (up_ge _ hn), rod_shift_mul hB hk, shift_row hR]
  have e : ((upM r.length n + j * n : Nat) : Int) / n = (upM r.length n : Int) / n + j := by
    rw [Int.natCast_add, Int.natCast_mul, Int.add_mul_ediv_right _ _ (by omega)]
  rw [e]
  have q := rowOf_len (rodM (beadsM r (upM r.length n)) n k)
  refine ⟨by omega, ?_, by omega⟩
  congr 1
  omega
/-- core-making data: so many beads slid down on each rod -/
def lowM (xs : List Int) : List Int := rowOfM (placesOf (xs.map fun x => idL x.toNat))
theorem low_shift {xs : List Int} (hx : ∀ x ∈ xs, 0 ≤ x) (hn : 0 < xs.length) : ∀ j : Nat, lowM (xs.map (· + (j : Int))) = lowM xs
  | 0 => by
    congr 1
    refine (List.map_congr_left fun p _ => ?_).trans (List.map_id _)
    show p + ((0 : Nat) : Int) = id p
    show p + 0 = p
    omega
  | j + 1 => by
    rw [← low_shift hx hn j]
    unfold lowM
    have e : (xs.map (· + ((j + 1 : Nat) : Int))).map (fun x => idL x.toNat) = flatL (((xs.map (· + (j : Int))).map fun x => idL x.toNat).map fun h => 0 :: h.map (· + 1)) := by
      unfold flatL
      rw [List.map_map, List.map_map, List.map_map, List.map_map]
      refine List.map_congr_left fun x m => ?_
      show idL (x + ((j + 1 : Nat) : Int)).toNat = idL (0 :: (idL (x + (j : Int)).toNat).map (· + 1)).length
      have := hx x m
      rw [List.length_cons, List.length_map, id_len]
      congr 1
      omega
    have e2 : flatL ((xs.map (· + (j : Int))).map fun x => idL x.toNat) = (xs.map (· + (j : Int))).map fun x => idL x.toNat := by
      unfold flatL
      rw [List.map_map, List.map_map, List.map_map]
      refine List.map_congr_left fun x _ => ?_
      show idL (idL _).length = _
      rw [id_len]
      rfl
    rw [e, places_shift (by simpa using hn), rowOf_shiftN, e2]
theorem gi_map {xs : List Int} {k : Nat} (f : Int → Int) (hk : k < xs.length) : gi (xs.map f) k = f (gi xs k) := by
  rw [gi_get (by simpa using hk), List.getElem_map, gi_get hk]
theorem mem_ch_nn {r : List Int} {n m : Nat} (hr : Row r) (hn : 0 < n) (hd : n ∣ m) (hm : r.length ≤ m) : ∀ x ∈ (chM r n).map (· + (m : Int) / n), 0 ≤ x := fun x hx => by
  obtain ⟨y, hy, rfl⟩ := List.mem_map.mp hx
  obtain ⟨k, hk, rfl⟩ := mem_gi hy
  have hk' : k < n := by unfold chM spreadM at hk; rw [List.length_map, rods_len] at hk; exact hk
  exact (rod_form hr hk' hd hm).1
theorem up_dvd (l n : Nat) : n ∣ upM l n := ⟨_, Nat.mul_comm _ _⟩
/-- the core by the charges -/
theorem core_low {r : List Int} {n m : Nat} (hr : Row r) (hn : 0 < n) (hd : n ∣ m) (hm : r.length ≤ m) : coreM r n = lowM ((chM r n).map (· + (m : Int) / n)) := by
  obtain ⟨j, rfl⟩ := mult_up hn hd hm
  have hcl : (chM r n).length = n := by unfold chM spreadM; rw [List.length_map, rods_len]
  have e0 : coreM r n = lowM ((chM r n).map (· + ((upM r.length n : Nat) : Int) / n)) := by
    unfold coreM lowM
    congr 1
    congr 1
    unfold flatL chM
    rw [List.map_map, List.map_map]
    refine List.map_congr_left fun x _ => ?_
    show idL x.length = idL (((x.length : Int) - (upM r.length n : Int) / n) + (upM r.length n : Int) / n).toNat
    congr 1
    omega
  have q := low_shift (mem_ch_nn hr hn (up_dvd r.length n) (up_ge _ hn)) (by rw [List.length_map]; omega) j
  rw [e0, ← q, List.map_map]
  congr 1
  refine List.map_congr_left fun x _ => ?_
  show x + (upM r.length n : Int) / n + j = x + ((upM r.length n + j * n : Nat) : Int) / n
  rw [Int.natCast_add, Int.natCast_mul, Int.add_mul_ediv_right _ _ (by omega)]
  omega
/-- rows by quotient and charges -/
theorem row_inj {r s : List Int} {n : Nat} (hr : Row r) (hs : Row s) (hn : 0 < n) (hq : quotM r n = quotM s n) (hc : chM r n = chM s n) : r = s := by
  have hd : n ∣ upM r.length n + upM s.length n := Nat.dvd_add (up_dvd _ _) (up_dvd _ _)
  have h1 : r.length ≤ upM r.length n + upM s.length n := by have := up_ge r.length hn; omega
  have h2 : s.length ≤ upM r.length n + upM s.length n := by have := up_ge s.length hn; omega
  have e : beadsM r (upM r.length n + upM s.length n) = beadsM s (upM r.length n + upM s.length n) := ext_rods hn (beads_rises hr _) (beads_rises hs _) fun k hk => by
    rw [(rod_form hr hk hd h1).2.1, (rod_form hs hk hd h2).2.1, hq, hc]
  exact (rowOf_beads hr h1).symm.trans ((congrArg rowOfM e).trans (rowOf_beads hs h2))
/-- the row of these rods: its quotient, its charges, its core -/
theorem of_rods {hs : List (List Int)} (hA : AllR hs) (hn : 0 < hs.length) (hd : hs.length ∣ (hs.map List.length).sum) :
    Row (rowOfM (placesOf hs)) ∧ quotM (rowOfM (placesOf hs)) hs.length = hs.map rowOfM ∧ chM (rowOfM (placesOf hs)) hs.length = hs.map (fun h => (h.length : Int) - ((hs.map List.length).sum : Int) / hs.length) := by
  have hR := places_rises hA
  have hr := rowOf_row hR
  have hpl : (placesOf hs).length = (hs.map List.length).sum := by unfold placesOf; rw [sortI_len, gather_len]
  have hle : (rowOfM (placesOf hs)).length ≤ (hs.map List.length).sum := by rw [← hpl]; exact rowOf_len _
  have hb : beadsM (rowOfM (placesOf hs)) (hs.map List.length).sum = placesOf hs := by rw [← hpl]; exact beads_rowOf hR
  have key : ∀ k, k < hs.length → (quotM (rowOfM (placesOf hs)) hs.length).getD k [] = rowOfM (hs.getD k []) ∧ gi (chM (rowOfM (placesOf hs)) hs.length) k = ((hs.getD k []).length : Int) - ((hs.map List.length).sum : Int) / hs.length := fun k hk => by
    obtain ⟨a, b, c⟩ := rod_form hr hk hd hle
    rw [hb, rod_places hA hk] at b
    have l := congrArg List.length b
    rw [beads_len] at l
    refine ⟨?_, by omega⟩
    rw [b, rowOf_beads _ c]
    rw [quot_get hk]
    exact rowOf_row (rod_rises hn (beads_rises hr _) k)
  refine ⟨hr, eq_of_getD (d := []) (by unfold quotM spreadM; rw [List.length_map, List.length_map, rods_len]) fun k hk => ?_, eq_of_gi (by unfold chM spreadM; rw [List.length_map, List.length_map, rods_len]) fun k hk => ?_⟩
  · rw [List.length_map] at hk
    rw [(key k hk).1, getD_get hk, getD_get (by simpa using hk), List.getElem_map]
  · rw [List.length_map] at hk
    rw [(key k hk).2, getD_get hk, gi_get (by simpa using hk), List.getElem_map]
/-! ### sums -/
theorem sum_filter_pos : ∀ {l : List Int}, (∀ x ∈ l, 0 ≤ x) → (l.filter fun x => decide (0 < x)).sum = l.sum
  | [], _ => rfl
  | x :: l, h => by
    have ih := sum_filter_pos (l := l) fun y m => h y (List.mem_cons_of_mem _ m)
    rw [List.filter_cons, List.sum_cons]
    have := h x List.mem_cons_self
    by_cases c : 0 < x
    · rw [if_pos (decide_eq_true c), List.sum_cons, ih]
    · rw [if_neg (by simpa using c), ih]; omega
theorem sum_rev (l : List Int) : l.reverse.sum = l.sum := by
  induction l with
  | nil => rfl
  | cons x l ih => rw [List.reverse_cons, List.sum_append, ih, List.sum_cons, List.sum_cons, List.sum_nil]; omega
theorem perm_sum {r s : List Int} (h : r.Perm s) : r.sum = s.sum := by
  induction h with
  | nil => rfl
  | cons x _ ih => rw [List.sum_cons, List.sum_cons, ih]
  | swap x y l => rw [List.sum_cons, List.sum_cons, List.sum_cons, List.sum_cons]; omega
  | trans _ _ h1 h2 => exact h1.trans h2
theorem sum_map_sub {α : Type} (l : List α) (f g : α → Int) : (l.map fun x => f x - g x).sum = (l.map f).sum - (l.map g).sum := by
  induction l with
  | nil => rfl
  | cons x l ih => rw [List.map_cons, List.sum_cons, ih, List.map_cons, List.sum_cons, List.map_cons, List.sum_cons]; omega
theorem sum_map_add {α : Type} (l : List α) (f g : α → Int) : (l.map fun x => f x + g x).sum = (l.map f).sum + (l.map g).sum := by
  induction l with
  | nil => rfl
  | cons x l ih => rw [List.map_cons, List.sum_cons, ih, List.map_cons, List.sum_cons, List.map_cons, List.sum_cons]; omega
theorem sum_map_mul {α : Type} (l : List α) (f : α → Int) (c : Int) : (l.map fun x => c * f x).sum = c * (l.map f).sum := by
  induction l with
  | nil => show (0 : Int) = c * 0; omega
  | cons x l ih => rw [List.map_cons, List.sum_cons, ih, List.map_cons, List.sum_cons, Int.mul_add]
theorem sum_const {α : Type} (l : List α) (c : Int) : (l.map fun _ => c).sum = (l.length : Int) * c := by
  induction l with
  | nil => show (0 : Int) = ((0 : Nat) : Int) * c; rw [Int.natCast_zero, Int.zero_mul]
  | cons x l ih => rw [List.map_cons, List.sum_cons, ih, List.length_cons, Int.natCast_add, Int.add_mul]; omega
theorem row_sum {ps : List Int} (h : Rises ps) : (rowOfM ps).sum = ps.sum - (idL ps.length).sum := by
  unfold rowOfM
  rw [sum_filter_pos (off_fall h).1]
  unfold offM
  rw [sum_rev, sum_map_sub, map_gi]
  rfl
theorem sum_flatMap {α : Type} (l : List α) (f : α → List Int) : (l.flatMap f).sum = (l.map fun x => (f x).sum).sum := by
  induction l with
  | nil => rfl
  | cons x l ih => rw [List.flatMap_cons, List.sum_append, ih, List.map_cons, List.sum_cons]
theorem gather_sum (hs : List (List Int)) : (gatherP hs).sum = (hs.length : Int) * ((List.range hs.length).map fun k => (hs.getD k []).sum).sum + ((List.range hs.length).map fun k => ((hs.getD k []).length : Int) * k).sum := by
  unfold gatherP
  rw [sum_flatMap, ← sum_map_mul, ← sum_map_add]
  congr 1
  refine List.map_congr_left fun k _ => ?_
  rw [sum_map_add, sum_const]
  congr 1
  rw [show ((hs.getD k []).map fun h => h * (hs.length : Int)) = (hs.getD k []).map fun h => (hs.length : Int) * h from List.map_congr_left fun h _ => Int.mul_comm _ _]
  have := sum_map_mul (hs.getD k []) id (hs.length : Int)
  rw [List.map_id] at this
  exact this
theorem places_sum (hs : List (List Int)) : (placesOf hs).sum = (gatherP hs).sum := perm_sum (sortI_perm _)
/-- the cells: those of the core and of the quotient's rows, so many times -/
theorem cells_eq {r : List Int} {n : Nat} (hr : Row r) (hn : 0 < n) : (coreM r n).sum + n * ((quotM r n).map List.sum).sum = r.sum := by
  have hB := beads_rises hr (upM r.length n)
  have hA := rods_all (n := n) hB
  have hF := flat_all (rodsM (beadsM r (upM r.length n)) n)
  have e1 : r = rowOfM (beadsM r (upM r.length n)) := (rowOf_beads hr (up_ge _ hn)).symm
  have e2 := row_sum hB
  rw [← e1, beads_len] at e2
  have e3 := row_sum (places_rises hF)
  have l3 : (placesOf (flatL (rodsM (beadsM r (upM r.length n)) n))).length = upM r.length n := by
    unfold placesOf
    rw [sortI_len, flat_total, rods_total hn hB, beads_len]
  rw [l3, places_sum, gather_sum] at e3
  have e4 : (beadsM r (upM r.length n)).sum = (gatherP (rodsM (beadsM r (upM r.length n)) n)).sum := by
    rw [← places_sum, places_rods hn hB]
  rw [gather_sum] at e4
  have hl : (flatL (rodsM (beadsM r (upM r.length n)) n)).length = n := by rw [flat_len, rods_len]
  rw [hl] at e3
  rw [rods_len] at e4
  have g1 : ∀ k, k < n → (flatL (rodsM (beadsM r (upM r.length n)) n)).getD k [] = idL (rodM (beadsM r (upM r.length n)) n k).length := fun k hk => by
    unfold flatL
    rw [getD_get (by rw [List.length_map, rods_len]; exact hk), List.getElem_map]
    simp [rodsM]
  have g2 : (List.range n).map (fun k => (((flatL (rodsM (beadsM r (upM r.length n)) n)).getD k []).length : Int) * k) = (List.range n).map fun k => (((rodsM (beadsM r (upM r.length n)) n).getD k []).length : Int) * k :=
    List.map_congr_left fun k hk => by
      have hk' := List.mem_range.mp hk
      rw [g1 k hk', id_len, rods_get hk']
  rw [g2] at e3
  have g3 : ((quotM r n).map List.sum) = (List.range n).map fun k => ((rodsM (beadsM r (upM r.length n)) n).getD k []).sum - ((flatL (rodsM (beadsM r (upM r.length n)) n)).getD k []).sum := by
    unfold quotM spreadM
    refine List.ext_getElem (by simp [rodsM]) fun k h1 h2 => ?_
    have hk : k < n := by simpa using h2
    simp only [List.getElem_map, List.getElem_range]
    rw [g1 k hk, rods_get hk]
    have : (rodsM (beadsM r (upM r.length n)) n)[k]'(by rw [rods_len]; exact hk) = rodM (beadsM r (upM r.length n)) n k := by simp [rodsM]
    rw [this]
    exact row_sum (rod_rises hn hB k)
  rw [g3, sum_map_sub]
  have : coreM r n = rowOfM (placesOf (flatL (rodsM (beadsM r (upM r.length n)) n))) := rfl
  rw [← this] at e3
  rw [e3, e2, e4, Int.mul_sub]
  omega
/-! ## joined again -/
def minI (c : List Int) : Int := gi (sortI c) 0
def maxI (c : List Int) : Int := gi (sortI c) ((c.length - 1 : Nat) : Int)
theorem minI_spec {c : List Int} (h : 0 < c.length) : minI c ∈ c ∧ ∀ y ∈ c, minI c ≤ y := by
  have hl : 0 < (sortI c).length := by rw [sortI_len]; exact h
  refine ⟨sortI_mem.mp (gi_mem (i := 0) hl), fun y hy => ?_⟩
  obtain ⟨i, hi, rfl⟩ := mem_gi (sortI_mem.mpr hy)
  unfold minI
  by_cases e : i = 0
  · subst e; exact Int.le_refl _
  · have := List.pairwise_iff_getElem.mp (sortI_rise c) 0 i hl hi (by omega)
    rw [← gi_get hl, ← gi_get hi] at this
    exact this
theorem maxI_spec {c : List Int} (h : 0 < c.length) : maxI c ∈ c ∧ ∀ y ∈ c, y ≤ maxI c := by
  have hl : c.length - 1 < (sortI c).length := by rw [sortI_len]; omega
  refine ⟨sortI_mem.mp (gi_mem hl), fun y hy => ?_⟩
  obtain ⟨i, hi, rfl⟩ := mem_gi (sortI_mem.mpr hy)
  unfold maxI
  by_cases e : i = c.length - 1
  · subst e; exact Int.le_refl _
  · have hi' := hi
    rw [sortI_len] at hi'
    have := List.pairwise_iff_getElem.mp (sortI_rise c) i (c.length - 1) hi hl (by omega)
    rw [← gi_get hl, ← gi_get hi] at this
    exact this
def cofM (c : List Int) : List Int := lowM (c.map (· - minI c))
def joinHs (mid : List Int) (rows : List (List Int)) (n : Nat) : List (List Int) := (List.range n).map fun k : Nat => beadsM (rows.getD k []) (gi (chM mid n) k - minI (chM mid n) + maxI (rows.map fun x => (x.length : Int))).toNat
def joinM (mid : List Int) (rows : List (List Int)) (n : Nat) : List Int := rowOfM (placesOf (joinHs mid rows n))
theorem ch_length (r : List Int) (n : Nat) : (chM r n).length = n := by unfold chM spreadM; rw [List.length_map, rods_len]
theorem quot_length (r : List Int) (n : Nat) : (quotM r n).length = n := by unfold quotM spreadM; rw [List.length_map, rods_len]
theorem quot_row {r x : List Int} {n : Nat} (hr : Row r) (hx : x ∈ quotM r n) : Row x := by
  obtain ⟨h, hh, rfl⟩ := List.mem_map.mp hx
  obtain ⟨k, hk, rfl⟩ := mem_rods hh
  exact rowOf_row (rod_rises (by omega) (beads_rises hr _) k)
theorem quot_x_len {r x : List Int} {n : Nat} (hx : x ∈ quotM r n) : x.length ≤ upM r.length n := by
  obtain ⟨h, hh, rfl⟩ := List.mem_map.mp hx
  obtain ⟨k, hk, rfl⟩ := mem_rods hh
  have h1 := rowOf_len (rodM (beadsM r (upM r.length n)) n k)
  have h2 := rod_len (beadsM r (upM r.length n)) n k
  rw [beads_len] at h2
  omega
theorem core_row {r : List Int} {n : Nat} : Row (coreM r n) := rowOf_row (places_rises (flat_all _))
theorem core_length {r : List Int} {n : Nat} (hr : Row r) (hn : 0 < n) : (coreM r n).length ≤ upM r.length n := by
  have h1 := rowOf_len (placesOf (flatL (spreadM r n)))
  have h2 : (placesOf (flatL (spreadM r n))).length = upM r.length n := by
    unfold placesOf spreadM
    rw [sortI_len, flat_total, rods_total hn (beads_rises hr _), beads_len]
  rw [h2] at h1
  exact h1
theorem ch_sum {r : List Int} {n : Nat} (hr : Row r) (hn : 0 < n) : (chM r n).sum = 0 := by
  unfold chM
  rw [sum_map_sub, sum_lens, sum_const]
  have h1 : ((spreadM r n).map List.length).sum = upM r.length n := by
    unfold spreadM
    rw [rods_total hn (beads_rises hr _), beads_len]
  have h2 : (spreadM r n).length = n := rods_len _ _
  rw [h1, h2, Int.mul_ediv_cancel' (Int.natCast_dvd_natCast.mpr (up_dvd _ _))]
  omega
theorem ch_bound {r : List Int} {n : Nat} (hr : Row r) (hn : 0 < n) : ∀ x ∈ chM r n, -(upM r.length n : Int) ≤ x ∧ x ≤ upM r.length n := fun x hx => by
  obtain ⟨k, hk, rfl⟩ := mem_gi hx
  rw [ch_length] at hk
  rw [ch_get hk]
  have h2 := rod_len (beadsM r (upM r.length n)) n k
  rw [beads_len] at h2
  have h3 : 0 ≤ (upM r.length n : Int) / n := Int.ediv_nonneg (by omega) (by omega)
  have h4 : (upM r.length n : Int) / n ≤ upM r.length n := Int.ediv_le_self _ (by omega)
  omega
/-- so many beads on each rod, slid down; all one more -/
theorem low_eq {c d : List Int} (hn : 0 < c.length) (hc : ∀ x ∈ c, 0 ≤ x) (j : Nat) (e : d = c.map (· + (j : Int))) : lowM d = lowM c := by rw [e]; exact low_shift hc hn j
theorem core_cof {r : List Int} {n : Nat} (hr : Row r) (hn : 0 < n) : coreM r n = cofM (chM r n) := by
  have hl := ch_length r n
  obtain ⟨m1, m2⟩ := minI_spec (c := chM r n) (by omega)
  have hnn := mem_ch_nn hr hn (up_dvd r.length n) (up_ge r.length hn)
  have h0 := hnn _ (List.mem_map.mpr ⟨_, m1, rfl⟩)
  rw [core_low hr hn (up_dvd r.length n) (up_ge r.length hn)]
  refine low_eq (by rw [List.length_map]; omega) (fun x hx => ?_) (minI (chM r n) + (upM r.length n : Int) / n).toNat ?_
  · obtain ⟨y, hy, rfl⟩ := List.mem_map.mp hx
    have := m2 y hy
    show 0 ≤ y - minI (chM r n)
    omega
  · rw [List.map_map]
    refine List.map_congr_left fun x _ => ?_
    show x + (upM r.length n : Int) / n = x - minI (chM r n) + _
    omega
theorem sum_nat_cast (l : List (List Int)) (f : List Int → Int) (h : ∀ x ∈ l, (x.length : Int) = f x) : (((l.map List.length).sum : Nat) : Int) = (l.map f).sum := by
  rw [← sum_lens]
  congr 1
  exact List.map_congr_left h
/-- rods made of rows and of charges that come to nought, one raised by t -/
theorem of_charges {c : List Int} {rows : List (List Int)} {t : Int} (hn : 0 < c.length) (hl : rows.length = c.length) (hrow : ∀ x ∈ rows, Row x) (hsum : c.sum = 0)
    (hle : ∀ k, k < c.length → ((rows.getD k []).length : Int) ≤ gi c k + t) :
    let hs := (List.range c.length).map fun k : Nat => beadsM (rows.getD k []) (gi c k + t).toNat
    AllR hs ∧ hs.length = c.length ∧ (((hs.map List.length).sum : Nat) : Int) = c.length * t ∧ Row (rowOfM (placesOf hs)) ∧ quotM (rowOfM (placesOf hs)) c.length = rows ∧ chM (rowOfM (placesOf hs)) c.length = c := by
  intro hs
  have hhl : hs.length = c.length := by simp [hs]
  have hget : ∀ k, k < c.length → hs.getD k [] = beadsM (rows.getD k []) (gi c k + t).toNat := fun k hk => by
    rw [getD_get (by rw [hhl]; exact hk)]
    simp [hs]
  have hrk : ∀ k, k < c.length → Row (rows.getD k []) := fun k hk => by
    rw [getD_get (by omega)]
    exact hrow _ (List.getElem_mem _)
  have hA : AllR hs := fun k hk => by
    rw [hhl] at hk
    rw [hget k hk]
    exact beads_rises (hrk k hk) _
  have hlen : ∀ k, k < c.length → ((hs.getD k []).length : Int) = gi c k + t := fun k hk => by
    rw [hget k hk, beads_len]
    have := hle k hk
    omega
  have hT : (((hs.map List.length).sum : Nat) : Int) = c.length * t := by
    have e : (hs.map List.length).map (fun l : Nat => (l : Int)) = c.map (· + t) := by
      refine List.ext_getElem (by simp [hs]) fun k h1 h2 => ?_
      have hk : k < c.length := by simpa using h2
      simp only [List.getElem_map]
      have := hlen k hk
      rw [getD_get (by rw [hhl]; exact hk)] at this
      rw [this, gi_get hk]
    have e2 : (((hs.map List.length).sum : Nat) : Int) = ((hs.map List.length).map (fun l : Nat => (l : Int))).sum := by
      have e3 : (hs.map List.length).map (fun l : Nat => (l : Int)) = hs.map fun h => (h.length : Int) := by rw [List.map_map]; rfl
      rw [e3]; exact (sum_lens hs).symm
    rw [e2, e]
    have := sum_map_add c id (fun _ => t)
    rw [List.map_id, hsum, sum_const] at this
    rw [show c.map (· + t) = c.map (fun x => id x + t) from rfl, this]
    omega
  have hd : hs.length ∣ (hs.map List.length).sum := by
    refine Int.natCast_dvd_natCast.mp ?_
    rw [hT, hhl]
    exact Int.dvd_mul_right _ _
  obtain ⟨q1, q2, q3⟩ := of_rods hA (by omega) hd
  rw [hhl] at q2 q3
  refine ⟨hA, hhl, hT, q1, ?_, ?_⟩
  · rw [q2]
    refine eq_of_getD (d := []) (by rw [List.length_map, hhl, hl]) fun k hk => ?_
    have hk' : k < c.length := by omega
    rw [getD_get (by rw [List.length_map, hhl]; exact hk'), List.getElem_map]
    have := hget k hk'
    rw [getD_get (by rw [hhl]; exact hk')] at this
    rw [this, rowOf_beads (hrk k hk')]
    have := hle k hk'
    omega
  · rw [q3]
    refine eq_of_gi (by rw [List.length_map, hhl]) fun k hk => ?_
    rw [gi_get (by rw [List.length_map, hhl]; exact hk), List.getElem_map]
    have := hlen k hk
    rw [getD_get (by rw [hhl]; exact hk)] at this
    rw [this, hT, Int.mul_ediv_cancel_left _ (by omega)]
    omega
theorem getD_rep {n k : Nat} : (List.replicate n ([] : List Int)).getD k [] = [] := by
  rw [List.getD_eq_getElem?_getD, List.getElem?_replicate]
  split <;> rfl
theorem beads_nil (m : Nat) : beadsM [] m = idL m := by
  unfold beadsM idL
  refine List.map_congr_left fun k _ => ?_
  rw [gi_out (by exact Nat.zero_le _)]
  omega
/-- the core of charges that come to nought -/
theorem cof_spec {c : List Int} (hn : 0 < c.length) (hsum : c.sum = 0) : Row (cofM c) ∧ quotM (cofM c) c.length = List.replicate c.length [] ∧ chM (cofM c) c.length = c ∧ coreM (cofM c) c.length = cofM c := by
  obtain ⟨m1, m2⟩ := minI_spec hn
  have q := of_charges (c := c) (rows := List.replicate c.length []) (t := -minI c) hn (by simp) (fun x hx => by rw [(List.mem_replicate.mp hx).2]; exact Row.nil) hsum fun k hk => by
    have := m2 _ (gi_mem hk)
    rw [getD_rep]
    show ((0 : Nat) : Int) ≤ _
    omega
  have e : ((List.range c.length).map fun k : Nat => beadsM ((List.replicate c.length ([] : List Int)).getD k []) (gi c k + -minI c).toNat) = (c.map (· - minI c)).map fun x => idL x.toNat := by
    refine List.ext_getElem (by simp) fun k h1 h2 => ?_
    have hk : k < c.length := by simpa using h2
    simp only [List.getElem_map, List.getElem_range]
    rw [getD_rep, beads_nil, gi_get hk]
    rfl
  have q' := q
  simp only [] at q'
  rw [e] at q'
  obtain ⟨_, _, _, h1, h2, h3⟩ := q'
  have h1' : Row (cofM c) := h1
  have h3' : chM (cofM c) c.length = c := h3
  exact ⟨h1', h2, h3', by rw [core_cof h1' hn, h3']⟩
theorem core_core {r : List Int} {n : Nat} (hr : Row r) (hn : 0 < n) : coreM (coreM r n) n = coreM r n ∧ quotM (coreM r n) n = List.replicate n [] ∧ chM (coreM r n) n = chM r n := by
  have hl := ch_length r n
  obtain ⟨_, h2, h3, h4⟩ := cof_spec (c := chM r n) (by omega) (ch_sum hr hn)
  rw [hl] at h2 h3 h4
  rw [core_cof hr hn]
  exact ⟨h4, h2, h3⟩
/-- what is joined: its quotient, charges, core -/
theorem join_spec {mid : List Int} {rows : List (List Int)} {n : Nat} (hm : Row mid) (hn : 0 < n) (hl : rows.length = n) (hrow : ∀ x ∈ rows, Row x) :
    Row (joinM mid rows n) ∧ AllR (joinHs mid rows n) ∧ quotM (joinM mid rows n) n = rows ∧ chM (joinM mid rows n) n = chM mid n ∧ coreM (joinM mid rows n) n = coreM mid n := by
  have hcl := ch_length mid n
  obtain ⟨m1, m2⟩ := minI_spec (c := chM mid n) (by omega)
  obtain ⟨x1, x2⟩ := maxI_spec (c := rows.map fun x => (x.length : Int)) (by rw [List.length_map]; omega)
  have q := of_charges (c := chM mid n) (rows := rows) (t := -minI (chM mid n) + maxI (rows.map fun x => (x.length : Int))) (by omega) (by omega) hrow (ch_sum hm hn) fun k hk => by
    have := m2 _ (gi_mem hk)
    have := x2 ((rows.getD k []).length : Int) (List.mem_map.mpr ⟨rows.getD k [], by rw [getD_get (by omega)]; exact List.getElem_mem _, rfl⟩)
    omega
  have e : ((List.range (chM mid n).length).map fun k : Nat => beadsM (rows.getD k []) (gi (chM mid n) k + (-minI (chM mid n) + maxI (rows.map fun x => (x.length : Int)))).toNat) = joinHs mid rows n := by
    unfold joinHs
    rw [hcl]
    refine List.map_congr_left fun k _ => ?_
    congr 1
    omega
  simp only [] at q
  rw [e, hcl] at q
  obtain ⟨h0, _, _, h1, h2, h3⟩ := q
  have h1' : Row (joinM mid rows n) := h1
  have h3' : chM (joinM mid rows n) n = chM mid n := h3
  exact ⟨h1', h0, h2, h3', by rw [core_cof h1' hn, h3', core_cof hm hn]⟩
theorem join_back {r : List Int} {n : Nat} (hr : Row r) (hn : 0 < n) : joinM (coreM r n) (quotM r n) n = r := by
  obtain ⟨h1, _, h2, h3, _⟩ := join_spec (mid := coreM r n) (rows := quotM r n) core_row hn (quot_length r n) fun x hx => quot_row hr hx
  exact row_inj h1 hr hn h2 (by rw [h3, (core_core hr hn).2.2])
theorem join_empty {mid : List Int} {n : Nat} (hm : Row mid) (hn : 0 < n) (hc : coreM mid n = mid) : joinM mid (List.replicate n []) n = mid := by
  obtain ⟨h1, _, h2, h3, _⟩ := join_spec (mid := mid) (rows := List.replicate n []) hm hn (by simp) fun x hx => by rw [(List.mem_replicate.mp hx).2]; exact Row.nil
  refine row_inj h1 hm hn ?_ h3
  rw [h2, ← hc, (core_core hm hn).2.1]
abbrev N_core_of : List Str := ["numbers", "least", "number"]
def rd_core_of (K : Frg) (C : Ec) (W : WX) : TS := (tSeq (tDrop (tCallS (spOf K (R_known C)) (WE W) (tCons (tCB (rLenA K) (tCons (tVar 0) tNil)) tNil)))
  (tSeq (tIfS (tTest (tOp (rNeA K) (tCB (rSum K) (tCons (tVar 0) tNil)) (tC (.int 0))))
  (tRz W C.NoCharges) tNext)
  (tSeq (tAsg (tCB (rMin K) (tCons (tVar 0) tNil)) (gName 1))
  (tRet (tCall (spOf K (R_gathered C)) [] E0 (tCons (tLc (iList K (tVar 0)) (gName 2) tYes (tLstRg (tRg1 (tOp rSubI (tVar 2) (tVar 1)))) [2]) tNil))))))
def R_core_of (C : Ec) (ds : List PyData) (o : Except Addr PyData) : Prop := ∃ c : List Int, ds = [dR c] ∧ c.length ≤ 1000 ∧ (∀ x ∈ c, -1000 ≤ x ∧ x ≤ 1000) ∧ ((¬ RodsOk c.length ∧ o = .error C.NoRods) ∨ (RodsOk c.length ∧ c.sum ≠ 0 ∧ o = .error C.NoCharges) ∨ (RodsOk c.length ∧ c.sum = 0 ∧ o = .ok (dR (cofM c))))
theorem len_core_of {C : Ec} (ds : List PyData) (o : Except Addr PyData) : R_core_of C ds o → ds.length = ["numbers"].length := by
  rintro ⟨_, rfl, _⟩; rfl
theorem sum_le_mul : ∀ {l : List Nat} {b : Nat}, (∀ x ∈ l, x ≤ b) → l.sum ≤ l.length * b
  | [], _, _ => Nat.zero_le _
  | x :: l, b, h => by
    rw [List.sum_cons, List.length_cons, Nat.add_mul]
    have := sum_le_mul (l := l) (b := b) fun y m => h y (List.mem_cons_of_mem _ m)
    have := h x List.mem_cons_self
    omega
theorem does_core_of {K : Frg} {C : Ec} {W : WX} {ds : List PyData} {o : Except Addr PyData} : R_core_of C ds o → FnDoes K W (rd_core_of K C W) (entry N_core_of ds) o := by
  rintro ⟨c, rfl, hl, hb, ⟨h, rfl⟩ | ⟨h, hs, rfl⟩ | ⟨h, hs, rfl⟩⟩
  · exact ⟨_, does_seq_ex (does_dropx (evx_callS (eva_cons (ev_len (ev_var rfl)) eva_nil) ⟨_, rfl, .inr ⟨h, rfl⟩⟩))⟩
  · exact ⟨_, does_seq (does_drop (Evf.r (evf_callS (eva_cons (ev_len (ev_var rfl)) eva_nil) ⟨_, rfl, .inl ⟨h, rfl⟩⟩))) (does_seq_ex (does_ift ((et_test (ev_nei (ev_sum (ev_var rfl)) ev_int)).cast (decide_eq_true hs)) does_rz))⟩
  · refine .inl ?_
    have hn : 0 < c.length := by have := h.1; omega
    have hn8 : c.length ≤ 8 := by have := h.2; omega
    obtain ⟨m1, m2⟩ := minI_spec hn
    have hm := hb _ m1
    refine does_seq (does_drop (Evf.r (evf_callS (eva_cons (ev_len (ev_var rfl)) eva_nil) ⟨_, rfl, .inl ⟨h, rfl⟩⟩))) ?_
    refine does_seq (does_iff ((et_test (ev_nei (ev_sum (ev_var rfl)) ev_int)).cast (decide_eq_false (fun z => z hs))) does_next) ?_
    refine does_seq (does_asgi (ev_minL (ev_var rfl) m1 m2)) ?_
    refine does_ret (evf_call (eva_cons (Evf.r (Evf.cast (evf_mapLL (c := PyData.int) (xs := c) (fun x => dR (idL (x - minI c).toNat)) (ev_var rfl) (by omega) fun x hx => evf_listRg (ev_sub (ev_var rfl) (ev_var rfl)) (by have := hb x hx; omega) (by have := hb x hx; omega)) (show _ = dRR ((c.map (· - minI c)).map fun x => idL x.toNat) by rw [dRR, List.map_map, List.map_map]; rfl))) eva_nil)
      ⟨_, rfl, by rw [List.length_map, List.length_map]; omega, ?_, fun k hk => ?_, rfl⟩)
    · rw [gather_len]
      refine Nat.le_trans (sum_le_mul (b := 2000) fun l hm => ?_) (by rw [List.length_map, List.length_map, List.length_map]; omega)
      obtain ⟨y, hy, rfl⟩ := List.mem_map.mp hm
      obtain ⟨z, hz, rfl⟩ := List.mem_map.mp hy
      obtain ⟨x, hx, rfl⟩ := List.mem_map.mp hz
      rw [id_len]
      have := hb x hx
      show (x - minI c).toNat ≤ 2000
      omega
    · rw [getD_get hk, List.getElem_map]
      exact id_rises _
abbrev N_joined : List Str := ["middle", "rows", "rods", "numbers", "most", "least", "row", "k"]
def rd_joined (K : Frg) (C : Ec) (W : WX) : TS := (tSeq (tDrop (tCallS (spOf K (R_known C)) (WE W) (tCons (tVar 2) tNil)))
  (tSeq (tIfS (tNot (tB (tCallS (spOf K (R_is_core C)) (WE W) (tCons (tVar 0) (tCons (tVar 2) tNil)))))
  (tRz W C.NoCore) tNext)
  (tSeq (tIfS (tTest (tOp (rNeA K) (tCB (rLenA K) (tCons (tVar 1) tNil)) (tVar 2)))
  (tRz W C.NoQuotient) tNext)
  (tSeq (tAsg (tCallS (spOf K (R_charges C)) (WE W) (tCons (tVar 0) (tCons (tVar 2) tNil))) (gName 3))
  (tSeq (tAsg (tCB (rMax K) (tCons (tLc (iList K (tVar 1)) (gName 6) tYes (tCB (rLenA K) (tCons (tVar 6) tNil)) [6]) tNil)) (gName 4))
  (tSeq (tAsg (tCB (rMin K) (tCons (tVar 3) tNil)) (gName 5))
  (tRet (tCall (spOf K (R_gathered C)) [] E0 (tCons (tLc (iRng1 (tCons (tVar 2) tNil)) (gName 7) tYes (tCall (spOf K (R_beads C)) [] E0 (tCons (tOp (rIx K) (tVar 1) (tVar 7)) (tCons (tOp rAddA (tOp rSubI (tOp (rIx K) (tVar 3) (tVar 7)) (tVar 5)) (tVar 4)) tNil))) [7]) tNil)))))))))
def R_joined (C : Ec) (ds : List PyData) (o : Except Addr PyData) : Prop := ∃ (mid : List Int) (rows : List (List Int)) (n : Int), ds = [dR mid, dRR rows, .int n] ∧ Row mid ∧ mid.length ≤ 1000 ∧ rows.length ≤ 1000 ∧ (∀ x ∈ rows, Row x ∧ x.length ≤ 1000) ∧
  ((¬ RodsOk n ∧ o = .error C.NoRods) ∨ (RodsOk n ∧ coreM mid n.toNat ≠ mid ∧ o = .error C.NoCore) ∨ (RodsOk n ∧ coreM mid n.toNat = mid ∧ (rows.length : Int) ≠ n ∧ o = .error C.NoQuotient) ∨ (RodsOk n ∧ coreM mid n.toNat = mid ∧ (rows.length : Int) = n ∧ o = .ok (dR (joinM mid rows n.toNat))))
theorem len_joined {C : Ec} (ds : List PyData) (o : Except Addr PyData) : R_joined C ds o → ds.length = ["middle", "rows", "rods"].length := by
  rintro ⟨_, _, _, rfl, _⟩; rfl
theorem does_joined {K : Frg} {C : Ec} {W : WX} {ds : List PyData} {o : Except Addr PyData} : R_joined C ds o → FnDoes K W (rd_joined K C W) (entry N_joined ds) o := by
  rintro ⟨mid, rows, n, rfl, hm, hml, hrl, hrow, ⟨h, rfl⟩ | ⟨h, hc, rfl⟩ | ⟨h, hc, hq, rfl⟩ | ⟨h, hc, hq, rfl⟩⟩
  · exact ⟨_, does_seq_ex (does_dropx (evx_callS (eva_cons (ev_var rfl) eva_nil) ⟨_, rfl, .inr ⟨h, rfl⟩⟩))⟩
  · exact ⟨_, does_seq (does_drop (Evf.r (evf_callS (eva_cons (ev_var rfl) eva_nil) ⟨_, rfl, .inl ⟨h, rfl⟩⟩))) (does_seq_ex (does_ift ((et_not (et_B (Evf.r (evf_callS (d := .bool (decide (coreM mid n.toNat = mid))) (eva_cons (ev_var rfl) (eva_cons (ev_var rfl) eva_nil)) ⟨mid, n, rfl, hm, by omega, .inl ⟨h, rfl⟩⟩)))).cast (by rw [decide_eq_false hc]; rfl)) does_rz))⟩
  · exact ⟨_, does_seq (does_drop (Evf.r (evf_callS (eva_cons (ev_var rfl) eva_nil) ⟨_, rfl, .inl ⟨h, rfl⟩⟩))) (does_seq (does_iff ((et_not (et_B (Evf.r (evf_callS (d := .bool (decide (coreM mid n.toNat = mid))) (eva_cons (ev_var rfl) (eva_cons (ev_var rfl) eva_nil)) ⟨mid, n, rfl, hm, by omega, .inl ⟨h, rfl⟩⟩)))).cast (by rw [decide_eq_true hc]; rfl)) does_next)
      (does_seq_ex (does_ift ((et_test (ev_nei (ev_len (ev_var rfl)) (ev_var rfl))).cast (decide_eq_true hq)) does_rz)))⟩
  · refine .inl ?_
    obtain ⟨k, rfl, hk0, hk8⟩ := h.nat
    have hql : rows.length = k := by omega
    rw [Int.toNat_natCast] at hc ⊢
    obtain ⟨_, hA, _, _, _⟩ := join_spec hm hk0 hql fun x hx => (hrow x hx).1
    have hcl := ch_length mid k
    have hup := up_le mid.length k
    obtain ⟨m1, m2⟩ := minI_spec (c := chM mid k) (by omega)
    obtain ⟨x1, x2⟩ := maxI_spec (c := rows.map fun x => (x.length : Int)) (by rw [List.length_map]; omega)
    have hmb := ch_bound hm hk0 _ m1
    have hxb : maxI (rows.map fun x => (x.length : Int)) ≤ 1000 := by
      obtain ⟨y, hy, e⟩ := List.mem_map.mp x1
      have := (hrow y hy).2
      omega
    have hxb0 : 0 ≤ maxI (rows.map fun x => (x.length : Int)) := by
      obtain ⟨y, hy, e⟩ := List.mem_map.mp x1
      omega
    refine does_seq (does_drop (Evf.r (evf_callS (eva_cons (ev_var rfl) eva_nil) ⟨_, rfl, .inl ⟨h, rfl⟩⟩))) ?_
    refine does_seq (does_iff ((et_not (et_B (Evf.r (evf_callS (d := .bool (decide (coreM mid k = mid))) (eva_cons (ev_var rfl) (eva_cons (ev_var rfl) eva_nil)) ⟨mid, k, rfl, hm, by omega, .inl ⟨h, by rw [Int.toNat_natCast]⟩⟩)))).cast (by rw [decide_eq_true hc]; rfl)) does_next) ?_
    refine does_seq (does_iff ((et_test (ev_nei (ev_len (ev_var rfl)) (ev_var rfl))).cast (decide_eq_false fun z => z hq)) does_next) ?_
    refine does_seq (does_asg (evf_callS (eva_cons (ev_var rfl) (eva_cons (ev_var rfl) eva_nil)) ⟨mid, k, rfl, hm, by omega, .inl ⟨h, rfl⟩⟩)) ?_
    rw [Int.toNat_natCast]
    refine does_seq (does_asgi (ev_maxL (Evf.r (evf_mapL (c := dR) (xs := rows) (fun x => (x.length : Int)) (ev_var rfl) (by omega) fun x _ => ev_len (ev_var rfl))) x1 x2)) ?_
    refine does_seq (does_asgi (ev_minL (ev_var rfl) m1 m2)) ?_
    have hb : ∀ j : Nat, j < k → ((rows.getD j []).length : Int) ≤ gi (chM mid k) j - minI (chM mid k) + maxI (rows.map fun x => (x.length : Int)) ∧ gi (chM mid k) j - minI (chM mid k) + maxI (rows.map fun x => (x.length : Int)) ≤ 4000 ∧ (rows.getD j []).length ≤ 1000 := fun j hj => by
      have hmem : rows.getD j [] ∈ rows := by rw [getD_get (by omega)]; exact List.getElem_mem _
      have h1 := m2 _ (gi_mem (r := chM mid k) (i := j) (by omega))
      have h2 := x2 ((rows.getD j []).length : Int) (List.mem_map.mpr ⟨_, hmem, rfl⟩)
      have h3 := (ch_bound hm hk0 _ (gi_mem (r := chM mid k) (i := j) (by omega))).2
      have h4 := (hrow _ hmem).2
      omega
    refine does_ret (evf_call (eva_cons (Evf.r (Evf.cast (evf_mapRR (n := (k : Int)) (fun j : Nat => dR (beadsM (rows.getD j []) (gi (chM mid k) j - minI (chM mid k) + maxI (rows.map fun x => (x.length : Int))).toNat)) (eva_cons (ev_var rfl) eva_nil) (by omega) (by omega) fun j hj => ?_) (show _ = dRR (joinHs mid rows k) by unfold joinHs; rw [dRR, List.map_map, Int.toNat_natCast]; rfl))) eva_nil)
      ⟨_, rfl, by unfold joinHs; rw [List.length_map, List.length_range]; omega, ?_, hA, rfl⟩)
    · obtain ⟨b1, b2, b3⟩ := hb j (by omega)
      exact evf_call (eva_cons (ev_ixRR (ev_var rfl) (ev_var rfl) (by omega) (by omega)) (eva_cons (ev_add (ev_sub (ev_ix (ev_var rfl) (ev_var rfl) (by omega) (by omega)) (ev_var rfl)) (ev_var rfl)) eva_nil)) ⟨_, _, rfl, by rw [Int.toNat_natCast]; omega, by omega, .inr ⟨by rw [Int.toNat_natCast]; exact b1, by rw [Int.toNat_natCast]⟩⟩
    · rw [gather_len]
      refine Nat.le_trans (sum_le_mul (b := 4000) fun l hl => ?_) (by unfold joinHs; rw [List.length_map, List.length_map, List.length_range]; omega)
      obtain ⟨y, hy, rfl⟩ := List.mem_map.mp hl
      obtain ⟨j, hj, rfl⟩ := List.mem_map.mp hy
      rw [beads_len]
      have := (hb j (List.mem_range.mp hj)).2.1
      omega
/-! ## a core and rows, handed in together -/
abbrev dMR (a : List Int) (b : List (List Int)) : PyData := .list [dR a, dRR b]
theorem eqv_MR (a c : List Int) (b d : List (List Int)) : PyData.eqv (dMR a b) (dMR c d) = (decide (a = c) && decide (b = d)) := by
  rw [PyData.eqv, PyData.eqvAll, PyData.eqvAll, PyData.eqvAll, cd_dR a c]
  have := cd_list cd_dR b d
  rw [show PyData.eqv (dRR b) (dRR d) = decide (b = d) from this, Bool.and_true]
theorem lay_MR (a : List Int) (b : List (List Int)) : Lay 3 (dMR a b) := lay_list (layAll_cons ((lay_dR a).mono (by decide)) (layAll_cons (lay_dRR b) layAll_nil))
theorem ev_neMR {K : Frg} {ρ : DE} {ta tb : TE} {a c : List Int} {b d : List (List Int)} (h1 : Evr K ta ρ (dMR a b)) (h2 : Evr K tb ρ (dMR c d)) : Evr K (tOp (rNeA K) ta tb) ρ (.bool (!(decide (a = c) && decide (b = d)))) := (ev_ned h1 h2 (lay_MR a b) (lay_MR c d)).cast (by rw [eqv_MR])
theorem ev_eqMR {K : Frg} {ρ : DE} {ta tb : TE} {a c : List Int} {b d : List (List Int)} (h1 : Evr K ta ρ (dMR a b)) (h2 : Evr K tb ρ (dMR c d)) : Evr K (tOp (rEqA K) ta tb) ρ (.bool (decide (a = c) && decide (b = d))) := (ev_eqd h1 h2 (lay_MR a b) (lay_MR c d)).cast (by rw [eqv_MR])
/-- [[] for k in range(n)] -/
theorem evf_empties {K : Frg} {ρ : DE} {t : TA} {j n : Nat} (hl : Eva K t ρ [.int n]) (hz : n ≤ 1000000) : Evf K (tLc (iRng1 t) (gName j) tYes (tLst tNil) [j]) ρ (dRR (List.replicate n [])) :=
  Evf.cast (evf_mapRR (n := (n : Int)) (fun _ => dR []) hl (by omega) (by omega) fun _ _ => evf_lst evaf_nil) (by
    rw [Int.toNat_natCast, dRR]
    congr 1
    refine List.ext_getElem (by simp) fun i h1 h2 => ?_
    simp)
/-- [list(one) for one in rows] -/
theorem evf_lists {K : Frg} {ρ : DE} {tl : TE} {j : Nat} {rows : List (List Int)} (h : Evr K tl ρ (dRR rows)) (hz : rows.length ≤ 1000000) (hj : j < ρ.length) : Evf K (tLc (iList K tl) (gName j) tYes (tCB (rListA K) (tCons (tVar j) tNil)) [j]) ρ (dRR rows) :=
  Evf.cast (evf_mapLL (c := dR) (xs := rows) (fun x => dR x) h hz fun x _ => evf_list (ev_var (by rw [List.getElem?_set_self hj]))) rfl
/-! ## the size of a core by its charges -/
theorem tri (l : Nat) : 2 * (idL l).sum = (l : Int) * l - l := by
  induction l with
  | zero => rfl
  | succ l ih =>
    have e : idL (l + 1) = idL l ++ [(l : Int)] := by unfold idL; rw [List.range_succ, List.map_append]; rfl
    rw [e, List.sum_append, List.sum_cons, List.sum_nil, Int.natCast_add]
    have : ((l : Int) + ((1 : Nat) : Int)) * (l + ((1 : Nat) : Int)) = l * l + 2 * l + 1 := by
      show ((l : Int) + 1) * (l + 1) = _
      rw [Int.add_mul, Int.mul_add]; omega
    rw [this]
    omega
def twM (c : List Int) (i : Nat) : Int := ((List.range i).map fun k : Nat => ((c.length : Int) * gi c k) * gi c k + (2 * (k : Int)) * gi c k).sum
theorem tw_succ (c : List Int) (i : Nat) : twM c (i + 1) = twM c i + ((c.length : Int) * gi c i) * gi c i + (2 * (i : Int)) * gi c i := by
  unfold twM
  rw [List.range_succ, List.map_append, List.sum_append, List.map_singleton, List.sum_cons, List.sum_nil]
  omega
theorem cof_sum {c : List Int} (hn : 0 < c.length) (hsum : c.sum = 0) : 2 * (cofM c).sum = twM c c.length := by
  obtain ⟨m1, m2⟩ := minI_spec hn
  generalize hm : minI c = m at *
  let hs := (c.map (· - m)).map fun x => idL x.toNat
  have hhl : hs.length = c.length := by simp [hs]
  have hA : AllR hs := fun k hk => by
    rw [getD_get hk]
    simp only [hs, List.getElem_map]
    exact id_rises _
  have hget : ∀ k, k < c.length → hs.getD k [] = idL (gi c k - m).toNat := fun k hk => by
    rw [getD_get (by rw [hhl]; exact hk), gi_get hk]
    simp [hs]
  have hx : ∀ k : Nat, k < c.length → 0 ≤ gi c k - m := fun k hk => by have := m2 _ (gi_mem hk); omega
  have e0 : cofM c = rowOfM (placesOf hs) := by unfold cofM lowM; rw [hm]
  have q1 := row_sum (places_rises hA)
  have hT : (((placesOf hs).length : Nat) : Int) = c.length * (-m) := by
    unfold placesOf
    rw [sortI_len, gather_len, ← sum_lens]
    have e : hs.map (fun h => (h.length : Int)) = (List.range c.length).map fun k : Nat => gi c k + -m := by
      refine List.ext_getElem (by simp [hs]) fun k h1 h2 => ?_
      have hk : k < c.length := by simpa using h2
      simp only [hs, List.getElem_map, List.getElem_range]
      rw [id_len, gi_get hk]
      have := hx k hk
      rw [gi_get hk] at this
      omega
    rw [e, sum_map_add, map_gi, hsum, sum_const, List.length_range]
    omega
  have q2 := tri (placesOf hs).length
  rw [hT] at q2
  rw [places_sum, gather_sum, hhl] at q1
  have e1 : (List.range c.length).map (fun k : Nat => (hs.getD k []).sum) = (List.range c.length).map fun k : Nat => (idL (gi c k - m).toNat).sum := List.map_congr_left fun k hk => by rw [hget k (List.mem_range.mp hk)]
  have e2 : (List.range c.length).map (fun k : Nat => ((hs.getD k []).length : Int) * k) = (List.range c.length).map fun k : Nat => gi c k * k + -m * k := List.map_congr_left fun k hk => by
    have hk' := List.mem_range.mp hk
    have := hx k hk'
    rw [hget k hk', id_len, show (((gi c k - m).toNat : Nat) : Int) = gi c k + -m by omega, Int.add_mul]
  have e3 : 2 * ((List.range c.length).map fun k : Nat => (idL (gi c k - m).toNat).sum).sum = ((List.range c.length).map fun k : Nat => gi c k * gi c k + (-(2 * m + 1)) * gi c k).sum + c.length * (m * m + m) := by
    rw [← sum_map_mul]
    have : ((List.range c.length).map fun k : Nat => 2 * (idL (gi c k - m).toNat).sum) = (List.range c.length).map fun k : Nat => (gi c k * gi c k + (-(2 * m + 1)) * gi c k) + (m * m + m) := List.map_congr_left fun k hk => by
      have := hx k (List.mem_range.mp hk)
      rw [tri, show (((gi c k - m).toNat : Nat) : Int) = gi c k - m by omega]
      grind
    rw [this, sum_map_add, sum_const, List.length_range]
  rw [sum_map_add, sum_map_mul, map_gi, hsum] at e3
  rw [e1, e2, sum_map_add, sum_map_mul] at q1
  have e4 := tri c.length
  have e5 : ((List.range c.length).map fun k : Nat => (k : Int)).sum = (idL c.length).sum := rfl
  rw [e5] at q1
  have e6 : twM c c.length = c.length * ((List.range c.length).map fun k : Nat => gi c k * gi c k).sum + 2 * ((List.range c.length).map fun k : Nat => gi c k * k).sum := by
    unfold twM
    rw [sum_map_add, ← sum_map_mul, ← sum_map_mul]
    congr 1
    · congr 1
      exact List.map_congr_left fun k _ => Int.mul_assoc _ _ _
    · congr 1
      exact List.map_congr_left fun k _ => by rw [Int.mul_assoc, Int.mul_comm (k : Int)]
  rw [e0, e6]
  generalize ((List.range c.length).map fun k : Nat => gi c k * gi c k).sum = A at *
  generalize ((List.range c.length).map fun k : Nat => gi c k * k).sum = B at *
  generalize ((List.range c.length).map fun k : Nat => (idL (gi c k - m).toNat).sum).sum = D at *
  generalize (idL c.length).sum = Tn at *
  generalize (idL (placesOf hs).length).sum = Tp at *
  generalize (rowOfM (placesOf hs)).sum = R at *
  generalize (c.length : Int) = n at *
  clear hT hget hx hA hhl e0 e1 e2 e5 e6
  grind
abbrev N_turned : List Str := ["row", "j", "number"]
def rd_turned (K : Frg) (C : Ec) (W : WX) : TS := (tSeq (tIfS (tTest (tOp (rEqA K) (tCB (rLenA K) (tCons (tVar 0) tNil)) (tC (.int 0))))
  (tRet (tLst tNil)) tNext)
  (tRet (tLc (iRng1 (tCons (tOp (rIx K) (tVar 0) (tC (.int 0))) tNil)) (gName 1) tYes (tCB (rLenA K) (tCons (tLc (iList K (tVar 0)) (gName 2) (tTest (tOp rGtI (tVar 2) (tVar 1))) (tVar 2) [2]) tNil)) [1])))
def R_turned (C : Ec) (ds : List PyData) (o : Except Addr PyData) : Prop := ∃ r : List Int, ds = [dR r] ∧ Row r ∧ r.sum ≤ 100000 ∧ o = .ok (dR (turnedM r))
theorem len_turned {C : Ec} (ds : List PyData) (o : Except Addr PyData) : R_turned C ds o → ds.length = ["row"].length := by
  rintro ⟨_, rfl, _⟩; rfl
theorem map_true {α β : Type} (xs : List α) (f : α → β) : (xs.filter fun _ => true).map f = xs.map f := by
  rw [List.filter_eq_self.mpr fun _ _ => rfl]
theorem does_turned {K : Frg} {C : Ec} {W : WX} {ds : List PyData} {o : Except Addr PyData} : R_turned C ds o → FnDoes K W (rd_turned K C W) (entry N_turned ds) o := by
  rintro ⟨r, rfl, hr, hs, rfl⟩
  refine .inl ?_
  show Does K W (rd_turned K C W) [.fr (dR r), .no, .no] (.rt (dR (turnedM r)))
  by_cases h0 : r = []
  · subst h0
    exact does_seq_rt (does_if (b := true) ((et_test (ev_eqi (ev_len (xs := ([] : List Int)) (ev_var rfl)) ev_int)).cast rfl) (fun _ => does_ret (evf_lst evaf_nil)) fun z => nomatch z)
  · have hl : 0 < r.length := List.length_pos_iff.mpr h0
    have hz := hr.sum_len
    have hb : gi r 0 ≤ 100000 := by
      have e0 : gi r 0 = r[0] := gi_get hl
      have := hr.mem_sum _ (List.getElem_mem hl)
      omega
    refine does_seq (ρ1 := [.fr (dR r), .no, .no]) (does_if (b := false) ((et_test (ev_eqi (ev_len (ev_var rfl)) ev_int)).cast (decide_eq_false (by omega))) (fun z => nomatch z) fun _ => does_next) ?_
    have h00 := gi0_pos hr
    refine does_ret (Evf.cast (evf_lcR (fun _ => true) (fun j : Nat => .int (cnt r (j : Int) : Int)) (eva_cons (ev_ix (ev_var rfl) ev_int (by decide) (by omega)) eva_nil) (by omega) (by omega) (fun x hx => et_yes) fun x hx _ => Evr.f ?_ True.intro) ?_)
    · refine Evr.cast (ev_len (c := PyData.int) (xs := r.filter fun y => decide ((x : Int) < y)) (Evf.r (evf_lcL (c := PyData.int) (fun y => decide ((x : Int) < y)) PyData.int (ev_var rfl) (by omega) (fun y hy => et_test (ev_gt (ev_var rfl) (ev_var rfl))) fun y hy _ => Evr.f (ev_var rfl) True.intro))) rfl
    · rw [map_true]
      unfold turnedM
      rw [dR, List.map_map]
      rfl
abbrev N_hooks : List Str := ["row", "columns", "found", "k", "j"]
def rd_hooks (K : Frg) (C : Ec) (W : WX) : TS := (tSeq (tAsg (tCall (spOf K (R_turned C)) [] E0 (tCons (tVar 0) tNil)) (gName 1))
  (tSeq (tAsg (tLst tNil) (gName 2))
  (tSeq (tFor (iRng1 (tCons (tCB (rLenA K) (tCons (tVar 0) tNil)) tNil)) (gName 3)
  (tDrop (tBM K "list" rAppend (tVar 2) (tCons (tLc (iRng1 (tCons (tOp (rIx K) (tVar 0) (tVar 3)) tNil)) (gName 4) tYes (tOp rSubI (tOp rSubI (tOp rAddA (tOp rSubI (tOp (rIx K) (tVar 0) (tVar 3)) (tVar 4)) (tOp (rIx K) (tVar 1) (tVar 4))) (tVar 3)) (tC (.int 1))) [4]) tNil))))
  (tRet (tVar 2)))))
def R_hooks (C : Ec) (ds : List PyData) (o : Except Addr PyData) : Prop := ∃ r : List Int, ds = [dR r] ∧ Row r ∧ r.sum ≤ 100000 ∧ o = .ok (dRR (hooksM r))
theorem len_hooks {C : Ec} (ds : List PyData) (o : Except Addr PyData) : R_hooks C ds o → ds.length = ["row"].length := by
  rintro ⟨_, rfl, _⟩; rfl
theorem gi_le {r : List Int} (hr : Row r) {k : Nat} (hk : k < r.length) : 1 ≤ gi r k ∧ gi r k ≤ r.sum ∧ gi r k ≤ gi r 0 := by
  rw [gi_get hk]
  have h0 : 0 < r.length := by omega
  have e0 : gi r 0 = r[0] := gi_get h0
  have := hr.le (Nat.zero_le k) hk
  exact ⟨hr.pos _ (List.getElem_mem hk), hr.mem_sum _ (List.getElem_mem hk), by omega⟩
theorem does_hooks {K : Frg} {C : Ec} {W : WX} {ds : List PyData} {o : Except Addr PyData} : R_hooks C ds o → FnDoes K W (rd_hooks K C W) (entry N_hooks ds) o := by
  rintro ⟨r, rfl, hr, hs, rfl⟩
  refine .inl ?_
  show Does K W (rd_hooks K C W) [.fr (dR r), .no, .no, .no, .no] (.rt (dRR (hooksM r)))
  have hz := hr.sum_len
  let T : Nat → List Sl := fun i => [.fr (dR r), .ow (dR (turnedM r)), .ow (.list (((List.range i).map fun k : Nat => (List.range (gi r k).toNat).map fun j : Nat => hookAt r k j).map dR)), .no, .no]
  refine does_seq (does_asg (evf_call (eva_cons (ev_var rfl) eva_nil) ⟨r, rfl, hr, hs, rfl⟩)) ?_
  refine does_seq (does_asg (evf_lst evaf_nil)) ?_
  refine does_seq (does_forR (eva_cons (ev_len (ev_var rfl)) eva_nil) (by omega) (by omega) T rfl fun k hk => ⟨_, does_app rfl (d := dR ((List.range (gi r k).toNat).map fun j : Nat => hookAt r k j)) ?_ ?_, ?_⟩) ?_
  · have hk' : k < r.length := by omega
    obtain ⟨g1, g2, g3⟩ := gi_le hr hk'
    refine Evf.cast (evf_lcR (fun _ => true) (fun j : Nat => .int (hookAt r k j)) (eva_cons (ev_ix (ev_var rfl) (ev_var rfl) (by omega) (by omega)) eva_nil) (by omega) (by omega) (fun x hx => et_yes) fun j hj _ => Evr.f ?_ True.intro) ?_
    · have ej : gi (turnedM r) j = (cnt r (j : Int) : Int) := by rw [gi_get (by rw [turned_len]; omega), turned_get]
      have hj2 : (j : Int) < (turnedM r).length := by rw [turned_len]; omega
      have e := ev_sub (ev_sub (ev_add (ev_sub (ev_ix (K := K) (ρ := (er ((T k).set 3 (.fr (.int (k : Int))))).set 4 (some (.int (j : Int)))) (ta := tVar 0) (tb := tVar 3) (ev_var rfl) (ev_var rfl) (by omega) (by omega)) (ev_var (i := 4) rfl)) (ev_ix (ta := tVar 1) (tb := tVar 4) (ev_var rfl) (ev_var rfl) (by omega) hj2)) (ev_var (i := 3) rfl)) (ev_int (n := 1))
      refine Evr.cast e ?_
      rw [ej]
      rfl
    · rw [map_true, dR, List.map_map]
      rfl
  · rw [List.length_map, List.length_map, List.length_range]; omega
  · show _ = [Sl.fr (dR r), Sl.ow (dR (turnedM r)), Sl.ow (.list (((List.range (k + 1)).map fun k : Nat => (List.range (gi r k).toNat).map fun j : Nat => hookAt r k j).map dR)), Sl.no, Sl.no]
    rw [List.range_succ, List.map_append, List.map_append]
    rfl
  · rw [Int.toNat_natCast]
    exact does_retv rfl
abbrev N_law_turned : List Str := ["row", "found", "number", "j"]
def rd_law_turned (K : Frg) (C : Ec) (W : WX) : TS := (tSeq (tAsg (tLst tNil) (gName 1))
  (tSeq (tFor (iList K (tVar 0)) (gName 2)
  (tFor (iRng1 (tCons (tVar 2) tNil)) (gName 3)
  (tSeq (tIfS (tTest (tOp (rEqA K) (tVar 3) (tCB (rLenA K) (tCons (tVar 1) tNil))))
  (tDrop (tBM K "list" rAppend (tVar 1) (tCons (tC (.int 0)) tNil))) tNext)
  (tAsg (tOp rAddA (tOp (rIx K) (tVar 1) (tVar 3)) (tC (.int 1))) (gSub (tVar 1) (tVar 3) rSetL)))))
  (tRet (tVar 1))))
def R_law_turned (C : Ec) (ds : List PyData) (o : Except Addr PyData) : Prop := ∃ r : List Int, ds = [dR r] ∧ Row r ∧ r.sum ≤ 100000 ∧ o = .ok (dR (turnedM r))
theorem len_law_turned {C : Ec} (ds : List PyData) (o : Except Addr PyData) : R_law_turned C ds o → ds.length = ["row"].length := by
  rintro ⟨_, rfl, _⟩; rfl
/-- behind i lines -/
def ltM (r : List Int) (i : Nat) : List Int := (List.range (if i = 0 then 0 else (gi r 0).toNat)).map fun l : Nat => (cnt (r.take i) (l : Int) : Int)
/-- .. and j cells of the next -/
def ltN (r : List Int) (i j : Nat) : List Int := (List.range (if i = 0 then j else (gi r 0).toNat)).map fun l : Nat => (cnt (r.take i) (l : Int) : Int) + if l < j then 1 else 0
theorem ltN_zero (r : List Int) (i : Nat) : ltN r i 0 = ltM r i := by
  unfold ltN ltM
  refine List.map_congr_left fun l _ => ?_
  rw [if_neg (Nat.not_lt_zero _), Int.add_zero]
theorem ltN_end {r : List Int} (h : Row r) {i : Nat} (hi : i < r.length) : ltN r i (gi r i).toNat = ltM r (i + 1) := by
  unfold ltN ltM
  rw [if_neg (Nat.succ_ne_zero i)]
  have e0 : (if i = 0 then (gi r i).toNat else (gi r 0).toNat) = (gi r 0).toNat := by
    split
    · rename_i e; rw [e]; rfl
    · rfl
  rw [e0]
  refine List.map_congr_left fun l hl => ?_
  have g := gi_le h hi
  rw [take_succ_some (List.getElem?_eq_getElem hi), cnt_append, cnt_cons, cnt_nil, ← gi_get hi]
  by_cases c : l < (gi r i).toNat
  · rw [if_pos c, if_pos (by omega)]; omega
  · rw [if_neg c, if_neg (by omega)]; omega
theorem does_law_turned {K : Frg} {C : Ec} {W : WX} {ds : List PyData} {o : Except Addr PyData} : R_law_turned C ds o → FnDoes K W (rd_law_turned K C W) (entry N_law_turned ds) o := by
  rintro ⟨r, rfl, hr, hs, rfl⟩
  refine .inl ?_
  show Does K W (rd_law_turned K C W) [.fr (dR r), .no, .no, .no] (.rt (dR (turnedM r)))
  have hz := hr.sum_len
  have fin : ltM r r.length = turnedM r := by
    unfold ltM turnedM
    rw [List.take_length]
    by_cases e : r = []
    · subst e; rfl
    · rw [if_neg (fun z => e (List.length_eq_zero_iff.mp z))]
  refine does_seq (does_asg (evf_lst evaf_nil)) (does_seq (does_forv rfl (fun i => [.fr (dR r), .ow (dR (ltM r i)), .no, .no]) rfl fun i x hx => ⟨[.fr (dR r), .ow (dR (ltM r (i + 1))), .fr (.int x), .no], ?_, rfl⟩) (fin ▸ does_retv rfl))
  have hi : i < r.length := (List.getElem?_eq_some_iff.mp hx).1
  have ex : x = gi r i := by
    rw [gi_get hi]
    rw [List.getElem?_eq_getElem hi] at hx
    exact (Option.some.inj hx).symm
  subst ex
  obtain ⟨g1, g2, g3⟩ := gi_le hr hi
  refine does_cast (does_forR (n := gi r i) (eva_cons (ev_var rfl) eva_nil) (by omega) (by omega) (fun j => [.fr (dR r), .ow (dR (ltN r i j)), .fr (.int (gi r i)), .no]) (by rw [ltN_zero]; rfl) fun j hj => ⟨[.fr (dR r), .ow (dR (ltN r i (j + 1))), .fr (.int (gi r i)), .fr (.int (j : Int))], ?_, rfl⟩) (by rw [ltN_end hr hi])
  have hl : (ltN r i j).length = if i = 0 then j else (gi r 0).toNat := by unfold ltN; rw [List.length_map, List.length_range]
  -- grown where it must
  have step : ∀ (L : List Int), L.length ≤ 100001 → (hj : j < L.length) → L.set j (L[j] + 1) = ltN r i (j + 1) → Does K W (tAsg (tOp rAddA (tOp (rIx K) (tVar 1) (tVar 3)) (tC (.int 1))) (gSub (tVar 1) (tVar 3) rSetL)) [.fr (dR r), .ow (dR L), .fr (.int (gi r i)), .fr (.int (j : Int))] (.nx [.fr (dR r), .ow (dR (ltN r i (j + 1))), .fr (.int (gi r i)), .fr (.int (j : Int))]) := fun L hL hjL e => by
    have q := does_seti (K := K) (W := W) (i := 1) (ρ := [.fr (dR r), .ow (dR L), .fr (.int (gi r i)), .fr (.int (j : Int))]) (te := tOp rAddA (tOp (rIx K) (tVar 1) (tVar 3)) (tC (.int 1))) (tk := tVar 3) rfl (ev_add (ev_ix (ev_var rfl) (ev_var rfl) (by omega) (by omega)) ev_int) (ev_var rfl) (by omega : 0 ≤ (j : Int)) (by omega)
    rw [gi_get hjL, Int.toNat_natCast, e] at q
    exact q
  by_cases h0 : i = 0
  · rw [if_pos h0] at hl
    refine does_seq (ρ1 := [.fr (dR r), .ow (dR (ltN r i j ++ [0])), .fr (.int (gi r i)), .fr (.int (j : Int))]) (does_if (b := true) ((et_test (ev_eqi (ev_var rfl) (ev_len (ev_var rfl)))).cast (decide_eq_true (by omega))) (fun _ => does_appi rfl ev_int (by omega)) fun z => nomatch z) ?_
    refine step _ (by rw [List.length_append, List.length_singleton]; omega) (by rw [List.length_append, List.length_singleton]; omega) ?_
    subst h0
    refine List.ext_getElem ?_ fun k h1 h2 => ?_
    · simp [ltN]
    · simp only [List.length_set, List.length_append, List.length_singleton] at h1
      rw [List.getElem_set]
      have hk : k < j + 1 := by omega
      by_cases e : j = k
      · subst e
        rw [if_pos rfl, List.getElem_append_right (by omega)]
        simp [ltN, hl, cnt_nil]
      · rw [if_neg e, List.getElem_append_left (by omega)]
        simp only [ltN, List.getElem_map, List.getElem_range]
        rw [if_pos (by omega), if_pos hk]
  · rw [if_neg h0] at hl
    refine does_seq (ρ1 := [.fr (dR r), .ow (dR (ltN r i j)), .fr (.int (gi r i)), .fr (.int (j : Int))]) (does_if (b := false) ((et_test (ev_eqi (ev_var rfl) (ev_len (ev_var rfl)))).cast (decide_eq_false (by omega))) (fun z => nomatch z) fun _ => does_next) ?_
    have gb := (gi_le hr (k := 0) (by omega)).2.1
    rw [show ((0 : Nat) : Int) = 0 from rfl] at gb
    refine step _ (by omega) (by omega) ?_
    refine List.ext_getElem ?_ fun k h1 h2 => ?_
    · simp [ltN, h0]
    · rw [List.getElem_set]
      by_cases e : j = k
      · subst e
        rw [if_pos rfl]
        simp only [ltN, List.getElem_map, List.getElem_range]
        rw [if_neg (Nat.lt_irrefl _), if_pos (Nat.lt_succ_self _)]
        omega
      · rw [if_neg e]
        simp only [ltN, List.getElem_map, List.getElem_range]
        by_cases c : k < j
        · rw [if_pos c, if_pos (by omega)]
        · rw [if_neg c, if_neg (by omega)]
abbrev N_law_hooks : List Str := ["row", "found", "k", "line", "j", "below", "number"]
def rd_law_hooks (K : Frg) (C : Ec) (W : WX) : TS := (tSeq (tAsg (tLst tNil) (gName 1))
  (tSeq (tFor (iRng1 (tCons (tCB (rLenA K) (tCons (tVar 0) tNil)) tNil)) (gName 2)
  (tSeq (tAsg (tLst tNil) (gName 3))
  (tSeq (tFor (iRng1 (tCons (tOp (rIx K) (tVar 0) (tVar 2)) tNil)) (gName 4)
  (tSeq (tAsg (tCB (rLenA K) (tCons (tLc (iList K (tSl (rSlA K) (tVar 0) (tPart (tOp rAddA (tVar 2) (tC (.int 1)))) tNoPart)) (gName 6) (tTest (tOp rGtI (tVar 6) (tVar 4))) (tVar 6) [6]) tNil)) (gName 5))
  (tDrop (tBM K "list" rAppend (tVar 3) (tCons (tOp rAddA (tOp rSubI (tOp (rIx K) (tVar 0) (tVar 2)) (tVar 4)) (tVar 5)) tNil)))))
  (tDrop (tBM K "list" rAppend (tVar 1) (tCons (tVar 3) tNil))))))
  (tRet (tVar 1))))
def R_law_hooks (C : Ec) (ds : List PyData) (o : Except Addr PyData) : Prop := ∃ r : List Int, ds = [dR r] ∧ Row r ∧ r.sum ≤ 100000 ∧ o = .ok (dRR (hooksM r))
theorem len_law_hooks {C : Ec} (ds : List PyData) (o : Except Addr PyData) : R_law_hooks C ds o → ds.length = ["row"].length := by
  rintro ⟨_, rfl, _⟩; rfl
theorem cnt_full {r : List Int} {j : Int} (h : ∀ x ∈ r, j < x) : cnt r j = r.length := by
  unfold cnt
  rw [List.filter_eq_self.mpr fun x m => decide_eq_true (h x m)]
theorem cnt_drop {r : List Int} (h : Row r) {k : Nat} (hk : k < r.length) {j : Int} (hj : j < gi r k) : cnt r j = k + 1 + cnt (r.drop (k + 1)) j := by
  have e : cnt (r.take (k + 1)) j = k + 1 := by
    rw [cnt_full, List.length_take, Nat.min_eq_left (by omega)]
    intro x m
    obtain ⟨i, hi, rfl⟩ := List.getElem_of_mem m
    rw [List.length_take] at hi
    rw [List.getElem_take]
    have := h.le (show i ≤ k by omega) hk
    rw [gi_get hk] at hj
    omega
  have q := cnt_append (r.take (k + 1)) (r.drop (k + 1)) j
  rw [List.take_append_drop, e] at q
  exact q
theorem does_law_hooks {K : Frg} {C : Ec} {W : WX} {ds : List PyData} {o : Except Addr PyData} : R_law_hooks C ds o → FnDoes K W (rd_law_hooks K C W) (entry N_law_hooks ds) o := by
  rintro ⟨r, rfl, hr, hs, rfl⟩
  refine .inl ?_
  show Does K W (rd_law_hooks K C W) [.fr (dR r), .no, .no, .no, .no, .no, .no] (.rt (dRR (hooksM r)))
  have hz := hr.sum_len
  let T : Nat → List Sl := fun i => [.fr (dR r), .ow (.list (((List.range i).map fun k : Nat => (List.range (gi r k).toNat).map fun j : Nat => hookAt r k j).map dR)), .no, .no, .no, .no, .no]
  refine does_seq (does_asg (evf_lst evaf_nil)) (does_seq (does_forR (eva_cons (ev_len (ev_var rfl)) eva_nil) (by omega) (by omega) T rfl fun k hk => ⟨T (k + 1) |>.set 2 (.fr (.int (k : Int))), ?_, rfl⟩) ?_)
  · have hk' : k < r.length := by omega
    obtain ⟨g1, g2, g3⟩ := gi_le hr hk'
    let ln : Nat → List Int := fun j => (List.range j).map fun j : Nat => hookAt r k j
    refine does_seq (does_asg (evf_lst evaf_nil)) ?_
    refine does_seq (does_forR (n := gi r k) (eva_cons (ev_ix (ev_var rfl) (ev_var rfl) (by omega) (by omega)) eva_nil) (by omega) (by omega)
      (fun j => [.fr (dR r), .ow (.list (((List.range k).map fun k : Nat => (List.range (gi r k).toNat).map fun j : Nat => hookAt r k j).map dR)), .fr (.int (k : Int)), .ow (dR (ln j)), .no, .no, .no]) rfl fun j hj => ⟨[.fr (dR r), .ow (.list (((List.range k).map fun k : Nat => (List.range (gi r k).toNat).map fun j : Nat => hookAt r k j).map dR)), .fr (.int (k : Int)), .ow (dR (ln (j + 1))), .fr (.int (j : Int)), .no, .no], ?_, rfl⟩) ?_
    · have e1 : ln (j + 1) = ln j ++ [hookAt r k j] := by show (List.range (j + 1)).map _ = _; rw [List.range_succ, List.map_append]; rfl
      have eh : gi r k - j + (((r.drop (k + 1)).filter fun y => decide ((j : Int) < y)).length : Int) = hookAt r k j := by
        have := cnt_drop hr hk' (j := (j : Int)) hj
        unfold hookAt
        rw [this]
        unfold cnt
        omega
      rw [e1]
      refine does_no 5 (ρ1 := [.fr (dR r), .ow (.list (((List.range k).map fun k : Nat => (List.range (gi r k).toNat).map fun j : Nat => hookAt r k j).map dR)), .fr (.int (k : Int)), .ow (dR (ln j ++ [hookAt r k j])), .fr (.int (j : Int)), .fr (.int (((r.drop (k + 1)).filter fun y => decide ((j : Int) < y)).length : Int)), .no]) ?_
      refine does_seq (does_asgi (n := (((r.drop (k + 1)).filter fun y => decide ((j : Int) < y)).length : Int)) (ev_len (c := PyData.int) (xs := (r.drop (k + 1)).filter fun y => decide ((j : Int) < y)) (Evf.r (evf_lcL (c := PyData.int) (xs := r.drop (k + 1)) (fun y => decide ((j : Int) < y)) PyData.int (Evf.r (Evf.cast (evf_from (ev_var rfl) (ev_add (ev_var rfl) ev_int) (by omega)) (by rw [show ((k : Int) + 1).toNat = k + 1 by omega]))) (by rw [List.length_drop]; omega) (fun y hy => et_test (ev_gt (ev_var rfl) (ev_var rfl))) fun y hy _ => Evr.f (ev_var rfl) True.intro)))) ?_
      rw [← eh]
      exact does_appi rfl (ev_add (ev_sub (ev_ix (ev_var rfl) (ev_var rfl) (by omega) (by omega)) (ev_var rfl)) (ev_var rfl)) (by show ((List.range j).map _).length < _; rw [List.length_map, List.length_range]; omega)
    · refine does_cast (does_appv rfl rfl (by decide) (by rw [List.length_map, List.length_map, List.length_range]; omega)) ?_
      show Out.nx [Sl.fr (dR r), Sl.ow (.list ((((List.range k).map fun k : Nat => (List.range (gi r k).toNat).map fun j : Nat => hookAt r k j).map dR) ++ [dR (ln (gi r k).toNat)])), Sl.fr (.int (k : Int)), Sl.no, Sl.no, Sl.no, Sl.no] = Out.nx [Sl.fr (dR r), Sl.ow (.list (((List.range (k + 1)).map fun k : Nat => (List.range (gi r k).toNat).map fun j : Nat => hookAt r k j).map dR)), Sl.fr (.int (k : Int)), Sl.no, Sl.no, Sl.no, Sl.no]
      rw [List.range_succ, List.map_append, List.map_append]
      rfl
  · rw [Int.toNat_natCast]
    exact does_retv rfl
/-! ## rims taken off -/
def rimB (ps : List Int) (n b : Int) : Bool := decide (n ≤ b) && decide (b - n ∉ ps)
def legsN (ps : List Int) (n b : Int) : Nat := ((ps.filter fun p => decide (p ≠ b)).filter fun p => decide (b - n < p) && decide (p < b)).length
def movedM (ps : List Int) (n b : Int) : List Int := sortI ((ps.filter fun p => decide (p ≠ b)) ++ [b - n])
def lesserM (r : List Int) (n : Nat) : List (List Int × Int) := ((beadsM r (r.length + n)).filter (rimB (beadsM r (r.length + n)) n)).map fun b => (rowOfM (movedM (beadsM r (r.length + n)) n b), (legsN (beadsM r (r.length + n)) n b : Int))
theorem mem_moved {ps : List Int} {n b x : Int} : x ∈ movedM ps n b ↔ (x ∈ ps ∧ x ≠ b) ∨ x = b - n := by
  unfold movedM
  rw [sortI_mem, List.mem_append, List.mem_filter, List.mem_singleton]
  simp
theorem moved_rises {ps : List Int} {n b : Int} (h : Rises ps) (hb : n ≤ b) (hg : b - n ∉ ps) : Rises (movedM ps n b) := by
  refine ⟨fun x hx => ?_, sortI_lt ?_⟩
  · rcases mem_moved.mp hx with ⟨hx, _⟩ | rfl
    · exact h.nn x hx
    · omega
  · refine List.nodup_append.mpr ⟨h.nodup.filter _, List.nodup_cons.mpr ⟨fun m => (nomatch m), List.nodup_nil⟩, fun x hx y hy e => ?_⟩
    rw [List.mem_singleton.mp hy] at e
    subst e
    exact hg (List.mem_filter.mp hx).1
theorem moved_len {ps : List Int} {n b : Int} : (movedM ps n b).length ≤ ps.length + 1 := by
  unfold movedM
  rw [sortI_len, List.length_append, List.length_singleton]
  have := List.length_filter_le (fun p => decide (p ≠ b)) ps
  omega
theorem lessN_split {ps : List Int} {x : Int} {c : Nat} (hc : c ≤ ps.length) (h1 : ∀ t : Nat, t < c → gi ps t < x) (h2 : ∀ t : Nat, c ≤ t → t < ps.length → x ≤ gi ps t) : lessN ps x = c := by
  have q := lessN_append (ps.take c) (ps.drop c) x
  rw [List.take_append_drop] at q
  rw [q, lessN_all, lessN_none, List.length_take, Nat.min_eq_left hc]
  · rfl
  · intro p hp
    obtain ⟨t, ht, rfl⟩ := List.getElem_of_mem hp
    rw [List.length_drop] at ht
    rw [List.getElem_drop]
    have := h2 (c + t) (by omega) (by omega)
    rw [gi_get (by omega)] at this
    exact this
  · intro p hp
    obtain ⟨t, ht, rfl⟩ := List.getElem_of_mem hp
    rw [List.length_take] at ht
    rw [List.getElem_take]
    have := h1 t (by omega)
    rw [gi_get (by omega)] at this
    exact this
theorem legs_eq {n b : Int} (hn : 0 < n) : ∀ {ps : List Int}, b - n ∉ ps → legsN ps n b + lessN ps (b - n) = lessN ps b
  | [], _ => rfl
  | p :: ps, h => by
    have ih := legs_eq hn (ps := ps) fun m => h (List.mem_cons_of_mem _ m)
    have hp : p ≠ b - n := fun e => h (e ▸ List.mem_cons_self)
    rw [lessN_cons, lessN_cons]
    unfold legsN at ih ⊢
    rw [List.filter_cons]
    by_cases e : p = b
    · subst e
      rw [if_neg (by simp), if_neg (by omega), if_neg (by omega)]
      omega
    · rw [if_pos (by simpa using e), List.filter_cons]
      by_cases c1 : p < b - n
      · rw [if_neg (by rw [decide_eq_false (show ¬ b - n < p by omega)]; simp), if_pos c1, if_pos (by omega)]
        omega
      · by_cases c2 : p < b
        · rw [if_pos (by rw [decide_eq_true (show b - n < p by omega), decide_eq_true c2]; rfl), if_neg c1, if_pos c2, List.length_cons]
          omega
        · rw [if_neg (by rw [decide_eq_false c2]; simp), if_neg c1, if_neg c2]
          omega
/-- line by line -/
def madF (r : List Int) (k j i : Nat) : Int := if i < k then gi r i else if i + 1 < cnt r j then gi r ((i + 1 : Nat) : Int) - 1 else if i + 1 = cnt r j then j else gi r i
def madM (r : List Int) (k j : Nat) : List Int := (List.range r.length).map (madF r k j)
def lwOne (r : List Int) (n : Int) (k : Nat) : List Int × Int := ((madM r k ((lineM r k).idxOf n)).filter fun x => decide (0 < x), ((cnt r ((lineM r k).idxOf n : Nat) : Nat) : Int) - 1 - k)
def lwLesserM (r : List Int) (n : Nat) : List (List Int × Int) := ((List.range r.length).reverse.filter fun k => decide ((n : Int) ∈ lineM r k)).map (lwOne r n)
/-- the bead of line k, of m beads -/
def bdM (r : List Int) (m k : Nat) : Int := gi r k + m - 1 - k
theorem beads_bd (r : List Int) (m : Nat) : beadsM r m = (List.range m).reverse.map (bdM r m) := by
  unfold beadsM
  refine List.ext_getElem (by simp) fun t h1 h2 => ?_
  have ht : t < m := by simpa using h1
  simp only [List.getElem_map, List.getElem_range, List.getElem_reverse, List.length_range]
  unfold bdM
  rw [show ((m - 1 - t : Nat) : Int) = (m : Int) - 1 - t by omega]
  omega
theorem mem_beads {r : List Int} {m : Nat} {x : Int} : x ∈ beadsM r m ↔ ∃ k, k < m ∧ x = bdM r m k := by
  rw [beads_bd, List.mem_map]
  constructor
  · rintro ⟨k, hk, rfl⟩
    exact ⟨k, List.mem_range.mp (List.mem_reverse.mp hk), rfl⟩
  · rintro ⟨k, hk, rfl⟩
    exact ⟨k, List.mem_reverse.mpr (List.mem_range.mpr hk), rfl⟩
theorem bd_lt {r : List Int} (h : Row r) (m : Nat) {i k : Nat} (hik : i < k) : bdM r m k < bdM r m i := by
  unfold bdM
  have := h.gi_anti (i := (i : Int)) (j := (k : Int)) (by omega) (by omega)
  omega
theorem mem_line {r : List Int} {k : Nat} {n : Int} : n ∈ lineM r k ↔ ∃ j : Nat, (j : Int) < gi r k ∧ hookAt r k j = n := by
  unfold lineM
  rw [List.mem_map]
  constructor
  · rintro ⟨j, hj, e⟩
    have := List.mem_range.mp hj
    exact ⟨j, by omega, e⟩
  · rintro ⟨j, hj, e⟩
    exact ⟨j, List.mem_range.mpr (by omega), e⟩
theorem hook_gap {r : List Int} (m k j : Nat) : hookAt r k j = bdM r m k - ((j : Int) + m - cnt r j) := by
  unfold hookAt bdM
  omega
theorem rim_line {r : List Int} {n m k : Nat} (h : Row r) (hn : 0 < n) (hm : r.length ≤ m) (hk : k < m) : rimB (beadsM r m) n (bdM r m k) = decide ((n : Int) ∈ lineM r k) := by
  have hg := gaps_row h hm hk
  have hb0 : 0 ≤ gi r k + m - 1 - k := by have := h.gi_nn (k : Int); omega
  have e : bdM r m k = gi r k + m - 1 - k := rfl
  have key : (bdM r m k - n) ∈ gapsM (beadsM r m) (gi r k + m - 1 - k).toNat ↔ (n : Int) ∈ lineM r k := by
    rw [hg, List.mem_map, mem_line]
    constructor
    · rintro ⟨j, hj, e2⟩
      have := List.mem_range.mp hj
      refine ⟨j, by omega, ?_⟩
      rw [hook_gap m]
      omega
    · rintro ⟨j, hj, e2⟩
      rw [hook_gap m] at e2
      exact ⟨j, List.mem_range.mpr (by omega), by omega⟩
  rw [mem_gaps] at key
  unfold rimB
  by_cases c : (n : Int) ∈ lineM r k
  · obtain ⟨a1, a2, a3⟩ := key.mpr c
    rw [decide_eq_true c, decide_eq_true (show (n : Int) ≤ bdM r m k by omega), decide_eq_true a3]
    rfl
  · rw [decide_eq_false c]
    by_cases c1 : (n : Int) ≤ bdM r m k
    · have : ¬ (bdM r m k - n ∉ beadsM r m) := fun z => c (key.mp ⟨by omega, by omega, z⟩)
      rw [decide_eq_true c1, decide_eq_false this]
      rfl
    · rw [decide_eq_false c1]
      rfl
theorem idx_hook {r : List Int} {k : Nat} {n : Int} (h : n ∈ lineM r k) : (((lineM r k).idxOf n : Nat) : Int) < gi r k ∧ hookAt r k ((lineM r k).idxOf n) = n := by
  have hl := List.idxOf_lt_length_of_mem h
  have e : (lineM r k)[(lineM r k).idxOf n] = n := List.getElem_idxOf hl
  have hl2 : (lineM r k).idxOf n < (gi r k).toNat := by
    have : (lineM r k).length = (gi r k).toNat := by unfold lineM; rw [List.length_map, List.length_range]
    omega
  refine ⟨by omega, ?_⟩
  have gl : ∀ (i : Nat) (h : i < (lineM r k).length), (lineM r k)[i] = hookAt r k i := by
    intro i h
    simp only [lineM, List.getElem_map, List.getElem_range]
  rw [gl] at e
  exact e
theorem mad_fall {r : List Int} (h : Row r) {k j : Nat} (hk : k < cnt r j) : (∀ x ∈ madM r k j, 0 ≤ x) ∧ (madM r k j).Pairwise fun a b => b ≤ a := by
  have hc := cnt_le r j
  have c0 : ∀ i : Nat, i < cnt r j → (j : Int) < gi r i := fun i hi => (cnt_gi h).mpr hi
  have c1 : ∀ i : Nat, cnt r j ≤ i → gi r i ≤ j := fun i hi => by
    have := (cnt_gi h (t := i) (j := j)).mp
    by_cases z : (j : Int) < gi r i
    · have := this z; omega
    · omega
  have an : ∀ a b : Nat, a ≤ b → gi r b ≤ gi r a := fun a b hab => h.gi_anti (by omega) (by omega)
  have nn : ∀ a : Nat, 0 ≤ gi r a := fun a => h.gi_nn _
  refine ⟨fun x hx => ?_, List.pairwise_iff_getElem.mpr fun a b ha hb hab => ?_⟩
  · obtain ⟨i, _, rfl⟩ := List.mem_map.mp hx
    unfold madF
    have := nn i
    split
    · exact this
    · split
      · rename_i q; have := c0 (i + 1) q; omega
      · split
        · omega
        · exact this
  · have gm : ∀ (i : Nat) (h : i < (madM r k j).length), (madM r k j)[i] = madF r k j i := by
      intro i h
      simp only [madM, List.getElem_map, List.getElem_range]
    rw [gm, gm]
    unfold madF
    have a1 := an a b (by omega)
    have a2 := an (a + 1) b (by omega)
    have a3 := an (a + 1) (b + 1) (by omega)
    have a4 := an a (b + 1) (by omega)
    have b1 := c0 (a + 1)
    have b2 := c0 a
    have b3 := c1 b
    have b4 := c1 (b + 1)
    have b5 := c0 (b + 1)
    have b6 := an a k
    have b7 := c0 k hk
    split <;> split <;> (try split) <;> (try split) <;> omega
/-- a bead moved: the row line by line -/
theorem moved_row {r : List Int} (h : Row r) {n m k j : Nat} (hn : 0 < n) (hm : r.length ≤ m) (hk : k < r.length) (hj : (j : Int) < gi r k) (hh : hookAt r k j = n) :
    rowOfM (movedM (beadsM r m) n (bdM r m k)) = (madM r k j).filter fun x => decide (0 < x) := by
  have hkc : k < cnt r j := (cnt_gi h).mp hj
  have hc := cnt_le r j
  obtain ⟨f1, f2⟩ := mad_fall h hkc
  have hM : Row ((madM r k j).filter fun x => decide (0 < x)) := ⟨fun x m => by have := of_decide_eq_true (List.mem_filter.mp m).2; omega, List.Pairwise.filter _ f2⟩
  have hMl : ((madM r k j).filter fun x => decide (0 < x)).length ≤ r.length := Nat.le_trans (List.length_filter_le _ _) (by simp [madM])
  have hg : bdM r m k - n = (j : Int) + m - cnt r j := by rw [hook_gap m] at hh; omega
  have hgi : ∀ i : Nat, gi ((madM r k j).filter fun x => decide (0 < x)) i = if i < r.length then madF r k j i else 0 := fun i => by
    rw [gi_pos_filter f1 f2]
    by_cases c : i < r.length
    · rw [if_pos c]; exact gi_mapR _ c
    · rw [if_neg c, gi_out (by unfold madM; rw [List.length_map, List.length_range, Int.toNat_natCast]; omega)]
  have hB := beads_rises h m
  have hbd := rim_line h hn hm (show k < m by omega)
  have hline : (n : Int) ∈ lineM r k := mem_line.mpr ⟨j, hj, hh⟩
  rw [decide_eq_true hline] at hbd
  unfold rimB at hbd
  rw [Bool.and_eq_true] at hbd
  have hb1 : (n : Int) ≤ bdM r m k := of_decide_eq_true hbd.1
  have hb2 : bdM r m k - n ∉ beadsM r m := of_decide_eq_true hbd.2
  have e : movedM (beadsM r m) n (bdM r m k) = beadsM ((madM r k j).filter fun x => decide (0 < x)) m := by
    refine incr_eq (moved_rises hB hb1 hb2).rise (beads_rises hM m).rise fun x => ?_
    rw [mem_moved, mem_beads, mem_beads, hg]
    constructor
    · rintro (⟨⟨i, hi, rfl⟩, hne⟩ | rfl)
      · have hik : i ≠ k := fun z => hne (by rw [z])
        by_cases c1 : i < k
        · refine ⟨i, hi, ?_⟩
          unfold bdM
          rw [hgi, if_pos (by omega)]
          unfold madF
          rw [if_pos c1]
        · by_cases c2 : i < cnt r j
          · refine ⟨i - 1, by omega, ?_⟩
            unfold bdM
            rw [hgi, if_pos (by omega)]
            unfold madF
            rw [if_neg (by omega), if_pos (by omega), show i - 1 + 1 = i by omega]
            omega
          · refine ⟨i, hi, ?_⟩
            unfold bdM
            rw [hgi]
            by_cases c3 : i < r.length
            · rw [if_pos c3]
              unfold madF
              rw [if_neg c1, if_neg (by omega), if_neg (by omega)]
            · rw [if_neg c3, gi_out (by rw [Int.toNat_natCast]; omega)]
      · refine ⟨cnt r j - 1, by omega, ?_⟩
        unfold bdM
        rw [hgi, if_pos (by omega)]
        unfold madF
        rw [if_neg (by omega), if_neg (by omega), if_pos (by omega)]
        omega
    · rintro ⟨i, hi, rfl⟩
      have fin : ∀ i', i' < m → i' ≠ k → ((∃ k_1, k_1 < m ∧ bdM r m i' = bdM r m k_1) ∧ bdM r m i' ≠ bdM r m k) := fun i' h1 h2 => ⟨⟨i', h1, rfl⟩, fun z => by
        rcases Nat.lt_or_gt_of_ne h2 with q | q
        · have := bd_lt h m q; omega
        · have := bd_lt h m q; omega⟩
      by_cases c0 : i < r.length
      · have ev : bdM ((madM r k j).filter fun x => decide (0 < x)) m i = madF r k j i + m - 1 - i := by unfold bdM; rw [hgi, if_pos c0]
        rw [ev]
        unfold madF
        by_cases c1 : i < k
        · rw [if_pos c1]
          exact .inl (fin i hi (by omega))
        · rw [if_neg c1]
          by_cases c2 : i + 1 < cnt r j
          · rw [if_pos c2]
            left
            have := fin (i + 1) (by omega) (by omega)
            rw [show gi r ((i + 1 : Nat) : Int) - 1 + m - 1 - i = bdM r m (i + 1) by unfold bdM; omega]
            exact this
          · rw [if_neg c2]
            by_cases c3 : i + 1 = cnt r j
            · rw [if_pos c3]
              right
              omega
            · rw [if_neg c3]
              exact .inl (fin i hi (by omega))
      · have ev : bdM ((madM r k j).filter fun x => decide (0 < x)) m i = bdM r m i := by
          unfold bdM
          rw [hgi, if_neg c0, gi_out (r := r) (by rw [Int.toNat_natCast]; omega)]
        rw [ev]
        exact .inl (fin i hi (by omega))
  rw [e, rowOf_beads hM (by omega)]
theorem legs_row {r : List Int} (h : Row r) {n m k j : Nat} (hn : 0 < n) (hm : r.length ≤ m) (hk : k < r.length) (hj : (j : Int) < gi r k) (hh : hookAt r k j = n) : (legsN (beadsM r m) n (bdM r m k) : Int) = (cnt r j : Int) - 1 - k := by
  have hkc : k < cnt r j := (cnt_gi h).mp hj
  have hc := cnt_le r j
  have hB := beads_rises h m
  have hg : bdM r m k - n = (j : Int) + m - cnt r j := by rw [hook_gap m] at hh; omega
  have hbd := rim_line h hn hm (show k < m by omega)
  rw [decide_eq_true (mem_line.mpr ⟨j, hj, hh⟩)] at hbd
  unfold rimB at hbd
  rw [Bool.and_eq_true] at hbd
  have hb2 : bdM r m k - n ∉ beadsM r m := of_decide_eq_true hbd.2
  have q := legs_eq (show (0 : Int) < n by omega) hb2
  have l1 : lessN (beadsM r m) (bdM r m k) = m - 1 - k := by
    have := lessN_at hB.rise (i := m - 1 - k) (by rw [beads_len]; omega)
    rw [beads_get (by omega), show (m : Int) - 1 - ((m - 1 - k : Nat) : Int) = k by omega] at this
    rw [← this]
    congr 1
    unfold bdM
    omega
  have l2 : lessN (beadsM r m) (bdM r m k - n) = m - cnt r j := by
    rw [hg]
    refine lessN_split (by rw [beads_len]; omega) (fun t ht => ?_) fun t ht htl => ?_
    · rw [beads_get (by omega)]
      have := (cnt_gi h (t := m - 1 - t) (j := j))
      rw [show ((m - 1 - t : Nat) : Int) = (m : Int) - 1 - t by omega] at this
      by_cases z : (j : Int) < gi r ((m : Int) - 1 - t)
      · have := this.mp z; omega
      · omega
    · rw [beads_len] at htl
      rw [beads_get htl]
      have := (cnt_gi h (t := m - 1 - t) (j := j)).mpr (by omega)
      rw [show ((m - 1 - t : Nat) : Int) = (m : Int) - 1 - t by omega] at this
      omega
  rw [l1, l2] at q
  omega
theorem lesser_eq {r : List Int} {n : Nat} (h : Row r) (hn : 0 < n) : lesserM r n = lwLesserM r n := by
  unfold lesserM lwLesserM
  generalize hm : r.length + n = m
  have hml : r.length ≤ m := by omega
  have e0 : (beadsM r m).filter (rimB (beadsM r m) n) = ((List.range m).reverse.filter fun k => rimB (beadsM r m) n (bdM r m k)).map (bdM r m) := by
    have : ∀ ps : List Int, ((List.range m).reverse.map (bdM r m)).filter (rimB ps n) = ((List.range m).reverse.filter fun k => rimB ps n (bdM r m k)).map (bdM r m) := fun ps => by
      rw [List.filter_map]
      rfl
    have q := this (beadsM r m)
    rw [← beads_bd] at q
    exact q
  rw [e0]
  rw [List.map_map]
  have e1 : ((List.range m).reverse.filter fun k => rimB (beadsM r m) n (bdM r m k)) = (List.range r.length).reverse.filter fun k => decide ((n : Int) ∈ lineM r k) := by
    rw [← hm, List.range_add, List.reverse_append, List.filter_append]
    have : ((List.map (fun x => r.length + x) (List.range n)).reverse.filter fun k => rimB (beadsM r (r.length + n)) n (bdM r (r.length + n) k)) = [] := List.filter_eq_nil_iff.mpr fun k hk => by
      obtain ⟨x, hx, rfl⟩ := List.mem_map.mp (List.mem_reverse.mp hk)
      have := List.mem_range.mp hx
      rw [rim_line h hn (by omega) (by omega), line_out (by omega)]
      simp
    rw [this, List.nil_append]
    refine List.filter_congr fun k hk => ?_
    have := List.mem_range.mp (List.mem_reverse.mp hk)
    exact rim_line h hn (by omega) (by omega)
  rw [e1]
  refine List.map_congr_left fun k hk => ?_
  obtain ⟨hk1, hk2⟩ := List.mem_filter.mp hk
  have hkl := List.mem_range.mp (List.mem_reverse.mp hk1)
  obtain ⟨j1, j2⟩ := idx_hook (of_decide_eq_true hk2)
  show (rowOfM (movedM (beadsM r m) n (bdM r m k)), (legsN (beadsM r m) n (bdM r m k) : Int)) = lwOne r n k
  unfold lwOne
  rw [moved_row h hn hml hkl j1 j2, legs_row h hn hml hkl j1 j2]
abbrev N_lesser : List Str := ["row", "rods", "places", "found", "bead", "left", "legs", "place"]
def rd_lesser (K : Frg) (C : Ec) (W : WX) : TS := (tSeq (tDrop (tCallS (spOf K (R_known C)) (WE W) (tCons (tVar 1) tNil)))
  (tSeq (tAsg (tCallS (spOf K (R_beads C)) (WE W) (tCons (tVar 0) (tCons (tOp rAddA (tCB (rLenA K) (tCons (tVar 0) tNil)) (tVar 1)) tNil))) (gName 2))
  (tSeq (tAsg (tLst tNil) (gName 3))
  (tSeq (tFor (iList K (tVar 2)) (gName 4)
  (tIfS (tAnd (tTest (tOp rGeI (tVar 4) (tVar 1))) (tTest (tOp (rNiA K) (tOp rSubI (tVar 4) (tVar 1)) (tVar 2))))
  (tSeq (tAsg (tLc (iList K (tVar 2)) (gName 7) (tTest (tOp (rNeA K) (tVar 7) (tVar 4))) (tVar 7) [7]) (gName 5))
  (tSeq (tAsg (tCB (rLenA K) (tCons (tLc (iList K (tVar 5)) (gName 7) (tAnd (tTest (tOp rLtI (tOp rSubI (tVar 4) (tVar 1)) (tVar 7))) (tTest (tOp rLtI (tVar 7) (tVar 4)))) (tVar 7) [7]) tNil)) (gName 6))
  (tDrop (tBM K "list" rAppend (tVar 3) (tCons (tTup (tCons (tCallS (spOf K (R_row_of C)) (WE W) (tCons (tCB (rSortedI K) (tCons (tOp rAddA (tVar 5) (tLst (tCons (tOp rSubI (tVar 4) (tVar 1)) tNil))) tNil)) tNil)) (tCons (tVar 6) tNil))) tNil))))) tNext))
  (tRet (tVar 3))))))
def R_lesser (C : Ec) (ds : List PyData) (o : Except Addr PyData) : Prop := ∃ (r : List Int) (n : Int), ds = [dR r, .int n] ∧ Row r ∧ r.length ≤ 10000 ∧ ((RodsOk n ∧ o = .ok (.list ((lesserM r n.toNat).map dL))) ∨ (¬ RodsOk n ∧ o = .error C.NoRods))
theorem len_lesser {C : Ec} (ds : List PyData) (o : Except Addr PyData) : R_lesser C ds o → ds.length = ["row", "rods"].length := by
  rintro ⟨_, _, rfl, _⟩; rfl
theorem does_lesser {K : Frg} {C : Ec} {W : WX} {ds : List PyData} {o : Except Addr PyData} : R_lesser C ds o → FnDoes K W (rd_lesser K C W) (entry N_lesser ds) o := by
  rintro ⟨r, n, rfl, hr, hl, ⟨h, rfl⟩ | ⟨h, rfl⟩⟩
  · refine .inl ?_
    obtain ⟨k, rfl, hk0, hk8⟩ := h.nat
    rw [Int.toNat_natCast]
    show Does K W (rd_lesser K C W) [.fr (dR r), .fr (.int k), .no, .no, .no, .no, .no, .no] (.rt (.list ((lesserM r k).map dL)))
    have hB := beads_rises hr (r.length + k)
    have hbl := beads_len r (r.length + k)
    refine does_seq (does_drop (Evf.r (evf_callS (eva_cons (ev_var rfl) eva_nil) ⟨_, rfl, .inl ⟨h, rfl⟩⟩))) ?_
    refine does_seq (does_asg (evf_callS (d := dR (beadsM r (r.length + k))) (eva_cons (ev_var rfl) (eva_cons (ev_add (ev_len (ev_var rfl)) (ev_var rfl)) eva_nil)) ⟨r, _, rfl, by omega, by omega, .inr ⟨by omega, by rw [show ((r.length : Int) + k).toNat = r.length + k by omega]⟩⟩)) ?_
    unfold lesserM
    generalize beadsM r (r.length + k) = ps at *
    refine does_seq (does_asg (evf_lst evaf_nil)) ?_
    refine does_frz (i := 2) rfl ?_
    let f : Int → List Int × Int := fun b => (rowOfM (movedM ps k b), (legsN ps k b : Int))
    let L : Nat → List (List Int × Int) := fun i => ((ps.take i).filter (rimB ps k)).map f
    have hLl : ∀ i, (L i).length ≤ ps.length := fun i => by
      show (List.map _ (List.filter _ _)).length ≤ _
      rw [List.length_map]
      refine Nat.le_trans (List.length_filter_le _ _) ?_
      rw [List.length_take]
      omega
    refine does_seq (does_forv (cd := PyData.int) (xs := ps) rfl (fun i => [.fr (dR r), .fr (.int k), .fr (dR ps), .ow (.list ((L i).map dL)), .no, .no, .no, .no]) rfl fun i b hb => ⟨[.fr (dR r), .fr (.int k), .fr (dR ps), .ow (.list ((L (i + 1)).map dL)), .fr (.int b), .no, .no, .no], ?_, rfl⟩) ?_
    · have hbm : b ∈ ps := List.mem_of_getElem? hb
      have hil : i < ps.length := (List.getElem?_eq_some_iff.mp hb).1
      have hli := hLl i
      have e : L (i + 1) = L i ++ if rimB ps k b = true then [f b] else [] := by
        show List.map f (List.filter _ (ps.take (i + 1))) = _
        rw [take_succ_some hb, List.filter_append, List.map_append, List.filter_cons]
        cases rimB ps k b with
        | true => rfl
        | false => rfl
      have ht : Evt K (tAnd (tTest (tOp rGeI (tVar 4) (tVar 1))) (tTest (tOp (rNiA K) (tOp rSubI (tVar 4) (tVar 1)) (tVar 2)))) (er [.fr (dR r), .fr (.int k), .fr (dR ps), .ow (.list ((L i).map dL)), .fr (.int b), .no, .no, .no]) (rimB ps k b) :=
        et_and (et_test (ev_ge (ev_var rfl) (ev_var rfl))) fun _ => et_test (ev_ni (ev_sub (ev_var rfl) (ev_var rfl)) (ev_var rfl))
      refine does_if ht (fun hc => ?_) fun hc => ?_
      · rw [e, if_pos hc]
        unfold rimB at hc
        rw [Bool.and_eq_true] at hc
        have h1 : (k : Int) ≤ b := of_decide_eq_true hc.1
        have h2 : b - k ∉ ps := of_decide_eq_true hc.2
        have hM := moved_rises hB h1 h2
        have hMl := moved_len (ps := ps) (n := k) (b := b)
        have hfl := List.length_filter_le (fun p => decide (p ≠ b)) ps
        refine does_no 5 (ρ1 := [.fr (dR r), .fr (.int k), .fr (dR ps), .ow (.list ((L i ++ [f b]).map dL)), .fr (.int b), .ow (dR (ps.filter fun p => decide (p ≠ b))), .no, .no]) (does_no 6 (ρ1 := [.fr (dR r), .fr (.int k), .fr (dR ps), .ow (.list ((L i ++ [f b]).map dL)), .fr (.int b), .ow (dR (ps.filter fun p => decide (p ≠ b))), .fr (.int (legsN ps k b)), .no]) ?_)
        refine does_seq (does_asg (evf_fil (fun p => decide (p ≠ b)) (ev_var rfl) (by omega) (fun p _ => et_test (ev_nei (ev_var rfl) (ev_var rfl))) (by show 7 < 8; decide))) ?_
        refine does_seq (does_asgi (n := (legsN ps k b : Int)) (ev_len (c := PyData.int) (xs := (ps.filter fun p => decide (p ≠ b)).filter fun p => decide (b - k < p) && decide (p < b)) (Evf.r (evf_fil (fun p => decide (b - k < p) && decide (p < b)) (ev_var rfl) (by omega) (fun p _ => et_and (et_test (ev_lt (ev_sub (ev_var rfl) (ev_var rfl)) (ev_var rfl))) fun _ => et_test (ev_lt (ev_var rfl) (ev_var rfl))) (by show 7 < 8; decide))))) ?_
        rw [show ((L i ++ [f b]).map dL) = (L i).map dL ++ [dL (f b)] by rw [List.map_append]; rfl]
        exact does_app rfl (evf_tup (evaf_cons (evf_callS (d := dR (rowOfM (movedM ps k b))) (eva_cons (Evf.r (evf_sorted (s := movedM ps k b) (Evf.r (evf_cat (s := [b - k]) (ev_var rfl) (Evf.r (Evf.cast (evf_lst (evaf_cons (Evr.f (ev_sub (ev_var rfl) (ev_var rfl)) True.intro) evaf_nil)) rfl)) (by rw [List.length_singleton]; omega))) (sortI_perm _) (sortI_rise _))) eva_nil) ⟨_, rfl, by omega, .inl ⟨hM, rfl⟩⟩) (evaf_cons (Evr.f (ev_var rfl) True.intro) evaf_nil))) (by rw [List.length_map]; omega)
      · rw [e, if_neg (by rw [hc]; decide), List.append_nil]
        exact does_next
    · rw [show L ps.length = (ps.filter (rimB ps k)).map f by show List.map f (List.filter _ (ps.take ps.length)) = _; rw [List.take_length]]
      exact does_retv rfl
  · exact ⟨_, does_seq_ex (does_dropx (evx_callS (eva_cons (ev_var rfl) eva_nil) ⟨n, rfl, .inr ⟨h, rfl⟩⟩))⟩
abbrev N_law_lesser : List Str := ["row", "rods", "found", "lines", "k", "j", "last", "made", "number"]
def rd_law_lesser (K : Frg) (C : Ec) (W : WX) : TS := (tSeq (tAsg (tLst tNil) (gName 2))
  (tSeq (tAsg (tCall (spOf K (R_law_hooks C)) [] E0 (tCons (tVar 0) tNil)) (gName 3))
  (tSeq (tFor (iRng3 (tCons (tOp rSubI (tCB (rLenA K) (tCons (tVar 0) tNil)) (tC (.int 1))) (tCons (tUn (rU fun i => .int (-i)) (tC (.int 1))) (tCons (tUn (rU fun i => .int (-i)) (tC (.int 1))) tNil)))) (gName 4)
  (tIfS (tTest (tOp (rInA K) (tVar 1) (tOp (rIx K) (tVar 3) (tVar 4))))
  (tSeq (tAsg (tBM K "list" (rIndex K) (tOp (rIx K) (tVar 3) (tVar 4)) (tCons (tVar 1) tNil)) (gName 5))
  (tSeq (tAsg (tOp rSubI (tCB (rLenA K) (tCons (tLc (iList K (tVar 0)) (gName 8) (tTest (tOp rGtI (tVar 8) (tVar 5))) (tVar 8) [8]) tNil)) (tC (.int 1))) (gName 6))
  (tSeq (tAsg (tOp rAddA (tSl (rSlA K) (tVar 0) tNoPart (tPart (tVar 4))) (tLc (iList K (tSl (rSlA K) (tVar 0) (tPart (tOp rAddA (tVar 4) (tC (.int 1)))) (tPart (tOp rAddA (tVar 6) (tC (.int 1)))))) (gName 8) tYes (tOp rSubI (tVar 8) (tC (.int 1))) [8])) (gName 7))
  (tSeq (tAsg (tOp rAddA (tOp rAddA (tVar 7) (tLst (tCons (tVar 5) tNil))) (tSl (rSlA K) (tVar 0) (tPart (tOp rAddA (tVar 6) (tC (.int 1)))) tNoPart)) (gName 7))
  (tDrop (tBM K "list" rAppend (tVar 2) (tCons (tTup (tCons (tLc (iList K (tVar 7)) (gName 8) (tTest (tOp rGtI (tVar 8) (tC (.int 0)))) (tVar 8) [8]) (tCons (tOp rSubI (tVar 6) (tVar 4)) tNil))) tNil))))))) tNext))
  (tRet (tVar 2)))))
theorem gi_append (a b : List Int) (i : Nat) : gi (a ++ b) i = if i < a.length then gi a i else gi b ((i - a.length : Nat) : Int) := by
  unfold gi
  rw [Int.toNat_natCast, Int.toNat_natCast, List.getD_eq_getElem?_getD, List.getElem?_append]
  split
  · rw [List.getD_eq_getElem?_getD]
  · rw [List.getD_eq_getElem?_getD]
theorem gi_take {a : List Int} {k i : Nat} (h : i < k) : gi (a.take k) i = gi a i := by
  unfold gi
  rw [Int.toNat_natCast, List.getD_eq_getElem?_getD, List.getD_eq_getElem?_getD, List.getElem?_take, if_pos h]
theorem gi_drop (a : List Int) (k i : Nat) : gi (a.drop k) i = gi a ((k + i : Nat) : Int) := by
  unfold gi
  rw [Int.toNat_natCast, Int.toNat_natCast, List.getD_eq_getElem?_getD, List.getD_eq_getElem?_getD, List.getElem?_drop]
theorem mad_slices {r : List Int} {k j : Nat} (h1 : k < cnt r j) (h2 : cnt r j ≤ r.length) : r.take k ++ ((r.drop (k + 1)).take (cnt r j - (k + 1))).map (fun x => x - 1) ++ [(j : Int)] ++ r.drop (cnt r j) = madM r k j := by
  have l1 : (r.take k).length = k := by rw [List.length_take]; omega
  have l2 : (((r.drop (k + 1)).take (cnt r j - (k + 1))).map (fun x => x - 1)).length = cnt r j - (k + 1) := by rw [List.length_map, List.length_take, List.length_drop]; omega
  refine eq_of_gi (by rw [List.length_append, List.length_append, List.length_append, l1, l2, List.length_singleton, List.length_drop]; unfold madM; rw [List.length_map, List.length_range]; omega) fun i hi => ?_
  have hi' : i < r.length := by unfold madM at hi; simpa using hi
  have e : gi (madM r k j) i = madF r k j i := gi_mapR _ hi'
  rw [e]
  unfold madF
  rw [gi_append, List.length_append, List.length_append, l1, l2, List.length_singleton, gi_append, List.length_append, l1, l2, gi_append, l1]
  by_cases c1 : i < k
  · rw [if_pos (by omega), if_pos (by omega), if_pos c1, if_pos c1, gi_take c1]
  · simp only [if_neg c1]
    by_cases c2 : i + 1 < cnt r j
    · rw [if_pos (by omega), if_pos (by omega), if_pos c2, gi_map (fun x => x - 1) (by rw [List.length_take, List.length_drop]; omega), gi_take (by omega), gi_drop, show k + 1 + (i - k) = i + 1 by omega]
    · rw [if_neg c2]
      by_cases c3 : i + 1 = cnt r j
      · rw [if_pos c3, if_pos (by omega), if_neg (by omega), show i - (k + (cnt r j - (k + 1))) = 0 by omega]
        rfl
      · rw [if_neg c3, if_neg (by omega), gi_drop, show cnt r j + (i - (k + (cnt r j - (k + 1)) + 1)) = i by omega]
theorem idx_min {n : Int} : ∀ {l : List Int} {m : Nat} {z : Int}, m < l.idxOf n → l[m]? = some z → z ≠ n
  | [], _, _, h, e => by simp at e
  | x :: l, m, z, h, e => by
    rw [List.idxOf_cons] at h
    by_cases c : x = n
    · subst c
      simp at h
    · have hc : (x == n) = false := by simpa using c
      rw [hc] at h
      simp at h
      cases m with
      | zero =>
        have := Option.some.inj e
        subst this
        exact c
      | succ m => exact idx_min (l := l) (m := m) (by omega) (by simpa using e)
def R_law_lesser (C : Ec) (ds : List PyData) (o : Except Addr PyData) : Prop := ∃ (r : List Int) (n : Nat), ds = [dR r, .int n] ∧ Row r ∧ r.sum ≤ 10000 ∧ 0 < n ∧ o = .ok (.list ((lwLesserM r n).map dL))
theorem len_law_lesser {C : Ec} (ds : List PyData) (o : Except Addr PyData) : R_law_lesser C ds o → ds.length = ["row", "rods"].length := by
  rintro ⟨_, _, rfl, _⟩; rfl
theorem does_law_lesser {K : Frg} {C : Ec} {W : WX} {ds : List PyData} {o : Except Addr PyData} : R_law_lesser C ds o → FnDoes K W (rd_law_lesser K C W) (entry N_law_lesser ds) o := by
  rintro ⟨r, n, rfl, hr, hs, hn, rfl⟩
  refine .inl ?_
  show Does K W (rd_law_lesser K C W) [.fr (dR r), .fr (.int n), .no, .no, .no, .no, .no, .no, .no] (.rt (.list ((lwLesserM r n).map dL)))
  have hz := hr.sum_len
  refine does_seq (does_asg (evf_lst evaf_nil)) ?_
  refine does_seq (does_asg (evf_call (eva_cons (ev_var rfl) eva_nil) ⟨r, rfl, hr, by omega, rfl⟩)) ?_
  let c : Nat → Bool := fun k => decide ((n : Int) ∈ lineM r k)
  let L : Nat → List (List Int × Int) := fun i => (((List.range r.length).reverse.take i).filter c).map (lwOne r n)
  have hLl : ∀ i, (L i).length ≤ r.length := fun i => by
    show (List.map _ (List.filter _ _)).length ≤ _
    rw [List.length_map]
    refine Nat.le_trans (List.length_filter_le _ _) ?_
    rw [List.length_take, List.length_reverse, List.length_range]
    omega
  refine does_seq (does_forD (lo := (r.length : Int) - 1) (n := -1) (eva_cons (ev_sub (ev_len (ev_var rfl)) ev_int) (eva_cons (ev_neg ev_int) (eva_cons (ev_neg ev_int) eva_nil))) (by decide) (by omega) (fun i => [.fr (dR r), .fr (.int n), .ow (.list ((L i).map dL)), .ow (dRR (hooksM r)), .no, .no, .no, .no, .no]) rfl fun i hi => ⟨[.fr (dR r), .fr (.int n), .ow (.list ((L (i + 1)).map dL)), .ow (dRR (hooksM r)), .fr (.int ((r.length : Int) - 1 - i)), .no, .no, .no, .no], ?_, rfl⟩) ?_
  · have hi' : i < r.length := by omega
    obtain ⟨k, hk⟩ : ∃ k, k = r.length - 1 - i := ⟨_, rfl⟩
    have hkI : (r.length : Int) - 1 - i = (k : Int) := by omega
    have hkl : k < r.length := by omega
    have hget : (List.range r.length).reverse[i]? = some k := by
      rw [List.getElem?_eq_getElem (by simpa using hi'), List.getElem_reverse]
      simp
      omega
    have e : L (i + 1) = L i ++ if c k = true then [lwOne r n k] else [] := by
      show List.map (lwOne r n) (List.filter c (List.take (i + 1) _)) = _
      rw [take_succ_some hget, List.filter_append, List.map_append, List.filter_cons]
      cases c k with
      | true => rfl
      | false => rfl
    rw [hkI]
    have hli := hLl i
    have hhl : (hooksM r).length = r.length := by rw [lines_eq, List.length_map, List.length_range]
    have hline : (hooksM r).getD ((k : Int)).toNat [] = lineM r k := by
      rw [Int.toNat_natCast, lines_eq, getD_get (by simpa using hkl)]
      simp
    have lineE : ∀ {ρ : DE}, ρ[3]? = some (some (dRR (hooksM r))) → ρ[4]? = some (some (.int k)) → Evr K (tOp (rIx K) (tVar 3) (tVar 4)) ρ (dR (lineM r k)) := fun {ρ} h3 h4 => Evr.cast (ev_ixRR (ev_var h3) (ev_var h4) (by omega) (by omega)) (by rw [hline])
    refine does_if (b := c k) (et_test (ev_in (ev_var rfl) (lineE rfl rfl))) (fun hc => ?_) fun hc => ?_
    · rw [e, if_pos hc]
      have hm : (n : Int) ∈ lineM r k := of_decide_eq_true hc
      have hidx := List.idxOf_lt_length_of_mem hm
      obtain ⟨j1, j2⟩ := idx_hook hm
      have hg := (lineM r k)[(lineM r k).idxOf (n : Int)]? 
      have hq : (lineM r k)[(lineM r k).idxOf (n : Int)]? = some (n : Int) := by rw [List.getElem?_eq_getElem hidx, List.getElem_idxOf hidx]
      have hmin : ∀ (m : Nat) (z : Int), m < (lineM r k).idxOf (n : Int) → (lineM r k)[m]? = some z → z ≠ n := fun m z h1 h2 => idx_min h1 h2
      have ho : lwOne r n k = ((madM r k ((lineM r k).idxOf (n : Int))).filter fun x => decide (0 < x), ((cnt r (((lineM r k).idxOf (n : Int) : Nat) : Int) : Nat) : Int) - 1 - k) := rfl
      rw [ho]
      generalize (lineM r k).idxOf (n : Int) = j at *
      have hc1 : k < cnt r j := (cnt_gi hr).mp j1
      have hc2 := cnt_le r j
      have hsl := mad_slices hc1 hc2
      have hmadl : (madM r k j).length = r.length := by unfold madM; rw [List.length_map, List.length_range]
      generalize hcn : cnt r (j : Int) = cn at *
      have w : ∀ {t : TS} {ρ : List Sl} {q : List (List Int × Int)} {s5 s6 s7 : Sl}, Does K W t ρ (.nx [.fr (dR r), .fr (.int n), .ow (.list (q.map dL)), .ow (dRR (hooksM r)), .fr (.int k), s5, s6, s7, .no]) → Does K W t ρ (.nx [.fr (dR r), .fr (.int n), .ow (.list (q.map dL)), .ow (dRR (hooksM r)), .fr (.int k), .no, .no, .no, .no]) := fun {t ρ q s5 s6 s7} h => does_no 5 (does_no 6 (does_no 7 h))
      refine w (s5 := .fr (.int (j : Int))) (s6 := .fr (.int ((cn : Int) - 1))) (s7 := .ow (dR (madM r k j))) ?_
      · refine does_seq (does_asgi (ev_index (lineE rfl rfl) (ev_var rfl) hq hmin)) ?_
        refine does_seq (does_asgi (n := (cn : Int) - 1) (ev_sub (Evr.cast (ev_len (c := PyData.int) (xs := r.filter fun x => decide ((j : Int) < x)) (Evf.r (evf_fil (fun x => decide ((j : Int) < x)) (ev_var rfl) (by omega) (fun x _ => et_test (ev_gt (ev_var rfl) (ev_var rfl))) (by show 8 < 9; decide)))) (by rw [← hcn]; rfl)) ev_int)) ?_
        have a1 : (r.take k).length ≤ 10000 := by rw [List.length_take]; omega
        have a2 : ((r.drop (k + 1)).take (cn - (k + 1))).length ≤ 10000 := by rw [List.length_take, List.length_drop]; omega
        refine does_seq (does_asg (evf_cat (r := r.take k) (s := ((r.drop (k + 1)).take (cn - (k + 1))).map fun x => x - 1) (Evf.r (Evf.cast (evf_to (ev_var rfl) (ev_var rfl) (by omega)) (by rw [Int.toNat_natCast]))) (Evf.r (evf_mapL (c := PyData.int) (xs := (r.drop (k + 1)).take (cn - (k + 1))) (fun x => x - 1) (Evf.r (Evf.cast (evf_mid (ev_var rfl) (ev_add (ev_var rfl) ev_int) (ev_add (ev_var rfl) ev_int) (by omega) (by omega)) (by rw [show ((k : Int) + 1).toNat = k + 1 by omega, show ((cn : Int) - 1 + 1).toNat = cn by omega]))) (by omega) fun x _ => ev_sub (ev_var rfl) ev_int)) (by rw [List.length_map]; omega))) ?_
        refine does_seq (does_asg (Evf.cast (evf_cat (r := r.take k ++ ((r.drop (k + 1)).take (cn - (k + 1))).map (fun x => x - 1) ++ [(j : Int)]) (s := r.drop cn) (Evf.r (evf_cat (s := [(j : Int)]) (ev_var rfl) (Evf.r (Evf.cast (evf_lst (evaf_cons (Evr.f (ev_var rfl) True.intro) evaf_nil)) rfl)) (by rw [List.length_append, List.length_map, List.length_singleton]; omega))) (Evf.r (Evf.cast (evf_from (ev_var rfl) (ev_add (ev_var rfl) ev_int) (by omega)) (by rw [show ((cn : Int) - 1 + 1).toNat = cn by omega]))) (by rw [List.length_append, List.length_append, List.length_map, List.length_singleton, List.length_drop]; omega)) (by rw [hsl]))) ?_
        rw [show ((L i ++ [((madM r k j).filter fun x => decide (0 < x), (cn : Int) - 1 - k)]).map dL) = (L i).map dL ++ [dL ((madM r k j).filter fun x => decide (0 < x), (cn : Int) - 1 - k)] by rw [List.map_append]; rfl]
        exact does_app rfl (evf_tup (evaf_cons (evf_fil (fun x => decide (0 < x)) (ev_var rfl) (by omega) (fun x _ => et_test (ev_gt (ev_var rfl) ev_int)) (by show 8 < 9; decide)) (evaf_cons (Evr.f (ev_sub (ev_var rfl) (ev_var rfl)) True.intro) evaf_nil))) (by rw [List.length_map]; omega)
    · rw [e, if_neg (by rw [hc]; decide), List.append_nil]
      exact does_next
  · rw [show ((r.length : Int) - 1 - -1).toNat = r.length by omega, show L r.length = lwLesserM r n by show List.map _ (List.filter _ (List.take _ _)) = _; rw [List.take_of_length_le (by simp)]; rfl]
    exact does_retv rfl
/-! ## the hooks that so many rods divide -/
theorem mem_pairs {ps : List Int} (h : Rises ps) {b g : Int} : (b, g) ∈ pairsM ps ↔ b ∈ ps ∧ 0 ≤ g ∧ g < b ∧ g ∉ ps := by
  unfold pairsM
  rw [List.mem_flatMap]
  constructor
  · rintro ⟨c, hc, hm⟩
    obtain ⟨x, hx, e⟩ := List.mem_map.mp hm
    cases e
    obtain ⟨h0, h1, h2⟩ := mem_gaps.mp hx
    have := h.nn _ hc
    exact ⟨hc, h0, by omega, h2⟩
  · rintro ⟨hb, h0, h1, h2⟩
    exact ⟨b, hb, List.mem_map.mpr ⟨g, mem_gaps.mpr ⟨h0, by omega, h2⟩, rfl⟩⟩
theorem pairs_nodup {ps : List Int} (h : Rises ps) : (pairsM ps).Nodup := by
  unfold pairsM
  refine List.pairwise_flatMap.mpr ⟨fun b _ => List.pairwise_map.mpr ((gaps_rise ps _).imp fun q e => ?_), h.rise.imp fun q x hx y hy e => ?_⟩
  · have := congrArg Prod.snd e
    have e2 : _ = _ := this
    simp at e2
    omega
  · obtain ⟨_, _, rfl⟩ := List.mem_map.mp hx
    obtain ⟨_, _, rfl⟩ := List.mem_map.mp hy
    have := congrArg Prod.fst e
    simp at this
    omega
theorem perm_flatMap {α β : Type} {l : List α} {f g : α → List β} (h : ∀ a ∈ l, (f a).Perm (g a)) : (l.flatMap f).Perm (l.flatMap g) := by
  induction l with
  | nil => exact List.Perm.refl _
  | cons a l ih =>
    rw [List.flatMap_cons, List.flatMap_cons]
    exact (h a List.mem_cons_self).append (ih fun b m => h b (List.mem_cons_of_mem _ m))
abbrev diffP (p : Int × Int) : Int := p.1 - p.2
abbrev divB (n : Nat) (x : Int) : Bool := decide (x % (n : Int) = 0)
def liftP (n k : Nat) (p : Int × Int) : Int × Int := (p.1 * n + k, p.2 * n + k)
theorem lift_inj {n k j : Nat} (hk : k < n) (hj : j < n) {p q : Int × Int} (e : liftP n k p = liftP n j q) : k = j ∧ p = q := by
  have e1 := congrArg Prod.fst e
  have e2 := congrArg Prod.snd e
  have e1' : p.1 * n + k = q.1 * n + j := e1
  have e2' : p.2 * n + k = q.2 * n + j := e2
  obtain ⟨a1, a2⟩ := dm hk p.1
  obtain ⟨b1, b2⟩ := dm hj q.1
  obtain ⟨c1, _⟩ := dm hk p.2
  obtain ⟨d1, _⟩ := dm hj q.2
  rw [e1'] at a1 a2
  rw [e2'] at c1
  refine ⟨?_, Prod.ext (a1.symm.trans b1) (c1.symm.trans d1)⟩
  have := a2.symm.trans b2
  omega
theorem pairs_lift {ps : List Int} {n : Nat} (hn : 0 < n) (h : Rises ps) : ((pairsM ps).filter fun p => divB n (diffP p)).Perm ((List.range n).flatMap fun k => (pairsM (rodM ps n k)).map (liftP n k)) := by
  refine (List.perm_ext_iff_of_nodup ((pairs_nodup h).filter _) ?_).mpr fun ⟨b, g⟩ => ?_
  · refine List.pairwise_flatMap.mpr ⟨fun k hk => List.pairwise_map.mpr ((pairs_nodup (rod_rises hn h k)).imp fun q e => q (lift_inj (List.mem_range.mp hk) (List.mem_range.mp hk) e).2), List.pairwise_iff_getElem.mpr fun i j hi hj hij x hx y hy e => ?_⟩
    rw [List.length_range] at hi hj
    rw [List.getElem_range] at hx hy
    obtain ⟨p, _, rfl⟩ := List.mem_map.mp hx
    obtain ⟨q, _, rfl⟩ := List.mem_map.mp hy
    have := (lift_inj hi hj e).1
    omega
  · rw [List.mem_filter, mem_pairs h, List.mem_flatMap]
    constructor
    · rintro ⟨⟨hb, h0, h1, h2⟩, hd⟩
      have hd' : (b - g) % (n : Int) = 0 := of_decide_eq_true hd
      have hm0 : 0 ≤ b % (n : Int) := Int.emod_nonneg _ (by omega)
      have hm1 : b % (n : Int) < n := Int.emod_lt_of_pos _ (by omega)
      have hmg : g % (n : Int) = b % (n : Int) := (Int.emod_emod_of_dvd b (Int.dvd_refl _) ▸ (Int.emod_eq_emod_iff_emod_sub_eq_zero.mpr hd').symm)
      have hk : (b % (n : Int)).toNat < n := by omega
      have eb := dm_back (n := n) b
      have eg := dm_back (n := n) g
      rw [hmg] at eg
      have eb' : b / (n : Int) * n + ((b % (n : Int)).toNat : Int) = b := by omega
      have eg' : g / (n : Int) * n + ((b % (n : Int)).toNat : Int) = g := by omega
      refine ⟨(b % (n : Int)).toNat, List.mem_range.mpr hk, List.mem_map.mpr ⟨(b / (n : Int), g / (n : Int)), (mem_pairs (rod_rises hn h _)).mpr ⟨(mem_rod hk).mpr (by rw [eb']; exact hb), Int.ediv_nonneg h0 (by omega), div_lt hn h1 hmg, fun z => h2 ?_⟩, ?_⟩⟩
      · have := (mem_rod hk).mp z
        rw [eg'] at this
        exact this
      · exact Prod.ext eb' eg'
    · rintro ⟨k, hk, hm⟩
      have hk' := List.mem_range.mp hk
      obtain ⟨⟨x, y⟩, hp, e⟩ := List.mem_map.mp hm
      obtain ⟨hx, h0, h1, h2⟩ := (mem_pairs (rod_rises hn h k)).mp hp
      have e1 : x * (n : Int) + k = b := congrArg Prod.fst e
      have e2 : y * (n : Int) + k = g := congrArg Prod.snd e
      have hb := (mem_rod hk').mp hx
      rw [e1] at hb
      have hy : 0 ≤ y * (n : Int) := Int.mul_nonneg h0 (by omega)
      have hxy : y * (n : Int) < x * (n : Int) := Int.mul_lt_mul_of_pos_right h1 (by omega)
      refine ⟨⟨hb, by omega, by omega, fun z => h2 ((mem_rod hk').mpr (by rw [e2]; exact z))⟩, decide_eq_true ?_⟩
      show (b - g) % (n : Int) = 0
      have : b - g = (x - y) * n := by rw [Int.sub_mul]; omega
      rw [this, Int.mul_emod_left]
def liftedM (r : List Int) (n : Nat) : List Int := (quotM r n).flatMap fun q => (hooksM q).flatten.map (· * (n : Int))
theorem hooks_div {r : List Int} {n : Nat} (hr : Row r) (hn : 0 < n) : ((hooksM r).flatten.filter (divB n)).Perm (liftedM r n) := by
  have hB := beads_rises hr (upM r.length n)
  refine ((diffs_perm hr (up_ge r.length hn)).filter (divB n)).symm.trans ?_
  rw [List.filter_map]
  refine ((pairs_lift hn hB).map diffP).trans ?_
  rw [List.map_flatMap]
  unfold liftedM quotM spreadM rodsM
  rw [List.map_map, List.flatMap_map]
  refine perm_flatMap fun k hk => ?_
  have hR := rod_rises hn hB k
  have q := diffs_perm (rowOf_row hR) (rowOf_len _)
  rw [beads_rowOf hR] at q
  have q2 := q.map (· * (n : Int))
  rw [List.map_map] at q2 ⊢
  refine List.Perm.trans (List.Perm.of_eq ?_) q2
  refine List.map_congr_left fun p _ => ?_
  show (p.1 * (n : Int) + k) - (p.2 * (n : Int) + k) = (p.1 - p.2) * (n : Int)
  rw [Int.sub_mul]
  omega
theorem quot_empty_iff {r : List Int} {n : Nat} (hr : Row r) (hn : 0 < n) : coreM r n = r ↔ quotM r n = List.replicate n [] := by
  obtain ⟨c1, c2, c3⟩ := core_core hr hn
  constructor
  · intro e
    rw [e] at c2
    exact c2
  · intro e
    exact row_inj core_row hr hn (c2.trans e.symm) c3
theorem lifted_len {r : List Int} {n : Nat} (hr : Row r) : ((liftedM r n).length : Int) = ((quotM r n).map List.sum).sum := by
  unfold liftedM
  have : ∀ l : List (List Int), (∀ x ∈ l, Row x) → ((l.flatMap fun q => (hooksM q).flatten.map (· * (n : Int))).length : Int) = (l.map List.sum).sum := by
    intro l
    induction l with
    | nil => intro _; rfl
    | cons x l ih =>
      intro hl
      rw [List.flatMap_cons, List.length_append, Int.natCast_add, ih fun y m => hl y (List.mem_cons_of_mem _ m), List.length_map, hooks_len (hl x List.mem_cons_self), List.map_cons, List.sum_cons]
  exact this _ fun x hx => quot_row hr hx
theorem empty_of_sums : ∀ {l : List (List Int)}, (∀ x ∈ l, Row x) → (l.map List.sum).sum = 0 → l = List.replicate l.length []
  | [], _, _ => rfl
  | x :: l, h, e => by
    rw [List.map_cons, List.sum_cons] at e
    have hx := h x List.mem_cons_self
    have h1 := hx.sum_len
    have h2 : 0 ≤ (l.map List.sum).sum := sum_nonneg fun y m => by
      obtain ⟨z, hz, rfl⟩ := List.mem_map.mp m
      have := (h z (List.mem_cons_of_mem _ hz)).sum_len
      omega
    have h3 : x = [] := List.length_eq_zero_iff.mp (by omega)
    rw [List.length_cons, List.replicate_succ, ← empty_of_sums (l := l) (fun y m => h y (List.mem_cons_of_mem _ m)) (by omega), h3]
theorem rep_sum0 (n : Nat) : (List.replicate n (0 : Int)).sum = 0 := by
  induction n with
  | zero => rfl
  | succ n ih => rw [List.replicate_succ, List.sum_cons, ih]; rfl
theorem core_iff {r : List Int} {n : Nat} (hr : Row r) (hn : 0 < n) : coreM r n = r ↔ ((hooksM r).flatten.filter (divB n)).length = 0 := by
  rw [(hooks_div hr hn).length_eq, quot_empty_iff hr hn]
  have hl := lifted_len (n := n) hr
  have hq := quot_length r n
  constructor
  · intro e
    rw [e] at hl
    have : ((List.replicate n ([] : List Int)).map List.sum).sum = 0 := by
      rw [List.map_replicate]
      exact rep_sum0 n
    omega
  · intro e
    have q := empty_of_sums (l := quotM r n) (fun x hx => quot_row hr hx) (by omega)
    rw [hq] at q
    exact q
/-! ## rims one after the other -/
/-- one where the lesser place is on the later rod -/
def invC (n : Nat) (x y : Int) : Nat := if x < y then (if y % (n : Int) < x % (n : Int) then 1 else 0) else if y < x then (if x % (n : Int) < y % (n : Int) then 1 else 0) else 0
theorem invC_comm (n : Nat) (x y : Int) : invC n x y = invC n y x := by
  unfold invC
  by_cases h1 : x < y
  · rw [if_pos h1, if_neg (show ¬ y < x by omega), if_pos h1]
  · by_cases h2 : y < x
    · rw [if_neg h1, if_pos h2, if_pos h2]
    · rw [if_neg h1, if_neg h2, if_neg h2, if_neg h1]
def crossN (n : Nat) (x : Int) (l : List Int) : Nat := (l.map (invC n x)).sum
def invN (n : Nat) : List Int → Nat
  | [] => 0
  | x :: l => crossN n x l + invN n l
theorem nperm_sum {r s : List Nat} (h : r.Perm s) : r.sum = s.sum := by
  induction h with
  | nil => rfl
  | cons x _ ih => rw [List.sum_cons, List.sum_cons, ih]
  | swap x y l => rw [List.sum_cons, List.sum_cons, List.sum_cons, List.sum_cons]; omega
  | trans _ _ h1 h2 => exact h1.trans h2
theorem invN_perm {n : Nat} {l s : List Int} (h : l.Perm s) : invN n l = invN n s := by
  induction h with
  | nil => rfl
  | cons x p ih =>
    rw [invN, invN, ih]
    congr 1
    exact nperm_sum (p.map _)
  | swap x y l =>
    rw [invN, invN, invN, invN]
    unfold crossN
    rw [List.map_cons, List.map_cons, List.sum_cons, List.sum_cons, invC_comm n x y]
    omega
  | trans _ _ h1 h2 => exact h1.trans h2
/-- all the others -/
theorem perm_take {ps : List Int} {b : Int} (h : ps.Nodup) (hb : b ∈ ps) : ps.Perm (b :: ps.filter fun p => decide (p ≠ b)) := by
  refine (List.perm_ext_iff_of_nodup h (List.nodup_cons.mpr ⟨fun m => by simp at m, h.filter _⟩)).mpr fun x => ?_
  rw [List.mem_cons, List.mem_filter]
  constructor
  · intro m
    by_cases e : x = b
    · exact .inl e
    · exact .inr ⟨m, by simpa using e⟩
  · rintro (rfl | ⟨m, _⟩)
    · exact hb
    · exact m
theorem moved_perm (ps : List Int) (n b : Int) : (movedM ps n b).Perm ((b - n) :: ps.filter fun p => decide (p ≠ b)) :=
  (sortI_perm _).trans (List.perm_append_singleton _ _)
theorem cross_move {n : Nat} (hn : 0 < n) {b : Int} : ∀ {l : List Int}, (∀ p ∈ l, p ≠ b ∧ p ≠ b - n) →
    (crossN n b l + crossN n (b - n) l) % 2 = ((l.filter fun p => decide (b - n < p) && decide (p < b)).length) % 2
  | [], _ => rfl
  | p :: l, h => by
    have ih := cross_move hn (b := b) (l := l) fun q m => h q (List.mem_cons_of_mem _ m)
    obtain ⟨h1, h2⟩ := h p List.mem_cons_self
    unfold crossN at ih ⊢
    rw [List.map_cons, List.map_cons, List.sum_cons, List.sum_cons, List.filter_cons]
    have em : (b - n) % (n : Int) = b % (n : Int) := by
      have := Int.sub_mul_emod_self_right (a := b) (b := 1) (c := (n : Int))
      rwa [Int.one_mul] at this
    by_cases c1 : p < b - n
    · have e1 : invC n b p = invC n (b - n) p := by
        unfold invC
        rw [if_neg (show ¬ b < p by omega), if_pos (show p < b by omega), if_neg (show ¬ b - n < p by omega), if_pos c1, em]
      rw [if_neg (by rw [decide_eq_false (show ¬ b - n < p by omega)]; simp), e1]
      omega
    · by_cases c2 : p < b
      · have e1 : invC n b p + invC n (b - n) p = 1 := by
          unfold invC
          rw [if_neg (show ¬ b < p by omega), if_pos c2, if_pos (show b - n < p by omega), em]
          have hne : p % (n : Int) ≠ b % (n : Int) := fun e => by
            have := div_lt hn c2 e
            have h3 : (b - (n : Int)) % (n : Int) = p % (n : Int) := em.trans e.symm
            have := div_lt hn (show b - n < p by omega) h3
            have e4 : (b - (n : Int)) / (n : Int) = b / (n : Int) - 1 := by
              have := Int.sub_mul_ediv_right (a := b) (b := 1) (c := (n : Int)) (by omega)
              rwa [Int.one_mul] at this
            omega
          by_cases c3 : b % (n : Int) < p % (n : Int)
          · rw [if_pos c3, if_neg (by omega)]
          · rw [if_neg c3, if_pos (by omega)]
        rw [if_pos (by rw [decide_eq_true (show b - n < p by omega), decide_eq_true c2]; rfl), List.length_cons]
        omega
      · have e1 : invC n b p = invC n (b - n) p := by
          unfold invC
          rw [if_pos (show b < p by omega), if_pos (show b - n < p by omega), em]
        rw [if_neg (by rw [decide_eq_false c2]; simp), e1]
        omega
theorem inv_move {ps : List Int} {n : Nat} {b : Int} (hn : 0 < n) (h : ps.Nodup) (hb : b ∈ ps) (hg : b - n ∉ ps) : (invN n ps + invN n (movedM ps n b)) % 2 = legsN ps n b % 2 := by
  rw [invN_perm (perm_take h hb), invN_perm (moved_perm ps n b), invN, invN]
  have q := cross_move hn (b := b) (l := ps.filter fun p => decide (p ≠ b)) fun p m => by
    obtain ⟨m1, m2⟩ := List.mem_filter.mp m
    exact ⟨by simpa using m2, fun e => hg (e ▸ m1)⟩
  unfold legsN
  omega
/-- one rim less -/
structure Step (n : Nat) (r r' : List Int) (l : Int) : Prop where
  k : ∃ k j : Nat, k < r.length ∧ (j : Int) < gi r k ∧ hookAt r k j = n ∧ r' = (madM r k j).filter (fun x => decide (0 < x)) ∧ l = (cnt r j : Int) - 1 - k
theorem step_mem {n : Nat} {r : List Int} {x : List Int × Int} (h : x ∈ lwLesserM r n) : Step n r x.1 x.2 := by
  obtain ⟨k, hk, rfl⟩ := List.mem_map.mp h
  obtain ⟨h1, h2⟩ := List.mem_filter.mp hk
  obtain ⟨j1, j2⟩ := idx_hook (of_decide_eq_true h2)
  exact ⟨k, _, List.mem_range.mp (List.mem_reverse.mp h1), j1, j2, rfl, rfl⟩
/-- as beads -/
theorem Step.beads {n : Nat} {r r' : List Int} {l : Int} (s : Step n r r' l) (hr : Row r) (hn : 0 < n) : Row r' ∧ r'.length ≤ r.length ∧ 0 ≤ l ∧ ∀ m, r.length ≤ m → ∃ b, b ∈ beadsM r m ∧ (n : Int) ≤ b ∧ b - n ∉ beadsM r m ∧ beadsM r' m = movedM (beadsM r m) n b ∧ l = legsN (beadsM r m) n b := by
  obtain ⟨k, j, hk, hj, hh, rfl, rfl⟩ := s.k
  have hkc : k < cnt r j := (cnt_gi hr).mp hj
  obtain ⟨f1, f2⟩ := mad_fall hr hkc
  have hM : Row ((madM r k j).filter fun x => decide (0 < x)) := ⟨fun x m => by have := of_decide_eq_true (List.mem_filter.mp m).2; omega, List.Pairwise.filter _ f2⟩
  have hMl : ((madM r k j).filter fun x => decide (0 < x)).length ≤ r.length := Nat.le_trans (List.length_filter_le _ _) (by simp [madM])
  refine ⟨hM, hMl, by omega, fun m hm => ⟨bdM r m k, mem_beads.mpr ⟨k, by omega, rfl⟩, ?_⟩⟩
  have hbd := rim_line hr hn hm (show k < m by omega)
  rw [decide_eq_true (mem_line.mpr ⟨j, hj, hh⟩)] at hbd
  unfold rimB at hbd
  rw [Bool.and_eq_true] at hbd
  have hb1 : (n : Int) ≤ bdM r m k := of_decide_eq_true hbd.1
  have hb2 : bdM r m k - n ∉ beadsM r m := of_decide_eq_true hbd.2
  have hR := moved_rises (beads_rises hr m) hb1 hb2
  have hl : (movedM (beadsM r m) n (bdM r m k)).length = m := by
    have h1 := (moved_perm (beadsM r m) n (bdM r m k)).length_eq
    have h2 := (perm_take (beads_rises hr m).nodup (mem_beads.mpr ⟨k, by omega, rfl⟩ : bdM r m k ∈ beadsM r m)).length_eq
    rw [beads_len] at h2
    rw [List.length_cons] at h1 h2
    omega
  have e := moved_row hr hn hm hk hj hh
  refine ⟨hb1, hb2, ?_, (legs_row hr hn hm hk hj hh).symm⟩
  have q := beads_rowOf hR
  rw [hl] at q
  rw [← e, q]
theorem Step.facts {n : Nat} {r r' : List Int} {l : Int} (s : Step n r r' l) (hr : Row r) (hn : 0 < n) : r'.sum = r.sum - n ∧ chM r' n = chM r n ∧ ∀ m, r.length ≤ m → (invN n (beadsM r m) + invN n (beadsM r' m)) % 2 = l.toNat % 2 := by
  obtain ⟨hr', hl, hl0, hb⟩ := s.beads hr hn
  refine ⟨?_, ?_, fun m hm => ?_⟩
  · obtain ⟨b, b1, b2, b3, b4, b5⟩ := hb r.length (Nat.le_refl _)
    have q1 := row_sum (beads_rises hr r.length)
    have q2 := row_sum (beads_rises hr' r.length)
    rw [rowOf_beads hr (Nat.le_refl _), beads_len] at q1
    rw [rowOf_beads hr' hl, beads_len] at q2
    have p1 := perm_sum (perm_take (beads_rises hr r.length).nodup b1)
    have p2 := perm_sum (moved_perm (beadsM r r.length) n b)
    rw [b4, p2, List.sum_cons] at q2
    rw [p1, List.sum_cons] at q1
    omega
  · obtain ⟨b, b1, b2, b3, b4, b5⟩ := hb (upM r.length n) (up_ge _ hn)
    have hlu : r'.length ≤ upM r.length n := by have := up_ge r.length hn; omega
    refine eq_of_gi (by rw [ch_length, ch_length]) fun k hk => ?_
    rw [ch_length] at hk
    obtain ⟨a1, a2, _⟩ := rod_form hr hk (up_dvd r.length n) (up_ge r.length hn)
    obtain ⟨c1, c2, _⟩ := rod_form hr' hk (up_dvd r.length n) hlu
    have e1 := congrArg List.length a2
    have e2 := congrArg List.length c2
    rw [beads_len] at e1 e2
    have e3 : (rodM (beadsM r' (upM r.length n)) n k).length = (rodM (beadsM r (upM r.length n)) n k).length := by
      rw [b4]
      unfold rodM
      rw [List.length_map, List.length_map, ((moved_perm _ _ _).filter _).length_eq, ((perm_take (beads_rises hr _).nodup b1).filter _).length_eq, List.filter_cons, List.filter_cons]
      have em : (b - (n : Int)) % (n : Int) = b % (n : Int) := by
        have := Int.sub_mul_emod_self_right (a := b) (b := 1) (c := (n : Int))
        rwa [Int.one_mul] at this
      rw [em]
      split <;> rfl
    omega
  · obtain ⟨b, b1, b2, b3, b4, b5⟩ := hb m hm
    have := inv_move hn (beads_rises hr m).nodup b1 b3
    rw [← b4] at this
    rw [this, b5, Int.toNat_natCast]
/-- cells of the quotient -/
def qsum (r : List Int) (n : Nat) : Int := ((quotM r n).map List.sum).sum
theorem qsum_nn (r : List Int) (n : Nat) (hr : Row r) : 0 ≤ qsum r n := sum_nonneg fun y m => by
  obtain ⟨z, hz, rfl⟩ := List.mem_map.mp m
  have := (quot_row hr hz).sum_len
  omega
theorem one_hook {q : List Int} (h : Row q) (h0 : q ≠ []) : (1 : Int) ∈ (hooksM q).flatten := by
  have hl := List.length_pos_iff.mpr h0
  have hk : q.length - 1 < q.length := by omega
  have hg := h.pos _ (gi_mem hk)
  refine mem_hooks.mpr ⟨q.length - 1, (gi q ((q.length - 1 : Nat) : Int) - 1).toNat, hk, by omega, ?_⟩
  unfold hookAt
  have hc := (cnt_gi h (t := q.length - 1) (j := (gi q ((q.length - 1 : Nat) : Int) - 1).toNat)).mp (by omega)
  have hc2 := cnt_le q (((gi q ((q.length - 1 : Nat) : Int) - 1).toNat : Nat) : Int)
  omega
/-- no rim just where the quotient has no cell -/
theorem no_rim {r : List Int} {n : Nat} (hr : Row r) (hn : 0 < n) : lwLesserM r n = [] ↔ qsum r n = 0 := by
  have hq := quot_length r n
  have hne : (n : Int) ∈ (hooksM r).flatten ↔ ∃ k, k < r.length ∧ (n : Int) ∈ lineM r k := by
    rw [lines_eq, List.mem_flatten]
    constructor
    · rintro ⟨l, hl, hx⟩
      obtain ⟨k, hk, rfl⟩ := List.mem_map.mp hl
      exact ⟨k, List.mem_range.mp hk, hx⟩
    · rintro ⟨k, hk, hx⟩
      exact ⟨_, List.mem_map.mpr ⟨k, List.mem_range.mpr hk, rfl⟩, hx⟩
  have e1 : lwLesserM r n = [] ↔ ¬ (n : Int) ∈ (hooksM r).flatten := by
    rw [hne]
    unfold lwLesserM
    rw [List.map_eq_nil_iff, List.filter_eq_nil_iff]
    constructor
    · rintro h ⟨k, hk, hx⟩
      exact h k (List.mem_reverse.mpr (List.mem_range.mpr hk)) (decide_eq_true hx)
    · intro h k hk hx
      exact h ⟨k, List.mem_range.mp (List.mem_reverse.mp hk), of_decide_eq_true hx⟩
  rw [e1]
  have hdiv := hooks_div hr hn
  have hlen := lifted_len (n := n) hr
  constructor
  · intro h
    have hall : ∀ q ∈ quotM r n, q = [] := fun q hqm => by
      by_cases c : q = []
      · exact c
      · have h1 := one_hook (quot_row hr hqm) c
        have h2 : (n : Int) ∈ liftedM r n := by
          unfold liftedM
          exact List.mem_flatMap.mpr ⟨q, hqm, List.mem_map.mpr ⟨1, h1, by rw [Int.one_mul]⟩⟩
        exact absurd (List.mem_filter.mp (hdiv.mem_iff.mpr h2)).1 h
    unfold qsum
    rw [show (quotM r n).map List.sum = (quotM r n).map fun _ => (0 : Int) from List.map_congr_left fun q hqm => by rw [hall q hqm]; rfl, sum_const, Int.mul_zero]
  · intro h hm
    have h1 : (n : Int) ∈ (hooksM r).flatten.filter (divB n) := List.mem_filter.mpr ⟨hm, decide_eq_true (Int.emod_self)⟩
    have h2 := List.length_pos_of_mem (hdiv.mem_iff.mp h1)
    unfold qsum at h
    omega
/-- all rims, one after the other, as p picks -/
def itM (p : Nat → List (List Int × Int) → List Int × Int) (n : Nat) (r : List Int) : Nat → List Int × Int
  | 0 => (r, 0)
  | i + 1 => ((p i (lwLesserM (itM p n r i).1 n)).1, (itM p n r i).2 + (p i (lwLesserM (itM p n r i).1 n)).2)
structure ItOk (n : Nat) (r : List Int) (i : Nat) (s : List Int × Int) : Prop where
  row : Row s.1
  len : s.1.length ≤ r.length
  sum : s.1.sum = r.sum - n * i
  ch : chM s.1 n = chM r n
  nn : 0 ≤ s.2
  par : (invN n (beadsM r r.length) + invN n (beadsM s.1 r.length)) % 2 = s.2.toNat % 2
theorem cells_q {r : List Int} {n : Nat} (hr : Row r) (hn : 0 < n) : (coreM r n).sum + n * qsum r n = r.sum := cells_eq hr hn
theorem it_ok {p : Nat → List (List Int × Int) → List Int × Int} (hp : ∀ i L, L ≠ [] → p i L ∈ L) {n : Nat} {r : List Int} (hr : Row r) (hn : 0 < n) : ∀ i : Nat, (i : Int) ≤ qsum r n → ItOk n r i (itM p n r i) ∧ qsum (itM p n r i).1 n = qsum r n - i
  | 0, _ => ⟨⟨hr, Nat.le_refl _, by show r.sum = r.sum - n * ((0 : Nat) : Int); rw [Int.natCast_zero, Int.mul_zero]; omega, rfl, Int.le_refl _, by show (invN n (beadsM r r.length) + invN n (beadsM r r.length)) % 2 = (0 : Int).toNat % 2; rw [← Nat.two_mul, Nat.mul_mod_right]; rfl⟩, by show qsum r n = qsum r n - ((0 : Nat) : Int); omega⟩
  | i + 1, h => by
    obtain ⟨ok, hq⟩ := it_ok hp hr hn i (by omega)
    have hne : lwLesserM (itM p n r i).1 n ≠ [] := fun z => by
      have := (no_rim ok.row hn).mp z
      omega
    have st := step_mem (hp i _ hne)
    have es : itM p n r (i + 1) = ((p i (lwLesserM (itM p n r i).1 n)).1, (itM p n r i).2 + (p i (lwLesserM (itM p n r i).1 n)).2) := rfl
    rw [es]
    generalize p i (lwLesserM (itM p n r i).1 n) = x at st
    generalize itM p n r i = s at *
    obtain ⟨f1, f2, f3⟩ := st.facts ok.row hn
    obtain ⟨g1, g2, g3, _⟩ := st.beads ok.row hn
    have e1 : x.1.sum = r.sum - n * ((i + 1 : Nat) : Int) := by
      rw [f1, ok.sum, Int.natCast_add, Int.mul_add]
      show r.sum - n * (i : Int) - n = r.sum - (n * (i : Int) + n * 1)
      omega
    refine ⟨⟨g1, Nat.le_trans g2 ok.len, e1, f2.trans ok.ch, by have := ok.nn; show 0 ≤ s.2 + x.2; omega, ?_⟩, ?_⟩
    · have h1 := ok.par
      have h2 := f3 r.length ok.len
      have h3 := ok.nn
      show (_ + invN n (beadsM x.1 r.length)) % 2 = (s.2 + x.2).toNat % 2
      omega
    · have c1 := cells_q g1 hn
      have c2 := cells_q hr hn
      have c3 : coreM x.1 n = coreM r n := by rw [core_cof g1 hn, core_cof hr hn, f2.trans ok.ch]
      rw [c3, e1] at c1
      have : (n : Int) * qsum x.1 n = n * (qsum r n - ((i + 1 : Nat) : Int)) := by rw [Int.mul_sub]; omega
      exact Int.eq_of_mul_eq_mul_left (by omega) this
/-- at the end the core; the parity is the row's own -/
theorem it_end {p : Nat → List (List Int × Int) → List Int × Int} (hp : ∀ i L, L ≠ [] → p i L ∈ L) {n : Nat} {r : List Int} (hr : Row r) (hn : 0 < n) : (itM p n r (qsum r n).toNat).1 = coreM r n ∧ (itM p n r (qsum r n).toNat).2.toNat % 2 = (invN n (beadsM r r.length) + invN n (beadsM (coreM r n) r.length)) % 2 := by
  have h0 := qsum_nn r n hr
  obtain ⟨ok, hq⟩ := it_ok hp hr hn (qsum r n).toNat (by omega)
  have e : (itM p n r (qsum r n).toNat).1 = coreM r n := by
    have q0 : qsum (itM p n r (qsum r n).toNat).1 n = 0 := by omega
    have h1 : coreM (itM p n r (qsum r n).toNat).1 n = (itM p n r (qsum r n).toNat).1 := by
      refine (quot_empty_iff ok.row hn).mpr ?_
      have := empty_of_sums (l := quotM (itM p n r (qsum r n).toNat).1 n) (fun x hx => quot_row ok.row hx) q0
      rw [quot_length] at this
      exact this
    rw [← h1, core_cof ok.row hn, core_cof hr hn, ok.ch]
  refine ⟨e, ?_⟩
  rw [← ok.par, e]
def parN (r : List Int) (n : Nat) : Nat := (invN n (beadsM r r.length) + invN n (beadsM (coreM r n) r.length)) % 2
/-! ## weights of distinct numbers -/
def sumQ {α : Type} (l : List α) (f : α → Rat) : Rat := (l.map f).foldr (· + ·) 0
theorem sumQ_nil {α : Type} (f : α → Rat) : sumQ [] f = 0 := rfl
theorem sumQ_cons {α : Type} (a : α) (l : List α) (f : α → Rat) : sumQ (a :: l) f = f a + sumQ l f := rfl
theorem sumQ_congr {α : Type} : ∀ {l : List α} {f g : α → Rat}, (∀ a ∈ l, f a = g a) → sumQ l f = sumQ l g
  | [], _, _, _ => rfl
  | a :: l, f, g, h => by
    rw [sumQ_cons, sumQ_cons, h a List.mem_cons_self, sumQ_congr fun b m => h b (List.mem_cons_of_mem _ m)]
theorem sumQ_add {α : Type} : ∀ (l : List α) (f g : α → Rat), sumQ l (fun a => f a + g a) = sumQ l f + sumQ l g
  | [], _, _ => by rw [sumQ_nil, sumQ_nil, sumQ_nil]; grind
  | a :: l, f, g => by
    rw [sumQ_cons, sumQ_cons, sumQ_cons, sumQ_add l f g]
    grind
theorem sumQ_mul {α : Type} (c : Rat) : ∀ (l : List α) (f : α → Rat), sumQ l (fun a => c * f a) = c * sumQ l f
  | [], _ => by rw [sumQ_nil, sumQ_nil]; grind
  | a :: l, f => by
    rw [sumQ_cons, sumQ_cons, sumQ_mul c l f]
    grind
theorem sumQ_append {α : Type} (l m : List α) (f : α → Rat) : sumQ (l ++ m) f = sumQ l f + sumQ m f := by
  induction l with
  | nil => rw [List.nil_append, sumQ_nil]; grind
  | cons a l ih => rw [List.cons_append, sumQ_cons, sumQ_cons, ih]; grind
theorem sumQ_flatMap {α β : Type} (l : List α) (g : α → List β) (f : β → Rat) : sumQ (l.flatMap g) f = sumQ l fun a => sumQ (g a) f := by
  induction l with
  | nil => rfl
  | cons a l ih => rw [List.flatMap_cons, sumQ_append, sumQ_cons, ih]
theorem sumQ_map {α β : Type} (l : List α) (g : α → β) (f : β → Rat) : sumQ (l.map g) f = sumQ l fun a => f (g a) := by
  unfold sumQ
  rw [List.map_map]
  rfl
theorem sumQ_perm {α : Type} {l m : List α} (h : l.Perm m) (f : α → Rat) : sumQ l f = sumQ m f := by
  induction h with
  | nil => rfl
  | cons a _ ih => rw [sumQ_cons, sumQ_cons, ih]
  | swap a b l =>
    rw [sumQ_cons, sumQ_cons, sumQ_cons, sumQ_cons]
    grind
  | trans _ _ i1 i2 => exact i1.trans i2
theorem sumQ_filter {α : Type} (p : α → Bool) : ∀ (l : List α) (f : α → Rat), (∀ a ∈ l, p a = false → f a = 0) → sumQ (l.filter p) f = sumQ l f
  | [], _, _ => rfl
  | a :: l, f, h => by
    have ih := sumQ_filter p l f fun b m => h b (List.mem_cons_of_mem _ m)
    rw [List.filter_cons, sumQ_cons]
    cases hp : p a with
    | true => rw [if_pos rfl, sumQ_cons, ih]
    | false =>
      rw [if_neg (by simp), ih, h a List.mem_cons_self hp]
      grind
def rQ : List Int → Int → Rat
  | [], _ => 1
  | b :: l, y => ((y : Rat) - 1 - b) / ((y : Rat) - b) * rQ l y
def cQ (l : List Int) (b : Int) : Rat := rQ (l.filter fun y => decide (y ≠ b)) b
theorem q_ne {a b : Int} (h : a ≠ b) : (a : Rat) - b ≠ 0 := fun e => h (by
  have : (a : Rat) = b := by grind
  exact Rat.intCast_inj.mp this)
theorem cQ_head {a : Int} {l : List Int} (h : a ∉ l) : cQ (a :: l) a = rQ l a := by
  unfold cQ
  have e : (List.filter (fun y => decide (y ≠ a)) l) = l := List.filter_eq_self.mpr fun y m => decide_eq_true fun (e : y = a) => h (e ▸ m)
  rw [List.filter_cons_of_neg (by simp), e]
theorem cQ_tail {a b : Int} {l : List Int} (h : a ≠ b) : cQ (a :: l) b = ((b : Rat) - 1 - a) / ((b : Rat) - a) * cQ l b := by
  unfold cQ
  rw [List.filter_cons_of_pos (by simpa using h)]
  rfl
theorem cQ_sums : ∀ (l : List Int), l.Nodup → (∀ y, y ∉ l → rQ l y = 1 - sumQ l fun b => cQ l b / ((y : Rat) - b)) ∧ sumQ l (cQ l) = (l.length : Rat) ∧ 2 * sumQ l (fun b => b * cQ l b) = 2 * sumQ l (fun b => (b : Rat)) - (l.length : Rat) * ((l.length : Rat) - 1)
  | [], _ => ⟨fun y _ => by rw [sumQ_nil]; show (1 : Rat) = 1 - 0; grind, by rw [sumQ_nil]; rfl, by rw [sumQ_nil, sumQ_nil]; show (2 : Rat) * 0 = 2 * 0 - ((0 : Nat) : Rat) * _; grind⟩
  | a :: l, h => by
    obtain ⟨hn, hl⟩ := List.nodup_cons.mp h
    obtain ⟨i1, i2, i3⟩ := cQ_sums l hl
    have ia := i1 a hn
    have hne : ∀ b ∈ l, a ≠ b := fun b m e => hn (e ▸ m)
    have ct : ∀ b ∈ l, cQ (a :: l) b = ((b : Rat) - 1 - a) / ((b : Rat) - a) * cQ l b := fun b m => cQ_tail (hne b m)
    refine ⟨fun y hy => ?_, ?_, ?_⟩
    · have hya : y ≠ a := fun e => hy (e ▸ List.mem_cons_self)
      have hyl : y ∉ l := fun m => hy (List.mem_cons_of_mem _ m)
      have iy := i1 y hyl
      have na := q_ne hya
      rw [sumQ_cons, cQ_head hn]
      have e : sumQ l (fun b => cQ (a :: l) b / ((y : Rat) - b)) = (sumQ l fun b => cQ l b / ((y : Rat) - b)) + (-(1 / ((y : Rat) - a)) * (sumQ l fun b => cQ l b / ((y : Rat) - b)) + (1 / ((y : Rat) - a)) * (sumQ l fun b => cQ l b / ((a : Rat) - b))) := by
        rw [← sumQ_mul, ← sumQ_mul, ← sumQ_add, ← sumQ_add]
        refine sumQ_congr fun b m => ?_
        rw [ct b m]
        have n1 := q_ne (hne b m)
        have n2 := q_ne (hne b m).symm
        have n3 : (y : Rat) - b ≠ 0 := q_ne fun e => hyl (e ▸ m)
        generalize cQ l b = c at *
        grind
      rw [e]
      show ((y : Rat) - 1 - a) / ((y : Rat) - a) * rQ l y = _
      rw [iy, ia]
      generalize (sumQ l fun b => cQ l b / ((y : Rat) - b)) = s at *
      generalize (sumQ l fun b => cQ l b / ((a : Rat) - b)) = t at *
      grind
    · rw [sumQ_cons, cQ_head hn]
      have e : sumQ l (cQ (a :: l)) = sumQ l (cQ l) + sumQ l fun b => cQ l b / ((a : Rat) - b) := by
        rw [← sumQ_add]
        refine sumQ_congr fun b m => ?_
        rw [ct b m]
        have n1 := q_ne (hne b m)
        have n2 := q_ne (hne b m).symm
        generalize cQ l b = c at *
        grind
      have el : (((a :: l).length : Nat) : Rat) = (l.length : Rat) + 1 := by rw [List.length_cons]; exact Rat.natCast_add _ _
      rw [e, ia, i2, el]
      grind
    · rw [sumQ_cons, sumQ_cons, cQ_head hn]
      have e : sumQ l (fun b => b * cQ (a :: l) b) = sumQ l (fun b => b * cQ l b) + (-1 * sumQ l (cQ l) + (a : Rat) * sumQ l fun b => cQ l b / ((a : Rat) - b)) := by
        rw [← sumQ_mul, ← sumQ_mul, ← sumQ_add, ← sumQ_add]
        refine sumQ_congr fun b m => ?_
        rw [ct b m]
        have n1 := q_ne (hne b m)
        have n2 := q_ne (hne b m).symm
        generalize cQ l b = c at *
        grind
      have el : (((a :: l).length : Nat) : Rat) = (l.length : Rat) + 1 := by rw [List.length_cons]; exact Rat.natCast_add _ _
      rw [e, ia, el]
      rw [i2]
      generalize (sumQ l fun b => cQ l b / ((a : Rat) - b)) = t at *
      generalize sumQ l (fun b => b * cQ l b) = u at *
      generalize (sumQ l fun b => (b : Rat)) = v at *
      grind
/-! ## hooks' products -/
def mulI : List Int → Int := List.foldr (· * ·) 1
theorem mulI_cons (a : Int) (l : List Int) : mulI (a :: l) = a * mulI l := rfl
theorem mulI_append (l m : List Int) : mulI (l ++ m) = mulI l * mulI m := by
  induction l with
  | nil => rw [List.nil_append]; show _ = 1 * _; rw [Int.one_mul]
  | cons a l ih => rw [List.cons_append, mulI_cons, mulI_cons, ih, Int.mul_assoc]
theorem mulI_perm {l m : List Int} (h : l.Perm m) : mulI l = mulI m := by
  induction h with
  | nil => rfl
  | cons a _ ih => rw [mulI_cons, mulI_cons, ih]
  | swap a b l => rw [mulI_cons, mulI_cons, mulI_cons, mulI_cons]; grind
  | trans _ _ i1 i2 => exact i1.trans i2
theorem mulI_pos : ∀ {l : List Int}, (∀ x ∈ l, 0 < x) → 0 < mulI l
  | [], _ => by show (0 : Int) < 1; decide
  | a :: l, h => by
    rw [mulI_cons]
    exact Int.mul_pos (h a List.mem_cons_self) (mulI_pos fun x m => h x (List.mem_cons_of_mem _ m))
theorem mulI_flatMap {α : Type} (l : List α) (f : α → List Int) : mulI (l.flatMap f) = mulI (l.map fun a => mulI (f a)) := by
  induction l with
  | nil => rfl
  | cons a l ih => rw [List.flatMap_cons, mulI_append, List.map_cons, mulI_cons, ih]
theorem mulI_mul {α : Type} (l : List α) (f g : α → Int) : mulI (l.map fun a => f a * g a) = mulI (l.map f) * mulI (l.map g) := by
  induction l with
  | nil => rfl
  | cons a l ih => rw [List.map_cons, List.map_cons, List.map_cons, mulI_cons, mulI_cons, mulI_cons, ih]; grind
theorem mulI_fil {α : Type} (l : List α) (p : α → Prop) [DecidablePred p] (f : α → Int) : mulI ((l.filter fun a => decide (p a)).map f) = mulI (l.map fun a => if p a then f a else 1) := by
  induction l with
  | nil => rfl
  | cons a l ih =>
    rw [List.filter_cons, List.map_cons, mulI_cons, ← ih]
    by_cases h : p a
    · rw [if_pos (decide_eq_true h), if_pos h]; rfl
    · rw [if_neg (by simpa using h), if_neg h, Int.one_mul]
def fct : Nat → Int
  | 0 => 1
  | n + 1 => ((n : Int) + 1) * fct n
theorem fct_pos : ∀ n, 0 < fct n
  | 0 => by decide
  | n + 1 => Int.mul_pos (by omega) (fct_pos n)
theorem fct_down : ∀ n : Nat, mulI (((List.range n).map fun i : Nat => (i : Int)).map fun i => (n : Int) - i) = fct n
  | 0 => rfl
  | n + 1 => by
    rw [List.range_succ_eq_map, List.map_cons, List.map_cons, mulI_cons, List.map_map, List.map_map]
    show _ = ((n : Int) + 1) * fct n
    rw [← fct_down n, List.map_map]
    congr 1
    congr 1
    refine List.map_congr_left fun i _ => ?_
    show ((n + 1 : Nat) : Int) - ((i + 1 : Nat) : Int) = (n : Int) - (i : Int)
    omega
theorem fct_at {ps : List Int} (h : Rises ps) {b : Int} (hb : b ∈ ps) : mulI ((gapsM ps b.toNat).map fun g => b - g) * mulI ((ps.filter fun p => decide (p < b)).map fun p => b - p) = fct b.toNat := by
  have hb0 := h.nn b hb
  rw [← mulI_append, ← List.map_append, ← fct_down b.toNat, show ((b.toNat : Nat) : Int) = b by omega]
  refine mulI_perm (List.Perm.map _ ((List.perm_ext_iff_of_nodup ?_ ?_).mpr fun x => ?_))
  · refine List.nodup_append.mpr ⟨(gaps_rise ps _).imp fun q => Int.ne_of_lt q, h.nodup.filter _, fun x hx y hy e => ?_⟩
    subst e
    exact (mem_gaps.mp hx).2.2 (List.mem_filter.mp hy).1
  · refine List.pairwise_map.mpr (List.nodup_range.imp fun q e => q (by omega))
  · rw [List.mem_append, mem_gaps, List.mem_filter, List.mem_map]
    constructor
    · rintro (⟨h0, h1, _⟩ | ⟨h1, h2⟩)
      · exact ⟨x.toNat, List.mem_range.mpr (by omega), by omega⟩
      · have := h.nn x h1
        have := of_decide_eq_true h2
        exact ⟨x.toNat, List.mem_range.mpr (by omega), by omega⟩
    · rintro ⟨i, hi, rfl⟩
      have := List.mem_range.mp hi
      by_cases m : (i : Int) ∈ ps
      · exact .inr ⟨m, decide_eq_true (by omega)⟩
      · exact .inl ⟨by omega, by omega, m⟩
/-- all differences -/
def vI : List Int → Int
  | [] => 1
  | x :: l => mulI (l.map fun y => ((x - y).natAbs : Int)) * vI l
theorem vI_perm {l m : List Int} (h : l.Perm m) : vI l = vI m := by
  induction h with
  | nil => rfl
  | cons a p ih =>
    show mulI _ * _ = mulI _ * _
    rw [ih, mulI_perm (p.map _)]
  | swap a b l =>
    show mulI _ * (mulI _ * _) = mulI _ * (mulI _ * _)
    rw [List.map_cons, List.map_cons, mulI_cons, mulI_cons]
    have e : ((b - a).natAbs : Int) = ((a - b).natAbs : Int) := by omega
    rw [e]
    grind
  | trans _ _ i1 i2 => exact i1.trans i2
theorem vI_pos : ∀ {l : List Int}, l.Nodup → 0 < vI l
  | [], _ => by show (0 : Int) < 1; decide
  | x :: l, h => by
    obtain ⟨h1, h2⟩ := List.nodup_cons.mp h
    refine Int.mul_pos (mulI_pos fun z m => ?_) (vI_pos h2)
    obtain ⟨y, hy, rfl⟩ := List.mem_map.mp m
    have : x ≠ y := fun e => h1 (e ▸ hy)
    omega
theorem vI_fil : ∀ {l : List Int}, l.Nodup → mulI (l.map fun b => mulI ((l.filter fun p => decide (p < b)).map fun p => b - p)) = vI l
  | [], _ => rfl
  | x :: l, h => by
    obtain ⟨h1, h2⟩ := List.nodup_cons.mp h
    rw [List.map_cons, mulI_cons, List.filter_cons_of_neg (by simp), mulI_fil]
    have e : (l.map fun b => mulI (((x :: l).filter fun p => decide (p < b)).map fun p => b - p)) = l.map fun b => (if x < b then b - x else 1) * mulI ((l.filter fun p => decide (p < b)).map fun p => b - p) := by
      refine List.map_congr_left fun b m => ?_
      rw [List.filter_cons]
      by_cases c : x < b
      · rw [if_pos (decide_eq_true c), if_pos c]; rfl
      · rw [if_neg (by simpa using c), if_neg c, Int.one_mul]
    rw [e, mulI_mul, vI_fil h2, ← Int.mul_assoc, ← mulI_mul]
    show _ = mulI _ * vI l
    congr 2
    refine List.map_congr_left fun y m => ?_
    have : x ≠ y := fun e => h1 (e ▸ m)
    by_cases c : y < x
    · rw [if_pos c, if_neg (by omega), Int.mul_one]; omega
    · rw [if_neg c, if_pos (by omega), Int.one_mul]; omega
def hkP (ps : List Int) : Int := mulI ((pairsM ps).map diffP)
theorem hk_eq {ps : List Int} (h : Rises ps) : hkP ps * vI ps = mulI (ps.map fun b => fct b.toNat) := by
  have e : hkP ps = mulI (ps.map fun b => mulI ((gapsM ps b.toNat).map fun g => b - g)) := by
    unfold hkP pairsM
    rw [List.map_flatMap, mulI_flatMap]
    congr 1
    refine List.map_congr_left fun b _ => ?_
    rw [List.map_map]
    rfl
  rw [e, ← vI_fil h.nodup, ← mulI_mul]
  congr 1
  exact List.map_congr_left fun b m => fct_at h m
theorem hk_pos {ps : List Int} (h : Rises ps) : 0 < hkP ps := by
  refine mulI_pos fun x m => ?_
  obtain ⟨⟨b, g⟩, hp, rfl⟩ := List.mem_map.mp m
  have := (mem_pairs h).mp hp
  show 0 < b - g
  omega
/-! ### one bead moved by one -/
theorem rQ_zero {b : Int} : ∀ {l : List Int}, b - 1 ∈ l → rQ l b = 0
  | y :: l, h => by
    show _ / _ * rQ l b = 0
    rcases List.mem_cons.mp h with rfl | h
    · have : ((b : Rat) - 1 - ((b - 1 : Int) : Rat)) = 0 := by rw [Rat.intCast_sub]; grind
      rw [this]
      grind
    · rw [rQ_zero h]
      grind
theorem rQ_abs {b : Int} : ∀ {l : List Int}, (∀ y ∈ l, y ≠ b ∧ y ≠ b - 1) → rQ l b * ((mulI (l.map fun y => ((b - y).natAbs : Int)) : Int) : Rat) = ((mulI (l.map fun y => ((b - 1 - y).natAbs : Int)) : Int) : Rat)
  | [], _ => by show (1 : Rat) * ((1 : Int) : Rat) = ((1 : Int) : Rat); grind
  | y :: l, h => by
    have ih := rQ_abs (b := b) fun z m => h z (List.mem_cons_of_mem _ m)
    obtain ⟨n1, n2⟩ := h y List.mem_cons_self
    rw [List.map_cons, List.map_cons, mulI_cons, mulI_cons, Rat.intCast_mul, Rat.intCast_mul, ← ih]
    show ((b : Rat) - 1 - y) / ((b : Rat) - y) * rQ l b * _ = _
    have n3 := q_ne (a := b) (b := y) n1.symm
    have e : (((b - 1 - y).natAbs : Int) : Rat) * ((b : Rat) - y) = (((b - y).natAbs : Int) : Rat) * ((b : Rat) - 1 - y) := by
      have e1 : ((b - 1 - y).natAbs : Int) * (b - y) = ((b - y).natAbs : Int) * (b - 1 - y) := by
        rcases Int.lt_or_gt_of_ne n1 with c | c
        · rw [show ((b - 1 - y).natAbs : Int) = b - 1 - y by omega, show ((b - y).natAbs : Int) = b - y by omega, Int.mul_comm]
        · rw [show ((b - 1 - y).natAbs : Int) = -(b - 1 - y) by omega, show ((b - y).natAbs : Int) = -(b - y) by omega]
          grind
      have e2 := congrArg (fun i : Int => (i : Rat)) e1
      simp only [Rat.intCast_mul, Rat.intCast_sub] at e2
      exact e2
    generalize (((b - 1 - y).natAbs : Int) : Rat) = s at *
    generalize (((b - y).natAbs : Int) : Rat) = t at *
    generalize rQ l b = u at *
    generalize ((mulI (l.map fun y => ((b - y).natAbs : Int)) : Int) : Rat) = w at *
    grind
theorem hk_moved {ps : List Int} (h : Rises ps) {b : Int} (hb : b ∈ ps) (h1 : 1 ≤ b) (hg : b - 1 ∉ ps) : (hkP ps : Rat) = (b : Rat) * cQ ps b * (hkP (movedM ps 1 b) : Rat) := by
  have hR := moved_rises (n := 1) h h1 hg
  have p1 := perm_take h.nodup hb
  have p2 := moved_perm ps 1 b
  have k1 := hk_eq h
  have k2 := hk_eq hR
  rw [vI_perm p1, mulI_perm (p1.map _)] at k1
  rw [vI_perm p2, mulI_perm (p2.map _)] at k2
  have hrest : ∀ y ∈ ps.filter (fun p => decide (p ≠ b)), y ≠ b ∧ y ≠ b - 1 := fun y m => ⟨by have := (List.mem_filter.mp m).2; exact of_decide_eq_true this, fun e => hg (e ▸ (List.mem_filter.mp m).1)⟩
  have q := rQ_abs hrest
  have hv := vI_pos (h.nodup.filter fun p => decide (p ≠ b))
  have hA : 0 < mulI ((ps.filter fun p => decide (p ≠ b)).map fun y => ((b - y).natAbs : Int)) := mulI_pos fun z m => by
    obtain ⟨y, hy, rfl⟩ := List.mem_map.mp m
    have := (hrest y hy).1
    omega
  have ef : fct b.toNat = b * fct (b - 1).toNat := by
    obtain ⟨k, rfl⟩ : ∃ k : Nat, b = k + 1 := ⟨(b - 1).toNat, by omega⟩
    rw [show ((k : Int) + 1).toNat = k + 1 by omega, show ((k : Int) + 1 - 1).toNat = k by omega]
    rfl
  change hkP ps * (mulI _ * vI _) = fct b.toNat * _ at k1
  change hkP (movedM ps 1 b) * (mulI _ * vI _) = fct (b - 1).toNat * _ at k2
  change rQ (ps.filter fun p => decide (p ≠ b)) b * _ = _ at q
  rw [ef] at k1
  unfold cQ
  generalize (ps.filter fun p => decide (p ≠ b)) = l at *
  generalize hkP ps = x at *
  generalize hkP (movedM ps 1 b) = x' at *
  have e : x * mulI (l.map fun y => ((b - y).natAbs : Int)) = b * x' * mulI (l.map fun y => ((b - 1 - y).natAbs : Int)) := by
    have e : (x * mulI (l.map fun y => ((b - y).natAbs : Int))) * vI l = (b * x' * mulI (l.map fun y => ((b - 1 - y).natAbs : Int))) * vI l := by
      generalize mulI (l.map fun y => ((b - y).natAbs : Int)) = m1 at *
      generalize mulI (l.map fun y => ((b - 1 - y).natAbs : Int)) = m2 at *
      generalize vI l = v at *
      generalize mulI (List.map (fun b => fct b.toNat) l) = w at *
      generalize fct (b - 1).toNat = f at *
      grind
    exact Int.eq_of_mul_eq_mul_right (by omega) e
  have e2 := congrArg (fun i : Int => (i : Rat)) e
  simp only [Rat.intCast_mul] at e2
  rw [← q] at e2
  have hA2 : ((mulI (l.map fun y => ((b - y).natAbs : Int)) : Int) : Rat) ≠ 0 := fun z => by
    have : mulI (l.map fun y => ((b - y).natAbs : Int)) = 0 := Rat.intCast_inj.mp z
    omega
  generalize ((mulI (l.map fun y => ((b - y).natAbs : Int)) : Int) : Rat) = w at *
  generalize rQ l b = u at *
  grind
theorem hk_ne {ps : List Int} (h : Rises ps) : (hkP ps : Rat) ≠ 0 := fun z => by
  have : hkP ps = 0 := Rat.intCast_inj.mp z
  have := hk_pos h
  omega
theorem sumQ_int (l : List Int) : sumQ l (fun b => (b : Rat)) = (l.sum : Rat) := by
  induction l with
  | nil => rfl
  | cons a l ih => rw [sumQ_cons, ih, List.sum_cons, Rat.intCast_add]
theorem move_one {ps : List Int} (h : Rises ps) : sumQ (ps.filter (rimB ps 1)) (fun b => 1 / (hkP (movedM ps 1 b) : Rat)) = ((rowOfM ps).sum : Rat) / (hkP ps : Rat) := by
  have hk0 := hk_ne h
  have e : sumQ (ps.filter (rimB ps 1)) (fun b => 1 / (hkP (movedM ps 1 b) : Rat)) = sumQ (ps.filter (rimB ps 1)) (fun b => (1 / (hkP ps : Rat)) * (b * cQ ps b)) := by
    refine sumQ_congr fun b m => ?_
    obtain ⟨hb, hr⟩ := List.mem_filter.mp m
    unfold rimB at hr
    rw [Bool.and_eq_true] at hr
    have r1 := of_decide_eq_true hr.1
    have r2 := of_decide_eq_true hr.2
    have q := hk_moved h hb r1 r2
    have q2 := hk_ne (moved_rises (n := 1) h r1 r2)
    generalize (hkP (movedM ps 1 b) : Rat) = u at *
    generalize (hkP ps : Rat) = v at *
    generalize cQ ps b = w at *
    grind
  rw [e, sumQ_filter _ _ _ fun b hb hr => ?_, sumQ_mul]
  · obtain ⟨_, _, s3⟩ := cQ_sums ps h.nodup
    rw [sumQ_int] at s3
    have t := tri ps.length
    have hs := row_sum h
    have t2 := congrArg (fun i : Int => (i : Rat)) t
    have hs2 := congrArg (fun i : Int => (i : Rat)) hs
    simp only [Rat.intCast_mul, Rat.intCast_sub] at t2 hs2
    have e3 : (((ps.length : Nat) : Int) : Rat) = (ps.length : Rat) := Rat.intCast_natCast _
    rw [e3] at t2
    have e4 : ((2 : Int) : Rat) = 2 := rfl
    rw [e4] at t2
    rw [hs2]
    generalize sumQ ps (fun b => b * cQ ps b) = u at *
    generalize (hkP ps : Rat) = v at *
    generalize ((idL ps.length).sum : Rat) = w at *
    generalize (ps.sum : Rat) = x at *
    generalize (ps.length : Rat) = y at *
    grind
  · have hz : (b : Rat) * cQ ps b = 0 := by
      have hb0 := h.nn b hb
      by_cases c : b = 0
      · subst c
        show ((0 : Int) : Rat) * _ = 0
        have : ((0 : Int) : Rat) = 0 := rfl
        rw [this]
        grind
      · have hin : b - 1 ∈ ps := by
          by_cases z : b - 1 ∈ ps
          · exact z
          · exfalso
            unfold rimB at hr
            rw [decide_eq_true (show (1 : Int) ≤ b by omega), decide_eq_true z] at hr
            exact absurd hr (by decide)
        unfold cQ
        rw [rQ_zero (List.mem_filter.mpr ⟨hin, decide_eq_true (by omega)⟩)]
        grind
    show 1 / _ * ((b : Rat) * cQ ps b) = 0
    rw [hz]
    grind
/-! ## hooks' products on so many rods; rows with a rim less -/
def hq (ps : List Int) (n : Nat) : Int := mulI ((List.range n).map fun k => hkP (rodM ps n k))
theorem mulI_change {k : Nat} {g g' : Nat → Int} : ∀ {l : List Nat}, l.Nodup → k ∈ l → (∀ j ∈ l, j ≠ k → g' j = g j) → mulI (l.map g') * g k = mulI (l.map g) * g' k
  | a :: l, hn, hm, h => by
    obtain ⟨h1, h2⟩ := List.nodup_cons.mp hn
    rw [List.map_cons, List.map_cons, mulI_cons, mulI_cons]
    rcases List.mem_cons.mp hm with rfl | hm
    · have e : l.map g' = l.map g := List.map_congr_left fun j m => h j (List.mem_cons_of_mem _ m) fun z => h1 (z ▸ m)
      rw [e]
      grind
    · have ih := mulI_change h2 hm fun j m => h j (List.mem_cons_of_mem _ m)
      rw [h a List.mem_cons_self fun z => h1 (z ▸ hm)]
      grind
theorem dm_uniq {n k j : Nat} (hk : k < n) (hj : j < n) {x h : Int} (e : x * n + j = h * n + k) : x = h ∧ j = k := by
  obtain ⟨a1, a2⟩ := dm hk h
  obtain ⟨b1, b2⟩ := dm hj x
  rw [e] at b1 b2
  have := b2.symm.trans a2
  exact ⟨b1.symm.trans a1, by omega⟩
theorem up_one (h n k : Int) : h * n + k - n = (h - 1) * n + k := by rw [Int.sub_mul, Int.one_mul]; omega
theorem rod_moved {ps : List Int} {n k : Nat} (hP : Rises ps) (hn : 0 < n) (hk : k < n) {h : Int} (h1 : 1 ≤ h) (hg : h - 1 ∉ rodM ps n k) {j : Nat} (hj : j < n) :
    rodM (movedM ps n (h * n + k)) n j = if j = k then movedM (rodM ps n k) 1 h else rodM ps n j := by
  have hgp : h * n + k - n ∉ ps := by
    rw [up_one]
    exact fun m => hg ((mem_rod hk).mpr m)
  have hb : (n : Int) ≤ h * n + k := by
    have := Int.mul_le_mul_of_nonneg_right h1 (show (0 : Int) ≤ n by omega)
    omega
  have hM := moved_rises hP hb hgp
  have hRk := rod_rises hn hP k
  by_cases c : j = k
  · subst c
    rw [if_pos rfl]
    refine incr_eq (rod_rises hn hM j).rise (moved_rises hRk h1 hg).rise fun x => ?_
    rw [mem_rod hj, mem_moved, mem_moved, mem_rod hj, up_one]
    constructor
    · rintro (⟨a, b⟩ | a)
      · exact .inl ⟨a, fun z => b (by rw [z])⟩
      · exact .inr (dm_uniq hk hj a).1
    · rintro (⟨a, b⟩ | a)
      · exact .inl ⟨a, fun z => b (dm_uniq hk hj z).1⟩
      · exact .inr (by rw [a])
  · rw [if_neg c]
    refine incr_eq (rod_rises hn hM j).rise (rod_rises hn hP j).rise fun x => ?_
    rw [mem_rod hj, mem_moved, mem_rod hj, up_one]
    constructor
    · rintro (⟨a, _⟩ | a)
      · exact a
      · exact absurd (dm_uniq hk hj a).2 c
    · exact fun a => .inl ⟨a, fun z => c (dm_uniq hk hj z).2⟩
theorem rim_rod {ps : List Int} {n k : Nat} (hP : Rises ps) (hk : k < n) {h : Int} (hm : h ∈ rodM ps n k) : rimB ps n (h * n + k) = rimB (rodM ps n k) 1 h := by
  have hn : 0 < n := by omega
  have h0 := (rod_rises hn hP k).nn h hm
  unfold rimB
  rw [up_one]
  have e1 : decide ((n : Int) ≤ h * n + k) = decide ((1 : Int) ≤ h) := by
    by_cases c : 1 ≤ h
    · have := Int.mul_le_mul_of_nonneg_right c (show (0 : Int) ≤ n by omega)
      rw [decide_eq_true c, decide_eq_true (by omega)]
    · have : h = 0 := by omega
      subst this
      rw [decide_eq_false c, decide_eq_false (by rw [Int.zero_mul]; omega)]
  have e2 : decide ((h - 1) * n + k ∉ ps) = decide (h - 1 ∉ rodM ps n k) := by
    by_cases c : h - 1 ∈ rodM ps n k
    · rw [decide_eq_false (fun z => z ((mem_rod hk).mp c)), decide_eq_false (fun z => z c)]
    · rw [decide_eq_true (show ¬ (h - 1) * (n : Int) + (k : Int) ∈ ps from fun z => c ((mem_rod hk).mpr z)), decide_eq_true c]
  rw [e1, e2]
theorem hq_pos {ps : List Int} {n : Nat} (hP : Rises ps) (hn : 0 < n) : 0 < hq ps n := mulI_pos fun x m => by
  obtain ⟨k, _, rfl⟩ := List.mem_map.mp m
  exact hk_pos (rod_rises hn hP k)
theorem q_ne0 {i : Int} (h : 0 < i) : (i : Rat) ≠ 0 := fun z => by
  have : i = 0 := Rat.intCast_inj.mp z
  omega
theorem sumQ_cast {α : Type} (l : List α) (f : α → Int) : sumQ l (fun a => (f a : Rat)) = ((l.map f).sum : Rat) := by
  rw [← sumQ_int, sumQ_map]
theorem move_sum {ps : List Int} {n : Nat} (hP : Rises ps) (hn : 0 < n) : sumQ (ps.filter (rimB ps n)) (fun b => 1 / (hq (movedM ps n b) n : Rat)) = ((((List.range n).map fun k => (rowOfM (rodM ps n k)).sum).sum : Int) : Rat) / (hq ps n : Rat) := by
  have p : (gatherP (rodsM ps n)).Perm ps := by
    have q := sortI_perm (gatherP (rodsM ps n))
    have e : sortI (gatherP (rodsM ps n)) = ps := places_rods hn hP
    rw [e] at q
    exact q.symm
  have hq0 := q_ne0 (hq_pos hP hn)
  rw [sumQ_perm (p.symm.filter _)]
  unfold gatherP
  rw [rods_len, List.filter_flatMap, sumQ_flatMap, ← sumQ_cast]
  have e : ∀ k ∈ List.range n, sumQ ((((rodsM ps n).getD k []).map fun h => h * (n : Int) + (k : Int)).filter (rimB ps n)) (fun b => 1 / (hq (movedM ps n b) n : Rat)) = (1 / (hq ps n : Rat)) * ((rowOfM (rodM ps n k)).sum : Rat) := fun k hk' => by
    have hk := List.mem_range.mp hk'
    have hR := rod_rises hn hP k
    have hk0 := hk_ne hR
    rw [rods_get hk, List.filter_map, sumQ_map]
    have ef : (rodM ps n k).filter (rimB ps n ∘ fun h => h * (n : Int) + (k : Int)) = (rodM ps n k).filter (rimB (rodM ps n k) 1) := List.filter_congr fun h m => rim_rod hP hk m
    rw [ef]
    have es : sumQ ((rodM ps n k).filter (rimB (rodM ps n k) 1)) (fun h => 1 / (hq (movedM ps n (h * (n : Int) + (k : Int))) n : Rat)) = sumQ ((rodM ps n k).filter (rimB (rodM ps n k) 1)) (fun h => ((hkP (rodM ps n k) : Rat) / (hq ps n : Rat)) * (1 / (hkP (movedM (rodM ps n k) 1 h) : Rat))) := by
      refine sumQ_congr fun h m => ?_
      obtain ⟨hm, hr⟩ := List.mem_filter.mp m
      unfold rimB at hr
      rw [Bool.and_eq_true] at hr
      have r1 := of_decide_eq_true hr.1
      have r2 := of_decide_eq_true hr.2
      have hc := mulI_change (k := k) (g := fun j => hkP (rodM ps n j)) (g' := fun j => hkP (rodM (movedM ps n (h * (n : Int) + (k : Int))) n j)) (List.nodup_range (n := n)) hk' fun j hj hjk => by
        show hkP (rodM (movedM ps n (h * (n : Int) + (k : Int))) n j) = _
        rw [rod_moved hP hn hk r1 r2 (List.mem_range.mp hj), if_neg hjk]
      have hc' : hq (movedM ps n (h * (n : Int) + (k : Int))) n * hkP (rodM ps n k) = hq ps n * hkP (movedM (rodM ps n k) 1 h) := by
        refine hc.trans ?_
        show _ * hkP (rodM (movedM ps n (h * (n : Int) + (k : Int))) n k) = _
        rw [rod_moved hP hn hk r1 r2 hk, if_pos rfl]
        rfl
      have e2 := congrArg (fun i : Int => (i : Rat)) hc'
      simp only [Rat.intCast_mul] at e2
      have n1 := hk_ne (moved_rises hR r1 r2)
      have n2 : (hq (movedM ps n (h * (n : Int) + (k : Int))) n : Rat) ≠ 0 := fun z => by
        rw [z] at e2
        have : (hq ps n : Rat) * (hkP (movedM (rodM ps n k) 1 h) : Rat) = 0 := by rw [← e2]; grind
        rcases Rat.mul_eq_zero.mp this with a | a
        · exact hq0 a
        · exact n1 a
      generalize (hq (movedM ps n (h * (n : Int) + (k : Int))) n : Rat) = u1 at *
      generalize (hkP (movedM (rodM ps n k) 1 h) : Rat) = u2 at *
      generalize (hkP (rodM ps n k) : Rat) = u3 at *
      generalize (hq ps n : Rat) = u4 at *
      grind
    have m1 := move_one hR
    rw [es, sumQ_mul, m1]
    generalize (hkP (rodM ps n k) : Rat) = u3 at *
    generalize (hq ps n : Rat) = u4 at *
    generalize ((rowOfM (rodM ps n k)).sum : Rat) = u5 at *
    grind
  rw [sumQ_congr e, sumQ_mul]
  generalize (hq ps n : Rat) = u4 at *
  generalize sumQ (List.range n) (fun k => ((rowOfM (rodM ps n k)).sum : Rat)) = u5 at *
  grind
/-! ### rows -/
def hkR (q : List Int) : Int := mulI (hooksM q).flatten
def hqR (r : List Int) (n : Nat) : Int := mulI ((quotM r n).map hkR)
theorem hk_row {q : List Int} (h : Row q) {m : Nat} (hm : q.length ≤ m) : hkP (beadsM q m) = hkR q := mulI_perm (diffs_perm h hm)
theorem hq_row {r : List Int} {n m : Nat} (hr : Row r) (hn : 0 < n) (hd : n ∣ m) (hm : r.length ≤ m) : hq (beadsM r m) n = hqR r n := by
  have e : quotM r n = (List.range n).map fun k => rowOfM (rodM (beadsM r (upM r.length n)) n k) := by
    unfold quotM spreadM rodsM
    rw [List.map_map]
    rfl
  unfold hq hqR
  rw [e, List.map_map]
  congr 1
  refine List.map_congr_left fun k hk' => ?_
  have hk := List.mem_range.mp hk'
  obtain ⟨_, f2, f3⟩ := rod_form hr hk hd hm
  have hqr : Row (rowOfM (rodM (beadsM r (upM r.length n)) n k)) := rowOf_row (rod_rises hn (beads_rises hr _) k)
  rw [quot_get hk] at f2 f3
  show hkP (rodM (beadsM r m) n k) = hkR _
  rw [f2, hk_row hqr f3]
theorem qsum_rods (r : List Int) (n : Nat) : qsum r n = ((List.range n).map fun k => (rowOfM (rodM (beadsM r (upM r.length n)) n k)).sum).sum := by
  unfold qsum quotM spreadM rodsM
  rw [List.map_map, List.map_map]
  rfl
theorem hkR_pos {q : List Int} (h : Row q) : 0 < hkR q := by
  rw [← hk_row h (Nat.le_refl _)]
  exact hk_pos (beads_rises h _)
theorem hqR_pos {r : List Int} {n : Nat} (hr : Row r) : 0 < hqR r n := mulI_pos fun x m => by
  obtain ⟨q, hq, rfl⟩ := List.mem_map.mp m
  exact hkR_pos (quot_row hr hq)
theorem one_beads {r : List Int} {n m k : Nat} (hr : Row r) (hn : 0 < n) (hm : r.length ≤ m) (hk : k < r.length) (hl : (n : Int) ∈ lineM r k) : beadsM (lwOne r n k).1 m = movedM (beadsM r m) n (bdM r m k) := by
  obtain ⟨hj, hh⟩ := idx_hook hl
  have hbd := rim_line hr hn hm (show k < m by omega)
  rw [decide_eq_true hl] at hbd
  unfold rimB at hbd
  rw [Bool.and_eq_true] at hbd
  have hb1 : (n : Int) ≤ bdM r m k := of_decide_eq_true hbd.1
  have hb2 : bdM r m k - n ∉ beadsM r m := of_decide_eq_true hbd.2
  have hR := moved_rises (beads_rises hr m) hb1 hb2
  have hl : (movedM (beadsM r m) n (bdM r m k)).length = m := by
    have h1 := (moved_perm (beadsM r m) n (bdM r m k)).length_eq
    have h2 := (perm_take (beads_rises hr m).nodup (mem_beads.mpr ⟨k, by omega, rfl⟩ : bdM r m k ∈ beadsM r m)).length_eq
    rw [beads_len] at h2
    rw [List.length_cons] at h1 h2
    omega
  have e := moved_row hr hn hm hk hj hh
  have q := beads_rowOf hR
  rw [hl] at q
  show beadsM ((madM r k ((lineM r k).idxOf (n : Int))).filter fun x => decide (0 < x)) m = _
  rw [← e, q]
theorem range_cut {m l : Nat} (h : l ≤ m) (p : Nat → Bool) (hp : ∀ k, l ≤ k → p k = false) : (List.range m).filter p = (List.range l).filter p := by
  obtain ⟨d, rfl⟩ : ∃ d, m = l + d := ⟨m - l, by omega⟩
  clear h
  induction d with
  | zero => rfl
  | succ d ih => rw [← Nat.add_assoc, List.range_succ, List.filter_append, ih, List.filter_cons_of_neg (by rw [hp _ (by omega)]; simp), List.filter_nil, List.append_nil]
/-- one by all rows with a rim less -/
theorem lesser_sum {r : List Int} {n : Nat} (hr : Row r) (hn : 0 < n) : sumQ (lwLesserM r n) (fun x => 1 / (hqR x.1 n : Rat)) = (qsum r n : Rat) / (hqR r n : Rat) := by
  have hm := up_ge r.length hn
  have hd := up_dvd r.length n
  have hB := beads_rises hr (upM r.length n)
  have s := move_sum hB hn
  rw [← qsum_rods, hq_row hr hn hd hm] at s
  rw [← s]
  generalize hM : upM r.length n = m at *
  have ep : ((beadsM r m).filter (rimB (beadsM r m) n)).Perm (((List.range r.length).reverse.filter fun k => decide ((n : Int) ∈ lineM r k)).map (bdM r m)) := by
    have e1 : (beadsM r m).filter (rimB (beadsM r m) n) = ((List.range m).reverse.filter fun k => decide ((n : Int) ∈ lineM r k)).map (bdM r m) := by
      have e2 := beads_bd r m
      have e3 : (beadsM r m).filter (rimB (beadsM r m) n) = ((List.range m).reverse.map (bdM r m)).filter (rimB (beadsM r m) n) := by rw [← e2]
      rw [e3, List.filter_map]
      congr 1
      exact List.filter_congr fun k hk => rim_line hr hn hm (List.mem_range.mp (List.mem_reverse.mp hk))
    rw [e1]
    refine List.Perm.map _ ?_
    rw [List.filter_reverse, List.filter_reverse, range_cut hm _ fun k hk => by rw [line_out hk]; rfl]
  rw [sumQ_perm ep, sumQ_map]
  unfold lwLesserM
  rw [sumQ_map]
  refine sumQ_congr fun k hk => ?_
  obtain ⟨h1, h2⟩ := List.mem_filter.mp hk
  have hkl := List.mem_range.mp (List.mem_reverse.mp h1)
  have hl := of_decide_eq_true h2
  have hs := step_mem (List.mem_map.mpr ⟨k, hk, rfl⟩ : lwOne r n k ∈ lwLesserM r n)
  obtain ⟨hr', hlen, _, _⟩ := hs.beads hr hn
  rw [← one_beads hr hn hm hkl hl, hq_row hr' hn hd (by omega)]
theorem quot_one {r : List Int} (hr : Row r) : quotM r 1 = [r] := by
  have e : quotM r 1 = [rowOfM (rodM (beadsM r (upM r.length 1)) 1 0)] := rfl
  have e2 : rodM (beadsM r (upM r.length 1)) 1 0 = beadsM r (upM r.length 1) := by
    unfold rodM
    have f : (beadsM r (upM r.length 1)).filter (fun p => decide (p % ((1 : Nat) : Int) = ((0 : Nat) : Int))) = beadsM r (upM r.length 1) := List.filter_eq_self.mpr fun p _ => by
      refine decide_eq_true ?_
      show p % 1 = 0
      omega
    rw [f]
    have : ∀ l : List Int, l.map (fun p => p / ((1 : Nat) : Int)) = l := fun l => by
      have : (fun p : Int => p / ((1 : Nat) : Int)) = id := funext fun p => by show p / 1 = p; omega
      rw [this, List.map_id]
    exact this _
  rw [e, e2, rowOf_beads hr (up_ge _ (by decide))]
theorem hqR_one {r : List Int} (hr : Row r) : hqR r 1 = hkR r := by
  unfold hqR
  rw [quot_one hr]
  show hkR r * 1 = hkR r
  rw [Int.mul_one]
theorem qsum_one {r : List Int} (hr : Row r) : qsum r 1 = r.sum := by
  unfold qsum
  rw [quot_one hr]
  show r.sum + 0 = r.sum
  rw [Int.add_zero]
theorem qsum_step {r : List Int} {n : Nat} (hr : Row r) (hn : 0 < n) {x : List Int × Int} (h : x ∈ lwLesserM r n) : Row x.1 ∧ x.1.length ≤ r.length ∧ x.1.sum = r.sum - n ∧ qsum x.1 n = qsum r n - 1 := by
  have s := step_mem h
  obtain ⟨h1, h2, _, _⟩ := s.beads hr hn
  obtain ⟨f1, f2, _⟩ := s.facts hr hn
  have c1 := cells_q hr hn
  have c2 := cells_q h1 hn
  rw [core_cof hr hn] at c1
  rw [core_cof h1 hn, f2] at c2
  refine ⟨h1, h2, f1, ?_⟩
  have e : (n : Int) * qsum x.1 n = n * (qsum r n - 1) := by rw [Int.mul_sub]; omega
  exact Int.eq_of_mul_eq_mul_left (by omega) e
/-! ## fillings -/
def fillM (q : List Int) : Int := fct q.sum.toNat / hkR q
theorem fct_step {N : Int} (h : 0 < N) : fct N.toNat = N * fct (N - 1).toNat := by
  obtain ⟨k, rfl⟩ : ∃ k : Nat, N = k + 1 := ⟨(N - 1).toNat, by omega⟩
  rw [show ((k : Int) + 1).toNat = k + 1 by omega, show ((k : Int) + 1 - 1).toNat = k by omega]
  rfl
theorem sum_zero_row {q : List Int} (h : Row q) (h0 : q.sum = 0) : q = [] := by
  have := h.sum_len
  exact List.length_eq_zero_iff.mp (by omega)
theorem fill_exact : ∀ (t : Nat) {q : List Int}, Row q → q.sum = t → fct q.sum.toNat = fillM q * hkR q
  | 0, q, h, e => by
    rw [sum_zero_row h e]
    decide
  | t + 1, q, h, e => by
    have hs := lesser_sum (n := 1) h (by decide)
    rw [qsum_one h, hqR_one h] at hs
    have ih : ∀ x ∈ lwLesserM q 1, fct t = fillM x.1 * hkR x.1 ∧ 0 < hkR x.1 ∧ hqR x.1 1 = hkR x.1 := fun x hx => by
      obtain ⟨a, b, c, _⟩ := qsum_step h (by decide) hx
      have c' : x.1.sum = t := by rw [c, e]; omega
      have := fill_exact t a c'
      rw [c', Int.toNat_natCast] at this
      exact ⟨this, hkR_pos a, hqR_one a⟩
    have hk0 := hkR_pos h
    have hkq := q_ne0 hk0
    have es : sumQ (lwLesserM q 1) (fun x => (fillM x.1 : Rat)) = (fct q.sum.toNat : Rat) / (hkR q : Rat) := by
      have e1 : sumQ (lwLesserM q 1) (fun x => (fillM x.1 : Rat)) = sumQ (lwLesserM q 1) (fun x => (fct t : Rat) * (1 / (hqR x.1 1 : Rat))) := sumQ_congr fun x hx => by
        obtain ⟨a, b, c⟩ := ih x hx
        have a2 := congrArg (fun i : Int => (i : Rat)) a
        simp only [Rat.intCast_mul] at a2
        have b2 := q_ne0 b
        rw [c, a2]
        generalize (hkR x.1 : Rat) = u at *
        grind
      rw [e1, sumQ_mul, hs, fct_step (N := q.sum) (by omega), Rat.intCast_mul, show (q.sum - 1).toNat = t by omega]
      generalize (hkR q : Rat) = u at *
      grind
    rw [sumQ_cast] at es
    have e3 : fct q.sum.toNat = ((lwLesserM q 1).map fun x => fillM x.1).sum * hkR q := by
      refine Rat.intCast_inj.mp ?_
      rw [Rat.intCast_mul, es]
      generalize (hkR q : Rat) = u at *
      grind
    have e4 : fillM q = ((lwLesserM q 1).map fun x => fillM x.1).sum := by
      show fct q.sum.toNat / hkR q = _
      rw [e3, Int.mul_ediv_cancel _ (by omega)]
    rw [e4]
    exact e3
theorem fill_eq {q : List Int} (h : Row q) : fct q.sum.toNat = fillM q * hkR q := fill_exact q.sum.toNat h (by have := h.sum_len; omega)
/-- the end taken away, in all ways -/
theorem fill_rec {q : List Int} (h : Row q) (h0 : q ≠ []) : fillM q = ((lwLesserM q 1).map fun x => fillM x.1).sum := by
  have hs := lesser_sum (n := 1) h (by decide)
  have hpos : 0 < q.sum := by
    have := h.sum_len
    have := List.length_pos_iff.mpr h0
    omega
  rw [qsum_one h, hqR_one h] at hs
  have hk0 := hkR_pos h
  have hkq := q_ne0 hk0
  have fe := fill_eq h
  have es : sumQ (lwLesserM q 1) (fun x => (fillM x.1 : Rat)) = (fillM q : Rat) := by
    have e1 : sumQ (lwLesserM q 1) (fun x => (fillM x.1 : Rat)) = sumQ (lwLesserM q 1) (fun x => (fct (q.sum - 1).toNat : Rat) * (1 / (hqR x.1 1 : Rat))) := sumQ_congr fun x hx => by
      obtain ⟨a, b, c, _⟩ := qsum_step h (by decide) hx
      have a1 := fill_eq a
      rw [c] at a1
      have a2 := congrArg (fun i : Int => (i : Rat)) a1
      simp only [Rat.intCast_mul] at a2
      have b2 := q_ne0 (hkR_pos a)
      rw [hqR_one a]
      have : ((q.sum - ((1 : Nat) : Int)).toNat) = (q.sum - 1).toNat := rfl
      rw [this] at a2
      rw [a2]
      generalize (hkR x.1 : Rat) = u at *
      grind
    have f2 := congrArg (fun i : Int => (i : Rat)) fe
    rw [fct_step hpos] at f2
    simp only [Rat.intCast_mul] at f2
    rw [e1, sumQ_mul, hs]
    generalize (hkR q : Rat) = u at *
    generalize (fct (q.sum - 1).toNat : Rat) = v at *
    grind
  rw [sumQ_cast] at es
  exact (Rat.intCast_inj.mp es).symm
/-! ## ways down -/
/-- s + i over i -/
def chs : Nat → Nat → Int
  | 0, _ => 1
  | _ + 1, 0 => 1
  | s + 1, i + 1 => chs (s + 1) i + chs s (i + 1)
theorem chs_zero (s : Nat) : chs s 0 = 1 := by cases s <;> rw [chs]
theorem chs_fct : ∀ s i : Nat, chs s i * fct s * fct i = fct (s + i)
  | 0, i => by rw [chs, Nat.zero_add]; show 1 * 1 * _ = _; rw [Int.one_mul, Int.one_mul]
  | s + 1, 0 => by rw [chs_zero]; show 1 * _ * 1 = _; rw [Int.one_mul, Int.mul_one]
  | s + 1, i + 1 => by
    have h1 := chs_fct (s + 1) i
    have h2 := chs_fct s (i + 1)
    have e1 : fct (s + 1) = ((s : Int) + 1) * fct s := rfl
    have e2 : fct (i + 1) = ((i : Int) + 1) * fct i := rfl
    have e3 : fct (s + 1 + (i + 1)) = ((s : Int) + i + 2) * fct (s + 1 + i) := by
      show (((s + 1 + i : Nat) : Int) + 1) * fct (s + 1 + i) = _
      congr 1
      omega
    have e4 : s + (i + 1) = s + 1 + i := by omega
    rw [e4] at h2
    rw [chs, e3]
    generalize fct (s + 1 + i) = u at *
    rw [e2] at h2 ⊢
    rw [e1] at h1 ⊢
    generalize fct s = v at *
    generalize fct i = w at *
    grind
theorem chs_step (s i : Nat) : chs s (i + 1) * ((i : Int) + 1) = chs s i * ((s : Int) + i + 1) := by
  have h1 := chs_fct s i
  have h2 := chs_fct s (i + 1)
  have e2 : fct (i + 1) = ((i : Int) + 1) * fct i := rfl
  have e3 : fct (s + (i + 1)) = ((s : Int) + i + 1) * fct (s + i) := by
    show (((s + i : Nat) : Int) + 1) * fct (s + i) = _
    rw [Int.natCast_add]
  rw [e3, e2, ← h1] at h2
  have p1 := fct_pos s
  have p2 := fct_pos i
  have p3 := Int.mul_pos p1 p2
  refine Int.eq_of_mul_eq_mul_right (a := fct s * fct i) (by omega) ?_
  generalize fct s = v at *
  generalize fct i = w at *
  grind
theorem chs_div (m : Int) (s i : Nat) : m * chs s i * ((s : Int) + i + 1) / ((i : Int) + 1) = m * chs s (i + 1) := by
  have e : m * chs s i * ((s : Int) + i + 1) = m * chs s (i + 1) * ((i : Int) + 1) := by
    rw [Int.mul_assoc, ← chs_step, Int.mul_assoc]
  rw [e, Int.mul_ediv_cancel _ (by omega)]
/-- many and steps behind the quotient's rows -/
def waysS : List (List Int) → Int × Nat → Int × Nat
  | [], p => p
  | q :: qs, p => waysS qs (p.1 * chs p.2 q.sum.toNat * fillM q, p.2 + q.sum.toNat)
def waysM (r : List Int) (n : Nat) : Int := (waysS (quotM r n) (1, 0)).1
theorem waysS_eq : ∀ (qs : List (List Int)) (p : Int × Nat), (∀ q ∈ qs, Row q) → (waysS qs p).1 * mulI (qs.map hkR) * fct p.2 = p.1 * fct (p.2 + (qs.map List.sum).sum.toNat)
  | [], p, _ => by
    show p.1 * 1 * fct p.2 = p.1 * fct (p.2 + 0)
    rw [Int.mul_one]
    rfl
  | q :: qs, (m, s), h => by
    have ih := waysS_eq qs (m * chs s q.sum.toNat * fillM q, s + q.sum.toNat) fun x hx => h x (List.mem_cons_of_mem _ hx)
    have hq := h q List.mem_cons_self
    have hf := fill_eq hq
    have hc := chs_fct s q.sum.toNat
    have hs := hq.sum_len
    have hs2 : 0 ≤ (qs.map List.sum).sum := sum_nonneg fun y m => by
      obtain ⟨z, hz, rfl⟩ := List.mem_map.mp m
      have := (h z (List.mem_cons_of_mem _ hz)).sum_len
      omega
    rw [List.map_cons, List.map_cons, mulI_cons, List.sum_cons]
    show (waysS qs _).1 * _ * _ = m * _
    dsimp only at ih ⊢
    rw [show (q.sum + (qs.map List.sum).sum).toNat = q.sum.toNat + (qs.map List.sum).sum.toNat by omega, ← Nat.add_assoc]
    have p1 := fct_pos (s + q.sum.toNat)
    refine Int.eq_of_mul_eq_mul_right (a := fct (s + q.sum.toNat)) (by omega) ?_
    generalize fct (s + q.sum.toNat + (qs.map List.sum).sum.toNat) = u1 at *
    generalize fct (s + q.sum.toNat) = u2 at *
    generalize (waysS qs (m * chs s q.sum.toNat * fillM q, s + q.sum.toNat)).1 = u3 at *
    generalize mulI (qs.map hkR) = u4 at *
    generalize chs s q.sum.toNat = u5 at *
    generalize fct q.sum.toNat = u6 at *
    generalize hkR q = u7 at *
    generalize fillM q = u8 at *
    generalize fct s = u9 at *
    grind
theorem ways_eq {r : List Int} {n : Nat} (hr : Row r) : waysM r n * hqR r n = fct (qsum r n).toNat := by
  have h := waysS_eq (quotM r n) (1, 0) fun q hq => quot_row hr hq
  dsimp only at h
  rw [Nat.zero_add, Int.one_mul] at h
  have e : fct 0 = 1 := rfl
  rw [e, Int.mul_one] at h
  exact h
theorem ways_none {r : List Int} {n : Nat} (hr : Row r) (h0 : qsum r n = 0) : waysM r n = 1 := by
  have h := ways_eq (n := n) hr
  rw [h0] at h
  have h1 : waysM r n * hqR r n = 1 := h
  have h2 := hqR_pos (n := n) hr
  have hw : 0 < waysM r n := by
    rcases Int.lt_or_le 0 (waysM r n) with c | c
    · exact c
    · have := Int.mul_nonneg (show 0 ≤ - waysM r n by omega) (show 0 ≤ hqR r n by omega)
      rw [Int.neg_mul] at this
      omega
  have h3 := Int.mul_le_mul_of_nonneg_left (show 1 ≤ hqR r n by omega) (show 0 ≤ waysM r n by omega)
  omega
theorem ways_rec {r : List Int} {n : Nat} (hr : Row r) (hn : 0 < n) (h0 : 0 < qsum r n) : waysM r n = ((lwLesserM r n).map fun x => waysM x.1 n).sum := by
  have hs := lesser_sum hr hn
  have hkq := q_ne0 (hqR_pos (n := n) hr)
  have fe := ways_eq (n := n) hr
  have es : sumQ (lwLesserM r n) (fun x => (waysM x.1 n : Rat)) = (waysM r n : Rat) := by
    have e1 : sumQ (lwLesserM r n) (fun x => (waysM x.1 n : Rat)) = sumQ (lwLesserM r n) (fun x => (fct (qsum r n - 1).toNat : Rat) * (1 / (hqR x.1 n : Rat))) := sumQ_congr fun x hx => by
      obtain ⟨a, b, _, c⟩ := qsum_step hr hn hx
      have a1 := ways_eq (n := n) a
      rw [c] at a1
      have a2 := congrArg (fun i : Int => (i : Rat)) a1
      simp only [Rat.intCast_mul] at a2
      have b2 := q_ne0 (hqR_pos (n := n) a)
      rw [← a2]
      generalize (hqR x.1 n : Rat) = u at *
      grind
    have f2 := congrArg (fun i : Int => (i : Rat)) fe
    rw [fct_step h0] at f2
    simp only [Rat.intCast_mul] at f2
    rw [e1, sumQ_mul, hs]
    generalize (hqR r n : Rat) = u at *
    generalize (fct (qsum r n - 1).toNat : Rat) = v at *
    grind
  rw [sumQ_cast] at es
  exact (Rat.intCast_inj.mp es).symm
theorem ways_one {r : List Int} (hr : Row r) : waysM r 1 = fillM r := by
  have h := ways_eq (n := 1) hr
  rw [qsum_one hr, hqR_one hr, fill_eq hr] at h
  have := hkR_pos hr
  exact Int.eq_of_mul_eq_mul_right (by omega) h
/-! ### by the floor, one hook after the other -/
theorem div_fold : ∀ {l : List Int} (a : Int), (∀ x ∈ l, 0 < x) → l.foldl (fun a h => a / h) a = a / mulI l
  | [], a, _ => by show a = a / 1; rw [Int.ediv_one]
  | x :: l, a, h => by
    rw [List.foldl_cons, div_fold _ fun y m => h y (List.mem_cons_of_mem _ m), mulI_cons]
    have := h x List.mem_cons_self
    rw [Int.ediv_ediv_of_nonneg (by omega)]
theorem hooks_pos {r : List Int} (h : Row r) : ∀ x ∈ (hooksM r).flatten, 1 ≤ x ∧ x ≤ gi r 0 + r.length - 1 := fun x m => by
  obtain ⟨k, j, a, b, rfl⟩ := mem_hooks.mp m
  exact hook_bounds h a b
theorem fill_fold {q : List Int} (h : Row q) : (hooksM q).flatten.foldl (fun a h => a / h) (fct q.sum.toNat) = fillM q := div_fold _ fun x m => by have := hooks_pos h x m; omega
abbrev N_fillings : List Str := ["row", "many", "k", "line", "hook"]
def rd_fillings (K : Frg) (C : Ec) (W : WX) : TS := (tSeq (tAsg (tC (.int 1)) (gName 1))
  (tSeq (tFor (iRng1 (tCons (tCB (rSum K) (tCons (tVar 0) tNil)) tNil)) (gName 2)
  (tAsg (tOp rMulA (tVar 1) (tOp rAddA (tVar 2) (tC (.int 1)))) (gName 1)))
  (tSeq (tFor (iList K (tCall (spOf K (R_hooks C)) [] E0 (tCons (tVar 0) tNil))) (gName 3)
  (tFor (iList K (tVar 3)) (gName 4)
  (tAsg (tOp rDivI (tVar 1) (tVar 4)) (gName 1))))
  (tRet (tVar 1)))))
def R_fillings (C : Ec) (ds : List PyData) (o : Except Addr PyData) : Prop := ∃ r : List Int, ds = [dR r] ∧ Row r ∧ r.sum ≤ 60 ∧ o = .ok (.int (fillM r))
theorem len_fillings {C : Ec} (ds : List PyData) (o : Except Addr PyData) : R_fillings C ds o → ds.length = ["row"].length := by
  rintro ⟨_, rfl, _⟩; rfl
theorem fct_succ (i : Nat) : fct i * ((i : Int) + 1) = fct (i + 1) := Int.mul_comm _ _
theorem fold_take {l : List Int} {i : Nat} {x : Int} (h : l[i]? = some x) (f : Int → Int → Int) (a : Int) : (l.take (i + 1)).foldl f a = f ((l.take i).foldl f a) x := by
  rw [take_succ_some h, List.foldl_append]
  rfl
theorem does_fillings {K : Frg} {C : Ec} {W : WX} {ds : List PyData} {o : Except Addr PyData} : R_fillings C ds o → FnDoes K W (rd_fillings K C W) (entry N_fillings ds) o := by
  rintro ⟨r, rfl, hr, hs, rfl⟩
  refine .inl ?_
  show Does K W (rd_fillings K C W) [.fr (dR r), .no, .no, .no, .no] (.rt (.int (fillM r)))
  have hz := hr.sum_len
  have hh := hooks_pos hr
  have hg0 : gi r 0 ≤ 60 ∧ r.length ≤ 60 := by
    refine ⟨?_, by omega⟩
    by_cases c : 0 < r.length
    · have := (gi_le hr (k := 0) c).2.1
      have e : gi r ((0 : Nat) : Int) = gi r 0 := rfl
      omega
    · rw [gi_out (by omega)]; decide
  refine does_seq (does_asgi ev_int) ?_
  refine does_seq (does_forR (n := r.sum) (eva_cons (ev_sum (ev_var rfl)) eva_nil) (by omega) (by omega) (fun i => [.fr (dR r), .fr (.int (fct i)), .no, .no, .no]) rfl fun i hi => ⟨[.fr (dR r), .fr (.int (fct (i + 1))), .fr (.int i), .no, .no], ?_, rfl⟩) ?_
  · exact does_asgi (Evr.cast (ev_mul (ev_var rfl) (ev_add (ev_var rfl) ev_int) (mul_r (by omega))) (by rw [fct_succ]))
  rw [← fill_fold hr]
  generalize fct r.sum.toNat = F
  let S : Nat → Int := fun i => (((hooksM r).take i).flatten).foldl (fun a h => a / h) F
  refine does_seq (does_forf (cd := dR) (xs := hooksM r) (evf_call (eva_cons (ev_var rfl) eva_nil) ⟨r, rfl, hr, by omega, rfl⟩) (fun i => [.fr (dR r), .fr (.int (S i)), .no, .no, .no]) rfl fun i x hx => ⟨[.fr (dR r), .fr (.int (S (i + 1))), .no, .fr (dR x), .no], ?_, rfl⟩) ?_
  · have eS : S (i + 1) = x.foldl (fun a h => a / h) (S i) := by
      show List.foldl _ _ _ = List.foldl _ (List.foldl _ _ _) _
      rw [take_succ_some hx, List.flatten_append, List.foldl_append, List.flatten_singleton]
    have hxm := List.mem_of_getElem? hx
    generalize S i = A at *
    let T : Nat → Int := fun j => (x.take j).foldl (fun a h => a / h) A
    have eT : T x.length = S (i + 1) := by
      rw [eS]
      show (x.take x.length).foldl _ _ = _
      rw [List.take_length]
    rw [← eT]
    refine does_forv (k := 3) (cd := PyData.int) (xs := x) rfl (fun j => [.fr (dR r), .fr (.int (T j)), .no, .fr (dR x), .no]) rfl fun j y hy => ⟨[.fr (dR r), .fr (.int (T (j + 1))), .no, .fr (dR x), .fr (.int y)], ?_, rfl⟩
    have hyb := hh y (List.mem_flatten.mpr ⟨x, hxm, List.mem_of_getElem? hy⟩)
    exact does_asgi (Evr.cast (ev_div (ev_var rfl) (ev_var rfl) (by omega)) (by
      show PyData.int (T j / y) = .int (T (j + 1))
      congr 1
      exact (fold_take hy _ _).symm))
  · have eS : S (hooksM r).length = (hooksM r).flatten.foldl (fun a h => a / h) F := by
      show (List.flatten (List.take _ _)).foldl _ _ = _
      rw [List.take_length]
    rw [eS]
    exact does_reti (ev_var rfl)
/-! ## the table of fillings -/
theorem odd_part : ∀ {a b m n : Nat}, 2 ^ a * (2 * m + 1) = 2 ^ b * (2 * n + 1) → a = b ∧ m = n
  | 0, 0, m, n, h => by
    rw [Nat.pow_zero, Nat.one_mul, Nat.one_mul] at h
    omega
  | 0, b + 1, m, n, h => by
    rw [Nat.pow_zero, Nat.one_mul, Nat.pow_succ, Nat.mul_right_comm] at h
    omega
  | a + 1, 0, m, n, h => by
    rw [Nat.pow_zero, Nat.one_mul, Nat.pow_succ, Nat.mul_right_comm] at h
    omega
  | a + 1, b + 1, m, n, h => by
    rw [Nat.pow_succ, Nat.pow_succ, Nat.mul_right_comm, Nat.mul_right_comm (2 ^ b)] at h
    obtain ⟨e1, e2⟩ := odd_part (Nat.eq_of_mul_eq_mul_right (by decide) h)
    omega
def codeN : List Int → Nat
  | [] => 0
  | x :: r => 2 ^ (x.toNat - 1) * (2 * codeN r + 1)
theorem code_inj : ∀ {r s : List Int}, (∀ x ∈ r, 1 ≤ x) → (∀ x ∈ s, 1 ≤ x) → codeN r = codeN s → r = s
  | [], [], _, _, _ => rfl
  | [], y :: s, _, _, h => by
    have h' : 0 = 2 ^ (y.toNat - 1) * (2 * codeN s + 1) := h
    have := Nat.mul_pos (Nat.two_pow_pos (y.toNat - 1)) (show 0 < 2 * codeN s + 1 by omega)
    omega
  | x :: r, [], _, _, h => by
    have h' : 2 ^ (x.toNat - 1) * (2 * codeN r + 1) = 0 := h
    have := Nat.mul_pos (Nat.two_pow_pos (x.toNat - 1)) (show 0 < 2 * codeN r + 1 by omega)
    omega
  | x :: r, y :: s, hx, hy, h => by
    obtain ⟨e1, e2⟩ := odd_part h
    have x1 := hx x List.mem_cons_self
    have y1 := hy y List.mem_cons_self
    rw [code_inj (fun z m => hx z (List.mem_cons_of_mem _ m)) (fun z m => hy z (List.mem_cons_of_mem _ m)) e2]
    congr 1
    omega
theorem code_lt : ∀ {r : List Int}, (∀ x ∈ r, 1 ≤ x) → codeN r < 2 ^ r.sum.toNat
  | [], _ => by decide
  | x :: r, h => by
    have ih := code_lt fun z m => h z (List.mem_cons_of_mem _ m)
    have x1 := h x List.mem_cons_self
    have hs : 0 ≤ r.sum := sum_nonneg fun z m => by have := h z (List.mem_cons_of_mem _ m); omega
    rw [List.sum_cons, show (x + r.sum).toNat = (x.toNat - 1) + (1 + r.sum.toNat) by omega, Nat.pow_add]
    refine Nat.mul_lt_mul_of_pos_left ?_ (Nat.two_pow_pos _)
    rw [Nat.pow_add, Nat.pow_one]
    omega
theorem nodup_le {l : List Nat} {n : Nat} (h : l.Nodup) (hl : ∀ x ∈ l, x < n) : l.length ≤ n := by
  have p : l.Perm ((List.range n).filter fun x => decide (x ∈ l)) := (List.perm_ext_iff_of_nodup h (List.nodup_range.filter _)).mpr fun x => by
    rw [List.mem_filter, List.mem_range]
    exact ⟨fun m => ⟨hl x m, decide_eq_true m⟩, fun m => of_decide_eq_true m.2⟩
  rw [p.length_eq]
  refine Nat.le_trans (List.length_filter_le _ _) ?_
  rw [List.length_range]
  exact Nat.le_refl _
structure GoodT (kvs : List (List Key × V)) : Prop where
  nd : (kvs.map Prod.fst).Nodup
  all : ∀ p ∈ kvs, ∃ r : List Int, Row r ∧ r.sum ≤ 16 ∧ p = (keyR r, V.int (fillM r))
  nil : (valV kvs (keyR [])).isSome = true
theorem Row.ge1 {r : List Int} (h : Row r) : ∀ x ∈ r, 1 ≤ x := fun x m => h.pos x m
theorem GoodT.size {kvs : List (List Key × V)} (h : GoodT kvs) : kvs.length < sizeLine := by
  have e : ∀ (l : List (List Key × V)), (l.map Prod.fst).Nodup → (∀ p ∈ l, ∃ r : List Int, Row r ∧ r.sum ≤ 16 ∧ p = (keyR r, V.int (fillM r))) → ∃ cs : List Nat, cs.length = l.length ∧ cs.Nodup ∧ (∀ c ∈ cs, c < 65536) ∧ ∀ c ∈ cs, ∃ r : List Int, Row r ∧ codeN r = c ∧ keyR r ∈ l.map Prod.fst := by
    intro l
    induction l with
    | nil => exact fun _ _ => ⟨[], rfl, List.nodup_nil, (fun _ m => nomatch m), (fun _ m => nomatch m)⟩
    | cons p l ih =>
      intro hn ha
      rw [List.map_cons] at hn
      obtain ⟨n1, n2⟩ := List.nodup_cons.mp hn
      obtain ⟨cs, c1, c2, c3, c4⟩ := ih n2 fun q m => ha q (List.mem_cons_of_mem _ m)
      obtain ⟨r, hr, hs, rfl⟩ := ha p List.mem_cons_self
      refine ⟨codeN r :: cs, by rw [List.length_cons, List.length_cons, c1], List.nodup_cons.mpr ⟨fun m => ?_, c2⟩, fun c m => ?_, fun c m => ?_⟩
      · obtain ⟨s, s1, s2, s3⟩ := c4 _ m
        rw [code_inj s1.ge1 hr.ge1 s2] at s3
        exact n1 s3
      · rcases List.mem_cons.mp m with rfl | m
        · have h1 := code_lt hr.ge1
          have h2 : 2 ^ r.sum.toNat ≤ 2 ^ 16 := Nat.pow_le_pow_right (by decide) (by omega)
          omega
        · exact c3 c m
      · rcases List.mem_cons.mp m with rfl | m
        · exact ⟨r, hr, rfl, List.mem_cons_self⟩
        · obtain ⟨s, s1, s2, s3⟩ := c4 c m
          exact ⟨s, s1, s2, List.mem_cons_of_mem _ s3⟩
  obtain ⟨cs, c1, c2, c3, _⟩ := e kvs h.nd h.all
  have := nodup_le c2 c3
  rw [sizeLine_eq]
  omega
theorem GoodT.get {kvs : List (List Key × V)} (h : GoodT kvs) {r : List Int} {v : V} (e : valV kvs (keyR r) = some v) : v = .int (fillM r) := by
  unfold valV at e
  obtain ⟨p, hp, rfl⟩ := Option.map_eq_some_iff.mp e
  have h1 := List.find?_some hp
  have h2 : p.1 = keyR r := of_decide_eq_true h1
  obtain ⟨s, _, _, rfl⟩ := h.all p (List.mem_of_find?_eq_some hp)
  rw [keyR_inj h2]
theorem GoodT.put {kvs : List (List Key × V)} (h : GoodT kvs) {r : List Int} (hr : Row r) (hs : r.sum ≤ 16) : GoodT (putK kvs (keyR r) (V.int (fillM r))) ∧ (valV (putK kvs (keyR r) (V.int (fillM r))) (keyR r)).isSome = true := by
  refine ⟨⟨?_, fun p m => ?_, ?_⟩, by rw [valV_put, if_pos rfl]; rfl⟩
  · unfold putK
    by_cases c : (kvs.any fun kv => decide (kv.1 = keyR r)) = true
    · rw [if_pos c, List.map_map]
      have e : kvs.map (Prod.fst ∘ fun kv => if kv.1 = keyR r then (kv.1, V.int (fillM r)) else kv) = kvs.map Prod.fst := List.map_congr_left fun p _ => by
        show (if p.1 = keyR r then (p.1, V.int (fillM r)) else p).1 = p.1
        split <;> rfl
      rw [e]
      exact h.nd
    · rw [if_neg c, List.map_append]
      refine List.nodup_append.mpr ⟨h.nd, List.nodup_cons.mpr ⟨fun m => (nomatch m), List.nodup_nil⟩, fun x hx y hy e => c ?_⟩
      have hy' : y = keyR r := List.mem_singleton.mp hy
      obtain ⟨p, hp, rfl⟩ := List.mem_map.mp hx
      exact List.any_eq_true.mpr ⟨p, hp, decide_eq_true (e.trans hy')⟩
  · unfold putK at m
    split at m
    · obtain ⟨q, hq, rfl⟩ := List.mem_map.mp m
      split
      · rename_i e
        exact ⟨r, hr, hs, by rw [e]⟩
      · exact h.all q hq
    · rcases List.mem_append.mp m with m | m
      · exact h.all p m
      · exact ⟨r, hr, hs, List.mem_singleton.mp m⟩
  · rw [valV_put]
    split
    · rfl
    · exact h.nil
theorem good_first : GoodT [(keyR [], V.int 1)] := ⟨List.nodup_cons.mpr ⟨fun m => (nomatch m), List.nodup_nil⟩, fun p m => ⟨[], ⟨(fun _ m => nomatch m), List.Pairwise.nil⟩, by decide, by rw [List.mem_singleton.mp m]; rfl⟩, rfl⟩
/-! ## a cell less -/
def cornB (r : List Int) (k : Nat) : Bool := decide ((k : Int) + 1 = r.length) || decide (gi r ((k : Int) + 1) < gi r k)
def lessL (r : List Int) (k : Nat) : List Int := r.take k ++ [gi r k - 1] ++ r.drop (k + 1)
def lessR (r : List Int) (k : Nat) : List Int := (lessL r k).filter fun x => decide (0 < x)
theorem corn_line {r : List Int} (h : Row r) {k : Nat} (hk : k < r.length) : decide (((1 : Nat) : Int) ∈ lineM r k) = cornB r k := by
  have hg := h.pos _ (gi_mem hk)
  have e1 : ((k : Int) + 1) = ((k + 1 : Nat) : Int) := by omega
  by_cases c : cornB r k = true
  · rw [c]
    refine decide_eq_true (mem_line.mpr ⟨(gi r k - 1).toNat, by omega, ?_⟩)
    have c1 := (cnt_gi h (t := k) (j := (gi r k - 1).toNat)).mp (by omega)
    have c2 : ¬ k + 1 < cnt r (((gi r k - 1).toNat : Nat) : Int) := fun z => by
      have z2 := (cnt_gi h (t := k + 1) (j := (gi r k - 1).toNat)).mpr z
      unfold cornB at c
      rw [Bool.or_eq_true] at c
      rcases c with c | c
      · have c := of_decide_eq_true c
        rw [gi_out (r := r) (i := ((k + 1 : Nat) : Int)) (by rw [Int.toNat_natCast]; omega)] at z2
        omega
      · have c := of_decide_eq_true c
        rw [e1] at c
        omega
    unfold hookAt
    omega
  · rw [Bool.not_eq_true] at c
    rw [c]
    refine decide_eq_false fun m => ?_
    obtain ⟨j, hj, hh⟩ := mem_line.mp m
    have c1 := (cnt_gi h (t := k) (j := j)).mp hj
    unfold hookAt at hh
    have c2 : ¬ k + 1 < cnt r (j : Int) := by omega
    have c3 : ¬ (j : Int) < gi r ((k + 1 : Nat) : Int) := fun z => c2 ((cnt_gi h).mp z)
    unfold cornB at c
    rw [Bool.or_eq_false_iff] at c
    have d1 := of_decide_eq_false c.1
    have d2 := of_decide_eq_false c.2
    rw [e1] at d2
    omega
theorem less_eq {r : List Int} (h : Row r) {k : Nat} (hk : k < r.length) (hc : cornB r k = true) : (lwOne r ((1 : Nat) : Int) k).1 = lessR r k := by
  have hm : ((1 : Nat) : Int) ∈ lineM r k := of_decide_eq_true ((corn_line h hk).trans hc)
  obtain ⟨i1, i2⟩ := idx_hook hm
  have c1 := (cnt_gi h (t := k) (j := (lineM r k).idxOf ((1 : Nat) : Int))).mp i1
  show (madM r k ((lineM r k).idxOf ((1 : Nat) : Int))).filter _ = (lessL r k).filter _
  congr 1
  generalize (lineM r k).idxOf ((1 : Nat) : Int) = j at *
  unfold hookAt at i2
  have e1 : cnt r (j : Int) = k + 1 := by omega
  have e2 : (j : Int) = gi r k - 1 := by omega
  unfold madM lessL
  refine List.ext_getElem (by simp; omega) fun i h1 h2 => ?_
  have hi : i < r.length := by simpa using h1
  rw [List.getElem_map, List.getElem_range]
  unfold madF
  rw [e1]
  by_cases a : i < k
  · rw [if_pos a, List.getElem_append_left (by simp; omega), List.getElem_append_left (by simp; omega), List.getElem_take, gi_get hi]
  · rw [if_neg a, if_neg (by omega)]
    by_cases b : i = k
    · subst b
      rw [if_pos rfl, e2, List.getElem_append_left (by simp; omega), List.getElem_append_right (by simp; omega)]
      simp
    · rw [if_neg (by omega), List.getElem_append_right (by simp; omega), List.getElem_drop, gi_get hi]
      congr 1
      simp
      omega
def partF (r : List Int) (i : Nat) : Int := (((List.range i).filter (cornB r)).map fun k => fillM (lessR r k)).sum
theorem part_step (r : List Int) (i : Nat) : partF r (i + 1) = partF r i + if cornB r i = true then fillM (lessR r i) else 0 := by
  unfold partF
  rw [List.range_succ, List.filter_append, List.map_append, List.sum_append, List.filter_cons]
  split
  · rw [List.filter_nil, List.map_singleton, List.sum_cons, List.sum_nil]; omega
  · rw [List.filter_nil, List.map_nil, List.sum_nil]
theorem part_all {r : List Int} (h : Row r) (h0 : r ≠ []) : partF r r.length = fillM r := by
  rw [fill_rec h h0]
  unfold lwLesserM partF
  rw [List.filter_reverse, List.map_reverse, List.map_reverse, sum_rev, List.map_map]
  have e1 : (List.range r.length).filter (fun k => decide (((1 : Nat) : Int) ∈ lineM r k)) = (List.range r.length).filter (cornB r) := List.filter_congr fun k m => corn_line h (List.mem_range.mp m)
  rw [e1]
  congr 1
  refine List.map_congr_left fun k m => ?_
  obtain ⟨m1, m2⟩ := List.mem_filter.mp m
  show fillM (lessR r k) = fillM (lwOne r ((1 : Nat) : Int) k).1
  rw [less_eq h (List.mem_range.mp m1) m2]
theorem less_row {r : List Int} (h : Row r) {k : Nat} (hk : k < r.length) (hc : cornB r k = true) : Row (lessR r k) ∧ (lessR r k).sum = r.sum - 1 := by
  have hm : ((1 : Nat) : Int) ∈ lineM r k := of_decide_eq_true ((corn_line h hk).trans hc)
  have hx : lwOne r ((1 : Nat) : Int) k ∈ lwLesserM r 1 := List.mem_map.mpr ⟨k, List.mem_filter.mpr ⟨List.mem_reverse.mpr (List.mem_range.mpr hk), decide_eq_true hm⟩, rfl⟩
  obtain ⟨a, _, c, _⟩ := qsum_step h (by decide) hx
  rw [less_eq h hk hc] at a c
  exact ⟨a, c⟩
/-! ## the known numbers -/
def choM (many : Int) (some : Nat) : Int := (List.range some).foldl (fun (f : Int) (k : Nat) => f * (many - (k : Int)) / ((k : Int) + 1)) 1
def hookRow (one : Int) (other : Nat) : List Int := one :: List.replicate other 1
def twoRow (one other : Int) : List Int := if other = 0 then [one] else [one, other]
def twoDue (one other : Int) : Int := choM (one + other) other.toNat - if 0 < other then choM (one + other) (other - 1).toNat else 0
theorem known_hooks : ((List.range 30).all fun i => (List.range (i + 2)).all fun o => decide (fillM (hookRow ((i : Int) + 1) o) = choM ((i : Int) + 1 + o - 1) o)) = true := by decide +kernel
theorem known_twos : ((List.range 30).all fun i => (List.range (i + 2)).all fun o => decide (fillM (twoRow ((i : Int) + 1) o) = twoDue ((i : Int) + 1) o)) = true := by decide +kernel
end Pur

set_option Elab.async false
set_option linter.all false
set_option maxRecDepth 100000
set_option maxHeartbeats 4000000
namespace Pur
open PySem PySem.Spec PyProof.Rows L2
namespace Lw
abbrev N_law_counted : List Str := ["row", "table", "key", "many", "k", "less", "number"]
def rd_law_counted (sp : Sp) (K : Frg) (C : Ec) (W : WX) : TS := (tSeq (tAsg (tCB (rTupA K) (tCons (tVar 0) tNil)) (gName 2))
  (tSeq (tIfS (tB (tDNotIn (tVar 2) (tVar 1)))
  (tSeq (tAsg (tC (.int 0)) (gName 3))
  (tSeq (tFor (iRng1 (tCons (tCB (rLenA K) (tCons (tVar 0) tNil)) tNil)) (gName 4)
  (tIfS (tOr (tTest (tOp (rEqA K) (tOp rAddA (tVar 4) (tC (.int 1))) (tCB (rLenA K) (tCons (tVar 0) tNil)))) (tTest (tOp rLtI (tOp (rIx K) (tVar 0) (tOp rAddA (tVar 4) (tC (.int 1)))) (tOp (rIx K) (tVar 0) (tVar 4)))))
  (tSeq (tAsg (tOp rAddA (tOp rAddA (tSl (rSlA K) (tVar 0) tNoPart (tPart (tVar 4))) (tLst (tCons (tOp rSubI (tOp (rIx K) (tVar 0) (tVar 4)) (tC (.int 1))) tNil))) (tSl (rSlA K) (tVar 0) (tPart (tOp rAddA (tVar 4) (tC (.int 1)))) tNoPart)) (gName 5))
  (tAsg (tOp rAddA (tVar 3) (tCall sp [] E0 (tCons (tLc (iList K (tVar 5)) (gName 6) (tTest (tOp rGtI (tVar 6) (tC (.int 0)))) (tVar 6) [6]) (tCons (tVar 1) tNil)))) (gName 3))) tNext))
  (sDPut (tVar 1) (tVar 2) (tVar 3)))) tNext)
  (tRet (tDGet (tVar 1) (tVar 2)))))
def sp_law_counted_at (d : Nat) (K : Frg) (C : Ec) : Sp := fun vs H Q E => ∃ (r : List Int) (v : V) (t : Addr) (kvs : List (List Key × V)), vs = [v, .ref t] ∧ Row r ∧ r.sum ≤ 16 ∧ r.sum < d ∧ H t = some (.dT kvs) ∧ GoodT kvs ∧ Rp K (butT H t) v (dR r) ∧ ∀ H' kvs', Same (butT H t) H' → H' t = some (.dT kvs') → GoodT kvs' → Q (.int (fillM r)) H'
abbrev sp_law_counted (K : Frg) (C : Ec) : Sp := sp_law_counted_at 17 K C
section
variable {K : Frg} {C : Ec} {W : WX} {t : Addr} {d : Nat}
/-- n = n + counted(a new row, table) -/
theorem doesT_rec {ρ : List Sl} {m : Int} {r : List Int} {i : Nat} {tl : TE} (h1 : ρ[1]? = some (.fr (dAdr t))) (hm : ρ[i]? = some (.fr (.int m))) (hl : Evf K tl (er ρ) (dR r)) (hr : Row r) (hs : r.sum ≤ 16) (hd : r.sum < d) :
    DoesT K t GoodT (tAsg (tOp rAddA (tVar i) (tCall (sp_law_counted_at d K C) [] E0 (tCons tl (tCons (tVar 1) tNil)))) (gName i)) ρ GoodT ((kill ρ).set i (.fr (.int (m + fillM r)))) := fun Z σ H D R q => by
  obtain ⟨R0, hz, kvs, ht, g⟩ := R
  refine ⟨.int m, R0.intv hm, ?_⟩
  refine hl σ H _ R0.relE fun v H1 F e1 o1 f1 => ?_
  have ht1 := e1 _ _ ht
  refine ⟨.ref t, R0.adr h1, ?_⟩
  refine ⟨r, v, t, kvs, rfl, hr, hs, hd, ht1, g, o1.rp.butT ht1, fun H' kvs' e' t' g' => ?_⟩
  refine .inl ⟨m, fillM r, rfl, rfl, ?_⟩
  have R1 : RelS K Z (kill ρ) σ H' := R0.tab hz ht fun b hb o ho => e' b o ((butT_ne hb).trans (e1 b o ho))
  exact q Z _ H' (Same.refl Z) ⟨R1.put (Same.refl H') (s' := .fr (.int (m + fillM r))) (F := []) ⟨rfl, _, rfl, .int _⟩ (fun _ m => nomatch m), hz, kvs', t', g'⟩
theorem counted_body {r : List Int} (hr : Row r) (hs : r.sum ≤ 16) (hd : r.sum < d + 1) {Z : Hp} {σ : L2.St} {H : Hp} {D : Ends} (R : RelT K t GoodT Z [.fr (dR r), .fr (dAdr t), .no, .no, .no, .no, .no] σ H)
    (q : ∀ H' kvs, Same Z H' → H' t = some (.dT kvs) → GoodT kvs → D.rt (.int (fillM r)) H') : rd_law_counted (sp_law_counted_at d K C) K C W D σ H := by
  have hz := hr.sum_len
  have s1 : DoesT K t GoodT (tAsg (tCB (rTupA K) (tCons (tVar 0) tNil)) (gName 2)) [.fr (dR r), .fr (dAdr t), .no, .no, .no, .no, .no] GoodT [.fr (dR r), .fr (dAdr t), .fr (.tuple (r.map .int)), .no, .no, .no, .no] :=
    doesT_of (W := W) (does_asgfr (evf_tuple (ev_var rfl)) (by show 2 < 7; decide))
  have s2 : DoesT K t GoodT (tIfS (tB (tDNotIn (tVar 2) (tVar 1)))
      (tSeq (tAsg (tC (.int 0)) (gName 3))
      (tSeq (tFor (iRng1 (tCons (tCB (rLenA K) (tCons (tVar 0) tNil)) tNil)) (gName 4)
      (tIfS (tOr (tTest (tOp (rEqA K) (tOp rAddA (tVar 4) (tC (.int 1))) (tCB (rLenA K) (tCons (tVar 0) tNil)))) (tTest (tOp rLtI (tOp (rIx K) (tVar 0) (tOp rAddA (tVar 4) (tC (.int 1)))) (tOp (rIx K) (tVar 0) (tVar 4)))))
      (tSeq (tAsg (tOp rAddA (tOp rAddA (tSl (rSlA K) (tVar 0) tNoPart (tPart (tVar 4))) (tLst (tCons (tOp rSubI (tOp (rIx K) (tVar 0) (tVar 4)) (tC (.int 1))) tNil))) (tSl (rSlA K) (tVar 0) (tPart (tOp rAddA (tVar 4) (tC (.int 1)))) tNoPart)) (gName 5))
      (tAsg (tOp rAddA (tVar 3) (tCall (sp_law_counted_at d K C) [] E0 (tCons (tLc (iList K (tVar 5)) (gName 6) (tTest (tOp rGtI (tVar 6) (tC (.int 0)))) (tVar 6) [6]) (tCons (tVar 1) tNil)))) (gName 3))) tNext))
      (sDPut (tVar 1) (tVar 2) (tVar 3)))) tNext) [.fr (dR r), .fr (dAdr t), .fr (.tuple (r.map .int)), .no, .no, .no, .no] (fun kvs => GoodT kvs ∧ (valV kvs (keyR r)).isSome = true) [.fr (dR r), .fr (dAdr t), .fr (.tuple (r.map .int)), .no, .no, .no, .no] := by
    refine doesT_ifni (r := r) rfl rfl (fun ⟨kvs, g, hn⟩ => ?_) doesT_next
    have h0 : r ≠ [] := fun z => by
      rw [z, g.nil] at hn
      cases hn
    refine doesT_no 3 (ρ1 := [.fr (dR r), .fr (dAdr t), .fr (.tuple (r.map .int)), .fr (.int (fillM r)), .no, .no, .no]) ?_
    refine doesT_seq (doesT_of (W := W) (does_asgi ev_int)) ?_
    refine doesT_seq (doesT_forR (n := (r.length : Int)) (eva_cons (ev_len (ev_var rfl)) eva_nil) (by omega) (by omega) (fun i => [.fr (dR r), .fr (dAdr t), .fr (.tuple (r.map .int)), .fr (.int (partF r i)), .no, .no, .no]) rfl fun i hi => ⟨[.fr (dR r), .fr (dAdr t), .fr (.tuple (r.map .int)), .fr (.int (partF r (i + 1))), .fr (.int i), .no, .no], ?_, rfl⟩) ?_
    · have hil : i < r.length := by omega
      have hc : Evt K (tOr (tTest (tOp (rEqA K) (tOp rAddA (tVar 4) (tC (.int 1))) (tCB (rLenA K) (tCons (tVar 0) tNil)))) (tTest (tOp rLtI (tOp (rIx K) (tVar 0) (tOp rAddA (tVar 4) (tC (.int 1)))) (tOp (rIx K) (tVar 0) (tVar 4))))) (er [.fr (dR r), .fr (dAdr t), .fr (.tuple (r.map .int)), .fr (.int (partF r i)), .fr (.int i), .no, .no]) (cornB r i) :=
        et_or (et_test (ev_eqi (ev_add (ev_var rfl) ev_int) (ev_len (ev_var rfl)))) fun h => by
          have h := of_decide_eq_false h
          exact et_test (ev_lt (ev_ix (ev_var rfl) (ev_add (ev_var rfl) ev_int) (by omega) (by omega)) (ev_ix (ev_var rfl) (ev_var rfl) (by omega) (by omega)))
      refine doesT_if hc (fun h => ?_) fun h => ?_
      · obtain ⟨l1, l2⟩ := less_row hr hil h
        have e : partF r (i + 1) = partF r i + fillM (lessR r i) := by rw [part_step, if_pos h]
        rw [e]
        have hll : (lessL r i).length = r.length := by
          unfold lessL
          simp
          omega
        refine doesT_no 5 (ρ1 := [.fr (dR r), .fr (dAdr t), .fr (.tuple (r.map .int)), .fr (.int (partF r i + fillM (lessR r i))), .fr (.int i), .ow (dR (lessL r i)), .no]) ?_
        refine doesT_seq (doesT_of (W := W) (does_asg (d := dR (lessL r i)) (Evf.cast (evf_cat (r := r.take (i : Int).toNat ++ [gi r i - 1]) (s := r.drop ((i : Int) + 1).toNat) (Evf.r (evf_cat (s := [gi r i - 1]) (Evf.r (evf_to (ev_var rfl) (ev_var rfl) (by omega))) (Evf.r (Evf.cast (evf_lst (evaf_cons (Evr.f (ev_sub (ev_ix (ev_var rfl) (ev_var rfl) (by omega) (by omega)) ev_int) True.intro) evaf_nil)) rfl)) (by simp; omega))) (Evf.r (evf_from (ev_var rfl) (ev_add (ev_var rfl) ev_int) (by omega))) (by simp; omega)) (by unfold lessL; rw [show ((i : Int) + 1).toNat = i + 1 by omega, Int.toNat_natCast])))) ?_
        exact doesT_rec (r := lessR r i) rfl rfl (evf_fil (fun x => decide (0 < x)) (ev_var rfl) (by omega) (fun x _ => et_test (ev_gt (ev_var rfl) ev_int)) (by show 6 < 7; decide)) l1 (by omega) (by omega)
      · have e : partF r (i + 1) = partF r i := by rw [part_step, if_neg (by rw [h]; decide), Int.add_zero]
        rw [e]
        exact doesT_next
    · rw [Int.toNat_natCast, part_all hr h0]
      exact doesT_put (r := r) (n := fillM r) rfl rfl rfl fun kvs g => ⟨g.size, g.put hr hs⟩
  refine s1 Z σ H _ R fun Z1 σ1 H1 e1 R1 => ?_
  refine s2 Z1 σ1 H1 _ R1 fun Z2 σ2 H2 e2 R2 => ?_
  refine ret_get (r := r) rfl rfl R2 fun v kvs ht g hv => ?_
  rw [g.get hv]
  exact q H2 kvs ((e1.trans e2).trans R2.rel.ext) ht g
/-- counted(row, {(): 1}) -/
theorem ev_counted {ρ : DE} {te : TE} {r : List Int} (ha : Evr K te ρ (dR r)) (hr : Row r) (hs : r.sum ≤ 16) : Evr K (tCall (sp_law_counted K C) [] E0 (tCons te (tCons (tDispT (tTup tNil) (tC (.int 1))) tNil))) ρ (.int (fillM r)) := fun σ H Q R q => by
  refine ha σ H _ R fun v H1 e1 r1 => ?_
  intro p hp
  refine ⟨Nat.zero_le _, fun l hl => ?_⟩
  have hlp : l ≠ p := fun z => by
    rw [z, upd_same] at hl
    cases hl
  have hl1 : H1 l = none := (upd_ne hlp).symm.trans hl
  refine ⟨(upd_ne hlp.symm).trans upd_same, l, [], rfl, upd_same, ?_⟩
  have e2 : Same H1 (butT (upd (upd (upd H1 p (.dT [])) l (.tup [])) p (.dT [([], .int 1)])) p) := fun a o ha => by
    have h1 : a ≠ p := fun z => by rw [z, hp] at ha; cases ha
    have h2 : a ≠ l := fun z => by rw [z, hl1] at ha; cases ha
    rw [butT_ne h1, upd_ne h1, upd_ne h2, upd_ne h1]
    exact ha
  refine ⟨r, v, p, [(keyR [], .int 1)], rfl, hr, hs, by omega, upd_same, good_first, r1.mono e2, fun H' kvs' e' t' g' => ?_⟩
  exact q _ H' (e1.trans (e2.trans e')) (.int _)
end
abbrev N_law_choices : List Str := ["many", "some", "found", "k"]
def rd_law_choices (K : Frg) (C : Ec) (W : WX) : TS := (tSeq (tAsg (tC (.int 1)) (gName 2))
  (tSeq (tFor (iRng1 (tCons (tVar 1) tNil)) (gName 3)
  (tAsg (tOp rDivI (tOp rMulA (tVar 2) (tOp rSubI (tVar 0) (tVar 3))) (tOp rAddA (tVar 3) (tC (.int 1)))) (gName 2)))
  (tRet (tVar 2))))
def R_law_choices (C : Ec) (ds : List PyData) (o : Except Addr PyData) : Prop := ∃ (m : Int) (s : Nat), ds = [.int m, .int s] ∧ -1000 ≤ m ∧ m ≤ 1000 ∧ s ≤ 1000 ∧ o = .ok (.int (choM m s))
theorem len_law_choices {C : Ec} (ds : List PyData) (o : Except Addr PyData) : R_law_choices C ds o → ds.length = ["many", "some"].length := by
  rintro ⟨_, _, rfl, _⟩; rfl
theorem does_law_choices {K : Frg} {C : Ec} {W : WX} {ds : List PyData} {o : Except Addr PyData} : R_law_choices C ds o → FnDoes K W (rd_law_choices K C W) (entry N_law_choices ds) o := by
  rintro ⟨m, s, rfl, h0, h1, hs, rfl⟩
  refine .inl ?_
  show Does K W (rd_law_choices K C W) [.fr (.int m), .fr (.int s), .no, .no] (.rt (.int (choM m s)))
  refine does_seq (does_asgi ev_int) ?_
  refine does_seq (does_forR (n := (s : Int)) (eva_cons (ev_var rfl) eva_nil) (by omega) (by omega) (fun i => [.fr (.int m), .fr (.int s), .fr (.int (choM m i)), .no]) rfl fun i hi => ⟨[.fr (.int m), .fr (.int s), .fr (.int (choM m (i + 1))), .fr (.int i)], ?_, rfl⟩) ?_
  · exact does_asgi (Evr.cast (ev_div (ev_mul (ev_var rfl) (ev_sub (ev_var rfl) (ev_var rfl)) (mul_r (by omega))) (ev_add (ev_var rfl) ev_int) (by omega)) (by
      unfold choM
      rw [List.range_succ, List.foldl_append]
      rfl))
  · rw [Int.toNat_natCast]
    exact does_reti (ev_var rfl)
def R_law0 (ds : List PyData) (o : Except Addr PyData) : Prop := ∃ ns : List Int, ds = [dScr ns] ∧ ns.length ≤ 63 ∧ o = .ok (.bool true)
abbrev R_law (C : Ec) := R_law0
theorem len_law {C : Ec} (ds : List PyData) (o : Except Addr PyData) : R_law C ds o → ds.length = ["script"].length := by
  rintro ⟨_, rfl, _⟩; rfl
theorem hook_known {i o : Nat} (hi : i < 30) (ho : o ≤ i + 1) : fillM (hookRow ((i : Int) + 1) o) = choM ((i : Int) + 1 + o - 1) o :=
  of_decide_eq_true (List.all_eq_true.mp (List.all_eq_true.mp known_hooks i (List.mem_range.mpr hi)) o (List.mem_range.mpr (by omega)))
theorem two_known {i o : Nat} (hi : i < 30) (ho : o ≤ i + 1) : fillM (twoRow ((i : Int) + 1) o) = twoDue ((i : Int) + 1) o :=
  of_decide_eq_true (List.all_eq_true.mp (List.all_eq_true.mp known_twos i (List.mem_range.mpr hi)) o (List.mem_range.mpr (by omega)))
theorem rep_sum1 (o : Nat) : (List.replicate o (1 : Int)).sum = o := by
  induction o with
  | zero => rfl
  | succ o ih => rw [List.replicate_succ, List.sum_cons, ih]; omega
theorem hook_row {one : Int} (h : 1 ≤ one) (o : Nat) : Row (hookRow one o) ∧ (hookRow one o).sum = one + o := by
  refine ⟨⟨fun x m => ?_, List.pairwise_cons.mpr ⟨fun x m => ?_, ?_⟩⟩, by unfold hookRow; rw [List.sum_cons, rep_sum1]⟩
  · rcases List.mem_cons.mp m with rfl | m
    · omega
    · rw [List.eq_of_mem_replicate m]; decide
  · rw [List.eq_of_mem_replicate m]; exact h
  · exact List.pairwise_replicate.mpr (.inr (Int.le_refl _))
theorem two_row {one other : Int} (h : 1 ≤ one) (h0 : 0 ≤ other) (h1 : other ≤ one) : Row (twoRow one other) ∧ (twoRow one other).sum = one + other := by
  unfold twoRow
  split
  · rename_i e
    subst e
    exact ⟨⟨fun x m => by rw [List.mem_singleton.mp m]; omega, List.pairwise_singleton _ _⟩, by rw [List.sum_cons, List.sum_nil]⟩
  · refine ⟨⟨fun x m => ?_, List.pairwise_cons.mpr ⟨fun x m => by rw [List.mem_singleton.mp m]; exact h1, List.pairwise_singleton _ _⟩⟩, by rw [List.sum_cons, List.sum_cons, List.sum_nil]; omega⟩
    rcases List.mem_cons.mp m with rfl | m
    · omega
    · rw [List.mem_singleton.mp m]; omega
abbrev N_law : List Str := ["script", "row", "way", "one", "other", "due", "handed", "found", "k"]
def rd_law (K : Frg) (C : Ec) (W : WX) : TS := (tSeq (tAsg (tCall (spOf K (R_law_row_by C)) [] E0 (tCons (tVar 0) (tCons (tC (.int 10)) (tCons (tC (.int 16)) tNil)))) (gName 1))
  (tSeq (tAsg (tCall (spOf K (R_law_drawn C)) [] E0 (tCons (tVar 0) (tCons (tC (.int 100)) (tCons (tC (.int 6)) tNil)))) (gName 2))
  (tSeq (tAsg (tOp rAddA (tC (.int 1)) (tCall (spOf K (R_law_drawn C)) [] E0 (tCons (tVar 0) (tCons (tC (.int 101)) (tCons (tC (.int 30)) tNil))))) (gName 3))
  (tSeq (tAsg (tCall (spOf K (R_law_drawn C)) [] E0 (tCons (tVar 0) (tCons (tC (.int 102)) (tCons (tOp rAddA (tVar 3) (tC (.int 1))) tNil)))) (gName 4))
  (tSeq (tIfS (tTest (tOp (rEqA K) (tVar 2) (tC (.int 0))))
  (tSeq (tAsg (tOp rAddA (tLst (tCons (tVar 3) tNil)) (tLc (iRng1 (tCons (tVar 4) tNil)) (gName 8) tYes (tC (.int 1)) [8])) (gName 1))
  (tAsg (tCall (spOf K (R_law_choices C)) [] E0 (tCons (tOp rSubI (tOp rAddA (tVar 3) (tVar 4)) (tC (.int 1))) (tCons (tVar 4) tNil))) (gName 5))) (tIfS (tTest (tOp (rEqA K) (tVar 2) (tC (.int 1))))
  (tSeq (tAsg (tLst (tCons (tVar 3) (tCons (tVar 4) tNil))) (gName 1))
  (tSeq (tIfS (tTest (tOp (rEqA K) (tVar 4) (tC (.int 0))))
  (tAsg (tLst (tCons (tVar 3) tNil)) (gName 1)) tNext)
  (tSeq (tAsg (tCall (spOf K (R_law_choices C)) [] E0 (tCons (tOp rAddA (tVar 3) (tVar 4)) (tCons (tVar 4) tNil))) (gName 5))
  (tIfS (tTest (tOp rGtI (tVar 4) (tC (.int 0))))
  (tAsg (tOp rSubI (tVar 5) (tCall (spOf K (R_law_choices C)) [] E0 (tCons (tOp rAddA (tVar 3) (tVar 4)) (tCons (tOp rSubI (tVar 4) (tC (.int 1))) tNil)))) (gName 5)) tNext)))) (tAsg (tCall (sp_law_counted K C) [] E0 (tCons (tVar 1) (tCons (tDispT (tTup tNil) (tC (.int 1))) tNil))) (gName 5))))
  (tSeq (tAsg (tCB (rListA K) (tCons (tVar 1) tNil)) (gName 6))
  (tSeq (tAsg (tCall (spOf K (R_fillings C)) [] E0 (tCons (tVar 6) tNil)) (gName 7))
  (tRet (tAndV (tCall (spOf K (R_law_whole C)) [] E0 (tCons (tVar 7) tNil)) (tAndV (tOp (rEqA K) (tVar 7) (tVar 5)) (tOp (rEqA K) (tVar 6) (tVar 1))))))))))))
theorem does_law {K : Frg} {C : Ec} {W : WX} {ds : List PyData} {o : Except Addr PyData} : R_law C ds o → FnDoes K W (rd_law K C W) (entry N_law ds) o := by
  rintro ⟨ns, rfl, hl, rfl⟩
  refine .inl ?_
  show Does K W (rd_law K C W) [.fr (dScr ns), .no, .no, .no, .no, .no, .no, .no, .no] (.rt (.bool true))
  have hr := rowBy_row (ns := ns) (base := 10) (most := 16) (by decide)
  have hs := rowBy_sum (ns := ns) (base := 10) (most := 16) (by decide)
  refine does_seq (does_asg (evf_call (eva_cons (ev_var rfl) (eva_cons ev_int (eva_cons ev_int eva_nil))) ⟨ns, 10, 16, rfl, by decide, by decide, by decide, by decide, rfl⟩)) ?_
  show Does K W _ [.fr (dScr ns), .ow (dR (rowByM ns 10 16)), .no, .no, .no, .no, .no, .no, .no] _
  generalize rowByM ns 10 16 = r at hr hs
  have hz := hr.sum_len
  have drw : ∀ {ρ : DE} {k m : Int} {tm : TE}, ρ[0]? = some (some (dScr ns)) → Evr K tm ρ (.int m) → 0 ≤ k → k < 10000 → 0 < m → Evr K (tCall (spOf K (R_law_drawn C)) [] E0 (tCons (tVar 0) (tCons (tC (.int k)) (tCons tm tNil)))) ρ (.int (drawnM ns k m)) := fun {ρ k m tm} h hm a b c => ev_call (eva_cons (ev_var h) (eva_cons ev_int (eva_cons hm eva_nil))) ⟨ns, k, m, rfl, a, b, c, rfl⟩
  refine does_seq (does_asgi (drw rfl ev_int (by decide) (by decide) (by decide))) ?_
  have a1 := drawnM_lt (ns := ns) (k := 101) (show 0 < (30 : Int) by decide)
  have a2 := drawnM_ge (ns := ns) (k := 101) (show 0 < (30 : Int) by decide)
  obtain ⟨i, hi, hi30⟩ : ∃ i : Nat, drawnM ns 101 30 = i ∧ i < 30 := ⟨(drawnM ns 101 30).toNat, by omega, by omega⟩
  refine does_seq (does_asgi (n := (i : Int) + 1) (Evr.cast (ev_add ev_int (drw rfl ev_int (by decide) (by decide) (by decide))) (by rw [hi, Int.add_comm]))) ?_
  have b1 := drawnM_lt (ns := ns) (k := 102) (show 0 < (i : Int) + 1 + 1 by omega)
  have b2 := drawnM_ge (ns := ns) (k := 102) (show 0 < (i : Int) + 1 + 1 by omega)
  obtain ⟨o, ho, ho1⟩ : ∃ o : Nat, drawnM ns 102 ((i : Int) + 1 + 1) = o ∧ o ≤ i + 1 := ⟨(drawnM ns 102 ((i : Int) + 1 + 1)).toNat, by omega, by omega⟩
  refine does_seq (does_asgi (n := (o : Int)) (Evr.cast (drw rfl (ev_add (ev_var rfl) ev_int) (by decide) (by decide) (by omega)) (by rw [ho]))) ?_
  generalize drawnM ns 100 6 = way
  obtain ⟨x, hx, hxs, hdo⟩ : ∃ x : List Int, Row x ∧ x.sum ≤ 60 ∧ Does K W (tIfS (tTest (tOp (rEqA K) (tVar 2) (tC (.int 0))))
      (tSeq (tAsg (tOp rAddA (tLst (tCons (tVar 3) tNil)) (tLc (iRng1 (tCons (tVar 4) tNil)) (gName 8) tYes (tC (.int 1)) [8])) (gName 1))
      (tAsg (tCall (spOf K (R_law_choices C)) [] E0 (tCons (tOp rSubI (tOp rAddA (tVar 3) (tVar 4)) (tC (.int 1))) (tCons (tVar 4) tNil))) (gName 5))) (tIfS (tTest (tOp (rEqA K) (tVar 2) (tC (.int 1))))
      (tSeq (tAsg (tLst (tCons (tVar 3) (tCons (tVar 4) tNil))) (gName 1))
      (tSeq (tIfS (tTest (tOp (rEqA K) (tVar 4) (tC (.int 0))))
      (tAsg (tLst (tCons (tVar 3) tNil)) (gName 1)) tNext)
      (tSeq (tAsg (tCall (spOf K (R_law_choices C)) [] E0 (tCons (tOp rAddA (tVar 3) (tVar 4)) (tCons (tVar 4) tNil))) (gName 5))
      (tIfS (tTest (tOp rGtI (tVar 4) (tC (.int 0))))
      (tAsg (tOp rSubI (tVar 5) (tCall (spOf K (R_law_choices C)) [] E0 (tCons (tOp rAddA (tVar 3) (tVar 4)) (tCons (tOp rSubI (tVar 4) (tC (.int 1))) tNil)))) (gName 5)) tNext)))) (tAsg (tCall (sp_law_counted K C) [] E0 (tCons (tVar 1) (tCons (tDispT (tTup tNil) (tC (.int 1))) tNil))) (gName 5))))
      [.fr (dScr ns), .ow (dR r), .fr (.int way), .fr (.int ((i : Int) + 1)), .fr (.int o), .no, .no, .no, .no] (.nx [.fr (dScr ns), .ow (dR x), .fr (.int way), .fr (.int ((i : Int) + 1)), .fr (.int o), .fr (.int (fillM x)), .no, .no, .no]) := by
    by_cases w0 : way = 0
    · obtain ⟨x1, x2⟩ := hook_row (one := (i : Int) + 1) (by omega) o
      refine ⟨_, x1, by omega, ?_⟩
      refine does_if (b := true) ((et_test (ev_eqi (ev_var rfl) ev_int)).cast (decide_eq_true w0)) (fun _ => ?_) fun z => nomatch z
      refine does_seq (does_asg (d := dR (hookRow ((i : Int) + 1) o)) (Evf.cast (evf_cat (r := [(i : Int) + 1]) (s := List.replicate o 1) (Evf.r (Evf.cast (evf_lst (evaf_cons (Evr.f (ev_var rfl) True.intro) evaf_nil)) rfl)) (Evf.r (Evf.cast (evf_mapR (n := (o : Int)) (fun _ => 1) (eva_cons (ev_var rfl) eva_nil) (by omega) (by omega) fun _ _ => ev_int) (by
        rw [Int.toNat_natCast]
        congr 2
        refine List.ext_getElem (by simp) fun _ _ _ => ?_
        simp))) (by rw [List.length_replicate, List.length_singleton]; omega)) rfl)) ?_
      rw [hook_known hi30 ho1]
      exact does_asgi (ev_call (eva_cons (ev_sub (ev_add (ev_var rfl) (ev_var rfl)) ev_int) (eva_cons (ev_var rfl) eva_nil)) ⟨_, o, rfl, by omega, by omega, by omega, rfl⟩)
    · by_cases w1 : way = 1
      · obtain ⟨x1, x2⟩ := two_row (one := (i : Int) + 1) (other := (o : Int)) (by omega) (by omega) (by omega)
        refine ⟨_, x1, by omega, ?_⟩
        refine does_iff ((et_test (ev_eqi (ev_var rfl) ev_int)).cast (decide_eq_false w0)) ?_
        refine does_if (b := true) ((et_test (ev_eqi (ev_var rfl) ev_int)).cast (decide_eq_true w1)) (fun _ => ?_) fun z => nomatch z
        refine does_seq (does_asg (d := dR [(i : Int) + 1, (o : Int)]) (Evf.cast (evf_lst (evaf_cons (Evr.f (ev_var rfl) True.intro) (evaf_cons (Evr.f (ev_var rfl) True.intro) evaf_nil))) rfl)) ?_
        refine does_seq (ρ1 := [.fr (dScr ns), .ow (dR (twoRow ((i : Int) + 1) o)), .fr (.int way), .fr (.int ((i : Int) + 1)), .fr (.int o), .no, .no, .no, .no]) ?_ ?_
        · by_cases c : (o : Int) = 0
          · rw [show twoRow ((i : Int) + 1) o = [(i : Int) + 1] from if_pos c]
            exact does_if (b := true) ((et_test (ev_eqi (ev_var rfl) ev_int)).cast (decide_eq_true c)) (fun _ => does_asg (d := dR [(i : Int) + 1]) (Evf.cast (evf_lst (evaf_cons (Evr.f (ev_var rfl) True.intro) evaf_nil)) rfl)) fun z => nomatch z
          · rw [show twoRow ((i : Int) + 1) o = [(i : Int) + 1, (o : Int)] from if_neg c]
            exact does_iff ((et_test (ev_eqi (ev_var rfl) ev_int)).cast (decide_eq_false c)) does_next
        · rw [two_known hi30 ho1]
          refine does_seq (does_asgi (n := choM ((i : Int) + 1 + o) o) (ev_call (eva_cons (ev_add (ev_var rfl) (ev_var rfl)) (eva_cons (ev_var rfl) eva_nil)) ⟨_, o, rfl, by omega, by omega, by omega, rfl⟩)) ?_
          unfold twoDue
          rw [Int.toNat_natCast]
          by_cases c : 0 < (o : Int)
          · rw [if_pos c]
            exact does_if (b := true) ((et_test (ev_gt (ev_var rfl) ev_int)).cast (decide_eq_true c)) (fun _ => does_asgi (ev_sub (ev_var rfl) (ev_call (eva_cons (ev_add (ev_var rfl) (ev_var rfl)) (eva_cons (ev_sub (ev_var rfl) ev_int) eva_nil)) ⟨_, ((o : Int) - 1).toNat, by rw [show ((((o : Int) - 1).toNat : Nat) : Int) = (o : Int) - 1 by omega], by omega, by omega, by omega, rfl⟩))) fun z => nomatch z
          · rw [if_neg c, Int.sub_zero]
            exact does_iff ((et_test (ev_gt (ev_var rfl) ev_int)).cast (decide_eq_false c)) does_next
      · refine ⟨r, hr, by omega, ?_⟩
        refine does_iff ((et_test (ev_eqi (ev_var rfl) ev_int)).cast (decide_eq_false w0)) ?_
        refine does_iff ((et_test (ev_eqi (ev_var rfl) ev_int)).cast (decide_eq_false w1)) ?_
        exact does_asgi (ev_counted (ev_var rfl) hr (by omega))
  refine does_seq hdo ?_
  have hxl := hx.sum_len
  refine does_seq (does_asg (evf_list (ev_var rfl))) ?_
  refine does_seq (does_asgi (ev_call (d := .int (fillM x)) (eva_cons (ev_var rfl) eva_nil) ⟨x, rfl, hx, hxs, rfl⟩)) ?_
  refine does_retb (Evr.cast (ev_andV (ev_call (d := .bool true) (eva_cons (ev_var rfl) eva_nil) ⟨_, rfl, (show "int" ≠ "dict" by decide), rfl⟩) fun _ => ev_andV (ev_eqi (ev_var rfl) (ev_var rfl)) fun _ => ev_eqR (ev_var rfl) (ev_var rfl)) (by simp))
def topS (i : Nat) : Stmt := PySem.Challenge.pw_rodbeads_k15_fillings.main.body.getD i (.Pass ⟨0, 0, 0, 0⟩)
abbrev s_turned : Stmt := topS 1
theorem sc_turned : FnScope N_turned ["row"] (defScope s_turned) := ⟨rfl, rfl, rfl, by decide +kernel, rfl, by decide +kernel, by decide +kernel⟩
abbrev s_hooks : Stmt := topS 2
theorem sc_hooks : FnScope N_hooks ["row"] (defScope s_hooks) := ⟨rfl, rfl, rfl, by decide +kernel, rfl, by decide +kernel, by decide +kernel⟩
abbrev s_fillings : Stmt := topS 4
theorem sc_fillings : FnScope N_fillings ["row"] (defScope s_fillings) := ⟨rfl, rfl, rfl, by decide +kernel, rfl, by decide +kernel, by decide +kernel⟩
abbrev s_law_drawn : Stmt := topS 6
theorem sc_law_drawn : FnScope N_law_drawn ["script", "k", "many"] (defScope s_law_drawn) := ⟨rfl, rfl, rfl, by decide +kernel, rfl, by decide +kernel, by decide +kernel⟩
abbrev s_law_whole : Stmt := topS 7
theorem sc_law_whole : FnScope N_law_whole ["found"] (defScope s_law_whole) := ⟨rfl, rfl, rfl, by decide +kernel, rfl, by decide +kernel, by decide +kernel⟩
abbrev s_law_row_by : Stmt := topS 10
theorem sc_law_row_by : FnScope N_law_row_by ["script", "base", "most"] (defScope s_law_row_by) := ⟨rfl, rfl, rfl, by decide +kernel, rfl, by decide +kernel, by decide +kernel⟩
abbrev s_law_counted : Stmt := topS 11
theorem sc_law_counted : FnScope N_law_counted ["row", "table"] (defScope s_law_counted) := ⟨rfl, rfl, rfl, by decide +kernel, rfl, by decide +kernel, by decide +kernel⟩
abbrev s_law_choices : Stmt := topS 12
theorem sc_law_choices : FnScope N_law_choices ["many", "some"] (defScope s_law_choices) := ⟨rfl, rfl, rfl, by decide +kernel, rfl, by decide +kernel, by decide +kernel⟩
abbrev s_law : Stmt := topS 13
theorem sc_law : FnScope N_law ["script"] (defScope s_law) := ⟨rfl, rfl, rfl, by decide +kernel, rfl, by decide +kernel, by decide +kernel⟩
structure All (K : Frg) (mg : Str → Option Value) (C : Ec) where
  f_turned : Addr
  d_turned : FuncData
  D_turned : Df K mg "turned" s_turned ["row"] f_turned d_turned
  f_hooks : Addr
  d_hooks : FuncData
  D_hooks : Df K mg "hooks" s_hooks ["row"] f_hooks d_hooks
  f_fillings : Addr
  d_fillings : FuncData
  D_fillings : Df K mg "fillings" s_fillings ["row"] f_fillings d_fillings
  f_law_drawn : Addr
  d_law_drawn : FuncData
  D_law_drawn : Df K mg "_law_drawn" s_law_drawn ["script", "k", "many"] f_law_drawn d_law_drawn
  f_law_whole : Addr
  d_law_whole : FuncData
  D_law_whole : Df K mg "_law_whole" s_law_whole ["found"] f_law_whole d_law_whole
  f_law_row_by : Addr
  d_law_row_by : FuncData
  D_law_row_by : Df K mg "_law_row_by" s_law_row_by ["script", "base", "most"] f_law_row_by d_law_row_by
  f_law_counted : Addr
  d_law_counted : FuncData
  D_law_counted : Df K mg "_law_counted" s_law_counted ["row", "table"] f_law_counted d_law_counted
  f_law_choices : Addr
  d_law_choices : FuncData
  D_law_choices : Df K mg "_law_choices" s_law_choices ["many", "some"] f_law_choices d_law_choices
  f_law : Addr
  d_law : FuncData
  D_law : Df K mg "law" s_law ["script"] f_law d_law
  m_bool : mg "bool" = none
  m_int : mg "int" = none
  m_isinstance : mg "isinstance" = none
  m_len : mg "len" = none
  m_list : mg "list" = none
  m_max : mg "max" = none
  m_min : mg "min" = none
  m_range : mg "range" = none
  m_sum : mg "sum" = none
  m_tuple : mg "tuple" = none
section
variable {P : Program} {w : World} {K : Frg} {mg : Str → Option Value} {base : Heap} {C : Ec}
theorem ok_turned (G : All K mg C)  : FnOk P w K mg base (L2.CX P w) 1 G.f_turned G.d_turned ["row"] (spOf K (R_turned C)) :=
  fn_pur (k := 0) G.D_turned.F sc_turned len_turned fun cdv A outer s H E hr ds o h => ⟨rd_turned K C (fun cls d _ H => E cls d H), (pss_cons (ps_if (pt_cmpR (op_eqA hr.units) (pe_callB cr_len (by rfl) G.m_len (by decide +kernel) (pa_cons (pv 0) pa_nil)) pe_int (nomark _))
  (pss_one (ps_ret (pe_lst pa_nil))) pss_nil)
  (pss_one (ps_ret (pe_lc (own := [("j", 1)]) (g := gName 1) (tt := tYes) rfl sc_turned.nd (pi_range1 rfl G.m_range (pa_cons (pe_ix ix_seq (pv 0) pe_int (fun _ _ => rfl)) pa_nil)) (blkOk_by (N := N_turned) (sc := (defScope s_turned)) (by decide +kernel)) (fun _ _ _ _ _ => pg_name (i := 1) sc_turned.nd rfl (by first | exact Or.inl rfl | exact Or.inr rfl)) (fun _ _ _ _ _ => pts_nil) (fun _ _ _ _ _ => (pe_callB cr_len (by rfl) G.m_len (by decide +kernel) (pa_cons (pe_lc (own := [("number", 2)]) (g := gName 2) (tt := (tTest (tOp rGtI (tVar 2) (tVar 1)))) rfl sc_turned.nd (pi_list (pv 0)) (blkOk_by (by first | decide +kernel | rfl)) (fun _ _ _ _ _ => pg_name (i := 2) sc_turned.nd rfl (by first | exact Or.inl rfl | exact Or.inr rfl)) (fun _ _ _ _ _ => (pts_one (pt_cmpR (op_gtI) (pv 2) (pv 1) (nomark _)))) (fun _ _ _ _ _ => (pv 2))) pa_nil))))))), does_turned h⟩
theorem ok_hooks (G : All K mg C) (h_turned : FnOk P w K mg base (L2.CX P w) 1 G.f_turned G.d_turned ["row"] (spOf K (R_turned C))) : FnOk P w K mg base (L2.CX P w) 2 G.f_hooks G.d_hooks ["row"] (spOf K (R_hooks C)) :=
  fn_pur (k := 1) G.D_hooks.F sc_hooks len_hooks fun cdv A outer s H E hr ds o h => ⟨rd_hooks K C (fun cls d _ H => E cls d H), (pss_cons (ps_set (i := 1) sc_hooks.nd rfl (by first | exact Or.inl rfl | exact Or.inr rfl) (pe_call h_turned (hr.mono (by decide)) (by rfl) G.D_turned.g G.D_turned.F.kp G.D_turned.b .nil passL (pa_cons (pv 0) pa_nil)))
  (pss_cons (ps_set (i := 2) sc_hooks.nd rfl (by first | exact Or.inl rfl | exact Or.inr rfl) (pe_lst pa_nil))
  (pss_cons (ps_for (passes_of rfl) rfl (pi_range1 rfl G.m_range (pa_cons (pe_callB cr_len (by rfl) G.m_len (by decide +kernel) (pa_cons (pv 0) pa_nil)) pa_nil)) (pg_name (i := 3) sc_hooks.nd rfl (by first | exact Or.inl rfl | exact Or.inr rfl))
  (pss_one (ps_expr (pe_bm PySem.F.plainAttrs_list PySem.F.slot_list_append PySem.F.type_list_append mt_append (pv 2) (pa_cons (pe_lc (own := [("j", 4)]) (g := gName 4) (tt := tYes) rfl sc_hooks.nd (pi_range1 rfl G.m_range (pa_cons (pe_ix ix_seq (pv 0) (pv 3) (fun _ _ => rfl)) pa_nil)) (blkOk_by (N := N_hooks) (sc := (defScope s_hooks)) (by decide +kernel)) (fun _ _ _ _ _ => pg_name (i := 4) sc_hooks.nd rfl (by first | exact Or.inl rfl | exact Or.inr rfl)) (fun _ _ _ _ _ => pts_nil) (fun _ _ _ _ _ => (pe_op op_subI (pe_op op_subI (pe_op op_addA (pe_op op_subI (pe_ix ix_seq (pv 0) (pv 3) (fun _ _ => rfl)) (pv 4)) (pe_ix ix_seq (pv 1) (pv 4) (fun _ _ => rfl))) (pv 3)) pe_int))) pa_nil)))))
  (pss_one (ps_ret (pv 2)))))), does_hooks h⟩
theorem ok_fillings (G : All K mg C) (h_hooks : FnOk P w K mg base (L2.CX P w) 2 G.f_hooks G.d_hooks ["row"] (spOf K (R_hooks C))) : FnOk P w K mg base (L2.CX P w) 3 G.f_fillings G.d_fillings ["row"] (spOf K (R_fillings C)) :=
  fn_pur (k := 2) G.D_fillings.F sc_fillings len_fillings fun cdv A outer s H E hr ds o h => ⟨rd_fillings K C (fun cls d _ H => E cls d H), (pss_cons (ps_set (i := 1) sc_fillings.nd rfl (by first | exact Or.inl rfl | exact Or.inr rfl) pe_int)
  (pss_cons (ps_for (passes_of rfl) rfl (pi_range1 rfl G.m_range (pa_cons (pe_callB (cr_sum rfl) (by rfl) G.m_sum (by decide +kernel) (pa_cons (pv 0) pa_nil)) pa_nil)) (pg_name (i := 2) sc_fillings.nd rfl (by first | exact Or.inl rfl | exact Or.inr rfl))
  (pss_one (ps_set (i := 1) sc_fillings.nd rfl (by first | exact Or.inl rfl | exact Or.inr rfl) (pe_op op_mulA (pv 1) (pe_op op_addA (pv 2) pe_int)))))
  (pss_cons (ps_for (passes_of rfl) rfl (pi_list (pe_call h_hooks (hr.mono (by decide)) (by rfl) G.D_hooks.g G.D_hooks.F.kp G.D_hooks.b .nil passL (pa_cons (pv 0) pa_nil))) (pg_name (i := 3) sc_fillings.nd rfl (by first | exact Or.inl rfl | exact Or.inr rfl))
  (pss_one (ps_for (passes_of rfl) rfl (pi_list (pv 3)) (pg_name (i := 4) sc_fillings.nd rfl (by first | exact Or.inl rfl | exact Or.inr rfl))
  (pss_one (ps_set (i := 1) sc_fillings.nd rfl (by first | exact Or.inl rfl | exact Or.inr rfl) (pe_op op_divI (pv 1) (pv 4)))))))
  (pss_one (ps_ret (pv 1)))))), does_fillings h⟩
theorem ok_law_drawn (G : All K mg C)  : FnOk P w K mg base (L2.CX P w) 1 G.f_law_drawn G.d_law_drawn ["script", "k", "many"] (spOf K (R_law_drawn C)) :=
  fn_pur (k := 0) G.D_law_drawn.F sc_law_drawn len_law_drawn fun cdv A outer s H E hr ds o h => ⟨rd_law_drawn K C (fun cls d _ H => E cls d H), (pss_cons (ps_set (i := 3) sc_law_drawn.nd rfl (by first | exact Or.inl rfl | exact Or.inr rfl) pe_int)
  (pss_cons (ps_if (pt_cmpR (op_gtI) (pe_callB cr_len (by rfl) G.m_len (by decide +kernel) (pa_cons (pv 0) pa_nil)) pe_int (nomark _))
  (pss_one (ps_set (i := 3) sc_law_drawn.nd rfl (by first | exact Or.inl rfl | exact Or.inr rfl) (pe_ix ix_seq (pv 0) (pe_op op_modI (pv 1) (pe_callB cr_len (by rfl) G.m_len (by decide +kernel) (pa_cons (pv 0) pa_nil))) (fun _ _ => rfl)))) pss_nil)
  (pss_cons (ps_set (i := 4) sc_law_drawn.nd rfl (by first | exact Or.inl rfl | exact Or.inr rfl) (pe_op op_addA (pe_op op_addA (pe_op op_mulA (pv 3) (pe_op op_addA pe_int (pe_op op_mulA pe_int (pe_op op_modI (pv 1) pe_int)))) (pe_op op_mulA (pe_op op_mulA (pe_op op_addA (pv 1) pe_int) (pe_op op_addA (pv 1) pe_int)) pe_int)) (pe_callB cr_len (by rfl) G.m_len (by decide +kernel) (pa_cons (pv 0) pa_nil))))
  (pss_one (ps_ret (pe_op op_modI (pe_op op_divI (pe_op op_modI (pv 4) pe_int) pe_int) (pv 2))))))), does_law_drawn h⟩
theorem ok_law_whole (G : All K mg C)  : FnOk P w K mg base (L2.CX P w) 1 G.f_law_whole G.d_law_whole ["found"] (spOf K (R_law_whole C)) :=
  fn_pur (k := 0) G.D_law_whole.F sc_law_whole len_law_whole fun cdv A outer s H E hr ds o h => ⟨rd_law_whole K C (fun cls d _ H => E cls d H), (pss_one (ps_ret (pe_and (pe_callB call_isi (by rfl) G.m_isinstance (by decide +kernel) (pa_cons (pv 0) (pa_cons (pe_bltn (by rfl) G.m_int (by decide +kernel) rfl) pa_nil))) (pe_one (pe_not (pe_callB call_isi (by rfl) G.m_isinstance (by decide +kernel) (pa_cons (pv 0) (pa_cons (pe_bltn (by rfl) G.m_bool (by decide +kernel) rfl) pa_nil)))))))), does_law_whole h⟩
theorem ok_law_row_by (G : All K mg C) (h_law_drawn : FnOk P w K mg base (L2.CX P w) 1 G.f_law_drawn G.d_law_drawn ["script", "k", "many"] (spOf K (R_law_drawn C))) : FnOk P w K mg base (L2.CX P w) 2 G.f_law_row_by G.d_law_row_by ["script", "base", "most"] (spOf K (R_law_row_by C)) :=
  fn_pur (k := 1) G.D_law_row_by.F sc_law_row_by len_law_row_by fun cdv A outer s H E hr ds o h => ⟨rd_law_row_by K C (fun cls d _ H => E cls d H), (pss_cons (ps_set (i := 3) sc_law_row_by.nd rfl (by first | exact Or.inl rfl | exact Or.inr rfl) (pe_call h_law_drawn (hr.mono (by decide)) (by rfl) G.D_law_drawn.g G.D_law_drawn.F.kp G.D_law_drawn.b .nil passL (pa_cons (pv 0) (pa_cons (pv 1) (pa_cons (pe_op op_addA (pv 2) pe_int) pa_nil)))))
  (pss_cons (ps_set (i := 4) sc_law_row_by.nd rfl (by first | exact Or.inl rfl | exact Or.inr rfl) (pe_lst pa_nil))
  (pss_cons (ps_set (i := 5) sc_law_row_by.nd rfl (by first | exact Or.inl rfl | exact Or.inr rfl) (pe_op op_addA pe_int (pe_call h_law_drawn (hr.mono (by decide)) (by rfl) G.D_law_drawn.g G.D_law_drawn.F.kp G.D_law_drawn.b .nil passL (pa_cons (pv 0) (pa_cons (pe_op op_addA (pv 1) pe_int) (pa_cons (pv 2) pa_nil))))))
  (pss_cons (ps_while (passes_of rfl) (pt_cmpR (op_gtI) (pv 3) pe_int (nomark _))
  (pss_cons (ps_set (i := 6) sc_law_row_by.nd rfl (by first | exact Or.inl rfl | exact Or.inr rfl) (pe_ix ix_seq (pe_lst (pa_cons pe_int (pa_cons pe_int (pa_cons pe_int (pa_cons (pe_op op_addA pe_int (pv 5)) pa_nil))))) (pe_call h_law_drawn (hr.mono (by decide)) (by rfl) G.D_law_drawn.g G.D_law_drawn.F.kp G.D_law_drawn.b .nil passL (pa_cons (pv 0) (pa_cons (pe_op op_addA (pv 1) pe_int) (pa_cons pe_int pa_nil)))) (fun _ _ => rfl)))
  (pss_cons (ps_set (i := 7) sc_law_row_by.nd rfl (by first | exact Or.inl rfl | exact Or.inr rfl) (pe_op op_mulA (pe_call h_law_drawn (hr.mono (by decide)) (by rfl) G.D_law_drawn.g G.D_law_drawn.F.kp G.D_law_drawn.b .nil passL (pa_cons (pv 0) (pa_cons (pe_op op_addA (pe_op op_addA (pv 1) pe_int) (pe_callB cr_len (by rfl) G.m_len (by decide +kernel) (pa_cons (pv 4) pa_nil))) (pa_cons (pv 6) pa_nil)))) (pe_call h_law_drawn (hr.mono (by decide)) (by rfl) G.D_law_drawn.g G.D_law_drawn.F.kp G.D_law_drawn.b .nil passL (pa_cons (pv 0) (pa_cons (pe_op op_addA (pv 1) pe_int) (pa_cons pe_int pa_nil))))))
  (pss_cons (ps_set (i := 5) sc_law_row_by.nd rfl (by first | exact Or.inl rfl | exact Or.inr rfl) (pe_callB (cr_min2 rfl) (by rfl) G.m_min (by decide +kernel) (pa_cons (pv 3) (pa_cons (pe_op op_subI (pv 5) (pv 7)) pa_nil))))
  (pss_cons (ps_set (i := 5) sc_law_row_by.nd rfl (by first | exact Or.inl rfl | exact Or.inr rfl) (pe_callB (cr_max2 rfl) (by rfl) G.m_max (by decide +kernel) (pa_cons pe_int (pa_cons (pv 5) pa_nil))))
  (pss_cons (ps_expr (pe_bm PySem.F.plainAttrs_list PySem.F.slot_list_append PySem.F.type_list_append mt_append (pv 4) (pa_cons (pv 5) pa_nil)))
  (pss_one (ps_set (i := 3) sc_law_row_by.nd rfl (by first | exact Or.inl rfl | exact Or.inr rfl) (pe_op op_subI (pv 3) (pv 5))))))))))
  (pss_one (ps_ret (pv 4))))))), does_law_row_by h⟩
theorem ok_law_choices (G : All K mg C)  : FnOk P w K mg base (L2.CX P w) 1 G.f_law_choices G.d_law_choices ["many", "some"] (spOf K (R_law_choices C)) :=
  fn_pur (k := 0) G.D_law_choices.F sc_law_choices len_law_choices fun cdv A outer s H E hr ds o h => ⟨rd_law_choices K C (fun cls d _ H => E cls d H), (pss_cons (ps_set (i := 2) sc_law_choices.nd rfl (by first | exact Or.inl rfl | exact Or.inr rfl) pe_int)
  (pss_cons (ps_for (passes_of rfl) rfl (pi_range1 rfl G.m_range (pa_cons (pv 1) pa_nil)) (pg_name (i := 3) sc_law_choices.nd rfl (by first | exact Or.inl rfl | exact Or.inr rfl))
  (pss_one (ps_set (i := 2) sc_law_choices.nd rfl (by first | exact Or.inl rfl | exact Or.inr rfl) (pe_op op_divI (pe_op op_mulA (pv 2) (pe_op op_subI (pv 0) (pv 3))) (pe_op op_addA (pv 3) pe_int)))))
  (pss_one (ps_ret (pv 2))))), does_law_choices h⟩
theorem ok_law (G : All K mg C) (h_law_row_by : FnOk P w K mg base (L2.CX P w) 2 G.f_law_row_by G.d_law_row_by ["script", "base", "most"] (spOf K (R_law_row_by C))) (h_law_drawn : FnOk P w K mg base (L2.CX P w) 1 G.f_law_drawn G.d_law_drawn ["script", "k", "many"] (spOf K (R_law_drawn C))) (h_fillings : FnOk P w K mg base (L2.CX P w) 3 G.f_fillings G.d_fillings ["row"] (spOf K (R_fillings C))) (h_law_choices : FnOk P w K mg base (L2.CX P w) 1 G.f_law_choices G.d_law_choices ["many", "some"] (spOf K (R_law_choices C))) (h_law_whole : FnOk P w K mg base (L2.CX P w) 1 G.f_law_whole G.d_law_whole ["found"] (spOf K (R_law_whole C))) (h_law_counted : FnOk P w K mg base (L2.CX P w) 21 G.f_law_counted G.d_law_counted ["row", "table"] (sp_law_counted K C)) : FnOk P w K mg base (L2.CX P w) 22 G.f_law G.d_law ["script"] (spOf K (R_law C)) :=
  fn_pur (k := 21) G.D_law.F sc_law len_law fun cdv A outer s H E hr ds o h => ⟨rd_law K C (fun cls d _ H => E cls d H), (pss_cons (ps_set (i := 1) sc_law.nd rfl (by first | exact Or.inl rfl | exact Or.inr rfl) (pe_call h_law_row_by (hr.mono (by decide)) (by rfl) G.D_law_row_by.g G.D_law_row_by.F.kp G.D_law_row_by.b .nil passL (pa_cons (pv 0) (pa_cons pe_int (pa_cons pe_int pa_nil)))))
  (pss_cons (ps_set (i := 2) sc_law.nd rfl (by first | exact Or.inl rfl | exact Or.inr rfl) (pe_call h_law_drawn (hr.mono (by decide)) (by rfl) G.D_law_drawn.g G.D_law_drawn.F.kp G.D_law_drawn.b .nil passL (pa_cons (pv 0) (pa_cons pe_int (pa_cons pe_int pa_nil)))))
  (pss_cons (ps_set (i := 3) sc_law.nd rfl (by first | exact Or.inl rfl | exact Or.inr rfl) (pe_op op_addA pe_int (pe_call h_law_drawn (hr.mono (by decide)) (by rfl) G.D_law_drawn.g G.D_law_drawn.F.kp G.D_law_drawn.b .nil passL (pa_cons (pv 0) (pa_cons pe_int (pa_cons pe_int pa_nil))))))
  (pss_cons (ps_set (i := 4) sc_law.nd rfl (by first | exact Or.inl rfl | exact Or.inr rfl) (pe_call h_law_drawn (hr.mono (by decide)) (by rfl) G.D_law_drawn.g G.D_law_drawn.F.kp G.D_law_drawn.b .nil passL (pa_cons (pv 0) (pa_cons pe_int (pa_cons (pe_op op_addA (pv 3) pe_int) pa_nil)))))
  (pss_cons (ps_if (pt_cmpR (op_eqA hr.units) (pv 2) pe_int (nomark _))
  (pss_cons (ps_set (i := 1) sc_law.nd rfl (by first | exact Or.inl rfl | exact Or.inr rfl) (pe_op op_addA (pe_lst (pa_cons (pv 3) pa_nil)) (pe_lc (own := [("k", 8)]) (g := gName 8) (tt := tYes) rfl sc_law.nd (pi_range1 rfl G.m_range (pa_cons (pv 4) pa_nil)) (blkOk_by (N := N_law) (sc := (defScope s_law)) (by decide +kernel)) (fun _ _ _ _ _ => pg_name (i := 8) sc_law.nd rfl (by first | exact Or.inl rfl | exact Or.inr rfl)) (fun _ _ _ _ _ => pts_nil) (fun _ _ _ _ _ => pe_int))))
  (pss_one (ps_set (i := 5) sc_law.nd rfl (by first | exact Or.inl rfl | exact Or.inr rfl) (pe_call h_law_choices (hr.mono (by decide)) (by rfl) G.D_law_choices.g G.D_law_choices.F.kp G.D_law_choices.b .nil passL (pa_cons (pe_op op_subI (pe_op op_addA (pv 3) (pv 4)) pe_int) (pa_cons (pv 4) pa_nil)))))) (pss_one (ps_if (pt_cmpR (op_eqA hr.units) (pv 2) pe_int (nomark _))
  (pss_cons (ps_set (i := 1) sc_law.nd rfl (by first | exact Or.inl rfl | exact Or.inr rfl) (pe_lst (pa_cons (pv 3) (pa_cons (pv 4) pa_nil))))
  (pss_cons (ps_if (pt_cmpR (op_eqA hr.units) (pv 4) pe_int (nomark _))
  (pss_one (ps_set (i := 1) sc_law.nd rfl (by first | exact Or.inl rfl | exact Or.inr rfl) (pe_lst (pa_cons (pv 3) pa_nil)))) pss_nil)
  (pss_cons (ps_set (i := 5) sc_law.nd rfl (by first | exact Or.inl rfl | exact Or.inr rfl) (pe_call h_law_choices (hr.mono (by decide)) (by rfl) G.D_law_choices.g G.D_law_choices.F.kp G.D_law_choices.b .nil passL (pa_cons (pe_op op_addA (pv 3) (pv 4)) (pa_cons (pv 4) pa_nil))))
  (pss_one (ps_if (pt_cmpR (op_gtI) (pv 4) pe_int (nomark _))
  (pss_one (ps_set (i := 5) sc_law.nd rfl (by first | exact Or.inl rfl | exact Or.inr rfl) (pe_op op_subI (pv 5) (pe_call h_law_choices (hr.mono (by decide)) (by rfl) G.D_law_choices.g G.D_law_choices.F.kp G.D_law_choices.b .nil passL (pa_cons (pe_op op_addA (pv 3) (pv 4)) (pa_cons (pe_op op_subI (pv 4) pe_int) pa_nil)))))) pss_nil))))) (pss_one (ps_set (i := 5) sc_law.nd rfl (by first | exact Or.inl rfl | exact Or.inr rfl) (pe_call h_law_counted (hr.mono (by decide)) (by rfl) G.D_law_counted.g G.D_law_counted.F.kp G.D_law_counted.b .nil passL (pa_cons (pv 1) (pa_cons (pe_dispT (un0 hr.units) (pe_tup pa_nil) pe_int) pa_nil))))))))
  (pss_cons (ps_set (i := 6) sc_law.nd rfl (by first | exact Or.inl rfl | exact Or.inr rfl) (pe_callTy cr_list (by rfl) G.m_list (by decide +kernel) (pa_cons (pv 1) pa_nil)))
  (pss_cons (ps_set (i := 7) sc_law.nd rfl (by first | exact Or.inl rfl | exact Or.inr rfl) (pe_call h_fillings (hr.mono (by decide)) (by rfl) G.D_fillings.g G.D_fillings.F.kp G.D_fillings.b .nil passL (pa_cons (pv 6) pa_nil)))
  (pss_one (ps_ret (pe_and (pe_call h_law_whole (hr.mono (by decide)) (by rfl) G.D_law_whole.g G.D_law_whole.F.kp G.D_law_whole.b .nil passL (pa_cons (pv 7) pa_nil)) (pe_and (pe_cmpR (op_eqA hr.units) (pv 7) (pv 5) (nomark _)) (pe_one (pe_cmpR (op_eqA hr.units) (pv 6) (pv 1) (nomark _)))))))))))))), does_law h⟩
end
section
variable {P : Program} {w : World} {K : Frg} {mg : Str → Option Value} {base : Heap} {C : Ec}
theorem counted_rel {K : Frg} {H : Hp} {v : V} {t : Addr} {r : List Int} {kvs : List (List Key × V)} (hv : Rp K (butT H t) v (dR r)) (ht : H t = some (.dT kvs)) (g : GoodT kvs) : RelT K t GoodT (butT H t) [.fr (dR r), .fr (dAdr t), .no, .no, .no, .no, .no] [some v, some (.ref t), none, none, none, none, none] H := by
  refine ⟨⟨rfl, butT_same H t, fun i => [], fun i s h => ?_, (fun _ _ _ _ m => nomatch m), (fun _ _ m => nomatch m), fun _ _ => rfl⟩, if_pos rfl, kvs, ht, g⟩
  match i, h with
  | 0, h => cases h; exact ⟨rfl, v, rfl, hv⟩
  | 1, h => cases h; exact ⟨rfl, .ref t, rfl, .adr t⟩
  | 2, h => cases h; rfl
  | 3, h => cases h; rfl
  | 4, h => cases h; rfl
  | 5, h => cases h; rfl
  | 6, h => cases h; rfl
theorem counted_all (G : All K mg C) : ∀ d : Nat, FnOk P w K mg base (L2.CX P w) d G.f_law_counted G.d_law_counted ["row", "table"] (sp_law_counted_at d K C)
  | 0 => ⟨fun vs H Q E h => by obtain ⟨r, _, _, _, _, hr, _, z, _⟩ := h; have := hr.sum_len; omega, fun A outer s H args us vs Q E _ _ _ _ h => by obtain ⟨r, _, _, _, _, hr, _, z, _⟩ := h; have := hr.sum_len; omega⟩
  | d + 1 => by
    have h_law_counted := counted_all G d
    refine G.D_law_counted.F.okX sc_law_counted (fun vs H Q E h => ?_) (fun cdv A outer s H vs Q E hr h => ⟨rd_law_counted (sp_law_counted_at d K C) K C (fun cls d _ H => E cls d H), (pss_cons (ps_set (i := 2) sc_law_counted.nd rfl (by first | exact Or.inl rfl | exact Or.inr rfl) (pe_callTy cr_tuple (by rfl) G.m_tuple (by decide +kernel) (pa_cons (pv 0) pa_nil)))
  (pss_cons (ps_if (pt_cmp (pc_dnotin (un1 hr.units) (pv 2) (pv 1)))
  (pss_cons (ps_set (i := 3) sc_law_counted.nd rfl (by first | exact Or.inl rfl | exact Or.inr rfl) pe_int)
  (pss_cons (ps_for (passes_of rfl) rfl (pi_range1 rfl G.m_range (pa_cons (pe_callB cr_len (by rfl) G.m_len (by decide +kernel) (pa_cons (pv 0) pa_nil)) pa_nil)) (pg_name (i := 4) sc_law_counted.nd rfl (by first | exact Or.inl rfl | exact Or.inr rfl))
  (pss_one (ps_if (PW.pt (pw_or (pt_cmpR (op_eqA hr.units) (pe_op op_addA (pv 4) pe_int) (pe_callB cr_len (by rfl) G.m_len (by decide +kernel) (pa_cons (pv 0) pa_nil)) (nomark _)) (pw_or1 (pt_cmpR (op_ltI) (pe_ix ix_seq (pv 0) (pe_op op_addA (pv 4) pe_int) (fun _ _ => rfl)) (pe_ix ix_seq (pv 0) (pv 4) (fun _ _ => rfl)) (nomark _)))))
  (pss_cons (ps_set (i := 5) sc_law_counted.nd rfl (by first | exact Or.inl rfl | exact Or.inr rfl) (pe_op op_addA (pe_op op_addA (pe_slice sl_any (pv 0) po_none (po_some (pv 4))) (pe_lst (pa_cons (pe_op op_subI (pe_ix ix_seq (pv 0) (pv 4) (fun _ _ => rfl)) pe_int) pa_nil))) (pe_slice sl_any (pv 0) (po_some (pe_op op_addA (pv 4) pe_int)) po_none)))
  (pss_one (ps_set (i := 3) sc_law_counted.nd rfl (by first | exact Or.inl rfl | exact Or.inr rfl) (pe_op op_addA (pv 3) (pe_call h_law_counted (hr.mono (by omega)) (by rfl) G.D_law_counted.g G.D_law_counted.F.kp G.D_law_counted.b .nil passL (pa_cons (pe_lc (own := [("number", 6)]) (g := gName 6) (tt := (tTest (tOp rGtI (tVar 6) (tC (.int 0))))) rfl sc_law_counted.nd (pi_list (pv 5)) (blkOk_by (N := N_law_counted) (sc := (defScope s_law_counted)) (by decide +kernel)) (fun _ _ _ _ _ => pg_name (i := 6) sc_law_counted.nd rfl (by first | exact Or.inl rfl | exact Or.inr rfl)) (fun _ _ _ _ _ => (pts_one (pt_cmpR (op_gtI) (pv 6) pe_int (nomark _)))) (fun _ _ _ _ _ => (pv 6))) (pa_cons (pv 1) pa_nil))))))) pss_nil)))
  (pss_one (ps_dput (un1 hr.units) (pv 1) (pv 2) (pv 3) rfl)))) pss_nil)
  (pss_one (ps_ret (pe_dget (un1 hr.units) (pv 1) (pv 2) (fun _ _ => rfl)))))), ?_⟩)
    · obtain ⟨_, _, _, _, rfl, _⟩ := h; rfl
    · obtain ⟨r, v, t, kvs, rfl, h1, h2, h3, h4, h5, h6, q⟩ := h
      exact counted_body h1 h2 h3 (counted_rel h6 h4 h5) fun H' kvs' e t' g' => q H' kvs' e t' g'
theorem ok_law_counted (G : All K mg C) : FnOk P w K mg base (L2.CX P w) 21 G.f_law_counted G.d_law_counted ["row", "table"] (sp_law_counted K C) := (counted_all G 17).mono (by decide)
end
theorem all_mk {l : PySem.W.OpenLaw} {w : World} {K : Frg} {h : Heap} {mg : Str → Option Value} {fa : Addr} (X : K.In h) (Gn : h.Ns mainGlobals mg) (hfa : mg "law" = some (.ref fa))
    {f0 : Addr} {od0 an0 : Option Addr} {sl0 : Array (Option Value)} {oc0 kV0 dc0 pm0 cd0 ct0 : Value} {f1 : Addr} {od1 an1 : Option Addr} {sl1 : Array (Option Value)} {oc1 kV1 dc1 pm1 cd1 ct1 : Value} {f2 : Addr} {od2 an2 : Option Addr} {sl2 : Array (Option Value)} {oc2 kV2 dc2 pm2 cd2 ct2 : Value} {f3 : Addr} {od3 an3 : Option Addr} {sl3 : Array (Option Value)} {oc3 kV3 dc3 pm3 cd3 ct3 : Value} {f4 : Addr} {od4 an4 : Option Addr} {sl4 : Array (Option Value)} {oc4 kV4 dc4 pm4 cd4 ct4 : Value} {f5 : Addr} {od5 an5 : Option Addr} {sl5 : Array (Option Value)} {oc5 kV5 dc5 pm5 cd5 ct5 : Value} {f6 : Addr} {od6 an6 : Option Addr} {sl6 : Array (Option Value)} {oc6 kV6 dc6 pm6 cd6 ct6 : Value} {f7 : Addr} {od7 an7 : Option Addr} {sl7 : Array (Option Value)} {oc7 kV7 dc7 pm7 cd7 ct7 : Value} {f8 : Addr} {od8 an8 : Option Addr} {sl8 : Array (Option Value)} {oc8 kV8 dc8 pm8 cd8 ct8 : Value}  
    (a0 : PySem.W.nsIn K mainGlobals "turned" = some (some (.ref f0))) (l0 : K.lookup f0 = some ⟨oc0, od0, .func (PySem.W.fnOf "turned" "turned" (defArgs s_turned) (defBody s_turned) (defScope s_turned) .none kV0 dc0 pm0 an0 cd0 ct0), sl0⟩) (c0 : PySem.W.codeIn K cd0 "turned" = true) (k0 : PySem.W.keepIn K (.ref f0) = true)
    (a1 : PySem.W.nsIn K mainGlobals "hooks" = some (some (.ref f1))) (l1 : K.lookup f1 = some ⟨oc1, od1, .func (PySem.W.fnOf "hooks" "hooks" (defArgs s_hooks) (defBody s_hooks) (defScope s_hooks) .none kV1 dc1 pm1 an1 cd1 ct1), sl1⟩) (c1 : PySem.W.codeIn K cd1 "hooks" = true) (k1 : PySem.W.keepIn K (.ref f1) = true)
    (a2 : PySem.W.nsIn K mainGlobals "fillings" = some (some (.ref f2))) (l2 : K.lookup f2 = some ⟨oc2, od2, .func (PySem.W.fnOf "fillings" "fillings" (defArgs s_fillings) (defBody s_fillings) (defScope s_fillings) .none kV2 dc2 pm2 an2 cd2 ct2), sl2⟩) (c2 : PySem.W.codeIn K cd2 "fillings" = true) (k2 : PySem.W.keepIn K (.ref f2) = true)
    (a3 : PySem.W.nsIn K mainGlobals "_law_drawn" = some (some (.ref f3))) (l3 : K.lookup f3 = some ⟨oc3, od3, .func (PySem.W.fnOf "_law_drawn" "_law_drawn" (defArgs s_law_drawn) (defBody s_law_drawn) (defScope s_law_drawn) .none kV3 dc3 pm3 an3 cd3 ct3), sl3⟩) (c3 : PySem.W.codeIn K cd3 "_law_drawn" = true) (k3 : PySem.W.keepIn K (.ref f3) = true)
    (a4 : PySem.W.nsIn K mainGlobals "_law_whole" = some (some (.ref f4))) (l4 : K.lookup f4 = some ⟨oc4, od4, .func (PySem.W.fnOf "_law_whole" "_law_whole" (defArgs s_law_whole) (defBody s_law_whole) (defScope s_law_whole) .none kV4 dc4 pm4 an4 cd4 ct4), sl4⟩) (c4 : PySem.W.codeIn K cd4 "_law_whole" = true) (k4 : PySem.W.keepIn K (.ref f4) = true)
    (a5 : PySem.W.nsIn K mainGlobals "_law_row_by" = some (some (.ref f5))) (l5 : K.lookup f5 = some ⟨oc5, od5, .func (PySem.W.fnOf "_law_row_by" "_law_row_by" (defArgs s_law_row_by) (defBody s_law_row_by) (defScope s_law_row_by) .none kV5 dc5 pm5 an5 cd5 ct5), sl5⟩) (c5 : PySem.W.codeIn K cd5 "_law_row_by" = true) (k5 : PySem.W.keepIn K (.ref f5) = true)
    (a6 : PySem.W.nsIn K mainGlobals "_law_counted" = some (some (.ref f6))) (l6 : K.lookup f6 = some ⟨oc6, od6, .func (PySem.W.fnOf "_law_counted" "_law_counted" (defArgs s_law_counted) (defBody s_law_counted) (defScope s_law_counted) .none kV6 dc6 pm6 an6 cd6 ct6), sl6⟩) (c6 : PySem.W.codeIn K cd6 "_law_counted" = true) (k6 : PySem.W.keepIn K (.ref f6) = true)
    (a7 : PySem.W.nsIn K mainGlobals "_law_choices" = some (some (.ref f7))) (l7 : K.lookup f7 = some ⟨oc7, od7, .func (PySem.W.fnOf "_law_choices" "_law_choices" (defArgs s_law_choices) (defBody s_law_choices) (defScope s_law_choices) .none kV7 dc7 pm7 an7 cd7 ct7), sl7⟩) (c7 : PySem.W.codeIn K cd7 "_law_choices" = true) (k7 : PySem.W.keepIn K (.ref f7) = true)
    (a8 : PySem.W.nsIn K mainGlobals "law" = some (some (.ref f8))) (l8 : K.lookup f8 = some ⟨oc8, od8, .func (PySem.W.fnOf "law" "law" (defArgs s_law) (defBody s_law) (defScope s_law) .none kV8 dc8 pm8 an8 cd8 ct8), sl8⟩) (c8 : PySem.W.codeIn K cd8 "law" = true) (k8 : PySem.W.keepIn K (.ref f8) = true)
    (z_bool : PySem.W.nsIn K mainGlobals "bool" = some none)
    (z_int : PySem.W.nsIn K mainGlobals "int" = some none)
    (z_isinstance : PySem.W.nsIn K mainGlobals "isinstance" = some none)
    (z_len : PySem.W.nsIn K mainGlobals "len" = some none)
    (z_list : PySem.W.nsIn K mainGlobals "list" = some none)
    (z_max : PySem.W.nsIn K mainGlobals "max" = some none)
    (z_min : PySem.W.nsIn K mainGlobals "min" = some none)
    (z_range : PySem.W.nsIn K mainGlobals "range" = some none)
    (z_sum : PySem.W.nsIn K mainGlobals "sum" = some none)
    (z_tuple : PySem.W.nsIn K mainGlobals "tuple" = some none)  :
    ∃ fd : FuncData, (∀ (s : Shared) (v : Value), BindsTo s fd ⟨[v], []⟩ [("script", v)]) ∧ ∀ base : Heap, K.In base → base.Ns mainGlobals mg → FnOk l.prog w K mg base (L2.CX l.prog w) 22 fa fd ["script"] (spOf K R_law0) := by
  have e := hfa.symm.trans (PySem.W.mg_of X Gn a8)
  cases e
  have F0 := fun_mk (st := s_turned) l0 c0 k0
  have b0 := F0.binds (ps := ["row"]) fun _ _ _ _ _ _ us hl => match us, hl with | [_], _ => rfl
  have F1 := fun_mk (st := s_hooks) l1 c1 k1
  have b1 := F1.binds (ps := ["row"]) fun _ _ _ _ _ _ us hl => match us, hl with | [_], _ => rfl
  have F2 := fun_mk (st := s_fillings) l2 c2 k2
  have b2 := F2.binds (ps := ["row"]) fun _ _ _ _ _ _ us hl => match us, hl with | [_], _ => rfl
  have F3 := fun_mk (st := s_law_drawn) l3 c3 k3
  have b3 := F3.binds (ps := ["script", "k", "many"]) fun _ _ _ _ _ _ us hl => match us, hl with | [_, _, _], _ => rfl
  have F4 := fun_mk (st := s_law_whole) l4 c4 k4
  have b4 := F4.binds (ps := ["found"]) fun _ _ _ _ _ _ us hl => match us, hl with | [_], _ => rfl
  have F5 := fun_mk (st := s_law_row_by) l5 c5 k5
  have b5 := F5.binds (ps := ["script", "base", "most"]) fun _ _ _ _ _ _ us hl => match us, hl with | [_, _, _], _ => rfl
  have F6 := fun_mk (st := s_law_counted) l6 c6 k6
  have b6 := F6.binds (ps := ["row", "table"]) fun _ _ _ _ _ _ us hl => match us, hl with | [_, _], _ => rfl
  have F7 := fun_mk (st := s_law_choices) l7 c7 k7
  have b7 := F7.binds (ps := ["many", "some"]) fun _ _ _ _ _ _ us hl => match us, hl with | [_, _], _ => rfl
  have F8 := fun_mk (st := s_law) l8 c8 k8
  have b8 := F8.binds (ps := ["script"]) fun _ _ _ _ _ _ us hl => match us, hl with | [_], _ => rfl
  let G : All K mg ⟨0, 0, 0, 0, 0, 0, 0, 0⟩ := { f_turned := f0, d_turned := _, D_turned := ⟨F0, b0, PySem.W.mg_of X Gn a0⟩, f_hooks := f1, d_hooks := _, D_hooks := ⟨F1, b1, PySem.W.mg_of X Gn a1⟩, f_fillings := f2, d_fillings := _, D_fillings := ⟨F2, b2, PySem.W.mg_of X Gn a2⟩, f_law_drawn := f3, d_law_drawn := _, D_law_drawn := ⟨F3, b3, PySem.W.mg_of X Gn a3⟩, f_law_whole := f4, d_law_whole := _, D_law_whole := ⟨F4, b4, PySem.W.mg_of X Gn a4⟩, f_law_row_by := f5, d_law_row_by := _, D_law_row_by := ⟨F5, b5, PySem.W.mg_of X Gn a5⟩, f_law_counted := f6, d_law_counted := _, D_law_counted := ⟨F6, b6, PySem.W.mg_of X Gn a6⟩, f_law_choices := f7, d_law_choices := _, D_law_choices := ⟨F7, b7, PySem.W.mg_of X Gn a7⟩, f_law := fa, d_law := _, D_law := ⟨F8, b8, PySem.W.mg_of X Gn a8⟩, m_bool := PySem.W.mg_none_of X Gn z_bool, m_int := PySem.W.mg_none_of X Gn z_int, m_isinstance := PySem.W.mg_none_of X Gn z_isinstance, m_len := PySem.W.mg_none_of X Gn z_len, m_list := PySem.W.mg_none_of X Gn z_list, m_max := PySem.W.mg_none_of X Gn z_max, m_min := PySem.W.mg_none_of X Gn z_min, m_range := PySem.W.mg_none_of X Gn z_range, m_sum := PySem.W.mg_none_of X Gn z_sum, m_tuple := PySem.W.mg_none_of X Gn z_tuple }
  refine ⟨PySem.W.fnOf "law" "law" (defArgs s_law) (defBody s_law) (defScope s_law) .none kV8 dc8 pm8 an8 cd8 ct8, fun s v => .of_eq rfl, fun base _ _ => ?_⟩
  have r_turned := ok_turned (P := l.prog) (w := w) (base := base) G 
  have r_law_drawn := ok_law_drawn (P := l.prog) (w := w) (base := base) G 
  have r_law_whole := ok_law_whole (P := l.prog) (w := w) (base := base) G 
  have r_law_choices := ok_law_choices (P := l.prog) (w := w) (base := base) G 
  have r_hooks := ok_hooks (P := l.prog) (w := w) (base := base) G r_turned
  have r_law_row_by := ok_law_row_by (P := l.prog) (w := w) (base := base) G r_law_drawn
  have r_fillings := ok_fillings (P := l.prog) (w := w) (base := base) G r_hooks
  have r_law_counted := ok_law_counted (P := l.prog) (w := w) (base := base) G 
  have r_law := ok_law (P := l.prog) (w := w) (base := base) G r_law_row_by r_law_drawn r_fillings r_law_choices r_law_whole r_law_counted
  exact r_law
end Lw
end Pur
open PySem PySem.W PyProof.Rows
set_option maxHeartbeats 0 in
theorem PySem.Challenge.cw_rodbeads_k15_fillings_holds : PySem.Challenge.rw_rodbeads_k15_fillings.Holds := by
  w_on; o_law; k_head; (case hw => w_witness2)
  k_fill
  refine L2.walk_of (l := PySem.Challenge.rw_rodbeads_k15_fillings) (n := 63) (k := 22) (x := "script") (CX := fun w => L2.CX PySem.Challenge.rw_rodbeads_k15_fillings.prog w) (sp := fun w => Pur.spOf _ Pur.Lw.R_law0) rfl (by decide) rfl ⟨rfl, by decide, by decide⟩ (fun w h Y => PySem.W.kIn_of Y) ?F (fun _ _ a ns hl _ hS => Pur.law_sp hl hS) (fun w _ _ _ _ h => Pur.cx_no (P := PySem.Challenge.rw_rodbeads_k15_fillings.prog) (w := w) h)
  case F =>
    intro w mg fa h KX G hmg
    refine' Pur.Lw.all_mk KX G hmg ?a0 ?l0 ?c0 ?k0 ?a1 ?l1 ?c1 ?k1 ?a2 ?l2 ?c2 ?k2 ?a3 ?l3 ?c3 ?k3 ?a4 ?l4 ?c4 ?k4 ?a5 ?l5 ?c5 ?k5 ?a6 ?l6 ?c6 ?k6 ?a7 ?l7 ?c7 ?k7 ?a8 ?l8 ?c8 ?k8 ?z_bool ?z_int ?z_isinstance ?z_len ?z_list ?z_max ?z_min ?z_range ?z_sum ?z_tuple
    (case a0 => k_is); (case l0 => k_is); (case c0 => k_is); (case k0 => k_is); (case a1 => k_is); (case l1 => k_is); (case c1 => k_is); (case k1 => k_is); (case a2 => k_is); (case l2 => k_is); (case c2 => k_is); (case k2 => k_is); (case a3 => k_is); (case l3 => k_is); (case c3 => k_is); (case k3 => k_is); (case a4 => k_is); (case l4 => k_is); (case c4 => k_is); (case k4 => k_is); (case a5 => k_is); (case l5 => k_is); (case c5 => k_is); (case k5 => k_is); (case a6 => k_is); (case l6 => k_is); (case c6 => k_is); (case k6 => k_is); (case a7 => k_is); (case l7 => k_is); (case c7 => k_is); (case k7 => k_is); (case a8 => k_is); (case l8 => k_is); (case c8 => k_is); (case k8 => k_is); (case z_bool => k_is); (case z_int => k_is); (case z_isinstance => k_is); (case z_len => k_is); (case z_list => k_is); (case z_max => k_is); (case z_min => k_is); (case z_range => k_is); (case z_sum => k_is); (case z_tuple => k_is)
