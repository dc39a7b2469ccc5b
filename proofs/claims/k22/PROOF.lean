import PyProof.Rows.All
import Wide.All
import OpenK.AllK
import Wide.FinOn
import HandS.ForMost
import HandS.ForExc
import HandS.SortInts
import HandS.IsInst
import HandS.ExcIs
import HandS.Style
import HandS.Conv
import HandS.Wide
import HandS.Steps
import HandS.SetFor
import HandS.SortKw
import KE.KMinKey
import PyProof.MinMaxWalk
import PyProof.WalkInts
import HandS.Strs
import KE.GoesRaise
import KE.KAsSuite
import HandS.HotCalls
import PySem.Challenge.RW_rodbeads_k22_refusals_apart
set_option Elab.async false
set_option linter.all false
set_option maxRecDepth 100000
set_option maxHeartbeats 4000000
/-! # A calculus over the hand layer's readings: what a reading does, told on plain data alone -/
namespace Pur
open PySem L2
abbrev Frg := PySem.W.Frag
abbrev DE := List (Option PyData)
/-! ## data in the heap -/
mutual
/-- v is the data d, read in H -/
inductive Rp (K : Frg) (H : Hp) : V → PyData → Prop
  | non : Rp K H .non .none
  | bl (b : Bool) : Rp K H (.bl b) (.bool b)
  | int (i : Int) : Rp K H (.int i) (.int i)
  | str (x : Str) : Rp K H (.str x) (.str x)
  | lst {a : Addr} {xs : List V} {ds : List PyData} : H a = some (.lst xs) → RpAll K H xs ds → Rp K H (.ref a) (.list ds)
  | tup {a : Addr} {xs : List V} {ds : List PyData} : H a = some (.tup xs) → RpAll K H xs ds → Rp K H (.ref a) (.tuple ds)
  | scr {a : Addr} {ns : List Int} : SqL K H a (ns.map V.int) → Rp K H (.ref a) (.dict (ns.map fun n => (.int n, .none)))
  | adr (a : Addr) : Rp K H (.ref a) (.dict [(.int a, .bool true)])
inductive RpAll (K : Frg) (H : Hp) : List V → List PyData → Prop
  | nil : RpAll K H [] []
  | cons {v : V} {vs : List V} {d : PyData} {ds : List PyData} : Rp K H v d → RpAll K H vs ds → RpAll K H (v :: vs) (d :: ds)
end
mutual
/-- v is the data d, all of it at the addresses F, each once -/
inductive Ow (H : Hp) : V → PyData → List Addr → Prop
  | non : Ow H .non .none []
  | bl (b : Bool) : Ow H (.bl b) (.bool b) []
  | int (i : Int) : Ow H (.int i) (.int i) []
  | str (x : Str) : Ow H (.str x) (.str x) []
  | lst {a : Addr} {xs : List V} {ds : List PyData} {F : List Addr} : H a = some (.lst xs) → OwAll H xs ds F → a ∉ F → Ow H (.ref a) (.list ds) (a :: F)
  | tup {a : Addr} {xs : List V} {ds : List PyData} {F : List Addr} : H a = some (.tup xs) → OwAll H xs ds F → a ∉ F → Ow H (.ref a) (.tuple ds) (a :: F)
inductive OwAll (H : Hp) : List V → List PyData → List Addr → Prop
  | nil : OwAll H [] [] []
  | cons {v : V} {vs : List V} {d : PyData} {ds : List PyData} {F G : List Addr} : Ow H v d F → OwAll H vs ds G → (∀ a ∈ F, a ∉ G) → OwAll H (v :: vs) (d :: ds) (F ++ G)
end
section
variable {K : Frg} {H H' : Hp}
mutual
theorem Rp.mono (e : Same H H') : ∀ {d : PyData} {v : V}, Rp K H v d → Rp K H' v d
  | .none, _, h => by cases h; exact .non
  | .bool _, _, h => by cases h; exact .bl _
  | .int _, _, h => by cases h; exact .int _
  | .str _, _, h => by cases h; exact .str _
  | .list _, _, h => by cases h with | lst ha hs => exact .lst (e _ _ ha) (RpAll.mono e hs)
  | .tuple _, _, h => by cases h with | tup ha hs => exact .tup (e _ _ ha) (RpAll.mono e hs)
  | .dict _, _, h => by
    cases h with
    | scr hs => exact .scr (e.seq hs)
    | adr a => exact .adr a
theorem RpAll.mono (e : Same H H') : ∀ {ds : List PyData} {vs : List V}, RpAll K H vs ds → RpAll K H' vs ds
  | [], _, h => by cases h; exact .nil
  | _ :: _, _, h => by cases h with | cons h1 h2 => exact .cons (Rp.mono e h1) (RpAll.mono e h2)
end
mutual
theorem Ow.keep : ∀ {d : PyData} {v : V} {F : List Addr}, Ow H v d F → (∀ a ∈ F, H' a = H a) → Ow H' v d F
  | .none, _, _, h, _ => by cases h; exact .non
  | .bool _, _, _, h, _ => by cases h; exact .bl _
  | .int _, _, _, h, _ => by cases h; exact .int _
  | .str _, _, _, h, _ => by cases h; exact .str _
  | .list _, _, _, h, k => by
    cases h with
    | lst ha hs hn => exact .lst ((k _ List.mem_cons_self).trans ha) (OwAll.keep hs fun a m => k a (List.mem_cons_of_mem _ m)) hn
  | .tuple _, _, _, h, k => by
    cases h with
    | tup ha hs hn => exact .tup ((k _ List.mem_cons_self).trans ha) (OwAll.keep hs fun a m => k a (List.mem_cons_of_mem _ m)) hn
  | .dict _, _, _, h, _ => by cases h
theorem OwAll.keep : ∀ {ds : List PyData} {vs : List V} {F : List Addr}, OwAll H vs ds F → (∀ a ∈ F, H' a = H a) → OwAll H' vs ds F
  | [], _, _, h, _ => by cases h; exact .nil
  | _ :: _, _, _, h, k => by
    cases h with
    | cons h1 h2 hd => exact .cons (Ow.keep h1 fun a m => k a (List.mem_append_left _ m)) (OwAll.keep h2 fun a m => k a (List.mem_append_right _ m)) hd
end
mutual
/-- read in any heap that has the same at F -/
theorem Ow.rpz : ∀ {d : PyData} {v : V} {F : List Addr}, Ow H v d F → (∀ a ∈ F, H' a = H a) → Rp K H' v d
  | .none, _, _, h, _ => by cases h; exact .non
  | .bool _, _, _, h, _ => by cases h; exact .bl _
  | .int _, _, _, h, _ => by cases h; exact .int _
  | .str _, _, _, h, _ => by cases h; exact .str _
  | .list _, _, _, h, k => by
    cases h with
    | lst ha hs hn => exact .lst ((k _ List.mem_cons_self).trans ha) (OwAll.rpz hs fun a m => k a (List.mem_cons_of_mem _ m))
  | .tuple _, _, _, h, k => by
    cases h with
    | tup ha hs hn => exact .tup ((k _ List.mem_cons_self).trans ha) (OwAll.rpz hs fun a m => k a (List.mem_cons_of_mem _ m))
  | .dict _, _, _, h, _ => by cases h
theorem OwAll.rpz : ∀ {ds : List PyData} {vs : List V} {F : List Addr}, OwAll H vs ds F → (∀ a ∈ F, H' a = H a) → RpAll K H' vs ds
  | [], _, _, h, _ => by cases h; exact .nil
  | _ :: _, _, _, h, k => by
    cases h with
    | cons h1 h2 hd => exact .cons (Ow.rpz h1 fun a m => k a (List.mem_append_left _ m)) (OwAll.rpz h2 fun a m => k a (List.mem_append_right _ m))
end
mutual
theorem Ow.dom : ∀ {d : PyData} {v : V} {F : List Addr}, Ow H v d F → ∀ a ∈ F, ∃ o, H a = some o
  | .none, _, _, h => by cases h; exact fun _ m => nomatch m
  | .bool _, _, _, h => by cases h; exact fun _ m => nomatch m
  | .int _, _, _, h => by cases h; exact fun _ m => nomatch m
  | .str _, _, _, h => by cases h; exact fun _ m => nomatch m
  | .list _, _, _, h => by
    cases h with
    | lst ha hs hn =>
      intro a m
      rcases List.mem_cons.mp m with rfl | m
      · exact ⟨_, ha⟩
      · exact OwAll.dom hs a m
  | .tuple _, _, _, h => by
    cases h with
    | tup ha hs hn =>
      intro a m
      rcases List.mem_cons.mp m with rfl | m
      · exact ⟨_, ha⟩
      · exact OwAll.dom hs a m
  | .dict _, _, _, h => by cases h
theorem OwAll.dom : ∀ {ds : List PyData} {vs : List V} {F : List Addr}, OwAll H vs ds F → ∀ a ∈ F, ∃ o, H a = some o
  | [], _, _, h => by cases h; exact fun _ m => nomatch m
  | _ :: _, _, _, h => by
    cases h with
    | cons h1 h2 hd =>
      intro a m
      rcases List.mem_append.mp m with m | m
      · exact Ow.dom h1 a m
      · exact OwAll.dom h2 a m
end
theorem Ow.rp {d : PyData} {v : V} {F : List Addr} (h : Ow H v d F) : Rp K H v d := h.rpz fun _ _ => rfl
theorem OwAll.rp {ds : List PyData} {vs : List V} {F : List Addr} (h : OwAll H vs ds F) : RpAll K H vs ds := h.rpz fun _ _ => rfl
theorem Ow.grow {d : PyData} {v : V} {F : List Addr} (h : Ow H v d F) (e : Same H H') : Ow H' v d F := h.keep fun a m => by
  obtain ⟨o, q⟩ := h.dom a m
  rw [q]
  exact e a o q
theorem OwAll.grow {ds : List PyData} {vs : List V} {F : List Addr} (h : OwAll H vs ds F) (e : Same H H') : OwAll H' vs ds F := h.keep fun a m => by
  obtain ⟨o, q⟩ := h.dom a m
  rw [q]
  exact e a o q
theorem RpAll.length : ∀ {ds : List PyData} {vs : List V}, RpAll K H vs ds → vs.length = ds.length
  | [], _, h => by cases h; rfl
  | _ :: _, _, h => by cases h with | cons _ h2 => exact congrArg (· + 1) (RpAll.length h2)
theorem RpAll.get : ∀ {ds : List PyData} {vs : List V} {i : Nat} {d : PyData}, RpAll K H vs ds → ds[i]? = some d → ∃ v, vs[i]? = some v ∧ Rp K H v d
  | [], _, _, _, _, e => by simp at e
  | _ :: _, _, 0, _, h, e => by
    cases h with
    | cons h1 _ =>
      simp at e
      subst e
      exact ⟨_, rfl, h1⟩
  | _ :: _, _, i + 1, _, h, e => by
    cases h with
    | cons _ h2 => exact RpAll.get (i := i) h2 (by simpa using e)
theorem RpAll.append : ∀ {ds es : List PyData} {vs us : List V}, RpAll K H vs ds → RpAll K H us es → RpAll K H (vs ++ us) (ds ++ es)
  | [], _, _, _, h, q => by cases h; exact q
  | _ :: _, _, _, _, h, q => by cases h with | cons h1 h2 => exact .cons h1 (RpAll.append h2 q)
theorem RpAll.rev : ∀ {ds : List PyData} {vs : List V}, RpAll K H vs ds → RpAll K H vs.reverse ds.reverse
  | [], _, h => by cases h; exact .nil
  | _ :: _, _, h => by
    cases h with
    | cons h1 h2 =>
      rw [List.reverse_cons, List.reverse_cons]
      exact RpAll.append (RpAll.rev h2) (.cons h1 .nil)
theorem RpAll.drop : ∀ {n : Nat} {ds : List PyData} {vs : List V}, RpAll K H vs ds → RpAll K H (vs.drop n) (ds.drop n)
  | 0, _, _, h => h
  | _ + 1, [], _, h => by cases h; exact .nil
  | n + 1, _ :: _, _, h => by cases h with | cons _ h2 => exact RpAll.drop (n := n) h2
theorem RpAll.take : ∀ {n : Nat} {ds : List PyData} {vs : List V}, RpAll K H vs ds → RpAll K H (vs.take n) (ds.take n)
  | 0, _, _, _ => .nil
  | _ + 1, [], _, h => by cases h; exact .nil
  | n + 1, _ :: _, _, h => by cases h with | cons h1 h2 => exact .cons h1 (RpAll.take (n := n) h2)
theorem Rp.int_eq {v : V} {i : Int} (h : Rp K H v (.int i)) : v = .int i := by cases h; rfl
theorem Rp.bl_eq {v : V} {b : Bool} (h : Rp K H v (.bool b)) : v = .bl b := by cases h; rfl
theorem Rp.str_eq {v : V} {x : Str} (h : Rp K H v (.str x)) : v = .str x := by cases h; rfl
theorem Rp.non_eq {v : V} (h : Rp K H v .none) : v = .non := by cases h; rfl
theorem RpAll.ints : ∀ {ns : List Int} {vs : List V}, RpAll K H vs (ns.map .int) → vs = ns.map V.int
  | [], _, h => by cases h; rfl
  | _ :: _, _, h => by
    cases h with
    | cons h1 h2 => rw [Rp.int_eq h1, RpAll.ints h2]; rfl
theorem RpAll.of_ints : ∀ (ns : List Int), RpAll K H (ns.map V.int) (ns.map .int)
  | [] => .nil
  | n :: ns => .cons (.int n) (RpAll.of_ints ns)
theorem OwAll.of_ints : ∀ (ns : List Int), OwAll H (ns.map V.int) (ns.map .int) []
  | [] => .nil
  | n :: ns => .cons (F := []) (G := []) (.int n) (OwAll.of_ints ns) (fun _ m => nomatch m)
theorem RpAll.strs : ∀ {ns : List Str} {vs : List V}, RpAll K H vs (ns.map .str) → vs = ns.map V.str
  | [], _, h => by cases h; rfl
  | _ :: _, _, h => by
    cases h with
    | cons h1 h2 => rw [Rp.str_eq h1, RpAll.strs h2]; rfl
theorem RpAll.of_strs : ∀ (ns : List Str), RpAll K H (ns.map V.str) (ns.map .str)
  | [] => .nil
  | n :: ns => .cons (.str n) (RpAll.of_strs ns)
theorem OwAll.of_strs : ∀ (ns : List Str), OwAll H (ns.map V.str) (ns.map .str) []
  | [] => .nil
  | n :: ns => .cons (F := []) (G := []) (.str n) (OwAll.of_strs ns) (fun _ m => nomatch m)
theorem OwAll.append : ∀ {ds es : List PyData} {vs us : List V} {F G : List Addr}, OwAll H vs ds F → OwAll H us es G → (∀ a ∈ F, a ∉ G) → OwAll H (vs ++ us) (ds ++ es) (F ++ G)
  | [], _, _, _, _, _, h, q, _ => by cases h; exact q
  | _ :: _, _, _, _, _, _, h, q, n => by
    cases h with
    | cons h1 h2 hd =>
      rw [List.append_assoc]
      refine .cons h1 (OwAll.append h2 q fun a m => n a (List.mem_append_right _ m)) fun a m z => ?_
      rcases List.mem_append.mp z with z | z
      · exact hd a m z
      · exact n a (List.mem_append_left _ m) z
theorem OwAll.length : ∀ {ds : List PyData} {vs : List V} {F : List Addr}, OwAll H vs ds F → vs.length = ds.length
  | [], _, _, h => by cases h; rfl
  | _ :: _, _, _, h => by cases h with | cons _ h2 _ => exact congrArg (· + 1) (OwAll.length h2)
end
/-- no address in it -/
def Scal : PyData → Prop
  | .none => True
  | .bool _ => True
  | .int _ => True
  | .str _ => True
  | _ => False
theorem Rp.ow {K : Frg} {H H' : Hp} {v : V} {d : PyData} (h : Rp K H v d) (s : Scal d) : Ow H' v d [] := by
  cases h with
  | non => exact .non
  | bl b => exact .bl b
  | int i => exact .int i
  | str x => exact .str x
  | lst _ _ => exact s.elim
  | tup _ _ => exact s.elim
  | scr _ => exact s.elim
  | adr _ => exact s.elim
theorem Rp.any {K : Frg} {H H' : Hp} {v : V} {d : PyData} (h : Rp K H v d) (s : Scal d) : Rp K H' v d := (h.ow (H' := H') s).rp
/-! ## data of ints -/
abbrev dR (r : List Int) : PyData := .list (r.map .int)
abbrev dRR (rr : List (List Int)) : PyData := .list (rr.map dR)
abbrev dS (xs : List Str) : PyData := .list (xs.map .str)
abbrev dScr (ns : List Int) : PyData := .dict (ns.map fun n => (.int n, .none))
abbrev dAdr (a : Addr) : PyData := .dict [(.int a, .bool true)]
theorem scr_inj : ∀ {ns ms : List Int}, (ns.map fun n => ((.int n, .none) : PyData × PyData)) = ms.map (fun n => (.int n, .none)) → ns = ms
  | [], [], _ => rfl
  | [], _ :: _, h => by cases h
  | _ :: _, [], h => by cases h
  | n :: ns, m :: ms, h => by
    rw [List.map_cons, List.map_cons] at h
    injection h with h1 h2
    injection h1 with h1 _
    injection h1 with h1
    rw [h1, scr_inj h2]
theorem Rp.script {K : Frg} {H : Hp} {v : V} {ns : List Int} (h : Rp K H v (dScr ns)) : ∃ a, v = .ref a ∧ (SqL K H a (ns.map V.int)) := by
  generalize e : dScr ns = d at h
  cases h with
  | scr hs =>
    have e2 := PyData.dict.inj e
    rw [scr_inj e2]
    exact ⟨_, rfl, hs⟩
  | adr a =>
    have e2 := PyData.dict.inj e
    cases ns with
    | nil => cases e2
    | cons n r => cases e2
  | _ => cases e
theorem Rp.list {K : Frg} {H : Hp} {v : V} {ds : List PyData} (h : Rp K H v (.list ds)) : ∃ a xs, v = .ref a ∧ H a = some (.lst xs) ∧ RpAll K H xs ds := by
  cases h with
  | lst ha hs => exact ⟨_, _, rfl, ha, hs⟩
theorem Rp.row {K : Frg} {H : Hp} {v : V} {r : List Int} (h : Rp K H v (dR r)) : ∃ a, v = .ref a ∧ H a = some (.lst (r.map V.int)) := by
  cases h with
  | lst ha hs => rw [RpAll.ints hs] at ha; exact ⟨_, rfl, ha⟩
theorem Rp.tuple {K : Frg} {H : Hp} {v : V} {ds : List PyData} (h : Rp K H v (.tuple ds)) : ∃ a xs, v = .ref a ∧ H a = some (.tup xs) ∧ RpAll K H xs ds := by
  cases h with
  | tup ha hs => exact ⟨_, _, rfl, ha, hs⟩
theorem sql {K : Frg} {H : Hp} {a : Addr} {xs : List V} (h : H a = some (.lst xs)) : SqL K H a xs := .inl (.inl h)
theorem sqt {K : Frg} {H : Hp} {a : Addr} {xs : List V} (h : H a = some (.tup xs)) : SqT K H a xs := .inl (.inl h)
theorem Ow.row {H : Hp} {a : Addr} {r : List Int} (h : H a = some (.lst (r.map V.int))) : Ow H (.ref a) (dR r) [a] := .lst h (OwAll.of_ints r) (fun m => nomatch m)
theorem same_upd {H : Hp} {p : Addr} {o : HO} (h : H p = none) : Same H (upd H p o) := fun b x e => by
  rw [upd_ne (ne_of_none e h)]
  exact e
theorem same_mut {H H' : Hp} {p : Addr} {o : HO} (e : Same H H') (h : H p = none) : Same H (upd H' p o) := fun a u ha => by
  rw [upd_ne (ne_of_none ha h)]
  exact e a u ha
/-! ## names' data -/
structure RelE (K : Frg) (ρ : DE) (σ : L2.St) (H : Hp) : Prop where
  len : ρ.length = σ.length
  get : ∀ (i : Nat) (d : PyData), ρ[i]? = some (some d) → ∃ v, σ[i]? = some (some v) ∧ Rp K H v d
def wipeD (ρ : DE) : List Nat → DE
  | [] => ρ
  | v :: vs => (wipeD ρ vs).set v none
section
variable {K : Frg} {H H' : Hp} {ρ : DE} {σ : L2.St}
theorem RelE.mono (R : RelE K ρ σ H) (e : Same H H') : RelE K ρ σ H' := ⟨R.len, fun i d h => by
  obtain ⟨v, h1, h2⟩ := R.get i d h
  exact ⟨v, h1, h2.mono e⟩⟩
theorem RelE.set (R : RelE K ρ σ H) {v : V} {d : PyData} (r : Rp K H v d) (i : Nat) : RelE K (ρ.set i (some d)) (σ.set i (some v)) H := by
  refine ⟨by rw [List.length_set, List.length_set]; exact R.len, fun j e h => ?_⟩
  rw [List.getElem?_set] at h
  rw [List.getElem?_set]
  by_cases hij : i = j
  · rw [if_pos hij] at h
    rw [if_pos hij]
    by_cases hl : i < ρ.length
    · rw [if_pos hl] at h
      rw [if_pos (by rw [← R.len]; exact hl)]
      cases h
      exact ⟨v, rfl, r⟩
    · rw [if_neg hl] at h
      cases h
  · rw [if_neg hij] at h
    rw [if_neg hij]
    exact R.get j e h
theorem RelE.unset (R : RelE K ρ σ H) (i : Nat) : RelE K (ρ.set i none) (σ.set i none) H := by
  refine ⟨by rw [List.length_set, List.length_set]; exact R.len, fun j e h => ?_⟩
  rw [List.getElem?_set] at h
  rw [List.getElem?_set]
  by_cases hij : i = j
  · rw [if_pos hij] at h
    by_cases hl : i < ρ.length
    · rw [if_pos hl] at h
      cases h
    · rw [if_neg hl] at h
      cases h
  · rw [if_neg hij] at h
    rw [if_neg hij]
    exact R.get j e h
theorem RelE.wipe (R : RelE K ρ σ H) : ∀ vs : List Nat, RelE K (wipeD ρ vs) (L2.wipe σ vs) H
  | [] => R
  | v :: vs => (R.wipe vs).unset v
end
/-! ## what a reading evaluates to -/
/-- it reads as d -/
def Evr (K : Frg) (te : TE) (ρ : DE) (d : PyData) : Prop := ∀ (σ : L2.St) (H : Hp) (Q : VK), RelE K ρ σ H → (∀ v H', Same H H' → Rp K H' v d → Q v H') → te σ H Q
/-- it gives d, new -/
def Evf (K : Frg) (te : TE) (ρ : DE) (d : PyData) : Prop := ∀ (σ : L2.St) (H : Hp) (Q : VK), RelE K ρ σ H → (∀ v H' F, Same H H' → Ow H' v d F → (∀ a ∈ F, H a = none) → Q v H') → te σ H Q
def Evt (K : Frg) (tt : TT) (ρ : DE) (b : Bool) : Prop := ∀ (σ : L2.St) (H : Hp) (Q : Bool → Hp → Prop), RelE K ρ σ H → (∀ H', Same H H' → Q b H') → tt σ H Q
def Eva (K : Frg) (ta : TA) (ρ : DE) (ds : List PyData) : Prop := ∀ (σ : L2.St) (H : Hp) (Q : List V → Hp → Prop), RelE K ρ σ H → (∀ vs H', Same H H' → RpAll K H' vs ds → Q vs H') → ta σ H Q
def Evaf (K : Frg) (ta : TA) (ρ : DE) (ds : List PyData) : Prop := ∀ (σ : L2.St) (H : Hp) (Q : List V → Hp → Prop), RelE K ρ σ H → (∀ vs H' F, Same H H' → OwAll H' vs ds F → (∀ a ∈ F, H a = none) → Q vs H') → ta σ H Q
def Evo (K : Frg) (to : TO) (ρ : DE) (o : Option Int) : Prop := ∀ (σ : L2.St) (H : Hp) (Q : Option Int → Hp → Prop), RelE K ρ σ H → (∀ H', Same H H' → Q o H') → to σ H Q
section
variable {K : Frg} {ρ : DE} {ta tb te tx : TE} {d e : PyData}
theorem Evf.r (h : Evf K te ρ d) : Evr K te ρ d := fun σ H Q R q => h σ H Q R fun v H' F e o _ => q v H' e o.rp
theorem Evr.f (h : Evr K te ρ d) (s : Scal d) : Evf K te ρ d := fun σ H Q R q => h σ H Q R fun v H' e r => q v H' [] e (r.ow s) fun _ m => nomatch m
theorem Evr.cast (h : Evr K te ρ d) (q : d = e) : Evr K te ρ e := q ▸ h
theorem Evf.cast (h : Evf K te ρ d) (q : d = e) : Evf K te ρ e := q ▸ h
theorem Evt.cast {tt : TT} {a b : Bool} (h : Evt K tt ρ a) (q : a = b) : Evt K tt ρ b := q ▸ h
theorem ev_var {i : Nat} (h : ρ[i]? = some (some d)) : Evr K (tVar i) ρ d := fun σ H Q R q => by
  obtain ⟨v, h1, h2⟩ := R.get i d h
  exact ⟨v, h1, q v H (Same.refl H) h2⟩
theorem ev_int {n : Int} : Evr K (tC (.int n)) ρ (.int n) := fun σ H Q _ q => q _ H (Same.refl H) (.int n)
theorem ev_bl {b : Bool} : Evr K (tC (.bl b)) ρ (.bool b) := fun σ H Q _ q => q _ H (Same.refl H) (.bl b)
theorem ev_str {x : Str} : Evr K (tC (.str x)) ρ (.str x) := fun σ H Q _ q => q _ H (Same.refl H) (.str x)
theorem ev_non : Evr K (tC .non) ρ .none := fun σ H Q _ q => q _ H (Same.refl H) .non
theorem ev_op {r : R2} {a b : PyData} (ha : Evr K ta ρ a) (hb : Evr K tb ρ b) (hr : ∀ (H : Hp) (x y : V) (Q : VK), Rp K H x a → Rp K H y b → (∀ v H', Same H H' → Rp K H' v d → Q v H') → r x y H Q) : Evr K (tOp r ta tb) ρ d :=
  fun σ H Q R q => ha σ H _ R fun x H1 e1 r1 => hb σ H1 _ (R.mono e1) fun y H2 e2 r2 => hr H2 x y Q (r1.mono e2) r2 fun v H3 e3 r3 => q v H3 ((e1.trans e2).trans e3) r3
theorem evf_op {r : R2} {a b : PyData} (ha : Evr K ta ρ a) (hb : Evr K tb ρ b) (hr : ∀ (H : Hp) (x y : V) (Q : VK), Rp K H x a → Rp K H y b → (∀ v H' F, Same H H' → Ow H' v d F → (∀ a ∈ F, H a = none) → Q v H') → r x y H Q) : Evf K (tOp r ta tb) ρ d :=
  fun σ H Q R q => ha σ H _ R fun x H1 e1 r1 => hb σ H1 _ (R.mono e1) fun y H2 e2 r2 => hr H2 x y Q (r1.mono e2) r2 fun v H3 F e3 r3 fr => q v H3 F ((e1.trans e2).trans e3) r3 fun a m => (e1.trans e2).free (fr a m)
theorem ev_un {r : V → Hp → VK → Prop} {a : PyData} (ha : Evr K ta ρ a) (hr : ∀ (H : Hp) (x : V) (Q : VK), Rp K H x a → (∀ v H', Same H H' → Rp K H' v d → Q v H') → r x H Q) : Evr K (tUn r ta) ρ d :=
  fun σ H Q R q => ha σ H _ R fun x H1 e1 r1 => hr H1 x Q r1 fun v H3 e3 r3 => q v H3 (e1.trans e3) r3
theorem eva_nil : Eva K tNil ρ [] := fun σ H Q _ q => q [] H (Same.refl H) .nil
theorem eva_cons {tr : TA} {ds : List PyData} (ha : Evr K ta ρ d) (hr : Eva K tr ρ ds) : Eva K (tCons ta tr) ρ (d :: ds) :=
  fun σ H Q R q => ha σ H _ R fun x H1 e1 r1 => hr σ H1 _ (R.mono e1) fun vs H2 e2 r2 => q _ H2 (e1.trans e2) (.cons (r1.mono e2) r2)
theorem evaf_nil : Evaf K tNil ρ [] := fun σ H Q _ q => q [] H [] (Same.refl H) .nil fun _ m => nomatch m
theorem evaf_cons {tr : TA} {ds : List PyData} (ha : Evf K ta ρ d) (hr : Evaf K tr ρ ds) : Evaf K (tCons ta tr) ρ (d :: ds) :=
  fun σ H Q R q => ha σ H _ R fun x H1 F e1 r1 f1 => hr σ H1 _ (R.mono e1) fun vs H2 G e2 r2 f2 => q _ H2 (F ++ G) (e1.trans e2) (.cons (r1.grow e2) r2 fun a m z => by
    obtain ⟨o, ho⟩ := r1.dom a m
    rw [f2 a z] at ho
    cases ho) fun a m => by
    rcases List.mem_append.mp m with m | m
    · exact f1 a m
    · exact e1.free (f2 a m)
/-- a call of a built-in, by its values -/
theorem ev_cb {r : List V → Hp → VK → Prop} {t : TA} {ds : List PyData} (ha : Eva K t ρ ds) (hr : ∀ (H : Hp) (vs : List V) (Q : VK), RpAll K H vs ds → (∀ v H', Same H H' → Rp K H' v d → Q v H') → r vs H Q) : Evr K (tCB r t) ρ d :=
  fun σ H Q R q => ha σ H _ R fun vs H1 e1 r1 => hr H1 vs Q r1 fun v H3 e3 r3 => q v H3 (e1.trans e3) r3
theorem evf_cb {r : List V → Hp → VK → Prop} {t : TA} {ds : List PyData} (ha : Eva K t ρ ds) (hr : ∀ (H : Hp) (vs : List V) (Q : VK), RpAll K H vs ds → (∀ v H' F, Same H H' → Ow H' v d F → (∀ a ∈ F, H a = none) → Q v H') → r vs H Q) : Evf K (tCB r t) ρ d :=
  fun σ H Q R q => ha σ H _ R fun vs H1 e1 r1 => hr H1 vs Q r1 fun v H3 F e3 r3 f3 => q v H3 F (e1.trans e3) r3 fun a m => e1.free (f3 a m)
end
end Pur

set_option Elab.async false
set_option linter.all false
set_option maxRecDepth 100000
set_option maxHeartbeats 4000000
namespace Pur
open PySem L2
/-! ## operators that serve several kinds -/
def rAddA : R2 := fun x y H Q => (∃ i j, x = .int i ∧ y = .int j ∧ Q (.int (i + j)) H) ∨ rCat x y H Q ∨ (∃ i j, x = .str i ∧ y = .str j ∧ i.length + j.length ≤ sizeLine ∧ Q (.str (i ++ j)) H)
def rMulA : R2 := fun x y H Q => (∃ i j, x = .int i ∧ y = .int j ∧ (CMul i j ∨ CMulW i j) ∧ Q (.int (i * j)) H) ∨ rRep x y H Q
def rEqA (K : Frg) : R2 := fun x y H Q => rEq x y H Q ∨ rEqD K x y H Q
def rNeA (K : Frg) : R2 := fun x y H Q => rNe x y H Q ∨ rNeD K x y H Q
def rInA (K : Frg) : R2 := fun x y H Q => rIn K false x y H Q ∨ rInS x y H Q
def rNiA (K : Frg) : R2 := fun x y H Q => rIn K true x y H Q ∨ rNotInS x y H Q
def rSlA (K : Frg) : V → Option Int → Option Int → Hp → VK → Prop := fun x lo hi H Q => rSlL K x lo hi H Q ∨ rSlS x lo hi H Q
section
variable {X : Cx}
theorem op_addA : OpR X (binaryOp .Add) rAddA := by
  intro pins s σ H x y v u Q I rx ry h
  rcases h with h | h | h
  · exact op_add pins s σ H x y v u Q I rx ry h
  · exact op_cat pins s σ H x y v u Q I rx ry h
  · exact op_add_str pins s σ H x y v u Q I rx ry h
theorem op_mulA : OpR X (binaryOp .Mult) rMulA := by
  intro pins s σ H x y v u Q I rx ry h
  rcases h with ⟨i, j, h1, h2, h3 | h3, h4⟩ | h
  · exact op_mul pins s σ H x y v u Q I rx ry ⟨i, j, h1, h2, h3, h4⟩
  · exact op_mulW pins s σ H x y v u Q I rx ry ⟨i, j, h1, h2, h3, h4⟩
  · exact op_rep pins s σ H x y v u Q I rx ry h
theorem op_eqA (hu : X.A.units + 64 < cLine) : OpR X (compareOp .Eq) (rEqA X.K) := by
  intro pins s σ H x y v u Q I rx ry h
  rcases h with h | h
  · exact op_eq pins s σ H x y v u Q I rx ry h
  · exact op_eqD hu pins s σ H x y v u Q I rx ry h
theorem op_neA (hu : X.A.units + 64 < cLine) : OpR X (compareOp .NotEq) (rNeA X.K) := by
  intro pins s σ H x y v u Q I rx ry h
  rcases h with h | h
  · exact op_ne pins s σ H x y v u Q I rx ry h
  · exact op_neD hu pins s σ H x y v u Q I rx ry h
theorem op_inA : OpR X (compareOp .In) (rInA X.K) := by
  intro pins s σ H x y v u Q I rx ry h
  rcases h with h | h
  · exact op_in_seq pins s σ H x y v u Q I rx ry h
  · exact op_inS pins s σ H x y v u Q I rx ry h
theorem op_niA : OpR X (compareOp .NotIn) (rNiA X.K) := by
  intro pins s σ H x y v u Q I rx ry h
  rcases h with h | h
  · exact op_notIn_seq pins s σ H x y v u Q I rx ry h
  · exact op_notInS pins s σ H x y v u Q I rx ry h
theorem sl_any : SlR X (rSlA X.K) := SlR.or sl_list sl_str
end
/-! ## their values on data -/
/-- the item at a place that lies within -/
def gi (r : List Int) (i : Int) : Int := r.getD i.toNat 0
theorem atI_map {α β : Type} (f : α → β) (xs : List α) (i : Int) : atI (xs.map f) i = (atI xs i).map f := by
  unfold atI
  rw [List.length_map]
  cases ixN xs.length i with
  | none => rfl
  | some j => rw [Option.bind_some, Option.bind_some, List.getElem?_map]
theorem atI_in {α : Type} (xs : List α) (d : α) {i : Int} (h0 : 0 ≤ i) (h1 : i < xs.length) : atI xs i = some (xs.getD i.toNat d) := by
  obtain ⟨k, rfl⟩ := Int.eq_ofNat_of_zero_le h0
  have hk : k < xs.length := by omega
  rw [Int.toNat_natCast, List.getD_eq_getElem?_getD, List.getElem?_eq_getElem hk]
  exact atI_nat (List.getElem?_eq_getElem hk)
theorem cut_from (xs : List V) (k : Nat) : cutV xs (some (k : Int)) none = xs.drop k := by
  unfold cutV
  rw [HT.sIx_nat, HT.sIx_none]
  rw [List.take_of_length_le (by rw [List.length_drop]; omega)]
  by_cases h : k ≤ xs.length
  · rw [Nat.min_eq_left h]
  · rw [Nat.min_eq_right (by omega), List.drop_of_length_le (Nat.le_refl _), List.drop_of_length_le (by omega)]
theorem cut_to (xs : List V) (k : Nat) : cutV xs none (some (k : Int)) = xs.take k := by
  unfold cutV
  rw [HT.sIx_nat, HT.sIx_none, List.drop_zero, Nat.sub_zero]
  by_cases h : k ≤ xs.length
  · rw [Nat.min_eq_left h]
  · rw [Nat.min_eq_right (by omega), List.take_of_length_le (Nat.le_refl _), List.take_of_length_le (by omega)]
theorem cut_mid (xs : List V) (j k : Nat) : cutV xs (some (j : Int)) (some (k : Int)) = (xs.drop j).take (k - j) := by
  unfold cutV
  rw [HT.sIx_nat, HT.sIx_nat]
  by_cases h : j ≤ xs.length
  · rw [Nat.min_eq_left h]
    by_cases h2 : k ≤ xs.length
    · rw [Nat.min_eq_left h2]
    · rw [Nat.min_eq_right (by omega), List.take_of_length_le (by rw [List.length_drop]; omega), List.take_of_length_le (by rw [List.length_drop]; omega)]
  · rw [Nat.min_eq_right (show xs.length ≤ j by omega), List.drop_of_length_le (Nat.le_refl _), List.drop_of_length_le (show xs.length ≤ j by omega), List.take_nil, List.take_nil]
theorem sz_le {n : Nat} (h : n ≤ 1000000) : n ≤ sizeLine := Nat.le_trans h (by decide)
theorem sz_lt {n : Nat} (h : n < 1000000) : n < sizeLine := Nat.lt_of_lt_of_le h (by decide)
/-- two sorted arrangements are one -/
theorem sorted_one {r s : List Int} (h : r.Perm s) (hr : r.Pairwise (· ≤ ·)) (hs : s.Pairwise (· ≤ ·)) : r = s := List.Perm.eq_of_pairwise (fun x y _ _ h1 h2 => Int.le_antisymm h1 h2) hr hs h
/-- a code whose data are told apart by == -/
def Cd {α : Type} [DecidableEq α] (c : α → PyData) : Prop := ∀ x y, PyData.eqv (c x) (c y) = decide (x = y)
theorem cd_all {α : Type} [DecidableEq α] {c : α → PyData} (h : Cd c) : ∀ xs ys : List α, PyData.eqvAll (xs.map c) (ys.map c) = decide (xs = ys)
  | [], [] => by simp [PyData.eqvAll]
  | [], _ :: _ => by simp [PyData.eqvAll]
  | _ :: _, [] => by simp [PyData.eqvAll]
  | x :: xs, y :: ys => by
    rw [List.map_cons, List.map_cons, PyData.eqvAll, h x y, cd_all h xs ys]
    by_cases e : x = y
    · subst e; simp
    · simp [e]
theorem cd_int : Cd PyData.int := fun x y => by
  rw [PyData.eqv]
  by_cases e : x = y <;> simp [e]
theorem cd_list {α : Type} [DecidableEq α] {c : α → PyData} (h : Cd c) : Cd fun xs : List α => PyData.list (xs.map c) := fun x y => by
  rw [PyData.eqv]
  exact cd_all h x y
theorem cd_dR : Cd dR := cd_list cd_int
/-- data that may be laid, by its depth -/
def Lay (n : Nat) (d : PyData) : Prop := d.canLay0 = true ∧ d.depth ≤ n
def LayAll (n : Nat) (ds : List PyData) : Prop := PyData.canLayAll0 ds = true ∧ PyData.depthAll ds ≤ n
theorem Lay.mono {n m : Nat} {d : PyData} (h : Lay n d) (l : n ≤ m) : Lay m d := ⟨h.1, Nat.le_trans h.2 l⟩
theorem lay_shaped {n : Nat} {d : PyData} (h : Lay n d) (l : n ≤ 64 := by decide) : SeqAt.shaped d = true := by
  unfold SeqAt.shaped
  rw [h.1, Bool.true_and]
  exact decide_eq_true (Nat.le_trans h.2 l)
theorem layAll_nil {n : Nat} : LayAll n [] := ⟨by simp [PyData.canLayAll0], by simp [PyData.depthAll]⟩
theorem layAll_cons {n : Nat} {d : PyData} {ds : List PyData} (h : Lay n d) (t : LayAll n ds) : LayAll n (d :: ds) :=
  ⟨by rw [PyData.canLayAll0, h.1, t.1]; rfl, by rw [PyData.depthAll]; exact Nat.max_le.mpr ⟨h.2, t.2⟩⟩
theorem layAll_map {α : Type} {n : Nat} {c : α → PyData} : ∀ {xs : List α}, (∀ x ∈ xs, Lay n (c x)) → LayAll n (xs.map c)
  | [], _ => layAll_nil
  | _ :: _, h => layAll_cons (h _ List.mem_cons_self) (layAll_map fun x m => h x (List.mem_cons_of_mem _ m))
theorem lay_list {n : Nat} {ds : List PyData} (h : LayAll n ds) : Lay (n + 1) (.list ds) :=
  ⟨by rw [PyData.canLay0]; exact h.1, by rw [PyData.depth]; have := h.2; omega⟩
theorem lay_tuple {n : Nat} {ds : List PyData} (h : LayAll n ds) : Lay (n + 1) (.tuple ds) :=
  ⟨by rw [PyData.canLay0]; exact h.1, by rw [PyData.depth]; have := h.2; omega⟩
theorem lay_int (i : Int) : Lay 0 (.int i) := ⟨by simp [PyData.canLay0], by simp [PyData.depth]⟩
theorem lay_bool (b : Bool) : Lay 0 (.bool b) := ⟨by simp [PyData.canLay0], by simp [PyData.depth]⟩
theorem lay_none : Lay 0 .none := ⟨by simp [PyData.canLay0], by simp [PyData.depth]⟩
theorem lay_dR (r : List Int) : Lay 1 (dR r) := lay_list (layAll_map fun x _ => lay_int x)
theorem lay_dRR (rr : List (List Int)) : Lay 2 (dRR rr) := lay_list (layAll_map fun x _ => lay_dR x)
mutual
theorem Rp.dp {K : Frg} {H : Hp} : ∀ {d : PyData} {v : V}, d.canLay0 = true → Rp K H v d → Dp K H v d
  | .none, _, _, h => by cases h; exact .non
  | .bool _, _, _, h => by cases h; exact .bl _
  | .int _, _, _, h => by cases h; exact .int _
  | .str _, _, _, h => by cases h; exact .str _
  | .list ds, _, l, h => by cases h with | lst ha hs => exact .lst (sql ha) (RpAll.dp (by rw [PyData.canLay0] at l; exact l) hs)
  | .tuple ds, _, l, h => by cases h with | tup ha hs => exact .tup (sqt ha) (RpAll.dp (by rw [PyData.canLay0] at l; exact l) hs)
  | .dict _, _, l, _ => by simp [PyData.canLay0] at l
theorem RpAll.dp {K : Frg} {H : Hp} : ∀ {ds : List PyData} {vs : List V}, PyData.canLayAll0 ds = true → RpAll K H vs ds → DpAll K H vs ds
  | [], _, _, h => by cases h; exact .nil
  | d :: ds, _, l, h => by
    have l2 : d.canLay0 = true ∧ PyData.canLayAll0 ds = true := by simpa [PyData.canLayAll0] using l
    cases h with
    | cons h1 h2 => exact .cons (Rp.dp l2.1 h1) (RpAll.dp l2.2 h2)
end
section
variable {K : Frg} {ρ : DE} {ta tb te tx : TE}
/-! ### numbers -/
theorem ev_i0 {g : Int → Int → Int} {i j : Int} (ha : Evr K ta ρ (.int i)) (hb : Evr K tb ρ (.int j)) : Evr K (tOp (rI0 fun i j => .int (g i j)) ta tb) ρ (.int (g i j)) :=
  ev_op ha hb fun H x y Q hx hy q => ⟨i, j, hx.int_eq, hy.int_eq, q _ H (Same.refl H) (.int _)⟩
theorem ev_c0 {g : Int → Int → Bool} {i j : Int} (ha : Evr K ta ρ (.int i)) (hb : Evr K tb ρ (.int j)) : Evr K (tOp (rI0 fun i j => .bl (g i j)) ta tb) ρ (.bool (g i j)) :=
  ev_op ha hb fun H x y Q hx hy q => ⟨i, j, hx.int_eq, hy.int_eq, q _ H (Same.refl H) (.bl _)⟩
theorem ev_i1 {C : Int → Int → Prop} {g : Int → Int → Int} {i j : Int} (ha : Evr K ta ρ (.int i)) (hb : Evr K tb ρ (.int j)) (hc : C i j) : Evr K (tOp (rI C fun i j => .int (g i j)) ta tb) ρ (.int (g i j)) :=
  ev_op ha hb fun H x y Q hx hy q => ⟨i, j, hx.int_eq, hy.int_eq, hc, q _ H (Same.refl H) (.int _)⟩
theorem ev_add {i j : Int} (ha : Evr K ta ρ (.int i)) (hb : Evr K tb ρ (.int j)) : Evr K (tOp rAddA ta tb) ρ (.int (i + j)) :=
  ev_op ha hb fun H x y Q hx hy q => .inl ⟨i, j, hx.int_eq, hy.int_eq, q _ H (Same.refl H) (.int _)⟩
theorem ev_mul {i j : Int} (ha : Evr K ta ρ (.int i)) (hb : Evr K tb ρ (.int j)) (hc : CMul i j) : Evr K (tOp rMulA ta tb) ρ (.int (i * j)) :=
  ev_op ha hb fun H x y Q hx hy q => .inl ⟨i, j, hx.int_eq, hy.int_eq, .inl hc, q _ H (Same.refl H) (.int _)⟩
theorem ev_mulW {i j : Int} (ha : Evr K ta ρ (.int i)) (hb : Evr K tb ρ (.int j)) (hc : CMulW i j) : Evr K (tOp rMulA ta tb) ρ (.int (i * j)) :=
  ev_op ha hb fun H x y Q hx hy q => .inl ⟨i, j, hx.int_eq, hy.int_eq, .inr hc, q _ H (Same.refl H) (.int _)⟩
theorem ev_neg {i : Int} (ha : Evr K ta ρ (.int i)) : Evr K (tUn (rU fun i => .int (-i)) ta) ρ (.int (-i)) :=
  ev_un ha fun H x Q hx q => ⟨i, hx.int_eq, q _ H (Same.refl H) (.int _)⟩
theorem mul_l {i j : Int} (h : -(2 ^ 64) < i ∧ i < 2 ^ 64) : CMul i j := .inl h
theorem mul_r {i j : Int} (h : -(2 ^ 64) < j ∧ j < 2 ^ 64) : CMul i j := .inr h
/-! ### texts -/
theorem ev_adds {i j : Str} (ha : Evr K ta ρ (.str i)) (hb : Evr K tb ρ (.str j)) (hl : i.length + j.length ≤ 1000000) : Evr K (tOp rAddA ta tb) ρ (.str (i ++ j)) :=
  ev_op ha hb fun H x y Q hx hy q => .inr (.inr ⟨i, j, hx.str_eq, hy.str_eq, sz_le hl, q _ H (Same.refl H) (.str _)⟩)
/-! ### lists joined -/
theorem evf_cat {r s : List Int} (ha : Evr K ta ρ (dR r)) (hb : Evr K tb ρ (dR s)) (hl : r.length + s.length ≤ 1000000) : Evf K (tOp rAddA ta tb) ρ (dR (r ++ s)) :=
  evf_op ha hb fun H x y Q hx hy q => by
    obtain ⟨a, rfl, h1⟩ := hx.row
    obtain ⟨b, rfl, h2⟩ := hy.row
    refine .inr (.inl ⟨a, b, _, _, rfl, rfl, h1, h2, by rw [List.length_map, List.length_map]; exact sz_le hl, fun p hp => q _ _ [p] (same_upd hp) ?_ fun c m => ?_⟩)
    · rw [← List.map_append]
      exact Ow.row upd_same
    · rw [List.mem_singleton.mp m]; exact hp
theorem evf_catS {r s : List Str} (ha : Evr K ta ρ (dS r)) (hb : Evr K tb ρ (dS s)) (hl : r.length + s.length ≤ 1000000) : Evf K (tOp rAddA ta tb) ρ (dS (r ++ s)) :=
  evf_op ha hb fun H x y Q hx hy q => by
    obtain ⟨a, xs, rfl, h1, k1⟩ := hx.list
    obtain ⟨b, ys, rfl, h2, k2⟩ := hy.list
    rw [k1.strs] at h1
    rw [k2.strs] at h2
    refine .inr (.inl ⟨a, b, _, _, rfl, rfl, h1, h2, by rw [List.length_map, List.length_map]; exact sz_le hl, fun p hp => q _ _ [p] (same_upd hp) ?_ fun c m => ?_⟩)
    · rw [← List.map_append]
      exact .lst upd_same (OwAll.of_strs _) (fun m => nomatch m)
    · rw [List.mem_singleton.mp m]; exact hp
theorem evf_rep {r : List Int} {k : Int} (ha : Evr K ta ρ (dR r)) (hb : Evr K tb ρ (.int k)) (h0 : -1000000000 ≤ k ∧ k ≤ 1000000000) (hl : r.length * k.toNat ≤ 1000000) : Evf K (tOp rMulA ta tb) ρ (dR (List.replicate k.toNat r).flatten) :=
  evf_op ha hb fun H x y Q hx hy q => by
    obtain ⟨a, rfl, h1⟩ := hx.row
    refine .inr ⟨a, k, _, rfl, hy.int_eq, h1, by omega, by omega, by rw [List.length_map]; exact sz_le hl, fun p hp => q _ _ [p] (same_upd hp) ?_ fun c m => ?_⟩
    · have e : (List.replicate k.toNat (r.map V.int)).flatten = ((List.replicate k.toNat r).flatten).map V.int := by
        rw [List.map_flatten, List.map_replicate]
      rw [e]
      exact Ow.row upd_same
    · rw [List.mem_singleton.mp m]; exact hp
/-! ### == and its like -/
theorem ev_eqi {i j : Int} (ha : Evr K ta ρ (.int i)) (hb : Evr K tb ρ (.int j)) : Evr K (tOp (rEqA K) ta tb) ρ (.bool (decide (i = j))) :=
  ev_op ha hb fun H x y Q hx hy q => .inl (by
    obtain rfl := hx.int_eq
    obtain rfl := hy.int_eq
    refine ⟨rfl, ?_⟩
    have e : decide (V.int i = V.int j) = decide (i = j) := by by_cases h : i = j <;> simp [h]
    rw [e]
    exact q _ H (Same.refl H) (.bl _))
theorem ev_nei {i j : Int} (ha : Evr K ta ρ (.int i)) (hb : Evr K tb ρ (.int j)) : Evr K (tOp (rNeA K) ta tb) ρ (.bool (decide (i ≠ j))) :=
  ev_op ha hb fun H x y Q hx hy q => .inl (by
    obtain rfl := hx.int_eq
    obtain rfl := hy.int_eq
    refine ⟨rfl, ?_⟩
    have e : (!decide (V.int i = V.int j)) = decide (i ≠ j) := by by_cases h : i = j <;> simp [h]
    rw [e]
    exact q _ H (Same.refl H) (.bl _))
theorem ev_eqb {i j : Bool} (ha : Evr K ta ρ (.bool i)) (hb : Evr K tb ρ (.bool j)) : Evr K (tOp (rEqA K) ta tb) ρ (.bool (decide (i = j))) :=
  ev_op ha hb fun H x y Q hx hy q => .inl (by
    obtain rfl := hx.bl_eq
    obtain rfl := hy.bl_eq
    refine ⟨rfl, ?_⟩
    have e : decide (V.bl i = V.bl j) = decide (i = j) := by by_cases h : i = j <;> simp [h]
    rw [e]
    exact q _ H (Same.refl H) (.bl _))
theorem ev_neb {i j : Bool} (ha : Evr K ta ρ (.bool i)) (hb : Evr K tb ρ (.bool j)) : Evr K (tOp (rNeA K) ta tb) ρ (.bool (decide (i ≠ j))) :=
  ev_op ha hb fun H x y Q hx hy q => .inl (by
    obtain rfl := hx.bl_eq
    obtain rfl := hy.bl_eq
    refine ⟨rfl, ?_⟩
    have e : (!decide (V.bl i = V.bl j)) = decide (i ≠ j) := by by_cases h : i = j <;> simp [h]
    rw [e]
    exact q _ H (Same.refl H) (.bl _))
theorem ev_eqs {i j : Str} (ha : Evr K ta ρ (.str i)) (hb : Evr K tb ρ (.str j)) : Evr K (tOp (rEqA K) ta tb) ρ (.bool (decide (i = j))) :=
  ev_op ha hb fun H x y Q hx hy q => .inl (by
    obtain rfl := hx.str_eq
    obtain rfl := hy.str_eq
    refine ⟨rfl, ?_⟩
    have e : decide (V.str i = V.str j) = decide (i = j) := by by_cases h : i = j <;> simp [h]
    rw [e]
    exact q _ H (Same.refl H) (.bl _))
theorem ev_nes {i j : Str} (ha : Evr K ta ρ (.str i)) (hb : Evr K tb ρ (.str j)) : Evr K (tOp (rNeA K) ta tb) ρ (.bool (decide (i ≠ j))) :=
  ev_op ha hb fun H x y Q hx hy q => .inl (by
    obtain rfl := hx.str_eq
    obtain rfl := hy.str_eq
    refine ⟨rfl, ?_⟩
    have e : (!decide (V.str i = V.str j)) = decide (i ≠ j) := by by_cases h : i = j <;> simp [h]
    rw [e]
    exact q _ H (Same.refl H) (.bl _))
theorem ev_eqd {d e : PyData} {n m : Nat} (ha : Evr K ta ρ d) (hb : Evr K tb ρ e) (hd : Lay n d) (he : Lay m e) (hn : n ≤ 64 := by decide) (hm : m ≤ 64 := by decide) : Evr K (tOp (rEqA K) ta tb) ρ (.bool (PyData.eqv d e)) :=
  ev_op ha hb fun H x y Q hx hy q => .inr ⟨d, e, hx.dp hd.1, hy.dp he.1, lay_shaped hd hn, lay_shaped he hm, q _ H (Same.refl H) (.bl _)⟩
theorem ev_ned {d e : PyData} {n m : Nat} (ha : Evr K ta ρ d) (hb : Evr K tb ρ e) (hd : Lay n d) (he : Lay m e) (hn : n ≤ 64 := by decide) (hm : m ≤ 64 := by decide) : Evr K (tOp (rNeA K) ta tb) ρ (.bool (!PyData.eqv d e)) :=
  ev_op ha hb fun H x y Q hx hy q => .inr ⟨d, e, hx.dp hd.1, hy.dp he.1, lay_shaped hd hn, lay_shaped he hm, q _ H (Same.refl H) (.bl _)⟩
theorem ev_eqR {r s : List Int} (ha : Evr K ta ρ (dR r)) (hb : Evr K tb ρ (dR s)) : Evr K (tOp (rEqA K) ta tb) ρ (.bool (decide (r = s))) := (ev_eqd ha hb (lay_dR r) (lay_dR s)).cast (by rw [cd_dR])
theorem ev_neR {r s : List Int} (ha : Evr K ta ρ (dR r)) (hb : Evr K tb ρ (dR s)) : Evr K (tOp (rNeA K) ta tb) ρ (.bool (decide (r ≠ s))) := (ev_ned ha hb (lay_dR r) (lay_dR s)).cast (by rw [cd_dR]; by_cases h : r = s <;> simp [h])
theorem ev_eqRR {r s : List (List Int)} (ha : Evr K ta ρ (dRR r)) (hb : Evr K tb ρ (dRR s)) : Evr K (tOp (rEqA K) ta tb) ρ (.bool (decide (r = s))) := (ev_eqd ha hb (lay_dRR r) (lay_dRR s)).cast (by rw [cd_list cd_dR])
theorem ev_neRR {r s : List (List Int)} (ha : Evr K ta ρ (dRR r)) (hb : Evr K tb ρ (dRR s)) : Evr K (tOp (rNeA K) ta tb) ρ (.bool (decide (r ≠ s))) := (ev_ned ha hb (lay_dRR r) (lay_dRR s)).cast (by rw [cd_list cd_dR]; by_cases h : r = s <;> simp [h])
/-! ### in -/
theorem inV_int (n : Int) : ∀ r : List Int, inV (.int n) (r.map V.int) = decide (n ∈ r)
  | [] => by simp [inV]
  | m :: r => by
    have ih := inV_int n r
    unfold inV at ih ⊢
    rw [List.map_cons, List.any_cons, ih]
    by_cases h : n = m
    · subst h; simp [eqV]
    · have h' : ¬ m = n := fun z => h z.symm
      simp [eqV, h, h']
theorem flat_ints (r : List Int) : (r.map V.int).all flatV = true := by
  rw [List.all_map, List.all_eq_true]
  intro x _
  rfl
theorem ev_in {n : Int} {r : List Int} (ha : Evr K ta ρ (.int n)) (hb : Evr K tb ρ (dR r)) : Evr K (tOp (rInA K) ta tb) ρ (.bool (decide (n ∈ r))) :=
  ev_op ha hb fun H x y Q hx hy q => .inl (by
    obtain rfl := hx.int_eq
    obtain ⟨a, rfl, h1⟩ := hy.row
    refine ⟨a, _, rfl, .inl (sql h1), rfl, flat_ints r, ?_⟩
    rw [if_neg Bool.false_ne_true, inV_int]
    exact q _ H (Same.refl H) (.bl _))
theorem ev_ni {n : Int} {r : List Int} (ha : Evr K ta ρ (.int n)) (hb : Evr K tb ρ (dR r)) : Evr K (tOp (rNiA K) ta tb) ρ (.bool (decide (n ∉ r))) :=
  ev_op ha hb fun H x y Q hx hy q => .inl (by
    obtain rfl := hx.int_eq
    obtain ⟨a, rfl, h1⟩ := hy.row
    refine ⟨a, _, rfl, .inl (sql h1), rfl, flat_ints r, ?_⟩
    have e : (if true = true then !inV (.int n) (r.map V.int) else inV (.int n) (r.map V.int)) = decide (n ∉ r) := by
      rw [if_pos rfl, inV_int]
      by_cases h : n ∈ r <;> simp [h]
    rw [e]
    exact q _ H (Same.refl H) (.bl _))
theorem ev_nis {c : Nat} {z : Str} (ha : Evr K ta ρ (.str ⟨#[c]⟩)) (hb : Evr K tb ρ (.str z)) : Evr K (tOp (rNiA K) ta tb) ρ (.bool (decide (c ∉ z.cps.toList))) :=
  ev_op ha hb fun H x y Q hx hy q => .inr (by
    obtain rfl := hx.str_eq
    obtain rfl := hy.str_eq
    refine ⟨c, z, rfl, rfl, ?_⟩
    have e : (!decide (c ∈ z.cps.toList)) = decide (c ∉ z.cps.toList) := by by_cases h : c ∈ z.cps.toList <;> simp [h]
    rw [e]
    exact q _ H (Same.refl H) (.bl _))
/-! ### None -/
def rIsNn : R2 := fun x y H Q => y = .non ∧ Q (.bl (decide (x = .non))) H
def rNotNn : R2 := fun x y H Q => y = .non ∧ Q (.bl (!decide (x = .non))) H
theorem op_isNn {X : Cx} : OpR X (compareOp .Is) rIsNn := op_isN
theorem op_notNn {X : Cx} : OpR X (compareOp .IsNot) rNotNn := op_notN
def isNn : PyData → Bool
  | .none => true
  | _ => false
theorem non_dec {d : PyData} {H : Hp} {v : V} (h : Rp K H v d) : decide (v = V.non) = isNn d := by
  cases h <;> simp [isNn]
theorem ev_isN {d : PyData} {b : Bool} (ha : Evr K ta ρ d) (hb : Evr K tb ρ .none) (e : isNn d = b) : Evr K (tOp rIsNn ta tb) ρ (.bool b) :=
  ev_op ha hb fun H x y Q hx hy q => ⟨hy.non_eq, by rw [non_dec hx, e]; exact q _ H (Same.refl H) (.bl _)⟩
theorem ev_notN {d : PyData} {b : Bool} (ha : Evr K ta ρ d) (hb : Evr K tb ρ .none) (e : (!isNn d) = b) : Evr K (tOp rNotNn ta tb) ρ (.bool b) :=
  ev_op ha hb fun H x y Q hx hy q => ⟨hy.non_eq, by rw [non_dec hx, e]; exact q _ H (Same.refl H) (.bl _)⟩
/-! ### items -/
theorem ev_ixM {α : Type} {c : α → PyData} {xs : List α} {i : Int} {x : α} (ha : Evr K ta ρ (.list (xs.map c))) (hb : Evr K tb ρ (.int i)) (h : atI xs i = some x) : Evr K (tOp (rIx K) ta tb) ρ (c x) :=
  ev_op ha hb fun H v y Q hx hy q => .inl (by
    obtain ⟨a, vs, rfl, h1, k1⟩ := hx.list
    have hl := k1.length
    rw [List.length_map] at hl
    obtain ⟨j, e1, e2⟩ : ∃ j, ixN xs.length i = some j ∧ xs[j]? = some x := by
      unfold atI at h
      cases e : ixN xs.length i with
      | none => rw [e] at h; cases h
      | some j => rw [e] at h; exact ⟨j, rfl, h⟩
    obtain ⟨w, hw, rw'⟩ := k1.get (i := j) (d := c x) (by rw [List.getElem?_map, e2]; rfl)
    refine ⟨a, vs, i, w, rfl, hy.int_eq, sql h1, ?_, q _ H (Same.refl H) rw'⟩
    unfold atI
    rw [hl, e1]
    exact hw)
theorem ev_ixL {ds : List PyData} {i : Int} {d : PyData} (ha : Evr K ta ρ (.list ds)) (hb : Evr K tb ρ (.int i)) (h : atI ds i = some d) : Evr K (tOp (rIx K) ta tb) ρ d :=
  ev_ixM (c := id) (xs := ds) (ha.cast (by rw [List.map_id])) hb h
theorem ev_ixT {ds : List PyData} {i : Int} {d : PyData} (ha : Evr K ta ρ (.tuple ds)) (hb : Evr K tb ρ (.int i)) (h : atI ds i = some d) : Evr K (tOp (rIx K) ta tb) ρ d :=
  ev_op ha hb fun H v y Q hx hy q => .inr (.inl (by
    obtain ⟨a, vs, rfl, h1, k1⟩ := hx.tuple
    have hl := k1.length
    obtain ⟨j, e1, e2⟩ : ∃ j, ixN ds.length i = some j ∧ ds[j]? = some d := by
      unfold atI at h
      cases e : ixN ds.length i with
      | none => rw [e] at h; cases h
      | some j => rw [e] at h; exact ⟨j, rfl, h⟩
    obtain ⟨w, hw, rw'⟩ := k1.get (i := j) (d := d) e2
    refine ⟨a, vs, i, w, rfl, hy.int_eq, sqt h1, ?_, q _ H (Same.refl H) rw'⟩
    unfold atI
    rw [hl, e1]
    exact hw))
theorem ev_ix {r : List Int} {i : Int} (ha : Evr K ta ρ (dR r)) (hb : Evr K tb ρ (.int i)) (h0 : 0 ≤ i) (h1 : i < r.length) : Evr K (tOp (rIx K) ta tb) ρ (.int (gi r i)) :=
  ev_ixM (c := PyData.int) ha hb (atI_in r 0 h0 h1)
theorem ev_ixRR {r : List (List Int)} {i : Int} (ha : Evr K ta ρ (dRR r)) (hb : Evr K tb ρ (.int i)) (h0 : 0 ≤ i) (h1 : i < r.length) : Evr K (tOp (rIx K) ta tb) ρ (dR (r.getD i.toNat [])) :=
  ev_ixM (c := dR) ha hb (atI_in r [] h0 h1)
theorem ev_ixScr {ns : List Int} {i : Int} (ha : Evr K ta ρ (dScr ns)) (hb : Evr K tb ρ (.int i)) (h0 : 0 ≤ i) (h1 : i < ns.length) : Evr K (tOp (rIx K) ta tb) ρ (.int (gi ns i)) :=
  ev_op ha hb fun H v y Q hx hy q => .inl (by
    obtain ⟨a, rfl, hs⟩ := hx.script
    refine ⟨a, _, i, .int (gi ns i), rfl, hy.int_eq, hs, ?_, q _ H (Same.refl H) (.int _)⟩
    rw [atI_map, atI_in ns 0 h0 h1]
    rfl)
theorem ev_ixStr {z : Str} {i : Int} {c : Nat} (ha : Evr K ta ρ (.str z)) (hb : Evr K tb ρ (.int i)) (hl : z.length ≤ 1000000) (h : atI z.cps.toList i = some c) : Evr K (tOp (rIx K) ta tb) ρ (.str ⟨#[c]⟩) :=
  ev_op ha hb fun H v y Q hx hy q => .inr (.inr ⟨z, i, c, hx.str_eq, hy.int_eq, sz_le hl, h, q _ H (Same.refl H) (.str _)⟩)
/-! ### slices -/
theorem evo_none : Evo K tNoPart ρ none := fun σ H Q _ q => q H (Same.refl H)
theorem evo_some {i : Int} (ha : Evr K ta ρ (.int i)) : Evo K (tPart ta) ρ (some i) := fun σ H Q R q => ha σ H _ R fun v H1 e1 r1 => ⟨i, r1.int_eq, q H1 e1⟩
theorem ev_sl {d e : PyData} {lo hi : Option Int} {tl th : TO} (ha : Evr K ta ρ d) (hl : Evo K tl ρ lo) (hh : Evo K th ρ hi) (hr : ∀ (H : Hp) (x : V) (Q : VK), Rp K H x d → (∀ v H', Same H H' → Rp K H' v e → Q v H') → rSlA K x lo hi H Q) : Evr K (tSl (rSlA K) ta tl th) ρ e :=
  fun σ H Q R q => ha σ H _ R fun x H1 e1 r1 => hl σ H1 _ (R.mono e1) fun H2 e2 => hh σ H2 _ (R.mono (e1.trans e2)) fun H3 e3 => hr H3 x Q (r1.mono (e2.trans e3)) fun v H4 e4 r4 => q v H4 (((e1.trans e2).trans e3).trans e4) r4
theorem evf_sl {d e : PyData} {lo hi : Option Int} {tl th : TO} (ha : Evr K ta ρ d) (hl : Evo K tl ρ lo) (hh : Evo K th ρ hi) (hr : ∀ (H : Hp) (x : V) (Q : VK), Rp K H x d → (∀ v H' F, Same H H' → Ow H' v e F → (∀ a ∈ F, H a = none) → Q v H') → rSlA K x lo hi H Q) : Evf K (tSl (rSlA K) ta tl th) ρ e :=
  fun σ H Q R q => ha σ H _ R fun x H1 e1 r1 => hl σ H1 _ (R.mono e1) fun H2 e2 => hh σ H2 _ (R.mono (e1.trans e2)) fun H3 e3 => hr H3 x Q (r1.mono (e2.trans e3)) fun v H4 F e4 r4 f4 => q v H4 F (((e1.trans e2).trans e3).trans e4) r4 fun a m => ((e1.trans e2).trans e3).free (f4 a m)
theorem evf_slv {r s : List Int} {lo hi : Option Int} {tl th : TO} (ha : Evr K ta ρ (dR r)) (hl : Evo K tl ρ lo) (hh : Evo K th ρ hi) (e : cutV (r.map V.int) lo hi = s.map V.int) : Evf K (tSl (rSlA K) ta tl th) ρ (dR s) :=
  evf_sl ha hl hh fun H x Q hx q => .inl (by
    obtain ⟨a, rfl, h1⟩ := hx.row
    refine ⟨a, _, rfl, sql h1, fun p hp => q _ _ [p] (same_upd hp) ?_ fun c m => ?_⟩
    · rw [e]; exact Ow.row upd_same
    · rw [List.mem_singleton.mp m]; exact hp)
theorem evf_from {r : List Int} {i : Int} (ha : Evr K ta ρ (dR r)) (hb : Evr K tb ρ (.int i)) (h0 : 0 ≤ i) : Evf K (tSl (rSlA K) ta (tPart tb) tNoPart) ρ (dR (r.drop i.toNat)) :=
  evf_slv ha (evo_some hb) evo_none (by
    obtain ⟨k, rfl⟩ := Int.eq_ofNat_of_zero_le h0
    rw [cut_from, Int.toNat_natCast, List.map_drop])
theorem evf_to {r : List Int} {i : Int} (ha : Evr K ta ρ (dR r)) (hb : Evr K tb ρ (.int i)) (h0 : 0 ≤ i) : Evf K (tSl (rSlA K) ta tNoPart (tPart tb)) ρ (dR (r.take i.toNat)) :=
  evf_slv ha evo_none (evo_some hb) (by
    obtain ⟨k, rfl⟩ := Int.eq_ofNat_of_zero_le h0
    rw [cut_to, Int.toNat_natCast, List.map_take])
theorem evf_mid {r : List Int} {i j : Int} (ha : Evr K ta ρ (dR r)) (hb : Evr K tb ρ (.int i)) (hx : Evr K tx ρ (.int j)) (h0 : 0 ≤ i) (h1 : 0 ≤ j) : Evf K (tSl (rSlA K) ta (tPart tb) (tPart tx)) ρ (dR ((r.drop i.toNat).take (j.toNat - i.toNat))) :=
  evf_slv ha (evo_some hb) (evo_some hx) (by
    obtain ⟨k, rfl⟩ := Int.eq_ofNat_of_zero_le h0
    obtain ⟨l, rfl⟩ := Int.eq_ofNat_of_zero_le h1
    rw [cut_mid, Int.toNat_natCast, Int.toNat_natCast, List.map_take, List.map_drop])
theorem evf_slS {r s : List Str} {lo hi : Option Int} {tl th : TO} (ha : Evr K ta ρ (dS r)) (hl : Evo K tl ρ lo) (hh : Evo K th ρ hi) (e : cutV (r.map V.str) lo hi = s.map V.str) : Evf K (tSl (rSlA K) ta tl th) ρ (dS s) :=
  evf_sl ha hl hh fun H x Q hx q => .inl (by
    obtain ⟨a, xs, rfl, h1, k1⟩ := hx.list
    rw [k1.strs] at h1
    refine ⟨a, _, rfl, sql h1, fun p hp => q _ _ [p] (same_upd hp) ?_ fun c m => ?_⟩
    · rw [e]; exact .lst upd_same (OwAll.of_strs _) (fun m => nomatch m)
    · rw [List.mem_singleton.mp m]; exact hp)
theorem ev_slStr {z : Str} {lo hi : Option Int} {tl th : TO} (ha : Evr K ta ρ (.str z)) (hl : Evo K tl ρ lo) (hh : Evo K th ρ hi) (hz : z.length ≤ 1000000) : Evr K (tSl (rSlA K) ta tl th) ρ (.str (cutS z lo hi)) :=
  ev_sl ha hl hh fun H x Q hx q => .inr ⟨z, hx.str_eq, sz_le hz, q _ H (Same.refl H) (.str _)⟩
theorem evf_rev {r : List Int} (ha : Evr K ta ρ (dR r)) : Evf K (tRevL K ta) ρ (dR r.reverse) := fun σ H Q R q => ha σ H _ R fun x H1 e1 r1 => by
  obtain ⟨a, rfl, h1⟩ := r1.row
  refine ⟨a, _, rfl, sql h1, fun p hp => q _ _ [p] (e1.trans (same_upd hp)) ?_ fun c m => ?_⟩
  · rw [← List.map_reverse]; exact Ow.row upd_same
  · rw [List.mem_singleton.mp m]; exact e1.free hp
/-! ### built-ins -/
def rLenA (K : Frg) : List V → Hp → VK → Prop := fun xs H Q => ∃ x n, xs = [x] ∧ LenV K x H n ∧ Q (.int (n : Nat)) H
theorem cr_len {X : Cx} : CallR X (.builtin "len") (rLenA X.K) := call_len
theorem RpAll.one {H : Hp} {vs : List V} {d : PyData} (h : RpAll K H vs [d]) : ∃ v, vs = [v] ∧ Rp K H v d := by
  cases h with
  | cons h1 h2 => cases h2; exact ⟨_, rfl, h1⟩
theorem RpAll.two {H : Hp} {vs : List V} {d e : PyData} (h : RpAll K H vs [d, e]) : ∃ v w, vs = [v, w] ∧ Rp K H v d ∧ Rp K H w e := by
  cases h with
  | cons h1 h2 =>
    obtain ⟨w, rfl, h3⟩ := RpAll.one h2
    exact ⟨_, _, rfl, h1, h3⟩
theorem ev_lenL {ds : List PyData} (ha : Evr K ta ρ (.list ds)) : Evr K (tCB (rLenA K) (tCons ta tNil)) ρ (.int ds.length) := ev_cb (eva_cons ha eva_nil) fun H vs Q h q => by
  obtain ⟨v, rfl, hv⟩ := h.one
  obtain ⟨a, xs, rfl, h1, k1⟩ := hv.list
  exact ⟨_, ds.length, rfl, .inl ⟨xs, sql h1, k1.length.symm⟩, q _ H (Same.refl H) (.int _)⟩
theorem ev_len {α : Type} {c : α → PyData} {xs : List α} (ha : Evr K ta ρ (.list (xs.map c))) : Evr K (tCB (rLenA K) (tCons ta tNil)) ρ (.int xs.length) := (ev_lenL ha).cast (by rw [List.length_map])
theorem ev_lenT {ds : List PyData} (ha : Evr K ta ρ (.tuple ds)) : Evr K (tCB (rLenA K) (tCons ta tNil)) ρ (.int ds.length) := ev_cb (eva_cons ha eva_nil) fun H vs Q h q => by
  obtain ⟨v, rfl, hv⟩ := h.one
  obtain ⟨a, xs, rfl, h1, k1⟩ := hv.tuple
  exact ⟨_, ds.length, rfl, .inr ⟨xs, sqt h1, k1.length.symm⟩, q _ H (Same.refl H) (.int _)⟩
theorem ev_lenScr {ns : List Int} (ha : Evr K ta ρ (dScr ns)) : Evr K (tCB (rLenA K) (tCons ta tNil)) ρ (.int ns.length) := ev_cb (eva_cons ha eva_nil) fun H vs Q h q => by
  obtain ⟨v, rfl, hv⟩ := h.one
  obtain ⟨a, rfl, hs⟩ := hv.script
  exact ⟨_, ns.length, rfl, .inl ⟨_, hs, (List.length_map _).symm⟩, q _ H (Same.refl H) (.int _)⟩
theorem ev_lenStr {z : Str} (ha : Evr K ta ρ (.str z)) (hz : z.length ≤ 1000000) : Evr K (tCB (rLenA K) (tCons ta tNil)) ρ (.int z.length) := ev_cb (eva_cons ha eva_nil) fun H vs Q h q => by
  obtain ⟨v, rfl, hv⟩ := h.one
  obtain rfl := hv.str_eq
  exact ⟨_, z.length, rfl, ⟨sz_le hz, rfl⟩, q _ H (Same.refl H) (.int _)⟩
theorem ev_sum {r : List Int} (ha : Evr K ta ρ (dR r)) : Evr K (tCB (rSum K) (tCons ta tNil)) ρ (.int r.sum) := ev_cb (eva_cons ha eva_nil) fun H vs Q h q => by
  obtain ⟨v, rfl, hv⟩ := h.one
  obtain ⟨a, rfl, h1⟩ := hv.row
  exact ⟨a, r, rfl, sql h1, q _ H (Same.refl H) (.int _)⟩
def rMin2 : List V → Hp → VK → Prop := fun xs H Q => ∃ i j, xs = [.int i, .int j] ∧ Q (.int (if j < i then j else i)) H
def rMax2 : List V → Hp → VK → Prop := fun xs H Q => ∃ i j, xs = [.int i, .int j] ∧ Q (.int (if j > i then j else i)) H
theorem cr_min2 {X : Cx} (hc : X.calm = true) : CallR X (.builtin "min") rMin2 := call_min2 hc
theorem cr_max2 {X : Cx} (hc : X.calm = true) : CallR X (.builtin "max") rMax2 := call_max2 hc
theorem ev_min2 {i j : Int} (ha : Evr K ta ρ (.int i)) (hb : Evr K tb ρ (.int j)) : Evr K (tCB rMin2 (tCons ta (tCons tb tNil))) ρ (.int (min i j)) := ev_cb (eva_cons ha (eva_cons hb eva_nil)) fun H vs Q h q => by
  obtain ⟨v, w, rfl, hv, hw⟩ := h.two
  refine ⟨i, j, by rw [hv.int_eq, hw.int_eq], ?_⟩
  have e : (if j < i then j else i) = min i j := by split <;> omega
  rw [e]
  exact q _ H (Same.refl H) (.int _)
theorem ev_max2 {i j : Int} (ha : Evr K ta ρ (.int i)) (hb : Evr K tb ρ (.int j)) : Evr K (tCB rMax2 (tCons ta (tCons tb tNil))) ρ (.int (max i j)) := ev_cb (eva_cons ha (eva_cons hb eva_nil)) fun H vs Q h q => by
  obtain ⟨v, w, rfl, hv, hw⟩ := h.two
  refine ⟨i, j, by rw [hv.int_eq, hw.int_eq], ?_⟩
  have e : (if j > i then j else i) = max i j := by split <;> omega
  rw [e]
  exact q _ H (Same.refl H) (.int _)
theorem ev_maxL {r : List Int} {m : Int} (ha : Evr K ta ρ (dR r)) (hm : m ∈ r) (hle : ∀ y ∈ r, y ≤ m) : Evr K (tCB (rMax K) (tCons ta tNil)) ρ (.int m) := ev_cb (eva_cons ha eva_nil) fun H vs Q h q => by
  obtain ⟨v, rfl, hv⟩ := h.one
  obtain ⟨a, rfl, h1⟩ := hv.row
  refine ⟨a, r, rfl, sql h1, List.length_pos_of_mem hm, fun k hk hkl => ?_⟩
  have e : k = m := Int.le_antisymm (hle k hk) (hkl m hm)
  rw [e]
  exact q _ H (Same.refl H) (.int _)
theorem ev_minL {r : List Int} {m : Int} (ha : Evr K ta ρ (dR r)) (hm : m ∈ r) (hle : ∀ y ∈ r, m ≤ y) : Evr K (tCB (rMin K) (tCons ta tNil)) ρ (.int m) := ev_cb (eva_cons ha eva_nil) fun H vs Q h q => by
  obtain ⟨v, rfl, hv⟩ := h.one
  obtain ⟨a, rfl, h1⟩ := hv.row
  refine ⟨a, r, rfl, sql h1, List.length_pos_of_mem hm, fun k hk hkl => ?_⟩
  have e : k = m := Int.le_antisymm (hkl m hm) (hle k hk)
  rw [e]
  exact q _ H (Same.refl H) (.int _)
theorem evf_sorted {r s : List Int} (ha : Evr K ta ρ (dR r)) (hp : s.Perm r) (hs : s.Pairwise (· ≤ ·)) : Evf K (tCB (rSortedI K) (tCons ta tNil)) ρ (dR s) := evf_cb (eva_cons ha eva_nil) fun H vs Q h q => by
  obtain ⟨v, rfl, hv⟩ := h.one
  obtain ⟨a, rfl, h1⟩ := hv.row
  refine ⟨a, r, rfl, sql h1, fun ns' p e1 e2 hn => ?_⟩
  rw [sorted_one (e1.trans hp.symm) e2 hs]
  refine q _ _ [p] (same_upd hn) (Ow.row upd_same) fun c m => ?_
  rw [List.mem_singleton.mp m]; exact hn
def rListA (K : Frg) : List V → Hp → VK → Prop := fun xs H Q => ∃ p ys, xs = [.ref p] ∧ (SqL K H p ys ∨ SqT K H p ys) ∧ ∀ l, H l = none → Q (.ref l) (upd H l (.lst ys))
theorem cr_list {X : Cx} : CallR X (.type "list") (rListA X.K) := call_list_of
theorem evf_list {r : List Int} (ha : Evr K ta ρ (dR r)) : Evf K (tCB (rListA K) (tCons ta tNil)) ρ (dR r) := evf_cb (eva_cons ha eva_nil) fun H vs Q h q => by
  obtain ⟨v, rfl, hv⟩ := h.one
  obtain ⟨a, rfl, h1⟩ := hv.row
  refine ⟨a, _, rfl, .inl (sql h1), fun l hl => q _ _ [l] (same_upd hl) (Ow.row upd_same) fun c m => ?_⟩
  rw [List.mem_singleton.mp m]; exact hl
theorem rgV_ints (n : Int) : rgV 0 n = ((List.range n.toNat).map fun i : Nat => (i : Int)).map V.int := by
  unfold rgV
  rw [List.map_map, Int.sub_zero]
  refine List.map_congr_left fun i _ => ?_
  show V.int (0 + (i : Int)) = V.int (i : Int)
  rw [Int.zero_add]
theorem evf_listRg {n : Int} (ha : Evr K ta ρ (.int n)) (hn : n ≤ 1000000) (h0 : -1000000 ≤ n) : Evf K (tLstRg (tRg1 ta)) ρ (dR ((List.range n.toNat).map fun i : Nat => (i : Int))) := fun σ H Q R q => ha σ H _ R fun x H1 e1 r1 => by
  refine ⟨n, r1.int_eq, ⟨by omega, by omega, by omega, by omega⟩, fun p hp => ?_⟩
  rw [rgV_ints]
  refine q _ _ [p] (e1.trans (same_upd hp)) (Ow.row upd_same) fun c m => ?_
  rw [List.mem_singleton.mp m]; exact e1.free hp
/-! ### displays -/
theorem evf_lst {t : TA} {ds : List PyData} (h : Evaf K t ρ ds) (hl : ds.length ≤ 1000000 := by first | decide | simp) : Evf K (tLst t) ρ (.list ds) := fun σ H Q R q => h σ H _ R fun vs H1 F e1 r1 f1 =>
  ⟨by rw [r1.length]; exact sz_le hl, fun p hp => q _ _ (p :: F) (e1.trans (same_upd hp)) (.lst upd_same (r1.grow (same_upd hp)) fun m => by
    obtain ⟨o, ho⟩ := r1.dom p m
    rw [hp] at ho
    cases ho) fun a m => by
    rcases List.mem_cons.mp m with rfl | m
    · exact e1.free hp
    · exact f1 a m⟩
theorem evf_tup {t : TA} {ds : List PyData} (h : Evaf K t ρ ds) (hl : ds.length ≤ 1000000 := by first | decide | simp) : Evf K (tTup t) ρ (.tuple ds) := fun σ H Q R q => h σ H _ R fun vs H1 F e1 r1 f1 =>
  ⟨by rw [r1.length]; exact sz_le hl, fun p hp => q _ _ (p :: F) (e1.trans (same_upd hp)) (.tup upd_same (r1.grow (same_upd hp)) fun m => by
    obtain ⟨o, ho⟩ := r1.dom p m
    rw [hp] at ho
    cases ho) fun a m => by
    rcases List.mem_cons.mp m with rfl | m
    · exact e1.free hp
    · exact f1 a m⟩
theorem ev_lst {t : TA} {ds : List PyData} (h : Eva K t ρ ds) (hl : ds.length ≤ 1000000 := by first | decide | simp) : Evr K (tLst t) ρ (.list ds) := fun σ H Q R q => h σ H _ R fun vs H1 e1 r1 =>
  ⟨by rw [r1.length]; exact sz_le hl, fun p hp => q _ _ (e1.trans (same_upd hp)) (.lst upd_same (r1.mono (same_upd hp)))⟩
theorem ev_tup {t : TA} {ds : List PyData} (h : Eva K t ρ ds) (hl : ds.length ≤ 1000000 := by first | decide | simp) : Evr K (tTup t) ρ (.tuple ds) := fun σ H Q R q => h σ H _ R fun vs H1 e1 r1 =>
  ⟨by rw [r1.length]; exact sz_le hl, fun p hp => q _ _ (e1.trans (same_upd hp)) (.tup upd_same (r1.mono (same_upd hp)))⟩
/-! ### truth -/
theorem et_test {b : Bool} (h : Evr K te ρ (.bool b)) : Evt K (tTest te) ρ b := fun σ H Q R q => h σ H _ R fun v H1 e1 r1 => ⟨b, r1.bl_eq, q H1 e1⟩
theorem et_B {b : Bool} (h : Evr K te ρ (.bool b)) : Evt K (tB te) ρ b := fun σ H Q R q => h σ H _ R fun v H1 e1 r1 => ⟨b, r1.bl_eq, q H1 e1⟩
theorem et_yes : Evt K tYes ρ true := fun σ H Q R q => q H (Same.refl H)
theorem et_not {t : TT} {b : Bool} (h : Evt K t ρ b) : Evt K (tNot t) ρ (!b) := fun σ H Q R q => h σ H _ R fun H1 e1 => q H1 e1
theorem et_and {t u : TT} {a b : Bool} (h : Evt K t ρ a) (h2 : a = true → Evt K u ρ b) : Evt K (tAnd t u) ρ (a && b) := fun σ H Q R q => h σ H _ R fun H1 e1 => by
  cases a with
  | true =>
    show u σ H1 Q
    exact h2 rfl σ H1 Q (R.mono e1) fun H2 e2 => q H2 (e1.trans e2)
  | false =>
    show Q false H1
    exact q H1 e1
theorem et_or {t u : TT} {a b : Bool} (h : Evt K t ρ a) (h2 : a = false → Evt K u ρ b) : Evt K (tOr t u) ρ (a || b) := fun σ H Q R q => h σ H _ R fun H1 e1 => by
  cases a with
  | true =>
    show Q true H1
    exact q H1 e1
  | false =>
    show u σ H1 Q
    exact h2 rfl σ H1 Q (R.mono e1) fun H2 e2 => q H2 (e1.trans e2)
theorem ev_andV {a b : Bool} (h : Evr K ta ρ (.bool a)) (h2 : a = true → Evr K tb ρ (.bool b)) : Evr K (tAndV ta tb) ρ (.bool (a && b)) := fun σ H Q R q => h σ H _ R fun v H1 e1 r1 => ⟨a, r1.bl_eq, by
  cases a with
  | true =>
    show tb σ H1 Q
    exact h2 rfl σ H1 Q (R.mono e1) fun w H2 e2 r2 => q w H2 (e1.trans e2) r2
  | false =>
    show Q (.bl false) H1
    exact q _ H1 e1 (.bl _)⟩
theorem ev_orV {a b : Bool} (h : Evr K ta ρ (.bool a)) (h2 : a = false → Evr K tb ρ (.bool b)) : Evr K (tOrV ta tb) ρ (.bool (a || b)) := fun σ H Q R q => h σ H _ R fun v H1 e1 r1 => ⟨a, r1.bl_eq, by
  cases a with
  | true =>
    show Q (.bl true) H1
    exact q _ H1 e1 (.bl _)
  | false =>
    show tb σ H1 Q
    exact h2 rfl σ H1 Q (R.mono e1) fun w H2 e2 r2 => q w H2 (e1.trans e2) r2⟩
theorem ev_notV {a : Bool} (h : Evr K ta ρ (.bool a)) : Evr K (tNotV ta) ρ (.bool (!a)) := fun σ H Q R q => h σ H _ R fun v H1 e1 r1 => ⟨a, r1.bl_eq, q _ H1 e1 (.bl _)⟩
end
end Pur

set_option Elab.async false
set_option linter.all false
set_option maxRecDepth 100000
set_option maxHeartbeats 4000000
namespace Pur
open PySem L2
/-! ## comprehensions -/
section
variable {K : Frg} {H H' : Hp}
theorem RpAll.getV : ∀ {ds : List PyData} {vs : List V} {i : Nat} {v : V}, RpAll K H vs ds → vs[i]? = some v → ∃ d, ds[i]? = some d ∧ Rp K H v d
  | [], _, _, _, h, e => by cases h; simp at e
  | _ :: _, _, 0, _, h, e => by
    cases h with
    | cons h1 _ =>
      simp at e
      subst e
      exact ⟨_, rfl, h1⟩
  | _ :: _, _, i + 1, _, h, e => by
    cases h with
    | cons _ h2 => exact RpAll.getV (i := i) h2 (by simpa using e)
end
/-- the list at D holds what is made so far, new -/
def Cw (H : Hp) (D : Addr) (ds : List PyData) (H' : Hp) : Prop := H D = none ∧ Same H H' ∧ ∃ acc F, H' D = some (.lst acc) ∧ OwAll H' acc ds F ∧ ∀ a ∈ F, H a = none ∧ a ≠ D
section
variable {K : Frg} {ρ : DE} {ta tb te tl : TE} {tt : TT} {t : TA} {H H' : Hp} {D : Addr} {ds : List PyData} {σ : L2.St}
theorem Cw.start (h : H D = none) : Cw H D [] (upd H D (.lst [])) := ⟨h, same_upd h, [], [], upd_same, .nil, fun _ m => nomatch m⟩
theorem Cw.turn {d : PyData} {b : Bool} {Nx : Hp → Prop} (w : Cw H D ds H') (R : RelE K ρ σ H) (hl : ds.length < 1000000) (ht : Evt K tt ρ b) (he : b = true → Evf K te ρ d) (hn : ∀ H2, Cw H D (if b = true then ds ++ [d] else ds) H2 → Nx H2) :
    tt σ H' fun b H3 => if b = true then te σ H3 fun y H4 => ∃ acc, H4 D = some (.lst acc) ∧ acc.length < sizeLine ∧ Nx (upd H4 D (.lst (acc ++ [y]))) else Nx H3 := by
  obtain ⟨w1, w2, acc, F, w3, w4, w5⟩ := w
  refine ht σ H' _ (R.mono w2) fun H3 e3 => ?_
  cases b with
  | true =>
    show te σ H3 fun y H4 => ∃ acc, H4 D = some (.lst acc) ∧ acc.length < sizeLine ∧ Nx (upd H4 D (.lst (acc ++ [y])))
    refine he rfl σ H3 _ (R.mono (w2.trans e3)) fun y H4 G e4 o4 f4 => ?_
    have hD : H4 D = some (.lst acc) := e4 _ _ (e3 _ _ w3)
    have oD : ∀ a ∈ F ++ G, H a = none ∧ a ≠ D := fun a m => by
      rcases List.mem_append.mp m with m | m
      · exact w5 a m
      · refine ⟨(w2.trans e3).free (f4 a m), fun z => ?_⟩
        have q := f4 a m
        rw [z, e3 _ _ w3] at q
        cases q
    refine ⟨acc, hD, by rw [w4.length]; exact sz_lt hl, hn _ ⟨w1, same_mut ((w2.trans e3).trans e4) w1, acc ++ [y], F ++ (G ++ []), upd_same, ?_, fun a m => oD a (by simpa using m)⟩⟩
    refine OwAll.append ((w4.grow (e3.trans e4)).keep fun a m => upd_ne (w5 a m).2) (.cons (o4.keep fun a m => upd_ne (oD a (List.mem_append_right _ m)).2) .nil fun _ _ m => nomatch m) fun a m z => ?_
    have z2 : a ∈ G := by simpa using z
    obtain ⟨o, ho⟩ := (w4.grow e3).dom a m
    rw [f4 a z2] at ho
    cases ho
  | false =>
    show Nx H3
    exact hn _ ⟨w1, w2.trans e3, acc, F, e3 _ _ w3, w4.grow e3, w5⟩
theorem Cw.done {Q : VK} (w : Cw H D ds H') (q : ∀ v H2 F, Same H H2 → Ow H2 v (.list ds) F → (∀ a ∈ F, H a = none) → Q v H2) : Q (.ref D) H' := by
  obtain ⟨w1, w2, acc, F, w3, w4, w5⟩ := w
  refine q _ _ (D :: F) w2 (.lst w3 w4 fun m => (w5 D m).2 rfl) fun a m => ?_
  rcases List.mem_cons.mp m with rfl | m
  · exact w1
  · exact (w5 a m).1
theorem take_succ_some {α : Type} {xs : List α} {i : Nat} {x : α} (h : xs[i]? = some x) : xs.take (i + 1) = xs.take i ++ [x] := by
  rw [List.take_add_one, h]
  rfl
theorem fm_succ {α : Type} {xs : List α} {i : Nat} {x : α} {p : α → Bool} {g : α → PyData} (h : xs[i]? = some x) :
    (((xs.take (i + 1)).filter p).map g) = if p x = true then ((xs.take i).filter p).map g ++ [g x] else ((xs.take i).filter p).map g := by
  rw [take_succ_some h, List.filter_append, List.map_append]
  cases hp : p x with
  | true => simp [hp]
  | false => simp [hp]
theorem fm_len {α : Type} {xs : List α} {i : Nat} {p : α → Bool} {g : α → PyData} {m : Nat} (hi : i < xs.length) (hz : xs.length ≤ m) : (((xs.take i).filter p).map g).length < m := by
  rw [List.length_map]
  have := List.length_filter_le p (xs.take i)
  rw [List.length_take] at this
  omega
theorem wipe1 (σ : L2.St) (j : Nat) (x : Option V) : L2.wipe ((L2.wipe σ [j]).set j x) [j] = L2.wipe σ [j] := by
  show ((σ.set j none).set j x).set j none = σ.set j none
  rw [List.set_set, List.set_set]
theorem RelE.comp (R : RelE K ρ σ H) {v : V} {d : PyData} (r : Rp K H v d) (j : Nat) : RelE K (ρ.set j (some d)) ((L2.wipe σ [j]).set j (some v)) H := by
  show RelE K (ρ.set j (some d)) ((σ.set j none).set j (some v)) H
  rw [List.set_set]
  exact R.set r j
/-- [e for x in a list, if ..] -/
theorem evf_lcL {α : Type} {c : α → PyData} {xs : List α} {j : Nat} (p : α → Bool) (g : α → PyData) (hl : Evr K tl ρ (.list (xs.map c))) (hz : xs.length ≤ 1000000)
    (ht : ∀ x ∈ xs, Evt K tt (ρ.set j (some (c x))) (p x)) (he : ∀ x ∈ xs, p x = true → Evf K te (ρ.set j (some (c x))) (g x)) :
    Evf K (tLc (iList K tl) (gName j) tt te [j]) ρ (.list ((xs.filter p).map g)) := fun σ H Q R q => hl σ H _ R fun v H1 e1 r1 => by
  obtain ⟨a, vs, rfl, h1, k1⟩ := r1.list
  have hlen := k1.length
  rw [List.length_map] at hlen
  refine ⟨a, rfl, ⟨vs, sql h1⟩, fun D hD => ?_⟩
  refine lc_list (xs := vs) (fun i H' => Cw H1 D (((xs.take i).filter p).map g) H') (Cw.start hD) (fun i H' _ w => sql (w.2.1 a _ h1)) (fun i x H' hi w => ?_) (fun H' w => ?_)
  · have hi2 : i < xs.length := by
      rw [← hlen]
      exact (List.getElem?_eq_some_iff.mp hi).1
    obtain ⟨d, hd, rd⟩ := k1.getV hi
    rw [List.getElem?_map, List.getElem?_eq_getElem hi2] at hd
    have hm : xs[i] ∈ xs := List.getElem_mem hi2
    have ed : c xs[i] = d := Option.some.inj hd
    subst ed
    refine ⟨wipe1 _ _ _, ?_⟩
    refine w.turn (d := g xs[i]) ((R.mono e1).comp rd j) (fm_len hi2 hz) (ht _ hm) (he _ hm) fun H2 w2 => ?_
    rw [fm_succ (List.getElem?_eq_getElem hi2)]
    exact w2
  · rw [hlen, List.take_length] at w
    exact w.done fun v H2 F e o f => q v H2 F (e1.trans e) o fun a m => e1.free (f a m)
/-- over range(n) -/
theorem evf_lcR {n : Int} {j : Nat} (p : Nat → Bool) (g : Nat → PyData) (hl : Eva K t ρ [.int n]) (hz : n ≤ 1000000) (h0 : -1000000 ≤ n)
    (ht : ∀ i : Nat, (i : Int) < n → Evt K tt (ρ.set j (some (.int (i : Int)))) (p i)) (he : ∀ i : Nat, (i : Int) < n → p i = true → Evf K te (ρ.set j (some (.int (i : Int)))) (g i)) :
    Evf K (tLc (iRng1 t) (gName j) tt te [j]) ρ (.list (((List.range n.toNat).filter p).map g)) := fun σ H Q R q => hl σ H _ R fun vs H1 e1 r1 => by
  obtain ⟨v, rfl, hv⟩ := r1.one
  obtain rfl := hv.int_eq
  refine ⟨n, rfl, by omega, by omega, fun D hD => ?_⟩
  refine lc_range (lo := 0) (n := n.toNat) (fun i H' => Cw H1 D ((((List.range n.toNat).take i).filter p).map g) H') (Cw.start hD) (fun i H' hi w => ?_) (fun H' w => ?_)
  · have hi2 : i < (List.range n.toNat).length := by rw [List.length_range]; exact hi
    have hg : (List.range n.toNat)[i]? = some i := by rw [List.getElem?_eq_getElem hi2, List.getElem_range]
    refine ⟨wipe1 _ _ _, ?_⟩
    have e0 : (0 : Int) + (i : Int) = (i : Int) := Int.zero_add _
    rw [e0]
    refine w.turn (d := g i) ((R.mono e1).comp (.int (i : Int)) j) (fm_len hi2 (by rw [List.length_range]; omega)) (ht i (by omega)) (he i (by omega)) fun H2 w2 => ?_
    rw [fm_succ hg]
    exact w2
  · rw [List.take_of_length_le (by rw [List.length_range]; exact Nat.le_refl _)] at w
    exact w.done fun v H2 F e o f => q v H2 F (e1.trans e) o fun a m => e1.free (f a m)
/-- over range(lo, n) -/
theorem evf_lcR2 {lo n : Int} {j : Nat} (p : Nat → Bool) (g : Nat → PyData) (hl : Eva K t ρ [.int lo, .int n]) (hz : n ≤ 1000000 ∧ -1000000 ≤ n) (h0 : -1000000 ≤ lo ∧ lo ≤ 1000000) (hd : (n - lo).toNat ≤ 1000000)
    (ht : ∀ i : Nat, lo + (i : Int) < n → Evt K tt (ρ.set j (some (.int (lo + (i : Int))))) (p i)) (he : ∀ i : Nat, lo + (i : Int) < n → p i = true → Evf K te (ρ.set j (some (.int (lo + (i : Int))))) (g i)) :
    Evf K (tLc (iRng2 t) (gName j) tt te [j]) ρ (.list (((List.range (n - lo).toNat).filter p).map g)) := fun σ H Q R q => hl σ H _ R fun vs H1 e1 r1 => by
  obtain ⟨v, w, rfl, hv, hw⟩ := r1.two
  obtain rfl := hv.int_eq
  obtain rfl := hw.int_eq
  refine ⟨lo, n, rfl, ⟨by omega, by omega, by omega, by omega⟩, fun D hD => ?_⟩
  refine lc_range (lo := lo) (n := (n - lo).toNat) (fun i H' => Cw H1 D ((((List.range (n - lo).toNat).take i).filter p).map g) H') (Cw.start hD) (fun i H' hi w => ?_) (fun H' w => ?_)
  · have hi2 : i < (List.range (n - lo).toNat).length := by rw [List.length_range]; exact hi
    have hg : (List.range (n - lo).toNat)[i]? = some i := by rw [List.getElem?_eq_getElem hi2, List.getElem_range]
    refine ⟨wipe1 _ _ _, ?_⟩
    refine w.turn (d := g i) ((R.mono e1).comp (.int (lo + (i : Int))) j) (fm_len hi2 (by rw [List.length_range]; exact hd)) (ht i (by omega)) (he i (by omega)) fun H2 w2 => ?_
    rw [fm_succ hg]
    exact w2
  · rw [List.take_of_length_le (by rw [List.length_range]; exact Nat.le_refl _)] at w
    exact w.done fun v H2 F e o f => q v H2 F (e1.trans e) o fun a m => e1.free (f a m)
end
/-! ## what a def promises -/
def After (H : Hp) (Q : VK) (E : XK) : Except Addr PyData → Prop
  | .ok d => ∀ v H' F, Same H H' → Ow H' v d F → (∀ a ∈ F, H a = none) → Q v H'
  | .error c => ∀ H', Same H H' → E (.ref c) none H'
/-- R: from the arguments' data to what is handed back, or the error's class -/
def spOf (K : Frg) (R : List PyData → Except Addr PyData → Prop) : Sp := fun vs H Q E => ∃ ds o, RpAll K H vs ds ∧ R ds o ∧ After H Q E o
/-- evaluating raises an error of the class at c -/
def EvX (K : Frg) (W : WX) (te : TE) (ρ : DE) (c : Addr) : Prop := ∀ (σ : L2.St) (H : Hp) (Q : VK), RelE K ρ σ H → (∀ H', Same H H' → W (.ref c) none σ H') → te σ H Q
def EvaX (K : Frg) (W : WX) (ta : TA) (ρ : DE) (c : Addr) : Prop := ∀ (σ : L2.St) (H : Hp) (Q : List V → Hp → Prop), RelE K ρ σ H → (∀ H', Same H H' → W (.ref c) none σ H') → ta σ H Q
section
variable {K : Frg} {ρ : DE} {ta tb te : TE} {t : TA} {R : List PyData → Except Addr PyData → Prop} {ds : List PyData} {d : PyData} {E : XK} {W : WX} {c : Addr}
theorem evf_call (ha : Eva K t ρ ds) (h : R ds (.ok d)) : Evf K (tCall (spOf K R) [] E t) ρ d := fun σ H Q Re q => ha σ H _ Re fun vs H1 e1 r1 =>
  ⟨ds, .ok d, by rw [List.append_nil]; exact r1, h, fun v H2 F e2 o f => q v H2 F (e1.trans e2) o fun a m => e1.free (f a m)⟩
theorem evf_callS {E : L2.St → XK} (ha : Eva K t ρ ds) (h : R ds (.ok d)) : Evf K (tCallS (spOf K R) E t) ρ d := fun σ H Q Re q => ha σ H _ Re fun vs H1 e1 r1 =>
  ⟨ds, .ok d, r1, h, fun v H2 F e2 o f => q v H2 F (e1.trans e2) o fun a m => e1.free (f a m)⟩
theorem evx_callS (ha : Eva K t ρ ds) (h : R ds (.error c)) : EvX K W (tCallS (spOf K R) (WE W) t) ρ c := fun σ H Q Re q => ha σ H _ Re fun vs H1 e1 r1 =>
  ⟨ds, .error c, r1, h, fun H2 e2 => q H2 (e1.trans e2)⟩
theorem evax_1 {tr : TA} (h : EvX K W ta ρ c) : EvaX K W (tCons ta tr) ρ c := fun σ H Q R q => h σ H _ R q
theorem evax_2 {tr : TA} (ha : Evr K ta ρ d) (h : EvaX K W tr ρ c) : EvaX K W (tCons ta tr) ρ c := fun σ H Q R q => ha σ H _ R fun v H1 e1 _ => h σ H1 _ (R.mono e1) fun H2 e2 => q H2 (e1.trans e2)
theorem evx_cb {r : List V → Hp → VK → Prop} (h : EvaX K W t ρ c) : EvX K W (tCB r t) ρ c := fun σ H Q R q => h σ H _ R q
theorem evx_arg {sp : Sp} {E : L2.St → XK} (h : EvaX K W t ρ c) : EvX K W (tCallS sp E t) ρ c := fun σ H Q R q => h σ H _ R q
theorem evx_arg0 {sp : Sp} {E : XK} (h : EvaX K W t ρ c) : EvX K W (tCall sp [] E t) ρ c := fun σ H Q R q => h σ H _ R q
theorem evx_op1 {r : R2} (h : EvX K W ta ρ c) : EvX K W (tOp r ta tb) ρ c := fun σ H Q R q => h σ H _ R q
theorem evx_op2 {r : R2} (ha : Evr K ta ρ d) (h : EvX K W tb ρ c) : EvX K W (tOp r ta tb) ρ c := fun σ H Q R q => ha σ H _ R fun v H1 e1 _ => h σ H1 _ (R.mono e1) fun H2 e2 => q H2 (e1.trans e2)
theorem evx_lcL {g : TG} {tt : TT} {vs : List Nat} (h : EvX K W ta ρ c) : EvX K W (tLc (iList K ta) g tt te vs) ρ c := fun σ H Q R q => h σ H _ R q
end
end Pur

set_option Elab.async false
set_option linter.all false
set_option maxRecDepth 100000
set_option maxHeartbeats 4000000
namespace Pur
open PySem L2
/-! ## what a name holds between statements: no: nothing that is known; fr: data that stays; al: data that stays till something is changed; o1: a list of its own, what is in it stays; ow: data of its own -/
inductive Sl where
  | no
  | fr (d : PyData)
  | al (d : PyData)
  | o1 (d : PyData)
  | ow (d : PyData)
  | at (a : Addr) (r : List Int)
def erS : Sl → Option PyData
  | .no => none
  | .fr d => some d
  | .al d => some d
  | .o1 d => some d
  | .ow d => some d
  | .at _ r => some (dR r)
abbrev er (ρ : List Sl) : DE := ρ.map erS
def killS : Sl → Sl
  | .al _ => .no
  | s => s
abbrev kill (ρ : List Sl) : List Sl := ρ.map killS
def SlOk (K : Frg) (Z H : Hp) : Sl → Option (Option V) → List Addr → Prop
  | .no, _, F => F = []
  | .fr d, x, F => F = [] ∧ ∃ v, x = some (some v) ∧ Rp K Z v d
  | .al d, x, F => F = [] ∧ ∃ v, x = some (some v) ∧ Rp K H v d
  | .o1 d, x, F => ∃ a xs ds, d = .list ds ∧ x = some (some (.ref a)) ∧ H a = some (.lst xs) ∧ RpAll K Z xs ds ∧ F = [a]
  | .ow d, x, F => ∃ v, x = some (some v) ∧ Ow H v d F
  | .at a r, x, F => x = some (some (.ref a)) ∧ H a = some (.lst (r.map V.int)) ∧ F = [a]
structure Own (K : Frg) (Z H : Hp) (ρ : List Sl) (σ : L2.St) (Fs : Nat → List Addr) : Prop where
  ok : ∀ i s, ρ[i]? = some s → SlOk K Z H s σ[i]? (Fs i)
  dis : ∀ i j, i ≠ j → ∀ a ∈ Fs i, a ∉ Fs j
  fr : ∀ i, ∀ a ∈ Fs i, Z a = none
  out : ∀ i, ρ.length ≤ i → Fs i = []
structure RelS (K : Frg) (Z : Hp) (ρ : List Sl) (σ : L2.St) (H : Hp) : Prop where
  len : ρ.length = σ.length
  ext : Same Z H
  ex : ∃ Fs, Own K Z H ρ σ Fs
section
variable {K : Frg} {Z Z' H H' : Hp} {ρ : List Sl} {σ : L2.St} {Fs : Nat → List Addr} {s : Sl} {x : Option (Option V)} {F : List Addr}
theorem SlOk.dom (h : SlOk K Z H s x F) : ∀ a ∈ F, ∃ o, H a = some o := by
  cases s with
  | no =>
    obtain rfl := h
    exact fun _ m => nomatch m
  | fr d =>
    obtain ⟨rfl, _⟩ := h
    exact fun _ m => nomatch m
  | al d =>
    obtain ⟨rfl, _⟩ := h
    exact fun _ m => nomatch m
  | o1 d =>
    obtain ⟨a, xs, ds, rfl, rfl, h1, h2, rfl⟩ := h
    intro b m
    rw [List.mem_singleton.mp m]
    exact ⟨_, h1⟩
  | ow d =>
    obtain ⟨v, rfl, h1⟩ := h
    exact h1.dom
  | «at» a r =>
    obtain ⟨rfl, h1, rfl⟩ := h
    intro b m
    rw [List.mem_singleton.mp m]
    exact ⟨_, h1⟩
theorem SlOk.grow (h : SlOk K Z H s x F) (e : Same H H') : SlOk K Z H' s x F := by
  cases s with
  | no => exact h
  | fr d => exact h
  | al d =>
    obtain ⟨rfl, v, h1, h2⟩ := h
    exact ⟨rfl, v, h1, h2.mono e⟩
  | o1 d =>
    obtain ⟨a, xs, ds, rfl, rfl, h1, h2, rfl⟩ := h
    exact ⟨a, xs, ds, rfl, rfl, e _ _ h1, h2, rfl⟩
  | ow d =>
    obtain ⟨v, rfl, h1⟩ := h
    exact ⟨v, rfl, h1.grow e⟩
  | «at» a r =>
    obtain ⟨rfl, h1, rfl⟩ := h
    exact ⟨rfl, e _ _ h1, rfl⟩
/-- more stays -/
theorem SlOk.more (h : SlOk K Z H s x F) (e : Same Z Z') : SlOk K Z' H s x F := by
  cases s with
  | no => exact h
  | fr d =>
    obtain ⟨rfl, v, h1, h2⟩ := h
    exact ⟨rfl, v, h1, h2.mono e⟩
  | al d => exact h
  | o1 d =>
    obtain ⟨a, xs, ds, rfl, rfl, h1, h2, rfl⟩ := h
    exact ⟨a, xs, ds, rfl, rfl, h1, h2.mono e, rfl⟩
  | ow d => exact h
  | «at» a r => exact h
/-- changed elsewhere -/
theorem SlOk.keep (h : SlOk K Z H s x F) (k : ∀ a ∈ F, H' a = H a) : SlOk K Z H' (killS s) x F := by
  cases s with
  | no => exact h
  | fr d => exact h
  | al d =>
    obtain ⟨rfl, v, h1, h2⟩ := h
    exact rfl
  | o1 d =>
    obtain ⟨a, xs, ds, rfl, rfl, h1, h2, rfl⟩ := h
    exact ⟨a, xs, ds, rfl, rfl, (k a List.mem_cons_self).trans h1, h2, rfl⟩
  | ow d =>
    obtain ⟨v, rfl, h1⟩ := h
    exact ⟨v, rfl, h1.keep k⟩
  | «at» a r =>
    obtain ⟨rfl, h1, rfl⟩ := h
    exact ⟨rfl, (k a List.mem_cons_self).trans h1, rfl⟩
theorem SlOk.read (h : SlOk K Z H s x F) (e : Same Z H) {d : PyData} (q : erS s = some d) : ∃ v, x = some (some v) ∧ Rp K H v d := by
  cases s with
  | no => cases q
  | fr d =>
    cases q
    obtain ⟨rfl, v, h1, h2⟩ := h
    exact ⟨v, h1, h2.mono e⟩
  | al d =>
    cases q
    obtain ⟨rfl, v, h1, h2⟩ := h
    exact ⟨v, h1, h2⟩
  | o1 d =>
    cases q
    obtain ⟨a, xs, ds, rfl, rfl, h1, h2, rfl⟩ := h
    exact ⟨_, rfl, .lst h1 (h2.mono e)⟩
  | ow d =>
    cases q
    obtain ⟨v, rfl, h1⟩ := h
    exact ⟨v, rfl, h1.rp⟩
  | «at» a r =>
    cases q
    obtain ⟨rfl, h1, rfl⟩ := h
    exact ⟨_, rfl, .lst h1 (RpAll.of_ints r)⟩
theorem RelS.relE (R : RelS K Z ρ σ H) : RelE K (er ρ) σ H := by
  obtain ⟨Fs, O⟩ := R.ex
  refine ⟨by rw [List.length_map]; exact R.len, fun i d h => ?_⟩
  rw [List.getElem?_map] at h
  cases e : ρ[i]? with
  | none => rw [e] at h; cases h
  | some s =>
    rw [e] at h
    have q : erS s = some d := Option.some.inj h
    exact (O.ok i s e).read R.ext q
theorem RelS.grow (R : RelS K Z ρ σ H) (e : Same H H') : RelS K Z ρ σ H' := by
  obtain ⟨Fs, O⟩ := R.ex
  exact ⟨R.len, R.ext.trans e, Fs, fun i s h => (O.ok i s h).grow e, O.dis, O.fr, O.out⟩
theorem Own.dom (O : Own K Z H ρ σ Fs) (j : Nat) : ∀ a ∈ Fs j, ∃ o, H a = some o := fun a m => by
  by_cases hj : j < ρ.length
  · exact (O.ok j ρ[j] (List.getElem?_eq_getElem hj)).dom a m
  · rw [O.out j (by omega)] at m
    cases m
def putF (Fs : Nat → List Addr) (i : Nat) (F : List Addr) : Nat → List Addr := fun k => if k = i then F else Fs k
theorem putF_same {i : Nat} : putF Fs i F i = F := if_pos rfl
theorem putF_ne {i k : Nat} (h : k ≠ i) : putF Fs i F k = Fs k := if_neg h
/-- one name's part exchanged -/
theorem Own.put {τ : L2.St} {ρ' : List Sl} {i : Nat} {s' : Sl} (hρ : ρ'.length = ρ.length) (hi : i < ρ.length) (hs : ρ'[i]? = some s') (ok : SlOk K Z H s' τ[i]? F) (ho : ∀ k s, k ≠ i → ρ'[k]? = some s → SlOk K Z H s τ[k]? (Fs k))
    (dis : ∀ i j, i ≠ j → ∀ a ∈ Fs i, a ∉ Fs j) (hfr : ∀ i, ∀ a ∈ Fs i, Z a = none) (out : ∀ i, ρ.length ≤ i → Fs i = []) (off : ∀ k, k ≠ i → ∀ a ∈ F, a ∉ Fs k) (fr : ∀ a ∈ F, Z a = none) : Own K Z H ρ' τ (putF Fs i F) := by
  refine ⟨fun k s h => ?_, fun k j hkj a m => ?_, fun k a m => ?_, fun k hk => ?_⟩
  · by_cases hk : k = i
    · subst hk
      rw [hs] at h
      cases h
      rw [putF_same]
      exact ok
    · rw [putF_ne hk]
      exact ho k s hk h
  · by_cases hk : k = i
    · subst hk
      rw [putF_same] at m
      rw [putF_ne (Ne.symm hkj)]
      exact off j (Ne.symm hkj) a m
    · rw [putF_ne hk] at m
      by_cases hj : j = i
      · subst hj
        rw [putF_same]
        exact fun z => off k hk a z m
      · rw [putF_ne hj]
        exact dis k j hkj a m
  · by_cases hk : k = i
    · subst hk
      rw [putF_same] at m
      exact fr a m
    · rw [putF_ne hk] at m
      exact hfr k a m
  · rw [putF_ne (by omega)]
    exact out k (by omega)
/-- a name gets a value -/
theorem RelS.put (R : RelS K Z ρ σ H) (e : Same H H') {i : Nat} {s' : Sl} {v : V} (ok : SlOk K Z H' s' (some (some v)) F) (fr : ∀ a ∈ F, H a = none) : RelS K Z (ρ.set i s') (σ.set i (some v)) H' := by
  by_cases hi : i < ρ.length
  case neg =>
    rw [List.set_eq_of_length_le (by omega), List.set_eq_of_length_le (by rw [← R.len]; omega)]
    exact R.grow e
  obtain ⟨Fs, O⟩ := R.ex
  have hiσ : i < σ.length := by rw [← R.len]; exact hi
  refine ⟨by rw [List.length_set, List.length_set]; exact R.len, R.ext.trans e, putF Fs i F, ?_⟩
  refine Own.put (ρ := ρ) (by rw [List.length_set]) hi (List.getElem?_set_self hi) (by rw [List.getElem?_set_self hiσ]; exact ok) (fun k s hk h => ?_) O.dis O.fr O.out (fun k hk a m z => ?_) fun a m => R.ext.free (fr a m)
  · rw [List.getElem?_set_ne (Ne.symm hk)] at h
    rw [List.getElem?_set_ne (Ne.symm hk)]
    exact (O.ok k s h).grow e
  · obtain ⟨o, q⟩ := O.dom k a z
    rw [fr a m] at q
    cases q
/-- less is known -/
inductive Wk : Sl → Sl → Prop
  | rfl (s : Sl) : Wk s s
  | no (s : Sl) : Wk s .no
  | oa (d : PyData) : Wk (.ow d) (.al d)
  | fa (d : PyData) : Wk (.fr d) (.al d)
  | so {d : PyData} : Scal d → Wk (.fr d) (.ow d)
  | sf {d : PyData} : Scal d → Wk (.ow d) (.fr d)
  | sa {d : PyData} : Scal d → Wk (.al d) (.fr d)
  | oo (d : PyData) : Wk (.o1 d) (.al d)
theorem SlOk.wk {s' : Sl} (h : SlOk K Z H s x F) (w : Wk s s') (e : Same Z H) : ∃ F', SlOk K Z H s' x F' ∧ ∀ a ∈ F', a ∈ F := by
  cases w with
  | rfl => exact ⟨F, h, fun _ m => m⟩
  | no => exact ⟨[], rfl, fun _ m => nomatch m⟩
  | oa d =>
    obtain ⟨v, h1, h2⟩ := h
    exact ⟨[], ⟨rfl, v, h1, h2.rp⟩, fun _ m => nomatch m⟩
  | fa d =>
    obtain ⟨_, v, h1, h2⟩ := h
    exact ⟨[], ⟨rfl, v, h1, h2.mono e⟩, fun _ m => nomatch m⟩
  | so sc =>
    obtain ⟨_, v, h1, h2⟩ := h
    exact ⟨[], ⟨v, h1, h2.ow sc⟩, fun _ m => nomatch m⟩
  | sf sc =>
    obtain ⟨v, h1, h2⟩ := h
    exact ⟨[], ⟨rfl, v, h1, (h2.rp (K := K)).any sc⟩, fun _ m => nomatch m⟩
  | sa sc =>
    obtain ⟨_, v, h1, h2⟩ := h
    exact ⟨[], ⟨rfl, v, h1, h2.any sc⟩, fun _ m => nomatch m⟩
  | oo d =>
    obtain ⟨a, xs, ds, rfl, rfl, h1, h2, rfl⟩ := h
    exact ⟨[], ⟨rfl, _, rfl, .lst h1 (h2.mono e)⟩, fun _ m => nomatch m⟩
theorem RelS.wk1 (R : RelS K Z ρ σ H) {i : Nat} {s s' : Sl} (hs : ρ[i]? = some s) (w : Wk s s') : RelS K Z (ρ.set i s') σ H := by
  obtain ⟨Fs, O⟩ := R.ex
  have hi : i < ρ.length := (List.getElem?_eq_some_iff.mp hs).1
  obtain ⟨F', h1, h2⟩ := (O.ok i s hs).wk w R.ext
  refine ⟨by rw [List.length_set]; exact R.len, R.ext, putF Fs i F', ?_⟩
  refine Own.put (ρ := ρ) (by rw [List.length_set]) hi (List.getElem?_set_self hi) h1 (fun k s hk h => ?_) O.dis O.fr O.out (fun k hk a m z => ?_) fun a m => O.fr i a (h2 a m)
  · rw [List.getElem?_set_ne (Ne.symm hk)] at h
    exact O.ok k s h
  · exact O.dis i k (Ne.symm hk) a (h2 a m) z
theorem RelS.no (R : RelS K Z ρ σ H) (i : Nat) : RelS K Z (ρ.set i .no) σ H := by
  by_cases hi : i < ρ.length
  · exact R.wk1 (List.getElem?_eq_getElem hi) (.no _)
  · rw [List.set_eq_of_length_le (by omega)]
    exact R
/-- what is held stays from now on -/
theorem RelS.frz (R : RelS K Z ρ σ H) {i : Nat} {d : PyData} (hs : ρ[i]? = some (.ow d)) : ∃ Z', Same Z Z' ∧ RelS K Z' (ρ.set i (.fr d)) σ H := by
  obtain ⟨Fs, O⟩ := R.ex
  have hi : i < ρ.length := (List.getElem?_eq_some_iff.mp hs).1
  obtain ⟨v, h1, h2⟩ := O.ok i _ hs
  have hz : Same Z (fun b => if b ∈ Fs i then H b else Z b) := fun a o q => by
    show (if a ∈ Fs i then H a else Z a) = some o
    by_cases m : a ∈ Fs i
    · rw [O.fr i a m] at q
      cases q
    · rw [if_neg m]
      exact q
  refine ⟨fun b => if b ∈ Fs i then H b else Z b, hz, by rw [List.length_set]; exact R.len, fun a o q => ?_, putF Fs i [], ?_⟩
  · have q' : (if a ∈ Fs i then H a else Z a) = some o := q
    by_cases m : a ∈ Fs i
    · rw [if_pos m] at q'
      exact q'
    · rw [if_neg m] at q'
      exact R.ext a o q'
  refine ⟨fun k s h => ?_, fun k j hkj a m => ?_, fun k a m => ?_, fun k hk => ?_⟩
  · by_cases hk : k = i
    · subst hk
      rw [List.getElem?_set_self hi] at h
      cases h
      exact ⟨putF_same, v, h1, h2.rpz fun a m => if_pos m⟩
    · rw [List.getElem?_set_ne (Ne.symm hk)] at h
      rw [putF_ne hk]
      exact (O.ok k s h).more hz
  · by_cases hk : k = i
    · subst hk
      rw [putF_same] at m
      cases m
    · rw [putF_ne hk] at m
      by_cases hj : j = i
      · subst hj
        rw [putF_same]
        exact fun z => nomatch z
      · rw [putF_ne hj]
        exact O.dis k j hkj a m
  · by_cases hk : k = i
    · subst hk
      rw [putF_same] at m
      cases m
    · rw [putF_ne hk] at m
      show (if a ∈ Fs i then H a else Z a) = none
      rw [if_neg (O.dis k i hk a m)]
      exact O.fr k a m
  · by_cases hk2 : k = i
    · subst hk2
      exact putF_same
    · rw [putF_ne hk2]
      exact O.out k (by rw [List.length_set] at hk; exact hk)
/-- a moved name: i takes what j held -/
theorem RelS.move (R : RelS K Z ρ σ H) {i j : Nat} {d : PyData} {v : V} (hs : ρ[j]? = some (.ow d)) (hv : σ[j]? = some (some v)) (hi : i < ρ.length) (hij : i ≠ j) : RelS K Z ((ρ.set j .no).set i (.ow d)) (σ.set i (some v)) H := by
  obtain ⟨Fs, O⟩ := R.ex
  have hj : j < ρ.length := (List.getElem?_eq_some_iff.mp hs).1
  have hiσ : i < σ.length := by rw [← R.len]; exact hi
  obtain ⟨v', h1, h2⟩ := O.ok j _ hs
  rw [hv] at h1
  cases h1
  refine ⟨by rw [List.length_set, List.length_set, List.length_set]; exact R.len, R.ext, putF (putF Fs j []) i (Fs j), ?_⟩
  refine Own.put (ρ := ρ.set j .no) (by rw [List.length_set, List.length_set]) (by rw [List.length_set]; exact hi) (List.getElem?_set_self (by rw [List.length_set]; exact hi)) (by rw [List.getElem?_set_self hiσ]; exact ⟨v, rfl, h2⟩) (fun k s hk h => ?_) ?_ ?_ ?_ (fun k hk a m z => ?_) fun a m => O.fr j a m
  · rw [List.getElem?_set_ne (Ne.symm hk)] at h
    rw [List.getElem?_set_ne (Ne.symm hk)]
    by_cases hkj : k = j
    · subst hkj
      rw [List.getElem?_set_self hj] at h
      cases h
      exact putF_same
    · rw [List.getElem?_set_ne (Ne.symm hkj)] at h
      rw [putF_ne hkj]
      exact O.ok k s h
  · intro k l hkl a m
    by_cases hk : k = j
    · subst hk
      rw [putF_same] at m
      cases m
    · rw [putF_ne hk] at m
      by_cases hl : l = j
      · subst hl
        rw [putF_same]
        exact fun z => nomatch z
      · rw [putF_ne hl]
        exact O.dis k l hkl a m
  · intro k a m
    by_cases hk : k = j
    · subst hk
      rw [putF_same] at m
      cases m
    · rw [putF_ne hk] at m
      exact O.fr k a m
  · intro k hk
    by_cases hkj : k = j
    · subst hkj
      exact putF_same
    · rw [putF_ne hkj]
      exact O.out k (by rw [List.length_set] at hk; exact hk)
  · by_cases hkj : k = j
    · subst hkj
      rw [putF_same] at z
      cases z
    · rw [putF_ne hkj] at z
      exact O.dis j k (Ne.symm hkj) a m z
/-- the object at a, a part of what i owns, is changed; s' is what i holds then, at F' -/
theorem RelS.chg (R : RelS K Z ρ σ H) {i : Nat} {s s' : Sl} {F' : List Addr} (hs : ρ[i]? = some s) (O : Own K Z H ρ σ Fs) (k : ∀ b, b ∉ Fs i → ∀ o, H b = some o → H' b = some o)
    (ok : SlOk K Z H' s' σ[i]? F') (hF : ∀ a ∈ F', a ∈ Fs i ∨ H a = none) : RelS K Z ((kill ρ).set i s') σ H' := by
  have hi : i < ρ.length := (List.getElem?_eq_some_iff.mp hs).1
  have hkl : (kill ρ).length = ρ.length := List.length_map _
  refine ⟨by rw [List.length_set, hkl]; exact R.len, fun a o q => k a (fun m => ?_) o (R.ext a o q), putF Fs i F', ?_⟩
  · rw [O.fr i a m] at q
    cases q
  refine Own.put (ρ := ρ) (by rw [List.length_set, hkl]) hi (List.getElem?_set_self (by rw [hkl]; exact hi)) ok (fun j t hj h => ?_) O.dis O.fr O.out (fun j hj a m z => ?_) fun a m => ?_
  · rw [List.getElem?_set_ne (Ne.symm hj), List.getElem?_map] at h
    cases e : ρ[j]? with
    | none => rw [e] at h; cases h
    | some u =>
      rw [e] at h
      have q : killS u = t := Option.some.inj h
      subst q
      refine (O.ok j u e).keep fun a m => ?_
      obtain ⟨o, ho⟩ := (O.ok j u e).dom a m
      rw [ho]
      exact k a (O.dis j i hj a m) o ho
  · rcases hF a m with m | m
    · exact O.dis i j (Ne.symm hj) a m z
    · obtain ⟨o, ho⟩ := O.dom j a z
      rw [m] at ho
      cases ho
  · rcases hF a m with m | m
    · exact O.fr i a m
    · exact R.ext.free m
end
/-! ## what a statement does -/
inductive Out where
  | nx (ρ : List Sl)
  | rt (d : PyData)
  | ex (c : Addr) (ρ : List Sl)
def Done (K : Frg) (W : WX) (Z : Hp) (D : Ends) : Out → Prop
  | .nx ρ => ∀ Z' σ H, Same Z Z' → RelS K Z' ρ σ H → D.nx σ H
  | .rt d => ∀ v H F, Same Z H → Ow H v d F → (∀ a ∈ F, Z a = none) → D.rt v H
  | .ex c ρ => ∀ Z' σ H, Same Z Z' → RelS K Z' ρ σ H → W (.ref c) none σ H
def Does (K : Frg) (W : WX) (t : TS) (ρ : List Sl) (o : Out) : Prop := ∀ Z σ H D, RelS K Z ρ σ H → Done K W Z D o → t D σ H
section
variable {K : Frg} {W : WX} {Z Z' H H' : Hp} {ρ ρ1 ρ2 : List Sl} {σ : L2.St} {t u : TS} {te ta tb : TE} {tc : TT} {o : Out} {d e : PyData} {i j : Nat} {D : Ends} {c : Addr} {b : Bool}
theorem Done.more (h : Done K W Z D o) (e : Same Z Z') : Done K W Z' D o := by
  cases o with
  | nx ρ => exact fun Z2 σ H e2 R => h Z2 σ H (e.trans e2) R
  | rt d => exact fun v H F e2 w f => h v H F (e.trans e2) w fun a m => e.free (f a m)
  | ex c ρ => exact fun Z2 σ H e2 R => h Z2 σ H (e.trans e2) R
theorem does_seq (h : Does K W t ρ (.nx ρ1)) (h2 : Does K W u ρ1 o) : Does K W (tSeq t u) ρ o := fun Z σ H D R q =>
  h Z σ H { D with nx := u D } R fun Z2 σ2 H2 e2 R2 => h2 Z2 σ2 H2 D R2 (q.more e2)
theorem does_seq_rt (h : Does K W t ρ (.rt d)) : Does K W (tSeq t u) ρ (.rt d) := fun Z σ H D R q => h Z σ H { D with nx := u D } R q
theorem does_seq_ex (h : Does K W t ρ (.ex c ρ1)) : Does K W (tSeq t u) ρ (.ex c ρ1) := fun Z σ H D R q => h Z σ H { D with nx := u D } R q
theorem does_next : Does K W tNext ρ (.nx ρ) := fun Z σ H D R q => q Z σ H (Same.refl Z) R
theorem does_skip (h : Does K W u ρ o) : Does K W (tSeq tNext u) ρ o := does_seq does_next h
theorem does_cast (h : Does K W t ρ o) {o' : Out} (q : o = o') : Does K W t ρ o' := q ▸ h
theorem does_if (hc : Evt K tc (er ρ) b) (h1 : b = true → Does K W t ρ o) (h2 : b = false → Does K W u ρ o) : Does K W (tIfS tc t u) ρ o := fun Z σ H D R q => hc σ H _ R.relE fun H1 e1 => by
  cases b with
  | true =>
    show t D σ H1
    exact h1 rfl Z σ H1 D (R.grow e1) q
  | false =>
    show u D σ H1
    exact h2 rfl Z σ H1 D (R.grow e1) q
theorem does_ift (hc : Evt K tc (er ρ) true) (h1 : Does K W t ρ o) : Does K W (tIfS tc t u) ρ o := does_if hc (fun _ => h1) fun z => nomatch z
theorem does_iff (hc : Evt K tc (er ρ) false) (h1 : Does K W u ρ o) : Does K W (tIfS tc t u) ρ o := does_if hc (fun z => nomatch z) fun _ => h1
/-- x = e, e new -/
theorem does_asg (h : Evf K te (er ρ) d): Does K W (tAsg te (gName i)) ρ (.nx (ρ.set i (.ow d))) := fun Z σ H D R q => h σ H _ R.relE fun v H1 F e1 w f =>
  q Z _ H1 (Same.refl Z) (R.put e1 (s' := .ow d) ⟨v, rfl, w⟩ f)
/-- x = e, a number, a truth value, a text -/
theorem does_asgs (h : Evr K te (er ρ) d) (s : Scal d): Does K W (tAsg te (gName i)) ρ (.nx (ρ.set i (.fr d))) := fun Z σ H D R q => h σ H _ R.relE fun v H1 e1 r =>
  q Z _ H1 (Same.refl Z) (R.put e1 (s' := .fr d) (F := []) ⟨rfl, v, rfl, r.any s⟩ (fun _ m => nomatch m))
theorem does_asgi {n : Int} (h : Evr K te (er ρ) (.int n)): Does K W (tAsg te (gName i)) ρ (.nx (ρ.set i (.fr (.int n)))) := does_asgs h True.intro
theorem does_asgb {n : Bool} (h : Evr K te (er ρ) (.bool n)): Does K W (tAsg te (gName i)) ρ (.nx (ρ.set i (.fr (.bool n)))) := does_asgs h True.intro
theorem does_asgt {n : Str} (h : Evr K te (er ρ) (.str n)): Does K W (tAsg te (gName i)) ρ (.nx (ρ.set i (.fr (.str n)))) := does_asgs h True.intro
/-- x = e, e something that is held elsewhere, too -/
theorem does_asga (h : Evr K te (er ρ) d): Does K W (tAsg te (gName i)) ρ (.nx (ρ.set i (.al d))) := fun Z σ H D R q => h σ H _ R.relE fun v H1 e1 r =>
  q Z _ H1 (Same.refl Z) (R.put e1 (s' := .al d) (F := []) ⟨rfl, v, rfl, r⟩ (fun _ m => nomatch m))
/-- x = y, y not read again -/
theorem does_move (hs : ρ[j]? = some (.ow d)) (hij : i ≠ j := by decide) (hi : i < ρ.length := by decide) : Does K W (tAsg (tVar j) (gName i)) ρ (.nx ((ρ.set j .no).set i (.ow d))) := fun Z σ H D R q => by
  obtain ⟨v, hv, _⟩ := R.relE.get j d (by rw [List.getElem?_map, hs]; rfl)
  exact ⟨v, hv, q Z _ H (Same.refl Z) (R.move hs hv hi hij)⟩
theorem does_drop (h : Evr K te (er ρ) d) : Does K W (tDrop te) ρ (.nx ρ) := fun Z σ H D R q => h σ H _ R.relE fun v H1 e1 r => q Z _ H1 (Same.refl Z) (R.grow e1)
theorem does_ret (h : Evf K te (er ρ) d) : Does K W (tRet te) ρ (.rt d) := fun Z σ H D R q => h σ H _ R.relE fun v H1 F e1 w f => q v H1 F (R.ext.trans e1) w fun a m => R.ext.free (f a m)
theorem does_rets (h : Evr K te (er ρ) d) (s : Scal d) : Does K W (tRet te) ρ (.rt d) := does_ret (h.f s)
theorem does_reti {n : Int} (h : Evr K te (er ρ) (.int n)) : Does K W (tRet te) ρ (.rt (.int n)) := does_ret (h.f True.intro)
theorem does_retb {n : Bool} (h : Evr K te (er ρ) (.bool n)) : Does K W (tRet te) ρ (.rt (.bool n)) := does_ret (h.f True.intro)
theorem does_rett {n : Str} (h : Evr K te (er ρ) (.str n)) : Does K W (tRet te) ρ (.rt (.str n)) := does_ret (h.f True.intro)
theorem does_retn : Does K W tRetN ρ (.rt .none) := fun Z σ H D R q => q .non H [] R.ext .non fun _ m => nomatch m
theorem does_retv (hs : ρ[j]? = some (.ow d)) : Does K W (tRet (tVar j)) ρ (.rt d) := fun Z σ H D R q => by
  obtain ⟨Fs, O⟩ := R.ex
  obtain ⟨v, hv, w⟩ := O.ok j _ hs
  exact ⟨v, hv, q v H (Fs j) R.ext w (O.fr j)⟩
theorem does_wk {s s' : Sl} (hs : ρ1[i]? = some s) (w : Wk s s') (h : Does K W t ρ (.nx ρ1)) : Does K W t ρ (.nx (ρ1.set i s')) := fun Z σ H D R q => h Z σ H D R fun Z2 σ2 H2 e2 R2 => q Z2 σ2 H2 e2 (R2.wk1 hs w)
theorem does_no (i : Nat) (h : Does K W t ρ (.nx ρ1)) : Does K W t ρ (.nx (ρ1.set i .no)) := fun Z σ H D R q => h Z σ H D R fun Z2 σ2 H2 e2 R2 => q Z2 σ2 H2 e2 (R2.no i)
/-- ahead: less is known -/
theorem does_wkp {s s' : Sl} (hs : ρ[i]? = some s) (w : Wk s s') (h : Does K W t (ρ.set i s') o) : Does K W t ρ o := fun Z σ H D R q => h Z σ H D (R.wk1 hs w) q
theorem does_nop (i : Nat) (h : Does K W t (ρ.set i .no) o) : Does K W t ρ o := fun Z σ H D R q => h Z σ H D (R.no i) q
theorem does_frz (hs : ρ[i]? = some (.ow d)) (h : Does K W t (ρ.set i (.fr d)) o) : Does K W t ρ o := fun Z σ H D R q => by
  obtain ⟨Z2, e2, R2⟩ := R.frz hs
  exact h Z2 σ H D R2 (q.more e2)
theorem does_asgx (h : EvX K W te (er ρ) c) {g : TG} : Does K W (tAsg te g) ρ (.ex c ρ) := fun Z σ H D R q => h σ H _ R.relE fun H1 e1 => q Z σ H1 (Same.refl Z) (R.grow e1)
theorem does_retx (h : EvX K W te (er ρ) c) : Does K W (tRet te) ρ (.ex c ρ) := fun Z σ H D R q => h σ H _ R.relE fun H1 e1 => q Z σ H1 (Same.refl Z) (R.grow e1)
theorem does_dropx (h : EvX K W te (er ρ) c) : Does K W (tDrop te) ρ (.ex c ρ) := fun Z σ H D R q => h σ H _ R.relE fun H1 e1 => q Z σ H1 (Same.refl Z) (R.grow e1)
theorem does_raise : Does K W (fun _ σ H => W (.ref c) none σ H) ρ (.ex c ρ) := fun Z σ H D R q => q Z σ H (Same.refl Z) R
end
end Pur

set_option Elab.async false
set_option linter.all false
set_option maxRecDepth 100000
set_option maxHeartbeats 4000000
namespace Pur
open PySem L2
/-! ## changes -/
section
variable {K : Frg} {W : WX} {Z Z' H H' : Hp} {ρ ρ1 ρ2 : List Sl} {σ : L2.St} {t u tb : TS} {te ta tk tl : TE} {tc : TT} {o : Out} {d e : PyData} {i j k : Nat} {D : Ends} {c : Addr} {b : Bool} {ds es : List PyData}
theorem tyl {a : Addr} {xs : List V} (h : H a = some (.lst xs)) : tyV K "list" (.ref a) H := Or.inl ⟨rfl, _, Or.inl (Or.inl h)⟩
theorem OwAll.setv : ∀ {ds : List PyData} {vs : List V} {F : List Addr} {n : Nat} {v : V} {d : PyData} {G : List Addr}, OwAll H vs ds F → Ow H v d G → (∀ a ∈ G, a ∉ F) → ∃ F', OwAll H (vs.set n v) (ds.set n d) F' ∧ ∀ a ∈ F', a ∈ F ∨ a ∈ G
  | [], _, _, _, _, _, _, h, _, _ => by cases h; exact ⟨[], .nil, fun _ m => nomatch m⟩
  | _ :: _, _, _, 0, _, _, G, h, q, n => by
    cases h with
    | @cons v0 vs0 d0 ds0 F0 G0 h1 h2 hd =>
      refine ⟨G ++ G0, .cons q h2 fun a m z => n a m (List.mem_append_right _ z), fun a m => ?_⟩
      rcases List.mem_append.mp m with m | m
      · exact .inr m
      · exact .inl (List.mem_append_right _ m)
  | _ :: _, _, _, i + 1, _, _, G, h, q, n => by
    cases h with
    | @cons v0 vs0 d0 ds0 F0 G0 h1 h2 hd =>
      obtain ⟨F', p1, p2⟩ := OwAll.setv (n := i) h2 q fun a m z => n a m (List.mem_append_right _ z)
      refine ⟨F0 ++ F', .cons h1 p1 fun a m z => ?_, fun a m => ?_⟩
      · rcases p2 a z with z | z
        · exact hd a m z
        · exact n a z (List.mem_append_left _ m)
      · rcases List.mem_append.mp m with m | m
        · exact .inl (List.mem_append_left _ m)
        · rcases p2 a m with m | m
          · exact .inl (List.mem_append_right _ m)
          · exact .inr m
/-- what i owns, a list -/
theorem Own.lst (O : Own K Z H ρ σ Fs) (hs : ρ[i]? = some (.ow (.list ds))) : ∃ a xs F, σ[i]? = some (some (.ref a)) ∧ H a = some (.lst xs) ∧ OwAll H xs ds F ∧ a ∉ F ∧ Fs i = a :: F := by
  obtain ⟨v, hv, w⟩ := O.ok i _ hs
  generalize Fs i = G at w
  cases w with
  | lst ha hs hn => exact ⟨_, _, _, hv, ha, hs, hn, rfl⟩
/-- x.append(e), e new -/
theorem does_app (hs : ρ[i]? = some (.ow (.list ds))) (h : Evf K te (er ρ) d) (hl : ds.length < 1000000) : Does K W (tDrop (tBM K "list" rAppend (tVar i) (tCons te tNil))) ρ (.nx ((kill ρ).set i (.ow (.list (ds ++ [d]))))) := fun Z σ H D R q => by
  obtain ⟨Fs, O⟩ := R.ex
  obtain ⟨a, xs, F, hσ, ha, hx, hn, hF⟩ := O.lst hs
  refine ⟨.ref a, hσ, tyl ha, h σ H _ R.relE fun v H1 G e1 w f => ⟨a, xs, v, rfl, rfl, e1 _ _ ha, by rw [hx.length]; exact sz_lt hl, q Z _ _ (Same.refl Z) ?_⟩⟩
  have hG : ∀ b ∈ G, b ≠ a := fun b m z => by
    have q := f b m
    rw [z, ha] at q
    cases q
  refine R.chg hs O (H' := upd H1 a (.lst (xs ++ [v]))) (F' := a :: (F ++ (G ++ []))) (fun b hb o ho => ?_) ⟨_, hσ, .lst upd_same (OwAll.append ((hx.grow e1).keep fun b m => upd_ne fun z => hn (z ▸ m)) (.cons (w.keep fun b m => upd_ne (hG b m)) .nil fun _ _ m => nomatch m) fun b m z => ?_) fun m => ?_⟩ fun b m => ?_
  · rw [upd_ne (fun z => hb (by rw [hF, z]; exact List.mem_cons_self))]
    exact e1 _ _ ho
  · have z2 : b ∈ G := by simpa using z
    obtain ⟨o, ho⟩ := hx.dom b m
    rw [f b z2] at ho
    cases ho
  · rcases List.mem_append.mp m with m | m
    · exact hn m
    · exact hG a (by simpa using m) rfl
  · rw [hF]
    rcases List.mem_cons.mp m with rfl | m
    · exact .inl List.mem_cons_self
    · rcases List.mem_append.mp m with m | m
      · exact .inl (List.mem_cons_of_mem _ m)
      · exact .inr (f b (by simpa using m))
theorem does_appi {r : List Int} {n : Int} (hs : ρ[i]? = some (.ow (dR r))) (h : Evr K te (er ρ) (.int n)) (hl : r.length < 1000000) : Does K W (tDrop (tBM K "list" rAppend (tVar i) (tCons te tNil))) ρ (.nx ((kill ρ).set i (.ow (dR (r ++ [n]))))) :=
  does_cast (does_app hs (h.f True.intro) (by rw [List.length_map]; exact hl)) (by rw [dR, List.map_append]; rfl)
/-- x.append(y), y not changed from now on through its own name -/
theorem does_appv (hs : ρ[i]? = some (.ow (.list ds))) (hj : ρ[j]? = some (.ow d)) (hij : i ≠ j) (hl : ds.length < 1000000) : Does K W (tDrop (tBM K "list" rAppend (tVar i) (tCons (tVar j) tNil))) ρ (.nx ((kill (ρ.set j .no)).set i (.ow (.list (ds ++ [d]))))) := fun Z σ H D R q => by
  obtain ⟨Fs, O⟩ := R.ex
  obtain ⟨a, xs, F, hσ, ha, hx, hn, hF⟩ := O.lst hs
  obtain ⟨v, hv, w⟩ := O.ok j _ hj
  have hi : i < ρ.length := (List.getElem?_eq_some_iff.mp hs).1
  have hjl : j < ρ.length := (List.getElem?_eq_some_iff.mp hj).1
  have off : ∀ b ∈ Fs j, b ∉ a :: F := fun b m z => O.dis j i (Ne.symm hij) b m (by rw [hF]; exact z)
  refine ⟨.ref a, hσ, tyl ha, v, hv, a, xs, v, rfl, rfl, ha, by rw [hx.length]; exact sz_lt hl, q Z _ _ (Same.refl Z) ?_⟩
  have hk : (kill (ρ.set j .no)).length = ρ.length := by rw [List.length_map, List.length_set]
  refine ⟨by rw [List.length_set, hk]; exact R.len, fun b o ho => ?_, putF (putF Fs j []) i (a :: (F ++ (Fs j ++ []))), ?_⟩
  · rw [upd_ne fun z => ?_]
    · exact R.ext b o ho
    · have := O.fr i a (by rw [hF]; exact List.mem_cons_self)
      rw [← z, ho] at this
      cases this
  refine Own.put (ρ := ρ) (by rw [List.length_set, hk]) hi (List.getElem?_set_self (by rw [hk]; exact hi)) ⟨_, hσ, .lst upd_same (OwAll.append (hx.keep fun b m => upd_ne fun z => hn (z ▸ m)) (.cons (w.keep fun b m => upd_ne fun z => off b m (z ▸ List.mem_cons_self)) .nil fun _ _ m => nomatch m) fun b m z => ?_) fun m => ?_⟩ (fun l s hl h => ?_) ?_ ?_ ?_ (fun l hl b m z => ?_) fun b m => ?_
  · exact off b (by simpa using z) (List.mem_cons_of_mem _ m)
  · rcases List.mem_append.mp m with m | m
    · exact hn m
    · exact off a (by simpa using m) List.mem_cons_self
  · rw [List.getElem?_set_ne (Ne.symm hl), List.getElem?_map] at h
    by_cases hlj : l = j
    · subst hlj
      rw [List.getElem?_set_self hjl] at h
      cases h
      exact putF_same
    · rw [List.getElem?_set_ne (Ne.symm hlj)] at h
      rw [putF_ne hlj]
      cases e : ρ[l]? with
      | none => rw [e] at h; cases h
      | some u =>
        rw [e] at h
        have q : killS u = s := Option.some.inj h
        subst q
        refine (O.ok l u e).keep fun b m => upd_ne fun z => ?_
        exact O.dis l i hl b m (by rw [hF, z]; exact List.mem_cons_self)
  · intro k l hkl b m
    by_cases hk : k = j
    · subst hk
      rw [putF_same] at m
      cases m
    · rw [putF_ne hk] at m
      by_cases hl : l = j
      · subst hl
        rw [putF_same]
        exact fun z => nomatch z
      · rw [putF_ne hl]
        exact O.dis k l hkl b m
  · intro k b m
    by_cases hk : k = j
    · subst hk
      rw [putF_same] at m
      cases m
    · rw [putF_ne hk] at m
      exact O.fr k b m
  · intro k hk
    by_cases hkj : k = j
    · subst hkj
      exact putF_same
    · rw [putF_ne hkj]
      exact O.out k hk
  · by_cases hlj : l = j
    · subst hlj
      rw [putF_same] at z
      cases z
    · rw [putF_ne hlj] at z
      rcases List.mem_cons.mp m with rfl | m
      · exact O.dis i l (Ne.symm hl) b (by rw [hF]; exact List.mem_cons_self) z
      · rcases List.mem_append.mp m with m | m
        · exact O.dis i l (Ne.symm hl) b (by rw [hF]; exact List.mem_cons_of_mem _ m) z
        · exact O.dis j l (Ne.symm hlj) b (by simpa using m) z
  · rcases List.mem_cons.mp m with rfl | m
    · exact O.fr i b (by rw [hF]; exact List.mem_cons_self)
    · rcases List.mem_append.mp m with m | m
      · exact O.fr i b (by rw [hF]; exact List.mem_cons_of_mem _ m)
      · exact O.fr j b (by simpa using m)
/-- x.extend(e), e new -/
theorem does_ext (hs : ρ[i]? = some (.ow (.list ds))) (h : Evf K te (er ρ) (.list es)) (hl : ds.length + es.length ≤ 1000000) : Does K W (tDrop (tBM K "list" rExtend (tVar i) (tCons te tNil))) ρ (.nx ((kill ρ).set i (.ow (.list (ds ++ es))))) := fun Z σ H D R q => by
  obtain ⟨Fs, O⟩ := R.ex
  obtain ⟨a, xs, F, hσ, ha, hx, hn, hF⟩ := O.lst hs
  refine ⟨.ref a, hσ, tyl ha, h σ H _ R.relE fun v H1 G e1 w f => ?_⟩
  cases w with
  | @lst c ys _ G hc hy hcn =>
    refine ⟨a, c, xs, ys, rfl, rfl, e1 _ _ ha, hc, by rw [hx.length, hy.length]; exact sz_le hl, q Z _ _ (Same.refl Z) ?_⟩
    have hG : ∀ b ∈ G, b ≠ a := fun b m z => by
      have q := f b (List.mem_cons_of_mem _ m)
      rw [z, ha] at q
      cases q
    refine R.chg hs O (H' := upd H1 a (.lst (xs ++ ys))) (F' := a :: (F ++ G)) (fun b hb o ho => ?_) ⟨_, hσ, .lst upd_same (OwAll.append ((hx.grow e1).keep fun b m => upd_ne fun z => hn (z ▸ m)) (hy.keep fun b m => upd_ne (hG b m)) fun b m z => ?_) fun m => ?_⟩ fun b m => ?_
    · rw [upd_ne (fun z => hb (by rw [hF, z]; exact List.mem_cons_self))]
      exact e1 _ _ ho
    · obtain ⟨o, ho⟩ := hx.dom b m
      rw [f b (List.mem_cons_of_mem _ z)] at ho
      cases ho
    · rcases List.mem_append.mp m with m | m
      · exact hn m
      · exact hG a m rfl
    · rw [hF]
      rcases List.mem_cons.mp m with rfl | m
      · exact .inl List.mem_cons_self
      · rcases List.mem_append.mp m with m | m
        · exact .inl (List.mem_cons_of_mem _ m)
        · exact .inr (f b (List.mem_cons_of_mem _ m))
theorem does_extR {r s : List Int} (hs : ρ[i]? = some (.ow (dR r))) (h : Evf K te (er ρ) (dR s)) (hl : r.length + s.length ≤ 1000000) : Does K W (tDrop (tBM K "list" rExtend (tVar i) (tCons te tNil))) ρ (.nx ((kill ρ).set i (.ow (dR (r ++ s))))) :=
  does_cast (does_ext hs h (by rw [List.length_map, List.length_map]; exact hl)) (by rw [dR, List.map_append])
theorem ixN_nat {n : Nat} {i : Int} (h0 : 0 ≤ i) (h1 : i < n) : ixN n i = some i.toNat := by
  unfold ixN
  rw [if_pos h0, if_pos h1]
/-- x[k] = e, e new -/
theorem does_set {n : Int} (hs : ρ[i]? = some (.ow (.list ds))) (h : Evf K te (er ρ) d) (hk : Evr K tk (er ρ) (.int n)) (h0 : 0 ≤ n) (h1 : n < ds.length) : Does K W (tAsg te (gSub (tVar i) tk rSetL)) ρ (.nx ((kill ρ).set i (.ow (.list (ds.set n.toNat d))))) := fun Z σ H D R q => by
  obtain ⟨Fs, O⟩ := R.ex
  obtain ⟨a, xs, F, hσ, ha, hx, hn, hF⟩ := O.lst hs
  refine h σ H _ R.relE fun v H1 G e1 w f => ?_
  refine ⟨.ref a, hσ, hk σ H1 _ (R.relE.mono e1) fun y H2 e2 r2 => ?_⟩
  obtain rfl := r2.int_eq
  refine ⟨a, xs, n, n.toNat, rfl, rfl, e2 _ _ (e1 _ _ ha), ixN_nat h0 (by rw [hx.length]; exact h1), q Z _ _ (Same.refl Z) ?_⟩
  have hG : ∀ b ∈ G, b ≠ a := fun b m z => by
    have q := f b m
    rw [z, ha] at q
    cases q
  obtain ⟨F', p1, p2⟩ := OwAll.setv (n := n.toNat) ((hx.grow (e1.trans e2)).keep (H' := upd H2 a (.lst (xs.set n.toNat v))) fun b m => upd_ne fun z => hn (z ▸ m)) ((w.grow e2).keep fun b m => upd_ne (hG b m)) fun b m z => by
    obtain ⟨o, ho⟩ := hx.dom b z
    rw [f b m] at ho
    cases ho
  refine R.chg hs O (F' := a :: F') (fun b hb o ho => ?_) ⟨_, hσ, .lst upd_same p1 fun m => ?_⟩ fun b m => ?_
  · rw [upd_ne (fun z => hb (by rw [hF, z]; exact List.mem_cons_self))]
    exact e2 _ _ (e1 _ _ ho)
  · rcases p2 a m with m | m
    · exact hn m
    · exact hG a m rfl
  · rw [hF]
    rcases List.mem_cons.mp m with rfl | m
    · exact .inl List.mem_cons_self
    · rcases p2 b m with m | m
      · exact .inl (List.mem_cons_of_mem _ m)
      · exact .inr (f b m)
theorem does_seti {r : List Int} {n m : Int} (hs : ρ[i]? = some (.ow (dR r))) (h : Evr K te (er ρ) (.int m)) (hk : Evr K tk (er ρ) (.int n)) (h0 : 0 ≤ n) (h1 : n < r.length) : Does K W (tAsg te (gSub (tVar i) tk rSetL)) ρ (.nx ((kill ρ).set i (.ow (dR (r.set n.toNat m))))) :=
  does_cast (does_set hs (h.f True.intro) hk h0 (by rw [List.length_map]; exact h1)) (by rw [dR, List.map_set])
/-- x.reverse() -/
theorem does_rev {r : List Int} (hs : ρ[i]? = some (.ow (dR r))) : Does K W (tDrop (tBM0 K "list" rReverse (tVar i))) ρ (.nx ((kill ρ).set i (.ow (dR r.reverse)))) := fun Z σ H D R q => by
  obtain ⟨Fs, O⟩ := R.ex
  obtain ⟨a, xs, F, hσ, ha, hx, hn, hF⟩ := O.lst hs
  have ex := (hx.rp (K := K)).ints
  subst ex
  refine ⟨.ref a, hσ, tyl ha, a, _, rfl, rfl, ha, q Z _ _ (Same.refl Z) ?_⟩
  refine R.chg hs O (F' := [a]) (fun b hb o ho => ?_) ⟨_, hσ, by rw [← List.map_reverse]; exact Ow.row upd_same⟩ fun b m => ?_
  · rw [upd_ne (fun z => hb (by rw [hF, z]; exact List.mem_cons_self))]
    exact ho
  · rw [hF, List.mem_singleton.mp m]
    exact .inl List.mem_cons_self
/-- the same for a row at a told place -/
theorem does_setAt {a : Addr} {r : List Int} {n m : Int} (hs : ρ[i]? = some (.at a r)) (h : Evr K te (er ρ) (.int m)) (hk : Evr K tk (er ρ) (.int n)) (h0 : 0 ≤ n) (h1 : n < r.length) : Does K W (tAsg te (gSub (tVar i) tk rSetL)) ρ (.nx ((kill ρ).set i (.at a (r.set n.toNat m)))) := fun Z σ H D R q => by
  obtain ⟨Fs, O⟩ := R.ex
  obtain ⟨hσ, ha, hF⟩ := O.ok i _ hs
  refine h σ H _ R.relE fun v H1 e1 r1 => ?_
  obtain rfl := r1.int_eq
  refine ⟨.ref a, hσ, hk σ H1 _ (R.relE.mono e1) fun y H2 e2 r2 => ?_⟩
  obtain rfl := r2.int_eq
  refine ⟨a, _, n, n.toNat, rfl, rfl, e2 _ _ (e1 _ _ ha), ixN_nat h0 (by rw [List.length_map]; exact h1), q Z _ _ (Same.refl Z) ?_⟩
  refine R.chg hs O (F' := [a]) (fun b hb o ho => ?_) ⟨hσ, by rw [upd_same, List.map_set], rfl⟩ fun b m => ?_
  · rw [upd_ne (fun z => hb (by rw [hF, z]; exact List.mem_cons_self))]
    exact e2 _ _ (e1 _ _ ho)
  · rw [hF]; exact .inl m
def rInsert : V → List V → Hp → VK → Prop := fun x vs H Q => ∃ (l : Addr) (xs : List V) (i : Int) (y : V), x = .ref l ∧ vs = [.int i, y] ∧ H l = some (.lst xs) ∧ xs.length < sizeLine ∧ 0 ≤ i ∧ i < 2 ^ 63 ∧ Q .non (upd H l (.lst (xs.take i.toNat ++ [y] ++ xs.drop i.toNat)))
theorem does_insAt {a : Addr} {r : List Int} {n m : Int} (hs : ρ[i]? = some (.at a r)) (hk : Evr K tk (er ρ) (.int n)) (h : Evr K te (er ρ) (.int m)) (h0 : 0 ≤ n) (h1 : n ≤ 1000000) (hl : r.length < 1000000) : Does K W (tDrop (tBM K "list" rInsert (tVar i) (tCons tk (tCons te tNil)))) ρ (.nx ((kill ρ).set i (.at a (r.take n.toNat ++ [m] ++ r.drop n.toNat)))) := fun Z σ H D R q => by
  obtain ⟨Fs, O⟩ := R.ex
  obtain ⟨hσ, ha, hF⟩ := O.ok i _ hs
  refine ⟨.ref a, hσ, tyl ha, hk σ H _ R.relE fun y H1 e1 r1 => h σ H1 _ (R.relE.mono e1) fun v H2 e2 r2 => ?_⟩
  obtain rfl := r1.int_eq
  obtain rfl := r2.int_eq
  refine ⟨a, _, n, _, rfl, rfl, e2 _ _ (e1 _ _ ha), by rw [List.length_map]; exact sz_lt hl, h0, by omega, q Z _ _ (Same.refl Z) ?_⟩
  refine R.chg hs O (F' := [a]) (fun b hb o ho => ?_) ⟨hσ, by rw [upd_same, List.map_append, List.map_append, List.map_take, List.map_drop]; rfl, rfl⟩ fun b m => ?_
  · rw [upd_ne (fun z => hb (by rw [hF, z]; exact List.mem_cons_self))]
    exact e2 _ _ (e1 _ _ ho)
  · rw [hF]; exact .inl m
theorem does_insR {r : List Int} {n m : Int} (hs : ρ[i]? = some (.ow (dR r))) (hk : Evr K tk (er ρ) (.int n)) (h : Evr K te (er ρ) (.int m)) (h0 : 0 ≤ n) (h1 : n ≤ 1000000) (hl : r.length < 1000000) : Does K W (tDrop (tBM K "list" rInsert (tVar i) (tCons tk (tCons te tNil)))) ρ (.nx ((kill ρ).set i (.ow (dR (r.take n.toNat ++ [m] ++ r.drop n.toNat))))) := fun Z σ H D R q => by
  obtain ⟨Fs, O⟩ := R.ex
  obtain ⟨a, xs, F, hσ, ha, hx, hn, hF⟩ := O.lst hs
  have ex := (hx.rp (K := K)).ints
  subst ex
  refine ⟨.ref a, hσ, tyl ha, hk σ H _ R.relE fun y H1 e1 r1 => h σ H1 _ (R.relE.mono e1) fun v H2 e2 r2 => ?_⟩
  obtain rfl := r1.int_eq
  obtain rfl := r2.int_eq
  refine ⟨a, _, n, _, rfl, rfl, e2 _ _ (e1 _ _ ha), by rw [List.length_map]; exact sz_lt hl, h0, by omega, q Z _ _ (Same.refl Z) ?_⟩
  refine R.chg hs O (F' := [a]) (fun b hb o ho => ?_) ⟨_, hσ, ?_⟩ fun b m => ?_
  · rw [upd_ne (fun z => hb (by rw [hF, z]; exact List.mem_cons_self))]
    exact e2 _ _ (e1 _ _ ho)
  · refine Ow.row ?_
    rw [upd_same, List.map_append, List.map_append, List.map_take, List.map_drop]; rfl
  · rw [hF, List.mem_singleton.mp m]; exact .inl List.mem_cons_self
/-- x[k].append(e): a list in a list -/
theorem OwAll.at_ : ∀ {ds : List PyData} {vs : List V} {F : List Addr} {n : Nat} {d : PyData}, OwAll H vs ds F → ds[n]? = some d → ∃ v G, vs[n]? = some v ∧ Ow H v d G ∧ (∀ a ∈ G, a ∈ F) ∧
    ∀ (H' : Hp) (d' : PyData) (G' : List Addr), (∀ a ∈ F, a ∉ G → H' a = H a) → Ow H' v d' G' → (∀ a ∈ G', a ∈ G ∨ a ∉ F) → ∃ F', OwAll H' vs (ds.set n d') F' ∧ ∀ a ∈ F', a ∈ F ∨ a ∈ G'
  | [], _, _, _, _, _, e => by simp at e
  | _ :: _, _, _, 0, _, h, e => by
    cases h with
    | @cons v0 vs0 d0 ds0 F0 G0 h1 h2 hd =>
      have e2 := Option.some.inj e
      subst e2
      refine ⟨v0, F0, rfl, h1, fun a m => List.mem_append_left _ m, fun H' d' G' k w g => ?_⟩
      refine ⟨G' ++ G0, .cons w (h2.keep fun a m => k a (List.mem_append_right _ m) fun z => hd a z m) fun a m z => ?_, fun a m => ?_⟩
      · rcases g a m with g | g
        · exact hd a g z
        · exact g (List.mem_append_right _ z)
      · rcases List.mem_append.mp m with m | m
        · exact .inr m
        · exact .inl (List.mem_append_right _ m)
  | _ :: _, _, _, n + 1, d, h, e => by
    cases h with
    | @cons v0 vs0 d0 ds0 F0 G0 h1 h2 hd =>
      obtain ⟨v, G, p1, p2, p3, p4⟩ := OwAll.at_ (n := n) (d := d) h2 (by simpa using e)
      refine ⟨v, G, by simpa using p1, p2, fun a m => List.mem_append_right _ (p3 a m), fun H' d' G' k w g => ?_⟩
      obtain ⟨F', q1, q2⟩ := p4 H' d' G' (fun a m z => k a (List.mem_append_right _ m) z) w fun a m => by
        rcases g a m with g | g
        · exact .inl g
        · exact .inr fun z => g (List.mem_append_right _ z)
      refine ⟨F0 ++ F', .cons (h1.keep fun a m => k a (List.mem_append_left _ m) fun z => hd a m (p3 a z)) q1 fun a m z => ?_, fun a m => ?_⟩
      · rcases q2 a z with z | z
        · exact hd a m z
        · rcases g a z with g | g
          · exact hd a m (p3 a g)
          · exact g (List.mem_append_left _ m)
      · rcases List.mem_append.mp m with m | m
        · exact .inl (List.mem_append_left _ m)
        · rcases q2 a m with m | m
          · exact .inl (List.mem_append_right _ m)
          · exact .inr m
theorem does_appix {n : Int} (hs : ρ[i]? = some (.ow (.list ds))) (hk : Evr K tk (er ρ) (.int n)) (h : Evr K te (er ρ) d) (hd : Scal d) (h0 : 0 ≤ n) (hn : ds[n.toNat]? = some (.list es)) (hl : es.length < 1000000) :
    Does K W (tDrop (tBM K "list" rAppend (tOp (rIx K) (tVar i) tk) (tCons te tNil))) ρ (.nx ((kill ρ).set i (.ow (.list (ds.set n.toNat (.list (es ++ [d]))))))) := fun Z σ H D R q => by
  obtain ⟨Fs, O⟩ := R.ex
  obtain ⟨a, xs, F, hσ, ha, hx, hna, hF⟩ := O.lst hs
  obtain ⟨v, G, p1, p2, p3, p4⟩ := hx.at_ hn
  have hnl : n.toNat < xs.length := (List.getElem?_eq_some_iff.mp p1).1
  refine ⟨.ref a, hσ, hk σ H _ R.relE fun y H1 e1 r1 => ?_⟩
  obtain rfl := r1.int_eq
  cases p2 with
  | @lst b ys _ G1 hb hy hbn =>
    refine .inl ⟨a, xs, n, .ref b, rfl, rfl, sql (e1 _ _ ha), at_of (j := n.toNat) (by omega) p1, tyl (e1 _ _ hb), h σ H1 _ (R.relE.mono e1) fun w H2 e2 r2 => ?_⟩
    refine ⟨b, ys, w, rfl, rfl, e2 _ _ (e1 _ _ hb), by rw [hy.length]; exact sz_lt hl, q Z _ _ (Same.refl Z) ?_⟩
    have hba : b ≠ a := fun z => hna (z ▸ p3 b List.mem_cons_self)
    have hg : ∀ c ∈ F, c ∉ b :: G1 → (upd H2 b (.lst (ys ++ [w]))) c = H c := fun c m z => by
      rw [upd_ne (show c ≠ b from fun e => z (by rw [e]; exact List.mem_cons_self))]
      obtain ⟨o, ho⟩ := hx.dom c m
      rw [ho]
      exact e2 _ _ (e1 _ _ ho)
    obtain ⟨F', q1, q2⟩ := p4 (upd H2 b (.lst (ys ++ [w]))) (.list (es ++ [d])) (b :: (G1 ++ ([] ++ []))) hg (.lst upd_same (OwAll.append ((hy.grow (e1.trans e2)).keep fun c m => upd_ne fun z => hbn (z ▸ m)) (.cons (r2.ow hd) .nil fun _ m => nomatch m) fun c m z => by simp at z) (fun m => hbn (by simpa using m))) fun c m => .inl (by simpa using m)
    refine R.chg hs O (F' := a :: F') (fun c hc o ho => ?_) ⟨_, hσ, .lst (by rw [upd_ne (Ne.symm hba)]; exact e2 _ _ (e1 _ _ ha)) q1 fun m => ?_⟩ fun c m => ?_
    · rw [upd_ne (fun z => hc (by rw [hF, z]; exact List.mem_cons_of_mem _ (p3 b List.mem_cons_self)))]
      exact e2 _ _ (e1 _ _ ho)
    · rcases q2 a m with m | m
      · exact hna m
      · have m2 : a ∈ b :: G1 := by simpa using m
        exact hna (p3 a m2)
    · rw [hF]
      rcases List.mem_cons.mp m with rfl | m
      · exact .inl List.mem_cons_self
      · rcases q2 c m with m | m
        · exact .inl (List.mem_cons_of_mem _ m)
        · exact .inl (List.mem_cons_of_mem _ (p3 c (by simpa using m)))
/-! ## loops -/
/-- a list that stays -/
theorem does_forv {α : Type} {cd : α → PyData} {xs : List α} (hk : ρ[k]? = some (.fr (.list (xs.map cd)))) (S : Nat → List Sl) (h0 : ρ.set j .no = S 0)
    (hs : ∀ i x, xs[i]? = some x → ∃ ρ', Does K W tb ((S i).set j (.fr (cd x))) (.nx ρ') ∧ ρ'.set j .no = S (i + 1)) : Does K W (tFor (iList K (tVar k)) (gName j) tb) ρ (.nx (S xs.length)) := fun Z σ H D R q => by
  obtain ⟨Fs, O⟩ := R.ex
  obtain ⟨_, v, hv, hr⟩ := O.ok k _ hk
  obtain ⟨a, vs, rfl, ha, hx⟩ := hr.list
  have hlen := hx.length
  rw [List.length_map] at hlen
  refine ⟨_, hv, a, rfl, ⟨vs, sql (R.ext _ _ ha)⟩, ?_⟩
  refine for_list (K := K) (a := a) (xs := vs) (fun i σ H => ∃ Z', Same Z Z' ∧ RelS K Z' (S i) σ H) ⟨Z, Same.refl Z, h0 ▸ R.no j⟩ (fun i σ H _ ⟨Z', e, R'⟩ => sql (R'.ext _ _ (e _ _ ha))) (fun i x σ H hi ⟨Z', e, R'⟩ => ?_) fun σ H ⟨Z', e, R'⟩ => q Z' σ H e (hlen ▸ R')
  obtain ⟨d, hd, rd⟩ := hx.getV hi
  rw [List.getElem?_map] at hd
  cases ex : xs[i]? with
  | none => rw [ex] at hd; cases hd
  | some y =>
    rw [ex] at hd
    have ed : cd y = d := Option.some.inj hd
    subst ed
    obtain ⟨ρ', h1, h2⟩ := hs i y ex
    exact h1 Z' _ H _ (R'.put (Same.refl H) (s' := .fr (cd y)) (F := []) ⟨rfl, x, rfl, rd.mono e⟩ fun _ m => nomatch m) fun Z2 σ2 H2 e2 R2 => ⟨Z2, e.trans e2, h2 ▸ R2.no j⟩
/-- .. left by a return at the turn n -/
theorem does_forv_rt {α : Type} {cd : α → PyData} {xs : List α} (hk : ρ[k]? = some (.fr (.list (xs.map cd)))) (S : Nat → List Sl) (n : Nat) (y : α) (hn : xs[n]? = some y) (h0 : ρ.set j .no = S 0)
    (hs : ∀ i x, i < n → xs[i]? = some x → ∃ ρ', Does K W tb ((S i).set j (.fr (cd x))) (.nx ρ') ∧ ρ'.set j .no = S (i + 1)) (hr : Does K W tb ((S n).set j (.fr (cd y))) (.rt d)) : Does K W (tFor (iList K (tVar k)) (gName j) tb) ρ (.rt d) := fun Z σ H D R q => by
  obtain ⟨Fs, O⟩ := R.ex
  obtain ⟨_, v, hv, hr'⟩ := O.ok k _ hk
  obtain ⟨a, vs, rfl, ha, hx⟩ := hr'.list
  have hlen := hx.length
  rw [List.length_map] at hlen
  have hnl : n < xs.length := (List.getElem?_eq_some_iff.mp hn).1
  refine ⟨_, hv, a, rfl, ⟨vs, sql (R.ext _ _ ha)⟩, ?_⟩
  refine for_list (K := K) (a := a) (xs := vs) (fun i σ H => i ≤ n ∧ ∃ Z', Same Z Z' ∧ RelS K Z' (S i) σ H) ⟨Nat.zero_le _, Z, Same.refl Z, h0 ▸ R.no j⟩ (fun i σ H _ ⟨_, Z', e, R'⟩ => sql (R'.ext _ _ (e _ _ ha))) (fun i x σ H hi ⟨hin, Z', e, R'⟩ => ?_) fun σ H ⟨hin, _⟩ => absurd hin (by omega)
  obtain ⟨d', hd, rd⟩ := hx.getV hi
  rw [List.getElem?_map] at hd
  cases ex : xs[i]? with
  | none => rw [ex] at hd; cases hd
  | some z =>
    rw [ex] at hd
    have ed : cd z = d' := Option.some.inj hd
    subst ed
    have R2 := R'.put (Same.refl H) (s' := .fr (cd z)) (F := []) (i := j) ⟨rfl, x, rfl, rd.mono e⟩ fun _ m => nomatch m
    by_cases hlt : i < n
    · obtain ⟨ρ', h1, h2⟩ := hs i z hlt ex
      exact h1 Z' _ H _ R2 fun Z2 σ2 H2 e2 R2 => ⟨hlt, Z2, e.trans e2, h2 ▸ R2.no j⟩
    · have ein : i = n := by omega
      subst ein
      rw [hn] at ex
      have ez := Option.some.inj ex
      subst ez
      exact hr Z' _ H _ R2 fun v H F e2 w f => q v H F (e.trans e2) w fun a m => e.free (f a m)
/-- a new list -/
theorem does_forf {α : Type} {cd : α → PyData} {xs : List α} (hk : Evf K tl (er ρ) (.list (xs.map cd))) (S : Nat → List Sl) (h0 : ρ.set j .no = S 0)
    (hs : ∀ i x, xs[i]? = some x → ∃ ρ', Does K W tb ((S i).set j (.fr (cd x))) (.nx ρ') ∧ ρ'.set j .no = S (i + 1)) : Does K W (tFor (iList K tl) (gName j) tb) ρ (.nx (S xs.length)) := fun Z σ H D R q => hk σ H _ R.relE fun v H1 F e1 w f => by
  -- the new list's addresses stay from now on
  have hz : Same Z (fun b => if b ∈ F then H1 b else Z b) := fun a o q => by
    show (if a ∈ F then H1 a else Z a) = some o
    by_cases m : a ∈ F
    · rw [R.ext.free (f a m)] at q
      cases q
    · rw [if_neg m]
      exact q
  have hzH : Same (fun b => if b ∈ F then H1 b else Z b) H1 := fun a o q => by
    have q' : (if a ∈ F then H1 a else Z a) = some o := q
    by_cases m : a ∈ F
    · rw [if_pos m] at q'
      exact q'
    · rw [if_neg m] at q'
      exact e1 _ _ (R.ext a o q')
  have hr : Rp K (fun b => if b ∈ F then H1 b else Z b) v (.list (xs.map cd)) := w.rpz fun a m => if_pos m
  have R1 : RelS K (fun b => if b ∈ F then H1 b else Z b) ρ σ H1 := by
    obtain ⟨Fs, O⟩ := R.ex
    refine ⟨R.len, hzH, Fs, fun i s h => ((O.ok i s h).grow e1).more hz, O.dis, fun i a m => ?_, O.out⟩
    show (if a ∈ F then H1 a else Z a) = none
    by_cases m2 : a ∈ F
    · obtain ⟨o, ho⟩ := O.dom i a m
      rw [f a m2] at ho
      cases ho
    · rw [if_neg m2]
      exact O.fr i a m
  generalize hZ1 : (fun b => if b ∈ F then H1 b else Z b) = Z1 at hz hzH hr R1
  obtain ⟨a, vs, rfl, ha, hx⟩ := hr.list
  have hlen := hx.length
  rw [List.length_map] at hlen
  refine ⟨a, rfl, ⟨vs, sql (R1.ext _ _ ha)⟩, ?_⟩
  refine for_list (K := K) (a := a) (xs := vs) (fun i σ H => ∃ Z', Same Z1 Z' ∧ RelS K Z' (S i) σ H) ⟨Z1, Same.refl Z1, h0 ▸ R1.no j⟩ (fun i σ H _ ⟨Z', e, R'⟩ => sql (R'.ext _ _ (e _ _ ha))) (fun i x σ H hi ⟨Z', e, R'⟩ => ?_) fun σ H ⟨Z', e, R'⟩ => q Z' σ H (hz.trans e) (hlen ▸ R')
  obtain ⟨d, hd, rd⟩ := hx.getV hi
  rw [List.getElem?_map] at hd
  cases ex : xs[i]? with
  | none => rw [ex] at hd; cases hd
  | some y =>
    rw [ex] at hd
    have ed : cd y = d := Option.some.inj hd
    subst ed
    obtain ⟨ρ', h1, h2⟩ := hs i y ex
    exact h1 Z' _ H _ (R'.put (Same.refl H) (s' := .fr (cd y)) (F := []) ⟨rfl, x, rfl, rd.mono e⟩ fun _ m => nomatch m) fun Z2 σ2 H2 e2 R2 => ⟨Z2, e.trans e2, h2 ▸ R2.no j⟩
/-- range(n) -/
theorem does_forR {n : Int} {ta : TA} (hn : Eva K ta (er ρ) [.int n]) (hz : n ≤ 1000000) (hz0 : -1000000 ≤ n) (S : Nat → List Sl) (h0 : ρ.set j .no = S 0)
    (hs : ∀ i : Nat, (i : Int) < n → ∃ ρ', Does K W tb ((S i).set j (.fr (.int (i : Int)))) (.nx ρ') ∧ ρ'.set j .no = S (i + 1)) : Does K W (tFor (iRng1 ta) (gName j) tb) ρ (.nx (S n.toNat)) := fun Z σ H D R q => hn σ H _ R.relE fun vs H1 e1 r1 => by
  obtain ⟨v, rfl, hv⟩ := r1.one
  obtain rfl := hv.int_eq
  refine ⟨n, rfl, by omega, by omega, ?_⟩
  refine for_range (lo := 0) (n := n.toNat) (fun i σ H => ∃ Z', Same Z Z' ∧ RelS K Z' (S i) σ H) ⟨Z, Same.refl Z, h0 ▸ (R.grow e1).no j⟩ (fun i σ H hi ⟨Z', e, R'⟩ => ?_) fun σ H ⟨Z', e, R'⟩ => q Z' σ H e R'
  obtain ⟨ρ', h1, h2⟩ := hs i (by omega)
  have e0 : (0 : Int) + (i : Int) = (i : Int) := Int.zero_add _
  rw [e0]
  exact h1 Z' _ H _ (R'.put (Same.refl H) (s' := .fr (.int (i : Int))) (F := []) ⟨rfl, _, rfl, .int _⟩ fun _ m => nomatch m) fun Z2 σ2 H2 e2 R2 => ⟨Z2, e.trans e2, h2 ▸ R2.no j⟩
/-- range(lo, n) -/
theorem does_forR2 {lo n : Int} {ta : TA} (hn : Eva K ta (er ρ) [.int lo, .int n]) (hz : n ≤ 1000000 ∧ -1000000 ≤ n) (hz0 : -1000000 ≤ lo ∧ lo ≤ 1000000) (S : Nat → List Sl) (h0 : ρ.set j .no = S 0)
    (hs : ∀ i : Nat, lo + (i : Int) < n → ∃ ρ', Does K W tb ((S i).set j (.fr (.int (lo + (i : Int))))) (.nx ρ') ∧ ρ'.set j .no = S (i + 1)) : Does K W (tFor (iRng2 ta) (gName j) tb) ρ (.nx (S (n - lo).toNat)) := fun Z σ H D R q => hn σ H _ R.relE fun vs H1 e1 r1 => by
  obtain ⟨v, w, rfl, hv, hw⟩ := r1.two
  obtain rfl := hv.int_eq
  obtain rfl := hw.int_eq
  refine ⟨lo, n, rfl, ⟨by omega, by omega, by omega, by omega⟩, ?_⟩
  refine for_range (lo := lo) (n := (n - lo).toNat) (fun i σ H => ∃ Z', Same Z Z' ∧ RelS K Z' (S i) σ H) ⟨Z, Same.refl Z, h0 ▸ (R.grow e1).no j⟩ (fun i σ H hi ⟨Z', e, R'⟩ => ?_) fun σ H ⟨Z', e, R'⟩ => q Z' σ H e R'
  obtain ⟨ρ', h1, h2⟩ := hs i (by omega)
  exact h1 Z' _ H _ (R'.put (Same.refl H) (s' := .fr (.int (lo + (i : Int)))) (F := []) ⟨rfl, _, rfl, .int _⟩ fun _ m => nomatch m) fun Z2 σ2 H2 e2 R2 => ⟨Z2, e.trans e2, h2 ▸ R2.no j⟩
/-- range(lo, n, -1) -/
theorem does_forD {lo n : Int} {ta : TA} (hn : Eva K ta (er ρ) [.int lo, .int n, .int (-1)]) (hz : n ≤ 1000000 ∧ -1000000 ≤ n) (hz0 : -1000000 ≤ lo ∧ lo ≤ 1000000) (S : Nat → List Sl) (h0 : ρ.set j .no = S 0)
    (hs : ∀ i : Nat, n < lo - (i : Int) → ∃ ρ', Does K W tb ((S i).set j (.fr (.int (lo - (i : Int))))) (.nx ρ') ∧ ρ'.set j .no = S (i + 1)) : Does K W (tFor (iRng3 ta) (gName j) tb) ρ (.nx (S (lo - n).toNat)) := fun Z σ H D R q => hn σ H _ R.relE fun vs H1 e1 r1 => by
  cases r1 with
  | cons hv r2 =>
    obtain ⟨w, u, rfl, hw, hu⟩ := r2.two
    obtain rfl := hv.int_eq
    obtain rfl := hw.int_eq
    obtain rfl := hu.int_eq
    refine ⟨lo, n, -1, (lo - n).toNat, rfl, RgC.neg (by omega) (by omega) (by omega) (by omega), ?_⟩
    refine for_rangeC (lo := lo) (c := -1) (n := (lo - n).toNat) (fun i σ H => ∃ Z', Same Z Z' ∧ RelS K Z' (S i) σ H) ⟨Z, Same.refl Z, h0 ▸ (R.grow e1).no j⟩ (fun i σ H hi ⟨Z', e, R'⟩ => ?_) fun σ H ⟨Z', e, R'⟩ => q Z' σ H e R'
    obtain ⟨ρ', h1, h2⟩ := hs i (by omega)
    have e0 : lo + (i : Int) * -1 = lo - (i : Int) := by omega
    rw [e0]
    exact h1 Z' _ H _ (R'.put (Same.refl H) (s' := .fr (.int (lo - (i : Int)))) (F := []) ⟨rfl, _, rfl, .int _⟩ fun _ m => nomatch m) fun Z2 σ2 H2 e2 R2 => ⟨Z2, e.trans e2, h2 ▸ R2.no j⟩
/-- while -/
theorem does_while (n : Nat) (S : Nat → List Sl) (h0 : ρ = S 0) (hc : ∀ i, i < n → Evt K tc (er (S i)) true) (hs : ∀ i, i < n → Does K W tb (S i) (.nx (S (i + 1)))) (he : Evt K tc (er (S n)) false) : Does K W (tWhile tc tb) ρ (.nx (S n)) := fun Z σ H D R q => by
  refine ⟨fun m σ H => ∃ i Z', m = n - i ∧ i ≤ n ∧ Same Z Z' ∧ RelS K Z' (S i) σ H, ⟨n, 0, Z, rfl, Nat.zero_le _, Same.refl Z, h0 ▸ R⟩, ?_⟩
  rintro m σ H ⟨i, Z', rfl, hi, e, R'⟩
  by_cases hlt : i < n
  · refine hc i hlt σ H _ R'.relE fun H1 e1 => ?_
    show ∃ N : L2.St → Hp → Prop, _
    refine ⟨fun σ2 H2 => ∃ Z2, Same Z Z2 ∧ RelS K Z2 (S (i + 1)) σ2 H2, fun σ2 H2 ⟨Z2, e2, R2⟩ => ⟨n - (i + 1), by omega, i + 1, Z2, rfl, hlt, e2, R2⟩, ?_⟩
    exact hs i hlt Z' σ H1 _ (R'.grow e1) fun Z2 σ2 H2 e2 R2 => ⟨Z2, e.trans e2, R2⟩
  · have ein : i = n := by omega
    subst ein
    refine he σ H _ R'.relE fun H1 e1 => ?_
    show D.nx σ H1
    exact q Z' σ H1 e (R'.grow e1)
end
end Pur

set_option Elab.async false
set_option linter.all false
set_option maxRecDepth 100000
set_option maxHeartbeats 4000000
namespace Pur
open PySem PySem.Spec L2
/-! ## checks: nothing is changed; it goes on, or it ends -/
inductive CO where
  | go
  | rt (d : PyData)
  | ex (c : Addr)
def CDone (K : Frg) (W : WX) (D : Ends) (σ : L2.St) (H : Hp) : CO → Prop
  | .go => ∀ H', Same H H' → D.nx σ H'
  | .rt d => ∀ v H', Same H H' → Rp K H' v d → D.rt v H'
  | .ex c => ∀ H', Same H H' → W (.ref c) none σ H'
def Chk (K : Frg) (W : WX) (t : TS) (ρ : DE) (o : CO) : Prop := ∀ σ H D, RelE K ρ σ H → CDone K W D σ H o → t D σ H
def toOut (ρ : List Sl) : CO → Out
  | .go => .nx ρ
  | .rt d => .rt d
  | .ex c => .ex c ρ
section
variable {K : Frg} {W : WX} {Z Z' H H' : Hp} {ρ : DE} {σ : L2.St} {t u tb : TS} {te ta tk tl : TE} {tc : TT} {o : CO} {d e : PyData} {i j k : Nat} {D : Ends} {c : Addr} {b : Bool}
theorem CDone.more (h : CDone K W D σ H o) (e : Same H H') : CDone K W D σ H' o := by
  cases o with
  | go => exact fun H2 e2 => h H2 (e.trans e2)
  | rt d => exact fun v H2 e2 r => h v H2 (e.trans e2) r
  | ex c => exact fun H2 e2 => h H2 (e.trans e2)
theorem chk_next : Chk K W tNext ρ .go := fun σ H D R q => q H (Same.refl H)
theorem chk_if (hc : Evt K tc ρ b) (h1 : b = true → Chk K W t ρ o) (h2 : b = false → Chk K W u ρ o) : Chk K W (tIfS tc t u) ρ o := fun σ H D R q => hc σ H _ R fun H1 e1 => by
  cases b with
  | true =>
    show t D σ H1
    exact h1 rfl σ H1 D (R.mono e1) (q.more e1)
  | false =>
    show u D σ H1
    exact h2 rfl σ H1 D (R.mono e1) (q.more e1)
theorem chk_seq (h : Chk K W t ρ .go) (h2 : Chk K W u ρ o) : Chk K W (tSeq t u) ρ o := fun σ H D R q => h σ H { D with nx := u D } R fun H1 e1 => h2 σ H1 D (R.mono e1) (q.more e1)
theorem chk_seq_rt (h : Chk K W t ρ (.rt d)) : Chk K W (tSeq t u) ρ (.rt d) := fun σ H D R q => h σ H { D with nx := u D } R q
theorem chk_seq_ex (h : Chk K W t ρ (.ex c)) : Chk K W (tSeq t u) ρ (.ex c) := fun σ H D R q => h σ H { D with nx := u D } R q
theorem chk_ret (h : Evr K te ρ d) : Chk K W (tRet te) ρ (.rt d) := fun σ H D R q => h σ H _ R fun v H1 e1 r => q v H1 e1 r
theorem chk_raise : Chk K W (fun _ σ H => W (.ref c) none σ H) ρ (.ex c) := fun σ H D R q => q H (Same.refl H)
theorem chk_drop (h : Evr K te ρ d) : Chk K W (tDrop te) ρ .go := fun σ H D R q => h σ H _ R fun v H1 e1 r => q H1 e1
theorem chk_dropx (h : EvX K W te ρ c) : Chk K W (tDrop te) ρ (.ex c) := fun σ H D R q => h σ H _ R fun H1 e1 => q H1 e1
end
section
variable {K : Frg} {W : WX} {Z Z' H H' : Hp} {ρ : List Sl} {σ : L2.St} {t u tb : TS} {te ta tk tl : TE} {tc : TT} {d e : PyData} {i j k : Nat} {D : Ends} {c : Addr} {b : Bool}
theorem chk_does {o : CO} (h : Chk K W t (er ρ) o) (hs : ∀ d, o = .rt d → Scal d) : Does K W t ρ (toOut ρ o) := fun Z σ H D R q => by
  cases o with
  | go => exact h σ H D R.relE fun H' e => q Z σ H' (Same.refl Z) (R.grow e)
  | rt d => exact h σ H D R.relE fun v H' e r => q v H' [] (R.ext.trans e) (r.ow (hs d rfl)) fun _ m => nomatch m
  | ex c => exact h σ H D R.relE fun H' e => q Z σ H' (Same.refl Z) (R.grow e)
theorem set_or {σ σ' : L2.St} {j : Nat} (h : σ' = σ ∨ ∃ y, σ' = σ.set j y) (x : Option V) : σ'.set j x = σ.set j x := by
  rcases h with rfl | ⟨y, rfl⟩
  · rfl
  · rw [List.set_set]
theorem RelS.loose (R : RelS K Z ρ σ H) (e : Same H H') {σ' : L2.St} {j : Nat} (h : σ' = σ ∨ ∃ y : V, σ' = σ.set j (some y)) : RelS K Z (ρ.set j .no) σ' H' := by
  rcases h with rfl | ⟨y, rfl⟩
  · exact (R.grow e).no j
  · exact R.put e (s' := .no) (F := []) rfl fun _ m => nomatch m
theorem or_set {σ σ' : L2.St} {j : Nat} (x : V) (h : σ' = σ ∨ ∃ y : V, σ' = σ.set j (some y)) : σ'.set j (some x) = σ.set j (some x) := by
  rcases h with rfl | ⟨y, rfl⟩
  · rfl
  · rw [List.set_set]
/-- a checking loop over a list that goes through -/
theorem does_chkL {α : Type} {cd : α → PyData} {xs : List α} (hl : Evr K tl (er ρ) (.list (xs.map cd))) (hs : ∀ x ∈ xs, Chk K W tb ((er ρ).set j (some (cd x))) .go) : Does K W (tFor (iList K tl) (gName j) tb) ρ (.nx (ρ.set j .no)) := fun Z σ H D R q => hl σ H _ R.relE fun v H1 e1 r1 => by
  obtain ⟨a, vs, rfl, ha, hx⟩ := r1.list
  have hlen := hx.length
  rw [List.length_map] at hlen
  refine ⟨a, rfl, ⟨vs, sql ha⟩, ?_⟩
  refine for_list (K := K) (a := a) (xs := vs) (fun i σ' H' => Same H1 H' ∧ (σ' = σ ∨ ∃ y : V, σ' = σ.set j (some y))) ⟨Same.refl _, .inl rfl⟩ (fun i σ' H' _ p => sql (p.1 _ _ ha)) (fun i x σ' H' hi p => ?_) fun σ' H' p => q Z σ' H' (Same.refl Z) (R.loose (e1.trans p.1) p.2)
  obtain ⟨d, hd, rd⟩ := hx.getV hi
  rw [List.getElem?_map] at hd
  cases ex : xs[i]? with
  | none => rw [ex] at hd; cases hd
  | some y =>
    rw [ex] at hd
    have ed : cd y = d := Option.some.inj hd
    subst ed
    show tb _ (σ'.set j (some x)) H'
    rw [or_set x p.2]
    exact hs y (List.mem_of_getElem? ex) _ H' _ ((R.relE.mono (e1.trans p.1)).set (rd.mono p.1) j) fun H2 e2 => ⟨p.1.trans e2, .inr ⟨x, rfl⟩⟩
theorem does_chkLx {α : Type} {cd : α → PyData} {xs : List α} {o : CO} (hl : Evr K tl (er ρ) (.list (xs.map cd))) (n : Nat) (y : α) (hn : xs[n]? = some y) (hs : ∀ i x, i < n → xs[i]? = some x → Chk K W tb ((er ρ).set j (some (cd x))) .go) (ho : Chk K W tb ((er ρ).set j (some (cd y))) o) (hg : o ≠ .go) (hsc : ∀ d, o = .rt d → Scal d) :
    Does K W (tFor (iList K tl) (gName j) tb) ρ (toOut (ρ.set j .no) o) := fun Z σ H D R q => hl σ H _ R.relE fun v H1 e1 r1 => by
  obtain ⟨a, vs, rfl, ha, hx⟩ := r1.list
  have hlen := hx.length
  rw [List.length_map] at hlen
  have hnl : n < xs.length := (List.getElem?_eq_some_iff.mp hn).1
  refine ⟨a, rfl, ⟨vs, sql ha⟩, ?_⟩
  refine for_list (K := K) (a := a) (xs := vs) (fun i σ' H' => i ≤ n ∧ Same H1 H' ∧ (σ' = σ ∨ ∃ y : V, σ' = σ.set j (some y))) ⟨Nat.zero_le _, Same.refl _, .inl rfl⟩ (fun i σ' H' _ p => sql (p.2.1 _ _ ha)) (fun i x σ' H' hi p => ?_) fun σ' H' p => absurd p.1 (by omega)
  obtain ⟨hin, p1, p2⟩ := p
  obtain ⟨d, hd, rd⟩ := hx.getV hi
  rw [List.getElem?_map] at hd
  cases ex : xs[i]? with
  | none => rw [ex] at hd; cases hd
  | some z =>
    rw [ex] at hd
    have ed : cd z = d := Option.some.inj hd
    subst ed
    show tb _ (σ'.set j (some x)) H'
    rw [or_set x p2]
    have R2 := (R.relE.mono (e1.trans p1)).set (rd.mono p1) j
    by_cases hlt : i < n
    · exact hs i z hlt ex _ H' _ R2 fun H2 e2 => ⟨hlt, p1.trans e2, .inr ⟨x, rfl⟩⟩
    · have ein : i = n := by omega
      subst ein
      rw [hn] at ex
      have ez := Option.some.inj ex
      subst ez
      refine ho _ H' _ R2 ?_
      cases o with
      | go => exact absurd rfl hg
      | rt d => exact fun v H2 e2 r => q v H2 [] (R.ext.trans ((e1.trans p1).trans e2)) (r.ow (hsc d rfl)) fun _ m => nomatch m
      | ex c => exact fun H2 e2 => q Z _ H2 (Same.refl Z) (R.loose ((e1.trans p1).trans e2) (.inr ⟨x, rfl⟩))
theorem does_chkR {n : Int} {ta : TA} (hn : Eva K ta (er ρ) [.int n]) (hz : n ≤ 1000000) (hz0 : -1000000 ≤ n) (hs : ∀ i : Nat, (i : Int) < n → Chk K W tb ((er ρ).set j (some (.int (i : Int)))) .go) : Does K W (tFor (iRng1 ta) (gName j) tb) ρ (.nx (ρ.set j .no)) := fun Z σ H D R q => hn σ H _ R.relE fun vs H1 e1 r1 => by
  obtain ⟨v, rfl, hv⟩ := r1.one
  obtain rfl := hv.int_eq
  refine ⟨n, rfl, by omega, by omega, ?_⟩
  refine for_range (lo := 0) (n := n.toNat) (fun i σ' H' => Same H1 H' ∧ (σ' = σ ∨ ∃ y : V, σ' = σ.set j (some y))) ⟨Same.refl _, .inl rfl⟩ (fun i σ' H' hi p => ?_) fun σ' H' p => q Z σ' H' (Same.refl Z) (R.loose (e1.trans p.1) p.2)
  have e0 : (0 : Int) + (i : Int) = (i : Int) := Int.zero_add _
  rw [e0]
  show tb _ (σ'.set j (some _)) H'
  rw [or_set _ p.2]
  exact hs i (by omega) _ H' _ ((R.relE.mono (e1.trans p.1)).set (.int _) j) fun H2 e2 => ⟨p.1.trans e2, .inr ⟨_, rfl⟩⟩
theorem does_chkRx {n : Int} {ta : TA} {o : CO} (hn : Eva K ta (er ρ) [.int n]) (hz : n ≤ 1000000) (m : Nat) (hm : (m : Int) < n) (hs : ∀ i : Nat, i < m → Chk K W tb ((er ρ).set j (some (.int (i : Int)))) .go) (ho : Chk K W tb ((er ρ).set j (some (.int (m : Int)))) o) (hg : o ≠ .go) (hsc : ∀ d, o = .rt d → Scal d) :
    Does K W (tFor (iRng1 ta) (gName j) tb) ρ (toOut (ρ.set j .no) o) := fun Z σ H D R q => hn σ H _ R.relE fun vs H1 e1 r1 => by
  obtain ⟨v, rfl, hv⟩ := r1.one
  obtain rfl := hv.int_eq
  refine ⟨n, rfl, by omega, by omega, ?_⟩
  refine for_range (lo := 0) (n := n.toNat) (fun i σ' H' => i ≤ m ∧ Same H1 H' ∧ (σ' = σ ∨ ∃ y : V, σ' = σ.set j (some y))) ⟨Nat.zero_le _, Same.refl _, .inl rfl⟩ (fun i σ' H' hi p => ?_) fun σ' H' p => absurd p.1 (by omega)
  obtain ⟨hin, p1, p2⟩ := p
  have e0 : (0 : Int) + (i : Int) = (i : Int) := Int.zero_add _
  rw [e0]
  show tb _ (σ'.set j (some _)) H'
  rw [or_set _ p2]
  have R2 := (R.relE.mono (e1.trans p1)).set (.int (i : Int)) j
  by_cases hlt : i < m
  · exact hs i hlt _ H' _ R2 fun H2 e2 => ⟨hlt, p1.trans e2, .inr ⟨_, rfl⟩⟩
  · have ein : i = m := by omega
    subst ein
    refine ho _ H' _ R2 ?_
    cases o with
    | go => exact absurd rfl hg
    | rt d => exact fun v H2 e2 r => q v H2 [] (R.ext.trans ((e1.trans p1).trans e2)) (r.ow (hsc d rfl)) fun _ m => nomatch m
    | ex c => exact fun H2 e2 => q Z _ H2 (Same.refl Z) (R.loose ((e1.trans p1).trans e2) (.inr ⟨_, rfl⟩))
/-- the first that fails -/
theorem first_bad (p : Nat → Bool) : ∀ n : Nat, (∀ i, i < n → p i = true) ∨ ∃ m, m < n ∧ p m = false ∧ ∀ i, i < m → p i = true
  | 0 => .inl fun _ h => absurd h (Nat.not_lt_zero _)
  | n + 1 => by
    rcases first_bad p n with h | ⟨m, h1, h2, h3⟩
    · cases e : p n with
      | true =>
        refine .inl fun i hi => ?_
        by_cases e2 : i = n
        · rw [e2]; exact e
        · exact h i (by omega)
      | false => exact .inr ⟨n, by omega, e, h⟩
    · exact .inr ⟨m, by omega, h2, h3⟩
/-- for k in range(n): .. return d, where p fails; then u -/
theorem does_searchR {n : Int} {ta : TA} {o : Out} {d : PyData} (p : Nat → Bool) (hn : Eva K ta (er ρ) [.int n]) (hz : n ≤ 1000000) (hz0 : -1000000 ≤ n) (hd : Scal d) (hg : ∀ i : Nat, (i : Int) < n → p i = true → Chk K W tb ((er ρ).set j (some (.int (i : Int)))) .go)
    (hb : ∀ i : Nat, (i : Int) < n → (∀ l, l < i → p l = true) → p i = false → Chk K W tb ((er ρ).set j (some (.int (i : Int)))) (.rt d)) (hall : (∀ i : Nat, (i : Int) < n → p i = true) → Does K W u (ρ.set j .no) o) (hex : ∀ m : Nat, (m : Int) < n → p m = false → o = .rt d) : Does K W (tSeq (tFor (iRng1 ta) (gName j) tb) u) ρ o := by
  rcases first_bad p n.toNat with h | ⟨m, h1, h2, h3⟩
  · exact does_seq (does_chkR hn hz hz0 fun i hi => hg i hi (h i (by omega))) (hall fun i hi => h i (by omega))
  · rw [hex m (by omega) h2]
    exact does_seq_rt (does_chkRx hn hz m (by omega) (fun i hi => hg i (by omega) (h3 i hi)) (hb m (by omega) h3 h2) (fun z => nomatch z) fun e q => by cases q; exact hd)
end
/-! ## a def -/
def entry (N : List Str) (ds : List PyData) : List Sl := ds.map .fr ++ List.replicate (N.length - ds.length) .no
def FnDoes (K : Frg) (W : WX) (t : TS) (ρ : List Sl) : Except Addr PyData → Prop
  | .ok d => Does K W t ρ (.rt d) ∨ (d = .none ∧ ∃ ρ', Does K W t ρ (.nx ρ'))
  | .error c => ∃ ρ', Does K W t ρ (.ex c ρ')
theorem entry_rel {K : Frg} {H : Hp} {N : List Str} {vs : List V} {ds : List PyData} (r : RpAll K H vs ds) : RelS K H (entry N ds) (L2.start N vs) H := by
  have hl := r.length
  refine ⟨by unfold entry L2.start; simp [hl], Same.refl H, fun _ => [], ⟨fun i s h => ?_, fun _ _ _ _ m => (nomatch m), fun _ _ m => (nomatch m), fun _ _ => rfl⟩⟩
  unfold entry at h
  by_cases hi : i < ds.length
  · rw [List.getElem?_append_left (by rw [List.length_map]; exact hi), List.getElem?_map, List.getElem?_eq_getElem hi] at h
    have q : Sl.fr ds[i] = s := Option.some.inj h
    subst q
    obtain ⟨v, hv, rv⟩ := r.get (List.getElem?_eq_getElem hi)
    refine ⟨rfl, v, ?_, rv⟩
    unfold L2.start
    rw [List.getElem?_append_left (by rw [List.length_map, hl]; exact hi), List.getElem?_map, hv]
    rfl
  · rw [List.getElem?_append_right (by rw [List.length_map]; omega), List.getElem?_replicate] at h
    split at h
    · have q : Sl.no = s := Option.some.inj h
      subst q
      rfl
    · cases h
section
variable {P : Program} {w : World} {K : Frg} {mg : Str → Option Value} {base : Heap}
open PyProof.Rows in
theorem fn_pur {x qual : Str} {st : Stmt} {f : Addr} {fd : FuncData} {N ps : List Str} {k : Nat} {R : List PyData → Except Addr PyData → Prop} (F : Fun K x qual st f fd) (S : FnScope N ps (defScope st)) (len : ∀ ds o, R ds o → ds.length = ps.length)
    (hbody : ∀ (cdv : Value) (A : Around) (outer : List Env) (s : Shared) (H : Hp) (E : XK), Room k (A.deeper (envOfC qual (defScope st) s.heap.objs.size f cdv)) → ∀ ds o, R ds o →
      ∃ t, PSs (cxOf (L2.CX P w) P w K mg base N qual (defScope st) f cdv A outer s H E) (defBody st) t ∧ FnDoes K (fun cls d _ H => E cls d H) t (entry N ds) o) : FnOk P w K mg base (L2.CX P w) (k + 1) f fd ps (spOf K R) := by
  refine F.okX S (fun vs H Q E h => ?_) (fun cdv A outer s H vs Q E hr h => ?_)
  · obtain ⟨ds, o, h1, h2, _⟩ := h
    rw [h1.length]
    exact len ds o h2
  · obtain ⟨ds, o, h1, h2, h3⟩ := h
    obtain ⟨t, ht, hd⟩ := hbody cdv A outer s H E hr ds o h2
    refine ⟨t, ht, ?_⟩
    cases o with
    | ok d =>
      rcases hd with hd | ⟨rfl, ρ', hd⟩
      · exact hd H _ H _ (entry_rel h1) fun v H' F e w' f => h3 v H' F e w' f
      · exact hd H _ H _ (entry_rel h1) fun Z' σ' H' e R' => h3 .non H' [] (e.trans R'.ext) .non fun _ m => nomatch m
    | error c =>
      obtain ⟨ρ', hd⟩ := hd
      exact hd H _ H _ (entry_rel h1) fun Z' σ' H' e R' => h3 H' (e.trans R'.ext)
end
/-- a def that stands in the text -/
structure Df (K : Frg) (mg : Str → Option Value) (x : Str) (st : Stmt) (ps : List Str) (f : Addr) (fd : FuncData) : Prop where
  F : Fun K x x st f fd
  b : Binds K fd ps []
  g : mg x = some (.ref f)
end Pur

set_option Elab.async false
set_option linter.all false
set_option maxRecDepth 100000
set_option maxHeartbeats 4000000
namespace Pur
open PySem PySem.Spec PyProof.Rows L2
/-! ## the errors' classes -/
structure Ec where
  BeadError : Addr
  TooFew : Addr
  NoBeads : Addr
  NoRods : Addr
  NoCore : Addr
  NoQuotient : Addr
  NoCharges : Addr
  NoNote : Addr
/-- what the text says of a class of errors -/
structure Xc (K : Frg) (mg : Str → Option Value) (x : Str) (c : Addr) : Prop where
  g : mg x = some (.ref c)
  x : PySem.W.excIn K c [.type "ValueError", .type "Exception", .type "BaseException", .type "object"] "ValueError.__new__" = true
  k : PySem.W.keepIn K (.ref c) = true
  b : PySem.W.subIn K (.ref c) (.type "BaseException") = some true
  t : PySem.W.typeIn K (.ref c) = some (.type "type")
/-- raise X('..') -/
def tRz (W : WX) (c : Addr) : TS := fun _ σ H => W (.ref c) none σ H
/-! ## names of the operators -/
def rSubI : R2 := rI0 fun i j => .int (i - j)
def rDivI : R2 := rI CDiv fun i j => .int (i / j)
def rModI : R2 := rI (fun _ j => 0 < j) fun i j => .int (i % j)
def rPowI : R2 := rI CPow fun i j => .int (i ^ j.toNat)
def rLtI : R2 := rI0 fun i j => .bl (decide (i < j))
def rLeI : R2 := rI0 fun i j => .bl (decide (i ≤ j))
def rGtI : R2 := rI0 fun i j => .bl (decide (j < i))
def rGeI : R2 := rI0 fun i j => .bl (decide (j ≤ i))
section
variable {X : Cx}
theorem op_subI : OpR X (binaryOp .Sub) rSubI := op_sub
theorem op_divI : OpR X (binaryOp .FloorDiv) rDivI := op_fdiv
theorem op_modI : OpR X (binaryOp .Mod) rModI := op_mod
theorem op_powI : OpR X (binaryOp .Pow) rPowI := op_pow
theorem op_ltI : OpR X (compareOp .Lt) rLtI := op_lt
theorem op_leI : OpR X (compareOp .LtE) rLeI := op_le
theorem op_gtI : OpR X (compareOp .Gt) rGtI := op_gt
theorem op_geI : OpR X (compareOp .GtE) rGeI := op_ge
end
section
variable {K : Frg} {W : WX} {ρ : DE} {ta tb te tx : TE} {i j : Int} {d : PyData} {c : Addr}
theorem ev_sub (ha : Evr K ta ρ (.int i)) (hb : Evr K tb ρ (.int j)) : Evr K (tOp rSubI ta tb) ρ (.int (i - j)) := ev_i0 ha hb
theorem ev_div (ha : Evr K ta ρ (.int i)) (hb : Evr K tb ρ (.int j)) (h : 0 < j ∧ j < 1073741824) : Evr K (tOp rDivI ta tb) ρ (.int (i / j)) := ev_i1 ha hb h
theorem ev_mod (ha : Evr K ta ρ (.int i)) (hb : Evr K tb ρ (.int j)) (h : 0 < j) : Evr K (tOp rModI ta tb) ρ (.int (i % j)) := ev_i1 ha hb h
theorem ev_pow (ha : Evr K ta ρ (.int i)) (hb : Evr K tb ρ (.int j)) (h : 0 ≤ j ∧ j ≤ 1000000 ∧ i.natAbs < 2 ^ 64) : Evr K (tOp rPowI ta tb) ρ (.int (i ^ j.toNat)) := ev_i1 ha hb h
theorem ev_lt (ha : Evr K ta ρ (.int i)) (hb : Evr K tb ρ (.int j)) : Evr K (tOp rLtI ta tb) ρ (.bool (decide (i < j))) := ev_c0 ha hb
theorem ev_le (ha : Evr K ta ρ (.int i)) (hb : Evr K tb ρ (.int j)) : Evr K (tOp rLeI ta tb) ρ (.bool (decide (i ≤ j))) := ev_c0 ha hb
theorem ev_gt (ha : Evr K ta ρ (.int i)) (hb : Evr K tb ρ (.int j)) : Evr K (tOp rGtI ta tb) ρ (.bool (decide (j < i))) := ev_c0 ha hb
theorem ev_ge (ha : Evr K ta ρ (.int i)) (hb : Evr K tb ρ (.int j)) : Evr K (tOp rGeI ta tb) ρ (.bool (decide (j ≤ i))) := ev_c0 ha hb
/-! ### isinstance -/
def tyN : PyData → String
  | .none => "NoneType"
  | .bool _ => "bool"
  | .int _ => "int"
  | .str _ => "str"
  | .list _ => "list"
  | .tuple _ => "tuple"
  | .dict _ => "dict"
theorem Rp.ty {H : Hp} {v : V} (h : Rp K H v d) (n : tyN d ≠ "dict") : TyX K H v (.type (tyN d)) := by
  cases h with
  | non => exact .base .non
  | bl b => exact .base (.bl b)
  | int i => exact .base (.int i)
  | str x => exact .base (.str x)
  | lst ha _ => exact .base (.lst ha)
  | tup ha _ => exact .base (.tup ha)
  | scr _ => exact absurd rfl n
  | adr _ => exact absurd rfl n
theorem ev_isi {T : String} {b : Bool} (ha : Evr K ta ρ d) (hk : kitB (tyN d) T = some b) (n : tyN d ≠ "dict" := by decide) : Evr K (tCB (rIsi K) (tCons ta (tCons (tC (.ty T)) tNil))) ρ (.bool b) := fun σ H Q R q => ha σ H _ R fun v H1 e1 r1 =>
  ⟨v, .ty T, .type (tyN d), .type T, b, rfl, .ty T, r1.ty n, kit_ty hk, q _ H1 e1 (.bl b)⟩
theorem ev_call {R : List PyData → Except Addr PyData → Prop} {t : TA} {ds : List PyData} {E : XK} (ha : Eva K t ρ ds) (h : R ds (.ok d)) : Evr K (tCall (spOf K R) [] E t) ρ d := (evf_call ha h).r
theorem ev_callS {R : List PyData → Except Addr PyData → Prop} {t : TA} {ds : List PyData} {E : L2.St → XK} (ha : Eva K t ρ ds) (h : R ds (.ok d)) : Evr K (tCallS (spOf K R) E t) ρ d := (evf_callS ha h).r
end
theorem does_rz {K : Frg} {W : WX} {ρ : List Sl} {c : Addr} : Does K W (tRz W c) ρ (.ex c ρ) := fun Z σ H D R q => q Z σ H (Same.refl Z) R
theorem chk_rz {K : Frg} {W : WX} {ρ : DE} {c : Addr} : Chk K W (tRz W c) ρ (.ex c) := fun σ H D R q => q H (Same.refl H)
theorem kit_bb : kitB "bool" "bool" = some true := by decide +kernel
theorem kit_ib : kitB "int" "bool" = some false := by decide +kernel
theorem kit_ii : kitB "int" "int" = some true := by decide +kernel
theorem kit_bi : kitB "bool" "int" = some true := by decide +kernel
theorem kit_ll : kitB "list" "list" = some true := by decide +kernel
theorem kit_tt : kitB "tuple" "tuple" = some true := by decide +kernel
theorem kit_ss : kitB "str" "str" = some true := by decide +kernel
section
variable {K : Frg} {ρ : DE} {ta : TE}
theorem ev_isl {ds : List PyData} (ha : Evr K ta ρ (.list ds)) : Evr K (tCB (rIsi K) (tCons ta (tCons (tC (.ty "list")) tNil))) ρ (.bool true) := ev_isi ha (T := "list") kit_ll (show "list" ≠ "dict" by decide)
theorem ev_ist {ds : List PyData} (ha : Evr K ta ρ (.tuple ds)) : Evr K (tCB (rIsi K) (tCons ta (tCons (tC (.ty "tuple")) tNil))) ρ (.bool true) := ev_isi ha (T := "tuple") kit_tt (show "tuple" ≠ "dict" by decide)
theorem ev_isb {b : Bool} (ha : Evr K ta ρ (.bool b)) : Evr K (tCB (rIsi K) (tCons ta (tCons (tC (.ty "bool")) tNil))) ρ (.bool true) := ev_isi ha (T := "bool") kit_bb (show "bool" ≠ "dict" by decide)
theorem ev_isn {i : Int} (ha : Evr K ta ρ (.int i)) : Evr K (tCB (rIsi K) (tCons ta (tCons (tC (.ty "int")) tNil))) ρ (.bool true) := ev_isi ha (T := "int") kit_ii (show "int" ≠ "dict" by decide)
theorem ev_iss {z : Str} (ha : Evr K ta ρ (.str z)) : Evr K (tCB (rIsi K) (tCons ta (tCons (tC (.ty "str")) tNil))) ρ (.bool true) := ev_isi ha (T := "str") kit_ss (show "str" ≠ "dict" by decide)
end
end Pur
namespace Pur
open PySem PySem.Spec PyProof.Rows L2
/-- the law's promise, from what the walk gives -/
theorem law_sp {K : Frg} {H : Hp} {a : Addr} {ns : List Int} {n : Nat} (hl : ns.length ≤ n) (hS : SqL K H a (ns.map V.int)) : spOf K (fun ds o => ∃ ns : List Int, ds = [dScr ns] ∧ ns.length ≤ n ∧ o = .ok (.bool true)) [.ref a] H (fun v _ => v = .bl true) (fun _ _ _ => False) :=
  ⟨[dScr ns], .ok (.bool true), .cons (.scr hS) .nil, ⟨ns, rfl, hl, rfl⟩, fun v H' F e w f => by cases w; rfl⟩
theorem cx_no {P : Program} {w : World} {l : List Env} {H : Hp} {s : Shared} {e : Value} {s' : Shared} (h : L2.CX P w l H s (fun _ _ _ => False) e s') : False := by
  obtain ⟨_, _, _, _, _, _, _, _, _, _, _, _, z⟩ := h
  exact z
end Pur

set_option Elab.async false
set_option linter.all false
set_option maxRecDepth 100000
set_option maxHeartbeats 400000
namespace Pur
open PySem PySem.Spec PySem.W PyProof.Rows L2

section
variable {prog : Program} {w : World} {A : Around} {R : Result → Shared → Prop} {I : Addr} {fp wr : List Addr} {n : Nat} {P : Nat → Value → Prop} {St : Nat → Heap → Prop}
/-- the loop of min(.., default=..), whatever the keywords -/
theorem minD_turns (kw : List (Str × Value)) (val : Nat → Int) (Wk : Walks prog w A.in1 I fp wr n P St) (cm : CmpOf prog w A.in1 .Lt P (fun i j => decide (val i < val j))) (S : Addr) (off : S ∉ fp) :
    ∀ (k i b : Nat) (s : Shared) (v : Value) (c : Nat), n - i = k → i ≤ n → b < i → (∀ j, j < i → val b ≤ val j) → St i s.heap → P b v → s.heap.get? S = some { cls := .type "list", dict := none, data := .seq #[v, v] c, slots := #[] } →
      (∀ b v h2 tk2, b < n → (∀ j, j < n → val b ≤ val j) → P b v → (∀ x o, x ∉ wr → x ≠ S → s.heap.get? x = some o → h2.get? x = some o) → R (.ok (.ret v)) { s with heap := h2, toks := tk2 }) →
      codeAny (model prog w) A (.builtin "min.loop" ⟨[.ref I, .none, .ref S], kw⟩) R s := by
  have offw : S ∉ wr := fun z => off (Wk.sub _ z)
  have nam : (toString "min" ++ toString ".loop" : String) = "min.loop" := by decide
  intro k
  induction k with
  | zero =>
    intro i b s v c hk hi hb hle st pv gS fin
    obtain rfl : i = n := by omega
    refine codeAny_builtin PySem.F.entry_min_loop ?_
    rw [Around.under_plainId PySem.F.plain_min_loop _]
    show wpAny _ A.in1 (seqItems? (.ref S) >>= _) _ _ s
    refine wpAny_bind (wpAny_seqItems gS rfl ?_)
    show wpAny _ A.in1 (tryCatch (pyNext (.ref I)) _ >>= _) _ _ s
    refine wpAny_bind (wpAny_tryCatch (Wk.done s _ _ st fun h1 tk1 kp => ?_))
    have gS1 := kp S _ offw gS
    show wpAny _ A.in1 (updateSeq S (fun _ => #[]) >>= _) _ _ _
    refine wpAny_bind ?_
    refine wpAny_updateSeq gS1 rfl ?_
    refine wpAny_bind (wpAny_letGo (wpAny_pure ?_))
    exact fin b v _ tk1 hb hle pv fun x o hx hxS e => (Heap.get?_update_other _ _ (Ne.symm hxS)).trans (kp x o hx e)
  | succ k ih =>
    intro i b s v c hk hi hb hle st pv gS fin
    have hlt : i < n := by omega
    refine codeAny_builtin PySem.F.entry_min_loop ?_
    rw [Around.under_plainId PySem.F.plain_min_loop _]
    show wpAny _ A.in1 (seqItems? (.ref S) >>= _) _ _ s
    refine wpAny_bind (wpAny_seqItems gS rfl ?_)
    show wpAny _ A.in1 (tryCatch (pyNext (.ref I)) _ >>= _) _ _ s
    refine wpAny_bind (wpAny_tryCatch (Wk.item i s _ _ hlt st fun u h1 tk1 pu st1 kp => ?_))
    have gS1 := kp S _ offw gS
    show wpAny _ A.in1 (tryCatch (holding [u, u] (richCompare .Lt u v >>= _)) _ >>= _) _ _ _
    refine wpAny_bind (wpAny_tryCatch (wpAny_holding (wpAny_bind (cm i b u v _ _ _ pu pv ?_))))
    refine wpAny_bind (wpAny_holding (wpAny_truthy_bool ?_))
    refine wpAny_bind (wpAny_letGo (wpAny_pure ?_))
    by_cases l2 : val i < val b
    · simp only [decide_eq_true l2, if_true]
      refine wpAny_bind ?_
      refine wpAny_updateSeq gS1 rfl ?_
      refine wpAny_bind (wpAny_letGo ?_)
      rw [nam]
      refine wpAny_pure ⟨plainId_quiet PySem.F.plain_min_loop _, ih (i + 1) i _ u _ (by omega) hlt (by omega) (fun j hj => ?_) (Wk.frame _ _ _ st1 fun x hx o e => ?_) pu (Heap.get?_update_self _ gS1 rfl) fun b2 v2 h2 tk2 q1 q2 q3 q4 => ?_⟩
      · by_cases e : j = i
        · rw [e]; exact Int.le_refl _
        · have := hle j (by omega); omega
      · exact (Heap.get?_update_other _ _ (fun z : S = x => off (by rw [z]; exact hx))).trans e
      · exact fin b2 v2 h2 tk2 q1 q2 q3 fun x o hx hxS e => q4 x o hx hxS ((Heap.get?_update_other _ _ (Ne.symm hxS)).trans (kp x o hx e))
    · simp only [decide_eq_false l2, Bool.false_eq_true, if_false]
      refine wpAny_bind (wpAny_letGo ?_)
      rw [nam]
      refine wpAny_pure ⟨plainId_quiet PySem.F.plain_min_loop _, ih (i + 1) b _ v c (by omega) hlt (by omega) (fun j hj => ?_) st1 pv gS1 fun b2 v2 h2 tk2 q1 q2 q3 q4 => ?_⟩
      · by_cases e : j = i
        · rw [e]; omega
        · exact hle j (by omega)
      · exact fin b2 v2 h2 tk2 q1 q2 q3 fun x o hx hxS e => q4 x o hx hxS (kp x o hx e)
theorem minD_first (d : Value) (val : Nat → Int) (Wk : Walks prog w A.in1 I fp wr n P St) (cm : CmpOf prog w A.in1 .Lt P (fun i j => decide (val i < val j))) (S : Addr) (off : S ∉ fp) {s : Shared} {c : Nat} (st : St 0 s.heap)
    (gS : s.heap.get? S = some { cls := .type "list", dict := none, data := .seq #[] c, slots := #[] })
    (fin : ∀ b v h2 tk2, b < n → (∀ j, j < n → val b ≤ val j) → P b v → (∀ x o, x ∉ wr → x ≠ S → s.heap.get? x = some o → h2.get? x = some o) → R (.ok (.ret v)) { s with heap := h2, toks := tk2 })
    (emp : n = 0 → ∀ h2 tk2, (∀ x o, x ∉ wr → x ≠ S → s.heap.get? x = some o → h2.get? x = some o) → R (.ok (.ret d)) { s with heap := h2, toks := tk2 }) :
    codeAny (model prog w) A (.builtin "min.loop" ⟨[.ref I, .none, .ref S], [(Str.ofString "default", d)]⟩) R s := by
  have offw : S ∉ wr := fun z => off (Wk.sub _ z)
  have nam : (toString "min" ++ toString ".loop" : String) = "min.loop" := by decide
  refine codeAny_builtin PySem.F.entry_min_loop ?_
  rw [Around.under_plainId PySem.F.plain_min_loop _]
  show wpAny _ A.in1 (seqItems? (.ref S) >>= _) _ _ s
  refine wpAny_bind (wpAny_seqItems gS rfl ?_)
  show wpAny _ A.in1 (tryCatch (pyNext (.ref I)) _ >>= _) _ _ s
  by_cases hn : n = 0
  · subst hn
    refine wpAny_bind (wpAny_tryCatch (Wk.done s _ _ st fun h1 tk1 kp => ?_))
    show wpAny _ A.in1 (rule _ >>= _) _ _ _
    exact wpAny_bind (wpAny_rule (wpAny_pure (emp rfl _ tk1 fun x o hx _ e => kp x o hx e)))
  · refine wpAny_bind (wpAny_tryCatch (Wk.item 0 s _ _ (by omega) st fun u h1 tk1 pu st1 kp => ?_))
    have gS1 := kp S _ offw gS
    show wpAny _ A.in1 (updateSeq S (fun _ => #[u, u]) >>= _) _ _ _
    refine wpAny_bind ?_
    refine wpAny_updateSeq gS1 rfl ?_
    rw [nam]
    refine wpAny_pure ⟨plainId_quiet PySem.F.plain_min_loop _, minD_turns _ val Wk cm S off _ 1 0 _ u _ rfl (by omega) (by omega) (fun j hj => ?_) (Wk.frame _ _ _ st1 fun x hx o e => ?_) pu (Heap.get?_update_self _ gS1 rfl) fun b2 v2 h2 tk2 q1 q2 q3 q4 => ?_⟩
    · obtain rfl : j = 0 := by omega
      exact Int.le_refl _
    · exact (Heap.get?_update_other _ _ (fun z : S = x => off (by rw [z]; exact hx))).trans e
    · exact fin b2 v2 h2 tk2 q1 q2 q3 fun x o hx hxS e => q4 x o hx hxS ((Heap.get?_update_other _ _ (Ne.symm hxS)).trans (kp x o hx e))
end
theorem minD_args (a d : Value) : argsOk "min" ⟨[a], [(Str.ofString "default", d)]⟩ := by unfold argsOk; kernel_rfl
/-- min(xs, default=d), whole numbers -/
def r_minD (K : Frg) : List V → List V → Hp → VK → Prop := fun vs zs H Q => ∃ (a : Addr) (ns : List Int) (d : Int), vs = [V.ref a] ∧ zs = [V.int d] ∧ SqL K H a (ns.map V.int) ∧ (ns = [] → Q (.int d) H) ∧ ∀ m, m ∈ ns → (∀ y, y ∈ ns → m ≤ y) → Q (.int m) H
theorem cr_minD {X : Cx} (hc : X.calm = true) : CallRK X (.builtin "min") [Str.ofString "default"] (r_minD X.K) := by
  intro pins s σ H vs zs us ws Q I r rz h
  obtain ⟨a, ns, d, rfl, rfl, hs, q0, q1⟩ := h
  obtain ⟨its, rv, hl, hz⟩ := I.list hs
  obtain rfl := Vals.ref1 r
  obtain ⟨w1, rfl, td, rfl⟩ := vals1 rz
  have hi := rv.ints
  have hlen : its.length = ns.length := by rw [← rv.length, List.length_map]
  have old : a < s.heap.objs.size := by
    obtain ⟨o, ho, _⟩ := hl.isList
    exact Heap.lt_size ho
  have nam : (toString "min" ++ toString ".loop" : String) = "min.loop" := by decide
  refine kmk_tree PySem.F.kind_min PySem.F.plain_min PySem.F.entry_min (minD_args _ _) ?_
  show wpAny _ X.A.in1 (Builtin.Builtins.bindParams "min" ["key", "default"] 0 ⟨[], [(Str.ofString "default", .int d td)]⟩ >>= _) _ _ s
  refine wpAny_bind (wpAny_of_eq (show Builtin.Builtins.bindParams "min" ["key", "default"] 0 ⟨[], [(Str.ofString "default", .int d td)]⟩ = pure [none, some (.int d td)] from rfl) ?_)
  refine wpAny_bind (wpAny_pure ?_)
  refine wpAny_bind (wpAny_pyIter_list hl.isList ?_)
  refine wpAny_bind (wpAny_newList ?_ (Nat.zero_le _))
  rw [nam]
  have hS : (s.heap.push { cls := .type "list_iterator", data := .fields #[.ref a, .int 0 0] }).objs.size = s.heap.objs.size + 1 := size_push' ..
  have keep2 : ∀ b o, s.heap.get? b = some o → ((s.heap.push { cls := .type "list_iterator", data := .fields #[.ref a, .int 0 0] }).push { cls := .type "list", data := .seq ([] : List Value).toArray }).get? b = some o := fun b o e => Heap.get?_push_of_some _ (Heap.get?_push_of_some _ e)
  have gI : ((s.heap.push { cls := .type "list_iterator", data := .fields #[.ref a, .int 0 0] }).push { cls := .type "list", data := .seq ([] : List Value).toArray }).get? s.heap.objs.size = some { cls := .type "list_iterator", data := .fields #[.ref a, .int 0 0] } := Heap.get?_push_of_some _ (Heap.get?_push_size _ rfl)
  have gS : ((s.heap.push { cls := .type "list_iterator", data := .fields #[.ref a, .int 0 0] }).push { cls := .type "list", data := .seq ([] : List Value).toArray }).get? (s.heap.push { cls := .type "list_iterator", data := .fields #[.ref a, .int 0 0] }).objs.size = some { cls := .type "list", dict := none, data := .seq #[] 0, slots := #[] } := Heap.get?_push_size _ rfl
  have offS : (s.heap.push { cls := .type "list_iterator", data := .fields #[.ref a, .int 0 0] }).objs.size ∉ [s.heap.objs.size, a] := fun z => by
    rw [hS] at z
    rcases List.mem_cons.mp z with z | z
    · exact Nat.succ_ne_self _ z
    · rw [← List.mem_singleton.mp z] at old
      exact Nat.lt_irrefl _ (Nat.lt_of_succ_lt old)
  have hP : ∀ (i : Nat) (v : Value), its.toArray[i]? = some v → ∃ t, v = .int (ns.getD i 0) t := fun i v e => by
    have e2 : its[i]? = some v := by simpa using e
    obtain ⟨x, hx, rx⟩ : ∃ x, (ns.map V.int)[i]? = some x ∧ RelV x v := by
      have hi' : i < ns.length := by rw [← hlen]; exact (List.getElem?_eq_some_iff.mp e2).1
      obtain ⟨u, hu, ru⟩ := Vals.get (x := V.int ns[i]) rv (by rw [List.getElem?_map, List.getElem?_eq_getElem hi']; rfl)
      rw [e2] at hu
      cases hu
      exact ⟨_, by rw [List.getElem?_map, List.getElem?_eq_getElem hi']; rfl, ru⟩
    rw [List.getElem?_map] at hx
    cases en : ns[i]? with
    | none => rw [en] at hx; cases hx
    | some m =>
      rw [en] at hx
      cases hx
      obtain ⟨t, rfl⟩ := rx
      exact ⟨t, by rw [List.getD_eq_getElem?_getD, en]; rfl⟩
  refine wpAny_pure ⟨plainId_quiet PySem.F.plain_min_loop _, ?_⟩
  refine minD_first (.int d td) (fun i => ns.getD i 0) (Walks.list (A := X.A.in1) (I.ok.hd hc) s.heap.objs.size a (Nat.ne_of_lt old) its.toArray) (CmpOf.ints_lt _ hP) _ offS ⟨⟨_, gI, rfl, rfl⟩, hl.isList.at fun o e => keep2 _ _ e⟩ (c := 0) gS (fun b v h2 tk2 hb hle pv kp => ?_) fun hn h2 tk2 kp => ?_
  · obtain ⟨t, rfl⟩ := hP b v pv
    have hbn : b < ns.length := by rw [← hlen]; simpa using hb
    refine ⟨.int (ns.getD b 0), H, I.kept (h' := h2) (t' := tk2) fun x o e => kp x o (fun z => ?_) (fun z => ?_) (keep2 x o e), ⟨t, rfl⟩, q1 _ ?_ fun y hy => ?_⟩
    · have := Heap.lt_size e
      rw [List.mem_singleton.mp z] at this
      exact Nat.lt_irrefl _ this
    · have := Heap.lt_size e
      rw [z, hS] at this
      exact Nat.lt_irrefl _ (Nat.lt_of_succ_lt this)
    · rw [List.getD_eq_getElem?_getD, List.getElem?_eq_getElem hbn]
      exact List.getElem_mem hbn
    · obtain ⟨j, hj, rfl⟩ := List.getElem_of_mem hy
      have := hle j (by simp [hlen]; exact hj)
      rw [List.getD_eq_getElem?_getD, List.getD_eq_getElem?_getD, List.getElem?_eq_getElem hj] at this
      rw [List.getD_eq_getElem?_getD]
      exact this
  · have hn0 : ns = [] := by
      have : ns.length = 0 := by rw [← hlen]; simpa using hn
      exact List.length_eq_zero_iff.mp this
    refine ⟨.int d, H, I.kept (h' := h2) (t' := tk2) fun x o e => kp x o (fun z => ?_) (fun z => ?_) (keep2 x o e), ⟨td, rfl⟩, q0 hn0⟩
    · have := Heap.lt_size e
      rw [List.mem_singleton.mp z] at this
      exact Nat.lt_irrefl _ this
    · have := Heap.lt_size e
      rw [z, hS] at this
      exact Nat.lt_irrefl _ (Nat.lt_of_succ_lt this)

section
variable {prog : Program} {w : World} {A : Around} {R : Result → Shared → Prop} {I : Addr} {fp wr : List Addr} {n : Nat} {P : Nat → Value → Prop} {St : Nat → Heap → Prop}
/-- the loop of max(.., default=..), whatever the keywords -/
theorem maxD_turns (kw : List (Str × Value)) (val : Nat → Int) (Wk : Walks prog w A.in1 I fp wr n P St) (cm : CmpOf prog w A.in1 .Gt P (fun i j => decide (val i > val j))) (S : Addr) (off : S ∉ fp) :
    ∀ (k i b : Nat) (s : Shared) (v : Value) (c : Nat), n - i = k → i ≤ n → b < i → (∀ j, j < i → val j ≤ val b) → St i s.heap → P b v → s.heap.get? S = some { cls := .type "list", dict := none, data := .seq #[v, v] c, slots := #[] } →
      (∀ b v h2 tk2, b < n → (∀ j, j < n → val j ≤ val b) → P b v → (∀ x o, x ∉ wr → x ≠ S → s.heap.get? x = some o → h2.get? x = some o) → R (.ok (.ret v)) { s with heap := h2, toks := tk2 }) →
      codeAny (model prog w) A (.builtin "max.loop" ⟨[.ref I, .none, .ref S], kw⟩) R s := by
  have offw : S ∉ wr := fun z => off (Wk.sub _ z)
  have nam : (toString "max" ++ toString ".loop" : String) = "max.loop" := by decide
  intro k
  induction k with
  | zero =>
    intro i b s v c hk hi hb hle st pv gS fin
    obtain rfl : i = n := by omega
    refine codeAny_builtin PySem.F.entry_max_loop ?_
    rw [Around.under_plainId PySem.F.plain_max_loop _]
    show wpAny _ A.in1 (seqItems? (.ref S) >>= _) _ _ s
    refine wpAny_bind (wpAny_seqItems gS rfl ?_)
    show wpAny _ A.in1 (tryCatch (pyNext (.ref I)) _ >>= _) _ _ s
    refine wpAny_bind (wpAny_tryCatch (Wk.done s _ _ st fun h1 tk1 kp => ?_))
    have gS1 := kp S _ offw gS
    show wpAny _ A.in1 (updateSeq S (fun _ => #[]) >>= _) _ _ _
    refine wpAny_bind ?_
    refine wpAny_updateSeq gS1 rfl ?_
    refine wpAny_bind (wpAny_letGo (wpAny_pure ?_))
    exact fin b v _ tk1 hb hle pv fun x o hx hxS e => (Heap.get?_update_other _ _ (Ne.symm hxS)).trans (kp x o hx e)
  | succ k ih =>
    intro i b s v c hk hi hb hle st pv gS fin
    have hlt : i < n := by omega
    refine codeAny_builtin PySem.F.entry_max_loop ?_
    rw [Around.under_plainId PySem.F.plain_max_loop _]
    show wpAny _ A.in1 (seqItems? (.ref S) >>= _) _ _ s
    refine wpAny_bind (wpAny_seqItems gS rfl ?_)
    show wpAny _ A.in1 (tryCatch (pyNext (.ref I)) _ >>= _) _ _ s
    refine wpAny_bind (wpAny_tryCatch (Wk.item i s _ _ hlt st fun u h1 tk1 pu st1 kp => ?_))
    have gS1 := kp S _ offw gS
    show wpAny _ A.in1 (tryCatch (holding [u, u] (richCompare .Gt u v >>= _)) _ >>= _) _ _ _
    refine wpAny_bind (wpAny_tryCatch (wpAny_holding (wpAny_bind (cm i b u v _ _ _ pu pv ?_))))
    refine wpAny_bind (wpAny_holding (wpAny_truthy_bool ?_))
    refine wpAny_bind (wpAny_letGo (wpAny_pure ?_))
    by_cases l2 : val i > val b
    · simp only [decide_eq_true l2, if_true]
      refine wpAny_bind ?_
      refine wpAny_updateSeq gS1 rfl ?_
      refine wpAny_bind (wpAny_letGo ?_)
      rw [nam]
      refine wpAny_pure ⟨plainId_quiet PySem.F.plain_max_loop _, ih (i + 1) i _ u _ (by omega) hlt (by omega) (fun j hj => ?_) (Wk.frame _ _ _ st1 fun x hx o e => ?_) pu (Heap.get?_update_self _ gS1 rfl) fun b2 v2 h2 tk2 q1 q2 q3 q4 => ?_⟩
      · by_cases e : j = i
        · rw [e]; exact Int.le_refl _
        · have := hle j (by omega); omega
      · exact (Heap.get?_update_other _ _ (fun z : S = x => off (by rw [z]; exact hx))).trans e
      · exact fin b2 v2 h2 tk2 q1 q2 q3 fun x o hx hxS e => q4 x o hx hxS ((Heap.get?_update_other _ _ (Ne.symm hxS)).trans (kp x o hx e))
    · simp only [decide_eq_false l2, Bool.false_eq_true, if_false]
      refine wpAny_bind (wpAny_letGo ?_)
      rw [nam]
      refine wpAny_pure ⟨plainId_quiet PySem.F.plain_max_loop _, ih (i + 1) b _ v c (by omega) hlt (by omega) (fun j hj => ?_) st1 pv gS1 fun b2 v2 h2 tk2 q1 q2 q3 q4 => ?_⟩
      · by_cases e : j = i
        · rw [e]; omega
        · exact hle j (by omega)
      · exact fin b2 v2 h2 tk2 q1 q2 q3 fun x o hx hxS e => q4 x o hx hxS (kp x o hx e)
theorem maxD_first (d : Value) (val : Nat → Int) (Wk : Walks prog w A.in1 I fp wr n P St) (cm : CmpOf prog w A.in1 .Gt P (fun i j => decide (val i > val j))) (S : Addr) (off : S ∉ fp) {s : Shared} {c : Nat} (st : St 0 s.heap)
    (gS : s.heap.get? S = some { cls := .type "list", dict := none, data := .seq #[] c, slots := #[] })
    (fin : ∀ b v h2 tk2, b < n → (∀ j, j < n → val j ≤ val b) → P b v → (∀ x o, x ∉ wr → x ≠ S → s.heap.get? x = some o → h2.get? x = some o) → R (.ok (.ret v)) { s with heap := h2, toks := tk2 })
    (emp : n = 0 → ∀ h2 tk2, (∀ x o, x ∉ wr → x ≠ S → s.heap.get? x = some o → h2.get? x = some o) → R (.ok (.ret d)) { s with heap := h2, toks := tk2 }) :
    codeAny (model prog w) A (.builtin "max.loop" ⟨[.ref I, .none, .ref S], [(Str.ofString "default", d)]⟩) R s := by
  have offw : S ∉ wr := fun z => off (Wk.sub _ z)
  have nam : (toString "max" ++ toString ".loop" : String) = "max.loop" := by decide
  refine codeAny_builtin PySem.F.entry_max_loop ?_
  rw [Around.under_plainId PySem.F.plain_max_loop _]
  show wpAny _ A.in1 (seqItems? (.ref S) >>= _) _ _ s
  refine wpAny_bind (wpAny_seqItems gS rfl ?_)
  show wpAny _ A.in1 (tryCatch (pyNext (.ref I)) _ >>= _) _ _ s
  by_cases hn : n = 0
  · subst hn
    refine wpAny_bind (wpAny_tryCatch (Wk.done s _ _ st fun h1 tk1 kp => ?_))
    show wpAny _ A.in1 (rule _ >>= _) _ _ _
    exact wpAny_bind (wpAny_rule (wpAny_pure (emp rfl _ tk1 fun x o hx _ e => kp x o hx e)))
  · refine wpAny_bind (wpAny_tryCatch (Wk.item 0 s _ _ (by omega) st fun u h1 tk1 pu st1 kp => ?_))
    have gS1 := kp S _ offw gS
    show wpAny _ A.in1 (updateSeq S (fun _ => #[u, u]) >>= _) _ _ _
    refine wpAny_bind ?_
    refine wpAny_updateSeq gS1 rfl ?_
    rw [nam]
    refine wpAny_pure ⟨plainId_quiet PySem.F.plain_max_loop _, maxD_turns _ val Wk cm S off _ 1 0 _ u _ rfl (by omega) (by omega) (fun j hj => ?_) (Wk.frame _ _ _ st1 fun x hx o e => ?_) pu (Heap.get?_update_self _ gS1 rfl) fun b2 v2 h2 tk2 q1 q2 q3 q4 => ?_⟩
    · obtain rfl : j = 0 := by omega
      exact Int.le_refl _
    · exact (Heap.get?_update_other _ _ (fun z : S = x => off (by rw [z]; exact hx))).trans e
    · exact fin b2 v2 h2 tk2 q1 q2 q3 fun x o hx hxS e => q4 x o hx hxS ((Heap.get?_update_other _ _ (Ne.symm hxS)).trans (kp x o hx e))
end
theorem maxD_args (a d : Value) : argsOk "max" ⟨[a], [(Str.ofString "default", d)]⟩ := by unfold argsOk; kernel_rfl
/-- max(xs, default=d), whole numbers -/
def r_maxD (K : Frg) : List V → List V → Hp → VK → Prop := fun vs zs H Q => ∃ (a : Addr) (ns : List Int) (d : Int), vs = [V.ref a] ∧ zs = [V.int d] ∧ SqL K H a (ns.map V.int) ∧ (ns = [] → Q (.int d) H) ∧ ∀ m, m ∈ ns → (∀ y, y ∈ ns → y ≤ m) → Q (.int m) H
theorem cr_maxD {X : Cx} (hc : X.calm = true) : CallRK X (.builtin "max") [Str.ofString "default"] (r_maxD X.K) := by
  intro pins s σ H vs zs us ws Q I r rz h
  obtain ⟨a, ns, d, rfl, rfl, hs, q0, q1⟩ := h
  obtain ⟨its, rv, hl, hz⟩ := I.list hs
  obtain rfl := Vals.ref1 r
  obtain ⟨w1, rfl, td, rfl⟩ := vals1 rz
  have hi := rv.ints
  have hlen : its.length = ns.length := by rw [← rv.length, List.length_map]
  have old : a < s.heap.objs.size := by
    obtain ⟨o, ho, _⟩ := hl.isList
    exact Heap.lt_size ho
  have nam : (toString "max" ++ toString ".loop" : String) = "max.loop" := by decide
  refine kmk_tree PySem.F.kind_max PySem.F.plain_max PySem.F.entry_max (maxD_args _ _) ?_
  show wpAny _ X.A.in1 (Builtin.Builtins.bindParams "max" ["key", "default"] 0 ⟨[], [(Str.ofString "default", .int d td)]⟩ >>= _) _ _ s
  refine wpAny_bind (wpAny_of_eq (show Builtin.Builtins.bindParams "max" ["key", "default"] 0 ⟨[], [(Str.ofString "default", .int d td)]⟩ = pure [none, some (.int d td)] from rfl) ?_)
  refine wpAny_bind (wpAny_pure ?_)
  refine wpAny_bind (wpAny_pyIter_list hl.isList ?_)
  refine wpAny_bind (wpAny_newList ?_ (Nat.zero_le _))
  rw [nam]
  have hS : (s.heap.push { cls := .type "list_iterator", data := .fields #[.ref a, .int 0 0] }).objs.size = s.heap.objs.size + 1 := size_push' ..
  have keep2 : ∀ b o, s.heap.get? b = some o → ((s.heap.push { cls := .type "list_iterator", data := .fields #[.ref a, .int 0 0] }).push { cls := .type "list", data := .seq ([] : List Value).toArray }).get? b = some o := fun b o e => Heap.get?_push_of_some _ (Heap.get?_push_of_some _ e)
  have gI : ((s.heap.push { cls := .type "list_iterator", data := .fields #[.ref a, .int 0 0] }).push { cls := .type "list", data := .seq ([] : List Value).toArray }).get? s.heap.objs.size = some { cls := .type "list_iterator", data := .fields #[.ref a, .int 0 0] } := Heap.get?_push_of_some _ (Heap.get?_push_size _ rfl)
  have gS : ((s.heap.push { cls := .type "list_iterator", data := .fields #[.ref a, .int 0 0] }).push { cls := .type "list", data := .seq ([] : List Value).toArray }).get? (s.heap.push { cls := .type "list_iterator", data := .fields #[.ref a, .int 0 0] }).objs.size = some { cls := .type "list", dict := none, data := .seq #[] 0, slots := #[] } := Heap.get?_push_size _ rfl
  have offS : (s.heap.push { cls := .type "list_iterator", data := .fields #[.ref a, .int 0 0] }).objs.size ∉ [s.heap.objs.size, a] := fun z => by
    rw [hS] at z
    rcases List.mem_cons.mp z with z | z
    · exact Nat.succ_ne_self _ z
    · rw [← List.mem_singleton.mp z] at old
      exact Nat.lt_irrefl _ (Nat.lt_of_succ_lt old)
  have hP : ∀ (i : Nat) (v : Value), its.toArray[i]? = some v → ∃ t, v = .int (ns.getD i 0) t := fun i v e => by
    have e2 : its[i]? = some v := by simpa using e
    obtain ⟨x, hx, rx⟩ : ∃ x, (ns.map V.int)[i]? = some x ∧ RelV x v := by
      have hi' : i < ns.length := by rw [← hlen]; exact (List.getElem?_eq_some_iff.mp e2).1
      obtain ⟨u, hu, ru⟩ := Vals.get (x := V.int ns[i]) rv (by rw [List.getElem?_map, List.getElem?_eq_getElem hi']; rfl)
      rw [e2] at hu
      cases hu
      exact ⟨_, by rw [List.getElem?_map, List.getElem?_eq_getElem hi']; rfl, ru⟩
    rw [List.getElem?_map] at hx
    cases en : ns[i]? with
    | none => rw [en] at hx; cases hx
    | some m =>
      rw [en] at hx
      cases hx
      obtain ⟨t, rfl⟩ := rx
      exact ⟨t, by rw [List.getD_eq_getElem?_getD, en]; rfl⟩
  refine wpAny_pure ⟨plainId_quiet PySem.F.plain_max_loop _, ?_⟩
  refine maxD_first (.int d td) (fun i => ns.getD i 0) (Walks.list (A := X.A.in1) (I.ok.hd hc) s.heap.objs.size a (Nat.ne_of_lt old) its.toArray) (CmpOf.ints_gt _ hP) _ offS ⟨⟨_, gI, rfl, rfl⟩, hl.isList.at fun o e => keep2 _ _ e⟩ (c := 0) gS (fun b v h2 tk2 hb hle pv kp => ?_) fun hn h2 tk2 kp => ?_
  · obtain ⟨t, rfl⟩ := hP b v pv
    have hbn : b < ns.length := by rw [← hlen]; simpa using hb
    refine ⟨.int (ns.getD b 0), H, I.kept (h' := h2) (t' := tk2) fun x o e => kp x o (fun z => ?_) (fun z => ?_) (keep2 x o e), ⟨t, rfl⟩, q1 _ ?_ fun y hy => ?_⟩
    · have := Heap.lt_size e
      rw [List.mem_singleton.mp z] at this
      exact Nat.lt_irrefl _ this
    · have := Heap.lt_size e
      rw [z, hS] at this
      exact Nat.lt_irrefl _ (Nat.lt_of_succ_lt this)
    · rw [List.getD_eq_getElem?_getD, List.getElem?_eq_getElem hbn]
      exact List.getElem_mem hbn
    · obtain ⟨j, hj, rfl⟩ := List.getElem_of_mem hy
      have := hle j (by simp [hlen]; exact hj)
      rw [List.getD_eq_getElem?_getD, List.getD_eq_getElem?_getD, List.getElem?_eq_getElem hj] at this
      rw [List.getD_eq_getElem?_getD]
      exact this
  · have hn0 : ns = [] := by
      have : ns.length = 0 := by rw [← hlen]; simpa using hn
      exact List.length_eq_zero_iff.mp this
    refine ⟨.int d, H, I.kept (h' := h2) (t' := tk2) fun x o e => kp x o (fun z => ?_) (fun z => ?_) (keep2 x o e), ⟨td, rfl⟩, q0 hn0⟩
    · have := Heap.lt_size e
      rw [List.mem_singleton.mp z] at this
      exact Nat.lt_irrefl _ this
    · have := Heap.lt_size e
      rw [z, hS] at this
      exact Nat.lt_irrefl _ (Nat.lt_of_succ_lt this)

section
variable {K : Frg} {ρ : DE} {ta td : TE} {r : List Int} {d m : Int}
theorem ev_minD (ha : Evr K ta ρ (dR r)) (hd : Evr K td ρ (.int d)) (h0 : r = [] → m = d) (h1 : r ≠ [] → m ∈ r ∧ ∀ y ∈ r, m ≤ y) : Evr K (tCKw (r_minD K) (tCons ta tNil) (tCons td tNil)) ρ (.int m) := fun σ H Q R q => ha σ H _ R fun v H1 e1 r1 => hd σ H1 _ (R.mono e1) fun w H2 e2 r2 => by
  obtain ⟨a, rfl, ha⟩ := (r1.mono e2).row
  obtain rfl := r2.int_eq
  refine ⟨a, r, d, rfl, rfl, sql ha, fun e => ?_, fun k hk hkl => ?_⟩
  · rw [← h0 e]; exact q _ H2 (e1.trans e2) (.int m)
  · have hr : r ≠ [] := fun z => by rw [z] at hk; cases hk
    have e : k = m := Int.le_antisymm (hkl m (h1 hr).1) ((h1 hr).2 k hk)
    rw [e]; exact q _ H2 (e1.trans e2) (.int m)
theorem ev_maxD (ha : Evr K ta ρ (dR r)) (hd : Evr K td ρ (.int d)) (h0 : r = [] → m = d) (h1 : r ≠ [] → m ∈ r ∧ ∀ y ∈ r, y ≤ m) : Evr K (tCKw (r_maxD K) (tCons ta tNil) (tCons td tNil)) ρ (.int m) := fun σ H Q R q => ha σ H _ R fun v H1 e1 r1 => hd σ H1 _ (R.mono e1) fun w H2 e2 r2 => by
  obtain ⟨a, rfl, ha⟩ := (r1.mono e2).row
  obtain rfl := r2.int_eq
  refine ⟨a, r, d, rfl, rfl, sql ha, fun e => ?_, fun k hk hkl => ?_⟩
  · rw [← h0 e]; exact q _ H2 (e1.trans e2) (.int m)
  · have hr : r ≠ [] := fun z => by rw [z] at hk; cases hk
    have e : k = m := Int.le_antisymm ((h1 hr).2 k hk) (hkl m (h1 hr).1)
    rw [e]; exact q _ H2 (e1.trans e2) (.int m)
end
end Pur

set_option Elab.async false
set_option linter.all false
set_option maxRecDepth 100000
set_option maxHeartbeats 4000000
namespace Pur
open PySem PySem.Spec PyProof.Rows L2
section
variable {K : Frg} {W : WX} {Z Z' H H' : Hp} {ρ : List Sl} {σ : L2.St} {ds es : List PyData} {d : PyData} {i j m : Nat}
/-- a list within a list grows -/
theorem RelS.app_in (R : RelS K Z ρ σ H) (hs : ρ[i]? = some (.ow (.list ds))) (hm : ds[m]? = some (.list es)) {w : V} (hw : Rp K H w d) (hd : Scal d) :
    ∃ a vs b ys, σ[i]? = some (some (.ref a)) ∧ H a = some (.lst vs) ∧ vs.length = ds.length ∧ vs[m]? = some (.ref b) ∧ H b = some (.lst ys) ∧ ys.length = es.length ∧ b ≠ a ∧
      RelS K Z ((kill ρ).set i (.ow (.list (ds.set m (.list (es ++ [d])))))) σ (upd H b (.lst (ys ++ [w]))) := by
  obtain ⟨Fs, O⟩ := R.ex
  obtain ⟨a, xs, F, hσ, ha, hx, hna, hF⟩ := O.lst hs
  obtain ⟨v, G, p1, p2, p3, p4⟩ := hx.at_ hm
  cases p2 with
  | @lst b ys _ G1 hb hy hbn =>
    have hba : b ≠ a := fun z => hna (z ▸ p3 b List.mem_cons_self)
    have hg : ∀ c ∈ F, c ∉ b :: G1 → (upd H b (.lst (ys ++ [w]))) c = H c := fun c m z => upd_ne (show c ≠ b from fun e => z (by rw [e]; exact List.mem_cons_self))
    obtain ⟨F', q1, q2⟩ := p4 (upd H b (.lst (ys ++ [w]))) (.list (es ++ [d])) (b :: (G1 ++ ([] ++ []))) hg (.lst upd_same (OwAll.append (hy.keep fun c m => upd_ne fun z => hbn (z ▸ m)) (.cons (hw.ow hd) .nil fun _ m => nomatch m) fun c m z => by simp at z) (fun m => hbn (by simpa using m))) fun c m => .inl (by simpa using m)
    refine ⟨a, xs, b, ys, hσ, ha, hx.length, p1, hb, hy.length, hba, R.chg hs O (F' := a :: F') (fun c hc o ho => ?_) ⟨_, hσ, .lst (by rw [upd_ne (Ne.symm hba)]; exact ha) q1 fun m => ?_⟩ fun c m => ?_⟩
    · rw [upd_ne (fun z => hc (by rw [hF, z]; exact List.mem_cons_of_mem _ (p3 b List.mem_cons_self)))]
      exact ho
    · rcases q2 a m with m | m
      · exact hna m
      · have m2 : a ∈ b :: G1 := by simpa using m
        exact hna (p3 a m2)
    · rw [hF]
      rcases List.mem_cons.mp m with rfl | m
      · exact .inl List.mem_cons_self
      · rcases q2 c m with m | m
        · exact .inl (List.mem_cons_of_mem _ m)
        · exact .inl (List.mem_cons_of_mem _ (p3 c (by simpa using m)))
theorem kill_kill (ρ : List Sl) : kill (kill ρ) = kill ρ := by
  rw [kill, kill, List.map_map]
  refine List.map_congr_left fun s _ => ?_
  cases s <;> rfl
theorem kill_set (ρ : List Sl) (i : Nat) (s : Sl) : kill (ρ.set i s) = (kill ρ).set i (killS s) := List.map_set
theorem RelS.killed (R : RelS K Z ρ σ H) : RelS K Z (kill ρ) σ H := by
  obtain ⟨Fs, O⟩ := R.ex
  refine ⟨by rw [List.length_map]; exact R.len, R.ext, Fs, fun i s h => ?_, O.dis, O.fr, fun i hi => O.out i (by rw [List.length_map] at hi; exact hi)⟩
  rw [List.getElem?_map] at h
  cases e : ρ[i]? with
  | none => rw [e] at h; cases h
  | some u =>
    rw [e] at h
    have q : killS u = s := Option.some.inj h
    subst q
    exact (O.ok i u e).keep fun _ _ => rfl
/-- for x in xs: x.append(n), xs a list of rows of one's own -/
theorem does_forapp {rr : List (List Int)} {n : Int} (hs : ρ[i]? = some (.ow (dRR rr))) (hij : i ≠ j) (hjr : j < ρ.length) (hz : ∀ r ∈ rr, r.length < 1000000) :
    Does K W (tFor (iList K (tVar i)) (gName j) (tDrop (tBM K "list" rAppend (tVar j) (tCons (tC (.int n)) tNil)))) ρ (.nx (((kill ρ).set j .no).set i (.ow (dRR (rr.map (· ++ [n])))))) := fun Z σ H D R q => by
  obtain ⟨Fs, O⟩ := R.ex
  obtain ⟨a, vs, F, hσ, ha, hx, hna, hF⟩ := O.lst hs
  have hlen : vs.length = rr.length := by rw [hx.length, List.length_map]
  have hi : i < ρ.length := (List.getElem?_eq_some_iff.mp hs).1
  refine ⟨.ref a, hσ, a, rfl, ⟨vs, sql ha⟩, ?_⟩
  let cur : Nat → List PyData := fun m => ((rr.take m).map (· ++ [n]) ++ rr.drop m).map dR
  let ρm : Nat → List Sl := fun m => ((kill ρ).set j .no).set i (.ow (.list (cur m)))
  have h0 : RelS K Z (ρm 0) σ H := by
    have e : ρm 0 = (kill ρ).set j .no := by
      show ((kill ρ).set j .no).set i (.ow (.list (cur 0))) = _
      have e1 : cur 0 = rr.map dR := by show ((rr.take 0).map (· ++ [n]) ++ rr.drop 0).map dR = _; simp
      rw [e1]
      refine List.ext_getElem? fun k => ?_
      rw [List.getElem?_set]
      by_cases hk : i = k
      · subst hk
        rw [if_pos rfl, List.getElem?_set_ne (Ne.symm hij), List.getElem?_map, hs]
        simp [hi, killS]
      · rw [if_neg hk]
    rw [e]
    exact R.killed.no j
  have curS : ∀ m (hm : m < rr.length), cur (m + 1) = (cur m).set m (dR (rr[m] ++ [n])) := fun m hm => by
    show ((rr.take (m + 1)).map (· ++ [n]) ++ rr.drop (m + 1)).map dR = (((rr.take m).map (· ++ [n]) ++ rr.drop m).map dR).set m (dR (rr[m] ++ [n]))
    rw [← List.map_set, List.drop_eq_getElem_cons hm, List.set_append_right _ _ (by rw [List.length_map, List.length_take]; omega), List.length_map, List.length_take, Nat.min_eq_left (Nat.le_of_lt hm), Nat.sub_self, List.set_cons_zero, List.take_add_one, List.getElem?_eq_getElem hm]
    show ((rr.take m ++ [rr[m]]).map (· ++ [n]) ++ rr.drop (m + 1)).map dR = _
    rw [List.map_append (l₁ := rr.take m), List.append_assoc]
    rfl
  have curG : ∀ m (hm : m < rr.length), (cur m)[m]? = some (dR rr[m]) := fun m hm => by
    show (((rr.take m).map (· ++ [n]) ++ rr.drop m).map dR)[m]? = _
    rw [List.getElem?_map, List.getElem?_append_right (by rw [List.length_map, List.length_take]; omega), List.length_map, List.length_take, Nat.min_eq_left (Nat.le_of_lt hm), Nat.sub_self, List.getElem?_drop, Nat.add_zero, List.getElem?_eq_getElem hm]
    rfl
  have hkl : (kill ρ).length = ρ.length := List.length_map _
  have seq : ∀ m (c' : List PyData), (kill ((ρm m).set j .no)).set i (.ow (.list c')) = ((kill ρ).set j .no).set i (.ow (.list c')) := fun m c' => by
    refine List.ext_getElem? fun k => ?_
    by_cases hk : k = i
    · subst hk
      rw [List.getElem?_set_self (by simp [ρm, kill, hi]), List.getElem?_set_self (by simp [kill, hi])]
    · rw [List.getElem?_set_ne (Ne.symm hk), List.getElem?_set_ne (Ne.symm hk), kill, List.getElem?_map]
      by_cases hj : k = j
      · subst hj
        by_cases hjl : k < ρ.length
        · rw [List.getElem?_set_self (by simp [ρm, kill, hjl]), List.getElem?_set_self (by simp [kill, hjl])]
          rfl
        · rw [List.getElem?_eq_none (by simp [ρm, kill]; omega), List.getElem?_eq_none (by simp [kill]; omega)]
          rfl
      · rw [List.getElem?_set_ne (Ne.symm hj), List.getElem?_set_ne (Ne.symm hk), List.getElem?_set_ne (Ne.symm hj), kill, List.getElem?_map]
        cases ρ[k]? with
        | none => rfl
        | some s => cases s <;> rfl
  refine for_list (K := K) (a := a) (xs := vs) (fun m σ' H' => ∃ Z', Same Z Z' ∧ RelS K Z' (ρm m) σ' H' ∧ H' a = some (.lst vs) ∧ σ'[i]? = some (some (.ref a))) ⟨Z, Same.refl Z, h0, ha, hσ⟩ (fun m σ' H' _ p => by obtain ⟨_, _, _, h, _⟩ := p; exact sql h) (fun m x σ' H' hm p => ?_) fun σ' H' p => ?_
  · obtain ⟨Z', e, R', ha', hσ'⟩ := p
    have hml : m < rr.length := by rw [← hlen]; exact (List.getElem?_eq_some_iff.mp hm).1
    have R2 : RelS K Z' ((ρm m).set j .no) (σ'.set j (some x)) H' := R'.put (Same.refl H') (s' := .no) (F := []) rfl fun _ m => nomatch m
    have hs2 : ((ρm m).set j .no)[i]? = some (.ow (.list (cur m))) := by
      rw [List.getElem?_set_ne (Ne.symm hij)]
      exact List.getElem?_set_self (by simp [kill, hi])
    have hσ2 : (σ'.set j (some x))[i]? = some (some (.ref a)) := by rw [List.getElem?_set_ne (Ne.symm hij)]; exact hσ'
    obtain ⟨a1, vs1, b, ys, q1, q2, q3, q4, q5, q6, q7, q8⟩ := R2.app_in hs2 (curG m hml) (w := .int n) (.int n) True.intro
    rw [hσ2] at q1
    cases q1
    rw [ha'] at q2
    cases q2
    rw [hm] at q4
    cases q4
    have hjt : (σ'.set j (some (V.ref b)))[j]? = some (some (V.ref b)) := by
      refine List.getElem?_set_self ?_
      have h1 := R'.len
      simp only [ρm, List.length_set] at h1
      rw [hkl] at h1
      rw [← h1]
      exact hjr
    refine ⟨.ref b, hjt, tyl q5, b, ys, .int n, rfl, rfl, q5, by rw [q6, List.length_map]; exact sz_lt (hz _ (List.getElem_mem hml)), Z', e, ?_, by rw [upd_ne (Ne.symm q7)]; exact ha', hσ2⟩
    rw [seq] at q8
    have ec : (cur m).set m (.list (rr[m].map PyData.int ++ [.int n])) = cur (m + 1) := by
      rw [curS m hml, dR, List.map_append]
      rfl
    rw [ec] at q8
    exact q8
  · obtain ⟨Z', e, R', _, _⟩ := p
    refine q Z' σ' H' e ?_
    have ec : cur vs.length = (rr.map (· ++ [n])).map dR := by
      show ((rr.take vs.length).map (· ++ [n]) ++ rr.drop vs.length).map dR = _
      rw [hlen, List.take_length, List.drop_length, List.append_nil]
    have R3 : RelS K Z' (((kill ρ).set j .no).set i (.ow (.list (cur vs.length)))) σ' H' := R'
    rw [ec] at R3
    exact R3
end
end Pur

set_option Elab.async false
set_option linter.all false
set_option maxRecDepth 100000
set_option maxHeartbeats 4000000
namespace Pur
open PySem PySem.Spec PyProof.Rows L2
/-! ## try: .. except X as e: .. -/
def tTry (K : Frg) (c : Addr) (i : Nat) (tb : WX → TS) (ts : Addr → Addr → TS) (W : WX) : TS := fun D σ H =>
  tb (wAs K (.ref c) i (fun a cls d D σ H => ∃ Dc, cls = .ref Dc ∧ d = none ∧ ExcC K Dc ∧ ts a Dc D σ H) W D) D σ H
theorem ps_tryE {X : Cx} {x n : Str} {c : Addr} {i : Nat} {body suite : List Stmt} {b₀ : Stmt} {np pos pos' : Pos} {tb : WX → TS} {ts : Addr → Addr → TS} {Wout : WX}
    (hs : X.stack = X.env :: X.outer) (hf : X.env.frame = some X.env.locals) (hN : X.N.Nodup) (hi : X.N[i]? = some n) (hln : X.env.kindOf n = some .local) (hc : Names X x (.ref c)) (tk : Takes X Wout)
    (hb : ∀ (W : WX) (pn : List (Addr × Obj)) (xe : Value → Shared → Prop), Takes (X.tr pn xe) W → PassesOwn (model X.prog X.w) X.A X.env xe → PSs (X.tr pn xe) body (tb W))
    (hsu : ∀ (a : Addr) (oe : Obj) (D : Addr) (pn : List (Addr × Obj)), Zc (.ref D) none oe → (∃ vs, oe.data = .fields vs) → ExcC X.K D → PSs (X.suite a ((a, oe) :: pn)) (b₀ :: suite) (ts a D)) :
    PS X (.Try body [.ExceptHandler (some (.Name x np)) (some n) (b₀ :: suite) pos'] [] [] pos) (tTry X.K c i tb ts Wout) := by
  refine ps_try_as hs hf hN hi hln hc tk hb fun a oe cls d pn hz hv => ⟨fun pins s σ H D I h => ?_⟩
  obtain ⟨Dc, rfl, rfl, hx, h⟩ := h
  exact (hsu a oe Dc pn hz hv hx).run pins s σ H D I h
/-- an error of the class at D is caught by a clause that names the class at B, and can be asked -/
structure Xr (K : Frg) (B D : Addr) : Prop where
  m : PySem.W.exmOne K (.ref D) (.ref B) = some true
  e : ExcC K D
  v : PySem.W.kitOne K (.ref D) (.type "ValueError") = some true
abbrev Kf (K : Frg) (D X : Addr) (b : Bool) : Prop := PySem.W.kitOne K (.ref D) (.ref X) = some b
theorem kit_self {K : Frg} {D : Addr} : PySem.W.kitOne K (.ref D) (.ref D) = some true := by
  unfold PySem.W.kitOne
  rw [if_pos (beq_self_eq_true _)]
theorem kit_val {K : Frg} {D : Addr} (h : PySem.W.subIn K (.ref D) (.type "ValueError") = some true) : PySem.W.kitOne K (.ref D) (.type "ValueError") = some true := by
  unfold PySem.W.kitOne PySem.W.kitCls
  rw [if_neg (fun z => by have := eq_of_beq z; cases this)]
  show (if PySem.W.kitMeta "ValueError" = true then _ else _) = _
  rw [if_pos (by decide +kernel)]
  exact h
theorem kit_sub {K : Frg} {D X : Addr} {b : Bool} (hd : PySem.W.hasDictIn K X = true) (ht : PySem.W.typeIn K (.ref X) = some (.type "type")) (h : PySem.W.subIn K (.ref D) (.ref X) = some b) (hx : PySem.W.subIn K (.ref X) (.ref X) = some true) : PySem.W.kitOne K (.ref D) (.ref X) = some b := by
  obtain ⟨cd, hc, _⟩ := PySem.W.any_some hd
  have e2 : ((PySem.W.clsIn K X).isSome && PySem.W.typeIn K (.ref X) == some (.type "type")) = true := by rw [hc, ht] <;> rfl
  unfold PySem.W.kitOne
  by_cases e : ((Value.ref D) == (Value.ref X)) = true
  · rw [if_pos e]
    have e3 : D = X := by
      have := eq_of_beq e
      cases this
      rfl
    subst e3
    rw [hx] at h
    exact h
  · rw [if_neg e]
    unfold PySem.W.kitCls
    show (if _ = true then _ else _) = _
    rw [if_pos e2]
    exact h
section
variable {K : Frg} {W : WX} {ρ ρ1 : List Sl} {tb : WX → TS} {ts : Addr → Addr → TS} {d : PyData} {c D X : Addr} {i j : Nat} {o : Out}
theorem does_try_nx (hb : ∀ W, Does K W (tb W) ρ (.nx ρ1)) : Does K W (tTry K c i tb ts W) ρ (.nx ρ1) := fun Z σ H D R q => hb _ Z σ H D R q
theorem does_try_rt (hb : ∀ W, Does K W (tb W) ρ (.rt d)) : Does K W (tTry K c i tb ts W) ρ (.rt d) := fun Z σ H D R q => hb _ Z σ H D R q
theorem does_try_ex (hb : ∀ W, Does K W (tb W) ρ (.ex D ρ1)) (y : Xr K c D) (hs : ∀ a, Does K W (ts a D) (ρ1.set i (.fr (dAdr a))) (.rt d)) : Does K W (tTry K c i tb ts W) ρ (.rt d) := fun Z σ H E R q => hb _ Z σ H E R fun Z1 σ1 H1 e1 R1 =>
  ⟨true, y.m, fun _ a ha => ⟨D, rfl, rfl, y.e, hs a Z1 _ H1 _ (R1.put (Same.refl H1) (s' := .fr (dAdr a)) (F := []) ⟨rfl, .ref a, rfl, .adr a⟩ fun _ m => nomatch m) (q.more e1)⟩, fun z => nomatch z⟩
theorem _root_.Pur.Rp.adr_eq {H : Hp} {v : V} {a : Addr} (h : Rp K H v (dAdr a)) : v = .ref a := by
  generalize e : dAdr a = d at h
  cases h with
  | scr hs =>
    rename_i ns
    cases ns with
    | nil => cases e
    | cons n ns => simp at e
  | adr b =>
    have : (a : Int) = b := by simpa using e
    have : a = b := by exact_mod_cast this
    rw [this]
  | _ => cases e
theorem ev_isE {ρ : DE} {te : TE} {a : Addr} {b : Bool} (h : Evr K te ρ (dAdr a)) (k : Kf K D X b) : Evr K (tCB (rIsE K D a) (tCons te (tCons (tC (.ref X)) tNil))) ρ (.bool b) := fun σ H Q R q => h σ H _ R fun v H1 e1 r1 => by
  cases r1.adr_eq
  exact ⟨.ref X, .ref X, b, rfl, fun u r => by cases r; rfl, k, q _ H1 e1 (.bl b)⟩
theorem ev_isV {ρ : DE} {te : TE} {a : Addr} (h : Evr K te ρ (dAdr a)) (k : PySem.W.kitOne K (.ref D) (.type "ValueError") = some true) : Evr K (tCB (rIsE K D a) (tCons te (tCons (tC (.ty "ValueError")) tNil))) ρ (.bool true) := fun σ H Q R q => h σ H _ R fun v H1 e1 r1 => by
  cases r1.adr_eq
  exact ⟨.ty "ValueError", .type "ValueError", true, rfl, fun u r => by cases r; rfl, k, q _ H1 e1 (.bl true)⟩
theorem does_seqI {t u : TS} {α : Type} {P : α → Prop} (f : α → List Sl) (h : ∃ m, P m ∧ Does K W t ρ (.nx (f m))) (h2 : ∀ m, P m → Does K W u (f m) o) : Does K W (tSeq t u) ρ o := by
  obtain ⟨m, hm, h⟩ := h
  exact does_seq h (h2 m hm)
/-- return (e, x), x not read again -/
theorem does_ret2v {ta : TE} {d e : PyData} (h : Evf K ta (er ρ) e) (hs : ρ[j]? = some (.ow d)) : Does K W (tRet (tTup (tCons ta (tCons (tVar j) tNil)))) ρ (.rt (.tuple [e, d])) := fun Z σ H D R q => h σ H _ R.relE fun v H1 F e1 w f => by
  obtain ⟨Fs, O⟩ := R.ex
  obtain ⟨u, hv, wu⟩ := O.ok j _ hs
  refine ⟨u, hv, by show 2 ≤ sizeLine; decide, fun p hp => ?_⟩
  have hsame : Same H1 (upd H1 p (.tup [v, u])) := same_upd hp
  have e2 : Same H (upd H1 p (.tup [v, u])) := e1.trans hsame
  have hpF : p ∉ F := fun m => by
    obtain ⟨o, ho⟩ := w.dom p m
    rw [hp] at ho
    cases ho
  have hpJ : p ∉ Fs j := fun m => by
    obtain ⟨o, ho⟩ := wu.dom p m
    rw [e1 _ _ ho] at hp
    cases hp
  refine q (.ref p) _ (p :: (F ++ (Fs j ++ []))) (R.ext.trans e2) (.tup upd_same (.cons (w.grow hsame) (.cons (wu.grow e2) .nil fun _ _ m => nomatch m) fun a m z => ?_) fun m => ?_) fun a m => ?_
  · rw [List.append_nil] at z
    obtain ⟨o, ho⟩ := wu.dom a z
    rw [f a m] at ho
    cases ho
  · rw [List.append_nil] at m
    rcases List.mem_append.mp m with m | m
    · exact hpF m
    · exact hpJ m
  · rw [List.append_nil] at m
    rcases List.mem_cons.mp m with rfl | m
    · exact R.ext.free (e1.free hp)
    · rcases List.mem_append.mp m with m | m
      · exact R.ext.free (f a m)
      · exact O.fr j a m
/-- x[k].append(e), x a tuple -/
theorem does_appixT {tk te : TE} {n : Int} {ds es : List PyData} {d : PyData} (hs : ρ[i]? = some (.ow (.tuple ds))) (hk : Evr K tk (er ρ) (.int n)) (h : Evr K te (er ρ) d) (hd : Scal d) (h0 : 0 ≤ n) (hn : ds[n.toNat]? = some (.list es)) (hl : es.length < 1000000) :
    Does K W (tDrop (tBM K "list" rAppend (tOp (rIx K) (tVar i) tk) (tCons te tNil))) ρ (.nx ((kill ρ).set i (.ow (.tuple (ds.set n.toNat (.list (es ++ [d]))))))) := fun Z σ H D R q => by
  obtain ⟨Fs, O⟩ := R.ex
  obtain ⟨v0, hσ, w0⟩ := O.ok i _ hs
  generalize hF : Fs i = FF at w0
  cases w0 with
  | @tup a xs _ F ha hx hna =>
  obtain ⟨v, G, p1, p2, p3, p4⟩ := hx.at_ hn
  have hnl : n.toNat < xs.length := (List.getElem?_eq_some_iff.mp p1).1
  refine ⟨.ref a, hσ, hk σ H _ R.relE fun y H1 e1 r1 => ?_⟩
  obtain rfl := r1.int_eq
  cases p2 with
  | @lst b ys _ G1 hb hy hbn =>
    refine .inr (.inl ⟨a, xs, n, .ref b, rfl, rfl, sqt (e1 _ _ ha), at_of (j := n.toNat) (by omega) p1, tyl (e1 _ _ hb), h σ H1 _ (R.relE.mono e1) fun w H2 e2 r2 => ?_⟩)
    refine ⟨b, ys, w, rfl, rfl, e2 _ _ (e1 _ _ hb), by rw [hy.length]; exact sz_lt hl, q Z _ _ (Same.refl Z) ?_⟩
    have hba : b ≠ a := fun z => hna (z ▸ p3 b List.mem_cons_self)
    have hg : ∀ c ∈ F, c ∉ b :: G1 → (upd H2 b (.lst (ys ++ [w]))) c = H c := fun c m z => by
      rw [upd_ne (show c ≠ b from fun e => z (by rw [e]; exact List.mem_cons_self))]
      obtain ⟨o, ho⟩ := hx.dom c m
      rw [ho]
      exact e2 _ _ (e1 _ _ ho)
    obtain ⟨F', q1, q2⟩ := p4 (upd H2 b (.lst (ys ++ [w]))) (.list (es ++ [d])) (b :: (G1 ++ ([] ++ []))) hg (.lst upd_same (OwAll.append ((hy.grow (e1.trans e2)).keep fun c m => upd_ne fun z => hbn (z ▸ m)) (.cons (r2.ow hd) .nil fun _ m => nomatch m) fun c m z => by simp at z) (fun m => hbn (by simpa using m))) fun c m => .inl (by simpa using m)
    refine R.chg hs O (F' := a :: F') (fun c hc o ho => ?_) ⟨_, hσ, .tup (by rw [upd_ne (Ne.symm hba)]; exact e2 _ _ (e1 _ _ ha)) q1 fun m => ?_⟩ fun c m => ?_
    · rw [upd_ne (fun z => hc (by rw [hF, z]; exact List.mem_cons_of_mem _ (p3 b List.mem_cons_self)))]
      exact e2 _ _ (e1 _ _ ho)
    · rcases q2 a m with m | m
      · exact hna m
      · have m2 : a ∈ b :: G1 := by simpa using m
        exact hna (p3 a m2)
    · rw [hF]
      rcases List.mem_cons.mp m with rfl | m
      · exact .inl List.mem_cons_self
      · rcases q2 c m with m | m
        · exact .inl (List.mem_cons_of_mem _ m)
        · exact .inl (List.mem_cons_of_mem _ (p3 c (by simpa using m)))
end
/-! ## comprehensions of numbers -/
section
variable {K : Frg} {ρ : DE} {tl te : TE} {tt : TT} {t : TA} {j : Nat}
theorem evf_lcRi {n : Int} (p : Nat → Bool) (f : Nat → Int) (hl : Eva K t ρ [.int n]) (hz : n ≤ 1000000) (h0 : -1000000 ≤ n)
    (ht : ∀ i : Nat, (i : Int) < n → Evt K tt (ρ.set j (some (.int (i : Int)))) (p i)) (he : ∀ i : Nat, (i : Int) < n → p i = true → Evr K te (ρ.set j (some (.int (i : Int)))) (.int (f i))) :
    Evf K (tLc (iRng1 t) (gName j) tt te [j]) ρ (dR (((List.range n.toNat).filter p).map f)) :=
  Evf.cast (evf_lcR p (fun i => .int (f i)) hl hz h0 ht fun i hi hp => (he i hi hp).f True.intro) (by rw [dR, List.map_map]; rfl)
theorem evf_mapR {n : Int} (f : Nat → Int) (hl : Eva K t ρ [.int n]) (hz : n ≤ 1000000) (h0 : -1000000 ≤ n) (he : ∀ i : Nat, (i : Int) < n → Evr K te (ρ.set j (some (.int (i : Int)))) (.int (f i))) :
    Evf K (tLc (iRng1 t) (gName j) tYes te [j]) ρ (dR ((List.range n.toNat).map f)) :=
  Evf.cast (evf_lcRi (fun _ => true) f hl hz h0 (fun _ _ => et_yes) fun i hi _ => he i hi) (by rw [List.filter_eq_self.mpr fun _ _ => rfl])
theorem evf_lcLi {α : Type} {c : α → PyData} {xs : List α} (p : α → Bool) (f : α → Int) (hl : Evr K tl ρ (.list (xs.map c))) (hz : xs.length ≤ 1000000)
    (ht : ∀ x ∈ xs, Evt K tt (ρ.set j (some (c x))) (p x)) (he : ∀ x ∈ xs, p x = true → Evr K te (ρ.set j (some (c x))) (.int (f x))) : Evf K (tLc (iList K tl) (gName j) tt te [j]) ρ (dR ((xs.filter p).map f)) :=
  Evf.cast (evf_lcL p (fun x => .int (f x)) hl hz ht fun x hx hp => (he x hx hp).f True.intro) (by rw [dR, List.map_map]; rfl)
theorem evf_mapL {α : Type} {c : α → PyData} {xs : List α} (f : α → Int) (hl : Evr K tl ρ (.list (xs.map c))) (hz : xs.length ≤ 1000000)
    (he : ∀ x ∈ xs, Evr K te (ρ.set j (some (c x))) (.int (f x))) : Evf K (tLc (iList K tl) (gName j) tYes te [j]) ρ (dR (xs.map f)) :=
  Evf.cast (evf_lcLi (fun _ => true) f hl hz (fun _ _ => et_yes) fun x hx _ => he x hx) (by rw [List.filter_eq_self.mpr fun _ _ => rfl])
/-- [x for x in r if ..] -/
theorem evf_fil {r : List Int} (p : Int → Bool) (hl : Evr K tl ρ (dR r)) (hz : r.length ≤ 1000000) (ht : ∀ x ∈ r, Evt K tt (ρ.set j (some (.int x))) (p x)) (hj : j < ρ.length) : Evf K (tLc (iList K tl) (gName j) tt (tVar j) [j]) ρ (dR (r.filter p)) :=
  Evf.cast (evf_lcLi (c := PyData.int) p id hl hz ht fun x hx _ => ev_var (by rw [List.getElem?_set_self hj]; rfl)) (by rw [List.map_id])
theorem evf_mapRR {n : Int} (f : Nat → PyData) (hl : Eva K t ρ [.int n]) (hz : n ≤ 1000000) (h0 : -1000000 ≤ n) (he : ∀ i : Nat, (i : Int) < n → Evf K te (ρ.set j (some (.int (i : Int)))) (f i)) :
    Evf K (tLc (iRng1 t) (gName j) tYes te [j]) ρ (.list ((List.range n.toNat).map f)) :=
  Evf.cast (evf_lcR (fun _ => true) f hl hz h0 (fun _ _ => et_yes) fun i hi _ => he i hi) (by rw [List.filter_eq_self.mpr fun _ _ => rfl])
theorem evf_mapLL {α : Type} {c : α → PyData} {xs : List α} (f : α → PyData) (hl : Evr K tl ρ (.list (xs.map c))) (hz : xs.length ≤ 1000000)
    (he : ∀ x ∈ xs, Evf K te (ρ.set j (some (c x))) (f x)) : Evf K (tLc (iList K tl) (gName j) tYes te [j]) ρ (.list (xs.map f)) :=
  Evf.cast (evf_lcL (fun _ => true) f hl hz (fun _ _ => et_yes) fun x hx _ => he x hx) (by rw [List.filter_eq_self.mpr fun _ _ => rfl])
end
end Pur

set_option Elab.async false
set_option linter.all false
set_option maxRecDepth 100000
set_option maxHeartbeats 4000000
namespace Pur
open PySem PySem.Spec PyProof.Rows L2
/-! ## lists of what is no list, joined -/
theorem RpAll.owSc {K : Frg} {H H' : Hp} : ∀ {ds : List PyData} {vs : List V}, RpAll K H vs ds → (∀ d ∈ ds, Scal d) → OwAll H' vs ds []
  | [], _, h, _ => by cases h; exact .nil
  | _ :: _, _, h, s => by
    cases h with
    | cons h1 h2 => exact OwAll.cons (F := []) (G := []) (h1.ow (s _ List.mem_cons_self)) (RpAll.owSc h2 fun d m => s d (List.mem_cons_of_mem _ m)) fun _ m => nomatch m
theorem evf_catSc {K : Frg} {ρ : DE} {ta tb : TE} {ds es : List PyData} (ha : Evr K ta ρ (.list ds)) (hb : Evr K tb ρ (.list es)) (hd : ∀ d ∈ ds, Scal d) (he : ∀ d ∈ es, Scal d) (hl : ds.length + es.length ≤ 1000000) : Evf K (tOp rAddA ta tb) ρ (.list (ds ++ es)) :=
  evf_op ha hb fun H x y Q hx hy q => by
    obtain ⟨a, xs, rfl, h1, k1⟩ := hx.list
    obtain ⟨b, ys, rfl, h2, k2⟩ := hy.list
    refine .inr (.inl ⟨a, b, _, _, rfl, rfl, h1, h2, by rw [k1.length, k2.length]; exact sz_le hl, fun p hp => q _ _ [p] (same_upd hp) ?_ fun c m => ?_⟩)
    · refine .lst upd_same ((k1.append k2).owSc fun d m => ?_) (fun m => nomatch m)
      rcases List.mem_append.mp m with m | m
      · exact hd d m
      · exact he d m
    · rw [List.mem_singleton.mp m]; exact hp
end Pur

set_option Elab.async false
set_option linter.all false
set_option maxRecDepth 100000
set_option maxHeartbeats 4000000
namespace Pur
open PySem PySem.Spec PyProof.Rows L2
/-! ## comprehensions that hand on what they walk -/
theorem OwAll.fil {α : Type} {H : Hp} {c : α → PyData} (p : α → Bool) : ∀ {xs : List α} {vs : List V} {F : List Addr}, OwAll H vs (xs.map c) F → ∃ F', OwAll H (((vs.zip xs).filter fun q => p q.2).map Prod.fst) ((xs.filter p).map c) F' ∧ ∀ a ∈ F', a ∈ F
  | [], vs, F, h => by
    cases h
    exact ⟨[], .nil, fun _ m => m⟩
  | x :: xs, vs, F, h => by
    cases h with
    | @cons v vs' _ _ F0 G0 h1 h2 hd =>
      obtain ⟨F', q1, q2⟩ := OwAll.fil p h2
      rw [List.zip_cons_cons, List.filter_cons, List.filter_cons]
      cases hp : p x with
      | true =>
        exact ⟨F0 ++ F', .cons h1 q1 fun a m z => hd a m (q2 a z), fun a m => (List.mem_append.mp m).elim (fun m => List.mem_append_left _ m) fun m => List.mem_append_right _ (q2 a m)⟩
      | false => exact ⟨F', q1, fun a m => List.mem_append_right _ (q2 a m)⟩
theorem zip_get {α : Type} {vs : List V} {xs : List α} {i : Nat} {v : V} {x : α} (h1 : vs[i]? = some v) (h2 : xs[i]? = some x) : (vs.zip xs)[i]? = some (v, x) := by
  rw [List.getElem?_zip_eq_some]
  exact ⟨h1, h2⟩
section
variable {K : Frg} {ρ : DE} {tl te : TE} {tt : TT} {t : TA}
/-- [x for x in a new list, if ..] -/
theorem evf_lcFil {α : Type} {c : α → PyData} {xs : List α} {j : Nat} (p : α → Bool) (hl : Evf K tl ρ (.list (xs.map c))) (hz : xs.length ≤ 1000000) (hj : j < ρ.length)
    (ht : ∀ x ∈ xs, Evt K tt (ρ.set j (some (c x))) (p x)) : Evf K (tLc (iList K tl) (gName j) tt (tVar j) [j]) ρ (.list ((xs.filter p).map c)) := fun σ H Q R q => hl σ H _ R fun v H1 F0 e1 o1 f1 => by
  cases o1 with
  | @lst a vs _ F h1 hx hna =>
  have k1 := hx.rp (K := K)
  have hlen := k1.length
  rw [List.length_map] at hlen
  have hzip : (vs.zip xs).length = xs.length := by rw [List.length_zip]; omega
  refine ⟨a, rfl, ⟨vs, sql h1⟩, fun D hD => ?_⟩
  let fv : Nat → List V := fun i => (((vs.zip xs).take i).filter fun q => p q.2).map Prod.fst
  refine lc_list (xs := vs) (fun i H' => Same H1 H' ∧ H' D = some (.lst (fv i))) ⟨same_upd hD, upd_same⟩ (fun i H' _ w => sql (w.1 a _ h1)) (fun i x H' hi w => ?_) (fun H' w => ?_)
  · have hi2 : i < xs.length := by
      rw [← hlen]
      exact (List.getElem?_eq_some_iff.mp hi).1
    obtain ⟨d, hd, rd⟩ := k1.getV hi
    rw [List.getElem?_map, List.getElem?_eq_getElem hi2] at hd
    have hm : xs[i] ∈ xs := List.getElem_mem hi2
    have ed : c xs[i] = d := Option.some.inj hd
    subst ed
    have hs : fv (i + 1) = if p xs[i] = true then fv i ++ [x] else fv i := by
      show (((vs.zip xs).take (i + 1)).filter _).map _ = _
      rw [take_succ_some (zip_get hi (List.getElem?_eq_getElem hi2)), List.filter_append, List.map_append, List.filter_cons]
      cases hp : p xs[i] with
      | true => simp [hp, fv]
      | false => simp [hp, fv]
    refine ⟨wipe1 _ _ _, ?_⟩
    have R2 := (R.mono e1).comp rd j
    refine ht _ hm _ H' _ (R2.mono w.1) fun H3 e3 => ?_
    cases hp : p xs[i] with
    | true =>
      rw [hp, if_pos rfl] at hs
      rw [if_pos rfl]
      refine ⟨x, ?_, fv i, e3 _ _ w.2, ?_, same_mut (w.1.trans e3) hD, by rw [hs]; exact upd_same⟩
      · show ((σ.set j none).set j (some x))[j]? = _
        rw [List.set_set, List.getElem?_set_self (by rw [← R.len]; exact hj)]
      · refine sz_lt (Nat.lt_of_lt_of_le ?_ hz)
        show ((((vs.zip xs).take i).filter _).map _).length < _
        rw [List.length_map]
        refine Nat.lt_of_le_of_lt (List.length_filter_le _ _) ?_
        rw [List.length_take]
        omega
    | false =>
      rw [hp, if_neg (by decide)] at hs
      rw [if_neg (by decide)]
      exact ⟨w.1.trans e3, by rw [hs]; exact e3 _ _ w.2⟩
  · obtain ⟨w1, w2⟩ := w
    obtain ⟨F', g1, g2⟩ := hx.fil p
    have e : fv vs.length = ((vs.zip xs).filter fun q => p q.2).map Prod.fst := by
      show (((vs.zip xs).take vs.length).filter _).map _ = _
      rw [List.take_of_length_le (by omega)]
    rw [e] at w2
    refine q _ H' (D :: F') (e1.trans w1) (.lst w2 (g1.grow w1) fun m => ?_) fun b m => ?_
    · obtain ⟨o, ho⟩ := hx.dom D (g2 D m)
      rw [hD] at ho
      cases ho
    · rcases List.mem_cons.mp m with rfl | m
      · exact e1.free hD
      · exact f1 b (List.mem_cons_of_mem _ (g2 b m))
/-- reads what stands, and nothing new -/
def Evs (K : Frg) (te : TE) (ρ : DE) (d : PyData) : Prop := ∀ (σ : L2.St) (H H3 : Hp) (Q : VK), RelE K ρ σ H → Same H H3 → (∀ v, Rp K H v d → Q v H3) → te σ H3 Q
theorem evs_var {i : Nat} {d : PyData} (h : ρ[i]? = some (some d)) : Evs K (tVar i) ρ d := fun σ H H3 Q R e q => by
  obtain ⟨v, hv, r⟩ := R.get i d h
  exact ⟨v, hv, q v r⟩
theorem evs_ixT {ta : TE} {ds : List PyData} {n : Int} {d : PyData} (ha : Evs K ta ρ (.tuple ds)) (h : atI ds n = some d) : Evs K (tOp (rIx K) ta (tC (.int n))) ρ d := fun σ H H3 Q R e q => ha σ H H3 _ R e fun v r => .inr (.inl (by
    obtain ⟨a, vs, rfl, h1, k1⟩ := r.tuple
    have hl := k1.length
    obtain ⟨j, e1, e2⟩ : ∃ j, ixN ds.length n = some j ∧ ds[j]? = some d := by
      unfold atI at h
      cases e : ixN ds.length n with
      | none => rw [e] at h; cases h
      | some j => rw [e] at h; exact ⟨j, rfl, h⟩
    obtain ⟨w, hw, rw'⟩ := k1.get (i := j) (d := d) e2
    refine ⟨a, vs, n, w, rfl, rfl, sqt (e _ _ h1), ?_, q w rw'⟩
    unfold atI
    rw [hl, e1]
    exact hw))
/-- [e for x in a list], e read from what stands -/
theorem ev_lcS {α : Type} {c g : α → PyData} {xs : List α} {j : Nat} (hl : Evr K tl ρ (.list (xs.map c))) (hz : xs.length ≤ 1000000) (he : ∀ x ∈ xs, Evs K te (ρ.set j (some (c x))) (g x)) :
    Evr K (tLc (iList K tl) (gName j) tYes te [j]) ρ (.list (xs.map g)) := fun σ H Q R q => hl σ H _ R fun v H1 e1 r1 => by
  obtain ⟨a, vs, rfl, h1, k1⟩ := r1.list
  have hlen := k1.length
  rw [List.length_map] at hlen
  refine ⟨a, rfl, ⟨vs, sql h1⟩, fun D hD => ?_⟩
  refine lc_list (xs := vs) (fun i H' => Same H1 H' ∧ ∃ acc, H' D = some (.lst acc) ∧ RpAll K H1 acc ((xs.take i).map g)) ⟨same_upd hD, [], upd_same, .nil⟩ (fun i H' _ w => sql (w.1 a _ h1)) (fun i x H' hi w => ?_) (fun H' w => ?_)
  · have hi2 : i < xs.length := by
      rw [← hlen]
      exact (List.getElem?_eq_some_iff.mp hi).1
    obtain ⟨d, hd, rd⟩ := k1.getV hi
    rw [List.getElem?_map, List.getElem?_eq_getElem hi2] at hd
    have hm : xs[i] ∈ xs := List.getElem_mem hi2
    have ed : c xs[i] = d := Option.some.inj hd
    subst ed
    obtain ⟨w1, acc, w2, w3⟩ := w
    refine ⟨wipe1 _ _ _, ?_⟩
    have R2 := (R.mono e1).comp rd j
    show te _ H' _
    refine he _ hm _ H1 H' _ R2 w1 fun y ry => ⟨acc, w2, ?_, same_mut w1 hD, acc ++ [y], upd_same, ?_⟩
    · rw [w3.length, List.length_map, List.length_take]
      exact sz_lt (by omega)
    · rw [take_succ_some (List.getElem?_eq_getElem hi2), List.map_append]
      exact w3.append (.cons ry .nil)
  · obtain ⟨w1, acc, w2, w3⟩ := w
    rw [hlen, List.take_length] at w3
    exact q _ H' (e1.trans w1) (.lst w2 (w3.mono w1))
end
section
variable {K : Frg} {W : WX} {Z H : Hp} {ρ : List Sl} {σ : L2.St} {ds : List PyData} {d : PyData} {i j : Nat}
theorem RelS.al (R : RelS K Z ρ σ H) {v : V} (hs : ρ[j]? = some .no) (hv : σ[j]? = some (some v)) (r : Rp K H v d) : RelS K Z (ρ.set j (.al d)) σ H := by
  obtain ⟨Fs, O⟩ := R.ex
  have hj : j < ρ.length := (List.getElem?_eq_some_iff.mp hs).1
  refine ⟨by rw [List.length_set]; exact R.len, R.ext, putF Fs j [], ?_⟩
  refine Own.put (ρ := ρ) (by rw [List.length_set]) hj (List.getElem?_set_self hj) ⟨rfl, v, hv, r⟩ (fun k s hk h => ?_) O.dis O.fr O.out (fun k hk a m => nomatch m) fun a m => nomatch m
  rw [List.getElem?_set_ne (Ne.symm hk)] at h
  exact O.ok k s h
/-- x.append(y), y read on -/
theorem does_appva (hs : ρ[i]? = some (.ow (.list ds))) (hj : ρ[j]? = some (.ow d)) (hij : i ≠ j) (hl : ds.length < 1000000) : Does K W (tDrop (tBM K "list" rAppend (tVar i) (tCons (tVar j) tNil))) ρ (.nx (((kill (ρ.set j .no)).set i (.ow (.list (ds ++ [d])))).set j (.al d))) := fun Z σ H D R q => by
  obtain ⟨Fs, O⟩ := R.ex
  obtain ⟨a, xs, F, hσ, ha, hx, hn, hF⟩ := O.lst hs
  obtain ⟨v, hv, w⟩ := O.ok j _ hj
  have hi : i < ρ.length := (List.getElem?_eq_some_iff.mp hs).1
  have hjl : j < ρ.length := (List.getElem?_eq_some_iff.mp hj).1
  have off : ∀ b ∈ Fs j, b ∉ a :: F := fun b m z => O.dis j i (Ne.symm hij) b m (by rw [hF]; exact z)
  refine ⟨.ref a, hσ, tyl ha, v, hv, a, xs, v, rfl, rfl, ha, by rw [hx.length]; exact sz_lt hl, q Z _ _ (Same.refl Z) (RelS.al ?_ (by rw [List.getElem?_set_ne hij, List.getElem?_map, List.getElem?_set_self hjl]; rfl) hv (w.keep fun b m => upd_ne fun z => off b m (z ▸ List.mem_cons_self)).rp)⟩
  have hk : (kill (ρ.set j .no)).length = ρ.length := by rw [List.length_map, List.length_set]
  refine ⟨by rw [List.length_set, hk]; exact R.len, fun b o ho => ?_, putF (putF Fs j []) i (a :: (F ++ (Fs j ++ []))), ?_⟩
  · rw [upd_ne fun z => ?_]
    · exact R.ext b o ho
    · have := O.fr i a (by rw [hF]; exact List.mem_cons_self)
      rw [← z, ho] at this
      cases this
  refine Own.put (ρ := ρ) (by rw [List.length_set, hk]) hi (List.getElem?_set_self (by rw [hk]; exact hi)) ⟨_, hσ, .lst upd_same (OwAll.append (hx.keep fun b m => upd_ne fun z => hn (z ▸ m)) (.cons (w.keep fun b m => upd_ne fun z => off b m (z ▸ List.mem_cons_self)) .nil fun _ _ m => nomatch m) fun b m z => ?_) fun m => ?_⟩ (fun l s hl h => ?_) ?_ ?_ ?_ (fun l hl b m z => ?_) fun b m => ?_
  · exact off b (by simpa using z) (List.mem_cons_of_mem _ m)
  · rcases List.mem_append.mp m with m | m
    · exact hn m
    · exact off a (by simpa using m) List.mem_cons_self
  · rw [List.getElem?_set_ne (Ne.symm hl), List.getElem?_map] at h
    by_cases hlj : l = j
    · subst hlj
      rw [List.getElem?_set_self hjl] at h
      cases h
      exact putF_same
    · rw [List.getElem?_set_ne (Ne.symm hlj)] at h
      rw [putF_ne hlj]
      cases e : ρ[l]? with
      | none => rw [e] at h; cases h
      | some u =>
        rw [e] at h
        have q : killS u = s := Option.some.inj h
        subst q
        refine (O.ok l u e).keep fun b m => upd_ne fun z => ?_
        exact O.dis l i hl b m (by rw [hF, z]; exact List.mem_cons_self)
  · intro k l hkl b m
    by_cases hk : k = j
    · subst hk
      rw [putF_same] at m
      cases m
    · rw [putF_ne hk] at m
      by_cases hl : l = j
      · subst hl
        rw [putF_same]
        exact fun z => nomatch z
      · rw [putF_ne hl]
        exact O.dis k l hkl b m
  · intro k b m
    by_cases hk : k = j
    · subst hk
      rw [putF_same] at m
      cases m
    · rw [putF_ne hk] at m
      exact O.fr k b m
  · intro k hk
    by_cases hkj : k = j
    · subst hkj
      exact putF_same
    · rw [putF_ne hkj]
      exact O.out k hk
  · by_cases hlj : l = j
    · subst hlj
      rw [putF_same] at z
      cases z
    · rw [putF_ne hlj] at z
      rcases List.mem_cons.mp m with rfl | m
      · exact O.dis i l (Ne.symm hl) b (by rw [hF]; exact List.mem_cons_self) z
      · rcases List.mem_append.mp m with m | m
        · exact O.dis i l (Ne.symm hl) b (by rw [hF]; exact List.mem_cons_of_mem _ m) z
        · exact O.dis j l (Ne.symm hlj) b (by simpa using m) z
  · rcases List.mem_cons.mp m with rfl | m
    · exact O.fr i b (by rw [hF]; exact List.mem_cons_self)
    · rcases List.mem_append.mp m with m | m
      · exact O.fr i b (by rw [hF]; exact List.mem_cons_of_mem _ m)
      · exact O.fr j b (by simpa using m)
end
end Pur

set_option Elab.async false
set_option linter.all false
set_option maxRecDepth 100000
set_option maxHeartbeats 4000000
namespace Pur
open PySem PySem.Spec PyProof.Rows L2
/-! ## pairs of a row and a number -/
abbrev dL (p : List Int × Int) : PyData := .tuple [dR p.1, .int p.2]
def app0 (n : Int) (p : List Int × Int) : List Int × Int := (p.1 ++ [n], p.2)
section
variable {K : Frg} {W : WX} {Z Z' H H' : Hp} {ρ : List Sl} {σ : L2.St} {ds es ts : List PyData} {d : PyData} {i j m : Nat}
/-- a list within a tuple within a list grows -/
theorem RelS.app_in2 (R : RelS K Z ρ σ H) (hs : ρ[i]? = some (.ow (.list ds))) (hm : ds[m]? = some (.tuple ts)) (h0 : ts[0]? = some (.list es)) {w : V} (hw : Rp K H w d) (hd : Scal d) :
    ∃ a vs t zs b ys, σ[i]? = some (some (.ref a)) ∧ H a = some (.lst vs) ∧ vs.length = ds.length ∧ vs[m]? = some (.ref t) ∧ H t = some (.tup zs) ∧ atI zs 0 = some (.ref b) ∧ H b = some (.lst ys) ∧ ys.length = es.length ∧ b ≠ a ∧
      RelS K Z ((kill ρ).set i (.ow (.list (ds.set m (.tuple (ts.set 0 (.list (es ++ [d])))))))) σ (upd H b (.lst (ys ++ [w]))) := by
  obtain ⟨Fs, O⟩ := R.ex
  obtain ⟨a, xs, F, hσ, ha, hx, hna, hF⟩ := O.lst hs
  obtain ⟨v, G, p1, p2, p3, p4⟩ := hx.at_ hm
  cases p2 with
  | @tup t zs _ G1 ht hz htn =>
  obtain ⟨v2, G2, r1, r2, r3, r4⟩ := hz.at_ h0
  cases r2 with
  | @lst b ys _ G3 hb hy hbn =>
    have hbG : b ∈ G1 := r3 b List.mem_cons_self
    have hbF : b ∈ F := p3 b (List.mem_cons_of_mem _ hbG)
    have hba : b ≠ a := fun z => hna (z ▸ hbF)
    have hbt : b ≠ t := fun z => htn (z ▸ hbG)
    have hu : ∀ c, c ≠ b → (upd H b (.lst (ys ++ [w]))) c = H c := fun c h => upd_ne h
    obtain ⟨G1', q1, q2⟩ := r4 (upd H b (.lst (ys ++ [w]))) (.list (es ++ [d])) (b :: (G3 ++ ([] ++ []))) (fun c m z => hu c fun e => z (by rw [e]; exact List.mem_cons_self)) (.lst upd_same (OwAll.append (hy.keep fun c m => upd_ne fun z => hbn (z ▸ m)) (.cons (hw.ow hd) .nil fun _ m => nomatch m) fun c m z => by simp at z) (fun m => hbn (by simpa using m))) fun c m => .inl (by simpa using m)
    have hG1 : ∀ c ∈ G1', c ∈ G1 := fun c m => by
      rcases q2 c m with m | m
      · exact m
      · exact r3 c (by simpa using m)
    obtain ⟨F', s1, s2⟩ := p4 (upd H b (.lst (ys ++ [w]))) (.tuple (ts.set 0 (.list (es ++ [d])))) (t :: G1') (fun c m z => hu c fun e => z (by rw [e]; exact List.mem_cons_of_mem _ hbG)) (.tup (by rw [hu t (Ne.symm hbt)]; exact ht) q1 fun m => htn (hG1 t m)) fun c m => .inl (by
      rcases List.mem_cons.mp m with rfl | m
      · exact List.mem_cons_self
      · exact List.mem_cons_of_mem _ (hG1 c m))
    refine ⟨a, xs, t, zs, b, ys, hσ, ha, hx.length, p1, ht, at_of (j := 0) rfl r1, hb, hy.length, hba, R.chg hs O (F' := a :: F') (fun c hc o ho => ?_) ⟨_, hσ, .lst (by rw [hu a (Ne.symm hba)]; exact ha) s1 fun m => ?_⟩ fun c m => ?_⟩
    · rw [hu c fun z => hc (by rw [hF, z]; exact List.mem_cons_of_mem _ hbF)]
      exact ho
    · rcases s2 a m with m | m
      · exact hna m
      · refine hna (p3 a ?_)
        rcases List.mem_cons.mp m with rfl | m
        · exact List.mem_cons_self
        · exact List.mem_cons_of_mem _ (hG1 a m)
    · rw [hF]
      rcases List.mem_cons.mp m with rfl | m
      · exact .inl List.mem_cons_self
      · rcases s2 c m with m | m
        · exact .inl (List.mem_cons_of_mem _ m)
        · refine .inl (List.mem_cons_of_mem _ (p3 c ?_))
          rcases List.mem_cons.mp m with rfl | m
          · exact List.mem_cons_self
          · exact List.mem_cons_of_mem _ (hG1 c m)
/-- for x in xs: x[0].append(n) -/
theorem does_forapp0 {rr : List (List Int × Int)} {n : Int} (hs : ρ[i]? = some (.ow (.list (rr.map dL)))) (hij : i ≠ j) (hjr : j < ρ.length) (hz : ∀ r ∈ rr, r.1.length < 1000000) :
    Does K W (tFor (iList K (tVar i)) (gName j) (tDrop (tBM K "list" rAppend (tOp (rIx K) (tVar j) (tC (.int 0))) (tCons (tC (.int n)) tNil)))) ρ (.nx (((kill ρ).set j .no).set i (.ow (.list ((rr.map (app0 n)).map dL))))) := fun Z σ H D R q => by
  obtain ⟨Fs, O⟩ := R.ex
  obtain ⟨a, vs, F, hσ, ha, hx, hna, hF⟩ := O.lst hs
  have hlen : vs.length = rr.length := by rw [hx.length, List.length_map]
  have hi : i < ρ.length := (List.getElem?_eq_some_iff.mp hs).1
  refine ⟨.ref a, hσ, a, rfl, ⟨vs, sql ha⟩, ?_⟩
  let cur : Nat → List PyData := fun m => ((rr.take m).map (app0 n) ++ rr.drop m).map dL
  let ρm : Nat → List Sl := fun m => ((kill ρ).set j .no).set i (.ow (.list (cur m)))
  have h0 : RelS K Z (ρm 0) σ H := by
    have e : ρm 0 = (kill ρ).set j .no := by
      show ((kill ρ).set j .no).set i (.ow (.list (cur 0))) = _
      have e1 : cur 0 = rr.map dL := by show ((rr.take 0).map (app0 n) ++ rr.drop 0).map dL = _; simp
      rw [e1]
      refine List.ext_getElem? fun k => ?_
      rw [List.getElem?_set]
      by_cases hk : i = k
      · subst hk
        rw [if_pos rfl, List.getElem?_set_ne (Ne.symm hij), List.getElem?_map, hs]
        simp [hi, killS]
      · rw [if_neg hk]
    rw [e]
    exact R.killed.no j
  have curS : ∀ m (hm : m < rr.length), cur (m + 1) = (cur m).set m (dL (app0 n rr[m])) := fun m hm => by
    show ((rr.take (m + 1)).map (app0 n) ++ rr.drop (m + 1)).map dL = (((rr.take m).map (app0 n) ++ rr.drop m).map dL).set m (dL (app0 n rr[m]))
    rw [← List.map_set, List.drop_eq_getElem_cons hm, List.set_append_right _ _ (by rw [List.length_map, List.length_take]; omega), List.length_map, List.length_take, Nat.min_eq_left (Nat.le_of_lt hm), Nat.sub_self, List.set_cons_zero, List.take_add_one, List.getElem?_eq_getElem hm]
    show ((rr.take m ++ [rr[m]]).map (app0 n) ++ rr.drop (m + 1)).map dL = _
    rw [List.map_append (l₁ := rr.take m), List.append_assoc]
    rfl
  have curG : ∀ m (hm : m < rr.length), (cur m)[m]? = some (dL rr[m]) := fun m hm => by
    show (((rr.take m).map (app0 n) ++ rr.drop m).map dL)[m]? = _
    rw [List.getElem?_map, List.getElem?_append_right (by rw [List.length_map, List.length_take]; omega), List.length_map, List.length_take, Nat.min_eq_left (Nat.le_of_lt hm), Nat.sub_self, List.getElem?_drop, Nat.add_zero, List.getElem?_eq_getElem hm]
    rfl
  have hkl : (kill ρ).length = ρ.length := List.length_map _
  have seq : ∀ m (c' : List PyData), (kill ((ρm m).set j .no)).set i (.ow (.list c')) = ((kill ρ).set j .no).set i (.ow (.list c')) := fun m c' => by
    refine List.ext_getElem? fun k => ?_
    by_cases hk : k = i
    · subst hk
      rw [List.getElem?_set_self (by simp [ρm, kill, hi]), List.getElem?_set_self (by simp [kill, hi])]
    · rw [List.getElem?_set_ne (Ne.symm hk), List.getElem?_set_ne (Ne.symm hk), kill, List.getElem?_map]
      by_cases hj : k = j
      · subst hj
        by_cases hjl : k < ρ.length
        · rw [List.getElem?_set_self (by simp [ρm, kill, hjl]), List.getElem?_set_self (by simp [kill, hjl])]
          rfl
        · rw [List.getElem?_eq_none (by simp [ρm, kill]; omega), List.getElem?_eq_none (by simp [kill]; omega)]
          rfl
      · rw [List.getElem?_set_ne (Ne.symm hj), List.getElem?_set_ne (Ne.symm hk), List.getElem?_set_ne (Ne.symm hj), kill, List.getElem?_map]
        cases ρ[k]? with
        | none => rfl
        | some s => cases s <;> rfl
  refine for_list (K := K) (a := a) (xs := vs) (fun m σ' H' => ∃ Z', Same Z Z' ∧ RelS K Z' (ρm m) σ' H' ∧ H' a = some (.lst vs) ∧ σ'[i]? = some (some (.ref a))) ⟨Z, Same.refl Z, h0, ha, hσ⟩ (fun m σ' H' _ p => by obtain ⟨_, _, _, h, _⟩ := p; exact sql h) (fun m x σ' H' hm p => ?_) fun σ' H' p => ?_
  · obtain ⟨Z', e, R', ha', hσ'⟩ := p
    have hml : m < rr.length := by rw [← hlen]; exact (List.getElem?_eq_some_iff.mp hm).1
    have R2 : RelS K Z' ((ρm m).set j .no) (σ'.set j (some x)) H' := R'.put (Same.refl H') (s' := .no) (F := []) rfl fun _ m => nomatch m
    have hs2 : ((ρm m).set j .no)[i]? = some (.ow (.list (cur m))) := by
      rw [List.getElem?_set_ne (Ne.symm hij)]
      exact List.getElem?_set_self (by simp [kill, hi])
    have hσ2 : (σ'.set j (some x))[i]? = some (some (.ref a)) := by rw [List.getElem?_set_ne (Ne.symm hij)]; exact hσ'
    obtain ⟨a1, vs1, t, zs, b, ys, q1, q2, q3, q4, q4b, q4c, q5, q6, q7, q8⟩ := R2.app_in2 hs2 (curG m hml) (es := rr[m].1.map .int) rfl (w := .int n) (.int n) True.intro
    rw [hσ2] at q1
    cases q1
    rw [ha'] at q2
    cases q2
    rw [hm] at q4
    cases q4
    have hjt : (σ'.set j (some (V.ref t)))[j]? = some (some (V.ref t)) := by
      refine List.getElem?_set_self ?_
      have h1 := R'.len
      simp only [ρm, List.length_set] at h1
      rw [hkl] at h1
      rw [← h1]
      exact hjr
    refine ⟨.ref t, hjt, .inr (.inl ⟨t, zs, 0, .ref b, rfl, rfl, sqt q4b, q4c, tyl q5, b, ys, .int n, rfl, rfl, q5, by rw [q6, List.length_map]; exact sz_lt (hz _ (List.getElem_mem hml)), Z', e, ?_, by rw [upd_ne (Ne.symm q7)]; exact ha', hσ2⟩)⟩
    rw [seq] at q8
    have ec : (cur m).set m (.tuple (([dR rr[m].1, .int rr[m].2] : List PyData).set 0 (.list (rr[m].1.map PyData.int ++ [.int n])))) = cur (m + 1) := by
      rw [curS m hml]
      show _ = (cur m).set m (.tuple [dR (rr[m].1 ++ [n]), .int rr[m].2])
      rw [show dR (rr[m].1 ++ [n]) = .list (rr[m].1.map PyData.int ++ [.int n]) by show PyData.list ((rr[m].1 ++ [n]).map .int) = _; rw [List.map_append]; rfl]
      rfl
    rw [ec] at q8
    exact q8
  · obtain ⟨Z', e, R', _, _⟩ := p
    refine q Z' σ' H' e ?_
    have ec : cur vs.length = (rr.map (app0 n)).map dL := by
      show ((rr.take vs.length).map (app0 n) ++ rr.drop vs.length).map dL = _
      rw [hlen, List.take_length, List.drop_length, List.append_nil]
    have R3 : RelS K Z' (((kill ρ).set j .no).set i (.ow (.list (cur vs.length)))) σ' H' := R'
    rw [ec] at R3
    exact R3
end
/-! ## index -/
theorem ev_index {K : Frg} {ρ : DE} {ta tb : TE} {r : List Int} {n : Int} {j : Nat} (ha : Evr K ta ρ (dR r)) (hb : Evr K tb ρ (.int n)) (h : r[j]? = some n) (hno : ∀ (m : Nat) (z : Int), m < j → r[m]? = some z → z ≠ n) : Evr K (tBM K "list" (rIndex K) ta (tCons tb tNil)) ρ (.int (j : Int)) := fun σ H Q R q => ha σ H _ R fun v H1 e1 r1 => by
  obtain ⟨a, rfl, h1⟩ := r1.row
  refine ⟨tyl h1, hb σ H1 _ (R.mono e1) fun y H2 e2 r2 => ?_⟩
  obtain rfl := r2.int_eq
  refine ⟨a, r.map V.int, .int n, j, .int n, rfl, rfl, sql (e2 _ _ h1), rfl, ?_, by rw [List.getElem?_map, h]; rfl, ?_, fun m z hm hz => ?_, q _ H2 (e1.trans e2) (.int _)⟩
  · rw [List.all_map]
    exact List.all_eq_true.mpr fun x _ => rfl
  · simp [eqV]
  · rw [List.getElem?_map] at hz
    cases e : r[m]? with
    | none => rw [e] at hz; cases hz
    | some x =>
      rw [e] at hz
      have q := Option.some.inj hz
      subst q
      have := hno m x hm e
      simp [eqV, this]
end Pur

set_option Elab.async false
set_option linter.all false
set_option maxRecDepth 100000
set_option maxHeartbeats 4000000
namespace Pur
open PySem PySem.Spec PyProof.Rows L2
/-! ## from the last on -/
theorem lc_rev {K : Frg} {a : Addr} {xs : List V} {g : TG} {tt : TT} {te : TE} {vs : List Nat} {σ : L2.St} {H1 : Hp} {D : Addr} {Qd : Hp → Prop} (Pv : Nat → Hp → Prop) (h0 : Pv 0 (upd H1 D (.lst []))) (hl : ∀ i H, i ≤ xs.length → Pv i H → SqL K H a xs)
    (hs : ∀ i x H, i < xs.length → xs[xs.length - 1 - i]? = some x → Pv i H → g x (wipe σ vs) H fun σ2 H2 => wipe σ2 vs = wipe σ vs ∧ tt σ2 H2 fun b H3 =>
      if b = true then te σ2 H3 fun y H4 => ∃ acc, H4 D = some (.lst acc) ∧ acc.length < sizeLine ∧ Pv (i + 1) (upd H4 D (.lst (acc ++ [y]))) else Pv (i + 1) H3) (hd : ∀ H, Pv xs.length H → Qd H) :
    ∃ W : Nat → Nat → Hp → Prop, (∃ m, W 0 m (upd H1 D (.lst []))) ∧ ∀ i m H, W i m H →
      ((Itv K a xs.length).stop i H ∧ Qd H) ∨ ((Itv K a xs.length).go i H ∧ ∃ Nx : Hp → Prop, (∀ H', Nx H' → ∃ m', m' < m ∧ W (i + 1) m' H') ∧ ∀ x H', (Itv K a xs.length).yld i H x H' → g x (wipe σ vs) H' fun σ2 H2 => wipe σ2 vs = wipe σ vs ∧ tt σ2 H2 fun b H3 =>
        if b = true then te σ2 H3 fun y H4 => ∃ acc, H4 D = some (.lst acc) ∧ acc.length < sizeLine ∧ Nx (upd H4 D (.lst (acc ++ [y]))) else Nx H3) := by
  refine ⟨fun i m H => m = xs.length - i ∧ i ≤ xs.length ∧ Pv i H, ⟨xs.length, by simp, Nat.zero_le _, h0⟩, ?_⟩
  rintro i m H ⟨rfl, hi, p⟩
  have q := hl i H hi p
  by_cases hlt : i < xs.length
  · refine .inr ⟨⟨hlt, xs, xs[xs.length - 1 - i], q, List.getElem?_eq_getElem _⟩, Pv (i + 1), fun H' p' => ⟨xs.length - (i + 1), by omega, rfl, hlt, p'⟩, fun x H' y => ?_⟩
    obtain ⟨e, y⟩ := y
    subst e
    exact hs i x _ hlt (y xs q) p
  · have e : i = xs.length := by omega
    subst e
    exact .inl ⟨Nat.le_refl _, hd H p⟩
section
variable {K : Frg} {ρ : DE} {te : TE} {ta : TA}
theorem evf_lcRev {α : Type} {c : α → PyData} {xs : List α} {j : Nat} (g : α → PyData) (hl : Eva K ta ρ [.list (xs.map c)]) (hz : xs.length ≤ 1000000) (he : ∀ x ∈ xs, Evf K te (ρ.set j (some (c x))) (g x)) :
    Evf K (tLc (iRev K ta) (gName j) tYes te [j]) ρ (.list (xs.reverse.map g)) := fun σ H Q R q => hl σ H _ R fun us H1 e1 r0 => by
  obtain ⟨v, rfl, r1⟩ := r0.one
  obtain ⟨a, vs, rfl, h1, k1⟩ := r1.list
  have hlen := k1.length
  rw [List.length_map] at hlen
  refine ⟨a, vs, rfl, sql h1, fun D hD => ?_⟩
  refine lc_rev (xs := vs) (fun i H' => Cw H1 D ((xs.reverse.take i).map g) H') (Cw.start hD) (fun i H' _ w => sql (w.2.1 a _ h1)) (fun i x H' hi hx w => ?_) (fun H' w => ?_)
  · have hi2 : i < xs.length := by omega
    obtain ⟨d, hd, rd⟩ := k1.getV hx
    rw [hlen, List.getElem?_map, List.getElem?_eq_getElem (show xs.length - 1 - i < xs.length by omega)] at hd
    have hm : xs[xs.length - 1 - i] ∈ xs := List.getElem_mem (show xs.length - 1 - i < xs.length by omega)
    have ed : c xs[xs.length - 1 - i] = d := Option.some.inj hd
    subst ed
    have hget : xs.reverse[i]? = some xs[xs.length - 1 - i] := by
      rw [List.getElem?_eq_getElem (by rw [List.length_reverse]; exact hi2), List.getElem_reverse]
    refine ⟨wipe1 _ _ _, ?_⟩
    refine w.turn (d := g xs[xs.length - 1 - i]) ((R.mono e1).comp rd j) ?_ et_yes (fun _ => he _ hm) fun H2 w2 => ?_
    · rw [List.length_map, List.length_take, List.length_reverse]
      omega
    · rw [take_succ_some hget, List.map_append]
      exact w2
  · rw [hlen, List.take_of_length_le (by rw [List.length_reverse]; exact Nat.le_refl _)] at w
    exact w.done fun v H2 F e o f => q v H2 F (e1.trans e) o fun a m => e1.free (f a m)
end
end Pur

set_option Elab.async false
set_option linter.all false
set_option maxRecDepth 100000
set_option maxHeartbeats 4000000
namespace Pur
open PySem PySem.Spec PyProof.Rows L2
/-! ## int(..), count, texts -/
def rInt1 : List V → Hp → VK → Prop := fun xs H Q => (∃ i, xs = [.int i] ∧ Q (.int i) H) ∨ ∃ k, xs = [.bl k] ∧ Q (.int (if k then 1 else 0)) H
def rIntS : List V → Hp → VK → Prop := fun xs H Q => ∃ a n, xs = [.str a] ∧ PySem.intText? a = some n ∧ a.length ≤ 640 ∧ Q (.int n) H
def rStrI : List V → Hp → VK → Prop := fun xs H Q => ∃ i : Int, xs = [.int i] ∧ i.natAbs.log2 < 1920 ∧ Q (.str (toString i)) H
def rJoinL (K : Frg) : V → List V → Hp → VK → Prop := fun x xs H Q => ∃ a p, ∃ ys : List Str, x = .str a ∧ xs = [.ref p] ∧ (SqL K H p (ys.map V.str) ∨ SqT K H p (ys.map V.str)) ∧ (ys.map (·.length)).sum + ys.length * a.length ≤ 16777216 ∧ Q (.str (Txt.join a ys)) H
def rSplitS : V → List V → Hp → VK → Prop := fun x xs H Q => ∃ a b, x = .str a ∧ xs = [.str b] ∧ (b.length == 0) = false ∧ a.length + 2 ≤ sizeLine ∧ rNewStrs (Txt.split a b) H Q
def strI (i : Int) : Str := toString i
theorem cr_int1 {X : Cx} : CallR X (.type "int") rInt1 := call_int1
theorem cr_intS {X : Cx} : CallR X (.type "int") rIntS := call_int_str
theorem cr_strI {X : Cx} : CallR X (.type "str") rStrI := call_str_int
section
variable {K : Frg} {ρ : DE} {ta tb : TE}
theorem ev_intB {b : Bool} (ha : Evr K ta ρ (.bool b)) : Evr K (tCB rInt1 (tCons ta tNil)) ρ (.int (if b then 1 else 0)) := ev_cb (eva_cons ha eva_nil) fun H vs Q h q => by
  obtain ⟨v, rfl, hv⟩ := h.one
  obtain rfl := hv.bl_eq
  exact .inr ⟨b, rfl, q _ H (Same.refl H) (.int _)⟩
theorem ev_intS {a : Str} {n : Int} (ha : Evr K ta ρ (.str a)) (hn : PySem.intText? a = some n) (hl : a.length ≤ 640) : Evr K (tCB rIntS (tCons ta tNil)) ρ (.int n) := ev_cb (eva_cons ha eva_nil) fun H vs Q h q => by
  obtain ⟨v, rfl, hv⟩ := h.one
  obtain rfl := hv.str_eq
  exact ⟨a, n, rfl, hn, hl, q _ H (Same.refl H) (.int _)⟩
theorem ev_strI {i : Int} (ha : Evr K ta ρ (.int i)) (hi : i.natAbs.log2 < 1920) : Evr K (tCB rStrI (tCons ta tNil)) ρ (.str (strI i)) := ev_cb (eva_cons ha eva_nil) fun H vs Q h q => by
  obtain ⟨v, rfl, hv⟩ := h.one
  obtain rfl := hv.int_eq
  exact ⟨i, rfl, hi, q _ H (Same.refl H) (.str _)⟩
theorem ev_count {r : List Int} {n : Int} (ha : Evr K ta ρ (dR r)) (hb : Evr K tb ρ (.int n)) : Evr K (tBM K "list" (rCntI K) ta (tCons tb tNil)) ρ (.int ((r.count n : Nat) : Int)) := fun σ H Q R q => ha σ H _ R fun v H1 e1 r1 => by
  obtain ⟨a, rfl, h1⟩ := r1.row
  refine ⟨tyl h1, hb σ H1 _ (R.mono e1) fun y H2 e2 r2 => ?_⟩
  obtain rfl := r2.int_eq
  exact ⟨a, r, n, rfl, rfl, sql (e2 _ _ h1), q _ H2 (e1.trans e2) (.int _)⟩
theorem ev_joinS {a : Str} {ys : List Str} (ha : Evr K ta ρ (.str a)) (hb : Evr K tb ρ (dS ys)) (hl : (ys.map (·.length)).sum + ys.length * a.length ≤ 1000000) : Evr K (tM1 (rJoinL K) ta tb) ρ (.str (Txt.join a ys)) := fun σ H Q R q => ha σ H _ R fun v H1 e1 r1 => by
  obtain rfl := r1.str_eq
  refine ⟨⟨a, rfl⟩, hb σ H1 _ (R.mono e1) fun y H2 e2 r2 => ?_⟩
  obtain ⟨p, xs, rfl, h1, k1⟩ := r2.list
  rw [k1.strs] at h1
  exact ⟨a, p, ys, rfl, rfl, .inl (sql h1), Nat.le_trans hl (by decide), q _ H2 (e1.trans e2) (.str _)⟩
theorem evf_splitS {a b : Str} (ha : Evr K ta ρ (.str a)) (hb : Evr K tb ρ (.str b)) (h0 : (b.length == 0) = false) (hl : a.length ≤ 900000) : Evf K (tM1 rSplitS ta tb) ρ (dS (Txt.split a b)) := fun σ H Q R q => ha σ H _ R fun v H1 e1 r1 => by
  obtain rfl := r1.str_eq
  refine ⟨⟨a, rfl⟩, hb σ H1 _ (R.mono e1) fun y H2 e2 r2 => ?_⟩
  obtain rfl := r2.str_eq
  refine ⟨a, b, rfl, rfl, h0, sz_le (by omega), fun p hp => q (.ref p) _ [p] ((e1.trans e2).trans (same_upd hp)) (.lst upd_same (OwAll.of_strs _) fun m => nomatch m) fun c m => ?_⟩
  rw [List.mem_singleton.mp m]
  exact (e1.trans e2).free hp
end
end Pur

set_option Elab.async false
set_option linter.all false
set_option maxRecDepth 100000
set_option maxHeartbeats 4000000
namespace Pur
open PySem PySem.Spec PyProof.Rows L2
/-! ## a text, sign by sign -/
abbrev sg (c : Nat) : Str := ⟨#[c]⟩
theorem for_sign {z : Str} {g : TG} {tb : TS} {D : Ends} {σ : L2.St} {H : Hp} (Pv : Nat → L2.St → Hp → Prop) (h0 : Pv 0 σ H)
    (hs : ∀ i c σ H, z.cps.toList[i]? = some c → Pv i σ H → g (.str (sg c)) σ H fun σ2 H2 => tb { D with nx := Pv (i + 1), ct := Pv (i + 1), bk := D.nx } σ2 H2) (hd : ∀ σ H, Pv z.cps.toList.length σ H → D.nx σ H) :
    ∃ W : Nat → Nat → L2.St → Hp → Prop, (∃ m, W 0 m σ H) ∧ ∀ i m σ H, W i m σ H →
      ((Its z).stop i H ∧ D.nx σ H) ∨ ((Its z).go i H ∧ ∃ N : L2.St → Hp → Prop, (∀ σ' H', N σ' H' → ∃ m', m' < m ∧ W (i + 1) m' σ' H') ∧ ∀ x H', (Its z).yld i H x H' → g x σ H' fun σ2 H2 => tb { D with nx := N, ct := N, bk := D.nx } σ2 H2) := by
  have hz : z.cps.toList.length = z.cps.size := Array.length_toList
  refine ⟨fun i m σ H => m = z.cps.size - i ∧ i ≤ z.cps.size ∧ Pv i σ H, ⟨z.cps.size, by simp, Nat.zero_le _, h0⟩, ?_⟩
  rintro i m σ H ⟨rfl, hi, p⟩
  by_cases hlt : i < z.cps.size
  · refine .inr ⟨hlt, Pv (i + 1), fun σ' H' p' => ⟨z.cps.size - (i + 1), by omega, rfl, hlt, p'⟩, fun x H' y => ?_⟩
    obtain ⟨e, c, hc, rfl⟩ := y
    subst e
    exact hs i c σ _ (by rw [Array.getElem?_toList]; exact hc) p
  · have e : i = z.cps.size := by omega
    subst e
    exact .inl ⟨Nat.le_refl _, hd σ H (by rw [hz]; exact p)⟩
section
variable {K : Frg} {W : WX} {ρ : List Sl} {tb : TS} {tl : TE} {j : Nat} {z : Str}
theorem does_chkS (hl : Evr K tl (er ρ) (.str z)) (hs : ∀ c ∈ z.cps.toList, Chk K W tb ((er ρ).set j (some (.str (sg c)))) .go) : Does K W (tFor (iStr tl) (gName j) tb) ρ (.nx (ρ.set j .no)) := fun Z σ H D R q => hl σ H _ R.relE fun v H1 e1 r1 => by
  obtain rfl := r1.str_eq
  refine ⟨z, rfl, ?_⟩
  refine for_sign (fun i σ' H' => Same H1 H' ∧ (σ' = σ ∨ ∃ y : V, σ' = σ.set j (some y))) ⟨Same.refl _, .inl rfl⟩ (fun i c σ' H' hi p => ?_) fun σ' H' p => q Z σ' H' (Same.refl Z) (R.loose (e1.trans p.1) p.2)
  show tb _ (σ'.set j (some _)) H'
  rw [or_set _ p.2]
  exact hs c (List.mem_of_getElem? hi) _ H' _ ((R.relE.mono (e1.trans p.1)).set (.str _) j) fun H2 e2 => ⟨p.1.trans e2, .inr ⟨_, rfl⟩⟩
theorem does_chkSx {o : CO} (hl : Evr K tl (er ρ) (.str z)) (n : Nat) (c : Nat) (hn : z.cps.toList[n]? = some c) (hs : ∀ i x, i < n → z.cps.toList[i]? = some x → Chk K W tb ((er ρ).set j (some (.str (sg x)))) .go) (ho : Chk K W tb ((er ρ).set j (some (.str (sg c)))) o) (hg : o ≠ .go) (hsc : ∀ d, o = .rt d → Scal d) :
    Does K W (tFor (iStr tl) (gName j) tb) ρ (toOut (ρ.set j .no) o) := fun Z σ H D R q => hl σ H _ R.relE fun v H1 e1 r1 => by
  obtain rfl := r1.str_eq
  have hnl : n < z.cps.toList.length := (List.getElem?_eq_some_iff.mp hn).1
  refine ⟨z, rfl, ?_⟩
  refine for_sign (fun i σ' H' => i ≤ n ∧ Same H1 H' ∧ (σ' = σ ∨ ∃ y : V, σ' = σ.set j (some y))) ⟨Nat.zero_le _, Same.refl _, .inl rfl⟩ (fun i x σ' H' hi p => ?_) fun σ' H' p => absurd p.1 (by omega)
  obtain ⟨hin, p1, p2⟩ := p
  show tb _ (σ'.set j (some _)) H'
  rw [or_set _ p2]
  have R2 := (R.relE.mono (e1.trans p1)).set (K := K) (.str (sg x)) j
  by_cases hlt : i < n
  · exact hs i x hlt hi _ H' _ R2 fun H2 e2 => ⟨hlt, p1.trans e2, .inr ⟨_, rfl⟩⟩
  · have ein : i = n := by omega
    subst ein
    rw [hn] at hi
    cases hi
    refine ho _ H' _ R2 ?_
    cases o with
    | go => exact absurd rfl hg
    | rt d => exact fun v H2 e2 r => q v H2 [] (R.ext.trans ((e1.trans p1).trans e2)) (r.ow (hsc d rfl)) fun _ m => nomatch m
    | ex c => exact fun H2 e2 => q Z _ H2 (Same.refl Z) (R.loose ((e1.trans p1).trans e2) (.inr ⟨_, rfl⟩))
end
/-! ## numbers' texts -/
open TL
theorem tl_strI (n : Nat) : tl (strI (n : Int)) = numL n := tl_num n
theorem strI_len1 {n : Nat} (h : n < 10) : tl (strI (n : Int)) = [48 + n] := by rw [tl_strI, numL_lt h]
theorem strI_len2 {n : Nat} (h : 10 ≤ n) (h2 : n < 100) : tl (strI (n : Int)) = [48 + n / 10, 48 + n % 10] := by
  rw [tl_strI, numL_step h, numL_lt (by omega)]
  rfl
/-- a number from one on of at most two figures -/
def IsN (z : Str) (n : Nat) : Prop := 1 ≤ n ∧ n ≤ 99 ∧ z = strI (n : Int)
theorem IsN.len {z : Str} {n : Nat} (h : IsN z n) : 1 ≤ z.length ∧ z.length ≤ 2 := by
  obtain ⟨h1, h2, rfl⟩ := h
  rw [len_tl]
  by_cases h : n < 10
  · rw [strI_len1 h]; exact ⟨by simp, by simp⟩
  · rw [strI_len2 (by omega) (by omega)]; exact ⟨by simp, by simp⟩
theorem IsN.fig {z : Str} {n : Nat} (h : IsN z n) : ∀ c ∈ tl z, 48 ≤ c ∧ c ≤ 57 := by
  obtain ⟨h1, h2, rfl⟩ := h
  intro c m
  by_cases h : n < 10
  · rw [strI_len1 h] at m
    have := List.mem_singleton.mp m
    omega
  · rw [strI_len2 (by omega) (by omega)] at m
    rcases List.mem_cons.mp m with m | m
    · omega
    · have := List.mem_singleton.mp m
      omega
theorem IsN.hd {z : Str} {n : Nat} (h : IsN z n) : ∃ c, (tl z)[0]? = some c ∧ c ≠ 48 := by
  obtain ⟨h1, h2, rfl⟩ := h
  by_cases h : n < 10
  · rw [strI_len1 h]; exact ⟨48 + n, rfl, by omega⟩
  · rw [strI_len2 (by omega) (by omega)]; exact ⟨48 + n / 10, rfl, by omega⟩
theorem isN_of {z : Str} {c : Nat} (h0 : (tl z)[0]? = some c) (hc : c ≠ 48) (hl : z.length ≤ 2) (hf : ∀ c ∈ tl z, 48 ≤ c ∧ c ≤ 57) : ∃ n, IsN z n := by
  rw [len_tl] at hl
  cases e : tl z with
  | nil => rw [e] at h0; cases h0
  | cons a r =>
    rw [e] at h0 hl hf
    cases h0
    have ha := hf c List.mem_cons_self
    cases r with
    | nil =>
      refine ⟨c - 48, by omega, by omega, ext_tl ?_⟩
      rw [strI_len1 (by omega), e, show 48 + (c - 48) = c by omega]
    | cons b r =>
      have hb := hf b (List.mem_cons_of_mem _ List.mem_cons_self)
      cases r with
      | cons _ _ => simp at hl
      | nil =>
        refine ⟨10 * (c - 48) + (b - 48), by omega, by omega, ext_tl ?_⟩
        rw [strI_len2 (by omega) (by omega), e, show 48 + (10 * (c - 48) + (b - 48)) / 10 = c by omega, show 48 + (10 * (c - 48) + (b - 48)) % 10 = b by omega]
theorem IsN.one {z : Str} {n m : Nat} (h : IsN z n) (h2 : IsN z m) : n = m := by
  obtain ⟨_, _, e⟩ := h
  obtain ⟨_, _, e2⟩ := h2
  refine numL_inj ?_
  rw [← tl_strI, ← tl_strI, ← e, ← e2]
theorem IsN.val {z : Str} {n : Nat} (h : IsN z n) : intText? z = some (n : Int) := by
  have hl := h.len
  obtain ⟨h1, h2, rfl⟩ := h
  refine int_num ?_
  rw [← tl_strI, ← len_tl]
  omega
theorem log_small {n : Nat} (h : n ≤ 1000000) : ((n : Int)).natAbs.log2 < 1920 := by
  rw [Int.natAbs_natCast]
  by_cases h0 : n = 0
  · subst h0; decide
  · exact Nat.lt_of_lt_of_le ((Nat.log2_lt h0).mpr (show n < 2 ^ 20 by omega)) (by decide)
theorem tl_figures : tl ("0123456789" : Str) = [48, 49, 50, 51, 52, 53, 54, 55, 56, 57] := by decide +kernel
theorem in_figures {c : Nat} : c ∈ tl ("0123456789" : Str) ↔ 48 ≤ c ∧ c ≤ 57 := by
  rw [tl_figures]
  simp only [List.mem_cons, List.not_mem_nil, or_false]
  omega
theorem str_empty {z : Str} : z = ("" : Str) ↔ z.length = 0 := by
  constructor
  · rintro rfl; decide +kernel
  · intro h
    rw [len_tl] at h
    refine ext_tl ?_
    rw [List.length_eq_zero_iff.mp h]
    decide +kernel
end Pur

set_option Elab.async false
set_option linter.all false
set_option maxRecDepth 100000
set_option maxHeartbeats 4000000
namespace Pur
open PySem PySem.Spec PyProof.Rows L2
/-! ## sorted(set(xs)), xs a list of hin -/
section
variable {P : Program} {w : World} {A : Around} {E : Value → Shared → Prop} {s : Shared}
abbrev newSetObj (w : World) : Obj := { cls := .type "set", dict := none, data := .set #[] 0 (.fresh 0 0 (!w.params.followText "set-order")) }
/-- set(l), l a list of hin -/
theorem set_of_list {l : Addr} {its : Array Value} {ns : List Int} {Q : Value → Shared → Prop} (quiet : A.handled = none) (isl : s.heap.IsList l its) (hin : IntsAre its.toList ns) (room : ns.length + 1 < scanBound)
    (fin : ∀ (h2 : Heap) (tk2 c : Nat), SetR w h2 s.heap.objs.size (fun j => decide (j ∈ ns)) c → c ≤ ns.length → (∀ b o, s.heap.get? b = some o → h2.get? b = some o) → Q (.ref s.heap.objs.size) { s with heap := h2, toks := tk2 }) :
    wpAny (model P w) A (call (.type "set") [.ref l]) Q E s := by
  have many : its.size = ns.length := by
    rw [← Array.length_toList]
    exact hin.length
  obtain ⟨cc, tl, m1⟩ := PySem.F.called_set.mro
  have m2 := PySem.F.called_set.made
  have m3 := PySem.F.called_set.sub
  refine wpAny_call (codeAny_of_tree ?_)
  show wpAny _ _ (callAny (.type "set") _) _ _ _
  refine wpAny_pure ⟨Code.quiet_builtin _ (by decide +kernel), codeAny_builtin PySem.F.entry_type_call ?_⟩
  rw [Around.under_plain (weight_type_call_type "set" [.ref l] []) rfl]
  have m4 := PySem.F.called_set.notType
  have m5 := PySem.F.called_set.canCreate
  have m6 := PySem.F.typeCall_set_1 (.ref l)
  repeat (any_goals (first | assumption | wp_step))
  refine codeAny_mono (code_set_led1 (.ref l) (E := E) (Q₁ := fun ob s1 => ob = .ref s.heap.objs.size ∧ s1 = { s with heap := s.heap.push (newSetObj w) }) ⟨rfl, rfl⟩) fun r s1 hr => ?_
  cases r with
  | error e => exact hr
  | ok fl =>
    cases fl with
    | next => exact hr.elim
    | brk => exact hr.elim
    | cont => exact hr.elim
    | ret ob =>
      obtain ⟨rfl, rfl⟩ := hr
      have gS : (s.heap.push (newSetObj w)).get? s.heap.objs.size = some (newSetObj w) := Heap.get?_push_size _ rfl
      have tS : Shared.TypeIs { s with heap := s.heap.push (newSetObj w) } (.ref s.heap.objs.size) "set" := ⟨_, gS, rfl⟩
      have lk := PySem.F.called_set.init.lookup
      have bi := PySem.F.called_set.init.bind (.ref s.heap.objs.size)
      repeat (any_goals (first | assumption | wp_step))
      refine codeAny_mono (codeAny_call_builtin (R := wants (fun r s2 => r = .none ∧ ∃ h2 tk c, s2 = { s with heap := h2, toks := tk } ∧ SetR w h2 s.heap.objs.size (fun j => decide (j ∈ ns)) c ∧ c ≤ ns.length ∧ (∀ b o, s.heap.get? b = some o → h2.get? b = some o)) E)
        PySem.F.called_set.init.plain PySem.F.entry_set_init (check_set_init_1 tS ?_)) fun r2 s2 hr2 => ?_
      · obtain ⟨ol, hol, hcl, nl, hdl⟩ := isl
        obtain ⟨ocls, odict, odata, oslots⟩ := ol
        simp only at hcl hdl
        subst hcl; subst hdl
        have holP : (s.heap.push (newSetObj w)).get? l = some { cls := .type "list", dict := odict, data := .seq its nl, slots := oslots } := Heap.get?_push_of_some _ hol
        have u1 := PySem.F.sub_list_set
        have u2 := PySem.F.sub_list_frozenset
        have u3 : (Value.type "list" == Value.type "dict") = false := by decide
        have islP : (s.heap.push (newSetObj w)).IsList l its := ⟨_, holP, rfl, nl, rfl⟩
        unfold Builtin.«set.__init__» noKeywords Builtin.Frozenset.updateFrom
        generalize walk : pyIter = PI
        wp_walk
        subst walk
        refine wpAny_pyIter_list islP ?_
        refine wpAny_bind (wpAny_runValue ?_)
        have below : l < s.heap.objs.size := Heap.lt_size hol
        have quiet3 : A.in1.in1.in1.handled = none := by simp [quiet]
        have apart : l ≠ (s.heap.push (newSetObj w)).objs.size := by
          rw [Heap.size_push]; exact Nat.ne_of_lt (Nat.lt_succ_of_lt below)
        have off : s.heap.objs.size ∉ [(s.heap.push (newSetObj w)).objs.size, l] := by
          rw [Heap.size_push]
          intro z
          rcases List.mem_cons.mp z with z | z
          · exact absurd z (Nat.ne_of_lt (Nat.lt_succ_self _))
          · exact absurd (List.mem_singleton.mp z) (Nat.ne_of_gt below)
        have vals : ∀ (i : Nat) (v : Value), its[i]? = some v → ∃ k t, ns[i]? = some k ∧ v = .int k t := fun i v hv => by
          have hi : i < ns.length := by rw [← many]; exact (Array.getElem?_eq_some_iff.mp hv).1
          obtain ⟨t, e⟩ := PyProof.Rows.IntsAre.int_at hin i v (by rw [Array.getElem?_toList]; exact hv)
          refine ⟨ns[i], t, List.getElem?_eq_getElem hi, ?_⟩
          rw [e, List.getD_eq_getElem?_getD, List.getElem?_eq_getElem hi] <;> rfl
        refine set_update_ints ((Walks.list quiet3 _ l apart its).toS) s.heap.objs.size
          off ns many room vals (its.size - 0) 0 _ (by omega) (Nat.zero_le _)
          ⟨⟨_, Heap.get?_push_size _ rfl, rfl, rfl⟩, (islP.push _)⟩ ?start ?stop
        case start => exact ⟨0, Nat.le_refl 0, setR_new_at (Heap.get?_push_of_some _ gS)⟩
        case stop =>
          intro s' c' hm hc' hS'
          obtain ⟨h', g2, d', tk', os'⟩ := s'
          have eg : g2 = s.gens := hm.gens
          have ed : d' = s.drawn := hm.drawn
          have eo : os' = s.os := hm.os
          subst eg; subst ed; subst eo
          show wpAny _ _ _ _ _ _
          refine wpAny_pure ?_
          show wpAny _ _ (ret Value.none) _ _ _
          rw [many] at hc'
          refine wpAny_pure ⟨rfl, h', tk', c', rfl, hS', hc', fun b o e => ?_⟩
          have b0 : b < s.heap.objs.size := Heap.lt_size e
          refine hm.heap b o (fun z => ?_) (Heap.get?_push_of_some _ (Heap.get?_push_of_some _ e))
          rcases List.mem_cons.mp z with z | z
          · exact absurd z (Nat.ne_of_lt b0)
          · have z := List.mem_singleton.mp z
            rw [Heap.size_push] at z
            exact absurd z (Nat.ne_of_lt (Nat.lt_succ_of_lt b0))
      · cases r2 with
        | error e => exact hr2
        | ok fl2 =>
          cases fl2 with
          | next => exact hr2.elim
          | brk => exact hr2.elim
          | cont => exact hr2.elim
          | ret r =>
            obtain ⟨rfl, h2, tk, c', rfl, q1, q2, q3⟩ := hr2
            repeat (any_goals (first | assumption | wp_step))
            exact fin _ _ _ q1 q2 q3
/-- sorted(a), a a set of hin, however many -/
theorem sorted_of_set {a : Addr} {S : Int → Bool} {n : Nat} {Q : Value → Shared → Prop} (R : SetR w s.heap a S n) (quiet : A.handled = none)
    (fin : ∀ s2 p (out : List Value) (c : Nat) (ms : List Int), (∀ b o, s.heap.get? b = some o → s2.heap.get? b = some o) → s2.gens = s.gens → s2.os = s.os → s.heap.objs.size ≤ p →
      s2.heap.get? p = some (seqObj "list" out.toArray c) → IntsAre out ms → ms.Pairwise (· < ·) → (∀ k, k ∈ ms ↔ S k = true) → ms.length ≤ 5000 → Q (.ref p) s2) :
    wpAny (model P w) A (call (.builtin "sorted") [.ref a]) Q E s := by
  obtain ⟨o, es, ep, t, ho, hex, hd, good, nod, mems, bnd, fit, num, ris, led⟩ := R
  refine Calls.call_function_entry kind_sorted plain_sorted entry_sorted (args_sorted1 _) ?_
  unfold Builtin.«sorted»
  refine wpAny_bind (m := checkCount "sorted" 1 1 _) (wpAny_pure ?_)
  refine wpAny_bind (collect_set (A := A.in1) quiet ⟨o, ho, hex.1, hd⟩ fit bnd ris led fun s1 vs k1 sz g1 o1 perm => ?_)
  have vlen : vs.length = es.size := by rw [perm.length_eq, List.length_map, Array.length_toList]
  have vint : IntsAre vs (vs.map Builtin.Re.reRawOf) := ints_of vs fun v hv => by
    obtain ⟨e, he, q⟩ := List.mem_map.mp (perm.mem_iff.mp hv)
    obtain ⟨k, tk, h1, _⟩ := good e he
    exact ⟨k, tk, by rw [← q]; exact h1⟩
  have vperm : (vs.map Builtin.Re.reRawOf).Perm (es.toList.map keyOf) := by
    have q := perm.map Builtin.Re.reRawOf
    rw [List.map_map] at q
    exact q
  have bnd2 : es.size < 4096 := bnd
  refine wpAny_bind (wpAny_newList ?_ (by rw [vlen, sizeLine_eq]; omega))
  have gL : (s1.heap.push (seqObj "list" vs.toArray 0)).get? s1.heap.objs.size = some (seqObj "list" vs.toArray 0) := Heap.get?_push_size _ rfl
  refine wpAny_bind (wpAny_holding (wpAny_call_entry slot_list_sort ⟨_, gL, rfl⟩ entry_list_sort
    (SrtO.list_sort_ord SrtO.swo_int gL (by rw [vlen, sizeLine_eq]; omega) (fun h2 => SrtO.ints_sortable vint h2) fun out h1 h2 => ⟨_, rfl, ?_⟩) (args_list_sort _)))
  obtain ⟨j1, j2, j3⟩ := SrtO.ints_out vint h1 h2
  obtain ⟨c, hc⟩ := sortedHeap_at (vs := vs) (out := out.toArray) gL
  have pn := j2.trans vperm
  refine wpAny_pure ⟨_, rfl, fin _ s1.heap.objs.size out c _ (fun b u e => ?_) g1 o1 sz hc j1 (lt_of_le_nodup _ j3 (pn.nodup_iff.mpr nod)) (fun k => by rw [pn.mem_iff, ← mems k]) ?_⟩
  · have q := k1 b u e
    have hlt := Heap.lt_size q
    show (sortedHeap (s1.heap.push (seqObj "list" vs.toArray 0)) s1.heap.objs.size vs out.toArray).get? b = some u
    rw [sortedHeap_old (Nat.ne_of_lt hlt) (by rw [size_push']; exact Nat.lt_succ_of_lt hlt)]
    exact Heap.get?_push_of_some _ q
  · rw [pn.length_eq, List.length_map, Array.length_toList]
    omega
end
section
variable {X : Cx}
def rSetI (K : Frg) (w : World) : List V → Hp → VK → Prop := fun xs H Q => ∃ (a : Addr) (ns : List Int), xs = [V.ref a] ∧ SqL K H a (ns.map V.int) ∧ ns.length ≤ 4000 ∧ ∀ p c, H p = none → Q (.ref p) (upd H p (SetO w p (fun j => decide (j ∈ ns)) c))
theorem cr_setI (hc : X.calm = true) : CallR X (.type "set") (rSetI X.K X.w) := by
  intro pins s σ H vs us Q I r h
  obtain ⟨a, ns, rfl, hs, hz, q⟩ := h
  obtain ⟨its, rv, hl, _⟩ := I.list hs
  rw [Vals.ref1 r]
  refine set_of_list (I.ok.hd hc) hl.isList (ints_of_vals rv) (show ns.length + 1 < 4096 by omega) fun h2 tk2 c R hcl keep => ?_
  exact ⟨.ref _, upd H s.heap.objs.size (SetO X.w s.heap.objs.size (fun j => decide (j ∈ ns)) c), I.laid (t' := tk2) keep (Nat.le_refl _) (setO_new R), rfl, q _ c (I.hok.fresh (Nat.le_refl _))⟩
def rSortedA (w : World) : List V → Hp → VK → Prop := fun vs H Q => ∃ (a : Addr) (S : Int → Bool) (n : Nat), vs = [V.ref a] ∧ H a = some (SetO w a S n) ∧
  ∀ (ms : List Int) (p : Addr), ms.Pairwise (· < ·) → (∀ k : Int, k ∈ ms ↔ S k = true) → H p = none → Q (.ref p) (upd H p (.lst (ms.map V.int)))
theorem cr_sortedA (hc : X.calm = true) : CallR X (.builtin "sorted") (rSortedA X.w) := by
  intro pins s σ H vs us Q I r h
  obtain ⟨a, S, n, rfl, ha, q⟩ := h
  rw [Vals.ref1 r]
  refine sorted_of_set (setO_get I ha) (I.ok.hd hc) fun s2 p out c ms keep g o hp hg hi hs hm hl => ?_
  have hlen : (ms.map V.int).length ≤ sizeLine := by rw [List.length_map, sizeLine_eq]; omega
  have hn : H p = none := I.hok.fresh hp
  have J : Inv X pins σ (upd H p (.lst (ms.map V.int))) { s with heap := s2.heap, gens := s2.gens, drawn := s2.drawn, toks := s2.toks } :=
    I.call (ch := []) (Un.laid keep hp hn) (I.hok.laid keep hp ⟨hlen, out, c, vals_of_ints hi, hg⟩) (by rw [g]; exact I.bare) fun _ z => nomatch z
  have e : s2 = { s with heap := s2.heap, gens := s2.gens, drawn := s2.drawn, toks := s2.toks } := by
    cases s2
    cases s
    cases o
    rfl
  rw [e]
  exact ⟨.ref p, _, J, rfl, q ms p hs hm hn⟩
/-- what leads on from a reading may be told more weakly -/
def tMono (te : TE) : TE := fun σ H Q => ∃ Q0, te σ H Q0 ∧ ∀ v H', Q0 v H' → Q v H'
theorem pe_mono {e : Expr} {te : TE} (h : PE X e te) : PE X e (tMono te) := by
  refine ⟨fun pins s σ H Q I hq => ?_⟩
  obtain ⟨Q0, h0, imp⟩ := hq
  exact thn (h.run pins s σ H Q0 I h0) fun v s1 ⟨x, H1, I1, r1, q⟩ => ⟨x, H1, I1, r1, imp _ _ q⟩
/-- sorted(set(e)) -/
def tSortSet (K : Frg) (te : TE) : TE := fun σ H Q => te σ H fun v H1 => ∃ (a : Addr) (ns : List Int), v = V.ref a ∧ SqL K H1 a (ns.map V.int) ∧ ns.length ≤ 4000 ∧
  ∀ (ms : List Int) (q : Addr) (o : HO) (p : Addr), ms.Pairwise (· < ·) → (∀ k, k ∈ ms ↔ k ∈ ns) → H1 q = none → (upd H1 q o) p = none → Q (.ref p) (upd (upd H1 q o) p (.lst (ms.map V.int)))
theorem pe_sortset {e : Expr} {te : TE} (h : PE X e (tCB (rSortedA X.w) (tCons (tCB (rSetI X.K X.w) (tCons (tMono te) tNil)) tNil))) : PE X e (tSortSet X.K te) := by
  refine ⟨fun pins s σ H Q I hq => h.run pins s σ H Q I ?_⟩
  refine ⟨_, hq, fun v H1 z => ?_⟩
  obtain ⟨a, ns, rfl, hs, hz, q⟩ := z
  refine ⟨a, ns, rfl, hs, hz, fun p c hp => ?_⟩
  exact ⟨p, _, c, rfl, upd_same, fun ms p2 h1 h2 hn => q ms p _ p2 h1 (fun k => (h2 k).trans ⟨of_decide_eq_true, decide_eq_true⟩) hp hn⟩
end
theorem rising_one {r s : List Int} (hr : r.Pairwise (· < ·)) (hs : s.Pairwise (· < ·)) (h : ∀ k, k ∈ r ↔ k ∈ s) : r = s := by
  have nd : ∀ {l : List Int}, l.Pairwise (· < ·) → l.Nodup := fun {l} hl => hl.imp fun {x y} z e => by omega
  refine sorted_one ((List.perm_ext_iff_of_nodup (nd hr) (nd hs)).mpr h) (hr.imp fun {x y} z => by omega) (hs.imp fun {x y} z => by omega)
theorem evf_sortset {K : Frg} {ρ : DE} {ta : TE} {r s : List Int} (ha : Evr K ta ρ (dR r)) (hs : s.Pairwise (· < ·)) (hm : ∀ k, k ∈ s ↔ k ∈ r) (hl : r.length ≤ 4000) : Evf K (tSortSet K ta) ρ (dR s) := fun σ H Q R q => ha σ H _ R fun v H1 e1 r1 => by
  obtain ⟨a, rfl, h1⟩ := r1.row
  refine ⟨a, r, rfl, sql h1, hl, fun ms q' o p p1 p2 p3 p4 => ?_⟩
  have e : ms = s := rising_one p1 hs fun k => (p2 k).trans (hm k).symm
  subst e
  have e2 : Same H (upd H1 q' o) := e1.trans (same_upd p3)
  refine q _ _ [p] (e2.trans (same_upd p4)) (Ow.row upd_same) fun c m => ?_
  rw [List.mem_singleton.mp m]
  exact e2.free p4
/-- x.insert(i, x.pop(k)) -/
theorem does_insPop {K : Frg} {W : WX} {ρ : List Sl} {i : Nat} {tk tk2 : TE} {r : List Int} {n m : Int} (hs : ρ[i]? = some (.ow (dR r))) (hk : Evr K tk (er ρ) (.int n)) (hk2 : Evr K tk2 (er ρ) (.int m)) (h0 : 0 ≤ n) (h1 : n ≤ 1000000) (m0 : 0 ≤ m) (m1 : m < r.length) (hl : r.length < 1000000) :
    Does K W (tDrop (tBM K "list" rInsert (tVar i) (tCons tk (tCons (tBM K "list" rPopAt (tVar i) (tCons tk2 tNil)) tNil)))) ρ (.nx ((kill ρ).set i (.ow (dR ((r.eraseIdx m.toNat).take n.toNat ++ [gi r m] ++ (r.eraseIdx m.toNat).drop n.toNat))))) := fun Z σ H D R q => by
  obtain ⟨Fs, O⟩ := R.ex
  obtain ⟨a, xs, F, hσ, ha, hx, hn, hF⟩ := O.lst hs
  have ex := (hx.rp (K := K)).ints
  subst ex
  refine ⟨.ref a, hσ, tyl ha, hk σ H _ R.relE fun y H1 e1 r1 => ?_⟩
  obtain rfl := r1.int_eq
  refine ⟨.ref a, hσ, tyl (e1 _ _ ha), hk2 σ H1 _ (R.relE.mono e1) fun y2 H2 e2 r2 => ?_⟩
  obtain rfl := r2.int_eq
  have ha2 := e2 _ _ (e1 _ _ ha)
  have hx2 : seqIndex? m (r.map V.int).length = some m.toNat := (ixN_seq (ixN_nat m0 (by rw [List.length_map]; exact m1))).1
  have hg : (r.map V.int)[m.toNat]? = some (.int (gi r m)) := by
    have hmt : m.toNat < r.length := by omega
    rw [List.getElem?_map, List.getElem?_eq_getElem hmt]
    unfold gi
    rw [List.getD_eq_getElem?_getD, List.getElem?_eq_getElem hmt]
    rfl
  refine ⟨a, _, m, m.toNat, _, rfl, rfl, ha2, by omega, by omega, hx2, hg, ?_⟩
  refine ⟨a, _, n, _, rfl, rfl, upd_same, ?_, h0, by omega, q Z _ _ (Same.refl Z) ?_⟩
  · have := List.length_eraseIdx_le (r.map V.int) m.toNat
    rw [List.length_map] at this
    exact sz_lt (by omega)
  refine R.chg hs O (F' := [a]) (fun b hb o ho => ?_) ⟨_, hσ, ?_⟩ fun b m => ?_
  · have hba : b ≠ a := fun z => hb (by rw [hF, z]; exact List.mem_cons_self)
    rw [upd_ne hba, upd_ne hba]
    exact e2 _ _ (e1 _ _ ho)
  · refine Ow.row ?_
    rw [upd_same, erase_mapI, List.map_append, List.map_append, List.map_take, List.map_drop]; rfl
  · rw [hF, List.mem_singleton.mp m]; exact .inl List.mem_cons_self
end Pur

set_option Elab.async false
set_option linter.all false
set_option maxRecDepth 100000
set_option maxHeartbeats 4000000
namespace Pur
open PySem PySem.Spec PyProof.Rows L2
/-! ## a comprehension whose element may raise -/
abbrev blkE (X : Cx) (s : Shared) (H : Hp) (scope : Scope) (ce : Env) (fp : List Addr) : Cx := { X.blk s H scope ce fp with xe := notedBy (model X.prog X.w) X.A ce (CompFails (model X.prog X.w) X.A X.xe ce) }
theorem inv_xe {X : Cx} {xe : Value → Shared → Prop} {pins : List (Addr × Obj)} {σ : L2.St} {H : Hp} {s : Shared} (I : Inv X pins σ H s) : Inv { X with xe := xe } pins σ H s :=
  ⟨⟨I.ok.mod, I.ok.kind, I.ok.glob, I.ok.blt, I.ok.above, I.ok.inj, I.ok.has, I.ok.cab, I.ok.hd, I.ok.frames, I.ok.stk, I.ok.exf, I.ok.bs, I.ok.bsz, I.ok.noex, I.ok.exfs, I.ok.funs, I.ok.frf⟩, I.os, I.bare, I.base, I.loc, I.cell, I.free, I.freeC, I.pin, I.hok, I.len⟩
/-- noted by the frame, wherever it came from -/
theorem sky_hold {M : Model} {A : Around} {E1 : Value → Shared → Prop} {s : Shared} {B : Heap} {env : Env} {outer : List Env} {L a : Addr} {Z : Obj → Prop} {Q : Unit → Shared → Prop} (hZ : HandSPX.Steady Z) (hfr : A.frames = some (env :: outer)) (hf : env.frame = some L)
    (x : Sky B (env :: outer) a Z L s.heap) (q : ∀ h1, HandSPX.HeldZ B (env :: outer) a Z L h1 → s.heap.UpToSlots h1 → Q () { s with heap := h1 }) : wpAny M A (noteFrame (.ref a) env) Q E1 s := by
  rcases x with ⟨b1, b2, b3, oe, vs, b4, b5, b6, b7⟩ | fl | hh
  · exact HandSPX.look_newZ hZ hfr b3 hf b4 b1 b2 b6 b7 b5 q
  · exact HandSPX.looks_onZ hZ hfr hf fl q
  · exact HandSPX.againZ hf hh.2.2.2 (q s.heap hh (Heap.UpToSlots.refl _))
section
variable {X : Cx} {W : WX} {pins pin2 : List (Addr × Obj)} {σ σ2 : L2.St} {H H2 : Hp} {s s2 s' : Shared} {scope : Scope} {ce : Env} {fp : List Addr} {u : Value}
/-- what a call in the element lets out goes on from the def -/
theorem blk_raises (tk : Takes X W) (hst : X.stack = X.env :: X.outer) (hfr : X.env.frame = some X.env.locals) (I : Inv X pins σ H s) (fpo : ∀ b ∈ fp, FpOk X pins H b ∧ b < s.heap.objs.size) (cL : ce.locals = s.heap.objs.size) (cF : ce.frame = X.env.frame)
    (J : Inv (X.blk s H scope ce fp) pin2 σ2 H2 s2) (c : L2.CX X.prog X.w X.stack H2 s2 (fun cls d H' => W cls d σ H') u s') : notedBy (model X.prog X.w) X.A ce (CompFails (model X.prog X.w) X.A X.xe ce) u s' := by
  have fl0 : ∃ (a : Addr) (B : Heap) (Z : Obj → Prop), u = .ref a ∧ HandSPX.TracedZ s'.heap B a Z .none := by
    obtain ⟨a, B, H', cls, d, e, fl, _⟩ := c
    exact ⟨a, B, _, e, fl.2.2.2⟩
  obtain ⟨a, B, sI, pin3, σ3, H3, cls, d, rfl, J3, nb, up, sky, na, os, ag, w⟩ := XE.of_call (X := X.blk s H scope ce fp) (W := fun cls d _ H' => W cls d σ H') J (fun _ _ _ h => h) c
  have K1 : Inv X pins σ H3 sI := I.call' (ch := fp) J3.os J3.base J3.hok J3.bare fun b hb => ⟨(fpo b hb).1.2.2.2.1, (fpo b hb).1.2.1, (fpo b hb).1.2.2.2.2.1, (fpo b hb).1.2.2.2.2.2⟩
  have nC : H3 ce.locals = none := J3.free
  have okC : FpOk X pins H3 ce.locals := I.fpOk (Nat.le_of_eq cL.symm) nC
  obtain ⟨mC, hmC, _⟩ := J3.loc
  have hmC : sI.heap.Ns ce.locals mC := hmC
  have single : ∀ {b : Addr}, b ≠ ce.locals → b ∉ [ce.locals] := fun h z => h (List.mem_singleton.mp z)
  have K2 : Inv X pins σ H3 { sI with heap := PySem.W.hideAll sI.heap [ce.locals] } := K1.turned (t' := sI.toks) (fun b o hb e => PySem.W.hideAll_get [ce.locals] e (single hb)) okC.1 okC.2.1 okC.2.2.2.1 okC.2.2.2.2.1 okC.2.2.2.2.2
  have hidden : ∀ (h : Heap) (b : Addr) (o : Obj), (PySem.W.hideAll h [ce.locals]).get? b = some o → b ≠ ce.locals := fun h b o e z => by
    rw [PySem.W.hideAll_none [ce.locals] (by rw [z]; exact List.mem_singleton.mpr rfl)] at e
    cases e
  have framesA : X.A.frames = some (X.env :: X.outer) := by rw [I.ok.frames, hst]
  show wpAny (model X.prog X.w) X.A (noteFrame (.ref a) ce) _ _ s'
  rw [noteFrame_env _ cF]
  have sky : Sky B (X.env :: X.outer) a (Zc cls d) X.env.locals s'.heap := by
    have e : X.stack = X.env :: X.outer := hst
    rw [← e]
    rcases sky with z | z | z
    · exact .inl z
    · exact .inr (.inl z)
    · refine .inr (.inl ?_)
      exact False.elim (by
        obtain ⟨h1, h2, h3, oe, vs, T, oT, ts, k1, k2, k3, k4, k5, k6, k7, k8, k9⟩ := z
        obtain ⟨a2, B2, Z2, e1, oe', vs', T', oT', ts', l1, l2, l3, l4, l5, l6, l7, l8, l9⟩ := fl0
        cases e1
        rw [k1] at l1
        cases l1
        rw [k3] at l3
        cases l3
        rw [k4] at l4
        cases l4
        rw [k7] at l7
        cases l7
        rw [k8] at l8
        cases l8
        rw [k9] at l9
        cases l9)
  refine sky_hold Zc.steady framesA hfr sky fun h1 held up1 => ?_
  obtain ⟨g1, g2, g3, oe, vs, T, oT, ts, k1, k2, k3, k4, k5, k6, k7, k8, k9⟩ := held
  have n1 : h1.Ns ce.locals mC := by
    obtain ⟨oC, es, ep, e1, e2, e3⟩ := hmC
    obtain ⟨sl, f1⟩ := up _ _ e1 fun vs z => by rw [e2] at z; cases z
    obtain ⟨sl2, f2⟩ := up1 _ _ f1 fun vs z => by rw [show oC.data = _ from e2] at z; cases z
    exact ⟨_, es, ep, f2, e2, e3⟩
  refine ⟨mC, n1, fun h2 m2 n2 sb => ?_⟩
  have notRec : ∀ b o vs, h1.get? b = some o → o.data = .fields vs → b ≠ ce.locals := fun b o vs e1 e2 z => by
    obtain ⟨oC, es, ep, f1, f2, _⟩ := n1
    rw [z, f1] at e1
    cases e1
    rw [f2] at e2
    cases e2
  have aC := notRec _ _ _ k1 k3
  have TC := notRec _ _ _ k7 k8
  have held2 : HandSPX.HeldZ (PySem.W.hideAll B [ce.locals]) (X.env :: X.outer) a (Zc cls d) X.env.locals h2 := by
    refine ⟨fun b o e => (sb.2 b (hidden B b o e)).trans (g1 b o (PySem.W.of_hideAll _ e)), ?_, Heap.FunFrames.sameBut sb n2 (funFrames_none g3 fun L hL => ?_), oe, vs, T, oT, ts, (sb.2 a aC).trans k1, k2, k3, k4, ?_, k6, (sb.2 T TC).trans k7, k8, k9⟩
    · cases e : (PySem.W.hideAll B [ce.locals]).get? a with
      | none => rfl
      | some o =>
        have := PySem.W.of_hideAll _ e
        rw [g2] at this
        cases this
    · cases e : (PySem.W.hideAll B [ce.locals]).get? L with
      | none => rfl
      | some o =>
        have := PySem.W.of_hideAll _ e
        rw [(g3.mem hL).1] at this
        cases this
    · cases e : (PySem.W.hideAll B [ce.locals]).get? T with
      | none => rfl
      | some o =>
        have := PySem.W.of_hideAll _ e
        rw [k5] at this
        cases this
  unfold PySem.passOn
  refine wpAny_bind (wpAny_field (show h2.get? a = some oe from (sb.2 a aC).trans k1) k3 k4 ?_)
  rw [if_neg (show ¬ ((Value.ref T == Value.none) = true) from by simp), cF, hfr]
  refine wpAny_bind (HandSPX.setFlight_onZ held2 fun h3 held3 up3 => ?_)
  refine wpAny_throw ?_
  refine tk _ _ ⟨a, PySem.W.hideAll B [ce.locals], { sI with heap := PySem.W.hideAll sI.heap [ce.locals] }, pins, σ, H3, cls, d, rfl, K2, fun b o e hb => ?_, fun b o e nf => ?_, .inr (.inr (by rw [hst]; exact held3)), na, os, ag, w⟩
  · exact PySem.W.hideAll_get [ce.locals] (nb b o (PySem.W.of_hideAll _ e) hb) (single (hidden _ b o e))
  · obtain ⟨sl, f1⟩ := up b o (PySem.W.of_hideAll _ e) nf
    obtain ⟨sl2, f2⟩ := up1 b _ f1 nf
    obtain ⟨sl3, f3⟩ := up3 b _ ((sb.2 b (hidden _ b o e)).trans f2) nf
    exact ⟨sl3, f3⟩
end
/-- [e(x) for x in ..], e may raise; te by the slots at its begin -/
def tLcX (wi : TI) (g : TG) (tt : TT) (te : L2.St → TE) (vs : List Nat) : TE := fun σ H Q => tLc wi g tt (te σ) vs σ H Q
section
variable {X : Cx} {W : WX} {i : Nat} {y : Str} {py : Pos} {elt tg iter : Expr} {ifs : List Expr} {scope : Scope} {own : List (Str × Nat)} {pos spos : Pos} {wi : TI} {g : TG} {tt : TT} {te : L2.St → TE}
/-- y = [e(x) for x in ..] -/
theorem ps_setLcX (tk : Takes X W) (hst : X.stack = X.env :: X.outer) (hfr : X.env.frame = some X.env.locals) (hc : X.calm = true) (nd : X.N.Nodup) (hy : X.N[i]? = some y) (hyl : X.env.scope.names.lookup y = some .local)
    (sw : swapsWith (.ListComp elt [⟨tg, iter, ifs, 0⟩] scope pos) (some (.Name y py)) spos.line X.env = pure true) (hi : PI X tg iter wi) (bk : BlkOk X.N X.env.scope scope own)
    (hg : ∀ (s : Shared) (H : Hp) (C : Addr) (cl : List (Str × Addr)) (fp : List Addr), PG (blkE X s H scope (compEnvC scope cl C X.env) fp) tg g)
    (ht : ∀ (s : Shared) (H : Hp) (C : Addr) (cl : List (Str × Addr)) (fp : List Addr), PTs (blkE X s H scope (compEnvC scope cl C X.env) fp) ifs tt)
    (he : ∀ (σ0 : L2.St) (s : Shared) (H : Hp) (C : Addr) (cl : List (Str × Addr)) (fp : List Addr), (∀ σ2, PassesAt (L2.CX X.prog X.w) (blkE X s H scope (compEnvC scope cl C X.env) fp) σ2 (fun cls d H' => W cls d σ0 H')) →
      PE (blkE X s H scope (compEnvC scope cl C X.env) fp) elt (te σ0)) (plain : ∀ x, foldedSetIterable iter X.env x = pure x := by intro _; rfl) :
    PS X (.Assign [.Name y py] (.ListComp elt [⟨tg, iter, ifs, 0⟩] scope pos) spos) (tAsg (tLcX wi g tt te (own.map (·.2))) (gName i)) := by
  refine ⟨fun pins s σ H D0 I h => ?_⟩
  rw [exec_Assign_Name_used _ _ _ _ sw]
  refine wpAny_bind (wpAny_standAt (wpAny_bind ?_))
  show wpAny _ X.A (do let _ ← comprehension (.ListComp elt [⟨tg, iter, ifs, 0⟩] scope pos) scope X.env _ (newList []) false (eval iter X.env) (some (assign (.Name y py) X.env))) _ _ s
  have h : tLc wi g tt (te σ) (own.map (·.2)) σ H (fun x H1 => gName i x σ H1 D0.nx) := h
  have captured : ∀ z ∈ scope.names, z.2 = .free → ∃ c, X.env.cells.lookup z.1 = some c := fun z hz e => by
    rcases bk.free z hz e with k | k
    · exact I.ok.has _ (.inl k)
    · exact I.ok.has _ (.inr k)
  refine wpAny_bind (wpAny_mono (comprehension_at (use := some (assign (.Name y py) X.env)) (Q := fun _ s' => SP X pins D0 .next s') rfl plain (closure_ok captured) bk.kind (fun z hz e => by rw [bk.uniq z hz, e])
    (thn (hi.run pins s σ H _ I h) fun xv s1 hx => thn hx fun itv s2 hit => ?_)) (fun _ s' hq => wpAny_pure (wpAny_pure hq)) fun _ _ e => e)
  obtain ⟨it, fp, tn, J, H2, rfl, I2, T, st2, fo2, q⟩ := hit
  refine wpAny_newObj_type (newEnv_comp ?_) (by show 0 ≤ sizeLine; decide)
  generalize hD : s2.heap.objs.size = D
  obtain ⟨Wm, ⟨m0, w0⟩, turn⟩ := q D (I2.hok.fresh (Nat.le_of_eq hD))
  generalize hs3 : ({ s2 with heap := s2.heap.push { cls := .type "list", data := .seq ([] : List Value).toArray } } : Shared) = s3
  have heap3 : s3.heap = s2.heap.push { cls := .type "list", data := .seq ([] : List Value).toArray } := by rw [← hs3]
  have I3 : Inv X pins σ (upd H2 D (.lst [])) s3 := by
    rw [← hs3]
    exact I2.laid (t' := s2.toks) (fun b o e => Heap.get?_push_of_some _ e) (Nat.le_of_eq hD) ⟨Nat.zero_le _, [], 0, .nil, by rw [← hD]; exact Heap.get?_push_size _ rfl⟩
  have fo3 : ∀ b ∈ fp, FpOk X pins (upd H2 D (.lst [])) b ∧ b < s3.heap.objs.size := fun b hb => by
    obtain ⟨o, e, _⟩ := T.obj _ _ st2 b hb
    have hlt := Heap.lt_size e
    refine ⟨⟨?_, (fo2 b hb).2⟩, by rw [heap3, Heap.size_push]; exact Nat.lt_succ_of_lt hlt⟩
    rw [upd_ne (by rw [← hD]; exact Nat.ne_of_lt hlt)]
    exact (fo2 b hb).1
  have st3 : tn 0 s3.heap := T.keep _ _ _ st2 fun b _ o e => by rw [heap3]; exact Heap.get?_push_of_some _ e
  have I4 := block_start I3 bk nd fo3
  have pg := hg s3 (upd H2 D (.lst [])) s3.heap.objs.size (cellsFrom (s3.heap.objs.size + 1) scope.names (cloFrom X.env.cells scope.names [])) fp
  have pt := ht s3 (upd H2 D (.lst [])) s3.heap.objs.size (cellsFrom (s3.heap.objs.size + 1) scope.names (cloFrom X.env.cells scope.names [])) fp
  have pe := he σ s3 (upd H2 D (.lst [])) s3.heap.objs.size (cellsFrom (s3.heap.objs.size + 1) scope.names (cloFrom X.env.cells scope.names [])) fp
  have pass := fun (pin2 : List (Addr × Obj)) (σ2 : L2.St) (H2' : Hp) (sx sy : Shared) (u : Value) => blk_raises (u := u) (W := W) (σ2 := σ2) (pin2 := pin2) (H2 := H2') (s2 := sx) (s' := sy) (ce := compEnvC scope (cellsFrom (s3.heap.objs.size + 1) scope.names (cloFrom X.env.cells scope.names [])) s3.heap.objs.size X.env) (scope := scope) tk hst hfr I3 fo3 rfl rfl
  show codeAny _ _ (.compStart (.ListComp elt [⟨tg, iter, ifs, 0⟩] scope pos) 0 (.ref it) (.ref D) (compEnvC scope (cellsFrom (s3.heap.objs.size + 1) scope.names (cloFrom X.env.cells scope.names [])) s3.heap.objs.size X.env))
    (compEnds (model X.prog X.w) X.A X.xe (some (assign (.Name y py) X.env)) (fun _ s' => SP X pins D0 .next s') (.ref D) (compEnvC scope (cellsFrom (s3.heap.objs.size + 1) scope.names (cloFrom X.env.cells scope.names [])) s3.heap.objs.size X.env)) { s3 with heap := pushCells (s3.heap.push { cls := .type "dict", data := .dict #[] }) scope.names }
  have clear3 : ∀ b ∈ fp, (upd H2 D (.lst [])) b = none := fun b hb => (fo3 b hb).1.1
  generalize hce : compEnvC scope (cellsFrom (s3.heap.objs.size + 1) scope.names (cloFrom X.env.cells scope.names [])) s3.heap.objs.size X.env = ce at I4 pg pt pe pass ⊢
  have cL : ce.locals = s3.heap.objs.size := by subst hce; rfl
  generalize hH3 : upd H2 D (.lst []) = H3 at I3 I4 pg pt pe pass w0 clear3 fo3
  generalize hs4 : ({ s3 with heap := pushCells (s3.heap.push { cls := .type "dict", data := .dict #[] }) scope.names } : Shared) = s4 at I4 ⊢
  have I4 : Inv (blkE X s3 H3 scope ce fp) [] (wipe σ (own.map (·.2))) H3 s4 := inv_xe I4
  have pe := pe fun σ2 pin2 H' sx u sy Jx cx => pass pin2 σ2 H' sx sy u (inv_xe (xe := fun _ _ => False) Jx) cx
  have st4 : tn 0 s4.heap := T.keep _ _ _ st3 fun b _ o e => by rw [← hs4]; exact pushCells_keeps _ _ _ _ (Heap.get?_push_of_some _ e)
  have stat : ∀ {σ' : L2.St} {H' : Hp} {s' : Shared}, Inv (blkE X s3 H3 scope ce fp) [] σ' H' s' → (∀ b ∈ fp, H' b = none) → ∀ b ∈ fp, FpOk (blkE X s3 H3 scope ce fp) [] H' b := fun {σ' H' s'} I' hn b hb =>
    ⟨hn b hb, (I'.ok.exf b hb).1, I'.ok.exfs b hb, .inl hb, fun x c e => (I'.ok.exf b hb).2 x c e, fun p hp => absurd (show p ∈ ([] : List (Addr × Obj)) ++ [] from hp) (by simp)⟩
  have loop : codeAny (model X.prog X.w) X.A (.compLoop (.ListComp elt [⟨tg, iter, ifs, 0⟩] scope pos) 0 (.ref it) (.ref D) ce) (compEnds (model X.prog X.w) X.A X.xe (some (assign (.Name y py) X.env)) (fun _ s' => SP X pins D0 .next s') (.ref D) ce) s4 := by
    refine compLoop_any (fun n s' => ∃ i H', Inv (blkE X s3 H3 scope ce fp) [] (wipe σ (own.map (·.2))) H' s' ∧ tn i s'.heap ∧ (∀ b ∈ fp, H' b = none) ∧ Wm i n H') ?_ m0 ⟨0, H3, I4, st4, clear3, w0⟩
    rintro n s5 ⟨k, H5, I5, st5, n5, w5⟩
    rcases turn k n H5 w5 with ⟨stop, last⟩ | ⟨go, Nx, hNx, step⟩
    · refine thnF (T.done (blkE X s3 H3 scope ce fp) rfl rfl rfl hc k [] s5 _ H5 (fun _ _ => False) I5 (stat I5 n5) st5 stop) fun r s6 ⟨hr, I6⟩ => ?_
      subst hr
      have I7 : Inv X pins σ H5 s6 := I3.call' (ch := fp) I6.os I6.base I6.hok I6.bare fun b hb => ⟨(fo3 b hb).1.2.2.2.1, (fo3 b hb).1.2.1, (fo3 b hb).1.2.2.2.2.1, (fo3 b hb).1.2.2.2.2.2⟩
      have nC : H5 ce.locals = none := I6.free
      obtain ⟨m, hn, _⟩ := I6.loc
      have hn : s6.heap.Ns ce.locals m := hn
      obtain ⟨f0, f1, f2, f3, f4, f5⟩ := I3.fpOk (Nat.le_of_eq cL.symm) nC
      show wpAny _ _ (assign (.Name y py) X.env (.ref D)) _ _ _
      refine wpAny_assign_Name (store_ok2 (v := V.ref D) I7 nd hy (.inl hyl) rfl (fun s8 I8 ⟨a, sb, ha⟩ => ?_) (.inr hyl))
      have off : ce.locals ≠ a := by
        rcases ha with z | z
        · rw [z]; exact f1
        · exact fun e => f4 y a z e.symm
      refine ⟨m, hn.sameBut sb off, fun h3 sb3 => ?_⟩
      exact ⟨_, H5, I8.turned (t' := s8.toks) (fun b o hb e => (sb3.2 b hb).trans e) f0 f1 f3 f4 f5, last⟩
    · refine thnF (T.item (blkE X s3 H3 scope ce fp) rfl rfl rfl hc k [] s5 _ H5 (fun _ _ => False) I5 (stat I5 n5) st5 go) fun r s6 ⟨u, hr, h6⟩ => ?_
      subst hr
      refine thnF h6 fun _ s7 ⟨x, H7, I7, r7, y7, st7, n7⟩ => ?_
      have P7 := I7.pinned (stat I7 n7) (T.obj _ _ st7)
      refine thn (pg.run _ s7 _ H7 x u _ P7 r7 (step x H7 y7)) fun _ s8 ⟨σ8, H8, I8, hw8, q8⟩ => ?_
      refine thn (pt.run _ s8 σ8 H8 _ I8 q8) fun b s9 ⟨H9, I9, q9⟩ => ?_
      have fin : ∀ {s' : Shared} {H' : Hp}, Inv (blkE X s3 H3 scope ce fp) ([] ++ pinsAt fp s7.heap) σ8 H' s' → Nx H' → ∃ m, m < n ∧ ∃ i H', Inv (blkE X s3 H3 scope ce fp) [] (wipe σ (own.map (·.2))) H' s' ∧ tn i s'.heap ∧ (∀ b ∈ fp, H' b = none) ∧ Wm i m H' := fun {s' H'} I' nx => by
        obtain ⟨m', hm, w'⟩ := hNx H' nx
        have pinned : ∀ b ∈ fp, ∀ o, s7.heap.get? b = some o → s'.heap.get? b = some o ∧ H' b = none := fun b hb o e =>
          let z := I'.pin (b, o) (List.mem_append_right _ (List.mem_append_right _ (mem_pinsAt hb e)))
          ⟨z.1, z.2.1⟩
        refine ⟨m', hm, k + 1, H', (I'.unpinned (pins := [])).weak (by rw [← hw8, wipe_length]) (fun j v e => ?_), T.keep _ _ _ st7 fun b hb o e => (pinned b hb o e).1, fun b hb => ?_, w'⟩
        · rw [← hw8] at e
          exact (wipe_some e).1
        · obtain ⟨o, e, _⟩ := T.obj _ _ st7 b hb
          exact (pinned b hb o e).2
      cases b with
      | false =>
        simp only [Bool.false_eq_true, if_false] at q9 ⊢
        exact fin I9 q9
      | true =>
        simp only [if_true] at q9 ⊢
        refine thn (pe.run _ s9 σ8 H9 _ I9 q9) fun z s10 ⟨yv, H10, I10, r10, acc, hD10, hz10, nx⟩ => ?_
        exact app_ok (X := blkE X s3 H3 scope ce fp) I10 hD10 hz10 r10 fun s11 I11 => fin I11 nx
  exact codeAny_compStart_list loop (T.self X.A 0 _ _ _ st4 loop)
end
end Pur

set_option Elab.async false
set_option linter.all false
set_option maxRecDepth 100000
set_option maxHeartbeats 4000000
namespace Pur
open PySem PySem.Spec PyProof.Rows L2
section
variable {K : Frg} {W : WX} {R : List PyData → Except Addr PyData → Prop} {α : Type} {c : α → PyData} {xs : List α} {tl : TE} {ta : TA} {j : Nat}
theorem evf_lcX {W' : WX} {ρ : DE} {as : α → List PyData} (g : α → PyData) (hl : Evr K tl ρ (.list (xs.map c))) (hz : xs.length ≤ 1000000) (ha : ∀ x ∈ xs, Eva K ta (ρ.set j (some (c x))) (as x)) (hR : ∀ x ∈ xs, R (as x) (.ok (g x))) :
    Evf K (tLcX (iList K tl) (gName j) tYes (fun σ0 => tCallS (spOf K R) (fun _ cls d H => W' cls d σ0 H) ta) [j]) ρ (.list (xs.map g)) := fun σ H Q Re q =>
  Evf.cast (evf_lcL (te := tCallS (spOf K R) (fun _ cls d H => W' cls d σ H) ta) (fun _ => true) g hl hz (fun _ _ => et_yes) fun x hx _ => evf_callS (ha x hx) (hR x hx)) (by rw [List.filter_eq_self.mpr fun _ _ => rfl]) σ H Q Re q
/-- the element at n raises -/
theorem does_lcXx {ρ : List Sl} {g' : TG} {as : α → List PyData} {cc : Addr} (g : α → PyData) (n : Nat) (y : α) (hn : xs[n]? = some y) (hl : Evr K tl (er ρ) (.list (xs.map c))) (hz : xs.length ≤ 1000000) (ha : ∀ x ∈ xs, Eva K ta ((er ρ).set j (some (c x))) (as x))
    (hR : ∀ i x, i < n → xs[i]? = some x → R (as x) (.ok (g x))) (bad : R (as y) (.error cc)) : Does K W (tAsg (tLcX (iList K tl) (gName j) tYes (fun σ0 => tCallS (spOf K R) (fun _ cls d H => W cls d σ0 H) ta) [j]) g') ρ (.ex cc ρ) := fun Z σ H D Rr q => hl σ H _ Rr.relE fun v H1 e1 r1 => by
  obtain ⟨a, vs, rfl, h1, k1⟩ := r1.list
  have hlen := k1.length
  rw [List.length_map] at hlen
  have hnl : n < xs.length := (List.getElem?_eq_some_iff.mp hn).1
  refine ⟨a, rfl, ⟨vs, sql h1⟩, fun D' hD => ?_⟩
  refine lc_list (xs := vs) (fun i H' => i ≤ n ∧ Cw H1 D' (((xs.take i).filter fun _ => true).map g) H') ⟨Nat.zero_le _, Cw.start hD⟩ (fun i H' _ w => sql (w.2.2.1 a _ h1)) (fun i x H' hi w => ?_) fun H' w => absurd w.1 (by omega)
  obtain ⟨hin, w⟩ := w
  have hi2 : i < xs.length := by
    rw [← hlen]
    exact (List.getElem?_eq_some_iff.mp hi).1
  obtain ⟨d, hd, rd⟩ := k1.getV hi
  rw [List.getElem?_map, List.getElem?_eq_getElem hi2] at hd
  have hm : xs[i] ∈ xs := List.getElem_mem hi2
  have ed : c xs[i] = d := Option.some.inj hd
  subst ed
  refine ⟨wipe1 _ _ _, ?_⟩
  by_cases hlt : i < n
  · refine w.turn (d := g xs[i]) (b := true) ((Rr.relE.mono e1).comp rd j) (fm_len hi2 hz) et_yes (fun _ => evf_callS (ha _ hm) (hR i _ hlt (List.getElem?_eq_getElem hi2))) fun H2 w2 => ⟨hlt, ?_⟩
    rw [fm_succ (List.getElem?_eq_getElem hi2)]
    exact w2
  · have ein : i = n := by omega
    subst ein
    rw [List.getElem?_eq_getElem hi2] at hn
    have ey : xs[i] = y := Option.some.inj hn
    have hs := w.2.1
    have hrel := ((Rr.relE.mono e1).comp rd j).mono hs
    refine et_yes _ H' _ hrel fun H2 e2 => ?_
    simp only [if_true]
    refine ha _ hm _ H2 _ (hrel.mono e2) fun us H3 e3 r3 => ?_
    exact ⟨_, .error cc, r3, by rw [ey]; exact bad, fun H4 e4 => q Z σ H4 (Same.refl Z) (Rr.grow ((((e1.trans hs).trans e2).trans e3).trans e4))⟩
end
section
variable {K : Frg} {W : WX} {Z H H1 : Hp} {ρ : List Sl} {σ : L2.St} {tl : TE} {tb : TS} {d : PyData} {j : Nat}
/-- a new thing stays from now on -/
theorem RelS.stay (R : RelS K Z ρ σ H) {v : V} {F : List Addr} (e1 : Same H H1) (w : Ow H1 v d F) (f : ∀ a ∈ F, H a = none) : ∃ Z1, Same Z Z1 ∧ RelS K Z1 ρ σ H1 ∧ Rp K Z1 v d := by
  have hz : Same Z (fun b => if b ∈ F then H1 b else Z b) := fun a o q => by
    show (if a ∈ F then H1 a else Z a) = some o
    by_cases m : a ∈ F
    · rw [R.ext.free (f a m)] at q
      cases q
    · rw [if_neg m]
      exact q
  have hzH : Same (fun b => if b ∈ F then H1 b else Z b) H1 := fun a o q => by
    have q' : (if a ∈ F then H1 a else Z a) = some o := q
    by_cases m : a ∈ F
    · rw [if_pos m] at q'
      exact q'
    · rw [if_neg m] at q'
      exact e1 _ _ (R.ext a o q')
  refine ⟨_, hz, ?_, w.rpz fun a m => if_pos m⟩
  obtain ⟨Fs, O⟩ := R.ex
  refine ⟨R.len, hzH, Fs, fun i s h => ((O.ok i s h).grow e1).more hz, O.dis, fun i a m => ?_, O.out⟩
  show (if a ∈ F then H1 a else Z a) = none
  by_cases m2 : a ∈ F
  · obtain ⟨o, ho⟩ := O.dom i a m
    rw [f a m2] at ho
    cases ho
  · rw [if_neg m2]
    exact O.fr i a m
/-- over a new list, left by a return at the turn n -/
theorem does_forf_rt {α : Type} {cd : α → PyData} {xs : List α} (hk : Evf K tl (er ρ) (.list (xs.map cd))) (S : Nat → List Sl) (n : Nat) (y : α) (hn : xs[n]? = some y) (h0 : ρ.set j .no = S 0)
    (hs : ∀ i x, i < n → xs[i]? = some x → ∃ ρ', Does K W tb ((S i).set j (.fr (cd x))) (.nx ρ') ∧ ρ'.set j .no = S (i + 1)) (hr : Does K W tb ((S n).set j (.fr (cd y))) (.rt d)) : Does K W (tFor (iList K tl) (gName j) tb) ρ (.rt d) := fun Z σ H D R q => hk σ H _ R.relE fun v H1 F e1 w f => by
  obtain ⟨Z1, hz, R1, r1⟩ := R.stay e1 w f
  obtain ⟨a, vs, rfl, ha, hx⟩ := r1.list
  have hlen := hx.length
  rw [List.length_map] at hlen
  have hnl : n < xs.length := (List.getElem?_eq_some_iff.mp hn).1
  refine ⟨a, rfl, ⟨vs, sql (R1.ext _ _ ha)⟩, ?_⟩
  refine for_list (K := K) (a := a) (xs := vs) (fun i σ H => i ≤ n ∧ ∃ Z', Same Z1 Z' ∧ RelS K Z' (S i) σ H) ⟨Nat.zero_le _, Z1, Same.refl Z1, h0 ▸ R1.no j⟩ (fun i σ H _ ⟨_, Z', e, R'⟩ => sql (R'.ext _ _ (e _ _ ha))) (fun i x σ H hi ⟨hin, Z', e, R'⟩ => ?_) fun σ H ⟨hin, _⟩ => absurd hin (by omega)
  obtain ⟨d', hd, rd⟩ := hx.getV hi
  rw [List.getElem?_map] at hd
  cases ex : xs[i]? with
  | none => rw [ex] at hd; cases hd
  | some z =>
    rw [ex] at hd
    have ed : cd z = d' := Option.some.inj hd
    subst ed
    have R2 := R'.put (Same.refl H) (s' := .fr (cd z)) (F := []) (i := j) ⟨rfl, x, rfl, rd.mono e⟩ fun _ m => nomatch m
    by_cases hlt : i < n
    · obtain ⟨ρ', h1, h2⟩ := hs i z hlt ex
      exact h1 Z' _ H _ R2 fun Z2 σ2 H2 e2 R2 => ⟨hlt, Z2, e.trans e2, h2 ▸ R2.no j⟩
    · have ein : i = n := by omega
      subst ein
      rw [hn] at ex
      have ez := Option.some.inj ex
      subst ez
      exact hr Z' _ H _ R2 fun v H F e2 w f => q v H F ((hz.trans e).trans e2) w fun a m => (hz.trans e).free (f a m)
end
/-! ## lists of texts -/
section
variable {K : Frg} {ρ : DE} {ta tb : TE}
theorem evf_repS {r : List Str} {k : Int} (ha : Evr K ta ρ (dS r)) (hb : Evr K tb ρ (.int k)) (h0 : -1000000000 ≤ k ∧ k ≤ 1000000000) (hl : r.length * k.toNat ≤ 1000000) : Evf K (tOp rMulA ta tb) ρ (dS (List.replicate k.toNat r).flatten) :=
  evf_op ha hb fun H x y Q hx hy q => by
    obtain ⟨a, xs, rfl, h1, k1⟩ := hx.list
    rw [k1.strs] at h1
    refine .inr ⟨a, k, _, rfl, hy.int_eq, h1, by omega, by omega, by rw [List.length_map]; exact sz_le hl, fun p hp => q _ _ [p] (same_upd hp) ?_ fun c m => ?_⟩
    · have e : (List.replicate k.toNat (r.map V.str)).flatten = ((List.replicate k.toNat r).flatten).map V.str := by
        rw [List.map_flatten, List.map_replicate]
      rw [e]
      exact .lst upd_same (OwAll.of_strs _) (fun m => nomatch m)
    · rw [List.mem_singleton.mp m]; exact hp
theorem ev_ixS {r : List Str} {i : Int} (ha : Evr K ta ρ (dS r)) (hb : Evr K tb ρ (.int i)) (h0 : 0 ≤ i) (h1 : i < r.length) : Evr K (tOp (rIx K) ta tb) ρ (.str (r.getD i.toNat "")) := by
  refine ev_ixL ha hb ?_
  rw [atI_map, atI_in r "" h0 h1]
  rfl
theorem evf_toS {r : List Str} {i : Int} (ha : Evr K ta ρ (dS r)) (hb : Evr K tb ρ (.int i)) (h0 : 0 ≤ i) : Evf K (tSl (rSlA K) ta tNoPart (tPart tb)) ρ (dS (r.take i.toNat)) :=
  evf_slS ha evo_none (evo_some hb) (by
    obtain ⟨k, rfl⟩ := Int.eq_ofNat_of_zero_le h0
    rw [cut_to, Int.toNat_natCast, List.map_take])
theorem evf_fromS {r : List Str} {i : Int} (ha : Evr K ta ρ (dS r)) (hb : Evr K tb ρ (.int i)) (h0 : 0 ≤ i) : Evf K (tSl (rSlA K) ta (tPart tb) tNoPart) ρ (dS (r.drop i.toNat)) :=
  evf_slS ha (evo_some hb) evo_none (by
    obtain ⟨k, rfl⟩ := Int.eq_ofNat_of_zero_le h0
    rw [cut_from, Int.toNat_natCast, List.map_drop])
end
/-! ## a text's parts -/
open TL
theorem spl_size (S : List Nat) : ∀ (l acc : List Nat) (k : Nat), (spl S k acc l).length ≤ l.length + 1 ∧ ∀ p ∈ spl S k acc l, p.length ≤ acc.length + l.length
  | [], acc, k => by
    rw [spl_nil]
    exact ⟨Nat.le_refl _, fun p m => by rw [List.mem_singleton.mp m]; exact Nat.le_refl _⟩
  | c :: r, acc, 0 => by
    cases h : pre S (c :: r) with
    | true =>
      rw [spl_hit h]
      obtain ⟨h1, h2⟩ := spl_size S r [] (S.length - 1)
      refine ⟨by simp only [List.length_cons]; omega, fun p m => ?_⟩
      rcases List.mem_cons.mp m with rfl | m
      · simp
      · have := h2 p m
        simp only [List.length_nil, List.length_cons] at this ⊢
        omega
    | false =>
      rw [spl_miss h]
      obtain ⟨h1, h2⟩ := spl_size S r (acc ++ [c]) 0
      refine ⟨by simp only [List.length_cons]; omega, fun p m => ?_⟩
      have := h2 p m
      simp only [List.length_append, List.length_cons, List.length_nil] at this ⊢
      omega
  | c :: r, acc, k + 1 => by
    show (spl S k acc r).length ≤ _ ∧ ∀ p ∈ spl S k acc r, _
    obtain ⟨h1, h2⟩ := spl_size S r acc k
    refine ⟨by simp only [List.length_cons]; omega, fun p m => ?_⟩
    have := h2 p m
    simp only [List.length_cons]
    omega
theorem split_size {z y : Str} (hy : tl y ≠ []) (hk : y.cps.all (· < 256) = true) : (Txt.split z y).length ≤ z.length + 1 ∧ ∀ p ∈ Txt.split z y, p.length ≤ z.length := by
  have e := split_spl z y hy (kind_ok hk)
  obtain ⟨h1, h2⟩ := spl_size (tl y) (tl z) [] 0
  rw [← e] at h1 h2
  refine ⟨by rw [List.length_map] at h1; rw [len_tl]; exact h1, fun p m => ?_⟩
  have := h2 (tl p) (List.mem_map.mpr ⟨p, m, rfl⟩)
  rw [len_tl, len_tl z]
  simpa using this
end Pur

set_option Elab.async false
set_option linter.all false
set_option maxRecDepth 100000
set_option maxHeartbeats 4000000
namespace Pur
open PySem PySem.Spec PyProof.Rows L2
/-! ## a def that is handed the caught error, called in the suite; it raises nothing -/
/-- its promise, where the error's object is one of G's -/
structure FnE (P : Program) (w : World) (K : Frg) (mg : Str → Option Value) (base : Heap) (k : Nat) (f : Addr) (fd : FuncData) (ps : List Str) (a : Addr) (G : Obj → Prop) (sp : Sp) : Prop where
  len : ∀ vs H Q, sp vs H Q E0 → vs.length = ps.length
  run : ∀ (A : Around) (outer : List Env) (s : Shared) (H : Hp) (args : Args) (us : List Value) (vs : List V) (Q : VK) (oe : Obj), G oe → L2H.RoomH k A → L2H.PinOk outer H s (a, oe) → Env0 P w K mg base A outer s H → BindsTo s fd args (ps.zip us) → Vals vs us → sp vs H Q E0 →
    codeAny (model P w) A (.call (.ref f) args) (CR (L2.CX P w) outer P w H s Q E0) s
section
variable {P : Program} {w : World} {K : Frg} {mg : Str → Option Value} {base : Heap}
theorem fn_e {x qual : Str} {st : Stmt} {f : Addr} {fd : FuncData} {N ps : List Str} {k : Nat} {a : Addr} {G : Obj → Prop} {R : List PyData → Except Addr PyData → Prop} (F : Fun K x qual st f fd) (S : FnScope N ps (defScope st)) (len : ∀ ds o, R ds o → ds.length = ps.length)
    (hok : ∀ ds o, R ds o → ∃ d, o = .ok d)
    (hbody : ∀ (cdv : Value) (A : Around) (outer : List Env) (s : Shared) (H : Hp) (oe : Obj), G oe → L2H.RoomH k (A.deeper (envOfC qual (defScope st) s.heap.objs.size f cdv)) → ∀ ds o, R ds o →
      ∃ t, PSs (L2H.cxH (L2.CX P w) P w K mg base N qual (defScope st) f cdv A outer s H E0 (a, oe)) (defBody st) t ∧ FnDoes K (fun _ _ _ _ => False) t (entry N ds) o) : FnE P w K mg base (k + 1) f fd ps a G (spOf K R) := by
  have lenv : ∀ vs H Q E, spOf K R vs H Q E → vs.length = ps.length := fun vs H Q E h => by
    obtain ⟨ds, o, h1, h2, _⟩ := h
    rw [h1.length]
    exact len ds o h2
  obtain ⟨oc, od, kV, doc, pm, an, cdv, ct, osl, rfl, lk, hcd⟩ := F.ex
  refine ⟨fun vs H Q h => lenv vs H Q _ h, fun A outer s H args us vs Q oe hG hr hpin e0 hb r hsp => ?_⟩
  have hl := lenv _ _ _ _ hsp
  have inK : K.In s.heap := e0.mod.kin.keeps fun b o e => (e0.bs b o e).1
  have noL : s.heap.NoLimit := e0.mod.nolimit.keeps fun b o e => (e0.bs b o e).1
  have kinds : ∀ y ∈ ps.zip us, (defScope st).names.lookup y.1 = some .local ∨ ((defScope st).names.lookup y.1 = some .cell ∧ ((cellsFrom (s.heap.objs.size + 1) (defScope st).names []).lookup y.1).isSome = true) := fun ⟨n, v⟩ hy => by
    rcases S.par n (List.of_mem_zip hy).1 with q | q
    · exact .inl q
    · exact .inr ⟨q, PySem.W.cellsFrom_some _ _ _ (.inl q)⟩
  refine codeAny_call_function hr.depth (inK _ _ lk) rfl S.co S.gen rfl (PySem.W.codeRec_of inK hcd) (hb _ _ _ _ ?_)
  refine wpAny_newFunctionEnv_cells S.kind kinds fun env he s1 x1 => ?_
  subst he
  refine ⟨noL.keeps x1.toInCall.keep, codeAny_func ?_⟩
  obtain ⟨ds, o, h1, h2, h3⟩ := hsp
  obtain ⟨t, ht, hd⟩ := hbody cdv A outer s H oe hG (hr.deeper _) ds o h2
  have I : Inv (L2H.cxH (L2.CX P w) P w K mg base N qual (defScope st) f cdv A outer s H E0 (a, oe)) [] (L2.start N vs) H s1 := L2H.inv_startH S hpin e0 hl r x1
  obtain ⟨d, rfl⟩ := hok ds o h2
  have hq : t { nx := fun _ H' => Q .non H', rt := Q } (L2.start N vs) H := by
    rcases hd with hd | ⟨rfl, ρ', hd⟩
    · exact hd H _ H _ (entry_rel h1) fun v H' F e w' f => h3 v H' F e w' f
    · exact hd H _ H _ (entry_rel h1) fun Z' σ' H' e R' => h3 .non H' [] (e.trans R'.ext) .non fun _ m => nomatch m
  refine wpAny_mono (ht.run [] s1 (L2.start N vs) H _ I hq) (fun fl s' hs => ?_) fun e s' hs => hs
  have fin : ∀ {σ' : L2.St} {H' : Hp} {v : V} {u : Value}, Inv (L2H.cxH (L2.CX P w) P w K mg base N qual (defScope st) f cdv A outer s H E0 (a, oe)) [] σ' H' s' → RelV v u → Q v H' → CE outer P w H s Q u s' :=
    fun {σ' H' v u} J rv q => ⟨v, H', J.os, J.bare, J.base, J.hok, rv, q⟩
  cases fl with
  | brk => exact False.elim hs.choose_spec.choose_spec.2
  | cont => exact False.elim hs.choose_spec.choose_spec.2
  | next =>
    obtain ⟨σ', H', J, q⟩ := hs
    exact fin (v := V.non) (u := Value.none) J rfl q
  | ret u =>
    obtain ⟨v, σ', H', J, rv, q⟩ := hs
    exact fin J rv q
end
section
variable {X : Cx} {k : Nat} {f : Addr} {fd : FuncData} {ps : List Str} {sp : Sp} {x : Str} {q pos : Pos} {e : Expr} {es : List Expr} {t : TA} {a : Addr} {oe : Obj} {G : Obj → Prop}
theorem pe_callE (F : FnE X.prog X.w X.K X.mg X.base k f fd ps a G sp) (hG : G oe) (hr : L2H.RoomH k X.A) (hp : (a, oe) ∈ X.pn) (hg : Gl X x) (hm : X.mg x = some (.ref f)) (hk : PySem.W.keepIn X.K (.ref f) = true) (hb : Binds X.K fd ps [])
    (ha : PA X (e :: es) t) (hdb : (x == ("__debug__" : Str)) = false := by decide) (he : starEach (e :: es) X.env = (false, eval e X.env) :: starEach es X.env := by rfl) (hpl : (backTo pos (starEach es X.env)).any (·.1) = false := by rfl) :
    PE X (.Call (.Name x q) (e :: es) [] pos) (tCall sp [] E0 t) := by
  refine ⟨fun pins s σ H Q I h => ?_⟩
  refine wpAny_Call_Name_kw (ld_glob I hg hm ?_ hdb)
  refine PySem.W.callWith_K (h₀ := X.base) I.ok.mod.kin hk (thn (ha.run pos pins s σ H _ I h) fun us s1 ⟨vs, H1, J, r, h1⟩ => ⟨J.kIn, ?_⟩) he hpl
  have h1 : sp vs H1 Q E0 := by
    have h2 : sp (vs ++ []) H1 Q E0 := h1
    rw [List.append_nil] at h2
    exact h2
  have hl : us.length = ps.length := by rw [← r.length]; exact F.len _ _ _ h1
  have b := hb s1 us J.kIn (by rw [List.append_nil]; exact hl)
  rw [List.append_nil] at b
  obtain ⟨p1, p2, p3, p4, p5⟩ := J.pin (a, oe) (List.mem_append_left _ hp)
  have pin : L2H.PinOk X.stack H1 s1 (a, oe) := ⟨p1, p2, fun hm => (List.mem_cons.mp (J.stkSub a hm)).elim p3 p4, p5⟩
  refine wpAny_call (codeAny_mono (F.run X.A X.stack s1 H1 ⟨us, []⟩ us vs Q oe hG hr pin J.env0 b r h1) fun r s' hq => ?_)
  cases r with
  | error e => exact (cx_no hq).elim
  | ok fl =>
    cases fl with
    | ret u => exact J.after hq
    | next => exact False.elim hq
    | brk => exact False.elim hq
    | cont => exact False.elim hq
/-- isinstance(e, c), e the error that is held -/
theorem call_isP {D : Addr} (C : ExcC X.K D) (hp : (a, oe) ∈ X.pn) (hz : Zc (.ref D) none oe) (hf : ∃ vs, oe.data = .fields vs) : CallR X (.builtin "isinstance") (rIsE X.K D a) := by
  intro pins s σ H xs us Q I r h
  obtain ⟨c, cv, b, rfl, hcv, e, q⟩ := h
  cases r with
  | cons rx rr =>
    cases rr with
    | cons rt rr =>
      cases rr
      cases rx
      have ec := hcv _ rt
      subst ec
      have hget := (I.pin (a, oe) (List.mem_append_left _ hp)).1
      obtain ⟨vs, hv⟩ := hf
      obtain ⟨oc, od, oda, osl⟩ := oe
      obtain ⟨z1, z2⟩ := hz
      dsimp only at z1 z2 hv
      subst z1 z2 hv
      have J : PySem.W.InstAt s.heap a ⟨.ref D, none, .fields vs, osl⟩ D none := ⟨hget, rfl, rfl, trivial⟩
      exact PySem.W.kia_one (PySem.W.handS_kitx_exc C.hg C.hk C.hs C.hd C.ha C.hn C.ht C.hm) I.kIn J e (fun z => nomatch z) fun tk => ⟨.bl b, H, I.kept (t' := tk) fun _ _ z => z, rfl, q⟩
end
theorem roomE {k : Nat} {A : Around} {u : Option Value} (r : Room k A) : L2H.RoomH k (A.mark u) := ⟨r.dp, r.un⟩
/-- the suite goes on -/
theorem does_try_exn {K : Frg} {W : WX} {ρ ρ1 ρ2 : List Sl} {tb : WX → TS} {ts : Addr → Addr → TS} {c D : Addr} {i : Nat} (hb : ∀ W, Does K W (tb W) ρ (.ex D ρ1)) (y : Xr K c D) (hs : ∀ a, Does K W (ts a D) (ρ1.set i (.fr (dAdr a))) (.nx ρ2)) :
    Does K W (tTry K c i tb ts W) ρ (.nx (ρ2.set i .no)) := fun Z σ H E R q => hb _ Z σ H E R fun Z1 σ1 H1 e1 R1 =>
  ⟨true, y.m, fun _ a ha => ⟨D, rfl, rfl, y.e, hs a Z1 _ H1 _ (R1.put (Same.refl H1) (s' := .fr (dAdr a)) (F := []) ⟨rfl, .ref a, rfl, .adr a⟩ fun _ m => nomatch m) fun Z2 σ2 H2 e2 R2 => q Z2 _ H2 (e1.trans e2) (by
    have R3 := R2.no i
    refine ⟨R3.len.trans (List.length_set).symm, R3.ext, ?_⟩
    obtain ⟨Fs, O⟩ := R3.ex
    refine ⟨Fs, ⟨fun j s h => ?_, O.dis, O.fr, O.out⟩⟩
    by_cases hj : j = i
    · subst hj
      by_cases hl : j < ρ2.length
      · rw [List.getElem?_set_self hl] at h
        cases h
        exact O.ok j .no (List.getElem?_set_self hl)
      · rw [List.getElem?_eq_none (by rw [List.length_set]; omega)] at h
        cases h
    · rw [List.getElem?_set_ne (Ne.symm hj)]
      exact O.ok j s h)⟩, fun z => nomatch z⟩
end Pur

set_option Elab.async false
set_option linter.all false
set_option maxRecDepth 100000
set_option maxHeartbeats 4000000
namespace Pur
open PySem PySem.Spec PyProof.Rows L2
/-! ## rows -/
/-- a row: numbers from one on, none greater than the one ahead -/
structure Row (r : List Int) : Prop where
  pos : ∀ x ∈ r, 1 ≤ x
  fall : r.Pairwise (fun a b => b ≤ a)
theorem Row.nil : Row [] := ⟨fun _ m => (nomatch m), List.Pairwise.nil⟩
theorem Row.tail {x : Int} {r : List Int} (h : Row (x :: r)) : Row r := ⟨fun y m => h.pos y (List.mem_cons_of_mem _ m), (List.pairwise_cons.mp h.fall).2⟩
theorem Row.head {x : Int} {r : List Int} (h : Row (x :: r)) : 1 ≤ x ∧ ∀ y ∈ r, y ≤ x := ⟨h.pos x List.mem_cons_self, (List.pairwise_cons.mp h.fall).1⟩
theorem Row.le {r : List Int} (h : Row r) {i j : Nat} (hij : i ≤ j) (hj : j < r.length) : r[j] ≤ r[i]'(by omega) := by
  by_cases e : i = j
  · subst e; exact Int.le_refl _
  · exact List.pairwise_iff_getElem.mp h.fall i j (by omega) hj (by omega)
theorem sum_nonneg : ∀ {r : List Int}, (∀ x ∈ r, 0 ≤ x) → 0 ≤ r.sum
  | [], _ => Int.le_refl _
  | x :: r, h => by
    rw [List.sum_cons]
    have := sum_nonneg (r := r) fun y m => h y (List.mem_cons_of_mem _ m)
    have := h x List.mem_cons_self
    omega
theorem Row.sum_len : ∀ {r : List Int}, Row r → (r.length : Int) ≤ r.sum
  | [], _ => Int.le_refl _
  | x :: r, h => by
    rw [List.sum_cons, List.length_cons]
    have := Row.sum_len h.tail
    have := h.head.1
    omega
theorem Row.mem_sum : ∀ {r : List Int}, Row r → ∀ x ∈ r, x ≤ r.sum
  | [], _, _, m => (nomatch m)
  | y :: r, h, x, m => by
    rw [List.sum_cons]
    have h0 := sum_nonneg (r := r) fun z m => Int.le_trans (by decide) (h.tail.pos z m)
    rcases List.mem_cons.mp m with rfl | m
    · omega
    · have := Row.mem_sum h.tail x m
      have := h.head.1
      omega
/-- how many numbers are greater than j -/
def cnt (r : List Int) (j : Int) : Nat := (r.filter fun x => decide (j < x)).length
theorem cnt_nil (j : Int) : cnt [] j = 0 := rfl
theorem cnt_cons (x : Int) (r : List Int) (j : Int) : cnt (x :: r) j = (if j < x then 1 else 0) + cnt r j := by
  unfold cnt
  rw [List.filter_cons]
  by_cases h : j < x
  · rw [if_pos (decide_eq_true h), if_pos h, List.length_cons]; omega
  · rw [if_neg (by simpa using h), if_neg h]; omega
theorem cnt_append (r s : List Int) (j : Int) : cnt (r ++ s) j = cnt r j + cnt s j := by
  unfold cnt
  rw [List.filter_append, List.length_append]
theorem cnt_le (r : List Int) (j : Int) : cnt r j ≤ r.length := List.length_filter_le _ _
theorem cnt_anti (r : List Int) {i j : Int} (h : i ≤ j) : cnt r j ≤ cnt r i := by
  induction r with
  | nil => exact Nat.le_refl _
  | cons x r ih =>
    rw [cnt_cons, cnt_cons]
    split <;> split <;> omega
theorem cnt_zero_of {r : List Int} {j : Int} (h : ∀ x ∈ r, x ≤ j) : cnt r j = 0 := by
  induction r with
  | nil => rfl
  | cons x r ih =>
    rw [cnt_cons, ih fun y m => h y (List.mem_cons_of_mem _ m), if_neg (by have := h x List.mem_cons_self; omega)]
/-- of a row: the first so many -/
theorem cnt_iff : ∀ {r : List Int}, Row r → ∀ {k : Nat} (hk : k < r.length) (j : Int), j < r[k] ↔ k < cnt r j
  | [], _, k, hk, j => absurd hk (Nat.not_lt_zero _)
  | x :: r, h, 0, hk, j => by
    rw [cnt_cons]
    show j < x ↔ _
    by_cases c : j < x
    · rw [if_pos c]; constructor <;> intro <;> omega
    · have e : cnt r j = 0 := cnt_zero_of fun y m => by have := h.head.2 y m; omega
      rw [if_neg c, e]; constructor <;> intro <;> omega
  | x :: r, h, k + 1, hk, j => by
    have hk' : k < r.length := by simpa using hk
    have ih := cnt_iff h.tail hk' j
    rw [cnt_cons]
    show j < r[k] ↔ _
    rw [ih]
    by_cases c : j < x
    · rw [if_pos c]; omega
    · have e : cnt r j = 0 := cnt_zero_of fun y m => by have := h.head.2 y m; omega
      rw [if_neg c, e]; omega
theorem cnt_zero {r : List Int} (h : Row r) : cnt r 0 = r.length := by
  unfold cnt
  rw [List.filter_eq_self.mpr fun x m => decide_eq_true (by have := h.pos x m; omega)]
/-! ### the turned row -/
def turnedM (r : List Int) : List Int := (List.range (gi r 0).toNat).map fun j : Nat => (cnt r (j : Int) : Int)
theorem gi_get {r : List Int} {i : Nat} (h : i < r.length) : gi r (i : Int) = r[i] := by
  unfold gi
  rw [Int.toNat_natCast, List.getD_eq_getElem?_getD, List.getElem?_eq_getElem h]
  rfl
theorem gi_zero (x : Int) (r : List Int) : gi (x :: r) 0 = x := rfl
theorem turned_len (r : List Int) : (turnedM r).length = (gi r 0).toNat := by unfold turnedM; rw [List.length_map, List.length_range]
theorem turned_get {r : List Int} {j : Nat} (h : j < (turnedM r).length) : (turnedM r)[j] = (cnt r (j : Int) : Int) := by
  simp [turnedM]
theorem gi0_pos {r : List Int} (h : Row r) : 0 ≤ gi r 0 := by
  cases r with
  | nil => exact Int.le_refl _
  | cons x r => have := h.head.1; rw [gi_zero]; omega
theorem turned_row {r : List Int} (h : Row r) : Row (turnedM r) := by
  refine ⟨fun x m => ?_, ?_⟩
  · obtain ⟨j, hj, rfl⟩ := List.getElem_of_mem m
    rw [turned_get hj]
    rw [turned_len] at hj
    cases r with
    | nil => exact absurd hj (by show ¬ j < 0; omega)
    | cons y t =>
      rw [gi_zero] at hj
      rw [cnt_cons, if_pos (by omega)]
      omega
  · refine List.pairwise_iff_getElem.mpr fun i j hi hj hij => ?_
    rw [turned_get hi, turned_get hj]
    have := cnt_anti r (show (i : Int) ≤ j by omega)
    omega
theorem turned_twice {r : List Int} (h : Row r) : turnedM (turnedM r) = r := by
  have hl : (turnedM (turnedM r)).length = r.length := by
    rw [turned_len]
    cases r with
    | nil => rfl
    | cons x t =>
      have hx := h.head.1
      have h0 : 0 < (turnedM (x :: t)).length := by rw [turned_len, gi_zero]; omega
      have := gi_get h0
      have e : gi (turnedM (x :: t)) 0 = (turnedM (x :: t))[0] := this
      rw [e, turned_get h0]
      have := cnt_zero h
      show (cnt (x :: t) ((0 : Nat) : Int) : Int).toNat = _
      rw [show ((0 : Nat) : Int) = 0 from rfl, this]
      rfl
  refine List.ext_getElem hl fun k h1 h2 => ?_
  rw [turned_get h1]
  have hk := h.pos _ (List.getElem_mem h2)
  -- how many columns are longer than k
  have key : ∀ n : Nat, cnt ((List.range n).map fun j : Nat => (cnt r (j : Int) : Int)) (k : Int) = min n (r[k]).toNat := fun n => by
    induction n with
    | zero => rw [Nat.zero_min]; rfl
    | succ n ih =>
      rw [List.range_succ, List.map_append, cnt_append, ih, List.map_singleton, cnt_cons, cnt_nil]
      have q := cnt_iff h h2 (n : Int)
      by_cases c : (n : Int) < r[k]
      · rw [if_pos (by have := q.mp c; omega)]; omega
      · rw [if_neg (fun z => c (q.mpr (by omega)))]; omega
  have e := key (gi r 0).toNat
  have le : r[k] ≤ gi r 0 := by
    have h0 : 0 < r.length := by omega
    have := h.le (Nat.zero_le k) h2
    have e0 : gi r 0 = r[0] := gi_get h0
    omega
  show ((cnt (turnedM r) (k : Int) : Nat) : Int) = _
  unfold turnedM
  rw [e]
  omega
theorem turned_sum {r : List Int} (h : Row r) : (turnedM r).sum = r.sum := by
  have key : ∀ (r : List Int) (n : Nat), (∀ x ∈ r, 0 ≤ x ∧ x ≤ n) → ((List.range n).map fun j : Nat => (cnt r (j : Int) : Int)).sum = r.sum := by
    intro r n
    induction r with
    | nil =>
      intro q
      clear q
      induction n with
      | zero => rfl
      | succ n ih => rw [List.range_succ, List.map_append, List.sum_append, ih]; rfl
    | cons x r ih =>
      intro hb
      have ih' := ih fun y m => hb y (List.mem_cons_of_mem _ m)
      have e : ∀ n : Nat, ((List.range n).map fun j : Nat => (cnt (x :: r) (j : Int) : Int)).sum = min (n : Int) (max 0 x) + ((List.range n).map fun j : Nat => (cnt r (j : Int) : Int)).sum := fun n => by
        induction n with
        | zero => show (0 : Int) = min 0 (max 0 x) + 0; omega
        | succ n ihn =>
          rw [List.range_succ, List.map_append, List.map_append, List.sum_append, List.sum_append, ihn, List.map_singleton, List.map_singleton, List.sum_singleton, List.sum_singleton, cnt_cons]
          by_cases c : (n : Int) < x
          · rw [if_pos c]; omega
          · rw [if_neg c]; omega
      rw [e n, ih', List.sum_cons]
      have := hb x List.mem_cons_self
      omega
  refine key r _ fun x m => ?_
  have := h.pos x m
  obtain ⟨k, hk, rfl⟩ := List.getElem_of_mem m
  have h0 : 0 < r.length := by omega
  have le := h.le (Nat.zero_le k) hk
  have e0 : gi r 0 = r[0] := gi_get h0
  omega
/-! ### the hooks -/
def hookAt (r : List Int) (k j : Nat) : Int := gi r k - j + (cnt r (j : Int) : Int) - k - 1
def hooksM (r : List Int) : List (List Int) := (List.range r.length).map fun k : Nat => (List.range (gi r k).toNat).map fun j : Nat => hookAt r k j
abbrev N_is_row : List Str := ["numbers", "k"]
def rd_is_row (K : Frg) (C : Ec) (W : WX) : TS := (tSeq (tFor (iRng1 (tCons (tCB (rLenA K) (tCons (tVar 0) tNil)) tNil)) (gName 1)
  (tIfS (tOr (tTest (tOp rLtI (tOp (rIx K) (tVar 0) (tVar 1)) (tC (.int 1)))) (tAnd (tTest (tOp rGtI (tVar 1) (tC (.int 0)))) (tTest (tOp rLtI (tOp (rIx K) (tVar 0) (tOp rSubI (tVar 1) (tC (.int 1)))) (tOp (rIx K) (tVar 0) (tVar 1))))))
  (tRet (tC (.bl false))) tNext))
  (tRet (tC (.bl true))))
/-- the k-th number is as a row's: one or more, none greater than the one ahead -/
def rowAt (r : List Int) (k : Nat) : Bool := !(decide (gi r (k : Int) < 1) || (decide (0 < (k : Int)) && decide (gi r ((k : Int) - 1) < gi r (k : Int))))
def isRowB (r : List Int) : Bool := (List.range r.length).all (rowAt r)
def R_is_row (C : Ec) (ds : List PyData) (o : Except Addr PyData) : Prop := ∃ r : List Int, ds = [dR r] ∧ r.length ≤ 1000 ∧ o = .ok (.bool (isRowB r))
theorem len_is_row {C : Ec} (ds : List PyData) (o : Except Addr PyData) : R_is_row C ds o → ds.length = ["numbers"].length := by
  rintro ⟨r, rfl, _⟩; rfl
theorem does_is_row {K : Frg} {C : Ec} {W : WX} {ds : List PyData} {o : Except Addr PyData} : R_is_row C ds o → FnDoes K W (rd_is_row K C W) (entry N_is_row ds) o := by
  rintro ⟨r, rfl, hl, rfl⟩
  refine .inl ?_
  show Does K W (rd_is_row K C W) [.fr (dR r), .no] (.rt (.bool (isRowB r)))
  have key : ∀ i : Nat, (i : Int) < r.length → Evt K (tOr (tTest (tOp rLtI (tOp (rIx K) (tVar 0) (tVar 1)) (tC (.int 1)))) (tAnd (tTest (tOp rGtI (tVar 1) (tC (.int 0)))) (tTest (tOp rLtI (tOp (rIx K) (tVar 0) (tOp rSubI (tVar 1) (tC (.int 1)))) (tOp (rIx K) (tVar 0) (tVar 1))))))
      ((er [.fr (dR r), .no]).set 1 (some (.int (i : Int)))) (!rowAt r i) := fun i hi => by
    unfold rowAt
    rw [Bool.not_not]
    refine et_or (et_test (ev_lt (ev_ix (ev_var rfl) (ev_var rfl) (by omega) hi) ev_int)) fun _ => et_and (et_test (ev_gt (ev_var rfl) ev_int)) fun h => ?_
    have h0 : 0 < (i : Int) := of_decide_eq_true h
    exact et_test (ev_lt (ev_ix (ev_var rfl) (ev_sub (ev_var rfl) ev_int) (by omega) (by omega)) (ev_ix (ev_var rfl) (ev_var rfl) (by omega) hi))
  refine does_searchR (rowAt r) (eva_cons (ev_len (ev_var rfl)) eva_nil) (by omega) (by omega) (d := .bool false) True.intro (fun i hi h => ?_) (fun i hi _ h => ?_) (fun h => ?_) fun m hm h => ?_
  · refine chk_if (key i hi) (fun z => ?_) fun _ => chk_next
    rw [h] at z; cases z
  · refine chk_if (key i hi) (fun _ => chk_ret ev_bl) fun z => ?_
    rw [h] at z; cases z
  · have e : isRowB r = true := List.all_eq_true.mpr fun i hi => h i (by have := List.mem_range.mp hi; omega)
    rw [e]
    exact does_retb ev_bl
  · have e : isRowB r = false := by
      cases q : isRowB r with
      | false => rfl
      | true =>
        have := List.all_eq_true.mp q m (List.mem_range.mpr (by omega))
        rw [h] at this; cases this
    rw [e]
abbrev N_law_drawn : List Str := ["script", "k", "many", "cell", "mixed"]
def rd_law_drawn (K : Frg) (C : Ec) (W : WX) : TS := (tSeq (tAsg (tC (.int 7)) (gName 3))
  (tSeq (tIfS (tTest (tOp rGtI (tCB (rLenA K) (tCons (tVar 0) tNil)) (tC (.int 0))))
  (tAsg (tOp (rIx K) (tVar 0) (tOp rModI (tVar 1) (tCB (rLenA K) (tCons (tVar 0) tNil)))) (gName 3)) tNext)
  (tSeq (tAsg (tOp rAddA (tOp rAddA (tOp rMulA (tVar 3) (tOp rAddA (tC (.int 48271)) (tOp rMulA (tC (.int 9973)) (tOp rModI (tVar 1) (tC (.int 97)))))) (tOp rMulA (tOp rMulA (tOp rAddA (tVar 1) (tC (.int 1))) (tOp rAddA (tVar 1) (tC (.int 3)))) (tC (.int 16807)))) (tCB (rLenA K) (tCons (tVar 0) tNil))) (gName 4))
  (tRet (tOp rModI (tOp rDivI (tOp rModI (tVar 4) (tC (.int 2147483647))) (tC (.int 16))) (tVar 2))))))
def drawnM (ns : List Int) (k many : Int) : Int :=
  ((if 0 < (ns.length : Int) then gi ns (k % ns.length) else 7) * (48271 + 9973 * (k % 97)) + (k + 1) * (k + 3) * 16807 + ns.length) % 2147483647 / 16 % many
theorem drawnM_ge {ns : List Int} {k many : Int} (h : 0 < many) : 0 ≤ drawnM ns k many := Int.emod_nonneg _ (by omega)
theorem drawnM_lt {ns : List Int} {k many : Int} (h : 0 < many) : drawnM ns k many < many := Int.emod_lt_of_pos _ h
def R_law_drawn (C : Ec) (ds : List PyData) (o : Except Addr PyData) : Prop := ∃ (ns : List Int) (k many : Int), ds = [dScr ns, .int k, .int many] ∧ 0 ≤ k ∧ k < 10000 ∧ 0 < many ∧ o = .ok (.int (drawnM ns k many))
theorem len_law_drawn {C : Ec} (ds : List PyData) (o : Except Addr PyData) : R_law_drawn C ds o → ds.length = ["script", "k", "many"].length := by
  rintro ⟨_, _, _, rfl, _⟩; rfl
theorem does_law_drawn {K : Frg} {C : Ec} {W : WX} {ds : List PyData} {o : Except Addr PyData} : R_law_drawn C ds o → FnDoes K W (rd_law_drawn K C W) (entry N_law_drawn ds) o := by
  rintro ⟨ns, k, many, rfl, hk0, hk1, hm, rfl⟩
  refine .inl ?_
  show Does K W (rd_law_drawn K C W) [.fr (dScr ns), .fr (.int k), .fr (.int many), .no, .no] (.rt (.int (drawnM ns k many)))
  have hp : -(2 ^ 64) < (k + 1) * (k + 3) ∧ (k + 1) * (k + 3) < 2 ^ 64 := by
    have h1 : 0 ≤ (k + 1) * (k + 3) := Int.mul_nonneg (by omega) (by omega)
    have h2 : (k + 1) * (k + 3) ≤ 10000 * 10010 := Int.mul_le_mul (by omega) (by omega) (by omega) (by omega)
    omega
  refine does_seq (does_asgi ev_int) (does_seq (ρ1 := [.fr (dScr ns), .fr (.int k), .fr (.int many), .fr (.int (if 0 < (ns.length : Int) then gi ns (k % ns.length) else 7)), .no]) ?_ ?_)
  · refine does_if (et_test (ev_gt (ev_lenScr (ev_var rfl)) ev_int)) (fun h => ?_) fun h => ?_
    · have h0 : 0 < (ns.length : Int) := of_decide_eq_true h
      rw [if_pos h0]
      exact does_asgi (ev_ixScr (ev_var rfl) (ev_mod (ev_var rfl) (ev_lenScr (ev_var rfl)) h0) (Int.emod_nonneg _ (by omega)) (Int.emod_lt_of_pos _ h0))
    · rw [if_neg (of_decide_eq_false h)]
      exact does_next
  refine does_seq (does_asgi (ev_add (ev_add (ev_mul (ev_var rfl) (ev_add ev_int (ev_mul ev_int (ev_mod (ev_var rfl) ev_int (by decide)) (mul_l (by decide)))) (mul_r (by omega))) (ev_mul (ev_mul (ev_add (ev_var rfl) ev_int) (ev_add (ev_var rfl) ev_int) (mul_l (by omega))) ev_int (mul_l hp))) (ev_lenScr (ev_var rfl)))) ?_
  exact does_reti (ev_mod (ev_div (ev_mod (ev_var rfl) ev_int (by decide)) ev_int (by decide)) (ev_var rfl) hm)
abbrev N_law_whole : List Str := ["found"]
def rd_law_whole (K : Frg) (C : Ec) (W : WX) : TS := (tRet (tAndV (tCB (rIsi K) (tCons (tVar 0) (tCons (tC (.ty "int")) tNil))) (tNotV (tCB (rIsi K) (tCons (tVar 0) (tCons (tC (.ty "bool")) tNil))))))
def wholeB : PyData → Bool
  | .int _ => true
  | _ => false
def R_law_whole (C : Ec) (ds : List PyData) (o : Except Addr PyData) : Prop := ∃ d : PyData, ds = [d] ∧ tyN d ≠ "dict" ∧ o = .ok (.bool (wholeB d))
theorem len_law_whole {C : Ec} (ds : List PyData) (o : Except Addr PyData) : R_law_whole C ds o → ds.length = ["found"].length := by
  rintro ⟨_, rfl, _⟩; rfl
theorem kit_all : ["NoneType", "str", "list", "tuple"].all (fun t => decide (kitB t "int" = some false)) = true := by decide +kernel
theorem does_law_whole {K : Frg} {C : Ec} {W : WX} {ds : List PyData} {o : Except Addr PyData} : R_law_whole C ds o → FnDoes K W (rd_law_whole K C W) (entry N_law_whole ds) o := by
  rintro ⟨d, rfl, hd, rfl⟩
  refine .inl ?_
  show Does K W (rd_law_whole K C W) [.fr d] (.rt (.bool (wholeB d)))
  have ka := List.all_eq_true.mp kit_all
  have go : ∀ {a b : Bool}, kitB (tyN d) "int" = some a → (a = true → kitB (tyN d) "bool" = some b) → (a && !b) = wholeB d → Does K W (rd_law_whole K C W) [.fr d] (.rt (.bool (wholeB d))) := fun {a b} h1 h2 h3 => by
    rw [← h3]
    exact does_retb (ev_andV (ev_isi (ev_var rfl) h1 hd) fun e => ev_notV (ev_isi (ev_var rfl) (h2 e) hd))
  cases d with
  | none => exact go (a := false) (b := false) (of_decide_eq_true (ka "NoneType" (by simp))) (fun z => nomatch z) rfl
  | bool x => exact go (b := true) kit_bi (fun _ => kit_bb) rfl
  | int i => exact go (b := false) kit_ii (fun _ => kit_ib) rfl
  | str x => exact go (a := false) (b := false) (of_decide_eq_true (ka "str" (by simp))) (fun z => nomatch z) rfl
  | list x => exact go (a := false) (b := false) (of_decide_eq_true (ka "list" (by simp))) (fun z => nomatch z) rfl
  | tuple x => exact go (a := false) (b := false) (of_decide_eq_true (ka "tuple" (by simp))) (fun z => nomatch z) rfl
  | dict x => exact absurd rfl hd
abbrev N_law_row : List Str := ["found", "due", "k"]
def rd_law_row (K : Frg) (C : Ec) (W : WX) : TS := (tSeq (tIfS (tOr (tNot (tB (tCB (rIsi K) (tCons (tVar 0) (tCons (tC (.ty "list")) tNil))))) (tTest (tOp (rNeA K) (tCB (rLenA K) (tCons (tVar 0) tNil)) (tCB (rLenA K) (tCons (tVar 1) tNil)))))
  (tRet (tC (.bl false))) tNext)
  (tSeq (tFor (iRng1 (tCons (tCB (rLenA K) (tCons (tVar 1) tNil)) tNil)) (gName 2)
  (tIfS (tOr (tNot (tB (tCall (spOf K (R_law_whole C)) [] E0 (tCons (tOp (rIx K) (tVar 0) (tVar 2)) tNil)))) (tTest (tOp (rNeA K) (tOp (rIx K) (tVar 0) (tVar 2)) (tOp (rIx K) (tVar 1) (tVar 2)))))
  (tRet (tC (.bl false))) tNext))
  (tRet (tC (.bl true)))))
def R_law_row (C : Ec) (ds : List PyData) (o : Except Addr PyData) : Prop := ∃ r s : List Int, ds = [dR r, dR s] ∧ s.length ≤ 100000 ∧ o = .ok (.bool (decide (r = s)))
theorem len_law_row {C : Ec} (ds : List PyData) (o : Except Addr PyData) : R_law_row C ds o → ds.length = ["found", "due"].length := by
  rintro ⟨_, _, rfl, _⟩; rfl
theorem eq_of_gi {r s : List Int} (hl : r.length = s.length) (h : ∀ i : Nat, i < s.length → gi r i = gi s i) : r = s := by
  refine List.ext_getElem hl fun i h1 h2 => ?_
  have := h i h2
  rw [gi_get h1, gi_get h2] at this
  exact this
theorem does_law_row {K : Frg} {C : Ec} {W : WX} {ds : List PyData} {o : Except Addr PyData} : R_law_row C ds o → FnDoes K W (rd_law_row K C W) (entry N_law_row ds) o := by
  rintro ⟨r, s, rfl, hz, rfl⟩
  refine .inl ?_
  show Does K W (rd_law_row K C W) [.fr (dR r), .fr (dR s), .no] (.rt (.bool (decide (r = s))))
  by_cases hl : r.length = s.length
  · refine does_seq (ρ1 := [.fr (dR r), .fr (dR s), .no]) (does_if (b := false) ((et_or (et_not (et_B (ev_isl (ev_var rfl)))) fun _ => et_test (ev_nei (ev_len (ev_var rfl)) (ev_len (ev_var rfl)))).cast (by simp [hl])) (fun z => nomatch z) fun _ => does_next) ?_
    have key : ∀ i : Nat, (i : Int) < s.length → Evt K (tOr (tNot (tB (tCall (spOf K (R_law_whole C)) [] E0 (tCons (tOp (rIx K) (tVar 0) (tVar 2)) tNil)))) (tTest (tOp (rNeA K) (tOp (rIx K) (tVar 0) (tVar 2)) (tOp (rIx K) (tVar 1) (tVar 2)))))
        ((er [.fr (dR r), .fr (dR s), .no]).set 2 (some (.int (i : Int)))) (!decide (gi r i = gi s i)) := fun i hi => by
      refine (et_or (et_not (et_B (ev_call (eva_cons (ev_ix (ev_var rfl) (ev_var rfl) (by omega) (by omega)) eva_nil) ⟨_, rfl, (show "int" ≠ "dict" by decide), rfl⟩))) fun _ => et_test (ev_nei (ev_ix (ev_var rfl) (ev_var rfl) (by omega) (by omega)) (ev_ix (ev_var rfl) (ev_var rfl) (by omega) (by omega)))).cast ?_
      show (!true || decide (gi r i ≠ gi s i)) = _
      simp
    refine does_searchR (fun i => decide (gi r i = gi s i)) (eva_cons (ev_len (ev_var rfl)) eva_nil) (by omega) (by omega) (d := .bool false) True.intro (fun i hi h => ?_) (fun i hi _ h => ?_) (fun h => ?_) fun m hm h => ?_
    · refine chk_if (key i hi) (fun z => ?_) fun _ => chk_next
      have h' : decide (gi r i = gi s i) = true := h
      rw [h'] at z; cases z
    · refine chk_if (key i hi) (fun _ => chk_ret ev_bl) fun z => ?_
      have h' : decide (gi r i = gi s i) = false := h
      rw [h'] at z; cases z
    · have e : decide (r = s) = true := decide_eq_true (eq_of_gi hl fun i hi => of_decide_eq_true (h i (by omega)))
      rw [e]
      exact does_retb ev_bl
    · have e : decide (r = s) = false := decide_eq_false fun z => by
        have h' : decide (gi r m = gi s m) = false := h
        rw [z, decide_eq_true rfl] at h'
        cases h'
      rw [e]
  · refine does_seq_rt (does_if (b := true) ((et_or (et_not (et_B (ev_isl (ev_var rfl)))) fun _ => et_test (ev_nei (ev_len (ev_var rfl)) (ev_len (ev_var rfl)))).cast ?_) (fun _ => ?_) fun z => nomatch z)
    · have : ¬ (r.length : Int) = s.length := by omega
      simp [this]
    · have e : decide (r = s) = false := decide_eq_false fun z => hl (by rw [z])
      rw [e]
      exact does_retb ev_bl
abbrev N_law_rows : List Str := ["found", "due", "k"]
def rd_law_rows (K : Frg) (C : Ec) (W : WX) : TS := (tSeq (tIfS (tOr (tNot (tB (tCB (rIsi K) (tCons (tVar 0) (tCons (tC (.ty "list")) tNil))))) (tTest (tOp (rNeA K) (tCB (rLenA K) (tCons (tVar 0) tNil)) (tCB (rLenA K) (tCons (tVar 1) tNil)))))
  (tRet (tC (.bl false))) tNext)
  (tSeq (tFor (iRng1 (tCons (tCB (rLenA K) (tCons (tVar 1) tNil)) tNil)) (gName 2)
  (tIfS (tNot (tB (tCall (spOf K (R_law_row C)) [] E0 (tCons (tOp (rIx K) (tVar 0) (tVar 2)) (tCons (tOp (rIx K) (tVar 1) (tVar 2)) tNil)))))
  (tRet (tC (.bl false))) tNext))
  (tRet (tC (.bl true)))))
def R_law_rows (C : Ec) (ds : List PyData) (o : Except Addr PyData) : Prop := ∃ r s : List (List Int), ds = [dRR r, dRR s] ∧ s.length ≤ 100000 ∧ (∀ x ∈ s, x.length ≤ 100000) ∧ o = .ok (.bool (decide (r = s)))
theorem len_law_rows {C : Ec} (ds : List PyData) (o : Except Addr PyData) : R_law_rows C ds o → ds.length = ["found", "due"].length := by
  rintro ⟨_, _, rfl, _⟩; rfl
theorem getD_get {α : Type} {r : List α} {d : α} {i : Nat} (h : i < r.length) : r.getD i d = r[i] := by
  rw [List.getD_eq_getElem?_getD, List.getElem?_eq_getElem h]
  rfl
theorem eq_of_getD {α : Type} {r s : List α} {d : α} (hl : r.length = s.length) (h : ∀ i : Nat, i < s.length → r.getD i d = s.getD i d) : r = s := by
  refine List.ext_getElem hl fun i h1 h2 => ?_
  have := h i h2
  rw [getD_get h1, getD_get h2] at this
  exact this
theorem does_law_rows {K : Frg} {C : Ec} {W : WX} {ds : List PyData} {o : Except Addr PyData} : R_law_rows C ds o → FnDoes K W (rd_law_rows K C W) (entry N_law_rows ds) o := by
  rintro ⟨r, s, rfl, hz, hzz, rfl⟩
  refine .inl ?_
  show Does K W (rd_law_rows K C W) [.fr (dRR r), .fr (dRR s), .no] (.rt (.bool (decide (r = s))))
  by_cases hl : r.length = s.length
  · refine does_seq (ρ1 := [.fr (dRR r), .fr (dRR s), .no]) (does_if (b := false) ((et_or (et_not (et_B (ev_isl (ev_var rfl)))) fun _ => et_test (ev_nei (ev_len (ev_var rfl)) (ev_len (ev_var rfl)))).cast (by simp [hl])) (fun z => nomatch z) fun _ => does_next) ?_
    have key : ∀ i : Nat, (i : Int) < s.length → Evt K (tNot (tB (tCall (spOf K (R_law_row C)) [] E0 (tCons (tOp (rIx K) (tVar 0) (tVar 2)) (tCons (tOp (rIx K) (tVar 1) (tVar 2)) tNil)))))
        ((er [.fr (dRR r), .fr (dRR s), .no]).set 2 (some (.int (i : Int)))) (!decide (r.getD i [] = s.getD i [])) := fun i hi => by
      have hm : s.getD i [] ∈ s := by rw [getD_get (by omega)]; exact List.getElem_mem _
      refine (et_not (et_B (ev_call (eva_cons (ev_ixRR (ev_var rfl) (ev_var rfl) (by omega) (by omega)) (eva_cons (ev_ixRR (ev_var rfl) (ev_var rfl) (by omega) (by omega)) eva_nil)) ⟨r.getD i [], s.getD i [], ?_, hzz _ hm, rfl⟩)))
      rw [Int.toNat_natCast]
    refine does_searchR (fun i => decide (r.getD i [] = s.getD i [])) (eva_cons (ev_len (ev_var rfl)) eva_nil) (by omega) (by omega) (d := .bool false) True.intro (fun i hi h => ?_) (fun i hi _ h => ?_) (fun h => ?_) fun m hm h => ?_
    · refine chk_if (key i hi) (fun z => ?_) fun _ => chk_next
      have h' : decide (r.getD i [] = s.getD i []) = true := h
      rw [h'] at z; cases z
    · refine chk_if (key i hi) (fun _ => chk_ret ev_bl) fun z => ?_
      have h' : decide (r.getD i [] = s.getD i []) = false := h
      rw [h'] at z; cases z
    · have e : decide (r = s) = true := decide_eq_true (eq_of_getD (d := []) hl fun i hi => of_decide_eq_true (h i (by omega)))
      rw [e]
      exact does_retb ev_bl
    · have e : decide (r = s) = false := decide_eq_false fun z => by
        have h' : decide (r.getD m [] = s.getD m []) = false := h
        rw [z, decide_eq_true rfl] at h'
        cases h'
      rw [e]
  · refine does_seq_rt (does_if (b := true) ((et_or (et_not (et_B (ev_isl (ev_var rfl)))) fun _ => et_test (ev_nei (ev_len (ev_var rfl)) (ev_len (ev_var rfl)))).cast ?_) (fun _ => ?_) fun z => nomatch z)
    · have : ¬ (r.length : Int) = s.length := by omega
      simp [this]
    · have e : decide (r = s) = false := decide_eq_false fun z => hl (by rw [z])
      rw [e]
      exact does_retb ev_bl
abbrev N_law_row_by : List Str := ["script", "base", "most", "left", "row", "greatest", "bound", "step"]
def rd_law_row_by (K : Frg) (C : Ec) (W : WX) : TS := (tSeq (tAsg (tCall (spOf K (R_law_drawn C)) [] E0 (tCons (tVar 0) (tCons (tVar 1) (tCons (tOp rAddA (tVar 2) (tC (.int 1))) tNil)))) (gName 3))
  (tSeq (tAsg (tLst tNil) (gName 4))
  (tSeq (tAsg (tOp rAddA (tC (.int 1)) (tCall (spOf K (R_law_drawn C)) [] E0 (tCons (tVar 0) (tCons (tOp rAddA (tVar 1) (tC (.int 1))) (tCons (tVar 2) tNil))))) (gName 5))
  (tSeq (tWhile (tTest (tOp rGtI (tVar 3) (tC (.int 0))))
  (tSeq (tAsg (tOp (rIx K) (tLst (tCons (tC (.int 3)) (tCons (tC (.int 3)) (tCons (tC (.int 12)) (tCons (tOp rAddA (tC (.int 1)) (tVar 5)) tNil))))) (tCall (spOf K (R_law_drawn C)) [] E0 (tCons (tVar 0) (tCons (tOp rAddA (tVar 1) (tC (.int 71))) (tCons (tC (.int 4)) tNil))))) (gName 6))
  (tSeq (tAsg (tOp rMulA (tCall (spOf K (R_law_drawn C)) [] E0 (tCons (tVar 0) (tCons (tOp rAddA (tOp rAddA (tVar 1) (tC (.int 2))) (tCB (rLenA K) (tCons (tVar 4) tNil))) (tCons (tVar 6) tNil)))) (tCall (spOf K (R_law_drawn C)) [] E0 (tCons (tVar 0) (tCons (tOp rAddA (tVar 1) (tC (.int 70))) (tCons (tC (.int 2)) tNil))))) (gName 7))
  (tSeq (tAsg (tCB rMin2 (tCons (tVar 3) (tCons (tOp rSubI (tVar 5) (tVar 7)) tNil))) (gName 5))
  (tSeq (tAsg (tCB rMax2 (tCons (tC (.int 1)) (tCons (tVar 5) tNil))) (gName 5))
  (tSeq (tDrop (tBM K "list" rAppend (tVar 4) (tCons (tVar 5) tNil)))
  (tAsg (tOp rSubI (tVar 3) (tVar 5)) (gName 3))))))))
  (tRet (tVar 4))))))
/-- one turn: what is left, the row so far, its greatest next number -/
def rbStep (ns : List Int) (base : Int) (s : Int × List Int × Int) : Int × List Int × Int :=
  if 0 < s.1 then
    let g := max 1 (min s.1 (s.2.2 - drawnM ns (base + 2 + s.2.1.length) (([3, 3, 12, 1 + s.2.2] : List Int).getD (drawnM ns (base + 71) 4).toNat 0) * drawnM ns (base + 70) 2))
    (s.1 - g, s.2.1 ++ [g], g)
  else s
def rbSt (ns : List Int) (base most : Int) : Nat → Int × List Int × Int
  | 0 => (drawnM ns base (most + 1), [], 1 + drawnM ns (base + 1) most)
  | i + 1 => rbStep ns base (rbSt ns base most i)
def rowByM (ns : List Int) (base most : Int) : List Int := (rbSt ns base most most.toNat).2.1
structure RbOk (most : Int) (i : Nat) (s : Int × List Int × Int) : Prop where
  nn : 0 ≤ s.1
  less : 0 < s.1 → s.1 ≤ most - i
  great : 1 ≤ s.2.2
  gmost : s.2.2 ≤ most
  sum : s.1 + s.2.1.sum ≤ most
  row : Row s.2.1
  last : ∀ x ∈ s.2.1, s.2.2 ≤ x
  len : s.2.1.length ≤ i
theorem bound_pos {g : Int} (hg : 1 ≤ g) {d : Int} (h0 : 0 ≤ d) (h4 : d < 4) : 0 < ([3, 3, 12, 1 + g] : List Int).getD d.toNat 0 := by
  obtain ⟨k, rfl⟩ := Int.eq_ofNat_of_zero_le h0
  have hk : k < 4 := by omega
  rw [Int.toNat_natCast]
  match k, hk with
  | 0, _ => show (0 : Int) < 3; decide
  | 1, _ => show (0 : Int) < 3; decide
  | 2, _ => show (0 : Int) < 12; decide
  | 3, _ => show 0 < 1 + g; omega
theorem rbOk_step {ns : List Int} {base most : Int} {i : Nat} {s : Int × List Int × Int} (h : RbOk most i s) : RbOk most (i + 1) (rbStep ns base s) := by
  obtain ⟨left, row, g⟩ := s
  obtain ⟨h1, h2, h3, h3m, h4, h5, h6, h7⟩ := h
  dsimp only at h1 h2 h3 h3m h4 h5 h6 h7
  unfold rbStep
  by_cases hl : 0 < left
  · rw [if_pos (show 0 < (left, row, g).1 from hl)]
    dsimp only
    have hp := bound_pos h3 (drawnM_ge (ns := ns) (k := base + 71) (many := 4) (by decide)) (drawnM_lt (by decide))
    have hd : 0 ≤ drawnM ns (base + 2 + row.length) (([3, 3, 12, 1 + g] : List Int).getD (drawnM ns (base + 71) 4).toNat 0) * drawnM ns (base + 70) 2 := Int.mul_nonneg (drawnM_ge hp) (drawnM_ge (by decide))
    generalize drawnM ns (base + 2 + row.length) (([3, 3, 12, 1 + g] : List Int).getD (drawnM ns (base + 71) 4).toNat 0) * drawnM ns (base + 70) 2 = st at hd
    have hg1 : 1 ≤ max 1 (min left (g - st)) := by omega
    have hg2 : max 1 (min left (g - st)) ≤ left := by omega
    have hg3 : max 1 (min left (g - st)) ≤ g := by omega
    generalize max 1 (min left (g - st)) = n at hg1 hg2 hg3
    refine ⟨by dsimp only; omega, fun _ => by have := h2 hl; dsimp only; omega, hg1, by dsimp only; omega, ?_, ⟨fun x hx => ?_, ?_⟩, fun x hx => ?_, by dsimp only; rw [List.length_append, List.length_singleton]; omega⟩
    · dsimp only; rw [List.sum_append, List.sum_singleton]; omega
    · rcases List.mem_append.mp hx with hx | hx
      · exact h5.pos x hx
      · rw [List.mem_singleton.mp hx]; exact hg1
    · refine List.pairwise_append.mpr ⟨h5.fall, List.pairwise_singleton _ _, fun a ha b hb => ?_⟩
      rw [List.mem_singleton.mp hb]
      have := h6 a ha
      omega
    · rcases List.mem_append.mp hx with hx | hx
      · have := h6 x hx; dsimp only; omega
      · rw [List.mem_singleton.mp hx]; exact Int.le_refl _
  · rw [if_neg (show ¬ 0 < (left, row, g).1 from hl)]
    exact ⟨h1, fun z => absurd z hl, h3, h3m, h4, h5, h6, by dsimp only; omega⟩
theorem rbOk {ns : List Int} {base most : Int} (hm : 0 < most) : ∀ i, RbOk most i (rbSt ns base most i)
  | 0 => ⟨drawnM_ge (by omega), fun _ => by have := drawnM_lt (ns := ns) (k := base) (show 0 < most + 1 by omega); show drawnM ns base (most + 1) ≤ most - ((0 : Nat) : Int); omega,
      by have := drawnM_ge (ns := ns) (k := base + 1) hm; show 1 ≤ 1 + drawnM ns (base + 1) most; omega, by have := drawnM_lt (ns := ns) (k := base + 1) hm; show 1 + drawnM ns (base + 1) most ≤ most; omega, by
        have := drawnM_lt (ns := ns) (k := base) (show 0 < most + 1 by omega)
        show drawnM ns base (most + 1) + ([] : List Int).sum ≤ most
        rw [List.sum_nil]; omega, ⟨fun _ m => (nomatch m), List.Pairwise.nil⟩, fun _ m => (nomatch m), Nat.zero_le _⟩
  | i + 1 => rbOk_step (rbOk hm i)
theorem rb_still {ns : List Int} {base most : Int} {n : Nat} (h : ¬ 0 < (rbSt ns base most n).1) : ∀ m, n ≤ m → rbSt ns base most m = rbSt ns base most n
  | 0, hm => by rw [Nat.le_zero.mp hm]
  | m + 1, hm => by
    by_cases e : n = m + 1
    · rw [e]
    · have ih := rb_still h m (by omega)
      show rbStep ns base (rbSt ns base most m) = _
      rw [ih]
      unfold rbStep
      rw [if_neg h]
theorem rb_end {ns : List Int} {base most : Int} (hm : 0 < most) : ¬ 0 < (rbSt ns base most most.toNat).1 := fun h => by
  have := (rbOk (ns := ns) (base := base) hm most.toNat).less h
  omega
theorem rowBy_row {ns : List Int} {base most : Int} (hm : 0 < most) : Row (rowByM ns base most) := (rbOk hm _).row
theorem rowBy_sum {ns : List Int} {base most : Int} (hm : 0 < most) : (rowByM ns base most).sum ≤ most := by
  have h := rbOk (ns := ns) (base := base) hm most.toNat
  have := h.sum
  have := h.nn
  unfold rowByM
  omega
theorem rowBy_len {ns : List Int} {base most : Int} (hm : 0 < most) : (rowByM ns base most).length ≤ most.toNat := (rbOk hm _).len
def R_law_row_by (C : Ec) (ds : List PyData) (o : Except Addr PyData) : Prop := ∃ (ns : List Int) (base most : Int), ds = [dScr ns, .int base, .int most] ∧ 0 ≤ base ∧ base < 5000 ∧ 0 < most ∧ most ≤ 1000 ∧ o = .ok (dR (rowByM ns base most))
theorem len_law_row_by {C : Ec} (ds : List PyData) (o : Except Addr PyData) : R_law_row_by C ds o → ds.length = ["script", "base", "most"].length := by
  rintro ⟨_, _, _, rfl, _⟩; rfl
theorem does_law_row_by {K : Frg} {C : Ec} {W : WX} {ds : List PyData} {o : Except Addr PyData} : R_law_row_by C ds o → FnDoes K W (rd_law_row_by K C W) (entry N_law_row_by ds) o := by
  rintro ⟨ns, base, most, rfl, hb0, hb1, hm0, hm1, rfl⟩
  refine .inl ?_
  show Does K W (rd_law_row_by K C W) [.fr (dScr ns), .fr (.int base), .fr (.int most), .no, .no, .no, .no, .no] (.rt (dR (rowByM ns base most)))
  -- the first turn at which nothing is left
  obtain ⟨n, hn, hlt⟩ : ∃ n, ¬ 0 < (rbSt ns base most n).1 ∧ ∀ i, i < n → 0 < (rbSt ns base most i).1 := by
    rcases first_bad (fun i => decide (0 < (rbSt ns base most i).1)) (most.toNat + 1) with h | ⟨m, _, h2, h3⟩
    · exact absurd (of_decide_eq_true (h most.toNat (by omega))) (rb_end hm0)
    · exact ⟨m, of_decide_eq_false h2, fun i hi => of_decide_eq_true (h3 i hi)⟩
  have hnm : n ≤ most.toNat := Nat.le_of_not_lt fun z => rb_end hm0 (hlt _ z)
  have er : (rbSt ns base most n).2.1 = rowByM ns base most := by unfold rowByM; rw [rb_still hn _ hnm]
  have cal : ∀ {k m : Int}, 0 ≤ k → k < 10000 → 0 < m → R_law_drawn C [dScr ns, .int k, .int m] (.ok (.int (drawnM ns k m))) := fun h1 h2 h3 => ⟨ns, _, _, rfl, h1, h2, h3, rfl⟩
  let T : Nat → List Sl := fun i => [.fr (dScr ns), .fr (.int base), .fr (.int most), .fr (.int (rbSt ns base most i).1), .ow (dR (rbSt ns base most i).2.1), .fr (.int (rbSt ns base most i).2.2), .no, .no]
  refine does_seq (does_asgi (ev_call (eva_cons (ev_var rfl) (eva_cons (ev_var rfl) (eva_cons (ev_add (ev_var rfl) ev_int) eva_nil))) (cal (by omega) (by omega) (by omega)))) ?_
  refine does_seq (does_asg (evf_lst evaf_nil)) ?_
  refine does_seq (does_asgi (ev_add ev_int (ev_call (eva_cons (ev_var rfl) (eva_cons (ev_add (ev_var rfl) ev_int) (eva_cons (ev_var rfl) eva_nil))) (cal (by omega) (by omega) (by omega))))) ?_
  refine does_seq (does_while n T rfl (fun i hi => ?_) (fun i hi => ?_) ?_) (er ▸ does_retv rfl)
  · exact (et_test (ev_gt (ev_var rfl) ev_int)).cast (decide_eq_true (hlt i hi))
  · have ok := rbOk (ns := ns) (base := base) hm0 i
    have pos := hlt i hi
    have e : T (i + 1) = [.fr (dScr ns), .fr (.int base), .fr (.int most), .fr (.int (rbStep ns base (rbSt ns base most i)).1), .ow (dR (rbStep ns base (rbSt ns base most i)).2.1), .fr (.int (rbStep ns base (rbSt ns base most i)).2.2), .no, .no] := rfl
    rw [e]
    show Does K W _ [.fr (dScr ns), .fr (.int base), .fr (.int most), .fr (.int (rbSt ns base most i).1), .ow (dR (rbSt ns base most i).2.1), .fr (.int (rbSt ns base most i).2.2), .no, .no] _
    unfold rbStep
    rw [if_pos pos]
    generalize rbSt ns base most i = s at ok pos
    obtain ⟨left, row, g⟩ := s
    obtain ⟨k1, k2, k3, k3m, k4, k5, k6, k7⟩ := ok
    dsimp only at k1 k2 k3 k3m k4 k5 k6 k7 pos ⊢
    have k2' := k2 pos
    have d0 := drawnM_ge (ns := ns) (k := base + 71) (many := 4) (by decide)
    have d4 := drawnM_lt (ns := ns) (k := base + 71) (many := 4) (by decide)
    have hp := bound_pos k3 d0 d4
    have ex : atI ([.int 3, .int 3, .int 12, .int (1 + g)] : List PyData) (drawnM ns (base + 71) 4) = some (.int (([3, 3, 12, 1 + g] : List Int).getD (drawnM ns (base + 71) 4).toNat 0)) := by
      have := atI_map PyData.int ([3, 3, 12, 1 + g] : List Int) (drawnM ns (base + 71) 4)
      rw [atI_in ([3, 3, 12, 1 + g] : List Int) 0 d0 (by show _ < ((4 : Nat) : Int); omega)] at this
      exact this
    have two := drawnM_ge (ns := ns) (k := base + 70) (many := 2) (by decide)
    have two2 := drawnM_lt (ns := ns) (k := base + 70) (many := 2) (by decide)
    refine does_no 6 (ρ1 := [.fr (dScr ns), .fr (.int base), .fr (.int most), .fr (.int (left - max 1 (min left (g - drawnM ns (base + 2 + row.length) (([3, 3, 12, 1 + g] : List Int).getD (drawnM ns (base + 71) 4).toNat 0) * drawnM ns (base + 70) 2)))), .ow (dR (row ++ [max 1 (min left (g - drawnM ns (base + 2 + row.length) (([3, 3, 12, 1 + g] : List Int).getD (drawnM ns (base + 71) 4).toNat 0) * drawnM ns (base + 70) 2))])),
      .fr (.int (max 1 (min left (g - drawnM ns (base + 2 + row.length) (([3, 3, 12, 1 + g] : List Int).getD (drawnM ns (base + 71) 4).toNat 0) * drawnM ns (base + 70) 2)))), .fr (.int (([3, 3, 12, 1 + g] : List Int).getD (drawnM ns (base + 71) 4).toNat 0)), .no]) ?_
    refine does_no 7 (ρ1 := [.fr (dScr ns), .fr (.int base), .fr (.int most), .fr (.int (left - max 1 (min left (g - drawnM ns (base + 2 + row.length) (([3, 3, 12, 1 + g] : List Int).getD (drawnM ns (base + 71) 4).toNat 0) * drawnM ns (base + 70) 2)))), .ow (dR (row ++ [max 1 (min left (g - drawnM ns (base + 2 + row.length) (([3, 3, 12, 1 + g] : List Int).getD (drawnM ns (base + 71) 4).toNat 0) * drawnM ns (base + 70) 2))])),
      .fr (.int (max 1 (min left (g - drawnM ns (base + 2 + row.length) (([3, 3, 12, 1 + g] : List Int).getD (drawnM ns (base + 71) 4).toNat 0) * drawnM ns (base + 70) 2)))), .fr (.int (([3, 3, 12, 1 + g] : List Int).getD (drawnM ns (base + 71) 4).toNat 0)), .fr (.int (drawnM ns (base + 2 + row.length) (([3, 3, 12, 1 + g] : List Int).getD (drawnM ns (base + 71) 4).toNat 0) * drawnM ns (base + 70) 2))]) ?_
    refine does_seq (does_asgi (ev_ixL (Evf.r (evf_lst (evaf_cons (Evr.f ev_int True.intro) (evaf_cons (Evr.f ev_int True.intro) (evaf_cons (Evr.f ev_int True.intro) (evaf_cons (Evr.f (ev_add ev_int (ev_var rfl)) True.intro) evaf_nil))))))
      (ev_call (eva_cons (ev_var rfl) (eva_cons (ev_add (ev_var rfl) ev_int) (eva_cons ev_int eva_nil))) (cal (by omega) (by omega) (by decide))) ex)) ?_
    refine does_seq (does_asgi (ev_mul (ev_call (eva_cons (ev_var rfl) (eva_cons (ev_add (ev_add (ev_var rfl) ev_int) (ev_len (ev_var rfl))) (eva_cons (ev_var rfl) eva_nil))) (cal (by omega) (by omega) hp)) (ev_call (eva_cons (ev_var rfl) (eva_cons (ev_add (ev_var rfl) ev_int) (eva_cons ev_int eva_nil))) (cal (by omega) (by omega) (by decide))) (mul_r (by omega)))) ?_
    refine does_seq (does_asgi (ev_min2 (ev_var rfl) (ev_sub (ev_var rfl) (ev_var rfl)))) ?_
    refine does_seq (does_asgi (ev_max2 ev_int (ev_var rfl))) ?_
    refine does_seq (does_appi rfl (ev_var rfl) (by omega)) ?_
    exact does_asgi (ev_sub (ev_var rfl) (ev_var rfl))
  · exact (et_test (ev_gt (ev_var rfl) ev_int)).cast (decide_eq_false hn)
/-! ## beads -/
/-- the places of m beads that tell r -/
def beadsM (r : List Int) (m : Nat) : List Int := (List.range m).map fun k : Nat => gi r ((m : Int) - 1 - k) + k
/-- places that beads have -/
structure Rises (ps : List Int) : Prop where
  nn : ∀ x ∈ ps, 0 ≤ x
  rise : ps.Pairwise (· < ·)
/-- how many beads are lesser, taken off, the greatest first -/
def offM (ps : List Int) : List Int := ((List.range ps.length).map fun k : Nat => gi ps k - k).reverse
def rowOfM (ps : List Int) : List Int := (offM ps).filter fun x => decide (0 < x)
theorem gi_out {r : List Int} {i : Int} (h : r.length ≤ i.toNat) : gi r i = 0 := by
  unfold gi
  rw [List.getD_eq_getElem?_getD, List.getElem?_eq_none h]
  rfl
theorem gi_cons_succ (x : Int) (r : List Int) (i : Nat) : gi (x :: r) ((i + 1 : Nat) : Int) = gi r i := by
  unfold gi
  rw [Int.toNat_natCast, Int.toNat_natCast]
  rfl
theorem gi_append_zeros (r : List Int) (n : Nat) (i : Int) : gi (r ++ List.replicate n 0) i = gi r i := by
  unfold gi
  rw [List.getD_eq_getElem?_getD, List.getD_eq_getElem?_getD, List.getElem?_append]
  split
  · rfl
  · rename_i h
    rw [List.getElem?_eq_none (l := r) (by omega), List.getElem?_replicate]
    split <;> rfl
theorem Row.gi_nn {r : List Int} (h : Row r) (i : Int) : 0 ≤ gi r i := by
  by_cases hl : i.toNat < r.length
  · have e : gi r i = r[i.toNat] := by
      unfold gi
      rw [List.getD_eq_getElem?_getD, List.getElem?_eq_getElem hl]
      rfl
    have := h.pos _ (List.getElem_mem hl)
    omega
  · rw [gi_out (by omega)]; exact Int.le_refl _
theorem Row.gi_anti {r : List Int} (h : Row r) {i j : Int} (h0 : 0 ≤ i) (hij : i ≤ j) : gi r j ≤ gi r i := by
  by_cases hl : j.toNat < r.length
  · have e : gi r j = r[j.toNat] := by
      have := gi_get hl
      rwa [Int.toNat_of_nonneg (by omega)] at this
    have e2 : gi r i = r[i.toNat]'(by omega) := by
      have := gi_get (r := r) (i := i.toNat) (by omega)
      rwa [Int.toNat_of_nonneg (by omega)] at this
    rw [e, e2]
    exact h.le (by omega) hl
  · rw [gi_out (i := j) (by omega)]
    exact h.gi_nn i
theorem beads_len (r : List Int) (m : Nat) : (beadsM r m).length = m := by unfold beadsM; rw [List.length_map, List.length_range]
theorem beads_get {r : List Int} {m k : Nat} (h : k < m) : gi (beadsM r m) k = gi r ((m : Int) - 1 - k) + k := by
  rw [gi_get (by rw [beads_len]; exact h)]
  simp [beadsM]
theorem gi_mem {r : List Int} {i : Nat} (h : i < r.length) : gi r i ∈ r := by
  rw [gi_get h]; exact List.getElem_mem h
theorem mem_gi {r : List Int} {x : Int} (h : x ∈ r) : ∃ i : Nat, i < r.length ∧ gi r i = x := by
  obtain ⟨i, hi, e⟩ := List.getElem_of_mem h
  exact ⟨i, hi, by rw [gi_get hi, e]⟩
theorem beads_rises {r : List Int} (h : Row r) (m : Nat) : Rises (beadsM r m) := by
  refine ⟨fun x hx => ?_, List.pairwise_iff_getElem.mpr fun i j hi hj hij => ?_⟩
  · obtain ⟨k, hk, rfl⟩ := mem_gi hx
    rw [beads_len] at hk
    rw [beads_get hk]
    have := h.gi_nn ((m : Int) - 1 - k)
    omega
  · rw [← gi_get hi, ← gi_get hj]
    rw [beads_len] at hi hj
    rw [beads_get hi, beads_get hj]
    have := h.gi_anti (i := (m : Int) - 1 - j) (j := (m : Int) - 1 - i) (by omega) (by omega)
    omega
theorem off_len (ps : List Int) : (offM ps).length = ps.length := by unfold offM; rw [List.length_reverse, List.length_map, List.length_range]
theorem off_get {ps : List Int} {k : Nat} (h : k < ps.length) : gi (offM ps) k = gi ps ((ps.length : Int) - 1 - k) - ((ps.length : Int) - 1 - k) := by
  rw [gi_get (by rw [off_len]; exact h)]
  unfold offM
  rw [List.getElem_reverse]
  simp only [List.length_map, List.length_range, List.getElem_map, List.getElem_range]
  rw [show ((ps.length - 1 - k : Nat) : Int) = (ps.length : Int) - 1 - k by omega]
theorem Rises.gi_lt {ps : List Int} (h : Rises ps) {i j : Nat} (hij : i < j) (hj : j < ps.length) : gi ps i < gi ps j := by
  rw [gi_get hj, gi_get (show i < ps.length by omega)]
  exact List.pairwise_iff_getElem.mp h.rise i j (by omega) hj hij
theorem Rises.gi_ge {ps : List Int} (h : Rises ps) : ∀ {k : Nat}, k < ps.length → (k : Int) ≤ gi ps k
  | 0, hk => h.nn _ (gi_mem hk)
  | k + 1, hk => by
    have := Rises.gi_ge h (k := k) (by omega)
    have := h.gi_lt (i := k) (j := k + 1) (Nat.lt_succ_self k) hk
    omega
theorem Rises.gi_step {ps : List Int} (h : Rises ps) {i j : Nat} (hij : i ≤ j) (hj : j < ps.length) : gi ps i - i ≤ gi ps j - j := by
  induction j with
  | zero => rw [Nat.le_zero.mp hij]; exact Int.le_refl _
  | succ j ih =>
    by_cases e : i = j + 1
    · subst e; exact Int.le_refl _
    · have := ih (by omega) (by omega)
      have := h.gi_lt (i := j) (j := j + 1) (Nat.lt_succ_self j) hj
      omega
theorem off_fall {ps : List Int} (h : Rises ps) : (∀ x ∈ offM ps, 0 ≤ x) ∧ (offM ps).Pairwise (fun a b => b ≤ a) := by
  refine ⟨fun x hx => ?_, List.pairwise_iff_getElem.mpr fun i j hi hj hij => ?_⟩
  · obtain ⟨k, hk, rfl⟩ := mem_gi hx
    rw [off_len] at hk
    rw [off_get hk]
    have := h.gi_ge (k := ps.length - 1 - k) (by omega)
    rw [show ((ps.length - 1 - k : Nat) : Int) = (ps.length : Int) - 1 - k by omega] at this
    omega
  · rw [← gi_get hi, ← gi_get hj]
    rw [off_len] at hi hj
    rw [off_get hi, off_get hj]
    have := h.gi_step (i := ps.length - 1 - j) (j := ps.length - 1 - i) (by omega) (by omega)
    rw [show ((ps.length - 1 - j : Nat) : Int) = (ps.length : Int) - 1 - j by omega, show ((ps.length - 1 - i : Nat) : Int) = (ps.length : Int) - 1 - i by omega] at this
    omega
theorem gi_pos_filter : ∀ {l : List Int}, (∀ x ∈ l, 0 ≤ x) → l.Pairwise (fun a b => b ≤ a) → ∀ i : Nat, gi (l.filter fun x => decide (0 < x)) i = gi l i
  | [], _, _, _ => rfl
  | x :: t, hn, hp, i => by
    have hp' := List.pairwise_cons.mp hp
    have ih := gi_pos_filter (l := t) (fun y m => hn y (List.mem_cons_of_mem _ m)) hp'.2
    rw [List.filter_cons]
    by_cases h : 0 < x
    · rw [if_pos (decide_eq_true h)]
      cases i with
      | zero => rfl
      | succ i => rw [gi_cons_succ, gi_cons_succ]; exact ih i
    · rw [if_neg (by simpa using h)]
      have hx := hn x List.mem_cons_self
      have e : t.filter (fun x => decide (0 < x)) = [] := List.filter_eq_nil_iff.mpr fun y m => by
        have := hp'.1 y m
        simp
        omega
      have hz : ∀ y ∈ x :: t, y = 0 := fun y m => by
        rcases List.mem_cons.mp m with rfl | m
        · omega
        · have := hp'.1 y m
          have := hn y (List.mem_cons_of_mem _ m)
          omega
      rw [e]
      show (0 : Int) = _
      by_cases hi : i < (x :: t).length
      · rw [hz _ (gi_mem hi)]
      · rw [gi_out (by rw [Int.toNat_natCast]; omega)]
theorem rowOf_row {ps : List Int} (h : Rises ps) : Row (rowOfM ps) :=
  ⟨fun x m => by have := of_decide_eq_true (List.mem_filter.mp m).2; omega, List.Pairwise.filter _ (off_fall h).2⟩
theorem rowOf_len (ps : List Int) : (rowOfM ps).length ≤ ps.length := Nat.le_trans (List.length_filter_le _ _) (Nat.le_of_eq (off_len ps))
theorem rowOf_get {ps : List Int} (h : Rises ps) {k : Nat} (hk : k < ps.length) : gi (rowOfM ps) ((ps.length : Int) - 1 - k) = gi ps k - k := by
  have e := gi_pos_filter (off_fall h).1 (off_fall h).2 (ps.length - 1 - k)
  have q := off_get (ps := ps) (k := ps.length - 1 - k) (by omega)
  rw [show ((ps.length - 1 - k : Nat) : Int) = (ps.length : Int) - 1 - k by omega] at e q
  unfold rowOfM
  rw [e, q, show (ps.length : Int) - 1 - ((ps.length : Int) - 1 - k) = k by omega]
theorem beads_rowOf {ps : List Int} (h : Rises ps) : beadsM (rowOfM ps) ps.length = ps := by
  refine eq_of_gi (beads_len _ _) fun k hk => ?_
  rw [beads_get hk, rowOf_get h hk]
  omega
theorem row_eq {r s : List Int} (hr : Row r) (hs : Row s) (h : ∀ i : Nat, gi r i = gi s i) : r = s := by
  have hl : r.length = s.length := by
    rcases Nat.lt_trichotomy r.length s.length with c | c | c
    · have := h r.length
      rw [gi_out (r := r) (by rw [Int.toNat_natCast]; exact Nat.le_refl _)] at this
      have := hs.pos _ (gi_mem c)
      omega
    · exact c
    · have := h s.length
      rw [gi_out (r := s) (by rw [Int.toNat_natCast]; exact Nat.le_refl _)] at this
      have := hr.pos _ (gi_mem c)
      omega
  exact eq_of_gi hl fun i _ => h i
theorem rowOf_beads {r : List Int} (h : Row r) {m : Nat} (hm : r.length ≤ m) : rowOfM (beadsM r m) = r := by
  have hR := beads_rises h m
  refine row_eq (rowOf_row hR) h fun i => ?_
  by_cases hi : i < m
  · have e := rowOf_get hR (k := m - 1 - i) (by rw [beads_len]; omega)
    rw [beads_len, beads_get (show m - 1 - i < m by omega)] at e
    rw [show (m : Int) - 1 - ((m - 1 - i : Nat) : Int) = i by omega] at e
    omega
  · rw [gi_out (r := r) (by rw [Int.toNat_natCast]; omega), gi_out]
    have := rowOf_len (beadsM r m)
    rw [beads_len] at this
    rw [Int.toNat_natCast]
    omega
/-- lists that rise, one within the other -/
theorem incr_sub : ∀ {B A : List Int}, A.Pairwise (· < ·) → B.Pairwise (· < ·) → (∀ x ∈ A, x ∈ B) → A.Sublist B
  | [], [], _, _, _ => List.Sublist.slnil
  | [], a :: _, _, _, h => absurd (h a List.mem_cons_self) (by simp)
  | _ :: _, [], _, _, _ => List.nil_sublist _
  | b :: B, a :: A, hA, hB, h => by
    have hA' := List.pairwise_cons.mp hA
    have hB' := List.pairwise_cons.mp hB
    by_cases e : a = b
    · subst e
      refine List.Sublist.cons_cons _ (incr_sub hA'.2 hB'.2 fun x m => ?_)
      rcases List.mem_cons.mp (h x (List.mem_cons_of_mem _ m)) with rfl | q
      · exact absurd (hA'.1 x m) (Int.lt_irrefl _)
      · exact q
    · have ha : a ∈ B := by
        rcases List.mem_cons.mp (h a List.mem_cons_self) with q | q
        · exact absurd q e
        · exact q
      refine List.Sublist.cons _ (incr_sub hA hB'.2 fun x m => ?_)
      rcases List.mem_cons.mp (h x m) with rfl | q
      · have hb := hB'.1 a ha
        rcases List.mem_cons.mp m with rfl | m
        · exact absurd rfl e
        · have := hA'.1 x m
          omega
      · exact q
theorem incr_eq {A B : List Int} (hA : A.Pairwise (· < ·)) (hB : B.Pairwise (· < ·)) (h : ∀ x, x ∈ A ↔ x ∈ B) : A = B :=
  (incr_sub hA hB fun x m => (h x).mp m).eq_of_length_le (incr_sub hB hA fun x m => (h x).mpr m).length_le
theorem set_mapR {m j : Nat} {f g : Nat → Int} {v : Int} (h : ∀ k, k < m → k ≠ j → f k = g k) (hv : g j = v) : ((List.range m).map f).set j v = (List.range m).map g := by
  refine List.ext_getElem (by simp) fun k h1 h2 => ?_
  rw [List.getElem_set]
  simp only [List.getElem_map, List.getElem_range]
  split
  · rename_i e; subst e; exact hv.symm
  · rename_i e
    exact h k (by simpa using h2) (fun z => e z.symm)
theorem gi_mapR {m k : Nat} (f : Nat → Int) (h : k < m) : gi ((List.range m).map f) k = f k := by
  rw [gi_get (by simpa using h)]
  simp
theorem len_mapR {m : Nat} (f : Nat → Int) : ((List.range m).map f).length = m := by simp
abbrev N_beads : List Str := ["row", "many", "whole", "k"]
def rd_beads (K : Frg) (C : Ec) (W : WX) : TS := (tSeq (tIfS (tTest (tOp rLtI (tVar 1) (tCB (rLenA K) (tCons (tVar 0) tNil))))
  (tRz W C.TooFew) tNext)
  (tSeq (tAsg (tOp rAddA (tVar 0) (tOp rMulA (tLst (tCons (tC (.int 0)) tNil)) (tOp rSubI (tVar 1) (tCB (rLenA K) (tCons (tVar 0) tNil))))) (gName 2))
  (tRet (tLc (iRng1 (tCons (tVar 1) tNil)) (gName 3) tYes (tOp rAddA (tOp (rIx K) (tVar 2) (tOp rSubI (tOp rSubI (tVar 1) (tC (.int 1))) (tVar 3))) (tVar 3)) [3]))))
def R_beads (C : Ec) (ds : List PyData) (o : Except Addr PyData) : Prop := ∃ (r : List Int) (m : Int), ds = [dR r, .int m] ∧ r.length ≤ 100000 ∧ m ≤ 100000 ∧ ((m < r.length ∧ o = .error C.TooFew) ∨ (r.length ≤ m ∧ o = .ok (dR (beadsM r m.toNat))))
theorem len_beads {C : Ec} (ds : List PyData) (o : Except Addr PyData) : R_beads C ds o → ds.length = ["row", "many"].length := by
  rintro ⟨_, _, rfl, _⟩; rfl
theorem does_beads {K : Frg} {C : Ec} {W : WX} {ds : List PyData} {o : Except Addr PyData} : R_beads C ds o → FnDoes K W (rd_beads K C W) (entry N_beads ds) o := by
  rintro ⟨r, m, rfl, hr, hm, ⟨hlt, rfl⟩ | ⟨hle, rfl⟩⟩
  · refine ⟨[.fr (dR r), .fr (.int m), .no, .no], ?_⟩
    exact does_seq_ex (does_if (b := true) ((et_test (ev_lt (ev_var rfl) (ev_len (ev_var rfl)))).cast (decide_eq_true hlt)) (fun _ => does_rz) fun z => nomatch z)
  · refine .inl ?_
    show Does K W (rd_beads K C W) [.fr (dR r), .fr (.int m), .no, .no] (.rt (dR (beadsM r m.toNat)))
    refine does_seq (ρ1 := [.fr (dR r), .fr (.int m), .no, .no]) (does_if (b := false) ((et_test (ev_lt (ev_var rfl) (ev_len (ev_var rfl)))).cast (decide_eq_false (by omega))) (fun z => nomatch z) fun _ => does_next) ?_
    have e1 : (List.replicate (m - r.length).toNat [(0 : Int)]).flatten = List.replicate (m - r.length).toNat 0 := by
      induction (m - r.length).toNat with
      | zero => rfl
      | succ n ih => rw [List.replicate_succ, List.flatten_cons, ih]; rfl
    refine does_seq (does_asg (evf_cat (ev_var rfl) (Evf.r (Evf.cast (evf_rep (r := [0]) (Evf.r (Evf.cast (evf_lst (evaf_cons (Evr.f ev_int True.intro) evaf_nil)) rfl)) (ev_sub (ev_var rfl) (ev_len (ev_var rfl))) (by omega) (by rw [List.length_singleton]; omega)) (by rw [e1]))) (by rw [List.length_replicate]; omega))) ?_
    refine does_ret (Evf.cast (evf_mapR (fun k : Nat => gi r (m - 1 - k) + k) (eva_cons (ev_var rfl) eva_nil) (by omega) (by omega) fun k hk => Evr.cast (ev_add (ev_ix (ev_var rfl) (ev_sub (ev_sub (ev_var rfl) ev_int) (ev_var rfl)) (by omega) (by rw [List.length_append, List.length_replicate]; omega)) (ev_var rfl)) (by rw [gi_append_zeros])) ?_)
    unfold beadsM
    rw [Int.toNat_of_nonneg (by omega)]
abbrev N_row_of : List Str := ["places", "k", "numbers", "number"]
def rd_row_of (K : Frg) (C : Ec) (W : WX) : TS := (tSeq (tFor (iRng1 (tCons (tCB (rLenA K) (tCons (tVar 0) tNil)) tNil)) (gName 1)
  (tIfS (tOr (tTest (tOp rLtI (tOp (rIx K) (tVar 0) (tVar 1)) (tC (.int 0)))) (tAnd (tTest (tOp rGtI (tVar 1) (tC (.int 0)))) (tTest (tOp rGeI (tOp (rIx K) (tVar 0) (tOp rSubI (tVar 1) (tC (.int 1)))) (tOp (rIx K) (tVar 0) (tVar 1))))))
  (tRz W C.NoBeads) tNext))
  (tSeq (tAsg (tLc (iRng1 (tCons (tCB (rLenA K) (tCons (tVar 0) tNil)) tNil)) (gName 1) tYes (tOp rSubI (tOp (rIx K) (tVar 0) (tVar 1)) (tVar 1)) [1]) (gName 2))
  (tSeq (tDrop (tBM0 K "list" rReverse (tVar 2)))
  (tRet (tLc (iList K (tVar 2)) (gName 3) (tTest (tOp rGtI (tVar 3) (tC (.int 0)))) (tVar 3) [3])))))
def riseAt (ps : List Int) (k : Nat) : Bool := !(decide (gi ps (k : Int) < 0) || (decide (0 < (k : Int)) && decide (gi ps (k : Int) ≤ gi ps ((k : Int) - 1))))
theorem rises_of {ps : List Int} (h : ∀ k : Nat, k < ps.length → riseAt ps k = true) : Rises ps := by
  have h1 : ∀ k : Nat, k < ps.length → 0 ≤ gi ps k := fun k hk => by
    have := h k hk
    unfold riseAt at this
    simp at this
    exact this.1
  have h2 : ∀ k : Nat, k + 1 < ps.length → gi ps k < gi ps ((k + 1 : Nat) : Int) := fun k hk => by
    have := h (k + 1) hk
    unfold riseAt at this
    simp at this
    rw [show ((k + 1 : Nat) : Int) = (k : Int) + 1 by omega]
    exact this.2
  refine ⟨fun x m => ?_, List.pairwise_iff_getElem.mpr fun i j hi hj hij => ?_⟩
  · obtain ⟨k, hk, rfl⟩ := mem_gi m
    exact h1 k hk
  · rw [← gi_get hi, ← gi_get hj]
    induction j with
    | zero => omega
    | succ j ih =>
      have q := h2 j hj
      by_cases e : i = j
      · subst e; exact q
      · have := ih (by omega) (by omega)
        omega
theorem Rises.at_ {ps : List Int} (h : Rises ps) {k : Nat} (hk : k < ps.length) : riseAt ps k = true := by
  unfold riseAt
  have h1 := h.nn _ (gi_mem hk)
  have h2 : 0 < (k : Int) → gi ps ((k : Int) - 1) < gi ps (k : Int) := fun hp => by
    have := h.gi_lt (i := k - 1) (j := k) (by omega) hk
    rwa [show ((k - 1 : Nat) : Int) = (k : Int) - 1 by omega] at this
  by_cases hp : 0 < (k : Int)
  · have := h2 hp
    simp
    omega
  · simp
    omega
def R_row_of (C : Ec) (ds : List PyData) (o : Except Addr PyData) : Prop := ∃ ps : List Int, ds = [dR ps] ∧ ps.length ≤ 100000 ∧ ((Rises ps ∧ o = .ok (dR (rowOfM ps))) ∨ (¬ Rises ps ∧ o = .error C.NoBeads))
theorem len_row_of {C : Ec} (ds : List PyData) (o : Except Addr PyData) : R_row_of C ds o → ds.length = ["places"].length := by
  rintro ⟨_, rfl, _⟩; rfl
theorem does_row_of {K : Frg} {C : Ec} {W : WX} {ds : List PyData} {o : Except Addr PyData} : R_row_of C ds o → FnDoes K W (rd_row_of K C W) (entry N_row_of ds) o := by
  rintro ⟨ps, rfl, hl, ho⟩
  have key : ∀ i : Nat, (i : Int) < ps.length → Evt K (tOr (tTest (tOp rLtI (tOp (rIx K) (tVar 0) (tVar 1)) (tC (.int 0)))) (tAnd (tTest (tOp rGtI (tVar 1) (tC (.int 0)))) (tTest (tOp rGeI (tOp (rIx K) (tVar 0) (tOp rSubI (tVar 1) (tC (.int 1)))) (tOp (rIx K) (tVar 0) (tVar 1))))))
      ((er [.fr (dR ps), .no, .no, .no]).set 1 (some (.int (i : Int)))) (!riseAt ps i) := fun i hi => by
    unfold riseAt
    rw [Bool.not_not]
    refine et_or (et_test (ev_lt (ev_ix (ev_var rfl) (ev_var rfl) (by omega) hi) ev_int)) fun _ => et_and (et_test (ev_gt (ev_var rfl) ev_int)) fun h => ?_
    have h0 : 0 < (i : Int) := of_decide_eq_true h
    exact et_test (ev_ge (ev_ix (ev_var rfl) (ev_sub (ev_var rfl) ev_int) (by omega) (by omega)) (ev_ix (ev_var rfl) (ev_var rfl) (by omega) hi))
  rcases first_bad (riseAt ps) ps.length with hg | ⟨m, hm, hb, hg⟩
  · have hR := rises_of hg
    obtain ⟨_, rfl⟩ | ⟨z, _⟩ := ho
    case inr => exact absurd hR z
    refine .inl ?_
    show Does K W (rd_row_of K C W) [.fr (dR ps), .no, .no, .no] (.rt (dR (rowOfM ps)))
    refine does_seq (does_chkR (eva_cons (ev_len (ev_var rfl)) eva_nil) (by omega) (by omega) fun i hi => chk_if (key i hi) (fun z => ?_) fun _ => chk_next) ?_
    · rw [hg i (by omega)] at z; cases z
    refine does_seq (does_asg (evf_mapR (fun k : Nat => gi ps k - k) (eva_cons (ev_len (ev_var rfl)) eva_nil) (by omega) (by omega) fun k hk => ev_sub (ev_ix (ev_var rfl) (ev_var rfl) (by omega) (by omega)) (ev_var rfl))) ?_
    refine does_seq (does_rev rfl) ?_
    rw [Int.toNat_natCast]
    exact does_ret (evf_fil (r := offM ps) (fun x => decide (0 < x)) (ev_var rfl) (by rw [off_len]; omega) (fun x _ => et_test (ev_gt (ev_var rfl) ev_int)) (by show 3 < 4; decide))
  · have hR : ¬ Rises ps := fun z => by
      rw [z.at_ hm] at hb
      cases hb
    obtain ⟨z, _⟩ | ⟨_, rfl⟩ := ho
    · exact absurd z hR
    refine ⟨[.fr (dR ps), .no, .no, .no], ?_⟩
    exact does_seq_ex (does_chkRx (o := .ex C.NoBeads) (eva_cons (ev_len (ev_var rfl)) eva_nil) (by omega) m (by omega) (fun i hi => chk_if (key i (by omega)) (fun z => by rw [hg i hi] at z; cases z) fun _ => chk_next)
      (chk_if (key m (by omega)) (fun _ => chk_rz) fun z => by rw [hb] at z; cases z) (fun z => nomatch z) fun _ z => nomatch z)
abbrev N_pairs : List Str := ["places", "found", "bead", "gap"]
def rd_pairs (K : Frg) (C : Ec) (W : WX) : TS := (tSeq (tDrop (tCallS (spOf K (R_row_of C)) (WE W) (tCons (tVar 0) tNil)))
  (tSeq (tAsg (tLst tNil) (gName 1))
  (tSeq (tFor (iList K (tVar 0)) (gName 2)
  (tFor (iRng1 (tCons (tVar 2) tNil)) (gName 3)
  (tIfS (tTest (tOp (rNiA K) (tVar 3) (tVar 0)))
  (tDrop (tBM K "list" rAppend (tVar 1) (tCons (tTup (tCons (tVar 2) (tCons (tVar 3) tNil))) tNil))) tNext)))
  (tRet (tVar 1)))))
abbrev dP (p : Int × Int) : PyData := .tuple [.int p.1, .int p.2]
def gapsM (ps : List Int) (n : Nat) : List Int := ((List.range n).map fun g : Nat => (g : Int)).filter fun g => decide (g ∉ ps)
def pairsM (ps : List Int) : List (Int × Int) := ps.flatMap fun b => (gapsM ps b.toNat).map fun g => (b, g)
theorem gaps_succ (ps : List Int) (n : Nat) : gapsM ps (n + 1) = gapsM ps n ++ (if (n : Int) ∈ ps then [] else [(n : Int)]) := by
  unfold gapsM
  rw [List.range_succ, List.map_append, List.filter_append, List.map_singleton, List.filter_cons]
  by_cases h : (n : Int) ∈ ps
  · rw [if_pos h, if_neg (by simpa using h)]; rfl
  · rw [if_neg h, if_pos (by simpa using h)]; rfl
theorem gaps_len (ps : List Int) (n : Nat) : (gapsM ps n).length ≤ n := Nat.le_trans (List.length_filter_le _ _) (by simp)
theorem pairs_len (ps : List Int) (q : List Int) (h : ∀ x ∈ q, x ≤ 1000) : (q.flatMap fun b => (gapsM ps b.toNat).map fun g => (b, g)).length ≤ 1000 * q.length := by
  induction q with
  | nil => exact Nat.le_refl _
  | cons b q ih =>
    rw [List.flatMap_cons, List.length_append, List.length_map, List.length_cons]
    have := ih fun x m => h x (List.mem_cons_of_mem _ m)
    have := gaps_len ps b.toNat
    have := h b List.mem_cons_self
    omega
def R_pairs (C : Ec) (ds : List PyData) (o : Except Addr PyData) : Prop := ∃ ps : List Int, ds = [dR ps] ∧ ps.length ≤ 900 ∧ (∀ x ∈ ps, x ≤ 1000) ∧ ((Rises ps ∧ o = .ok (.list ((pairsM ps).map dP))) ∨ (¬ Rises ps ∧ o = .error C.NoBeads))
theorem len_pairs {C : Ec} (ds : List PyData) (o : Except Addr PyData) : R_pairs C ds o → ds.length = ["places"].length := by
  rintro ⟨_, rfl, _⟩; rfl
theorem does_pairs {K : Frg} {C : Ec} {W : WX} {ds : List PyData} {o : Except Addr PyData} : R_pairs C ds o → FnDoes K W (rd_pairs K C W) (entry N_pairs ds) o := by
  rintro ⟨ps, rfl, hl, hb, ⟨hR, rfl⟩ | ⟨hR, rfl⟩⟩
  · refine .inl ?_
    show Does K W (rd_pairs K C W) [.fr (dR ps), .no, .no, .no] (.rt (.list ((pairsM ps).map dP)))
    refine does_seq (does_drop (Evf.r (evf_callS (eva_cons (ev_var rfl) eva_nil) ⟨ps, rfl, by omega, .inl ⟨hR, rfl⟩⟩))) ?_
    refine does_seq (does_asg (evf_lst evaf_nil)) ?_
    let P : Nat → List (Int × Int) := fun i => (ps.take i).flatMap fun b => (gapsM ps b.toNat).map fun g => (b, g)
    have hP : ∀ i, (P i).length ≤ 1000 * i := fun i => Nat.le_trans (pairs_len ps _ fun x m => hb x (List.mem_of_mem_take m)) (Nat.mul_le_mul_left _ (List.length_take_le _ _))
    refine does_seq (does_forv (cd := PyData.int) (xs := ps) rfl (fun i => [.fr (dR ps), .ow (.list ((P i).map dP)), .no, .no]) rfl fun i x hx => ⟨[.fr (dR ps), .ow (.list ((P (i + 1)).map dP)), .fr (.int x), .no], ?_, rfl⟩) ?_
    · have hxm : x ∈ ps := List.mem_of_getElem? hx
      have hx0 := hR.nn x hxm
      have hx1 := hb x hxm
      have hil : i < ps.length := (List.getElem?_eq_some_iff.mp hx).1
      have e1 : P (i + 1) = P i ++ (gapsM ps x.toNat).map fun g => (x, g) := by
        show (ps.take (i + 1)).flatMap _ = _
        rw [take_succ_some hx, List.flatMap_append]
        simp [P]
      rw [e1]
      refine does_forR (n := x) (eva_cons (ev_var rfl) eva_nil) (by omega) (by omega) (fun j => [.fr (dR ps), .ow (.list ((P i ++ (gapsM ps j).map fun g => (x, g)).map dP)), .fr (.int x), .no]) (by simp [gapsM]) fun j hj =>
        ⟨[.fr (dR ps), .ow (.list ((P i ++ (gapsM ps (j + 1)).map fun g => (x, g)).map dP)), .fr (.int x), .fr (.int j)], ?_, rfl⟩
      rw [gaps_succ]
      by_cases hm : (j : Int) ∈ ps
      · rw [if_pos hm, List.append_nil]
        exact does_iff ((et_test (ev_ni (ev_var rfl) (ev_var rfl))).cast (by simp [hm])) does_next
      · rw [if_neg hm, show (P i ++ (gapsM ps j ++ [(j : Int)]).map fun g => (x, g)).map dP = (P i ++ (gapsM ps j).map fun g => (x, g)).map dP ++ [dP (x, (j : Int))] by simp]
        refine does_ift ((et_test (ev_ni (ev_var rfl) (ev_var rfl))).cast (by simp [hm])) (does_app rfl (evf_tup (evaf_cons (Evr.f (ev_var rfl) True.intro) (evaf_cons (Evr.f (ev_var rfl) True.intro) evaf_nil))) ?_)
        rw [List.length_map, List.length_append, List.length_map]
        have := hP i
        have := gaps_len ps j
        omega
    · rw [show P ps.length = pairsM ps by show (ps.take ps.length).flatMap _ = _; rw [List.take_length]; rfl]
      exact does_retv rfl
  · exact ⟨[.fr (dR ps), .no, .no, .no], does_seq_ex (does_dropx (evx_callS (eva_cons (ev_var rfl) eva_nil) ⟨ps, rfl, by omega, .inr ⟨hR, rfl⟩⟩))⟩
/-! ## gaps, and the hooks -/
/-- how many places are lesser -/
def lessN (ps : List Int) (x : Int) : Nat := (ps.filter fun p => decide (p < x)).length
theorem lessN_cons (p : Int) (ps : List Int) (x : Int) : lessN (p :: ps) x = (if p < x then 1 else 0) + lessN ps x := by
  unfold lessN
  rw [List.filter_cons]
  by_cases h : p < x
  · rw [if_pos (decide_eq_true h), if_pos h, List.length_cons]; omega
  · rw [if_neg (by simpa using h), if_neg h]; omega
theorem lessN_append (ps qs : List Int) (x : Int) : lessN (ps ++ qs) x = lessN ps x + lessN qs x := by
  unfold lessN
  rw [List.filter_append, List.length_append]
theorem lessN_succ : ∀ {ps : List Int}, ps.Nodup → ∀ n : Int, lessN ps (n + 1) = lessN ps n + if n ∈ ps then 1 else 0
  | [], _, n => by rw [if_neg (by simp)]; rfl
  | p :: ps, h, n => by
    have h' := List.nodup_cons.mp h
    rw [lessN_cons, lessN_cons, lessN_succ h'.2]
    by_cases e : p = n
    · subst e
      rw [if_neg h'.1, if_pos (show p < p + 1 by omega), if_neg (show ¬ p < p by omega), if_pos (List.mem_cons_self)]
      omega
    · by_cases m : n ∈ ps
      · rw [if_pos m, if_pos (List.mem_cons_of_mem _ m)]
        by_cases c : p < n
        · rw [if_pos c, if_pos (by omega)]; omega
        · rw [if_neg c, if_neg (by omega)]; omega
      · rw [if_neg m, if_neg (fun z => (List.mem_cons.mp z).elim (fun q => e q.symm) m)]
        by_cases c : p < n
        · rw [if_pos c, if_pos (by omega)]; omega
        · rw [if_neg c, if_neg (by omega)]; omega
theorem Rises.nodup {ps : List Int} (h : Rises ps) : ps.Nodup := List.Pairwise.imp (fun h => Int.ne_of_lt h) h.rise
theorem lessN_none {ps : List Int} {x : Int} (h : ∀ p ∈ ps, x ≤ p) : lessN ps x = 0 := by
  unfold lessN
  rw [List.filter_eq_nil_iff.mpr fun p m => by have := h p m; simpa using this]
  rfl
theorem lessN_all {ps : List Int} {x : Int} (h : ∀ p ∈ ps, p < x) : lessN ps x = ps.length := by
  unfold lessN
  rw [List.filter_eq_self.mpr fun p m => by simpa using h p m]
theorem lessN_at {ps : List Int} (h : ps.Pairwise (· < ·)) {i : Nat} (hi : i < ps.length) : lessN ps (gi ps i) = i := by
  have e := List.take_append_drop i ps
  have hh : gi ps i = ps[i] := gi_get hi
  rw [← e] at h
  have hp := List.pairwise_append.mp h
  have hd : ps.drop i = ps[i] :: ps.drop (i + 1) := List.drop_eq_getElem_cons hi
  have q := lessN_append (ps.take i) (ps.drop i) (gi ps i)
  rw [e] at q
  rw [q, lessN_all, lessN_none, List.length_take, Nat.min_eq_left (by omega)]
  · omega
  · intro p m
    rw [hd] at m hp
    rcases List.mem_cons.mp m with rfl | m
    · omega
    · have := (List.pairwise_cons.mp hp.2.1).1 p m
      omega
  · intro p m
    rw [hh]
    exact hp.2.2 p m _ (by rw [hd]; exact List.mem_cons_self)
theorem gaps_count {ps : List Int} (h : Rises ps) : ∀ n : Nat, (gapsM ps n).length + lessN ps (n : Int) = n
  | 0 => by
    have := lessN_none (ps := ps) (x := ((0 : Nat) : Int)) (fun p m => h.nn p m)
    rw [this]; rfl
  | n + 1 => by
    rw [gaps_succ, List.length_append]
    have := gaps_count h n
    have e := lessN_succ h.nodup (n : Int)
    rw [show ((n + 1 : Nat) : Int) = (n : Int) + 1 by omega, e]
    by_cases m : (n : Int) ∈ ps
    · rw [if_pos m, if_pos m]
      simp only [List.length_nil]
      omega
    · rw [if_neg m, if_neg m]
      simp only [List.length_singleton]
      omega
theorem gaps_rise (ps : List Int) (n : Nat) : (gapsM ps n).Pairwise (· < ·) := by
  refine List.Pairwise.filter _ (List.pairwise_iff_getElem.mpr fun i j hi hj hij => ?_)
  simp only [List.getElem_map, List.getElem_range]
  omega
theorem mem_gaps {ps : List Int} {n : Nat} {x : Int} : x ∈ gapsM ps n ↔ 0 ≤ x ∧ x < n ∧ x ∉ ps := by
  unfold gapsM
  rw [List.mem_filter, List.mem_map]
  constructor
  · rintro ⟨⟨g, hg, rfl⟩, h⟩
    have := List.mem_range.mp hg
    exact ⟨by omega, by omega, by simpa using h⟩
  · rintro ⟨h0, h1, h2⟩
    exact ⟨⟨x.toNat, List.mem_range.mpr (by omega), by omega⟩, by simpa using h2⟩
theorem cnt_gi {r : List Int} (h : Row r) {t j : Nat} : (j : Int) < gi r t ↔ t < cnt r j := by
  by_cases ht : t < r.length
  · rw [gi_get ht]; exact cnt_iff h ht _
  · have := cnt_le r j
    rw [gi_out (by rw [Int.toNat_natCast]; omega)]
    omega
/-- the gaps below a bead -/
theorem gaps_row {r : List Int} (h : Row r) {m k : Nat} (hm : r.length ≤ m) (hk : k < m) : gapsM (beadsM r m) (gi r k + m - 1 - k).toNat = (List.range (gi r k).toNat).map fun j : Nat => (j : Int) + m - cnt r j := by
  have hR := beads_rises h m
  have hg0 := h.gi_nn (k : Int)
  refine (List.Sublist.eq_of_length (incr_sub ?_ (gaps_rise _ _) fun x hx => ?_) ?_).symm
  · refine List.pairwise_iff_getElem.mpr fun i j hi hj hij => ?_
    simp only [List.getElem_map, List.getElem_range]
    have := cnt_anti r (show (i : Int) ≤ j by omega)
    omega
  · obtain ⟨j, hj, rfl⟩ := List.mem_map.mp hx
    have hj' := List.mem_range.mp hj
    have c1 := (cnt_gi h (t := k) (j := j)).mp (by omega)
    have c2 := cnt_le r j
    refine mem_gaps.mpr ⟨by omega, by omega, fun z => ?_⟩
    obtain ⟨i, hi, e⟩ := mem_gi z
    rw [beads_len] at hi
    rw [beads_get hi, show (m : Int) - 1 - i = ((m - 1 - i : Nat) : Int) by omega] at e
    have c3 := cnt_gi h (t := m - 1 - i) (j := j)
    by_cases c : m - 1 - i < cnt r j
    · have := c3.mpr c
      omega
    · have : ¬ (j : Int) < gi r ((m - 1 - i : Nat) : Int) := fun z => c (c3.mp z)
      omega
  · have e1 : gi (beadsM r m) ((m - 1 - k : Nat) : Int) = gi r k + m - 1 - k := by
      rw [beads_get (by omega), show (m : Int) - 1 - ((m - 1 - k : Nat) : Int) = k by omega]
      omega
    have e2 := lessN_at hR.rise (i := m - 1 - k) (by rw [beads_len]; omega)
    have e3 := gaps_count hR (gi r k + m - 1 - k).toNat
    rw [show (((gi r k + m - 1 - k).toNat : Nat) : Int) = gi r k + m - 1 - k by omega, ← e1, e2] at e3
    rw [List.length_map, List.length_range, ← e1]
    omega
def lineM (r : List Int) (k : Nat) : List Int := (List.range (gi r k).toNat).map fun j : Nat => hookAt r k j
theorem diffs_eq {r : List Int} (h : Row r) {m : Nat} (hm : r.length ≤ m) : (pairsM (beadsM r m)).map (fun p => p.1 - p.2) = (List.range m).flatMap fun i => lineM r (m - 1 - i) := by
  unfold pairsM
  rw [List.map_flatMap]
  have e : ∀ (l : List Nat), (∀ i ∈ l, i < m) → (l.map fun i : Nat => gi r ((m : Int) - 1 - i) + i).flatMap (fun b => ((gapsM (beadsM r m) b.toNat).map fun g => (b, g)).map fun p => p.1 - p.2) = l.flatMap fun i => lineM r (m - 1 - i) := by
    intro l
    induction l with
    | nil => intro _; rfl
    | cons i l ih =>
      intro hl
      have hi := hl i List.mem_cons_self
      rw [List.map_cons, List.flatMap_cons, List.flatMap_cons, ih fun j hj => hl j (List.mem_cons_of_mem _ hj)]
      congr 1
      have q := gaps_row h hm (k := m - 1 - i) (by omega)
      have e1 : gi r ((m - 1 - i : Nat) : Int) + m - 1 - ((m - 1 - i : Nat) : Int) = gi r ((m : Int) - 1 - i) + i := by
        rw [show ((m - 1 - i : Nat) : Int) = (m : Int) - 1 - i by omega]
        omega
      rw [e1] at q
      rw [q, List.map_map, List.map_map]
      unfold lineM
      refine List.map_congr_left fun j _ => ?_
      show gi r ((m : Int) - 1 - i) + i - ((j : Int) + m - cnt r j) = hookAt r (m - 1 - i) j
      unfold hookAt
      rw [show ((m - 1 - i : Nat) : Int) = (m : Int) - 1 - i by omega]
      omega
  exact e (List.range m) fun i hi => List.mem_range.mp hi
theorem lines_eq (r : List Int) : hooksM r = (List.range r.length).map (lineM r) := rfl
theorem line_out {r : List Int} {k : Nat} (h : r.length ≤ k) : lineM r k = [] := by
  unfold lineM
  rw [gi_out (by rw [Int.toNat_natCast]; exact h)]
  rfl
theorem diffs_perm {r : List Int} (h : Row r) {m : Nat} (hm : r.length ≤ m) : ((pairsM (beadsM r m)).map fun p => p.1 - p.2).Perm (hooksM r).flatten := by
  rw [diffs_eq h hm, lines_eq, ← List.flatMap_def]
  have e1 : (List.range m).flatMap (fun i => lineM r (m - 1 - i)) = (List.range m).reverse.flatMap (lineM r) := by
    have : (List.range m).reverse = (List.range m).map fun i => m - 1 - i := by
      refine List.ext_getElem (by simp) fun i h1 h2 => ?_
      simp
    rw [this, List.flatMap_map]
  have e2 : (List.range m).flatMap (lineM r) = (List.range r.length).flatMap (lineM r) := by
    obtain ⟨d, rfl⟩ : ∃ d, m = r.length + d := ⟨m - r.length, by omega⟩
    clear hm e1
    induction d with
    | zero => rfl
    | succ d ih => rw [← Nat.add_assoc, List.range_succ, List.flatMap_append, ih, List.flatMap_singleton, line_out (by omega), List.append_nil]
  rw [e1, ← e2]
  exact (List.reverse_perm _).flatMap_right _
/-! ### sorted numbers -/
def sortI (r : List Int) : List Int := r.mergeSort fun a b => decide (a ≤ b)
theorem sortI_perm (r : List Int) : (sortI r).Perm r := List.mergeSort_perm _ _
theorem sortI_rise (r : List Int) : (sortI r).Pairwise (· ≤ ·) :=
  (List.pairwise_mergeSort (le := fun a b => decide (a ≤ b)) (fun a b c h1 h2 => by simp at *; omega) (fun a b => by simp; omega) r).imp fun h => of_decide_eq_true h
theorem sortI_eq {r s : List Int} (h : r.Perm s) : sortI r = sortI s := sorted_one ((sortI_perm r).trans (h.trans (sortI_perm s).symm)) (sortI_rise r) (sortI_rise s)
theorem sortI_self {r : List Int} (h : r.Pairwise (· ≤ ·)) : sortI r = r := sorted_one (sortI_perm r) (sortI_rise r) h
theorem sortI_len (r : List Int) : (sortI r).length = r.length := (sortI_perm r).length_eq
theorem sortI_mem {r : List Int} {x : Int} : x ∈ sortI r ↔ x ∈ r := (sortI_perm r).mem_iff
theorem map_gi (r : List Int) : (List.range r.length).map (fun k : Nat => gi r k) = r := by
  refine List.ext_getElem (by simp) fun i h1 h2 => ?_
  rw [List.getElem_map, List.getElem_range, gi_get h2]
theorem hooks_len {r : List Int} (h : Row r) : (((hooksM r).flatten).length : Int) = r.sum := by
  rw [lines_eq, ← List.flatMap_def]
  have e : ∀ n : Nat, n ≤ r.length → (((List.range n).flatMap (lineM r)).length : Int) = ((List.range n).map fun k : Nat => gi r k).sum := by
    intro n hn
    induction n with
    | zero => rfl
    | succ n ih =>
      rw [List.range_succ, List.flatMap_append, List.length_append, List.map_append, List.sum_append, Int.natCast_add, ih (by omega), List.flatMap_singleton, List.map_singleton, List.sum_singleton]
      have := h.gi_nn (n : Int)
      unfold lineM
      rw [List.length_map, List.length_range]
      omega
  rw [e _ (Nat.le_refl _), map_gi]
theorem mem_hooks {r : List Int} {x : Int} : x ∈ (hooksM r).flatten ↔ ∃ k j : Nat, k < r.length ∧ (j : Int) < gi r k ∧ x = hookAt r k j := by
  rw [lines_eq, List.mem_flatten]
  constructor
  · rintro ⟨l, hl, hx⟩
    obtain ⟨k, hk, rfl⟩ := List.mem_map.mp hl
    obtain ⟨j, hj, rfl⟩ := List.mem_map.mp hx
    have := List.mem_range.mp hj
    exact ⟨k, j, List.mem_range.mp hk, by omega, rfl⟩
  · rintro ⟨k, j, hk, hj, rfl⟩
    exact ⟨lineM r k, List.mem_map.mpr ⟨k, List.mem_range.mpr hk, rfl⟩, List.mem_map.mpr ⟨j, List.mem_range.mpr (by omega), rfl⟩⟩
theorem hook_bounds {r : List Int} (h : Row r) {k j : Nat} (hk : k < r.length) (hj : (j : Int) < gi r k) : 1 ≤ hookAt r k j ∧ hookAt r k j ≤ gi r 0 + r.length - 1 := by
  unfold hookAt
  have c1 := (cnt_gi h).mp hj
  have c2 := cnt_le r j
  have c3 := h.gi_anti (i := 0) (j := k) (by omega) (by omega)
  omega
/-! ## rods -/
/-- the heights on rod k of n -/
def rodM (ps : List Int) (n k : Nat) : List Int := (ps.filter fun p => decide (p % (n : Int) = k)).map fun p => p / (n : Int)
theorem dm {n k : Nat} (hk : k < n) (h : Int) : (h * n + k) / (n : Int) = h ∧ (h * n + k) % (n : Int) = k :=
  (Int.ediv_emod_unique (show (0 : Int) < n by omega)).mpr ⟨by rw [Int.mul_comm h]; omega, by omega, by omega⟩
theorem dm_back {n : Nat} (p : Int) : p / (n : Int) * n + p % (n : Int) = p := by
  have := Int.mul_ediv_add_emod p (n : Int)
  rw [Int.mul_comm] at this
  exact this
theorem mem_rod {ps : List Int} {n k : Nat} (hk : k < n) {h : Int} : h ∈ rodM ps n k ↔ h * n + k ∈ ps := by
  unfold rodM
  rw [List.mem_map]
  constructor
  · rintro ⟨p, hp, rfl⟩
    obtain ⟨h1, h2⟩ := List.mem_filter.mp hp
    have e := of_decide_eq_true h2
    have := dm_back (n := n) p
    rw [e] at this
    rw [this]
    exact h1
  · intro hm
    obtain ⟨h1, h2⟩ := dm hk h
    exact ⟨_, List.mem_filter.mpr ⟨hm, decide_eq_true h2⟩, h1⟩
theorem div_lt {n : Nat} (hn : 0 < n) {p q : Int} (h : p < q) (e : p % (n : Int) = q % (n : Int)) : p / (n : Int) < q / (n : Int) := by
  have h1 := Int.mul_ediv_add_emod p (n : Int)
  have h2 := Int.mul_ediv_add_emod q (n : Int)
  have : (n : Int) * (p / n) < (n : Int) * (q / n) := by omega
  exact Int.lt_of_mul_lt_mul_left this (by omega)
theorem rod_rises {ps : List Int} {n : Nat} (hn : 0 < n) (h : Rises ps) (k : Nat) : Rises (rodM ps n k) := by
  unfold rodM
  refine ⟨fun x m => ?_, ?_⟩
  · obtain ⟨p, hp, rfl⟩ := List.mem_map.mp m
    exact Int.ediv_nonneg (h.nn p (List.mem_filter.mp hp).1) (by omega)
  · refine List.pairwise_map.mpr ?_
    refine List.Pairwise.imp_of_mem ?_ (List.Pairwise.filter _ h.rise)
    intro a b ha hb hab
    have e1 := of_decide_eq_true (List.mem_filter.mp ha).2
    have e2 := of_decide_eq_true (List.mem_filter.mp hb).2
    exact div_lt hn hab (e1.trans e2.symm)
/-- two lists of beads with the same rods -/
theorem ext_rods {ps qs : List Int} {n : Nat} (hn : 0 < n) (hp : Rises ps) (hq : Rises qs) (h : ∀ k, k < n → rodM ps n k = rodM qs n k) : ps = qs := by
  refine incr_eq hp.rise hq.rise fun x => ?_
  have h0 : 0 ≤ x % (n : Int) := Int.emod_nonneg _ (by omega)
  have h1 : x % (n : Int) < n := Int.emod_lt_of_pos _ (by omega)
  have hk : (x % (n : Int)).toNat < n := by omega
  have e : x / (n : Int) * n + ((x % (n : Int)).toNat : Int) = x := by
    have := dm_back (n := n) x
    omega
  have a := mem_rod (ps := ps) hk (h := x / (n : Int))
  have b := mem_rod (ps := qs) hk (h := x / (n : Int))
  rw [e] at a b
  rw [← a, ← b, h _ hk]
/-- heights put together -/
def gatherP (hs : List (List Int)) : List Int := (List.range hs.length).flatMap fun k => (hs.getD k []).map fun h => h * (hs.length : Int) + (k : Int)
def placesOf (hs : List (List Int)) : List Int := sortI (gatherP hs)
def AllR (hs : List (List Int)) : Prop := ∀ k, k < hs.length → Rises (hs.getD k [])
theorem mem_gather {hs : List (List Int)} {k : Nat} (hk : k < hs.length) {h : Int} : h * (hs.length : Int) + k ∈ gatherP hs ↔ h ∈ hs.getD k [] := by
  unfold gatherP
  rw [List.mem_flatMap]
  constructor
  · rintro ⟨j, hj, hm⟩
    obtain ⟨g, hg, e⟩ := List.mem_map.mp hm
    have hj' := List.mem_range.mp hj
    obtain ⟨a1, a2⟩ := dm hk h
    obtain ⟨b1, b2⟩ := dm hj' g
    rw [e] at b1 b2
    have e1 : h = g := a1.symm.trans b1
    have e2 : (k : Int) = j := a2.symm.trans b2
    have e3 : k = j := by omega
    subst e1 e3
    exact hg
  · intro hm
    exact ⟨k, List.mem_range.mpr hk, List.mem_map.mpr ⟨h, hm, rfl⟩⟩
theorem gather_nodup {hs : List (List Int)} (h : AllR hs) : (gatherP hs).Nodup := by
  unfold gatherP
  refine List.pairwise_flatMap.mpr ⟨fun k hk => ?_, ?_⟩
  · have hk' := List.mem_range.mp hk
    refine List.pairwise_map.mpr (List.Pairwise.imp ?_ (h k hk').rise)
    intro a b hab e
    have : a * (hs.length : Int) = b * (hs.length : Int) := by omega
    have := Int.eq_of_mul_eq_mul_right (show (hs.length : Int) ≠ 0 by omega) this
    omega
  · refine List.pairwise_iff_getElem.mpr fun i j hi hj hij x hx y hy e => ?_
    rw [List.length_range] at hi hj
    rw [List.getElem_range] at hx hy
    obtain ⟨a, _, rfl⟩ := List.mem_map.mp hx
    obtain ⟨b, _, rfl⟩ := List.mem_map.mp hy
    have h1 := (dm hi a).2
    have h2 := (dm hj b).2
    rw [e] at h1
    have := h1.symm.trans h2
    omega
theorem sortI_lt {l : List Int} (h : l.Nodup) : (sortI l).Pairwise (· < ·) := by
  have h1 := sortI_rise l
  have h2 : (sortI l).Nodup := (sortI_perm l).nodup_iff.mpr h
  exact List.Pairwise.imp₂ (fun a b (x : a ≤ b) (y : a ≠ b) => by omega) h1 h2
theorem places_rises {hs : List (List Int)} (h : AllR hs) : Rises (placesOf hs) := by
  refine ⟨fun x m => ?_, sortI_lt (gather_nodup h)⟩
  have m' := sortI_mem.mp m
  unfold gatherP at m'
  obtain ⟨k, hk, hm⟩ := List.mem_flatMap.mp m'
  obtain ⟨g, hg, rfl⟩ := List.mem_map.mp hm
  have := (h k (List.mem_range.mp hk)).nn g hg
  have := Int.mul_nonneg this (show (0 : Int) ≤ hs.length by omega)
  omega
theorem rod_places {hs : List (List Int)} (h : AllR hs) {k : Nat} (hk : k < hs.length) : rodM (placesOf hs) hs.length k = hs.getD k [] := by
  refine incr_eq (rod_rises (by omega) (places_rises h) k).rise (h k hk).rise fun x => ?_
  rw [mem_rod hk]
  unfold placesOf
  rw [sortI_mem, mem_gather hk]
def rodsM (ps : List Int) (n : Nat) : List (List Int) := (List.range n).map fun k => rodM ps n k
theorem rods_len (ps : List Int) (n : Nat) : (rodsM ps n).length = n := by simp [rodsM]
theorem rods_get {ps : List Int} {n k : Nat} (hk : k < n) : (rodsM ps n).getD k [] = rodM ps n k := by
  rw [getD_get (by rw [rods_len]; exact hk)]
  simp [rodsM]
theorem rods_all {ps : List Int} {n : Nat} (h : Rises ps) : AllR (rodsM ps n) := fun k hk => by
  rw [rods_len] at hk
  rw [rods_get hk]
  exact rod_rises (by omega) h k
theorem places_rods {ps : List Int} {n : Nat} (hn : 0 < n) (h : Rises ps) : placesOf (rodsM ps n) = ps := by
  refine ext_rods hn (places_rises (rods_all h)) h fun k hk => ?_
  have := rod_places (rods_all h) (k := k) (by rw [rods_len]; exact hk)
  rw [rods_len, rods_get hk] at this
  exact this
theorem rods_places {hs : List (List Int)} (h : AllR hs) : rodsM (placesOf hs) hs.length = hs := by
  refine eq_of_getD (d := []) (rods_len _ _) fun k hk => ?_
  rw [rods_get hk, rod_places h hk]
theorem gather_len (hs : List (List Int)) : (gatherP hs).length = (hs.map List.length).sum := by
  unfold gatherP
  rw [List.length_flatMap]
  congr 1
  refine List.ext_getElem (by simp) fun i h1 h2 => ?_
  simp only [List.length_map, List.length_range] at h1
  simp only [List.getElem_map, List.getElem_range, List.length_map]
  rw [getD_get h1]
theorem rods_total {ps : List Int} {n : Nat} (hn : 0 < n) (h : Rises ps) : ((rodsM ps n).map List.length).sum = ps.length := by
  rw [← gather_len, ← sortI_len]
  exact congrArg List.length (places_rods hn h)
/-! ### one bead more at nought, all others one up: the row stays -/
theorem beads_succ {r : List Int} {m : Nat} (h : r.length ≤ m) : beadsM r (m + 1) = 0 :: (beadsM r m).map (· + 1) := by
  refine eq_of_gi (by rw [List.length_cons, List.length_map, beads_len, beads_len]) fun k hk => ?_
  rw [List.length_cons, List.length_map, beads_len] at hk
  rw [beads_get hk]
  cases k with
  | zero =>
    rw [gi_out (by omega)]
    rfl
  | succ k =>
    have hk' : k < m := by omega
    rw [gi_cons_succ, gi_get (by rw [List.length_map, beads_len]; exact hk'), List.getElem_map, ← gi_get (by rw [beads_len]; exact hk'), beads_get hk', show ((m + 1 : Nat) : Int) - 1 - ((k + 1 : Nat) : Int) = (m : Int) - 1 - k by omega]
    omega
theorem off_shift (ps : List Int) : offM (0 :: ps.map (· + 1)) = offM ps ++ [0] := by
  unfold offM
  rw [List.length_cons, List.length_map, List.range_succ_eq_map, List.map_cons, List.reverse_cons, List.map_map]
  congr 1
  congr 1
  refine List.map_congr_left fun k hk => ?_
  have hk' := List.mem_range.mp hk
  show gi (0 :: ps.map (· + 1)) ((k + 1 : Nat) : Int) - ((k + 1 : Nat) : Int) = _
  rw [gi_cons_succ, gi_get (by rw [List.length_map]; exact hk'), List.getElem_map, ← gi_get hk']
  omega
theorem rowOf_shift (ps : List Int) : rowOfM (0 :: ps.map (· + 1)) = rowOfM ps := by
  unfold rowOfM
  rw [off_shift, List.filter_append]
  show _ ++ [] = _
  rw [List.append_nil]
theorem rises_shift {ps : List Int} (h : Rises ps) : Rises (0 :: ps.map (· + 1)) := by
  refine ⟨fun x m => ?_, List.pairwise_cons.mpr ⟨fun x m => ?_, List.pairwise_map.mpr (h.rise.imp fun q => by omega)⟩⟩
  · rcases List.mem_cons.mp m with rfl | m
    · exact Int.le_refl _
    · obtain ⟨y, hy, rfl⟩ := List.mem_map.mp m
      have := h.nn y hy
      omega
  · obtain ⟨y, hy, rfl⟩ := List.mem_map.mp m
    have := h.nn y hy
    omega
/-- n beads more -/
def shiftN (ps : List Int) (n : Nat) : List Int := (List.range n).map (fun k : Nat => (k : Int)) ++ ps.map (· + (n : Int))
theorem shift_succ (ps : List Int) (n : Nat) : shiftN ps (n + 1) = 0 :: (shiftN ps n).map (· + 1) := by
  unfold shiftN
  rw [List.range_succ_eq_map, List.map_cons, List.map_append, List.map_map, List.map_map, List.map_map, List.cons_append]
  congr 1
  congr 1
  refine List.map_congr_left fun p _ => ?_
  show p + ((n + 1 : Nat) : Int) = p + (n : Int) + 1
  omega
theorem shift_zero (ps : List Int) : shiftN ps 0 = ps := by
  unfold shiftN
  show [] ++ ps.map (· + ((0 : Nat) : Int)) = ps
  rw [List.nil_append]
  refine (List.map_congr_left fun p _ => ?_).trans (List.map_id _)
  show p + ((0 : Nat) : Int) = id p
  show p + 0 = p
  omega
theorem beads_add {r : List Int} {m : Nat} (h : r.length ≤ m) : ∀ n, beadsM r (m + n) = shiftN (beadsM r m) n
  | 0 => (shift_zero _).symm
  | n + 1 => by rw [← Nat.add_assoc, beads_succ (by omega), beads_add h n, shift_succ]
theorem rowOf_shiftN (ps : List Int) : ∀ n, rowOfM (shiftN ps n) = rowOfM ps
  | 0 => by rw [shift_zero]
  | n + 1 => by rw [shift_succ, rowOf_shift, rowOf_shiftN ps n]
theorem rises_shiftN {ps : List Int} (h : Rises ps) : ∀ n, Rises (shiftN ps n)
  | 0 => by rw [shift_zero]; exact h
  | n + 1 => by rw [shift_succ]; exact rises_shift (rises_shiftN h n)
theorem rod_shift {ps : List Int} {n k : Nat} (h : Rises ps) (hk : k < n) : rodM (shiftN ps n) n k = 0 :: (rodM ps n k).map (· + 1) := by
  refine incr_eq (rod_rises (by omega) (rises_shiftN h n) k).rise (rises_shift (rod_rises (by omega) h k)).rise fun x => ?_
  rw [mem_rod hk]
  unfold shiftN
  rw [List.mem_append, List.mem_map, List.mem_map, List.mem_cons, List.mem_map]
  constructor
  · rintro (⟨j, hj, e⟩ | ⟨p, hp, e⟩)
    · left
      have hj' := List.mem_range.mp hj
      have q := (dm hk x).1
      rw [← e] at q
      rw [Int.ediv_eq_zero_of_lt (by omega) (by omega)] at q
      exact q.symm
    · right
      refine ⟨x - 1, (mem_rod hk).mpr ?_, by omega⟩
      have : (x - 1) * (n : Int) = x * n - n := by rw [Int.sub_mul, Int.one_mul]
      rw [this, show x * (n : Int) - n + k = p by omega]
      exact hp
  · rintro (rfl | ⟨y, hy, rfl⟩)
    · left
      exact ⟨k, List.mem_range.mpr hk, by omega⟩
    · right
      refine ⟨_, (mem_rod hk).mp hy, ?_⟩
      rw [Int.add_mul, Int.one_mul]
      omega
/-! ## parted to rods -/
def upM (l n : Nat) : Nat := (l + n - 1) / n * n
theorem up_ge (l : Nat) {n : Nat} (hn : 0 < n) : l ≤ upM l n := by
  unfold upM
  have h1 := Nat.div_add_mod (l + n - 1) n
  have h2 := Nat.mod_lt (l + n - 1) hn
  rw [Nat.mul_comm] at h1
  omega
theorem up_le (l n : Nat) : upM l n ≤ l + n - 1 := Nat.div_mul_le_self _ _
theorem up_cast (l : Nat) {n : Nat} (hn : 0 < n) : ((l : Int) + n - 1) / (n : Int) * n = ((upM l n : Nat) : Int) := by
  unfold upM
  rw [Int.natCast_mul, Int.natCast_ediv, show ((l + n - 1 : Nat) : Int) = (l : Int) + n - 1 by omega]
def spreadM (r : List Int) (n : Nat) : List (List Int) := rodsM (beadsM r (upM r.length n)) n
def idL (l : Nat) : List Int := (List.range l).map fun i : Nat => (i : Int)
theorem id_rises (l : Nat) : Rises (idL l) := by
  refine ⟨fun x m => ?_, List.pairwise_iff_getElem.mpr fun i j hi hj hij => ?_⟩
  · obtain ⟨i, _, rfl⟩ := List.mem_map.mp m
    omega
  · simp only [idL, List.getElem_map, List.getElem_range]
    omega
theorem id_len (l : Nat) : (idL l).length = l := by simp [idL]
def quotM (r : List Int) (n : Nat) : List (List Int) := (spreadM r n).map rowOfM
def flatL (hs : List (List Int)) : List (List Int) := hs.map fun h => idL h.length
def coreM (r : List Int) (n : Nat) : List Int := rowOfM (placesOf (flatL (spreadM r n)))
def chM (r : List Int) (n : Nat) : List Int := (spreadM r n).map fun h => (h.length : Int) - (upM r.length n : Int) / n
def RodsOk (n : Int) : Prop := 1 ≤ n ∧ n ≤ 8
theorem RodsOk.nat {n : Int} (h : RodsOk n) : ∃ k : Nat, n = k ∧ 0 < k ∧ k ≤ 8 := ⟨n.toNat, by have := h.1; omega, by have := h.1; omega, by have := h.2; omega⟩
abbrev N_known : List Str := ["rods"]
def rd_known (K : Frg) (C : Ec) (W : WX) : TS := (tIfS (tOr (tTest (tOp rLtI (tVar 0) (tC (.int 1)))) (tTest (tOp rGtI (tVar 0) (tC (.int 8)))))
  (tRz W C.NoRods) tNext)
def R_known (C : Ec) (ds : List PyData) (o : Except Addr PyData) : Prop := ∃ n : Int, ds = [.int n] ∧ ((RodsOk n ∧ o = .ok .none) ∨ (¬ RodsOk n ∧ o = .error C.NoRods))
theorem len_known {C : Ec} (ds : List PyData) (o : Except Addr PyData) : R_known C ds o → ds.length = ["rods"].length := by
  rintro ⟨_, rfl, _⟩; rfl
theorem does_known {K : Frg} {C : Ec} {W : WX} {ds : List PyData} {o : Except Addr PyData} : R_known C ds o → FnDoes K W (rd_known K C W) (entry N_known ds) o := by
  rintro ⟨n, rfl, ⟨h, rfl⟩ | ⟨h, rfl⟩⟩
  · obtain ⟨h1, h2⟩ := h
    exact .inr ⟨rfl, [.fr (.int n)], does_iff ((et_or (et_test (ev_lt (ev_var rfl) ev_int)) fun _ => et_test (ev_gt (ev_var rfl) ev_int)).cast (by rw [decide_eq_false (by omega), decide_eq_false (by omega)]; rfl)) does_next⟩
  · refine ⟨[.fr (.int n)], does_ift ((et_or (et_test (ev_lt (ev_var rfl) ev_int)) fun _ => et_test (ev_gt (ev_var rfl) ev_int)).cast ?_) does_rz⟩
    unfold RodsOk at h
    by_cases c : n < 1
    · rw [decide_eq_true c]; rfl
    · rw [decide_eq_false c, decide_eq_true (show 8 < n by omega)]; rfl
abbrev N_spread : List Str := ["row", "rods", "many", "places", "k", "place"]
def rd_spread (K : Frg) (C : Ec) (W : WX) : TS := (tSeq (tDrop (tCallS (spOf K (R_known C)) (WE W) (tCons (tVar 1) tNil)))
  (tSeq (tAsg (tOp rMulA (tOp rDivI (tOp rSubI (tOp rAddA (tCB (rLenA K) (tCons (tVar 0) tNil)) (tVar 1)) (tC (.int 1))) (tVar 1)) (tVar 1)) (gName 2))
  (tSeq (tAsg (tCallS (spOf K (R_beads C)) (WE W) (tCons (tVar 0) (tCons (tVar 2) tNil))) (gName 3))
  (tRet (tLc (iRng1 (tCons (tVar 1) tNil)) (gName 4) tYes (tLc (iList K (tVar 3)) (gName 5) (tTest (tOp (rEqA K) (tOp rModI (tVar 5) (tVar 1)) (tVar 4))) (tOp rDivI (tVar 5) (tVar 1)) [5]) [4])))))
def R_spread (C : Ec) (ds : List PyData) (o : Except Addr PyData) : Prop := ∃ (r : List Int) (n : Int), ds = [dR r, .int n] ∧ r.length ≤ 10000 ∧ ((RodsOk n ∧ o = .ok (dRR (spreadM r n.toNat))) ∨ (¬ RodsOk n ∧ o = .error C.NoRods))
theorem len_spread {C : Ec} (ds : List PyData) (o : Except Addr PyData) : R_spread C ds o → ds.length = ["row", "rods"].length := by
  rintro ⟨_, _, rfl, _⟩; rfl
theorem does_spread {K : Frg} {C : Ec} {W : WX} {ds : List PyData} {o : Except Addr PyData} : R_spread C ds o → FnDoes K W (rd_spread K C W) (entry N_spread ds) o := by
  rintro ⟨r, n, rfl, hl, ⟨h, rfl⟩ | ⟨h, rfl⟩⟩
  · refine .inl ?_
    obtain ⟨k, rfl, hk0, hk8⟩ := h.nat
    rw [Int.toNat_natCast]
    show Does K W (rd_spread K C W) [.fr (dR r), .fr (.int k), .no, .no, .no, .no] (.rt (dRR (spreadM r k)))
    have hup := up_ge r.length hk0
    have hle := up_le r.length k
    refine does_seq (does_drop (Evf.r (evf_callS (eva_cons (ev_var rfl) eva_nil) ⟨k, rfl, .inl ⟨h, rfl⟩⟩))) ?_
    refine does_seq (does_asgi (Evr.cast (ev_mul (ev_div (ev_sub (ev_add (ev_len (ev_var rfl)) (ev_var rfl)) ev_int) (ev_var rfl) (by omega)) (ev_var rfl) (mul_r (by omega))) (by rw [up_cast _ hk0]))) ?_
    refine does_seq (does_asg (evf_callS (eva_cons (ev_var rfl) (eva_cons (ev_var rfl) eva_nil)) ⟨r, _, rfl, by omega, by omega, .inr ⟨by omega, rfl⟩⟩)) ?_
    rw [Int.toNat_natCast]
    refine does_ret (Evf.cast (evf_mapRR (fun j : Nat => dR (rodM (beadsM r (upM r.length k)) k j)) (eva_cons (ev_var rfl) eva_nil) (by omega) (by omega) fun j hj => evf_lcLi (c := PyData.int) (fun p => decide (p % (k : Int) = j)) (fun p => p / (k : Int)) (ev_var rfl) (by rw [beads_len]; omega)
      (fun p _ => et_test (ev_eqi (ev_mod (ev_var rfl) (ev_var rfl) (by omega)) (ev_var rfl))) fun p _ _ => ev_div (ev_var rfl) (ev_var rfl) (by omega)) ?_)
    unfold spreadM rodsM
    rw [Int.toNat_natCast, dRR, List.map_map]
    rfl
  · exact ⟨_, does_seq_ex (does_dropx (evx_callS (eva_cons (ev_var rfl) eva_nil) ⟨n, rfl, .inr ⟨h, rfl⟩⟩))⟩
abbrev N_gathered : List Str := ["heights", "rods", "places", "k", "height"]
def rd_gathered (K : Frg) (C : Ec) (W : WX) : TS := (tSeq (tAsg (tCB (rLenA K) (tCons (tVar 0) tNil)) (gName 1))
  (tSeq (tAsg (tLst tNil) (gName 2))
  (tSeq (tFor (iRng1 (tCons (tVar 1) tNil)) (gName 3)
  (tDrop (tBM K "list" rExtend (tVar 2) (tCons (tLc (iList K (tOp (rIx K) (tVar 0) (tVar 3))) (gName 4) tYes (tOp rAddA (tOp rMulA (tVar 4) (tVar 1)) (tVar 3)) [4]) tNil))))
  (tRet (tCall (spOf K (R_row_of C)) [] E0 (tCons (tCB (rSortedI K) (tCons (tVar 2) tNil)) tNil))))))
def R_gathered (C : Ec) (ds : List PyData) (o : Except Addr PyData) : Prop := ∃ hs : List (List Int), ds = [dRR hs] ∧ hs.length ≤ 1000 ∧ (gatherP hs).length ≤ 100000 ∧ AllR hs ∧ o = .ok (dR (rowOfM (placesOf hs)))
theorem len_gathered {C : Ec} (ds : List PyData) (o : Except Addr PyData) : R_gathered C ds o → ds.length = ["heights"].length := by
  rintro ⟨_, rfl, _⟩; rfl
theorem does_gathered {K : Frg} {C : Ec} {W : WX} {ds : List PyData} {o : Except Addr PyData} : R_gathered C ds o → FnDoes K W (rd_gathered K C W) (entry N_gathered ds) o := by
  rintro ⟨hs, rfl, hl, hz, hA, rfl⟩
  refine .inl ?_
  show Does K W (rd_gathered K C W) [.fr (dRR hs), .no, .no, .no, .no] (.rt (dR (rowOfM (placesOf hs))))
  let P : Nat → List Int := fun i => (List.range i).flatMap fun k => (hs.getD k []).map fun h => h * (hs.length : Int) + (k : Int)
  have hP : ∀ i, i ≤ hs.length → (P i).length ≤ 100000 := fun i hi => by
    refine Nat.le_trans (List.Sublist.length_le ?_) hz
    obtain ⟨d, e⟩ : ∃ d, hs.length = i + d := ⟨hs.length - i, by omega⟩
    show (P i).Sublist (P hs.length)
    rw [e]
    clear e
    induction d with
    | zero => exact List.Sublist.refl _
    | succ d ih =>
      refine ih.trans ?_
      show (P (i + d)).Sublist (P (i + d + 1))
      have : P (i + d + 1) = P (i + d) ++ (hs.getD (i + d) []).map (fun h => h * (hs.length : Int) + ((i + d : Nat) : Int)) := by show (List.range (i + d + 1)).flatMap _ = _; rw [List.range_succ, List.flatMap_append, List.flatMap_singleton]
      rw [this]
      exact List.sublist_append_left _ _
  refine does_seq (does_asgi (ev_len (c := dR) (xs := hs) (ev_var rfl))) ?_
  refine does_seq (does_asg (evf_lst evaf_nil)) ?_
  refine does_seq (does_forR (eva_cons (ev_var rfl) eva_nil) (by omega) (by omega) (fun i => [.fr (dRR hs), .fr (.int hs.length), .ow (dR (P i)), .no, .no]) rfl fun i hi => ⟨[.fr (dRR hs), .fr (.int hs.length), .ow (dR (P (i + 1))), .fr (.int i), .no], ?_, rfl⟩) ?_
  · have e : P (i + 1) = P i ++ (hs.getD i []).map fun h => h * (hs.length : Int) + (i : Int) := by
      show (List.range (i + 1)).flatMap _ = _
      rw [List.range_succ, List.flatMap_append, List.flatMap_singleton]
    have q := hP (i + 1) (by omega)
    rw [e] at q ⊢
    rw [List.length_append] at q
    refine does_extR rfl (evf_mapL (c := PyData.int) (xs := hs.getD i []) (fun h => h * (hs.length : Int) + (i : Int)) (Evr.cast (ev_ixRR (ev_var rfl) (ev_var rfl) (by omega) (by omega)) (by rw [Int.toNat_natCast])) (by rw [List.length_map] at q; omega) fun h _ => ev_add (ev_mul (ev_var rfl) (ev_var rfl) (mul_r (by omega))) (ev_var rfl)) (by omega)
  rw [Int.toNat_natCast]
  refine does_ret (evf_call (eva_cons (Evf.r (evf_sorted (s := placesOf hs) (ev_var rfl) (sortI_perm _) (sortI_rise _))) eva_nil) ⟨placesOf hs, rfl, ?_, .inl ⟨places_rises hA, rfl⟩⟩)
  unfold placesOf
  rw [sortI_len]
  exact hz
abbrev N_quotient : List Str := ["row", "rods", "heights"]
def rd_quotient (K : Frg) (C : Ec) (W : WX) : TS := (tRet (tLc (iList K (tCallS (spOf K (R_spread C)) (WE W) (tCons (tVar 0) (tCons (tVar 1) tNil)))) (gName 2) tYes (tCall (spOf K (R_row_of C)) [] E0 (tCons (tVar 2) tNil)) [2]))
def R_quotient (C : Ec) (ds : List PyData) (o : Except Addr PyData) : Prop := ∃ (r : List Int) (n : Int), ds = [dR r, .int n] ∧ Row r ∧ r.length ≤ 10000 ∧ ((RodsOk n ∧ o = .ok (dRR (quotM r n.toNat))) ∨ (¬ RodsOk n ∧ o = .error C.NoRods))
theorem len_quotient {C : Ec} (ds : List PyData) (o : Except Addr PyData) : R_quotient C ds o → ds.length = ["row", "rods"].length := by
  rintro ⟨_, _, rfl, _⟩; rfl
theorem mem_rods {ps x : List Int} {n : Nat} (m : x ∈ rodsM ps n) : ∃ k, k < n ∧ x = rodM ps n k := by
  obtain ⟨k, hk, rfl⟩ := List.mem_map.mp m
  exact ⟨k, List.mem_range.mp hk, rfl⟩
theorem rod_len (ps : List Int) (n k : Nat) : (rodM ps n k).length ≤ ps.length := by
  unfold rodM
  rw [List.length_map]
  exact List.length_filter_le _ _
theorem does_quotient {K : Frg} {C : Ec} {W : WX} {ds : List PyData} {o : Except Addr PyData} : R_quotient C ds o → FnDoes K W (rd_quotient K C W) (entry N_quotient ds) o := by
  rintro ⟨r, n, rfl, hr, hl, ⟨h, rfl⟩ | ⟨h, rfl⟩⟩
  · refine .inl ?_
    obtain ⟨k, rfl, hk0, hk8⟩ := h.nat
    have hle := up_le r.length k
    refine does_ret (Evf.cast (evf_mapLL (c := dR) (xs := spreadM r k) (fun x => dR (rowOfM x)) (Evf.r (evf_callS (eva_cons (ev_var rfl) (eva_cons (ev_var rfl) eva_nil)) ⟨r, k, rfl, by omega, .inl ⟨h, by rw [Int.toNat_natCast]⟩⟩)) (by unfold spreadM; rw [rods_len]; omega) fun x hx => evf_call (eva_cons (ev_var rfl) eva_nil) ?_) ?_)
    · obtain ⟨j, hj, rfl⟩ := mem_rods hx
      have := rod_len (beadsM r (upM r.length k)) k j
      rw [beads_len] at this
      exact ⟨_, rfl, by omega, .inl ⟨rod_rises hk0 (beads_rises hr _) j, rfl⟩⟩
    · unfold quotM
      rw [Int.toNat_natCast, dRR, List.map_map]
      rfl
  · exact ⟨_, does_retx (evx_lcL (evx_callS (eva_cons (ev_var rfl) (eva_cons (ev_var rfl) eva_nil)) ⟨r, n, rfl, by omega, .inr ⟨h, rfl⟩⟩))⟩
abbrev N_core : List Str := ["row", "rods", "heights"]
def rd_core (K : Frg) (C : Ec) (W : WX) : TS := (tRet (tCall (spOf K (R_gathered C)) [] E0 (tCons (tLc (iList K (tCallS (spOf K (R_spread C)) (WE W) (tCons (tVar 0) (tCons (tVar 1) tNil)))) (gName 2) tYes (tLstRg (tRg1 (tCB (rLenA K) (tCons (tVar 2) tNil)))) [2]) tNil)))
def R_core (C : Ec) (ds : List PyData) (o : Except Addr PyData) : Prop := ∃ (r : List Int) (n : Int), ds = [dR r, .int n] ∧ Row r ∧ r.length ≤ 10000 ∧ ((RodsOk n ∧ o = .ok (dR (coreM r n.toNat))) ∨ (¬ RodsOk n ∧ o = .error C.NoRods))
theorem len_core {C : Ec} (ds : List PyData) (o : Except Addr PyData) : R_core C ds o → ds.length = ["row", "rods"].length := by
  rintro ⟨_, _, rfl, _⟩; rfl
theorem flat_all (hs : List (List Int)) : AllR (flatL hs) := fun k hk => by
  rw [getD_get hk]
  unfold flatL at hk ⊢
  rw [List.getElem_map]
  exact id_rises _
theorem flat_len (hs : List (List Int)) : (flatL hs).length = hs.length := by unfold flatL; rw [List.length_map]
theorem flat_total (hs : List (List Int)) : (gatherP (flatL hs)).length = (hs.map List.length).sum := by
  rw [gather_len]
  congr 1
  unfold flatL
  rw [List.map_map]
  refine List.map_congr_left fun x _ => id_len _
theorem does_core {K : Frg} {C : Ec} {W : WX} {ds : List PyData} {o : Except Addr PyData} : R_core C ds o → FnDoes K W (rd_core K C W) (entry N_core ds) o := by
  rintro ⟨r, n, rfl, hr, hl, ⟨h, rfl⟩ | ⟨h, rfl⟩⟩
  · refine .inl ?_
    obtain ⟨k, rfl, hk0, hk8⟩ := h.nat
    have hle := up_le r.length k
    have hb := beads_rises hr (upM r.length k)
    have ht := rods_total hk0 hb
    rw [beads_len] at ht
    refine does_ret (evf_call (eva_cons (Evf.r (Evf.cast (evf_mapLL (c := dR) (xs := spreadM r k) (fun x => dR (idL x.length)) (Evf.r (evf_callS (eva_cons (ev_var rfl) (eva_cons (ev_var rfl) eva_nil)) ⟨r, k, rfl, by omega, .inl ⟨h, by rw [Int.toNat_natCast]⟩⟩)) (by unfold spreadM; rw [rods_len]; omega)
      fun x hx => ?_) (show _ = dRR (flatL (spreadM r k)) by unfold flatL; rw [dRR, List.map_map]; rfl))) eva_nil) ⟨_, rfl, by rw [flat_len]; unfold spreadM; rw [rods_len]; omega, ?_, flat_all _, by rw [Int.toNat_natCast]; rfl⟩)
    · obtain ⟨j, hj, rfl⟩ := mem_rods hx
      have := rod_len (beadsM r (upM r.length k)) k j
      rw [beads_len] at this
      exact Evf.cast (evf_listRg (ev_len (ev_var rfl)) (by omega) (by omega)) (by rw [Int.toNat_natCast]; rfl)
    · rw [flat_total]
      unfold spreadM
      rw [ht]
      omega
  · exact ⟨_, does_retx (evx_arg0 (evax_1 (evx_lcL (evx_callS (eva_cons (ev_var rfl) (eva_cons (ev_var rfl) eva_nil)) ⟨r, n, rfl, by omega, .inr ⟨h, rfl⟩⟩))))⟩
abbrev N_is_core : List Str := ["row", "rods"]
def rd_is_core (K : Frg) (C : Ec) (W : WX) : TS := (tRet (tOp (rEqA K) (tCallS (spOf K (R_core C)) (WE W) (tCons (tVar 0) (tCons (tVar 1) tNil))) (tVar 0)))
def R_is_core (C : Ec) (ds : List PyData) (o : Except Addr PyData) : Prop := ∃ (r : List Int) (n : Int), ds = [dR r, .int n] ∧ Row r ∧ r.length ≤ 10000 ∧ ((RodsOk n ∧ o = .ok (.bool (decide (coreM r n.toNat = r)))) ∨ (¬ RodsOk n ∧ o = .error C.NoRods))
theorem len_is_core {C : Ec} (ds : List PyData) (o : Except Addr PyData) : R_is_core C ds o → ds.length = ["row", "rods"].length := by
  rintro ⟨_, _, rfl, _⟩; rfl
theorem does_is_core {K : Frg} {C : Ec} {W : WX} {ds : List PyData} {o : Except Addr PyData} : R_is_core C ds o → FnDoes K W (rd_is_core K C W) (entry N_is_core ds) o := by
  rintro ⟨r, n, rfl, hr, hl, ⟨h, rfl⟩ | ⟨h, rfl⟩⟩
  · exact .inl (does_retb (ev_eqR (Evf.r (evf_callS (eva_cons (ev_var rfl) (eva_cons (ev_var rfl) eva_nil)) ⟨r, n, rfl, hr, hl, .inl ⟨h, rfl⟩⟩)) (ev_var rfl)))
  · exact ⟨_, does_retx (evx_op1 (evx_callS (eva_cons (ev_var rfl) (eva_cons (ev_var rfl) eva_nil)) ⟨r, n, rfl, hr, hl, .inr ⟨h, rfl⟩⟩))⟩
abbrev N_charges : List Str := ["row", "rods", "heights", "many", "one"]
def rd_charges (K : Frg) (C : Ec) (W : WX) : TS := (tSeq (tAsg (tCallS (spOf K (R_spread C)) (WE W) (tCons (tVar 0) (tCons (tVar 1) tNil))) (gName 2))
  (tSeq (tAsg (tCB (rSum K) (tCons (tLc (iList K (tVar 2)) (gName 4) tYes (tCB (rLenA K) (tCons (tVar 4) tNil)) [4]) tNil)) (gName 3))
  (tRet (tLc (iList K (tVar 2)) (gName 4) tYes (tOp rSubI (tCB (rLenA K) (tCons (tVar 4) tNil)) (tOp rDivI (tVar 3) (tVar 1))) [4]))))
def R_charges (C : Ec) (ds : List PyData) (o : Except Addr PyData) : Prop := ∃ (r : List Int) (n : Int), ds = [dR r, .int n] ∧ Row r ∧ r.length ≤ 10000 ∧ ((RodsOk n ∧ o = .ok (dR (chM r n.toNat))) ∨ (¬ RodsOk n ∧ o = .error C.NoRods))
theorem len_charges {C : Ec} (ds : List PyData) (o : Except Addr PyData) : R_charges C ds o → ds.length = ["row", "rods"].length := by
  rintro ⟨_, _, rfl, _⟩; rfl
theorem sum_lens (hs : List (List Int)) : (hs.map fun h => (h.length : Int)).sum = ((hs.map List.length).sum : Nat) := by
  induction hs with
  | nil => rfl
  | cons h hs ih => rw [List.map_cons, List.sum_cons, ih, List.map_cons, List.sum_cons]; omega
theorem does_charges {K : Frg} {C : Ec} {W : WX} {ds : List PyData} {o : Except Addr PyData} : R_charges C ds o → FnDoes K W (rd_charges K C W) (entry N_charges ds) o := by
  rintro ⟨r, n, rfl, hr, hl, ⟨h, rfl⟩ | ⟨h, rfl⟩⟩
  · refine .inl ?_
    obtain ⟨k, rfl, hk0, hk8⟩ := h.nat
    have hle := up_le r.length k
    have hb := beads_rises hr (upM r.length k)
    have ht := rods_total hk0 hb
    rw [beads_len] at ht
    have hsl : (spreadM r k).length = k := rods_len _ _
    have e : ((spreadM r k).map fun h => (h.length : Int)).sum = (upM r.length k : Int) := by rw [sum_lens]; exact congrArg Nat.cast ht
    refine does_seq (does_asg (evf_callS (eva_cons (ev_var rfl) (eva_cons (ev_var rfl) eva_nil)) ⟨r, k, rfl, by omega, .inl ⟨h, by rw [Int.toNat_natCast]⟩⟩)) ?_
    refine does_seq (does_asgi (Evr.cast (ev_sum (Evf.r (evf_mapL (c := dR) (xs := spreadM r k) (fun x => (x.length : Int)) (ev_var rfl) (by omega) fun x _ => ev_len (ev_var rfl)))) (by rw [e]))) ?_
    rw [Int.toNat_natCast]
    exact does_ret (evf_mapL (c := dR) (xs := spreadM r k) (fun x => (x.length : Int) - (upM r.length k : Int) / k) (ev_var rfl) (by omega) fun x _ => ev_sub (ev_len (ev_var rfl)) (ev_div (ev_var rfl) (ev_var rfl) (by omega)))
  · exact ⟨_, does_seq_ex (does_asgx (evx_callS (eva_cons (ev_var rfl) (eva_cons (ev_var rfl) eva_nil)) ⟨r, n, rfl, by omega, .inr ⟨h, rfl⟩⟩))⟩
/-! ## the law's own parting -/
def toldL (ps : List Int) : List Int := ((sortI ps).reverse.map fun p => p - lessN ps p).filter fun x => decide (0 < x)
theorem lessN_perm {ps qs : List Int} (h : ps.Perm qs) (x : Int) : lessN ps x = lessN qs x := (h.filter _).length_eq
theorem told_eq {ps : List Int} (h : ps.Nodup) : toldL ps = rowOfM (sortI ps) := by
  unfold toldL rowOfM offM
  congr 1
  rw [List.map_reverse]
  congr 1
  conv => lhs; rw [← map_gi (sortI ps)]
  rw [List.map_map]
  refine List.map_congr_left fun k hk => ?_
  show gi (sortI ps) k - lessN ps (gi (sortI ps) k) = _
  rw [← lessN_perm (sortI_perm ps), lessN_at (sortI_lt h) (List.mem_range.mp hk)]
def loM (l n : Nat) : Nat := n * (1 + l / n)
def lspreadM (r : List Int) (n : Nat) : List (List Int) := rodsM (beadsM r (loM r.length n)) n
theorem lo_up (l : Nat) {n : Nat} (hn : 0 < n) : loM l n = upM l n ∨ loM l n = upM l n + n := by
  unfold loM upM
  have h1 := Nat.div_add_mod l n
  have h2 := Nat.mod_lt l hn
  by_cases c : l % n = 0
  · right
    have e : l + n - 1 = (n - 1) + n * (l / n) := by omega
    rw [e, Nat.add_mul_div_left _ _ hn, Nat.div_eq_of_lt (show n - 1 < n by omega), Nat.zero_add, Nat.mul_add, Nat.mul_one, Nat.mul_comm n]
    omega
  · left
    have e : l + n - 1 = (l % n - 1) + n * (1 + l / n) := by rw [Nat.mul_add, Nat.mul_one]; omega
    rw [e, Nat.add_mul_div_left _ _ hn, Nat.div_eq_of_lt (show l % n - 1 < n by omega), Nat.zero_add, Nat.mul_comm n]
theorem lo_ge (l : Nat) {n : Nat} (hn : 0 < n) : l ≤ loM l n := by
  have := up_ge l hn
  rcases lo_up l hn with h | h <;> omega
theorem lo_le (l : Nat) {n : Nat} (hn : 0 < n) : loM l n ≤ l + 2 * n := by
  have := up_le l n
  rcases lo_up l hn with h | h <;> omega
theorem lspread_or (r : List Int) {n : Nat} (hr : Row r) (hn : 0 < n) : lspreadM r n = spreadM r n ∨ lspreadM r n = (spreadM r n).map fun h => 0 :: h.map (· + 1) := by
  rcases lo_up r.length hn with h | h
  · left
    unfold lspreadM spreadM
    rw [h]
  · right
    unfold lspreadM spreadM rodsM
    rw [h, beads_add (up_ge _ hn), List.map_map]
    refine List.map_congr_left fun k hk => ?_
    exact rod_shift (beads_rises hr _) (List.mem_range.mp hk)
theorem lquot_eq {r : List Int} {n : Nat} (hr : Row r) (hn : 0 < n) : (lspreadM r n).map rowOfM = quotM r n := by
  unfold quotM
  rcases lspread_or r hr hn with h | h
  · rw [h]
  · rw [h, List.map_map]
    exact List.map_congr_left fun x _ => rowOf_shift x
theorem id_shift (l : Nat) : 0 :: (idL l).map (· + 1) = idL (l + 1) := by
  unfold idL
  rw [List.range_succ_eq_map, List.map_cons, List.map_map, List.map_map]
  congr 1
theorem places_shift {hs : List (List Int)} (hn : 0 < hs.length) : placesOf (flatL (hs.map fun h => 0 :: h.map (· + 1))) = shiftN (placesOf (flatL hs)) hs.length := by
  have hA := flat_all (hs.map fun h => 0 :: h.map (· + 1))
  have hB := flat_all hs
  refine ext_rods hn (places_rises hA) (rises_shiftN (places_rises hB) _) fun k hk => ?_
  rw [rod_shift (places_rises hB) hk]
  have q1 := rod_places hA (k := k) (by rw [flat_len, List.length_map]; exact hk)
  have q2 := rod_places hB (k := k) (by rw [flat_len]; exact hk)
  rw [flat_len, List.length_map] at q1
  rw [flat_len] at q2
  rw [q1, q2]
  unfold flatL
  rw [getD_get (by simpa using hk), getD_get (by simpa using hk)]
  simp only [List.getElem_map]
  rw [id_shift, List.length_cons, List.length_map]
theorem lcore_eq {r : List Int} {n : Nat} (hr : Row r) (hn : 0 < n) : rowOfM (placesOf (flatL (lspreadM r n))) = coreM r n := by
  unfold coreM
  rcases lspread_or r hr hn with h | h
  · rw [h]
  · rw [h, places_shift (by unfold spreadM; rw [rods_len]; exact hn), rowOf_shiftN]
theorem lch_eq {r : List Int} {n : Nat} (hr : Row r) (hn : 0 < n) : ((lspreadM r n).map fun h => (h.length : Int) - 1 - (r.length : Int) / n) = chM r n := by
  unfold chM
  have e1 : ((loM r.length n : Nat) : Int) / n = 1 + (r.length : Int) / n := by
    unfold loM
    rw [Int.natCast_mul, Int.mul_ediv_cancel_left _ (by omega), Int.natCast_add, Int.natCast_ediv]
    rfl
  rcases lo_up r.length hn with h | h
  · have e : lspreadM r n = spreadM r n := by unfold lspreadM spreadM; rw [h]
    rw [e]
    refine List.map_congr_left fun x _ => ?_
    rw [← h, e1]
    omega
  · have e : lspreadM r n = (spreadM r n).map fun h => 0 :: h.map (· + 1) := by
      unfold lspreadM spreadM rodsM
      rw [h, beads_add (up_ge _ hn), List.map_map]
      exact List.map_congr_left fun k hk => rod_shift (beads_rises hr _) (List.mem_range.mp hk)
    rw [e, List.map_map]
    refine List.map_congr_left fun x _ => ?_
    show ((0 :: x.map (· + 1)).length : Int) - 1 - (r.length : Int) / n = _
    rw [List.length_cons, List.length_map]
    rw [h, Int.natCast_add, Int.add_ediv_of_dvd_right (Int.dvd_refl _), Int.ediv_self (by omega)] at e1
    omega
theorem rods_step (ps : List Int) (p : Int) {n : Nat} (hn : 0 < n) : rodsM (ps ++ [p]) n = (rodsM ps n).set (p % (n : Int)).toNat ((rodM ps n (p % (n : Int)).toNat) ++ [p / (n : Int)]) := by
  have h0 : 0 ≤ p % (n : Int) := Int.emod_nonneg _ (by omega)
  have h1 : p % (n : Int) < n := Int.emod_lt_of_pos _ (by omega)
  unfold rodsM
  refine List.ext_getElem (by simp) fun k g1 g2 => ?_
  rw [List.getElem_set]
  simp only [List.getElem_map, List.getElem_range]
  unfold rodM
  rw [List.filter_append, List.map_append, List.filter_cons]
  by_cases e : (p % (n : Int)).toNat = k
  · subst e
    rw [if_pos rfl, if_pos (decide_eq_true (by omega))]
    rfl
  · rw [if_neg e, if_neg (fun z => e (by have := of_decide_eq_true z; omega))]
    show _ ++ [] = _
    rw [List.append_nil]
abbrev N_law_spread : List Str := ["row", "rods", "many", "heights", "k", "number", "place"]
def rd_law_spread (K : Frg) (C : Ec) (W : WX) : TS := (tSeq (tAsg (tOp rMulA (tVar 1) (tOp rAddA (tC (.int 1)) (tOp rDivI (tCB (rLenA K) (tCons (tVar 0) tNil)) (tVar 1)))) (gName 2))
  (tSeq (tAsg (tLc (iRng1 (tCons (tVar 1) tNil)) (gName 4) tYes (tLst tNil) [4]) (gName 3))
  (tSeq (tFor (iRng1 (tCons (tVar 2) tNil)) (gName 4)
  (tSeq (tAsg (tC (.int 0)) (gName 5))
  (tSeq (tIfS (tTest (tOp rLtI (tOp rSubI (tOp rSubI (tVar 2) (tC (.int 1))) (tVar 4)) (tCB (rLenA K) (tCons (tVar 0) tNil))))
  (tAsg (tOp (rIx K) (tVar 0) (tOp rSubI (tOp rSubI (tVar 2) (tC (.int 1))) (tVar 4))) (gName 5)) tNext)
  (tSeq (tAsg (tOp rAddA (tVar 5) (tVar 4)) (gName 6))
  (tDrop (tBM K "list" rAppend (tOp (rIx K) (tVar 3) (tOp rModI (tVar 6) (tVar 1))) (tCons (tOp rDivI (tVar 6) (tVar 1)) tNil)))))))
  (tRet (tVar 3)))))
def R_law_spread (C : Ec) (ds : List PyData) (o : Except Addr PyData) : Prop := ∃ (r : List Int) (n : Nat), ds = [dR r, .int n] ∧ Row r ∧ r.length ≤ 10000 ∧ 0 < n ∧ n ≤ 1000 ∧ o = .ok (dRR (lspreadM r n))
theorem len_law_spread {C : Ec} (ds : List PyData) (o : Except Addr PyData) : R_law_spread C ds o → ds.length = ["row", "rods"].length := by
  rintro ⟨_, _, rfl, _⟩; rfl
theorem does_law_spread {K : Frg} {C : Ec} {W : WX} {ds : List PyData} {o : Except Addr PyData} : R_law_spread C ds o → FnDoes K W (rd_law_spread K C W) (entry N_law_spread ds) o := by
  rintro ⟨r, n, rfl, hr, hl, hn, hn2, rfl⟩
  refine .inl ?_
  show Does K W (rd_law_spread K C W) [.fr (dR r), .fr (.int n), .no, .no, .no, .no, .no] (.rt (dRR (lspreadM r n)))
  have hlo := lo_le r.length hn
  have hge := lo_ge r.length hn
  have e0 : (n : Int) * (1 + (r.length : Int) / n) = (loM r.length n : Int) := by
    unfold loM
    rw [Int.natCast_mul, Int.natCast_add, Int.natCast_ediv]
    rfl
  refine does_seq (does_asgi (Evr.cast (ev_mul (ev_var rfl) (ev_add ev_int (ev_div (ev_len (ev_var rfl)) (ev_var rfl) (by omega))) (mul_l (by omega))) (by rw [e0]))) ?_
  have e1 : rodsM ((beadsM r (loM r.length n)).take 0) n = (List.range n).map fun _ => [] := List.map_congr_left fun k _ => rfl
  refine does_seq (does_asg (Evf.cast (evf_mapRR (fun _ => .list []) (eva_cons (ev_var rfl) eva_nil) (by omega) (by omega) fun k _ => evf_lst evaf_nil) (show _ = dRR (rodsM ((beadsM r (loM r.length n)).take 0) n) by rw [e1, dRR, List.map_map, Int.toNat_natCast]; rfl))) ?_
  have hbl := beads_len r (loM r.length n)
  refine does_seq (does_forR (n := (loM r.length n : Int)) (eva_cons (ev_var rfl) eva_nil) (by omega) (by omega) (fun i => [.fr (dR r), .fr (.int n), .fr (.int (loM r.length n)), .ow (dRR (rodsM ((beadsM r (loM r.length n)).take i) n)), .no, .no, .no]) rfl fun i hi =>
    ⟨[.fr (dR r), .fr (.int n), .fr (.int (loM r.length n)), .ow (dRR (rodsM ((beadsM r (loM r.length n)).take (i + 1)) n)), .fr (.int i), .no, .no], ?_, rfl⟩) ?_
  · have hi' : i < loM r.length n := by omega
    have hb := beads_get (r := r) hi'
    have hmem : (beadsM r (loM r.length n))[i]? = some (gi (beadsM r (loM r.length n)) i) := by
      rw [List.getElem?_eq_getElem (by omega), gi_get (by omega)]
    generalize hL : loM r.length n = L at *
    have e2 := rods_step ((beadsM r L).take i) (gi (beadsM r L) i) hn
    rw [← take_succ_some hmem] at e2
    generalize hp : gi (beadsM r L) i = p at *
    have h0 : 0 ≤ p % (n : Int) := Int.emod_nonneg _ (by omega)
    have h1 : p % (n : Int) < n := Int.emod_lt_of_pos _ (by omega)
    refine does_no 5 (ρ1 := [.fr (dR r), .fr (.int n), .fr (.int L), .ow (dRR (rodsM ((beadsM r L).take (i + 1)) n)), .fr (.int i), .fr (.int (gi r ((L : Int) - 1 - i))), .no]) (does_no 6 (ρ1 := [.fr (dR r), .fr (.int n), .fr (.int L), .ow (dRR (rodsM ((beadsM r L).take (i + 1)) n)), .fr (.int i), .fr (.int (gi r ((L : Int) - 1 - i))), .fr (.int p)]) ?_)
    refine does_seq (does_asgi ev_int) ?_
    refine does_seq (ρ1 := [.fr (dR r), .fr (.int n), .fr (.int L), .ow (dRR (rodsM ((beadsM r L).take i) n)), .fr (.int i), .fr (.int (gi r ((L : Int) - 1 - i))), .no]) ?_ ?_
    · by_cases c : (L : Int) - 1 - i < r.length
      · exact does_ift ((et_test (ev_lt (ev_sub (ev_sub (ev_var rfl) ev_int) (ev_var rfl)) (ev_len (ev_var rfl)))).cast (decide_eq_true c)) (does_asgi (ev_ix (ev_var rfl) (ev_sub (ev_sub (ev_var rfl) ev_int) (ev_var rfl)) (by omega) c))
      · refine does_iff ((et_test (ev_lt (ev_sub (ev_sub (ev_var rfl) ev_int) (ev_var rfl)) (ev_len (ev_var rfl)))).cast (decide_eq_false c)) (does_cast does_next ?_)
        rw [gi_out (by omega)]
        rfl
    refine does_seq (does_asgi (n := p) (Evr.cast (ev_add (ev_var rfl) (ev_var rfl)) (by rw [← hb]))) ?_
    refine does_cast (does_appix rfl (ev_mod (ev_var rfl) (ev_var rfl) (by omega)) (ev_div (ev_var rfl) (ev_var rfl) (by omega)) True.intro h0 (es := (rodM ((beadsM r L).take i) n (p % (n : Int)).toNat).map .int) ?_ ?_) ?_
    · rw [List.getElem?_map, List.getElem?_eq_getElem (by rw [rods_len]; omega)]
      unfold rodsM
      rw [List.getElem_map, List.getElem_range]
      rfl
    · rw [List.length_map]
      have := rod_len ((beadsM r L).take i) n (p % (n : Int)).toNat
      rw [List.length_take] at this
      omega
    · show Out.nx [_, _, _, Sl.ow (.list (((rodsM ((beadsM r L).take i) n).map dR).set (p % (n : Int)).toNat (.list ((rodM ((beadsM r L).take i) n (p % (n : Int)).toNat).map .int ++ [.int (p / (n : Int))])))), _, _, _] = _
      rw [e2, dRR, List.map_set]
      simp [dR, killS]
  · rw [Int.toNat_natCast, List.take_of_length_le (by omega)]
    exact does_retv rfl
abbrev N_law_told : List Str := ["places", "found", "place", "number", "other"]
def rd_law_told (K : Frg) (C : Ec) (W : WX) : TS := (tSeq (tAsg (tLst tNil) (gName 1))
  (tSeq (tFor (iList K (tRevL K (tCB (rSortedI K) (tCons (tVar 0) tNil)))) (gName 2)
  (tSeq (tAsg (tOp rSubI (tVar 2) (tCB (rLenA K) (tCons (tLc (iList K (tVar 0)) (gName 4) (tTest (tOp rLtI (tVar 4) (tVar 2))) (tVar 4) [4]) tNil))) (gName 3))
  (tIfS (tTest (tOp rGtI (tVar 3) (tC (.int 0))))
  (tDrop (tBM K "list" rAppend (tVar 1) (tCons (tVar 3) tNil))) tNext)))
  (tRet (tVar 1))))
def R_law_told (C : Ec) (ds : List PyData) (o : Except Addr PyData) : Prop := ∃ ps : List Int, ds = [dR ps] ∧ ps.length ≤ 100000 ∧ o = .ok (dR (toldL ps))
theorem len_law_told {C : Ec} (ds : List PyData) (o : Except Addr PyData) : R_law_told C ds o → ds.length = ["places"].length := by
  rintro ⟨_, rfl, _⟩; rfl
theorem does_law_told {K : Frg} {C : Ec} {W : WX} {ds : List PyData} {o : Except Addr PyData} : R_law_told C ds o → FnDoes K W (rd_law_told K C W) (entry N_law_told ds) o := by
  rintro ⟨ps, rfl, hl, rfl⟩
  refine .inl ?_
  show Does K W (rd_law_told K C W) [.fr (dR ps), .no, .no, .no, .no] (.rt (dR (toldL ps)))
  let F : Nat → List Int := fun i => (((sortI ps).reverse.take i).map fun p => p - lessN ps p).filter fun x => decide (0 < x)
  refine does_seq (does_asg (evf_lst evaf_nil)) ?_
  refine does_seq (does_forf (cd := PyData.int) (xs := (sortI ps).reverse) (evf_rev (Evf.r (evf_sorted (ev_var rfl) (sortI_perm _) (sortI_rise _)))) (fun i => [.fr (dR ps), .ow (dR (F i)), .no, .no, .no]) rfl fun i x hx => ⟨[.fr (dR ps), .ow (dR (F (i + 1))), .fr (.int x), .no, .no], does_no 3 (ρ1 := [.fr (dR ps), .ow (dR (F (i + 1))), .fr (.int x), .fr (.int (x - (lessN ps x : Int))), .no]) ?_, rfl⟩) ?_
  · refine does_seq (does_asgi (ev_sub (ev_var rfl) (ev_len (c := PyData.int) (xs := ps.filter fun p => decide (p < x)) (Evf.r (evf_fil (fun p => decide (p < x)) (ev_var rfl) (by omega) (fun p _ => et_test (ev_lt (ev_var rfl) (ev_var rfl))) (by show 4 < 5; decide)))))) ?_
    have e : F (i + 1) = F i ++ if 0 < x - (lessN ps x : Int) then [x - (lessN ps x : Int)] else [] := by
      show List.filter _ (((sortI ps).reverse.take (i + 1)).map _) = _
      rw [take_succ_some hx, List.map_append, List.filter_append, List.map_singleton, List.filter_cons]
      by_cases c : 0 < x - (lessN ps x : Int)
      · rw [if_pos (decide_eq_true c), if_pos c]; rfl
      · rw [if_neg (by simpa using c), if_neg c]; rfl
    have hF : (F i).length ≤ ps.length := by
      refine Nat.le_trans (List.length_filter_le _ _) ?_
      rw [List.length_map, List.length_take, List.length_reverse, sortI_len]
      omega
    rw [e]
    show Does K W _ [.fr (dR ps), .ow (dR (F i)), .fr (.int x), .fr (.int (x - (lessN ps x : Int))), .no] _
    by_cases c : 0 < x - (lessN ps x : Int)
    · rw [if_pos c]
      exact does_ift ((et_test (ev_gt (ev_var rfl) ev_int)).cast (decide_eq_true c)) (does_appi rfl (ev_var rfl) (by omega))
    · rw [if_neg c, List.append_nil]
      exact does_iff ((et_test (ev_gt (ev_var rfl) ev_int)).cast (decide_eq_false c)) does_next
  · rw [show F (sortI ps).reverse.length = toldL ps by show List.filter _ (((sortI ps).reverse.take _).map _) = _; rw [List.take_length]; rfl]
    exact does_retv rfl
abbrev N_law_core : List Str := ["row", "rods", "places", "heights", "k", "h"]
def rd_law_core (K : Frg) (C : Ec) (W : WX) : TS := (tSeq (tAsg (tLst tNil) (gName 2))
  (tSeq (tAsg (tCall (spOf K (R_law_spread C)) [] E0 (tCons (tVar 0) (tCons (tVar 1) tNil))) (gName 3))
  (tSeq (tFor (iRng1 (tCons (tVar 1) tNil)) (gName 4)
  (tDrop (tBM K "list" rExtend (tVar 2) (tCons (tLc (iRng1 (tCons (tCB (rLenA K) (tCons (tOp (rIx K) (tVar 3) (tVar 4)) tNil)) tNil)) (gName 5) tYes (tOp rAddA (tOp rMulA (tVar 5) (tVar 1)) (tVar 4)) [5]) tNil))))
  (tRet (tCall (spOf K (R_law_told C)) [] E0 (tCons (tVar 2) tNil))))))
def R_law_core (C : Ec) (ds : List PyData) (o : Except Addr PyData) : Prop := ∃ (r : List Int) (n : Nat), ds = [dR r, .int n] ∧ Row r ∧ r.length ≤ 10000 ∧ 0 < n ∧ n ≤ 1000 ∧ o = .ok (dR (coreM r n))
theorem len_law_core {C : Ec} (ds : List PyData) (o : Except Addr PyData) : R_law_core C ds o → ds.length = ["row", "rods"].length := by
  rintro ⟨_, _, rfl, _⟩; rfl
theorem gather_take_len (hs : List (List Int)) (m : Nat) : ∀ i, i ≤ hs.length → ((List.range i).flatMap fun k => (hs.getD k []).map fun h => h * (m : Int) + (k : Int)).length ≤ (hs.map List.length).sum := fun i hi => by
  have e : (hs.map List.length).sum = ((hs.take i).map List.length).sum + ((hs.drop i).map List.length).sum := by
    rw [← List.sum_append, ← List.map_append, List.take_append_drop]
  rw [List.length_flatMap]
  have e2 : (List.range i).map (fun k => ((hs.getD k []).map fun h => h * (m : Int) + (k : Int)).length) = (hs.take i).map List.length := by
    refine List.ext_getElem (by simp; omega) fun j h1 h2 => ?_
    simp only [List.length_map, List.length_range] at h1
    simp only [List.getElem_map, List.getElem_range, List.length_map, List.getElem_take]
    rw [getD_get (by omega)]
  rw [e2, e]
  omega
theorem does_law_core {K : Frg} {C : Ec} {W : WX} {ds : List PyData} {o : Except Addr PyData} : R_law_core C ds o → FnDoes K W (rd_law_core K C W) (entry N_law_core ds) o := by
  rintro ⟨r, n, rfl, hr, hl, hn, hn2, rfl⟩
  refine .inl ?_
  show Does K W (rd_law_core K C W) [.fr (dR r), .fr (.int n), .no, .no, .no, .no] (.rt (dR (coreM r n)))
  have hlo := lo_le r.length hn
  have hb := beads_rises hr (loM r.length n)
  have ht := rods_total hn hb
  rw [beads_len] at ht
  have hhl : (lspreadM r n).length = n := rods_len _ _
  have hht : ((lspreadM r n).map List.length).sum = loM r.length n := ht
  rw [← lcore_eq hr hn]
  refine does_seq (does_asg (evf_lst evaf_nil)) ?_
  refine does_seq (does_asg (evf_call (eva_cons (ev_var rfl) (eva_cons (ev_var rfl) eva_nil)) ⟨r, n, rfl, hr, hl, hn, hn2, rfl⟩)) ?_
  generalize lspreadM r n = hs at *
  have hfl : (flatL hs).length = n := by rw [flat_len]; exact hhl
  let P : Nat → List Int := fun i => (List.range i).flatMap fun k => ((flatL hs).getD k []).map fun h => h * (n : Int) + (k : Int)
  have hP : ∀ i, i ≤ n → (P i).length ≤ 20000 := fun i hi => by
    have q := gather_take_len (flatL hs) n i (by omega)
    rw [← gather_len, flat_total, hht] at q
    exact Nat.le_trans q (by omega)
  refine does_seq (does_forR (eva_cons (ev_var rfl) eva_nil) (by omega) (by omega) (fun i => [.fr (dR r), .fr (.int n), .ow (dR (P i)), .ow (dRR hs), .no, .no]) rfl fun i hi => ⟨[.fr (dR r), .fr (.int n), .ow (dR (P (i + 1))), .ow (dRR hs), .fr (.int i), .no], ?_, rfl⟩) ?_
  · have hi' : i < hs.length := by omega
    have e3 : (flatL hs).getD i [] = idL (hs.getD i []).length := by
      unfold flatL
      rw [getD_get (by simpa using hi'), getD_get hi', List.getElem_map]
    have e : P (i + 1) = P i ++ (List.range (hs.getD i []).length).map fun h : Nat => (h : Int) * (n : Int) + (i : Int) := by
      show (List.range (i + 1)).flatMap _ = _
      rw [List.range_succ, List.flatMap_append, List.flatMap_singleton, e3]
      unfold idL
      rw [List.map_map]
      rfl
    have q := hP (i + 1) (by omega)
    rw [e] at q ⊢
    rw [List.length_append, List.length_map, List.length_range] at q
    refine does_extR rfl (Evf.cast (evf_mapR (n := ((hs.getD i []).length : Int)) (fun h : Nat => (h : Int) * (n : Int) + (i : Int)) (eva_cons (ev_len (c := PyData.int) (xs := hs.getD i []) (Evr.cast (ev_ixRR (ev_var rfl) (ev_var rfl) (by omega) (by omega)) (by rw [Int.toNat_natCast]))) eva_nil) (by omega) (by omega) fun h _ => ev_add (ev_mul (ev_var rfl) (ev_var rfl) (mul_r (by omega))) (ev_var rfl)) (by rw [Int.toNat_natCast])) (by rw [List.length_map, List.length_range]; omega)
  rw [Int.toNat_natCast]
  have hPn : P n = gatherP (flatL hs) := by
    show (List.range n).flatMap _ = _
    unfold gatherP
    rw [hfl]
  rw [hPn]
  have hgl : (gatherP (flatL hs)).length ≤ 20000 := by rw [← hPn]; exact hP n (Nat.le_refl _)
  refine does_ret (Evf.cast (evf_call (eva_cons (ev_var rfl) eva_nil) ⟨_, rfl, by omega, rfl⟩) ?_)
  rw [told_eq (gather_nodup (flat_all hs))]
  rfl
abbrev N_law_quotient : List Str := ["row", "rods", "heights"]
def rd_law_quotient (K : Frg) (C : Ec) (W : WX) : TS := (tRet (tLc (iList K (tCall (spOf K (R_law_spread C)) [] E0 (tCons (tVar 0) (tCons (tVar 1) tNil)))) (gName 2) tYes (tCall (spOf K (R_law_told C)) [] E0 (tCons (tVar 2) tNil)) [2]))
def R_law_quotient (C : Ec) (ds : List PyData) (o : Except Addr PyData) : Prop := ∃ (r : List Int) (n : Nat), ds = [dR r, .int n] ∧ Row r ∧ r.length ≤ 10000 ∧ 0 < n ∧ n ≤ 1000 ∧ o = .ok (dRR (quotM r n))
theorem len_law_quotient {C : Ec} (ds : List PyData) (o : Except Addr PyData) : R_law_quotient C ds o → ds.length = ["row", "rods"].length := by
  rintro ⟨_, _, rfl, _⟩; rfl
theorem Rises.sort {ps : List Int} (h : Rises ps) : sortI ps = ps := sortI_self (h.rise.imp fun q => by omega)
theorem does_law_quotient {K : Frg} {C : Ec} {W : WX} {ds : List PyData} {o : Except Addr PyData} : R_law_quotient C ds o → FnDoes K W (rd_law_quotient K C W) (entry N_law_quotient ds) o := by
  rintro ⟨r, n, rfl, hr, hl, hn, hn2, rfl⟩
  refine .inl ?_
  have hlo := lo_le r.length hn
  refine does_ret (Evf.cast (evf_mapLL (c := dR) (xs := lspreadM r n) (fun x => dR (toldL x)) (Evf.r (evf_call (eva_cons (ev_var rfl) (eva_cons (ev_var rfl) eva_nil)) ⟨r, n, rfl, hr, hl, hn, hn2, rfl⟩)) (by unfold lspreadM; rw [rods_len]; omega) fun x hx => evf_call (eva_cons (ev_var rfl) eva_nil) ?_) ?_)
  · obtain ⟨j, hj, rfl⟩ := mem_rods hx
    have := rod_len (beadsM r (loM r.length n)) n j
    rw [beads_len] at this
    exact ⟨_, rfl, by omega, rfl⟩
  · rw [← lquot_eq hr hn, dRR, List.map_map]
    congr 1
    refine List.map_congr_left fun x hx => ?_
    obtain ⟨j, hj, rfl⟩ := mem_rods hx
    have h := rod_rises hn (beads_rises hr (loM r.length n)) j
    show dR (toldL _) = dR (rowOfM _)
    rw [told_eq h.nodup, h.sort]
/-! ## core, quotient and charges, whatever the count of beads -/
theorem shift_shift (ps : List Int) (a : Nat) : ∀ b, shiftN (shiftN ps a) b = shiftN ps (a + b)
  | 0 => by rw [shift_zero]; rfl
  | b + 1 => by rw [shift_succ, shift_shift ps a b, ← Nat.add_assoc, shift_succ]
theorem shift_one (ps : List Int) : 0 :: ps.map (· + 1) = shiftN ps 1 := by rw [shift_succ, shift_zero]
theorem rod_shift_mul {ps : List Int} {n k : Nat} (h : Rises ps) (hk : k < n) : ∀ j, rodM (shiftN ps (j * n)) n k = shiftN (rodM ps n k) j
  | 0 => by rw [Nat.zero_mul, shift_zero, shift_zero]
  | j + 1 => by rw [Nat.succ_mul, ← shift_shift, rod_shift (rises_shiftN h _) hk, rod_shift_mul h hk j, shift_one, shift_shift]
theorem shift_len (ps : List Int) (n : Nat) : (shiftN ps n).length = ps.length + n := by
  unfold shiftN
  rw [List.length_append, List.length_map, List.length_map, List.length_range]
  omega
theorem shift_row {h : List Int} (hR : Rises h) (j : Nat) : shiftN h j = beadsM (rowOfM h) (h.length + j) := by
  rw [beads_add (rowOf_len h), beads_rowOf hR]
theorem up_mul (l : Nat) (n : Nat) : ∃ u, upM l n = u * n := ⟨_, rfl⟩
theorem mult_up {l n m : Nat} (hn : 0 < n) (hd : n ∣ m) (h : l ≤ m) : ∃ j, m = upM l n + j * n := by
  obtain ⟨q, rfl⟩ := hd
  have h1 : (l + n - 1) / n ≤ q := by
    refine Nat.le_trans (Nat.div_le_div_right (show l + n - 1 ≤ (n - 1) + n * q by omega)) ?_
    rw [Nat.add_mul_div_left _ _ hn, Nat.div_eq_of_lt (by omega)]
    omega
  refine ⟨q - (l + n - 1) / n, ?_⟩
  unfold upM
  rw [← Nat.add_mul, Nat.mul_comm, Nat.add_sub_cancel' h1]
theorem quot_get {r : List Int} {n k : Nat} (hk : k < n) : (quotM r n).getD k [] = rowOfM (rodM (beadsM r (upM r.length n)) n k) := by
  unfold quotM spreadM rodsM
  rw [getD_get (by simpa using hk)]
  simp
theorem ch_get {r : List Int} {n k : Nat} (hk : k < n) : gi (chM r n) k = ((rodM (beadsM r (upM r.length n)) n k).length : Int) - (upM r.length n : Int) / n := by
  unfold chM spreadM rodsM
  rw [gi_get (by simpa using hk)]
  simp
/-- the rods of so many beads -/
theorem rod_form {r : List Int} {n k m : Nat} (hr : Row r) (hk : k < n) (hd : n ∣ m) (hm : r.length ≤ m) :
    0 ≤ gi (chM r n) k + (m : Int) / n ∧ rodM (beadsM r m) n k = beadsM ((quotM r n).getD k []) (gi (chM r n) k + (m : Int) / n).toNat ∧ ((quotM r n).getD k []).length ≤ (gi (chM r n) k + (m : Int) / n).toNat := by
  have hn : 0 < n := by omega
  obtain ⟨j, rfl⟩ := mult_up hn hd hm
  have hB := beads_rises hr (upM r.length n)
  have hR := rod_rises hn hB k
  rw [quot_get hk, ch_get hk, beads_add (up_ge _ hn), rod_shift_mul hB hk, shift_row hR]
  have e : ((upM r.length n + j * n : Nat) : Int) / n = (upM r.length n : Int) / n + j := by
    rw [Int.natCast_add, Int.natCast_mul, Int.add_mul_ediv_right _ _ (by omega)]
  rw [e]
  have q := rowOf_len (rodM (beadsM r (upM r.length n)) n k)
  refine ⟨by omega, ?_, by omega⟩
  congr 1
  omega
/-- core-making data: so many beads slid down on each rod -/
def lowM (xs : List Int) : List Int := rowOfM (placesOf (xs.map fun x => idL x.toNat))
theorem low_shift {xs : List Int} (hx : ∀ x ∈ xs, 0 ≤ x) (hn : 0 < xs.length) : ∀ j : Nat, lowM (xs.map (· + (j : Int))) = lowM xs
  | 0 => by
    congr 1
    refine (List.map_congr_left fun p _ => ?_).trans (List.map_id _)
    show p + ((0 : Nat) : Int) = id p
    show p + 0 = p
    omega
  | j + 1 => by
    rw [← low_shift hx hn j]
    unfold lowM
    have e : (xs.map (· + ((j + 1 : Nat) : Int))).map (fun x => idL x.toNat) = flatL (((xs.map (· + (j : Int))).map fun x => idL x.toNat).map fun h => 0 :: h.map (· + 1)) := by
      unfold flatL
      rw [List.map_map, List.map_map, List.map_map, List.map_map]
      refine List.map_congr_left fun x m => ?_
      show idL (x + ((j + 1 : Nat) : Int)).toNat = idL (0 :: (idL (x + (j : Int)).toNat).map (· + 1)).length
      have := hx x m
      rw [List.length_cons, List.length_map, id_len]
      congr 1
      omega
    have e2 : flatL ((xs.map (· + (j : Int))).map fun x => idL x.toNat) = (xs.map (· + (j : Int))).map fun x => idL x.toNat := by
      unfold flatL
      rw [List.map_map, List.map_map, List.map_map]
      refine List.map_congr_left fun x _ => ?_
      show idL (idL _).length = _
      rw [id_len]
      rfl
    rw [e, places_shift (by simpa using hn), rowOf_shiftN, e2]
theorem gi_map {xs : List Int} {k : Nat} (f : Int → Int) (hk : k < xs.length) : gi (xs.map f) k = f (gi xs k) := by
  rw [gi_get (by simpa using hk), List.getElem_map, gi_get hk]
theorem mem_ch_nn {r : List Int} {n m : Nat} (hr : Row r) (hn : 0 < n) (hd : n ∣ m) (hm : r.length ≤ m) : ∀ x ∈ (chM r n).map (· + (m : Int) / n), 0 ≤ x := fun x hx => by
  obtain ⟨y, hy, rfl⟩ := List.mem_map.mp hx
  obtain ⟨k, hk, rfl⟩ := mem_gi hy
  have hk' : k < n := by unfold chM spreadM at hk; rw [List.length_map, rods_len] at hk; exact hk
  exact (rod_form hr hk' hd hm).1
theorem up_dvd (l n : Nat) : n ∣ upM l n := ⟨_, Nat.mul_comm _ _⟩
/-- the core by the charges -/
theorem core_low {r : List Int} {n m : Nat} (hr : Row r) (hn : 0 < n) (hd : n ∣ m) (hm : r.length ≤ m) : coreM r n = lowM ((chM r n).map (· + (m : Int) / n)) := by
  obtain ⟨j, rfl⟩ := mult_up hn hd hm
  have hcl : (chM r n).length = n := by unfold chM spreadM; rw [List.length_map, rods_len]
  have e0 : coreM r n = lowM ((chM r n).map (· + ((upM r.length n : Nat) : Int) / n)) := by
    unfold coreM lowM
    congr 1
    congr 1
    unfold flatL chM
    rw [List.map_map, List.map_map]
    refine List.map_congr_left fun x _ => ?_
    show idL x.length = idL (((x.length : Int) - (upM r.length n : Int) / n) + (upM r.length n : Int) / n).toNat
    congr 1
    omega
  have q := low_shift (mem_ch_nn hr hn (up_dvd r.length n) (up_ge _ hn)) (by rw [List.length_map]; omega) j
  rw [e0, ← q, List.map_map]
  congr 1
  refine List.map_congr_left fun x _ => ?_
  show x + (upM r.length n : Int) / n + j = x + ((upM r.length n + j * n : Nat) : Int) / n
  rw [Int.natCast_add, Int.natCast_mul, Int.add_mul_ediv_right _ _ (by omega)]
  omega
/-- rows by quotient and charges -/
theorem row_inj {r s : List Int} {n : Nat} (hr : Row r) (hs : Row s) (hn : 0 < n) (hq : quotM r n = quotM s n) (hc : chM r n = chM s n) : r = s := by
  have hd : n ∣ upM r.length n + upM s.length n := Nat.dvd_add (up_dvd _ _) (up_dvd _ _)
  have h1 : r.length ≤ upM r.length n + upM s.length n := by have := up_ge r.length hn; omega
  have h2 : s.length ≤ upM r.length n + upM s.length n := by have := up_ge s.length hn; omega
  have e : beadsM r (upM r.length n + upM s.length n) = beadsM s (upM r.length n + upM s.length n) := ext_rods hn (beads_rises hr _) (beads_rises hs _) fun k hk => by
    rw [(rod_form hr hk hd h1).2.1, (rod_form hs hk hd h2).2.1, hq, hc]
  exact (rowOf_beads hr h1).symm.trans ((congrArg rowOfM e).trans (rowOf_beads hs h2))
/-- the row of these rods: its quotient, its charges, its core -/
theorem of_rods {hs : List (List Int)} (hA : AllR hs) (hn : 0 < hs.length) (hd : hs.length ∣ (hs.map List.length).sum) :
    Row (rowOfM (placesOf hs)) ∧ quotM (rowOfM (placesOf hs)) hs.length = hs.map rowOfM ∧ chM (rowOfM (placesOf hs)) hs.length = hs.map (fun h => (h.length : Int) - ((hs.map List.length).sum : Int) / hs.length) := by
  have hR := places_rises hA
  have hr := rowOf_row hR
  have hpl : (placesOf hs).length = (hs.map List.length).sum := by unfold placesOf; rw [sortI_len, gather_len]
  have hle : (rowOfM (placesOf hs)).length ≤ (hs.map List.length).sum := by rw [← hpl]; exact rowOf_len _
  have hb : beadsM (rowOfM (placesOf hs)) (hs.map List.length).sum = placesOf hs := by rw [← hpl]; exact beads_rowOf hR
  have key : ∀ k, k < hs.length → (quotM (rowOfM (placesOf hs)) hs.length).getD k [] = rowOfM (hs.getD k []) ∧ gi (chM (rowOfM (placesOf hs)) hs.length) k = ((hs.getD k []).length : Int) - ((hs.map List.length).sum : Int) / hs.length := fun k hk => by
    obtain ⟨a, b, c⟩ := rod_form hr hk hd hle
    rw [hb, rod_places hA hk] at b
    have l := congrArg List.length b
    rw [beads_len] at l
    refine ⟨?_, by omega⟩
    rw [b, rowOf_beads _ c]
    rw [quot_get hk]
    exact rowOf_row (rod_rises hn (beads_rises hr _) k)
  refine ⟨hr, eq_of_getD (d := []) (by unfold quotM spreadM; rw [List.length_map, List.length_map, rods_len]) fun k hk => ?_, eq_of_gi (by unfold chM spreadM; rw [List.length_map, List.length_map, rods_len]) fun k hk => ?_⟩
  · rw [List.length_map] at hk
    rw [(key k hk).1, getD_get hk, getD_get (by simpa using hk), List.getElem_map]
  · rw [List.length_map] at hk
    rw [(key k hk).2, getD_get hk, gi_get (by simpa using hk), List.getElem_map]
/-! ### sums -/
theorem sum_filter_pos : ∀ {l : List Int}, (∀ x ∈ l, 0 ≤ x) → (l.filter fun x => decide (0 < x)).sum = l.sum
  | [], _ => rfl
  | x :: l, h => by
    have ih := sum_filter_pos (l := l) fun y m => h y (List.mem_cons_of_mem _ m)
    rw [List.filter_cons, List.sum_cons]
    have := h x List.mem_cons_self
    by_cases c : 0 < x
    · rw [if_pos (decide_eq_true c), List.sum_cons, ih]
    · rw [if_neg (by simpa using c), ih]; omega
theorem sum_rev (l : List Int) : l.reverse.sum = l.sum := by
  induction l with
  | nil => rfl
  | cons x l ih => rw [List.reverse_cons, List.sum_append, ih, List.sum_cons, List.sum_cons, List.sum_nil]; omega
theorem perm_sum {r s : List Int} (h : r.Perm s) : r.sum = s.sum := by
  induction h with
  | nil => rfl
  | cons x _ ih => rw [List.sum_cons, List.sum_cons, ih]
  | swap x y l => rw [List.sum_cons, List.sum_cons, List.sum_cons, List.sum_cons]; omega
  | trans _ _ h1 h2 => exact h1.trans h2
theorem sum_map_sub {α : Type} (l : List α) (f g : α → Int) : (l.map fun x => f x - g x).sum = (l.map f).sum - (l.map g).sum := by
  induction l with
  | nil => rfl
  | cons x l ih => rw [List.map_cons, List.sum_cons, ih, List.map_cons, List.sum_cons, List.map_cons, List.sum_cons]; omega
theorem sum_map_add {α : Type} (l : List α) (f g : α → Int) : (l.map fun x => f x + g x).sum = (l.map f).sum + (l.map g).sum := by
  induction l with
  | nil => rfl
  | cons x l ih => rw [List.map_cons, List.sum_cons, ih, List.map_cons, List.sum_cons, List.map_cons, List.sum_cons]; omega
theorem sum_map_mul {α : Type} (l : List α) (f : α → Int) (c : Int) : (l.map fun x => c * f x).sum = c * (l.map f).sum := by
  induction l with
  | nil => show (0 : Int) = c * 0; omega
  | cons x l ih => rw [List.map_cons, List.sum_cons, ih, List.map_cons, List.sum_cons, Int.mul_add]
theorem sum_const {α : Type} (l : List α) (c : Int) : (l.map fun _ => c).sum = (l.length : Int) * c := by
  induction l with
  | nil => show (0 : Int) = ((0 : Nat) : Int) * c; rw [Int.natCast_zero, Int.zero_mul]
  | cons x l ih => rw [List.map_cons, List.sum_cons, ih, List.length_cons, Int.natCast_add, Int.add_mul]; omega
theorem row_sum {ps : List Int} (h : Rises ps) : (rowOfM ps).sum = ps.sum - (idL ps.length).sum := by
  unfold rowOfM
  rw [sum_filter_pos (off_fall h).1]
  unfold offM
  rw [sum_rev, sum_map_sub, map_gi]
  rfl
theorem sum_flatMap {α : Type} (l : List α) (f : α → List Int) : (l.flatMap f).sum = (l.map fun x => (f x).sum).sum := by
  induction l with
  | nil => rfl
  | cons x l ih => rw [List.flatMap_cons, List.sum_append, ih, List.map_cons, List.sum_cons]
theorem gather_sum (hs : List (List Int)) : (gatherP hs).sum = (hs.length : Int) * ((List.range hs.length).map fun k => (hs.getD k []).sum).sum + ((List.range hs.length).map fun k => ((hs.getD k []).length : Int) * k).sum := by
  unfold gatherP
  rw [sum_flatMap, ← sum_map_mul, ← sum_map_add]
  congr 1
  refine List.map_congr_left fun k _ => ?_
  rw [sum_map_add, sum_const]
  congr 1
  rw [show ((hs.getD k []).map fun h => h * (hs.length : Int)) = (hs.getD k []).map fun h => (hs.length : Int) * h from List.map_congr_left fun h _ => Int.mul_comm _ _]
  have := sum_map_mul (hs.getD k []) id (hs.length : Int)
  rw [List.map_id] at this
  exact this
theorem places_sum (hs : List (List Int)) : (placesOf hs).sum = (gatherP hs).sum := perm_sum (sortI_perm _)
/-- the cells: those of the core and of the quotient's rows, so many times -/
theorem cells_eq {r : List Int} {n : Nat} (hr : Row r) (hn : 0 < n) : (coreM r n).sum + n * ((quotM r n).map List.sum).sum = r.sum := by
  have hB := beads_rises hr (upM r.length n)
  have hA := rods_all (n := n) hB
  have hF := flat_all (rodsM (beadsM r (upM r.length n)) n)
  have e1 : r = rowOfM (beadsM r (upM r.length n)) := (rowOf_beads hr (up_ge _ hn)).symm
  have e2 := row_sum hB
  rw [← e1, beads_len] at e2
  have e3 := row_sum (places_rises hF)
  have l3 : (placesOf (flatL (rodsM (beadsM r (upM r.length n)) n))).length = upM r.length n := by
    unfold placesOf
    rw [sortI_len, flat_total, rods_total hn hB, beads_len]
  rw [l3, places_sum, gather_sum] at e3
  have e4 : (beadsM r (upM r.length n)).sum = (gatherP (rodsM (beadsM r (upM r.length n)) n)).sum := by
    rw [← places_sum, places_rods hn hB]
  rw [gather_sum] at e4
  have hl : (flatL (rodsM (beadsM r (upM r.length n)) n)).length = n := by rw [flat_len, rods_len]
  rw [hl] at e3
  rw [rods_len] at e4
  have g1 : ∀ k, k < n → (flatL (rodsM (beadsM r (upM r.length n)) n)).getD k [] = idL (rodM (beadsM r (upM r.length n)) n k).length := fun k hk => by
    unfold flatL
    rw [getD_get (by rw [List.length_map, rods_len]; exact hk), List.getElem_map]
    simp [rodsM]
  have g2 : (List.range n).map (fun k => (((flatL (rodsM (beadsM r (upM r.length n)) n)).getD k []).length : Int) * k) = (List.range n).map fun k => (((rodsM (beadsM r (upM r.length n)) n).getD k []).length : Int) * k :=
    List.map_congr_left fun k hk => by
      have hk' := List.mem_range.mp hk
      rw [g1 k hk', id_len, rods_get hk']
  rw [g2] at e3
  have g3 : ((quotM r n).map List.sum) = (List.range n).map fun k => ((rodsM (beadsM r (upM r.length n)) n).getD k []).sum - ((flatL (rodsM (beadsM r (upM r.length n)) n)).getD k []).sum := by
    unfold quotM spreadM
    refine List.ext_getElem (by simp [rodsM]) fun k h1 h2 => ?_
    have hk : k < n := by simpa using h2
    simp only [List.getElem_map, List.getElem_range]
    rw [g1 k hk, rods_get hk]
    have : (rodsM (beadsM r (upM r.length n)) n)[k]'(by rw [rods_len]; exact hk) = rodM (beadsM r (upM r.length n)) n k := by simp [rodsM]
    rw [this]
    exact row_sum (rod_rises hn hB k)
  rw [g3, sum_map_sub]
  have : coreM r n = rowOfM (placesOf (flatL (rodsM (beadsM r (upM r.length n)) n))) := rfl
  rw [← this] at e3
  rw [e3, e2, e4, Int.mul_sub]
  omega
/-! ## joined again -/
def minI (c : List Int) : Int := gi (sortI c) 0
def maxI (c : List Int) : Int := gi (sortI c) ((c.length - 1 : Nat) : Int)
theorem minI_spec {c : List Int} (h : 0 < c.length) : minI c ∈ c ∧ ∀ y ∈ c, minI c ≤ y := by
  have hl : 0 < (sortI c).length := by rw [sortI_len]; exact h
  refine ⟨sortI_mem.mp (gi_mem (i := 0) hl), fun y hy => ?_⟩
  obtain ⟨i, hi, rfl⟩ := mem_gi (sortI_mem.mpr hy)
  unfold minI
  by_cases e : i = 0
  · subst e; exact Int.le_refl _
  · have := List.pairwise_iff_getElem.mp (sortI_rise c) 0 i hl hi (by omega)
    rw [← gi_get hl, ← gi_get hi] at this
    exact this
theorem maxI_spec {c : List Int} (h : 0 < c.length) : maxI c ∈ c ∧ ∀ y ∈ c, y ≤ maxI c := by
  have hl : c.length - 1 < (sortI c).length := by rw [sortI_len]; omega
  refine ⟨sortI_mem.mp (gi_mem hl), fun y hy => ?_⟩
  obtain ⟨i, hi, rfl⟩ := mem_gi (sortI_mem.mpr hy)
  unfold maxI
  by_cases e : i = c.length - 1
  · subst e; exact Int.le_refl _
  · have hi' := hi
    rw [sortI_len] at hi'
    have := List.pairwise_iff_getElem.mp (sortI_rise c) i (c.length - 1) hi hl (by omega)
    rw [← gi_get hl, ← gi_get hi] at this
    exact this
def cofM (c : List Int) : List Int := lowM (c.map (· - minI c))
def joinHs (mid : List Int) (rows : List (List Int)) (n : Nat) : List (List Int) := (List.range n).map fun k : Nat => beadsM (rows.getD k []) (gi (chM mid n) k - minI (chM mid n) + maxI (rows.map fun x => (x.length : Int))).toNat
def joinM (mid : List Int) (rows : List (List Int)) (n : Nat) : List Int := rowOfM (placesOf (joinHs mid rows n))
theorem ch_length (r : List Int) (n : Nat) : (chM r n).length = n := by unfold chM spreadM; rw [List.length_map, rods_len]
theorem quot_length (r : List Int) (n : Nat) : (quotM r n).length = n := by unfold quotM spreadM; rw [List.length_map, rods_len]
theorem quot_row {r x : List Int} {n : Nat} (hr : Row r) (hx : x ∈ quotM r n) : Row x := by
  obtain ⟨h, hh, rfl⟩ := List.mem_map.mp hx
  obtain ⟨k, hk, rfl⟩ := mem_rods hh
  exact rowOf_row (rod_rises (by omega) (beads_rises hr _) k)
theorem quot_x_len {r x : List Int} {n : Nat} (hx : x ∈ quotM r n) : x.length ≤ upM r.length n := by
  obtain ⟨h, hh, rfl⟩ := List.mem_map.mp hx
  obtain ⟨k, hk, rfl⟩ := mem_rods hh
  have h1 := rowOf_len (rodM (beadsM r (upM r.length n)) n k)
  have h2 := rod_len (beadsM r (upM r.length n)) n k
  rw [beads_len] at h2
  omega
theorem core_row {r : List Int} {n : Nat} : Row (coreM r n) := rowOf_row (places_rises (flat_all _))
theorem core_length {r : List Int} {n : Nat} (hr : Row r) (hn : 0 < n) : (coreM r n).length ≤ upM r.length n := by
  have h1 := rowOf_len (placesOf (flatL (spreadM r n)))
  have h2 : (placesOf (flatL (spreadM r n))).length = upM r.length n := by
    unfold placesOf spreadM
    rw [sortI_len, flat_total, rods_total hn (beads_rises hr _), beads_len]
  rw [h2] at h1
  exact h1
theorem ch_sum {r : List Int} {n : Nat} (hr : Row r) (hn : 0 < n) : (chM r n).sum = 0 := by
  unfold chM
  rw [sum_map_sub, sum_lens, sum_const]
  have h1 : ((spreadM r n).map List.length).sum = upM r.length n := by
    unfold spreadM
    rw [rods_total hn (beads_rises hr _), beads_len]
  have h2 : (spreadM r n).length = n := rods_len _ _
  rw [h1, h2, Int.mul_ediv_cancel' (Int.natCast_dvd_natCast.mpr (up_dvd _ _))]
  omega
theorem ch_bound {r : List Int} {n : Nat} (hr : Row r) (hn : 0 < n) : ∀ x ∈ chM r n, -(upM r.length n : Int) ≤ x ∧ x ≤ upM r.length n := fun x hx => by
  obtain ⟨k, hk, rfl⟩ := mem_gi hx
  rw [ch_length] at hk
  rw [ch_get hk]
  have h2 := rod_len (beadsM r (upM r.length n)) n k
  rw [beads_len] at h2
  have h3 : 0 ≤ (upM r.length n : Int) / n := Int.ediv_nonneg (by omega) (by omega)
  have h4 : (upM r.length n : Int) / n ≤ upM r.length n := Int.ediv_le_self _ (by omega)
  omega
/-- so many beads on each rod, slid down; all one more -/
theorem low_eq {c d : List Int} (hn : 0 < c.length) (hc : ∀ x ∈ c, 0 ≤ x) (j : Nat) (e : d = c.map (· + (j : Int))) : lowM d = lowM c := by rw [e]; exact low_shift hc hn j
theorem core_cof {r : List Int} {n : Nat} (hr : Row r) (hn : 0 < n) : coreM r n = cofM (chM r n) := by
  have hl := ch_length r n
  obtain ⟨m1, m2⟩ := minI_spec (c := chM r n) (by omega)
  have hnn := mem_ch_nn hr hn (up_dvd r.length n) (up_ge r.length hn)
  have h0 := hnn _ (List.mem_map.mpr ⟨_, m1, rfl⟩)
  rw [core_low hr hn (up_dvd r.length n) (up_ge r.length hn)]
  refine low_eq (by rw [List.length_map]; omega) (fun x hx => ?_) (minI (chM r n) + (upM r.length n : Int) / n).toNat ?_
  · obtain ⟨y, hy, rfl⟩ := List.mem_map.mp hx
    have := m2 y hy
    show 0 ≤ y - minI (chM r n)
    omega
  · rw [List.map_map]
    refine List.map_congr_left fun x _ => ?_
    show x + (upM r.length n : Int) / n = x - minI (chM r n) + _
    omega
theorem sum_nat_cast (l : List (List Int)) (f : List Int → Int) (h : ∀ x ∈ l, (x.length : Int) = f x) : (((l.map List.length).sum : Nat) : Int) = (l.map f).sum := by
  rw [← sum_lens]
  congr 1
  exact List.map_congr_left h
/-- rods made of rows and of charges that come to nought, one raised by t -/
theorem of_charges {c : List Int} {rows : List (List Int)} {t : Int} (hn : 0 < c.length) (hl : rows.length = c.length) (hrow : ∀ x ∈ rows, Row x) (hsum : c.sum = 0)
    (hle : ∀ k, k < c.length → ((rows.getD k []).length : Int) ≤ gi c k + t) :
    let hs := (List.range c.length).map fun k : Nat => beadsM (rows.getD k []) (gi c k + t).toNat
    AllR hs ∧ hs.length = c.length ∧ (((hs.map List.length).sum : Nat) : Int) = c.length * t ∧ Row (rowOfM (placesOf hs)) ∧ quotM (rowOfM (placesOf hs)) c.length = rows ∧ chM (rowOfM (placesOf hs)) c.length = c := by
  intro hs
  have hhl : hs.length = c.length := by simp [hs]
  have hget : ∀ k, k < c.length → hs.getD k [] = beadsM (rows.getD k []) (gi c k + t).toNat := fun k hk => by
    rw [getD_get (by rw [hhl]; exact hk)]
    simp [hs]
  have hrk : ∀ k, k < c.length → Row (rows.getD k []) := fun k hk => by
    rw [getD_get (by omega)]
    exact hrow _ (List.getElem_mem _)
  have hA : AllR hs := fun k hk => by
    rw [hhl] at hk
    rw [hget k hk]
    exact beads_rises (hrk k hk) _
  have hlen : ∀ k, k < c.length → ((hs.getD k []).length : Int) = gi c k + t := fun k hk => by
    rw [hget k hk, beads_len]
    have := hle k hk
    omega
  have hT : (((hs.map List.length).sum : Nat) : Int) = c.length * t := by
    have e : (hs.map List.length).map (fun l : Nat => (l : Int)) = c.map (· + t) := by
      refine List.ext_getElem (by simp [hs]) fun k h1 h2 => ?_
      have hk : k < c.length := by simpa using h2
      simp only [List.getElem_map]
      have := hlen k hk
      rw [getD_get (by rw [hhl]; exact hk)] at this
      rw [this, gi_get hk]
    have e2 : (((hs.map List.length).sum : Nat) : Int) = ((hs.map List.length).map (fun l : Nat => (l : Int))).sum := by
      have e3 : (hs.map List.length).map (fun l : Nat => (l : Int)) = hs.map fun h => (h.length : Int) := by rw [List.map_map]; rfl
      rw [e3]; exact (sum_lens hs).symm
    rw [e2, e]
    have := sum_map_add c id (fun _ => t)
    rw [List.map_id, hsum, sum_const] at this
    rw [show c.map (· + t) = c.map (fun x => id x + t) from rfl, this]
    omega
  have hd : hs.length ∣ (hs.map List.length).sum := by
    refine Int.natCast_dvd_natCast.mp ?_
    rw [hT, hhl]
    exact Int.dvd_mul_right _ _
  obtain ⟨q1, q2, q3⟩ := of_rods hA (by omega) hd
  rw [hhl] at q2 q3
  refine ⟨hA, hhl, hT, q1, ?_, ?_⟩
  · rw [q2]
    refine eq_of_getD (d := []) (by rw [List.length_map, hhl, hl]) fun k hk => ?_
    have hk' : k < c.length := by omega
    rw [getD_get (by rw [List.length_map, hhl]; exact hk'), List.getElem_map]
    have := hget k hk'
    rw [getD_get (by rw [hhl]; exact hk')] at this
    rw [this, rowOf_beads (hrk k hk')]
    have := hle k hk'
    omega
  · rw [q3]
    refine eq_of_gi (by rw [List.length_map, hhl]) fun k hk => ?_
    rw [gi_get (by rw [List.length_map, hhl]; exact hk), List.getElem_map]
    have := hlen k hk
    rw [getD_get (by rw [hhl]; exact hk)] at this
    rw [this, hT, Int.mul_ediv_cancel_left _ (by omega)]
    omega
theorem getD_rep {n k : Nat} : (List.replicate n ([] : List Int)).getD k [] = [] := by
  rw [List.getD_eq_getElem?_getD, List.getElem?_replicate]
  split <;> rfl
theorem beads_nil (m : Nat) : beadsM [] m = idL m := by
  unfold beadsM idL
  refine List.map_congr_left fun k _ => ?_
  rw [gi_out (by exact Nat.zero_le _)]
  omega
/-- the core of charges that come to nought -/
theorem cof_spec {c : List Int} (hn : 0 < c.length) (hsum : c.sum = 0) : Row (cofM c) ∧ quotM (cofM c) c.length = List.replicate c.length [] ∧ chM (cofM c) c.length = c ∧ coreM (cofM c) c.length = cofM c := by
  obtain ⟨m1, m2⟩ := minI_spec hn
  have q := of_charges (c := c) (rows := List.replicate c.length []) (t := -minI c) hn (by simp) (fun x hx => by rw [(List.mem_replicate.mp hx).2]; exact Row.nil) hsum fun k hk => by
    have := m2 _ (gi_mem hk)
    rw [getD_rep]
    show ((0 : Nat) : Int) ≤ _
    omega
  have e : ((List.range c.length).map fun k : Nat => beadsM ((List.replicate c.length ([] : List Int)).getD k []) (gi c k + -minI c).toNat) = (c.map (· - minI c)).map fun x => idL x.toNat := by
    refine List.ext_getElem (by simp) fun k h1 h2 => ?_
    have hk : k < c.length := by simpa using h2
    simp only [List.getElem_map, List.getElem_range]
    rw [getD_rep, beads_nil, gi_get hk]
    rfl
  have q' := q
  simp only [] at q'
  rw [e] at q'
  obtain ⟨_, _, _, h1, h2, h3⟩ := q'
  have h1' : Row (cofM c) := h1
  have h3' : chM (cofM c) c.length = c := h3
  exact ⟨h1', h2, h3', by rw [core_cof h1' hn, h3']⟩
theorem core_core {r : List Int} {n : Nat} (hr : Row r) (hn : 0 < n) : coreM (coreM r n) n = coreM r n ∧ quotM (coreM r n) n = List.replicate n [] ∧ chM (coreM r n) n = chM r n := by
  have hl := ch_length r n
  obtain ⟨_, h2, h3, h4⟩ := cof_spec (c := chM r n) (by omega) (ch_sum hr hn)
  rw [hl] at h2 h3 h4
  rw [core_cof hr hn]
  exact ⟨h4, h2, h3⟩
/-- what is joined: its quotient, charges, core -/
theorem join_spec {mid : List Int} {rows : List (List Int)} {n : Nat} (hm : Row mid) (hn : 0 < n) (hl : rows.length = n) (hrow : ∀ x ∈ rows, Row x) :
    Row (joinM mid rows n) ∧ AllR (joinHs mid rows n) ∧ quotM (joinM mid rows n) n = rows ∧ chM (joinM mid rows n) n = chM mid n ∧ coreM (joinM mid rows n) n = coreM mid n := by
  have hcl := ch_length mid n
  obtain ⟨m1, m2⟩ := minI_spec (c := chM mid n) (by omega)
  obtain ⟨x1, x2⟩ := maxI_spec (c := rows.map fun x => (x.length : Int)) (by rw [List.length_map]; omega)
  have q := of_charges (c := chM mid n) (rows := rows) (t := -minI (chM mid n) + maxI (rows.map fun x => (x.length : Int))) (by omega) (by omega) hrow (ch_sum hm hn) fun k hk => by
    have := m2 _ (gi_mem hk)
    have := x2 ((rows.getD k []).length : Int) (List.mem_map.mpr ⟨rows.getD k [], by rw [getD_get (by omega)]; exact List.getElem_mem _, rfl⟩)
    omega
  have e : ((List.range (chM mid n).length).map fun k : Nat => beadsM (rows.getD k []) (gi (chM mid n) k + (-minI (chM mid n) + maxI (rows.map fun x => (x.length : Int)))).toNat) = joinHs mid rows n := by
    unfold joinHs
    rw [hcl]
    refine List.map_congr_left fun k _ => ?_
    congr 1
    omega
  simp only [] at q
  rw [e, hcl] at q
  obtain ⟨h0, _, _, h1, h2, h3⟩ := q
  have h1' : Row (joinM mid rows n) := h1
  have h3' : chM (joinM mid rows n) n = chM mid n := h3
  exact ⟨h1', h0, h2, h3', by rw [core_cof h1' hn, h3', core_cof hm hn]⟩
theorem join_back {r : List Int} {n : Nat} (hr : Row r) (hn : 0 < n) : joinM (coreM r n) (quotM r n) n = r := by
  obtain ⟨h1, _, h2, h3, _⟩ := join_spec (mid := coreM r n) (rows := quotM r n) core_row hn (quot_length r n) fun x hx => quot_row hr hx
  exact row_inj h1 hr hn h2 (by rw [h3, (core_core hr hn).2.2])
theorem join_empty {mid : List Int} {n : Nat} (hm : Row mid) (hn : 0 < n) (hc : coreM mid n = mid) : joinM mid (List.replicate n []) n = mid := by
  obtain ⟨h1, _, h2, h3, _⟩ := join_spec (mid := mid) (rows := List.replicate n []) hm hn (by simp) fun x hx => by rw [(List.mem_replicate.mp hx).2]; exact Row.nil
  refine row_inj h1 hm hn ?_ h3
  rw [h2, ← hc, (core_core hm hn).2.1]
abbrev N_core_of : List Str := ["numbers", "least", "number"]
def rd_core_of (K : Frg) (C : Ec) (W : WX) : TS := (tSeq (tDrop (tCallS (spOf K (R_known C)) (WE W) (tCons (tCB (rLenA K) (tCons (tVar 0) tNil)) tNil)))
  (tSeq (tIfS (tTest (tOp (rNeA K) (tCB (rSum K) (tCons (tVar 0) tNil)) (tC (.int 0))))
  (tRz W C.NoCharges) tNext)
  (tSeq (tAsg (tCB (rMin K) (tCons (tVar 0) tNil)) (gName 1))
  (tRet (tCall (spOf K (R_gathered C)) [] E0 (tCons (tLc (iList K (tVar 0)) (gName 2) tYes (tLstRg (tRg1 (tOp rSubI (tVar 2) (tVar 1)))) [2]) tNil))))))
def R_core_of (C : Ec) (ds : List PyData) (o : Except Addr PyData) : Prop := ∃ c : List Int, ds = [dR c] ∧ c.length ≤ 1000 ∧ (∀ x ∈ c, -1000 ≤ x ∧ x ≤ 1000) ∧ ((¬ RodsOk c.length ∧ o = .error C.NoRods) ∨ (RodsOk c.length ∧ c.sum ≠ 0 ∧ o = .error C.NoCharges) ∨ (RodsOk c.length ∧ c.sum = 0 ∧ o = .ok (dR (cofM c))))
theorem len_core_of {C : Ec} (ds : List PyData) (o : Except Addr PyData) : R_core_of C ds o → ds.length = ["numbers"].length := by
  rintro ⟨_, rfl, _⟩; rfl
theorem sum_le_mul : ∀ {l : List Nat} {b : Nat}, (∀ x ∈ l, x ≤ b) → l.sum ≤ l.length * b
  | [], _, _ => Nat.zero_le _
  | x :: l, b, h => by
    rw [List.sum_cons, List.length_cons, Nat.add_mul]
    have := sum_le_mul (l := l) (b := b) fun y m => h y (List.mem_cons_of_mem _ m)
    have := h x List.mem_cons_self
    omega
theorem does_core_of {K : Frg} {C : Ec} {W : WX} {ds : List PyData} {o : Except Addr PyData} : R_core_of C ds o → FnDoes K W (rd_core_of K C W) (entry N_core_of ds) o := by
  rintro ⟨c, rfl, hl, hb, ⟨h, rfl⟩ | ⟨h, hs, rfl⟩ | ⟨h, hs, rfl⟩⟩
  · exact ⟨_, does_seq_ex (does_dropx (evx_callS (eva_cons (ev_len (ev_var rfl)) eva_nil) ⟨_, rfl, .inr ⟨h, rfl⟩⟩))⟩
  · exact ⟨_, does_seq (does_drop (Evf.r (evf_callS (eva_cons (ev_len (ev_var rfl)) eva_nil) ⟨_, rfl, .inl ⟨h, rfl⟩⟩))) (does_seq_ex (does_ift ((et_test (ev_nei (ev_sum (ev_var rfl)) ev_int)).cast (decide_eq_true hs)) does_rz))⟩
  · refine .inl ?_
    have hn : 0 < c.length := by have := h.1; omega
    have hn8 : c.length ≤ 8 := by have := h.2; omega
    obtain ⟨m1, m2⟩ := minI_spec hn
    have hm := hb _ m1
    refine does_seq (does_drop (Evf.r (evf_callS (eva_cons (ev_len (ev_var rfl)) eva_nil) ⟨_, rfl, .inl ⟨h, rfl⟩⟩))) ?_
    refine does_seq (does_iff ((et_test (ev_nei (ev_sum (ev_var rfl)) ev_int)).cast (decide_eq_false (fun z => z hs))) does_next) ?_
    refine does_seq (does_asgi (ev_minL (ev_var rfl) m1 m2)) ?_
    refine does_ret (evf_call (eva_cons (Evf.r (Evf.cast (evf_mapLL (c := PyData.int) (xs := c) (fun x => dR (idL (x - minI c).toNat)) (ev_var rfl) (by omega) fun x hx => evf_listRg (ev_sub (ev_var rfl) (ev_var rfl)) (by have := hb x hx; omega) (by have := hb x hx; omega)) (show _ = dRR ((c.map (· - minI c)).map fun x => idL x.toNat) by rw [dRR, List.map_map, List.map_map]; rfl))) eva_nil)
      ⟨_, rfl, by rw [List.length_map, List.length_map]; omega, ?_, fun k hk => ?_, rfl⟩)
    · rw [gather_len]
      refine Nat.le_trans (sum_le_mul (b := 2000) fun l hm => ?_) (by rw [List.length_map, List.length_map, List.length_map]; omega)
      obtain ⟨y, hy, rfl⟩ := List.mem_map.mp hm
      obtain ⟨z, hz, rfl⟩ := List.mem_map.mp hy
      obtain ⟨x, hx, rfl⟩ := List.mem_map.mp hz
      rw [id_len]
      have := hb x hx
      show (x - minI c).toNat ≤ 2000
      omega
    · rw [getD_get hk, List.getElem_map]
      exact id_rises _
abbrev N_joined : List Str := ["middle", "rows", "rods", "numbers", "most", "least", "row", "k"]
def rd_joined (K : Frg) (C : Ec) (W : WX) : TS := (tSeq (tDrop (tCallS (spOf K (R_known C)) (WE W) (tCons (tVar 2) tNil)))
  (tSeq (tIfS (tNot (tB (tCallS (spOf K (R_is_core C)) (WE W) (tCons (tVar 0) (tCons (tVar 2) tNil)))))
  (tRz W C.NoCore) tNext)
  (tSeq (tIfS (tTest (tOp (rNeA K) (tCB (rLenA K) (tCons (tVar 1) tNil)) (tVar 2)))
  (tRz W C.NoQuotient) tNext)
  (tSeq (tAsg (tCallS (spOf K (R_charges C)) (WE W) (tCons (tVar 0) (tCons (tVar 2) tNil))) (gName 3))
  (tSeq (tAsg (tCB (rMax K) (tCons (tLc (iList K (tVar 1)) (gName 6) tYes (tCB (rLenA K) (tCons (tVar 6) tNil)) [6]) tNil)) (gName 4))
  (tSeq (tAsg (tCB (rMin K) (tCons (tVar 3) tNil)) (gName 5))
  (tRet (tCall (spOf K (R_gathered C)) [] E0 (tCons (tLc (iRng1 (tCons (tVar 2) tNil)) (gName 7) tYes (tCall (spOf K (R_beads C)) [] E0 (tCons (tOp (rIx K) (tVar 1) (tVar 7)) (tCons (tOp rAddA (tOp rSubI (tOp (rIx K) (tVar 3) (tVar 7)) (tVar 5)) (tVar 4)) tNil))) [7]) tNil)))))))))
def R_joined (C : Ec) (ds : List PyData) (o : Except Addr PyData) : Prop := ∃ (mid : List Int) (rows : List (List Int)) (n : Int), ds = [dR mid, dRR rows, .int n] ∧ Row mid ∧ mid.length ≤ 1000 ∧ rows.length ≤ 1000 ∧ (∀ x ∈ rows, Row x ∧ x.length ≤ 1000) ∧
  ((¬ RodsOk n ∧ o = .error C.NoRods) ∨ (RodsOk n ∧ coreM mid n.toNat ≠ mid ∧ o = .error C.NoCore) ∨ (RodsOk n ∧ coreM mid n.toNat = mid ∧ (rows.length : Int) ≠ n ∧ o = .error C.NoQuotient) ∨ (RodsOk n ∧ coreM mid n.toNat = mid ∧ (rows.length : Int) = n ∧ o = .ok (dR (joinM mid rows n.toNat))))
theorem len_joined {C : Ec} (ds : List PyData) (o : Except Addr PyData) : R_joined C ds o → ds.length = ["middle", "rows", "rods"].length := by
  rintro ⟨_, _, _, rfl, _⟩; rfl
theorem does_joined {K : Frg} {C : Ec} {W : WX} {ds : List PyData} {o : Except Addr PyData} : R_joined C ds o → FnDoes K W (rd_joined K C W) (entry N_joined ds) o := by
  rintro ⟨mid, rows, n, rfl, hm, hml, hrl, hrow, ⟨h, rfl⟩ | ⟨h, hc, rfl⟩ | ⟨h, hc, hq, rfl⟩ | ⟨h, hc, hq, rfl⟩⟩
  · exact ⟨_, does_seq_ex (does_dropx (evx_callS (eva_cons (ev_var rfl) eva_nil) ⟨_, rfl, .inr ⟨h, rfl⟩⟩))⟩
  · exact ⟨_, does_seq (does_drop (Evf.r (evf_callS (eva_cons (ev_var rfl) eva_nil) ⟨_, rfl, .inl ⟨h, rfl⟩⟩))) (does_seq_ex (does_ift ((et_not (et_B (Evf.r (evf_callS (d := .bool (decide (coreM mid n.toNat = mid))) (eva_cons (ev_var rfl) (eva_cons (ev_var rfl) eva_nil)) ⟨mid, n, rfl, hm, by omega, .inl ⟨h, rfl⟩⟩)))).cast (by rw [decide_eq_false hc]; rfl)) does_rz))⟩
  · exact ⟨_, does_seq (does_drop (Evf.r (evf_callS (eva_cons (ev_var rfl) eva_nil) ⟨_, rfl, .inl ⟨h, rfl⟩⟩))) (does_seq (does_iff ((et_not (et_B (Evf.r (evf_callS (d := .bool (decide (coreM mid n.toNat = mid))) (eva_cons (ev_var rfl) (eva_cons (ev_var rfl) eva_nil)) ⟨mid, n, rfl, hm, by omega, .inl ⟨h, rfl⟩⟩)))).cast (by rw [decide_eq_true hc]; rfl)) does_next)
      (does_seq_ex (does_ift ((et_test (ev_nei (ev_len (ev_var rfl)) (ev_var rfl))).cast (decide_eq_true hq)) does_rz)))⟩
  · refine .inl ?_
    obtain ⟨k, rfl, hk0, hk8⟩ := h.nat
    have hql : rows.length = k := by omega
    rw [Int.toNat_natCast] at hc ⊢
    obtain ⟨_, hA, _, _, _⟩ := join_spec hm hk0 hql fun x hx => (hrow x hx).1
    have hcl := ch_length mid k
    have hup := up_le mid.length k
    obtain ⟨m1, m2⟩ := minI_spec (c := chM mid k) (by omega)
    obtain ⟨x1, x2⟩ := maxI_spec (c := rows.map fun x => (x.length : Int)) (by rw [List.length_map]; omega)
    have hmb := ch_bound hm hk0 _ m1
    have hxb : maxI (rows.map fun x => (x.length : Int)) ≤ 1000 := by
      obtain ⟨y, hy, e⟩ := List.mem_map.mp x1
      have := (hrow y hy).2
      omega
    have hxb0 : 0 ≤ maxI (rows.map fun x => (x.length : Int)) := by
      obtain ⟨y, hy, e⟩ := List.mem_map.mp x1
      omega
    refine does_seq (does_drop (Evf.r (evf_callS (eva_cons (ev_var rfl) eva_nil) ⟨_, rfl, .inl ⟨h, rfl⟩⟩))) ?_
    refine does_seq (does_iff ((et_not (et_B (Evf.r (evf_callS (d := .bool (decide (coreM mid k = mid))) (eva_cons (ev_var rfl) (eva_cons (ev_var rfl) eva_nil)) ⟨mid, k, rfl, hm, by omega, .inl ⟨h, by rw [Int.toNat_natCast]⟩⟩)))).cast (by rw [decide_eq_true hc]; rfl)) does_next) ?_
    refine does_seq (does_iff ((et_test (ev_nei (ev_len (ev_var rfl)) (ev_var rfl))).cast (decide_eq_false fun z => z hq)) does_next) ?_
    refine does_seq (does_asg (evf_callS (eva_cons (ev_var rfl) (eva_cons (ev_var rfl) eva_nil)) ⟨mid, k, rfl, hm, by omega, .inl ⟨h, rfl⟩⟩)) ?_
    rw [Int.toNat_natCast]
    refine does_seq (does_asgi (ev_maxL (Evf.r (evf_mapL (c := dR) (xs := rows) (fun x => (x.length : Int)) (ev_var rfl) (by omega) fun x _ => ev_len (ev_var rfl))) x1 x2)) ?_
    refine does_seq (does_asgi (ev_minL (ev_var rfl) m1 m2)) ?_
    have hb : ∀ j : Nat, j < k → ((rows.getD j []).length : Int) ≤ gi (chM mid k) j - minI (chM mid k) + maxI (rows.map fun x => (x.length : Int)) ∧ gi (chM mid k) j - minI (chM mid k) + maxI (rows.map fun x => (x.length : Int)) ≤ 4000 ∧ (rows.getD j []).length ≤ 1000 := fun j hj => by
      have hmem : rows.getD j [] ∈ rows := by rw [getD_get (by omega)]; exact List.getElem_mem _
      have h1 := m2 _ (gi_mem (r := chM mid k) (i := j) (by omega))
      have h2 := x2 ((rows.getD j []).length : Int) (List.mem_map.mpr ⟨_, hmem, rfl⟩)
      have h3 := (ch_bound hm hk0 _ (gi_mem (r := chM mid k) (i := j) (by omega))).2
      have h4 := (hrow _ hmem).2
      omega
    refine does_ret (evf_call (eva_cons (Evf.r (Evf.cast (evf_mapRR (n := (k : Int)) (fun j : Nat => dR (beadsM (rows.getD j []) (gi (chM mid k) j - minI (chM mid k) + maxI (rows.map fun x => (x.length : Int))).toNat)) (eva_cons (ev_var rfl) eva_nil) (by omega) (by omega) fun j hj => ?_) (show _ = dRR (joinHs mid rows k) by unfold joinHs; rw [dRR, List.map_map, Int.toNat_natCast]; rfl))) eva_nil)
      ⟨_, rfl, by unfold joinHs; rw [List.length_map, List.length_range]; omega, ?_, hA, rfl⟩)
    · obtain ⟨b1, b2, b3⟩ := hb j (by omega)
      exact evf_call (eva_cons (ev_ixRR (ev_var rfl) (ev_var rfl) (by omega) (by omega)) (eva_cons (ev_add (ev_sub (ev_ix (ev_var rfl) (ev_var rfl) (by omega) (by omega)) (ev_var rfl)) (ev_var rfl)) eva_nil)) ⟨_, _, rfl, by rw [Int.toNat_natCast]; omega, by omega, .inr ⟨by rw [Int.toNat_natCast]; exact b1, by rw [Int.toNat_natCast]⟩⟩
    · rw [gather_len]
      refine Nat.le_trans (sum_le_mul (b := 4000) fun l hl => ?_) (by unfold joinHs; rw [List.length_map, List.length_map, List.length_range]; omega)
      obtain ⟨y, hy, rfl⟩ := List.mem_map.mp hl
      obtain ⟨j, hj, rfl⟩ := List.mem_map.mp hy
      rw [beads_len]
      have := (hb j (List.mem_range.mp hj)).2.1
      omega
/-! ## a core and rows, handed in together -/
abbrev dMR (a : List Int) (b : List (List Int)) : PyData := .list [dR a, dRR b]
theorem eqv_MR (a c : List Int) (b d : List (List Int)) : PyData.eqv (dMR a b) (dMR c d) = (decide (a = c) && decide (b = d)) := by
  rw [PyData.eqv, PyData.eqvAll, PyData.eqvAll, PyData.eqvAll, cd_dR a c]
  have := cd_list cd_dR b d
  rw [show PyData.eqv (dRR b) (dRR d) = decide (b = d) from this, Bool.and_true]
theorem lay_MR (a : List Int) (b : List (List Int)) : Lay 3 (dMR a b) := lay_list (layAll_cons ((lay_dR a).mono (by decide)) (layAll_cons (lay_dRR b) layAll_nil))
theorem ev_neMR {K : Frg} {ρ : DE} {ta tb : TE} {a c : List Int} {b d : List (List Int)} (h1 : Evr K ta ρ (dMR a b)) (h2 : Evr K tb ρ (dMR c d)) : Evr K (tOp (rNeA K) ta tb) ρ (.bool (!(decide (a = c) && decide (b = d)))) := (ev_ned h1 h2 (lay_MR a b) (lay_MR c d)).cast (by rw [eqv_MR])
theorem ev_eqMR {K : Frg} {ρ : DE} {ta tb : TE} {a c : List Int} {b d : List (List Int)} (h1 : Evr K ta ρ (dMR a b)) (h2 : Evr K tb ρ (dMR c d)) : Evr K (tOp (rEqA K) ta tb) ρ (.bool (decide (a = c) && decide (b = d))) := (ev_eqd h1 h2 (lay_MR a b) (lay_MR c d)).cast (by rw [eqv_MR])
/-- [[] for k in range(n)] -/
theorem evf_empties {K : Frg} {ρ : DE} {t : TA} {j n : Nat} (hl : Eva K t ρ [.int n]) (hz : n ≤ 1000000) : Evf K (tLc (iRng1 t) (gName j) tYes (tLst tNil) [j]) ρ (dRR (List.replicate n [])) :=
  Evf.cast (evf_mapRR (n := (n : Int)) (fun _ => dR []) hl (by omega) (by omega) fun _ _ => evf_lst evaf_nil) (by
    rw [Int.toNat_natCast, dRR]
    congr 1
    refine List.ext_getElem (by simp) fun i h1 h2 => ?_
    simp)
/-- [list(one) for one in rows] -/
theorem evf_lists {K : Frg} {ρ : DE} {tl : TE} {j : Nat} {rows : List (List Int)} (h : Evr K tl ρ (dRR rows)) (hz : rows.length ≤ 1000000) (hj : j < ρ.length) : Evf K (tLc (iList K tl) (gName j) tYes (tCB (rListA K) (tCons (tVar j) tNil)) [j]) ρ (dRR rows) :=
  Evf.cast (evf_mapLL (c := dR) (xs := rows) (fun x => dR x) h hz fun x _ => evf_list (ev_var (by rw [List.getElem?_set_self hj]))) rfl
/-! ## the size of a core by its charges -/
theorem tri (l : Nat) : 2 * (idL l).sum = (l : Int) * l - l := by
  induction l with
  | zero => rfl
  | succ l ih =>
    have e : idL (l + 1) = idL l ++ [(l : Int)] := by unfold idL; rw [List.range_succ, List.map_append]; rfl
    rw [e, List.sum_append, List.sum_cons, List.sum_nil, Int.natCast_add]
    have : ((l : Int) + ((1 : Nat) : Int)) * (l + ((1 : Nat) : Int)) = l * l + 2 * l + 1 := by
      show ((l : Int) + 1) * (l + 1) = _
      rw [Int.add_mul, Int.mul_add]; omega
    rw [this]
    omega
def twM (c : List Int) (i : Nat) : Int := ((List.range i).map fun k : Nat => ((c.length : Int) * gi c k) * gi c k + (2 * (k : Int)) * gi c k).sum
theorem tw_succ (c : List Int) (i : Nat) : twM c (i + 1) = twM c i + ((c.length : Int) * gi c i) * gi c i + (2 * (i : Int)) * gi c i := by
  unfold twM
  rw [List.range_succ, List.map_append, List.sum_append, List.map_singleton, List.sum_cons, List.sum_nil]
  omega
theorem cof_sum {c : List Int} (hn : 0 < c.length) (hsum : c.sum = 0) : 2 * (cofM c).sum = twM c c.length := by
  obtain ⟨m1, m2⟩ := minI_spec hn
  generalize hm : minI c = m at *
  let hs := (c.map (· - m)).map fun x => idL x.toNat
  have hhl : hs.length = c.length := by simp [hs]
  have hA : AllR hs := fun k hk => by
    rw [getD_get hk]
    simp only [hs, List.getElem_map]
    exact id_rises _
  have hget : ∀ k, k < c.length → hs.getD k [] = idL (gi c k - m).toNat := fun k hk => by
    rw [getD_get (by rw [hhl]; exact hk), gi_get hk]
    simp [hs]
  have hx : ∀ k : Nat, k < c.length → 0 ≤ gi c k - m := fun k hk => by have := m2 _ (gi_mem hk); omega
  have e0 : cofM c = rowOfM (placesOf hs) := by unfold cofM lowM; rw [hm]
  have q1 := row_sum (places_rises hA)
  have hT : (((placesOf hs).length : Nat) : Int) = c.length * (-m) := by
    unfold placesOf
    rw [sortI_len, gather_len, ← sum_lens]
    have e : hs.map (fun h => (h.length : Int)) = (List.range c.length).map fun k : Nat => gi c k + -m := by
      refine List.ext_getElem (by simp [hs]) fun k h1 h2 => ?_
      have hk : k < c.length := by simpa using h2
      simp only [hs, List.getElem_map, List.getElem_range]
      rw [id_len, gi_get hk]
      have := hx k hk
      rw [gi_get hk] at this
      omega
    rw [e, sum_map_add, map_gi, hsum, sum_const, List.length_range]
    omega
  have q2 := tri (placesOf hs).length
  rw [hT] at q2
  rw [places_sum, gather_sum, hhl] at q1
  have e1 : (List.range c.length).map (fun k : Nat => (hs.getD k []).sum) = (List.range c.length).map fun k : Nat => (idL (gi c k - m).toNat).sum := List.map_congr_left fun k hk => by rw [hget k (List.mem_range.mp hk)]
  have e2 : (List.range c.length).map (fun k : Nat => ((hs.getD k []).length : Int) * k) = (List.range c.length).map fun k : Nat => gi c k * k + -m * k := List.map_congr_left fun k hk => by
    have hk' := List.mem_range.mp hk
    have := hx k hk'
    rw [hget k hk', id_len, show (((gi c k - m).toNat : Nat) : Int) = gi c k + -m by omega, Int.add_mul]
  have e3 : 2 * ((List.range c.length).map fun k : Nat => (idL (gi c k - m).toNat).sum).sum = ((List.range c.length).map fun k : Nat => gi c k * gi c k + (-(2 * m + 1)) * gi c k).sum + c.length * (m * m + m) := by
    rw [← sum_map_mul]
    have : ((List.range c.length).map fun k : Nat => 2 * (idL (gi c k - m).toNat).sum) = (List.range c.length).map fun k : Nat => (gi c k * gi c k + (-(2 * m + 1)) * gi c k) + (m * m + m) := List.map_congr_left fun k hk => by
      have := hx k (List.mem_range.mp hk)
      rw [tri, show (((gi c k - m).toNat : Nat) : Int) = gi c k - m by omega]
      grind
    rw [this, sum_map_add, sum_const, List.length_range]
  rw [sum_map_add, sum_map_mul, map_gi, hsum] at e3
  rw [e1, e2, sum_map_add, sum_map_mul] at q1
  have e4 := tri c.length
  have e5 : ((List.range c.length).map fun k : Nat => (k : Int)).sum = (idL c.length).sum := rfl
  rw [e5] at q1
  have e6 : twM c c.length = c.length * ((List.range c.length).map fun k : Nat => gi c k * gi c k).sum + 2 * ((List.range c.length).map fun k : Nat => gi c k * k).sum := by
    unfold twM
    rw [sum_map_add, ← sum_map_mul, ← sum_map_mul]
    congr 1
    · congr 1
      exact List.map_congr_left fun k _ => Int.mul_assoc _ _ _
    · congr 1
      exact List.map_congr_left fun k _ => by rw [Int.mul_assoc, Int.mul_comm (k : Int)]
  rw [e0, e6]
  generalize ((List.range c.length).map fun k : Nat => gi c k * gi c k).sum = A at *
  generalize ((List.range c.length).map fun k : Nat => gi c k * k).sum = B at *
  generalize ((List.range c.length).map fun k : Nat => (idL (gi c k - m).toNat).sum).sum = D at *
  generalize (idL c.length).sum = Tn at *
  generalize (idL (placesOf hs).length).sum = Tp at *
  generalize (rowOfM (placesOf hs)).sum = R at *
  generalize (c.length : Int) = n at *
  clear hT hget hx hA hhl e0 e1 e2 e5 e6
  grind
abbrev N_turned : List Str := ["row", "j", "number"]
def rd_turned (K : Frg) (C : Ec) (W : WX) : TS := (tSeq (tIfS (tTest (tOp (rEqA K) (tCB (rLenA K) (tCons (tVar 0) tNil)) (tC (.int 0))))
  (tRet (tLst tNil)) tNext)
  (tRet (tLc (iRng1 (tCons (tOp (rIx K) (tVar 0) (tC (.int 0))) tNil)) (gName 1) tYes (tCB (rLenA K) (tCons (tLc (iList K (tVar 0)) (gName 2) (tTest (tOp rGtI (tVar 2) (tVar 1))) (tVar 2) [2]) tNil)) [1])))
def R_turned (C : Ec) (ds : List PyData) (o : Except Addr PyData) : Prop := ∃ r : List Int, ds = [dR r] ∧ Row r ∧ r.sum ≤ 100000 ∧ o = .ok (dR (turnedM r))
theorem len_turned {C : Ec} (ds : List PyData) (o : Except Addr PyData) : R_turned C ds o → ds.length = ["row"].length := by
  rintro ⟨_, rfl, _⟩; rfl
theorem map_true {α β : Type} (xs : List α) (f : α → β) : (xs.filter fun _ => true).map f = xs.map f := by
  rw [List.filter_eq_self.mpr fun _ _ => rfl]
theorem does_turned {K : Frg} {C : Ec} {W : WX} {ds : List PyData} {o : Except Addr PyData} : R_turned C ds o → FnDoes K W (rd_turned K C W) (entry N_turned ds) o := by
  rintro ⟨r, rfl, hr, hs, rfl⟩
  refine .inl ?_
  show Does K W (rd_turned K C W) [.fr (dR r), .no, .no] (.rt (dR (turnedM r)))
  by_cases h0 : r = []
  · subst h0
    exact does_seq_rt (does_if (b := true) ((et_test (ev_eqi (ev_len (xs := ([] : List Int)) (ev_var rfl)) ev_int)).cast rfl) (fun _ => does_ret (evf_lst evaf_nil)) fun z => nomatch z)
  · have hl : 0 < r.length := List.length_pos_iff.mpr h0
    have hz := hr.sum_len
    have hb : gi r 0 ≤ 100000 := by
      have e0 : gi r 0 = r[0] := gi_get hl
      have := hr.mem_sum _ (List.getElem_mem hl)
      omega
    refine does_seq (ρ1 := [.fr (dR r), .no, .no]) (does_if (b := false) ((et_test (ev_eqi (ev_len (ev_var rfl)) ev_int)).cast (decide_eq_false (by omega))) (fun z => nomatch z) fun _ => does_next) ?_
    have h00 := gi0_pos hr
    refine does_ret (Evf.cast (evf_lcR (fun _ => true) (fun j : Nat => .int (cnt r (j : Int) : Int)) (eva_cons (ev_ix (ev_var rfl) ev_int (by decide) (by omega)) eva_nil) (by omega) (by omega) (fun x hx => et_yes) fun x hx _ => Evr.f ?_ True.intro) ?_)
    · refine Evr.cast (ev_len (c := PyData.int) (xs := r.filter fun y => decide ((x : Int) < y)) (Evf.r (evf_lcL (c := PyData.int) (fun y => decide ((x : Int) < y)) PyData.int (ev_var rfl) (by omega) (fun y hy => et_test (ev_gt (ev_var rfl) (ev_var rfl))) fun y hy _ => Evr.f (ev_var rfl) True.intro))) rfl
    · rw [map_true]
      unfold turnedM
      rw [dR, List.map_map]
      rfl
abbrev N_hooks : List Str := ["row", "columns", "found", "k", "j"]
def rd_hooks (K : Frg) (C : Ec) (W : WX) : TS := (tSeq (tAsg (tCall (spOf K (R_turned C)) [] E0 (tCons (tVar 0) tNil)) (gName 1))
  (tSeq (tAsg (tLst tNil) (gName 2))
  (tSeq (tFor (iRng1 (tCons (tCB (rLenA K) (tCons (tVar 0) tNil)) tNil)) (gName 3)
  (tDrop (tBM K "list" rAppend (tVar 2) (tCons (tLc (iRng1 (tCons (tOp (rIx K) (tVar 0) (tVar 3)) tNil)) (gName 4) tYes (tOp rSubI (tOp rSubI (tOp rAddA (tOp rSubI (tOp (rIx K) (tVar 0) (tVar 3)) (tVar 4)) (tOp (rIx K) (tVar 1) (tVar 4))) (tVar 3)) (tC (.int 1))) [4]) tNil))))
  (tRet (tVar 2)))))
def R_hooks (C : Ec) (ds : List PyData) (o : Except Addr PyData) : Prop := ∃ r : List Int, ds = [dR r] ∧ Row r ∧ r.sum ≤ 100000 ∧ o = .ok (dRR (hooksM r))
theorem len_hooks {C : Ec} (ds : List PyData) (o : Except Addr PyData) : R_hooks C ds o → ds.length = ["row"].length := by
  rintro ⟨_, rfl, _⟩; rfl
theorem gi_le {r : List Int} (hr : Row r) {k : Nat} (hk : k < r.length) : 1 ≤ gi r k ∧ gi r k ≤ r.sum ∧ gi r k ≤ gi r 0 := by
  rw [gi_get hk]
  have h0 : 0 < r.length := by omega
  have e0 : gi r 0 = r[0] := gi_get h0
  have := hr.le (Nat.zero_le k) hk
  exact ⟨hr.pos _ (List.getElem_mem hk), hr.mem_sum _ (List.getElem_mem hk), by omega⟩
theorem does_hooks {K : Frg} {C : Ec} {W : WX} {ds : List PyData} {o : Except Addr PyData} : R_hooks C ds o → FnDoes K W (rd_hooks K C W) (entry N_hooks ds) o := by
  rintro ⟨r, rfl, hr, hs, rfl⟩
  refine .inl ?_
  show Does K W (rd_hooks K C W) [.fr (dR r), .no, .no, .no, .no] (.rt (dRR (hooksM r)))
  have hz := hr.sum_len
  let T : Nat → List Sl := fun i => [.fr (dR r), .ow (dR (turnedM r)), .ow (.list (((List.range i).map fun k : Nat => (List.range (gi r k).toNat).map fun j : Nat => hookAt r k j).map dR)), .no, .no]
  refine does_seq (does_asg (evf_call (eva_cons (ev_var rfl) eva_nil) ⟨r, rfl, hr, hs, rfl⟩)) ?_
  refine does_seq (does_asg (evf_lst evaf_nil)) ?_
  refine does_seq (does_forR (eva_cons (ev_len (ev_var rfl)) eva_nil) (by omega) (by omega) T rfl fun k hk => ⟨_, does_app rfl (d := dR ((List.range (gi r k).toNat).map fun j : Nat => hookAt r k j)) ?_ ?_, ?_⟩) ?_
  · have hk' : k < r.length := by omega
    obtain ⟨g1, g2, g3⟩ := gi_le hr hk'
    refine Evf.cast (evf_lcR (fun _ => true) (fun j : Nat => .int (hookAt r k j)) (eva_cons (ev_ix (ev_var rfl) (ev_var rfl) (by omega) (by omega)) eva_nil) (by omega) (by omega) (fun x hx => et_yes) fun j hj _ => Evr.f ?_ True.intro) ?_
    · have ej : gi (turnedM r) j = (cnt r (j : Int) : Int) := by rw [gi_get (by rw [turned_len]; omega), turned_get]
      have hj2 : (j : Int) < (turnedM r).length := by rw [turned_len]; omega
      have e := ev_sub (ev_sub (ev_add (ev_sub (ev_ix (K := K) (ρ := (er ((T k).set 3 (.fr (.int (k : Int))))).set 4 (some (.int (j : Int)))) (ta := tVar 0) (tb := tVar 3) (ev_var rfl) (ev_var rfl) (by omega) (by omega)) (ev_var (i := 4) rfl)) (ev_ix (ta := tVar 1) (tb := tVar 4) (ev_var rfl) (ev_var rfl) (by omega) hj2)) (ev_var (i := 3) rfl)) (ev_int (n := 1))
      refine Evr.cast e ?_
      rw [ej]
      rfl
    · rw [map_true, dR, List.map_map]
      rfl
  · rw [List.length_map, List.length_map, List.length_range]; omega
  · show _ = [Sl.fr (dR r), Sl.ow (dR (turnedM r)), Sl.ow (.list (((List.range (k + 1)).map fun k : Nat => (List.range (gi r k).toNat).map fun j : Nat => hookAt r k j).map dR)), Sl.no, Sl.no]
    rw [List.range_succ, List.map_append, List.map_append]
    rfl
  · rw [Int.toNat_natCast]
    exact does_retv rfl
/-! ## the hooks that so many rods divide -/
theorem mem_pairs {ps : List Int} (h : Rises ps) {b g : Int} : (b, g) ∈ pairsM ps ↔ b ∈ ps ∧ 0 ≤ g ∧ g < b ∧ g ∉ ps := by
  unfold pairsM
  rw [List.mem_flatMap]
  constructor
  · rintro ⟨c, hc, hm⟩
    obtain ⟨x, hx, e⟩ := List.mem_map.mp hm
    cases e
    obtain ⟨h0, h1, h2⟩ := mem_gaps.mp hx
    have := h.nn _ hc
    exact ⟨hc, h0, by omega, h2⟩
  · rintro ⟨hb, h0, h1, h2⟩
    exact ⟨b, hb, List.mem_map.mpr ⟨g, mem_gaps.mpr ⟨h0, by omega, h2⟩, rfl⟩⟩
theorem pairs_nodup {ps : List Int} (h : Rises ps) : (pairsM ps).Nodup := by
  unfold pairsM
  refine List.pairwise_flatMap.mpr ⟨fun b _ => List.pairwise_map.mpr ((gaps_rise ps _).imp fun q e => ?_), h.rise.imp fun q x hx y hy e => ?_⟩
  · have := congrArg Prod.snd e
    have e2 : _ = _ := this
    simp at e2
    omega
  · obtain ⟨_, _, rfl⟩ := List.mem_map.mp hx
    obtain ⟨_, _, rfl⟩ := List.mem_map.mp hy
    have := congrArg Prod.fst e
    simp at this
    omega
theorem perm_flatMap {α β : Type} {l : List α} {f g : α → List β} (h : ∀ a ∈ l, (f a).Perm (g a)) : (l.flatMap f).Perm (l.flatMap g) := by
  induction l with
  | nil => exact List.Perm.refl _
  | cons a l ih =>
    rw [List.flatMap_cons, List.flatMap_cons]
    exact (h a List.mem_cons_self).append (ih fun b m => h b (List.mem_cons_of_mem _ m))
abbrev diffP (p : Int × Int) : Int := p.1 - p.2
abbrev divB (n : Nat) (x : Int) : Bool := decide (x % (n : Int) = 0)
def liftP (n k : Nat) (p : Int × Int) : Int × Int := (p.1 * n + k, p.2 * n + k)
theorem lift_inj {n k j : Nat} (hk : k < n) (hj : j < n) {p q : Int × Int} (e : liftP n k p = liftP n j q) : k = j ∧ p = q := by
  have e1 := congrArg Prod.fst e
  have e2 := congrArg Prod.snd e
  have e1' : p.1 * n + k = q.1 * n + j := e1
  have e2' : p.2 * n + k = q.2 * n + j := e2
  obtain ⟨a1, a2⟩ := dm hk p.1
  obtain ⟨b1, b2⟩ := dm hj q.1
  obtain ⟨c1, _⟩ := dm hk p.2
  obtain ⟨d1, _⟩ := dm hj q.2
  rw [e1'] at a1 a2
  rw [e2'] at c1
  refine ⟨?_, Prod.ext (a1.symm.trans b1) (c1.symm.trans d1)⟩
  have := a2.symm.trans b2
  omega
theorem pairs_lift {ps : List Int} {n : Nat} (hn : 0 < n) (h : Rises ps) : ((pairsM ps).filter fun p => divB n (diffP p)).Perm ((List.range n).flatMap fun k => (pairsM (rodM ps n k)).map (liftP n k)) := by
  refine (List.perm_ext_iff_of_nodup ((pairs_nodup h).filter _) ?_).mpr fun ⟨b, g⟩ => ?_
  · refine List.pairwise_flatMap.mpr ⟨fun k hk => List.pairwise_map.mpr ((pairs_nodup (rod_rises hn h k)).imp fun q e => q (lift_inj (List.mem_range.mp hk) (List.mem_range.mp hk) e).2), List.pairwise_iff_getElem.mpr fun i j hi hj hij x hx y hy e => ?_⟩
    rw [List.length_range] at hi hj
    rw [List.getElem_range] at hx hy
    obtain ⟨p, _, rfl⟩ := List.mem_map.mp hx
    obtain ⟨q, _, rfl⟩ := List.mem_map.mp hy
    have := (lift_inj hi hj e).1
    omega
  · rw [List.mem_filter, mem_pairs h, List.mem_flatMap]
    constructor
    · rintro ⟨⟨hb, h0, h1, h2⟩, hd⟩
      have hd' : (b - g) % (n : Int) = 0 := of_decide_eq_true hd
      have hm0 : 0 ≤ b % (n : Int) := Int.emod_nonneg _ (by omega)
      have hm1 : b % (n : Int) < n := Int.emod_lt_of_pos _ (by omega)
      have hmg : g % (n : Int) = b % (n : Int) := (Int.emod_emod_of_dvd b (Int.dvd_refl _) ▸ (Int.emod_eq_emod_iff_emod_sub_eq_zero.mpr hd').symm)
      have hk : (b % (n : Int)).toNat < n := by omega
      have eb := dm_back (n := n) b
      have eg := dm_back (n := n) g
      rw [hmg] at eg
      have eb' : b / (n : Int) * n + ((b % (n : Int)).toNat : Int) = b := by omega
      have eg' : g / (n : Int) * n + ((b % (n : Int)).toNat : Int) = g := by omega
      refine ⟨(b % (n : Int)).toNat, List.mem_range.mpr hk, List.mem_map.mpr ⟨(b / (n : Int), g / (n : Int)), (mem_pairs (rod_rises hn h _)).mpr ⟨(mem_rod hk).mpr (by rw [eb']; exact hb), Int.ediv_nonneg h0 (by omega), div_lt hn h1 hmg, fun z => h2 ?_⟩, ?_⟩⟩
      · have := (mem_rod hk).mp z
        rw [eg'] at this
        exact this
      · exact Prod.ext eb' eg'
    · rintro ⟨k, hk, hm⟩
      have hk' := List.mem_range.mp hk
      obtain ⟨⟨x, y⟩, hp, e⟩ := List.mem_map.mp hm
      obtain ⟨hx, h0, h1, h2⟩ := (mem_pairs (rod_rises hn h k)).mp hp
      have e1 : x * (n : Int) + k = b := congrArg Prod.fst e
      have e2 : y * (n : Int) + k = g := congrArg Prod.snd e
      have hb := (mem_rod hk').mp hx
      rw [e1] at hb
      have hy : 0 ≤ y * (n : Int) := Int.mul_nonneg h0 (by omega)
      have hxy : y * (n : Int) < x * (n : Int) := Int.mul_lt_mul_of_pos_right h1 (by omega)
      refine ⟨⟨hb, by omega, by omega, fun z => h2 ((mem_rod hk').mpr (by rw [e2]; exact z))⟩, decide_eq_true ?_⟩
      show (b - g) % (n : Int) = 0
      have : b - g = (x - y) * n := by rw [Int.sub_mul]; omega
      rw [this, Int.mul_emod_left]
def liftedM (r : List Int) (n : Nat) : List Int := (quotM r n).flatMap fun q => (hooksM q).flatten.map (· * (n : Int))
theorem hooks_div {r : List Int} {n : Nat} (hr : Row r) (hn : 0 < n) : ((hooksM r).flatten.filter (divB n)).Perm (liftedM r n) := by
  have hB := beads_rises hr (upM r.length n)
  refine ((diffs_perm hr (up_ge r.length hn)).filter (divB n)).symm.trans ?_
  rw [List.filter_map]
  refine ((pairs_lift hn hB).map diffP).trans ?_
  rw [List.map_flatMap]
  unfold liftedM quotM spreadM rodsM
  rw [List.map_map, List.flatMap_map]
  refine perm_flatMap fun k hk => ?_
  have hR := rod_rises hn hB k
  have q := diffs_perm (rowOf_row hR) (rowOf_len _)
  rw [beads_rowOf hR] at q
  have q2 := q.map (· * (n : Int))
  rw [List.map_map] at q2 ⊢
  refine List.Perm.trans (List.Perm.of_eq ?_) q2
  refine List.map_congr_left fun p _ => ?_
  show (p.1 * (n : Int) + k) - (p.2 * (n : Int) + k) = (p.1 - p.2) * (n : Int)
  rw [Int.sub_mul]
  omega
theorem quot_empty_iff {r : List Int} {n : Nat} (hr : Row r) (hn : 0 < n) : coreM r n = r ↔ quotM r n = List.replicate n [] := by
  obtain ⟨c1, c2, c3⟩ := core_core hr hn
  constructor
  · intro e
    rw [e] at c2
    exact c2
  · intro e
    exact row_inj core_row hr hn (c2.trans e.symm) c3
theorem lifted_len {r : List Int} {n : Nat} (hr : Row r) : ((liftedM r n).length : Int) = ((quotM r n).map List.sum).sum := by
  unfold liftedM
  have : ∀ l : List (List Int), (∀ x ∈ l, Row x) → ((l.flatMap fun q => (hooksM q).flatten.map (· * (n : Int))).length : Int) = (l.map List.sum).sum := by
    intro l
    induction l with
    | nil => intro _; rfl
    | cons x l ih =>
      intro hl
      rw [List.flatMap_cons, List.length_append, Int.natCast_add, ih fun y m => hl y (List.mem_cons_of_mem _ m), List.length_map, hooks_len (hl x List.mem_cons_self), List.map_cons, List.sum_cons]
  exact this _ fun x hx => quot_row hr hx
theorem empty_of_sums : ∀ {l : List (List Int)}, (∀ x ∈ l, Row x) → (l.map List.sum).sum = 0 → l = List.replicate l.length []
  | [], _, _ => rfl
  | x :: l, h, e => by
    rw [List.map_cons, List.sum_cons] at e
    have hx := h x List.mem_cons_self
    have h1 := hx.sum_len
    have h2 : 0 ≤ (l.map List.sum).sum := sum_nonneg fun y m => by
      obtain ⟨z, hz, rfl⟩ := List.mem_map.mp m
      have := (h z (List.mem_cons_of_mem _ hz)).sum_len
      omega
    have h3 : x = [] := List.length_eq_zero_iff.mp (by omega)
    rw [List.length_cons, List.replicate_succ, ← empty_of_sums (l := l) (fun y m => h y (List.mem_cons_of_mem _ m)) (by omega), h3]
theorem rep_sum0 (n : Nat) : (List.replicate n (0 : Int)).sum = 0 := by
  induction n with
  | zero => rfl
  | succ n ih => rw [List.replicate_succ, List.sum_cons, ih]; rfl
theorem core_iff {r : List Int} {n : Nat} (hr : Row r) (hn : 0 < n) : coreM r n = r ↔ ((hooksM r).flatten.filter (divB n)).length = 0 := by
  rw [(hooks_div hr hn).length_eq, quot_empty_iff hr hn]
  have hl := lifted_len (n := n) hr
  have hq := quot_length r n
  constructor
  · intro e
    rw [e] at hl
    have : ((List.replicate n ([] : List Int)).map List.sum).sum = 0 := by
      rw [List.map_replicate]
      exact rep_sum0 n
    omega
  · intro e
    have q := empty_of_sums (l := quotM r n) (fun x hx => quot_row hr hx) (by omega)
    rw [hq] at q
    exact q
/-! ## rows as texts -/
open TL
abbrev plusS : Str := "+"
abbrev noughtS : Str := "0"
theorem tl_plus : tl plusS = [43] := by decide +kernel
theorem tl_nought : tl noughtS = [48] := by decide +kernel
def wordsM (r : List Int) : List Str := r.map strI
def noteM (r : List Int) : Str := if r = [] then noughtS else Txt.join plusS (wordsM r)
/-- each number one to ninety-nine -/
def Sml (r : List Int) : Prop := ∀ x ∈ r, 1 ≤ x ∧ x ≤ 99
theorem Sml.isN {x : Int} (h : 1 ≤ x ∧ x ≤ 99) : IsN (strI x) x.toNat := by
  refine ⟨by omega, by omega, ?_⟩
  rw [show ((x.toNat : Nat) : Int) = x by omega]
theorem joinL_add (S : List Nat) : ∀ (ps : List (List Nat)) (p : List Nat), ps ≠ [] → joinL S (ps ++ [p]) = joinL S ps ++ (S ++ p)
  | [], _, h => absurd rfl h
  | [q], p, _ => rfl
  | q :: q2 :: r, p, _ => by
    show q ++ (S ++ joinL S (q2 :: r ++ [p])) = q ++ (S ++ joinL S (q2 :: r)) ++ (S ++ p)
    rw [joinL_add S (q2 :: r) p (by simp), List.append_assoc, List.append_assoc]
theorem join_add {y : Str} {ps : List Str} (p : Str) (h : ps ≠ []) : Txt.join y (ps ++ [p]) = Txt.join y ps ++ y ++ p := by
  refine ext_tl ?_
  rw [tl_append, tl_append, join_eq, join_eq, tl_join, tl_join, List.map_append, List.map_cons, List.map_nil, joinL_add _ _ _ (fun z => h (List.map_eq_nil_iff.mp z)), List.append_assoc]
theorem join_one (y p : Str) : Txt.join y [p] = p := by rw [join_eq]; rfl
theorem join_nil (y : Str) : tl (Txt.join y []) = [] := by rw [join_eq, tl_join]; rfl
theorem joinL_len (S : List Nat) : ∀ ps : List (List Nat), (joinL S ps).length ≤ (ps.map List.length).sum + ps.length * S.length
  | [] => by simp [joinL]
  | [p] => by
    show p.length ≤ _
    simp
  | p :: q :: r => by
    have ih := joinL_len S (q :: r)
    show (p ++ (S ++ joinL S (q :: r))).length ≤ _
    rw [List.length_append, List.length_append, List.map_cons, List.sum_cons, List.length_cons, Nat.add_mul]
    omega
theorem words_sum : ∀ {r : List Int}, Sml r → ((wordsM r).map (·.length)).sum ≤ 2 * r.length
  | [], _ => Nat.le_refl _
  | x :: r, h => by
    have ih := words_sum (r := r) fun y m => h y (List.mem_cons_of_mem _ m)
    have h1 := (Sml.isN (h x List.mem_cons_self)).len
    show (strI x).length + ((wordsM r).map (·.length)).sum ≤ 2 * (r.length + 1)
    omega
theorem words_len (r : List Int) : (wordsM r).length = r.length := List.length_map _
theorem join_len {r : List Int} (h : Sml r) : (Txt.join plusS (wordsM r)).length ≤ 3 * r.length := by
  rw [len_tl, join_eq, tl_join]
  refine Nat.le_trans (joinL_len _ _) ?_
  rw [tl_plus, List.length_map, words_len, List.map_map]
  have e : (List.map (List.length ∘ tl) (wordsM r)) = (wordsM r).map (·.length) := List.map_congr_left fun x _ => (len_tl x).symm
  rw [e]
  have := words_sum h
  simp only [List.length_cons, List.length_nil]
  omega
theorem word_free {x : Int} (h : 1 ≤ x ∧ x ≤ 99) : 43 ∉ tl (strI x) := fun m => by
  have := (Sml.isN h).fig 43 m
  omega
theorem split_words {r : List Int} (h : Sml r) (hne : r ≠ []) : Txt.split (Txt.join plusS (wordsM r)) plusS = wordsM r := by
  refine split_join tl_plus (by decide +kernel) (fun z => hne (List.map_eq_nil_iff.mp z)) fun p m => ?_
  obtain ⟨x, hx, rfl⟩ := List.mem_map.mp m
  exact word_free (h x hx)
theorem joinL_head {S : List Nat} {c : Nat} : ∀ {ps : List (List Nat)} {p : List Nat}, p[0]? = some c → (joinL S (p :: ps))[0]? = some c
  | [], p, h => h
  | q :: r, p, h => by
    show (p ++ (S ++ joinL S (q :: r)))[0]? = _
    rw [List.getElem?_append_left (List.getElem?_eq_some_iff.mp h).1]
    exact h
theorem join_ne {r : List Int} (h : Sml r) (hne : r ≠ []) : Txt.join plusS (wordsM r) ≠ noughtS ∧ Txt.join plusS (wordsM r) ≠ ("" : Str) := by
  cases r with
  | nil => exact absurd rfl hne
  | cons x r =>
    obtain ⟨c, h1, h2⟩ := (Sml.isN (h x List.mem_cons_self)).hd
    have e : (tl (Txt.join plusS (wordsM (x :: r))))[0]? = some c := by
      rw [join_eq, tl_join]
      exact joinL_head h1
    constructor
    · intro z
      rw [z, tl_nought] at e
      exact h2 (Option.some.inj e).symm
    · intro z
      rw [z] at e
      have : tl ("" : Str) = [] := by decide +kernel
      rw [this] at e
      cases e
theorem note_len {r : List Int} (h : Sml r) : (noteM r).length ≤ 3 * r.length + 1 := by
  unfold noteM
  split
  · have : noughtS.length = 1 := by decide +kernel
    omega
  · have := join_len h
    omega
theorem strI_inj {x y : Int} (hx : 1 ≤ x ∧ x ≤ 99) (hy : 1 ≤ y ∧ y ≤ 99) (h : strI x = strI y) : x = y := by
  have h1 := Sml.isN hx
  have h2 := Sml.isN hy
  rw [h] at h1
  have := h1.one h2
  omega
theorem words_inj : ∀ {r s : List Int}, Sml r → Sml s → wordsM r = wordsM s → r = s
  | [], [], _, _, _ => rfl
  | [], _ :: _, _, _, h => nomatch h
  | _ :: _, [], _, _, h => nomatch h
  | x :: r, y :: s, h1, h2, h => by
    have h' : strI x :: wordsM r = strI y :: wordsM s := h
    injection h' with e1 e2
    rw [strI_inj (h1 x List.mem_cons_self) (h2 y List.mem_cons_self) e1, words_inj (fun z m => h1 z (List.mem_cons_of_mem _ m)) (fun z m => h2 z (List.mem_cons_of_mem _ m)) e2]
theorem isRowB_iff {r : List Int} : isRowB r = true ↔ Row r := by
  constructor
  · intro h
    have h' := List.all_eq_true.mp h
    have h1 : ∀ k : Nat, k < r.length → 1 ≤ gi r k := fun k hk => by
      have := h' k (List.mem_range.mpr hk)
      unfold rowAt at this
      simp at this
      exact this.1
    have h2 : ∀ k : Nat, k + 1 < r.length → gi r ((k + 1 : Nat) : Int) ≤ gi r k := fun k hk => by
      have := h' (k + 1) (List.mem_range.mpr hk)
      unfold rowAt at this
      simp at this
      rw [show ((k + 1 : Nat) : Int) = (k : Int) + 1 by omega]
      exact this.2
    refine ⟨fun x m => ?_, List.pairwise_iff_getElem.mpr fun i j hi hj hij => ?_⟩
    · obtain ⟨k, hk, rfl⟩ := List.getElem_of_mem m
      rw [← gi_get hk]
      exact h1 k hk
    · rw [← gi_get hi, ← gi_get hj]
      induction j with
      | zero => omega
      | succ j ih =>
        have q := h2 j hj
        by_cases e : i = j
        · subst e; exact q
        · have := ih (by omega) (by omega)
          omega
  · intro h
    refine List.all_eq_true.mpr fun k hk => ?_
    have hk := List.mem_range.mp hk
    unfold rowAt
    have h1 : 1 ≤ gi r k := by rw [gi_get hk]; exact h.pos _ (List.getElem_mem hk)
    have h2 : 0 < (k : Int) → gi r (k : Int) ≤ gi r ((k : Int) - 1) := fun hp => by
      rw [show (k : Int) - 1 = ((k - 1 : Nat) : Int) by omega, gi_get hk, gi_get (by omega)]
      exact h.le (by omega) hk
    by_cases hp : 0 < (k : Int)
    · have := h2 hp
      simp
      omega
    · simp
      omega
theorem Row.sml {r : List Int} (h : Row r) (hs : r.sum ≤ 60) : Sml r := fun x m => ⟨h.pos x m, by have := h.mem_sum x m; omega⟩
open TL
abbrev N_number_of : List Str := ["word", "sign"]
def rd_number_of (K : Frg) (C : Ec) (W : WX) : TS := (tSeq (tIfS (tOr (tTest (tOp (rEqA K) (tVar 0) (tC (.str "")))) (tOr (tTest (tOp rGtI (tCB (rLenA K) (tCons (tVar 0) tNil)) (tC (.int 2)))) (tTest (tOp (rEqA K) (tOp (rIx K) (tVar 0) (tC (.int 0))) (tC (.str "0"))))))
  (tRz W C.NoNote) tNext)
  (tSeq (tFor (iStr (tVar 0)) (gName 1)
  (tIfS (tTest (tOp (rNiA K) (tVar 1) (tC (.str "0123456789"))))
  (tRz W C.NoNote) tNext))
  (tRet (tCB rIntS (tCons (tVar 0) tNil)))))
def R_number_of (C : Ec) (ds : List PyData) (o : Except Addr PyData) : Prop := ∃ z : Str, ds = [.str z] ∧ z.length ≤ 100000 ∧ ((∃ n : Nat, IsN z n ∧ o = .ok (.int n)) ∨ ((∀ n, ¬ IsN z n) ∧ o = .error C.NoNote))
theorem len_number_of {C : Ec} (ds : List PyData) (o : Except Addr PyData) : R_number_of C ds o → ds.length = ["word"].length := by
  rintro ⟨_, rfl, _⟩; rfl
theorem first_badL {α : Type} (p : α → Bool) : ∀ xs : List α, (∀ x ∈ xs, p x = true) ∨ ∃ (m : Nat) (c : α), xs[m]? = some c ∧ p c = false ∧ ∀ (i : Nat) (x : α), i < m → xs[i]? = some x → p x = true
  | [] => .inl fun _ m => nomatch m
  | x :: xs => by
    cases e : p x with
    | false => exact .inr ⟨0, x, rfl, e, fun i _ h => absurd h (Nat.not_lt_zero _)⟩
    | true =>
      rcases first_badL p xs with h | ⟨m, c, h1, h2, h3⟩
      · refine .inl fun y hy => ?_
        rcases List.mem_cons.mp hy with rfl | hy
        · exact e
        · exact h y hy
      · refine .inr ⟨m + 1, c, h1, h2, fun i y hi hy => ?_⟩
        cases i with
        | zero => cases hy; exact e
        | succ i => exact h3 i y (by omega) hy
theorem zero_sign {c : Nat} : (sg c = ("0" : Str)) ↔ c = 48 := by
  constructor
  · intro h
    have h' := congrArg tl h
    have e : tl ("0" : Str) = [48] := by decide +kernel
    rw [e] at h'
    have e2 : tl (sg c) = [c] := rfl
    rw [e2] at h'
    injection h'
  · rintro rfl
    exact ext_tl (by decide +kernel)
theorem does_number_of {K : Frg} {C : Ec} {W : WX} {ds : List PyData} {o : Except Addr PyData} : R_number_of C ds o → FnDoes K W (rd_number_of K C W) (entry N_number_of ds) o := by
  rintro ⟨z, rfl, hl, ho⟩
  have hlen : Evr K (tCB (rLenA K) (tCons (tVar 0) tNil)) (er [.fr (.str z), .no]) (.int z.length) := ev_lenStr (ev_var rfl) (by omega)
  by_cases h0 : z.length = 0
  · have hn : ∀ n, ¬ IsN z n := fun n h => by have := h.len; omega
    obtain ⟨n, h, _⟩ | ⟨_, rfl⟩ := ho
    · exact absurd h (hn n)
    refine ⟨[.fr (.str z), .no], ?_⟩
    exact does_seq_ex (does_ift ((et_or (et_test (ev_eqs (ev_var rfl) ev_str)) (b := false) fun z' => absurd (str_empty.mpr h0) (of_decide_eq_false z')).cast (by rw [decide_eq_true (str_empty.mpr h0)]; rfl)) does_rz)
  have he : ¬ z = ("" : Str) := fun e => h0 (str_empty.mp e)
  by_cases h2 : 2 < z.length
  · have hn : ∀ n, ¬ IsN z n := fun n h => by have := h.len; omega
    obtain ⟨n, h, _⟩ | ⟨_, rfl⟩ := ho
    · exact absurd h (hn n)
    refine ⟨[.fr (.str z), .no], ?_⟩
    exact does_seq_ex (does_ift ((et_or (et_test (ev_eqs (ev_var rfl) ev_str)) fun _ => et_or (et_test (ev_gt hlen ev_int)) (b := false) fun z' => absurd (show (2 : Int) < z.length by omega) (of_decide_eq_false z')).cast (by rw [decide_eq_true (show (2 : Int) < z.length by omega)]; simp)) does_rz)
  have hz1 : 0 < z.cps.toList.length := by have := len_tl z; show 0 < (tl z).length; omega
  obtain ⟨c, hc⟩ : ∃ c, z.cps.toList[0]? = some c := ⟨_, List.getElem?_eq_getElem hz1⟩
  have hix : Evr K (tOp (rIx K) (tVar 0) (tC (.int 0))) (er [.fr (.str z), .no]) (.str (sg c)) := ev_ixStr (ev_var rfl) ev_int (by omega) (atI_nat (j := 0) hc)
  have tst : Evt K (tOr (tTest (tOp (rEqA K) (tVar 0) (tC (.str "")))) (tOr (tTest (tOp rGtI (tCB (rLenA K) (tCons (tVar 0) tNil)) (tC (.int 2)))) (tTest (tOp (rEqA K) (tOp (rIx K) (tVar 0) (tC (.int 0))) (tC (.str "0"))))))
      (er [.fr (.str z), .no]) (decide (c = 48)) := by
    refine (et_or (et_test (ev_eqs (ev_var rfl) ev_str)) fun _ => et_or (et_test (ev_gt hlen ev_int)) fun _ => et_test (ev_eqs hix ev_str)).cast ?_
    rw [decide_eq_false he, decide_eq_false (show ¬ (2 : Int) < z.length by omega)]
    simp only [Bool.false_or]
    by_cases e : c = 48
    · rw [decide_eq_true e, decide_eq_true (zero_sign.mpr e)]
    · rw [decide_eq_false e, decide_eq_false fun z' => e (zero_sign.mp z')]
  by_cases h48 : c = 48
  · have hn : ∀ n, ¬ IsN z n := fun n h => by
      obtain ⟨d, h1, h2⟩ := h.hd
      have h1' : z.cps.toList[0]? = some d := h1
      rw [hc] at h1'
      cases h1'
      exact h2 h48
    obtain ⟨n, h, _⟩ | ⟨_, rfl⟩ := ho
    · exact absurd h (hn n)
    exact ⟨[.fr (.str z), .no], does_seq_ex (does_ift (tst.cast (decide_eq_true h48)) does_rz)⟩
  have key : ∀ x : Nat, Evt K (tTest (tOp (rNiA K) (tVar 1) (tC (.str "0123456789")))) ((er [.fr (.str z), .no]).set 1 (some (.str (sg x)))) (!decide (48 ≤ x ∧ x ≤ 57)) := fun x => by
    refine (et_test (ev_nis (ev_var rfl) ev_str)).cast ?_
    by_cases e : 48 ≤ x ∧ x ≤ 57
    · rw [decide_eq_true e, decide_eq_false fun z' => z' (in_figures.mpr e)]; rfl
    · rw [decide_eq_false e, decide_eq_true (p := ¬ x ∈ (Str.ofString "0123456789").cps.toList) fun z' => e (in_figures.mp z')]; rfl
  rcases first_badL (fun x : Nat => decide (48 ≤ x ∧ x ≤ 57)) z.cps.toList with hg | ⟨m, x, h1, h2', h3⟩
  · obtain ⟨n, hn⟩ := isN_of (z := z) hc h48 (by omega) fun c m => of_decide_eq_true (hg c m)
    obtain ⟨n', h, rfl⟩ | ⟨h, _⟩ := ho
    case inr => exact absurd hn (h n)
    refine .inl ?_
    show Does K W (rd_number_of K C W) [.fr (.str z), .no] (.rt (.int n'))
    refine does_seq (does_iff (tst.cast (decide_eq_false h48)) does_next) ?_
    refine does_seq (does_chkS (ev_var rfl) fun x hx => chk_if (key x) (fun z' => ?_) fun _ => chk_next) ?_
    · have := hg x hx
      rw [this] at z'
      cases z'
    · exact does_reti (ev_intS (ev_var rfl) h.val (by omega))
  · have hn : ∀ n, ¬ IsN z n := fun n h => by
      have q := h.fig x (List.mem_of_getElem? h1)
      rw [decide_eq_true q] at h2'
      cases h2'
    obtain ⟨n, h, _⟩ | ⟨_, rfl⟩ := ho
    · exact absurd h (hn n)
    refine ⟨[.fr (.str z), .no], ?_⟩
    refine does_seq (does_iff (tst.cast (decide_eq_false h48)) does_next) ?_
    exact does_seq_ex (does_chkSx (o := .ex C.NoNote) (ev_var rfl) m x h1 (fun i y hi hy => chk_if (key y) (fun z' => by rw [h3 i y hi hy] at z'; cases z') fun _ => chk_next)
      (chk_if (key x) (fun _ => chk_rz) fun z' => by rw [h2'] at z'; cases z') (fun z' => nomatch z') fun _ z' => nomatch z')
open TL
abbrev N_read : List Str := ["text", "row", "word"]
def rd_read (K : Frg) (C : Ec) (W : WX) : TS := (tSeq (tIfS (tTest (tOp (rEqA K) (tVar 0) (tC (.str "0"))))
  (tRet (tLst tNil)) tNext)
  (tSeq (tAsg (tLcX (iList K (tM1 rSplitS (tVar 0) (tC (.str "+")))) (gName 2) tYes (fun σ0 => tCallS (spOf K (R_number_of C)) (fun _ cls d H => W cls d σ0 H) (tCons (tVar 2) tNil)) [2]) (gName 1))
  (tSeq (tIfS (tOr (tNot (tB (tCall (spOf K (R_is_row C)) [] E0 (tCons (tVar 1) tNil)))) (tTest (tOp rGtI (tCB (rSum K) (tCons (tVar 1) tNil)) (tC (.int 60)))))
  (tRz W C.NoNote) tNext)
  (tRet (tVar 1)))))
/-- the text writes the row -/
def Reads (z : Str) (r : List Int) : Prop := (z = noughtS ∧ r = []) ∨ (z ≠ noughtS ∧ Sml r ∧ Txt.split z plusS = wordsM r ∧ Row r ∧ r.sum ≤ 60)
theorem plus_ne : tl plusS ≠ [] := by rw [tl_plus]; simp
theorem plus_low : plusS.cps.all (· < 256) = true := by decide +kernel
def R_read (C : Ec) (ds : List PyData) (o : Except Addr PyData) : Prop := ∃ z : Str, ds = [.str z] ∧ z.length ≤ 900 ∧ ((∃ r, Reads z r ∧ o = .ok (dR r)) ∨ ((∀ r, ¬ Reads z r) ∧ o = .error C.NoNote))
theorem len_read {C : Ec} (ds : List PyData) (o : Except Addr PyData) : R_read C ds o → ds.length = ["text"].length := by
  rintro ⟨_, rfl, _⟩; rfl
/-- all words are numbers, or there is a first that is none -/
theorem words_or (ws : List Str) : (∃ r : List Int, Sml r ∧ ws = wordsM r) ∨ ∃ (m : Nat) (w : Str), ws[m]? = some w ∧ (∀ n, ¬ IsN w n) ∧ ∃ g : Str → Nat, ∀ i x, i < m → ws[i]? = some x → IsN x (g x) := by
  induction ws with
  | nil => exact .inl ⟨[], (fun _ m => nomatch m), rfl⟩
  | cons w ws ih =>
    by_cases hw : ∃ n, IsN w n
    · obtain ⟨n, hn⟩ := hw
      have hn' := hn
      obtain ⟨n1, n2, n3⟩ := hn'
      rcases ih with ⟨r, h1, h2⟩ | ⟨m, v, h1, h2, g, h3⟩
      · refine .inl ⟨(n : Int) :: r, fun x m => ?_, by rw [n3, h2]; rfl⟩
        rcases List.mem_cons.mp m with rfl | m
        · omega
        · exact h1 x m
      · refine .inr ⟨m + 1, v, h1, h2, fun x => if x = w then n else g x, fun i x hi hx => ?_⟩
        cases i with
        | zero =>
          have e : w = x := Option.some.inj hx
          subst e
          show IsN w (if w = w then n else g w)
          rw [if_pos rfl]
          exact hn
        | succ i =>
          show IsN x (if x = w then n else g x)
          by_cases e : x = w
          · rw [if_pos e, e]; exact hn
          · rw [if_neg e]
            exact h3 i x (by omega) hx
    · exact .inr ⟨0, w, rfl, fun n h => hw ⟨n, h⟩, fun _ => 0, fun i x h => absurd h (Nat.not_lt_zero _)⟩
theorem bad_word {r : List Int} (h : Sml r) {m : Nat} {w : Str} (hw : (wordsM r)[m]? = some w) : ∃ n, IsN w n := by
  obtain ⟨x, hx, rfl⟩ := List.mem_map.mp (List.mem_of_getElem? hw)
  exact ⟨_, Sml.isN (h x hx)⟩
theorem does_read {K : Frg} {C : Ec} {W : WX} {ds : List PyData} {o : Except Addr PyData} : R_read C ds o → FnDoes K W (rd_read K C W) (entry N_read ds) o := by
  rintro ⟨z, rfl, hl, ho⟩
  by_cases hz : z = noughtS
  · have hr : Reads z [] := .inl ⟨hz, rfl⟩
    obtain ⟨r, h | ⟨h, _⟩, rfl⟩ | ⟨h, _⟩ := ho
    · obtain ⟨_, rfl⟩ := h
      refine .inl ?_
      show Does K W (rd_read K C W) [.fr (.str z), .no, .no] (.rt (dR []))
      exact does_seq_rt (does_ift ((et_test (ev_eqs (ev_var rfl) ev_str)).cast (decide_eq_true hz)) (does_ret (evf_lst evaf_nil)))
    · exact absurd hz h
    · exact absurd hr (h _)
  obtain ⟨sz1, sz2⟩ := split_size (z := z) plus_ne plus_low
  have hw0 : Evr K (tM1 rSplitS (tVar 0) (tC (.str "+"))) (er [.fr (.str z), .no, .no]) (dS (Txt.split z plusS)) := Evf.r (evf_splitS (ev_var rfl) ev_str (by decide +kernel) (by omega))
  rcases words_or (Txt.split z plusS) with ⟨r, hs, hsp⟩ | ⟨m, w, hm, hbad, g, hg⟩
  · have hrl : r.length ≤ 901 := by rw [hsp, words_len] at sz1; omega
    have hw : Evr K (tM1 rSplitS (tVar 0) (tC (.str "+"))) (er [.fr (.str z), .no, .no]) (.list (r.map fun x : Int => .str (strI x))) := by
      refine Evr.cast hw0 ?_
      rw [hsp, dS, wordsM, List.map_map]
      rfl
    have body : ∀ {o : Out}, Does K W (tSeq (tIfS (tOr (tNot (tB (tCall (spOf K (R_is_row C)) [] E0 (tCons (tVar 1) tNil)))) (tTest (tOp rGtI (tCB (rSum K) (tCons (tVar 1) tNil)) (tC (.int 60))))) (tRz W C.NoNote) tNext) (tRet (tVar 1))) [.fr (.str z), .ow (dR r), .no] o → Does K W (rd_read K C W) [.fr (.str z), .no, .no] o := fun {o} h => by
      refine does_seq (does_iff ((et_test (ev_eqs (ev_var rfl) ev_str)).cast (decide_eq_false hz)) does_next) ?_
      refine does_seq (does_asg (Evf.cast (evf_lcX (c := fun x : Int => PyData.str (strI x)) (as := fun x : Int => [.str (strI x)]) (fun x : Int => .int x) hw (by omega) (fun x hx => eva_cons (ev_var rfl) eva_nil) fun x hx => ?_) (show _ = dR r from rfl))) h
      have hx' := hs x hx
      have hN := Sml.isN hx'
      refine ⟨strI x, rfl, by have := hN.len; omega, .inl ⟨x.toNat, hN, ?_⟩⟩
      rw [show ((x.toNat : Nat) : Int) = x by omega]
    have tst : Evt K (tOr (tNot (tB (tCall (spOf K (R_is_row C)) [] E0 (tCons (tVar 1) tNil)))) (tTest (tOp rGtI (tCB (rSum K) (tCons (tVar 1) tNil)) (tC (.int 60))))) (er [.fr (.str z), .ow (dR r), .no]) (!isRowB r || decide (60 < r.sum)) :=
      et_or (et_not (et_B (ev_call (R := R_is_row C) (d := .bool (isRowB r)) (eva_cons (ev_var rfl) eva_nil) ⟨r, rfl, by omega, rfl⟩))) fun _ => et_test (ev_gt (ev_sum (ev_var rfl)) ev_int)
    by_cases hgood : Row r ∧ r.sum ≤ 60
    · obtain ⟨r', h | ⟨_, h1, h2, _⟩, rfl⟩ | ⟨h, _⟩ := ho
      · exact absurd h.1 hz
      · have e : r' = r := words_inj h1 hs (h2.symm.trans hsp)
        subst e
        refine .inl (body (does_seq (does_iff (tst.cast ?_) does_next) (does_retv rfl)))
        rw [isRowB_iff.mpr hgood.1, decide_eq_false (show ¬ (60 : Int) < r'.sum by omega)]
        rfl
      · exact absurd (.inr ⟨hz, hs, hsp, hgood.1, hgood.2⟩) (h r)
    · have hno : ∀ r', ¬ Reads z r' := by
        rintro r' (h | ⟨_, h1, h2, h3, h4⟩)
        · exact hz h.1
        · have e : r' = r := words_inj h1 hs (h2.symm.trans hsp)
          subst e
          exact hgood ⟨h3, h4⟩
      obtain ⟨r', h, _⟩ | ⟨_, rfl⟩ := ho
      · exact absurd h (hno r')
      refine ⟨[.fr (.str z), .ow (dR r), .no], body (does_seq_ex (does_ift (tst.cast ?_) does_rz))⟩
      by_cases h1 : Row r
      · have h2 : (60 : Int) < r.sum := by
          have : ¬ r.sum ≤ 60 := fun z => hgood ⟨h1, z⟩
          omega
        rw [decide_eq_true h2]
        simp
      · have : isRowB r = false := by
          cases e : isRowB r with
          | false => rfl
          | true => exact absurd (isRowB_iff.mp e) h1
        rw [this]
        rfl
  · have hno : ∀ r', ¬ Reads z r' := by
      rintro r' (h | ⟨_, h1, h2, _⟩)
      · exact hz h.1
      · rw [h2] at hm
        obtain ⟨n, hn⟩ := bad_word h1 hm
        exact hbad n hn
    obtain ⟨r', h, _⟩ | ⟨_, rfl⟩ := ho
    · exact absurd h (hno r')
    refine ⟨[.fr (.str z), .no, .no], ?_⟩
    refine does_seq (does_iff ((et_test (ev_eqs (ev_var rfl) ev_str)).cast (decide_eq_false hz)) does_next) ?_
    refine does_seq_ex (does_lcXx (c := PyData.str) (as := fun x : Str => [.str x]) (fun x : Str => .int (g x)) m w hm hw0 (by omega) (fun x hx => eva_cons (ev_var rfl) eva_nil) (fun i x hi hx => ?_) ?_)
    · have := sz2 x (List.mem_of_getElem? hx)
      exact ⟨x, rfl, by omega, .inl ⟨g x, hg i x hi hx, rfl⟩⟩
    · have := sz2 w (List.mem_of_getElem? hm)
      exact ⟨w, rfl, by omega, .inr ⟨hbad, rfl⟩⟩
end Pur

set_option Elab.async false
set_option linter.all false
set_option maxRecDepth 100000
set_option maxHeartbeats 4000000
namespace Pur
open PySem PySem.Spec PyProof.Rows L2
namespace Lw
open TL
def R_law0 (ds : List PyData) (o : Except Addr PyData) : Prop := ∃ ns : List Int, ds = [dScr ns] ∧ ns.length ≤ 63 ∧ o = .ok (.bool true)
abbrev R_law (C : Ec) := R_law0
theorem len_law {C : Ec} (ds : List PyData) (o : Except Addr PyData) : R_law C ds o → ds.length = ["script"].length := by
  rintro ⟨_, rfl, _⟩; rfl
def clsW (C : Ec) : Nat → Addr
  | 0 => C.TooFew
  | 1 => C.NoBeads
  | 2 => C.NoRods
  | 3 => C.NoCore
  | 4 => C.NoQuotient
  | 5 => C.NoCharges
  | _ => C.NoNote
abbrev E_law (K : Frg) (C : Ec) : Prop := (Xr K C.BeadError C.TooFew ∧ Xr K C.BeadError C.NoBeads ∧ Xr K C.BeadError C.NoRods ∧ Xr K C.BeadError C.NoCore ∧ Xr K C.BeadError C.NoQuotient ∧ Xr K C.BeadError C.NoCharges ∧ Xr K C.BeadError C.NoNote) ∧ (Kf K C.TooFew C.NoBeads false ∧ Kf K C.TooFew C.NoRods false ∧ Kf K C.TooFew C.NoCore false ∧ Kf K C.TooFew C.NoQuotient false ∧ Kf K C.TooFew C.NoCharges false ∧ Kf K C.TooFew C.NoNote false) ∧ (Kf K C.NoBeads C.TooFew false ∧ Kf K C.NoBeads C.NoRods false ∧ Kf K C.NoBeads C.NoCore false ∧ Kf K C.NoBeads C.NoQuotient false ∧ Kf K C.NoBeads C.NoCharges false ∧ Kf K C.NoBeads C.NoNote false) ∧ (Kf K C.NoRods C.TooFew false ∧ Kf K C.NoRods C.NoBeads false ∧ Kf K C.NoRods C.NoCore false ∧ Kf K C.NoRods C.NoQuotient false ∧ Kf K C.NoRods C.NoCharges false ∧ Kf K C.NoRods C.NoNote false) ∧ (Kf K C.NoCore C.TooFew false ∧ Kf K C.NoCore C.NoBeads false ∧ Kf K C.NoCore C.NoRods false ∧ Kf K C.NoCore C.NoQuotient false ∧ Kf K C.NoCore C.NoCharges false ∧ Kf K C.NoCore C.NoNote false) ∧ (Kf K C.NoQuotient C.TooFew false ∧ Kf K C.NoQuotient C.NoBeads false ∧ Kf K C.NoQuotient C.NoRods false ∧ Kf K C.NoQuotient C.NoCore false ∧ Kf K C.NoQuotient C.NoCharges false ∧ Kf K C.NoQuotient C.NoNote false) ∧ (Kf K C.NoCharges C.TooFew false ∧ Kf K C.NoCharges C.NoBeads false ∧ Kf K C.NoCharges C.NoRods false ∧ Kf K C.NoCharges C.NoCore false ∧ Kf K C.NoCharges C.NoQuotient false ∧ Kf K C.NoCharges C.NoNote false) ∧ (Kf K C.NoNote C.TooFew false ∧ Kf K C.NoNote C.NoBeads false ∧ Kf K C.NoNote C.NoRods false ∧ Kf K C.NoNote C.NoCore false ∧ Kf K C.NoNote C.NoQuotient false ∧ Kf K C.NoNote C.NoCharges false)
theorem law_facts {K : Frg} {C : Ec} (E : E_law K C) : ∀ (w : Nat), w < 7 → Xr K C.BeadError (clsW C w) ∧ Kf K (clsW C w) C.TooFew (decide (w = 0)) ∧ Kf K (clsW C w) C.NoBeads (decide (w = 1)) ∧ Kf K (clsW C w) C.NoRods (decide (w = 2)) ∧ Kf K (clsW C w) C.NoCore (decide (w = 3)) ∧ Kf K (clsW C w) C.NoQuotient (decide (w = 4)) ∧ Kf K (clsW C w) C.NoCharges (decide (w = 5)) ∧ Kf K (clsW C w) C.NoNote (decide (w = 6)) := by
  obtain ⟨⟨y0, y1, y2, y3, y4, y5, y6⟩, ⟨q01, q02, q03, q04, q05, q06⟩, ⟨q10, q12, q13, q14, q15, q16⟩, ⟨q20, q21, q23, q24, q25, q26⟩, ⟨q30, q31, q32, q34, q35, q36⟩, ⟨q40, q41, q42, q43, q45, q46⟩, ⟨q50, q51, q52, q53, q54, q56⟩, ⟨q60, q61, q62, q63, q64, q65⟩⟩ := E
  intro w hw
  match w, hw with
  | 0, _ => exact ⟨y0, kit_self, q01, q02, q03, q04, q05, q06⟩
  | 1, _ => exact ⟨y1, q10, kit_self, q12, q13, q14, q15, q16⟩
  | 2, _ => exact ⟨y2, q20, q21, kit_self, q23, q24, q25, q26⟩
  | 3, _ => exact ⟨y3, q30, q31, q32, kit_self, q34, q35, q36⟩
  | 4, _ => exact ⟨y4, q40, q41, q42, q43, kit_self, q45, q46⟩
  | 5, _ => exact ⟨y5, q50, q51, q52, q53, q54, kit_self, q56⟩
  | 6, _ => exact ⟨y6, q60, q61, q62, q63, q64, q65, kit_self⟩
  | n + 7, h => exact absurd h (by omega)
def R_law_marks (K : Frg) (C : Ec) (a D : Addr) (ds : List PyData) (o : Except Addr PyData) : Prop := ds = [dAdr a] ∧ ∃ b : Nat → Bool, Kf K D C.TooFew (b 0) ∧ Kf K D C.NoBeads (b 1) ∧ Kf K D C.NoRods (b 2) ∧ Kf K D C.NoCore (b 3) ∧ Kf K D C.NoQuotient (b 4) ∧ Kf K D C.NoCharges (b 5) ∧ Kf K D C.NoNote (b 6) ∧ PySem.W.kitOne K (.ref D) (.type "ValueError") = some true ∧ o = .ok (.list [.bool (b 0), .bool (b 1), .bool (b 2), .bool (b 3), .bool (b 4), .bool (b 5), .bool (b 6), .bool true])
theorem len_law_marks {K : Frg} {C : Ec} {a D : Addr} (ds : List PyData) (o : Except Addr PyData) : R_law_marks K C a D ds o → ds.length = ["e"].length := by
  rintro ⟨rfl, _⟩; rfl
theorem ok_out_law_marks {K : Frg} {C : Ec} {a D : Addr} {ds : List PyData} {o : Except Addr PyData} : R_law_marks K C a D ds o → ∃ (_ : Unit) (d : PyData), o = .ok d := by
  rintro ⟨_, _, _, _, _, _, _, _, _, _, e⟩
  exact ⟨(), _, e⟩
abbrev N_law_marks : List Str := ["e", "found"]
def rd_law_marks (a_ D_ : Addr) (K : Frg) (C : Ec) (W : WX) : TS := (tSeq (tAsg (tLst (tCons (tCB (rIsE K D_ a_) (tCons (tVar 0) (tCons (tC (.ref C.TooFew)) tNil))) (tCons (tCB (rIsE K D_ a_) (tCons (tVar 0) (tCons (tC (.ref C.NoBeads)) tNil))) (tCons (tCB (rIsE K D_ a_) (tCons (tVar 0) (tCons (tC (.ref C.NoRods)) tNil))) (tCons (tCB (rIsE K D_ a_) (tCons (tVar 0) (tCons (tC (.ref C.NoCore)) tNil))) tNil))))) (gName 1))
  (tSeq (tAsg (tOp rAddA (tVar 1) (tLst (tCons (tCB (rIsE K D_ a_) (tCons (tVar 0) (tCons (tC (.ref C.NoQuotient)) tNil))) (tCons (tCB (rIsE K D_ a_) (tCons (tVar 0) (tCons (tC (.ref C.NoCharges)) tNil))) (tCons (tCB (rIsE K D_ a_) (tCons (tVar 0) (tCons (tC (.ref C.NoNote)) tNil))) tNil))))) (gName 1))
  (tRet (tOp rAddA (tVar 1) (tLst (tCons (tCB (rIsE K D_ a_) (tCons (tVar 0) (tCons (tC (.ty "ValueError")) tNil))) tNil))))))
theorem does_law_marks {K : Frg} {C : Ec} {W : WX} {a D : Addr} {ds : List PyData} {o : Except Addr PyData} : R_law_marks K C a D ds o → FnDoes K W (rd_law_marks a D K C W) (entry N_law_marks ds) o := by
  rintro ⟨rfl, b, f0, f1, f2, f3, f4, f5, f6, fv, rfl⟩
  refine .inl ?_
  show Does K W (rd_law_marks a D K C W) [.fr (dAdr a), .no] _
  have sc : ∀ l : List Bool, ∀ d ∈ l.map PyData.bool, Scal d := fun l d m => by
    obtain ⟨x, _, rfl⟩ := List.mem_map.mp m
    exact True.intro
  refine does_seq (does_asg (d := .list ([b 0, b 1, b 2, b 3].map PyData.bool)) (evf_lst (evaf_cons (Evr.f (ev_isE (ev_var rfl) f0) True.intro) (evaf_cons (Evr.f (ev_isE (ev_var rfl) f1) True.intro) (evaf_cons (Evr.f (ev_isE (ev_var rfl) f2) True.intro) (evaf_cons (Evr.f (ev_isE (ev_var rfl) f3) True.intro) evaf_nil)))))) ?_
  refine does_seq (does_asg (d := .list ([b 0, b 1, b 2, b 3].map PyData.bool ++ [b 4, b 5, b 6].map PyData.bool)) (evf_catSc (ev_var rfl) (Evf.r (evf_lst (evaf_cons (Evr.f (ev_isE (ev_var rfl) f4) True.intro) (evaf_cons (Evr.f (ev_isE (ev_var rfl) f5) True.intro) (evaf_cons (Evr.f (ev_isE (ev_var rfl) f6) True.intro) evaf_nil))))) (sc _) (sc _) (show 4 + 3 ≤ 1000000 by decide))) ?_
  exact does_ret (evf_catSc (ds := [b 0, b 1, b 2, b 3, b 4, b 5, b 6].map PyData.bool) (es := [true].map PyData.bool) (ev_var rfl) (Evf.r (evf_lst (evaf_cons (Evr.f (ev_isV (ev_var rfl) fv) True.intro) evaf_nil))) (sc _) (sc _) (show 7 + 1 ≤ 1000000 by decide))
/-! ## the refused calls -/
def R_law_call (C : Ec) (ds : List PyData) (o : Except Addr PyData) : Prop := ∃ (w : Nat) (x : Int) (r : List Int) (n : Nat), ds = [.int w, dR (x :: r), .int n] ∧ w < 7 ∧ Row (x :: r) ∧ (x :: r).sum ≤ 60 ∧ 1 ≤ n ∧ n ≤ 6 ∧ o = .error (clsW C w)
theorem len_law_call {C : Ec} (ds : List PyData) (o : Except Addr PyData) : R_law_call C ds o → ds.length = ["way", "row", "rods"].length := by
  rintro ⟨_, _, _, _, rfl, _⟩; rfl
theorem one_row {n : Nat} (h1 : 1 ≤ n) : Row [(n : Int)] := ⟨fun x m => by rw [List.mem_singleton.mp m]; omega, List.pairwise_singleton _ _⟩
theorem one_nocore {n : Nat} (h1 : 1 ≤ n) (h2 : n ≤ 6) : coreM [(n : Int)] n ≠ [(n : Int)] := fun e => by
  have q := (quot_empty_iff (one_row h1) (by omega)).mp e
  have hd := hooks_div (one_row h1) (n := n) (by omega)
  have hm : (n : Int) ∈ (hooksM [(n : Int)]).flatten := by
    have : n = 1 ∨ n = 2 ∨ n = 3 ∨ n = 4 ∨ n = 5 ∨ n = 6 := by omega
    rcases this with rfl | rfl | rfl | rfl | rfl | rfl <;> decide +kernel
  have h3 := hd.mem_iff.mp (List.mem_filter.mpr ⟨hm, decide_eq_true (Int.emod_self)⟩)
  unfold liftedM at h3
  rw [q] at h3
  obtain ⟨x, hx, hy⟩ := List.mem_flatMap.mp h3
  rw [(List.mem_replicate.mp hx).2] at hy
  cases hy
theorem nil_core {n : Nat} (h1 : 1 ≤ n) : coreM [] n = [] := by
  have hd := hooks_div Row.nil (n := n) (by omega)
  have hl := lifted_len (n := n) Row.nil
  have h0 : (liftedM [] n).length = 0 := by rw [← hd.length_eq]; rfl
  have hs : ((quotM [] n).map List.sum).sum = 0 := by omega
  have he := empty_of_sums (fun x hx => quot_row Row.nil hx) hs
  rw [quot_length] at he
  exact (quot_empty_iff Row.nil (by omega)).mpr he
theorem plus_bad {x : Int} (hx : 1 ≤ x ∧ x ≤ 99) (r : List Int) : ¬ Reads (plusS ++ strI x) r := by
  have e0 : tl ("" : Str) = [] := by decide +kernel
  have e : plusS ++ strI x = Txt.join plusS [("" : Str), strI x] := by
    refine ext_tl ?_
    rw [tl_append, join_eq, tl_join]
    show _ = tl ("" : Str) ++ (tl plusS ++ tl (strI x))
    rw [e0, List.nil_append]
  have hsp : Txt.split (plusS ++ strI x) plusS = [("" : Str), strI x] := by
    rw [e]
    refine split_join tl_plus plus_low (by simp) fun p m => ?_
    rcases List.mem_cons.mp m with rfl | m
    · rw [e0]; exact fun z => nomatch z
    · rw [List.mem_singleton.mp m]; exact word_free hx
  rintro (⟨h, _⟩ | ⟨_, h1, h2, _⟩)
  · have h' := congrArg tl h
    rw [tl_append, tl_plus, tl_nought] at h'
    injection h' with h3 _
    cases h3
  · rw [hsp] at h2
    obtain ⟨n, hn⟩ := bad_word h1 (m := 0) (w := "") (by rw [← h2]; rfl)
    have := hn.len
    rw [str_empty.mp rfl] at this
    omega
abbrev N_law_call : List Str := ["way", "row", "rods", "k"]
def rd_law_call (K : Frg) (C : Ec) (W : WX) : TS := (tIfS (tTest (tOp (rEqA K) (tVar 0) (tC (.int 0))))
  (tDrop (tCallS (spOf K (R_beads C)) (WE W) (tCons (tVar 1) (tCons (tOp rSubI (tCB (rLenA K) (tCons (tVar 1) tNil)) (tC (.int 1))) tNil)))) (tIfS (tTest (tOp (rEqA K) (tVar 0) (tC (.int 1))))
  (tDrop (tCallS (spOf K (R_row_of C)) (WE W) (tCons (tOp rAddA (tVar 1) (tLst (tCons (tOp (rIx K) (tVar 1) (tUn (rU fun i => .int (-i)) (tC (.int 1)))) tNil))) tNil))) (tIfS (tTest (tOp (rEqA K) (tVar 0) (tC (.int 2))))
  (tDrop (tCallS (spOf K (R_core C)) (WE W) (tCons (tVar 1) (tCons (tOp rAddA (tC (.int 8)) (tVar 2)) tNil)))) (tIfS (tTest (tOp (rEqA K) (tVar 0) (tC (.int 3))))
  (tDrop (tCallS (spOf K (R_joined C)) (WE W) (tCons (tLst (tCons (tVar 2) tNil)) (tCons (tLc (iRng1 (tCons (tVar 2) tNil)) (gName 3) tYes (tLst tNil) [3]) (tCons (tVar 2) tNil))))) (tIfS (tTest (tOp (rEqA K) (tVar 0) (tC (.int 4))))
  (tDrop (tCallS (spOf K (R_joined C)) (WE W) (tCons (tLst tNil) (tCons (tLst tNil) (tCons (tVar 2) tNil))))) (tIfS (tTest (tOp (rEqA K) (tVar 0) (tC (.int 5))))
  (tDrop (tCallS (spOf K (R_core_of C)) (WE W) (tCons (tLst (tCons (tOp rSubI (tVar 2) (tOp rMulA (tC (.int 2)) (tVar 2))) tNil)) tNil))) (tDrop (tCallS (spOf K (R_read C)) (WE W) (tCons (tOp rAddA (tC (.str "+")) (tCB rStrI (tCons (tOp (rIx K) (tVar 1) (tC (.int 0))) tNil))) tNil)))))))))
theorem does_law_call {K : Frg} {C : Ec} {W : WX} {ds : List PyData} {o : Except Addr PyData} : R_law_call C ds o → FnDoes K W (rd_law_call K C W) (entry N_law_call ds) o := by
  rintro ⟨w, x, r, n, rfl, hw, hr, hs, n1, n6, rfl⟩
  have hz := hr.sum_len
  refine ⟨[.fr (.int w), .fr (dR (x :: r)), .fr (.int n), .no], ?_⟩
  show Does K W (rd_law_call K C W) [.fr (.int w), .fr (dR (x :: r)), .fr (.int n), .no] _
  have tst : ∀ m : Int, Evt K (tTest (tOp (rEqA K) (tVar 0) (tC (.int m)))) (er [.fr (.int w), .fr (dR (x :: r)), .fr (.int n), .no]) (decide ((w : Int) = m)) := fun m => et_test (ev_eqi (ev_var rfl) ev_int)
  have no : ∀ {m : Int} {t u : TS} {o : Out}, (w : Int) ≠ m → Does K W u [.fr (.int w), .fr (dR (x :: r)), .fr (.int n), .no] o → Does K W (tIfS (tTest (tOp (rEqA K) (tVar 0) (tC (.int m)))) t u) [.fr (.int w), .fr (dR (x :: r)), .fr (.int n), .no] o := fun {m t u o} h d => does_iff ((tst m).cast (decide_eq_false h)) d
  have yes : ∀ {m : Int} {t u : TS} {o : Out}, (w : Int) = m → Does K W t [.fr (.int w), .fr (dR (x :: r)), .fr (.int n), .no] o → Does K W (tIfS (tTest (tOp (rEqA K) (tVar 0) (tC (.int m)))) t u) [.fr (.int w), .fr (dR (x :: r)), .fr (.int n), .no] o := fun {m t u o} h d => does_ift ((tst m).cast (decide_eq_true h)) d
  have rok : RodsOk n := ⟨by omega, by omega⟩
  have hx := hr.sml hs x List.mem_cons_self
  match w, hw with
  | 0, _ => exact yes rfl (does_dropx (evx_callS (R := R_beads C) (eva_cons (ev_var rfl) (eva_cons (ev_sub (ev_len (ev_var rfl)) ev_int) eva_nil)) ⟨x :: r, _, rfl, by omega, by omega, .inl ⟨by omega, rfl⟩⟩))
  | 1, _ =>
    have hl : atI (x :: r) (-1) = some ((x :: r).getLast (by simp)) := by
      unfold atI ixN
      rw [if_neg (by decide), if_pos (by simp only [List.length_cons]; omega)]
      show (x :: r)[((-1 : Int) + ((x :: r).length : Nat)).toNat]? = _
      rw [show ((-1 : Int) + ((x :: r).length : Nat)).toNat = (x :: r).length - 1 by simp only [List.length_cons]; omega, ← List.getLast?_eq_getElem?, List.getLast?_eq_some_getLast]
    refine no (by decide) (yes rfl (does_dropx (evx_callS (R := R_row_of C) (eva_cons (Evf.r (evf_cat (r := x :: r) (s := [(x :: r).getLast (by simp)]) (ev_var rfl) (Evf.r (Evf.cast (evf_lst (evaf_cons (Evr.f (ev_ixM (c := PyData.int) (ev_var rfl) (ev_neg ev_int) hl) True.intro) evaf_nil)) rfl)) (by rw [List.length_singleton]; omega))) eva_nil)
      ⟨(x :: r) ++ [(x :: r).getLast (by simp)], rfl, by rw [List.length_append, List.length_singleton]; omega, .inr ⟨fun h => ?_, rfl⟩⟩)))
    have := (List.pairwise_append.mp h.rise).2.2 _ (List.getLast_mem (by simp)) _ (List.mem_singleton.mpr rfl)
    omega
  | 2, _ => exact no (by decide) (no (by decide) (yes rfl (does_dropx (evx_callS (R := R_core C) (eva_cons (ev_var rfl) (eva_cons (ev_add ev_int (ev_var rfl)) eva_nil)) ⟨x :: r, _, rfl, hr, by omega, .inr ⟨fun h => by have := h.2; omega, rfl⟩⟩))))
  | 3, _ =>
    refine no (by decide) (no (by decide) (no (by decide) (yes rfl (does_dropx (evx_callS (R := R_joined C) (eva_cons (Evf.r (Evf.cast (evf_lst (evaf_cons (Evr.f (ev_var rfl) True.intro) evaf_nil)) (show _ = dR [(n : Int)] from rfl))) (eva_cons (Evf.r (evf_mapRR (fun _ => dR []) (eva_cons (ev_var rfl) eva_nil) (by omega) (by omega) fun i hi => evf_lst evaf_nil)) (eva_cons (ev_var rfl) eva_nil)))
      ⟨[(n : Int)], (List.range n).map fun _ => [], n, by rw [Int.toNat_natCast, dRR, List.map_map]; rfl, one_row n1, (by show 1 ≤ 1000; decide), by rw [List.length_map, List.length_range]; omega, fun y m => ?_, .inr (.inl ⟨rok, by rw [Int.toNat_natCast]; exact one_nocore n1 n6, rfl⟩)⟩)))))
    obtain ⟨_, _, rfl⟩ := List.mem_map.mp m
    exact ⟨Row.nil, by decide⟩
  | 4, _ =>
    exact no (by decide) (no (by decide) (no (by decide) (no (by decide) (yes rfl (does_dropx (evx_callS (R := R_joined C) (eva_cons (Evf.r (Evf.cast (evf_lst evaf_nil) (show _ = dR [] from rfl))) (eva_cons (Evf.r (Evf.cast (evf_lst evaf_nil) (show _ = dRR [] from rfl))) (eva_cons (ev_var rfl) eva_nil)))
      ⟨[], [], n, rfl, Row.nil, by decide, by decide, (fun y m => nomatch m), .inr (.inr (.inl ⟨rok, by rw [Int.toNat_natCast]; exact nil_core n1, by show ((0 : Nat) : Int) ≠ n; omega, rfl⟩))⟩))))))
  | 5, _ =>
    exact no (by decide) (no (by decide) (no (by decide) (no (by decide) (no (by decide) (yes rfl (does_dropx (evx_callS (R := R_core_of C) (eva_cons (Evf.r (Evf.cast (evf_lst (evaf_cons (Evr.f (ev_sub (ev_var rfl) (ev_mul ev_int (ev_var rfl) (mul_l ⟨by decide, by decide⟩))) True.intro) evaf_nil)) (show _ = dR [(n : Int) - 2 * n] from rfl))) eva_nil)
      ⟨[(n : Int) - 2 * n], rfl, (by show 1 ≤ 1000; decide), (fun y m => by rw [List.mem_singleton.mp m]; omega), .inr (.inl ⟨⟨by show (1 : Int) ≤ ((1 : Nat) : Int); decide, by show ((1 : Nat) : Int) ≤ 8; decide⟩, by show (n : Int) - 2 * n + 0 ≠ 0; omega, rfl⟩)⟩)))))))
  | 6, _ =>
    have hlog : x.natAbs.log2 < 1920 := by
      obtain ⟨m, e⟩ := Int.eq_ofNat_of_zero_le (show 0 ≤ x by omega)
      rw [e]
      exact log_small (by omega)
    have hl := (Sml.isN hx).len
    have pl : plusS.length = 1 := by decide +kernel
    have al : (plusS ++ strI x).length = plusS.length + (strI x).length := by rw [len_tl, tl_append, List.length_append, ← len_tl, ← len_tl]
    exact no (by decide) (no (by decide) (no (by decide) (no (by decide) (no (by decide) (no (by decide) (does_dropx (evx_callS (R := R_read C) (eva_cons (ev_adds (i := plusS) ev_str (ev_strI (ev_ix (r := x :: r) (ev_var rfl) ev_int (by decide) (by simp only [List.length_cons]; omega)) hlog) (by show plusS.length + (strI x).length ≤ _; omega)) eva_nil)
      ⟨plusS ++ strI x, rfl, by omega, .inr ⟨plus_bad hx, rfl⟩⟩)))))))
abbrev N_law : List Str := ["script", "row", "way", "rods", "found", "e", "k"]
def rd_law (K : Frg) (C : Ec) (W : WX) : TS := (tSeq (tAsg (tCall (spOf K (R_law_row_by C)) [] E0 (tCons (tVar 0) (tCons (tC (.int 10)) (tCons (tC (.int 29)) tNil)))) (gName 1))
  (tSeq (tAsg (tOp rAddA (tLst (tCons (tOp rAddA (tC (.int 1)) (tCKw (r_maxD K) (tCons (tVar 1) tNil) (tCons (tC (.int 0)) tNil))) tNil)) (tVar 1)) (gName 1))
  (tSeq (tAsg (tCall (spOf K (R_law_drawn C)) [] E0 (tCons (tVar 0) (tCons (tC (.int 100)) (tCons (tC (.int 7)) tNil)))) (gName 2))
  (tSeq (tAsg (tOp rAddA (tC (.int 1)) (tCall (spOf K (R_law_drawn C)) [] E0 (tCons (tVar 0) (tCons (tC (.int 101)) (tCons (tC (.int 6)) tNil))))) (gName 3))
  (tSeq (tAsg (tLst tNil) (gName 4))
  (tSeq (tTry K C.BeadError 5 (fun W => (tDrop (tCallS (spOf K (R_law_call C)) (WE W) (tCons (tVar 2) (tCons (tVar 1) (tCons (tVar 3) tNil))))))
 (fun a_ D_ => (tAsg (tCall (spOf K (R_law_marks K C a_ D_)) [] E0 (tCons (tVar 5) tNil)) (gName 4))) W)
  (tRet (tOp (rEqA K) (tVar 4) (tLc (iRng1 (tCons (tC (.int 8)) tNil)) (gName 6) tYes (tOrV (tOp (rEqA K) (tVar 6) (tVar 2)) (tOp (rEqA K) (tVar 6) (tC (.int 7)))) [6])))))))))
theorem marks_eq : ∀ w : Nat, w < 7 → PyData.eqv (.list [.bool (decide (w = 0)), .bool (decide (w = 1)), .bool (decide (w = 2)), .bool (decide (w = 3)), .bool (decide (w = 4)), .bool (decide (w = 5)), .bool (decide (w = 6)), .bool true]) (.list (((List.range 8).map fun k : Nat => PyData.bool (decide ((k : Int) = w) || decide ((k : Int) = 7))))) = true := by
  decide +kernel
theorem does_law {K : Frg} {C : Ec} {W : WX} {ds : List PyData} {o : Except Addr PyData} (E : E_law K C) : R_law C ds o → FnDoes K W (rd_law K C W) (entry N_law ds) o := by
  rintro ⟨ns, rfl, hl, rfl⟩
  refine .inl ?_
  show Does K W (rd_law K C W) [.fr (dScr ns), .no, .no, .no, .no, .no, .no] (.rt (.bool true))
  have hr := rowBy_row (ns := ns) (base := 10) (most := 29) (by decide)
  have hs := rowBy_sum (ns := ns) (base := 10) (most := 29) (by decide)
  refine does_seq (does_asg (evf_call (eva_cons (ev_var rfl) (eva_cons ev_int (eva_cons ev_int eva_nil))) ⟨ns, 10, 29, rfl, by decide, by decide, by decide, by decide, rfl⟩)) ?_
  show Does K W _ [.fr (dScr ns), .ow (dR (rowByM ns 10 29)), .no, .no, .no, .no, .no] _
  generalize rowByM ns 10 29 = r at hr hs
  have hz := hr.sum_len
  obtain ⟨m, h0, h1, h2⟩ : ∃ m : Int, (r = [] → m = 0) ∧ (r ≠ [] → m ∈ r ∧ ∀ y ∈ r, y ≤ m) ∧ 0 ≤ m ∧ m ≤ 29 ∧ ∀ y ∈ r, y ≤ m := by
    cases r with
    | nil => exact ⟨0, (fun _ => rfl), (fun z => absurd rfl z), by decide, by decide, (fun y m => nomatch m)⟩
    | cons y q =>
      have := hr.mem_sum y List.mem_cons_self
      have := hr.pos y List.mem_cons_self
      have hy : ∀ z ∈ y :: q, z ≤ y := fun z m => by
        rcases List.mem_cons.mp m with rfl | m
        · exact Int.le_refl _
        · exact hr.head.2 z m
      exact ⟨y, (fun z => nomatch z), fun _ => ⟨List.mem_cons_self, hy⟩, by omega, by omega, hy⟩
  obtain ⟨m0, m29, mall⟩ := h2
  have hrow : Row ((1 + m) :: r) := ⟨fun y h => by
    rcases List.mem_cons.mp h with rfl | h
    · omega
    · exact hr.pos y h, List.pairwise_cons.mpr ⟨fun y h => by have := mall y h; omega, hr.fall⟩⟩
  have hsum : ((1 + m) :: r).sum ≤ 60 := by rw [List.sum_cons]; omega
  refine does_seq (does_asg (d := dR ((1 + m) :: r)) (evf_cat (r := [1 + m]) (s := r) (Evf.r (Evf.cast (evf_lst (evaf_cons (Evr.f (ev_add ev_int (ev_maxD (m := m) (ev_var rfl) ev_int h0 h1)) True.intro) evaf_nil)) rfl)) (ev_var rfl) (by rw [List.length_singleton]; omega))) ?_
  have drw : ∀ {ρ : DE} {k m : Int}, ρ[0]? = some (some (dScr ns)) → 0 ≤ k → k < 10000 → 0 < m → Evr K (tCall (spOf K (R_law_drawn C)) [] E0 (tCons (tVar 0) (tCons (tC (.int k)) (tCons (tC (.int m)) tNil)))) ρ (.int (drawnM ns k m)) := fun {ρ k m} h a b c => ev_call (eva_cons (ev_var h) (eva_cons ev_int (eva_cons ev_int eva_nil))) ⟨ns, k, m, rfl, a, b, c, rfl⟩
  have a1 := drawnM_ge (ns := ns) (k := 100) (show 0 < (7 : Int) by decide)
  have a2 := drawnM_lt (ns := ns) (k := 100) (show 0 < (7 : Int) by decide)
  have b1 := drawnM_ge (ns := ns) (k := 101) (show 0 < (6 : Int) by decide)
  have b2 := drawnM_lt (ns := ns) (k := 101) (show 0 < (6 : Int) by decide)
  obtain ⟨w, hw⟩ : ∃ w : Nat, drawnM ns 100 7 = w := ⟨(drawnM ns 100 7).toNat, by omega⟩
  obtain ⟨n, hn⟩ : ∃ n : Nat, 1 + drawnM ns 101 6 = n := ⟨(1 + drawnM ns 101 6).toNat, by omega⟩
  refine does_seq (does_asgi (n := (w : Int)) (Evr.cast (drw rfl (by decide) (by decide) (by decide)) (by rw [hw]))) ?_
  refine does_seq (does_asgi (n := (n : Int)) (Evr.cast (ev_add ev_int (drw rfl (by decide) (by decide) (by decide))) (by rw [hn]))) ?_
  refine does_seq (does_asg (evf_lst evaf_nil)) ?_
  have hw7 : w < 7 := by omega
  obtain ⟨y, f0, f1, f2, f3, f4, f5, f6⟩ := law_facts E w hw7
  refine does_seq (does_try_exn (D := clsW C w) (ρ1 := [.fr (dScr ns), .ow (dR ((1 + m) :: r)), .fr (.int w), .fr (.int n), .ow (.list []), .no, .no])
    (ρ2 := [.fr (dScr ns), .ow (dR ((1 + m) :: r)), .fr (.int w), .fr (.int n), .ow (.list [.bool (decide (w = 0)), .bool (decide (w = 1)), .bool (decide (w = 2)), .bool (decide (w = 3)), .bool (decide (w = 4)), .bool (decide (w = 5)), .bool (decide (w = 6)), .bool true]), .no, .no])
    (fun W => does_dropx (evx_callS (R := R_law_call C) (eva_cons (ev_var rfl) (eva_cons (ev_var rfl) (eva_cons (ev_var rfl) eva_nil))) ⟨w, 1 + m, r, n, rfl, hw7, hrow, hsum, by omega, by omega, rfl⟩)) y fun a => ?_) ?_
  · exact does_no 5 (ρ1 := [.fr (dScr ns), .ow (dR ((1 + m) :: r)), .fr (.int w), .fr (.int n), .ow (.list [.bool (decide (w = 0)), .bool (decide (w = 1)), .bool (decide (w = 2)), .bool (decide (w = 3)), .bool (decide (w = 4)), .bool (decide (w = 5)), .bool (decide (w = 6)), .bool true]), .fr (dAdr a), .no])
      (does_asg (evf_call (R := R_law_marks K C a (clsW C w)) (eva_cons (ev_var rfl) eva_nil) ⟨rfl, fun i => decide (w = i), f0, f1, f2, f3, f4, f5, f6, y.v, rfl⟩))
  have hlay : Lay 1 (.list [.bool (decide (w = 0)), .bool (decide (w = 1)), .bool (decide (w = 2)), .bool (decide (w = 3)), .bool (decide (w = 4)), .bool (decide (w = 5)), .bool (decide (w = 6)), .bool true]) := lay_list (layAll_cons (lay_bool _) (layAll_cons (lay_bool _) (layAll_cons (lay_bool _) (layAll_cons (lay_bool _) (layAll_cons (lay_bool _) (layAll_cons (lay_bool _) (layAll_cons (lay_bool _) (layAll_cons (lay_bool _) layAll_nil))))))))
  have hlay2 : Lay 1 (.list ((List.range 8).map fun k : Nat => PyData.bool (decide ((k : Int) = w) || decide ((k : Int) = 7)))) := lay_list (layAll_map fun x _ => lay_bool _)
  refine does_retb (Evr.cast (ev_eqd (ev_var rfl) (Evf.r (evf_mapRR (fun k : Nat => .bool (decide ((k : Int) = w) || decide ((k : Int) = 7))) (eva_cons ev_int eva_nil) (by decide) (by decide) fun i hi => Evr.f (ev_orV (ev_eqi (ev_var rfl) (ev_var rfl)) fun _ => ev_eqi (ev_var rfl) ev_int) True.intro)) hlay hlay2) ?_)
  exact congrArg PyData.bool (marks_eq w hw7)
def topS (i : Nat) : Stmt := PySem.Challenge.pw_rodbeads_k22_refusals_apart.main.body.getD i (.Pass ⟨0, 0, 0, 0⟩)
abbrev s_beads : Stmt := topS 10
theorem sc_beads : FnScope N_beads ["row", "many"] (defScope s_beads) := ⟨rfl, rfl, rfl, by decide +kernel, rfl, by decide +kernel, by decide +kernel⟩
abbrev s_row_of : Stmt := topS 11
theorem sc_row_of : FnScope N_row_of ["places"] (defScope s_row_of) := ⟨rfl, rfl, rfl, by decide +kernel, rfl, by decide +kernel, by decide +kernel⟩
abbrev s_known : Stmt := topS 14
theorem sc_known : FnScope N_known ["rods"] (defScope s_known) := ⟨rfl, rfl, rfl, by decide +kernel, rfl, by decide +kernel, by decide +kernel⟩
abbrev s_spread : Stmt := topS 15
theorem sc_spread : FnScope N_spread ["row", "rods"] (defScope s_spread) := ⟨rfl, rfl, rfl, by decide +kernel, rfl, by decide +kernel, by decide +kernel⟩
abbrev s_gathered : Stmt := topS 16
theorem sc_gathered : FnScope N_gathered ["heights"] (defScope s_gathered) := ⟨rfl, rfl, rfl, by decide +kernel, rfl, by decide +kernel, by decide +kernel⟩
abbrev s_core : Stmt := topS 17
theorem sc_core : FnScope N_core ["row", "rods"] (defScope s_core) := ⟨rfl, rfl, rfl, by decide +kernel, rfl, by decide +kernel, by decide +kernel⟩
abbrev s_is_core : Stmt := topS 18
theorem sc_is_core : FnScope N_is_core ["row", "rods"] (defScope s_is_core) := ⟨rfl, rfl, rfl, by decide +kernel, rfl, by decide +kernel, by decide +kernel⟩
abbrev s_charges : Stmt := topS 19
theorem sc_charges : FnScope N_charges ["row", "rods"] (defScope s_charges) := ⟨rfl, rfl, rfl, by decide +kernel, rfl, by decide +kernel, by decide +kernel⟩
abbrev s_core_of : Stmt := topS 20
theorem sc_core_of : FnScope N_core_of ["numbers"] (defScope s_core_of) := ⟨rfl, rfl, rfl, by decide +kernel, rfl, by decide +kernel, by decide +kernel⟩
abbrev s_joined : Stmt := topS 21
theorem sc_joined : FnScope N_joined ["middle", "rows", "rods"] (defScope s_joined) := ⟨rfl, rfl, rfl, by decide +kernel, rfl, by decide +kernel, by decide +kernel⟩
abbrev s_is_row : Stmt := topS 23
theorem sc_is_row : FnScope N_is_row ["numbers"] (defScope s_is_row) := ⟨rfl, rfl, rfl, by decide +kernel, rfl, by decide +kernel, by decide +kernel⟩
abbrev s_number_of : Stmt := topS 27
theorem sc_number_of : FnScope N_number_of ["word"] (defScope s_number_of) := ⟨rfl, rfl, rfl, by decide +kernel, rfl, by decide +kernel, by decide +kernel⟩
abbrev s_read : Stmt := topS 28
theorem sc_read : FnScope N_read ["text"] (defScope s_read) := ⟨rfl, rfl, rfl, by decide +kernel, rfl, by decide +kernel, by decide +kernel⟩
abbrev s_law_drawn : Stmt := topS 30
theorem sc_law_drawn : FnScope N_law_drawn ["script", "k", "many"] (defScope s_law_drawn) := ⟨rfl, rfl, rfl, by decide +kernel, rfl, by decide +kernel, by decide +kernel⟩
abbrev s_law_row_by : Stmt := topS 31
theorem sc_law_row_by : FnScope N_law_row_by ["script", "base", "most"] (defScope s_law_row_by) := ⟨rfl, rfl, rfl, by decide +kernel, rfl, by decide +kernel, by decide +kernel⟩
abbrev s_law_marks : Stmt := topS 32
theorem sc_law_marks : FnScope N_law_marks ["e"] (defScope s_law_marks) := ⟨rfl, rfl, rfl, by decide +kernel, rfl, by decide +kernel, by decide +kernel⟩
abbrev s_law_call : Stmt := topS 33
theorem sc_law_call : FnScope N_law_call ["way", "row", "rods"] (defScope s_law_call) := ⟨rfl, rfl, rfl, by decide +kernel, rfl, by decide +kernel, by decide +kernel⟩
abbrev s_law : Stmt := topS 34
theorem sc_law : FnScope N_law ["script"] (defScope s_law) := ⟨rfl, rfl, rfl, by decide +kernel, rfl, by decide +kernel, by decide +kernel⟩
structure All (K : Frg) (mg : Str → Option Value) (C : Ec) where
  f_beads : Addr
  d_beads : FuncData
  D_beads : Df K mg "beads" s_beads ["row", "many"] f_beads d_beads
  f_row_of : Addr
  d_row_of : FuncData
  D_row_of : Df K mg "row_of" s_row_of ["places"] f_row_of d_row_of
  f_known : Addr
  d_known : FuncData
  D_known : Df K mg "known" s_known ["rods"] f_known d_known
  f_spread : Addr
  d_spread : FuncData
  D_spread : Df K mg "spread" s_spread ["row", "rods"] f_spread d_spread
  f_gathered : Addr
  d_gathered : FuncData
  D_gathered : Df K mg "gathered" s_gathered ["heights"] f_gathered d_gathered
  f_core : Addr
  d_core : FuncData
  D_core : Df K mg "core" s_core ["row", "rods"] f_core d_core
  f_is_core : Addr
  d_is_core : FuncData
  D_is_core : Df K mg "is_core" s_is_core ["row", "rods"] f_is_core d_is_core
  f_charges : Addr
  d_charges : FuncData
  D_charges : Df K mg "charges" s_charges ["row", "rods"] f_charges d_charges
  f_core_of : Addr
  d_core_of : FuncData
  D_core_of : Df K mg "core_of" s_core_of ["numbers"] f_core_of d_core_of
  f_joined : Addr
  d_joined : FuncData
  D_joined : Df K mg "joined" s_joined ["middle", "rows", "rods"] f_joined d_joined
  f_is_row : Addr
  d_is_row : FuncData
  D_is_row : Df K mg "is_row" s_is_row ["numbers"] f_is_row d_is_row
  f_number_of : Addr
  d_number_of : FuncData
  D_number_of : Df K mg "number_of" s_number_of ["word"] f_number_of d_number_of
  f_read : Addr
  d_read : FuncData
  D_read : Df K mg "read" s_read ["text"] f_read d_read
  f_law_drawn : Addr
  d_law_drawn : FuncData
  D_law_drawn : Df K mg "_law_drawn" s_law_drawn ["script", "k", "many"] f_law_drawn d_law_drawn
  f_law_row_by : Addr
  d_law_row_by : FuncData
  D_law_row_by : Df K mg "_law_row_by" s_law_row_by ["script", "base", "most"] f_law_row_by d_law_row_by
  f_law_marks : Addr
  d_law_marks : FuncData
  D_law_marks : Df K mg "_law_marks" s_law_marks ["e"] f_law_marks d_law_marks
  f_law_call : Addr
  d_law_call : FuncData
  D_law_call : Df K mg "_law_call" s_law_call ["way", "row", "rods"] f_law_call d_law_call
  f_law : Addr
  d_law : FuncData
  D_law : Df K mg "law" s_law ["script"] f_law d_law
  m_ValueError : mg "ValueError" = none
  m_int : mg "int" = none
  m_isinstance : mg "isinstance" = none
  m_len : mg "len" = none
  m_list : mg "list" = none
  m_max : mg "max" = none
  m_min : mg "min" = none
  m_range : mg "range" = none
  m_sorted : mg "sorted" = none
  m_str : mg "str" = none
  m_sum : mg "sum" = none
  t_MOST_RODS : Tok
  c_MOST_RODS : mg "MOST_RODS" = some (.int 8 t_MOST_RODS)
  t_FIGURES : Tok
  c_FIGURES : mg "FIGURES" = some (.str "0123456789" t_FIGURES)
  t_MOST_SIZE : Tok
  c_MOST_SIZE : mg "MOST_SIZE" = some (.int 60 t_MOST_SIZE)
  x_BeadError : Xc K mg "BeadError" C.BeadError
  x_TooFew : Xc K mg "TooFew" C.TooFew
  x_NoBeads : Xc K mg "NoBeads" C.NoBeads
  x_NoRods : Xc K mg "NoRods" C.NoRods
  x_NoCore : Xc K mg "NoCore" C.NoCore
  x_NoQuotient : Xc K mg "NoQuotient" C.NoQuotient
  x_NoCharges : Xc K mg "NoCharges" C.NoCharges
  x_NoNote : Xc K mg "NoNote" C.NoNote
  y_TooFew_BeadError : Xr K C.BeadError C.TooFew
  y_NoBeads_BeadError : Xr K C.BeadError C.NoBeads
  y_NoRods_BeadError : Xr K C.BeadError C.NoRods
  y_NoCore_BeadError : Xr K C.BeadError C.NoCore
  y_NoQuotient_BeadError : Xr K C.BeadError C.NoQuotient
  y_NoCharges_BeadError : Xr K C.BeadError C.NoCharges
  y_NoNote_BeadError : Xr K C.BeadError C.NoNote
  q_TooFew_NoBeads : Kf K C.TooFew C.NoBeads false
  q_TooFew_NoRods : Kf K C.TooFew C.NoRods false
  q_TooFew_NoCore : Kf K C.TooFew C.NoCore false
  q_TooFew_NoQuotient : Kf K C.TooFew C.NoQuotient false
  q_TooFew_NoCharges : Kf K C.TooFew C.NoCharges false
  q_TooFew_NoNote : Kf K C.TooFew C.NoNote false
  q_NoBeads_TooFew : Kf K C.NoBeads C.TooFew false
  q_NoBeads_NoRods : Kf K C.NoBeads C.NoRods false
  q_NoBeads_NoCore : Kf K C.NoBeads C.NoCore false
  q_NoBeads_NoQuotient : Kf K C.NoBeads C.NoQuotient false
  q_NoBeads_NoCharges : Kf K C.NoBeads C.NoCharges false
  q_NoBeads_NoNote : Kf K C.NoBeads C.NoNote false
  q_NoRods_TooFew : Kf K C.NoRods C.TooFew false
  q_NoRods_NoBeads : Kf K C.NoRods C.NoBeads false
  q_NoRods_NoCore : Kf K C.NoRods C.NoCore false
  q_NoRods_NoQuotient : Kf K C.NoRods C.NoQuotient false
  q_NoRods_NoCharges : Kf K C.NoRods C.NoCharges false
  q_NoRods_NoNote : Kf K C.NoRods C.NoNote false
  q_NoCore_TooFew : Kf K C.NoCore C.TooFew false
  q_NoCore_NoBeads : Kf K C.NoCore C.NoBeads false
  q_NoCore_NoRods : Kf K C.NoCore C.NoRods false
  q_NoCore_NoQuotient : Kf K C.NoCore C.NoQuotient false
  q_NoCore_NoCharges : Kf K C.NoCore C.NoCharges false
  q_NoCore_NoNote : Kf K C.NoCore C.NoNote false
  q_NoQuotient_TooFew : Kf K C.NoQuotient C.TooFew false
  q_NoQuotient_NoBeads : Kf K C.NoQuotient C.NoBeads false
  q_NoQuotient_NoRods : Kf K C.NoQuotient C.NoRods false
  q_NoQuotient_NoCore : Kf K C.NoQuotient C.NoCore false
  q_NoQuotient_NoCharges : Kf K C.NoQuotient C.NoCharges false
  q_NoQuotient_NoNote : Kf K C.NoQuotient C.NoNote false
  q_NoCharges_TooFew : Kf K C.NoCharges C.TooFew false
  q_NoCharges_NoBeads : Kf K C.NoCharges C.NoBeads false
  q_NoCharges_NoRods : Kf K C.NoCharges C.NoRods false
  q_NoCharges_NoCore : Kf K C.NoCharges C.NoCore false
  q_NoCharges_NoQuotient : Kf K C.NoCharges C.NoQuotient false
  q_NoCharges_NoNote : Kf K C.NoCharges C.NoNote false
  q_NoNote_TooFew : Kf K C.NoNote C.TooFew false
  q_NoNote_NoBeads : Kf K C.NoNote C.NoBeads false
  q_NoNote_NoRods : Kf K C.NoNote C.NoRods false
  q_NoNote_NoCore : Kf K C.NoNote C.NoCore false
  q_NoNote_NoQuotient : Kf K C.NoNote C.NoQuotient false
  q_NoNote_NoCharges : Kf K C.NoNote C.NoCharges false
section
variable {P : Program} {w : World} {K : Frg} {mg : Str → Option Value} {base : Heap} {C : Ec}
theorem ok_beads (G : All K mg C)  : FnOk P w K mg base (L2.CX P w) 1 G.f_beads G.d_beads ["row", "many"] (spOf K (R_beads C)) :=
  fn_pur (k := 0) G.D_beads.F sc_beads len_beads fun cdv A outer s H E hr ds o h => ⟨rd_beads K C (fun cls d _ H => E cls d H), (pss_cons (ps_if (pt_cmpR (op_ltI) (pv 1) (pe_callB cr_len (by rfl) G.m_len (by decide +kernel) (pa_cons (pv 0) pa_nil)) (nomark _))
  (pss_one (ps_raise rfl (takes_of rfl rfl rfl rfl) (pmk_own PySem.F.excBase_ValueError G.x_TooFew.x G.x_TooFew.g G.x_TooFew.k (raises_own G.x_TooFew.b G.x_TooFew.t) (by exact rfl)))) pss_nil)
  (pss_cons (ps_set (i := 2) sc_beads.nd rfl (by first | exact Or.inl rfl | exact Or.inr rfl) (pe_op op_addA (pv 0) (pe_op op_mulA (pe_lst (pa_cons pe_int pa_nil)) (pe_op op_subI (pv 1) (pe_callB cr_len (by rfl) G.m_len (by decide +kernel) (pa_cons (pv 0) pa_nil))))))
  (pss_one (ps_ret (pe_lc (own := [("k", 3)]) (g := gName 3) (tt := tYes) rfl sc_beads.nd (pi_range1 rfl G.m_range (pa_cons (pv 1) pa_nil)) (blkOk_by (N := N_beads) (sc := (defScope s_beads)) (by decide +kernel)) (fun _ _ _ _ _ => pg_name (i := 3) sc_beads.nd rfl (by first | exact Or.inl rfl | exact Or.inr rfl)) (fun _ _ _ _ _ => pts_nil) (fun _ _ _ _ _ => (pe_op op_addA (pe_ix ix_seq (pv 2) (pe_op op_subI (pe_op op_subI (pv 1) pe_int) (pv 3)) (fun _ _ => rfl)) (pv 3)))))))), does_beads h⟩
theorem ok_row_of (G : All K mg C)  : FnOk P w K mg base (L2.CX P w) 1 G.f_row_of G.d_row_of ["places"] (spOf K (R_row_of C)) :=
  fn_pur (k := 0) G.D_row_of.F sc_row_of len_row_of fun cdv A outer s H E hr ds o h => ⟨rd_row_of K C (fun cls d _ H => E cls d H), (pss_cons (ps_for (passes_of rfl) rfl (pi_range1 rfl G.m_range (pa_cons (pe_callB cr_len (by rfl) G.m_len (by decide +kernel) (pa_cons (pv 0) pa_nil)) pa_nil)) (pg_name (i := 1) sc_row_of.nd rfl (by first | exact Or.inl rfl | exact Or.inr rfl))
  (pss_one (ps_if (PW.pt (pw_or (pt_cmpR (op_ltI) (pe_ix ix_seq (pv 0) (pv 1) (fun _ _ => rfl)) pe_int (nomark _)) (pw_or1 (PW.pt (pw_and (pt_cmpR (op_gtI) (pv 1) pe_int (nomark _)) (pw_and1 (pt_cmpR (op_geI) (pe_ix ix_seq (pv 0) (pe_op op_subI (pv 1) pe_int) (fun _ _ => rfl)) (pe_ix ix_seq (pv 0) (pv 1) (fun _ _ => rfl)) (nomark _))))))))
  (pss_one (ps_raise rfl (takes_of rfl rfl rfl rfl) (pmk_own PySem.F.excBase_ValueError G.x_NoBeads.x G.x_NoBeads.g G.x_NoBeads.k (raises_own G.x_NoBeads.b G.x_NoBeads.t) (by exact rfl)))) pss_nil)))
  (pss_cons (ps_setLc (i := 2) (own := [("k", 1)]) (g := gName 1) (tt := tYes) rfl sc_row_of.nd rfl rfl (sw_true rfl rfl rfl (by decide +kernel)) (pi_range1 rfl G.m_range (pa_cons (pe_callB cr_len (by rfl) G.m_len (by decide +kernel) (pa_cons (pv 0) pa_nil)) pa_nil)) (blkOk_by (N := N_row_of) (sc := (defScope s_row_of)) (by decide +kernel)) (fun _ _ _ _ _ => pg_name (i := 1) sc_row_of.nd rfl (by first | exact Or.inl rfl | exact Or.inr rfl)) (fun _ _ _ _ _ => pts_nil) (fun _ _ _ _ _ => (pe_op op_subI (pe_ix ix_seq (pv 0) (pv 1) (fun _ _ => rfl)) (pv 1))))
  (pss_cons (ps_expr (pe_bm0 PySem.F.plainAttrs_list PySem.F.slot_list_reverse PySem.F.type_list_reverse mt_reverse (pv 2)))
  (pss_one (ps_ret (pe_lc (own := [("number", 3)]) (g := gName 3) (tt := (tTest (tOp rGtI (tVar 3) (tC (.int 0))))) rfl sc_row_of.nd (pi_list (pv 2)) (blkOk_by (N := N_row_of) (sc := (defScope s_row_of)) (by decide +kernel)) (fun _ _ _ _ _ => pg_name (i := 3) sc_row_of.nd rfl (by first | exact Or.inl rfl | exact Or.inr rfl)) (fun _ _ _ _ _ => (pts_one (pt_cmpR (op_gtI) (pv 3) pe_int (nomark _)))) (fun _ _ _ _ _ => (pv 3)))))))), does_row_of h⟩
theorem ok_known (G : All K mg C)  : FnOk P w K mg base (L2.CX P w) 1 G.f_known G.d_known ["rods"] (spOf K (R_known C)) :=
  fn_pur (k := 0) G.D_known.F sc_known len_known fun cdv A outer s H E hr ds o h => ⟨rd_known K C (fun cls d _ H => E cls d H), (pss_one (ps_if (PW.pt (pw_or (pt_cmpR (op_ltI) (pv 0) pe_int (nomark _)) (pw_or1 (pt_cmpR (op_gtI) (pv 0) (pe_glob rfl G.c_MOST_RODS ⟨_, rfl⟩) (nomark _)))))
  (pss_one (ps_raise rfl (takes_of rfl rfl rfl rfl) (pmk_own PySem.F.excBase_ValueError G.x_NoRods.x G.x_NoRods.g G.x_NoRods.k (raises_own G.x_NoRods.b G.x_NoRods.t) (by exact rfl)))) pss_nil)), does_known h⟩
theorem ok_spread (G : All K mg C) (h_known : FnOk P w K mg base (L2.CX P w) 1 G.f_known G.d_known ["rods"] (spOf K (R_known C))) (h_beads : FnOk P w K mg base (L2.CX P w) 1 G.f_beads G.d_beads ["row", "many"] (spOf K (R_beads C))) : FnOk P w K mg base (L2.CX P w) 2 G.f_spread G.d_spread ["row", "rods"] (spOf K (R_spread C)) :=
  fn_pur (k := 1) G.D_spread.F sc_spread len_spread fun cdv A outer s H E hr ds o h => ⟨rd_spread K C (fun cls d _ H => E cls d H), (pss_cons (ps_expr (pe_callS h_known (hr.mono (by decide)) (by rfl) G.D_known.g G.D_known.F.kp G.D_known.b (fun σ => passAt (takes_of rfl rfl rfl rfl) σ) (pa_cons (pv 1) pa_nil)))
  (pss_cons (ps_set (i := 2) sc_spread.nd rfl (by first | exact Or.inl rfl | exact Or.inr rfl) (pe_op op_mulA (pe_op op_divI (pe_op op_subI (pe_op op_addA (pe_callB cr_len (by rfl) G.m_len (by decide +kernel) (pa_cons (pv 0) pa_nil)) (pv 1)) pe_int) (pv 1)) (pv 1)))
  (pss_cons (ps_set (i := 3) sc_spread.nd rfl (by first | exact Or.inl rfl | exact Or.inr rfl) (pe_callS h_beads (hr.mono (by decide)) (by rfl) G.D_beads.g G.D_beads.F.kp G.D_beads.b (fun σ => passAt (takes_of rfl rfl rfl rfl) σ) (pa_cons (pv 0) (pa_cons (pv 2) pa_nil))))
  (pss_one (ps_ret (pe_lc (own := [("k", 4)]) (g := gName 4) (tt := tYes) rfl sc_spread.nd (pi_range1 rfl G.m_range (pa_cons (pv 1) pa_nil)) (blkOk_by (N := N_spread) (sc := (defScope s_spread)) (by decide +kernel)) (fun _ _ _ _ _ => pg_name (i := 4) sc_spread.nd rfl (by first | exact Or.inl rfl | exact Or.inr rfl)) (fun _ _ _ _ _ => pts_nil) (fun _ _ _ _ _ => (pe_lc (own := [("place", 5)]) (g := gName 5) (tt := (tTest (tOp (rEqA K) (tOp rModI (tVar 5) (tVar 1)) (tVar 4)))) rfl sc_spread.nd (pi_list (pv 3)) (blkOk_by (by first | decide +kernel | rfl)) (fun _ _ _ _ _ => pg_name (i := 5) sc_spread.nd rfl (by first | exact Or.inl rfl | exact Or.inr rfl)) (fun _ _ _ _ _ => (pts_one (pt_cmpR (op_eqA hr.units) (pe_op op_modI (pv 5) (pv 1)) (pv 4) (nomark _)))) (fun _ _ _ _ _ => (pe_op op_divI (pv 5) (pv 1))))))))))), does_spread h⟩
theorem ok_gathered (G : All K mg C) (h_row_of : FnOk P w K mg base (L2.CX P w) 1 G.f_row_of G.d_row_of ["places"] (spOf K (R_row_of C))) : FnOk P w K mg base (L2.CX P w) 2 G.f_gathered G.d_gathered ["heights"] (spOf K (R_gathered C)) :=
  fn_pur (k := 1) G.D_gathered.F sc_gathered len_gathered fun cdv A outer s H E hr ds o h => ⟨rd_gathered K C (fun cls d _ H => E cls d H), (pss_cons (ps_set (i := 1) sc_gathered.nd rfl (by first | exact Or.inl rfl | exact Or.inr rfl) (pe_callB cr_len (by rfl) G.m_len (by decide +kernel) (pa_cons (pv 0) pa_nil)))
  (pss_cons (ps_set (i := 2) sc_gathered.nd rfl (by first | exact Or.inl rfl | exact Or.inr rfl) (pe_lst pa_nil))
  (pss_cons (ps_for (passes_of rfl) rfl (pi_range1 rfl G.m_range (pa_cons (pv 1) pa_nil)) (pg_name (i := 3) sc_gathered.nd rfl (by first | exact Or.inl rfl | exact Or.inr rfl))
  (pss_one (ps_expr (pe_bm PySem.F.plainAttrs_list PySem.F.slot_list_extend PySem.F.type_list_extend mt_extend (pv 2) (pa_cons (pe_lc (own := [("height", 4)]) (g := gName 4) (tt := tYes) rfl sc_gathered.nd (pi_list (pe_ix ix_seq (pv 0) (pv 3) (fun _ _ => rfl))) (blkOk_by (N := N_gathered) (sc := (defScope s_gathered)) (by decide +kernel)) (fun _ _ _ _ _ => pg_name (i := 4) sc_gathered.nd rfl (by first | exact Or.inl rfl | exact Or.inr rfl)) (fun _ _ _ _ _ => pts_nil) (fun _ _ _ _ _ => (pe_op op_addA (pe_op op_mulA (pv 4) (pv 1)) (pv 3)))) pa_nil)))))
  (pss_one (ps_ret (pe_call h_row_of (hr.mono (by decide)) (by rfl) G.D_row_of.g G.D_row_of.F.kp G.D_row_of.b .nil passL (pa_cons (pe_callB cr_sortedI (by rfl) G.m_sorted (by decide +kernel) (pa_cons (pv 2) pa_nil)) pa_nil))))))), does_gathered h⟩
theorem ok_core (G : All K mg C) (h_gathered : FnOk P w K mg base (L2.CX P w) 2 G.f_gathered G.d_gathered ["heights"] (spOf K (R_gathered C))) (h_spread : FnOk P w K mg base (L2.CX P w) 2 G.f_spread G.d_spread ["row", "rods"] (spOf K (R_spread C))) : FnOk P w K mg base (L2.CX P w) 3 G.f_core G.d_core ["row", "rods"] (spOf K (R_core C)) :=
  fn_pur (k := 2) G.D_core.F sc_core len_core fun cdv A outer s H E hr ds o h => ⟨rd_core K C (fun cls d _ H => E cls d H), (pss_one (ps_ret (pe_call h_gathered (hr.mono (by decide)) (by rfl) G.D_gathered.g G.D_gathered.F.kp G.D_gathered.b .nil passL (pa_cons (pe_lc (own := [("heights", 2)]) (g := gName 2) (tt := tYes) rfl sc_core.nd (pi_list (pe_callS h_spread (hr.mono (by decide)) (by rfl) G.D_spread.g G.D_spread.F.kp G.D_spread.b (fun σ => passAt (takes_of rfl rfl rfl rfl) σ) (pa_cons (pv 0) (pa_cons (pv 1) pa_nil)))) (blkOk_by (N := N_core) (sc := (defScope s_core)) (by decide +kernel)) (fun _ _ _ _ _ => pg_name (i := 2) sc_core.nd rfl (by first | exact Or.inl rfl | exact Or.inr rfl)) (fun _ _ _ _ _ => pts_nil) (fun _ _ _ _ _ => (pe_listRg rfl (by rfl) G.m_list (prg_1 (by rfl) G.m_range (pe_callB cr_len (by rfl) G.m_len (by decide +kernel) (pa_cons (pv 2) pa_nil)))))) pa_nil)))), does_core h⟩
theorem ok_is_core (G : All K mg C) (h_core : FnOk P w K mg base (L2.CX P w) 3 G.f_core G.d_core ["row", "rods"] (spOf K (R_core C))) : FnOk P w K mg base (L2.CX P w) 4 G.f_is_core G.d_is_core ["row", "rods"] (spOf K (R_is_core C)) :=
  fn_pur (k := 3) G.D_is_core.F sc_is_core len_is_core fun cdv A outer s H E hr ds o h => ⟨rd_is_core K C (fun cls d _ H => E cls d H), (pss_one (ps_ret (pe_cmpR (op_eqA hr.units) (pe_callS h_core (hr.mono (by decide)) (by rfl) G.D_core.g G.D_core.F.kp G.D_core.b (fun σ => passAt (takes_of rfl rfl rfl rfl) σ) (pa_cons (pv 0) (pa_cons (pv 1) pa_nil))) (pv 0) (nomark _)))), does_is_core h⟩
theorem ok_charges (G : All K mg C) (h_spread : FnOk P w K mg base (L2.CX P w) 2 G.f_spread G.d_spread ["row", "rods"] (spOf K (R_spread C))) : FnOk P w K mg base (L2.CX P w) 3 G.f_charges G.d_charges ["row", "rods"] (spOf K (R_charges C)) :=
  fn_pur (k := 2) G.D_charges.F sc_charges len_charges fun cdv A outer s H E hr ds o h => ⟨rd_charges K C (fun cls d _ H => E cls d H), (pss_cons (ps_set (i := 2) sc_charges.nd rfl (by first | exact Or.inl rfl | exact Or.inr rfl) (pe_callS h_spread (hr.mono (by decide)) (by rfl) G.D_spread.g G.D_spread.F.kp G.D_spread.b (fun σ => passAt (takes_of rfl rfl rfl rfl) σ) (pa_cons (pv 0) (pa_cons (pv 1) pa_nil))))
  (pss_cons (ps_set (i := 3) sc_charges.nd rfl (by first | exact Or.inl rfl | exact Or.inr rfl) (pe_callB (cr_sum rfl) (by rfl) G.m_sum (by decide +kernel) (pa_cons (pe_lc (own := [("one", 4)]) (g := gName 4) (tt := tYes) rfl sc_charges.nd (pi_list (pv 2)) (blkOk_by (N := N_charges) (sc := (defScope s_charges)) (by decide +kernel)) (fun _ _ _ _ _ => pg_name (i := 4) sc_charges.nd rfl (by first | exact Or.inl rfl | exact Or.inr rfl)) (fun _ _ _ _ _ => pts_nil) (fun _ _ _ _ _ => (pe_callB cr_len (by rfl) G.m_len (by decide +kernel) (pa_cons (pv 4) pa_nil)))) pa_nil)))
  (pss_one (ps_ret (pe_lc (own := [("one", 4)]) (g := gName 4) (tt := tYes) rfl sc_charges.nd (pi_list (pv 2)) (blkOk_by (N := N_charges) (sc := (defScope s_charges)) (by decide +kernel)) (fun _ _ _ _ _ => pg_name (i := 4) sc_charges.nd rfl (by first | exact Or.inl rfl | exact Or.inr rfl)) (fun _ _ _ _ _ => pts_nil) (fun _ _ _ _ _ => (pe_op op_subI (pe_callB cr_len (by rfl) G.m_len (by decide +kernel) (pa_cons (pv 4) pa_nil)) (pe_op op_divI (pv 3) (pv 1))))))))), does_charges h⟩
theorem ok_core_of (G : All K mg C) (h_known : FnOk P w K mg base (L2.CX P w) 1 G.f_known G.d_known ["rods"] (spOf K (R_known C))) (h_gathered : FnOk P w K mg base (L2.CX P w) 2 G.f_gathered G.d_gathered ["heights"] (spOf K (R_gathered C))) : FnOk P w K mg base (L2.CX P w) 3 G.f_core_of G.d_core_of ["numbers"] (spOf K (R_core_of C)) :=
  fn_pur (k := 2) G.D_core_of.F sc_core_of len_core_of fun cdv A outer s H E hr ds o h => ⟨rd_core_of K C (fun cls d _ H => E cls d H), (pss_cons (ps_expr (pe_callS h_known (hr.mono (by decide)) (by rfl) G.D_known.g G.D_known.F.kp G.D_known.b (fun σ => passAt (takes_of rfl rfl rfl rfl) σ) (pa_cons (pe_callB cr_len (by rfl) G.m_len (by decide +kernel) (pa_cons (pv 0) pa_nil)) pa_nil)))
  (pss_cons (ps_if (pt_cmpR (op_neA hr.units) (pe_callB (cr_sum rfl) (by rfl) G.m_sum (by decide +kernel) (pa_cons (pv 0) pa_nil)) pe_int (nomark _))
  (pss_one (ps_raise rfl (takes_of rfl rfl rfl rfl) (pmk_own PySem.F.excBase_ValueError G.x_NoCharges.x G.x_NoCharges.g G.x_NoCharges.k (raises_own G.x_NoCharges.b G.x_NoCharges.t) (by exact rfl)))) pss_nil)
  (pss_cons (ps_set (i := 1) sc_core_of.nd rfl (by first | exact Or.inl rfl | exact Or.inr rfl) (pe_callB (cr_min rfl) (by rfl) G.m_min (by decide +kernel) (pa_cons (pv 0) pa_nil)))
  (pss_one (ps_ret (pe_call h_gathered (hr.mono (by decide)) (by rfl) G.D_gathered.g G.D_gathered.F.kp G.D_gathered.b .nil passL (pa_cons (pe_lc (own := [("number", 2)]) (g := gName 2) (tt := tYes) rfl sc_core_of.nd (pi_list (pv 0)) (blkOk_by (N := N_core_of) (sc := (defScope s_core_of)) (by decide +kernel)) (fun _ _ _ _ _ => pg_name (i := 2) sc_core_of.nd rfl (by first | exact Or.inl rfl | exact Or.inr rfl)) (fun _ _ _ _ _ => pts_nil) (fun _ _ _ _ _ => (pe_listRg rfl (by rfl) G.m_list (prg_1 (by rfl) G.m_range (pe_op op_subI (pv 2) (pv 1)))))) pa_nil))))))), does_core_of h⟩
theorem ok_joined (G : All K mg C) (h_known : FnOk P w K mg base (L2.CX P w) 1 G.f_known G.d_known ["rods"] (spOf K (R_known C))) (h_charges : FnOk P w K mg base (L2.CX P w) 3 G.f_charges G.d_charges ["row", "rods"] (spOf K (R_charges C))) (h_gathered : FnOk P w K mg base (L2.CX P w) 2 G.f_gathered G.d_gathered ["heights"] (spOf K (R_gathered C))) (h_is_core : FnOk P w K mg base (L2.CX P w) 4 G.f_is_core G.d_is_core ["row", "rods"] (spOf K (R_is_core C))) (h_beads : FnOk P w K mg base (L2.CX P w) 1 G.f_beads G.d_beads ["row", "many"] (spOf K (R_beads C))) : FnOk P w K mg base (L2.CX P w) 5 G.f_joined G.d_joined ["middle", "rows", "rods"] (spOf K (R_joined C)) :=
  fn_pur (k := 4) G.D_joined.F sc_joined len_joined fun cdv A outer s H E hr ds o h => ⟨rd_joined K C (fun cls d _ H => E cls d H), (pss_cons (ps_expr (pe_callS h_known (hr.mono (by decide)) (by rfl) G.D_known.g G.D_known.F.kp G.D_known.b (fun σ => passAt (takes_of rfl rfl rfl rfl) σ) (pa_cons (pv 2) pa_nil)))
  (pss_cons (ps_if (pt_not (pt_val (pe_callS h_is_core (hr.mono (by decide)) (by rfl) G.D_is_core.g G.D_is_core.F.kp G.D_is_core.b (fun σ => passAt (takes_of rfl rfl rfl rfl) σ) (pa_cons (pv 0) (pa_cons (pv 2) pa_nil)))))
  (pss_one (ps_raise rfl (takes_of rfl rfl rfl rfl) (pmk_own PySem.F.excBase_ValueError G.x_NoCore.x G.x_NoCore.g G.x_NoCore.k (raises_own G.x_NoCore.b G.x_NoCore.t) (by exact rfl)))) pss_nil)
  (pss_cons (ps_if (pt_cmpR (op_neA hr.units) (pe_callB cr_len (by rfl) G.m_len (by decide +kernel) (pa_cons (pv 1) pa_nil)) (pv 2) (nomark _))
  (pss_one (ps_raise rfl (takes_of rfl rfl rfl rfl) (pmk_own PySem.F.excBase_ValueError G.x_NoQuotient.x G.x_NoQuotient.g G.x_NoQuotient.k (raises_own G.x_NoQuotient.b G.x_NoQuotient.t) (by exact rfl)))) pss_nil)
  (pss_cons (ps_set (i := 3) sc_joined.nd rfl (by first | exact Or.inl rfl | exact Or.inr rfl) (pe_callS h_charges (hr.mono (by decide)) (by rfl) G.D_charges.g G.D_charges.F.kp G.D_charges.b (fun σ => passAt (takes_of rfl rfl rfl rfl) σ) (pa_cons (pv 0) (pa_cons (pv 2) pa_nil))))
  (pss_cons (ps_set (i := 4) sc_joined.nd rfl (by first | exact Or.inl rfl | exact Or.inr rfl) (pe_callB (cr_max rfl) (by rfl) G.m_max (by decide +kernel) (pa_cons (pe_lc (own := [("row", 6)]) (g := gName 6) (tt := tYes) rfl sc_joined.nd (pi_list (pv 1)) (blkOk_by (N := N_joined) (sc := (defScope s_joined)) (by decide +kernel)) (fun _ _ _ _ _ => pg_name (i := 6) sc_joined.nd rfl (by first | exact Or.inl rfl | exact Or.inr rfl)) (fun _ _ _ _ _ => pts_nil) (fun _ _ _ _ _ => (pe_callB cr_len (by rfl) G.m_len (by decide +kernel) (pa_cons (pv 6) pa_nil)))) pa_nil)))
  (pss_cons (ps_set (i := 5) sc_joined.nd rfl (by first | exact Or.inl rfl | exact Or.inr rfl) (pe_callB (cr_min rfl) (by rfl) G.m_min (by decide +kernel) (pa_cons (pv 3) pa_nil)))
  (pss_one (ps_ret (pe_call h_gathered (hr.mono (by decide)) (by rfl) G.D_gathered.g G.D_gathered.F.kp G.D_gathered.b .nil passL (pa_cons (pe_lc (own := [("k", 7)]) (g := gName 7) (tt := tYes) rfl sc_joined.nd (pi_range1 rfl G.m_range (pa_cons (pv 2) pa_nil)) (blkOk_by (N := N_joined) (sc := (defScope s_joined)) (by decide +kernel)) (fun _ _ _ _ _ => pg_name (i := 7) sc_joined.nd rfl (by first | exact Or.inl rfl | exact Or.inr rfl)) (fun _ _ _ _ _ => pts_nil) (fun _ _ _ _ _ => (pe_call h_beads (hr.mono (by decide)) (by rfl) G.D_beads.g G.D_beads.F.kp G.D_beads.b .nil passL (pa_cons (pe_ix ix_seq (pv 1) (pv 7) (fun _ _ => rfl)) (pa_cons (pe_op op_addA (pe_op op_subI (pe_ix ix_seq (pv 3) (pv 7) (fun _ _ => rfl)) (pv 5)) (pv 4)) pa_nil))))) pa_nil)))))))))), does_joined h⟩
theorem ok_is_row (G : All K mg C)  : FnOk P w K mg base (L2.CX P w) 1 G.f_is_row G.d_is_row ["numbers"] (spOf K (R_is_row C)) :=
  fn_pur (k := 0) G.D_is_row.F sc_is_row len_is_row fun cdv A outer s H E hr ds o h => ⟨rd_is_row K C (fun cls d _ H => E cls d H), (pss_cons (ps_for (passes_of rfl) rfl (pi_range1 rfl G.m_range (pa_cons (pe_callB cr_len (by rfl) G.m_len (by decide +kernel) (pa_cons (pv 0) pa_nil)) pa_nil)) (pg_name (i := 1) sc_is_row.nd rfl (by first | exact Or.inl rfl | exact Or.inr rfl))
  (pss_one (ps_if (PW.pt (pw_or (pt_cmpR (op_ltI) (pe_ix ix_seq (pv 0) (pv 1) (fun _ _ => rfl)) pe_int (nomark _)) (pw_or1 (PW.pt (pw_and (pt_cmpR (op_gtI) (pv 1) pe_int (nomark _)) (pw_and1 (pt_cmpR (op_ltI) (pe_ix ix_seq (pv 0) (pe_op op_subI (pv 1) pe_int) (fun _ _ => rfl)) (pe_ix ix_seq (pv 0) (pv 1) (fun _ _ => rfl)) (nomark _))))))))
  (pss_one (ps_ret pe_bl)) pss_nil)))
  (pss_one (ps_ret pe_bl))), does_is_row h⟩
theorem ok_number_of (G : All K mg C)  : FnOk P w K mg base (L2.CX P w) 1 G.f_number_of G.d_number_of ["word"] (spOf K (R_number_of C)) :=
  fn_pur (k := 0) G.D_number_of.F sc_number_of len_number_of fun cdv A outer s H E hr ds o h => ⟨rd_number_of K C (fun cls d _ H => E cls d H), (pss_cons (ps_if (PW.pt (pw_or (pt_cmpR (op_eqA hr.units) (pv 0) pe_str (nomark _)) (pw_or (pt_cmpR (op_gtI) (pe_callB cr_len (by rfl) G.m_len (by decide +kernel) (pa_cons (pv 0) pa_nil)) pe_int (nomark _)) (pw_or1 (pt_cmpR (op_eqA hr.units) (pe_ix ix_seq (pv 0) pe_int (fun _ _ => rfl)) pe_str (nomark _))))))
  (pss_one (ps_raise rfl (takes_of rfl rfl rfl rfl) (pmk_own PySem.F.excBase_ValueError G.x_NoNote.x G.x_NoNote.g G.x_NoNote.k (raises_own G.x_NoNote.b G.x_NoNote.t) (by exact rfl)))) pss_nil)
  (pss_cons (ps_for (passes_of rfl) rfl (pi_str (pv 0)) (pg_name (i := 1) sc_number_of.nd rfl (by first | exact Or.inl rfl | exact Or.inr rfl))
  (pss_one (ps_if (pt_cmpR (op_niA) (pv 1) (pe_glob rfl G.c_FIGURES ⟨_, rfl⟩) (by rfl))
  (pss_one (ps_raise rfl (takes_of rfl rfl rfl rfl) (pmk_own PySem.F.excBase_ValueError G.x_NoNote.x G.x_NoNote.g G.x_NoNote.k (raises_own G.x_NoNote.b G.x_NoNote.t) (by exact rfl)))) pss_nil)))
  (pss_one (ps_ret (pe_callTy cr_intS (by rfl) G.m_int (by decide +kernel) (pa_cons (pv 0) pa_nil)))))), does_number_of h⟩
theorem ok_read (G : All K mg C) (h_number_of : FnOk P w K mg base (L2.CX P w) 1 G.f_number_of G.d_number_of ["word"] (spOf K (R_number_of C))) (h_is_row : FnOk P w K mg base (L2.CX P w) 1 G.f_is_row G.d_is_row ["numbers"] (spOf K (R_is_row C))) : FnOk P w K mg base (L2.CX P w) 2 G.f_read G.d_read ["text"] (spOf K (R_read C)) :=
  fn_pur (k := 1) G.D_read.F sc_read len_read fun cdv A outer s H E hr ds o h => ⟨rd_read K C (fun cls d _ H => E cls d H), (pss_cons (ps_if (pt_cmpR (op_eqA hr.units) (pv 0) pe_str (nomark _))
  (pss_one (ps_ret (pe_lst pa_nil))) pss_nil)
  (pss_cons (ps_setLcX (i := 1) (own := [("word", 2)]) (g := gName 2) (tt := tYes) (takes_of rfl rfl rfl rfl) rfl rfl rfl sc_read.nd rfl rfl (sw_true rfl rfl rfl (by decide +kernel)) (pi_list (pe_split (pv 0) pe_str)) (blkOk_by (N := N_read) (sc := (defScope s_read)) (by decide +kernel)) (fun _ _ _ _ _ => pg_name (i := 2) sc_read.nd rfl (by first | exact Or.inl rfl | exact Or.inr rfl)) (fun _ _ _ _ _ => pts_nil) (fun σ0 _ _ _ _ _ ps => pe_callS h_number_of (hr.mono (by decide)) (by rfl) G.D_number_of.g G.D_number_of.F.kp G.D_number_of.b ps (pa_cons (pv 2) pa_nil)))
  (pss_cons (ps_if (PW.pt (pw_or (pt_not (pt_val (pe_call h_is_row (hr.mono (by decide)) (by rfl) G.D_is_row.g G.D_is_row.F.kp G.D_is_row.b .nil passL (pa_cons (pv 1) pa_nil)))) (pw_or1 (pt_cmpR (op_gtI) (pe_callB (cr_sum rfl) (by rfl) G.m_sum (by decide +kernel) (pa_cons (pv 1) pa_nil)) (pe_glob rfl G.c_MOST_SIZE ⟨_, rfl⟩) (nomark _)))))
  (pss_one (ps_raise rfl (takes_of rfl rfl rfl rfl) (pmk_own PySem.F.excBase_ValueError G.x_NoNote.x G.x_NoNote.g G.x_NoNote.k (raises_own G.x_NoNote.b G.x_NoNote.t) (by exact rfl)))) pss_nil)
  (pss_one (ps_ret (pv 1)))))), does_read h⟩
theorem ok_law_drawn (G : All K mg C)  : FnOk P w K mg base (L2.CX P w) 1 G.f_law_drawn G.d_law_drawn ["script", "k", "many"] (spOf K (R_law_drawn C)) :=
  fn_pur (k := 0) G.D_law_drawn.F sc_law_drawn len_law_drawn fun cdv A outer s H E hr ds o h => ⟨rd_law_drawn K C (fun cls d _ H => E cls d H), (pss_cons (ps_set (i := 3) sc_law_drawn.nd rfl (by first | exact Or.inl rfl | exact Or.inr rfl) pe_int)
  (pss_cons (ps_if (pt_cmpR (op_gtI) (pe_callB cr_len (by rfl) G.m_len (by decide +kernel) (pa_cons (pv 0) pa_nil)) pe_int (nomark _))
  (pss_one (ps_set (i := 3) sc_law_drawn.nd rfl (by first | exact Or.inl rfl | exact Or.inr rfl) (pe_ix ix_seq (pv 0) (pe_op op_modI (pv 1) (pe_callB cr_len (by rfl) G.m_len (by decide +kernel) (pa_cons (pv 0) pa_nil))) (fun _ _ => rfl)))) pss_nil)
  (pss_cons (ps_set (i := 4) sc_law_drawn.nd rfl (by first | exact Or.inl rfl | exact Or.inr rfl) (pe_op op_addA (pe_op op_addA (pe_op op_mulA (pv 3) (pe_op op_addA pe_int (pe_op op_mulA pe_int (pe_op op_modI (pv 1) pe_int)))) (pe_op op_mulA (pe_op op_mulA (pe_op op_addA (pv 1) pe_int) (pe_op op_addA (pv 1) pe_int)) pe_int)) (pe_callB cr_len (by rfl) G.m_len (by decide +kernel) (pa_cons (pv 0) pa_nil))))
  (pss_one (ps_ret (pe_op op_modI (pe_op op_divI (pe_op op_modI (pv 4) pe_int) pe_int) (pv 2))))))), does_law_drawn h⟩
theorem ok_law_row_by (G : All K mg C) (h_law_drawn : FnOk P w K mg base (L2.CX P w) 1 G.f_law_drawn G.d_law_drawn ["script", "k", "many"] (spOf K (R_law_drawn C))) : FnOk P w K mg base (L2.CX P w) 2 G.f_law_row_by G.d_law_row_by ["script", "base", "most"] (spOf K (R_law_row_by C)) :=
  fn_pur (k := 1) G.D_law_row_by.F sc_law_row_by len_law_row_by fun cdv A outer s H E hr ds o h => ⟨rd_law_row_by K C (fun cls d _ H => E cls d H), (pss_cons (ps_set (i := 3) sc_law_row_by.nd rfl (by first | exact Or.inl rfl | exact Or.inr rfl) (pe_call h_law_drawn (hr.mono (by decide)) (by rfl) G.D_law_drawn.g G.D_law_drawn.F.kp G.D_law_drawn.b .nil passL (pa_cons (pv 0) (pa_cons (pv 1) (pa_cons (pe_op op_addA (pv 2) pe_int) pa_nil)))))
  (pss_cons (ps_set (i := 4) sc_law_row_by.nd rfl (by first | exact Or.inl rfl | exact Or.inr rfl) (pe_lst pa_nil))
  (pss_cons (ps_set (i := 5) sc_law_row_by.nd rfl (by first | exact Or.inl rfl | exact Or.inr rfl) (pe_op op_addA pe_int (pe_call h_law_drawn (hr.mono (by decide)) (by rfl) G.D_law_drawn.g G.D_law_drawn.F.kp G.D_law_drawn.b .nil passL (pa_cons (pv 0) (pa_cons (pe_op op_addA (pv 1) pe_int) (pa_cons (pv 2) pa_nil))))))
  (pss_cons (ps_while (passes_of rfl) (pt_cmpR (op_gtI) (pv 3) pe_int (nomark _))
  (pss_cons (ps_set (i := 6) sc_law_row_by.nd rfl (by first | exact Or.inl rfl | exact Or.inr rfl) (pe_ix ix_seq (pe_lst (pa_cons pe_int (pa_cons pe_int (pa_cons pe_int (pa_cons (pe_op op_addA pe_int (pv 5)) pa_nil))))) (pe_call h_law_drawn (hr.mono (by decide)) (by rfl) G.D_law_drawn.g G.D_law_drawn.F.kp G.D_law_drawn.b .nil passL (pa_cons (pv 0) (pa_cons (pe_op op_addA (pv 1) pe_int) (pa_cons pe_int pa_nil)))) (fun _ _ => rfl)))
  (pss_cons (ps_set (i := 7) sc_law_row_by.nd rfl (by first | exact Or.inl rfl | exact Or.inr rfl) (pe_op op_mulA (pe_call h_law_drawn (hr.mono (by decide)) (by rfl) G.D_law_drawn.g G.D_law_drawn.F.kp G.D_law_drawn.b .nil passL (pa_cons (pv 0) (pa_cons (pe_op op_addA (pe_op op_addA (pv 1) pe_int) (pe_callB cr_len (by rfl) G.m_len (by decide +kernel) (pa_cons (pv 4) pa_nil))) (pa_cons (pv 6) pa_nil)))) (pe_call h_law_drawn (hr.mono (by decide)) (by rfl) G.D_law_drawn.g G.D_law_drawn.F.kp G.D_law_drawn.b .nil passL (pa_cons (pv 0) (pa_cons (pe_op op_addA (pv 1) pe_int) (pa_cons pe_int pa_nil))))))
  (pss_cons (ps_set (i := 5) sc_law_row_by.nd rfl (by first | exact Or.inl rfl | exact Or.inr rfl) (pe_callB (cr_min2 rfl) (by rfl) G.m_min (by decide +kernel) (pa_cons (pv 3) (pa_cons (pe_op op_subI (pv 5) (pv 7)) pa_nil))))
  (pss_cons (ps_set (i := 5) sc_law_row_by.nd rfl (by first | exact Or.inl rfl | exact Or.inr rfl) (pe_callB (cr_max2 rfl) (by rfl) G.m_max (by decide +kernel) (pa_cons pe_int (pa_cons (pv 5) pa_nil))))
  (pss_cons (ps_expr (pe_bm PySem.F.plainAttrs_list PySem.F.slot_list_append PySem.F.type_list_append mt_append (pv 4) (pa_cons (pv 5) pa_nil)))
  (pss_one (ps_set (i := 3) sc_law_row_by.nd rfl (by first | exact Or.inl rfl | exact Or.inr rfl) (pe_op op_subI (pv 3) (pv 5))))))))))
  (pss_one (ps_ret (pv 4))))))), does_law_row_by h⟩
theorem ok_law_marks (G : All K mg C)  (a_ D_ : Addr) (Ex : ExcC K D_) : FnE P w K mg base 1 G.f_law_marks G.d_law_marks ["e"] a_ (fun oe => Zc (.ref D_) none oe ∧ ∃ vs, oe.data = .fields vs) (spOf K (R_law_marks K C a_ D_)) :=
  fn_e (k := 0) G.D_law_marks.F sc_law_marks len_law_marks (fun ds o h => by obtain ⟨_, _, e⟩ := ok_out_law_marks h; exact ⟨_, e⟩) fun cdv A outer s H oe hG hr ds o h => by
    obtain ⟨hz, hf⟩ := hG
    have hp : (a_, oe) ∈ (L2H.cxH (L2.CX P w) P w K mg base N_law_marks "_law_marks" (defScope s_law_marks) G.f_law_marks cdv A outer s H E0 (a_, oe)).pn := List.mem_cons_self
    exact ⟨rd_law_marks a_ D_ K C (fun _ _ _ _ => False), (pss_cons (ps_set (i := 1) sc_law_marks.nd rfl (by first | exact Or.inl rfl | exact Or.inr rfl) (pe_lst (pa_cons (pe_callB (call_isP Ex hp hz hf) (by rfl) G.m_isinstance (by decide +kernel) (pa_cons (pv 0) (pa_cons (pe_glob rfl G.x_TooFew.g rfl) pa_nil))) (pa_cons (pe_callB (call_isP Ex hp hz hf) (by rfl) G.m_isinstance (by decide +kernel) (pa_cons (pv 0) (pa_cons (pe_glob rfl G.x_NoBeads.g rfl) pa_nil))) (pa_cons (pe_callB (call_isP Ex hp hz hf) (by rfl) G.m_isinstance (by decide +kernel) (pa_cons (pv 0) (pa_cons (pe_glob rfl G.x_NoRods.g rfl) pa_nil))) (pa_cons (pe_callB (call_isP Ex hp hz hf) (by rfl) G.m_isinstance (by decide +kernel) (pa_cons (pv 0) (pa_cons (pe_glob rfl G.x_NoCore.g rfl) pa_nil))) pa_nil))))))
  (pss_cons (ps_set (i := 1) sc_law_marks.nd rfl (by first | exact Or.inl rfl | exact Or.inr rfl) (pe_op op_addA (pv 1) (pe_lst (pa_cons (pe_callB (call_isP Ex hp hz hf) (by rfl) G.m_isinstance (by decide +kernel) (pa_cons (pv 0) (pa_cons (pe_glob rfl G.x_NoQuotient.g rfl) pa_nil))) (pa_cons (pe_callB (call_isP Ex hp hz hf) (by rfl) G.m_isinstance (by decide +kernel) (pa_cons (pv 0) (pa_cons (pe_glob rfl G.x_NoCharges.g rfl) pa_nil))) (pa_cons (pe_callB (call_isP Ex hp hz hf) (by rfl) G.m_isinstance (by decide +kernel) (pa_cons (pv 0) (pa_cons (pe_glob rfl G.x_NoNote.g rfl) pa_nil))) pa_nil))))))
  (pss_one (ps_ret (pe_op op_addA (pv 1) (pe_lst (pa_cons (pe_callB (call_isP Ex hp hz hf) (by rfl) G.m_isinstance (by decide +kernel) (pa_cons (pv 0) (pa_cons (pe_bltn (by rfl) G.m_ValueError (by decide +kernel) rfl) pa_nil))) pa_nil))))))), does_law_marks h⟩
theorem ok_law_call (G : All K mg C) (h_beads : FnOk P w K mg base (L2.CX P w) 1 G.f_beads G.d_beads ["row", "many"] (spOf K (R_beads C))) (h_row_of : FnOk P w K mg base (L2.CX P w) 1 G.f_row_of G.d_row_of ["places"] (spOf K (R_row_of C))) (h_core : FnOk P w K mg base (L2.CX P w) 3 G.f_core G.d_core ["row", "rods"] (spOf K (R_core C))) (h_joined : FnOk P w K mg base (L2.CX P w) 5 G.f_joined G.d_joined ["middle", "rows", "rods"] (spOf K (R_joined C))) (h_core_of : FnOk P w K mg base (L2.CX P w) 3 G.f_core_of G.d_core_of ["numbers"] (spOf K (R_core_of C))) (h_read : FnOk P w K mg base (L2.CX P w) 2 G.f_read G.d_read ["text"] (spOf K (R_read C))) : FnOk P w K mg base (L2.CX P w) 6 G.f_law_call G.d_law_call ["way", "row", "rods"] (spOf K (R_law_call C)) :=
  fn_pur (k := 5) G.D_law_call.F sc_law_call len_law_call fun cdv A outer s H E hr ds o h => ⟨rd_law_call K C (fun cls d _ H => E cls d H), (pss_one (ps_if (pt_cmpR (op_eqA hr.units) (pv 0) pe_int (nomark _))
  (pss_one (ps_expr (pe_callS h_beads (hr.mono (by decide)) (by rfl) G.D_beads.g G.D_beads.F.kp G.D_beads.b (fun σ => passAt (takes_of rfl rfl rfl rfl) σ) (pa_cons (pv 1) (pa_cons (pe_op op_subI (pe_callB cr_len (by rfl) G.m_len (by decide +kernel) (pa_cons (pv 1) pa_nil)) pe_int) pa_nil))))) (pss_one (ps_if (pt_cmpR (op_eqA hr.units) (pv 0) pe_int (nomark _))
  (pss_one (ps_expr (pe_callS h_row_of (hr.mono (by decide)) (by rfl) G.D_row_of.g G.D_row_of.F.kp G.D_row_of.b (fun σ => passAt (takes_of rfl rfl rfl rfl) σ) (pa_cons (pe_op op_addA (pv 1) (pe_lst (pa_cons (pe_ix ix_seq (pv 1) (pe_un un_neg pe_int) (fun _ _ => rfl)) pa_nil))) pa_nil)))) (pss_one (ps_if (pt_cmpR (op_eqA hr.units) (pv 0) pe_int (nomark _))
  (pss_one (ps_expr (pe_callS h_core (hr.mono (by decide)) (by rfl) G.D_core.g G.D_core.F.kp G.D_core.b (fun σ => passAt (takes_of rfl rfl rfl rfl) σ) (pa_cons (pv 1) (pa_cons (pe_op op_addA pe_int (pv 2)) pa_nil))))) (pss_one (ps_if (pt_cmpR (op_eqA hr.units) (pv 0) pe_int (nomark _))
  (pss_one (ps_expr (pe_callS h_joined (hr.mono (by decide)) (by rfl) G.D_joined.g G.D_joined.F.kp G.D_joined.b (fun σ => passAt (takes_of rfl rfl rfl rfl) σ) (pa_cons (pe_lst (pa_cons (pv 2) pa_nil)) (pa_cons (pe_lc (own := [("k", 3)]) (g := gName 3) (tt := tYes) rfl sc_law_call.nd (pi_range1 rfl G.m_range (pa_cons (pv 2) pa_nil)) (blkOk_by (N := N_law_call) (sc := (defScope s_law_call)) (by decide +kernel)) (fun _ _ _ _ _ => pg_name (i := 3) sc_law_call.nd rfl (by first | exact Or.inl rfl | exact Or.inr rfl)) (fun _ _ _ _ _ => pts_nil) (fun _ _ _ _ _ => (pe_lst pa_nil))) (pa_cons (pv 2) pa_nil)))))) (pss_one (ps_if (pt_cmpR (op_eqA hr.units) (pv 0) pe_int (nomark _))
  (pss_one (ps_expr (pe_callS h_joined (hr.mono (by decide)) (by rfl) G.D_joined.g G.D_joined.F.kp G.D_joined.b (fun σ => passAt (takes_of rfl rfl rfl rfl) σ) (pa_cons (pe_lst pa_nil) (pa_cons (pe_lst pa_nil) (pa_cons (pv 2) pa_nil)))))) (pss_one (ps_if (pt_cmpR (op_eqA hr.units) (pv 0) pe_int (nomark _))
  (pss_one (ps_expr (pe_callS h_core_of (hr.mono (by decide)) (by rfl) G.D_core_of.g G.D_core_of.F.kp G.D_core_of.b (fun σ => passAt (takes_of rfl rfl rfl rfl) σ) (pa_cons (pe_lst (pa_cons (pe_op op_subI (pv 2) (pe_op op_mulA pe_int (pv 2))) pa_nil)) pa_nil)))) (pss_one (ps_expr (pe_callS h_read (hr.mono (by decide)) (by rfl) G.D_read.g G.D_read.F.kp G.D_read.b (fun σ => passAt (takes_of rfl rfl rfl rfl) σ) (pa_cons (pe_op op_addA pe_str (pe_callTy cr_strI (by rfl) G.m_str (by decide +kernel) (pa_cons (pe_ix ix_seq (pv 1) pe_int (fun _ _ => rfl)) pa_nil))) pa_nil)))))))))))))))), does_law_call h⟩
theorem ok_law (G : All K mg C) (h_law_row_by : FnOk P w K mg base (L2.CX P w) 2 G.f_law_row_by G.d_law_row_by ["script", "base", "most"] (spOf K (R_law_row_by C))) (h_law_drawn : FnOk P w K mg base (L2.CX P w) 1 G.f_law_drawn G.d_law_drawn ["script", "k", "many"] (spOf K (R_law_drawn C))) (h_law_call : FnOk P w K mg base (L2.CX P w) 6 G.f_law_call G.d_law_call ["way", "row", "rods"] (spOf K (R_law_call C))) (h_law_marks : ∀ a_ D_, ExcC K D_ → FnE P w K mg base 1 G.f_law_marks G.d_law_marks ["e"] a_ (fun oe => Zc (.ref D_) none oe ∧ ∃ vs, oe.data = .fields vs) (spOf K (R_law_marks K C a_ D_))) : FnOk P w K mg base (L2.CX P w) 7 G.f_law G.d_law ["script"] (spOf K (R_law C)) :=
  fn_pur (k := 6) G.D_law.F sc_law len_law fun cdv A outer s H E hr ds o h => ⟨rd_law K C (fun cls d _ H => E cls d H), (pss_cons (ps_set (i := 1) sc_law.nd rfl (by first | exact Or.inl rfl | exact Or.inr rfl) (pe_call h_law_row_by (hr.mono (by decide)) (by rfl) G.D_law_row_by.g G.D_law_row_by.F.kp G.D_law_row_by.b .nil passL (pa_cons (pv 0) (pa_cons pe_int (pa_cons pe_int pa_nil)))))
  (pss_cons (ps_set (i := 1) sc_law.nd rfl (by first | exact Or.inl rfl | exact Or.inr rfl) (pe_op op_addA (pe_lst (pa_cons (pe_op op_addA pe_int (pe_callBK (cr_maxD rfl) (by rfl) G.m_max (by decide +kernel) (pa_cons (pv 1) pa_nil) (pk_cons pe_int pk_nil))) pa_nil)) (pv 1)))
  (pss_cons (ps_set (i := 2) sc_law.nd rfl (by first | exact Or.inl rfl | exact Or.inr rfl) (pe_call h_law_drawn (hr.mono (by decide)) (by rfl) G.D_law_drawn.g G.D_law_drawn.F.kp G.D_law_drawn.b .nil passL (pa_cons (pv 0) (pa_cons pe_int (pa_cons pe_int pa_nil)))))
  (pss_cons (ps_set (i := 3) sc_law.nd rfl (by first | exact Or.inl rfl | exact Or.inr rfl) (pe_op op_addA pe_int (pe_call h_law_drawn (hr.mono (by decide)) (by rfl) G.D_law_drawn.g G.D_law_drawn.F.kp G.D_law_drawn.b .nil passL (pa_cons (pv 0) (pa_cons pe_int (pa_cons pe_int pa_nil))))))
  (pss_cons (ps_set (i := 4) sc_law.nd rfl (by first | exact Or.inl rfl | exact Or.inr rfl) (pe_lst pa_nil))
  (pss_cons (ps_tryE (i := 5) (tb := fun W => (tDrop (tCallS (spOf K (R_law_call C)) (WE W) (tCons (tVar 2) (tCons (tVar 1) (tCons (tVar 3) tNil)))))) (ts := fun a_ D_ => (tAsg (tCall (spOf K (R_law_marks K C a_ D_)) [] E0 (tCons (tVar 5) tNil)) (gName 4))) rfl rfl sc_law.nd rfl rfl ⟨rfl, by decide, Or.inl G.x_BeadError.g⟩ (takes_of rfl rfl rfl rfl)
 (fun W pn xe tk po => (pss_one (ps_expr (pe_callS h_law_call (hr.mono (by decide)) (by rfl) G.D_law_call.g G.D_law_call.F.kp G.D_law_call.b (fun σ => passAt tk σ) (pa_cons (pv 2) (pa_cons (pv 1) (pa_cons (pv 3) pa_nil)))))))
 (fun a_ oe D_ pn hz hf Ex => (pss_one (ps_set (i := 4) sc_law.nd rfl (by first | exact Or.inl rfl | exact Or.inr rfl) (pe_callE (h_law_marks a_ D_ Ex) (G := fun oe => Zc (.ref D_) none oe ∧ ∃ vs, oe.data = .fields vs) (oe := oe) ⟨hz, hf⟩ (roomE (hr.mono (by decide))) List.mem_cons_self (by rfl) G.D_law_marks.g G.D_law_marks.F.kp G.D_law_marks.b (pa_cons (pv 5) pa_nil))))))
  (pss_one (ps_ret (pe_cmpR (op_eqA hr.units) (pv 4) (pe_lc (own := [("k", 6)]) (g := gName 6) (tt := tYes) rfl sc_law.nd (pi_range1 rfl G.m_range (pa_cons pe_int pa_nil)) (blkOk_by (N := N_law) (sc := (defScope s_law)) (by decide +kernel)) (fun _ _ _ _ _ => pg_name (i := 6) sc_law.nd rfl (by first | exact Or.inl rfl | exact Or.inr rfl)) (fun _ _ _ _ _ => pts_nil) (fun _ _ _ _ _ => (pe_or (pe_cmpR (op_eqA hr.units) (pv 6) (pv 2) (nomark _)) (pe_one (pe_cmpR (op_eqA hr.units) (pv 6) pe_int (nomark _)))))) (nomark _)))))))))), does_law (by unfold E_law; (repeat' apply And.intro) <;> first | exact G.y_TooFew_BeadError | exact G.y_NoBeads_BeadError | exact G.y_NoRods_BeadError | exact G.y_NoCore_BeadError | exact G.y_NoQuotient_BeadError | exact G.y_NoCharges_BeadError | exact G.y_NoNote_BeadError | exact G.q_TooFew_NoBeads | exact G.q_TooFew_NoRods | exact G.q_TooFew_NoCore | exact G.q_TooFew_NoQuotient | exact G.q_TooFew_NoCharges | exact G.q_TooFew_NoNote | exact G.q_NoBeads_TooFew | exact G.q_NoBeads_NoRods | exact G.q_NoBeads_NoCore | exact G.q_NoBeads_NoQuotient | exact G.q_NoBeads_NoCharges | exact G.q_NoBeads_NoNote | exact G.q_NoRods_TooFew | exact G.q_NoRods_NoBeads | exact G.q_NoRods_NoCore | exact G.q_NoRods_NoQuotient | exact G.q_NoRods_NoCharges | exact G.q_NoRods_NoNote | exact G.q_NoCore_TooFew | exact G.q_NoCore_NoBeads | exact G.q_NoCore_NoRods | exact G.q_NoCore_NoQuotient | exact G.q_NoCore_NoCharges | exact G.q_NoCore_NoNote | exact G.q_NoQuotient_TooFew | exact G.q_NoQuotient_NoBeads | exact G.q_NoQuotient_NoRods | exact G.q_NoQuotient_NoCore | exact G.q_NoQuotient_NoCharges | exact G.q_NoQuotient_NoNote | exact G.q_NoCharges_TooFew | exact G.q_NoCharges_NoBeads | exact G.q_NoCharges_NoRods | exact G.q_NoCharges_NoCore | exact G.q_NoCharges_NoQuotient | exact G.q_NoCharges_NoNote | exact G.q_NoNote_TooFew | exact G.q_NoNote_NoBeads | exact G.q_NoNote_NoRods | exact G.q_NoNote_NoCore | exact G.q_NoNote_NoQuotient | exact G.q_NoNote_NoCharges | exact kit_self) h⟩
end
theorem all_mk {l : PySem.W.OpenLaw} {w : World} {K : Frg} {h : Heap} {mg : Str → Option Value} {fa : Addr} (X : K.In h) (Gn : h.Ns mainGlobals mg) (hfa : mg "law" = some (.ref fa))
    {f0 : Addr} {od0 an0 : Option Addr} {sl0 : Array (Option Value)} {oc0 kV0 dc0 pm0 cd0 ct0 : Value} {f1 : Addr} {od1 an1 : Option Addr} {sl1 : Array (Option Value)} {oc1 kV1 dc1 pm1 cd1 ct1 : Value} {f2 : Addr} {od2 an2 : Option Addr} {sl2 : Array (Option Value)} {oc2 kV2 dc2 pm2 cd2 ct2 : Value} {f3 : Addr} {od3 an3 : Option Addr} {sl3 : Array (Option Value)} {oc3 kV3 dc3 pm3 cd3 ct3 : Value} {f4 : Addr} {od4 an4 : Option Addr} {sl4 : Array (Option Value)} {oc4 kV4 dc4 pm4 cd4 ct4 : Value} {f5 : Addr} {od5 an5 : Option Addr} {sl5 : Array (Option Value)} {oc5 kV5 dc5 pm5 cd5 ct5 : Value} {f6 : Addr} {od6 an6 : Option Addr} {sl6 : Array (Option Value)} {oc6 kV6 dc6 pm6 cd6 ct6 : Value} {f7 : Addr} {od7 an7 : Option Addr} {sl7 : Array (Option Value)} {oc7 kV7 dc7 pm7 cd7 ct7 : Value} {f8 : Addr} {od8 an8 : Option Addr} {sl8 : Array (Option Value)} {oc8 kV8 dc8 pm8 cd8 ct8 : Value} {f9 : Addr} {od9 an9 : Option Addr} {sl9 : Array (Option Value)} {oc9 kV9 dc9 pm9 cd9 ct9 : Value} {f10 : Addr} {od10 an10 : Option Addr} {sl10 : Array (Option Value)} {oc10 kV10 dc10 pm10 cd10 ct10 : Value} {f11 : Addr} {od11 an11 : Option Addr} {sl11 : Array (Option Value)} {oc11 kV11 dc11 pm11 cd11 ct11 : Value} {f12 : Addr} {od12 an12 : Option Addr} {sl12 : Array (Option Value)} {oc12 kV12 dc12 pm12 cd12 ct12 : Value} {f13 : Addr} {od13 an13 : Option Addr} {sl13 : Array (Option Value)} {oc13 kV13 dc13 pm13 cd13 ct13 : Value} {f14 : Addr} {od14 an14 : Option Addr} {sl14 : Array (Option Value)} {oc14 kV14 dc14 pm14 cd14 ct14 : Value} {f15 : Addr} {od15 an15 : Option Addr} {sl15 : Array (Option Value)} {oc15 kV15 dc15 pm15 cd15 ct15 : Value} {f16 : Addr} {od16 an16 : Option Addr} {sl16 : Array (Option Value)} {oc16 kV16 dc16 pm16 cd16 ct16 : Value} {f17 : Addr} {od17 an17 : Option Addr} {sl17 : Array (Option Value)} {oc17 kV17 dc17 pm17 cd17 ct17 : Value} {x_BeadError : Addr} {x_TooFew : Addr} {x_NoBeads : Addr} {x_NoRods : Addr} {x_NoCore : Addr} {x_NoQuotient : Addr} {x_NoCharges : Addr} {x_NoNote : Addr} {t_MOST_RODS : Tok} {t_FIGURES : Tok} {t_MOST_SIZE : Tok}
    (a0 : PySem.W.nsIn K mainGlobals "beads" = some (some (.ref f0))) (l0 : K.lookup f0 = some ⟨oc0, od0, .func (PySem.W.fnOf "beads" "beads" (defArgs s_beads) (defBody s_beads) (defScope s_beads) .none kV0 dc0 pm0 an0 cd0 ct0), sl0⟩) (c0 : PySem.W.codeIn K cd0 "beads" = true) (k0 : PySem.W.keepIn K (.ref f0) = true)
    (a1 : PySem.W.nsIn K mainGlobals "row_of" = some (some (.ref f1))) (l1 : K.lookup f1 = some ⟨oc1, od1, .func (PySem.W.fnOf "row_of" "row_of" (defArgs s_row_of) (defBody s_row_of) (defScope s_row_of) .none kV1 dc1 pm1 an1 cd1 ct1), sl1⟩) (c1 : PySem.W.codeIn K cd1 "row_of" = true) (k1 : PySem.W.keepIn K (.ref f1) = true)
    (a2 : PySem.W.nsIn K mainGlobals "known" = some (some (.ref f2))) (l2 : K.lookup f2 = some ⟨oc2, od2, .func (PySem.W.fnOf "known" "known" (defArgs s_known) (defBody s_known) (defScope s_known) .none kV2 dc2 pm2 an2 cd2 ct2), sl2⟩) (c2 : PySem.W.codeIn K cd2 "known" = true) (k2 : PySem.W.keepIn K (.ref f2) = true)
    (a3 : PySem.W.nsIn K mainGlobals "spread" = some (some (.ref f3))) (l3 : K.lookup f3 = some ⟨oc3, od3, .func (PySem.W.fnOf "spread" "spread" (defArgs s_spread) (defBody s_spread) (defScope s_spread) .none kV3 dc3 pm3 an3 cd3 ct3), sl3⟩) (c3 : PySem.W.codeIn K cd3 "spread" = true) (k3 : PySem.W.keepIn K (.ref f3) = true)
    (a4 : PySem.W.nsIn K mainGlobals "gathered" = some (some (.ref f4))) (l4 : K.lookup f4 = some ⟨oc4, od4, .func (PySem.W.fnOf "gathered" "gathered" (defArgs s_gathered) (defBody s_gathered) (defScope s_gathered) .none kV4 dc4 pm4 an4 cd4 ct4), sl4⟩) (c4 : PySem.W.codeIn K cd4 "gathered" = true) (k4 : PySem.W.keepIn K (.ref f4) = true)
    (a5 : PySem.W.nsIn K mainGlobals "core" = some (some (.ref f5))) (l5 : K.lookup f5 = some ⟨oc5, od5, .func (PySem.W.fnOf "core" "core" (defArgs s_core) (defBody s_core) (defScope s_core) .none kV5 dc5 pm5 an5 cd5 ct5), sl5⟩) (c5 : PySem.W.codeIn K cd5 "core" = true) (k5 : PySem.W.keepIn K (.ref f5) = true)
    (a6 : PySem.W.nsIn K mainGlobals "is_core" = some (some (.ref f6))) (l6 : K.lookup f6 = some ⟨oc6, od6, .func (PySem.W.fnOf "is_core" "is_core" (defArgs s_is_core) (defBody s_is_core) (defScope s_is_core) .none kV6 dc6 pm6 an6 cd6 ct6), sl6⟩) (c6 : PySem.W.codeIn K cd6 "is_core" = true) (k6 : PySem.W.keepIn K (.ref f6) = true)
    (a7 : PySem.W.nsIn K mainGlobals "charges" = some (some (.ref f7))) (l7 : K.lookup f7 = some ⟨oc7, od7, .func (PySem.W.fnOf "charges" "charges" (defArgs s_charges) (defBody s_charges) (defScope s_charges) .none kV7 dc7 pm7 an7 cd7 ct7), sl7⟩) (c7 : PySem.W.codeIn K cd7 "charges" = true) (k7 : PySem.W.keepIn K (.ref f7) = true)
    (a8 : PySem.W.nsIn K mainGlobals "core_of" = some (some (.ref f8))) (l8 : K.lookup f8 = some ⟨oc8, od8, .func (PySem.W.fnOf "core_of" "core_of" (defArgs s_core_of) (defBody s_core_of) (defScope s_core_of) .none kV8 dc8 pm8 an8 cd8 ct8), sl8⟩) (c8 : PySem.W.codeIn K cd8 "core_of" = true) (k8 : PySem.W.keepIn K (.ref f8) = true)
    (a9 : PySem.W.nsIn K mainGlobals "joined" = some (some (.ref f9))) (l9 : K.lookup f9 = some ⟨oc9, od9, .func (PySem.W.fnOf "joined" "joined" (defArgs s_joined) (defBody s_joined) (defScope s_joined) .none kV9 dc9 pm9 an9 cd9 ct9), sl9⟩) (c9 : PySem.W.codeIn K cd9 "joined" = true) (k9 : PySem.W.keepIn K (.ref f9) = true)
    (a10 : PySem.W.nsIn K mainGlobals "is_row" = some (some (.ref f10))) (l10 : K.lookup f10 = some ⟨oc10, od10, .func (PySem.W.fnOf "is_row" "is_row" (defArgs s_is_row) (defBody s_is_row) (defScope s_is_row) .none kV10 dc10 pm10 an10 cd10 ct10), sl10⟩) (c10 : PySem.W.codeIn K cd10 "is_row" = true) (k10 : PySem.W.keepIn K (.ref f10) = true)
    (a11 : PySem.W.nsIn K mainGlobals "number_of" = some (some (.ref f11))) (l11 : K.lookup f11 = some ⟨oc11, od11, .func (PySem.W.fnOf "number_of" "number_of" (defArgs s_number_of) (defBody s_number_of) (defScope s_number_of) .none kV11 dc11 pm11 an11 cd11 ct11), sl11⟩) (c11 : PySem.W.codeIn K cd11 "number_of" = true) (k11 : PySem.W.keepIn K (.ref f11) = true)
    (a12 : PySem.W.nsIn K mainGlobals "read" = some (some (.ref f12))) (l12 : K.lookup f12 = some ⟨oc12, od12, .func (PySem.W.fnOf "read" "read" (defArgs s_read) (defBody s_read) (defScope s_read) .none kV12 dc12 pm12 an12 cd12 ct12), sl12⟩) (c12 : PySem.W.codeIn K cd12 "read" = true) (k12 : PySem.W.keepIn K (.ref f12) = true)
    (a13 : PySem.W.nsIn K mainGlobals "_law_drawn" = some (some (.ref f13))) (l13 : K.lookup f13 = some ⟨oc13, od13, .func (PySem.W.fnOf "_law_drawn" "_law_drawn" (defArgs s_law_drawn) (defBody s_law_drawn) (defScope s_law_drawn) .none kV13 dc13 pm13 an13 cd13 ct13), sl13⟩) (c13 : PySem.W.codeIn K cd13 "_law_drawn" = true) (k13 : PySem.W.keepIn K (.ref f13) = true)
    (a14 : PySem.W.nsIn K mainGlobals "_law_row_by" = some (some (.ref f14))) (l14 : K.lookup f14 = some ⟨oc14, od14, .func (PySem.W.fnOf "_law_row_by" "_law_row_by" (defArgs s_law_row_by) (defBody s_law_row_by) (defScope s_law_row_by) .none kV14 dc14 pm14 an14 cd14 ct14), sl14⟩) (c14 : PySem.W.codeIn K cd14 "_law_row_by" = true) (k14 : PySem.W.keepIn K (.ref f14) = true)
    (a15 : PySem.W.nsIn K mainGlobals "_law_marks" = some (some (.ref f15))) (l15 : K.lookup f15 = some ⟨oc15, od15, .func (PySem.W.fnOf "_law_marks" "_law_marks" (defArgs s_law_marks) (defBody s_law_marks) (defScope s_law_marks) .none kV15 dc15 pm15 an15 cd15 ct15), sl15⟩) (c15 : PySem.W.codeIn K cd15 "_law_marks" = true) (k15 : PySem.W.keepIn K (.ref f15) = true)
    (a16 : PySem.W.nsIn K mainGlobals "_law_call" = some (some (.ref f16))) (l16 : K.lookup f16 = some ⟨oc16, od16, .func (PySem.W.fnOf "_law_call" "_law_call" (defArgs s_law_call) (defBody s_law_call) (defScope s_law_call) .none kV16 dc16 pm16 an16 cd16 ct16), sl16⟩) (c16 : PySem.W.codeIn K cd16 "_law_call" = true) (k16 : PySem.W.keepIn K (.ref f16) = true)
    (a17 : PySem.W.nsIn K mainGlobals "law" = some (some (.ref f17))) (l17 : K.lookup f17 = some ⟨oc17, od17, .func (PySem.W.fnOf "law" "law" (defArgs s_law) (defBody s_law) (defScope s_law) .none kV17 dc17 pm17 an17 cd17 ct17), sl17⟩) (c17 : PySem.W.codeIn K cd17 "law" = true) (k17 : PySem.W.keepIn K (.ref f17) = true)
    (z_ValueError : PySem.W.nsIn K mainGlobals "ValueError" = some none)
    (z_int : PySem.W.nsIn K mainGlobals "int" = some none)
    (z_isinstance : PySem.W.nsIn K mainGlobals "isinstance" = some none)
    (z_len : PySem.W.nsIn K mainGlobals "len" = some none)
    (z_list : PySem.W.nsIn K mainGlobals "list" = some none)
    (z_max : PySem.W.nsIn K mainGlobals "max" = some none)
    (z_min : PySem.W.nsIn K mainGlobals "min" = some none)
    (z_range : PySem.W.nsIn K mainGlobals "range" = some none)
    (z_sorted : PySem.W.nsIn K mainGlobals "sorted" = some none)
    (z_str : PySem.W.nsIn K mainGlobals "str" = some none)
    (z_sum : PySem.W.nsIn K mainGlobals "sum" = some none)
    (v_MOST_RODS : PySem.W.nsIn K mainGlobals "MOST_RODS" = some (some (.int 8 t_MOST_RODS)))
    (v_FIGURES : PySem.W.nsIn K mainGlobals "FIGURES" = some (some (.str "0123456789" t_FIGURES)))
    (v_MOST_SIZE : PySem.W.nsIn K mainGlobals "MOST_SIZE" = some (some (.int 60 t_MOST_SIZE)))
    (xg_BeadError : PySem.W.nsIn K mainGlobals "BeadError" = some (some (.ref x_BeadError))) (xx_BeadError : PySem.W.excIn K x_BeadError [.type "ValueError", .type "Exception", .type "BaseException", .type "object"] "ValueError.__new__" = true) (xk_BeadError : PySem.W.keepIn K (.ref x_BeadError) = true) (xb_BeadError : PySem.W.subIn K (.ref x_BeadError) (.type "BaseException") = some true) (xt_BeadError : PySem.W.typeIn K (.ref x_BeadError) = some (.type "type"))
    (xg_TooFew : PySem.W.nsIn K mainGlobals "TooFew" = some (some (.ref x_TooFew))) (xx_TooFew : PySem.W.excIn K x_TooFew [.type "ValueError", .type "Exception", .type "BaseException", .type "object"] "ValueError.__new__" = true) (xk_TooFew : PySem.W.keepIn K (.ref x_TooFew) = true) (xb_TooFew : PySem.W.subIn K (.ref x_TooFew) (.type "BaseException") = some true) (xt_TooFew : PySem.W.typeIn K (.ref x_TooFew) = some (.type "type"))
    (xg_NoBeads : PySem.W.nsIn K mainGlobals "NoBeads" = some (some (.ref x_NoBeads))) (xx_NoBeads : PySem.W.excIn K x_NoBeads [.type "ValueError", .type "Exception", .type "BaseException", .type "object"] "ValueError.__new__" = true) (xk_NoBeads : PySem.W.keepIn K (.ref x_NoBeads) = true) (xb_NoBeads : PySem.W.subIn K (.ref x_NoBeads) (.type "BaseException") = some true) (xt_NoBeads : PySem.W.typeIn K (.ref x_NoBeads) = some (.type "type"))
    (xg_NoRods : PySem.W.nsIn K mainGlobals "NoRods" = some (some (.ref x_NoRods))) (xx_NoRods : PySem.W.excIn K x_NoRods [.type "ValueError", .type "Exception", .type "BaseException", .type "object"] "ValueError.__new__" = true) (xk_NoRods : PySem.W.keepIn K (.ref x_NoRods) = true) (xb_NoRods : PySem.W.subIn K (.ref x_NoRods) (.type "BaseException") = some true) (xt_NoRods : PySem.W.typeIn K (.ref x_NoRods) = some (.type "type"))
    (xg_NoCore : PySem.W.nsIn K mainGlobals "NoCore" = some (some (.ref x_NoCore))) (xx_NoCore : PySem.W.excIn K x_NoCore [.type "ValueError", .type "Exception", .type "BaseException", .type "object"] "ValueError.__new__" = true) (xk_NoCore : PySem.W.keepIn K (.ref x_NoCore) = true) (xb_NoCore : PySem.W.subIn K (.ref x_NoCore) (.type "BaseException") = some true) (xt_NoCore : PySem.W.typeIn K (.ref x_NoCore) = some (.type "type"))
    (xg_NoQuotient : PySem.W.nsIn K mainGlobals "NoQuotient" = some (some (.ref x_NoQuotient))) (xx_NoQuotient : PySem.W.excIn K x_NoQuotient [.type "ValueError", .type "Exception", .type "BaseException", .type "object"] "ValueError.__new__" = true) (xk_NoQuotient : PySem.W.keepIn K (.ref x_NoQuotient) = true) (xb_NoQuotient : PySem.W.subIn K (.ref x_NoQuotient) (.type "BaseException") = some true) (xt_NoQuotient : PySem.W.typeIn K (.ref x_NoQuotient) = some (.type "type"))
    (xg_NoCharges : PySem.W.nsIn K mainGlobals "NoCharges" = some (some (.ref x_NoCharges))) (xx_NoCharges : PySem.W.excIn K x_NoCharges [.type "ValueError", .type "Exception", .type "BaseException", .type "object"] "ValueError.__new__" = true) (xk_NoCharges : PySem.W.keepIn K (.ref x_NoCharges) = true) (xb_NoCharges : PySem.W.subIn K (.ref x_NoCharges) (.type "BaseException") = some true) (xt_NoCharges : PySem.W.typeIn K (.ref x_NoCharges) = some (.type "type"))
    (xg_NoNote : PySem.W.nsIn K mainGlobals "NoNote" = some (some (.ref x_NoNote))) (xx_NoNote : PySem.W.excIn K x_NoNote [.type "ValueError", .type "Exception", .type "BaseException", .type "object"] "ValueError.__new__" = true) (xk_NoNote : PySem.W.keepIn K (.ref x_NoNote) = true) (xb_NoNote : PySem.W.subIn K (.ref x_NoNote) (.type "BaseException") = some true) (xt_NoNote : PySem.W.typeIn K (.ref x_NoNote) = some (.type "type")) (wn : PySem.W.specialIn K (.builtin "object.__class__") "__get__" = some (some (.builtin "getset_descriptor.__get__")))
    (wt : PySem.W.takesIn K (.builtin "object.__class__") = some true)
    (wd_TooFew : PySem.W.hasDictIn K x_TooFew = true)
    (wd_BeadError : PySem.W.hasDictIn K x_BeadError = true)
    (ws_TooFew_BeadError : PySem.W.subIn K (.ref x_TooFew) (.ref x_BeadError) = some true)
    (wg_TooFew : PySem.W.findIn K (.ref x_TooFew) "__getattribute__" = some (some (.builtin "BaseException.__getattribute__")))
    (wk_TooFew : PySem.W.findIn K (.ref x_TooFew) "__getattr__" = some none)
    (wc_TooFew : PySem.W.findIn K (.ref x_TooFew) "__class__" = some (some (.builtin "object.__class__")))
    (wm_TooFew : PySem.W.mroIn K x_TooFew (.type "object") = some true)
    (wv_TooFew : PySem.W.subIn K (.ref x_TooFew) (.type "ValueError") = some true)
    (wd_NoBeads : PySem.W.hasDictIn K x_NoBeads = true)
    (ws_NoBeads_BeadError : PySem.W.subIn K (.ref x_NoBeads) (.ref x_BeadError) = some true)
    (wg_NoBeads : PySem.W.findIn K (.ref x_NoBeads) "__getattribute__" = some (some (.builtin "BaseException.__getattribute__")))
    (wk_NoBeads : PySem.W.findIn K (.ref x_NoBeads) "__getattr__" = some none)
    (wc_NoBeads : PySem.W.findIn K (.ref x_NoBeads) "__class__" = some (some (.builtin "object.__class__")))
    (wm_NoBeads : PySem.W.mroIn K x_NoBeads (.type "object") = some true)
    (wv_NoBeads : PySem.W.subIn K (.ref x_NoBeads) (.type "ValueError") = some true)
    (wd_NoRods : PySem.W.hasDictIn K x_NoRods = true)
    (ws_NoRods_BeadError : PySem.W.subIn K (.ref x_NoRods) (.ref x_BeadError) = some true)
    (wg_NoRods : PySem.W.findIn K (.ref x_NoRods) "__getattribute__" = some (some (.builtin "BaseException.__getattribute__")))
    (wk_NoRods : PySem.W.findIn K (.ref x_NoRods) "__getattr__" = some none)
    (wc_NoRods : PySem.W.findIn K (.ref x_NoRods) "__class__" = some (some (.builtin "object.__class__")))
    (wm_NoRods : PySem.W.mroIn K x_NoRods (.type "object") = some true)
    (wv_NoRods : PySem.W.subIn K (.ref x_NoRods) (.type "ValueError") = some true)
    (wd_NoCore : PySem.W.hasDictIn K x_NoCore = true)
    (ws_NoCore_BeadError : PySem.W.subIn K (.ref x_NoCore) (.ref x_BeadError) = some true)
    (wg_NoCore : PySem.W.findIn K (.ref x_NoCore) "__getattribute__" = some (some (.builtin "BaseException.__getattribute__")))
    (wk_NoCore : PySem.W.findIn K (.ref x_NoCore) "__getattr__" = some none)
    (wc_NoCore : PySem.W.findIn K (.ref x_NoCore) "__class__" = some (some (.builtin "object.__class__")))
    (wm_NoCore : PySem.W.mroIn K x_NoCore (.type "object") = some true)
    (wv_NoCore : PySem.W.subIn K (.ref x_NoCore) (.type "ValueError") = some true)
    (wd_NoQuotient : PySem.W.hasDictIn K x_NoQuotient = true)
    (ws_NoQuotient_BeadError : PySem.W.subIn K (.ref x_NoQuotient) (.ref x_BeadError) = some true)
    (wg_NoQuotient : PySem.W.findIn K (.ref x_NoQuotient) "__getattribute__" = some (some (.builtin "BaseException.__getattribute__")))
    (wk_NoQuotient : PySem.W.findIn K (.ref x_NoQuotient) "__getattr__" = some none)
    (wc_NoQuotient : PySem.W.findIn K (.ref x_NoQuotient) "__class__" = some (some (.builtin "object.__class__")))
    (wm_NoQuotient : PySem.W.mroIn K x_NoQuotient (.type "object") = some true)
    (wv_NoQuotient : PySem.W.subIn K (.ref x_NoQuotient) (.type "ValueError") = some true)
    (wd_NoCharges : PySem.W.hasDictIn K x_NoCharges = true)
    (ws_NoCharges_BeadError : PySem.W.subIn K (.ref x_NoCharges) (.ref x_BeadError) = some true)
    (wg_NoCharges : PySem.W.findIn K (.ref x_NoCharges) "__getattribute__" = some (some (.builtin "BaseException.__getattribute__")))
    (wk_NoCharges : PySem.W.findIn K (.ref x_NoCharges) "__getattr__" = some none)
    (wc_NoCharges : PySem.W.findIn K (.ref x_NoCharges) "__class__" = some (some (.builtin "object.__class__")))
    (wm_NoCharges : PySem.W.mroIn K x_NoCharges (.type "object") = some true)
    (wv_NoCharges : PySem.W.subIn K (.ref x_NoCharges) (.type "ValueError") = some true)
    (wd_NoNote : PySem.W.hasDictIn K x_NoNote = true)
    (ws_NoNote_BeadError : PySem.W.subIn K (.ref x_NoNote) (.ref x_BeadError) = some true)
    (wg_NoNote : PySem.W.findIn K (.ref x_NoNote) "__getattribute__" = some (some (.builtin "BaseException.__getattribute__")))
    (wk_NoNote : PySem.W.findIn K (.ref x_NoNote) "__getattr__" = some none)
    (wc_NoNote : PySem.W.findIn K (.ref x_NoNote) "__class__" = some (some (.builtin "object.__class__")))
    (wm_NoNote : PySem.W.mroIn K x_NoNote (.type "object") = some true)
    (wv_NoNote : PySem.W.subIn K (.ref x_NoNote) (.type "ValueError") = some true)
    (ws_TooFew_NoBeads : PySem.W.subIn K (.ref x_TooFew) (.ref x_NoBeads) = some false)
    (ws_NoBeads_NoBeads : PySem.W.subIn K (.ref x_NoBeads) (.ref x_NoBeads) = some true)
    (ws_TooFew_NoRods : PySem.W.subIn K (.ref x_TooFew) (.ref x_NoRods) = some false)
    (ws_NoRods_NoRods : PySem.W.subIn K (.ref x_NoRods) (.ref x_NoRods) = some true)
    (ws_TooFew_NoCore : PySem.W.subIn K (.ref x_TooFew) (.ref x_NoCore) = some false)
    (ws_NoCore_NoCore : PySem.W.subIn K (.ref x_NoCore) (.ref x_NoCore) = some true)
    (ws_TooFew_NoQuotient : PySem.W.subIn K (.ref x_TooFew) (.ref x_NoQuotient) = some false)
    (ws_NoQuotient_NoQuotient : PySem.W.subIn K (.ref x_NoQuotient) (.ref x_NoQuotient) = some true)
    (ws_TooFew_NoCharges : PySem.W.subIn K (.ref x_TooFew) (.ref x_NoCharges) = some false)
    (ws_NoCharges_NoCharges : PySem.W.subIn K (.ref x_NoCharges) (.ref x_NoCharges) = some true)
    (ws_TooFew_NoNote : PySem.W.subIn K (.ref x_TooFew) (.ref x_NoNote) = some false)
    (ws_NoNote_NoNote : PySem.W.subIn K (.ref x_NoNote) (.ref x_NoNote) = some true)
    (ws_NoBeads_TooFew : PySem.W.subIn K (.ref x_NoBeads) (.ref x_TooFew) = some false)
    (ws_TooFew_TooFew : PySem.W.subIn K (.ref x_TooFew) (.ref x_TooFew) = some true)
    (ws_NoBeads_NoRods : PySem.W.subIn K (.ref x_NoBeads) (.ref x_NoRods) = some false)
    (ws_NoBeads_NoCore : PySem.W.subIn K (.ref x_NoBeads) (.ref x_NoCore) = some false)
    (ws_NoBeads_NoQuotient : PySem.W.subIn K (.ref x_NoBeads) (.ref x_NoQuotient) = some false)
    (ws_NoBeads_NoCharges : PySem.W.subIn K (.ref x_NoBeads) (.ref x_NoCharges) = some false)
    (ws_NoBeads_NoNote : PySem.W.subIn K (.ref x_NoBeads) (.ref x_NoNote) = some false)
    (ws_NoRods_TooFew : PySem.W.subIn K (.ref x_NoRods) (.ref x_TooFew) = some false)
    (ws_NoRods_NoBeads : PySem.W.subIn K (.ref x_NoRods) (.ref x_NoBeads) = some false)
    (ws_NoRods_NoCore : PySem.W.subIn K (.ref x_NoRods) (.ref x_NoCore) = some false)
    (ws_NoRods_NoQuotient : PySem.W.subIn K (.ref x_NoRods) (.ref x_NoQuotient) = some false)
    (ws_NoRods_NoCharges : PySem.W.subIn K (.ref x_NoRods) (.ref x_NoCharges) = some false)
    (ws_NoRods_NoNote : PySem.W.subIn K (.ref x_NoRods) (.ref x_NoNote) = some false)
    (ws_NoCore_TooFew : PySem.W.subIn K (.ref x_NoCore) (.ref x_TooFew) = some false)
    (ws_NoCore_NoBeads : PySem.W.subIn K (.ref x_NoCore) (.ref x_NoBeads) = some false)
    (ws_NoCore_NoRods : PySem.W.subIn K (.ref x_NoCore) (.ref x_NoRods) = some false)
    (ws_NoCore_NoQuotient : PySem.W.subIn K (.ref x_NoCore) (.ref x_NoQuotient) = some false)
    (ws_NoCore_NoCharges : PySem.W.subIn K (.ref x_NoCore) (.ref x_NoCharges) = some false)
    (ws_NoCore_NoNote : PySem.W.subIn K (.ref x_NoCore) (.ref x_NoNote) = some false)
    (ws_NoQuotient_TooFew : PySem.W.subIn K (.ref x_NoQuotient) (.ref x_TooFew) = some false)
    (ws_NoQuotient_NoBeads : PySem.W.subIn K (.ref x_NoQuotient) (.ref x_NoBeads) = some false)
    (ws_NoQuotient_NoRods : PySem.W.subIn K (.ref x_NoQuotient) (.ref x_NoRods) = some false)
    (ws_NoQuotient_NoCore : PySem.W.subIn K (.ref x_NoQuotient) (.ref x_NoCore) = some false)
    (ws_NoQuotient_NoCharges : PySem.W.subIn K (.ref x_NoQuotient) (.ref x_NoCharges) = some false)
    (ws_NoQuotient_NoNote : PySem.W.subIn K (.ref x_NoQuotient) (.ref x_NoNote) = some false)
    (ws_NoCharges_TooFew : PySem.W.subIn K (.ref x_NoCharges) (.ref x_TooFew) = some false)
    (ws_NoCharges_NoBeads : PySem.W.subIn K (.ref x_NoCharges) (.ref x_NoBeads) = some false)
    (ws_NoCharges_NoRods : PySem.W.subIn K (.ref x_NoCharges) (.ref x_NoRods) = some false)
    (ws_NoCharges_NoCore : PySem.W.subIn K (.ref x_NoCharges) (.ref x_NoCore) = some false)
    (ws_NoCharges_NoQuotient : PySem.W.subIn K (.ref x_NoCharges) (.ref x_NoQuotient) = some false)
    (ws_NoCharges_NoNote : PySem.W.subIn K (.ref x_NoCharges) (.ref x_NoNote) = some false)
    (ws_NoNote_TooFew : PySem.W.subIn K (.ref x_NoNote) (.ref x_TooFew) = some false)
    (ws_NoNote_NoBeads : PySem.W.subIn K (.ref x_NoNote) (.ref x_NoBeads) = some false)
    (ws_NoNote_NoRods : PySem.W.subIn K (.ref x_NoNote) (.ref x_NoRods) = some false)
    (ws_NoNote_NoCore : PySem.W.subIn K (.ref x_NoNote) (.ref x_NoCore) = some false)
    (ws_NoNote_NoQuotient : PySem.W.subIn K (.ref x_NoNote) (.ref x_NoQuotient) = some false)
    (ws_NoNote_NoCharges : PySem.W.subIn K (.ref x_NoNote) (.ref x_NoCharges) = some false) :
    ∃ fd : FuncData, (∀ (s : Shared) (v : Value), BindsTo s fd ⟨[v], []⟩ [("script", v)]) ∧ ∀ base : Heap, K.In base → base.Ns mainGlobals mg → FnOk l.prog w K mg base (L2.CX l.prog w) 7 fa fd ["script"] (spOf K R_law0) := by
  have e := hfa.symm.trans (PySem.W.mg_of X Gn a17)
  cases e
  have F0 := fun_mk (st := s_beads) l0 c0 k0
  have b0 := F0.binds (ps := ["row", "many"]) fun _ _ _ _ _ _ us hl => match us, hl with | [_, _], _ => rfl
  have F1 := fun_mk (st := s_row_of) l1 c1 k1
  have b1 := F1.binds (ps := ["places"]) fun _ _ _ _ _ _ us hl => match us, hl with | [_], _ => rfl
  have F2 := fun_mk (st := s_known) l2 c2 k2
  have b2 := F2.binds (ps := ["rods"]) fun _ _ _ _ _ _ us hl => match us, hl with | [_], _ => rfl
  have F3 := fun_mk (st := s_spread) l3 c3 k3
  have b3 := F3.binds (ps := ["row", "rods"]) fun _ _ _ _ _ _ us hl => match us, hl with | [_, _], _ => rfl
  have F4 := fun_mk (st := s_gathered) l4 c4 k4
  have b4 := F4.binds (ps := ["heights"]) fun _ _ _ _ _ _ us hl => match us, hl with | [_], _ => rfl
  have F5 := fun_mk (st := s_core) l5 c5 k5
  have b5 := F5.binds (ps := ["row", "rods"]) fun _ _ _ _ _ _ us hl => match us, hl with | [_, _], _ => rfl
  have F6 := fun_mk (st := s_is_core) l6 c6 k6
  have b6 := F6.binds (ps := ["row", "rods"]) fun _ _ _ _ _ _ us hl => match us, hl with | [_, _], _ => rfl
  have F7 := fun_mk (st := s_charges) l7 c7 k7
  have b7 := F7.binds (ps := ["row", "rods"]) fun _ _ _ _ _ _ us hl => match us, hl with | [_, _], _ => rfl
  have F8 := fun_mk (st := s_core_of) l8 c8 k8
  have b8 := F8.binds (ps := ["numbers"]) fun _ _ _ _ _ _ us hl => match us, hl with | [_], _ => rfl
  have F9 := fun_mk (st := s_joined) l9 c9 k9
  have b9 := F9.binds (ps := ["middle", "rows", "rods"]) fun _ _ _ _ _ _ us hl => match us, hl with | [_, _, _], _ => rfl
  have F10 := fun_mk (st := s_is_row) l10 c10 k10
  have b10 := F10.binds (ps := ["numbers"]) fun _ _ _ _ _ _ us hl => match us, hl with | [_], _ => rfl
  have F11 := fun_mk (st := s_number_of) l11 c11 k11
  have b11 := F11.binds (ps := ["word"]) fun _ _ _ _ _ _ us hl => match us, hl with | [_], _ => rfl
  have F12 := fun_mk (st := s_read) l12 c12 k12
  have b12 := F12.binds (ps := ["text"]) fun _ _ _ _ _ _ us hl => match us, hl with | [_], _ => rfl
  have F13 := fun_mk (st := s_law_drawn) l13 c13 k13
  have b13 := F13.binds (ps := ["script", "k", "many"]) fun _ _ _ _ _ _ us hl => match us, hl with | [_, _, _], _ => rfl
  have F14 := fun_mk (st := s_law_row_by) l14 c14 k14
  have b14 := F14.binds (ps := ["script", "base", "most"]) fun _ _ _ _ _ _ us hl => match us, hl with | [_, _, _], _ => rfl
  have F15 := fun_mk (st := s_law_marks) l15 c15 k15
  have b15 := F15.binds (ps := ["e"]) fun _ _ _ _ _ _ us hl => match us, hl with | [_], _ => rfl
  have F16 := fun_mk (st := s_law_call) l16 c16 k16
  have b16 := F16.binds (ps := ["way", "row", "rods"]) fun _ _ _ _ _ _ us hl => match us, hl with | [_, _, _], _ => rfl
  have F17 := fun_mk (st := s_law) l17 c17 k17
  have b17 := F17.binds (ps := ["script"]) fun _ _ _ _ _ _ us hl => match us, hl with | [_], _ => rfl
  let G : All K mg ⟨x_BeadError, x_TooFew, x_NoBeads, x_NoRods, x_NoCore, x_NoQuotient, x_NoCharges, x_NoNote⟩ := { f_beads := f0, d_beads := _, D_beads := ⟨F0, b0, PySem.W.mg_of X Gn a0⟩, f_row_of := f1, d_row_of := _, D_row_of := ⟨F1, b1, PySem.W.mg_of X Gn a1⟩, f_known := f2, d_known := _, D_known := ⟨F2, b2, PySem.W.mg_of X Gn a2⟩, f_spread := f3, d_spread := _, D_spread := ⟨F3, b3, PySem.W.mg_of X Gn a3⟩, f_gathered := f4, d_gathered := _, D_gathered := ⟨F4, b4, PySem.W.mg_of X Gn a4⟩, f_core := f5, d_core := _, D_core := ⟨F5, b5, PySem.W.mg_of X Gn a5⟩, f_is_core := f6, d_is_core := _, D_is_core := ⟨F6, b6, PySem.W.mg_of X Gn a6⟩, f_charges := f7, d_charges := _, D_charges := ⟨F7, b7, PySem.W.mg_of X Gn a7⟩, f_core_of := f8, d_core_of := _, D_core_of := ⟨F8, b8, PySem.W.mg_of X Gn a8⟩, f_joined := f9, d_joined := _, D_joined := ⟨F9, b9, PySem.W.mg_of X Gn a9⟩, f_is_row := f10, d_is_row := _, D_is_row := ⟨F10, b10, PySem.W.mg_of X Gn a10⟩, f_number_of := f11, d_number_of := _, D_number_of := ⟨F11, b11, PySem.W.mg_of X Gn a11⟩, f_read := f12, d_read := _, D_read := ⟨F12, b12, PySem.W.mg_of X Gn a12⟩, f_law_drawn := f13, d_law_drawn := _, D_law_drawn := ⟨F13, b13, PySem.W.mg_of X Gn a13⟩, f_law_row_by := f14, d_law_row_by := _, D_law_row_by := ⟨F14, b14, PySem.W.mg_of X Gn a14⟩, f_law_marks := f15, d_law_marks := _, D_law_marks := ⟨F15, b15, PySem.W.mg_of X Gn a15⟩, f_law_call := f16, d_law_call := _, D_law_call := ⟨F16, b16, PySem.W.mg_of X Gn a16⟩, f_law := fa, d_law := _, D_law := ⟨F17, b17, PySem.W.mg_of X Gn a17⟩, m_ValueError := PySem.W.mg_none_of X Gn z_ValueError, m_int := PySem.W.mg_none_of X Gn z_int, m_isinstance := PySem.W.mg_none_of X Gn z_isinstance, m_len := PySem.W.mg_none_of X Gn z_len, m_list := PySem.W.mg_none_of X Gn z_list, m_max := PySem.W.mg_none_of X Gn z_max, m_min := PySem.W.mg_none_of X Gn z_min, m_range := PySem.W.mg_none_of X Gn z_range, m_sorted := PySem.W.mg_none_of X Gn z_sorted, m_str := PySem.W.mg_none_of X Gn z_str, m_sum := PySem.W.mg_none_of X Gn z_sum, t_MOST_RODS := t_MOST_RODS, c_MOST_RODS := PySem.W.mg_of X Gn v_MOST_RODS, t_FIGURES := t_FIGURES, c_FIGURES := PySem.W.mg_of X Gn v_FIGURES, t_MOST_SIZE := t_MOST_SIZE, c_MOST_SIZE := PySem.W.mg_of X Gn v_MOST_SIZE, y_TooFew_BeadError := ⟨PySem.W.exm_ref xb_BeadError wd_BeadError xt_BeadError ws_TooFew_BeadError, ⟨wg_TooFew, wk_TooFew, xb_TooFew, wd_TooFew, wc_TooFew, wn, wt, wm_TooFew⟩, kit_val wv_TooFew⟩, y_NoBeads_BeadError := ⟨PySem.W.exm_ref xb_BeadError wd_BeadError xt_BeadError ws_NoBeads_BeadError, ⟨wg_NoBeads, wk_NoBeads, xb_NoBeads, wd_NoBeads, wc_NoBeads, wn, wt, wm_NoBeads⟩, kit_val wv_NoBeads⟩, y_NoRods_BeadError := ⟨PySem.W.exm_ref xb_BeadError wd_BeadError xt_BeadError ws_NoRods_BeadError, ⟨wg_NoRods, wk_NoRods, xb_NoRods, wd_NoRods, wc_NoRods, wn, wt, wm_NoRods⟩, kit_val wv_NoRods⟩, y_NoCore_BeadError := ⟨PySem.W.exm_ref xb_BeadError wd_BeadError xt_BeadError ws_NoCore_BeadError, ⟨wg_NoCore, wk_NoCore, xb_NoCore, wd_NoCore, wc_NoCore, wn, wt, wm_NoCore⟩, kit_val wv_NoCore⟩, y_NoQuotient_BeadError := ⟨PySem.W.exm_ref xb_BeadError wd_BeadError xt_BeadError ws_NoQuotient_BeadError, ⟨wg_NoQuotient, wk_NoQuotient, xb_NoQuotient, wd_NoQuotient, wc_NoQuotient, wn, wt, wm_NoQuotient⟩, kit_val wv_NoQuotient⟩, y_NoCharges_BeadError := ⟨PySem.W.exm_ref xb_BeadError wd_BeadError xt_BeadError ws_NoCharges_BeadError, ⟨wg_NoCharges, wk_NoCharges, xb_NoCharges, wd_NoCharges, wc_NoCharges, wn, wt, wm_NoCharges⟩, kit_val wv_NoCharges⟩, y_NoNote_BeadError := ⟨PySem.W.exm_ref xb_BeadError wd_BeadError xt_BeadError ws_NoNote_BeadError, ⟨wg_NoNote, wk_NoNote, xb_NoNote, wd_NoNote, wc_NoNote, wn, wt, wm_NoNote⟩, kit_val wv_NoNote⟩, q_TooFew_NoBeads := kit_sub wd_NoBeads xt_NoBeads ws_TooFew_NoBeads ws_NoBeads_NoBeads, q_TooFew_NoRods := kit_sub wd_NoRods xt_NoRods ws_TooFew_NoRods ws_NoRods_NoRods, q_TooFew_NoCore := kit_sub wd_NoCore xt_NoCore ws_TooFew_NoCore ws_NoCore_NoCore, q_TooFew_NoQuotient := kit_sub wd_NoQuotient xt_NoQuotient ws_TooFew_NoQuotient ws_NoQuotient_NoQuotient, q_TooFew_NoCharges := kit_sub wd_NoCharges xt_NoCharges ws_TooFew_NoCharges ws_NoCharges_NoCharges, q_TooFew_NoNote := kit_sub wd_NoNote xt_NoNote ws_TooFew_NoNote ws_NoNote_NoNote, q_NoBeads_TooFew := kit_sub wd_TooFew xt_TooFew ws_NoBeads_TooFew ws_TooFew_TooFew, q_NoBeads_NoRods := kit_sub wd_NoRods xt_NoRods ws_NoBeads_NoRods ws_NoRods_NoRods, q_NoBeads_NoCore := kit_sub wd_NoCore xt_NoCore ws_NoBeads_NoCore ws_NoCore_NoCore, q_NoBeads_NoQuotient := kit_sub wd_NoQuotient xt_NoQuotient ws_NoBeads_NoQuotient ws_NoQuotient_NoQuotient, q_NoBeads_NoCharges := kit_sub wd_NoCharges xt_NoCharges ws_NoBeads_NoCharges ws_NoCharges_NoCharges, q_NoBeads_NoNote := kit_sub wd_NoNote xt_NoNote ws_NoBeads_NoNote ws_NoNote_NoNote, q_NoRods_TooFew := kit_sub wd_TooFew xt_TooFew ws_NoRods_TooFew ws_TooFew_TooFew, q_NoRods_NoBeads := kit_sub wd_NoBeads xt_NoBeads ws_NoRods_NoBeads ws_NoBeads_NoBeads, q_NoRods_NoCore := kit_sub wd_NoCore xt_NoCore ws_NoRods_NoCore ws_NoCore_NoCore, q_NoRods_NoQuotient := kit_sub wd_NoQuotient xt_NoQuotient ws_NoRods_NoQuotient ws_NoQuotient_NoQuotient, q_NoRods_NoCharges := kit_sub wd_NoCharges xt_NoCharges ws_NoRods_NoCharges ws_NoCharges_NoCharges, q_NoRods_NoNote := kit_sub wd_NoNote xt_NoNote ws_NoRods_NoNote ws_NoNote_NoNote, q_NoCore_TooFew := kit_sub wd_TooFew xt_TooFew ws_NoCore_TooFew ws_TooFew_TooFew, q_NoCore_NoBeads := kit_sub wd_NoBeads xt_NoBeads ws_NoCore_NoBeads ws_NoBeads_NoBeads, q_NoCore_NoRods := kit_sub wd_NoRods xt_NoRods ws_NoCore_NoRods ws_NoRods_NoRods, q_NoCore_NoQuotient := kit_sub wd_NoQuotient xt_NoQuotient ws_NoCore_NoQuotient ws_NoQuotient_NoQuotient, q_NoCore_NoCharges := kit_sub wd_NoCharges xt_NoCharges ws_NoCore_NoCharges ws_NoCharges_NoCharges, q_NoCore_NoNote := kit_sub wd_NoNote xt_NoNote ws_NoCore_NoNote ws_NoNote_NoNote, q_NoQuotient_TooFew := kit_sub wd_TooFew xt_TooFew ws_NoQuotient_TooFew ws_TooFew_TooFew, q_NoQuotient_NoBeads := kit_sub wd_NoBeads xt_NoBeads ws_NoQuotient_NoBeads ws_NoBeads_NoBeads, q_NoQuotient_NoRods := kit_sub wd_NoRods xt_NoRods ws_NoQuotient_NoRods ws_NoRods_NoRods, q_NoQuotient_NoCore := kit_sub wd_NoCore xt_NoCore ws_NoQuotient_NoCore ws_NoCore_NoCore, q_NoQuotient_NoCharges := kit_sub wd_NoCharges xt_NoCharges ws_NoQuotient_NoCharges ws_NoCharges_NoCharges, q_NoQuotient_NoNote := kit_sub wd_NoNote xt_NoNote ws_NoQuotient_NoNote ws_NoNote_NoNote, q_NoCharges_TooFew := kit_sub wd_TooFew xt_TooFew ws_NoCharges_TooFew ws_TooFew_TooFew, q_NoCharges_NoBeads := kit_sub wd_NoBeads xt_NoBeads ws_NoCharges_NoBeads ws_NoBeads_NoBeads, q_NoCharges_NoRods := kit_sub wd_NoRods xt_NoRods ws_NoCharges_NoRods ws_NoRods_NoRods, q_NoCharges_NoCore := kit_sub wd_NoCore xt_NoCore ws_NoCharges_NoCore ws_NoCore_NoCore, q_NoCharges_NoQuotient := kit_sub wd_NoQuotient xt_NoQuotient ws_NoCharges_NoQuotient ws_NoQuotient_NoQuotient, q_NoCharges_NoNote := kit_sub wd_NoNote xt_NoNote ws_NoCharges_NoNote ws_NoNote_NoNote, q_NoNote_TooFew := kit_sub wd_TooFew xt_TooFew ws_NoNote_TooFew ws_TooFew_TooFew, q_NoNote_NoBeads := kit_sub wd_NoBeads xt_NoBeads ws_NoNote_NoBeads ws_NoBeads_NoBeads, q_NoNote_NoRods := kit_sub wd_NoRods xt_NoRods ws_NoNote_NoRods ws_NoRods_NoRods, q_NoNote_NoCore := kit_sub wd_NoCore xt_NoCore ws_NoNote_NoCore ws_NoCore_NoCore, q_NoNote_NoQuotient := kit_sub wd_NoQuotient xt_NoQuotient ws_NoNote_NoQuotient ws_NoQuotient_NoQuotient, q_NoNote_NoCharges := kit_sub wd_NoCharges xt_NoCharges ws_NoNote_NoCharges ws_NoCharges_NoCharges, x_BeadError := ⟨PySem.W.mg_of X Gn xg_BeadError, xx_BeadError, xk_BeadError, xb_BeadError, xt_BeadError⟩, x_TooFew := ⟨PySem.W.mg_of X Gn xg_TooFew, xx_TooFew, xk_TooFew, xb_TooFew, xt_TooFew⟩, x_NoBeads := ⟨PySem.W.mg_of X Gn xg_NoBeads, xx_NoBeads, xk_NoBeads, xb_NoBeads, xt_NoBeads⟩, x_NoRods := ⟨PySem.W.mg_of X Gn xg_NoRods, xx_NoRods, xk_NoRods, xb_NoRods, xt_NoRods⟩, x_NoCore := ⟨PySem.W.mg_of X Gn xg_NoCore, xx_NoCore, xk_NoCore, xb_NoCore, xt_NoCore⟩, x_NoQuotient := ⟨PySem.W.mg_of X Gn xg_NoQuotient, xx_NoQuotient, xk_NoQuotient, xb_NoQuotient, xt_NoQuotient⟩, x_NoCharges := ⟨PySem.W.mg_of X Gn xg_NoCharges, xx_NoCharges, xk_NoCharges, xb_NoCharges, xt_NoCharges⟩, x_NoNote := ⟨PySem.W.mg_of X Gn xg_NoNote, xx_NoNote, xk_NoNote, xb_NoNote, xt_NoNote⟩ }
  refine ⟨PySem.W.fnOf "law" "law" (defArgs s_law) (defBody s_law) (defScope s_law) .none kV17 dc17 pm17 an17 cd17 ct17, fun s v => .of_eq rfl, fun base _ _ => ?_⟩
  have r_beads := ok_beads (P := l.prog) (w := w) (base := base) G 
  have r_row_of := ok_row_of (P := l.prog) (w := w) (base := base) G 
  have r_known := ok_known (P := l.prog) (w := w) (base := base) G 
  have r_is_row := ok_is_row (P := l.prog) (w := w) (base := base) G 
  have r_number_of := ok_number_of (P := l.prog) (w := w) (base := base) G 
  have r_law_drawn := ok_law_drawn (P := l.prog) (w := w) (base := base) G 
  have r_law_marks := ok_law_marks (P := l.prog) (w := w) (base := base) G 
  have r_spread := ok_spread (P := l.prog) (w := w) (base := base) G r_known r_beads
  have r_gathered := ok_gathered (P := l.prog) (w := w) (base := base) G r_row_of
  have r_read := ok_read (P := l.prog) (w := w) (base := base) G r_number_of r_is_row
  have r_law_row_by := ok_law_row_by (P := l.prog) (w := w) (base := base) G r_law_drawn
  have r_core := ok_core (P := l.prog) (w := w) (base := base) G r_gathered r_spread
  have r_charges := ok_charges (P := l.prog) (w := w) (base := base) G r_spread
  have r_core_of := ok_core_of (P := l.prog) (w := w) (base := base) G r_known r_gathered
  have r_is_core := ok_is_core (P := l.prog) (w := w) (base := base) G r_core
  have r_joined := ok_joined (P := l.prog) (w := w) (base := base) G r_known r_charges r_gathered r_is_core r_beads
  have r_law_call := ok_law_call (P := l.prog) (w := w) (base := base) G r_beads r_row_of r_core r_joined r_core_of r_read
  have r_law := ok_law (P := l.prog) (w := w) (base := base) G r_law_row_by r_law_drawn r_law_call r_law_marks
  exact r_law
end Lw
end Pur
open PySem PySem.W PyProof.Rows
set_option maxHeartbeats 0 in
theorem PySem.Challenge.cw_rodbeads_k22_refusals_apart_holds : PySem.Challenge.rw_rodbeads_k22_refusals_apart.Holds := by
  w_on; o_law; k_head; (case hw => w_witness2)
  k_fill
  refine L2.walk_of (l := PySem.Challenge.rw_rodbeads_k22_refusals_apart) (n := 63) (k := 7) (x := "script") (CX := fun w => L2.CX PySem.Challenge.rw_rodbeads_k22_refusals_apart.prog w) (sp := fun w => Pur.spOf _ Pur.Lw.R_law0) rfl (by decide) rfl ⟨rfl, by decide, by decide⟩ (fun w h Y => PySem.W.kIn_of Y) ?F (fun _ _ a ns hl _ hS => Pur.law_sp hl hS) (fun w _ _ _ _ h => Pur.cx_no (P := PySem.Challenge.rw_rodbeads_k22_refusals_apart.prog) (w := w) h)
  case F =>
    intro w mg fa h KX G hmg
    refine' Pur.Lw.all_mk KX G hmg ?a0 ?l0 ?c0 ?k0 ?a1 ?l1 ?c1 ?k1 ?a2 ?l2 ?c2 ?k2 ?a3 ?l3 ?c3 ?k3 ?a4 ?l4 ?c4 ?k4 ?a5 ?l5 ?c5 ?k5 ?a6 ?l6 ?c6 ?k6 ?a7 ?l7 ?c7 ?k7 ?a8 ?l8 ?c8 ?k8 ?a9 ?l9 ?c9 ?k9 ?a10 ?l10 ?c10 ?k10 ?a11 ?l11 ?c11 ?k11 ?a12 ?l12 ?c12 ?k12 ?a13 ?l13 ?c13 ?k13 ?a14 ?l14 ?c14 ?k14 ?a15 ?l15 ?c15 ?k15 ?a16 ?l16 ?c16 ?k16 ?a17 ?l17 ?c17 ?k17 ?z_ValueError ?z_int ?z_isinstance ?z_len ?z_list ?z_max ?z_min ?z_range ?z_sorted ?z_str ?z_sum ?v_MOST_RODS ?v_FIGURES ?v_MOST_SIZE ?xg_BeadError ?xx_BeadError ?xk_BeadError ?xb_BeadError ?xt_BeadError ?xg_TooFew ?xx_TooFew ?xk_TooFew ?xb_TooFew ?xt_TooFew ?xg_NoBeads ?xx_NoBeads ?xk_NoBeads ?xb_NoBeads ?xt_NoBeads ?xg_NoRods ?xx_NoRods ?xk_NoRods ?xb_NoRods ?xt_NoRods ?xg_NoCore ?xx_NoCore ?xk_NoCore ?xb_NoCore ?xt_NoCore ?xg_NoQuotient ?xx_NoQuotient ?xk_NoQuotient ?xb_NoQuotient ?xt_NoQuotient ?xg_NoCharges ?xx_NoCharges ?xk_NoCharges ?xb_NoCharges ?xt_NoCharges ?xg_NoNote ?xx_NoNote ?xk_NoNote ?xb_NoNote ?xt_NoNote ?wn ?wt ?wd_TooFew ?wd_BeadError ?ws_TooFew_BeadError ?wg_TooFew ?wk_TooFew ?wc_TooFew ?wm_TooFew ?wv_TooFew ?wd_NoBeads ?ws_NoBeads_BeadError ?wg_NoBeads ?wk_NoBeads ?wc_NoBeads ?wm_NoBeads ?wv_NoBeads ?wd_NoRods ?ws_NoRods_BeadError ?wg_NoRods ?wk_NoRods ?wc_NoRods ?wm_NoRods ?wv_NoRods ?wd_NoCore ?ws_NoCore_BeadError ?wg_NoCore ?wk_NoCore ?wc_NoCore ?wm_NoCore ?wv_NoCore ?wd_NoQuotient ?ws_NoQuotient_BeadError ?wg_NoQuotient ?wk_NoQuotient ?wc_NoQuotient ?wm_NoQuotient ?wv_NoQuotient ?wd_NoCharges ?ws_NoCharges_BeadError ?wg_NoCharges ?wk_NoCharges ?wc_NoCharges ?wm_NoCharges ?wv_NoCharges ?wd_NoNote ?ws_NoNote_BeadError ?wg_NoNote ?wk_NoNote ?wc_NoNote ?wm_NoNote ?wv_NoNote ?ws_TooFew_NoBeads ?ws_NoBeads_NoBeads ?ws_TooFew_NoRods ?ws_NoRods_NoRods ?ws_TooFew_NoCore ?ws_NoCore_NoCore ?ws_TooFew_NoQuotient ?ws_NoQuotient_NoQuotient ?ws_TooFew_NoCharges ?ws_NoCharges_NoCharges ?ws_TooFew_NoNote ?ws_NoNote_NoNote ?ws_NoBeads_TooFew ?ws_TooFew_TooFew ?ws_NoBeads_NoRods ?ws_NoBeads_NoCore ?ws_NoBeads_NoQuotient ?ws_NoBeads_NoCharges ?ws_NoBeads_NoNote ?ws_NoRods_TooFew ?ws_NoRods_NoBeads ?ws_NoRods_NoCore ?ws_NoRods_NoQuotient ?ws_NoRods_NoCharges ?ws_NoRods_NoNote ?ws_NoCore_TooFew ?ws_NoCore_NoBeads ?ws_NoCore_NoRods ?ws_NoCore_NoQuotient ?ws_NoCore_NoCharges ?ws_NoCore_NoNote ?ws_NoQuotient_TooFew ?ws_NoQuotient_NoBeads ?ws_NoQuotient_NoRods ?ws_NoQuotient_NoCore ?ws_NoQuotient_NoCharges ?ws_NoQuotient_NoNote ?ws_NoCharges_TooFew ?ws_NoCharges_NoBeads ?ws_NoCharges_NoRods ?ws_NoCharges_NoCore ?ws_NoCharges_NoQuotient ?ws_NoCharges_NoNote ?ws_NoNote_TooFew ?ws_NoNote_NoBeads ?ws_NoNote_NoRods ?ws_NoNote_NoCore ?ws_NoNote_NoQuotient ?ws_NoNote_NoCharges
    (case a0 => k_is); (case l0 => k_is); (case c0 => k_is); (case k0 => k_is); (case a1 => k_is); (case l1 => k_is); (case c1 => k_is); (case k1 => k_is); (case a2 => k_is); (case l2 => k_is); (case c2 => k_is); (case k2 => k_is); (case a3 => k_is); (case l3 => k_is); (case c3 => k_is); (case k3 => k_is); (case a4 => k_is); (case l4 => k_is); (case c4 => k_is); (case k4 => k_is); (case a5 => k_is); (case l5 => k_is); (case c5 => k_is); (case k5 => k_is); (case a6 => k_is); (case l6 => k_is); (case c6 => k_is); (case k6 => k_is); (case a7 => k_is); (case l7 => k_is); (case c7 => k_is); (case k7 => k_is); (case a8 => k_is); (case l8 => k_is); (case c8 => k_is); (case k8 => k_is); (case a9 => k_is); (case l9 => k_is); (case c9 => k_is); (case k9 => k_is); (case a10 => k_is); (case l10 => k_is); (case c10 => k_is); (case k10 => k_is); (case a11 => k_is); (case l11 => k_is); (case c11 => k_is); (case k11 => k_is); (case a12 => k_is); (case l12 => k_is); (case c12 => k_is); (case k12 => k_is); (case a13 => k_is); (case l13 => k_is); (case c13 => k_is); (case k13 => k_is); (case a14 => k_is); (case l14 => k_is); (case c14 => k_is); (case k14 => k_is); (case a15 => k_is); (case l15 => k_is); (case c15 => k_is); (case k15 => k_is); (case a16 => k_is); (case l16 => k_is); (case c16 => k_is); (case k16 => k_is); (case a17 => k_is); (case l17 => k_is); (case c17 => k_is); (case k17 => k_is); (case z_ValueError => k_is); (case z_int => k_is); (case z_isinstance => k_is); (case z_len => k_is); (case z_list => k_is); (case z_max => k_is); (case z_min => k_is); (case z_range => k_is); (case z_sorted => k_is); (case z_str => k_is); (case z_sum => k_is); (case v_MOST_RODS => k_is); (case v_FIGURES => k_is); (case v_MOST_SIZE => k_is); (case xg_BeadError => k_is); (case xx_BeadError => k_exc); (case xk_BeadError => k_is); (case xb_BeadError => k_is); (case xt_BeadError => k_is); (case xg_TooFew => k_is); (case xx_TooFew => k_exc); (case xk_TooFew => k_is); (case xb_TooFew => k_is); (case xt_TooFew => k_is); (case xg_NoBeads => k_is); (case xx_NoBeads => k_exc); (case xk_NoBeads => k_is); (case xb_NoBeads => k_is); (case xt_NoBeads => k_is); (case xg_NoRods => k_is); (case xx_NoRods => k_exc); (case xk_NoRods => k_is); (case xb_NoRods => k_is); (case xt_NoRods => k_is); (case xg_NoCore => k_is); (case xx_NoCore => k_exc); (case xk_NoCore => k_is); (case xb_NoCore => k_is); (case xt_NoCore => k_is); (case xg_NoQuotient => k_is); (case xx_NoQuotient => k_exc); (case xk_NoQuotient => k_is); (case xb_NoQuotient => k_is); (case xt_NoQuotient => k_is); (case xg_NoCharges => k_is); (case xx_NoCharges => k_exc); (case xk_NoCharges => k_is); (case xb_NoCharges => k_is); (case xt_NoCharges => k_is); (case xg_NoNote => k_is); (case xx_NoNote => k_exc); (case xk_NoNote => k_is); (case xb_NoNote => k_is); (case xt_NoNote => k_is); (case wn => k_is); (case wt => k_is); (case wd_TooFew => k_is); (case wd_BeadError => k_is); (case ws_TooFew_BeadError => k_is); (case wg_TooFew => k_is); (case wk_TooFew => k_is); (case wc_TooFew => k_is); (case wm_TooFew => k_is); (case wv_TooFew => k_is); (case wd_NoBeads => k_is); (case ws_NoBeads_BeadError => k_is); (case wg_NoBeads => k_is); (case wk_NoBeads => k_is); (case wc_NoBeads => k_is); (case wm_NoBeads => k_is); (case wv_NoBeads => k_is); (case wd_NoRods => k_is); (case ws_NoRods_BeadError => k_is); (case wg_NoRods => k_is); (case wk_NoRods => k_is); (case wc_NoRods => k_is); (case wm_NoRods => k_is); (case wv_NoRods => k_is); (case wd_NoCore => k_is); (case ws_NoCore_BeadError => k_is); (case wg_NoCore => k_is); (case wk_NoCore => k_is); (case wc_NoCore => k_is); (case wm_NoCore => k_is); (case wv_NoCore => k_is); (case wd_NoQuotient => k_is); (case ws_NoQuotient_BeadError => k_is); (case wg_NoQuotient => k_is); (case wk_NoQuotient => k_is); (case wc_NoQuotient => k_is); (case wm_NoQuotient => k_is); (case wv_NoQuotient => k_is); (case wd_NoCharges => k_is); (case ws_NoCharges_BeadError => k_is); (case wg_NoCharges => k_is); (case wk_NoCharges => k_is); (case wc_NoCharges => k_is); (case wm_NoCharges => k_is); (case wv_NoCharges => k_is); (case wd_NoNote => k_is); (case ws_NoNote_BeadError => k_is); (case wg_NoNote => k_is); (case wk_NoNote => k_is); (case wc_NoNote => k_is); (case wm_NoNote => k_is); (case wv_NoNote => k_is); (case ws_TooFew_NoBeads => k_is); (case ws_NoBeads_NoBeads => k_is); (case ws_TooFew_NoRods => k_is); (case ws_NoRods_NoRods => k_is); (case ws_TooFew_NoCore => k_is); (case ws_NoCore_NoCore => k_is); (case ws_TooFew_NoQuotient => k_is); (case ws_NoQuotient_NoQuotient => k_is); (case ws_TooFew_NoCharges => k_is); (case ws_NoCharges_NoCharges => k_is); (case ws_TooFew_NoNote => k_is); (case ws_NoNote_NoNote => k_is); (case ws_NoBeads_TooFew => k_is); (case ws_TooFew_TooFew => k_is); (case ws_NoBeads_NoRods => k_is); (case ws_NoBeads_NoCore => k_is); (case ws_NoBeads_NoQuotient => k_is); (case ws_NoBeads_NoCharges => k_is); (case ws_NoBeads_NoNote => k_is); (case ws_NoRods_TooFew => k_is); (case ws_NoRods_NoBeads => k_is); (case ws_NoRods_NoCore => k_is); (case ws_NoRods_NoQuotient => k_is); (case ws_NoRods_NoCharges => k_is); (case ws_NoRods_NoNote => k_is); (case ws_NoCore_TooFew => k_is); (case ws_NoCore_NoBeads => k_is); (case ws_NoCore_NoRods => k_is); (case ws_NoCore_NoQuotient => k_is); (case ws_NoCore_NoCharges => k_is); (case ws_NoCore_NoNote => k_is); (case ws_NoQuotient_TooFew => k_is); (case ws_NoQuotient_NoBeads => k_is); (case ws_NoQuotient_NoRods => k_is); (case ws_NoQuotient_NoCore => k_is); (case ws_NoQuotient_NoCharges => k_is); (case ws_NoQuotient_NoNote => k_is); (case ws_NoCharges_TooFew => k_is); (case ws_NoCharges_NoBeads => k_is); (case ws_NoCharges_NoRods => k_is); (case ws_NoCharges_NoCore => k_is); (case ws_NoCharges_NoQuotient => k_is); (case ws_NoCharges_NoNote => k_is); (case ws_NoNote_TooFew => k_is); (case ws_NoNote_NoBeads => k_is); (case ws_NoNote_NoRods => k_is); (case ws_NoNote_NoCore => k_is); (case ws_NoNote_NoQuotient => k_is); (case ws_NoNote_NoCharges => k_is)
