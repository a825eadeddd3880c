import PyProof.Rows.All
import Wide.All
import OpenK.AllK
import Wide.FinOn
import HandS.ForMost
import HandS.Walk
import HandS.SortInts
import HandS.IsInst
import HandS.Style
import HandS.Wide
import HandS.Conv
import HandS.More
import KE.SortData
import HandS.TupAny
import HandS.DictComp
import HandS.Strs
import HandS.Defaults
import HandS.Small
import HandS.Sort
import HandS.Deep
import KE.GoesMore
import KE.GoesEnum
import HandS.SetFor
import HandS.Text
import HandS.Head0
import HandS.Head1
import HandS.Head2
import HandS.HeadEnd
import HandS.HeadHook1
import HandS.HeadHook2
import PySem.Challenge.RW_cantmove_k92_whole_heads_heaps_and_stalk
set_option Elab.async false
set_option linter.all false
set_option maxRecDepth 100000
set_option maxHeartbeats 2000000
/-! DL: a data layer over the hand layer: slots hold plain data, cells hold what may change. -/
namespace DL
open PySem PySem.Spec PyProof.Rows L2

abbrev Fg := PySem.W.Frag

/-! ### what represents a datum -/
mutual
inductive Rp (K : Fg) (H : Hp) : V → PyData → Prop
  | non : Rp K H .non .none
  | bl (b : Bool) : Rp K H (.bl b) (.bool b)
  | int (i : Int) : Rp K H (.int i) (.int i)
  | str (x : Str) : Rp K H (.str x) (.str x)
  | lst {a : Addr} {xs : List V} {ds : List PyData} : H a = some (.lst xs) → RpA K H xs ds → Rp K H (.ref a) (.list ds)
  | tup {a : Addr} {xs : List V} {ds : List PyData} : SqT K H a xs → RpA K H xs ds → Rp K H (.ref a) (.tuple ds)
inductive RpA (K : Fg) (H : Hp) : List V → List PyData → Prop
  | nil : RpA K H [] []
  | cons {v : V} {vs : List V} {d : PyData} {ds : List PyData} : Rp K H v d → RpA K H vs ds → RpA K H (v :: vs) (d :: ds)
end
theorem same_t {K : Fg} {H H' : Hp} {a : Addr} {xs : List V} (e : Same H H') (h : SqT K H a xs) : SqT K H' a xs := by
  rcases h with (h | ⟨o, h⟩) | h
  · exact .inl (.inl (e _ _ h))
  · exact .inl (.inr ⟨o, e _ _ h⟩)
  · exact .inr h
mutual
theorem Rp.ext {K : Fg} {H H' : Hp} (e : Same H H') : ∀ {v : V} {d : PyData}, Rp K H v d → Rp K H' v d
  | _, _, .non => .non
  | _, _, .bl b => .bl b
  | _, _, .int i => .int i
  | _, _, .str x => .str x
  | _, _, .lst h hs => .lst (e _ _ h) (RpA.ext e hs)
  | _, _, .tup h hs => .tup (same_t e h) (RpA.ext e hs)
theorem RpA.ext {K : Fg} {H H' : Hp} (e : Same H H') : ∀ {vs : List V} {ds : List PyData}, RpA K H vs ds → RpA K H' vs ds
  | _, _, .nil => .nil
  | _, _, .cons h hs => .cons (Rp.ext e h) (RpA.ext e hs)
end
mutual
theorem Rp.dp {K : Fg} {H : Hp} : ∀ {v : V} {d : PyData}, Rp K H v d → Dp K H v d
  | _, _, .non => .non
  | _, _, .bl b => .bl b
  | _, _, .int i => .int i
  | _, _, .str x => .str x
  | _, _, .lst h hs => .lst (SqL.of h) (RpA.dp hs)
  | _, _, .tup h hs => .tup h (RpA.dp hs)
theorem RpA.dp {K : Fg} {H : Hp} : ∀ {vs : List V} {ds : List PyData}, RpA K H vs ds → DpAll K H vs ds
  | _, _, .nil => .nil
  | _, _, .cons h hs => .cons (Rp.dp h) (RpA.dp hs)
end
section
variable {K : Fg} {H : Hp}
theorem Rp.non_inv {v : V} (h : Rp K H v .none) : v = .non := by cases h; rfl
theorem Rp.bl_inv {v : V} {b : Bool} (h : Rp K H v (.bool b)) : v = .bl b := by cases h; rfl
theorem Rp.int_inv {v : V} {i : Int} (h : Rp K H v (.int i)) : v = .int i := by cases h; rfl
theorem Rp.str_inv {v : V} {x : Str} (h : Rp K H v (.str x)) : v = .str x := by cases h; rfl
theorem Rp.lst_inv {v : V} {ds : List PyData} (h : Rp K H v (.list ds)) : ∃ a xs, v = .ref a ∧ H a = some (.lst xs) ∧ RpA K H xs ds := by cases h with | lst h hs => exact ⟨_, _, rfl, h, hs⟩
theorem Rp.tup_inv {v : V} {ds : List PyData} (h : Rp K H v (.tuple ds)) : ∃ a xs, v = .ref a ∧ SqT K H a xs ∧ RpA K H xs ds := by cases h with | tup h hs => exact ⟨_, _, rfl, h, hs⟩
theorem RpA.len : ∀ {vs : List V} {ds : List PyData}, RpA K H vs ds → vs.length = ds.length
  | _, _, .nil => rfl
  | _, _, .cons _ hs => by simp [RpA.len hs]
theorem RpA.get : ∀ {vs : List V} {ds : List PyData} {i : Nat} {d : PyData}, RpA K H vs ds → ds[i]? = some d → ∃ v, vs[i]? = some v ∧ Rp K H v d
  | _, _, _, _, .nil, e => by simp at e
  | _, _, 0, _, .cons h _, e => by simp at e; subst e; exact ⟨_, rfl, h⟩
  | _, _, i + 1, d, .cons _ t, e => by
    obtain ⟨u, h1, h2⟩ := RpA.get (i := i) (d := d) t (by simpa using e)
    exact ⟨u, by simpa using h1, h2⟩
theorem RpA.getV : ∀ {vs : List V} {ds : List PyData} {i : Nat} {v : V}, RpA K H vs ds → vs[i]? = some v → ∃ d, ds[i]? = some d ∧ Rp K H v d
  | _, _, _, _, .nil, e => by simp at e
  | _, _, 0, _, .cons h _, e => by simp at e; subst e; exact ⟨_, rfl, h⟩
  | _, _, i + 1, d, .cons _ t, e => by
    obtain ⟨u, h1, h2⟩ := RpA.getV (i := i) (v := d) t (by simpa using e)
    exact ⟨u, by simpa using h1, h2⟩
theorem RpA.app : ∀ {vs ws : List V} {ds es : List PyData}, RpA K H vs ds → RpA K H ws es → RpA K H (vs ++ ws) (ds ++ es)
  | _, _, _, _, .nil, s => s
  | _, _, _, _, .cons r t, s => .cons r (RpA.app t s)
theorem RpA.take : ∀ {vs : List V} {ds : List PyData} (n : Nat), RpA K H vs ds → RpA K H (vs.take n) (ds.take n)
  | _, _, 0, _ => .nil
  | _, _, _ + 1, .nil => .nil
  | _, _, n + 1, .cons r t => .cons r (RpA.take n t)
theorem RpA.drop : ∀ {vs : List V} {ds : List PyData} (n : Nat), RpA K H vs ds → RpA K H (vs.drop n) (ds.drop n)
  | _, _, 0, r => r
  | _, _, _ + 1, .nil => .nil
  | _, _, n + 1, .cons _ t => RpA.drop n t
theorem RpA.rev : ∀ {vs : List V} {ds : List PyData}, RpA K H vs ds → RpA K H vs.reverse ds.reverse
  | _, _, .nil => .nil
  | _, _, .cons r t => by
    rw [List.reverse_cons, List.reverse_cons]
    exact RpA.app (RpA.rev t) (.cons r .nil)
theorem RpA.set {v : V} {d : PyData} (r : Rp K H v d) : ∀ {vs : List V} {ds : List PyData} (i : Nat), RpA K H vs ds → RpA K H (vs.set i v) (ds.set i d)
  | _, _, _, .nil => .nil
  | _, _, 0, .cons _ t => .cons r t
  | _, _, i + 1, .cons q t => .cons q (RpA.set r i t)
theorem RpA.ints : ∀ {vs : List V} {ns : List Int}, RpA K H vs (ns.map PyData.int) → vs = ns.map V.int
  | _, [], h => by cases h; rfl
  | _, n :: ns, h => by
    cases h with
    | cons h t => rw [Rp.int_inv h, RpA.ints t]; rfl
theorem RpA.of_ints : ∀ {ns : List Int}, RpA K H (ns.map V.int) (ns.map PyData.int)
  | [] => .nil
  | n :: ns => .cons (.int n) RpA.of_ints
theorem RpA.bls : ∀ {vs : List V} {ns : List Bool}, RpA K H vs (ns.map PyData.bool) → vs = ns.map V.bl
  | _, [], h => by cases h; rfl
  | _, n :: ns, h => by
    cases h with
    | cons h t => rw [Rp.bl_inv h, RpA.bls t]; rfl
theorem RpA.strs : ∀ {vs : List V} {ns : List Str}, RpA K H vs (ns.map PyData.str) → vs = ns.map V.str
  | _, [], h => by cases h; rfl
  | _, n :: ns, h => by
    cases h with
    | cons h t => rw [Rp.str_inv h, RpA.strs t]; rfl
end

/-! ### slots, cells -/
inductive Sl where
  | un | d (x : PyData) | rd (xs : List PyData) | v (x : V)
inductive MC where
  | lst (xs : List PyData) | dic (kvs : List (Key × PyData)) | raw (o : HO)
abbrev Cs := List (Addr × MC)

def VOk (K : Fg) (F B : Hp) (x : V) : Sl → Prop
  | .un => True
  | .d y => Rp K B x y
  | .rd ys => ∃ a xs, x = .ref a ∧ SqL K F a xs ∧ RpA K B xs ys
  | .v y => x = y
def OOk (K : Fg) (F B : Hp) (o : Option V) : Sl → Prop
  | .un => True
  | s => ∃ x, o = some x ∧ VOk K F B x s
abbrev SOk (K : Fg) (F B : Hp) : List (Option V) → List Sl → Prop := Paired (OOk K F B)
abbrev KOk (K : Fg) (F B : Hp) : List V → List Sl → Prop := Paired (VOk K F B)
def MOk (K : Fg) (B : Hp) (o : HO) : MC → Prop
  | .raw u => o = u
  | .lst xs => ∃ vs, o = .lst vs ∧ RpA K B vs xs
  | .dic es => ∃ kvs, o = .dK kvs ∧ Paired (fun (p : Key × V) (q : Key × PyData) => p.1 = q.1 ∧ Rp K B p.2 q.2) kvs es
structure CellOk (K : Fg) (F B H : Hp) (c : Addr × MC) : Prop where
  b : B c.1 = none
  f : F c.1 = none
  o : ∃ o, H c.1 = some o ∧ MOk K B o c.2
structure GoodB (K : Fg) (B0 F : Hp) (M : Cs) (ρ κ : List Sl) (σ : List (Option V)) (vs : List V) (H B : Hp) : Prop where
  b0 : Same B0 B
  bh : Same B H
  fh : Same F H
  new : ∀ a, B a ≠ none → B0 a ≠ none ∨ F a = none
  cells : ∀ c, c ∈ M → CellOk K F B H c
  nd : (M.map (·.1)).Nodup
  sl : SOk K F B σ ρ
  st : KOk K F B vs κ
def Good (K : Fg) (B0 F : Hp) (M : Cs) (ρ κ : List Sl) (σ : List (Option V)) (vs : List V) (H : Hp) : Prop := ∃ B, GoodB K B0 F M ρ κ σ vs H B

section
variable {K : Fg} {B0 F B B' H H' : Hp} {M : Cs} {ρ κ : List Sl} {σ : List (Option V)} {vs : List V}
theorem VOk.ext {x : V} {s : Sl} (e : Same B B') (h : VOk K F B x s) : VOk K F B' x s := by
  cases s with
  | un => trivial
  | d y => exact Rp.ext e h
  | rd ys => obtain ⟨a, xs, h1, h2, h3⟩ := h; exact ⟨a, xs, h1, h2, h3.ext e⟩
  | v y => exact h
theorem OOk.ext {x : Option V} {s : Sl} (e : Same B B') (h : OOk K F B x s) : OOk K F B' x s := by
  cases s with
  | un => trivial
  | d y => obtain ⟨x, h1, h2⟩ := h; exact ⟨x, h1, h2.ext e⟩
  | rd ys => obtain ⟨x, h1, h2⟩ := h; exact ⟨x, h1, h2.ext e⟩
  | v y => obtain ⟨x, h1, h2⟩ := h; exact ⟨x, h1, h2.ext e⟩
theorem OOk.of {x : V} {s : Sl} (h : VOk K F B x s) : OOk K F B (some x) s := by
  cases s with
  | un => trivial
  | d y => exact ⟨x, rfl, h⟩
  | rd ys => exact ⟨x, rfl, h⟩
  | v y => exact ⟨x, rfl, h⟩
theorem OOk.v {o : Option V} {s : Sl} (hs : s ≠ .un) (h : OOk K F B o s) : ∃ x, o = some x ∧ VOk K F B x s := by
  cases s with
  | un => exact absurd rfl hs
  | d y => exact h
  | rd ys => exact h
  | v y => exact h
theorem MOk.ext {o : HO} {c : MC} (e : Same B B') (h : MOk K B o c) : MOk K B' o c := by
  cases c with
  | raw u => exact h
  | lst xs => obtain ⟨vs, h1, h2⟩ := h; exact ⟨vs, h1, h2.ext e⟩
  | dic es => obtain ⟨kvs, h1, h2⟩ := h; exact ⟨kvs, h1, Paired.mapP h2 fun _ _ z => ⟨z.1, z.2.ext e⟩⟩
theorem Paired.get? {α β : Type} {R : α → β → Prop} : ∀ {l : List α} {m : List β} {i : Nat} {b : β}, Paired R l m → m[i]? = some b → ∃ a, l[i]? = some a ∧ R a b
  | _, _, _, _, .nil, e => by simp at e
  | _, _, 0, _, .cons h _, e => by simp at e; subst e; exact ⟨_, rfl, h⟩
  | _, _, i + 1, d, .cons _ t, e => by
    obtain ⟨u, h1, h2⟩ := Paired.get? (i := i) (b := d) t (by simpa using e)
    exact ⟨u, by simpa using h1, h2⟩
theorem Paired.set {α β : Type} {R : α → β → Prop} {a : α} {b : β} (r : R a b) : ∀ {l : List α} {m : List β} (i : Nat), Paired R l m → Paired R (l.set i a) (m.set i b)
  | _, _, _, .nil => .nil
  | _, _, 0, .cons _ t => .cons r t
  | _, _, i + 1, .cons q t => .cons q (Paired.set r i t)
theorem Paired.app {α β : Type} {R : α → β → Prop} : ∀ {l l' : List α} {m m' : List β}, Paired R l m → Paired R l' m' → Paired R (l ++ l') (m ++ m')
  | _, _, _, _, .nil, s => s
  | _, _, _, _, .cons r t, s => .cons r (Paired.app t s)

/-- an object that never changes is laid -/
theorem GoodB.laid {p : Addr} {o : HO} (g : GoodB K B0 F M ρ κ σ vs H B) (hp : H p = none) : GoodB K B0 F M ρ κ σ vs (upd H p o) (upd B p o) := by
  have bp : B p = none := g.bh.free hp
  have e : Same B (upd B p o) := fun a u z => by rw [upd_ne (ne_of_none z bp)]; exact z
  refine ⟨g.b0.trans e, fun a u z => ?_, fun a u z => ?_, fun a ha => ?_, fun c hc => ?_, g.nd, Paired.mapP g.sl fun _ _ z => z.ext e, Paired.mapP g.st fun _ _ z => z.ext e⟩
  · by_cases q : a = p
    · subst q; rw [upd_same] at z ⊢; exact z
    · rw [upd_ne q] at z ⊢; exact g.bh a u z
  · rw [upd_ne (ne_of_none (g.fh a u z) hp)]; exact g.fh a u z
  · by_cases q : a = p
    · subst q; exact .inr (g.fh.free hp)
    · rw [upd_ne q] at ha; exact g.new a ha
  · obtain ⟨h1, h2, u, h3, h4⟩ := g.cells c hc
    have q : c.1 ≠ p := ne_of_none h3 hp
    exact ⟨by rw [upd_ne q]; exact h1, h2, u, by rw [upd_ne q]; exact h3, h4.ext e⟩
/-- a cell is laid -/
theorem GoodB.cell {p : Addr} {o : HO} {c : MC} (g : GoodB K B0 F M ρ κ σ vs H B) (hp : H p = none) (hc : MOk K B o c) : GoodB K B0 F ((p, c) :: M) ρ κ σ vs (upd H p o) B := by
  have bp : B p = none := g.bh.free hp
  have fp : F p = none := g.fh.free hp
  refine ⟨g.b0, fun a u z => ?_, fun a u z => ?_, g.new, fun d hd => ?_, ?_, g.sl, g.st⟩
  · rw [upd_ne (ne_of_none z bp)]; exact g.bh a u z
  · rw [upd_ne (ne_of_none z fp)]; exact g.fh a u z
  · rcases List.mem_cons.mp hd with e | hd
    · subst e; exact ⟨bp, fp, o, upd_same, hc⟩
    · obtain ⟨h1, h2, u, h3, h4⟩ := g.cells d hd
      exact ⟨h1, h2, u, by rw [upd_ne (ne_of_none h3 hp)]; exact h3, h4⟩
  · rw [List.map_cons, List.nodup_cons]
    refine ⟨fun z => ?_, g.nd⟩
    obtain ⟨d, hd, e⟩ := List.mem_map.mp z
    obtain ⟨_, _, u, h3, _⟩ := g.cells d hd
    exact ne_of_none h3 hp e
theorem nodup_at {M : Cs} (h : (M.map (·.1)).Nodup) {i j : Nat} {c d : Addr × MC} (hi : M[i]? = some c) (hj : M[j]? = some d) (e : c.1 = d.1) : i = j := by
  have a : (M.map (·.1))[i]? = some c.1 := by rw [List.getElem?_map, hi]; rfl
  have b : (M.map (·.1))[j]? = some c.1 := by rw [List.getElem?_map, hj, e]; rfl
  obtain ⟨h1, e1⟩ := List.getElem?_eq_some_iff.mp a
  obtain ⟨h2, e2⟩ := List.getElem?_eq_some_iff.mp b
  exact (List.getElem_inj h).mp (e1.trans e2.symm)
/-- a cell is written -/
theorem GoodB.write {j : Nat} {p : Addr} {c c' : MC} {o : HO} (g : GoodB K B0 F M ρ κ σ vs H B) (hj : M[j]? = some (p, c)) (hc : MOk K B o c') : GoodB K B0 F (M.set j (p, c')) ρ κ σ vs (upd H p o) B := by
  obtain ⟨bp, fp, _⟩ := g.cells (p, c) (List.mem_of_getElem? hj)
  refine ⟨g.b0, fun a u z => ?_, fun a u z => ?_, g.new, fun d hd => ?_, ?_, g.sl, g.st⟩
  · rw [upd_ne (ne_of_none z bp)]; exact g.bh a u z
  · rw [upd_ne (ne_of_none z fp)]; exact g.fh a u z
  · obtain ⟨i, hi⟩ := List.mem_iff_getElem?.mp hd
    by_cases hij : j = i
    · subst hij
      have hl : j < M.length := (List.getElem?_eq_some_iff.mp hj).1
      rw [List.getElem?_set_self hl] at hi
      cases hi
      exact ⟨bp, fp, o, upd_same, hc⟩
    · rw [List.getElem?_set_ne hij] at hi
      obtain ⟨h1, h2, u, h3, h4⟩ := g.cells d (List.mem_of_getElem? hi)
      refine ⟨h1, h2, u, ?_, h4⟩
      rw [upd_ne (fun e => hij (nodup_at g.nd hj hi e.symm))]
      exact h3
  · have : (M.set j (p, c')).map (·.1) = M.map (·.1) := by
      rw [List.map_set]
      show (M.map (·.1)).set j p = M.map (·.1)
      refine List.ext_getElem? fun i => ?_
      by_cases hij : j = i
      · subst hij
        rw [List.getElem?_set, List.getElem?_map, hj]
        simp
        exact (List.getElem?_eq_some_iff.mp hj).1
      · rw [List.getElem?_set_ne hij]
    rw [this]
    exact g.nd
/-- a list cell becomes data: v the value of the stack's top -/
theorem GoodB.freeze {p : Addr} {xs : List PyData} (g : GoodB K B0 F ((p, .lst xs) :: M) ρ κ σ vs H B) : ∃ B', GoodB K B0 F M ρ (.d (.list xs) :: κ) σ (.ref p :: vs) H B' := by
  obtain ⟨bp, fp, o, ho, ws, rfl, hw⟩ := g.cells _ List.mem_cons_self
  have e : Same B (upd B p (.lst ws)) := fun a u z => by rw [upd_ne (ne_of_none z bp)]; exact z
  have nd := g.nd
  rw [List.map_cons, List.nodup_cons] at nd
  refine ⟨upd B p (.lst ws), g.b0.trans e, fun a u z => ?_, g.fh, fun a ha => ?_, fun c hc => ?_, nd.2, Paired.mapP g.sl fun _ _ z => z.ext e, .cons ?_ (Paired.mapP g.st fun _ _ z => z.ext e)⟩
  · by_cases q : a = p
    · subst q; rw [upd_same] at z; rw [← z]; exact ho
    · rw [upd_ne q] at z; exact g.bh a u z
  · by_cases q : a = p
    · subst q; exact .inr fp
    · rw [upd_ne q] at ha; exact g.new a ha
  · obtain ⟨h1, h2, u, h3, h4⟩ := g.cells c (List.mem_cons_of_mem _ hc)
    have q : c.1 ≠ p := fun q => nd.1 (List.mem_map.mpr ⟨c, hc, q⟩)
    exact ⟨by rw [upd_ne q]; exact h1, h2, u, h3, h4.ext e⟩
  · exact .lst upd_same (hw.ext e)
theorem GoodB.stk {κ' : List Sl} {vs' : List V} (g : GoodB K B0 F M ρ κ σ vs H B) (h : KOk K F B vs' κ') : GoodB K B0 F M ρ κ' σ vs' H B := ⟨g.b0, g.bh, g.fh, g.new, g.cells, g.nd, g.sl, h⟩
theorem GoodB.slt {ρ' : List Sl} {σ' : List (Option V)} (g : GoodB K B0 F M ρ κ σ vs H B) (h : SOk K F B σ' ρ') : GoodB K B0 F M ρ' κ σ' vs H B := ⟨g.b0, g.bh, g.fh, g.new, g.cells, g.nd, h, g.st⟩
theorem GoodB.fst {r : Sl} {v : V} (g : GoodB K B0 F M ρ (r :: κ) σ (v :: vs) H B) : VOk K F B v r := by cases g.st; assumption
theorem GoodB.pop {r : Sl} {v : V} (g : GoodB K B0 F M ρ (r :: κ) σ (v :: vs) H B) : GoodB K B0 F M ρ κ σ vs H B := g.stk (by cases g.st; assumption)
theorem GoodB.push {r : Sl} {v : V} (g : GoodB K B0 F M ρ κ σ vs H B) (h : VOk K F B v r) : GoodB K B0 F M ρ (r :: κ) σ (v :: vs) H B := g.stk (.cons h g.st)
theorem Good.push {r : Sl} {v : V} (g : Good K B0 F M ρ κ σ vs H) (h : ∀ B, GoodB K B0 F M ρ κ σ vs H B → VOk K F B v r) : Good K B0 F M ρ (r :: κ) σ (v :: vs) H := by
  obtain ⟨B, g⟩ := g; exact ⟨B, g.push (h B g)⟩
theorem Good.pop {r : Sl} {v : V} (g : Good K B0 F M ρ (r :: κ) σ (v :: vs) H) : Good K B0 F M ρ κ σ vs H := by
  obtain ⟨B, g⟩ := g; exact ⟨B, g.pop⟩
/-- the stack's top is int i -/
theorem Good.int {i : Int} {v : V} (g : Good K B0 F M ρ (.d (.int i) :: κ) σ (v :: vs) H) : v = .int i := by
  obtain ⟨B, g⟩ := g; exact Rp.int_inv g.fst
theorem Good.bl {i : Bool} {v : V} (g : Good K B0 F M ρ (.d (.bool i) :: κ) σ (v :: vs) H) : v = .bl i := by
  obtain ⟨B, g⟩ := g; exact Rp.bl_inv g.fst
theorem Good.str {i : Str} {v : V} (g : Good K B0 F M ρ (.d (.str i) :: κ) σ (v :: vs) H) : v = .str i := by
  obtain ⟨B, g⟩ := g; exact Rp.str_inv g.fst
theorem Good.ref {i : V} {v : V} (g : Good K B0 F M ρ (.v i :: κ) σ (v :: vs) H) : v = i := by
  obtain ⟨B, g⟩ := g; exact g.fst
end
end DL
set_option maxHeartbeats 2000000
namespace DL
open PySem PySem.Spec PyProof.Rows L2

section
variable {K : Fg} {B0 F B B' H H' : Hp} {M : Cs} {ρ κ : List Sl} {σ : List (Option V)} {vs : List V}
theorem Good.pushD {d : PyData} {v : V} (g : Good K B0 F M ρ κ σ vs H) (h : ∀ B, GoodB K B0 F M ρ κ σ vs H B → Rp K B v d) : Good K B0 F M ρ (.d d :: κ) σ (v :: vs) H := g.push h
theorem Good.pushV {v : V} (g : Good K B0 F M ρ κ σ vs H) : Good K B0 F M ρ (.v v :: κ) σ (v :: vs) H := g.push fun _ _ => rfl
theorem GoodB.pushD {d : PyData} {v : V} (g : GoodB K B0 F M ρ κ σ vs H B) (h : Rp K B v d) : GoodB K B0 F M ρ (.d d :: κ) σ (v :: vs) H B := g.push h
theorem GoodB.pushV {v : V} (g : GoodB K B0 F M ρ κ σ vs H B) : GoodB K B0 F M ρ (.v v :: κ) σ (v :: vs) H B := g.push rfl
end

/-! ### every piece of syntax reads itself -/
section
variable (X : Cx)
def tOf (e : Expr) : TE := fun σ H Q => ∀ pins s, Inv X pins σ H s → wpAny (model X.prog X.w) X.A (eval e X.env) (EP X pins σ Q) X.xe s
def tOfT (e : Expr) : TT := fun σ H Q => ∀ pins s, Inv X pins σ H s → wpAny (model X.prog X.w) X.A (isTrue e X.env (eval e X.env)) (TP X pins σ Q) X.xe s
def tOfW (e : Expr) : TT := fun σ H Q => ∀ whole pins s, Inv X pins σ H s → wpAny (model X.prog X.w) X.A (isTrue e X.env whole) (TP X pins σ Q) X.xe s
def tOfA (es : List Expr) : TA := fun σ H Q => ∀ pos pins s, Inv X pins σ H s → wpAny (model X.prog X.w) X.A (spliced (backTo pos (starEach es X.env))) (AP X pins σ Q) X.xe s
def tOfS (st : Stmt) : TS := fun D σ H => ∀ pins s, Inv X pins σ H s → wpAny (model X.prog X.w) X.A (exec st X.env) (SP X pins D) X.xe s
def tOfB (st : List Stmt) : TS := fun D σ H => ∀ pins s, Inv X pins σ H s → wpAny (model X.prog X.w) X.A (execs st X.env) (SP X pins D) X.xe s
def tOfG (tg : Expr) : TG := fun v σ H Q => ∀ pins s u, Inv X pins σ H s → RelV v u → wpAny (model X.prog X.w) X.A (assign tg X.env u) (fun _ s' => ∃ σ' H', Inv X pins σ' H' s' ∧ Q σ' H') X.xe s
def tOfGs (ts : List Expr) : TGs := fun vs σ H Q => ∀ pins s us, Inv X pins σ H s → Vals vs us → wpAny (model X.prog X.w) X.A (assignInOrder ((assignEach ts X.env).map (·.2)) us) (fun _ s' => ∃ σ' H', Inv X pins σ' H' s' ∧ Q σ' H') X.xe s
def tOfI (tg iter : Expr) : TI := fun σ H R => ∀ pins s, Inv X pins σ H s → wpAny (model X.prog X.w) X.A (eval iter X.env) (fun v s1 => wpAny (model X.prog X.w) X.A (pyIter v) (PIE X pins σ tg R) X.xe s1) X.xe s
def tOfO (e : Option Expr) : TO := fun σ H Q => ∀ t, PO X e t → t σ H Q
variable {X} {e : Expr} {es : List Expr} {st : Stmt} {sts : List Stmt} {tg iter : Expr}
theorem pe_self : PE X e (tOf X e) := ⟨fun pins s _ _ _ I h => h pins s I⟩
theorem pt_self : PT X e (tOfT X e) := ⟨fun pins s _ _ _ I h => h pins s I⟩
theorem pw_self : PW X e (tOfW X e) := ⟨fun wh pins s _ _ _ I h => h wh pins s I⟩
theorem pa_self : PA X es (tOfA X es) := ⟨fun pos pins s _ _ _ I h => h pos pins s I⟩
theorem ps_self : PS X st (tOfS X st) := ⟨fun pins s _ _ _ I h => h pins s I⟩
theorem pb_self : PSs X sts (tOfB X sts) := ⟨fun pins s _ _ _ I h => h pins s I⟩
theorem pg_self : PG X tg (tOfG X tg) := ⟨fun pins s _ _ _ u _ I r h => h pins s u I r⟩
theorem pgs_self {ts : List Expr} : PGs X ts (tOfGs X ts) := ⟨fun pins s _ _ _ us _ I r h => h pins s us I r⟩
theorem pi_self : PI X tg iter (tOfI X tg iter) := ⟨fun pins s _ _ _ I h => h pins s I⟩
theorem tOf_of {t : TE} (h : PE X e t) {σ : L2.St} {H : Hp} {Q : VK} (q : t σ H Q) : tOf X e σ H Q := fun pins s I => h.run pins s σ H Q I q
theorem tOfT_of {t : TT} (h : PT X e t) {σ : L2.St} {H : Hp} {Q : Bool → Hp → Prop} (q : t σ H Q) : tOfT X e σ H Q := fun pins s I => h.run pins s σ H Q I q
theorem tOfW_of {t : TT} (h : PW X e t) {σ : L2.St} {H : Hp} {Q : Bool → Hp → Prop} (q : t σ H Q) : tOfW X e σ H Q := fun wh pins s I => h.run wh pins s σ H Q I q
theorem tOfA_of {t : TA} (h : PA X es t) {σ : L2.St} {H : Hp} {Q : List V → Hp → Prop} (q : t σ H Q) : tOfA X es σ H Q := fun pos pins s I => h.run pos pins s σ H Q I q
theorem tOfS_of {t : TS} (h : PS X st t) {σ : L2.St} {H : Hp} {D : Ends} (q : t D σ H) : tOfS X st D σ H := fun pins s I => h.run pins s σ H D I q
theorem tOfB_of {t : TS} (h : PSs X sts t) {σ : L2.St} {H : Hp} {D : Ends} (q : t D σ H) : tOfB X sts D σ H := fun pins s I => h.run pins s σ H D I q
theorem tOfG_of {t : TG} (h : PG X tg t) {v : V} {σ : L2.St} {H : Hp} {Q : L2.St → Hp → Prop} (q : t v σ H Q) : tOfG X tg v σ H Q := fun pins s u I r => h.run pins s σ H v u Q I r q
theorem tOfGs_of {ts : List Expr} {t : TGs} (h : PGs X ts t) {vs : List V} {σ : L2.St} {H : Hp} {Q : L2.St → Hp → Prop} (q : t vs σ H Q) : tOfGs X ts vs σ H Q := fun pins s us I r => h.run pins s σ H vs us Q I r q
theorem tOfI_of {t : TI} (h : PI X tg iter t) {σ : L2.St} {H : Hp} {R : It → Hp → Prop} (q : t σ H R) : tOfI X tg iter σ H R := fun pins s I => h.run pins s σ H R I q
end

/-! ### judgements over data -/
section
variable (X : Cx) (B0 F : Hp) (M : Cs) (ρ κ : List Sl)
def DE (e : Expr) (P : Sl → Cs → Prop) : Prop := ∀ σ vs H Q, Good X.K B0 F M ρ κ σ vs H → (∀ v H' r M', Good X.K B0 F M' ρ (r :: κ) σ (v :: vs) H' → P r M' → Q v H') → tOf X e σ H Q
def DT (e : Expr) (P : Bool → Cs → Prop) : Prop := ∀ σ vs H Q, Good X.K B0 F M ρ κ σ vs H → (∀ b H' M', Good X.K B0 F M' ρ κ σ vs H' → P b M' → Q b H') → tOfT X e σ H Q
def DW (e : Expr) (P : Bool → Cs → Prop) : Prop := ∀ σ vs H Q, Good X.K B0 F M ρ κ σ vs H → (∀ b H' M', Good X.K B0 F M' ρ κ σ vs H' → P b M' → Q b H') → tOfW X e σ H Q
def DA (es : List Expr) (P : List Sl → Cs → Prop) : Prop := ∀ σ vs H Q, Good X.K B0 F M ρ κ σ vs H → (∀ ws H' rs M', ws.length = rs.length → Good X.K B0 F M' ρ (rs ++ κ) σ (ws ++ vs) H' → P rs M' → Q ws H') → tOfA X es σ H Q
structure KK where
  nx : Cs → List Sl → Prop
  rt : Sl → Cs → Prop
  bk : Cs → List Sl → Prop := fun _ _ => False
  ct : Cs → List Sl → Prop := fun _ _ => False
structure Conn (K : Fg) (vs : List V) (k : KK) (D : Ends) : Prop where
  nx : ∀ σ' H' M' ρ', Good K B0 F M' ρ' κ σ' vs H' → k.nx M' ρ' → D.nx σ' H'
  rt : ∀ v H' r M', Good K B0 F M' [] [r] [] [v] H' → k.rt r M' → D.rt v H'
  bk : ∀ σ' H' M' ρ', Good K B0 F M' ρ' κ σ' vs H' → k.bk M' ρ' → D.bk σ' H'
  ct : ∀ σ' H' M' ρ', Good K B0 F M' ρ' κ σ' vs H' → k.ct M' ρ' → D.ct σ' H'
def DS (s : Stmt) (k : KK) : Prop := ∀ σ vs H D, Good X.K B0 F M ρ κ σ vs H → Conn B0 F κ X.K vs k D → tOfS X s D σ H
def DB (s : List Stmt) (k : KK) : Prop := ∀ σ vs H D, Good X.K B0 F M ρ κ σ vs H → Conn B0 F κ X.K vs k D → tOfB X s D σ H
/-- a target takes what r says -/
def DG (r : Sl) (tg : Expr) (P : Cs → List Sl → Prop) : Prop := ∀ σ vs H x Q, Good X.K B0 F M ρ (r :: κ) σ (x :: vs) H → (∀ σ' H' M' ρ', Good X.K B0 F M' ρ' κ σ' vs H' → P M' ρ' → Q σ' H') → tOfG X tg x σ H Q
def DGs (rs : List Sl) (ts : List Expr) (P : Cs → List Sl → Prop) : Prop := ∀ σ vs H xs Q, xs.length = rs.length → Good X.K B0 F M ρ (rs ++ κ) σ (xs ++ vs) H → (∀ σ' H' M' ρ', Good X.K B0 F M' ρ' κ σ' vs H' → P M' ρ' → Q σ' H') → tOfGs X ts xs σ H Q
end
/-- an operation on two values, by their slots -/
def R2D (K : Fg) (B0 F : Hp) (ρ κ : List Sl) (r : R2) (r1 r2 : Sl) (M : Cs) (P : Sl → Cs → Prop) : Prop := ∀ σ vs H x y Q, Good K B0 F M ρ (r2 :: r1 :: κ) σ (y :: x :: vs) H → (∀ v H' r' M', Good K B0 F M' ρ (r' :: κ) σ (v :: vs) H' → P r' M' → Q v H') → r x y H Q
def R1D (K : Fg) (B0 F : Hp) (ρ κ : List Sl) (r : V → Hp → VK → Prop) (r1 : Sl) (M : Cs) (P : Sl → Cs → Prop) : Prop := ∀ σ vs H x Q, Good K B0 F M ρ (r1 :: κ) σ (x :: vs) H → (∀ v H' r' M', Good K B0 F M' ρ (r' :: κ) σ (v :: vs) H' → P r' M' → Q v H') → r x H Q
def RnD (K : Fg) (B0 F : Hp) (ρ κ : List Sl) (r : List V → Hp → VK → Prop) (rs : List Sl) (M : Cs) (P : Sl → Cs → Prop) : Prop := ∀ σ vs H xs Q, xs.length = rs.length → Good K B0 F M ρ (rs ++ κ) σ (xs ++ vs) H → (∀ v H' r' M', Good K B0 F M' ρ (r' :: κ) σ (v :: vs) H' → P r' M' → Q v H') → r xs H Q

section
variable {X : Cx} {B0 F : Hp} {M : Cs} {ρ κ : List Sl} {P : Sl → Cs → Prop} {a b c e : Expr} {pos : Pos}

/-! ### names, constants -/
theorem de_name (i : Nat) {x : Str} {pos : Pos} {r : Sl} (hr : ρ[i]? = some r) (hu : r ≠ .un) (h : P r M) (hN : X.N[i]? = some x := by rfl) (hv : Vis X.env.scope x := by first | exact Or.inl rfl | exact Or.inr (Or.inl rfl) | exact Or.inr (Or.inr rfl)) (hd : (x == ("__debug__" : Str)) = false := by decide)
    (hcd : (x == ("__classdict__" : Str)) = false := by decide) : DE X B0 F M ρ κ (.Name x pos) P := fun σ vs H Q g q => by
  obtain ⟨B, g⟩ := g
  obtain ⟨o, ho, hok⟩ := Paired.get? g.sl hr
  obtain ⟨v, rfl, hv'⟩ := OOk.v hu hok
  exact tOf_of (pe_var hN hv hd hcd) ⟨v, ho, q v H r M ⟨B, g.push hv'⟩ h⟩
theorem de_int {i j pos} (h : P (.d (.int i)) M) : DE X B0 F M ρ κ (.Constant (.int i) j pos) P := fun σ vs H Q g q => tOf_of pe_int (q _ H _ M (g.pushD fun _ _ => Rp.int i) h)
theorem de_bl {i j pos} (h : P (.d (.bool i)) M) : DE X B0 F M ρ κ (.Constant (.bool i) j pos) P := fun σ vs H Q g q => tOf_of pe_bl (q _ H _ M (g.pushD fun _ _ => Rp.bl i) h)
theorem de_non {j pos} (h : P (.d .none) M) : DE X B0 F M ρ κ (.Constant .none j pos) P := fun σ vs H Q g q => tOf_of pe_non (q _ H _ M (g.pushD fun _ _ => Rp.non) h)
theorem de_str {i j pos} (h : P (.d (.str i)) M) : DE X B0 F M ρ κ (.Constant (.str i) j pos) P := fun σ vs H Q g q => tOf_of pe_str (q _ H _ M (g.pushD fun _ _ => Rp.str i) h)
/-- a module's constant, by what stands in the written part -/
theorem de_glob {x : Str} {v : V} {d : PyData} {u : Value} {pos : Pos} (hm : X.mg x = some u) (r : RelV v u) (hd : ∀ H, Rp X.K H v d) (h : P (.d d) M) (hg : Gl X x := by rfl) (hdb : (x == ("__debug__" : Str)) = false := by decide) : DE X B0 F M ρ κ (.Name x pos) P :=
  fun σ vs H Q g q => tOf_of (pe_glob hg hm r hdb) (q _ H _ M (g.pushD fun B _ => hd B) h)
/-- a built-in class as a value -/
theorem de_ty {x : Str} {T : String} {pos : Pos} (hm : X.mg x = none) (hv : bootBuiltins x = some (.type T)) (h : P (.v (.ty T)) M) (hg : Gl X x := by rfl) (hn : x ≠ "__name__" := by decide) (hdb : (x == ("__debug__" : Str)) = false := by decide) : DE X B0 F M ρ κ (.Name x pos) P :=
  fun σ vs H Q g q => tOf_of (pe_bltn (v := .ty T) hg hm hv rfl hn hdb) (q _ H _ M g.pushV h)
/-- weaker wishes -/
theorem DE.mono {P' : Sl → Cs → Prop} (h : DE X B0 F M ρ κ e P) (w : ∀ r M, P r M → P' r M) : DE X B0 F M ρ κ e P' := fun σ vs H Q g q => h σ vs H Q g fun v H' r M' g' p => q v H' r M' g' (w r M' p)
/-- a list cell just made becomes data -/
theorem de_freeze (h : DE X B0 F M ρ κ e fun r M1 => ∃ p xs M2, r = .v (.ref p) ∧ M1 = (p, .lst xs) :: M2 ∧ P (.d (.list xs)) M2) : DE X B0 F M ρ κ e P := fun σ vs H Q g q => h σ vs H Q g fun v H' r M' g' p => by
  obtain ⟨p, xs, M2, rfl, rfl, hp⟩ := p
  have e := g'.ref
  subst e
  obtain ⟨B, g'⟩ := g'
  exact q _ H' _ M2 g'.pop.freeze hp

/-! ### operators -/
theorem de_op {op : Operator} {r : R2} (ho : OpR X (binaryOp op) r) (h : DE X B0 F M ρ κ a fun r1 M1 => DE X B0 F M1 ρ (r1 :: κ) b fun r2 M2 => R2D X.K B0 F ρ κ r r1 r2 M2 P) : DE X B0 F M ρ κ (.BinOp a op b pos) P :=
  fun σ vs H Q g q => tOf_of (pe_op ho pe_self pe_self) (h σ vs H _ g fun x H1 r1 M1 g1 h1 => h1 σ (x :: vs) H1 _ g1 fun y H2 r2 M2 g2 h2 => h2 σ vs H2 x y Q g2 q)
theorem de_unop {op : UnaryOp} {r : V → Hp → VK → Prop} (ho : UnR X (unaryOp op) r) (h : DE X B0 F M ρ κ a fun r1 M1 => R1D X.K B0 F ρ κ r r1 M1 P) : DE X B0 F M ρ κ (.UnaryOp op a pos) P :=
  fun σ vs H Q g q => tOf_of (pe_un ho pe_self) (h σ vs H _ g fun x H1 r1 M1 g1 h1 => h1 σ vs H1 x Q g1 q)
theorem de_cmp {op : CmpOp} {r : R2} (ho : OpR X (compareOp op) r) (h : DE X B0 F M ρ κ a fun r1 M1 => DE X B0 F M1 ρ (r1 :: κ) b fun r2 M2 => R2D X.K B0 F ρ κ r r1 r2 M2 P) (hm : behindInMarks op b = false := by first | rfl | exact nomark _) : DE X B0 F M ρ κ (.Compare a [op] [b] pos) P :=
  fun σ vs H Q g q => tOf_of (pe_cmpR ho pe_self pe_self hm) (h σ vs H _ g fun x H1 r1 M1 g1 h1 => h1 σ (x :: vs) H1 _ g1 fun y H2 r2 M2 g2 h2 => h2 σ vs H2 x y Q g2 q)
theorem dt_cmp {op : CmpOp} {r : R2} {P : Bool → Cs → Prop} (ho : OpR X (compareOp op) r) (h : DE X B0 F M ρ κ a fun r1 M1 => DE X B0 F M1 ρ (r1 :: κ) b fun r2 M2 => R2D X.K B0 F ρ κ r r1 r2 M2 fun r' M' => ∃ k, r' = .d (.bool k) ∧ P k M') (hm : behindInMarks op b = false := by first | rfl | exact nomark _) : DT X B0 F M ρ κ (.Compare a [op] [b] pos) P :=
  fun σ vs H Q g q => tOfT_of (pt_cmpR ho pe_self pe_self hm) (h σ vs H _ g fun x H1 r1 M1 g1 h1 => h1 σ (x :: vs) H1 _ g1 fun y H2 r2 M2 g2 h2 => h2 σ vs H2 x y _ g2 fun v H' r' M' g' p => by
    obtain ⟨k, rfl, p⟩ := p
    have e := g'.bl
    subst e
    exact ⟨k, rfl, q k H' M' g'.pop p⟩)
/-- a chain a < b < c -/
theorem de_chain {op op' : CmpOp} {r r' : R2} (ho : OpR X (compareOp op) r) (ho' : OpR X (compareOp op') r')
    (h : DE X B0 F M ρ κ a fun r1 M1 => DE X B0 F M1 ρ (r1 :: κ) b fun r2 M2 => R2D X.K B0 F ρ (r2 :: r1 :: κ) r r1 r2 M2 fun z M3 => ∃ k, z = .d (.bool k) ∧
      (k = true → DE X B0 F M3 ρ (r2 :: r1 :: κ) c fun r3 M4 => R2D X.K B0 F ρ κ r' r2 r3 M4 P) ∧ (k = false → P (.d (.bool false)) M3))
    (pe : PE X (.Compare a [op, op'] [b, c] pos) (tChain r r' (tOf X a) (tOf X b) (tOf X c)) := by first | exact pe_chain ho ho' pe_self pe_self pe_self (nomark _) (nomark _) | exact pe_chain ho ho' pe_self pe_self pe_self) : DE X B0 F M ρ κ (.Compare a [op, op'] [b, c] pos) P := fun σ vs H Q g q => by
  refine tOf_of pe ?_
  refine h σ vs H _ g fun x H1 r1 M1 g1 h1 => h1 σ (x :: vs) H1 _ g1 fun y H2 r2 M2 g2 h2 => ?_
  have g2' : Good X.K B0 F M2 ρ (r2 :: r1 :: r2 :: r1 :: κ) σ (y :: x :: y :: x :: vs) H2 := by
    obtain ⟨B, g2⟩ := g2
    cases g2.st with
    | cons s1 s2 =>
      cases s2 with
      | cons s2 s3 => exact ⟨B, g2.stk (.cons s1 (.cons s2 (.cons s1 (.cons s2 s3))))⟩
  refine h2 σ (y :: x :: vs) H2 x y _ g2' fun v H' r' M' g' p => ?_
  obtain ⟨k, rfl, p1, p2⟩ := p
  have e := g'.bl
  subst e
  refine ⟨k, rfl, ?_⟩
  cases k with
  | true =>
    refine p1 rfl σ (y :: x :: vs) H' _ g'.pop fun z H4 r3 M4 g4 h4 => ?_
    refine h4 σ vs H4 y z Q ?_ q
    obtain ⟨B, g4⟩ := g4
    cases g4.st with
    | cons s1 s2 =>
      cases s2 with
      | cons s2 s3 =>
        cases s3 with
        | cons s3 s4 => exact ⟨B, g4.stk (.cons s1 (.cons s2 s4))⟩
  | false =>
    refine q _ H' _ M' ?_ (p2 rfl)
    obtain ⟨B, g'⟩ := g'
    cases g'.st with
    | cons s1 s2 =>
      cases s2 with
      | cons s2 s3 =>
        cases s3 with
        | cons s3 s4 => exact ⟨B, g'.stk (.cons s1 s4)⟩

section
variable {K : Fg}
theorem r2_I0 {f : Int → Int → V} {i j : Int} {d : PyData} (hd : ∀ H, Rp K H (f i j) d) (h : P (.d d) M) : R2D K B0 F ρ κ (rI0 f) (.d (.int i)) (.d (.int j)) M P := fun σ vs H x y Q g q => by
  have e := g.int
  subst e
  have e := g.pop.int
  subst e
  exact ⟨i, j, rfl, rfl, q _ H _ M (g.pop.pop.pushD fun B _ => hd B) h⟩
theorem r2_I {C : Int → Int → Prop} {f : Int → Int → V} {i j : Int} {d : PyData} (hd : ∀ H, Rp K H (f i j) d) (hc : C i j) (h : P (.d d) M) : R2D K B0 F ρ κ (rI C f) (.d (.int i)) (.d (.int j)) M P := fun σ vs H x y Q g q => by
  have e := g.int
  subst e
  have e := g.pop.int
  subst e
  exact ⟨i, j, rfl, rfl, hc, q _ H _ M (g.pop.pop.pushD fun B _ => hd B) h⟩
theorem r1_U {f : Int → V} {i : Int} {d : PyData} (hd : ∀ H, Rp K H (f i) d) (h : P (.d d) M) : R1D K B0 F ρ κ (rU f) (.d (.int i)) M P := fun σ vs H x Q g q => by
  have e := g.int
  subst e
  exact ⟨i, rfl, q _ H _ M (g.pop.pushD fun B _ => hd B) h⟩
/-- == of two flat values -/
def flatD : PyData → Option V
  | .none => some .non
  | .bool b => some (.bl b)
  | .int i => some (.int i)
  | .str x => some (.str x)
  | _ => none
theorem Rp.flat {H : Hp} {v w : V} {d : PyData} (h : Rp K H v d) (f : flatD d = some w) : v = w := by
  cases h <;> first | exact Option.some.inj f | cases f
theorem Rp.of_flat {H : Hp} {w : V} {d : PyData} (f : flatD d = some w) : Rp K H w d := by
  cases d <;> first | (cases Option.some.inj f; constructor) | cases f
theorem Good.flat {i : PyData} {σ vs H} {v w : V} (g : Good K B0 F M ρ (.d i :: κ) σ (v :: vs) H) (f : flatD i = some w) : v = w := by
  obtain ⟨B, g⟩ := g; exact Rp.flat g.fst f
theorem r2_eq {x y : PyData} {v w : V} (hx : flatD x = some v) (hy : flatD y = some w) (hs : scal v w = true) (h : P (.d (.bool (decide (v = w)))) M) : R2D K B0 F ρ κ rEq (.d x) (.d y) M P := fun σ vs H x y Q g q => by
  have e := g.flat hy
  subst e
  have e := g.pop.flat hx
  subst e
  exact ⟨hs, q _ H _ M (g.pop.pop.pushD fun B _ => Rp.bl _) h⟩
theorem r2_ne {x y : PyData} {v w : V} (hx : flatD x = some v) (hy : flatD y = some w) (hs : scal v w = true) (h : P (.d (.bool (!decide (v = w)))) M) : R2D K B0 F ρ κ rNe (.d x) (.d y) M P := fun σ vs H x y Q g q => by
  have e := g.flat hy
  subst e
  have e := g.pop.flat hx
  subst e
  exact ⟨hs, q _ H _ M (g.pop.pop.pushD fun B _ => Rp.bl _) h⟩
theorem decV {i j : Int} : decide (V.int i = V.int j) = decide (i = j) := by
  by_cases h : i = j
  · subst h; simp
  · rw [decide_eq_false h, decide_eq_false (fun e => h (V.int.inj e))]
theorem r2_eqI {i j : Int} (h : P (.d (.bool (decide (i = j)))) M) : R2D K B0 F ρ κ rEq (.d (.int i)) (.d (.int j)) M P := r2_eq rfl rfl rfl (by rw [decV]; exact h)
theorem r2_neI {i j : Int} (h : P (.d (.bool (!decide (i = j)))) M) : R2D K B0 F ρ κ rNe (.d (.int i)) (.d (.int j)) M P := r2_ne rfl rfl rfl (by rw [decV]; exact h)
/-- is None, is not None -/
theorem r2_isN {x : PyData} (h : P (.d (.bool (match x with | .none => true | _ => false))) M) : R2D K B0 F ρ κ (fun x y H Q => y = .non ∧ Q (.bl (decide (x = .non))) H) (.d x) (.d .none) M P := fun σ vs H v y Q g q => by
  have e : y = .non := by obtain ⟨B, g⟩ := g; exact Rp.non_inv g.fst
  subst e
  refine ⟨rfl, q _ H _ M (g.pop.pop.pushD fun B _ => ?_) h⟩
  obtain ⟨B, g⟩ := g
  have := g.pop.fst
  cases (show Rp K B v x from this) <;> exact Rp.bl _
/-- data of any depth, ==, != -/
theorem r2_eqD {x y : PyData} (hx : SeqAt.shaped x = true) (hy : SeqAt.shaped y = true) (h : P (.d (.bool (PyData.eqv x y))) M) : R2D K B0 F ρ κ (rEqD K) (.d x) (.d y) M P := fun σ vs H v w Q g q => by
  refine ⟨x, y, ?_, ?_, hx, hy, q _ H _ M (g.pop.pop.pushD fun B _ => Rp.bl _) h⟩
  · obtain ⟨B, g⟩ := g
    have r : Rp K B v x := g.pop.fst
    exact (r.ext g.bh).dp
  · obtain ⟨B, g⟩ := g
    have r : Rp K B w y := g.fst
    exact (r.ext g.bh).dp
theorem r2_neD {x y : PyData} (hx : SeqAt.shaped x = true) (hy : SeqAt.shaped y = true) (h : P (.d (.bool (!PyData.eqv x y))) M) : R2D K B0 F ρ κ (rNeD K) (.d x) (.d y) M P := fun σ vs H v w Q g q => by
  refine ⟨x, y, ?_, ?_, hx, hy, q _ H _ M (g.pop.pop.pushD fun B _ => Rp.bl _) h⟩
  · obtain ⟨B, g⟩ := g
    have r : Rp K B v x := g.pop.fst
    exact (r.ext g.bh).dp
  · obtain ⟨B, g⟩ := g
    have r : Rp K B w y := g.fst
    exact (r.ext g.bh).dp
end

/-! ### and, or, not, if .. else as values and tests -/
variable {rest : List Expr}
theorem de_one {op} (h : DE X B0 F M ρ κ a P) : DE X B0 F M ρ κ (.BoolOp op [a] pos) P := fun σ vs H Q g q => tOf_of (pe_one pe_self) (h σ vs H Q g q)
theorem de_and (h : DE X B0 F M ρ κ a fun r M1 => ∃ k, r = .d (.bool k) ∧ (k = true → DE X B0 F M1 ρ κ (.BoolOp .And (b :: rest) pos) P) ∧ (k = false → P (.d (.bool false)) M1)) : DE X B0 F M ρ κ (.BoolOp .And (a :: b :: rest) pos) P :=
  fun σ vs H Q g q => tOf_of (pe_and pe_self pe_self) (h σ vs H _ g fun x H1 r1 M1 g1 h1 => by
    obtain ⟨k, rfl, p1, p2⟩ := h1
    have e := g1.bl
    subst e
    refine ⟨k, rfl, ?_⟩
    cases k with
    | true => exact p1 rfl σ vs H1 Q g1.pop q
    | false => exact q _ H1 _ M1 g1 (p2 rfl))
theorem de_or (h : DE X B0 F M ρ κ a fun r M1 => ∃ k, r = .d (.bool k) ∧ (k = false → DE X B0 F M1 ρ κ (.BoolOp .Or (b :: rest) pos) P) ∧ (k = true → P (.d (.bool true)) M1)) : DE X B0 F M ρ κ (.BoolOp .Or (a :: b :: rest) pos) P :=
  fun σ vs H Q g q => tOf_of (pe_or pe_self pe_self) (h σ vs H _ g fun x H1 r1 M1 g1 h1 => by
    obtain ⟨k, rfl, p1, p2⟩ := h1
    have e := g1.bl
    subst e
    refine ⟨k, rfl, ?_⟩
    cases k with
    | false => exact p1 rfl σ vs H1 Q g1.pop q
    | true => exact q _ H1 _ M1 g1 (p2 rfl))
theorem de_not (h : DE X B0 F M ρ κ a fun r M1 => ∃ k, r = .d (.bool k) ∧ P (.d (.bool (!k))) M1) : DE X B0 F M ρ κ (.UnaryOp .Not a pos) P :=
  fun σ vs H Q g q => tOf_of (pe_not pe_self) (h σ vs H _ g fun x H1 r1 M1 g1 h1 => by
    obtain ⟨k, rfl, p⟩ := h1
    have e := g1.bl
    subst e
    exact ⟨k, rfl, q _ H1 _ M1 (g1.pop.pushD fun _ _ => Rp.bl _) p⟩)
/-- the second operand's value is told ahead: no two ways -/
theorem de_andP (h : DE X B0 F M ρ κ a fun r M1 => ∃ k k2, r = .d (.bool k) ∧ (k = true → DE X B0 F M1 ρ κ (.BoolOp .And (b :: rest) pos) fun r' M2 => r' = .d (.bool k2) ∧ M2 = M1) ∧ P (.d (.bool (k && k2))) M1) : DE X B0 F M ρ κ (.BoolOp .And (a :: b :: rest) pos) P :=
  de_and (h.mono fun r M1 ⟨k, k2, e, p1, p2⟩ => ⟨k, e, fun hk => (p1 hk).mono fun r' M2 ⟨e1, e2⟩ => by subst e1 e2 hk; exact p2, fun hk => by subst hk; exact p2⟩)
theorem de_orP (h : DE X B0 F M ρ κ a fun r M1 => ∃ k k2, r = .d (.bool k) ∧ (k = false → DE X B0 F M1 ρ κ (.BoolOp .Or (b :: rest) pos) fun r' M2 => r' = .d (.bool k2) ∧ M2 = M1) ∧ P (.d (.bool (k || k2))) M1) : DE X B0 F M ρ κ (.BoolOp .Or (a :: b :: rest) pos) P :=
  de_or (h.mono fun r M1 ⟨k, k2, e, p1, p2⟩ => ⟨k, e, fun hk => (p1 hk).mono fun r' M2 ⟨e1, e2⟩ => by subst e1 e2 hk; exact p2, fun hk => by subst hk; exact p2⟩)
variable {PT : Bool → Cs → Prop}
theorem DT.mono {P P' : Bool → Cs → Prop} (h : DT X B0 F M ρ κ e P) (w : ∀ r M, P r M → P' r M) : DT X B0 F M ρ κ e P' := fun σ vs H Q g q => h σ vs H Q g fun v H' M' g' p => q v H' M' g' (w v M' p)
theorem DW.mono {P P' : Bool → Cs → Prop} (h : DW X B0 F M ρ κ e P) (w : ∀ r M, P r M → P' r M) : DW X B0 F M ρ κ e P' := fun σ vs H Q g q => h σ vs H Q g fun v H' M' g' p => q v H' M' g' (w v M' p)
theorem dt_w (h : DW X B0 F M ρ κ e PT) : DT X B0 F M ρ κ e PT := fun σ vs H Q g q => tOfT_of pw_self.pt (h σ vs H Q g q)
theorem dw_and1 (h : DT X B0 F M ρ κ a PT) : DW X B0 F M ρ κ (.BoolOp .And [a] pos) PT := fun σ vs H Q g q => tOfW_of (pw_and1 pt_self) (h σ vs H Q g q)
theorem dw_or1 (h : DT X B0 F M ρ κ a PT) : DW X B0 F M ρ κ (.BoolOp .Or [a] pos) PT := fun σ vs H Q g q => tOfW_of (pw_or1 pt_self) (h σ vs H Q g q)
theorem dw_and (h : DT X B0 F M ρ κ a fun k M1 => (k = true → DW X B0 F M1 ρ κ (.BoolOp .And (b :: rest) pos) PT) ∧ (k = false → PT false M1)) : DW X B0 F M ρ κ (.BoolOp .And (a :: b :: rest) pos) PT :=
  fun σ vs H Q g q => tOfW_of (pw_and pt_self pw_self) (h σ vs H _ g fun k H1 M1 g1 h1 => by
    cases k with
    | true => exact h1.1 rfl σ vs H1 Q g1 q
    | false => exact q _ H1 M1 g1 (h1.2 rfl))
theorem dw_or (h : DT X B0 F M ρ κ a fun k M1 => (k = false → DW X B0 F M1 ρ κ (.BoolOp .Or (b :: rest) pos) PT) ∧ (k = true → PT true M1)) : DW X B0 F M ρ κ (.BoolOp .Or (a :: b :: rest) pos) PT :=
  fun σ vs H Q g q => tOfW_of (pw_or pt_self pw_self) (h σ vs H _ g fun k H1 M1 g1 h1 => by
    cases k with
    | false => exact h1.1 rfl σ vs H1 Q g1 q
    | true => exact q _ H1 M1 g1 (h1.2 rfl))
theorem dw_andP (h : DT X B0 F M ρ κ a fun k M1 => ∃ k2, (k = true → DW X B0 F M1 ρ κ (.BoolOp .And (b :: rest) pos) fun k' M2 => k' = k2 ∧ M2 = M1) ∧ PT (k && k2) M1) : DW X B0 F M ρ κ (.BoolOp .And (a :: b :: rest) pos) PT :=
  dw_and (h.mono fun k M1 ⟨k2, p1, p2⟩ => ⟨fun hk => (p1 hk).mono fun r' M2 ⟨e1, e2⟩ => by subst e1 e2 hk; exact p2, fun hk => by subst hk; exact p2⟩)
theorem dw_orP (h : DT X B0 F M ρ κ a fun k M1 => ∃ k2, (k = false → DW X B0 F M1 ρ κ (.BoolOp .Or (b :: rest) pos) fun k' M2 => k' = k2 ∧ M2 = M1) ∧ PT (k || k2) M1) : DW X B0 F M ρ κ (.BoolOp .Or (a :: b :: rest) pos) PT :=
  dw_or (h.mono fun k M1 ⟨k2, p1, p2⟩ => ⟨fun hk => (p1 hk).mono fun r' M2 ⟨e1, e2⟩ => by subst e1 e2 hk; exact p2, fun hk => by subst hk; exact p2⟩)
theorem dt_not (h : DT X B0 F M ρ κ a fun k M1 => PT (!k) M1) : DT X B0 F M ρ κ (.UnaryOp .Not a pos) PT :=
  fun σ vs H Q g q => tOfT_of (pt_not pt_self) (h σ vs H _ g fun k H1 M1 g1 h1 => q _ H1 M1 g1 h1)
/-- an expression whose value is a bool -/
theorem dt_val (h : DE X B0 F M ρ κ e fun r M1 => ∃ k, r = .d (.bool k) ∧ PT k M1) (he : ∀ whole, isTrue e X.env whole = (do let v ← whole; standAt e.pos; holding [v] (truthy v)) := by intro _; rfl) : DT X B0 F M ρ κ e PT :=
  fun σ vs H Q g q => tOfT_of (pt_val pe_self he) (h σ vs H _ g fun x H1 r1 M1 g1 h1 => by
    obtain ⟨k, rfl, p⟩ := h1
    have e := g1.bl
    subst e
    exact ⟨k, rfl, q _ H1 M1 g1.pop p⟩)
/-- truth of a datum -/
def truD : PyData → Bool
  | .none => false
  | .bool b => b
  | .int i => i != 0
  | .str x => (x.length : Int) != 0
  | .list xs => !xs.isEmpty
  | .tuple xs => !xs.isEmpty
  | _ => false
theorem isEmpty_rp {K : Fg} {H : Hp} {vs : List V} {ds : List PyData} (h : RpA K H vs ds) : (!vs.isEmpty) = !ds.isEmpty := by cases h <;> rfl
theorem tru_of {K : Fg} {H : Hp} {v : V} {d : PyData} (h : Rp K H v d) (hs : ∀ x, d = .str x → x.length ≤ sizeLine) : TruV K v H (truD d) := by
  cases h with
  | non => rfl
  | bl b => rfl
  | int i => rfl
  | str x => exact ⟨hs x rfl, rfl⟩
  | lst h h2 => exact .inl ⟨_, SqL.of h, (isEmpty_rp h2).symm⟩
  | tup h h2 => exact .inr (.inl ⟨_, h, (isEmpty_rp h2).symm⟩)
theorem dt_truth (h : DE X B0 F M ρ κ e fun r M1 => ∃ d, r = .d d ∧ (∀ x, d = .str x → x.length ≤ sizeLine) ∧ PT (truD d) M1) (he : ∀ whole, isTrue e X.env whole = (do let v ← whole; standAt e.pos; holding [v] (truthy v)) := by intro _; rfl) : DT X B0 F M ρ κ e PT :=
  fun σ vs H Q g q => tOfT_of (pt_truth pe_self he) (h σ vs H _ g fun x H1 r1 M1 g1 h1 => by
    obtain ⟨d, rfl, hs, p⟩ := h1
    refine ⟨truD d, ?_, q _ H1 M1 g1.pop p⟩
    obtain ⟨B, g1⟩ := g1
    exact tru_of (Rp.ext g1.bh g1.fst) hs)
/-- truth of a cell's list -/
theorem dt_truthC (h : DE X B0 F M ρ κ e fun r M1 => ∃ p xs, r = .v (.ref p) ∧ (p, .lst xs) ∈ M1 ∧ PT (!xs.isEmpty) M1) (he : ∀ whole, isTrue e X.env whole = (do let v ← whole; standAt e.pos; holding [v] (truthy v)) := by intro _; rfl) : DT X B0 F M ρ κ e PT :=
  fun σ vs H Q g q => tOfT_of (pt_truth pe_self he) (h σ vs H _ g fun x H1 r1 M1 g1 h1 => by
    obtain ⟨p, xs, rfl, hm, hp⟩ := h1
    have e := g1.ref
    subst e
    refine ⟨!xs.isEmpty, ?_, q _ H1 M1 g1.pop hp⟩
    obtain ⟨B, g1⟩ := g1
    obtain ⟨_, _, o, ho, ws, rfl, hw⟩ := g1.cells _ hm
    exact .inl ⟨ws, SqL.of ho, (isEmpty_rp hw).symm⟩)
theorem de_ifexp (h : DT X B0 F M ρ κ c fun k M1 => (k = true → DE X B0 F M1 ρ κ a P) ∧ (k = false → DE X B0 F M1 ρ κ b P)) : DE X B0 F M ρ κ (.IfExp c a b pos) P :=
  fun σ vs H Q g q => tOf_of (pe_ifExp pt_self pe_self pe_self) (h σ vs H _ g fun k H1 M1 g1 h1 => by
    cases k with
    | true => exact h1.1 rfl σ vs H1 Q g1 q
    | false => exact h1.2 rfl σ vs H1 Q g1 q)

/-! ### arguments, displays -/
variable {es : List Expr} {PA : List Sl → Cs → Prop}
theorem da_nil (h : PA [] M) : DA X B0 F M ρ κ [] PA := fun σ vs H Q g q => tOfA_of pa_nil (q [] H [] M rfl g h)
theorem stk_swap {K : Fg} {F B : Hp} {r : Sl} {v : V} : ∀ {ws : List V} {rs : List Sl} {κ : List Sl} {vs : List V}, ws.length = rs.length → KOk K F B (ws ++ v :: vs) (rs ++ r :: κ) → KOk K F B (v :: (ws ++ vs)) (r :: (rs ++ κ))
  | [], [], _, _, _, h => h
  | w :: ws, x :: rs, κ, vs, hl, h => by
    cases h with
    | cons h1 h2 =>
      have := stk_swap (ws := ws) (rs := rs) (by simpa using hl) h2
      cases this with
      | cons h3 h4 => exact .cons h3 (.cons h1 h4)
theorem da_cons (h : DE X B0 F M ρ κ e fun r M1 => DA X B0 F M1 ρ (r :: κ) es fun rs M2 => PA (r :: rs) M2) (hs : starEach (e :: es) X.env = (false, eval e X.env) :: starEach es X.env := by rfl) : DA X B0 F M ρ κ (e :: es) PA :=
  fun σ vs H Q g q => tOfA_of (pa_cons pe_self pa_self hs) (h σ vs H _ g fun x H1 r1 M1 g1 h1 => h1 σ (x :: vs) H1 _ g1 fun ws H2 rs M2 hl g2 h2 => q (x :: ws) H2 (r1 :: rs) M2 (by simp [hl]) (by
    obtain ⟨B, g2⟩ := g2
    exact ⟨B, g2.stk (stk_swap hl g2.st)⟩) h2)
theorem kok_split {K : Fg} {F B : Hp} : ∀ {ws : List V} {rs : List Sl} {κ : List Sl} {vs : List V}, ws.length = rs.length → KOk K F B (ws ++ vs) (rs ++ κ) → KOk K F B ws rs ∧ KOk K F B vs κ
  | [], [], _, _, _, h => ⟨.nil, h⟩
  | w :: ws, x :: rs, κ, vs, hl, h => by
    cases h with
    | cons h1 h2 =>
      obtain ⟨h3, h4⟩ := kok_split (ws := ws) (rs := rs) (by simpa using hl) h2
      exact ⟨.cons h1 h3, h4⟩
theorem rpa_of {K : Fg} {F B : Hp} : ∀ {ws : List V} {ds : List PyData}, KOk K F B ws (ds.map Sl.d) → RpA K B ws ds
  | _, [], h => by cases h; exact .nil
  | _, d :: ds, h => by
    cases h with
    | cons h1 h2 => exact .cons h1 (rpa_of h2)
/-- (a, b, ..) -/
theorem de_tup {x1} (h : DA X B0 F M ρ κ es fun rs M1 => ∃ ds, rs = ds.map Sl.d ∧ ds.length ≤ 100000 ∧ P (.d (.tuple ds)) M1) : DE X B0 F M ρ κ (.Tuple es x1 pos) P :=
  fun σ vs H Q g q => tOf_of (pe_tup pa_self) (h σ vs H _ g fun ws H1 rs M1 hl g1 h1 => by
    obtain ⟨ds, rfl, hz, p⟩ := h1
    have hl' : ws.length = ds.length := by simpa using hl
    refine ⟨by rw [hl']; exact Nat.le_trans hz (by decide), fun a ha => q _ _ _ M1 ?_ p⟩
    obtain ⟨B, g1⟩ := g1
    obtain ⟨h3, h4⟩ := kok_split hl g1.st
    have g2 := (g1.stk h4).laid (o := .tup ws) ha
    have bp : B a = none := g1.bh.free ha
    exact ⟨_, g2.pushD (Rp.tup (SqT.of upd_same) ((rpa_of h3).ext fun b u z => by rw [upd_ne (ne_of_none z bp)]; exact z))⟩)
/-- [a, b, ..]: a cell -/
theorem de_lstC (h : DA X B0 F M ρ κ es fun rs M1 => ∃ ds, rs = ds.map Sl.d ∧ ds.length ≤ 100000 ∧ ∀ p, P (.v (.ref p)) ((p, .lst ds) :: M1)) : DE X B0 F M ρ κ (.List es pos) P :=
  fun σ vs H Q g q => tOf_of (pe_lst pa_self) (h σ vs H _ g fun ws H1 rs M1 hl g1 h1 => by
    obtain ⟨ds, rfl, hz, p⟩ := h1
    have hl' : ws.length = ds.length := by simpa using hl
    refine ⟨by rw [hl']; exact Nat.le_trans hz (by decide), fun a ha => q _ _ _ _ ?_ (p a)⟩
    obtain ⟨B, g1⟩ := g1
    obtain ⟨h3, h4⟩ := kok_split hl g1.st
    exact ⟨_, ((g1.stk h4).cell (c := .lst ds) ha ⟨ws, rfl, rpa_of h3⟩).pushV⟩)
theorem de_lst (h : DA X B0 F M ρ κ es fun rs M1 => ∃ ds, rs = ds.map Sl.d ∧ ds.length ≤ 100000 ∧ P (.d (.list ds)) M1) : DE X B0 F M ρ κ (.List es pos) P :=
  de_freeze (de_lstC (fun σ vs H Q g q => h σ vs H Q g fun ws H' rs M' hl g' ⟨ds, e, hz, p⟩ => q ws H' rs M' hl g' ⟨ds, e, hz, fun a => ⟨a, ds, M', rfl, rfl, p⟩⟩))
/-- a list of values of any kind (cells among them): a raw cell -/
theorem vs_of {K : Fg} {F B : Hp} : ∀ {ws xs : List V}, KOk K F B ws (xs.map Sl.v) → ws = xs
  | _, [], h => by cases h; rfl
  | _, d :: ds, h => by
    cases h with
    | cons h1 h2 => rw [show _ = d from h1, vs_of h2]

/-! ### calls of built-ins -/
variable {x : Str} {p : Pos} {id T : String} {r : List V → Hp → VK → Prop}
theorem de_callB (hc : CallR X (.builtin id) r) (hm : X.mg x = none) (hv : bootBuiltins x = some (.builtin id)) (h : DA X B0 F M ρ κ (e :: es) fun rs M1 => RnD X.K B0 F ρ κ r rs M1 P) (hg : Gl X x := by rfl) (hn : x ≠ "__name__" := by decide) (hdb : (x == ("__debug__" : Str)) = false := by decide)
    (he : starEach (e :: es) X.env = (false, eval e X.env) :: starEach es X.env := by rfl) (hpl : (backTo pos (starEach es X.env)).any (·.1) = false := by rfl) : DE X B0 F M ρ κ (.Call (.Name x p) (e :: es) [] pos) P :=
  fun σ vs H Q g q => tOf_of (pe_callB hc hg hm hv pa_self hn hdb he hpl) (h σ vs H _ g fun ws H1 rs M1 hl g1 h1 => h1 σ vs H1 ws Q hl g1 q)
theorem de_callTy (hc : CallR X (.type T) r) (hm : X.mg x = none) (hv : bootBuiltins x = some (.type T)) (h : DA X B0 F M ρ κ (e :: es) fun rs M1 => RnD X.K B0 F ρ κ r rs M1 P) (hg : Gl X x := by rfl) (hn : x ≠ "__name__" := by decide) (hdb : (x == ("__debug__" : Str)) = false := by decide)
    (he : starEach (e :: es) X.env = (false, eval e X.env) :: starEach es X.env := by rfl) (hpl : (backTo pos (starEach es X.env)).any (·.1) = false := by rfl) : DE X B0 F M ρ κ (.Call (.Name x p) (e :: es) [] pos) P :=
  fun σ vs H Q g q => tOf_of (pe_callTy hc hg hm hv pa_self hn hdb he hpl) (h σ vs H _ g fun ws H1 rs M1 hl g1 h1 => h1 σ vs H1 ws Q hl g1 q)

/-! ### blocks, statements -/
variable {k : KK} {s : Stmt} {ss : List Stmt}
theorem db_nil (h : k.nx M ρ) : DB X B0 F M ρ κ [] k := fun σ vs H D g c => tOfB_of pss_nil (c.nx σ H M ρ g h)
theorem db_cons (h : DS X B0 F M ρ κ s { k with nx := fun M' ρ' => DB X B0 F M' ρ' κ ss k }) : DB X B0 F M ρ κ (s :: ss) k :=
  fun σ vs H D g c => tOfB_of (pss_cons ps_self pb_self) (h σ vs H { D with nx := tOfB X ss D } g ⟨fun σ' H' M' ρ' g' n => n σ' vs H' D g' c, c.rt, c.bk, c.ct⟩)
theorem ds_pass (h : k.nx M ρ) : DS X B0 F M ρ κ (.Pass pos) k := fun σ vs H D g c => tOfS_of ps_pass (c.nx σ H M ρ g h)
theorem ds_break (h : k.bk M ρ) : DS X B0 F M ρ κ (.Break pos) k := fun σ vs H D g c => tOfS_of ps_break (c.bk σ H M ρ g h)
theorem ds_cont (h : k.ct M ρ) : DS X B0 F M ρ κ (.Continue pos) k := fun σ vs H D g c => tOfS_of ps_continue (c.ct σ H M ρ g h)
theorem ds_expr (h : DE X B0 F M ρ κ e fun _ M1 => k.nx M1 ρ) (hs : swapsWith e none pos.line X.env = pure false := by rfl) : DS X B0 F M ρ κ (.Expr e pos) k :=
  fun σ vs H D g c => tOfS_of (ps_expr pe_self hs) (h σ vs H _ g fun v H1 r M1 g1 n => c.nx σ H1 M1 ρ g1.pop n)
theorem Good.ret {K : Fg} {σ : L2.St} {vs : List V} {H : Hp} {r : Sl} {v : V} (g : Good K B0 F M ρ (r :: κ) σ (v :: vs) H) : Good K B0 F M [] [r] [] [v] H := by
  obtain ⟨B, g⟩ := g
  exact ⟨B, (g.stk (.cons g.fst .nil)).slt .nil⟩
theorem Good.dropM {K : Fg} {σ : L2.St} {vs : List V} {H : Hp} (j : Nat) (g : Good K B0 F M ρ κ σ vs H) : Good K B0 F (M.drop j) ρ κ σ vs H := by
  obtain ⟨B, g⟩ := g
  exact ⟨B, g.b0, g.bh, g.fh, g.new, fun c hc => g.cells c (List.mem_of_mem_drop hc), (by rw [List.map_drop]; exact g.nd.sublist (List.drop_sublist _ _)), g.sl, g.st⟩
theorem ds_ret (h : DE X B0 F M ρ κ e fun r M1 => k.rt r M1) : DS X B0 F M ρ κ (.Return (some e) pos) k :=
  fun σ vs H D g c => tOfS_of (ps_ret pe_self) (h σ vs H _ g fun v H1 r M1 g1 n => c.rt v H1 r M1 g1.ret n)
/-- the first j cells are forgotten -/
theorem ds_retM (j : Nat) (h : DE X B0 F M ρ κ e fun r M1 => k.rt r (M1.drop j)) : DS X B0 F M ρ κ (.Return (some e) pos) k :=
  fun σ vs H D g c => tOfS_of (ps_ret pe_self) (h σ vs H _ g fun v H1 r M1 g1 n => c.rt v H1 r (M1.drop j) (g1.ret.dropM j) n)
theorem ds_set (i : Nat) {x : Str} {pos' : Pos} (h : DE X B0 F M ρ κ e fun r M1 => k.nx M1 (ρ.set i r)) (hN : X.N.Nodup := by exact (by assumption)) (hi : X.N[i]? = some x := by rfl) (hx : Loc X.env.scope x := by first | exact Or.inl rfl | exact Or.inr rfl)
    (hs : swapsWith e (some (.Name x pos')) pos.line X.env = pure false := by rfl) (hf : X.fn x = true ∨ X.env.scope.names.lookup x = some .local := by first | exact .inl rfl | exact .inr rfl) :
    DS X B0 F M ρ κ (.Assign [.Name x pos'] e pos) k :=
  fun σ vs H D g c => tOfS_of (ps_set hN hi hx pe_self hs hf) (h σ vs H _ g fun v H1 r M1 g1 n => c.nx _ H1 M1 _ (by
    obtain ⟨B, g1⟩ := g1
    exact ⟨B, g1.pop.slt (Paired.set (OOk.of g1.fst) i g1.sl)⟩) n)
theorem dg_name (i : Nat) {r : Sl} {x : Str} {P : Cs → List Sl → Prop} (h : P M (ρ.set i r)) (hN : X.N.Nodup := by exact (by assumption)) (hi : X.N[i]? = some x := by rfl) (hx : Loc X.env.scope x := by first | exact Or.inl rfl | exact Or.inr rfl)
    (hf : X.fn x = true ∨ X.env.scope.names.lookup x = some .local := by first | exact .inl rfl | exact .inr rfl) : DG X B0 F M ρ κ r (.Name x pos) P :=
  fun σ vs H v Q g q => tOfG_of (pg_name hN hi hx hf) (q _ H M _ (by
    obtain ⟨B, g1⟩ := g
    exact ⟨B, g1.pop.slt (Paired.set (OOk.of g1.fst) i g1.sl)⟩) h)
theorem dgs_nil {P : Cs → List Sl → Prop} (h : P M ρ) : DGs X B0 F M ρ κ [] [] P := fun σ vs H xs Q hl g q => tOfGs_of pgs_nil (by
  have : xs = [] := List.length_eq_zero_iff.mp hl
  subst this
  exact ⟨rfl, q σ H M ρ g h⟩)
theorem dgs_cons {P : Cs → List Sl → Prop} {r : Sl} {rs : List Sl} {t : Expr} {ts : List Expr} (h : DG X B0 F M ρ (rs ++ κ) r t fun M1 ρ1 => DGs X B0 F M1 ρ1 κ rs ts P) (hs : (assignEach (t :: ts) X.env).map (·.2) = assign t X.env :: (assignEach ts X.env).map (·.2) := by rfl) : DGs X B0 F M ρ κ (r :: rs) (t :: ts) P :=
  fun σ vs H xs Q hl g q => tOfGs_of (pgs_cons pg_self pgs_self hs) (by
    cases xs with
    | nil => cases hl
    | cons x xs =>
      exact ⟨x, xs, rfl, h σ (xs ++ vs) H x _ g fun σ1 H1 M1 ρ1 g1 h1 => h1 σ1 vs H1 xs Q (by simpa using hl) g1 q⟩)
theorem kok_of {K : Fg} {F B : Hp} : ∀ {ws : List V} {ds : List PyData}, RpA K B ws ds → KOk K F B ws (ds.map Sl.d)
  | _, _, .nil => .nil
  | _, _, .cons h t => .cons h (kok_of t)
theorem dg_tup {P : Cs → List Sl → Prop} {ds : List PyData} {ts : List Expr} {j : Nat} {n : Nat} (hn : ds.length = n) (h : DGs X B0 F M ρ κ (ds.map Sl.d) ts P) (hc : X.calm = true := by rfl) (hn' : (assignEach ts X.env).length = n := by rfl) (hst : (assignEach ts X.env).findIdx? (·.1) = none := by rfl) : DG X B0 F M ρ κ (.d (.tuple ds)) (.Tuple ts j pos) P :=
  fun σ vs H v Q g q => tOfG_of (pg_tup (n := n) hc pgs_self hn' hst) (by
    obtain ⟨B, g⟩ := g
    obtain ⟨a, xs, rfl, hq, hr⟩ := Rp.tup_inv g.fst
    refine ⟨a, xs, rfl, same_t g.bh hq, by rw [hr.len, hn], h σ vs H xs Q (by simp [hr.len]) ⟨B, g.pop.stk (Paired.app (kok_of hr) g.pop.st)⟩ q⟩)
theorem ds_asg {tg : Expr} (h : DE X B0 F M ρ κ e fun r M1 => DG X B0 F M1 ρ κ r tg fun M2 ρ2 => k.nx M2 ρ2) (hs : swapsWithSole [tg] e pos.line X.env = pure false := by rfl) (hw : swappedStores [tg] e X.env = pure none := by rfl)
    (h1 : (assignEach [tg] X.env).map (·.2) = [assign tg X.env] := by rfl) : DS X B0 F M ρ κ (.Assign [tg] e pos) k :=
  fun σ vs H D g c => tOfS_of (ps_asg pe_self pg_self hs hw h1) (h σ vs H _ g fun v H1 r M1 g1 n => n σ vs H1 v D.nx g1 fun σ' H' M' ρ' g' n' => c.nx σ' H' M' ρ' g' n')
theorem ds_if {s1 s2 : List Stmt} (h : DT X B0 F M ρ κ c fun b M1 => (b = true → DB X B0 F M1 ρ κ s1 k) ∧ (b = false → DB X B0 F M1 ρ κ s2 k)) : DS X B0 F M ρ κ (.If c s1 s2 pos) k :=
  fun σ vs H D g cn => tOfS_of (ps_if pt_self pb_self pb_self) (h σ vs H _ g fun b H1 M1 g1 n => by
    cases b with
    | true => exact n.1 rfl σ vs H1 D g1 cn
    | false => exact n.2 rfl σ vs H1 D g1 cn)
theorem ds_aug (i : Nat) {x : Str} {op : Operator} {t : R2} {pos' : Pos} {r : Sl} (ho : OpR X (inplaceOp op) t) (hr : ρ[i]? = some r) (hu : r ≠ .un) (h : DE X B0 F M ρ (r :: κ) e fun r2 M1 => R2D X.K B0 F ρ κ t r r2 M1 fun r3 M2 => k.nx M2 (ρ.set i r3)) (hN : X.N.Nodup := by exact (by assumption)) (hi : X.N[i]? = some x := by rfl)
    (hx : Loc X.env.scope x := by first | exact Or.inl rfl | exact Or.inr rfl) (hf : X.fn x = true ∨ X.env.scope.names.lookup x = some .local := by first | exact .inl rfl | exact .inr rfl) : DS X B0 F M ρ κ (.AugAssign (.Name x pos') op e pos) k :=
  fun σ vs H D g c => tOfS_of (ps_aug (ti := t) hN hi hx pe_self (fun pins s σ H x y v u Q I rx ry q => ho pins s σ H x y v u Q I rx ry q) hf) (by
    obtain ⟨B, g0⟩ := g
    obtain ⟨o, ho, hok⟩ := Paired.get? g0.sl hr
    obtain ⟨v, rfl, hv'⟩ := OOk.v hu hok
    refine ⟨v, ho, h σ (v :: vs) H _ ⟨B, g0.push hv'⟩ fun y H1 r2 M1 g1 h1 => h1 σ vs H1 v y _ g1 fun z H2 r3 M2 g2 n => c.nx _ H2 M2 _ (by
      obtain ⟨B, g2⟩ := g2
      exact ⟨B, g2.pop.slt (Paired.set (OOk.of g2.fst) i g2.sl)⟩) n⟩)
end
end DL
set_option maxHeartbeats 2000000
namespace DL
open PySem PySem.Spec PyProof.Rows L2

/-! ### what is walked -/
structure DWalk (K : Fg) (B0 F : Hp) (J : It) (ds : List PyData) (s : Sl) (v : V) (Src : Cs → Prop) : Prop where
  go : ∀ i M ρ κ σ vs H, Src M → Good K B0 F M ρ (s :: κ) σ (v :: vs) H → i < ds.length → J.go i H
  stop : ∀ M ρ κ σ vs H, Src M → Good K B0 F M ρ (s :: κ) σ (v :: vs) H → J.stop ds.length H
  yld : ∀ i M ρ κ σ vs H x H' d, Src M → Good K B0 F M ρ (s :: κ) σ (v :: vs) H → ds[i]? = some d → J.yld i H x H' → Good K B0 F M ρ (.d d :: s :: κ) σ (x :: v :: vs) H'
def DI (X : Cx) (B0 F : Hp) (M : Cs) (ρ κ : List Sl) (tg iter : Expr) (R : List PyData → Sl → (Cs → Prop) → Cs → Prop) : Prop :=
  ∀ σ vs H Q, Good X.K B0 F M ρ κ σ vs H → (∀ J H' M' ds s v Src, Good X.K B0 F M' ρ (s :: κ) σ (v :: vs) H' → DWalk X.K B0 F J ds s v Src → Src M' → R ds s Src M' → Q J H') → tOfI X tg iter σ H Q

section
variable {X : Cx} {B0 F : Hp} {M : Cs} {ρ κ : List Sl} {tg iter e a b : Expr} {pos p : Pos} {R : List PyData → Sl → (Cs → Prop) → Cs → Prop} {k : KK}
theorem walk_seqL {K : Fg} {a : Addr} {xs : List V} {ds : List PyData} {s : Sl} {Src : Cs → Prop} (hq : ∀ M ρ κ σ vs H, Src M → Good K B0 F M ρ (s :: κ) σ (.ref a :: vs) H → SqL K H a xs ∧ ∃ B, GoodB K B0 F M ρ (s :: κ) σ (.ref a :: vs) H B ∧ RpA K B xs ds) (hl : xs.length = ds.length) :
    DWalk K B0 F (Itl K a) ds s (.ref a) Src where
  go := fun i M ρ κ σ vs H h g hi => ⟨xs, xs[i]'(by omega), (hq M ρ κ σ vs H h g).1, by simp [show i < xs.length by omega]⟩
  stop := fun M ρ κ σ vs H h g => ⟨xs, (hq M ρ κ σ vs H h g).1, by omega⟩
  yld := fun i M ρ κ σ vs H x H' d h g hd y => by
    obtain ⟨rfl, y⟩ := y
    obtain ⟨h1, B, g', hr⟩ := hq M ρ κ σ vs _ h g
    obtain ⟨v, hv, hvd⟩ := hr.get hd
    have e : x = v := Option.some.inj ((y xs h1).symm.trans hv)
    subst e
    exact ⟨B, g'.pushD hvd⟩
theorem walk_seqT {K : Fg} {a : Addr} {xs : List V} {ds : List PyData} {s : Sl} {Src : Cs → Prop} (hq : ∀ M ρ κ σ vs H, Src M → Good K B0 F M ρ (s :: κ) σ (.ref a :: vs) H → SqT K H a xs ∧ ∃ B, GoodB K B0 F M ρ (s :: κ) σ (.ref a :: vs) H B ∧ RpA K B xs ds) (hl : xs.length = ds.length) :
    DWalk K B0 F (Itt K a) ds s (.ref a) Src where
  go := fun i M ρ κ σ vs H h g hi => ⟨xs, xs[i]'(by omega), (hq M ρ κ σ vs H h g).1, by simp [show i < xs.length by omega]⟩
  stop := fun M ρ κ σ vs H h g => ⟨xs, (hq M ρ κ σ vs H h g).1, by omega⟩
  yld := fun i M ρ κ σ vs H x H' d h g hd y => by
    obtain ⟨rfl, y⟩ := y
    obtain ⟨h1, B, g', hr⟩ := hq M ρ κ σ vs _ h g
    obtain ⟨v, hv, hvd⟩ := hr.get hd
    have e : x = v := Option.some.inj ((y xs h1).symm.trans hv)
    subst e
    exact ⟨B, g'.pushD hvd⟩
end
/-- a value known by its slot through all states: the walk's own facts are told of every later state -/
theorem rpa_inj {K : Fg} {H : Hp} : ∀ {vs : List V} {ds es : List PyData}, RpA K H vs ds → RpA K H vs es → True := fun _ _ => trivial
section
variable {X : Cx} {B0 F : Hp} {M : Cs} {ρ κ : List Sl} {tg iter e a b : Expr} {pos p : Pos} {R : List PyData → Sl → (Cs → Prop) → Cs → Prop} {k : KK}
/-- over a list that is data: the list at a is the same in every state, as B holds it from the start on -/
theorem di_list (h : DE X B0 F M ρ κ iter fun r M1 => ∃ ds, r = .d (.list ds) ∧ R ds r (fun _ => True) M1) : DI X B0 F M ρ κ tg iter R := fun σ vs H Q g q => by
  refine tOfI_of (pi_list pe_self) (h σ vs H _ g fun v H1 r M1 g1 hr => ?_)
  obtain ⟨ds, rfl, hr⟩ := hr
  obtain ⟨B, g1b⟩ := id g1
  obtain ⟨a, xs, rfl, ha, hx⟩ := Rp.lst_inv g1b.fst
  refine ⟨a, rfl, ⟨xs, SqL.of (g1b.bh _ _ ha)⟩, q (Itl X.K a) H1 M1 ds _ (.ref a) (fun _ => True) g1 ⟨?_, ?_, ?_⟩ trivial hr⟩
  · intro i M ρ κ σ vs H _ g hi
    obtain ⟨B, g⟩ := g
    obtain ⟨a', ys, e, ha', hy⟩ := Rp.lst_inv g.fst
    cases e
    have hl := hy.len
    exact ⟨ys, ys[i]'(by omega), SqL.of (g.bh _ _ ha'), by simp [show i < ys.length by omega]⟩
  · intro M ρ κ σ vs H _ g
    obtain ⟨B, g⟩ := g
    obtain ⟨a', ys, e, ha', hy⟩ := Rp.lst_inv g.fst
    cases e
    have hl := hy.len
    exact ⟨ys, SqL.of (g.bh _ _ ha'), by omega⟩
  · intro i M ρ κ σ vs H x H' d _ g hd y
    obtain ⟨rfl, y⟩ := y
    obtain ⟨B, g⟩ := g
    obtain ⟨a', ys, e, ha', hy⟩ := Rp.lst_inv g.fst
    cases e
    obtain ⟨v, hv, hvd⟩ := hy.get hd
    have e : x = v := Option.some.inj ((y ys (SqL.of (g.bh _ _ ha'))).symm.trans hv)
    subst e
    exact ⟨B, g.pushD hvd⟩
/-- over a list that is handed in, frozen -/
theorem di_rd (h : DE X B0 F M ρ κ iter fun r M1 => ∃ ds, r = .rd ds ∧ R ds r (fun _ => True) M1) : DI X B0 F M ρ κ tg iter R := fun σ vs H Q g q => by
  refine tOfI_of (pi_list pe_self) (h σ vs H _ g fun v H1 r M1 g1 hr => ?_)
  obtain ⟨ds, rfl, hr⟩ := hr
  obtain ⟨B, g1b⟩ := id g1
  obtain ⟨a, xs, rfl, ha, hx⟩ : ∃ a xs, v = .ref a ∧ SqL X.K F a xs ∧ RpA X.K B xs ds := g1b.fst
  refine ⟨a, rfl, ⟨xs, g1b.fh.seq ha⟩, q (Itl X.K a) H1 M1 ds _ (.ref a) (fun _ => True) g1 ⟨?_, ?_, ?_⟩ trivial hr⟩
  · intro i M ρ κ σ vs H _ g hi
    obtain ⟨B, g⟩ := g
    obtain ⟨a', ys, e, ha', hy⟩ : ∃ a' ys, V.ref a = .ref a' ∧ SqL X.K F a' ys ∧ RpA X.K B ys ds := g.fst
    cases e
    have hl := hy.len
    exact ⟨ys, ys[i]'(by omega), g.fh.seq ha', by simp [show i < ys.length by omega]⟩
  · intro M ρ κ σ vs H _ g
    obtain ⟨B, g⟩ := g
    obtain ⟨a', ys, e, ha', hy⟩ : ∃ a' ys, V.ref a = .ref a' ∧ SqL X.K F a' ys ∧ RpA X.K B ys ds := g.fst
    cases e
    have hl := hy.len
    exact ⟨ys, g.fh.seq ha', by omega⟩
  · intro i M ρ κ σ vs H x H' d _ g hd y
    obtain ⟨rfl, y⟩ := y
    obtain ⟨B, g⟩ := g
    obtain ⟨a', ys, e, ha', hy⟩ : ∃ a' ys, V.ref a = .ref a' ∧ SqL X.K F a' ys ∧ RpA X.K B ys ds := g.fst
    cases e
    obtain ⟨v, hv, hvd⟩ := hy.get hd
    have e : x = v := Option.some.inj ((y ys (g.fh.seq ha')).symm.trans hv)
    subst e
    exact ⟨B, g.pushD hvd⟩
/-- over a cell's list, which the loop leaves as it is -/
theorem di_cell (h : DE X B0 F M ρ κ iter fun r M1 => ∃ a ds, r = .v (.ref a) ∧ (a, .lst ds) ∈ M1 ∧ R ds r (fun M => (a, .lst ds) ∈ M) M1) : DI X B0 F M ρ κ tg iter R := fun σ vs H Q g q => by
  refine tOfI_of (pi_list pe_self) (h σ vs H _ g fun v H1 r M1 g1 hr => ?_)
  obtain ⟨a, ds, rfl, hm, hr⟩ := hr
  obtain ⟨B, g1b⟩ := id g1
  have e := g1.ref
  subst e
  obtain ⟨_, _, o, ho, xs, rfl, hx⟩ := g1b.cells _ hm
  refine ⟨a, rfl, ⟨xs, SqL.of ho⟩, q (Itl X.K a) H1 M1 ds _ (.ref a) (fun M => (a, .lst ds) ∈ M) g1 ⟨?_, ?_, ?_⟩ hm hr⟩
  · intro i M ρ κ σ vs H hm g hi
    obtain ⟨B, g⟩ := g
    obtain ⟨_, _, o, ho, ys, rfl, hy⟩ := g.cells _ hm
    have hl := hy.len
    exact ⟨ys, ys[i]'(by omega), SqL.of ho, by simp [show i < ys.length by omega]⟩
  · intro M ρ κ σ vs H hm g
    obtain ⟨B, g⟩ := g
    obtain ⟨_, _, o, ho, ys, rfl, hy⟩ := g.cells _ hm
    have hl := hy.len
    exact ⟨ys, SqL.of ho, by omega⟩
  · intro i M ρ κ σ vs H x H' d hm g hd y
    obtain ⟨rfl, y⟩ := y
    obtain ⟨B, g⟩ := g
    obtain ⟨_, _, o, ho, ys, rfl, hy⟩ := g.cells _ hm
    obtain ⟨v, hv, hvd⟩ := hy.get hd
    have e : x = v := Option.some.inj ((y ys (SqL.of ho)).symm.trans hv)
    subst e
    exact ⟨B, g.pushD hvd⟩
theorem di_tup (h : DE X B0 F M ρ κ iter fun r M1 => ∃ ds, r = .d (.tuple ds) ∧ R ds r (fun _ => True) M1) : DI X B0 F M ρ κ tg iter R := fun σ vs H Q g q => by
  refine tOfI_of (pi_tup pe_self) (h σ vs H _ g fun v H1 r M1 g1 hr => ?_)
  obtain ⟨ds, rfl, hr⟩ := hr
  obtain ⟨B, g1b⟩ := id g1
  obtain ⟨a, xs, rfl, ha, hx⟩ := Rp.tup_inv g1b.fst
  refine ⟨a, rfl, ⟨xs, same_t g1b.bh ha⟩, q (Itt X.K a) H1 M1 ds _ (.ref a) (fun _ => True) g1 ⟨?_, ?_, ?_⟩ trivial hr⟩
  · intro i M ρ κ σ vs H _ g hi
    obtain ⟨B, g⟩ := g
    obtain ⟨a', ys, e, ha', hy⟩ := Rp.tup_inv g.fst
    cases e
    have hl := hy.len
    exact ⟨ys, ys[i]'(by omega), same_t g.bh ha', by simp [show i < ys.length by omega]⟩
  · intro M ρ κ σ vs H _ g
    obtain ⟨B, g⟩ := g
    obtain ⟨a', ys, e, ha', hy⟩ := Rp.tup_inv g.fst
    cases e
    have hl := hy.len
    exact ⟨ys, same_t g.bh ha', by omega⟩
  · intro i M ρ κ σ vs H x H' d _ g hd y
    obtain ⟨rfl, y⟩ := y
    obtain ⟨B, g⟩ := g
    obtain ⟨a', ys, e, ha', hy⟩ := Rp.tup_inv g.fst
    cases e
    obtain ⟨v, hv, hvd⟩ := hy.get hd
    have e : x = v := Option.some.inj ((y ys (same_t g.bh ha')).symm.trans hv)
    subst e
    exact ⟨B, g.pushD hvd⟩
/-- lo, lo + 1, .. -/
def rngD (lo : Int) (n : Nat) : List PyData := (List.range n).map fun i => .int (lo + (i : Nat))
theorem rngD_len (lo : Int) (n : Nat) : (rngD lo n).length = n := by simp [rngD]
theorem rngD_get {lo : Int} {n i : Nat} {d : PyData} (h : (rngD lo n)[i]? = some d) : i < n ∧ d = .int (lo + (i : Nat)) := by
  have hi : i < n := by
    have := (List.getElem?_eq_some_iff.mp h).1
    rwa [rngD_len] at this
  refine ⟨hi, ?_⟩
  unfold rngD at h
  rw [List.getElem?_map, List.getElem?_range hi] at h
  exact (Option.some.inj h).symm
theorem walk_rng {K : Fg} {lo : Int} {n : Nat} {v : V} : DWalk K B0 F (Itr lo n) (rngD lo n) .un v (fun _ => True) where
  go := fun i M ρ κ σ vs H _ g hi => by rw [rngD_len] at hi; exact hi
  stop := fun M ρ κ σ vs H _ g => by rw [rngD_len]; exact Nat.le_refl _
  yld := fun i M ρ κ σ vs H x H' d _ g hd y => by
    obtain ⟨rfl, rfl⟩ := y
    obtain ⟨hi, rfl⟩ := rngD_get hd
    exact g.pushD fun _ _ => Rp.int _
theorem di_range1 (hm : X.mg "range" = none) (h : DA X B0 F M ρ κ [a] fun rs M1 => ∃ j : Int, rs = [.d (.int j)] ∧ -(2 ^ 62) ≤ j ∧ j < 2 ^ 62 ∧ R (rngD 0 j.toNat) .un (fun _ => True) M1) (hg : Gl X "range" := by rfl) (hs : starEach [a] X.env = [(false, eval a X.env)] := by rfl) : DI X B0 F M ρ κ tg (.Call (.Name "range" p) [a] [] pos) R := fun σ vs H Q g q => by
  refine tOfI_of (pi_range1 hg hm pa_self hs) (h σ vs H _ g fun ws H1 rs M1 hl g1 h1 => ?_)
  obtain ⟨j, rfl, h2, h3, hr⟩ := h1
  match ws, hl, g1 with
  | [w], _, g1 =>
    have e := g1.int
    subst e
    exact ⟨j, rfl, h2, h3, q _ H1 M1 _ .un .non _ (g1.pop.push fun _ _ => trivial) walk_rng trivial hr⟩
theorem di_range2 (hm : X.mg "range" = none) (h : DA X B0 F M ρ κ [a, b] fun rs M1 => ∃ i j : Int, rs = [.d (.int i), .d (.int j)] ∧ (-(2 ^ 62) ≤ i ∧ i < 2 ^ 62 ∧ -(2 ^ 62) ≤ j ∧ j < 2 ^ 62) ∧ R (rngD i (j - i).toNat) .un (fun _ => True) M1) (hg : Gl X "range" := by rfl)
    (hs : starEach [a, b] X.env = [(false, eval a X.env), (false, eval b X.env)] := by rfl) (hs2 : starEach [b] X.env = [(false, eval b X.env)] := by rfl) : DI X B0 F M ρ κ tg (.Call (.Name "range" p) [a, b] [] pos) R := fun σ vs H Q g q => by
  refine tOfI_of (pi_range2 hg hm pa_self hs hs2) (h σ vs H _ g fun ws H1 rs M1 hl g1 h1 => ?_)
  obtain ⟨i, j, rfl, h2, hr⟩ := h1
  match ws, hl, g1 with
  | [w, w'], _, g1 =>
    have g2 : Good X.K B0 F M1 ρ (.d (.int j) :: κ) σ (w' :: vs) H1 := g1.pop
    have e := g1.int
    subst e
    have e := g2.int
    subst e
    exact ⟨i, j, rfl, h2, q _ H1 M1 _ .un .non _ (g2.pop.push fun _ _ => trivial) walk_rng trivial hr⟩

/-! ### loops -/
variable {body : List Stmt}
theorem ds_for (h : DI X B0 F M ρ κ tg iter fun ds s Src M1 => ∃ Iv : Nat → Cs → List Sl → Prop, Iv 0 M1 ρ ∧ (∀ i M ρ', Iv i M ρ' → Src M) ∧
      (∀ i d M ρ', ds[i]? = some d → Iv i M ρ' → DG X B0 F M ρ' (s :: κ) (.d d) tg fun M2 ρ2 => DB X B0 F M2 ρ2 (s :: κ) body { nx := Iv (i + 1), ct := Iv (i + 1), bk := k.nx, rt := k.rt }) ∧ (∀ M ρ', Iv ds.length M ρ' → k.nx M ρ'))
    (hp : PassesOwn (model X.prog X.w) X.A X.env X.xe := by exact PassesOwn.never) (hc : X.calm = true := by rfl) (hs : ∀ x, foldedSetIterable iter X.env x = pure x := by intro _; rfl) : DS X B0 F M ρ κ (.For tg iter body [] pos) k :=
  fun σ vs H D g c => tOfS_of (ps_for hp hc pi_self pg_self pb_self hs) (h σ vs H _ g fun J H1 M1 ds s v Src g1 dw hsrc hr => by
    obtain ⟨Iv, h0, hsr, hst, hd⟩ := hr
    refine ⟨fun i m σ' H' => m = ds.length - i ∧ i ≤ ds.length ∧ ∃ M' ρ', Good X.K B0 F M' ρ' (s :: κ) σ' (v :: vs) H' ∧ Iv i M' ρ', ⟨ds.length, by simp, Nat.zero_le _, M1, ρ, g1, h0⟩, ?_⟩
    rintro i m σ' H' ⟨rfl, hi, M', ρ', g', hI⟩
    by_cases hlt : i < ds.length
    · obtain ⟨d, hdd⟩ : ∃ d, ds[i]? = some d := ⟨ds[i], by simp [hlt]⟩
      refine .inr ⟨dw.go i M' ρ' κ σ' vs H' (hsr i M' ρ' hI) g' hlt, fun σ2 H2 => ∃ M2 ρ2, Good X.K B0 F M2 ρ2 (s :: κ) σ2 (v :: vs) H2 ∧ Iv (i + 1) M2 ρ2, fun σ2 H2 ⟨M2, ρ2, g2, h2⟩ => ⟨ds.length - (i + 1), by omega, rfl, hlt, M2, ρ2, g2, h2⟩, fun x H2 y => ?_⟩
      have g2 := dw.yld i M' ρ' κ σ' vs H' x H2 d (hsr i M' ρ' hI) g' hdd y
      refine hst i d M' ρ' hdd hI σ' (v :: vs) H2 x _ g2 fun σ3 H3 M3 ρ3 g3 h3 => h3 σ3 (v :: vs) H3 _ g3 ⟨fun σ4 H4 M4 ρ4 g4 h4 => ⟨M4, ρ4, g4, h4⟩, c.rt, fun σ4 H4 M4 ρ4 g4 h4 => ?_, fun σ4 H4 M4 ρ4 g4 h4 => ⟨M4, ρ4, g4, h4⟩⟩
      exact c.nx σ4 H4 M4 ρ4 g4.pop h4
    · have e : i = ds.length := by omega
      subst e
      exact .inl ⟨dw.stop M' ρ' κ σ' vs H' (hsr _ M' ρ' hI) g', c.nx σ' H' M' ρ' g'.pop (hd M' ρ' hI)⟩)
theorem ds_while {c : Expr} (Iv : Nat → Cs → List Sl → Prop) (m0 : Nat) (h0 : Iv m0 M ρ) (h : ∀ m M ρ', Iv m M ρ' → DT X B0 F M ρ' κ c fun b M1 =>
      (b = true → DB X B0 F M1 ρ' κ body { nx := fun M ρ => ∃ m', m' < m ∧ Iv m' M ρ, ct := fun M ρ => ∃ m', m' < m ∧ Iv m' M ρ, bk := k.nx, rt := k.rt }) ∧ (b = false → k.nx M1 ρ'))
    (hp : PassesOwn (model X.prog X.w) X.A X.env X.xe := by exact PassesOwn.never) : DS X B0 F M ρ κ (.While c body [] pos) k :=
  fun σ vs H D g cn => tOfS_of (ps_while hp pt_self pb_self) ⟨fun m σ' H' => ∃ M' ρ', Good X.K B0 F M' ρ' κ σ' vs H' ∧ Iv m M' ρ', ⟨m0, M, ρ, g, h0⟩, fun m σ' H' ⟨M', ρ', g', hI⟩ => h m M' ρ' hI σ' vs H' _ g' fun b H1 M1 g1 h1 => by
    cases b with
    | true =>
      refine ⟨fun σ2 H2 => ∃ M2 ρ2, Good X.K B0 F M2 ρ2 κ σ2 vs H2 ∧ ∃ m', m' < m ∧ Iv m' M2 ρ2, fun σ2 H2 ⟨M2, ρ2, g2, m', hm, h2⟩ => ⟨m', hm, M2, ρ2, g2, h2⟩, ?_⟩
      exact h1.1 rfl σ' vs H1 _ g1 ⟨fun σ4 H4 M4 ρ4 g4 h4 => ⟨M4, ρ4, g4, h4⟩, cn.rt, cn.nx, fun σ4 H4 M4 ρ4 g4 h4 => ⟨M4, ρ4, g4, h4⟩⟩
    | false => exact cn.nx σ' H1 M1 ρ' g1 (h1.2 rfl)⟩
/-- slots may be forgotten -/
theorem Good.weak {K : Fg} {ρ' : List Sl} {σ : L2.St} {vs : List V} {H : Hp} (g : Good K B0 F M ρ κ σ vs H) (w : Paired (fun s s' => s' = s ∨ s' = Sl.un) ρ ρ') : Good K B0 F M ρ' κ σ vs H := by
  obtain ⟨B, g⟩ := g
  refine ⟨B, g.slt ?_⟩
  have : ∀ {σ : List (Option V)} {ρ ρ' : List Sl}, SOk K F B σ ρ → Paired (fun s s' => s' = s ∨ s' = Sl.un) ρ ρ' → SOk K F B σ ρ' := by
    intro σ ρ ρ' h
    induction h generalizing ρ' with
    | nil => intro w; cases w; exact .nil
    | cons h t ih =>
      intro w
      cases w with
      | cons w1 w2 =>
        refine .cons ?_ (ih w2)
        rcases w1 with e | e
        · rw [e]; exact h
        · rw [e]; trivial
  exact this g.sl w
end

/-! ### comprehensions -/
structure BA where
  st : Shared
  H : Hp
  C : Addr
  cl : List (Str × Addr)
  fp : List Addr
abbrev bk (X : Cx) (scope : Scope) (b : BA) : Cx := X.blk b.st b.H scope (compEnvC scope b.cl b.C X.env) b.fp
def wipeS (ρ : List Sl) : List Nat → List Sl
  | [] => ρ
  | v :: vs => (wipeS ρ vs).set v .un
section
variable {X : Cx} {B0 F : Hp} {M : Cs} {ρ κ : List Sl} {K : Fg}
theorem sok_wipe {F B : Hp} {σ : L2.St} {ρ : List Sl} (h : SOk K F B σ ρ) : ∀ vs : List Nat, SOk K F B (wipe σ vs) (wipeS ρ vs)
  | [] => h
  | v :: vs => Paired.set (show OOk K F B none .un from trivial) v (sok_wipe h vs)
/-- the slots' values as a part of the stack -/
def valsOf (σ : L2.St) : List V := σ.map fun o => o.getD .non
def Shape (σ : L2.St) (ρ : List Sl) : Prop := Paired (fun (o : Option V) (s : Sl) => s = .un ∨ ∃ x, o = some x) σ ρ
theorem shape_of {F B : Hp} {σ : L2.St} {ρ : List Sl} (h : SOk K F B σ ρ) : Shape σ ρ := Paired.mapP h fun o s z => by
  by_cases e : s = .un
  · exact .inl e
  · obtain ⟨x, e, _⟩ := OOk.v e z; exact .inr ⟨x, e⟩
theorem kok_slots {F B : Hp} : ∀ {σ : L2.St} {ρ : List Sl}, SOk K F B σ ρ → KOk K F B (valsOf σ) ρ
  | _, _, .nil => .nil
  | o :: σ, s :: ρ, .cons h t => by
    refine .cons ?_ (kok_slots t)
    by_cases e : s = .un
    · subst e; trivial
    · obtain ⟨x, rfl, hx⟩ := OOk.v e h; exact hx
theorem sok_back {F B : Hp} : ∀ {σ : L2.St} {ρ : List Sl}, Shape σ ρ → KOk K F B (valsOf σ) ρ → SOk K F B σ ρ
  | _, _, .nil, _ => .nil
  | o :: σ, s :: ρ, .cons h t, k => by
    cases k with
    | cons k1 k2 =>
      refine .cons ?_ (sok_back t k2)
      rcases h with e | ⟨x, rfl⟩
      · subst e; trivial
      · exact OOk.of k1
theorem kok_split2 {F B : Hp} : ∀ {ws : List V} {rs : List Sl} {κ : List Sl} {vs : List V}, ws.length = rs.length → KOk K F B (ws ++ vs) (rs ++ κ) → KOk K F B ws rs ∧ KOk K F B vs κ := kok_split
theorem wipe_set {σ : L2.St} {o : Option V} {i : Nat} : ∀ {vs : List Nat}, i ∈ vs → wipe (σ.set i o) vs = wipe σ vs
  | [], h => by cases h
  | v :: vs, h => by
    unfold wipe
    by_cases e : i = v
    · subst e
      have : ∀ vs : List Nat, (wipe (σ.set i o) vs).set i none = (wipe σ vs).set i none := by
        intro vs
        induction vs with
        | nil => unfold wipe; rw [List.set_set]
        | cons v vs ih =>
          unfold wipe
          by_cases e : v = i
          · subst e; rw [List.set_set, List.set_set]; exact ih
          · rw [List.set_comm _ _ e, List.set_comm _ _ e, ih]
      exact this vs
    · have h' : i ∈ vs := by
        rcases List.mem_cons.mp h with h | h
        · exact absurd h e
        · exact h
      rw [wipe_set h']
/-- a turn's end: the element is appended -/
theorem lc_push {D : Addr} {acc : List PyData} {y' : PyData} {M' : Cs} {ρ' κ' : List Sl} {σ : L2.St} {y : V} {vs : List V} {H : Hp} (g : Good K B0 F ((D, .lst acc) :: M') ρ' (.d y' :: κ') σ (y :: vs) H) (hl : acc.length < 100000) {Q : Hp → Prop}
    (q : ∀ H', Good K B0 F ((D, .lst (acc ++ [y'])) :: M') ρ' κ' σ vs H' → Q H') : ∃ ac, H D = some (.lst ac) ∧ ac.length < sizeLine ∧ Q (upd H D (.lst (ac ++ [y]))) := by
  obtain ⟨B, g⟩ := g
  obtain ⟨_, _, o, ho, ws, rfl, hw⟩ := g.cells _ List.mem_cons_self
  have hl2 := hw.len
  have hz : (100000 : Nat) ≤ sizeLine := by decide
  refine ⟨ws, ho, by omega, q _ ⟨B, ?_⟩⟩
  exact (g.pop).write (j := 0) (c := .lst acc) (c' := .lst (acc ++ [y'])) rfl ⟨_, rfl, hw.app (.cons g.fst .nil)⟩
/-- a comprehension: g the target's reading (names alone), tt the tests', own its own names with their places -/
theorem lc_main {elt tg iter : Expr} {ifs : List Expr} {scope : Scope} {own : List (Str × Nat)} {pos : Pos} {g : TG} {tt : TT} {P : Sl → Cs → Prop} (hc : X.calm = true) (hN : X.N.Nodup) (ok : BlkOk X.N X.env.scope scope own)
    (hg : ∀ b : BA, PG (bk X scope b) tg g) (ht : ∀ b : BA, PTs (bk X scope b) ifs tt) (hs : ∀ x, foldedSetIterable iter X.env x = pure x)
    (h : DI X B0 F M ρ κ tg iter fun ds s Src M1 => ∀ D, ∃ Iv : Nat → List PyData → Cs → Prop, Iv 0 [] M1 ∧ (∀ i acc M, Iv i acc M → Src ((D, .lst acc) :: M)) ∧
      (∀ i d acc M σ vs H x (Q : Hp → Prop), ds[i]? = some d → Iv i acc M → Good X.K B0 F ((D, .lst acc) :: M) (wipeS ρ (own.map (·.2))) (.d d :: s :: (ρ ++ κ)) σ (x :: vs) H →
        (∀ acc' M' ρ' σ' H', Good X.K B0 F ((D, .lst acc') :: M') ρ' (s :: (ρ ++ κ)) σ' vs H' → Iv (i + 1) acc' M' → Q H') →
        g x σ H fun σ2 H2 => wipe σ2 (own.map (·.2)) = wipe σ (own.map (·.2)) ∧ tt σ2 H2 fun b H3 =>
          if b = true then (∀ b : BA, tOf (bk X scope b) elt σ2 H3 fun y H4 => ∃ ac, H4 D = some (.lst ac) ∧ ac.length < sizeLine ∧ Q (upd H4 D (.lst (ac ++ [y])))) else Q H3) ∧
      ∀ acc M, Iv ds.length acc M → P (.v (.ref D)) ((D, .lst acc) :: M)) : DE X B0 F M ρ κ (.ListComp elt [⟨tg, iter, ifs, 0⟩] scope pos) P := fun σ vs H Q g0 q => by
  refine tOf_of (pe_lc (te := fun σ H Q => ∀ b : BA, tOf (bk X scope b) elt σ H Q) hc hN pi_self ok (fun s H C cl fp => hg ⟨s, H, C, cl, fp⟩) (fun s H C cl fp => ht ⟨s, H, C, cl, fp⟩)
    (fun s H C cl fp => ⟨fun pins s' σ' H' Q' I z => z ⟨s, H, C, cl, fp⟩ pins s' I⟩) hs) ?_
  have hsh : Shape σ ρ := by obtain ⟨B, g0⟩ := g0; exact shape_of g0.sl
  refine h σ vs H _ g0 fun J H1 M1 ds s v Src g1 dw hsrc hr D hD => ?_
  obtain ⟨Iv, h0, hsr, hst, hd⟩ := hr D
  -- all outer slots on the stack as well
  have up : ∀ {M' H'}, Good X.K B0 F M' ρ (s :: κ) σ (v :: vs) H' → Good X.K B0 F M' ρ (s :: (ρ ++ κ)) σ (v :: (valsOf σ ++ vs)) H' := fun {M' H'} ⟨B, g⟩ => by
    refine ⟨B, g.stk ?_⟩
    cases g.st with
    | cons k1 k2 => exact .cons k1 (Paired.app (kok_slots g.sl) k2)
  have hlen : (valsOf σ).length = ρ.length := by
    have := Paired.length hsh
    simp [valsOf, this]
  have down : ∀ {M' H' ρ' σ'}, Good X.K B0 F M' ρ' (s :: (ρ ++ κ)) σ' (v :: (valsOf σ ++ vs)) H' → Good X.K B0 F M' ρ (s :: κ) σ (v :: vs) H' := fun {M' H' ρ' σ'} ⟨B, g⟩ => by
    cases g.st with
    | cons k1 k2 =>
      obtain ⟨k3, k4⟩ := kok_split hlen k2
      exact ⟨B, (g.slt (sok_back hsh k3)).stk (.cons k1 k4)⟩
  refine ⟨fun i m H' => m = ds.length - i ∧ i ≤ ds.length ∧ ∃ acc M', Good X.K B0 F ((D, .lst acc) :: M') ρ (s :: κ) σ (v :: vs) H' ∧ Iv i acc M', ⟨ds.length, by simp, Nat.zero_le _, [], M1, ?_, h0⟩, ?_⟩
  · obtain ⟨B, g1⟩ := g1
    exact ⟨B, g1.cell (c := .lst []) hD ⟨[], rfl, .nil⟩⟩
  rintro i m H' ⟨rfl, hi, acc, M', g', hI⟩
  by_cases hlt : i < ds.length
  · obtain ⟨d, hdd⟩ : ∃ d, ds[i]? = some d := ⟨ds[i], by simp [hlt]⟩
    refine .inr ⟨dw.go i _ ρ κ σ vs H' (hsr i acc M' hI) g' hlt, fun H2 => ∃ acc2 M2, Good X.K B0 F ((D, .lst acc2) :: M2) ρ (s :: κ) σ (v :: vs) H2 ∧ Iv (i + 1) acc2 M2, fun H2 ⟨acc2, M2, g2, h2⟩ => ⟨ds.length - (i + 1), by omega, rfl, hlt, acc2, M2, g2, h2⟩, fun x H2 y => ?_⟩
    have g2 := dw.yld i _ ρ (ρ ++ κ) σ (valsOf σ ++ vs) H' x H2 d (hsr i acc M' hI) (up g') hdd y
    have g3 : Good X.K B0 F ((D, .lst acc) :: M') (wipeS ρ (own.map (·.2))) (.d d :: s :: (ρ ++ κ)) (wipe σ (own.map (·.2))) (x :: v :: (valsOf σ ++ vs)) H2 := by
      obtain ⟨B, g2⟩ := g2
      exact ⟨B, g2.slt (sok_wipe g2.sl _)⟩
    have z := hst i d acc M' _ _ H2 x (fun H2 => ∃ acc2 M2, Good X.K B0 F ((D, .lst acc2) :: M2) ρ (s :: κ) σ (v :: vs) H2 ∧ Iv (i + 1) acc2 M2) hdd hI g3 fun acc' M'' ρ' σ' H'' gg hh => ⟨acc', M'', down gg, hh⟩
    have eqw : wipe (wipe σ (own.map (·.2))) (own.map (·.2)) = wipe σ (own.map (·.2)) := by
      have : ∀ (ws us : List Nat), (∀ w ∈ us, w ∈ ws) → wipe (wipe σ us) ws = wipe σ ws := by
        intro ws us
        induction us with
        | nil => intro _; rfl
        | cons u us ih =>
          intro hu
          show wipe ((wipe σ us).set u none) ws = _
          rw [wipe_set (hu u List.mem_cons_self)]
          exact ih fun w hw => hu w (List.mem_cons_of_mem _ hw)
      exact this _ _ fun w hw => hw
    rw [eqw] at z
    exact z
  · have e : i = ds.length := by omega
    subst e
    exact .inl ⟨dw.stop _ ρ κ σ vs H' (hsr _ acc M' hI) g', q _ H' _ _ (by
      obtain ⟨B, g'⟩ := g'
      exact ⟨B, g'.pop.pushV⟩) (hd acc M' hI)⟩

/-! the forms one uses -/
variable {elt tg iter c e : Expr} {scope : Scope} {pos : Pos} {P : Sl → Cs → Prop}
/-- [elt for x in iter]: x in slot i -/
theorem de_lcC (i : Nat) {x : Str} {px : Pos} (h : DI X B0 F M ρ κ (.Name x px) iter fun ds s Src M1 => ∀ D, ∃ Iv : Nat → List PyData → Cs → Prop, Iv 0 [] M1 ∧ (∀ i acc M, Iv i acc M → Src ((D, .lst acc) :: M)) ∧
      (∀ j d acc M, ds[j]? = some d → Iv j acc M → ∀ b : BA, DE (bk X scope b) B0 F ((D, .lst acc) :: M) ((ρ.set i .un).set i (.d d)) (s :: (ρ ++ κ)) elt fun r M2 => ∃ y M', r = .d y ∧ M2 = (D, .lst acc) :: M' ∧ acc.length < 100000 ∧ Iv (j + 1) (acc ++ [y]) M') ∧
      ∀ acc M, Iv ds.length acc M → P (.v (.ref D)) ((D, .lst acc) :: M)) (hN : X.N.Nodup := by exact (by assumption)) (ok : BlkOk X.N X.env.scope scope [(x, i)] := by exact blkOk_by (by kernel_rfl)) (hg : ∀ b : BA, PG (bk X scope b) (.Name x px) (gName i) := by exact fun b => pg_name (by assumption) rfl (Or.inl rfl))
      (hc : X.calm = true := by rfl) (hs : ∀ x, foldedSetIterable iter X.env x = pure x := by intro _; rfl) : DE X B0 F M ρ κ (.ListComp elt [⟨.Name x px, iter, [], 0⟩] scope pos) P :=
  lc_main (own := [(x, i)]) (g := gName i) (tt := tYes) hc hN ok hg (fun _ => pts_nil) hs fun σ vs H Q g0 q => h σ vs H Q g0 fun J H1 M1 ds s v Src g1 dw hsrc hr => q J H1 M1 ds s v Src g1 dw hsrc fun D => by
    obtain ⟨Iv, h0, hsr, hst, hd⟩ := hr D
    refine ⟨Iv, h0, hsr, fun j d acc M σ vs H x Q hdd hI g hq => ⟨wipe_set (by simp), ?_⟩, hd⟩
    have fin : ∀ b : BA, tOf (bk X scope b) elt (σ.set i (some x)) H fun y H4 => ∃ ac, H4 D = some (.lst ac) ∧ ac.length < sizeLine ∧ Q (upd H4 D (.lst (ac ++ [y]))) := ?_
    · unfold tYes
      dsimp only
      rw [if_pos rfl]
      exact fin
    intro b
    have g2 : Good X.K B0 F ((D, .lst acc) :: M) ((ρ.set i .un).set i (.d d)) (s :: (ρ ++ κ)) (σ.set i (some x)) vs H := by
      obtain ⟨B, g⟩ := g
      exact ⟨B, g.pop.slt (Paired.set (OOk.of g.fst) i g.sl)⟩
    refine hst j d acc M hdd hI b (σ.set i (some x)) vs H _ g2 fun y H4 r M2 g4 h4 => ?_
    obtain ⟨y', M', rfl, rfl, hl, hI'⟩ := h4
    exact lc_push g4 hl fun H' g5 => hq _ _ _ _ _ g5 hI'
/-- [elt for x in iter if c] -/
theorem de_lcIfC (i : Nat) {x : Str} {px : Pos} (h : DI X B0 F M ρ κ (.Name x px) iter fun ds s Src M1 => ∀ D, ∃ Iv : Nat → List PyData → Cs → Prop, Iv 0 [] M1 ∧ (∀ i acc M, Iv i acc M → Src ((D, .lst acc) :: M)) ∧
      (∀ j d acc M, ds[j]? = some d → Iv j acc M → ∀ b : BA, DT (bk X scope b) B0 F ((D, .lst acc) :: M) ((ρ.set i .un).set i (.d d)) (s :: (ρ ++ κ)) c fun k M2 =>
        (k = true → ∀ b : BA, DE (bk X scope b) B0 F M2 ((ρ.set i .un).set i (.d d)) (s :: (ρ ++ κ)) elt fun r M3 => ∃ y M', r = .d y ∧ M3 = (D, .lst acc) :: M' ∧ acc.length < 100000 ∧ Iv (j + 1) (acc ++ [y]) M') ∧
        (k = false → ∃ M', M2 = (D, .lst acc) :: M' ∧ Iv (j + 1) acc M')) ∧
      ∀ acc M, Iv ds.length acc M → P (.v (.ref D)) ((D, .lst acc) :: M)) (hN : X.N.Nodup := by exact (by assumption)) (ok : BlkOk X.N X.env.scope scope [(x, i)] := by exact blkOk_by (by kernel_rfl)) (hg : ∀ b : BA, PG (bk X scope b) (.Name x px) (gName i) := by exact fun b => pg_name (by assumption) rfl (Or.inl rfl))
      (hc : X.calm = true := by rfl) (hs : ∀ x, foldedSetIterable iter X.env x = pure x := by intro _; rfl) : DE X B0 F M ρ κ (.ListComp elt [⟨.Name x px, iter, [c], 0⟩] scope pos) P :=
  lc_main (own := [(x, i)]) (g := gName i) (tt := fun σ H Q => ∀ b : BA, tOfT (bk X scope b) c σ H Q) hc hN ok hg (fun b => ⟨fun pins s σ H Q I z => (pts_one pt_self).run pins s σ H Q I (z b)⟩) hs fun σ vs H Q g0 q => h σ vs H Q g0 fun J H1 M1 ds s v Src g1 dw hsrc hr => q J H1 M1 ds s v Src g1 dw hsrc fun D => by
    obtain ⟨Iv, h0, hsr, hst, hd⟩ := hr D
    refine ⟨Iv, h0, hsr, fun j d acc M σ vs H x Q hdd hI g hq => ⟨wipe_set (by simp), ?_⟩, hd⟩
    intro b
    have g2 : Good X.K B0 F ((D, .lst acc) :: M) ((ρ.set i .un).set i (.d d)) (s :: (ρ ++ κ)) (σ.set i (some x)) vs H := by
      obtain ⟨B, g⟩ := g
      exact ⟨B, g.pop.slt (Paired.set (OOk.of g.fst) i g.sl)⟩
    refine hst j d acc M hdd hI b (σ.set i (some x)) vs H _ g2 fun k H3 M2 g3 h3 => ?_
    cases k with
    | true =>
      rw [if_pos rfl]
      intro b2
      refine h3.1 rfl b2 (σ.set i (some x)) vs H3 _ g3 fun y H4 r M2 g4 h4 => ?_
      obtain ⟨y', M', rfl, rfl, hl, hI'⟩ := h4
      exact lc_push g4 hl fun H' g5 => hq _ _ _ _ _ g5 hI'
    | false =>
      rw [if_neg Bool.false_ne_true]
      obtain ⟨M', rfl, hI'⟩ := h3.2 rfl
      exact hq _ _ _ _ _ g3 hI'
end
end DL
set_option maxHeartbeats 2000000
namespace DL
open PySem PySem.Spec PyProof.Rows L2

/-! ### defs -/
def NoRd : Sl → Prop
  | .rd _ => False
  | _ => True
/-- a promise over data: R takes the arguments' slots, the cells handed over and what is wanted -/
def SpG (K : Fg) (R : List Sl → Cs → (Sl → Cs → Prop) → Prop) : Sp := fun vs H Q _ => ∃ B0 F M κ W, Good K B0 F M [] κ [] vs H ∧ (∀ r M, W r M → NoRd r) ∧ R κ M W ∧ ∀ v H' r M', Good K B0 F M' [] [r] [] [v] H' → W r M' → Q v H'
section
variable {P : Program} {w : World} {K : Fg} {mg : Str → Option Value} {base : Heap}
theorem start_sok {F B : Hp} {n : Nat} : ∀ {vs : List V} {κ : List Sl}, KOk K F B vs κ → SOk K F B (vs.map some ++ List.replicate n none) (κ ++ List.replicate n .un)
  | _, _, .nil => by
    have : ∀ n : Nat, SOk K F B (List.replicate n none) (List.replicate n .un) := by
      intro n
      induction n with
      | zero => exact .nil
      | succ n ih => exact .cons trivial ih
    exact this n
  | _, _, .cons h t => .cons (OOk.of h) (start_sok t)
theorem fn_ok {x qual : Str} {st : Stmt} {f : Addr} {fd : FuncData} {N ps : List Str} {k : Nat} {R : List Sl → Cs → (Sl → Cs → Prop) → Prop} (Fu : Fun K x qual st f fd) (S : FnScope N ps (defScope st)) (len : ∀ κ M W, R κ M W → κ.length = ps.length)
    (body : ∀ (cdv : Value) (A : Around) (outer : List Env) (s : Shared) (H : Hp) (E : XK), Room k (A.deeper (envOfC qual (defScope st) s.heap.objs.size f cdv)) → N.Nodup → ∀ (B0 F : Hp) (κ : List Sl) (M : Cs) (W : Sl → Cs → Prop), R κ M W →
      DB (cxOf CX0 P w K mg base N qual (defScope st) f cdv A outer s H E).nox B0 F M (κ ++ List.replicate (N.length - ps.length) .un) [] (defBody st) { nx := fun M' _ => W (.d .none) M', rt := W }) : FnOk P w K mg base CX0 (k + 1) f fd ps (SpG K R) := by
  refine Fu.ok S (fun vs H Q E h => ?_) (fun cdv A outer s H vs Q E hr h => ?_)
  · obtain ⟨B0, F, M, κ, W, ⟨B, g⟩, _, hR, _⟩ := h
    rw [Paired.length g.st]
    exact len κ M W hR
  · obtain ⟨B0, F, M, κ, W, ⟨B, g⟩, hn, hR, q⟩ := h
    refine ⟨tOfB _ (defBody st), pb_self, ?_⟩
    have hl := Paired.length g.st
    have hk := len κ M W hR
    refine body cdv A outer s H E hr S.nd B0 F κ M W hR (L2.start N vs) [] H _ ⟨B, (g.stk .nil).slt ?_⟩ ⟨fun σ' H' M' ρ' g' n => ?_, fun v H' r M' g' n => q v H' r M' g' n, fun _ _ _ _ _ n => n.elim, fun _ _ _ _ _ n => n.elim⟩
    · unfold L2.start
      rw [hl, hk]
      exact start_sok g.st
    · refine q .non H' (.d .none) M' ?_ n
      obtain ⟨B', g'⟩ := g'
      exact ⟨B', (g'.stk .nil |>.slt .nil).pushD .non⟩
end

/-- how the arguments are seen by the callee: a cell's list as a frozen one -/
inductive Views (M : Cs) : List Sl → List Sl → Prop
  | nil : Views M [] []
  | same {r : Sl} {rs κ : List Sl} : Views M rs κ → Views M (r :: rs) (r :: κ)
  | rd {a : Addr} {ds : List PyData} {rs κ : List Sl} : (a, .lst ds) ∈ M → Views M rs κ → Views M (.v (.ref a) :: rs) (.rd ds :: κ)
section
variable {X : Cx} {B0 F : Hp} {M : Cs} {ρ κ : List Sl} {P : Sl → Cs → Prop} {e : Expr} {es : List Expr} {p pos : Pos} {x : Str}
theorem kok_views {K : Fg} {F B H : Hp} (fh : Same F H) (hc : ∀ c, c ∈ M → CellOk K F B H c) : ∀ {rs κ' : List Sl} {ws : List V}, Views M rs κ' → KOk K F B ws rs → KOk K H B ws κ'
  | _, _, _, .nil, h => by cases h; exact .nil
  | _, _, _, .same v, h => by
    cases h with
    | cons h1 h2 =>
      refine .cons ?_ (kok_views fh hc v h2)
      rename_i r rs κ a ws
      cases r with
      | un => trivial
      | d y => exact h1
      | rd ys => obtain ⟨a, xs, h1, h2, h3⟩ := h1; exact ⟨a, xs, h1, fh.seq h2, h3⟩
      | v y => exact h1
  | _, _, _, .rd hm v, h => by
    cases h with
    | cons h1 h2 =>
      refine .cons ?_ (kok_views fh hc v h2)
      obtain ⟨_, _, o, ho, ws, rfl, hw⟩ := hc _ hm
      exact ⟨_, ws, h1, SqL.of ho, hw⟩
/-- behind a pure call -/
theorem good_after {K : Fg} {σ : L2.St} {vs : List V} {H1 H' B : Hp} {M' : Cs} {x : PyData} {v : V} (g : GoodB K B0 F M ρ κ σ vs H1 B) (g' : Good K B H1 M' [] [.d x] [] [v] H') : Good K B0 F M ρ (.d x :: κ) σ (v :: vs) H' := by
  obtain ⟨B', g'⟩ := g'
  refine ⟨B', g.b0.trans g'.b0, g'.bh, g.fh.trans g'.fh, fun a ha => ?_, fun c hc => ?_, g.nd, Paired.mapP g.sl fun _ _ z => z.ext g'.b0, .cons g'.fst (Paired.mapP g.st fun _ _ z => z.ext g'.b0)⟩
  · rcases g'.new a ha with h | h
    · exact g.new a h
    · exact .inr (g.fh.free h)
  · obtain ⟨h1, h2, u, h3, h4⟩ := g.cells c hc
    refine ⟨?_, h2, u, g'.fh _ _ h3, h4.ext g'.b0⟩
    cases e : B' c.1 with
    | none => rfl
    | some o =>
      rcases g'.new c.1 (by rw [e]; exact fun z => nomatch z) with h | h
      · exact absurd h1 h
      · rw [h3] at h; cases h
variable {f : Addr} {fd : FuncData} {ps : List Str} {j : Nat} {R : List Sl → Cs → (Sl → Cs → Prop) → Prop}
/-- f(e, ..): a def that leaves all as it was -/
theorem de_call (Fo : FnOk X.prog X.w X.K X.mg X.base CX0 j f fd ps (SpG X.K R)) (hr : Room j X.A) (hm : X.mg x = some (.ref f)) (hk : PySem.W.keepIn X.K (.ref f) = true) (hb : Binds X.K fd ps [])
    (h : DA X B0 F M ρ κ (e :: es) fun rs M1 => ∃ κ', Views M1 rs κ' ∧ R κ' [] fun r _ => ∃ y, r = .d y ∧ P (.d y) M1) (hg : Gl X x := by rfl) (hdb : (x == ("__debug__" : Str)) = false := by decide)
    (he : starEach (e :: es) X.env = (false, eval e X.env) :: starEach es X.env := by rfl) (hpl : (backTo pos (starEach es X.env)).any (·.1) = false := by rfl) : DE X B0 F M ρ κ (.Call (.Name x p) (e :: es) [] pos) P := fun σ vs H Q g q => by
  refine tOf_of (pe_call (E := E0) Fo hr hg hm hk hb .nil pass0 pa_self hdb he hpl) (h σ vs H _ g fun ws H1 rs M1 hl g1 h1 => ?_)
  obtain ⟨κ', hv, hR⟩ := h1
  rw [List.append_nil]
  obtain ⟨B, g1⟩ := g1
  obtain ⟨k1, k2⟩ := kok_split hl g1.st
  refine ⟨B, H1, [], κ', _, ⟨B, Same.refl _, g1.bh, Same.refl _, fun a ha => .inl ha, fun c hc => absurd hc List.not_mem_nil, .nil, .nil, kok_views g1.fh g1.cells hv k1⟩, ?_, hR, fun v H' r M' g' hW => ?_⟩
  · rintro r M ⟨y, rfl, _⟩
    trivial
  · obtain ⟨y, rfl, hP⟩ := hW
    exact q v H' _ M1 (good_after (g1.stk k2) g') hP
/-- f(): no argument -/
theorem de_call0 (Fo : FnOk X.prog X.w X.K X.mg X.base CX0 j f fd ps (SpG X.K R)) (hr : Room j X.A) (hm : X.mg x = some (.ref f)) (hk : PySem.W.keepIn X.K (.ref f) = true) (hb : Binds X.K fd ps [])
    (h : R [] [] fun r _ => ∃ y, r = .d y ∧ P (.d y) M) (hg : Gl X x := by rfl) (hdb : (x == ("__debug__" : Str)) = false := by decide) : DE X B0 F M ρ κ (.Call (.Name x p) [] [] pos) P := fun σ vs H Q g q => by
  refine tOf_of (pe_call0 (E := E0) Fo hr hg hm hk hb .nil pass0 hdb) ?_
  obtain ⟨B, g1⟩ := g
  refine ⟨B, H, [], [], _, ⟨B, Same.refl _, g1.bh, Same.refl _, fun a ha => .inl ha, fun c hc => absurd hc List.not_mem_nil, .nil, .nil, .nil⟩, ?_, h, fun v H' r M' g' hW => ?_⟩
  · rintro r M ⟨y, rfl, _⟩
    trivial
  · obtain ⟨y, rfl, hP⟩ := hW
    exact q v H' _ M (good_after g1 g') hP
open Classical in
/-- a heap without some addresses -/
noncomputable def without (H : Hp) (as : List Addr) : Hp := fun a => if a ∈ as then none else H a
theorem without_in {H : Hp} {as : List Addr} {a : Addr} (h : a ∈ as) : without H as a = none := by unfold without; rw [if_pos h]
theorem without_out {H : Hp} {as : List Addr} {a : Addr} (h : a ∉ as) : without H as a = H a := by unfold without; rw [if_neg h]
theorem without_some {H : Hp} {as : List Addr} {a : Addr} {o : HO} (h : without H as a = some o) : a ∉ as ∧ H a = some o := by
  by_cases q : a ∈ as
  · rw [without_in q] at h; cases h
  · rw [without_out q] at h; exact ⟨q, h⟩
theorem VOk.extF {K : Fg} {F F' B : Hp} {x : V} {s : Sl} (e : Same F F') (h : VOk K F B x s) : VOk K F' B x s := by
  cases s with
  | un => trivial
  | d y => exact h
  | rd ys => obtain ⟨a, xs, h1, h2, h3⟩ := h; exact ⟨a, xs, h1, e.seq h2, h3⟩
  | v y => exact h
/-- behind a call that may change the first cells -/
theorem good_afterM {K : Fg} {σ : L2.St} {vs : List V} {H1 H' B : Hp} {Mp Mr M' : Cs} {r : Sl} {v : V} (g : GoodB K B0 F (Mp ++ Mr) ρ κ σ vs H1 B) (hn : NoRd r) (g' : Good K B (without H1 (Mp.map (·.1))) M' [] [r] [] [v] H') : Good K B0 F (M' ++ Mr) ρ (r :: κ) σ (v :: vs) H' := by
  obtain ⟨B', g'⟩ := g'
  have nd := g.nd
  rw [List.map_append] at nd
  have sF : Same F (without H1 (Mp.map (·.1))) := fun a o e => by
    rw [without_out]
    · exact g.fh a o e
    · intro z
      obtain ⟨c, hc, rfl⟩ := List.mem_map.mp z
      rw [(g.cells c (List.mem_append_left _ hc)).f] at e
      cases e
  have rest : ∀ c ∈ Mr, without H1 (Mp.map (·.1)) c.1 = H1 c.1 := fun c hc => without_out fun z => (List.nodup_append.mp nd).2.2 _ z _ (List.mem_map.mpr ⟨c, hc, rfl⟩) rfl
  have hr' : VOk K F B' v r := by
    have h1 := g'.fst
    cases r with
    | un => trivial
    | d y => exact h1
    | rd ys => exact hn.elim
    | v y => exact h1
  refine ⟨B', g.b0.trans g'.b0, g'.bh, sF.trans g'.fh, fun a ha => ?_, fun c hc => ?_, ?_, Paired.mapP g.sl fun _ _ z => z.ext g'.b0, .cons hr' (Paired.mapP g.st fun _ _ z => z.ext g'.b0)⟩
  · rcases g'.new a ha with h | h
    · exact g.new a h
    · exact .inr (sF.free h)
  · rcases List.mem_append.mp hc with hc | hc
    · obtain ⟨h1, h2, u, h3, h4⟩ := g'.cells c hc
      exact ⟨h1, sF.free h2, u, h3, h4⟩
    · obtain ⟨h1, h2, u, h3, h4⟩ := g.cells c (List.mem_append_right _ hc)
      have h5 := rest c hc
      refine ⟨?_, h2, u, g'.fh _ _ (by rw [h5]; exact h3), h4.ext g'.b0⟩
      cases e : B' c.1 with
      | none => rfl
      | some o =>
        rcases g'.new c.1 (by rw [e]; exact fun z => nomatch z) with h | h
        · exact absurd h1 h
        · rw [h5, h3] at h; cases h
  · rw [List.map_append, List.nodup_append]
    refine ⟨g'.nd, (List.nodup_append.mp nd).2.1, fun a ha b hb e => ?_⟩
    subst e
    obtain ⟨c, hc, e1⟩ := List.mem_map.mp ha
    obtain ⟨c2, hc2, e2⟩ := List.mem_map.mp hb
    have h1 := (g'.cells c hc).f
    obtain ⟨_, _, u, h3, _⟩ := g.cells c2 (List.mem_append_right _ hc2)
    rw [e1, ← e2, rest c2 hc2, h3] at h1
    cases h1
/-- f(e, ..): a def that may change the first n cells -/
theorem de_callM (n : Nat) (Fo : FnOk X.prog X.w X.K X.mg X.base CX0 j f fd ps (SpG X.K R)) (hr : Room j X.A) (hm : X.mg x = some (.ref f)) (hk : PySem.W.keepIn X.K (.ref f) = true) (hb : Binds X.K fd ps [])
    (h : DA X B0 F M ρ κ (e :: es) fun rs M1 => R rs (M1.take n) fun r M2 => NoRd r ∧ P r (M2 ++ M1.drop n)) (hg : Gl X x := by rfl) (hdb : (x == ("__debug__" : Str)) = false := by decide)
    (he : starEach (e :: es) X.env = (false, eval e X.env) :: starEach es X.env := by rfl) (hpl : (backTo pos (starEach es X.env)).any (·.1) = false := by rfl) : DE X B0 F M ρ κ (.Call (.Name x p) (e :: es) [] pos) P := fun σ vs H Q g q => by
  refine tOf_of (pe_call (E := E0) Fo hr hg hm hk hb .nil pass0 pa_self hdb he hpl) (h σ vs H _ g fun ws H1 rs M1 hl g1 hR => ?_)
  rw [List.append_nil]
  obtain ⟨B, g1⟩ := g1
  obtain ⟨k1, k2⟩ := kok_split hl g1.st
  have g2 : GoodB X.K B0 F (M1.take n ++ M1.drop n) ρ κ σ vs H1 B := by rw [List.take_append_drop]; exact g1.stk k2
  have sF : Same F (without H1 ((M1.take n).map (·.1))) := fun a o e => by
    rw [without_out]
    · exact g1.fh a o e
    · intro z
      obtain ⟨c, hc, rfl⟩ := List.mem_map.mp z
      rw [(g1.cells c (List.mem_of_mem_take hc)).f] at e
      cases e
  refine ⟨B, without H1 ((M1.take n).map (·.1)), M1.take n, rs, _, ⟨B, Same.refl _, g1.bh, fun a o e => (without_some e).2, fun a ha => .inl ha, fun c hc => ?_, ?_, .nil, Paired.mapP k1 fun _ _ z => z.extF sF⟩, ?_, hR, fun v H' r M' g' hW => ?_⟩
  · obtain ⟨h1, h2, u, h3, h4⟩ := g1.cells c (List.mem_of_mem_take hc)
    exact ⟨h1, without_in (List.mem_map.mpr ⟨c, hc, rfl⟩), u, h3, h4⟩
  · rw [List.map_take]
    exact g1.nd.sublist (List.take_sublist _ _)
  · rintro r M ⟨hn, _⟩
    exact hn
  · exact q v H' r _ (good_afterM g2 hW.1 g') hW.2
end

/-! ### built-ins by their slots -/
section
variable {X : Cx} {K : Fg} {B0 F : Hp} {M : Cs} {ρ κ : List Sl} {P : Sl → Cs → Prop} {a b e : Expr} {pos : Pos}
/-- what may be read as a list, a tuple of data -/
inductive Seq (M : Cs) : Sl → List PyData → Prop
  | lst (ds : List PyData) : Seq M (.d (.list ds)) ds
  | tup (ds : List PyData) : Seq M (.d (.tuple ds)) ds
  | rd (ds : List PyData) : Seq M (.rd ds) ds
  | cell {a : Addr} {ds : List PyData} : (a, .lst ds) ∈ M → Seq M (.v (.ref a)) ds
/-- .. and what may be read as a list -/
inductive SeqLs (M : Cs) : Sl → List PyData → Prop
  | lst (ds : List PyData) : SeqLs M (.d (.list ds)) ds
  | rd (ds : List PyData) : SeqLs M (.rd ds) ds
  | cell {a : Addr} {ds : List PyData} : (a, .lst ds) ∈ M → SeqLs M (.v (.ref a)) ds
theorem SeqLs.at {σ : L2.St} {vs : List V} {H B : Hp} {s : Sl} {ds : List PyData} {v : V} (q : SeqLs M s ds) (g : GoodB K B0 F M ρ κ σ vs H B) (hv : VOk K F B v s) : ∃ a xs, v = .ref a ∧ SqL K H a xs ∧ RpA K B xs ds := by
  cases q with
  | lst ds => obtain ⟨a, xs, rfl, h1, h2⟩ := Rp.lst_inv hv; exact ⟨a, xs, rfl, SqL.of (g.bh _ _ h1), h2⟩
  | rd ds => obtain ⟨a, xs, rfl, h1, h2⟩ : ∃ a xs, v = .ref a ∧ SqL K F a xs ∧ RpA K B xs ds := hv; exact ⟨a, xs, rfl, g.fh.seq h1, h2⟩
  | @cell a ds hm =>
    have e : v = .ref a := hv
    subst e
    obtain ⟨_, _, o, ho, ws, rfl, hw⟩ := g.cells _ hm
    exact ⟨a, ws, rfl, SqL.of ho, hw⟩
theorem Seq.at {σ : L2.St} {vs : List V} {H B : Hp} {s : Sl} {ds : List PyData} {v : V} (q : Seq M s ds) (g : GoodB K B0 F M ρ κ σ vs H B) (hv : VOk K F B v s) : ∃ a xs, v = .ref a ∧ (SqL K H a xs ∨ SqT K H a xs) ∧ RpA K B xs ds := by
  cases q with
  | lst ds => obtain ⟨a, xs, h1, h2, h3⟩ := SeqLs.at (.lst ds) g hv; exact ⟨a, xs, h1, .inl h2, h3⟩
  | tup ds => obtain ⟨a, xs, rfl, h1, h2⟩ := Rp.tup_inv hv; exact ⟨a, xs, rfl, .inr (same_t g.bh h1), h2⟩
  | rd ds => obtain ⟨a, xs, h1, h2, h3⟩ := SeqLs.at (.rd ds) g hv; exact ⟨a, xs, h1, .inl h2, h3⟩
  | cell hm => obtain ⟨a, xs, h1, h2, h3⟩ := SeqLs.at (.cell hm) g hv; exact ⟨a, xs, h1, .inl h2, h3⟩
theorem one_arg {α : Type} {xs : List α} {n : Nat} (h : xs.length = n) (e : n = 1) : ∃ x, xs = [x] := List.length_eq_one_iff.mp (h.trans e)
/-- len(x) -/
theorem rn_len {s : Sl} {ds : List PyData} (q : Seq M s ds) (h : P (.d (.int ds.length)) M) : RnD K B0 F ρ κ (fun xs H Q => ∃ p ys, xs = [.ref p] ∧ (SqL K H p ys ∨ SqT K H p ys) ∧ Q (.int ys.length) H) [s] M P := fun σ vs H xs Q hl g qq => by
  obtain ⟨x, rfl⟩ := one_arg hl rfl
  obtain ⟨B, g⟩ := g
  obtain ⟨a, ys, rfl, h1, h2⟩ := q.at g g.fst
  exact ⟨a, ys, rfl, h1, qq _ H _ M ⟨B, g.pop.pushD (by rw [h2.len]; exact .int _)⟩ h⟩
/-- tuple(x) -/
theorem rn_tuple {s : Sl} {ds : List PyData} (q : Seq M s ds) (h : P (.d (.tuple ds)) M) : RnD K B0 F ρ κ (fun xs H Q => ∃ p ys, xs = [.ref p] ∧ ((SqL K H p ys ∧ ∀ l, H l = none → Q (.ref l) (upd H l (.tup ys))) ∨ (SqT K H p ys ∧ Q (.ref p) H))) [s] M P := fun σ vs H xs Q hl g qq => by
  obtain ⟨x, rfl⟩ := one_arg hl rfl
  obtain ⟨B, g⟩ := g
  cases q with
  | tup ds =>
    have hv : Rp K B x (.tuple ds) := g.fst
    obtain ⟨a, ys, e, h1, h2⟩ := Rp.tup_inv hv
    subst e
    exact ⟨a, ys, rfl, .inr ⟨same_t g.bh h1, qq _ H _ M ⟨B, g.pop.pushD (.tup h1 h2)⟩ h⟩⟩
  | lst ds =>
    obtain ⟨a, ys, rfl, h1, h2⟩ := SeqLs.at (.lst ds) g g.fst
    refine ⟨a, ys, rfl, .inl ⟨h1, fun l hl => qq _ _ _ M ?_ h⟩⟩
    have bp : B l = none := g.bh.free hl
    exact ⟨_, (g.pop.laid (o := .tup ys) hl).pushD (.tup (SqT.of upd_same) (h2.ext fun b u z => by rw [upd_ne (ne_of_none z bp)]; exact z))⟩
  | rd ds =>
    obtain ⟨a, ys, rfl, h1, h2⟩ := SeqLs.at (.rd ds) g g.fst
    refine ⟨a, ys, rfl, .inl ⟨h1, fun l hl => qq _ _ _ M ?_ h⟩⟩
    have bp : B l = none := g.bh.free hl
    exact ⟨_, (g.pop.laid (o := .tup ys) hl).pushD (.tup (SqT.of upd_same) (h2.ext fun b u z => by rw [upd_ne (ne_of_none z bp)]; exact z))⟩
  | cell hm =>
    obtain ⟨a, ys, rfl, h1, h2⟩ := SeqLs.at (.cell hm) g g.fst
    refine ⟨a, ys, rfl, .inl ⟨h1, fun l hl => qq _ _ _ M ?_ h⟩⟩
    have bp : B l = none := g.bh.free hl
    exact ⟨_, (g.pop.laid (o := .tup ys) hl).pushD (.tup (SqT.of upd_same) (h2.ext fun b u z => by rw [upd_ne (ne_of_none z bp)]; exact z))⟩
/-- a new list of these values: as a cell -/
theorem cell_new {σ : L2.St} {vs : List V} {H B : Hp} {ys : List V} {ds : List PyData} {l : Addr} (g : GoodB K B0 F M ρ κ σ vs H B) (hl : H l = none) (h : RpA K B ys ds) : Good K B0 F ((l, .lst ds) :: M) ρ (.v (.ref l) :: κ) σ (.ref l :: vs) (upd H l (.lst ys)) := ⟨B, (g.cell (c := .lst ds) hl ⟨ys, rfl, h⟩).pushV⟩
/-- list(x): a cell -/
theorem rn_listC {s : Sl} {ds : List PyData} (q : Seq M s ds) (h : ∀ l, P (.v (.ref l)) ((l, .lst ds) :: M)) : RnD K B0 F ρ κ (fun xs H Q => ∃ p ys, xs = [.ref p] ∧ (SqL K H p ys ∨ SqT K H p ys) ∧ ∀ l, H l = none → Q (.ref l) (upd H l (.lst ys))) [s] M P := fun σ vs H xs Q hl g qq => by
  obtain ⟨x, rfl⟩ := one_arg hl rfl
  obtain ⟨B, g⟩ := g
  obtain ⟨a, ys, rfl, h1, h2⟩ := q.at g g.fst
  exact ⟨a, ys, rfl, h1, fun l hl => qq _ _ _ _ (cell_new g.pop hl h2) (h l)⟩
theorem rn_sum {s : Sl} {ns : List Int} (q : SeqLs M s (ns.map PyData.int)) (h : P (.d (.int ns.sum)) M) : RnD K B0 F ρ κ (rSum K) [s] M P := fun σ vs H xs Q hl g qq => by
  obtain ⟨x, rfl⟩ := one_arg hl rfl
  obtain ⟨B, g⟩ := g
  obtain ⟨a, ys, rfl, h1, h2⟩ := q.at g g.fst
  have e := h2.ints
  subst e
  exact ⟨a, ns, rfl, h1, qq _ H _ M ⟨B, g.pop.pushD (.int _)⟩ h⟩
theorem rn_all {s : Sl} {ns : List Bool} (q : SeqLs M s (ns.map PyData.bool)) (h : P (.d (.bool (ns.all id))) M) : RnD K B0 F ρ κ (rAll K) [s] M P := fun σ vs H xs Q hl g qq => by
  obtain ⟨x, rfl⟩ := one_arg hl rfl
  obtain ⟨B, g⟩ := g
  obtain ⟨a, ys, rfl, h1, h2⟩ := q.at g g.fst
  have e := h2.bls
  subst e
  exact ⟨a, ns, rfl, h1, qq _ H _ M ⟨B, g.pop.pushD (.bl _)⟩ h⟩
theorem rn_any {s : Sl} {ns : List Bool} (q : SeqLs M s (ns.map PyData.bool)) (h : P (.d (.bool (ns.any id))) M) : RnD K B0 F ρ κ (rAny K) [s] M P := fun σ vs H xs Q hl g qq => by
  obtain ⟨x, rfl⟩ := one_arg hl rfl
  obtain ⟨B, g⟩ := g
  obtain ⟨a, ys, rfl, h1, h2⟩ := q.at g g.fst
  have e := h2.bls
  subst e
  exact ⟨a, ns, rfl, h1, qq _ H _ M ⟨B, g.pop.pushD (.bl _)⟩ h⟩
theorem two_args {α : Type} {xs : List α} {n : Nat} (h : xs.length = n) (e : n = 2) : ∃ x y, xs = [x, y] := by
  match xs, h.trans e with
  | [x, y], _ => exact ⟨x, y, rfl⟩
theorem rn_max2 {i j : Int} (h : P (.d (.int (if j > i then j else i))) M) : RnD K B0 F ρ κ (fun xs H Q => ∃ i j, xs = [.int i, .int j] ∧ Q (.int (if j > i then j else i)) H) [.d (.int i), .d (.int j)] M P := fun σ vs H xs Q hl g qq => by
  obtain ⟨x, y, rfl⟩ := two_args hl rfl
  have g2 : Good K B0 F M ρ (.d (.int j) :: κ) σ (y :: vs) H := Good.pop g
  have e := Good.int g
  subst e
  have e := g2.int
  subst e
  exact ⟨i, j, rfl, qq _ H _ M (g2.pop.pushD fun _ _ => Rp.int _) h⟩
theorem rn_min2 {i j : Int} (h : P (.d (.int (if j < i then j else i))) M) : RnD K B0 F ρ κ (fun xs H Q => ∃ i j, xs = [.int i, .int j] ∧ Q (.int (if j < i then j else i)) H) [.d (.int i), .d (.int j)] M P := fun σ vs H xs Q hl g qq => by
  obtain ⟨x, y, rfl⟩ := two_args hl rfl
  have g2 : Good K B0 F M ρ (.d (.int j) :: κ) σ (y :: vs) H := Good.pop g
  have e := Good.int g
  subst e
  have e := g2.int
  subst e
  exact ⟨i, j, rfl, qq _ H _ M (g2.pop.pushD fun _ _ => Rp.int _) h⟩
theorem rn_abs {i : Int} (h : P (.d (.int (if i < 0 then -i else i))) M) : RnD K B0 F ρ κ (fun xs H Q => ∃ i, xs = [.int i] ∧ Q (.int (if i < 0 then -i else i)) H) [.d (.int i)] M P := fun σ vs H xs Q hl g qq => by
  obtain ⟨x, rfl⟩ := one_arg hl rfl
  have e := Good.int g
  subst e
  exact ⟨i, rfl, qq _ H _ M (Good.pushD (Good.pop g) fun _ _ => Rp.int _) h⟩
theorem rn_int {i : Int} (h : P (.d (.int i)) M) : RnD K B0 F ρ κ (fun xs H Q => (∃ i, xs = [.int i] ∧ Q (.int i) H) ∨ ∃ k, xs = [.bl k] ∧ Q (.int (if k then 1 else 0)) H) [.d (.int i)] M P := fun σ vs H xs Q hl g qq => by
  obtain ⟨x, rfl⟩ := one_arg hl rfl
  have e := Good.int g
  subst e
  exact .inl ⟨i, rfl, qq _ H _ M (Good.pushD (Good.pop g) fun _ _ => Rp.int _) h⟩

/-! ### subscripts, slices -/
theorem de_ix {r : R2} (hr : IxR X r) (h : DE X B0 F M ρ κ a fun r1 M1 => DE X B0 F M1 ρ (r1 :: κ) b fun r2 M2 => R2D X.K B0 F ρ κ r r1 r2 M2 P) (hs : PlainIx b := by exact fun _ _ => rfl) : DE X B0 F M ρ κ (.Subscript a b pos) P :=
  fun σ vs H Q g q => tOf_of (pe_ix hr pe_self pe_self hs) (h σ vs H _ g fun x H1 r1 M1 g1 h1 => h1 σ (x :: vs) H1 _ g1 fun y H2 r2 M2 g2 h2 => h2 σ vs H2 x y Q g2 q)
theorem atI_rp {H : Hp} {xs : List V} {ds : List PyData} {i : Int} {d : PyData} (h : RpA K H xs ds) (e : atI ds i = some d) : ∃ v, atI xs i = some v ∧ Rp K H v d := by
  unfold atI at e ⊢
  rw [h.len]
  cases q : ixN ds.length i with
  | none => rw [q] at e; cases e
  | some j =>
    rw [q] at e
    obtain ⟨v, h1, h2⟩ := h.get (i := j) (d := d) e
    exact ⟨v, h1, h2⟩
/-- xs[i], xs a list or a tuple -/
theorem r2_ix {s : Sl} {ds : List PyData} {i : Int} {d : PyData} (q : Seq M s ds) (e : atI ds i = some d) (h : P (.d d) M) : R2D K B0 F ρ κ (rIx K) s (.d (.int i)) M P := fun σ vs H x y Q g qq => by
  have ey := g.int
  subst ey
  obtain ⟨B, g⟩ := g.pop
  obtain ⟨a, ys, rfl, h1, h2⟩ := q.at g g.fst
  obtain ⟨v, hv, hd⟩ := atI_rp h2 e
  rcases h1 with h1 | h1
  · exact .inl ⟨a, ys, i, v, rfl, rfl, h1, hv, qq _ H _ M ⟨B, g.pop.pushD hd⟩ h⟩
  · exact .inr (.inl ⟨a, ys, i, v, rfl, rfl, h1, hv, qq _ H _ M ⟨B, g.pop.pushD hd⟩ h⟩)
/-- a part of a slice -/
def tOfP (X : Cx) : Option Expr → TO
  | none => tNoPart
  | some e => tPart (tOf X e)
theorem po_self {o : Option Expr} : PO X o (tOfP X o) := by
  cases o with
  | none => exact po_none
  | some e => exact po_some pe_self
def DO (X : Cx) (B0 F : Hp) (M : Cs) (ρ κ : List Sl) (o : Option Expr) (P : Option Int → Cs → Prop) : Prop := ∀ σ vs H Q, Good X.K B0 F M ρ κ σ vs H → (∀ i H' M', Good X.K B0 F M' ρ κ σ vs H' → P i M' → Q i H') → tOfP X o σ H Q
theorem do_none {P : Option Int → Cs → Prop} (h : P none M) : DO X B0 F M ρ κ none P := fun σ vs H Q g q => q none H M g h
theorem do_some {P : Option Int → Cs → Prop} (h : DE X B0 F M ρ κ e fun r M1 => ∃ i, r = .d (.int i) ∧ P (some i) M1) : DO X B0 F M ρ κ (some e) P := fun σ vs H Q g q => h σ vs H _ g fun v H' r M' g' h' => by
  obtain ⟨i, rfl, h'⟩ := h'
  have e := g'.int
  subst e
  exact ⟨i, rfl, q _ H' M' g'.pop h'⟩
/-- cut of data, as cutV of values -/
def cutD (xs : List PyData) (lo hi : Option Int) : List PyData := (xs.drop (HT.sIx xs.length 0 lo)).take (HT.sIx xs.length xs.length hi - HT.sIx xs.length 0 lo)
theorem cut_rp {H : Hp} {xs : List V} {ds : List PyData} (h : RpA K H xs ds) (lo hi : Option Int) : RpA K H (cutV xs lo hi) (cutD ds lo hi) := by
  unfold cutV cutD
  rw [h.len]
  exact (h.drop _).take _
theorem cutD_all {ds : List PyData} {lo hi : Option Int} (h : HT.sIx ds.length 0 lo = 0 ∧ HT.sIx ds.length ds.length hi = ds.length) : cutD ds lo hi = ds := by
  unfold cutD
  rw [h.1, h.2, List.drop_zero, Nat.sub_zero, List.take_length]
/-- the slice of an operand that stands: the parts are written (no calls) -/
def RsD (K : Fg) (B0 F : Hp) (ρ κ : List Sl) (r : V → Option Int → Option Int → Hp → VK → Prop) (s : Sl) (lo hi : Option Int) (M : Cs) (P : Sl → Cs → Prop) : Prop := ∀ σ vs H x Q, Good K B0 F M ρ (s :: κ) σ (x :: vs) H → (∀ v H' r' M', Good K B0 F M' ρ (r' :: κ) σ (v :: vs) H' → P r' M' → Q v H') → r x lo hi H Q
theorem de_slice {lo hi : Option Expr} {p2 : Pos} {r : V → Option Int → Option Int → Hp → VK → Prop} (hr : SlR X r) (h : DE X B0 F M ρ κ e fun r1 M1 => DO X B0 F M1 ρ (r1 :: κ) lo fun l M2 => DO X B0 F M2 ρ (r1 :: κ) hi fun u M3 => RsD X.K B0 F ρ κ r r1 l u M3 P) :
    DE X B0 F M ρ κ (.Subscript e (.Slice lo hi none p2) pos) P := fun σ vs H Q g q => tOf_of (pe_slice hr pe_self po_self po_self) (h σ vs H _ g fun x H1 r1 M1 g1 h1 => h1 σ (x :: vs) H1 _ g1 fun l H2 M2 g2 h2 => h2 σ (x :: vs) H2 _ g2 fun u H3 M3 g3 h3 => h3 σ vs H3 x Q g3 q)
/-- xs[l:u]: a new list, a cell -/
theorem rs_listC {s : Sl} {ds : List PyData} {l u : Option Int} (q : SeqLs M s ds) (h : ∀ p, P (.v (.ref p)) ((p, .lst (cutD ds l u)) :: M)) : RsD K B0 F ρ κ (rSlL K) s l u M P := fun σ vs H x Q g qq => by
  obtain ⟨B, g⟩ := g
  obtain ⟨a, ys, rfl, h1, h2⟩ := q.at g g.fst
  exact ⟨a, ys, rfl, h1, fun p hp => qq _ _ _ _ (cell_new g.pop hp (cut_rp h2 l u)) (h p)⟩
end
end DL
set_option maxHeartbeats 2000000
namespace DL
open PySem PySem.Spec PyProof.Rows L2

section
variable {X : Cx} {K : Fg} {B0 F : Hp} {M : Cs} {ρ κ : List Sl} {P : Sl → Cs → Prop} {a b e : Expr} {pos : Pos}
/-- sorted(xs) of data, any number of items -/
def sortD (ds : List PyData) : List PyData := ds.mergeSort (PySem.W.dataLe false id)
def rSortedD (K : Fg) : List V → Hp → VK → Prop := fun vs H Q => ∃ (a : Addr) (xs : List V) (ds : List PyData) (G : Hp), vs = [.ref a] ∧ SqL K H a xs ∧ Same G H ∧ RpA K G xs ds ∧ PySem.W.AllAlike ds ∧ PySem.W.Sortable ds ∧ ds.length ≤ sizeLine ∧ (∀ d ∈ ds, d.depth ≤ 50) ∧
  ∀ p ws, H p = none → RpA K G ws (sortD ds) → Q (.ref p) (upd H p (.lst ws))
theorem each_of {K : Fg} {G : Hp} : ∀ {xs : List V} {ds : List PyData} {us : List Value}, RpA K G xs ds → Vals xs us → PySem.W.EachIs (fun u d => ∃ v, RelV v u ∧ Rp K G v d) us ds
  | _, _, _, .nil, .nil => .nil
  | _, _, _, .cons h t, .cons r q => .cons ⟨_, r, h⟩ (each_of t q)
theorem each_reads {X : Cx} {pins : List (Addr × Obj)} {σ : L2.St} {H : Hp} {s : Shared} (I : Inv X pins σ H s) : ∀ {xs : List V} {ds : List PyData} {us : List Value}, RpA X.K H xs ds → Vals xs us → PySem.W.EachIs (fun u d => ∃ as, Reads s.heap u (id d) as) us ds
  | _, _, _, .nil, .nil => .nil
  | _, _, _, .cons h t, .cons r q => .cons (Dp.reads I _ _ _ h.dp r) (each_reads I t q)
theorem each_back {K : Fg} {H : Hp} : ∀ {us : List Value} {ds : List PyData}, PySem.W.EachIs (fun u d => ∃ v, RelV v u ∧ Rp K H v d) us ds → ∃ ws, Vals ws us ∧ RpA K H ws ds
  | _, _, .nil => ⟨[], .nil, .nil⟩
  | _, _, .cons ⟨v, h1, h2⟩ t => by
    obtain ⟨ws, h3, h4⟩ := each_back t
    exact ⟨v :: ws, .cons h1 h3, .cons h2 h4⟩
theorem cr_sortedD (hu : X.A.units + 64 < cLine) : CallR X (.builtin "sorted") (rSortedD X.K) := by
  intro pins s σ H vs us Q I r h
  obtain ⟨a, xs, ds, G, rfl, hs, hG, hr, hal, hk, hz, hdp, q⟩ := h
  obtain ⟨its, rv, hl, hz2⟩ := I.list hs
  rw [Vals.ref1 r]
  refine PySem.W.sorted_data (bs := ds) (enc := id) hl.isList (each_of hr rv) (each_reads I (hr.ext hG) rv) (by rw [List.map_id]; exact hal) (by rw [List.map_id]; exact hk) hz (fun d hd => ?_) fun out ho eo => ?_
  · have := hdp d hd
    show X.A.units + 2 + d.depth < cLine
    omega
  · obtain ⟨ws, h1, h2⟩ := each_back eo
    obtain ⟨ep, he'⟩ := PyProof.Rows.sortedAll_at s.heap its out.toArray
    have hlen : ws.length ≤ sizeLine := by rw [h1.length, ho]; exact hz
    exact ⟨.ref _, upd H (s.heap.objs.size + 1) (.lst ws), I.laid (t' := s.toks) (fun _ _ => PyProof.Rows.sortedAll_old) (Nat.le_succ _) (show ObjOk X.prog X.w _ _ _ (.lst ws) from ⟨hlen, out, ep, h1, he'⟩), rfl, q _ _ (I.hok.fresh (Nat.le_succ _)) h2⟩
theorem rn_sortedC {s : Sl} {ds : List PyData} (q : SeqLs M s ds) (hal : PySem.W.AllAlike ds) (hk : PySem.W.Sortable ds) (hz : ds.length ≤ 100000) (hd : ∀ d ∈ ds, d.depth ≤ 50) (h : ∀ l, P (.v (.ref l)) ((l, .lst (sortD ds)) :: M)) : RnD K B0 F ρ κ (rSortedD K) [s] M P := fun σ vs H xs Q hl g qq => by
  obtain ⟨x, rfl⟩ := one_arg hl rfl
  obtain ⟨B, g⟩ := g
  obtain ⟨a, ys, rfl, h1, h2⟩ := q.at g g.fst
  exact ⟨a, ys, ds, B, rfl, h1, g.bh, h2, hal, hk, Nat.le_trans hz (by decide), hd, fun p ws hp hw => qq _ _ _ _ (cell_new g.pop hp hw) (h p)⟩

/-! ### in -/
theorem rpa_flat {H : Hp} : ∀ {ws : List V} {ds : List PyData} {vs : List V}, RpA K H ws ds → ds.map flatD = vs.map some → ws = vs
  | _, [], [], h, _ => by cases h; rfl
  | _, d :: ds, v :: vs, h, e => by
    cases h with
    | cons h1 h2 =>
      rw [List.map_cons, List.map_cons, List.cons.injEq] at e
      rw [Rp.flat h1 e.1, rpa_flat h2 e.2]
  | _, _ :: _, [], _, e => by cases e
  | _, [], _ :: _, _, e => by cases e
theorem flatV_of {d : PyData} {v : V} (h : flatD d = some v) : flatV v = true := by
  cases d <;> first | (cases Option.some.inj h; rfl) | cases h
theorem flatVs_of : ∀ {ds : List PyData} {vs : List V}, ds.map flatD = vs.map some → vs.all flatV = true
  | [], [], _ => rfl
  | d :: ds, v :: vs, e => by
    rw [List.map_cons, List.map_cons, List.cons.injEq] at e
    rw [List.all_cons, flatV_of e.1, flatVs_of e.2] <;> rfl
  | _ :: _, [], e => by cases e
  | [], _ :: _, e => by cases e
theorem r2_in {s : Sl} {ds : List PyData} {d : PyData} {v : V} {vs : List V} {neg : Bool} (q : Seq M s ds) (hd : flatD d = some v) (hs : ds.map flatD = vs.map some) (h : P (.d (.bool (if neg then !inV v vs else inV v vs))) M) : R2D K B0 F ρ κ (rIn K neg) (.d d) s M P := fun σ vs' H x y Q g qq => by
  obtain ⟨B, g⟩ := g
  obtain ⟨a, ys, rfl, h1, h2⟩ := q.at g g.fst
  have e := Rp.flat g.pop.fst hd
  subst e
  have e := rpa_flat h2 hs
  subst e
  exact ⟨a, _, rfl, h1, flatV_of hd, flatVs_of hs, qq _ H _ M ⟨B, g.pop.pop.pushD (Rp.bl _)⟩ h⟩
/-- ints in ints -/
theorem inV_ints {i : Int} : ∀ {ns : List Int}, inV (.int i) (ns.map V.int) = decide (i ∈ ns)
  | [] => by simp [inV]
  | n :: ns => by
    have ih := inV_ints (i := i) (ns := ns)
    unfold inV at ih ⊢
    rw [List.map_cons, List.any_cons, ih]
    show (n == i || decide (i ∈ ns)) = _
    by_cases e : n = i
    · subst e; simp
    · have e' : ¬ i = n := fun z => e z.symm
      simp [e, e']
theorem flat_ints : ∀ ns : List Int, (ns.map PyData.int).map flatD = (ns.map V.int).map some
  | [] => rfl
  | n :: ns => by rw [List.map_cons, List.map_cons, List.map_cons, List.map_cons, flat_ints ns] <;> rfl
theorem r2_inI {s : Sl} {ns : List Int} {i : Int} (q : Seq M s (ns.map PyData.int)) (h : P (.d (.bool (decide (i ∈ ns)))) M) : R2D K B0 F ρ κ (rIn K false) (.d (.int i)) s M P := r2_in q rfl (flat_ints ns) (by rw [inV_ints]; exact h)
theorem r2_niI {s : Sl} {ns : List Int} {i : Int} (q : Seq M s (ns.map PyData.int)) (h : P (.d (.bool (!decide (i ∈ ns)))) M) : R2D K B0 F ρ κ (rIn K true) (.d (.int i)) s M P := r2_in q rfl (flat_ints ns) (by rw [inV_ints]; exact h)

/-! ### isinstance -/
def tyD : PyData → Value
  | .none => .type "NoneType"
  | .bool _ => .type "bool"
  | .int _ => .type "int"
  | .str _ => .type "str"
  | .list _ => .type "list"
  | .tuple _ => .type "tuple"
  | .dict _ => .type "dict"
theorem tyX_of {H : Hp} {v : V} {d : PyData} (h : Rp K H v d) : TyX K H v (tyD d) := by
  cases h with
  | non => exact .base .non
  | bl b => exact .base (.bl b)
  | int i => exact .base (.int i)
  | str x => exact .base (.str x)
  | lst h hs => exact .base (.lst h)
  | tup h hs =>
    rcases h with (h | ⟨o, h⟩) | ⟨o, its, n, h, hc, _⟩
    · exact .base (.tup h)
    · exact .fTuple h
    · exact .kTuple h hc
theorem rn_isi {d : PyData} {T : String} {b : Bool} (hb : PySem.W.kitOne K (tyD d) (.type T) = some b) (h : P (.d (.bool b)) M) : RnD K B0 F ρ κ (rIsi K) [.d d, .v (.ty T)] M P := fun σ vs H xs Q hl g qq => by
  obtain ⟨x, y, rfl⟩ := two_args hl rfl
  obtain ⟨B, g⟩ := g
  have e : y = .ty T := g.pop.fst
  subst e
  have r : Rp K B x d := g.fst
  exact ⟨x, .ty T, tyD d, .type T, b, rfl, .ty T, tyX_of (r.ext g.bh), hb, qq _ H _ M ⟨B, g.pop.pop.pushD (Rp.bl _)⟩ h⟩

/-! ### tuples: +, slices -/
theorem r2_catT {xs ys : List PyData} (hz : xs.length + ys.length ≤ 100000) (h : P (.d (.tuple (xs ++ ys))) M) : R2D K B0 F ρ κ (rCatA K) (.d (.tuple xs)) (.d (.tuple ys)) M P := fun σ vs H x y Q g qq => by
  obtain ⟨B, g⟩ := g
  obtain ⟨b, vb, rfl, hb, rb⟩ := Rp.tup_inv g.fst
  obtain ⟨a, va, e, ha, ra⟩ := Rp.tup_inv g.pop.fst
  subst e
  refine ⟨a, b, va, vb, rfl, rfl, same_t g.bh ha, same_t g.bh hb, by rw [ra.len, rb.len]; exact Nat.le_trans hz (by decide), fun e => ?_, fun _ e => ?_, fun _ _ p hp => ?_⟩
  · subst e
    cases ra
    exact qq _ H _ M ⟨B, g.pop.pop.pushD (.tup hb rb)⟩ h
  · subst e
    cases rb
    rw [List.append_nil] at h
    exact qq _ H _ M ⟨B, g.pop.pop.pushD (.tup ha ra)⟩ h
  · have bp : B p = none := g.bh.free hp
    exact qq _ _ _ M ⟨_, (g.pop.pop.laid (o := .tup (va ++ vb)) hp).pushD (.tup (SqT.of upd_same) ((ra.app rb).ext fun b u z => by rw [upd_ne (ne_of_none z bp)]; exact z))⟩ h
theorem rs_tup {ds : List PyData} {l u : Option Int} (h : P (.d (.tuple (cutD ds l u))) M) : RsD K B0 F ρ κ (rSlA K) (.d (.tuple ds)) l u M P := fun σ vs H x Q g qq => by
  obtain ⟨B, g⟩ := g
  obtain ⟨a, va, rfl, ha, ra⟩ := Rp.tup_inv g.fst
  refine ⟨a, va, rfl, same_t g.bh ha, fun e => ?_, fun _ p hp => ?_⟩
  · rw [ra.len] at e
    rw [cutD_all e] at h
    exact qq _ H _ M ⟨B, g.pop.pushD (.tup ha ra)⟩ h
  · have bp : B p = none := g.bh.free hp
    exact qq _ _ _ M ⟨_, (g.pop.laid (o := .tup (cutV va l u)) hp).pushD (.tup (SqT.of upd_same) ((cut_rp ra l u).ext fun b u z => by rw [upd_ne (ne_of_none z bp)]; exact z))⟩ h

/-! ### lists: +, append, +=, stores -/
theorem cell_at {σ : L2.St} {vs : List V} {H B : Hp} {n : Nat} {a : Addr} {ds : List PyData} (g : GoodB K B0 F M ρ κ σ vs H B) (h : M[n]? = some (a, .lst ds)) : ∃ ws, H a = some (.lst ws) ∧ RpA K B ws ds := by
  obtain ⟨_, _, o, ho, ws, rfl, hw⟩ := g.cells _ (List.mem_of_getElem? h)
  exact ⟨ws, ho, hw⟩
/-- xs + ys, both tracked lists: a cell -/
inductive SeqCl (M : Cs) : Sl → List PyData → Prop
  | lst (ds : List PyData) : SeqCl M (.d (.list ds)) ds
  | cell {a : Addr} {ds : List PyData} : (a, .lst ds) ∈ M → SeqCl M (.v (.ref a)) ds
theorem SeqCl.at {σ : L2.St} {vs : List V} {H B : Hp} {s : Sl} {ds : List PyData} {v : V} (q : SeqCl M s ds) (g : GoodB K B0 F M ρ κ σ vs H B) (hv : VOk K F B v s) : ∃ a xs, v = .ref a ∧ H a = some (.lst xs) ∧ RpA K B xs ds := by
  cases q with
  | lst ds => obtain ⟨a, xs, rfl, h1, h2⟩ := Rp.lst_inv hv; exact ⟨a, xs, rfl, g.bh _ _ h1, h2⟩
  | @cell a ds hm =>
    have e : v = .ref a := hv
    subst e
    obtain ⟨_, _, o, ho, ws, rfl, hw⟩ := g.cells _ hm
    exact ⟨a, ws, rfl, ho, hw⟩
theorem r2_catC {s t : Sl} {xs ys : List PyData} (q1 : SeqCl M s xs) (q2 : SeqCl M t ys) (hz : xs.length + ys.length ≤ 100000) (h : ∀ l, P (.v (.ref l)) ((l, .lst (xs ++ ys)) :: M)) : R2D K B0 F ρ κ rCat s t M P := fun σ vs H x y Q g qq => by
  obtain ⟨B, g⟩ := g
  obtain ⟨b, vb, rfl, hb, rb⟩ := q2.at g g.fst
  obtain ⟨a, va, e, ha, ra⟩ := q1.at g g.pop.fst
  subst e
  exact ⟨a, b, va, vb, rfl, rfl, ha, hb, by rw [ra.len, rb.len]; exact Nat.le_trans hz (by decide), fun p hp => qq _ _ _ _ (cell_new g.pop.pop hp (ra.app rb)) (h p)⟩
/-- xs += ys: the cell at place n grows -/
theorem r2_ext (n : Nat) {a : Addr} {t : Sl} {xs ys : List PyData} (hn : M[n]? = some (a, .lst xs)) (q2 : SeqCl M t ys) (hz : xs.length + ys.length ≤ 100000) (h : P (.v (.ref a)) (M.set n (a, .lst (xs ++ ys)))) : R2D K B0 F ρ κ rExt2 (.v (.ref a)) t M P := fun σ vs H x y Q g qq => by
  obtain ⟨B, g⟩ := g
  obtain ⟨b, vb, rfl, hb, rb⟩ := q2.at g g.fst
  have e : x = .ref a := g.pop.fst
  subst e
  obtain ⟨va, ha, ra⟩ := cell_at g hn
  exact ⟨a, b, va, vb, rfl, rfl, ha, hb, by rw [ra.len, rb.len]; exact Nat.le_trans hz (by decide), qq _ _ _ _ ⟨B, (g.pop.pop.write (c' := .lst (xs ++ ys)) hn ⟨_, rfl, ra.app rb⟩).pushV⟩ h⟩
variable {o : Expr} {apos cpos : Pos} {k : KK}
/-- o.append(e): o a cell at place n -/
theorem de_append (n : Nat) (h : DE X B0 F M ρ κ o fun r1 M1 => ∃ a ds', r1 = .v (.ref a) ∧ (a, MC.lst ds') ∈ M1 ∧ DE X B0 F M1 ρ (r1 :: κ) e fun r2 M2 => ∃ ds y, r2 = .d y ∧ M2[n]? = some (a, .lst ds) ∧ ds.length < 100000 ∧ P (.d .none) (M2.set n (a, .lst (ds ++ [y]))))
    (hbase : attributeBase o "append" X.env (eval o X.env) = eval o X.env := by rfl)
    (hfew : ((backTo cpos (starEach (e :: []) X.env)).all (fun x => !x.1) && (backToKw cpos (keywordEach [] X.env)).all (fun x => x.1.isSome)
      && decide ((e :: ([] : List Expr)).length + ([] : List Keyword).length + (if ([] : List Keyword).isEmpty then 0 else 1) < 30)) = true := by rfl)
    (hline : (apos.endLine == cpos.line) = true := by rfl) (hs : starEach (e :: []) X.env = (false, eval e X.env) :: starEach [] X.env := by rfl) (hplain : (backTo cpos (starEach [] X.env)).any (·.1) = false := by rfl) :
    DE X B0 F M ρ κ (.Call (.Attribute o "append" apos) [e] [] cpos) P := fun σ vs H Q g q => by
  refine tOf_of (pe_bm PySem.F.plainAttrs_list PySem.F.slot_list_append PySem.F.type_list_append (X := X) mt_append pe_self (pa_cons pe_self pa_nil hs) hbase hfew hline hs hplain) ?_
  refine h σ vs H _ g fun x H1 r1 M1 g1 h1 => ?_
  obtain ⟨a, ds', rfl, hm, h1⟩ := h1
  have e := g1.ref
  subst e
  refine ⟨?_, h1 σ (.ref a :: vs) H1 _ g1 fun y H2 r2 M2 g2 h2 => ?_⟩
  · obtain ⟨B, g1⟩ := g1
    obtain ⟨_, _, u, ho, ws, rfl, hw⟩ := g1.cells _ hm
    exact .inl ⟨rfl, ws, SqL.of ho⟩
  · obtain ⟨ds, yd, rfl, hn, hl, hp⟩ := h2
    obtain ⟨B, g2⟩ := g2
    obtain ⟨ws, ho, hw⟩ := cell_at g2 hn
    have hz : (100000 : Nat) ≤ sizeLine := by decide
    exact ⟨a, ws, y, rfl, rfl, ho, by rw [hw.len]; omega, q _ _ _ _ ⟨B, (g2.pop.pop.write (c' := .lst (ds ++ [yd])) hn ⟨_, rfl, hw.app (.cons g2.fst .nil)⟩).pushD .non⟩ hp⟩
/-- xs.index(y), ints: the first place -/
theorem de_index (h : DE X B0 F M ρ κ o fun r1 M1 => ∃ ns : List Int, SeqLs M1 r1 (ns.map PyData.int) ∧ DE X B0 F M1 ρ (r1 :: κ) e fun r2 M2 => ∃ (i : Int) (j : Nat), M2 = M1 ∧ r2 = .d (.int i) ∧ ns[j]? = some i ∧ (∀ m, m < j → ns[m]? ≠ some i) ∧ P (.d (.int (j : Nat))) M2)
    (hbase : attributeBase o "index" X.env (eval o X.env) = eval o X.env := by rfl)
    (hfew : ((backTo cpos (starEach (e :: []) X.env)).all (fun x => !x.1) && (backToKw cpos (keywordEach [] X.env)).all (fun x => x.1.isSome)
      && decide ((e :: ([] : List Expr)).length + ([] : List Keyword).length + (if ([] : List Keyword).isEmpty then 0 else 1) < 30)) = true := by rfl)
    (hline : (apos.endLine == cpos.line) = true := by rfl) (hs : starEach (e :: []) X.env = (false, eval e X.env) :: starEach [] X.env := by rfl) (hplain : (backTo cpos (starEach [] X.env)).any (·.1) = false := by rfl) :
    DE X B0 F M ρ κ (.Call (.Attribute o "index" apos) [e] [] cpos) P := fun σ vs H Q g q => by
  refine tOf_of (pe_bm PySem.F.plainAttrs_list PySem.F.slot_list_index PySem.F.type_list_index (X := X) mt_index pe_self (pa_cons pe_self pa_nil hs) hbase hfew hline hs hplain) ?_
  refine h σ vs H _ g fun x H1 r1 M1 g1 h1 => ?_
  obtain ⟨ns, hq, h1⟩ := h1
  obtain ⟨B, g1b⟩ := id g1
  obtain ⟨a, ys, rfl, hs1, hr1⟩ := hq.at g1b g1b.fst
  refine ⟨.inl ⟨rfl, ys, hs1⟩, h1 σ (.ref a :: vs) H1 _ g1 fun y H2 r2 M2 g2 h2 => ?_⟩
  obtain ⟨i, j, rfl, rfl, hj, hm, hp⟩ := h2
  have e := g2.int
  subst e
  obtain ⟨B, g2⟩ := g2
  obtain ⟨a', ys', e, hs2, hr2⟩ := hq.at g2 g2.pop.fst
  cases e
  have e := hr2.ints
  subst e
  have hmap : ∀ {m : Nat} {z : V}, (ns.map V.int)[m]? = some z → ∃ k, ns[m]? = some k ∧ z = .int k := fun {m z} e => by
    rw [List.getElem?_map] at e
    cases q : ns[m]? with
    | none => rw [q] at e; cases e
    | some k => rw [q] at e; exact ⟨k, rfl, (Option.some.inj e).symm⟩
  refine ⟨a, ns.map V.int, .int i, j, .int i, rfl, rfl, hs2, rfl, List.all_eq_true.mpr fun z hz => ?_, by rw [List.getElem?_map, hj]; rfl, by show (i == i) = true; simp, fun m z hm' hz => ?_, q _ H2 _ _ ⟨B, g2.pop.pop.pushD (.int _)⟩ hp⟩
  · obtain ⟨k, _, rfl⟩ := List.mem_map.mp hz
    rfl
  · obtain ⟨k, hk, rfl⟩ := hmap hz
    show (k == i) = false
    have : k ≠ i := fun e => hm m hm' (by rw [hk, e])
    simpa using this
/-- o[i] = .. : o a cell at place n -/
theorem dg_sub (n : Nat) {r : Sl} {Pg : Cs → List Sl → Prop} (h : DE X B0 F M ρ (r :: κ) o fun r1 M1 => DE X B0 F M1 ρ (r1 :: r :: κ) e fun r2 M2 => ∃ a ds y i j, r1 = .v (.ref a) ∧ r2 = .d (.int i) ∧ r = .d y ∧ M2[n]? = some (a, .lst ds) ∧ ixN ds.length i = some j ∧ Pg (M2.set n (a, .lst (ds.set j y))) ρ)
    (ha : ∀ v, assign (.Subscript o e pos) X.env v = (do
      let ov ← holding [v] (eval o X.env)
      let iv ← holding [v, ov] (eval e X.env)
      standAt pos
      holding [v, ov, iv] (setItem ov iv v)
      release [v, ov, iv] []) := by intro _; rfl) : DG X B0 F M ρ κ r (.Subscript o e pos) Pg := fun σ vs H x Q g q => by
  refine tOfG_of (pg_sub pe_self pe_self set_list ha) ?_
  refine h σ (x :: vs) H _ g fun v1 H1 r1 M1 g1 h1 => h1 σ (v1 :: x :: vs) H1 _ g1 fun v2 H2 r2 M2 g2 h2 => ?_
  obtain ⟨a, ds, y, i, j, rfl, rfl, rfl, hn, hi, hp⟩ := h2
  have e := g2.int
  subst e
  have e := g2.pop.ref
  subst e
  obtain ⟨B, g2⟩ := g2
  obtain ⟨ws, ho, hw⟩ := cell_at g2 hn
  exact ⟨a, ws, i, j, rfl, rfl, ho, by rw [hw.len]; exact hi, q _ _ _ _ ⟨B, g2.pop.pop.pop.write (c' := .lst (ds.set j y)) hn ⟨_, rfl, hw.set g2.pop.pop.fst j⟩⟩ hp⟩

/-! ### raw lists: a cell whose values are told one by one -/
def slV : V → Sl
  | .int i => .d (.int i)
  | .bl b => .d (.bool b)
  | .str x => .d (.str x)
  | .non => .d .none
  | v => .v v
theorem slV_ok {F B : Hp} (v : V) : VOk K F B v (slV v) := by
  cases v <;> first | exact (rfl : _ = _) | exact Rp.int _ | exact Rp.bl _ | exact Rp.str _ | exact Rp.non
theorem raw_at {σ : L2.St} {vs : List V} {H B : Hp} {a : Addr} {o : HO} (g : GoodB K B0 F M ρ κ σ vs H B) (h : (a, .raw o) ∈ M) : H a = some o := by
  obtain ⟨_, _, u, ho, e⟩ := g.cells _ h
  have e : u = o := e
  subst e
  exact ho
theorem r2_ixRaw {a : Addr} {ws : List V} {i : Int} {v : V} (hm : (a, .raw (.lst ws)) ∈ M) (e : atI ws i = some v) (h : P (slV v) M) : R2D K B0 F ρ κ (rIxL K) (.v (.ref a)) (.d (.int i)) M P := fun σ vs H x y Q g qq => by
  have ey := g.int
  subst ey
  have ex := g.pop.ref
  subst ex
  obtain ⟨B, g⟩ := g
  exact ⟨a, ws, i, v, rfl, rfl, SqL.of (raw_at g hm), e, qq _ H _ M ⟨B, g.pop.pop.push (slV_ok v)⟩ h⟩
theorem dg_subRaw (n : Nat) {r : PyData} {Pg : Cs → List Sl → Prop} (h : DE X B0 F M ρ (.d r :: κ) o fun r1 M1 => DE X B0 F M1 ρ (r1 :: .d r :: κ) e fun r2 M2 => ∃ a ws v i j, r1 = .v (.ref a) ∧ r2 = .d (.int i) ∧ flatD r = some v ∧ M2[n]? = some (a, .raw (.lst ws)) ∧ ixN ws.length i = some j ∧ Pg (M2.set n (a, .raw (.lst (ws.set j v)))) ρ)
    (ha : ∀ v, assign (.Subscript o e pos) X.env v = (do
      let ov ← holding [v] (eval o X.env)
      let iv ← holding [v, ov] (eval e X.env)
      standAt pos
      holding [v, ov, iv] (setItem ov iv v)
      release [v, ov, iv] []) := by intro _; rfl) : DG X B0 F M ρ κ (.d r) (.Subscript o e pos) Pg := fun σ vs H x Q g q => by
  refine tOfG_of (pg_sub pe_self pe_self set_list ha) ?_
  refine h σ (x :: vs) H _ g fun v1 H1 r1 M1 g1 h1 => h1 σ (v1 :: x :: vs) H1 _ g1 fun v2 H2 r2 M2 g2 h2 => ?_
  obtain ⟨a, ws, v, i, j, rfl, rfl, hv, hn, hi, hp⟩ := h2
  have e := g2.int
  subst e
  have e := g2.pop.ref
  subst e
  have e := g2.pop.pop.flat hv
  subst e
  obtain ⟨B, g2⟩ := g2
  have ho := raw_at g2 (List.mem_of_getElem? hn)
  exact ⟨a, ws, i, j, rfl, rfl, ho, hi, q _ _ _ _ ⟨B, g2.pop.pop.pop.write (c' := .raw (.lst (ws.set j _))) hn rfl⟩ hp⟩
end
end DL
set_option maxHeartbeats 2000000
namespace DL
open PySem PySem.Spec PyProof.Rows L2

/-! ### a def by its data in a head -/
section
variable {P : Program} {w : World} {K : Fg} {mg : Str → Option Value} {base : Heap}
theorem fn_okD {x qual : Str} {st : Stmt} {f : Addr} {fd : FuncData} {N ps : List Str} {k : Nat} {R : List Sl → Cs → (Sl → Cs → Prop) → Prop} (Fu : FunD K x qual (defArgs st) (defBody st) (defScope st) [] [] f fd) (S : FnScope N ps (defScope st)) (len : ∀ κ M W, R κ M W → κ.length = ps.length)
    (body : ∀ (cdv : Value) (A : Around) (outer : List Env) (s : Shared) (H : Hp) (E : XK), Room k (A.deeper (envOfC qual (defScope st) s.heap.objs.size f cdv)) → N.Nodup → ∀ (B0 F : Hp) (κ : List Sl) (M : Cs) (W : Sl → Cs → Prop), R κ M W →
      DB (cxOf CX0 P w K mg base N qual (defScope st) f cdv A outer s H E).nox B0 F M (κ ++ List.replicate (N.length - ps.length) .un) [] (defBody st) { nx := fun M' _ => W (.d .none) M', rt := W }) : FnOk P w K mg base CX0 (k + 1) f fd ps (SpG K R) := by
  refine Fu.ok S (fun vs H Q E h => ?_) (fun cdv A outer s H vs Q E hr h => ?_)
  · obtain ⟨B0, F, M, κ, W, ⟨B, g⟩, _, hR, _⟩ := h
    rw [Paired.length g.st]
    exact len κ M W hR
  · obtain ⟨B0, F, M, κ, W, ⟨B, g⟩, hn, hR, q⟩ := h
    refine ⟨tOfB _ (defBody st), PSs.nox pb_self, ?_⟩
    have hl := Paired.length g.st
    have hk := len κ M W hR
    refine body cdv A outer s H E hr S.nd B0 F κ M W hR (L2.start N vs) [] H _ ⟨B, (g.stk .nil).slt ?_⟩ ⟨fun σ' H' M' ρ' g' n => ?_, fun v H' r M' g' n => q v H' r M' g' n, fun _ _ _ _ _ n => n.elim, fun _ _ _ _ _ n => n.elim⟩
    · unfold L2.start
      rw [hl, hk]
      exact start_sok g.st
    · refine q .non H' (.d .none) M' ?_ n
      obtain ⟨B', g'⟩ := g'
      exact ⟨B', (g'.stk .nil |>.slt .nil).pushD .non⟩
end

/-! ### dicts whose keys are ints and texts -/
def valD (kvs : List (Key × PyData)) (k : Key) : Option PyData := (kvs.find? fun kv => decide (kv.1 = k)).map (·.2)
def putD (kvs : List (Key × PyData)) (k : Key) (v : PyData) : List (Key × PyData) := if (kvs.any fun kv => decide (kv.1 = k)) = true then kvs.map (fun kv => if kv.1 = k then (kv.1, v) else kv) else kvs ++ [(k, v)]
abbrev EntsOk (K : Fg) (B : Hp) : List (Key × V) → List (Key × PyData) → Prop := Paired (fun (p : Key × V) (q : Key × PyData) => p.1 = q.1 ∧ Rp K B p.2 q.2)
section
variable {X : Cx} {K : Fg} {B0 F : Hp} {M : Cs} {ρ κ : List Sl} {P : Sl → Cs → Prop} {a b e o i : Expr} {pos : Pos} {k : KK}
theorem ents_val {B : Hp} {ky : Key} : ∀ {kvs : List (Key × V)} {es : List (Key × PyData)}, EntsOk K B kvs es → (∀ d, valD es ky = some d → ∃ v, valV kvs ky = some v ∧ Rp K B v d) ∧ (valD es ky = none → valV kvs ky = none)
  | _, _, .nil => ⟨(fun d h => nomatch h), fun _ => rfl⟩
  | p :: kvs, q :: es, .cons h t => by
    obtain ⟨ih1, ih2⟩ := ents_val (ky := ky) t
    obtain ⟨pk, pv⟩ := p
    obtain ⟨qk, qv⟩ := q
    obtain ⟨h1, h2⟩ := h
    have h1 : pk = qk := h1
    subst h1
    unfold valD valV at *
    rw [List.find?_cons, List.find?_cons]
    by_cases c : pk = ky
    · rw [show decide ((pk, qv).1 = ky) = true from decide_eq_true c]
      exact ⟨fun d h => ⟨pv, rfl, by cases Option.some.inj h; exact h2⟩, fun h => by cases h⟩
    · rw [show decide ((pk, qv).1 = ky) = false from decide_eq_false c]
      exact ⟨ih1, ih2⟩
theorem ents_any {B : Hp} {ky : Key} : ∀ {kvs : List (Key × V)} {es : List (Key × PyData)}, EntsOk K B kvs es → (kvs.any fun kv => decide (kv.1 = ky)) = (es.any fun kv => decide (kv.1 = ky))
  | _, _, .nil => rfl
  | p :: kvs, q :: es, .cons h t => by rw [List.any_cons, List.any_cons, ents_any t, h.1]
theorem ents_put {B : Hp} {ky : Key} {v : V} {d : PyData} (r : Rp K B v d) {kvs : List (Key × V)} {es : List (Key × PyData)} (h : EntsOk K B kvs es) : EntsOk K B (putK kvs ky v) (putD es ky d) := by
  unfold putK putD
  rw [ents_any h]
  by_cases c : (es.any fun kv => decide (kv.1 = ky)) = true
  · rw [if_pos c, if_pos c]
    clear c
    induction h with
    | nil => exact .nil
    | @cons p q ps qs h t ih =>
      rw [List.map_cons, List.map_cons]
      refine .cons ?_ ih
      obtain ⟨h1, h2⟩ := h
      by_cases c : p.1 = ky
      · rw [if_pos c, if_pos (h1 ▸ c)]; exact ⟨h1, r⟩
      · rw [if_neg c, if_neg (h1 ▸ c)]; exact ⟨h1, h2⟩
  · rw [if_neg c, if_neg c]
    exact Paired.app h (.cons ⟨rfl, r⟩ .nil)
theorem putD_len (kvs : List (Key × PyData)) (ky : Key) (v : PyData) : (putD kvs ky v).length ≤ kvs.length + 1 := by
  unfold putD
  split
  · rw [List.length_map]; omega
  · rw [List.length_append, List.length_cons, List.length_nil]; omega
theorem dic_at {σ : L2.St} {vs : List V} {H B : Hp} {a : Addr} {es : List (Key × PyData)} (g : GoodB K B0 F M ρ κ σ vs H B) (h : (a, .dic es) ∈ M) : ∃ kvs, H a = some (.dK kvs) ∧ EntsOk K B kvs es := by
  obtain ⟨_, _, u, ho, kvs, rfl, e⟩ := g.cells _ h
  exact ⟨kvs, ho, e⟩
/-- the key that a slot says -/
inductive KeyIs : Sl → Key → Prop
  | int (i : Int) : KeyIs (.d (.int i)) (.inl i)
  | str (x : Str) : KeyIs (.d (.str x)) (.inr x)
theorem KeyIs.v {σ : L2.St} {vs : List V} {H : Hp} {r : Sl} {ky : Key} {v : V} (q : KeyIs r ky) (g : Good K B0 F M ρ (r :: κ) σ (v :: vs) H) : v = kV ky := by
  cases q with
  | int i => exact g.int
  | str x => exact g.str
theorem de_dnew (h : ∀ p, P (.v (.ref p)) ((p, .dic []) :: M)) : DE X B0 F M ρ κ (.Dict [] [] pos) P := fun σ vs H Q g q => tOf_of pe_dnewK fun p hp => by
  obtain ⟨B, g⟩ := g
  exact q _ _ _ _ ⟨B, (g.cell (c := .dic []) hp ⟨[], rfl, .nil⟩).pushV⟩ (h p)
theorem de_dget (hu : X.A.units + 1 < cLine) (h : DE X B0 F M ρ κ o fun r1 M1 => DE X B0 F M1 ρ (r1 :: κ) i fun r2 M2 => ∃ a es ky d, r1 = .v (.ref a) ∧ (a, .dic es) ∈ M2 ∧ KeyIs r2 ky ∧ valD es ky = some d ∧ P (.d d) M2) (hs : NoSl i := by exact fun _ _ => rfl) : DE X B0 F M ρ κ (.Subscript o i pos) P :=
  fun σ vs H Q g q => tOf_of (pe_dget hu pe_self pe_self hs) (h σ vs H _ g fun x H1 r1 M1 g1 h1 => h1 σ (x :: vs) H1 _ g1 fun y H2 r2 M2 g2 h2 => by
    obtain ⟨a, es, ky, d, rfl, hm, hk, hd, hp⟩ := h2
    have e := g2.pop.ref
    subst e
    have e := hk.v g2
    subst e
    obtain ⟨B, g2⟩ := g2
    obtain ⟨kvs, ho, he⟩ := dic_at g2 hm
    obtain ⟨v, hv, hr⟩ := (ents_val he).1 d hd
    exact ⟨a, v, rfl, by rw [← hv]; exact DGet.k ho, q _ H2 _ M2 ⟨B, g2.pop.pop.pushD hr⟩ hp⟩)
theorem val_some {B : Hp} {ky : Key} {kvs : List (Key × V)} {es : List (Key × PyData)} (h : EntsOk K B kvs es) : (valV kvs ky).isSome = (valD es ky).isSome := by
  cases q : valD es ky with
  | none => rw [(ents_val h).2 q] <;> rfl
  | some d => obtain ⟨v, hv, _⟩ := (ents_val h).1 d q; rw [hv]; rfl
theorem de_din (hu : X.A.units + 1 < cLine) (h : DE X B0 F M ρ κ i fun r1 M1 => DE X B0 F M1 ρ (r1 :: κ) o fun r2 M2 => ∃ a es ky, r2 = .v (.ref a) ∧ (a, .dic es) ∈ M2 ∧ KeyIs r1 ky ∧ P (.d (.bool (valD es ky).isSome)) M2) (hb : behindInMarks .In o = false := by rfl) : DE X B0 F M ρ κ (.Compare i [.In] [o] pos) P :=
  fun σ vs H Q g q => tOf_of (pe_cmp (pc_din hu pe_self pe_self) hb) (h σ vs H _ g fun x H1 r1 M1 g1 h1 => h1 σ (x :: vs) H1 _ g1 fun y H2 r2 M2 g2 h2 => by
    obtain ⟨a, es, ky, rfl, hm, hk, hp⟩ := h2
    have e := g2.ref
    subst e
    have e := hk.v g2.pop
    subst e
    obtain ⟨B, g2⟩ := g2
    obtain ⟨kvs, ho, he⟩ := dic_at g2 hm
    exact ⟨a, _, rfl, DGet.k ho, q _ H2 _ M2 ⟨B, g2.pop.pop.pushD (by rw [val_some he]; exact .bl _)⟩ hp⟩)
theorem de_dnotin (hu : X.A.units + 1 < cLine) (h : DE X B0 F M ρ κ i fun r1 M1 => DE X B0 F M1 ρ (r1 :: κ) o fun r2 M2 => ∃ a es ky, r2 = .v (.ref a) ∧ (a, .dic es) ∈ M2 ∧ KeyIs r1 ky ∧ P (.d (.bool (!(valD es ky).isSome))) M2) (hb : behindInMarks .NotIn o = false := by rfl) : DE X B0 F M ρ κ (.Compare i [.NotIn] [o] pos) P :=
  fun σ vs H Q g q => tOf_of (pe_cmp (pc_dnotin hu pe_self pe_self) hb) (h σ vs H _ g fun x H1 r1 M1 g1 h1 => h1 σ (x :: vs) H1 _ g1 fun y H2 r2 M2 g2 h2 => by
    obtain ⟨a, es, ky, rfl, hm, hk, hp⟩ := h2
    have e := g2.ref
    subst e
    have e := hk.v g2.pop
    subst e
    obtain ⟨B, g2⟩ := g2
    obtain ⟨kvs, ho, he⟩ := dic_at g2 hm
    exact ⟨a, _, rfl, DGet.k ho, q _ H2 _ M2 ⟨B, g2.pop.pop.pushD (by rw [val_some he]; exact .bl _)⟩ hp⟩)
theorem dt_din {PT : Bool → Cs → Prop} (hu : X.A.units + 1 < cLine) (h : DE X B0 F M ρ κ i fun r1 M1 => DE X B0 F M1 ρ (r1 :: κ) o fun r2 M2 => ∃ a es ky, r2 = .v (.ref a) ∧ (a, .dic es) ∈ M2 ∧ KeyIs r1 ky ∧ PT (valD es ky).isSome M2) (hb : behindInMarks .In o = false := by rfl) : DT X B0 F M ρ κ (.Compare i [.In] [o] pos) PT :=
  fun σ vs H Q g q => tOfT_of (pt_cmp (pc_din hu pe_self pe_self) hb) (h σ vs H _ g fun x H1 r1 M1 g1 h1 => h1 σ (x :: vs) H1 _ g1 fun y H2 r2 M2 g2 h2 => by
    obtain ⟨a, es, ky, rfl, hm, hk, hp⟩ := h2
    have e := g2.ref
    subst e
    have e := hk.v g2.pop
    subst e
    obtain ⟨B, g2⟩ := g2
    obtain ⟨kvs, ho, he⟩ := dic_at g2 hm
    exact ⟨a, _, rfl, DGet.k ho, _, rfl, by rw [val_some he]; exact q _ H2 M2 ⟨B, g2.pop.pop⟩ hp⟩)
theorem dt_dnotin {PT : Bool → Cs → Prop} (hu : X.A.units + 1 < cLine) (h : DE X B0 F M ρ κ i fun r1 M1 => DE X B0 F M1 ρ (r1 :: κ) o fun r2 M2 => ∃ a es ky, r2 = .v (.ref a) ∧ (a, .dic es) ∈ M2 ∧ KeyIs r1 ky ∧ PT (!(valD es ky).isSome) M2) (hb : behindInMarks .NotIn o = false := by rfl) : DT X B0 F M ρ κ (.Compare i [.NotIn] [o] pos) PT :=
  fun σ vs H Q g q => tOfT_of (pt_cmp (pc_dnotin hu pe_self pe_self) hb) (h σ vs H _ g fun x H1 r1 M1 g1 h1 => h1 σ (x :: vs) H1 _ g1 fun y H2 r2 M2 g2 h2 => by
    obtain ⟨a, es, ky, rfl, hm, hk, hp⟩ := h2
    have e := g2.ref
    subst e
    have e := hk.v g2.pop
    subst e
    obtain ⟨B, g2⟩ := g2
    obtain ⟨kvs, ho, he⟩ := dic_at g2 hm
    exact ⟨a, _, rfl, DGet.k ho, _, rfl, by rw [val_some he]; exact q _ H2 M2 ⟨B, g2.pop.pop⟩ hp⟩)
/-- d[k] = .. : d a cell at place n -/
theorem dg_subD (n : Nat) (hu : X.A.units + 1 < cLine) {r : Sl} {Pg : Cs → List Sl → Prop} (h : DE X B0 F M ρ (r :: κ) o fun r1 M1 => DE X B0 F M1 ρ (r1 :: r :: κ) e fun r2 M2 => ∃ a es y ky, r1 = .v (.ref a) ∧ KeyIs r2 ky ∧ r = .d y ∧ M2[n]? = some (a, .dic es) ∧ es.length < 100000 ∧ Pg (M2.set n (a, .dic (putD es ky y))) ρ)
    (ha : ∀ v, assign (.Subscript o e pos) X.env v = (do
      let ov ← holding [v] (eval o X.env)
      let iv ← holding [v, ov] (eval e X.env)
      standAt pos
      holding [v, ov, iv] (setItem ov iv v)
      release [v, ov, iv] []) := by intro _; rfl) : DG X B0 F M ρ κ r (.Subscript o e pos) Pg := fun σ vs H x Q g q => by
  refine tOfG_of (pg_sub pe_self pe_self (set_dict hu) ha) ?_
  refine h σ (x :: vs) H _ g fun v1 H1 r1 M1 g1 h1 => h1 σ (v1 :: x :: vs) H1 _ g1 fun v2 H2 r2 M2 g2 h2 => ?_
  obtain ⟨a, es, y, ky, rfl, hk, rfl, hn, hl, hp⟩ := h2
  have e := g2.pop.ref
  subst e
  have e := hk.v g2
  subst e
  obtain ⟨B, g2⟩ := g2
  obtain ⟨kvs, ho, he⟩ := dic_at g2 (List.mem_of_getElem? hn)
  have hz : (100000 : Nat) ≤ sizeLine := by decide
  exact ⟨a, _, rfl, DPut.k ho (by rw [Paired.length he]; omega), q _ _ _ _ ⟨B, g2.pop.pop.pop.write (c' := .dic (putD es ky y)) hn ⟨_, rfl, ents_put g2.pop.pop.fst he⟩⟩ hp⟩
/-- the statement d[k] = e -/
theorem ds_dput (n : Nat) (hu : X.A.units + 1 < cLine) {v : Expr} {pos' : Pos} (h : DE X B0 F M ρ κ v fun r M0 => DE X B0 F M0 ρ (r :: κ) o fun r1 M1 => DE X B0 F M1 ρ (r1 :: r :: κ) e fun r2 M2 => ∃ a es y ky, r1 = .v (.ref a) ∧ KeyIs r2 ky ∧ r = .d y ∧ M2[n]? = some (a, .dic es) ∧ es.length < 100000 ∧ k.nx (M2.set n (a, .dic (putD es ky y))) ρ)
    (hs : swapsWith v (some (.Subscript o e pos')) pos.line X.env = pure false := by rfl) : DS X B0 F M ρ κ (.Assign [.Subscript o e pos'] v pos) k := fun σ vs H D g c => tOfS_of (ps_dput hu pe_self pe_self pe_self hs) (by
    refine h σ vs H _ g fun v0 H0 r0 M0 g0 h0 => h0 σ (v0 :: vs) H0 _ g0 fun v1 H1 r1 M1 g1 h1 => h1 σ (v1 :: v0 :: vs) H1 _ g1 fun v2 H2 r2 M2 g2 h2 => ?_
    obtain ⟨a, es, y, ky, rfl, hk, rfl, hn, hl, hp⟩ := h2
    have e := g2.pop.ref
    subst e
    have e := hk.v g2
    subst e
    obtain ⟨B, g2⟩ := g2
    obtain ⟨kvs, ho, he⟩ := dic_at g2 (List.mem_of_getElem? hn)
    have hz : (100000 : Nat) ≤ sizeLine := by decide
    exact ⟨a, _, rfl, DPut.k ho (by rw [Paired.length he]; omega), c.nx _ _ _ _ ⟨B, g2.pop.pop.pop.write (c' := .dic (putD es ky y)) hn ⟨_, rfl, ents_put g2.pop.pop.fst he⟩⟩ hp⟩)
/-- {k: v}: one entry -/
theorem de_disp1 {ke ve : Expr} (h : ∀ p, DE X B0 F ((p, .dic []) :: M) ρ κ ke fun r1 M1 => DE X B0 F M1 ρ (r1 :: κ) ve fun r2 M2 => ∃ ky d M3, KeyIs r1 ky ∧ r2 = .d d ∧ M2 = (p, .dic []) :: M3 ∧ P (.v (.ref p)) ((p, .dic [(ky, d)]) :: M3)) : DE X B0 F M ρ κ (.Dict [some ke] [ve] pos) P := fun σ vs H Q g q => tOf_of (pe_disp (pps_cons pe_self pe_self pps_nil) (by rfl) (by rfl) (fun z => by cases z) (by decide : 1 ≤ 15)) fun p hp => by
  obtain ⟨B, g⟩ := g
  have g0 := g.cell (c := .dic []) hp ⟨[], rfl, .nil⟩
  refine h p σ vs _ _ ⟨B, g0⟩ fun x H1 r1 M1 g1 h1 => h1 σ (x :: vs) H1 _ g1 fun y H2 r2 M2 g2 h2 => ?_
  obtain ⟨ky, d, M3, hk, rfl, rfl, hP⟩ := h2
  have e := hk.v g2.pop
  subst e
  obtain ⟨B, g2⟩ := g2
  obtain ⟨kvs, ho, he⟩ := dic_at g2 List.mem_cons_self
  cases he
  exact ⟨ho, [(ky, y)], rfl, (by show 1 ≤ 15; decide), q _ _ _ _ ⟨B, ((g2.pop.pop).write (j := 0) (c := .dic []) (c' := .dic [(ky, d)]) rfl ⟨[(ky, y)], rfl, .cons ⟨rfl, (show Rp X.K B y d from g2.fst)⟩ .nil⟩).pushV⟩ hP⟩
end

/-! ### two and three plain names at once -/
section
variable {X : Cx} {B0 F : Hp} {M : Cs} {ρ κ : List Sl} {a b c : Expr} {pos px py pz pt pt2 : Pos} {k : KK} {x y z : Str} {kt k2 : Nat}
theorem ds_par (i j : Nat) (h : DA X B0 F M ρ κ [a, b] fun rs M1 => ∃ r1 r2, rs = [r1, r2] ∧ k.nx M1 ((ρ.set i r1).set j r2)) (hij : i ≠ j := by decide) (hN : X.N.Nodup := by exact (by assumption)) (hi : X.N[i]? = some x := by rfl) (hj : X.N[j]? = some y := by rfl)
    (hx : X.env.scope.names.lookup x = some .local := by rfl) (hy : X.env.scope.names.lookup y = some .local := by rfl) (hc : X.calm = true := by rfl)
    (hw : swappedStores [.Tuple [.Name x px, .Name y py] kt pt] (.Tuple [a, b] k2 pt2) X.env = pure (some [x, y]) := by rfl)
    (hs : swapsWithSole [.Tuple [.Name x px, .Name y py] kt pt] (.Tuple [a, b] k2 pt2) pos.line X.env = pure false := by rfl) : DS X B0 F M ρ κ (.Assign [.Tuple [.Name x px, .Name y py] kt pt] (.Tuple [a, b] k2 pt2) pos) k :=
  fun σ vs H D g cn => tOfS_of (ps_par hc hN hi hj hij hx hy pa_self hw hs) (h σ vs H _ g fun ws H1 rs M1 hl g1 h1 => by
    obtain ⟨r1, r2, rfl, hk⟩ := h1
    obtain ⟨v1, v2, rfl⟩ := two_args hl rfl
    refine ⟨v1, v2, rfl, cn.nx _ H1 M1 _ ?_ hk⟩
    obtain ⟨B, g1⟩ := g1
    have g2 : GoodB X.K B0 F M1 ρ (r1 :: r2 :: κ) σ (v1 :: v2 :: vs) H1 B := g1
    exact ⟨B, g2.pop.pop.slt (Paired.set (OOk.of g2.pop.fst) j (Paired.set (OOk.of g2.fst) i g2.sl))⟩)
theorem ds_par3 (i j l : Nat) (h : DA X B0 F M ρ κ [a, b, c] fun rs M1 => ∃ r1 r2 r3, rs = [r1, r2, r3] ∧ k.nx M1 (((ρ.set i r1).set j r2).set l r3)) (hij : i ≠ j := by decide) (hil : i ≠ l := by decide) (hjl : j ≠ l := by decide) (hN : X.N.Nodup := by exact (by assumption)) (hi : X.N[i]? = some x := by rfl) (hj : X.N[j]? = some y := by rfl) (hl : X.N[l]? = some z := by rfl)
    (hx : X.env.scope.names.lookup x = some .local := by rfl) (hy : X.env.scope.names.lookup y = some .local := by rfl) (hz : X.env.scope.names.lookup z = some .local := by rfl) (hc : X.calm = true := by rfl)
    (hw : swappedStores [.Tuple [.Name x px, .Name y py, .Name z pz] kt pt] (.Tuple [a, b, c] k2 pt2) X.env = pure (some [x, y, z]) := by rfl)
    (hs : swapsWithSole [.Tuple [.Name x px, .Name y py, .Name z pz] kt pt] (.Tuple [a, b, c] k2 pt2) pos.line X.env = pure false := by rfl) : DS X B0 F M ρ κ (.Assign [.Tuple [.Name x px, .Name y py, .Name z pz] kt pt] (.Tuple [a, b, c] k2 pt2) pos) k :=
  fun σ vs H D g cn => tOfS_of (L2.ps_par3 hc hN hi hj hl hij hil hjl hx hy hz pa_self hw hs) (h σ vs H _ g fun ws H1 rs M1 hlen g1 h1 => by
    obtain ⟨r1, r2, r3, rfl, hk⟩ := h1
    match ws, hlen, g1 with
    | [v1, v2, v3], _, g1 =>
      refine ⟨v1, v2, v3, rfl, cn.nx _ H1 M1 _ ?_ hk⟩
      obtain ⟨B, g1⟩ := g1
      have g2 : GoodB X.K B0 F M1 ρ (r1 :: r2 :: r3 :: κ) σ (v1 :: v2 :: v3 :: vs) H1 B := g1
      exact ⟨B, g2.pop.pop.pop.slt (Paired.set (OOk.of g2.pop.pop.fst) l (Paired.set (OOk.of g2.pop.fst) j (Paired.set (OOk.of g2.fst) i g2.sl)))⟩)
end

/-! ### ranges as values -/
section
variable {X : Cx} {K : Fg} {B0 F : Hp} {M : Cs} {ρ κ : List Sl} {P : Sl → Cs → Prop} {tg iter a b e : Expr} {pos p : Pos} {R : List PyData → Sl → (Cs → Prop) → Cs → Prop}
theorem rngV_rp {H : Hp} (a b : Int) : RpA K H (rgV a b) (rngD a (b - a).toNat) := by
  unfold rgV rngD
  have : ∀ (l : List Nat), RpA K H (l.map fun i => V.int (a + (i : Nat))) (l.map fun i => PyData.int (a + (i : Nat))) := by
    intro l
    induction l with
    | nil => exact .nil
    | cons x l ih => exact .cons (.int _) ih
  exact this _
/-- tuple(range(a, b)) | tuple(range(b)), list likewise -/
theorem de_tupRg1 {p2 : Pos} (hm : X.mg "tuple" = none) (hm2 : X.mg "range" = none) (h : DE X B0 F M ρ κ a fun r M1 => ∃ n, r = .d (.int n) ∧ RgOk 0 n ∧ P (.d (.tuple (rngD 0 n.toNat))) M1) (hc : X.calm = true := by rfl) (hg : Gl X "tuple" := by rfl) (hg2 : Gl X "range" := by rfl)
    (pe : PE X (.Call (.Name "tuple" p) [.Call (.Name "range" p2) [a] [] pos] [] pos) (tTupRg (tRg1 (tOf X a))) := by exact pe_tupRg rfl rfl (by assumption) (prg_1 rfl (by assumption) pe_self)) : DE X B0 F M ρ κ (.Call (.Name "tuple" p) [.Call (.Name "range" p2) [a] [] pos] [] pos) P := fun σ vs H Q g q => tOf_of pe (h σ vs H _ g fun v H1 r M1 g1 h1 => by
    obtain ⟨n, rfl, ok, hp⟩ := h1
    have e := g1.int
    subst e
    refine ⟨n, rfl, ok, fun l hl => q _ _ _ M1 ?_ hp⟩
    obtain ⟨B, g1⟩ := g1
    have e : (n - 0).toNat = n.toNat := by omega
    exact ⟨_, (g1.pop.laid (o := .tup (rgV 0 n)) hl).pushD (.tup (SqT.of upd_same) (by rw [← e]; exact rngV_rp 0 n))⟩)
end
end DL
set_option maxHeartbeats 2000000
namespace DL
open PySem PySem.Spec PyProof.Rows L2

section
variable {X : Cx} {K : Fg} {B0 F : Hp} {M : Cs} {ρ κ : List Sl} {P : Sl → Cs → Prop} {a b c e o elt tg iter : Expr} {pos p : Pos} {k : KK} {R : List PyData → Sl → (Cs → Prop) → Cs → Prop}
/-! ### shorter words -/
theorem nm (i : Nat) {x : Str} {pos : Pos} {r : Sl} (hr : ρ[i]? = some r) (h : P r M) (hu : r ≠ .un := by intro h; cases h) (hN : X.N[i]? = some x := by rfl) (hv : Vis X.env.scope x := by first | exact Or.inl rfl | exact Or.inr (Or.inl rfl) | exact Or.inr (Or.inr rfl)) (hd : (x == ("__debug__" : Str)) = false := by decide)
    (hcd : (x == ("__classdict__" : Str)) = false := by decide) : DE X B0 F M ρ κ (.Name x pos) P := de_name i hr hu h hN hv hd hcd
theorem r2_i {f : Int → Int → Int} {i j : Int} (h : P (.d (.int (f i j))) M) : R2D K B0 F ρ κ (rI0 fun i j => .int (f i j)) (.d (.int i)) (.d (.int j)) M P := r2_I0 (fun _ => .int _) h
theorem r2_b {f : Int → Int → Bool} {i j : Int} (h : P (.d (.bool (f i j))) M) : R2D K B0 F ρ κ (rI0 fun i j => .bl (f i j)) (.d (.int i)) (.d (.int j)) M P := r2_I0 (fun _ => .bl _) h
theorem r2_c {C : Int → Int → Prop} {f : Int → Int → Int} {i j : Int} (hc : C i j) (h : P (.d (.int (f i j))) M) : R2D K B0 F ρ κ (rI C fun i j => .int (f i j)) (.d (.int i)) (.d (.int j)) M P := r2_I (fun _ => .int _) hc h
/-- .. as tests -/
theorem r2_t {f : Int → Int → Bool} {PT : Bool → Cs → Prop} {i j : Int} (h : PT (f i j) M) : R2D K B0 F ρ κ (rI0 fun i j => .bl (f i j)) (.d (.int i)) (.d (.int j)) M fun r' M' => ∃ k, r' = .d (.bool k) ∧ PT k M' := r2_b ⟨_, rfl, h⟩
theorem r2_teq {PT : Bool → Cs → Prop} {i j : Int} (h : PT (decide (i = j)) M) : R2D K B0 F ρ κ rEq (.d (.int i)) (.d (.int j)) M fun r' M' => ∃ k, r' = .d (.bool k) ∧ PT k M' := r2_eqI ⟨_, rfl, h⟩
theorem r2_tne {PT : Bool → Cs → Prop} {i j : Int} (h : PT (!decide (i = j)) M) : R2D K B0 F ρ κ rNe (.d (.int i)) (.d (.int j)) M fun r' M' => ∃ k, r' = .d (.bool k) ∧ PT k M' := r2_neI ⟨_, rfl, h⟩
theorem decS {i j : Str} : decide (V.str i = V.str j) = decide (i = j) := by
  by_cases h : i = j
  · subst h; simp
  · rw [decide_eq_false h, decide_eq_false (fun e => h (V.str.inj e))]
theorem r2_tseq {PT : Bool → Cs → Prop} {i j : Str} (h : PT (decide (i = j)) M) : R2D K B0 F ρ κ rEq (.d (.str i)) (.d (.str j)) M fun r' M' => ∃ k, r' = .d (.bool k) ∧ PT k M' := r2_eq rfl rfl rfl (by rw [decS]; exact ⟨_, rfl, h⟩)
/-- a test, both ways, by what it decides -/
theorem ways {A B : Prop} {b : Bool} (h1 : b = true → A) (h2 : b = false → B) : (b = true → A) ∧ (b = false → B) := ⟨h1, h2⟩
theorem waysD {A B C : Prop} [Decidable C] (h1 : C → A) (h2 : ¬ C → B) : (decide C = true → A) ∧ (decide C = false → B) := ⟨fun h => h1 (of_decide_eq_true h), fun h => h2 (of_decide_eq_false h)⟩
theorem waysN {A B C : Prop} [Decidable C] (h1 : ¬ C → A) (h2 : C → B) : ((!decide C) = true → A) ∧ ((!decide C) = false → B) := by
  by_cases z : C
  · rw [decide_eq_true z]; exact ⟨(fun h => by cases h), fun _ => h2 z⟩
  · rw [decide_eq_false z]; exact ⟨fun _ => h1 z, fun h => by cases h⟩
theorem waysT {A B : Prop} {b : Bool} (e : b = true) (h : A) : (b = true → A) ∧ (b = false → B) := ⟨fun _ => h, fun z => by rw [e] at z; cases z⟩
theorem waysF {A B : Prop} {b : Bool} (e : b = false) (h : B) : (b = true → A) ∧ (b = false → B) := ⟨(fun z => by rw [e] at z; cases z), fun _ => h⟩
theorem map_get {α β : Type} {f : α → β} {l : List α} {i : Nat} {d : β} (h : (l.map f)[i]? = some d) : ∃ z, l[i]? = some z ∧ d = f z := by
  rw [List.getElem?_map] at h
  cases q : l[i]? with
  | none => rw [q] at h; cases h
  | some z => rw [q] at h; exact ⟨z, rfl, (Option.some.inj h).symm⟩
theorem take_get {α : Type} {l : List α} {i : Nat} {x : α} (h : l[i]? = some x) : l.take (i + 1) = l.take i ++ [x] := by rw [List.take_add_one, h]; rfl
theorem atI_at {α : Type} {xs : List α} {i : Int} {x : α} (h0 : 0 ≤ i) (h : xs[i.toNat]? = some x) : atI xs i = some x := by
  have e : i = ((i.toNat : Nat) : Int) := by omega
  rw [e]
  exact atI_nat (by simpa using h)

/-! ### comprehensions whose turns leave all as it was -/
/-- [elt for x in iter]: f of each item -/
theorem de_lcF (i : Nat) (f : PyData → PyData) {x : Str} {px : Pos} {scope : Scope} (h : DI X B0 F M ρ κ (.Name x px) iter fun ds s Src M1 => ds.length ≤ 100000 ∧ (∀ D acc, Src M1 → Src ((D, .lst acc) :: M1)) ∧
      (∀ d D acc, d ∈ ds → ∀ b : BA, DE (bk X scope b) B0 F ((D, .lst acc) :: M1) ((ρ.set i .un).set i (.d d)) (s :: (ρ ++ κ)) elt fun r M2 => r = .d (f d) ∧ M2 = (D, .lst acc) :: M1) ∧ ∀ D, P (.v (.ref D)) ((D, .lst (ds.map f)) :: M1))
      (hN : X.N.Nodup := by exact (by assumption)) (ok : BlkOk X.N X.env.scope scope [(x, i)] := by exact blkOk_by (by kernel_rfl)) (hg : ∀ b : BA, PG (bk X scope b) (.Name x px) (gName i) := by exact fun b => pg_name (by assumption) rfl (Or.inl rfl))
      (hc : X.calm = true := by rfl) (hs : ∀ x, foldedSetIterable iter X.env x = pure x := by intro _; rfl) : DE X B0 F M ρ κ (.ListComp elt [⟨.Name x px, iter, [], 0⟩] scope pos) P := by
  refine de_lcC i (fun σ vs H Q g q => h σ vs H Q g fun J H1 M1 ds s v Src g1 dw hsrc hr => q J H1 M1 ds s v Src g1 dw hsrc fun D => ?_) hN ok hg hc hs
  obtain ⟨hz, hs', hst, hd⟩ := hr
  refine ⟨fun j acc M => M = M1 ∧ j ≤ ds.length ∧ acc = (ds.take j).map f, ⟨rfl, Nat.zero_le _, rfl⟩, ?_, ?_, ?_⟩
  · rintro j acc M ⟨rfl, _, rfl⟩
    exact hs' D _ hsrc
  · rintro j d acc M hdd ⟨rfl, hj, rfl⟩ b
    refine (hst d D _ (List.mem_of_getElem? hdd) b).mono ?_
    rintro r M2 ⟨rfl, rfl⟩
    refine ⟨f d, _, rfl, rfl, ?_, rfl, (List.getElem?_eq_some_iff.mp hdd).1, by rw [take_get hdd, List.map_append]; rfl⟩
    have hj2 := (List.getElem?_eq_some_iff.mp hdd).1
    rw [List.length_map, List.length_take]
    omega
  · rintro acc M ⟨rfl, _, rfl⟩
    rw [List.take_length]
    exact hd D
/-- [elt for x in iter if c] -/
theorem de_lcIfF (i : Nat) (t : PyData → Bool) (f : PyData → PyData) {x : Str} {px : Pos} {scope : Scope} (h : DI X B0 F M ρ κ (.Name x px) iter fun ds s Src M1 => ds.length ≤ 100000 ∧ (∀ D acc, Src M1 → Src ((D, .lst acc) :: M1)) ∧
      (∀ d D acc, d ∈ ds → ∀ b : BA, DT (bk X scope b) B0 F ((D, .lst acc) :: M1) ((ρ.set i .un).set i (.d d)) (s :: (ρ ++ κ)) c fun k M2 => k = t d ∧ M2 = (D, .lst acc) :: M1) ∧
      (∀ d D acc, d ∈ ds → t d = true → ∀ b : BA, DE (bk X scope b) B0 F ((D, .lst acc) :: M1) ((ρ.set i .un).set i (.d d)) (s :: (ρ ++ κ)) elt fun r M2 => r = .d (f d) ∧ M2 = (D, .lst acc) :: M1) ∧ ∀ D, P (.v (.ref D)) ((D, .lst ((ds.filter t).map f)) :: M1))
      (hN : X.N.Nodup := by exact (by assumption)) (ok : BlkOk X.N X.env.scope scope [(x, i)] := by exact blkOk_by (by kernel_rfl)) (hg : ∀ b : BA, PG (bk X scope b) (.Name x px) (gName i) := by exact fun b => pg_name (by assumption) rfl (Or.inl rfl))
      (hc : X.calm = true := by rfl) (hs : ∀ x, foldedSetIterable iter X.env x = pure x := by intro _; rfl) : DE X B0 F M ρ κ (.ListComp elt [⟨.Name x px, iter, [c], 0⟩] scope pos) P := by
  refine de_lcIfC i (fun σ vs H Q g q => h σ vs H Q g fun J H1 M1 ds s v Src g1 dw hsrc hr => q J H1 M1 ds s v Src g1 dw hsrc fun D => ?_) hN ok hg hc hs
  obtain ⟨hz, hs', ht, hst, hd⟩ := hr
  refine ⟨fun j acc M => M = M1 ∧ j ≤ ds.length ∧ acc = ((ds.take j).filter t).map f, ⟨rfl, Nat.zero_le _, rfl⟩, ?_, ?_, ?_⟩
  · rintro j acc M ⟨rfl, _, rfl⟩
    exact hs' D _ hsrc
  · rintro j d acc M hdd ⟨rfl, hj, rfl⟩ b
    have hj2 := (List.getElem?_eq_some_iff.mp hdd).1
    refine (ht d D _ (List.mem_of_getElem? hdd) b).mono ?_
    rintro k M2 ⟨rfl, rfl⟩
    refine ⟨fun htd b2 => (hst d D _ (List.mem_of_getElem? hdd) htd b2).mono ?_, fun htd => ⟨_, rfl, rfl, hj2, ?_⟩⟩
    · rintro r M2 ⟨rfl, rfl⟩
      refine ⟨f d, _, rfl, rfl, ?_, rfl, hj2, ?_⟩
      · rw [List.length_map]
        have := List.length_filter_le t (ds.take j)
        rw [List.length_take] at this
        omega
      · rw [take_get hdd, List.filter_append, List.filter_cons, if_pos htd, List.map_append]; rfl
    · rw [take_get hdd, List.filter_append, List.filter_cons, if_neg (by rw [htd]; decide), List.filter_nil, List.append_nil]
  · rintro acc M ⟨rfl, _, rfl⟩
    rw [List.take_length]
    exact hd D
/-- [elt for x, y in iter]: x, y in slots i, j -/
theorem de_lc2C (i j : Nat) (hij : i ≠ j) {x y : Str} {px py pt : Pos} {kt : Nat} {scope : Scope} (h : DI X B0 F M ρ κ (.Tuple [.Name x px, .Name y py] kt pt) iter fun ds s Src M1 => ∀ D, ∃ Iv : Nat → List PyData → Cs → Prop, Iv 0 [] M1 ∧ (∀ i acc M, Iv i acc M → Src ((D, .lst acc) :: M)) ∧
      (∀ n d acc M, ds[n]? = some d → Iv n acc M → ∃ d1 d2, d = .tuple [d1, d2] ∧ ∀ b : BA, DE (bk X scope b) B0 F ((D, .lst acc) :: M) ((((ρ.set j .un).set i .un).set i (.d d1)).set j (.d d2)) (s :: (ρ ++ κ)) elt fun r M2 => ∃ y M', r = .d y ∧ M2 = (D, .lst acc) :: M' ∧ acc.length < 100000 ∧ Iv (n + 1) (acc ++ [y]) M') ∧
      ∀ acc M, Iv ds.length acc M → P (.v (.ref D)) ((D, .lst acc) :: M)) (hN : X.N.Nodup := by exact (by assumption)) (ok : BlkOk X.N X.env.scope scope [(x, i), (y, j)] := by exact blkOk_by (by kernel_rfl))
      (hg : ∀ b : BA, PG (bk X scope b) (.Tuple [.Name x px, .Name y py] kt pt) (gTup X.K 2 (gCons (gName i) (gCons (gName j) gNil))) := by exact fun b => pg_tup rfl (pgs_cons (pg_name (by assumption) rfl (Or.inl rfl)) (pgs_cons (pg_name (by assumption) rfl (Or.inl rfl)) pgs_nil)))
      (hc : X.calm = true := by rfl) (hs : ∀ x, foldedSetIterable iter X.env x = pure x := by intro _; rfl) : DE X B0 F M ρ κ (.ListComp elt [⟨.Tuple [.Name x px, .Name y py] kt pt, iter, [], 0⟩] scope pos) P :=
  lc_main (own := [(x, i), (y, j)]) (g := gTup X.K 2 (gCons (gName i) (gCons (gName j) gNil))) (tt := tYes) hc hN ok hg (fun _ => pts_nil) hs fun σ vs H Q g0 q => h σ vs H Q g0 fun J H1 M1 ds s v Src g1 dw hsrc hr => q J H1 M1 ds s v Src g1 dw hsrc fun D => by
    obtain ⟨Iv, h0, hsr, hst, hd⟩ := hr D
    refine ⟨Iv, h0, hsr, fun n d acc M σ vs H x Q hdd hI g hq => ?_, hd⟩
    obtain ⟨d1, d2, rfl, hst⟩ := hst n d acc M hdd hI
    obtain ⟨B, g⟩ := g
    obtain ⟨ad, xs, rfl, hx, hr⟩ := Rp.tup_inv g.fst
    cases hr with
    | cons hr1 hr2 =>
      cases hr2 with
      | cons hr2 hr3 =>
        cases hr3
        rename_i v1 v2
        refine ⟨ad, _, rfl, same_t g.bh hx, rfl, v1, _, rfl, v2, _, rfl, rfl, ?_, ?_⟩
        · rw [wipe_set (by simp), wipe_set (by simp)]
        · have fin : ∀ b : BA, tOf (bk X scope b) elt ((σ.set i (some v1)).set j (some v2)) H fun y H4 => ∃ ac, H4 D = some (.lst ac) ∧ ac.length < sizeLine ∧ Q (upd H4 D (.lst (ac ++ [y]))) := ?_
          · unfold tYes
            dsimp only
            rw [if_pos rfl]
            exact fin
          intro b
          have g2 : Good X.K B0 F ((D, .lst acc) :: M) ((((ρ.set j .un).set i .un).set i (.d d1)).set j (.d d2)) (s :: (ρ ++ κ)) ((σ.set i (some v1)).set j (some v2)) vs H :=
            ⟨B, g.pop.slt (Paired.set (OOk.of (s := .d d2) hr2) j (Paired.set (OOk.of (s := .d d1) hr1) i g.sl))⟩
          refine hst b _ vs H _ g2 fun y H4 r M2 g4 h4 => ?_
          obtain ⟨y', M', rfl, rfl, hl, hI'⟩ := h4
          exact lc_push g4 hl fun H' g5 => hq _ _ _ _ _ g5 hI'
/-- [elt for x, y in iter if c] -/
theorem de_lc2IfC (i j : Nat) (hij : i ≠ j) {x y : Str} {px py pt : Pos} {kt : Nat} {scope : Scope} (h : DI X B0 F M ρ κ (.Tuple [.Name x px, .Name y py] kt pt) iter fun ds s Src M1 => ∀ D, ∃ Iv : Nat → List PyData → Cs → Prop, Iv 0 [] M1 ∧ (∀ i acc M, Iv i acc M → Src ((D, .lst acc) :: M)) ∧
      (∀ n d acc M, ds[n]? = some d → Iv n acc M → ∃ d1 d2, d = .tuple [d1, d2] ∧ ∀ b : BA, DT (bk X scope b) B0 F ((D, .lst acc) :: M) ((((ρ.set j .un).set i .un).set i (.d d1)).set j (.d d2)) (s :: (ρ ++ κ)) c fun k M2 =>
        (k = true → ∀ b : BA, DE (bk X scope b) B0 F M2 ((((ρ.set j .un).set i .un).set i (.d d1)).set j (.d d2)) (s :: (ρ ++ κ)) elt fun r M2 => ∃ y M', r = .d y ∧ M2 = (D, .lst acc) :: M' ∧ acc.length < 100000 ∧ Iv (n + 1) (acc ++ [y]) M') ∧
        (k = false → ∃ M', M2 = (D, .lst acc) :: M' ∧ Iv (n + 1) acc M')) ∧
      ∀ acc M, Iv ds.length acc M → P (.v (.ref D)) ((D, .lst acc) :: M)) (hN : X.N.Nodup := by exact (by assumption)) (ok : BlkOk X.N X.env.scope scope [(x, i), (y, j)] := by exact blkOk_by (by kernel_rfl))
      (hg : ∀ b : BA, PG (bk X scope b) (.Tuple [.Name x px, .Name y py] kt pt) (gTup X.K 2 (gCons (gName i) (gCons (gName j) gNil))) := by exact fun b => pg_tup rfl (pgs_cons (pg_name (by assumption) rfl (Or.inl rfl)) (pgs_cons (pg_name (by assumption) rfl (Or.inl rfl)) pgs_nil)))
      (hc : X.calm = true := by rfl) (hs : ∀ x, foldedSetIterable iter X.env x = pure x := by intro _; rfl) : DE X B0 F M ρ κ (.ListComp elt [⟨.Tuple [.Name x px, .Name y py] kt pt, iter, [c], 0⟩] scope pos) P :=
  lc_main (own := [(x, i), (y, j)]) (g := gTup X.K 2 (gCons (gName i) (gCons (gName j) gNil))) (tt := fun σ H Q => ∀ b : BA, tOfT (bk X scope b) c σ H Q) hc hN ok hg (fun b => ⟨fun pins s σ H Q I z => (pts_one pt_self).run pins s σ H Q I (z b)⟩) hs fun σ vs H Q g0 q => h σ vs H Q g0 fun J H1 M1 ds s v Src g1 dw hsrc hr => q J H1 M1 ds s v Src g1 dw hsrc fun D => by
    obtain ⟨Iv, h0, hsr, hst, hd⟩ := hr D
    refine ⟨Iv, h0, hsr, fun n d acc M σ vs H x Q hdd hI g hq => ?_, hd⟩
    obtain ⟨d1, d2, rfl, hst⟩ := hst n d acc M hdd hI
    obtain ⟨B, g⟩ := g
    obtain ⟨ad, xs, rfl, hx, hr⟩ := Rp.tup_inv g.fst
    cases hr with
    | cons hr1 hr2 =>
      cases hr2 with
      | cons hr2 hr3 =>
        cases hr3
        rename_i v1 v2
        refine ⟨ad, _, rfl, same_t g.bh hx, rfl, v1, _, rfl, v2, _, rfl, rfl, ?_, ?_⟩
        · rw [wipe_set (by simp), wipe_set (by simp)]
        · intro b
          have g2 : Good X.K B0 F ((D, .lst acc) :: M) ((((ρ.set j .un).set i .un).set i (.d d1)).set j (.d d2)) (s :: (ρ ++ κ)) ((σ.set i (some v1)).set j (some v2)) vs H :=
            ⟨B, g.pop.slt (Paired.set (OOk.of (s := .d d2) hr2) j (Paired.set (OOk.of (s := .d d1) hr1) i g.sl))⟩
          refine hst b _ vs H _ g2 fun k H3 M2 g3 h3 => ?_
          cases k with
          | true =>
            rw [if_pos rfl]
            intro b2
            refine h3.1 rfl b2 _ vs H3 _ g3 fun y H4 r M2 g4 h4 => ?_
            obtain ⟨y', M', rfl, rfl, hl, hI'⟩ := h4
            exact lc_push g4 hl fun H' g5 => hq _ _ _ _ _ g5 hI'
          | false =>
            rw [if_neg Bool.false_ne_true]
            obtain ⟨M', rfl, hI'⟩ := h3.2 rfl
            exact hq _ _ _ _ _ g3 hI'
end
end DL
set_option maxHeartbeats 2000000
namespace DL
open PySem PySem.Spec PyProof.Rows L2

section
variable {X : Cx} {K : Fg} {B0 F : Hp} {M : Cs} {ρ κ : List Sl} {P : Sl → Cs → Prop} {a b c e o elt tg iter : Expr} {pos p : Pos} {k : KK} {R : List PyData → Sl → (Cs → Prop) → Cs → Prop}
/-! ### dict comprehensions -/
theorem dc_push {D : Addr} {acc : List (Key × PyData)} {ky : Key} {y' : PyData} {M' : Cs} {ρ' κ' : List Sl} {σ : L2.St} {r : Sl} {x y : V} {vs : List V} {H : Hp} (g : Good K B0 F ((D, .dic acc) :: M') ρ' (.d y' :: r :: κ') σ (y :: x :: vs) H) (hk : KeyIs r ky) (hl : acc.length < 100000) {Q : Hp → Prop}
    (q : ∀ H', Good K B0 F ((D, .dic (putD acc ky y')) :: M') ρ' κ' σ vs H' → Q H') : ∃ kvs k, x = kV k ∧ H D = some (.dK kvs) ∧ kvs.length < sizeLine ∧ Q (upd H D (.dK (putK kvs k y))) := by
  have e := hk.v g.pop
  subst e
  obtain ⟨B, g⟩ := g
  obtain ⟨_, _, o, ho, kvs, rfl, hw⟩ := g.cells _ List.mem_cons_self
  have hz : (100000 : Nat) ≤ sizeLine := by decide
  refine ⟨kvs, ky, rfl, ho, by rw [Paired.length hw]; omega, q _ ⟨B, ?_⟩⟩
  exact (g.pop.pop).write (j := 0) (c := .dic acc) (c' := .dic (putD acc ky y')) rfl ⟨_, rfl, ents_put g.fst hw⟩
theorem dc_main {kx vx tg iter : Expr} {ifs : List Expr} {scope : Scope} {own : List (Str × Nat)} {pos : Pos} {g : TG} {tt : TT} {P : Sl → Cs → Prop} (hc : X.calm = true) (hN : X.N.Nodup) (ok : BlkOk X.N X.env.scope scope own)
    (hg : ∀ b : BA, PG (bk X scope b) tg g) (ht : ∀ b : BA, PTs (bk X scope b) ifs tt) (hs : ∀ x, foldedSetIterable iter X.env x = pure x)
    (h : DI X B0 F M ρ κ tg iter fun ds s Src M1 => ∀ D, ∃ Iv : Nat → List (Key × PyData) → Cs → Prop, Iv 0 [] M1 ∧ (∀ i acc M, Iv i acc M → Src ((D, .dic acc) :: M)) ∧
      (∀ i d acc M σ vs H x (Q : Hp → Prop), ds[i]? = some d → Iv i acc M → Good X.K B0 F ((D, .dic acc) :: M) (wipeS ρ (own.map (·.2))) (.d d :: s :: (ρ ++ κ)) σ (x :: vs) H →
        (∀ acc' M' ρ' σ' H', Good X.K B0 F ((D, .dic acc') :: M') ρ' (s :: (ρ ++ κ)) σ' vs H' → Iv (i + 1) acc' M' → Q H') →
        g x σ H fun σ2 H2 => wipe σ2 (own.map (·.2)) = wipe σ (own.map (·.2)) ∧ tt σ2 H2 fun b H3 =>
          if b = true then (∀ b : BA, tOf (bk X scope b) kx σ2 H3 fun y H4 => ∀ b2 : BA, tOf (bk X scope b2) vx σ2 H4 fun z H5 => ∃ kvs k, y = kV k ∧ H5 D = some (.dK kvs) ∧ kvs.length < sizeLine ∧ Q (upd H5 D (.dK (putK kvs k z)))) else Q H3) ∧
      ∀ acc M, Iv ds.length acc M → P (.v (.ref D)) ((D, .dic acc) :: M)) : DE X B0 F M ρ κ (.DictComp kx vx [⟨tg, iter, ifs, 0⟩] scope pos) P := fun σ vs H Q g0 q => by
  refine tOf_of (pe_dc (tk := fun σ H Q => ∀ b : BA, tOf (bk X scope b) kx σ H Q) (tv := fun σ H Q => ∀ b : BA, tOf (bk X scope b) vx σ H Q) hc hN pi_self ok (fun s H C cl fp => hg ⟨s, H, C, cl, fp⟩) (fun s H C cl fp => ht ⟨s, H, C, cl, fp⟩)
    (fun s H C cl fp => ⟨fun pins s' σ' H' Q' I z => z ⟨s, H, C, cl, fp⟩ pins s' I⟩) (fun s H C cl fp => ⟨fun pins s' σ' H' Q' I z => z ⟨s, H, C, cl, fp⟩ pins s' I⟩) hs) ?_
  have hsh : Shape σ ρ := by obtain ⟨B, g0⟩ := g0; exact shape_of g0.sl
  refine h σ vs H _ g0 fun J H1 M1 ds s v Src g1 dw hsrc hr D hD => ?_
  obtain ⟨Iv, h0, hsr, hst, hd⟩ := hr D
  have up : ∀ {M' H'}, Good X.K B0 F M' ρ (s :: κ) σ (v :: vs) H' → Good X.K B0 F M' ρ (s :: (ρ ++ κ)) σ (v :: (valsOf σ ++ vs)) H' := fun {M' H'} ⟨B, g⟩ => by
    refine ⟨B, g.stk ?_⟩
    cases g.st with
    | cons k1 k2 => exact .cons k1 (Paired.app (kok_slots g.sl) k2)
  have hlen : (valsOf σ).length = ρ.length := by
    have := Paired.length hsh
    simp [valsOf, this]
  have down : ∀ {M' H' ρ' σ'}, Good X.K B0 F M' ρ' (s :: (ρ ++ κ)) σ' (v :: (valsOf σ ++ vs)) H' → Good X.K B0 F M' ρ (s :: κ) σ (v :: vs) H' := fun {M' H' ρ' σ'} ⟨B, g⟩ => by
    cases g.st with
    | cons k1 k2 =>
      obtain ⟨k3, k4⟩ := kok_split hlen k2
      exact ⟨B, (g.slt (sok_back hsh k3)).stk (.cons k1 k4)⟩
  refine ⟨fun i m H' => m = ds.length - i ∧ i ≤ ds.length ∧ ∃ acc M', Good X.K B0 F ((D, .dic acc) :: M') ρ (s :: κ) σ (v :: vs) H' ∧ Iv i acc M', ⟨ds.length, by simp, Nat.zero_le _, [], M1, ?_, h0⟩, ?_⟩
  · obtain ⟨B, g1⟩ := g1
    exact ⟨B, g1.cell (c := .dic []) hD ⟨[], rfl, .nil⟩⟩
  rintro i m H' ⟨rfl, hi, acc, M', g', hI⟩
  by_cases hlt : i < ds.length
  · obtain ⟨d, hdd⟩ : ∃ d, ds[i]? = some d := ⟨ds[i], by simp [hlt]⟩
    refine .inr ⟨dw.go i _ ρ κ σ vs H' (hsr i acc M' hI) g' hlt, fun H2 => ∃ acc2 M2, Good X.K B0 F ((D, .dic acc2) :: M2) ρ (s :: κ) σ (v :: vs) H2 ∧ Iv (i + 1) acc2 M2, fun H2 ⟨acc2, M2, g2, h2⟩ => ⟨ds.length - (i + 1), by omega, rfl, hlt, acc2, M2, g2, h2⟩, fun x H2 y => ?_⟩
    have g2 := dw.yld i _ ρ (ρ ++ κ) σ (valsOf σ ++ vs) H' x H2 d (hsr i acc M' hI) (up g') hdd y
    have g3 : Good X.K B0 F ((D, .dic acc) :: M') (wipeS ρ (own.map (·.2))) (.d d :: s :: (ρ ++ κ)) (wipe σ (own.map (·.2))) (x :: v :: (valsOf σ ++ vs)) H2 := by
      obtain ⟨B, g2⟩ := g2
      exact ⟨B, g2.slt (sok_wipe g2.sl _)⟩
    have z := hst i d acc M' _ _ H2 x (fun H2 => ∃ acc2 M2, Good X.K B0 F ((D, .dic acc2) :: M2) ρ (s :: κ) σ (v :: vs) H2 ∧ Iv (i + 1) acc2 M2) hdd hI g3 fun acc' M'' ρ' σ' H'' gg hh => ⟨acc', M'', down gg, hh⟩
    have eqw : wipe (wipe σ (own.map (·.2))) (own.map (·.2)) = wipe σ (own.map (·.2)) := by
      have : ∀ (ws us : List Nat), (∀ w ∈ us, w ∈ ws) → wipe (wipe σ us) ws = wipe σ ws := by
        intro ws us
        induction us with
        | nil => intro _; rfl
        | cons u us ih =>
          intro hu
          show wipe ((wipe σ us).set u none) ws = _
          rw [wipe_set (hu u List.mem_cons_self)]
          exact ih fun w hw => hu w (List.mem_cons_of_mem _ hw)
      exact this _ _ fun w hw => hw
    rw [eqw] at z
    exact z
  · have e : i = ds.length := by omega
    subst e
    exact .inl ⟨dw.stop _ ρ κ σ vs H' (hsr _ acc M' hI) g', q _ H' _ _ (by
      obtain ⟨B, g'⟩ := g'
      exact ⟨B, g'.pop.pushV⟩) (hd acc M' hI)⟩
/-- {kx: vx for x in iter} -/
theorem de_dcC (i : Nat) {kx vx : Expr} {x : Str} {px : Pos} {scope : Scope} (h : DI X B0 F M ρ κ (.Name x px) iter fun ds s Src M1 => ∀ D, ∃ Iv : Nat → List (Key × PyData) → Cs → Prop, Iv 0 [] M1 ∧ (∀ i acc M, Iv i acc M → Src ((D, .dic acc) :: M)) ∧
      (∀ j d acc M, ds[j]? = some d → Iv j acc M → ∀ b : BA, DE (bk X scope b) B0 F ((D, .dic acc) :: M) ((ρ.set i .un).set i (.d d)) (s :: (ρ ++ κ)) kx fun r1 M1 => ∀ b : BA, DE (bk X scope b) B0 F M1 ((ρ.set i .un).set i (.d d)) (r1 :: s :: (ρ ++ κ)) vx fun r M2 => ∃ ky y M', KeyIs r1 ky ∧ r = .d y ∧ M2 = (D, .dic acc) :: M' ∧ acc.length < 100000 ∧ Iv (j + 1) (putD acc ky y) M') ∧
      ∀ acc M, Iv ds.length acc M → P (.v (.ref D)) ((D, .dic acc) :: M)) (hN : X.N.Nodup := by exact (by assumption)) (ok : BlkOk X.N X.env.scope scope [(x, i)] := by exact blkOk_by (by kernel_rfl)) (hg : ∀ b : BA, PG (bk X scope b) (.Name x px) (gName i) := by exact fun b => pg_name (by assumption) rfl (Or.inl rfl))
      (hc : X.calm = true := by rfl) (hs : ∀ x, foldedSetIterable iter X.env x = pure x := by intro _; rfl) : DE X B0 F M ρ κ (.DictComp kx vx [⟨.Name x px, iter, [], 0⟩] scope pos) P :=
  dc_main (own := [(x, i)]) (g := gName i) (tt := tYes) hc hN ok hg (fun _ => pts_nil) hs fun σ vs H Q g0 q => h σ vs H Q g0 fun J H1 M1 ds s v Src g1 dw hsrc hr => q J H1 M1 ds s v Src g1 dw hsrc fun D => by
    obtain ⟨Iv, h0, hsr, hst, hd⟩ := hr D
    refine ⟨Iv, h0, hsr, fun j d acc M σ vs H x Q hdd hI g hq => ⟨wipe_set (by simp), ?_⟩, hd⟩
    have fin : ∀ b : BA, tOf (bk X scope b) kx (σ.set i (some x)) H fun y H4 => ∀ b2 : BA, tOf (bk X scope b2) vx (σ.set i (some x)) H4 fun z H5 => ∃ kvs k, y = kV k ∧ H5 D = some (.dK kvs) ∧ kvs.length < sizeLine ∧ Q (upd H5 D (.dK (putK kvs k z))) := ?_
    · unfold tYes
      dsimp only
      rw [if_pos rfl]
      exact fin
    intro b
    have g2 : Good X.K B0 F ((D, .dic acc) :: M) ((ρ.set i .un).set i (.d d)) (s :: (ρ ++ κ)) (σ.set i (some x)) vs H := by
      obtain ⟨B, g⟩ := g
      exact ⟨B, g.pop.slt (Paired.set (OOk.of g.fst) i g.sl)⟩
    refine hst j d acc M hdd hI b (σ.set i (some x)) vs H _ g2 fun y H4 r1 M4 g4 h4 b2 => h4 b2 (σ.set i (some x)) (y :: vs) H4 _ g4 fun z H5 r M2 g5 h5 => ?_
    obtain ⟨ky, y', M', hk, rfl, rfl, hl, hI'⟩ := h5
    exact dc_push g5 hk hl fun H' g6 => hq _ _ _ _ _ g6 hI'
/-- {kx: vx for x, y in iter} -/
theorem de_dc2C (i j : Nat) (hij : i ≠ j) {kx vx : Expr} {x y : Str} {px py pt : Pos} {kt : Nat} {scope : Scope} (h : DI X B0 F M ρ κ (.Tuple [.Name x px, .Name y py] kt pt) iter fun ds s Src M1 => ∀ D, ∃ Iv : Nat → List (Key × PyData) → Cs → Prop, Iv 0 [] M1 ∧ (∀ i acc M, Iv i acc M → Src ((D, .dic acc) :: M)) ∧
      (∀ n d acc M, ds[n]? = some d → Iv n acc M → ∃ d1 d2, d = .tuple [d1, d2] ∧ ∀ b : BA, DE (bk X scope b) B0 F ((D, .dic acc) :: M) ((((ρ.set j .un).set i .un).set i (.d d1)).set j (.d d2)) (s :: (ρ ++ κ)) kx fun r1 M1 => ∀ b : BA, DE (bk X scope b) B0 F M1 ((((ρ.set j .un).set i .un).set i (.d d1)).set j (.d d2)) (r1 :: s :: (ρ ++ κ)) vx fun r M2 => ∃ ky y M', KeyIs r1 ky ∧ r = .d y ∧ M2 = (D, .dic acc) :: M' ∧ acc.length < 100000 ∧ Iv (n + 1) (putD acc ky y) M') ∧
      ∀ acc M, Iv ds.length acc M → P (.v (.ref D)) ((D, .dic acc) :: M)) (hN : X.N.Nodup := by exact (by assumption)) (ok : BlkOk X.N X.env.scope scope [(x, i), (y, j)] := by exact blkOk_by (by kernel_rfl))
      (hg : ∀ b : BA, PG (bk X scope b) (.Tuple [.Name x px, .Name y py] kt pt) (gTup X.K 2 (gCons (gName i) (gCons (gName j) gNil))) := by exact fun b => pg_tup rfl (pgs_cons (pg_name (by assumption) rfl (Or.inl rfl)) (pgs_cons (pg_name (by assumption) rfl (Or.inl rfl)) pgs_nil)))
      (hc : X.calm = true := by rfl) (hs : ∀ x, foldedSetIterable iter X.env x = pure x := by intro _; rfl) : DE X B0 F M ρ κ (.DictComp kx vx [⟨.Tuple [.Name x px, .Name y py] kt pt, iter, [], 0⟩] scope pos) P :=
  dc_main (own := [(x, i), (y, j)]) (g := gTup X.K 2 (gCons (gName i) (gCons (gName j) gNil))) (tt := tYes) hc hN ok hg (fun _ => pts_nil) hs fun σ vs H Q g0 q => h σ vs H Q g0 fun J H1 M1 ds s v Src g1 dw hsrc hr => q J H1 M1 ds s v Src g1 dw hsrc fun D => by
    obtain ⟨Iv, h0, hsr, hst, hd⟩ := hr D
    refine ⟨Iv, h0, hsr, fun n d acc M σ vs H x Q hdd hI g hq => ?_, hd⟩
    obtain ⟨d1, d2, rfl, hst⟩ := hst n d acc M hdd hI
    obtain ⟨B, g⟩ := g
    obtain ⟨ad, xs, rfl, hx, hr⟩ := Rp.tup_inv g.fst
    cases hr with
    | cons hr1 hr2 =>
      cases hr2 with
      | cons hr2 hr3 =>
        cases hr3
        rename_i v1 v2
        refine ⟨ad, _, rfl, same_t g.bh hx, rfl, v1, _, rfl, v2, _, rfl, rfl, ?_, ?_⟩
        · rw [wipe_set (by simp), wipe_set (by simp)]
        · have fin : ∀ b : BA, tOf (bk X scope b) kx ((σ.set i (some v1)).set j (some v2)) H fun y H4 => ∀ b2 : BA, tOf (bk X scope b2) vx ((σ.set i (some v1)).set j (some v2)) H4 fun z H5 => ∃ kvs k, y = kV k ∧ H5 D = some (.dK kvs) ∧ kvs.length < sizeLine ∧ Q (upd H5 D (.dK (putK kvs k z))) := ?_
          · unfold tYes
            dsimp only
            rw [if_pos rfl]
            exact fin
          intro b
          have g2 : Good X.K B0 F ((D, .dic acc) :: M) ((((ρ.set j .un).set i .un).set i (.d d1)).set j (.d d2)) (s :: (ρ ++ κ)) ((σ.set i (some v1)).set j (some v2)) vs H :=
            ⟨B, g.pop.slt (Paired.set (OOk.of (s := .d d2) hr2) j (Paired.set (OOk.of (s := .d d1) hr1) i g.sl))⟩
          refine hst b _ vs H _ g2 fun y H4 r1 M4 g4 h4 b2 => h4 b2 _ (y :: vs) H4 _ g4 fun z H5 r M2 g5 h5 => ?_
          obtain ⟨ky, y', M', hk, rfl, rfl, hl, hI'⟩ := h5
          exact dc_push g5 hk hl fun H' g6 => hq _ _ _ _ _ g6 hI'

/-! ### enumerate -/
def enumD (ds : List PyData) : List PyData := ds.mapIdx fun i d => .tuple [.int (i : Nat), d]
theorem enumD_len (ds : List PyData) : (enumD ds).length = ds.length := by simp [enumD]
theorem enumD_get {ds : List PyData} {i : Nat} {d : PyData} (h : (enumD ds)[i]? = some d) : ∃ z, ds[i]? = some z ∧ d = .tuple [.int (i : Nat), z] := by
  unfold enumD at h
  rw [List.getElem?_mapIdx] at h
  cases q : ds[i]? with
  | none => rw [q] at h; cases h
  | some z => rw [q] at h; exact ⟨z, rfl, (Option.some.inj h).symm⟩
theorem enum_yld {i : Nat} {σ : L2.St} {vs : List V} {H H' : Hp} {d : PyData} {s : Sl} {v : V} {T : Addr} {x : V} (g : Good K B0 F M ρ (s :: κ) σ (v :: vs) H) (hT : H T = none) (e : H' = upd H T (.tup [.int (i : Nat), x])) (hx : ∀ B, GoodB K B0 F M ρ (s :: κ) σ (v :: vs) H B → Rp K B x d) : Good K B0 F M ρ (.d (.tuple [.int (i : Nat), d]) :: s :: κ) σ (.ref T :: v :: vs) H' := by
  obtain ⟨B, g⟩ := g
  subst e
  have bp : B T = none := g.bh.free hT
  exact ⟨_, (g.laid (o := .tup [.int (i : Nat), x]) hT).pushD (.tup (SqT.of upd_same) (.cons (.int _) (.cons ((hx B g).ext fun b u z => by rw [upd_ne (ne_of_none z bp)]; exact z) .nil)))⟩
/-- enumerate(a list) -/
theorem di_enum {elts : List Expr} {kk : Nat} {tpos : Pos} (hm : X.mg "enumerate" = none) (h : DE X B0 F M ρ κ e fun r M1 => ∃ ds, r = .d (.list ds) ∧ R (enumD ds) r (fun _ => True) M1) (hg : Gl X "enumerate" := by rfl) (hs : starEach [e] X.env = (false, eval e X.env) :: starEach [] X.env := by rfl) (hs2 : starEach [e] X.env = [(false, eval e X.env)] := by rfl) :
    DI X B0 F M ρ κ (.Tuple elts kk tpos) (.Call (.Name "enumerate" p) [e] [] pos) R := fun σ vs H Q g q => by
  refine tOfI_of (pi_enum hg hm (pa_cons pe_self pa_nil hs) hs2) (h σ vs H _ g fun v H1 r M1 g1 hr => ?_)
  obtain ⟨ds, rfl, hr⟩ := hr
  obtain ⟨B, g1b⟩ := id g1
  obtain ⟨a, xs, rfl, ha, hx⟩ := Rp.lst_inv g1b.fst
  refine ⟨a, xs, rfl, SqL.of (g1b.bh _ _ ha), q (Ite X.K a) H1 M1 _ _ (.ref a) (fun _ => True) g1 ⟨?_, ?_, ?_⟩ trivial hr⟩
  · intro i M ρ κ σ vs H _ g hi
    rw [enumD_len] at hi
    obtain ⟨B, g⟩ := g
    obtain ⟨a', ys, e, ha', hy⟩ := Rp.lst_inv g.fst
    cases e
    have hl := hy.len
    exact ⟨ys, ys[i]'(by omega), SqL.of (g.bh _ _ ha'), by simp [show i < ys.length by omega]⟩
  · intro M ρ κ σ vs H _ g
    rw [enumD_len]
    obtain ⟨B, g⟩ := g
    obtain ⟨a', ys, e, ha', hy⟩ := Rp.lst_inv g.fst
    cases e
    have hl := hy.len
    exact ⟨ys, SqL.of (g.bh _ _ ha'), by omega⟩
  · intro i M ρ κ σ vs H x H' d _ g hd y
    obtain ⟨T, x', rfl, hT, eH, y⟩ := y
    obtain ⟨z, hz, rfl⟩ := enumD_get hd
    refine enum_yld g hT eH fun B g => ?_
    obtain ⟨a', ys, e, ha', hy⟩ := Rp.lst_inv g.fst
    cases e
    obtain ⟨v, hv, hvd⟩ := hy.get hz
    have e : x' = v := Option.some.inj ((y ys (SqL.of (g.bh _ _ ha'))).symm.trans hv)
    subst e
    exact hvd
/-- enumerate(a cell's list) -/
theorem di_enumC {elts : List Expr} {kk : Nat} {tpos : Pos} (hm : X.mg "enumerate" = none) (h : DE X B0 F M ρ κ e fun r M1 => ∃ a ds, r = .v (.ref a) ∧ (a, .lst ds) ∈ M1 ∧ R (enumD ds) r (fun M => (a, .lst ds) ∈ M) M1) (hg : Gl X "enumerate" := by rfl) (hs : starEach [e] X.env = (false, eval e X.env) :: starEach [] X.env := by rfl) (hs2 : starEach [e] X.env = [(false, eval e X.env)] := by rfl) :
    DI X B0 F M ρ κ (.Tuple elts kk tpos) (.Call (.Name "enumerate" p) [e] [] pos) R := fun σ vs H Q g q => by
  refine tOfI_of (pi_enum hg hm (pa_cons pe_self pa_nil hs) hs2) (h σ vs H _ g fun v H1 r M1 g1 hr => ?_)
  obtain ⟨a, ds, rfl, hmem, hr⟩ := hr
  have e := g1.ref
  subst e
  obtain ⟨B, g1b⟩ := id g1
  obtain ⟨_, _, o, ho, xs, rfl, hx⟩ := g1b.cells _ hmem
  refine ⟨a, xs, rfl, SqL.of ho, q (Ite X.K a) H1 M1 _ _ (.ref a) (fun M => (a, .lst ds) ∈ M) g1 ⟨?_, ?_, ?_⟩ hmem hr⟩
  · intro i M ρ κ σ vs H hm g hi
    rw [enumD_len] at hi
    obtain ⟨B, g⟩ := g
    obtain ⟨_, _, o, ho, ys, rfl, hy⟩ := g.cells _ hm
    have hl := hy.len
    exact ⟨ys, ys[i]'(by omega), SqL.of ho, by simp [show i < ys.length by omega]⟩
  · intro M ρ κ σ vs H hm g
    rw [enumD_len]
    obtain ⟨B, g⟩ := g
    obtain ⟨_, _, o, ho, ys, rfl, hy⟩ := g.cells _ hm
    have hl := hy.len
    exact ⟨ys, SqL.of ho, by omega⟩
  · intro i M ρ κ σ vs H x H' d hm g hd y
    obtain ⟨T, x', rfl, hT, eH, y⟩ := y
    obtain ⟨z, hz, rfl⟩ := enumD_get hd
    refine enum_yld g hT eH fun B g => ?_
    obtain ⟨_, _, o, ho, ys, rfl, hy⟩ := g.cells _ hm
    obtain ⟨v, hv, hvd⟩ := hy.get hz
    have e : x' = v := Option.some.inj ((y ys (SqL.of ho)).symm.trans hv)
    subst e
    exact hvd
end
end DL
set_option maxHeartbeats 4000000
/-! enumerate(t), t a tuple -/
namespace DLE
open PySem PySem.Spec PyProof.Rows
open Sem (wp)
theorem meets_enum1 {v : Value} {o : Obj} {H : Heap → Prop} (B : Begins v o H) :
    Meets (Builtin.«enumerate.__new__» ⟨[.type "enumerate", v], []⟩) (fun _ R s => H s.heap ∧
      R (.ok (.ret (.ref (s.heap.push o).objs.size))) { s with heap := (s.heap.push o).push { cls := .type "enumerate", data := .fields #[.none, .bool false, .ref s.heap.objs.size, rawInt 0, .none, .none] } }) :=
  .of_wp fun prog w A R s h => by
    obtain ⟨hp, g, d, tk, os⟩ := s
    obtain ⟨h1, h⟩ := h
    have hsub := sub_enumerate
    have q1 : ∀ {A' : Around} {E : Value → Shared → Prop} {Q : Value → Shared → Prop}, Q (.ref hp.objs.size) ⟨hp.push o, g, d, tk, os⟩ → wpAny (model prog w) A' (pyIter v) Q E ⟨hp, g, d, tk, os⟩ :=
      fun q => B.iter prog w _ _ ⟨hp, g, d, tk, os⟩ _ h1 q
    wp_walk using q1
    refine wpAny_stack_any fun st => wpAny_pure ?_
    split
    · rename_i c _ _ _ _ _
      cases (c == Value.type "enumerate") <;> (wp_walk using q1; exact ⟨_, rfl, h⟩)
    · wp_walk using q1
      exact ⟨_, rfl, h⟩
theorem call_enum1 {prog : Program} {w : World} {A : Around} {E : Value → Shared → Prop} {s : Shared} {v : Value} {o : Obj} {H : Heap → Prop} {Q : Value → Shared → Prop} (B : Begins v o H) (h1 : H s.heap)
    (h : ∀ h', IsEnum h' (s.heap.objs.size + 1) s.heap.objs.size 0 .none → h'.get? s.heap.objs.size = some o → h'.objs.size = s.heap.objs.size + 2 → (∀ b o, s.heap.get? b = some o → h'.get? b = some o) → Q (.ref (s.heap.objs.size + 1)) { s with heap := h' }) :
    wpAny (model prog w) A (call (.type "enumerate") [v]) Q E s := by
  refine callType_new F.called_enumerate (by decide) (F.typeCall_enumerate_1 _) (F.newCall_enumerate_1 _) (fun obj => F.args_object_init_2 obj _) F.entry_enumerate_new (meets_enum1 B) ⟨h1, ?_⟩
  have hz : (s.heap.push o).objs.size = s.heap.objs.size + 1 := Heap.size_push ..
  show _ ∧ _
  rw [hz]
  have he : IsEnum ((s.heap.push o).push { cls := .type "enumerate", data := .fields #[.none, .bool false, .ref s.heap.objs.size, rawInt 0, .none, .none] }) (s.heap.objs.size + 1) s.heap.objs.size 0 .none := by
    have z := Heap.get?_push_size (s.heap.push o) (o := { cls := .type "enumerate", data := .fields #[.none, .bool false, .ref s.heap.objs.size, rawInt 0, .none, .none] }) rfl
    rw [hz] at z
    exact z
  exact ⟨⟨_, he, rfl⟩, h _ he (Heap.get?_push_of_some _ (Heap.get?_push_size _ B.free)) (by rw [Heap.size_push, hz]) fun b o x => Heap.get?_push_of_some _ (Heap.get?_push_of_some _ x)⟩
end DLE
namespace DL
open PySem PySem.Spec PyProof.Rows L2
def IteT (K : Fg) (a : Addr) : It :=
  ⟨fun i H => ∃ (xs : List V) (x : V), SqT K H a xs ∧ xs[i]? = some x, fun i H v H' => ∃ T x, v = .ref T ∧ H T = none ∧ H' = upd H T (.tup [.int (i : Nat), x]) ∧ ∀ xs, SqT K H a xs → xs[i]? = some x, fun i H => ∃ xs : List V, SqT K H a xs ∧ xs.length ≤ i⟩
theorem turn_enumT {P : Program} {w : World} {K : Fg} {elts : List Expr} {kk : Nat} {tpos : Pos} (a e it : Addr) :
    Turn P w K (.Tuple elts kk tpos) (IteT K a) [e, it] e (fun i h => (∃ old, IsEnum h e it ((i : Nat) : Int) old) ∧ h.IsTupleIter it a i ∧ e ≠ it ∧ a ≠ it ∧ a ≠ e) where
  mem := by simp
  obj := fun i h st b hb => by
    obtain ⟨⟨old, he⟩, ⟨o, ho, hc, hd⟩, _⟩ := st
    rcases List.mem_cons.mp hb with z | z
    · rw [z]; exact ⟨_, he, fun v q => nomatch q⟩
    · rw [List.mem_singleton.mp z]; exact ⟨o, ho, fun v q => by rw [hd] at q; cases q⟩
  keep := fun i h h' ⟨⟨old, he⟩, hi, hne⟩ k => ⟨⟨old, k e List.mem_cons_self _ he⟩, hi.at fun o q => k it (by simp) o q, hne⟩
  item := by
    intro X hP hw hK hc i pins s σ H E I hf st hg
    subst hP hw hK
    obtain ⟨⟨old, he⟩, hit, hne, hai, hae⟩ := st
    obtain ⟨xs, x, hq, hx⟩ := hg
    obtain ⟨its, rv, p, hz⟩ := I.tuple hq
    obtain ⟨u, hu, ru⟩ := rv.get hx
    have hel : e < s.heap.objs.size := Heap.lt_size he
    have hil : it < s.heap.objs.size := by obtain ⟨_, q, _⟩ := hit; exact Heap.lt_size q
    have hlen : its.toArray.size = xs.length := by rw [List.size_toArray]; exact rv.length.symm
    have D := Draws.tuple (prog := X.prog) (w := X.w) (A := X.A.in1) (by simpa using I.ok.hd hc) it a hai its.toArray
    refine wpAny_pyNext_enum_itemD D he ⟨hit, p⟩ (by rw [hlen]; exact (List.getElem?_eq_some_iff.mp hx).1) hne (by simp [hne, Ne.symm hae]) fun x1 h' tk hP1 ho st' hT hsz hk => ?_
    have e1 : x1 = u := by
      have q := hP1.symm.trans (show its.toArray[i]? = some u by simpa using hu)
      exact Option.some.inj q
    subst e1
    refine ⟨_, rfl, wpAny_letOwnedTupleGo_enum (s := { s with heap := h', toks := tk + 1 }) ho fun h'' he' sb => ?_⟩
    have hT2 := (sb.2 _ (Nat.ne_of_gt hel)).trans hT
    have new : ObjOk X.prog X.w (upd H s.heap.objs.size (.tup [.int (i : Nat), x])) h'' s.heap.objs.size (.tup [.int (i : Nat), x]) :=
      ⟨by show 2 ≤ sizeLine; decide, [.int i tk, x1], .cons ⟨_, rfl⟩ (.cons ru .nil), ⟨_, hT2, rfl, _, rfl⟩⟩
    have I1 : Inv X pins σ (upd H s.heap.objs.size (.tup [.int (i : Nat), x])) { s with heap := h'', toks := tk + 1 } :=
      I.turnedNew (ch := [e, it]) (fun b ob hb q => (sb.2 b (fun z => hb (by simp [z]))).trans (hk b ob (fun z => hb (by simp [z])) (fun z => hb (by simp [z])) q)) hf (Nat.le_refl _) new
    refine ⟨.ref s.heap.objs.size, _, I1, rfl, ⟨_, x, rfl, I.hok.fresh (Nat.le_refl _), rfl, fun ys hy => by rw [I.tuple_inj hy hq]; exact hx⟩, ⟨⟨x1, ?_⟩, st'.1.at fun o q => (sb.2 it (Ne.symm hne)).trans q, hne, hai, hae⟩, fun b hb => ?_⟩
    · have e1 : ((i + 1 : Nat) : Int) = (i : Int) + 1 := by omega
      rw [e1]; exact he'
    · have hb' : b < s.heap.objs.size := by
        rcases List.mem_cons.mp hb with z | z
        · rw [z]; exact hel
        · rw [List.mem_singleton.mp z]; exact hil
      rw [upd_ne (Nat.ne_of_lt hb')]
      exact (hf b hb).1
  done := by
    intro X hP hw hK hc i pins s σ H E I hf st hg
    subst hP hw hK
    obtain ⟨⟨old, he⟩, hit, hne, hai, hae⟩ := st
    obtain ⟨xs, hq, hx⟩ := hg
    obtain ⟨its, rv, p, hz⟩ := I.tuple hq
    have hlen : its.toArray.size = xs.length := by rw [List.size_toArray]; exact rv.length.symm
    obtain ⟨f0, f1, f2, f3, f4, f5⟩ := hf it (by simp)
    have hi : i = its.toArray.size ∨ its.toArray.size < i := by omega
    have D := Draws.tuple (prog := X.prog) (w := X.w) (A := X.A.in1) (by simpa using I.ok.hd hc) it a hai its.toArray
    have hT : s.TypeIs (.ref e) "enumerate" := ⟨_, he, rfl⟩
    unfold pyNext
    refine wpAny_bind (wpAny_attempt (wpAny_callSpecial?_slot (name := Str.ofString "__next__") hT F.slot_enumerate_next
      (wpAny_call_entry F.slot_enumerate_next hT F.entry_enumerate_next ?_ (F.args_enumerate_next_1 _))))
    show wpAny _ _ (field (.ref e) 2 >>= _) _ _ _
    refine wpAny_bind (wpAny_field he rfl (x := .ref it) rfl ?_)
    refine wpAny_bind (wpAny_nextOf_tuple_end (by simpa using I.ok.hd hc) hit p (by have z := rv.length; simp only [List.size_toArray] at *; simp; omega) fun h' x he' hx' => ?_)
    obtain ⟨o, ho, hcx⟩ := hx'
    refine wpAny_bind (wpAny_isInstance (T := "StopIteration") (b := true) ⟨o, ho, hcx⟩ isSubtype_stop ?_)
    exact wpAny_pure ⟨rfl, I.turned (t' := s.toks) (fun b o hb q => he' b o hb q) f0 f1 f3 f4 f5⟩
  self := fun A i s Q E st h => let ⟨⟨_, he⟩, _⟩ := st; wpAny_pyIter_enum he h
def iEnumT (K : Fg) (ta : TA) : TI := fun σ H R => ta σ H fun vs H1 => ∃ a xs, vs = [.ref a] ∧ SqT K H1 a xs ∧ R (IteT K a) H1
theorem pi_enumT {X : Cx} {e : Expr} {ta : TA} {p pos tpos : Pos} {elts : List Expr} {kk : Nat} (hg : Gl X "enumerate") (hm : X.mg "enumerate" = none) (ha : PA X [e] ta) (hs : starEach [e] X.env = [(false, eval e X.env)] := by rfl) :
    PI X (.Tuple elts kk tpos) (.Call (.Name "enumerate" p) [e] [] pos) (iEnumT X.K ta) := by
  refine ⟨fun pins s σ H R I h => ?_⟩
  refine Call_ (ld_blt I hg hm boot_enumerate (PyProof.Rows.callWith_type1 (thn (ha.run pos pins s σ H _ I h) fun us s1 ⟨vs, H1, I1, r1, q1⟩ => ?_) hs rfl))
  obtain ⟨a, xs, ex, hq, q⟩ := q1
  subst ex
  obtain rfl := Vals.ref1 r1
  obtain ⟨its, rv, p', hz⟩ := I1.tuple hq
  have hal : a < s1.heap.objs.size := p'.lt
  refine DLE.call_enum1 (begins_tuple a its.toArray) (show s1.heap.IsTuple a its.toArray from p') fun h' he hit hsz hk => wpAny_pyIter_enum he ?_
  have I2 : Inv X pins σ H1 { s1 with heap := h' } := I1.kept (t' := s1.toks) hk
  refine ⟨s1.heap.objs.size + 1, [s1.heap.objs.size + 1, s1.heap.objs.size], _, _, H1, rfl, I2, turn_enumT a (s1.heap.objs.size + 1) s1.heap.objs.size, ⟨⟨.none, he⟩, ⟨_, hit, rfl, rfl⟩, Nat.succ_ne_self _, Nat.ne_of_lt hal, Nat.ne_of_lt (Nat.lt_succ_of_lt hal)⟩, fun b hb => ?_, q⟩
  have hle : s1.heap.objs.size ≤ b := by
    rcases List.mem_cons.mp hb with z | z
    · rw [z]; exact Nat.le_succ _
    · rw [List.mem_singleton.mp z]; exact Nat.le_refl _
  exact I1.fpOk hle (I1.hok.fresh hle)
section
variable {X : Cx} {K : Fg} {B0 F : Hp} {M : Cs} {ρ κ : List Sl} {e : Expr} {pos p : Pos} {R : List PyData → Sl → (Cs → Prop) → Cs → Prop}
theorem di_enumT {elts : List Expr} {kk : Nat} {tpos : Pos} (hm : X.mg "enumerate" = none) (h : DE X B0 F M ρ κ e fun r M1 => ∃ ds, r = .d (.tuple ds) ∧ R (enumD ds) r (fun _ => True) M1) (hg : Gl X "enumerate" := by rfl) (hs : starEach [e] X.env = (false, eval e X.env) :: starEach [] X.env := by rfl) (hs2 : starEach [e] X.env = [(false, eval e X.env)] := by rfl) :
    DI X B0 F M ρ κ (.Tuple elts kk tpos) (.Call (.Name "enumerate" p) [e] [] pos) R := fun σ vs H Q g q => by
  refine tOfI_of (pi_enumT hg hm (pa_cons pe_self pa_nil hs) hs2) (h σ vs H _ g fun v H1 r M1 g1 hr => ?_)
  obtain ⟨ds, rfl, hr⟩ := hr
  obtain ⟨B, g1b⟩ := id g1
  obtain ⟨a, xs, rfl, ha, hx⟩ := Rp.tup_inv g1b.fst
  refine ⟨a, xs, rfl, same_t g1b.bh ha, q (IteT X.K a) H1 M1 _ _ (.ref a) (fun _ => True) g1 ⟨?_, ?_, ?_⟩ trivial hr⟩
  · intro i M ρ κ σ vs H _ g hi
    rw [enumD_len] at hi
    obtain ⟨B, g⟩ := g
    obtain ⟨a', ys, e, ha', hy⟩ := Rp.tup_inv g.fst
    cases e
    have hl := hy.len
    exact ⟨ys, ys[i]'(by omega), same_t g.bh ha', by simp [show i < ys.length by omega]⟩
  · intro M ρ κ σ vs H _ g
    rw [enumD_len]
    obtain ⟨B, g⟩ := g
    obtain ⟨a', ys, e, ha', hy⟩ := Rp.tup_inv g.fst
    cases e
    have hl := hy.len
    exact ⟨ys, same_t g.bh ha', by omega⟩
  · intro i M ρ κ σ vs H x H' d _ g hd y
    obtain ⟨T, x', rfl, hT, eH, y⟩ := y
    obtain ⟨z, hz, rfl⟩ := enumD_get hd
    refine enum_yld g hT eH fun B g => ?_
    obtain ⟨a', ys, e, ha', hy⟩ := Rp.tup_inv g.fst
    cases e
    obtain ⟨v, hv, hvd⟩ := hy.get hz
    have e : x' = v := Option.some.inj ((y ys (same_t g.bh ha')).symm.trans hv)
    subst e
    exact hvd
end
end DL
set_option maxHeartbeats 4000000
namespace DL
open PySem PySem.Spec PyProof.Rows L2

section
variable {X : Cx} {K : Fg} {B0 F : Hp} {M : Cs} {ρ κ : List Sl} {P : Sl → Cs → Prop} {a b c e o : Expr} {es : List Expr} {pos p : Pos} {x : Str} {R : List PyData → Sl → (Cs → Prop) → Cs → Prop}
theorem Good.perm {M' : Cs} {σ : L2.St} {vs : List V} {H : Hp} (g : Good K B0 F M ρ κ σ vs H) (h : M.Perm M') : Good K B0 F M' ρ κ σ vs H := by
  obtain ⟨B, g⟩ := g
  exact ⟨B, g.b0, g.bh, g.fh, g.new, fun c hc => g.cells c (h.mem_iff.mpr hc), (h.map _).nodup_iff.mp g.nd, g.sl, g.st⟩
/-- f(e, ..): a def that may change all cells behind the first j -/
theorem de_callJ {f : Addr} {fd : FuncData} {ps : List Str} {lv : Nat} {Rf : List Sl → Cs → (Sl → Cs → Prop) → Prop} (j : Nat) (Fo : FnOk X.prog X.w X.K X.mg X.base CX0 lv f fd ps (SpG X.K Rf)) (hr : Room lv X.A) (hm : X.mg x = some (.ref f)) (hk : PySem.W.keepIn X.K (.ref f) = true) (hb : Binds X.K fd ps [])
    (h : DA X B0 F M ρ κ (e :: es) fun rs M1 => Rf rs (M1.drop j) fun r M2 => NoRd r ∧ P r (M1.take j ++ M2)) (hg : Gl X x := by rfl) (hdb : (x == ("__debug__" : Str)) = false := by decide)
    (he : starEach (e :: es) X.env = (false, eval e X.env) :: starEach es X.env := by rfl) (hpl : (backTo pos (starEach es X.env)).any (·.1) = false := by rfl) : DE X B0 F M ρ κ (.Call (.Name x p) (e :: es) [] pos) P := fun σ vs H Q g q => by
  refine tOf_of (pe_call (E := E0) Fo hr hg hm hk hb .nil pass0 pa_self hdb he hpl) (h σ vs H _ g fun ws H1 rs M1 hl g1 hR => ?_)
  rw [List.append_nil]
  have pm : M1.Perm (M1.drop j ++ M1.take j) := by
    have h1 : M1 = M1.take j ++ M1.drop j := (List.take_append_drop j M1).symm
    exact (List.Perm.of_eq h1).trans List.perm_append_comm
  obtain ⟨B, g1⟩ := g1.perm pm
  obtain ⟨k1, k2⟩ := kok_split hl g1.st
  have g2 := g1.stk k2
  have sF : Same F (without H1 ((M1.drop j).map (·.1))) := fun a o e => by
    rw [without_out]
    · exact g1.fh a o e
    · intro z
      obtain ⟨c, hc, rfl⟩ := List.mem_map.mp z
      rw [(g1.cells c (List.mem_append_left _ hc)).f] at e
      cases e
  have nd := g1.nd
  rw [List.map_append] at nd
  refine ⟨B, without H1 ((M1.drop j).map (·.1)), M1.drop j, rs, _, ⟨B, Same.refl _, g1.bh, fun a o e => (without_some e).2, fun a ha => .inl ha, fun c hc => ?_, (List.nodup_append.mp nd).1, .nil, Paired.mapP k1 fun _ _ z => z.extF sF⟩, ?_, hR, fun v H' r M' g' hW => ?_⟩
  · obtain ⟨h1, h2, u, h3, h4⟩ := g1.cells c (List.mem_append_left _ hc)
    exact ⟨h1, without_in (List.mem_map.mpr ⟨c, hc, rfl⟩), u, h3, h4⟩
  · rintro r M ⟨hn, _⟩
    exact hn
  · exact q v H' r _ ((good_afterM g2 hW.1 g').perm List.perm_append_comm) hW.2

/-! ### a raw list made, an item popped -/
theorem vok_slV {F B : Hp} {v w : V} (h : VOk K F B v (slV w)) : v = w := by
  cases w with
  | int i => exact Rp.int_inv h
  | bl b => exact Rp.bl_inv h
  | str x => exact Rp.str_inv h
  | non => exact Rp.non_inv h
  | byt b => exact h
  | flt b => exact h
  | ref a => exact h
  | ty n => exact h
theorem koks_slV {F B : Hp} : ∀ {ws vs : List V}, KOk K F B ws (vs.map slV) → ws = vs
  | _, [], h => by cases h; rfl
  | _, v :: vs, h => by
    cases h with
    | cons h1 h2 => rw [vok_slV h1, koks_slV h2]
theorem de_lstRaw (h : DA X B0 F M ρ κ es fun rs M1 => ∃ ws : List V, rs = ws.map slV ∧ ws.length ≤ 100000 ∧ ∀ p, P (.v (.ref p)) ((p, .raw (.lst ws)) :: M1)) : DE X B0 F M ρ κ (.List es pos) P :=
  fun σ vs H Q g q => tOf_of (pe_lst pa_self) (h σ vs H _ g fun ws H1 rs M1 hl g1 h1 => by
    obtain ⟨us, rfl, hz, p⟩ := h1
    obtain ⟨B, g1⟩ := g1
    obtain ⟨h3, h4⟩ := kok_split hl g1.st
    have e := koks_slV h3
    subst e
    exact ⟨Nat.le_trans hz (by decide), fun a ha => q _ _ _ _ ⟨B, ((g1.stk h4).cell (c := .raw (.lst ws)) ha rfl).pushV⟩ (p a)⟩)
variable {apos cpos : Pos}
/-- xs.pop(i): xs a cell at place n -/
theorem de_popAt (n : Nat) (h : DE X B0 F M ρ κ o fun r1 M1 => ∃ a ds', r1 = .v (.ref a) ∧ (a, MC.lst ds') ∈ M1 ∧ DE X B0 F M1 ρ (r1 :: κ) e fun r2 M2 => ∃ ds i k d, r2 = .d (.int i) ∧ M2[n]? = some (a, .lst ds) ∧ -(2 ^ 63) ≤ i ∧ i < 2 ^ 63 ∧ seqIndex? i ds.length = some k ∧ ds[k]? = some d ∧ P (.d d) (M2.set n (a, .lst (ds.eraseIdx k))))
    (hbase : attributeBase o "pop" X.env (eval o X.env) = eval o X.env := by rfl)
    (hfew : ((backTo cpos (starEach (e :: []) X.env)).all (fun x => !x.1) && (backToKw cpos (keywordEach [] X.env)).all (fun x => x.1.isSome)
      && decide ((e :: ([] : List Expr)).length + ([] : List Keyword).length + (if ([] : List Keyword).isEmpty then 0 else 1) < 30)) = true := by rfl)
    (hline : (apos.endLine == cpos.line) = true := by rfl) (hs : starEach (e :: []) X.env = (false, eval e X.env) :: starEach [] X.env := by rfl) (hplain : (backTo cpos (starEach [] X.env)).any (·.1) = false := by rfl) :
    DE X B0 F M ρ κ (.Call (.Attribute o "pop" apos) [e] [] cpos) P := fun σ vs H Q g q => by
  refine tOf_of (pe_bm PySem.F.plainAttrs_list PySem.F.slot_list_pop PySem.F.type_list_pop (X := X) mt_popAt pe_self (pa_cons pe_self pa_nil hs) hbase hfew hline hs hplain) ?_
  refine h σ vs H _ g fun x H1 r1 M1 g1 h1 => ?_
  obtain ⟨a, ds', rfl, hm, h1⟩ := h1
  have e := g1.ref
  subst e
  refine ⟨?_, h1 σ (.ref a :: vs) H1 _ g1 fun y H2 r2 M2 g2 h2 => ?_⟩
  · obtain ⟨B, g1⟩ := g1
    obtain ⟨_, _, u, ho, ws, rfl, hw⟩ := g1.cells _ hm
    exact .inl ⟨rfl, ws, SqL.of ho⟩
  · obtain ⟨ds, i, k, d, rfl, hn, hi1, hi2, hk, hd, hp⟩ := h2
    have e := g2.int
    subst e
    obtain ⟨B, g2⟩ := g2
    obtain ⟨ws, ho, hw⟩ := cell_at g2 hn
    obtain ⟨v, hv, hr⟩ := hw.get hd
    have er : ∀ {ws : List V} {ds : List PyData} (k : Nat), RpA X.K B ws ds → RpA X.K B (ws.eraseIdx k) (ds.eraseIdx k) := by
      intro ws ds k h
      induction ws generalizing ds k with
      | nil => cases h; exact .nil
      | cons w ws ih =>
        cases h with
        | cons h1 h2 =>
          cases k with
          | zero => exact h2
          | succ k => exact .cons h1 (ih k h2)
    exact ⟨a, ws, i, k, v, rfl, rfl, ho, hi1, hi2, by rw [hw.len]; exact hk, hv, q _ _ _ _ ⟨B, (g2.pop.pop.write (c' := .lst (ds.eraseIdx k)) hn ⟨_, rfl, er k hw⟩).pushD hr⟩ hp⟩

/-! ### in, of data at any depth -/
theorem SeqLs.dp {σ : L2.St} {vs : List V} {H B : Hp} {s : Sl} {ds : List PyData} {v : V} (q : SeqLs M s ds) (g : GoodB K B0 F M ρ κ σ vs H B) (hv : VOk K F B v s) : Dp K H v (.list ds) := by
  obtain ⟨a, xs, rfl, h1, h2⟩ := q.at g hv
  exact .lst h1 (h2.ext g.bh).dp
theorem r2_inD {s : Sl} {ds : List PyData} {d : PyData} (q : SeqLs M s ds) (hd : SeqAt.shaped d = true) (hs : SeqAt.shaped (.list ds) = true) (h : P (.d (.bool (ds.any fun z => PyData.eqv z d))) M) : R2D K B0 F ρ κ (rInD K) (.d d) s M P := fun σ vs H x y Q g qq => by
  obtain ⟨B, g⟩ := g
  have r : Rp K B x d := g.pop.fst
  exact ⟨d, ds, (r.ext g.bh).dp, q.dp g g.fst, hd, hs, qq _ H _ M ⟨B, g.pop.pop.pushD (Rp.bl _)⟩ h⟩
theorem r2_niD {s : Sl} {ds : List PyData} {d : PyData} (q : SeqLs M s ds) (hd : SeqAt.shaped d = true) (hs : SeqAt.shaped (.list ds) = true) (h : P (.d (.bool (!ds.any fun z => PyData.eqv z d))) M) : R2D K B0 F ρ κ (rNotInD K) (.d d) s M P := fun σ vs H x y Q g qq => by
  obtain ⟨B, g⟩ := g
  have r : Rp K B x d := g.pop.fst
  exact ⟨d, ds, (r.ext g.bh).dp, q.dp g g.fst, hd, hs, qq _ H _ M ⟨B, g.pop.pop.pushD (Rp.bl _)⟩ h⟩

/-! ### ranges as values -/
/-- range(i, j): a cell -/
theorem rn_range2 {i j : Int} (h : ∀ p, P (.v (.ref p)) ((p, .raw (.rng i j)) :: M)) : RnD K B0 F ρ κ (fun vs H Q => ∃ i j, vs = [V.int i, V.int j] ∧ ∀ p, H p = none → Q (.ref p) (upd H p (.rng i j))) [.d (.int i), .d (.int j)] M P := fun σ vs H xs Q hl g qq => by
  obtain ⟨x, y, rfl⟩ := two_args hl rfl
  have g2 : Good K B0 F M ρ (.d (.int j) :: κ) σ (y :: vs) H := Good.pop g
  have e := Good.int g
  subst e
  have e := g2.int
  subst e
  obtain ⟨B, g2⟩ := g2
  exact ⟨i, j, rfl, fun p hp => qq _ _ _ _ ⟨B, (g2.pop.cell (c := .raw (.rng i j)) hp rfl).pushV⟩ (h p)⟩
/-- a range object that stands, walked -/
def iRngV (te : TE) : TI := fun σ H R => te σ H fun x H1 => ∃ p lo hi, x = .ref p ∧ H1 p = some (.rng lo hi) ∧ (-(2 ^ 62) ≤ lo ∧ lo < 2 ^ 62 ∧ -(2 ^ 62) ≤ hi ∧ hi < 2 ^ 62) ∧ R (Itr lo (hi - lo).toNat) H1
theorem pi_rngV {tg e : Expr} {te : TE} (he : PE X e te) : PI X tg e (iRngV te) := by
  refine ⟨fun pins s σ H R I h => ?_⟩
  refine thn (he.run pins s σ H _ I h) fun v s1 ⟨x, H1, I1, r1, q1⟩ => ?_
  obtain ⟨p, lo, hi, rfl, hp, ⟨h1, h2, h3, h4⟩, q⟩ := q1
  obtain rfl : v = Value.ref p := r1
  obtain ⟨t, u, w, ho⟩ : ObjOk X.prog X.w H1 s1.heap p (.rng lo hi) := I1.hok p _ hp
  refine wpAny_pyIter_range (show IsRange s1.heap p lo hi 1 t u w from ho) (small_one h1 h2 h3 h4) ?_
  refine ⟨s1.heap.objs.size, [s1.heap.objs.size], _, _, H1, rfl, I1.kept (t' := s1.toks) fun b o e => Heap.get?_push_of_some _ e, turn_range _ lo (hi - lo).toNat, ?_, fun b hb => ?_, q⟩
  · have e1 : lo + ((0 : Nat) : Int) * 1 = lo := by simp
    have e2 : (((hi - lo).toNat : Nat) : Int) - ((0 : Nat) : Int) = Builtin.Range.rangeSize lo hi 1 := by rw [rangeSize_one]; split <;> omega
    show IsRangeIter _ _ (lo + ((0 : Nat) : Int) * 1) ((((hi - lo).toNat : Nat) : Int) - ((0 : Nat) : Int)) 1
    rw [e1, e2]
    exact Heap.get?_push_size _ rfl
  · obtain rfl := List.mem_singleton.mp hb
    exact I1.fpOk (Nat.le_refl _) (I1.hok.fresh (Nat.le_refl _))
theorem di_rngV {tg : Expr} (h : DE X B0 F M ρ κ e fun r M1 => ∃ p lo hi, r = .v (.ref p) ∧ (p, .raw (.rng lo hi)) ∈ M1 ∧ (-(2 ^ 62) ≤ lo ∧ lo < 2 ^ 62 ∧ -(2 ^ 62) ≤ hi ∧ hi < 2 ^ 62) ∧ R (rngD lo (hi - lo).toNat) .un (fun _ => True) M1) : DI X B0 F M ρ κ tg e R := fun σ vs H Q g q => by
  refine tOfI_of (pi_rngV pe_self) (h σ vs H _ g fun v H1 r M1 g1 hr => ?_)
  obtain ⟨p, lo, hi, rfl, hm, hb, hr⟩ := hr
  have e := g1.ref
  subst e
  obtain ⟨B, g1b⟩ := id g1
  exact ⟨p, lo, hi, rfl, raw_at g1b hm, hb, q _ H1 M1 _ .un .non _ (g1.pop.push fun _ _ => trivial) walk_rng trivial hr⟩
/-- tuple(range(a, b)), list(range(a)) -/
theorem de_tupRg2 {p2 p3 : Pos} (hm : X.mg "tuple" = none) (hm2 : X.mg "range" = none) (h : DE X B0 F M ρ κ a fun r M1 => DE X B0 F M1 ρ (r :: κ) b fun r2 M2 => ∃ m n, r = .d (.int m) ∧ r2 = .d (.int n) ∧ RgOk m n ∧ P (.d (.tuple (rngD m (n - m).toNat))) M2)
    (pe : PE X (.Call (.Name "tuple" p) [.Call (.Name "range" p2) [a, b] [] p3] [] pos) (tTupRg (tRg2 (tOf X a) (tOf X b))) := by exact pe_tupRg rfl rfl (by assumption) (prg_2 rfl (by assumption) pe_self pe_self)) : DE X B0 F M ρ κ (.Call (.Name "tuple" p) [.Call (.Name "range" p2) [a, b] [] p3] [] pos) P := fun σ vs H Q g q => tOf_of pe (h σ vs H _ g fun v H1 r M1 g1 h1 => h1 σ (v :: vs) H1 _ g1 fun v2 H2 r2 M2 g2 h2 => by
    obtain ⟨m, n, rfl, rfl, ok, hp⟩ := h2
    have e := g2.int
    subst e
    have e := g2.pop.int
    subst e
    refine ⟨m, n, rfl, rfl, ok, fun l hl => q _ _ _ M2 ?_ hp⟩
    obtain ⟨B, g2⟩ := g2
    exact ⟨_, (g2.pop.pop.laid (o := .tup (rgV m n)) hl).pushD (.tup (SqT.of upd_same) (rngV_rp m n))⟩)
theorem de_lstRg1 {p2 p3 : Pos} (hm : X.mg "list" = none) (hm2 : X.mg "range" = none) (h : DE X B0 F M ρ κ a fun r M1 => ∃ n, r = .d (.int n) ∧ RgOk 0 n ∧ ∀ l, P (.v (.ref l)) ((l, .lst (rngD 0 n.toNat)) :: M1))
    (pe : PE X (.Call (.Name "list" p) [.Call (.Name "range" p2) [a] [] p3] [] pos) (tLstRg (tRg1 (tOf X a))) := by exact pe_listRg rfl rfl (by assumption) (prg_1 rfl (by assumption) pe_self)) : DE X B0 F M ρ κ (.Call (.Name "list" p) [.Call (.Name "range" p2) [a] [] p3] [] pos) P := fun σ vs H Q g q => tOf_of pe (h σ vs H _ g fun v H1 r M1 g1 h1 => by
    obtain ⟨n, rfl, ok, hp⟩ := h1
    have e := g1.int
    subst e
    refine ⟨n, rfl, ok, fun l hl => q _ _ _ _ ?_ (hp l)⟩
    obtain ⟨B, g1⟩ := g1
    have e : (n - 0).toNat = n.toNat := by omega
    exact cell_new g1.pop hl (by rw [← e]; exact rngV_rp 0 n))

/-! ### dict(pairs), sorted(d) -/
def mergeD (kvs more : List (Key × PyData)) : List (Key × PyData) := more.foldl (fun acc kv => putD acc kv.1 kv.2) kvs
theorem ents_merge {B : Hp} : ∀ {kvs acc : List (Key × V)} {es acc' : List (Key × PyData)}, EntsOk K B kvs es → EntsOk K B acc acc' → EntsOk K B (mergeK acc kvs) (mergeD acc' es)
  | _, _, _, _, .nil, h => h
  | p :: kvs, acc, q :: es, acc', .cons h t, g => by
    show EntsOk K B (mergeK (putK acc p.1 p.2) kvs) (mergeD (putD acc' q.1 q.2) es)
    rw [h.1]
    exact ents_merge t (ents_put h.2 g)
def keyData : Key → PyData
  | .inl i => .int i
  | .inr x => .str x
theorem key_v {H : Hp} {v : V} {ky : Key} (h : Rp K H v (keyData ky)) : v = kV ky := by
  cases ky with
  | inl i => exact Rp.int_inv h
  | inr x => exact Rp.str_inv h
/-- dict(xs): xs a list of pairs (key, value): a cell -/
theorem rn_dict {s : Sl} {es : List (Key × PyData)} (q : SeqLs M s (es.map fun e => .tuple [keyData e.1, e.2])) (h : ∀ p, P (.v (.ref p)) ((p, .dic (mergeD [] es)) :: M)) : RnD K B0 F ρ κ (fun xs H Q => ∃ (a : Addr) (ps : List Addr) (kvs : List (Key × V)), xs = [.ref a] ∧ SqL K H a (ps.map V.ref) ∧ Paired (fun p kv => SqT K H p [kV kv.1, kv.2]) ps kvs ∧
    ∀ p, H p = none → Q (.ref p) (upd H p (.dK (mergeK [] kvs)))) [s] M P := fun σ vs H xs Q hl g qq => by
  obtain ⟨x, rfl⟩ := one_arg hl rfl
  obtain ⟨B, g⟩ := g
  obtain ⟨a, ys, rfl, h1, h2⟩ := q.at g g.fst
  have : ∀ {ys : List V} {es : List (Key × PyData)}, RpA K B ys (es.map fun e => .tuple [keyData e.1, e.2]) → ∃ (ps : List Addr) (kvs : List (Key × V)), ys = ps.map V.ref ∧ Paired (fun p kv => SqT K H p [kV kv.1, kv.2]) ps kvs ∧ EntsOk K B kvs es := by
    intro ys es
    induction es generalizing ys with
    | nil => intro h; cases h; exact ⟨[], [], rfl, .nil, .nil⟩
    | cons e es ih =>
      intro h
      cases h with
      | cons h1 h2 =>
        obtain ⟨ps, kvs, e1, e2, e3⟩ := ih h2
        obtain ⟨t, ws, rfl, ht, hw⟩ := Rp.tup_inv h1
        cases hw with
        | cons w1 w2 =>
          cases w2 with
          | cons w2 w3 =>
            cases w3
            have ek := key_v w1
            subst ek
            rename_i v2
            exact ⟨t :: ps, (e.1, v2) :: kvs, by rw [e1]; rfl, .cons (same_t g.bh ht) e2, .cons ⟨rfl, w2⟩ e3⟩
  obtain ⟨ps, kvs, rfl, e2, e3⟩ := this h2
  exact ⟨a, ps, kvs, rfl, h1, e2, fun p hp => qq _ _ _ _ ⟨B, (g.pop.cell (c := .dic (mergeD [] es)) hp ⟨_, rfl, ents_merge e3 .nil⟩).pushV⟩ (h p)⟩
/-- sorted(d): d a cell with int keys, fewer than 64 -/
theorem rn_sortedDI {a : Addr} {es : List (Key × PyData)} {ks : List Int} (hm : (a, .dic es) ∈ M) (hk : es.map (·.1) = ks.map Sum.inl) (hl : ks.length < 64) (h : ∀ ys : List Int, ys.Perm ks → ys.Pairwise (· ≤ ·) → ∀ l, P (.v (.ref l)) ((l, .lst (ys.map .int)) :: M)) : RnD K B0 F ρ κ (fun xs H Q => ∃ (a : Addr) (kvs : List (Key × V)) (ks : List Int), xs = [.ref a] ∧ Rd H a (.dK kvs) ∧ kvs.map (·.1) = ks.map Sum.inl ∧ ks.length < 64 ∧
    ∀ (ys : List Int) (p : Addr), ys.Perm ks → ys.Pairwise (· ≤ ·) → H p = none → Q (.ref p) (upd H p (.lst (ys.map V.int)))) [.v (.ref a)] M P := fun σ vs H xs Q hl' g qq => by
  obtain ⟨x, rfl⟩ := one_arg hl' rfl
  have e := Good.ref g
  subst e
  obtain ⟨B, g⟩ := g
  obtain ⟨kvs, ho, he⟩ := dic_at g hm
  have ek : ∀ {kvs : List (Key × V)} {es : List (Key × PyData)}, EntsOk K B kvs es → kvs.map (·.1) = es.map (·.1) := by
    intro kvs es h
    induction h with
    | nil => rfl
    | cons h t ih => rw [List.map_cons, List.map_cons, ih, h.1]
  exact ⟨a, kvs, ks, rfl, .inl ho, (ek he).trans hk, hl, fun ys p h1 h2 hp => qq _ _ _ _ (cell_new g.pop hp RpA.of_ints) (h ys h1 h2 p)⟩
end
end DL
set_option maxHeartbeats 4000000
/-! sorted(set(xs)), xs a list or a tuple of ints -/
namespace DLS
open PySem PySem.Spec PyProof.Rows L2
variable {P : Program} {w : World} {A : Around} {E : Value → Shared → Prop} {s : Shared}
/-- the set just made -/
abbrev fresh0 (w : World) : Obj := { cls := .type "set", dict := none, data := .set #[] 0 (.fresh 0 0 (!w.params.followText "set-order")) }
theorem set_of_list {l : Addr} {items : Array Value} (ns : List Int) {Q : Value → Shared → Prop} (hh : A.handled = none) (hl : s.heap.IsList l items) (hit : IntsAre items.toList ns) (hb : ns.length + 1 < scanBound)
    (h : ∀ (h' : Heap) (tk c : Nat), SetR w h' s.heap.objs.size (fun j => decide (j ∈ ns)) c → c ≤ ns.length → (∀ b o, s.heap.get? b = some o → h'.get? b = some o) → Q (.ref s.heap.objs.size) { s with heap := h', toks := tk }) :
    wpAny (model P w) A (call (.type "set") [.ref l]) Q E s := by
  have len : items.size = ns.length := by rw [← Array.length_toList]; exact IntsAre.length hit
  obtain ⟨c, tl, hmro⟩ := F.called_set.mro
  have a1 := F.called_set.made
  have a2 := F.called_set.sub
  have a3 := F.called_set.notType
  have a4 := F.called_set.canCreate
  have a5 := F.typeCall_set_1 (.ref l)
  refine wpAny_call (codeAny_of_tree ?_)
  show wpAny _ _ (callAny (.type "set") _) _ _ _
  refine wpAny_pure ⟨Code.quiet_builtin _ (by decide +kernel), codeAny_builtin F.entry_type_call ?_⟩
  rw [Around.under_plain (weight_type_call_type "set" [.ref l] []) rfl]
  repeat (any_goals (first | assumption | wp_step))
  refine codeAny_mono (code_set_led1 (.ref l) (E := E) (Q₁ := fun ob s1 => ob = .ref s.heap.objs.size ∧ s1 = { s with heap := s.heap.push (fresh0 w) }) ⟨rfl, rfl⟩) fun r s1 hr => ?_
  match r, hr with
  | .error e, hr => exact hr
  | .ok .next, hr => exact hr.elim
  | .ok .brk, hr => exact hr.elim
  | .ok .cont, hr => exact hr.elim
  | .ok (.ret ob), hr =>
    obtain ⟨rfl, rfl⟩ := hr
    have hS : (s.heap.push (fresh0 w)).get? s.heap.objs.size = some (fresh0 w) := Heap.get?_push_size _ rfl
    have hT : Shared.TypeIs { s with heap := s.heap.push (fresh0 w) } (.ref s.heap.objs.size) "set" := ⟨_, hS, rfl⟩
    have b1 := F.called_set.init.lookup
    have b2 := F.called_set.init.bind (.ref s.heap.objs.size)
    repeat (any_goals (first | assumption | wp_step))
    refine codeAny_mono (codeAny_call_builtin (R := wants (fun r s2 => r = .none ∧ ∃ h' tk c, s2 = { s with heap := h', toks := tk } ∧ SetR w h' s.heap.objs.size (fun j => decide (j ∈ ns)) c ∧ c ≤ ns.length ∧
        (∀ b o, s.heap.get? b = some o → h'.get? b = some o)) E) F.called_set.init.plain F.entry_set_init (check_set_init_1 hT ?_)) fun r2 s2 hr2 => ?_
    · obtain ⟨⟨oc, od, ot, os⟩, hol, hcl, nl, hdl⟩ := hl
      simp only at hcl hdl
      subst hcl hdl
      have hol' : (s.heap.push (fresh0 w)).get? l = some { cls := .type "list", dict := od, data := .seq items nl, slots := os } := Heap.get?_push_of_some _ hol
      have c1 := F.sub_list_set
      have c2 := F.sub_list_frozenset
      have c3 : (Value.type "list" == Value.type "dict") = false := by decide
      have hl1 : (s.heap.push (fresh0 w)).IsList l items := ⟨_, hol', rfl, nl, rfl⟩
      unfold Builtin.«set.__init__» noKeywords Builtin.Frozenset.updateFrom
      generalize hPI : pyIter = PI
      wp_walk
      subst hPI
      refine wpAny_pyIter_list hl1 (wpAny_bind (wpAny_runValue ?_))
      have lt : l < s.heap.objs.size := Heap.lt_size hol
      have sz : (s.heap.push (fresh0 w)).objs.size = s.heap.objs.size + 1 := Heap.size_push ..
      have neI : l ≠ (s.heap.push (fresh0 w)).objs.size := by rw [sz]; exact Nat.ne_of_lt (Nat.lt_succ_of_lt lt)
      have out : s.heap.objs.size ∉ [(s.heap.push (fresh0 w)).objs.size, l] := by
        rw [sz]
        intro z
        rcases List.mem_cons.mp z with z | z
        · exact absurd z (Nat.ne_of_lt (Nat.lt_succ_self _))
        · exact absurd (List.mem_singleton.mp z) (Nat.ne_of_gt lt)
      have val : ∀ (i : Nat) (v : Value), items[i]? = some v → ∃ k t, ns[i]? = some k ∧ v = .int k t := fun i v hv => by
        have hi : i < ns.length := by rw [← len]; exact (Array.getElem?_eq_some_iff.mp hv).1
        obtain ⟨t, e⟩ := PyProof.Rows.IntsAre.int_at hit i v (by rw [Array.getElem?_toList]; exact hv)
        exact ⟨ns[i], t, List.getElem?_eq_getElem hi, by rw [e, List.getD_eq_getElem?_getD, List.getElem?_eq_getElem hi] <;> rfl⟩
      refine set_update_ints ((Walks.list (by simp [hh]) _ l neI items).toS) s.heap.objs.size out ns len hb val (items.size - 0) 0 _ (by omega) (Nat.zero_le _) ⟨⟨_, Heap.get?_push_size _ rfl, rfl, rfl⟩, (hl1.push _)⟩
        ⟨0, Nat.le_refl 0, setR_new_at (Heap.get?_push_of_some _ hS)⟩ fun s' c' hm hc' hS' => ?_
      obtain ⟨h', g2, d', tk', os'⟩ := s'
      obtain rfl : g2 = s.gens := hm.gens
      obtain rfl : d' = s.drawn := hm.drawn
      obtain rfl : os' = s.os := hm.os
      rw [len] at hc'
      show wpAny _ _ _ _ _ _
      refine wpAny_pure ?_
      show wpAny _ _ (ret Value.none) _ _ _
      refine wpAny_pure ⟨rfl, h', tk', c', rfl, hS', hc', fun b o e => hm.heap b o (fun z => ?_) (Heap.get?_push_of_some _ (Heap.get?_push_of_some _ e))⟩
      have hb0 : b < s.heap.objs.size := Heap.lt_size e
      rcases List.mem_cons.mp z with z | z
      · exact absurd z (Nat.ne_of_lt hb0)
      · rw [List.mem_singleton.mp z, sz] at hb0
        exact absurd hb0 (Nat.not_lt_of_le (Nat.le_succ _))
    · match r2, hr2 with
      | .error e, hr2 => exact hr2
      | .ok .next, hr2 => exact hr2.elim
      | .ok .brk, hr2 => exact hr2.elim
      | .ok .cont, hr2 => exact hr2.elim
      | .ok (.ret r), hr2 =>
        obtain ⟨rfl, h', tk, c', rfl, hS', hc', hk'⟩ := hr2
        repeat (any_goals (first | assumption | wp_step))
        exact h _ _ _ hS' hc' hk'
end DLS
namespace DL
open PySem PySem.Spec PyProof.Rows L2
section
variable {X : Cx} {K : Fg} {B0 F : Hp} {M : Cs} {ρ κ : List Sl} {P : Sl → Cs → Prop} {e : Expr} {pos p : Pos}
/-- set(xs) of ints -/
def rSetI (K : Fg) (w : World) : List V → Hp → VK → Prop := fun xs H Q => ∃ (a : Addr) (ns : List Int), xs = [.ref a] ∧ (SqL K H a (ns.map V.int) ∨ SqT K H a (ns.map V.int)) ∧ ns.length ≤ 1000 ∧ ∀ p n, H p = none → n ≤ ns.length → Q (.ref p) (upd H p (SetO w p (fun j => decide (j ∈ ns)) n))
theorem cr_setI (hc : X.calm = true) : CallR X (.type "set") (rSetI X.K X.w) := by
  intro pins s σ H xs us Q I r h
  obtain ⟨a, ns, rfl, hs, hn, q⟩ := h
  obtain rfl := Vals.ref1 r
  have hb : ns.length + 1 < scanBound := by unfold scanBound; omega
  have fin : ∀ (h' : Heap) (tk c : Nat), SetR X.w h' s.heap.objs.size (fun j => decide (j ∈ ns)) c → c ≤ ns.length → (∀ b o, s.heap.get? b = some o → h'.get? b = some o) → EP X pins σ Q (.ref s.heap.objs.size) { s with heap := h', toks := tk } := fun h' tk c hS hc' hk =>
    ⟨.ref _, _, I.laid (t' := tk) hk (Nat.le_refl _) (setO_new hS), rfl, q _ c (I.hok.fresh (Nat.le_refl _)) hc'⟩
  rcases hs with hs | hs
  · obtain ⟨its, rv, pl, hz⟩ := I.list hs
    exact DLS.set_of_list ns (I.ok.hd hc) pl.isList (by simpa using rv.ints) hb fin
  · obtain ⟨its, rv, pl, hz⟩ := I.tuple hs
    exact call_set_tupI ns (I.ok.hd hc) pl (by simpa using rv.ints) hb fin
/-- set(xs): a cell -/
theorem rn_setI {s : Sl} {ns : List Int} {w : World} (q : Seq M s (ns.map PyData.int)) (hn : ns.length ≤ 1000) (h : ∀ p n, n ≤ ns.length → P (.v (.ref p)) ((p, .raw (SetO w p (fun j => decide (j ∈ ns)) n)) :: M)) : RnD K B0 F ρ κ (rSetI K w) [s] M P := fun σ vs H xs Q hl g qq => by
  obtain ⟨x, rfl⟩ := one_arg hl rfl
  obtain ⟨B, g⟩ := g
  obtain ⟨a, ys, rfl, h1, h2⟩ := q.at g g.fst
  have e := h2.ints
  subst e
  exact ⟨a, ns, rfl, h1, hn, fun p n hp hn' => qq _ _ _ _ ⟨B, (g.pop.cell (c := .raw (SetO w p (fun j => decide (j ∈ ns)) n)) hp rfl).pushV⟩ (h p n hn')⟩
/-- sorted(a set of ints) -/
theorem rn_sortedSet {w : World} {a : Addr} {S : Int → Bool} {n : Nat} (hm : (a, .raw (SetO w a S n)) ∈ M) (hn : n < 64) (h : ∀ ns : List Int, ns.Pairwise (· < ·) → (∀ k : Int, k ∈ ns ↔ S k = true) → ∀ l, P (.v (.ref l)) ((l, .lst (ns.map .int)) :: M)) : RnD K B0 F ρ κ (rSortedSet w) [.v (.ref a)] M P := fun σ vs H xs Q hl g qq => by
  obtain ⟨x, rfl⟩ := one_arg hl rfl
  have e := Good.ref g
  subst e
  obtain ⟨B, g⟩ := g
  exact ⟨a, S, n, rfl, raw_at g hm, hn, fun ns p h1 h2 _ hp => qq _ _ _ _ (cell_new g.pop hp RpA.of_ints) (h ns h1 h2 p)⟩
end
end DL
set_option maxHeartbeats 4000000
namespace DL
open PySem PySem.Spec PyProof.Rows L2
abbrev FnP (K : PySem.W.Frag) (x : Str) (st : Stmt) (f : Addr) (fd : FuncData) : Prop := FunD K x x (defArgs st) (defBody st) (defScope st) [] [] f fd
/-- a def that keeps a promise, known by its name -/
abbrev Go (P : Program) (w : World) (K : Fg) (mg : Str → Option Value) (base : Heap) (x : Str) (lv : Nat) (ps : List Str) (R : List Sl → Cs → (Sl → Cs → Prop) → Prop) : Prop :=
  ∃ f fd, mg x = some (.ref f) ∧ PySem.W.keepIn K (.ref f) = true ∧ Binds K fd ps [] ∧ FnOk P w K mg base CX0 lv f fd ps (SpG K R)
/-- a pure promise -/
def Pu {α : Type} (A : α → List Sl) (C : α → Prop) (f : α → PyData) : List Sl → Cs → (Sl → Cs → Prop) → Prop := fun κ _ W => ∃ a, κ = A a ∧ C a ∧ ∀ M', W (.d (f a)) M'
theorem Views.refl {M : Cs} : ∀ rs : List Sl, Views M rs rs
  | [] => .nil
  | _ :: rs => .same (Views.refl rs)
section
variable {X : Cx} {B0 F : Hp} {M : Cs} {ρ κ : List Sl} {P : Sl → Cs → Prop} {e : Expr} {es : List Expr} {p pos : Pos} {x : Str} {lv : Nat} {ps : List Str}
theorem de_go {R : List Sl → Cs → (Sl → Cs → Prop) → Prop} (G : Go X.prog X.w X.K X.mg X.base x lv ps R) (hr : Room lv X.A)
    (h : DA X B0 F M ρ κ (e :: es) fun rs M1 => ∃ κ', Views M1 rs κ' ∧ R κ' [] fun r _ => ∃ y, r = .d y ∧ P (.d y) M1) (hg : Gl X x := by rfl) (hdb : (x == ("__debug__" : Str)) = false := by decide)
    (he : starEach (e :: es) X.env = (false, eval e X.env) :: starEach es X.env := by rfl) (hpl : (backTo pos (starEach es X.env)).any (·.1) = false := by rfl) : DE X B0 F M ρ κ (.Call (.Name x p) (e :: es) [] pos) P := by
  obtain ⟨f, fd, hm, hk, hb, Fo⟩ := G
  exact de_call Fo hr hm hk hb h hg hdb he hpl
/-- a pure def called, no cell among the arguments -/
theorem de_pu {α : Type} {A : α → List Sl} {C : α → Prop} {f : α → PyData} (G : Go X.prog X.w X.K X.mg X.base x lv ps (Pu A C f)) (hr : Room lv X.A)
    (h : DA X B0 F M ρ κ (e :: es) fun rs M1 => ∃ a, rs = A a ∧ C a ∧ P (.d (f a)) M1) (hg : Gl X x := by rfl) (hdb : (x == ("__debug__" : Str)) = false := by decide)
    (he : starEach (e :: es) X.env = (false, eval e X.env) :: starEach es X.env := by rfl) (hpl : (backTo pos (starEach es X.env)).any (·.1) = false := by rfl) : DE X B0 F M ρ κ (.Call (.Name x p) (e :: es) [] pos) P := by
  refine de_go G hr (fun σ vs H Q g q => h σ vs H Q g fun ws H' rs M' hl g' hp => q ws H' rs M' hl g' ?_) hg hdb he hpl
  obtain ⟨a, rfl, hc, hp⟩ := hp
  exact ⟨_, Views.refl _, a, rfl, hc, fun _ => ⟨_, rfl, hp⟩⟩
theorem da_pu {α : Type} {A : α → List Sl} {C : α → Prop} {Pf : α → Prop} {rs : List Sl} (a : α) (h : rs = A a) (hc : C a) (hp : Pf a) : ∃ a, rs = A a ∧ C a ∧ Pf a := ⟨a, h, hc, hp⟩
theorem go_of {P : Program} {w : World} {K : Fg} {mg : Str → Option Value} {base : Heap} {st : Stmt} {f : Addr} {fd : FuncData} {ps : List Str} {lv : Nat} {R : List Sl → Cs → (Sl → Cs → Prop) → Prop} (Fn : FnP K x st f fd) (gm : mg x = some (.ref f))
    (hb : ∀ (kV doc pm : Value) (an : Option Addr) (cdv ct : Value) (us : List Value), us.length = ps.length → bindArgs (PySem.W.fnOf x x (defArgs st) (defBody st) (defScope st) .none kV doc pm an cdv ct) ⟨us, []⟩ = pure (ps.zip us)) (ok : FnOk P w K mg base CX0 lv f fd ps (SpG K R)) : Go P w K mg base x lv ps R :=
  ⟨f, fd, gm, Fn.kp, Fn.bindsN hb, ok⟩
end

/-! ### built-ins by name -/
section
variable {X : Cx} {B0 F : Hp} {M : Cs} {ρ κ : List Sl} {P : Sl → Cs → Prop} {e e2 : Expr} {p pos : Pos}
theorem bt_tuple : bootBuiltins "tuple" = some (.type "tuple") := by decide +kernel
theorem bt_list : bootBuiltins "list" = some (.type "list") := by decide +kernel
theorem bt_sum : bootBuiltins "sum" = some (.builtin "sum") := by decide +kernel
theorem bt_all : bootBuiltins "all" = some (.builtin "all") := by decide +kernel
theorem bt_any : bootBuiltins "any" = some (.builtin "any") := by decide +kernel
theorem bt_sorted : bootBuiltins "sorted" = some (.builtin "sorted") := by decide +kernel
theorem bt_int : bootBuiltins "int" = some (.type "int") := by decide +kernel
theorem bt_min : bootBuiltins "min" = some (.builtin "min") := by decide +kernel
theorem bt_max : bootBuiltins "max" = some (.builtin "max") := by decide +kernel
theorem bt_isi : bootBuiltins "isinstance" = some (.builtin "isinstance") := by decide +kernel
theorem bt_set : bootBuiltins "set" = some (.type "set") := by decide +kernel
theorem bt_dict : bootBuiltins "dict" = some (.type "dict") := by decide +kernel
theorem de_len (gm : X.mg "len" = none) (h : DE X B0 F M ρ κ e fun r M1 => ∃ ds, Seq M1 r ds ∧ P (.d (.int ds.length)) M1) (hg : Gl X "len" := by rfl) (hs : starEach [e] X.env = (false, eval e X.env) :: starEach [] X.env := by rfl) : DE X B0 F M ρ κ (.Call (.Name "len" p) [e] [] pos) P :=
  de_callB call_len_seq gm boot_len (da_cons (fun σ vs H Q g q => h σ vs H Q g fun v H' r M' g' ⟨ds, hq, hp⟩ => q v H' r M' g' (da_nil (rn_len hq hp))) hs) hg (he := hs)
theorem de_tupleOf (gm : X.mg "tuple" = none) (h : DE X B0 F M ρ κ e fun r M1 => ∃ ds, Seq M1 r ds ∧ P (.d (.tuple ds)) M1) (hg : Gl X "tuple" := by rfl) (hs : starEach [e] X.env = (false, eval e X.env) :: starEach [] X.env := by rfl) : DE X B0 F M ρ κ (.Call (.Name "tuple" p) [e] [] pos) P :=
  de_callTy call_tuple_of gm bt_tuple (da_cons (fun σ vs H Q g q => h σ vs H Q g fun v H' r M' g' ⟨ds, hq, hp⟩ => q v H' r M' g' (da_nil (rn_tuple hq hp))) hs) hg (he := hs)
theorem de_listOf (gm : X.mg "list" = none) (h : DE X B0 F M ρ κ e fun r M1 => ∃ ds, Seq M1 r ds ∧ ∀ l, P (.v (.ref l)) ((l, .lst ds) :: M1)) (hg : Gl X "list" := by rfl) (hs : starEach [e] X.env = (false, eval e X.env) :: starEach [] X.env := by rfl) : DE X B0 F M ρ κ (.Call (.Name "list" p) [e] [] pos) P :=
  de_callTy call_list_of gm bt_list (da_cons (fun σ vs H Q g q => h σ vs H Q g fun v H' r M' g' ⟨ds, hq, hp⟩ => q v H' r M' g' (da_nil (rn_listC hq hp))) hs) hg (he := hs)
theorem de_sum (gm : X.mg "sum" = none) (h : DE X B0 F M ρ κ e fun r M1 => ∃ ns : List Int, SeqLs M1 r (ns.map PyData.int) ∧ P (.d (.int ns.sum)) M1) (hc : X.calm = true := by rfl) (hg : Gl X "sum" := by rfl) (hs : starEach [e] X.env = (false, eval e X.env) :: starEach [] X.env := by rfl) : DE X B0 F M ρ κ (.Call (.Name "sum" p) [e] [] pos) P :=
  de_callB (cr_sum hc) gm bt_sum (da_cons (fun σ vs H Q g q => h σ vs H Q g fun v H' r M' g' ⟨ds, hq, hp⟩ => q v H' r M' g' (da_nil (rn_sum hq hp))) hs) hg (he := hs)
theorem de_all (gm : X.mg "all" = none) (h : DE X B0 F M ρ κ e fun r M1 => ∃ ns : List Bool, SeqLs M1 r (ns.map PyData.bool) ∧ P (.d (.bool (ns.all id))) M1) (hc : X.calm = true := by rfl) (hg : Gl X "all" := by rfl) (hs : starEach [e] X.env = (false, eval e X.env) :: starEach [] X.env := by rfl) : DE X B0 F M ρ κ (.Call (.Name "all" p) [e] [] pos) P :=
  de_callB (cr_all hc) gm bt_all (da_cons (fun σ vs H Q g q => h σ vs H Q g fun v H' r M' g' ⟨ds, hq, hp⟩ => q v H' r M' g' (da_nil (rn_all hq hp))) hs) hg (he := hs)
theorem de_any (gm : X.mg "any" = none) (h : DE X B0 F M ρ κ e fun r M1 => ∃ ns : List Bool, SeqLs M1 r (ns.map PyData.bool) ∧ P (.d (.bool (ns.any id))) M1) (hc : X.calm = true := by rfl) (hg : Gl X "any" := by rfl) (hs : starEach [e] X.env = (false, eval e X.env) :: starEach [] X.env := by rfl) : DE X B0 F M ρ κ (.Call (.Name "any" p) [e] [] pos) P :=
  de_callB (cr_any hc) gm bt_any (da_cons (fun σ vs H Q g q => h σ vs H Q g fun v H' r M' g' ⟨ds, hq, hp⟩ => q v H' r M' g' (da_nil (rn_any hq hp))) hs) hg (he := hs)
theorem de_int1 (gm : X.mg "int" = none) (h : DE X B0 F M ρ κ e fun r M1 => ∃ i, r = .d (.int i) ∧ P (.d (.int i)) M1) (hg : Gl X "int" := by rfl) (hs : starEach [e] X.env = (false, eval e X.env) :: starEach [] X.env := by rfl) : DE X B0 F M ρ κ (.Call (.Name "int" p) [e] [] pos) P :=
  de_callTy call_int1 gm bt_int (da_cons (fun σ vs H Q g q => h σ vs H Q g fun v H' r M' g' ⟨i, hq, hp⟩ => q v H' r M' g' (hq ▸ da_nil (rn_int hp))) hs) hg (he := hs)
theorem de_sorted (hu : X.A.units + 64 < cLine) (gm : X.mg "sorted" = none) (h : DE X B0 F M ρ κ e fun r M1 => ∃ ds, SeqLs M1 r ds ∧ PySem.W.AllAlike ds ∧ PySem.W.Sortable ds ∧ ds.length ≤ 100000 ∧ (∀ d ∈ ds, d.depth ≤ 50) ∧ ∀ l, P (.v (.ref l)) ((l, .lst (sortD ds)) :: M1)) (hg : Gl X "sorted" := by rfl) (hs : starEach [e] X.env = (false, eval e X.env) :: starEach [] X.env := by rfl) : DE X B0 F M ρ κ (.Call (.Name "sorted" p) [e] [] pos) P :=
  de_callB (cr_sortedD hu) gm bt_sorted (da_cons (fun σ vs H Q g q => h σ vs H Q g fun v H' r M' g' ⟨ds, hq, h1, h2, h3, h4, hp⟩ => q v H' r M' g' (da_nil (rn_sortedC hq h1 h2 h3 h4 hp))) hs) hg (he := hs)
end

theorem z0 {α : Type} : ([] : List α).length ≤ 100000 := (by decide : 0 ≤ 100000)
theorem z1 {α : Type} {a : α} : [a].length ≤ 100000 := (by decide : 1 ≤ 100000)
theorem z2 {α : Type} {a b : α} : [a, b].length ≤ 100000 := (by decide : 2 ≤ 100000)
theorem z3 {α : Type} {a b c : α} : [a, b, c].length ≤ 100000 := (by decide : 3 ≤ 100000)
/-! ### numbers without a sign -/
theorem xor_nat (a b : Nat) : Builtin.bitXor (a : Int) (b : Int) = ((a ^^^ b : Nat) : Int) := Bits.bitXor_pp (Int.natCast_nonneg a) (Int.natCast_nonneg b)
end DL
set_option maxHeartbeats 4000000
/-! ### the Hook with one thing more, tables of texts -/
namespace DLHook
open PySem PySem.Spec PyProof.Rows L2 He
abbrev AlX : Type := AlD × Bool
def obsX (n : Nat) (fa : List Fa) (fn : List DefD) (ex : PySem.W.Frag → Bool) (g : Addr → Option Obj) : AlX := (obsDG n fa fn g, ex (frG g (asD g n)))
def hookX (n : Nat) (fa : List Fa) (fn : List DefD) (ex : PySem.W.Frag → Bool) : PySem.W.Hook where
  α := AlX
  obs := fun s => obsX n fa fn ex s.heap.get?
  val := fun _ => (valD fn, true)
  says := fun _ h => ∃ K : PySem.W.Frag, K.In h ∧ SaysD fa fn K ∧ ex K = true
  of := fun _ _ e => ⟨_, frG_in, congrArg (fun z : AlX => z.1) e, congrArg (fun z : AlX => z.2) e⟩
  keeps := fun _ _ _ ⟨K, hK, c⟩ k => ⟨K, PySem.W.Frag.In.keeps hK k, c⟩
theorem obsX_eq {n : Nat} {fa : List Fa} {fn : List DefD} {ex : PySem.W.Frag → Bool} {g : Addr → Option Obj} {s : Shared} (h : ∀ a, g a = s.heap.get? a) : obsX n fa fn ex g = (hookX n fa fn ex).obs s := by
  have e : g = s.heap.get? := funext h
  rw [e] <;> rfl
/-- the module's name x is a tuple of these texts -/
def tupN (K : PySem.W.Frag) (x : Str) (vs : List Str) : Bool := (match K.lookup (ga K x) with
  | some ⟨.type c, none, _, _⟩ => decide (c = "tuple")
  | _ => false) && tupB K x (vs.map Dv.str)
end DLHook
namespace DL
open PySem PySem.Spec PyProof.Rows L2
structure TupS (K : Fg) (a : Addr) (ys : List Str) : Prop where
  ty : ∃ o, K.lookup a = some o ∧ o.cls = .type "tuple" ∧ o.dict = none
  sq : ∀ H, SqT K H a (ys.map V.str)
theorem tupN_ok {K : Fg} {x : Str} {vs : List Str} (h : DLHook.tupN K x vs = true) : TupS K (He.ga K x) vs := by
  obtain ⟨h1, h2⟩ := He.ba h
  refine ⟨?_, fun H => ?_⟩
  · cases q : K.lookup (He.ga K x) with
    | none => rw [q] at h1; cases h1
    | some o =>
      obtain ⟨oc, od, dt, osl⟩ := o
      rw [q] at h1
      cases oc with
      | type c =>
        cases od with
        | none => exact ⟨_, rfl, congrArg Value.type (of_decide_eq_true h1), rfl⟩
        | some a => cases h1
      | _ => cases od <;> cases h1
  · have e := He.tupB_ok h2 H
    rw [List.map_map] at e
    exact e
section
variable {X : Cx} {B0 F : Hp} {M : Cs} {ρ κ : List Sl} {P : Sl → Cs → Prop} {e o : Expr} {apos cpos : Pos}
theorem de_globR {x : Str} {a : Addr} {pos : Pos} (hm : X.mg x = some (.ref a)) (h : P (.v (.ref a)) M) (hg : Gl X x := by rfl) (hdb : (x == ("__debug__" : Str)) = false := by decide) : DE X B0 F M ρ κ (.Name x pos) P :=
  fun σ vs H Q g q => tOf_of (pe_glob hg hm (show RelV (.ref a) (.ref a) from rfl) hdb) (q (.ref a) H _ M g.pushV h)
/-- T.index(z), T a table of texts -/
theorem de_idxTupS (h : DE X B0 F M ρ κ o fun r1 M1 => ∃ a ys, r1 = .v (.ref a) ∧ TupS X.K a ys ∧ DE X B0 F M1 ρ (r1 :: κ) e fun r2 M2 => ∃ (z : Str) (j : Nat), r2 = .d (.str z) ∧ ys[j]? = some z ∧ (∀ m, m < j → ys[m]? ≠ some z) ∧ P (.d (.int (j : Nat))) M2)
    (hbase : attributeBase o "index" X.env (eval o X.env) = eval o X.env := by rfl)
    (hfew : ((backTo cpos (starEach (e :: []) X.env)).all (fun x => !x.1) && (backToKw cpos (keywordEach [] X.env)).all (fun x => x.1.isSome)
      && decide ((e :: ([] : List Expr)).length + ([] : List Keyword).length + (if ([] : List Keyword).isEmpty then 0 else 1) < 30)) = true := by rfl)
    (hline : (apos.endLine == cpos.line) = true := by rfl) (hs : starEach (e :: []) X.env = (false, eval e X.env) :: starEach [] X.env := by rfl) (hplain : (backTo cpos (starEach [] X.env)).any (·.1) = false := by rfl) :
    DE X B0 F M ρ κ (.Call (.Attribute o "index" apos) [e] [] cpos) P := fun σ vs H Q g q => by
  refine tOf_of (pe_bm PySem.F.plainAttrs_tuple PySem.F.slot_tuple_index PySem.F.type_tuple_index (X := X) mt_tup_index pe_self (pa_cons pe_self pa_nil hs) hbase hfew hline hs hplain) ?_
  refine h σ vs H _ g fun x H1 r1 M1 g1 h1 => ?_
  obtain ⟨a, ys, rfl, ht, h1⟩ := h1
  have e := g1.ref
  subst e
  refine ⟨.inr (.inl ⟨rfl, ht.ty⟩), h1 σ (.ref a :: vs) H1 _ g1 fun y H2 r2 M2 g2 h2 => ?_⟩
  obtain ⟨z, j, rfl, hj, hm, hp⟩ := h2
  have e := g2.str
  subst e
  obtain ⟨B, g2⟩ := g2
  exact ⟨a, ys, z, j, rfl, rfl, ht.sq H2, hj, hm, q _ H2 _ _ ⟨B, g2.pop.pop.pushD (.int _)⟩ hp⟩
end
section
variable {X : Cx} {B0 F : Hp} {M : Cs} {ρ κ : List Sl} {pos pt pt2 : Pos} {k : KK} {ts es : List Expr} {kt k2 : Nat}
/-- x, .. = e, ..: where the model makes the tuple -/
theorem ds_parT (n : Nat) (h : DA X B0 F M ρ κ es fun rs M1 => rs.length = n ∧ DGs X B0 F M1 ρ κ rs ts fun M2 ρ2 => k.nx M2 ρ2) (hz : n ≤ 100 := by decide) (hc : X.calm = true := by rfl)
    (hn' : (assignEach ts X.env).length = n := by rfl) (hst : (assignEach ts X.env).findIdx? (·.1) = none := by rfl)
    (hs : swapsWithSole [.Tuple ts kt pt] (.Tuple es k2 pt2) pos.line X.env = pure false := by rfl) (hw : swappedStores [.Tuple ts kt pt] (.Tuple es k2 pt2) X.env = pure none := by rfl)
    (h1 : (assignEach [.Tuple ts kt pt] X.env).map (·.2) = [assign (.Tuple ts kt pt) X.env] := by rfl) : DS X B0 F M ρ κ (.Assign [.Tuple ts kt pt] (.Tuple es k2 pt2) pos) k :=
  fun σ vs H D g c => tOfS_of (ps_asg (pe_tup pa_self) (pg_tup (n := n) hc pgs_self hn' hst) hs hw h1) (h σ vs H _ g fun ws H1 rs M1 hl g1 h1 => by
    obtain ⟨hr, hd⟩ := h1
    have hb : n ≤ sizeLine := Nat.le_trans hz (by decide)
    refine ⟨by rw [hl, hr]; exact hb, fun a ha => ?_⟩
    obtain ⟨B, g1⟩ := g1
    exact ⟨a, ws, rfl, SqT.of upd_same, by rw [hl, hr], hd σ vs _ ws _ hl ⟨_, g1.laid (o := .tup ws) ha⟩ fun σ' H' M' ρ' g' n' => c.nx σ' H' M' ρ' g' n'⟩)
end
end DL
set_option maxHeartbeats 0
namespace H92
open PySem PySem.Spec PyProof.Rows
def top (i : Nat) : Stmt := PySem.Challenge.pw_cantmove_k92_whole_heads_heaps_and_stalk.main.body.getD i (.Pass ⟨0, 0, 0, 0⟩)
abbrev s_ones : Stmt := top 2
abbrev s_coin_value : Stmt := top 3
abbrev s_coin_values : Stmt := top 4
abbrev s_heads_value : Stmt := top 5
abbrev s_may_turn : Stmt := top 6
abbrev s_moves_with : Stmt := top 7
abbrev s_coin_moves : Stmt := top 8
abbrev s_hanging : Stmt := top 10
abbrev s_cut : Stmt := top 11
abbrev s_is_bridge : Stmt := top 12
abbrev s_groups_of : Stmt := top 13
abbrev s_fused : Stmt := top 14
abbrev s_tree_value : Stmt := top 15
abbrev s_bush_value : Stmt := top 16
abbrev s_winning_cuts : Stmt := top 17
abbrev s_without_carry : Stmt := top 19
abbrev s_nim_moves : Stmt := top 20
abbrev s__law_box : Stmt := top 22
abbrev s__law_load : Stmt := top 23
abbrev s__law_draw : Stmt := top 24
abbrev s__law_same : Stmt := top 25
abbrev s__law_xor : Stmt := top 26
abbrev s__law_moves : Stmt := top 27
abbrev s__law_stalks : Stmt := top 28
abbrev s_law : Stmt := top 29
end H92
set_option maxHeartbeats 4000000
namespace H92
open PySem PySem.Spec PyProof.Rows L2 DL
abbrev iL (ns : List Int) : List PyData := ns.map PyData.int
def xorI (ns : List Int) : Int := ns.foldl Builtin.bitXor 0
theorem xorI_take {ns : List Int} {i : Nat} {z : Int} (h : ns[i]? = some z) : xorI (ns.take (i + 1)) = Builtin.bitXor (xorI (ns.take i)) z := by
  unfold xorI
  rw [List.take_add_one, h, List.foldl_append]
  rfl
section
variable {P : Program} {w : World} {K : PySem.W.Frag} {mg : Str → Option Value} {base : Heap} {f : Addr} {fd : FuncData}
theorem sc_wc : FnScope ["numbers", "total", "number"] ["numbers"] (defScope s_without_carry) := ⟨rfl, rfl, rfl, by decide +kernel, rfl, by decide +kernel, by decide +kernel⟩
abbrev R_wc := Pu (fun ns : List Int => [.d (.tuple (iL ns))]) (fun _ => True) (fun ns => .int (xorI ns))
theorem ok_wc {k : Nat} (Fn : FnP K "without_carry" s_without_carry f fd) : FnOk P w K mg base CX0 (k + 1) f fd ["numbers"] (SpG K R_wc) := by
  refine fn_okD Fn sc_wc (fun κ M W h => ?_) fun cdv A outer s H E hr nd B0 F0 κ M W hR => ?_
  · obtain ⟨ns, rfl, _⟩ := h
    rfl
  · obtain ⟨ns, rfl, -, hW⟩ := hR
    refine db_cons (ds_set 1 (de_int ?_))
    refine db_cons (ds_for (di_tup (nm 0 rfl ?_)))
    refine ⟨_, rfl, fun i M' ρ' => ∃ s2, M' = M ∧ ρ' = [.d (.tuple (iL ns)), .d (.int (xorI (ns.take i))), s2], ⟨_, rfl, rfl⟩, fun _ _ _ _ => trivial, ?_, ?_⟩
    · rintro i d M' ρ' hd ⟨s2, rfl, rfl⟩
      refine dg_name 2 ?_
      obtain ⟨z, hz, rfl⟩ := map_get hd
      refine db_cons (ds_aug 1 iop_xor rfl (by intro h; cases h) (nm 2 rfl (r2_i ?_)))
      refine db_nil ⟨.d (.int z), rfl, ?_⟩
      rw [xorI_take hz]
      rfl
    · rintro M' ρ' ⟨s2, rfl, rfl⟩
      rw [List.length_map, List.take_length]
      exact db_cons (ds_ret (nm 1 rfl (hW _)))
theorem sc_xor : FnScope ["numbers", "found", "number"] ["numbers"] (defScope s__law_xor) := ⟨rfl, rfl, rfl, by decide +kernel, rfl, by decide +kernel, by decide +kernel⟩
/-- a row: a tuple or a list -/
abbrev rowD (b : Bool) (ds : List PyData) : PyData := if b then .tuple ds else .list ds
abbrev R_lxor := Pu (fun a : Bool × List Int => [.d (rowD a.1 (iL a.2))]) (fun _ => True) (fun a => .int (xorI a.2))
theorem di_row {X : Cx} {B0 F : Hp} {M : Cs} {ρ κ : List Sl} {tg iter : Expr} {R : List PyData → Sl → (Cs → Prop) → Cs → Prop} (b : Bool) {ds : List PyData} (h : DE X B0 F M ρ κ iter fun r M1 => r = .d (rowD b ds) ∧ R ds r (fun _ => True) M1) : DI X B0 F M ρ κ tg iter R := by
  cases b
  · exact di_list fun σ vs H Q g q => h σ vs H Q g fun v H' r M' g' hp => q v H' r M' g' ⟨ds, hp⟩
  · exact di_tup fun σ vs H Q g q => h σ vs H Q g fun v H' r M' g' hp => q v H' r M' g' ⟨ds, hp⟩
theorem seq_row {M : Cs} (b : Bool) {ds : List PyData} : Seq M (.d (rowD b ds)) ds := by cases b <;> constructor
theorem ok_lxor {k : Nat} (Fn : FnP K "_law_xor" s__law_xor f fd) : FnOk P w K mg base CX0 (k + 1) f fd ["numbers"] (SpG K R_lxor) := by
  refine fn_okD Fn sc_xor (fun κ M W h => ?_) fun cdv A outer s H E hr nd B0 F0 κ M W hR => ?_
  · obtain ⟨ns, rfl, _⟩ := h
    rfl
  · obtain ⟨⟨b, ns⟩, hκ, -, hW⟩ := hR
    have hκ : κ = [.d (rowD b (iL ns))] := hκ
    subst hκ
    refine db_cons (ds_set 1 (de_int ?_))
    refine db_cons (ds_for (di_row b (ds := iL ns) (nm 0 rfl ?_)))
    refine ⟨rfl, fun i M' ρ' => ∃ s2, M' = M ∧ ρ' = [.d (rowD b (iL ns)), .d (.int (xorI (ns.take i))), s2], ⟨_, rfl, rfl⟩, fun _ _ _ _ => trivial, ?_, ?_⟩
    · rintro i d M' ρ' hd ⟨s2, rfl, rfl⟩
      refine dg_name 2 ?_
      obtain ⟨z, hz, rfl⟩ := map_get hd
      refine db_cons (ds_set 1 (de_op op_xor (nm 1 rfl (nm 2 rfl (r2_i ?_)))))
      refine db_nil ⟨.d (.int z), rfl, ?_⟩
      rw [xorI_take hz]
      rfl
    · rintro M' ρ' ⟨s2, rfl, rfl⟩
      rw [List.length_map, List.take_length]
      exact db_cons (ds_ret (nm 1 rfl (hW _)))

/-! ### winning moves: law and program -/
def movL (t : Int) : Nat → List Int → List PyData
  | _, [] => []
  | i, z :: zs => (if Builtin.bitXor z t < z then [.tuple [.int (i : Nat), .int (Builtin.bitXor z t)]] else []) ++ movL t (i + 1) zs
def movs (ns : List Int) : List PyData := movL (xorI ns) 0 ns
theorem movL_app (t : Int) : ∀ (i : Nat) (xs ys : List Int), movL t i (xs ++ ys) = movL t i xs ++ movL t (i + xs.length) ys
  | i, [], ys => by simp [movL]
  | i, x :: xs, ys => by
    rw [List.cons_append, movL, movL, movL_app t (i + 1) xs ys, List.append_assoc, List.length_cons, Nat.add_right_comm, Nat.add_assoc]
theorem movL_take {t : Int} {ns : List Int} {i : Nat} {z : Int} (h : ns[i]? = some z) : movL t 0 (ns.take (i + 1)) = movL t 0 (ns.take i) ++ (if Builtin.bitXor z t < z then [.tuple [.int (i : Nat), .int (Builtin.bitXor z t)]] else []) := by
  have hl : (ns.take i).length = i := by
    rw [List.length_take]
    have := (List.getElem?_eq_some_iff.mp h).1
    omega
  rw [List.take_add_one, h, movL_app, hl, Nat.zero_add]
  show _ ++ movL t i [z] = _
  rw [movL, movL, List.append_nil]
theorem movL_len (t : Int) : ∀ (i : Nat) (xs : List Int), (movL t i xs).length ≤ xs.length
  | _, [] => Nat.le_refl _
  | i, x :: xs => by
    rw [movL, List.length_append, List.length_cons]
    have := movL_len t (i + 1) xs
    split <;> simp <;> omega
theorem movs_all (ns : List Int) : movL (xorI ns) 0 (ns.take ns.length) = movs ns := by rw [List.take_length]; rfl
theorem sc_lm : FnScope ["heaps_there", "total", "found", "i"] ["heaps_there"] (defScope s__law_moves) := ⟨rfl, rfl, rfl, by decide +kernel, rfl, by decide +kernel, by decide +kernel⟩
abbrev R_lm := Pu (fun a : Bool × List Int => [.d (rowD a.1 (iL a.2))]) (fun a => a.2.length ≤ 1000) (fun a => .list (movs a.2))
theorem sc_nm : FnScope ["heaps", "total", "found", "i", "size"] ["heaps"] (defScope s_nim_moves) := ⟨rfl, rfl, rfl, by decide +kernel, rfl, by decide +kernel, by decide +kernel⟩
abbrev R_nm := Pu (fun ns : List Int => [.d (.tuple (iL ns))]) (fun ns => ns.length ≤ 1000) (fun ns => .tuple (movs ns))
theorem ok_nm {k : Nat} (Fn : FnP K "nim_moves" s_nim_moves f fd) (G : Go P w K mg base "without_carry" k ["numbers"] R_wc) (g_en : mg "enumerate" = none) (g_tu : mg "tuple" = none) : FnOk P w K mg base CX0 (k + 1) f fd ["heaps"] (SpG K R_nm) := by
  refine fn_okD Fn sc_nm (fun κ M W h => ?_) fun cdv A outer s H E hr nd B0 F0 κ M W hR => ?_
  · obtain ⟨ns, rfl, _⟩ := h
    rfl
  · obtain ⟨ns, rfl, hn, hW⟩ := hR
    refine db_cons (ds_set 1 (de_pu G hr (da_cons (nm 0 rfl (da_nil (da_pu ns rfl trivial ?_))))))
    refine db_cons (ds_set 2 (de_lstC (da_nil ⟨[], rfl, by decide, fun p => ?_⟩)))
    refine db_cons (ds_for (di_enumT g_en (nm 0 rfl ?_)))
    refine ⟨_, rfl, fun i M' ρ' => ∃ s3 s4, M' = (p, .lst (movL (xorI ns) 0 (ns.take i))) :: M ∧ ρ' = [.d (.tuple (iL ns)), .d (.int (xorI ns)), .v (.ref p), s3, s4], ⟨_, _, rfl, rfl⟩, fun _ _ _ _ => trivial, ?_, ?_⟩
    · rintro i d M' ρ' hd ⟨s3, s4, rfl, rfl⟩
      obtain ⟨z', hz', rfl⟩ := enumD_get hd
      obtain ⟨z, hz, rfl⟩ := map_get hz'
      refine dg_tup rfl (dgs_cons (dg_name 3 (dgs_cons (dg_name 4 (dgs_nil ?_)))))
      refine db_cons (ds_if (dt_cmp op_lt (de_op op_xor (nm 4 rfl (nm 1 rfl (r2_i (nm 4 rfl (r2_t ?_))))))))
      refine waysD (fun c => ?_) (fun c => ?_)
      · refine db_cons <| ds_expr <| de_append 0 <| nm 2 rfl ⟨p, _, rfl, List.mem_cons_self, de_tup <| da_cons <| nm 3 rfl <| da_cons <| de_op op_xor <| nm 4 rfl <| nm 1 rfl <| r2_i <| da_nil ⟨[_, _], rfl, z2, _, _, rfl, rfl, ?_, ?_⟩⟩
        · refine Nat.lt_of_le_of_lt (movL_len _ _ _) ?_
          rw [List.length_take]
          have : ns.length ≤ 1000 := hn
          omega
        · refine db_nil (db_nil ⟨_, _, ?_, rfl⟩)
          rw [movL_take hz, if_pos c]
          rfl
      · refine db_nil (db_nil ⟨_, _, ?_, rfl⟩)
        rw [movL_take hz, if_neg c, List.append_nil]
    · rintro M' ρ' ⟨s3, s4, rfl, rfl⟩
      rw [enumD_len, List.length_map, movs_all]
      refine db_cons (ds_ret (de_tupleOf g_tu (nm 2 rfl ⟨_, .cell List.mem_cons_self, hW _⟩)))
theorem ok_lm {k : Nat} (Fn : FnP K "_law_moves" s__law_moves f fd) (G : Go P w K mg base "_law_xor" k ["numbers"] R_lxor) (g_ra : mg "range" = none) (g_le : mg "len" = none) : FnOk P w K mg base CX0 (k + 1) f fd ["heaps_there"] (SpG K R_lm) := by
  refine fn_okD Fn sc_lm (fun κ M W h => ?_) fun cdv A outer s H E hr nd B0 F0 κ M W hR => ?_
  · obtain ⟨ns, rfl, _⟩ := h
    rfl
  · obtain ⟨⟨b, ns⟩, hκ, hn, hW⟩ := hR
    have hκ : κ = [.d (rowD b (iL ns))] := hκ
    subst hκ
    have hn : ns.length ≤ 1000 := hn
    have ix : ∀ {i : Nat} {z : Int}, ns[i]? = some z → atI (iL ns) (0 + (i : Nat)) = some (.int z) := fun {i z} h => atI_at (by omega) (by rw [show ((0 : Int) + (i : Nat)).toNat = i by omega, List.getElem?_map, h]; rfl)
    refine db_cons (ds_par 1 2 (da_cons (de_pu G hr (da_cons (nm 0 rfl (da_nil (da_pu (b, ns) rfl trivial (da_cons (de_lstC (da_nil ⟨[], rfl, by decide, fun p => da_nil ⟨_, _, rfl, ?_⟩⟩))))))))))
    refine db_cons (ds_for (di_range1 g_ra (da_cons (de_len g_le (nm 0 rfl ⟨_, seq_row b, da_nil ⟨_, rfl, ?_, ?_, ?_⟩⟩)))))
    · rw [List.length_map]; omega
    · rw [List.length_map]; omega
    refine ⟨fun i M' ρ' => ∃ s3, M' = (p, .lst (movL (xorI ns) 0 (ns.take i))) :: M ∧ ρ' = [.d (rowD b (iL ns)), .d (.int (xorI ns)), .v (.ref p), s3], ⟨_, rfl, rfl⟩, fun _ _ _ _ => trivial, ?_, ?_⟩
    · rintro i d M' ρ' hd ⟨s3, rfl, rfl⟩
      obtain ⟨hi, rfl⟩ := rngD_get hd
      rw [List.length_map, Int.toNat_natCast] at hi
      obtain ⟨z, hz⟩ : ∃ z, ns[i]? = some z := ⟨_, List.getElem?_eq_getElem hi⟩
      refine dg_name 3 ?_
      refine db_cons (ds_if (dt_cmp op_lt (de_op op_xor (de_ix ix_seq (nm 0 rfl (nm 3 rfl (r2_ix (seq_row b) (ix hz) (nm 1 rfl (r2_i (de_ix ix_seq (nm 0 rfl (nm 3 rfl (r2_ix (seq_row b) (ix hz) (r2_t ?_))))))))))))))
      refine waysD (fun c => ?_) (fun c => ?_)
      · refine db_cons <| ds_expr <| de_append 0 <| nm 2 rfl ⟨p, _, rfl, List.mem_cons_self, de_tup <| da_cons <| nm 3 rfl <| da_cons <| de_op op_xor <| de_ix ix_seq <| nm 0 rfl <| nm 3 rfl <| r2_ix (seq_row b) (ix hz) <| nm 1 rfl <| r2_i <| da_nil ⟨[_, _], rfl, z2, _, _, rfl, rfl, ?_, ?_⟩⟩
        · refine Nat.lt_of_le_of_lt (movL_len _ _ _) ?_
          rw [List.length_take]
          omega
        · refine db_nil (db_nil ⟨_, ?_, rfl⟩)
          rw [movL_take hz, if_pos c, Int.zero_add]
          rfl
      · refine db_nil (db_nil ⟨_, ?_, rfl⟩)
        rw [movL_take hz, if_neg c, List.append_nil]
    · rintro M' ρ' ⟨s3, rfl, rfl⟩
      rw [show (rngD 0 (((iL ns).length : Nat) : Int).toNat).length = ns.length by rw [rngD_len, Int.toNat_natCast, List.length_map], movs_all]
      refine db_cons (ds_ret (de_freeze (nm 2 rfl ⟨p, _, _, rfl, rfl, hW _⟩)))
end
end H92
set_option maxHeartbeats 4000000
namespace H92
open PySem PySem.Spec PyProof.Rows L2 DL
inductive Srt where
  | one | two | pair | ruler | even
def Srt.str : Srt → Str
  | .one => "one"
  | .two => "two"
  | .pair => "pair"
  | .ruler => "ruler"
  | .even => "even ruler"
def cv : Srt → Int → Int
  | .one, _ => 1
  | .two, p => p
  | .pair, p => p - 1
  | .ruler, p => Builtin.bitAnd p (-p)
  | .even, p => Builtin.bitAnd p (-p) / 2
section
variable {P : Program} {w : World} {K : PySem.W.Frag} {mg : Str → Option Value} {base : Heap} {f : Addr} {fd : FuncData}
theorem sc_cv : FnScope ["sort", "place", "power"] ["sort", "place"] (defScope s_coin_value) := ⟨rfl, rfl, rfl, by decide +kernel, rfl, by decide +kernel, by decide +kernel⟩
abbrev R_cv := Pu (fun a : Srt × Int => [.d (.str a.1.str), .d (.int a.2)]) (fun _ => True) (fun a => .int (cv a.1 a.2))
theorem ok_cv {k : Nat} (Fn : FnP K "coin_value" s_coin_value f fd) : FnOk P w K mg base CX0 (k + 1) f fd ["sort", "place"] (SpG K R_cv) := by
  refine fn_okD Fn sc_cv (fun κ M W h => ?_) fun cdv A outer s H E hr nd B0 F0 κ M W hR => ?_
  · obtain ⟨ns, rfl, _⟩ := h
    rfl
  · obtain ⟨⟨t, p⟩, hκ, -, hW⟩ := hR
    have hκ : κ = [.d (.str t.str), .d (.int p)] := hκ
    subst hκ
    have hW : ∀ M', W (.d (.int (cv t p))) M' := hW
    refine db_cons <| ds_if <| dt_cmp op_eq <| nm 0 rfl <| de_str <| r2_tseq ?_
    cases t with
    | one => exact waysT (by decide +kernel) <| db_cons <| ds_ret <| de_int (hW M)
    | two =>
      refine waysF (by decide +kernel) <| db_nil <| db_cons <| ds_if <| dt_cmp op_eq <| nm 0 rfl <| de_str <| r2_tseq ?_
      exact waysT (by decide +kernel) <| db_cons <| ds_ret <| nm 1 rfl (hW M)
    | pair =>
      refine waysF (by decide +kernel) <| db_nil <| db_cons <| ds_if <| dt_cmp op_eq <| nm 0 rfl <| de_str <| r2_tseq ?_
      refine waysF (by decide +kernel) <| db_nil <| db_cons <| ds_if <| dt_cmp op_eq <| nm 0 rfl <| de_str <| r2_tseq ?_
      exact waysT (by decide +kernel) <| db_cons <| ds_ret <| de_op op_sub <| nm 1 rfl <| de_int <| r2_i (hW M)
    | ruler =>
      refine waysF (by decide +kernel) <| db_nil <| db_cons <| ds_if <| dt_cmp op_eq <| nm 0 rfl <| de_str <| r2_tseq ?_
      refine waysF (by decide +kernel) <| db_nil <| db_cons <| ds_if <| dt_cmp op_eq <| nm 0 rfl <| de_str <| r2_tseq ?_
      refine waysF (by decide +kernel) <| db_nil <| db_cons <| ds_if <| dt_cmp op_eq <| nm 0 rfl <| de_str <| r2_tseq ?_
      refine waysF (by decide +kernel) <| db_nil <| db_cons <| ds_set 2 <| de_op op_and <| nm 1 rfl <| de_unop un_neg <| nm 1 rfl <| r1_U (fun _ => .int _) <| r2_i ?_
      refine db_cons <| ds_ret <| de_ifexp <| dt_cmp op_eq <| nm 0 rfl <| de_str <| r2_tseq ?_
      exact waysT (by decide +kernel) <| nm 2 rfl (hW M)
    | even =>
      refine waysF (by decide +kernel) <| db_nil <| db_cons <| ds_if <| dt_cmp op_eq <| nm 0 rfl <| de_str <| r2_tseq ?_
      refine waysF (by decide +kernel) <| db_nil <| db_cons <| ds_if <| dt_cmp op_eq <| nm 0 rfl <| de_str <| r2_tseq ?_
      refine waysF (by decide +kernel) <| db_nil <| db_cons <| ds_if <| dt_cmp op_eq <| nm 0 rfl <| de_str <| r2_tseq ?_
      refine waysF (by decide +kernel) <| db_nil <| db_cons <| ds_set 2 <| de_op op_and <| nm 1 rfl <| de_unop un_neg <| nm 1 rfl <| r1_U (fun _ => .int _) <| r2_i ?_
      refine db_cons <| ds_ret <| de_ifexp <| dt_cmp op_eq <| nm 0 rfl <| de_str <| r2_tseq ?_
      exact waysF (by decide +kernel) <| de_op op_fdivW <| nm 2 rfl <| de_int <| r2_c ⟨by decide, by decide⟩ (hW M)
def cvs (t : Srt) (n : Int) : List PyData := (rngD 1 n.toNat).map fun d => match d with
  | .int p => .int (cv t p)
  | d => d
theorem sc_cvs : FnScope ["sort", "n", "place"] ["sort", "n"] (defScope s_coin_values) := ⟨rfl, rfl, rfl, by decide +kernel, rfl, by decide +kernel, by decide +kernel⟩
abbrev R_cvs := Pu (fun a : Srt × Int => [.d (.str a.1.str), .d (.int a.2)]) (fun a => 0 ≤ a.2 ∧ a.2 ≤ 1000) (fun a => .tuple (cvs a.1 a.2))
theorem rngD_mem {lo : Int} {n : Nat} {d : PyData} (h : d ∈ rngD lo n) : ∃ i : Nat, i < n ∧ d = .int (lo + (i : Nat)) := by
  obtain ⟨i, hi, rfl⟩ := List.mem_map.mp h
  exact ⟨i, List.mem_range.mp hi, rfl⟩
theorem ok_cvs {k : Nat} (Fn : FnP K "coin_values" s_coin_values f fd) (G : Go P w K mg base "coin_value" k ["sort", "place"] R_cv) (g_tu : mg "tuple" = none) (g_ra : mg "range" = none) : FnOk P w K mg base CX0 (k + 1) f fd ["sort", "n"] (SpG K R_cvs) := by
  refine fn_okD Fn sc_cvs (fun κ M W h => ?_) fun cdv A outer s H E hr nd B0 F0 κ M W hR => ?_
  · obtain ⟨ns, rfl, _⟩ := h
    rfl
  · obtain ⟨⟨t, n⟩, hκ, ⟨hn0, hn⟩, hW⟩ := hR
    have hκ : κ = [.d (.str t.str), .d (.int n)] := hκ
    subst hκ
    have hn0 : 0 ≤ n := hn0
    have hn : n ≤ 1000 := hn
    refine db_cons <| ds_ret <| de_tupleOf g_tu <| de_lcF 2 (fun d => match d with
      | .int p => .int (cv t p)
      | d => d) <| di_range2 g_ra <| da_cons <| de_int <| da_cons <| de_op op_add <| nm 1 rfl <| de_int <| r2_i <| da_nil ⟨_, _, rfl, by omega, ?_, fun _ _ _ => trivial, ?_, fun D => ⟨_, .cell List.mem_cons_self, ?_⟩⟩
    · rw [rngD_len]; omega
    · intro d D acc hd b
      obtain ⟨i, hi, rfl⟩ := rngD_mem hd
      exact de_pu G hr <| da_cons <| nm 0 rfl <| da_cons <| nm 2 rfl <| da_nil <| da_pu (t, _) rfl trivial ⟨rfl, rfl⟩
    · rw [show n + 1 - 1 = n by omega]
      exact hW _
end
end H92
set_option maxHeartbeats 4000000
namespace H92
open PySem PySem.Spec PyProof.Rows L2 DL
def hv (t : Srt) (ns : List Int) : Int := xorI (ns.map (cv t))
def sorts : List Str := ["one", "two", "three", "pair", "ruler", "even ruler"]
section
variable {P : Program} {w : World} {K : PySem.W.Frag} {mg : Str → Option Value} {base : Heap} {f : Addr} {fd : FuncData}
theorem sc_hv : FnScope ["sort", "heads", "found", "place"] ["sort", "heads"] (defScope s_heads_value) := ⟨rfl, rfl, rfl, by decide +kernel, rfl, by decide +kernel, by decide +kernel⟩
abbrev R_hv := Pu (fun a : Srt × List Int => [.d (.str a.1.str), .d (.tuple (iL a.2))]) (fun _ => True) (fun a => .int (hv a.1 a.2))
theorem ok_hv {k : Nat} (Fn : FnP K "heads_value" s_heads_value f fd) (G : Go P w K mg base "coin_value" k ["sort", "place"] R_cv) : FnOk P w K mg base CX0 (k + 1) f fd ["sort", "heads"] (SpG K R_hv) := by
  refine fn_okD Fn sc_hv (fun κ M W h => ?_) fun cdv A outer s H E hr nd B0 F0 κ M W hR => ?_
  · obtain ⟨ns, rfl, _⟩ := h
    rfl
  · obtain ⟨⟨t, ns⟩, hκ, -, hW⟩ := hR
    have hκ : κ = [.d (.str t.str), .d (.tuple (iL ns))] := hκ
    subst hκ
    refine db_cons <| ds_set 2 <| de_int ?_
    refine db_cons <| ds_for <| di_tup <| nm 1 rfl ?_
    refine ⟨_, rfl, fun i M' ρ' => ∃ s2, M' = M ∧ ρ' = [.d (.str t.str), .d (.tuple (iL ns)), .d (.int (xorI ((ns.map (cv t)).take i))), s2], ⟨_, rfl, rfl⟩, fun _ _ _ _ => trivial, ?_, ?_⟩
    · rintro i d M' ρ' hd ⟨s2, rfl, rfl⟩
      refine dg_name 3 ?_
      obtain ⟨z, hz, rfl⟩ := map_get hd
      refine db_cons <| ds_aug 2 iop_xor rfl (by intro h; cases h) <| de_pu G hr <| da_cons <| nm 0 rfl <| da_cons <| nm 3 rfl <| da_nil <| da_pu (t, z) rfl trivial <| r2_i ?_
      refine db_nil ⟨.d (.int z), rfl, ?_⟩
      rw [xorI_take (z := cv t z) (by rw [List.getElem?_map, hz]; rfl)]
      rfl
    · rintro M' ρ' ⟨s2, rfl, rfl⟩
      rw [List.length_map, show (ns.map (cv t)).take ns.length = ns.map (cv t) by rw [← List.length_map (f := cv t), List.take_length]]
      exact db_cons <| ds_ret <| nm 2 rfl (hW _)
theorem sc_mt : FnScope ["sort", "coins"] ["sort", "coins"] (defScope s_may_turn) := ⟨rfl, rfl, rfl, by decide +kernel, rfl, by decide +kernel, by decide +kernel⟩
abbrev R_mt := Pu (fun ds : List PyData => [.d (.str "two"), .d (.tuple ds)]) (fun _ => True) (fun ds => .bool (decide (ds.length ≤ 2)))
theorem ok_mt {k : Nat} (Fn : FnP K "may_turn" s_may_turn f fd) (g_le : mg "len" = none) {sa : Addr} (g_so : mg "SORTS" = some (.ref sa)) (T : TupS K sa sorts) : FnOk P w K mg base CX0 (k + 1) f fd ["sort", "coins"] (SpG K R_mt) := by
  refine fn_okD Fn sc_mt (fun κ M W h => ?_) fun cdv A outer s H E hr nd B0 F0 κ M W hR => ?_
  · obtain ⟨ns, rfl, _⟩ := h
    rfl
  · obtain ⟨ds, hκ, -, hW⟩ := hR
    have hκ : κ = [.d (.str "two"), .d (.tuple ds)] := hκ
    subst hκ
    refine db_cons <| ds_if <| dt_cmp op_in_seq <| nm 0 rfl <| de_tup <| da_cons <| de_str <| da_cons <| de_str <| da_cons <| de_str <| da_nil ⟨[_, _, _], rfl, z3, r2_in (.tup _) (v := .str "two") (vs := [.str "one", .str "two", .str "three"]) rfl rfl ⟨_, rfl, waysT (by decide +kernel) ?_⟩⟩
    refine db_cons <| ds_ret <| de_cmp op_le <| de_len g_le <| nm 1 rfl ⟨ds, .tup ds, de_op op_add <| de_idxTupS <| de_globR g_so ⟨sa, sorts, rfl, T, nm 0 rfl ⟨"two", 1, rfl, rfl, ?_, de_int <| r2_i <| r2_b ?_⟩⟩⟩
    · intro m hm
      have : m = 0 := by omega
      subst this
      decide +kernel
    · rw [show decide ((ds.length : Int) ≤ ((1 : Nat) : Int) + 1) = decide (ds.length ≤ 2) from decide_eq_decide.mpr (by omega)]
      exact hW _
/-- the moves with one or two coins, `last` the last of them -/
def mws (last : Int) : List PyData := .tuple [.int last] :: (rngD 1 (last - 1).toNat).map fun d => .tuple [d, .int last]
theorem sc_mw : FnScope ["sort", "last", "before", "found", "first", "a", "b", "coins"] ["sort", "last"] (defScope s_moves_with) := ⟨rfl, rfl, rfl, by decide +kernel, rfl, by decide +kernel, by decide +kernel⟩
abbrev R_mw := Pu (fun n : Int => [.d (.str "two"), .d (.int n)]) (fun n => 1 ≤ n ∧ n ≤ 1000) (fun n => .list (mws n))
theorem ok_mw {k : Nat} (Fn : FnP K "moves_with" s_moves_with f fd) (G : Go P w K mg base "may_turn" k ["sort", "coins"] R_mt) (g_ra : mg "range" = none) : FnOk P w K mg base CX0 (k + 1) f fd ["sort", "last"] (SpG K R_mw) := by
  refine fn_okD Fn sc_mw (fun κ M W h => ?_) fun cdv A outer s H E hr nd B0 F0 κ M W hR => ?_
  · obtain ⟨ns, rfl, _⟩ := h
    rfl
  · obtain ⟨n, hκ, ⟨hn1, hn2⟩, hW⟩ := hR
    have hκ : κ = [.d (.str "two"), .d (.int n)] := hκ
    subst hκ
    have hn1 : 1 ≤ n := hn1
    have hn2 : n ≤ 1000 := hn2
    have hl : (mws n).length ≤ 1000 := by
      unfold mws
      rw [List.length_cons, List.length_map, rngD_len]
      omega
    refine db_cons <| ds_set 2 <| de_callTy cr_range2 g_ra boot_range <| da_cons <| de_int <| da_cons <| nm 1 rfl <| da_nil <| rn_range2 fun p => ?_
    refine db_cons <| ds_if <| dt_cmp op_in_seq <| nm 0 rfl <| de_tup <| da_cons <| de_str <| da_cons <| de_str <| da_nil ⟨[_, _], rfl, z2, r2_in (.tup _) (v := .str "two") (vs := [.str "ruler", .str "even ruler"]) rfl rfl ⟨_, rfl, waysF (by decide +kernel) ?_⟩⟩
    refine db_cons <| ds_set 3 <| de_freeze <| de_op op_cat <| de_lst <| da_cons <| de_tup <| da_cons <| nm 1 rfl <| da_nil ⟨[_], rfl, z1, da_nil ⟨[_], rfl, z1, de_freeze <| de_lcF 5 (fun d => .tuple [d, .int n]) <| di_rngV <| nm 2 rfl ⟨p, 1, n, rfl, List.mem_cons_self, by omega, ?_, fun _ _ _ => trivial, ?_, fun D => ⟨D, _, _, rfl, rfl, r2_catC (.lst _) (.lst _) ?_ fun l => ⟨_, _, _, rfl, rfl, ?_⟩⟩⟩⟩⟩
    · rw [rngD_len]; omega
    · intro d D acc hd b
      obtain ⟨i, hi, rfl⟩ := rngD_mem hd
      exact de_tup <| da_cons <| nm 5 rfl <| da_cons <| nm 1 rfl <| da_nil ⟨[_, _], rfl, z2, rfl, rfl⟩
    · rw [List.length_map, rngD_len]
      show 1 + _ ≤ _
      omega
    refine db_cons <| ds_if <| dt_cmp op_eq <| nm 0 rfl <| de_str <| r2_tseq <| waysF (by decide +kernel) <| db_nil <| db_nil ?_
    refine db_cons <| ds_ret <| de_freeze <| de_lcIfF 7 (fun _ => true) id <| di_list <| nm 3 rfl ⟨_, rfl, ?_, fun _ _ _ => trivial, ?_, ?_, fun D => ⟨D, _, _, rfl, rfl, ?_⟩⟩
    · exact Nat.le_trans hl (by decide)
    · intro d D acc hd b
      have : ∃ ds, d = .tuple ds ∧ ds.length ≤ 2 := by
        rcases List.mem_append.mp hd with h | h
        · rw [List.mem_singleton.mp h]; exact ⟨_, rfl, (by decide : 1 ≤ 2)⟩
        · obtain ⟨y, _, rfl⟩ := List.mem_map.mp h
          exact ⟨_, rfl, (by decide : 2 ≤ 2)⟩
      obtain ⟨ds, rfl, hd2⟩ := this
      exact dt_val <| de_pu G hr <| da_cons <| nm 0 rfl <| da_cons <| nm 7 rfl <| da_nil <| da_pu ds rfl trivial ⟨_, rfl, decide_eq_true hd2, rfl⟩
    · intro d D acc hd _ b
      exact nm 7 rfl ⟨rfl, rfl⟩
    · rw [List.filter_eq_self.mpr (fun _ _ => rfl), List.map_id]
      exact hW _
end
end H92
set_option maxHeartbeats 4000000
namespace H92
open PySem PySem.Spec PyProof.Rows L2 DL
/-! ### rows of ints in tuples -/
def unI : PyData → List Int
  | .tuple ds => ds.map fun d => match d with
    | .int i => i
    | _ => 0
  | _ => []
theorem unI_iL (ns : List Int) : unI (.tuple (iL ns)) = ns := by
  show (ns.map PyData.int).map _ = ns
  rw [List.map_map]
  exact (List.map_congr_left fun _ _ => rfl).trans (List.map_id ns)
def IntTup (d : PyData) : Prop := ∃ x xs, d = .tuple (iL (x :: xs))
theorem alike_iL : ∀ xs ys : List Int, PySem.W.alikeAll (iL xs) (iL ys) = true
  | [], _ => by simp [PySem.W.alikeAll]
  | _ :: _, [] => by simp [PySem.W.alikeAll]
  | x :: xs, y :: ys => by
    show PySem.W.alikeAll (.int x :: iL xs) (.int y :: iL ys) = true
    rw [PySem.W.alikeAll, alike_iL xs ys, PySem.W.alike]
    rfl
theorem alike_ints {ds : List PyData} (h : ∀ d ∈ ds, IntTup d) : PySem.W.AllAlike ds := fun d hd d' hd' => by
  obtain ⟨x, xs, rfl⟩ := h d hd
  obtain ⟨y, ys, rfl⟩ := h d' hd'
  rw [PySem.W.alike]
  exact alike_iL _ _
theorem sortable_ints {ds : List PyData} (h : ∀ d ∈ ds, IntTup d) : PySem.W.Sortable ds := .inl fun d hd => by
  obtain ⟨x, xs, rfl⟩ := h d hd
  exact ⟨_, _, rfl⟩
theorem depth_iL : ∀ xs : List Int, PyData.depthAll (iL xs) = 0
  | [] => by rw [show iL [] = [] from rfl, PyData.depthAll]
  | x :: xs => by
    rw [show iL (x :: xs) = .int x :: iL xs from rfl, PyData.depthAll, depth_iL xs, PyData.depth]
    rfl
theorem depth_ints {ds : List PyData} (h : ∀ d ∈ ds, IntTup d) : ∀ d ∈ ds, d.depth ≤ 50 := fun d hd => by
  obtain ⟨x, xs, rfl⟩ := h d hd
  rw [PyData.depth, depth_iL]
  decide
/-! ### turning at most two coins -/
def turn (l s : Int) : PyData := if s = 0 then .tuple [.int l] else .tuple [.int s, .int l]
def turn1 (t z : Int) : List PyData := if Builtin.bitXor z t < z then [turn z (Builtin.bitXor z t)] else []
def turns (t : Int) (ns : List Int) : List PyData := ns.flatMap (turn1 t)
theorem turn_int (l s : Int) : IntTup (turn l s) := by
  unfold turn
  split
  · exact ⟨l, [], rfl⟩
  · exact ⟨s, [l], rfl⟩
theorem turn1_int {t z : Int} : ∀ d ∈ turn1 t z, IntTup d := fun d hd => by
  unfold turn1 at hd
  split at hd
  · rw [List.mem_singleton.mp hd]; exact turn_int _ _
  · cases hd
theorem turns_int {t : Int} {ns : List Int} : ∀ d ∈ turns t ns, IntTup d := fun d hd => by
  obtain ⟨z, _, h⟩ := List.mem_flatMap.mp hd
  exact turn1_int d h
theorem turn1_len (t z : Int) : (turn1 t z).length ≤ 1 := by
  unfold turn1
  split <;> simp
theorem turns_len (t : Int) : ∀ ns : List Int, (turns t ns).length ≤ ns.length
  | [] => Nat.le_refl _
  | n :: ns => by
    unfold turns
    rw [List.flatMap_cons, List.length_append, List.length_cons]
    have h1 := turn1_len t n
    have h2 := turns_len t ns
    unfold turns at h2
    omega
theorem filter_range (s : Nat) : ∀ n : Nat, ((List.range n).filter fun i => decide (1 + i = s)) = if 1 ≤ s ∧ s < 1 + n then [s - 1] else []
  | 0 => by rw [if_neg (by omega)]; rfl
  | n + 1 => by
    rw [List.range_succ, List.filter_append, filter_range s n]
    by_cases c : 1 + n = s
    · subst c
      rw [if_neg (by omega), if_pos (by omega)]
      simp
    · rw [show [n].filter (fun i => decide (1 + i = s)) = [] by simp [c], List.append_nil]
      by_cases d : 1 ≤ s ∧ s < 1 + n
      · rw [if_pos d, if_pos (by omega)]
      · rw [if_neg d, if_neg (by omega)]
def tTest (v : Int) (d : PyData) : Bool := decide (hv .two (unI d) = v)
theorem hv_one (l : Nat) : hv .two [(l : Int)] = (l : Int) := by
  show Builtin.bitXor 0 (l : Int) = l
  have := xor_nat 0 l
  rw [Nat.zero_xor] at this
  exact this
theorem hv_two (a l : Nat) : hv .two [(a : Int), (l : Int)] = ((a ^^^ l : Nat) : Int) := by
  show Builtin.bitXor (Builtin.bitXor 0 (a : Int)) (l : Int) = _
  have := xor_nat 0 a
  rw [Nat.zero_xor] at this
  rw [show Builtin.bitXor 0 (a : Int) = (a : Int) from this, xor_nat]
theorem mws_turn (l u : Nat) (hl : 1 ≤ l) : (mws l).filter (tTest u) = turn1 u l := by
  unfold mws turn1
  rw [xor_nat, List.filter_cons]
  have h1 : tTest u (.tuple [.int (l : Int)]) = decide (l = u) := by
    unfold tTest
    rw [show unI (.tuple [.int (l : Int)]) = [(l : Int)] from rfl, hv_one]
    exact decide_eq_decide.mpr (by omega)
  have h2 : ((rngD 1 ((l : Int) - 1).toNat).map fun d => PyData.tuple [d, .int (l : Int)]).filter (tTest u) = if 1 ≤ l ^^^ u ∧ l ^^^ u < l then [.tuple [.int ((l ^^^ u : Nat) : Int), .int (l : Int)]] else [] := by
    unfold rngD
    rw [List.map_map, List.filter_map, show (tTest (u : Int) ∘ ((fun d => PyData.tuple [d, .int (l : Int)]) ∘ fun i : Nat => PyData.int (1 + (i : Int)))) = fun i => decide (1 + i = l ^^^ u) by
      funext i
      show tTest u (.tuple [.int (1 + (i : Int)), .int l]) = _
      unfold tTest
      rw [show unI (.tuple [.int (1 + (i : Int)), .int (l : Int)]) = [((1 + i : Nat) : Int), (l : Int)] by simp [unI], hv_two]
      refine decide_eq_decide.mpr ⟨fun h => ?_, fun h => ?_⟩
      · have h : (1 + i) ^^^ l = u := by omega
        rw [← h, Nat.xor_comm (1 + i) l, ← Nat.xor_assoc, Nat.xor_self, Nat.zero_xor]
      · rw [h, Nat.xor_comm l u, Nat.xor_assoc, Nat.xor_self, Nat.xor_zero]]
    rw [filter_range, show ((l : Int) - 1).toNat = l - 1 by omega, show 1 + (l - 1) = l by omega]
    by_cases c : 1 ≤ l ^^^ u ∧ l ^^^ u < l
    · rw [if_pos c, if_pos c]
      show [PyData.tuple [.int (1 + (((l ^^^ u) - 1 : Nat) : Int)), .int (l : Int)]] = _
      rw [show (1 + (((l ^^^ u) - 1 : Nat) : Int)) = ((l ^^^ u : Nat) : Int) by omega]
    · rw [if_neg c, if_neg c]; rfl
  rw [h1, h2]
  by_cases c : l = u
  · subst c
    rw [Nat.xor_self, if_pos (decide_eq_true rfl), if_neg (by omega), if_pos (by omega)]
    rfl
  · have c2 : l ^^^ u ≠ 0 := fun h => c (by
      have : (l ^^^ u) ^^^ u = u := by rw [h, Nat.zero_xor]
      rw [Nat.xor_assoc, Nat.xor_self, Nat.xor_zero] at this
      exact this)
    rw [if_neg (by simpa using c)]
    by_cases d : l ^^^ u < l
    · rw [if_pos (by omega), if_pos (by omega)]
      unfold turn
      rw [if_neg (by omega)]
    · rw [if_neg (by omega), if_neg (by omega)]
section
variable {P : Program} {w : World} {K : PySem.W.Frag} {mg : Str → Option Value} {base : Heap} {f : Addr} {fd : FuncData}
theorem sc_cm : FnScope ["sort", "heads", "value", "found", "last", "coins"] ["sort", "heads"] (defScope s_coin_moves) := ⟨rfl, rfl, rfl, by decide +kernel, rfl, by decide +kernel, by decide +kernel⟩
abbrev R_cm := Pu (fun ns : List Int => [.d (.str "two"), .d (.tuple (iL ns))]) (fun ns => ns.length ≤ 64 ∧ ∀ n ∈ ns, 1 ≤ n ∧ n ≤ 1000) (fun ns => .tuple (sortD (turns (xorI ns) ns)))
theorem hv_xor (ns : List Int) : hv .two ns = xorI ns := by
  unfold hv
  rw [show cv .two = id from rfl, List.map_id]
theorem xorI_nat : ∀ (ns : List Int), (∀ n ∈ ns, 0 ≤ n) → ∃ u : Nat, xorI ns = u := by
  have : ∀ (ns : List Int) (u : Nat), (∀ n ∈ ns, 0 ≤ n) → ∃ v : Nat, ns.foldl Builtin.bitXor (u : Int) = v := by
    intro ns
    induction ns with
    | nil => exact fun u _ => ⟨u, rfl⟩
    | cons n ns ih =>
      intro u h
      obtain ⟨m, rfl⟩ := Int.eq_ofNat_of_zero_le (h n List.mem_cons_self)
      rw [List.foldl_cons, xor_nat]
      exact ih _ fun n hn => h n (List.mem_cons_of_mem _ hn)
  exact fun ns h => this ns 0 h
theorem turns_take {t : Int} {ns : List Int} {i : Nat} {z : Int} (h : ns[i]? = some z) : turns t (ns.take (i + 1)) = turns t (ns.take i) ++ turn1 t z := by
  unfold turns
  rw [take_get h, List.flatMap_append]
  simp
theorem mws_mem {n : Int} {d : PyData} (h : d ∈ mws n) : ∃ ns : List Int, d = .tuple (iL ns) ∧ tTest = tTest := by
  rcases List.mem_cons.mp h with rfl | h
  · exact ⟨[n], rfl, rfl⟩
  · obtain ⟨y, hy, rfl⟩ := List.mem_map.mp h
    obtain ⟨i, _, rfl⟩ := rngD_mem hy
    exact ⟨[_, n], rfl, rfl⟩
theorem ok_cm {k : Nat} (Fn : FnP K "coin_moves" s_coin_moves f fd) (G1 : Go P w K mg base "heads_value" k ["sort", "heads"] R_hv) (G2 : Go P w K mg base "moves_with" k ["sort", "last"] R_mw) (g_tu : mg "tuple" = none) (g_so : mg "sorted" = none) : FnOk P w K mg base CX0 (k + 1) f fd ["sort", "heads"] (SpG K R_cm) := by
  refine fn_okD Fn sc_cm (fun κ M W h => ?_) fun cdv A outer s H E hr nd B0 F0 κ M W hR => ?_
  · obtain ⟨ns, rfl, _⟩ := h
    rfl
  · obtain ⟨ns, hκ, ⟨hn1, hn2⟩, hW⟩ := hR
    have hκ : κ = [.d (.str "two"), .d (.tuple (iL ns))] := hκ
    subst hκ
    have hn1 : ns.length ≤ 64 := hn1
    have hn2 : ∀ n ∈ ns, 1 ≤ n ∧ n ≤ 1000 := hn2
    obtain ⟨u, hu⟩ := xorI_nat ns fun n hn => by have := (hn2 n hn).1; omega
    refine db_cons <| ds_parT 2 <| da_cons <| de_pu G1 hr <| da_cons <| nm 0 rfl <| da_cons <| nm 1 rfl <| da_nil <| da_pu (.two, ns) rfl trivial <| da_cons <| de_lstC <| da_nil ⟨[], rfl, z0, fun p => da_nil ⟨rfl, dgs_cons <| dg_name 2 <| dgs_cons <| dg_name 3 <| dgs_nil ?_⟩⟩
    refine db_cons <| ds_for <| di_tup <| nm 1 rfl ?_
    refine ⟨_, rfl, fun i M' ρ' => ∃ s4, M' = (p, .lst (turns (xorI ns) (ns.take i))) :: M ∧ ρ' = [.d (.str "two"), .d (.tuple (iL ns)), .d (.int (hv .two ns)), .v (.ref p), s4, .un], ⟨_, rfl, rfl⟩, fun _ _ _ _ => trivial, ?_, ?_⟩
    · rintro i d M' ρ' hd ⟨s4, rfl, rfl⟩
      refine dg_name 4 ?_
      obtain ⟨z, hz, rfl⟩ := map_get hd
      have hb := hn2 z (List.mem_of_getElem? hz)
      obtain ⟨l, rfl⟩ := Int.eq_ofNat_of_zero_le (show 0 ≤ z by omega)
      have hml : (mws (l : Int)).length ≤ 1000 := by
        unfold mws
        rw [List.length_cons, List.length_map, rngD_len]
        omega
      refine db_cons <| ds_aug 3 iop_ext rfl (by intro h; cases h) <| de_freeze <| de_lcIfF 5 (tTest (hv .two ns)) id <| di_list <| de_pu G2 hr <| da_cons <| nm 0 rfl <| da_cons <| nm 4 rfl <| da_nil <| da_pu (l : Int) rfl hb ⟨_, rfl, Nat.le_trans hml (by decide), fun _ _ _ => trivial, ?_, ?_, fun D => ⟨D, _, _, rfl, rfl, r2_ext 0 rfl (.lst _) ?_ ?_⟩⟩
      · intro d D acc hd b
        obtain ⟨ms, rfl, -⟩ := mws_mem hd
        refine dt_cmp op_eq <| de_pu G1 hr <| da_cons <| nm 0 rfl <| da_cons <| nm 5 rfl <| da_nil <| da_pu (.two, ms) rfl trivial <| nm 2 rfl <| r2_teq ⟨?_, rfl⟩
        unfold tTest
        rw [unI_iL]
      · intro d D acc hd _ b
        exact nm 5 rfl ⟨rfl, rfl⟩
      · rw [hv_xor, hu, List.map_id, mws_turn l u (by omega), ← hu]
        have h1 := turns_len (xorI ns) (ns.take i)
        rw [List.length_take] at h1
        have h2 := turn1_len (xorI ns) l
        omega
      · refine db_nil ⟨.d (.int l), ?_, rfl⟩
        rw [hv_xor, hu, List.map_id, mws_turn l u (by omega), ← hu, turns_take hz]
        rfl
    · rintro M' ρ' ⟨s4, rfl, rfl⟩
      rw [List.length_map, List.take_length]
      refine db_cons <| ds_ret <| de_tupleOf g_tu <| de_sorted hr.units g_so <| nm 3 rfl ⟨_, .cell List.mem_cons_self, alike_ints turns_int, sortable_ints turns_int, ?_, depth_ints turns_int, fun l => ⟨_, .cell List.mem_cons_self, hW _⟩⟩
      exact Nat.le_trans (turns_len _ _) (by omega)
end
end H92
set_option maxHeartbeats 4000000
namespace DL
open PySem PySem.Spec PyProof.Rows L2
/-! ### the kinds of data -/
def isTup : PyData → Bool
  | .tuple _ => true
  | _ => false
def isLst : PyData → Bool
  | .list _ => true
  | _ => false
def isBool : PyData → Bool
  | .bool _ => true
  | _ => false
def isInt : PyData → Bool
  | .bool _ => true
  | .int _ => true
  | _ => false
def isStr : PyData → Bool
  | .str _ => true
  | _ => false
theorem kTup (K : Fg) (d : PyData) : PySem.W.kitOne K (tyD d) (.type "tuple") = some (isTup d) := by cases d <;> kernel_rfl
theorem kLst (K : Fg) (d : PyData) : PySem.W.kitOne K (tyD d) (.type "list") = some (isLst d) := by cases d <;> kernel_rfl
theorem kBool (K : Fg) (d : PyData) : PySem.W.kitOne K (tyD d) (.type "bool") = some (isBool d) := by cases d <;> kernel_rfl
theorem kInt (K : Fg) (d : PyData) : PySem.W.kitOne K (tyD d) (.type "int") = some (isInt d) := by cases d <;> kernel_rfl
theorem kStr (K : Fg) (d : PyData) : PySem.W.kitOne K (tyD d) (.type "str") = some (isStr d) := by cases d <;> kernel_rfl
theorem bt_bool : bootBuiltins "bool" = some (.type "bool") := by decide +kernel
theorem bt_str : bootBuiltins "str" = some (.type "str") := by decide +kernel
section
variable {X : Cx} {B0 F : Hp} {M : Cs} {ρ κ : List Sl} {P : Sl → Cs → Prop} {e : Expr} {p p2 pos : Pos}
theorem de_isi {T : String} {x : Str} (hv : bootBuiltins x = some (.type T)) (gi : X.mg "isinstance" = none) (gx : X.mg x = none) (h : DE X B0 F M ρ κ e fun r M1 => ∃ d b, r = .d d ∧ PySem.W.kitOne X.K (tyD d) (.type T) = some b ∧ P (.d (.bool b)) M1)
    (hg : Gl X "isinstance" := by rfl) (hg2 : Gl X x := by rfl) (hn : x ≠ "__name__" := by decide) (hdb : (x == ("__debug__" : Str)) = false := by decide)
    (hs : starEach [e, .Name x p2] X.env = (false, eval e X.env) :: starEach [.Name x p2] X.env := by rfl) (hs2 : starEach [.Name x p2] X.env = (false, eval (.Name x p2) X.env) :: starEach [] X.env := by rfl) (hpl : (backTo pos (starEach [.Name x p2] X.env)).any (·.1) = false := by rfl) : DE X B0 F M ρ κ (.Call (.Name "isinstance" p) [e, .Name x p2] [] pos) P :=
  de_callB call_isi gi bt_isi (da_cons (fun σ vs H Q g q => h σ vs H Q g fun v H' r M' g' ⟨d, b, hr, hk, hp⟩ => q v H' r M' g' (hr ▸ da_cons (de_ty gx hv (da_nil (rn_isi hk hp)) hg2 hn hdb) hs2)) hs) hg (he := hs) (hpl := hpl)
end
end DL
namespace H92
open PySem PySem.Spec PyProof.Rows L2 DL
/-! ### _law_same of equal data -/
def SameOk : Nat → PyData → Prop
  | _, .none => True
  | _, .bool _ => True
  | _, .int _ => True
  | _, .str _ => True
  | m + 1, .tuple ds => ds.length ≤ 100000 ∧ ∀ d ∈ ds, SameOk m d
  | m + 1, .list ds => ds.length ≤ 100000 ∧ ∀ d ∈ ds, SameOk m d
  | _, _ => False
abbrev R_same (m : Nat) := Pu (fun d : PyData => [.d d, .d d]) (SameOk m) (fun _ => .bool true)
section
variable {P : Program} {w : World} {K : PySem.W.Frag} {mg : Str → Option Value} {base : Heap} {f : Addr} {fd : FuncData}
theorem sc_same : FnScope ["a", "b", "k"] ["a", "b"] (defScope s__law_same) := ⟨rfl, rfl, rfl, by decide +kernel, rfl, by decide +kernel, by decide +kernel⟩
theorem ok_same1 {k m : Nat} (Fn : FnP K "_law_same" s__law_same f fd) (G : ∀ m', m = m' + 1 → Go P w K mg base "_law_same" k ["a", "b"] (R_same m')) (g_is : mg "isinstance" = none) (g_tu : mg "tuple" = none) (g_li : mg "list" = none) (g_bo : mg "bool" = none) (g_in : mg "int" = none) (g_st : mg "str" = none) (g_le : mg "len" = none) (g_al : mg "all" = none) (g_ra : mg "range" = none) : FnOk P w K mg base CX0 (k + 1) f fd ["a", "b"] (SpG K (R_same m)) := by
  refine fn_okD Fn sc_same (fun κ M W h => ?_) fun cdv A outer s H E hr nd B0 F0 κ M W hR => ?_
  · obtain ⟨ns, rfl, _⟩ := h
    rfl
  · obtain ⟨d, hκ, hd, hW⟩ := hR
    have hκ : κ = [.d d, .d d] := hκ
    subst hκ
    have hW : ∀ M', W (.d (.bool true)) M' := hW
    have row : ∀ (ds : List PyData), (∀ M, Seq M (.d d) ds) → (ds.length ≤ 100000 ∧ ∃ m', m = m' + 1 ∧ ∀ y ∈ ds, SameOk m' y) → ∀ kk : KK, kk.rt = W → DB (cxOf CX0 P w K mg base ["a", "b", "k"] "_law_same" (defScope s__law_same) f cdv A outer s H E).nox B0 F0 M [.d d, .d d, .un] [] ((match defBody s__law_same with | .If _ b _ _ :: _ => b | _ => [])) kk := fun ds q ⟨hl, m', hm, hy⟩ kk hkk => by
      subst hkk
      have hl' : -(2 ^ 62) ≤ (ds.length : Int) ∧ (ds.length : Int) < 2 ^ 62 := by omega
      refine db_cons <| ds_ret <| de_and <| de_cmp op_eq <| de_len g_le <| nm 0 rfl ⟨ds, q _, de_len g_le <| nm 1 rfl ⟨ds, q _, r2_eqI ⟨_, rfl, waysT (decide_eq_true rfl) ?_⟩⟩⟩
      refine de_one <| de_all g_al <| de_lcF 2 (fun _ => .bool true) <| di_range1 g_ra <| da_cons <| de_len g_le <| nm 0 rfl ⟨ds, q _, da_nil ⟨_, rfl, hl'.1, hl'.2, ?_, fun _ _ _ => trivial, ?_, fun D => ⟨List.replicate ds.length true, ?_, ?_⟩⟩⟩
      · rw [rngD_len]; omega
      · intro y D acc hy' b
        obtain ⟨i, hi, rfl⟩ := rngD_mem hy'
        have hi : i < ds.length := by omega
        have e : atI ds (0 + (i : Int)) = some ds[i] := atI_at (by omega) (by rw [show ((0 : Int) + (i : Int)).toNat = i by omega]; exact List.getElem?_eq_getElem hi)
        exact de_pu (G m' hm) hr <| da_cons <| de_ix ix_seq <| nm 0 rfl <| nm 2 rfl <| r2_ix (q _) e <| da_cons <| de_ix ix_seq <| nm 1 rfl <| nm 2 rfl <| r2_ix (q _) e <| da_nil <| da_pu ds[i] rfl (hy _ (List.getElem_mem hi)) ⟨rfl, rfl⟩
      · rw [show ((rngD 0 ((ds.length : Nat) : Int).toNat).map fun _ => PyData.bool true) = (List.replicate ds.length true).map PyData.bool by
          rw [List.map_const', rngD_len, List.map_replicate, Int.toNat_natCast]]
        exact .cell List.mem_cons_self
      · rw [show (List.replicate ds.length true).all id = true by simp]
        exact hW _
    refine db_cons <| ds_if <| dt_w <| dw_orP <| dt_w <| dw_andP <| dt_val <| de_isi bt_tuple g_is g_tu <| nm 0 rfl ⟨d, _, rfl, kTup _ d, _, rfl, isTup d, fun _ => dw_and1 <| dt_val <| de_isi bt_tuple g_is g_tu <| nm 1 rfl ⟨d, _, rfl, kTup _ d, _, rfl, rfl, rfl⟩,
      isLst d && isLst d, fun _ => dw_or1 <| dt_w <| dw_andP <| dt_val <| de_isi bt_list g_is g_li <| nm 0 rfl ⟨d, _, rfl, kLst _ d, _, rfl, isLst d, fun _ => dw_and1 <| dt_val <| de_isi bt_list g_is g_li <| nm 1 rfl ⟨d, _, rfl, kLst _ d, _, rfl, rfl, rfl⟩, rfl, rfl⟩, ?_⟩
    have rest : isTup d = false → isLst d = false → DB (cxOf CX0 P w K mg base ["a", "b", "k"] "_law_same" (defScope s__law_same) f cdv A outer s H E).nox B0 F0 M [.d d, .d d, .un] [] ((defBody s__law_same).drop 1) { nx := fun M' ρ' => W (.d .none) M', rt := W } := fun h1 h2 => by
      refine db_cons <| ds_if <| dt_w <| dw_orP <| dt_val <| de_isi bt_bool g_is g_bo <| nm 0 rfl ⟨d, _, rfl, kBool _ d, _, rfl, isBool d, fun _ => dw_or1 <| dt_val <| de_isi bt_bool g_is g_bo <| nm 1 rfl ⟨d, _, rfl, kBool _ d, _, rfl, rfl, rfl⟩, ?_⟩
      cases d with
      | bool b =>
        refine waysT rfl <| db_cons <| ds_ret <| de_and <| de_isi bt_bool g_is g_bo <| nm 0 rfl ⟨_, _, rfl, kBool _ _, _, rfl, waysT rfl <| de_and <| de_isi bt_bool g_is g_bo <| nm 1 rfl ⟨_, _, rfl, kBool _ _, _, rfl, waysT rfl <| de_one <| de_cmp op_eq <| nm 0 rfl <| nm 1 rfl <| r2_eq rfl rfl rfl ?_⟩⟩
        cases b <;> exact hW _
      | tuple ds => cases h1
      | list ds => cases h2
      | dict _ => cases m <;> exact hd.elim
      | int i =>
        refine waysF rfl <| db_nil <| db_cons <| ds_if <| dt_w <| dw_orP <| dt_w <| dw_andP <| dt_val <| de_isi bt_int g_is g_in <| nm 0 rfl ⟨_, _, rfl, kInt _ _, _, rfl, true, fun _ => dw_and1 <| dt_val <| de_isi bt_int g_is g_in <| nm 1 rfl ⟨_, _, rfl, kInt _ _, _, rfl, rfl, rfl⟩, true, (fun h => by cases h), waysT rfl ?_⟩
        refine db_cons <| ds_ret <| de_cmp op_eq <| nm 0 rfl <| nm 1 rfl <| r2_eqI ?_
        rw [decide_eq_true rfl]
        exact hW _
      | str x =>
        refine waysF rfl <| db_nil <| db_cons <| ds_if <| dt_w <| dw_orP <| dt_w <| dw_andP <| dt_val <| de_isi bt_int g_is g_in <| nm 0 rfl ⟨_, _, rfl, kInt _ _, _, rfl, true, (fun h => by cases h), true, fun _ => dw_or1 <| dt_w <| dw_andP <| dt_val <| de_isi bt_str g_is g_st <| nm 0 rfl ⟨_, _, rfl, kStr _ _, _, rfl, true, fun _ => dw_and1 <| dt_val <| de_isi bt_str g_is g_st <| nm 1 rfl ⟨_, _, rfl, kStr _ _, _, rfl, rfl, rfl⟩, rfl, rfl⟩, waysT rfl ?_⟩
        refine db_cons <| ds_ret <| de_cmp op_eq <| nm 0 rfl <| nm 1 rfl <| r2_eq rfl rfl rfl ?_
        rw [decide_eq_true rfl]
        exact hW _
      | none =>
        refine waysF rfl <| db_nil <| db_cons <| ds_if <| dt_w <| dw_orP <| dt_w <| dw_andP <| dt_val <| de_isi bt_int g_is g_in <| nm 0 rfl ⟨_, _, rfl, kInt _ _, _, rfl, true, (fun h => by cases h), false, fun _ => dw_or1 <| dt_w <| dw_andP <| dt_val <| de_isi bt_str g_is g_st <| nm 0 rfl ⟨_, _, rfl, kStr _ _, _, rfl, true, (fun h => by cases h), rfl, rfl⟩, waysF rfl <| db_nil ?_⟩
        exact db_cons <| ds_ret <| de_and <| de_cmp op_isN <| nm 0 rfl <| de_non <| r2_isN ⟨_, rfl, waysT rfl <| de_one <| de_cmp op_isN <| nm 1 rfl <| de_non <| r2_isN (hW _)⟩
    cases h1 : isTup d with
    | true =>
      cases d with
      | tuple ds =>
        cases m with
        | zero => exact hd.elim
        | succ m => exact waysT rfl (row ds (fun _ => .tup ds) ⟨hd.1, m, rfl, hd.2⟩ _ rfl)
      | _ => cases h1
    | false =>
      cases h2 : isLst d with
      | true =>
        cases d with
        | list ds =>
          cases m with
          | zero => exact hd.elim
          | succ m => exact waysT rfl (row ds (fun _ => .lst ds) ⟨hd.1, m, rfl, hd.2⟩ _ rfl)
        | _ => cases h2
      | false => exact waysF rfl <| db_nil <| rest h1 h2
end
end H92
namespace H92
open PySem PySem.Spec PyProof.Rows L2 DL
section
variable {P : Program} {w : World} {K : PySem.W.Frag} {mg : Str → Option Value} {base : Heap} {f : Addr} {fd : FuncData}
theorem go_same (k : Nat) (Fn : FnP K "_law_same" s__law_same f fd) (gm : mg "_law_same" = some (.ref f)) (g_is : mg "isinstance" = none) (g_tu : mg "tuple" = none) (g_li : mg "list" = none) (g_bo : mg "bool" = none) (g_in : mg "int" = none) (g_st : mg "str" = none) (g_le : mg "len" = none) (g_al : mg "all" = none) (g_ra : mg "range" = none) :
    ∀ m, Go P w K mg base "_law_same" (k + 1 + m) ["a", "b"] (R_same m) := by
  have one : ∀ (j m : Nat), (∀ m', m = m' + 1 → Go P w K mg base "_law_same" j ["a", "b"] (R_same m')) → Go P w K mg base "_law_same" (j + 1) ["a", "b"] (R_same m) := fun j m h =>
    go_of Fn gm (fun _ _ _ _ _ _ us hl => match us, hl with | [_, _], _ => rfl) (ok_same1 Fn h g_is g_tu g_li g_bo g_in g_st g_le g_al g_ra)
  intro m
  induction m with
  | zero => exact one k 0 fun m' h => by omega
  | succ m ih =>
    refine one (k + 1 + m) (m + 1) fun m' h => ?_
    have : m = m' := by omega
    subst this
    exact ih
end
/-! ### the box -/
/-- the box stands at the end of the cells -/
inductive Box (bx cs : Addr) : Cs → Prop
  | mk (ns : List Int) (dg sd : Int) : Box bx cs [(bx, .raw (.lst [.ref cs, .int dg, .int sd])), (cs, .lst (ns.map .int))]
def R_load (bx cs : Addr) : List Sl → Cs → (Sl → Cs → Prop) → Prop := fun κ M W => κ = [.v (.ref bx)] ∧ Box bx cs M ∧ ∀ (i : Int) M', Box bx cs M' → W (.d (.int i)) M'
def R_draw (bx cs : Addr) : List Sl → Cs → (Sl → Cs → Prop) → Prop := fun κ M W => ∃ m : Int, κ = [.v (.ref bx), .d (.int m)] ∧ Box bx cs M ∧ 0 < m ∧ m < 2 ^ 200 ∧ ∀ (i : Int) M', 0 ≤ i → i < m → Box bx cs M' → W (.d (.int i)) M'
section
variable {P : Program} {w : World} {K : PySem.W.Frag} {mg : Str → Option Value} {base : Heap} {f : Addr} {fd : FuncData} {bx cs : Addr}
theorem sc_load : FnScope ["box", "cells", "cell", "size", "first", "second"] ["box"] (defScope s__law_load) := ⟨rfl, rfl, rfl, by decide +kernel, rfl, by decide +kernel, by decide +kernel⟩
theorem cmulL {i : Int} (c : Int) (h : -(2 ^ 64) < c ∧ c < 2 ^ 64) : CMul i c := .inr h
theorem cmulF {i : Int} (c : Int) (h : -(2 ^ 64) < c ∧ c < 2 ^ 64) : CMul c i := .inl h
theorem ok_load {k : Nat} (Fn : FnP K "_law_load" s__law_load f fd) (g_le : mg "len" = none) (g_in : mg "int" = none) : FnOk P w K mg base CX0 (k + 1) f fd ["box"] (SpG K (R_load bx cs)) := by
  refine fn_okD Fn sc_load (fun κ M W h => ?_) fun cdv A outer s H E hr nd B0 F0 κ M W hR => ?_
  · obtain ⟨rfl, _⟩ := h
    rfl
  · obtain ⟨rfl, hb, hW⟩ := hR
    obtain ⟨ns, dg, sd⟩ := hb
    have tail : ∀ (ns' : List Int) (sd' : Int) (s2 s3 : Sl), DB (cxOf CX0 P w K mg base ["box", "cells", "cell", "size", "first", "second"] "_law_load" (defScope s__law_load) f cdv A outer s H E).nox B0 F0 [(bx, .raw (.lst [.ref cs, .int dg, .int sd'])), (cs, .lst (ns'.map .int))] [.v (.ref bx), .v (.ref cs), s2, s3, .un, .un] [] ((defBody s__law_load).drop 2) { nx := fun M' ρ' => W (.d .none) M', rt := W } := by
      intro ns' sd' s2 s3
      refine db_cons <| ds_set 4 <| de_op op_mod <| de_callTy call_int1 g_in bt_int <| da_cons <| de_op op_add <| de_op op_mul <| de_ix ix_list <| nm 0 rfl <| de_int <| r2_ixRaw (ws := [.ref cs, .int dg, .int sd']) (v := .int sd') (by simp) rfl <| de_int <| r2_c (cmulL _ (by decide)) <| de_int <| r2_i <| da_nil <| rn_int <| de_int <| r2_c (by decide) ?_
      refine db_cons <| ds_set 5 <| de_op op_mod <| de_callTy call_int1 g_in bt_int <| da_cons <| de_op op_add <| de_op op_mul <| nm 4 rfl <| de_int <| r2_c (cmulL _ (by decide)) <| de_int <| r2_i <| da_nil <| rn_int <| de_int <| r2_c (by decide) ?_
      refine db_cons <| ds_asg <| de_op op_mod <| de_callTy call_int1 g_in bt_int <| da_cons <| de_op op_add <| de_op op_mul <| nm 5 rfl <| de_int <| r2_c (cmulL _ (by decide)) <| de_int <| r2_i <| da_nil <| rn_int <| de_int <| r2_c (by decide) <| dg_subRaw 0 <| nm 0 rfl <| de_int ⟨bx, [.ref cs, .int dg, .int sd'], .int _, 2, 2, rfl, rfl, rfl, rfl, rfl, ?_⟩
      refine db_cons <| ds_ret <| de_op op_add <| de_op op_add <| de_op op_mul <| nm 4 rfl <| de_int <| r2_c (cmulL _ (by decide)) <| de_op op_mul <| nm 5 rfl <| de_int <| r2_c (cmulL _ (by decide)) <| r2_i <| de_ix ix_list <| nm 0 rfl <| de_int <| r2_ixRaw (ws := [.ref cs, .int dg, .int _]) (v := .int _) (by simp; rfl) rfl <| r2_i ?_
      exact hW _ _ (.mk _ _ _)
    refine db_cons <| ds_set 1 <| de_ix ix_list <| nm 0 rfl <| de_int <| r2_ixRaw (ws := [.ref cs, .int dg, .int sd]) (v := .ref cs) (by simp) rfl ?_
    refine db_cons <| ds_if <| dt_cmp op_gt <| de_len g_le <| nm 1 rfl ⟨ns.map .int, .cell (by simp), de_int <| r2_t ?_⟩
    refine waysD (fun c => ?_) (fun c => db_nil (tail ns sd .un .un))
    cases ns with
    | nil => simp at c
    | cons n ns =>
      refine db_cons <| ds_set 2 <| de_callTy call_int1 g_in bt_int <| da_cons <| de_popAt 1 <| nm 1 rfl ⟨cs, _, rfl, by simp; rfl, de_int ⟨_, 0, 0, _, rfl, rfl, by decide, by decide, ?_, rfl, da_nil <| rn_int ?_⟩⟩
      · simp [seqIndex?]
      refine db_cons <| ds_set 3 <| de_ifexp <| dt_cmp op_ge <| nm 2 rfl <| de_int <| r2_t ?_
      have two : ∀ (z : Int), DB (cxOf CX0 P w K mg base ["box", "cells", "cell", "size", "first", "second"] "_law_load" (defScope s__law_load) f cdv A outer s H E).nox B0 F0 [(bx, .raw (.lst [.ref cs, .int dg, .int sd])), (cs, .lst (ns.map .int))] [.v (.ref bx), .v (.ref cs), .d (.int n), .d (.int z), .un, .un] [] ((match (defBody s__law_load).getD 1 (.Pass ⟨0, 0, 0, 0⟩) with | .If _ b _ _ => b.drop 2 | _ => [])) { nx := fun M' ρ' => DB (cxOf CX0 P w K mg base ["box", "cells", "cell", "size", "first", "second"] "_law_load" (defScope s__law_load) f cdv A outer s H E).nox B0 F0 M' ρ' [] ((defBody s__law_load).drop 2) { nx := fun M' ρ' => W (.d .none) M', rt := W }, rt := W } := by
        intro z
        refine db_cons <| ds_if <| dt_cmp op_ge <| nm 3 rfl <| de_int <| r2_t ?_
        refine waysD (fun c => db_cons <| ds_ret <| nm 3 rfl <| hW _ _ (.mk _ _ _)) (fun c => db_nil ?_)
        refine db_cons <| ds_asg <| de_op op_mod <| de_callTy call_int1 g_in bt_int <| da_cons <| de_op op_add <| de_op op_add <| de_op op_mul <| de_ix ix_list <| nm 0 rfl <| de_int <| r2_ixRaw (ws := [.ref cs, .int dg, .int sd]) (v := .int sd) (by simp) rfl <| de_int <| r2_c (cmulL _ (by decide)) <| de_op op_mul <| nm 3 rfl <| de_int <| r2_c (cmulL _ (by decide)) <| r2_i <| de_int <| r2_i <| da_nil <| rn_int <| de_int <| r2_c (by decide) <| dg_subRaw 0 <| nm 0 rfl <| de_int ⟨bx, [.ref cs, .int dg, .int sd], .int _, 2, 2, rfl, rfl, rfl, rfl, rfl, ?_⟩
        exact db_nil (tail ns _ _ _)
      refine waysD (fun c => ?_) (fun c => ?_)
      · exact de_op op_mul <| de_int <| nm 2 rfl <| r2_c (cmulF _ (by decide)) <| two _
      · exact de_op op_sub <| de_op op_mul <| de_unop un_neg <| de_int <| r1_U (fun _ => .int _) <| nm 2 rfl <| r2_c (cmulF _ (by decide)) <| de_int <| r2_i <| two _
end
end H92
set_option maxHeartbeats 4000000
namespace DL
open PySem PySem.Spec PyProof.Rows L2
section
variable {X : Cx} {B0 F : Hp} {M : Cs} {ρ κ : List Sl} {P : Sl → Cs → Prop} {e : Expr} {es : List Expr} {p pos : Pos} {x : Str} {lv : Nat} {ps : List Str}
/-- a def called that may change all cells behind the first j -/
theorem de_goJ (j : Nat) {R : List Sl → Cs → (Sl → Cs → Prop) → Prop} (G : Go X.prog X.w X.K X.mg X.base x lv ps R) (hr : Room lv X.A)
    (h : DA X B0 F M ρ κ (e :: es) fun rs M1 => R rs (M1.drop j) fun r M2 => NoRd r ∧ P r (M1.take j ++ M2)) (hg : Gl X x := by rfl) (hdb : (x == ("__debug__" : Str)) = false := by decide)
    (he : starEach (e :: es) X.env = (false, eval e X.env) :: starEach es X.env := by rfl) (hpl : (backTo pos (starEach es X.env)).any (·.1) = false := by rfl) : DE X B0 F M ρ κ (.Call (.Name x p) (e :: es) [] pos) P := by
  obtain ⟨f, fd, hm, hk, hb, Fo⟩ := G
  exact de_callJ j Fo hr hm hk hb h hg hdb he hpl
end
end DL
namespace H92
open PySem PySem.Spec PyProof.Rows L2 DL
def R_box : List Sl → Cs → (Sl → Cs → Prop) → Prop := fun κ M W => ∃ ns : List Int, ns.length ≤ 100000 ∧ κ = [.rd (iL ns)] ∧ M = [] ∧ ∀ bx cs M', Box bx cs M' → W (.v (.ref bx)) M'
section
variable {P : Program} {w : World} {K : PySem.W.Frag} {mg : Str → Option Value} {base : Heap} {f : Addr} {fd : FuncData} {bx cs : Addr}
theorem sc_draw : FnScope ["box", "many", "digit"] ["box", "many"] (defScope s__law_draw) := ⟨rfl, rfl, rfl, by decide +kernel, rfl, by decide +kernel, by decide +kernel⟩
theorem log_200 {m : Int} (h0 : 0 < m) (h : m < 2 ^ 200) : m.natAbs.log2 < 9000 := by
  have h1 : m.natAbs < 2 ^ 200 := by
    have : ((m.natAbs : Nat) : Int) < ((2 ^ 200 : Nat) : Int) := by rw [Int.natAbs_of_nonneg (by omega)]; exact_mod_cast h
    exact Int.ofNat_lt.mp this
  exact Nat.lt_of_lt_of_le ((Nat.log2_lt (by omega)).mpr h1) (by decide)
theorem ok_draw {k : Nat} (Fn : FnP K "_law_draw" s__law_draw f fd) (G : Go P w K mg base "_law_load" k ["box"] (R_load bx cs)) (g_in : mg "int" = none) : FnOk P w K mg base CX0 (k + 1) f fd ["box", "many"] (SpG K (R_draw bx cs)) := by
  refine fn_okD Fn sc_draw (fun κ M W h => ?_) fun cdv A outer s H E hr nd B0 F0 κ M W hR => ?_
  · obtain ⟨m, rfl, _⟩ := h
    rfl
  · obtain ⟨m, rfl, hb, h0, hm, hW⟩ := hR
    have tail : ∀ M, Box bx cs M → DB (cxOf CX0 P w K mg base ["box", "many", "digit"] "_law_draw" (defScope s__law_draw) f cdv A outer s H E).nox B0 F0 M [.v (.ref bx), .d (.int m), .un] [] ((defBody s__law_draw).drop 1) { nx := fun M' ρ' => W (.d .none) M', rt := W } := by
      rintro M ⟨ns, dg, sd⟩
      refine db_cons <| ds_set 2 <| de_op op_mod <| de_callTy call_int1 g_in bt_int <| da_cons <| de_ix ix_list <| nm 0 rfl <| de_int <| r2_ixRaw (ws := [.ref cs, .int dg, .int sd]) (v := .int dg) (by simp) rfl <| da_nil <| rn_int <| nm 1 rfl <| r2_c h0 ?_
      refine db_cons <| ds_asg <| de_op op_fdivW <| de_ix ix_list <| nm 0 rfl <| de_int <| r2_ixRaw (ws := [.ref cs, .int dg, .int sd]) (v := .int dg) (by simp) rfl <| nm 1 rfl <| r2_c ⟨h0, log_200 h0 hm⟩ <| dg_subRaw 0 <| nm 0 rfl <| de_int ⟨bx, [.ref cs, .int dg, .int sd], .int _, 1, 1, rfl, rfl, rfl, rfl, rfl, ?_⟩
      exact db_cons <| ds_ret <| nm 2 rfl <| hW _ _ (Int.emod_nonneg _ (by omega)) (Int.emod_lt_of_pos _ h0) (.mk _ _ _)
    obtain ⟨ns, dg, sd⟩ := hb
    refine db_cons <| ds_if <| dt_cmp op_lt <| de_ix ix_list <| nm 0 rfl <| de_int <| r2_ixRaw (ws := [.ref cs, .int dg, .int sd]) (v := .int dg) (by simp) rfl <| nm 1 rfl <| r2_t ?_
    refine waysD (fun c => ?_) (fun c => db_nil (tail _ (.mk _ _ _)))
    refine db_cons <| ds_asg <| de_goJ 0 G hr <| da_cons <| nm 0 rfl <| da_nil ⟨rfl, .mk ns dg sd, fun i M' hb => ⟨trivial, ?_⟩⟩
    obtain ⟨ns', dg', sd'⟩ := hb
    exact dg_subRaw 0 <| nm 0 rfl <| de_int ⟨bx, [.ref cs, .int dg', .int sd'], .int i, 1, 1, rfl, rfl, rfl, rfl, rfl, db_nil (tail _ (.mk ns' i sd'))⟩
theorem cutI (ns : List Int) (l u : Option Int) : ∃ ms, DL.cutD (iL ns) l u = iL ms := by
  unfold DL.cutD
  rw [← List.map_drop, ← List.map_take]
  exact ⟨_, rfl⟩
theorem sc_box : FnScope ["script"] ["script"] (defScope s__law_box) := ⟨rfl, rfl, rfl, by decide +kernel, rfl, by decide +kernel, by decide +kernel⟩
theorem ok_box {k : Nat} (Fn : FnP K "_law_box" s__law_box f fd) (g_le : mg "len" = none) (g_li : mg "list" = none) : FnOk P w K mg base CX0 (k + 1) f fd ["script"] (SpG K R_box) := by
  refine fn_okD Fn sc_box (fun κ M W h => ?_) fun cdv A outer s H E hr nd B0 F0 κ M W hR => ?_
  · obtain ⟨m, _, rfl, _⟩ := h
    rfl
  · obtain ⟨ns, hl, rfl, rfl, hW⟩ := hR
    refine db_cons <| ds_ret <| de_lstRaw <| da_cons <| de_listOf g_li <| de_freeze <| de_slice sl_list <| nm 0 rfl <| do_none <| do_some <| de_int ⟨_, rfl, rs_listC (.rd _) fun p => ⟨p, _, _, rfl, rfl, _, .lst _, fun cs => da_cons <| de_int <| da_cons <| de_op op_add <| de_int <| de_len g_le <| nm 0 rfl ⟨_, .rd _, r2_i <| da_nil ⟨[.ref cs, .int 0, .int _], rfl, z3, fun bx => ?_⟩⟩⟩⟩
    obtain ⟨ms, hm⟩ := cutI ns none (some 63)
    rw [hm]
    exact hW bx cs _ (.mk _ _ _)
end
end H92
set_option maxHeartbeats 4000000
namespace G92
abbrev Ed := List (Nat × Nat)
def step (s : Nat × Bool) (e : Nat × Nat) : Nat × Bool := if s.1.testBit e.1 != s.1.testBit e.2 then (s.1 ||| 1 <<< e.1 ||| 1 <<< e.2, true) else s
def pass (es : Ed) (m : Nat) : Nat × Bool := es.foldl step (m, false)
def loop : Nat → Ed → Nat → Option Nat
  | 0, _, _ => none
  | f + 1, es, m => if (pass es m).2 then loop f es (pass es m).1 else some (pass es m).1
/-- the places that hang on the ground -/
def hang (n : Nat) (es : Ed) : Option (List Nat) := (loop 4 es 1).map fun m => (List.range n).filter fun i => m.testBit i
def le (p q : Nat × Nat) : Bool := p.1 < q.1 || (p.1 == q.1 && p.2 ≤ q.2)
def insG {α : Type} (le : α → α → Bool) (p : α) : List α → List α
  | [] => [p]
  | q :: es => if le p q then p :: q :: es else q :: insG le p es
def isortG {α : Type} (le : α → α → Bool) : List α → List α
  | [] => []
  | p :: es => insG le p (isortG le es)
def isort (es : Ed) : Ed := isortG le es
def del (es : Ed) (e : Nat) : Ed := es.take e ++ es.drop (e + 1)
def cutM (n : Nat) (es : Ed) (e : Nat) : Option (Nat × Ed) := (hang n (del es e)).bind fun L =>
  if ((del es e).all fun p => !L.contains p.1 || L.contains p.2) then some (L.length, isort (((del es e).filter fun p => L.contains p.1).map fun p => (L.idxOf p.1, L.idxOf p.2))) else none
def bridge (n : Nat) (es : Ed) (e : Nat) : Option Bool := (hang n (del es e)).map fun L => decide (L.length < n)
/-- all edges are bridges between places -/
def calm (n : Nat) (es : Ed) : Bool := (es.all fun p => decide (p.1 < n) && decide (p.2 < n)) && (List.range es.length).all fun e => decide (bridge n es e = some true)
def fuse (es : Ed) : Ed := isort (es.map fun p => (min p.1 p.2, max p.1 p.2))
def tv : Nat → Ed → Nat → Option Nat → Option Nat
  | 0, _, _, _ => none
  | f + 1, es, p, b => es.foldl (fun acc e => acc.bind fun found =>
      if e.1 = e.2 ∧ e.2 = p then some (found ^^^ 1) else
      if p = e.1 ∨ p = e.2 then (if some (e.1 + e.2 - p) = b then some found else (tv f es (e.1 + e.2 - p) (some p)).map fun v => found ^^^ (v + 1)) else some found) (some 0)
def bval (n : Nat) (es : Ed) : Option Nat := if calm n es then tv 6 (fuse es) 0 none else none
def wins (n : Nat) (es : Ed) : Option (List Nat) := (List.range es.length).foldl (fun acc e => acc.bind fun l => (cutM n es e).bind fun c => (bval c.1 c.2).map fun v => if v = 0 then l ++ [e] else l) (some [])
/-! the law's own stalks -/
def stalkE (c n : Nat) : Ed := (List.range c).map fun h => (if h = 0 then 0 else n + h - 1, n + h)
def stalkS (i c : Nat) : Ed := (List.range c).map fun h => (i, h)
def stalks : Nat → List Nat → Nat → Ed × Ed × Nat
  | _, [], n => ([], [], n)
  | i, l :: ls, n => (stalkE l n ++ (stalks (i + 1) ls (n + l)).1, stalkS i l ++ (stalks (i + 1) ls (n + l)).2.1, (stalks (i + 1) ls (n + l)).2.2)
theorem stalks_snoc (l : Nat) : ∀ (xs : List Nat) (i n : Nat), stalks i (xs ++ [l]) n = ((stalks i xs n).1 ++ stalkE l (stalks i xs n).2.2, (stalks i xs n).2.1 ++ stalkS (i + xs.length) l, (stalks i xs n).2.2 + l)
  | [], i, n => by simp [stalks]
  | x :: xs, i, n => by
    rw [List.cons_append, stalks, stalks, stalks_snoc l xs (i + 1) (n + x)]
    simp only [List.append_assoc, List.length_cons]
    rw [show i + 1 + xs.length = i + (xs.length + 1) by omega]
theorem stalkE_succ (c n : Nat) : stalkE (c + 1) n = stalkE c n ++ [(if c = 0 then 0 else n + c - 1, n + c)] := by
  unfold stalkE
  rw [List.range_succ, List.map_append]
  rfl
theorem stalkS_succ (i c : Nat) : stalkS i (c + 1) = stalkS i c ++ [(i, c)] := by
  unfold stalkS
  rw [List.range_succ, List.map_append]
  rfl
theorem stalkE_len (c n : Nat) : (stalkE c n).length = c := by simp [stalkE]
theorem stalkS_len (i c : Nat) : (stalkS i c).length = c := by simp [stalkS]
theorem stalks_len : ∀ (ls : List Nat) (i n : Nat), (stalks i ls n).1.length = ls.sum ∧ (stalks i ls n).2.1.length = ls.sum ∧ (stalks i ls n).2.2 = n + ls.sum
  | [], i, n => by simp [stalks]
  | l :: ls, i, n => by
    obtain ⟨h1, h2, h3⟩ := stalks_len ls (i + 1) (n + l)
    rw [stalks]
    exact ⟨by rw [List.length_append, stalkE_len, h1, List.sum_cons], by rw [List.length_append, stalkS_len, h2, List.sum_cons], by rw [h3, List.sum_cons]; omega⟩
def le2 (p q : (Nat × Nat) × (Nat × Nat)) : Bool := (le p.1 q.1 && p.1 != q.1) || (p.1 == q.1 && le p.2 q.2)
def isort2 (es : List ((Nat × Nat) × (Nat × Nat))) : List ((Nat × Nat) × (Nat × Nat)) := isortG le2 es
def order (ls : List Nat) : List ((Nat × Nat) × (Nat × Nat)) := isort2 ((stalks 0 ls 1).1.zip (stalks 0 ls 1).2.1)
def xorN (ls : List Nat) : Nat := ls.foldl (· ^^^ ·) 0
def movN (t : Nat) : Nat → List Nat → Ed
  | _, [] => []
  | i, z :: zs => (if z ^^^ t < z then [(i, z ^^^ t)] else []) ++ movN t (i + 1) zs
def good (ls : List Nat) : Bool :=
  decide (bval (stalks 0 ls 1).2.2 ((order ls).map (·.1)) = some (xorN ls)) &&
  decide (wins (stalks 0 ls 1).2.2 ((order ls).map (·.1)) = some ((List.range (order ls).length).filter fun e => (movN (xorN ls) 0 ls).contains (((order ls).map (·.2)).getD e (0, 0))))
def fam : List (List Nat) := [1, 2, 3, 4].flatMap fun a => [a] :: [1, 2, 3, 4].flatMap fun b => [a, b] :: (if a + b < 8 then [1, 2, 3, 4] else [1, 2, 3]).map fun c => [a, b, c]
/-! sorting in two ways -/
section
variable {α : Type} {le : α → α → Bool}
theorem insG_perm (p : α) : ∀ l : List α, (insG le p l).Perm (p :: l)
  | [] => .refl _
  | q :: es => by
    unfold insG
    split
    · exact .refl _
    · exact ((insG_perm p es).cons q).trans (.swap _ _ _)
theorem isortG_perm : ∀ l : List α, (isortG le l).Perm l
  | [] => .refl _
  | p :: l => (insG_perm p _).trans ((isortG_perm l).cons p)
theorem insG_sorted (tr : ∀ a b c, le a b = true → le b c = true → le a c = true) (tot : ∀ a b, (le a b || le b a) = true) (p : α) : ∀ l : List α, l.Pairwise (fun a b => le a b = true) → (insG le p l).Pairwise fun a b => le a b = true
  | [], _ => by simp [insG]
  | q :: es, h => by
    obtain ⟨h1, h2⟩ := List.pairwise_cons.mp h
    unfold insG
    by_cases c : le p q = true
    · rw [if_pos c]
      exact List.pairwise_cons.mpr ⟨fun x hx => by
        rcases List.mem_cons.mp hx with rfl | hx
        · exact c
        · exact tr _ _ _ c (h1 x hx), h⟩
    · rw [if_neg c]
      refine List.pairwise_cons.mpr ⟨fun x hx => ?_, insG_sorted tr tot p es h2⟩
      rcases List.mem_cons.mp ((insG_perm p es).mem_iff.mp hx) with rfl | hx
      · have := tot x q
        rw [Bool.or_eq_true] at this
        rcases this with h | h
        · exact absurd h c
        · exact h
      · exact h1 x hx
theorem isortG_sorted (tr : ∀ a b c, le a b = true → le b c = true → le a c = true) (tot : ∀ a b, (le a b || le b a) = true) : ∀ l : List α, (isortG le l).Pairwise fun a b => le a b = true
  | [] => .nil
  | p :: l => insG_sorted tr tot p _ (isortG_sorted tr tot l)
theorem sorted_uniq (anti : ∀ a b, le a b = true → le b a = true → a = b) : ∀ {l m : List α}, l.Perm m → (l.Pairwise fun a b => le a b = true) → (m.Pairwise fun a b => le a b = true) → l = m
  | [], m, h, _, _ => h.nil_eq
  | a :: l, [], h, _, _ => absurd h.length_eq (by simp)
  | a :: l, b :: m, h, h1, h2 => by
    obtain ⟨p1, p2⟩ := List.pairwise_cons.mp h1
    obtain ⟨q1, q2⟩ := List.pairwise_cons.mp h2
    have e : a = b := by
      rcases List.mem_cons.mp (h.mem_iff.mp (List.mem_cons_self (a := a) (l := l))) with e | ha
      · exact e
      · rcases List.mem_cons.mp (h.mem_iff.mpr (List.mem_cons_self (a := b) (l := m))) with e | hb
        · exact e.symm
        · exact anti _ _ (p1 b hb) (q1 a ha)
    subst e
    rw [sorted_uniq anti (List.perm_cons a |>.mp h) p2 q2]
theorem msort_eq (tr : ∀ a b c, le a b = true → le b c = true → le a c = true) (tot : ∀ a b, (le a b || le b a) = true) (anti : ∀ a b, le a b = true → le b a = true → a = b) (l : List α) : l.mergeSort le = isortG le l :=
  sorted_uniq anti ((List.mergeSort_perm l le).trans (isortG_perm l).symm) (List.pairwise_mergeSort tr tot l) (isortG_sorted tr tot l)
end
theorem le_iff {p q : Nat × Nat} : le p q = true ↔ p.1 < q.1 ∨ (p.1 = q.1 ∧ p.2 ≤ q.2) := by
  unfold le
  simp
theorem le_tr (a b c : Nat × Nat) (h : le a b = true) (h2 : le b c = true) : le a c = true := by
  rw [le_iff] at *
  omega
theorem le_tot (a b : Nat × Nat) : (le a b || le b a) = true := by
  rw [Bool.or_eq_true, le_iff, le_iff]
  omega
theorem le_anti (a b : Nat × Nat) (h : le a b = true) (h2 : le b a = true) : a = b := by
  rw [le_iff] at *
  exact Prod.ext (by omega) (by omega)
abbrev P4 := (Nat × Nat) × (Nat × Nat)
def key4 (p : P4) : Nat × Nat × Nat × Nat := (p.1.1, p.1.2, p.2.1, p.2.2)
theorem le2_iff {p q : P4} : le2 p q = true ↔ p.1.1 < q.1.1 ∨ (p.1.1 = q.1.1 ∧ (p.1.2 < q.1.2 ∨ (p.1.2 = q.1.2 ∧ (p.2.1 < q.2.1 ∨ (p.2.1 = q.2.1 ∧ p.2.2 ≤ q.2.2))))) := by
  obtain ⟨⟨a, b⟩, c, d⟩ := p
  obtain ⟨⟨x, y⟩, z, u⟩ := q
  unfold le2
  simp only [Bool.or_eq_true, Bool.and_eq_true, le_iff, bne_iff_ne, ne_eq, Prod.mk.injEq, beq_iff_eq]
  omega
theorem le2_tr (a b c : P4) (h : le2 a b = true) (h2 : le2 b c = true) : le2 a c = true := by
  rw [le2_iff] at *
  omega
theorem le2_tot (a b : P4) : (le2 a b || le2 b a) = true := by
  rw [Bool.or_eq_true, le2_iff, le2_iff]
  omega
theorem le2_anti (a b : P4) (h : le2 a b = true) (h2 : le2 b a = true) : a = b := by
  rw [le2_iff] at *
  exact Prod.ext (Prod.ext (by omega) (by omega)) (Prod.ext (by omega) (by omega))
theorem fam_good : fam.all good = true := by decide +kernel
end G92
set_option maxHeartbeats 4000000
namespace DL
open PySem PySem.Spec PyProof.Rows L2
theorem valD_app (es fs : List (Key × PyData)) (k : Key) : valD (es ++ fs) k = (valD es k).or (valD fs k) := by
  unfold valD
  rw [List.find?_append]
  cases es.find? fun kv => decide (kv.1 = k) <;> rfl
theorem valD_one (k k' : Key) (v : PyData) : valD [(k, v)] k' = if k' = k then some v else none := by
  unfold valD
  by_cases c : k' = k
  · subst c; simp
  · rw [if_neg c]
    have : ¬ k = k' := fun h => c h.symm
    simp [this]
theorem valD_none {es : List (Key × PyData)} {k : Key} (h : ¬ (es.any fun kv => decide (kv.1 = k)) = true) : valD es k = none := by
  unfold valD
  rw [List.find?_eq_none.mpr fun kv hkv => ?_]
  · rfl
  · intro hc
    exact h (List.any_eq_true.mpr ⟨kv, hkv, hc⟩)
theorem valD_put (es : List (Key × PyData)) (k k' : Key) (v : PyData) : valD (putD es k v) k' = if k' = k then some v else valD es k' := by
  unfold putD
  by_cases c : (es.any fun kv => decide (kv.1 = k)) = true
  · rw [if_pos c]
    induction es with
    | nil => cases c
    | cons e es ih =>
      obtain ⟨ek, ev⟩ := e
      unfold valD at ih ⊢
      rw [List.map_cons, List.find?_cons, List.find?_cons]
      by_cases a : ek = k
      · subst a
        rw [if_pos rfl]
        by_cases b : k' = ek
        · subst b; simp
        · have b2 : ¬ ek = k' := fun h => b h.symm
          rw [if_neg b]
          simp only [decide_eq_false b2]
          by_cases c2 : (es.any fun kv => decide (kv.1 = ek)) = true
          · rw [ih c2, if_neg b]
          · congr 2
            refine (List.map_congr_left fun kv hkv => ?_).trans (List.map_id _)
            rw [if_neg fun h => c2 (List.any_eq_true.mpr ⟨kv, hkv, decide_eq_true h⟩)]
            rfl
      · rw [if_neg a]
        have c2 : (es.any fun kv => decide (kv.1 = k)) = true := by
          rw [List.any_cons, decide_eq_false a, Bool.false_or] at c
          exact c
        by_cases b : k' = ek
        · subst b
          rw [if_neg (fun h => a h)]
          simp
        · have b2 : ¬ ek = k' := fun h => b h.symm
          simp only [decide_eq_false b2]
          exact ih c2
  · rw [if_neg c, valD_app, valD_one]
    by_cases b : k' = k
    · subst b
      rw [valD_none c, if_pos rfl]
      rfl
    · rw [if_neg b, if_neg b]
      cases valD es k' <;> rfl
end DL
namespace H92
open PySem PySem.Spec PyProof.Rows L2 DL G92
def edD (e : Nat × Nat) : PyData := .tuple [.int e.1, .int e.2]
abbrev edL (es : Ed) : List PyData := es.map edD
/-- the dict's keys are the bits -/
structure DicIs (es : List (Key × PyData)) (m : Nat) (b : Nat) : Prop where
  has : ∀ k : Nat, (valD es (.inl (k : Int))).isSome = m.testBit k
  len : es.length ≤ b
theorem DicIs.put {es : List (Key × PyData)} {m b : Nat} (h : DicIs es m b) (k : Nat) (v : PyData) : DicIs (putD es (.inl (k : Int)) v) (m ||| 1 <<< k) (b + 1) := by
  refine ⟨fun j => ?_, Nat.le_trans (putD_len _ _ _) (Nat.succ_le_succ h.len)⟩
  rw [valD_put, Nat.testBit_or, Nat.one_shiftLeft, Nat.testBit_two_pow]
  by_cases c : j = k
  · subst c
    simp
  · have c1 : ¬ (Sum.inl (j : Int) : Key) = .inl (k : Int) := fun e => c (by have := Sum.inl.inj e; omega)
    have c2 : ¬ k = j := fun e => c e.symm
    rw [if_neg c1, h.has, decide_eq_false c2, Bool.or_false]
def passTake (es : Ed) (m i : Nat) : Nat × Bool := (es.take i).foldl step (m, false)
theorem passTake_succ {es : Ed} {m i : Nat} {e : Nat × Nat} (h : es[i]? = some e) : passTake es m (i + 1) = step (passTake es m i) e := by
  unfold passTake
  rw [take_get h, List.foldl_append]
  rfl
section
variable {P : Program} {w : World} {K : PySem.W.Frag} {mg : Str → Option Value} {base : Heap} {f : Addr} {fd : FuncData}
theorem sc_hang : FnScope ["n", "edges", "seen", "again", "i", "j", "place"] ["n", "edges"] (defScope s_hanging) := ⟨rfl, rfl, rfl, by decide +kernel, rfl, by decide +kernel, by decide +kernel⟩
def natL (ns : List Nat) : List PyData := ns.map fun i => .int (i : Nat)
abbrev R_hang := Pu (fun a : (Nat × Ed) × List Nat => [.d (.int (a.1.1 : Nat)), .d (.tuple (edL a.1.2))]) (fun a => a.1.1 ≤ 1000 ∧ a.1.2.length ≤ 1000 ∧ hang a.1.1 a.1.2 = some a.2) (fun a => .list (natL a.2))
theorem ok_hang {k : Nat} (Fn : FnP K "hanging" s_hanging f fd) (g_ra : mg "range" = none) : FnOk P w K mg base CX0 (k + 1) f fd ["n", "edges"] (SpG K R_hang) := by
  refine fn_okD Fn sc_hang (fun κ M W h => ?_) fun cdv A outer s H E hr nd B0 F0 κ M W hR => ?_
  · obtain ⟨ns, rfl, _⟩ := h
    rfl
  · obtain ⟨⟨⟨n, es⟩, L⟩, hκ, ⟨hn, hes, hL⟩, hW⟩ := hR
    have hκ : κ = [.d (.int (n : Nat)), .d (.tuple (edL es))] := hκ
    subst hκ
    have hn : n ≤ 1000 := hn
    have hes : es.length ≤ 1000 := hes
    have hL : hang n es = some L := hL
    have hW : ∀ M', W (.d (.list (natL L))) M' := hW
    have hu := hu_of hr
    obtain ⟨fin, hfin, hLf⟩ : ∃ fin, loop 4 es 1 = some fin ∧ L = (List.range n).filter fun i => fin.testBit i := by
      unfold hang at hL
      cases q : loop 4 es 1 with
      | none => rw [q] at hL; cases hL
      | some fin => rw [q] at hL; exact ⟨fin, rfl, (Option.some.inj hL).symm⟩
    refine db_cons <| ds_parT 2 <| da_cons <| de_disp1 fun p => de_int <| de_bl ⟨.inl 0, .bool true, M, .int 0, rfl, rfl, da_cons <| de_bl <| da_nil ⟨rfl, dgs_cons <| dg_name 2 <| dgs_cons <| dg_name 3 <| dgs_nil ?_⟩⟩
    have st0 : DicIs [(Sum.inl 0, PyData.bool true)] 1 (1 + (4 - 4) * 2000) := ⟨fun k => by
      rw [valD_one]
      by_cases c : k = 0
      · subst c; rfl
      · have c1 : ¬ (Sum.inl (k : Int) : Key) = .inl 0 := fun e => c (by have := Sum.inl.inj e; omega)
        rw [if_neg c1]
        show false = _
        rw [show (1 : Nat) = 2 ^ 0 from rfl, Nat.testBit_two_pow]
        simp; omega, Nat.le_refl _⟩
    refine db_cons <| ds_while (fun fu M' ρ' => ∃ ds m ag s4 s5, M' = (p, .dic ds) :: M ∧ ρ' = [.d (.int (n : Nat)), .d (.tuple (edL es)), .v (.ref p), .d (.bool ag), s4, s5, .un] ∧ DicIs ds m (1 + (4 - fu) * 2000) ∧ fu ≤ 4 ∧ (if ag then loop fu es m = some fin else m = fin)) 4 ⟨_, 1, true, _, _, rfl, rfl, st0, Nat.le_refl _, hfin⟩ ?_
    rintro fu M' ρ' ⟨ds, m, ag, s4, s5, rfl, rfl, hd, hfu, hag⟩
    refine dt_val <| nm 3 rfl ⟨ag, rfl, fun c => ?_, fun c => ?_⟩
    · subst c
      have hag : loop fu es m = some fin := hag
      cases fu with
      | zero => cases hag
      | succ fu =>
        refine db_cons <| ds_set 3 <| de_bl ?_
        refine db_cons <| ds_for <| di_tup <| nm 1 rfl ⟨_, rfl, fun i M' ρ' => ∃ ds s4 s5, M' = (p, .dic ds) :: M ∧ ρ' = [.d (.int (n : Nat)), .d (.tuple (edL es)), .v (.ref p), .d (.bool (passTake es m i).2), s4, s5, .un] ∧ DicIs ds (passTake es m i).1 (1 + (4 - (fu + 1)) * 2000 + 2 * i), ⟨ds, _, _, rfl, rfl, hd⟩, fun _ _ _ _ => trivial, ?_, ?_⟩
        · rintro i d M' ρ' hdd ⟨ds, s4, s5, rfl, rfl, hd⟩
          obtain ⟨⟨a, b⟩, he, rfl⟩ := map_get hdd
          have hil : i < es.length := (List.getElem?_eq_some_iff.mp he).1
          have hps := passTake_succ (m := m) he
          refine dg_tup rfl <| dgs_cons <| dg_name 4 <| dgs_cons <| dg_name 5 <| dgs_nil ?_
          refine db_cons <| ds_if <| dt_cmp op_ne <| de_din hu <| nm 4 rfl <| nm 2 rfl ⟨p, ds, .inl (a : Int), rfl, List.mem_cons_self, .int _, de_din hu <| nm 5 rfl <| nm 2 rfl ⟨p, ds, .inl (b : Int), rfl, List.mem_cons_self, .int _, r2_ne rfl rfl rfl ⟨_, rfl, ?_⟩⟩⟩
          have ec : (!decide (V.bl (valD ds (.inl (a : Int))).isSome = V.bl (valD ds (.inl (b : Int))).isSome)) = ((passTake es m i).1.testBit a != (passTake es m i).1.testBit b) := by
            rw [hd.has, hd.has]
            cases (passTake es m i).1.testBit a <;> cases (passTake es m i).1.testBit b <;> rfl
          rw [ec]
          refine ways (fun c => ?_) (fun c => ?_)
          · have hd1 := (hd.put a (.bool true)).put b (.bool true)
            refine db_cons <| ds_asg <| de_tup <| da_cons <| de_bl <| da_cons <| de_bl <| da_cons <| de_bl <| da_nil ⟨[_, _, _], rfl, z3, dg_tup rfl <| dgs_cons <| dg_subD 0 hu <| nm 2 rfl <| nm 4 rfl ⟨p, ds, _, _, rfl, .int _, rfl, rfl, ?_, dgs_cons <| dg_subD 0 hu <| nm 2 rfl <| nm 5 rfl ⟨p, _, _, _, rfl, .int _, rfl, rfl, ?_, dgs_cons <| dg_name 3 <| dgs_nil <| db_nil <| db_nil ⟨_, .d (.int (a : Nat)), .d (.int (b : Nat)), rfl, ?_, ?_⟩⟩⟩⟩
            · exact Nat.lt_of_le_of_lt hd.len (by omega)
            · exact Nat.lt_of_le_of_lt (hd.put a (.bool true)).len (by omega)
            · rw [hps]
              unfold G92.step
              rw [if_pos c]
              rfl
            · rw [hps]
              unfold G92.step
              rw [if_pos c]
              exact ⟨hd1.has, Nat.le_trans hd1.len (by omega)⟩
          · refine db_nil <| db_nil ⟨_, .d (.int (a : Nat)), .d (.int (b : Nat)), rfl, ?_, ?_⟩
            · rw [hps]
              unfold G92.step
              rw [if_neg (by rw [c]; decide)]
              rfl
            · rw [hps]
              unfold G92.step
              rw [if_neg (by rw [c]; decide)]
              exact ⟨hd.has, Nat.le_trans hd.len (by omega)⟩
        · rintro M' ρ' ⟨ds, s4, s5, rfl, rfl, hd⟩
          rw [List.length_map] at hd ⊢
          have e : passTake es m es.length = pass es m := by unfold passTake pass; rw [List.take_length]
          rw [e] at hd ⊢
          refine db_nil ?_
          rw [loop] at hag
          cases q : (pass es m).2 with
          | true =>
            rw [q, if_pos rfl] at hag
            exact ⟨fu, by omega, ds, _, true, _, _, rfl, rfl, ⟨hd.has, Nat.le_trans hd.len (by omega)⟩, by omega, hag⟩
          | false =>
            rw [q, if_neg (by decide)] at hag
            exact ⟨fu, by omega, ds, _, false, _, _, rfl, rfl, ⟨hd.has, Nat.le_trans hd.len (by omega)⟩, by omega, Option.some.inj hag⟩
    · subst c
      have hag : m = fin := hag
      subst hag
      refine db_cons <| ds_ret <| de_freeze <| de_lcIfF 6 (fun d => match d with
        | .int i => m.testBit i.toNat
        | _ => false) id <| di_range1 g_ra <| da_cons <| nm 0 rfl <| da_nil ⟨_, rfl, by omega, by omega, ?_, fun _ _ _ => trivial, ?_, ?_, fun D => ⟨D, _, _, rfl, rfl, ?_⟩⟩
      · rw [rngD_len]; omega
      · intro d D acc hdd b
        obtain ⟨i, hi, rfl⟩ := rngD_mem hdd
        refine dt_din hu <| nm 6 rfl <| nm 2 rfl ⟨p, ds, .inl (0 + (i : Int)), rfl, List.mem_cons_of_mem _ List.mem_cons_self, .int _, ?_, rfl⟩
        show _ = m.testBit (0 + (i : Int)).toNat
        rw [Int.zero_add, hd.has, Int.toNat_natCast]
      · intro d D acc hdd _ b
        exact nm 6 rfl ⟨rfl, rfl⟩
      · rw [List.map_id, show (rngD 0 ((n : Nat) : Int).toNat).filter _ = natL L by
          rw [hLf]
          unfold rngD natL
          rw [Int.toNat_natCast, List.filter_map]
          refine (congrArg _ (List.filter_congr fun i _ => ?_)).trans (List.map_congr_left fun i _ => by rw [Int.zero_add])
          show m.testBit (0 + (i : Int)).toNat = _
          rw [Int.zero_add, Int.toNat_natCast]]
        exact hW _
end
end H92
set_option maxHeartbeats 4000000
namespace H92
open PySem PySem.Spec PyProof.Rows L2 DL G92
theorem sortD_enc {α : Type} {le : α → α → Bool} (enc : α → PyData) (h : ∀ a b, PySem.W.dataLe false id (enc a) (enc b) = le a b) (tr : ∀ a b c, le a b = true → le b c = true → le a c = true) (tot : ∀ a b, (le a b || le b a) = true) (anti : ∀ a b, le a b = true → le b a = true → a = b) (xs : List α) : sortD (xs.map enc) = (isortG le xs).map enc := by
  unfold sortD
  rw [← msort_eq tr tot anti, List.map_mergeSort]
  intro a _ b _
  exact (h a b).symm
theorem le_data (a b : Nat × Nat) : PySem.W.dataLe false id (edD a) (edD b) = le a b := by
  show (!PySem.W.dataLt (.tuple [.int (b.1 : Nat), .int (b.2 : Nat)]) (.tuple [.int (a.1 : Nat), .int (a.2 : Nat)])) = _
  rw [PySem.W.dataLt_ii, Bool.eq_iff_iff, le_iff]
  simp only [Bool.not_eq_true', decide_eq_false_iff_not]
  omega
theorem sort_edL (es : Ed) : sortD (edL es) = edL (isort es) := sortD_enc edD le_data le_tr le_tot le_anti es
def e4D (p : P4) : PyData := .tuple [edD p.1, edD p.2]
theorem eqv_ed (p q : Nat × Nat) : PyData.eqv (edD p) (edD q) = decide (p = q) := by
  obtain ⟨a, b⟩ := p
  obtain ⟨c, d⟩ := q
  unfold edD
  simp only [PyData.eqv, PyData.eqvAll, Bool.and_true]
  rw [Bool.eq_iff_iff]
  simp only [Bool.and_eq_true, beq_iff_eq, decide_eq_true_eq, Prod.mk.injEq]
  omega
theorem le2_data (a b : P4) : PySem.W.dataLe false id (e4D a) (e4D b) = le2 a b := by
  show (!PySem.W.dataLt (.tuple [edD b.1, edD b.2]) (.tuple [edD a.1, edD a.2])) = _
  rw [PySem.W.dataLt_pair (by simp [edD, PySem.W.alike, PySem.W.alikeAll]) (by simp [edD, PySem.W.alike, PySem.W.alikeAll])]
  simp only [eqv_ed]
  unfold edD
  rw [PySem.W.dataLt_ii, PySem.W.dataLt_ii, Bool.eq_iff_iff, le2_iff]
  obtain ⟨⟨a1, a2⟩, a3, a4⟩ := a
  obtain ⟨⟨b1, b2⟩, b3, b4⟩ := b
  by_cases c : (b1, b2) = (a1, a2)
  · have c1 := congrArg (·.1) c
    have c2 := congrArg (·.2) c
    dsimp only at c1 c2
    subst c1 c2
    by_cases d : (b3, b4) = (a3, a4)
    · have d1 := congrArg (·.1) d
      have d2 := congrArg (·.2) d
      dsimp only at d1 d2
      subst d1 d2
      simp
    · have d' : ¬ (b3 = a3 ∧ b4 = a4) := fun h => d (by rw [h.1, h.2])
      simp [d']
      omega
  · have c' : ¬ (b1 = a1 ∧ b2 = a2) := fun h => c (by rw [h.1, h.2])
    simp [c']
    omega
theorem sort_e4 (es : List P4) : sortD (es.map e4D) = (isort2 es).map e4D := sortD_enc e4D le2_data le2_tr le2_tot le2_anti es
theorem ed_int (e : Nat × Nat) : IntTup (edD e) := ⟨_, [_], rfl⟩
theorem edL_int (es : Ed) : ∀ d ∈ edL es, IntTup d := fun d hd => by
  obtain ⟨e, _, rfl⟩ := List.mem_map.mp hd
  exact ed_int e
/-! ### an edge taken out -/
theorem cut_del {es : Ed} {e : Nat} (h : e ≤ es.length) : DL.cutD (edL es) none (some (e : Int)) ++ DL.cutD (edL es) (some ((e : Int) + 1)) none = edL (del es e) := by
  unfold DL.cutD del
  rw [HT.sIx_none, HT.sIx_none, HT.sIx_nat, show ((e : Int) + 1) = ((e + 1 : Nat) : Int) by omega, HT.sIx_nat, List.length_map, List.drop_zero, Nat.sub_zero, ← List.map_take, ← List.map_drop, ← List.map_take, ← List.map_append]
  congr 1
  rw [show min e es.length = e by omega]
  congr 1
  by_cases c : e + 1 ≤ es.length
  · rw [show min (e + 1) es.length = e + 1 by omega, List.take_of_length_le (by rw [List.length_drop]; omega)]
  · rw [show min (e + 1) es.length = es.length by omega, List.drop_eq_nil_of_le (Nat.le_refl _), List.drop_eq_nil_of_le (by omega), List.take_nil]
theorem del_len (es : Ed) (e : Nat) : (del es e).length ≤ es.length := by
  unfold del
  rw [List.length_append, List.length_take, List.length_drop]
  omega
def bushD (b : Nat × Ed) : PyData := .tuple [.int (b.1 : Nat), .tuple (edL b.2)]
section
variable {P : Program} {w : World} {K : PySem.W.Frag} {mg : Str → Option Value} {base : Heap} {f : Addr} {fd : FuncData}
theorem sc_ib : FnScope ["bush", "e", "n", "edges"] ["bush", "e"] (defScope s_is_bridge) := ⟨rfl, rfl, rfl, by decide +kernel, rfl, by decide +kernel, by decide +kernel⟩
abbrev R_ib := Pu (fun a : (Nat × Ed) × Nat × Bool => [.d (bushD a.1), .d (.int (a.2.1 : Nat))]) (fun a => a.1.1 ≤ 1000 ∧ a.1.2.length ≤ 1000 ∧ a.2.1 ≤ a.1.2.length ∧ bridge a.1.1 a.1.2 a.2.1 = some a.2.2) (fun a => .bool a.2.2)
theorem ok_ib {k : Nat} (Fn : FnP K "is_bridge" s_is_bridge f fd) (G : Go P w K mg base "hanging" k ["n", "edges"] R_hang) (g_le : mg "len" = none) : FnOk P w K mg base CX0 (k + 1) f fd ["bush", "e"] (SpG K R_ib) := by
  refine fn_okD Fn sc_ib (fun κ M W h => ?_) fun cdv A outer s H E hr nd B0 F0 κ M W hR => ?_
  · obtain ⟨ns, rfl, _⟩ := h
    rfl
  · obtain ⟨⟨⟨n, es⟩, e, b⟩, hκ, ⟨hn, hes, he, hb⟩, hW⟩ := hR
    have hκ : κ = [.d (.tuple [.int (n : Nat), .tuple (edL es)]), .d (.int (e : Nat))] := hκ
    subst hκ
    have hn : n ≤ 1000 := hn
    have hes : es.length ≤ 1000 := hes
    have he : e ≤ es.length := he
    have hb : bridge n es e = some b := hb
    have hW : ∀ M', W (.d (.bool b)) M' := hW
    obtain ⟨L, hL, rfl⟩ : ∃ L, hang n (del es e) = some L ∧ b = decide (L.length < n) := by
      unfold bridge at hb
      cases q : hang n (del es e) with
      | none => rw [q] at hb; cases hb
      | some L => rw [q] at hb; exact ⟨L, rfl, (Option.some.inj hb).symm⟩
    refine db_cons <| ds_asg <| nm 0 rfl <| dg_tup rfl <| dgs_cons <| dg_name 2 <| dgs_cons <| dg_name 3 <| dgs_nil ?_
    refine db_cons <| ds_ret <| de_cmp op_lt <| de_len g_le <| de_pu G hr <| da_cons <| nm 2 rfl <| da_cons <| de_op op_catA <| de_slice sl_tupA <| nm 3 rfl <| do_none <| do_some <| nm 1 rfl ⟨_, rfl, rs_tup <| de_slice sl_tupA <| nm 3 rfl <| do_some <| de_op op_add <| nm 1 rfl <| de_int <| r2_i ⟨_, rfl, do_none <| rs_tup <| r2_catT ?_ <| da_nil <| da_pu ((n, del es e), L) ?_ ⟨hn, Nat.le_trans (del_len _ _) hes, hL⟩ ⟨_, .lst _, nm 2 rfl <| r2_b ?_⟩⟩⟩
    · rw [← List.length_append, cut_del he, List.length_map]
      exact Nat.le_trans (del_len _ _) (Nat.le_trans hes (by decide))
    · rw [cut_del he]
    · unfold natL
      rw [List.length_map, show decide ((L.length : Int) < (n : Int)) = decide (L.length < n) from decide_eq_decide.mpr (by omega)]
      exact hW _
end
end H92
set_option maxHeartbeats 4000000
namespace H92
open PySem PySem.Spec PyProof.Rows L2 DL G92
theorem hang_nodup {n : Nat} {es : Ed} {L : List Nat} (h : hang n es = some L) : L.Nodup ∧ L.length ≤ n := by
  unfold hang at h
  cases q : loop 4 es 1 with
  | none => rw [q] at h; cases h
  | some m =>
    rw [q] at h
    have e := Option.some.inj h
    subst e
    exact ⟨List.nodup_range.filter _, Nat.le_trans (List.length_filter_le _ _) (by rw [List.length_range]; exact Nat.le_refl _)⟩
structure NamesIs (acc : List (Key × PyData)) (L : List Nat) (i : Nat) : Prop where
  val : ∀ x : Nat, valD acc (.inl (x : Int)) = if x ∈ L.take i then some (.int (L.idxOf x : Nat)) else none
  len : acc.length ≤ i
theorem NamesIs.put {acc : List (Key × PyData)} {L : List Nat} {i x : Nat} (h : NamesIs acc L i) (nd : L.Nodup) (hx : L[i]? = some x) : NamesIs (putD acc (.inl (x : Int)) (.int (i : Nat))) L (i + 1) := by
  refine ⟨fun y => ?_, Nat.le_trans (putD_len _ _ _) (Nat.succ_le_succ h.len)⟩
  obtain ⟨hi, hxi⟩ := List.getElem?_eq_some_iff.mp hx
  rw [valD_put, take_get hx, h.val]
  by_cases c : y = x
  · subst c
    rw [if_pos rfl, if_pos (by simp), ← hxi, nd.idxOf_getElem]
  · have c1 : ¬ (Sum.inl (y : Int) : Key) = .inl (x : Int) := fun e => c (by have := Sum.inl.inj e; omega)
    rw [if_neg c1]
    by_cases d : y ∈ L.take i
    · rw [if_pos d, if_pos (List.mem_append_left _ d)]
    · rw [if_neg d, if_neg (by
        rw [List.mem_append, List.mem_singleton]
        exact fun h => h.elim d c)]
theorem NamesIs.all {acc : List (Key × PyData)} {L : List Nat} (h : NamesIs acc L L.length) (x : Nat) : valD acc (.inl (x : Int)) = if x ∈ L then some (.int (L.idxOf x : Nat)) else none := by
  have := h.val x
  rw [List.take_length] at this
  exact this
def kept (L : List Nat) (es : Ed) : Ed := (es.filter fun p => L.contains p.1).map fun p => (L.idxOf p.1, L.idxOf p.2)
theorem kept_take {L : List Nat} {es : Ed} {i : Nat} {e : Nat × Nat} (h : es[i]? = some e) : kept L (es.take (i + 1)) = kept L (es.take i) ++ (if e.1 ∈ L then [(L.idxOf e.1, L.idxOf e.2)] else []) := by
  unfold kept
  rw [take_get h, List.filter_append, List.map_append]
  congr 1
  by_cases c : e.1 ∈ L
  · rw [if_pos c]; simp [c]
  · rw [if_neg c]; simp [c]
theorem kept_len (L : List Nat) (es : Ed) : (kept L es).length ≤ es.length := by
  unfold kept
  rw [List.length_map]
  exact List.length_filter_le _ _
section
variable {P : Program} {w : World} {K : PySem.W.Frag} {mg : Str → Option Value} {base : Heap} {f : Addr} {fd : FuncData}
theorem sc_cut : FnScope ["bush", "e", "n", "edges", "some", "names", "place", "k", "i", "j"] ["bush", "e"] (defScope s_cut) := ⟨rfl, rfl, rfl, by decide +kernel, rfl, by decide +kernel, by decide +kernel⟩
abbrev R_cut := Pu (fun a : (Nat × Ed) × Nat × (Nat × Ed) => [.d (bushD a.1), .d (.int (a.2.1 : Nat))]) (fun a => a.1.1 ≤ 1000 ∧ a.1.2.length ≤ 1000 ∧ a.2.1 ≤ a.1.2.length ∧ cutM a.1.1 a.1.2 a.2.1 = some a.2.2) (fun a => bushD a.2.2)
theorem ok_cut {k : Nat} (Fn : FnP K "cut" s_cut f fd) (G : Go P w K mg base "hanging" k ["n", "edges"] R_hang) (g_le : mg "len" = none) (g_en : mg "enumerate" = none) (g_tu : mg "tuple" = none) (g_so : mg "sorted" = none) : FnOk P w K mg base CX0 (k + 1) f fd ["bush", "e"] (SpG K R_cut) := by
  refine fn_okD Fn sc_cut (fun κ M W h => ?_) fun cdv A outer s H E hr nd B0 F0 κ M W hR => ?_
  · obtain ⟨ns, rfl, _⟩ := h
    rfl
  · obtain ⟨⟨⟨n, es⟩, e, c⟩, hκ0, ⟨hn0, hes0, he0, hc0⟩, hW0⟩ := hR
    have hκ : κ = [.d (.tuple [.int (n : Nat), .tuple (edL es)]), .d (.int (e : Nat))] := hκ0
    subst hκ
    have hn : n ≤ 1000 := hn0
    have hes : es.length ≤ 1000 := hes0
    have he : e ≤ es.length := he0
    have hc : cutM n es e = some c := hc0
    have hW : ∀ M', W (.d (bushD c)) M' := hW0
    clear hn0 hes0 he0 hc0 hW0 hκ0
    have hu := hu_of hr
    obtain ⟨L, hL, hall, rfl⟩ : ∃ L, hang n (del es e) = some L ∧ (∀ p ∈ del es e, p.1 ∈ L → p.2 ∈ L) ∧ c = (L.length, isort (kept L (del es e))) := by
      unfold cutM at hc
      cases q : hang n (del es e) with
      | none => rw [q] at hc; cases hc
      | some L =>
        rw [q] at hc
        have hc : (if ((del es e).all fun p => !L.contains p.1 || L.contains p.2) then some (L.length, isort (kept L (del es e))) else none) = some c := hc
        by_cases a : ((del es e).all fun p => !L.contains p.1 || L.contains p.2) = true
        · rw [if_pos a] at hc
          refine ⟨L, rfl, fun p hp h1 => ?_, (Option.some.inj hc).symm⟩
          have := List.all_eq_true.mp a p hp
          simpa [h1] using this
        · rw [if_neg a] at hc; cases hc
    obtain ⟨nd', hLn⟩ := hang_nodup hL
    refine db_cons <| ds_asg <| nm 0 rfl <| dg_tup rfl <| dgs_cons <| dg_name 2 <| dgs_cons <| dg_name 3 <| dgs_nil ?_
    refine db_cons <| ds_set 3 <| de_op op_catA <| de_slice sl_tupA <| nm 3 rfl <| do_none <| do_some <| nm 1 rfl ⟨_, rfl, rs_tup <| de_slice sl_tupA <| nm 3 rfl <| do_some <| de_op op_add <| nm 1 rfl <| de_int <| r2_i ⟨_, rfl, do_none <| rs_tup <| r2_catT ?_ ?_⟩⟩
    · rw [← List.length_append, cut_del he, List.length_map]
      exact Nat.le_trans (del_len _ _) (Nat.le_trans hes (by decide))
    rw [cut_del he]
    refine db_cons <| ds_set 4 <| de_pu G hr <| da_cons <| nm 2 rfl <| da_cons <| nm 3 rfl <| da_nil <| da_pu ((n, del es e), L) rfl ⟨hn, Nat.le_trans (del_len _ _) hes, hL⟩ ?_
    refine db_cons <| ds_set 5 <| de_dc2C 7 6 (by decide) <| di_enum g_en <| nm 4 rfl ⟨natL L, rfl, fun D => ⟨fun i acc M' => M' = M ∧ NamesIs acc L i, ⟨rfl, fun x => rfl, Nat.le_refl _⟩, fun _ _ _ _ => trivial, ?_, ?_⟩⟩
    · rintro i d acc M' hd ⟨rfl, hna⟩
      obtain ⟨z, hz, rfl⟩ := enumD_get hd
      obtain ⟨x, hx, rfl⟩ := map_get hz
      have hi := (List.getElem?_eq_some_iff.mp hx).1
      exact ⟨_, _, rfl, fun b => nm 6 rfl fun b => nm 7 rfl ⟨_, _, M', .int _, rfl, rfl, Nat.lt_of_le_of_lt hna.len (by omega), rfl, hna.put nd' hx⟩⟩
    · rintro acc M' ⟨rfl, hna⟩
      rw [show (enumD (natL L)).length = L.length by rw [enumD_len]; unfold natL; rw [List.length_map]] at hna
      refine db_cons <| ds_ret <| de_tup <| da_cons <| de_len g_le <| nm 4 rfl ⟨natL L, .lst _, da_cons <| de_tupleOf g_tu <| de_sorted hr.units g_so <| de_lc2IfC 8 9 (by decide) <| di_tup <| nm 3 rfl ⟨_, rfl, fun D2 => ⟨fun i acc' M'' => M'' = (D, .dic acc) :: M' ∧ acc' = edL (kept L ((del es e).take i)), ⟨rfl, rfl⟩, fun _ _ _ _ => trivial, ?_, ?_⟩⟩⟩
      · rintro i d acc' M'' hd ⟨rfl, rfl⟩
        obtain ⟨⟨x, y⟩, he2, rfl⟩ := map_get hd
        have hi := (List.getElem?_eq_some_iff.mp he2).1
        have hdl := del_len es e
        refine ⟨_, _, rfl, fun b => dt_din hu <| nm 8 rfl <| nm 5 rfl ⟨D, acc, .inl (x : Int), rfl, by simp, .int _, ?_⟩⟩
        rw [hna.all]
        by_cases hx : x ∈ L
        · have hy := hall _ (List.mem_of_getElem? he2) hx
          rw [if_pos hx]
          refine waysT rfl fun b => de_tup <| da_cons <| de_dget hu <| nm 5 rfl <| nm 8 rfl ⟨D, acc, .inl (x : Int), .int (L.idxOf x : Nat), rfl, by simp, .int _, ?_, da_cons <| de_dget hu <| nm 5 rfl <| nm 9 rfl ⟨D, acc, .inl (y : Int), .int (L.idxOf y : Nat), rfl, by simp, .int _, ?_, da_nil ⟨[_, _], rfl, z2, _, _, rfl, rfl, ?_, rfl, ?_⟩⟩⟩
          · rw [hna.all, if_pos hx]
          · rw [hna.all, if_pos hy]
          · rw [List.length_map]
            refine Nat.lt_of_le_of_lt (kept_len _ _) ?_
            rw [List.length_take]
            omega
          · rw [kept_take he2, if_pos hx]
            exact (List.map_append (f := edD) (l₁ := kept L ((del es e).take i)) (l₂ := [(L.idxOf x, L.idxOf y)])).symm
        · rw [if_neg hx]
          refine waysF rfl ⟨_, rfl, rfl, ?_⟩
          rw [kept_take he2, if_neg hx, List.append_nil]
      · rintro acc' M'' ⟨rfl, rfl⟩
        rw [List.length_map, List.take_length]
        have hkl := kept_len L (del es e)
        have hdl := del_len es e
        refine ⟨_, .cell List.mem_cons_self, alike_ints (edL_int _), sortable_ints (edL_int _), ?_, depth_ints (edL_int _), fun l => ⟨_, .cell List.mem_cons_self, da_nil ⟨[_, _], rfl, z2, ?_⟩⟩⟩
        · rw [List.length_map]; omega
        · rw [sort_edL]
          unfold natL
          rw [List.length_map]
          exact hW _
end
end H92
set_option maxHeartbeats 4000000
namespace H92
open PySem PySem.Spec PyProof.Rows L2 DL G92
theorem edL_app (xs ys : Ed) : edL (xs ++ ys) = edL xs ++ edL ys := List.map_append
theorem rng0 (n : Nat) : rngD 0 n = natL (List.range n) := by
  unfold rngD natL
  exact List.map_congr_left fun i _ => by rw [Int.zero_add]
theorem natL_iL (ns : List Nat) : natL ns = iL (ns.map fun i : Nat => (i : Int)) := by
  unfold natL
  rw [show iL (ns.map fun i : Nat => (i : Int)) = (ns.map fun i : Nat => (i : Int)).map PyData.int from rfl, List.map_map]
  rfl
theorem calm_at {n : Nat} {es : Ed} (h : calm n es = true) {e : Nat} (he : e < es.length) : bridge n es e = some true := by
  have h2 := (Bool.and_eq_true .. ▸ h : _ ∧ _).2
  exact of_decide_eq_true (List.all_eq_true.mp h2 e (List.mem_range.mpr he))
theorem calm_ed {n : Nat} {es : Ed} (h : calm n es = true) {e : Nat × Nat} (he : e ∈ es) : e.1 < n ∧ e.2 < n := by
  have h2 := (Bool.and_eq_true .. ▸ h : _ ∧ _).1
  have := List.all_eq_true.mp h2 e he
  simpa using this
section
variable {P : Program} {w : World} {K : PySem.W.Frag} {mg : Str → Option Value} {base : Heap} {f : Addr} {fd : FuncData}
theorem sc_gr : FnScope ["bush", "n", "edges", "found", "e", "i", "j", "low", "high", "name"] ["bush"] (defScope s_groups_of) := ⟨rfl, rfl, rfl, by decide +kernel, rfl, by decide +kernel, by decide +kernel⟩
abbrev R_gr := Pu (fun b : Nat × Ed => [.d (bushD b)]) (fun b => b.1 ≤ 60 ∧ b.2.length ≤ 1000 ∧ calm b.1 b.2 = true) (fun b => .list (natL (List.range b.1)))
theorem ok_gr {k : Nat} (Fn : FnP K "groups_of" s_groups_of f fd) (G : Go P w K mg base "is_bridge" k ["bush", "e"] R_ib) (g_li : mg "list" = none) (g_ra : mg "range" = none) (g_en : mg "enumerate" = none) : FnOk P w K mg base CX0 (k + 1) f fd ["bush"] (SpG K R_gr) := by
  refine fn_okD Fn sc_gr (fun κ M W h => ?_) fun cdv A outer s H E hr nd B0 F0 κ M W hR => ?_
  · obtain ⟨ns, rfl, _⟩ := h
    rfl
  · obtain ⟨⟨n, es⟩, hκ, ⟨hn, hes, hc⟩, hW⟩ := hR
    have hκ : κ = [.d (.tuple [.int (n : Nat), .tuple (edL es)])] := hκ
    subst hκ
    have hn : n ≤ 60 := hn
    have hes : es.length ≤ 1000 := hes
    have hc : calm n es = true := hc
    have hW : ∀ M', W (.d (.list (natL (List.range n)))) M' := hW
    refine db_cons <| ds_asg <| nm 0 rfl <| dg_tup rfl <| dgs_cons <| dg_name 1 <| dgs_cons <| dg_name 2 <| dgs_nil ?_
    refine db_cons <| ds_set 3 <| de_freeze <| de_lstRg1 g_li g_ra <| nm 1 rfl ⟨_, rfl, ?_, fun l => ⟨l, _, _, rfl, rfl, ?_⟩⟩
    · exact ⟨by omega, by omega, by omega, by omega, by omega⟩
    rw [Int.toNat_natCast, rng0]
    refine db_cons <| ds_for <| di_enumT g_en <| nm 2 rfl ⟨_, rfl, fun i M' ρ' => ∃ s4 s5 s6, M' = M ∧ ρ' = [.d (.tuple [.int (n : Nat), .tuple (edL es)]), .d (.int (n : Nat)), .d (.tuple (edL es)), .d (.list (natL (List.range n))), s4, s5, s6, .un, .un, .un], ⟨_, _, _, rfl, rfl⟩, fun _ _ _ _ => trivial, ?_, ?_⟩
    · rintro i d M' ρ' hd ⟨s4, s5, s6, rfl, rfl⟩
      obtain ⟨z, hz, rfl⟩ := enumD_get hd
      obtain ⟨⟨a, b⟩, he, rfl⟩ := map_get hz
      have hi := (List.getElem?_eq_some_iff.mp he).1
      refine dg_tup rfl <| dgs_cons <| dg_name 4 <| dgs_cons (dg_tup rfl <| dgs_cons <| dg_name 5 <| dgs_cons <| dg_name 6 <| dgs_nil <| dgs_nil ?_)
      refine db_cons <| ds_if <| dt_not <| dt_val <| de_pu G hr <| da_cons <| nm 0 rfl <| da_cons <| nm 4 rfl <| da_nil <| da_pu ((n, es), i, true) rfl ⟨Nat.le_trans hn (by decide), hes, Nat.le_of_lt hi, calm_at hc hi⟩ ⟨_, rfl, waysF rfl <| db_nil <| db_nil ⟨_, _, _, rfl, rfl⟩⟩
    · rintro M' ρ' ⟨s4, s5, s6, rfl, rfl⟩
      exact db_cons <| ds_ret <| nm 3 rfl <| hW _
theorem range_index {n i : Nat} (h : i < n) : ((List.range n).map fun i : Nat => (i : Int))[i]? = some (i : Int) ∧ ∀ m, m < i → ((List.range n).map fun i : Nat => (i : Int))[m]? ≠ some (i : Int) := by
  have e : ∀ m, m < n → ((List.range n).map fun i : Nat => (i : Int))[m]? = some (m : Int) := fun m hm => by
    rw [List.getElem?_map, List.getElem?_range hm]; rfl
  refine ⟨e i h, fun m hm => ?_⟩
  rw [e m (by omega)]
  intro hh
  have := Option.some.inj hh
  omega
theorem asc_uniq {n : Nat} {ns : List Int} (h1 : ns.Pairwise (· < ·)) (h2 : ∀ k : Int, k ∈ ns ↔ decide (k ∈ (List.range n).map fun i : Nat => (i : Int)) = true) : ns = (List.range n).map fun i : Nat => (i : Int) := by
  have p2 : ((List.range n).map fun i : Nat => (i : Int)).Pairwise (· < ·) := by
    rw [List.pairwise_map]
    exact List.pairwise_lt_range.imp fun h => by omega
  have nd : ∀ {l : List Int}, l.Pairwise (· < ·) → l.Nodup := fun h => h.imp fun h => by omega
  have le : ∀ {l : List Int}, l.Pairwise (· < ·) → l.Pairwise fun a b => decide (a ≤ b) = true := fun h => h.imp fun h => decide_eq_true (by omega)
  refine sorted_uniq (le := fun a b => decide (a ≤ b)) (fun a b h h' => ?_) ((List.perm_ext_iff_of_nodup (nd h1) (nd p2)).mpr fun k => ?_) (le h1) (le p2)
  · have := of_decide_eq_true h
    have := of_decide_eq_true h'
    omega
  · rw [h2 k, decide_eq_true_iff]
theorem sc_fu : FnScope ["bush", "names", "some", "edges", "i", "j", "a", "b"] ["bush"] (defScope s_fused) := ⟨rfl, rfl, rfl, by decide +kernel, rfl, by decide +kernel, by decide +kernel⟩
abbrev R_fu := Pu (fun b : Nat × Ed => [.d (bushD b)]) (fun b => b.1 ≤ 60 ∧ b.2.length ≤ 1000 ∧ calm b.1 b.2 = true) (fun b => bushD (b.1, fuse b.2))
theorem ok_fu {k : Nat} (Fn : FnP K "fused" s_fused f fd) (G : Go P w K mg base "groups_of" k ["bush"] R_gr) (g_se : mg "set" = none) (g_so : mg "sorted" = none) (g_mi : mg "min" = none) (g_ma : mg "max" = none) (g_le : mg "len" = none) (g_tu : mg "tuple" = none) : FnOk P w K mg base CX0 (k + 1) f fd ["bush"] (SpG K R_fu) := by
  refine fn_okD Fn sc_fu (fun κ M W h => ?_) fun cdv A outer s H E hr nd B0 F0 κ M W hR => ?_
  · obtain ⟨ns, rfl, _⟩ := h
    rfl
  · obtain ⟨⟨n, es⟩, hκ, ⟨hn, hes, hc⟩, hW⟩ := hR
    have hκ : κ = [.d (.tuple [.int (n : Nat), .tuple (edL es)])] := hκ
    subst hκ
    have hn : n ≤ 60 := hn
    have hes : es.length ≤ 1000 := hes
    have hc : calm n es = true := hc
    have hW : ∀ M', W (.d (bushD (n, fuse es))) M' := hW
    have hrl : ((List.range n).map fun i : Nat => (i : Int)).length = n := by simp
    refine db_cons <| ds_set 1 <| de_pu G hr <| da_cons <| nm 0 rfl <| da_nil <| da_pu (n, es) rfl ⟨hn, hes, hc⟩ ?_
    rw [natL_iL]
    refine db_cons <| ds_set 2 <| de_freeze <| de_callB (cr_sortedSet rfl) g_so bt_sorted <| da_cons <| de_callTy (cr_setI rfl) g_se bt_set <| da_cons <| nm 1 rfl <| da_nil <| rn_setI (.lst _) (by rw [hrl]; omega) fun p c hcn => da_nil <| rn_sortedSet List.mem_cons_self (by rw [hrl] at hcn; omega) fun ns h1 h2 l => ⟨l, _, _, rfl, rfl, ?_⟩
    have e := asc_uniq h1 h2
    subst e
    refine db_cons <| ds_set 3 <| de_lstC <| da_nil ⟨[], rfl, z0, fun q => ?_⟩
    have ix : ∀ {i : Nat}, i < n → atI (iL ((List.range n).map fun i : Nat => (i : Int))) (i : Int) = some (.int i) := fun {i} h => atI_at (by omega) (by rw [Int.toNat_natCast, List.getElem?_map, (range_index h).1]; rfl)
    refine db_cons <| ds_for <| di_tup <| de_ix ix_seq <| nm 0 rfl <| de_int <| r2_ix (.tup _) (d := .tuple (edL es)) rfl ⟨_, rfl, fun i M' ρ' => ∃ s4 s5 s6 s7, M' = (q, .lst (edL ((es.take i).map fun p => (min p.1 p.2, max p.1 p.2)))) :: (p, MC.raw (SetO (cxOf CX0 P w K mg base ["bush", "names", "some", "edges", "i", "j", "a", "b"] "fused" (defScope s_fused) f cdv A outer s H E).nox.w p (fun j => decide (j ∈ (List.range n).map fun i : Nat => (i : Int))) c)) :: M ∧ ρ' = [.d (.tuple [.int (n : Nat), .tuple (edL es)]), .d (.list (iL ((List.range n).map fun i : Nat => (i : Int)))), .d (.list (iL ((List.range n).map fun i : Nat => (i : Int)))), .v (.ref q), s4, s5, s6, s7], ⟨_, _, _, _, rfl, rfl⟩, fun _ _ _ _ => trivial, ?_, ?_⟩
    · rintro i d M' ρ' hd ⟨s4, s5, s6, s7, rfl, rfl⟩
      obtain ⟨⟨a, b⟩, he, rfl⟩ := map_get hd
      have hi := (List.getElem?_eq_some_iff.mp he).1
      obtain ⟨ha, hb⟩ := calm_ed hc (List.mem_of_getElem? he)
      have ha : a < n := ha
      have hb : b < n := hb
      refine dg_tup rfl <| dgs_cons <| dg_name 4 <| dgs_cons <| dg_name 5 <| dgs_nil ?_
      refine db_cons <| ds_par 6 7 <| da_cons <| de_index <| nm 2 rfl ⟨_, .lst _, de_ix ix_seq <| nm 1 rfl <| nm 4 rfl <| r2_ix (.lst _) (ix ha) ⟨a, a, rfl, rfl, (range_index ha).1, (range_index ha).2, da_cons <| de_index <| nm 2 rfl ⟨_, .lst _, de_ix ix_seq <| nm 1 rfl <| nm 5 rfl <| r2_ix (.lst _) (ix hb) ⟨b, b, rfl, rfl, (range_index hb).1, (range_index hb).2, da_nil ⟨_, _, rfl, ?_⟩⟩⟩⟩⟩
      refine db_cons <| ds_expr <| de_append 0 <| nm 3 rfl ⟨q, _, rfl, List.mem_cons_self, de_tup <| da_cons <| de_callB (call_min2 rfl) g_mi bt_min <| da_cons <| nm 6 rfl <| da_cons <| nm 7 rfl <| da_nil <| rn_min2 <| da_cons <| de_callB (call_max2 rfl) g_ma bt_max <| da_cons <| nm 6 rfl <| da_cons <| nm 7 rfl <| da_nil <| rn_max2 <| da_nil ⟨[_, _], rfl, z2, _, _, rfl, rfl, ?_, ?_⟩⟩
      · rw [List.length_map, List.length_map, List.length_take]
        omega
      · refine db_nil ⟨.d (.int (a : Nat)), .d (.int (b : Nat)), .d (.int (a : Nat)), .d (.int (b : Nat)), ?_, rfl⟩
        rw [take_get he, List.map_append, edL_app]
        rw [show (if (b : Int) < (a : Int) then (b : Int) else (a : Int)) = ((min a b : Nat) : Int) by split <;> omega, show (if (b : Int) > (a : Int) then (b : Int) else (a : Int)) = ((max a b : Nat) : Int) by split <;> omega]
        rfl
    · rintro M' ρ' ⟨s4, s5, s6, s7, rfl, rfl⟩
      rw [List.length_map, List.take_length]
      refine db_cons <| ds_ret <| de_tup <| da_cons <| de_len g_le <| nm 2 rfl ⟨_, .lst _, da_cons <| de_tupleOf g_tu <| de_sorted hr.units g_so <| nm 3 rfl ⟨_, .cell List.mem_cons_self, alike_ints (edL_int _), sortable_ints (edL_int _), ?_, depth_ints (edL_int _), fun l => ⟨_, .cell List.mem_cons_self, da_nil ⟨[_, _], rfl, z2, ?_⟩⟩⟩⟩
      · rw [List.length_map, List.length_map]; omega
      · rw [sort_edL, List.length_map, hrl]
        exact hW _
end
end H92
set_option maxHeartbeats 4000000
namespace DL
open PySem PySem.Spec PyProof.Rows L2
section
variable {X : Cx} {B0 F : Hp} {M : Cs} {ρ κ : List Sl} {a b c : Expr} {pos : Pos}
/-- the chain a < b < c, as a test -/
theorem dt_chain {op op' : CmpOp} {r r' : R2} {PT : Bool → Cs → Prop} (ho : OpR X (compareOp op) r) (ho' : OpR X (compareOp op') r')
    (h : DE X B0 F M ρ κ a fun r1 M1 => DE X B0 F M1 ρ (r1 :: κ) b fun r2 M2 => R2D X.K B0 F ρ (r2 :: r1 :: κ) r r1 r2 M2 fun z M3 => ∃ k, z = .d (.bool k) ∧
      (k = true → DE X B0 F M3 ρ (r2 :: r1 :: κ) c fun r3 M4 => R2D X.K B0 F ρ κ r' r2 r3 M4 fun z M5 => ∃ k, z = .d (.bool k) ∧ PT k M5) ∧ (k = false → PT false M3))
    (hm : lastMarks [op, op'] [b, c] = false := by with_unfolding_all rfl) : DT X B0 F M ρ κ (.Compare a [op, op'] [b, c] pos) PT := fun σ vs H Q g q => by
  refine tOfT_of (pt_chain ho ho' pe_self pe_self pe_self hm) ?_
  refine h σ vs H _ g fun x H1 r1 M1 g1 h1 => h1 σ (x :: vs) H1 _ g1 fun y H2 r2 M2 g2 h2 => ?_
  have g2' : Good X.K B0 F M2 ρ (r2 :: r1 :: r2 :: r1 :: κ) σ (y :: x :: y :: x :: vs) H2 := by
    obtain ⟨B, g2⟩ := g2
    cases g2.st with
    | cons s1 s2 =>
      cases s2 with
      | cons s2 s3 => exact ⟨B, g2.stk (.cons s1 (.cons s2 (.cons s1 (.cons s2 s3))))⟩
  refine h2 σ (y :: x :: vs) H2 x y _ g2' fun v H' r' M' g' p => ?_
  obtain ⟨k, rfl, p1, p2⟩ := p
  have e := g'.bl
  subst e
  refine ⟨k, rfl, ?_⟩
  cases k with
  | true =>
    refine p1 rfl σ (y :: x :: vs) H' _ g'.pop fun z H4 r3 M4 g4 h4 => ?_
    refine h4 σ vs H4 y z _ ?_ fun v5 H5 r5 M5 g5 p5 => ?_
    · obtain ⟨B, g4⟩ := g4
      cases g4.st with
      | cons s1 s2 =>
        cases s2 with
        | cons s2 s3 =>
          cases s3 with
          | cons s3 s4 => exact ⟨B, g4.stk (.cons s1 (.cons s2 s4))⟩
    · obtain ⟨k, rfl, hp⟩ := p5
      have e := g5.bl
      subst e
      exact ⟨k, rfl, q k H5 M5 g5.pop hp⟩
  | false =>
    exact ⟨false, rfl, q false H' M' g'.pop.pop.pop (p2 rfl)⟩
end
end DL
namespace H92
open PySem PySem.Spec PyProof.Rows L2 DL G92
def befD : Option Nat → PyData
  | none => .none
  | some b => .int (b : Nat)
def tstep (f : Nat) (es : Ed) (p : Nat) (b : Option Nat) (acc : Option Nat) (e : Nat × Nat) : Option Nat := acc.bind fun found =>
      if e.1 = e.2 ∧ e.2 = p then some (found ^^^ 1) else
      if p = e.1 ∨ p = e.2 then (if some (e.1 + e.2 - p) = b then some found else (tv f es (e.1 + e.2 - p) (some p)).map fun v => found ^^^ (v + 1)) else some found
theorem tv_succ (f : Nat) (es : Ed) (p : Nat) (b : Option Nat) : tv (f + 1) es p b = es.foldl (tstep f es p b) (some 0) := by
  rw [tv]
  rfl
theorem tfold_none (f : Nat) (es : Ed) (p : Nat) (b : Option Nat) : ∀ l : Ed, l.foldl (tstep f es p b) none = none
  | [] => rfl
  | _ :: l => tfold_none f es p b l
theorem tfold_pre {f : Nat} {es : Ed} {p : Nat} {b : Option Nat} {v : Nat} (h : es.foldl (tstep f es p b) (some 0) = some v) (i : Nat) : ∃ u, (es.take i).foldl (tstep f es p b) (some 0) = some u := by
  rw [← List.take_append_drop i es, List.foldl_append, List.take_append_drop i es] at h
  cases q : (es.take i).foldl (tstep f es p b) (some 0) with
  | none => rw [q, tfold_none] at h; cases h
  | some u => exact ⟨u, rfl⟩
section
variable {P : Program} {w : World} {K : PySem.W.Frag} {mg : Str → Option Value} {base : Heap} {f : Addr} {fd : FuncData}
theorem sc_tv : FnScope ["edges", "place", "before", "found", "i", "j", "other"] ["edges", "place", "before"] (defScope s_tree_value) := ⟨rfl, rfl, rfl, by decide +kernel, rfl, by decide +kernel, by decide +kernel⟩
abbrev R_tv (m : Nat) := Pu (fun a : (Ed × Nat) × Option Nat × Nat => [.d (.tuple (edL a.1.1)), .d (.int (a.1.2 : Nat)), .d (befD a.2.1)]) (fun a => tv m a.1.1 a.1.2 a.2.1 = some a.2.2) (fun a => .int (a.2.2 : Nat))
theorem ok_tv1 {k m : Nat} (Fn : FnP K "tree_value" s_tree_value f fd) (G : ∀ m', m = m' + 1 → Go P w K mg base "tree_value" k ["edges", "place", "before"] (R_tv m')) : FnOk P w K mg base CX0 (k + 1) f fd ["edges", "place", "before"] (SpG K (R_tv m)) := by
  refine fn_okD Fn sc_tv (fun κ M W h => ?_) fun cdv A outer s H E hr nd B0 F0 κ M W hR => ?_
  · obtain ⟨ns, rfl, _⟩ := h
    rfl
  · obtain ⟨⟨⟨es, p⟩, b, v⟩, hκ, hv0, hW0⟩ := hR
    have hκ : κ = [.d (.tuple (edL es)), .d (.int (p : Nat)), .d (befD b)] := hκ
    subst hκ
    have hv : tv m es p b = some v := hv0
    have hW : ∀ M', W (.d (.int (v : Nat))) M' := hW0
    clear hv0 hW0
    cases m with
    | zero => rw [tv] at hv; cases hv
    | succ m =>
      rw [tv_succ] at hv
      have G := G m rfl
      refine db_cons <| ds_set 3 <| de_int ?_
      refine db_cons <| ds_for <| di_tup <| nm 0 rfl ⟨_, rfl, fun i M' ρ' => ∃ u s4 s5 s6, M' = M ∧ (es.take i).foldl (tstep m es p b) (some 0) = some u ∧ ρ' = [.d (.tuple (edL es)), .d (.int (p : Nat)), .d (befD b), .d (.int (u : Nat)), s4, s5, s6], ⟨0, _, _, _, rfl, rfl, rfl⟩, fun _ _ _ _ => trivial, ?_, ?_⟩
      · rintro i d M' ρ' hd ⟨u, s4, s5, s6, rfl, hu, rfl⟩
        obtain ⟨⟨a, c⟩, he, rfl⟩ := map_get hd
        obtain ⟨u', hu'⟩ := tfold_pre hv (i + 1)
        have hst : tstep m es p b (some u) (a, c) = some u' := by
          rw [take_get he, List.foldl_append, hu] at hu'
          exact hu'
        have hst : (if a = c ∧ c = p then some (u ^^^ 1) else if p = a ∨ p = c then (if some (a + c - p) = b then some u else (tv m es (a + c - p) (some p)).map fun v => u ^^^ (v + 1)) else some u) = some u' := hst
        refine dg_tup rfl <| dgs_cons <| dg_name 4 <| dgs_cons <| dg_name 5 <| dgs_nil ?_
        have els : ¬ (a = c ∧ c = p) → ∀ kk : KK, (∀ u s4 s5 s6, (es.take (i + 1)).foldl (tstep m es p b) (some 0) = some u → kk.nx M' [.d (.tuple (edL es)), .d (.int (p : Nat)), .d (befD b), .d (.int (u : Nat)), s4, s5, s6]) → DB (cxOf CX0 P w K mg base ["edges", "place", "before", "found", "i", "j", "other"] "tree_value" (defScope s_tree_value) f cdv A outer s H E).nox B0 F0 M' [.d (.tuple (edL es)), .d (.int (p : Nat)), .d (befD b), .d (.int (u : Nat)), .d (.int (a : Nat)), .d (.int (c : Nat)), s6] [.d (.tuple (edL es))] ((match (defBody s_tree_value).getD 1 (.Pass ⟨0, 0, 0, 0⟩) with | .For _ _ (.If _ _ o _ :: _) _ _ => o | _ => [])) kk := fun hne kk hkk => by
          rw [if_neg hne] at hst
          refine db_cons <| ds_if <| dt_cmp op_in_seq <| nm 1 rfl <| de_tup <| da_cons <| nm 4 rfl <| da_cons <| nm 5 rfl <| da_nil ⟨[_, _], rfl, z2, r2_inI (ns := [(a : Int), (c : Int)]) (.tup _) ⟨_, rfl, waysD (fun hin => ?_) (fun hin => ?_)⟩⟩
          · have hin : p = a ∨ p = c := by
              simp at hin
              omega
            rw [if_pos hin] at hst
            refine db_cons <| ds_set 6 <| de_op op_sub <| de_op op_add <| nm 4 rfl <| nm 5 rfl <| r2_i <| nm 1 rfl <| r2_i ?_
            rw [show (a : Int) + (c : Int) - (p : Int) = ((a + c - p : Nat) : Int) by omega]
            have eb : DT (cxOf CX0 P w K mg base ["edges", "place", "before", "found", "i", "j", "other"] "tree_value" (defScope s_tree_value) f cdv A outer s H E).nox B0 F0 M' [.d (.tuple (edL es)), .d (.int (p : Nat)), .d (befD b), .d (.int (u : Nat)), .d (.int (a : Nat)), .d (.int (c : Nat)), .d (.int ((a + c - p : Nat) : Int))] [.d (.tuple (edL es))] (match (defBody s_tree_value).getD 1 (.Pass ⟨0, 0, 0, 0⟩) with | .For _ _ (.If _ _ [.If _ (_ :: .If t _ _ _ :: _) _ _] _ :: _) _ _ => t | _ => .Name "x" ⟨0, 0, 0, 0⟩) fun kk M'' => M'' = M' ∧ kk = !decide (some (a + c - p) = b) := by
              refine dt_cmp op_ne <| nm 6 rfl ?_
              cases b with
              | none => exact nm 2 rfl <| r2_ne rfl rfl rfl ⟨_, rfl, rfl, by simp⟩
              | some b => exact nm 2 rfl <| r2_ne (v := .int ((a + c - p : Nat) : Int)) (w := .int (b : Nat)) rfl rfl rfl ⟨_, rfl, rfl, by simp; omega⟩
            refine db_cons <| ds_if <| fun σ vs H Q g q => eb σ vs H Q g fun b' H' M'' g' ⟨e1, e2⟩ => q b' H' M'' g' ?_
            subst e1 e2
            refine waysN (fun hb => ?_) (fun hb => ?_)
            · rw [if_neg hb] at hst
              obtain ⟨v', hv', rfl⟩ : ∃ v', tv m es (a + c - p) (some p) = some v' ∧ u' = u ^^^ (v' + 1) := by
                cases q : tv m es (a + c - p) (some p) with
                | none => rw [q] at hst; cases hst
                | some v' => rw [q] at hst; exact ⟨v', rfl, (Option.some.inj hst).symm⟩
              refine db_cons <| ds_aug 3 iop_xor rfl (by intro h; cases h) <| de_op op_add <| de_pu G hr <| da_cons <| nm 0 rfl <| da_cons <| nm 6 rfl <| da_cons <| nm 1 rfl <| da_nil <| da_pu ((es, a + c - p), some p, v') rfl hv' <| de_int <| r2_i <| r2_i ?_
              rw [show ((v' : Nat) : Int) + 1 = ((v' + 1 : Nat) : Int) by omega, xor_nat]
              exact db_nil <| db_nil <| db_nil (hkk _ _ _ _ hu')
            · rw [if_pos hb] at hst
              cases Option.some.inj hst
              exact db_nil <| db_nil <| db_nil (hkk _ _ _ _ hu')
          · have hin : ¬ (p = a ∨ p = c) := by
              simp at hin
              omega
            rw [if_neg hin] at hst
            cases Option.some.inj hst
            exact db_nil <| db_nil (hkk _ _ _ _ hu')
        refine db_cons <| ds_if <| dt_chain op_eq op_eq <| nm 4 rfl <| nm 5 rfl <| r2_eqI ⟨_, rfl, waysD (fun h1 => nm 1 rfl <| r2_eqI ⟨_, rfl, waysD (fun h2 => ?_) fun h2 => ?_⟩) fun h1 => waysF rfl ?_⟩
        · have hh : a = c ∧ c = p := by constructor <;> omega
          rw [if_pos hh] at hst
          cases Option.some.inj hst
          refine db_cons <| ds_aug 3 iop_xor rfl (by intro h; cases h) <| de_int <| r2_i ?_
          rw [show (1 : Int) = ((1 : Nat) : Int) from rfl, xor_nat]
          exact db_nil <| db_nil ⟨_, _, _, _, rfl, hu', rfl⟩
        · exact els (fun h => h2 (by omega)) _ fun u s4 s5 s6 hu => db_nil ⟨u, _, _, _, rfl, hu, rfl⟩
        · exact els (fun h => h1 (by omega)) _ fun u s4 s5 s6 hu => db_nil ⟨u, _, _, _, rfl, hu, rfl⟩
      · rintro M' ρ' ⟨u, s4, s5, s6, rfl, hu, rfl⟩
        rw [List.length_map, List.take_length, hv] at hu
        cases Option.some.inj hu
        exact db_cons <| ds_ret <| nm 3 rfl <| hW _
end
end H92
set_option maxHeartbeats 4000000
namespace H92
open PySem PySem.Spec PyProof.Rows L2 DL G92
/-! ### all cuts that win -/
theorem wins_pre {n : Nat} {es : Ed} (g : List Nat → Nat → Option (List Nat)) : ∀ (l : List Nat) (acc : Option (List Nat)) (r : List Nat), l.foldl (fun acc e => acc.bind fun x => g x e) acc = some r → ∃ x, acc = some x
  | [], acc, r, h => ⟨r, h⟩
  | e :: l, acc, r, h => by
    obtain ⟨x, hx⟩ := wins_pre (n := n) (es := es) g l _ r h
    cases acc with
    | none => cases hx
    | some y => exact ⟨y, rfl⟩
def cutVal (n : Nat) (es : Ed) (e : Nat) : Option Nat := (cutM n es e).bind fun c => bval c.1 c.2
theorem wins_at {n : Nat} {es : Ed} : ∀ (l : List Nat) (a r : List Nat), l.foldl (fun acc e => acc.bind fun l => (cutM n es e).bind fun c => (bval c.1 c.2).map fun v => if v = 0 then l ++ [e] else l) (some a) = some r →
    (∀ e ∈ l, ∃ v, cutVal n es e = some v) ∧ r = a ++ l.filter fun e => decide (cutVal n es e = some 0)
  | [], a, r, h => by
    cases Option.some.inj h
    exact ⟨(fun _ h => by cases h), by simp⟩
  | e :: l, a, r, h => by
    rw [List.foldl_cons] at h
    cases q : cutVal n es e with
    | none =>
      exfalso
      obtain ⟨x, hx⟩ := wins_pre (n := n) (es := es) (fun l e => (cutM n es e).bind fun c => (bval c.1 c.2).map fun v => if v = 0 then l ++ [e] else l) l _ r h
      unfold cutVal at q
      cases q2 : cutM n es e with
      | none => rw [q2] at hx; cases hx
      | some c =>
        rw [q2] at q hx
        have q : bval c.1 c.2 = none := q
        have hx : (bval c.1 c.2).map _ = some x := hx
        rw [q] at hx
        cases hx
    | some v =>
      have e2 : (some a).bind (fun l => (cutM n es e).bind fun c => (bval c.1 c.2).map fun v => if v = 0 then l ++ [e] else l) = some (if v = 0 then a ++ [e] else a) := by
        unfold cutVal at q
        cases q2 : cutM n es e with
        | none => rw [q2] at q; cases q
        | some c =>
          rw [q2] at q
          have q : bval c.1 c.2 = some v := q
          show (bval c.1 c.2).map _ = _
          rw [q]
          rfl
      rw [e2] at h
      obtain ⟨h1, h2⟩ := wins_at l _ r h
      refine ⟨fun e' he' => ?_, ?_⟩
      · rcases List.mem_cons.mp he' with rfl | he'
        · exact ⟨v, q⟩
        · exact h1 e' he'
      · rw [h2, List.filter_cons, q]
        by_cases c : v = 0
        · subst c; simp
        · simp [c]
theorem cutVal_some {n : Nat} {es : Ed} {e v : Nat} (h : cutVal n es e = some v) : ∃ c, cutM n es e = some c ∧ bval c.1 c.2 = some v ∧ c.1 ≤ n ∧ c.2.length ≤ es.length := by
  unfold cutVal at h
  cases q : cutM n es e with
  | none => rw [q] at h; cases h
  | some c =>
    rw [q] at h
    refine ⟨c, rfl, h, ?_⟩
    unfold cutM at q
    cases q2 : hang n (del es e) with
    | none => rw [q2] at q; cases q
    | some L =>
      rw [q2] at q
      have q : (if ((del es e).all fun p => !L.contains p.1 || L.contains p.2) then some (L.length, isort (kept L (del es e))) else none) = some c := q
      split at q
      · cases Option.some.inj q
        refine ⟨(hang_nodup q2).2, ?_⟩
        rw [show (L.length, isort (kept L (del es e))).2 = isort (kept L (del es e)) from rfl, (show isort (kept L (del es e)) = isortG le (kept L (del es e)) from rfl), (isortG_perm _).length_eq]
        exact Nat.le_trans (kept_len _ _) (del_len _ _)
      · cases q
section
variable {P : Program} {w : World} {K : PySem.W.Frag} {mg : Str → Option Value} {base : Heap} {f : Addr} {fd : FuncData}
theorem go_tv (k : Nat) (Fn : FnP K "tree_value" s_tree_value f fd) (gm : mg "tree_value" = some (.ref f)) : ∀ m, Go P w K mg base "tree_value" (k + 1 + m) ["edges", "place", "before"] (R_tv m) := by
  have one : ∀ (j m : Nat), (∀ m', m = m' + 1 → Go P w K mg base "tree_value" j ["edges", "place", "before"] (R_tv m')) → Go P w K mg base "tree_value" (j + 1) ["edges", "place", "before"] (R_tv m) := fun j m h =>
    go_of Fn gm (fun _ _ _ _ _ _ us hl => match us, hl with | [_, _, _], _ => rfl) (ok_tv1 Fn h)
  intro m
  induction m with
  | zero => exact one k 0 fun m' h => by omega
  | succ m ih =>
    refine one (k + 1 + m) (m + 1) fun m' h => ?_
    have : m = m' := by omega
    subst this
    exact ih
theorem sc_bv : FnScope ["bush"] ["bush"] (defScope s_bush_value) := ⟨rfl, rfl, rfl, by decide +kernel, rfl, by decide +kernel, by decide +kernel⟩
abbrev R_bv := Pu (fun a : (Nat × Ed) × Nat => [.d (bushD a.1)]) (fun a => a.1.1 ≤ 60 ∧ a.1.2.length ≤ 1000 ∧ bval a.1.1 a.1.2 = some a.2) (fun a => .int (a.2 : Nat))
theorem ok_bv {k : Nat} (Fn : FnP K "bush_value" s_bush_value f fd) (G1 : Go P w K mg base "fused" k ["bush"] R_fu) (G2 : Go P w K mg base "tree_value" k ["edges", "place", "before"] (R_tv 6)) : FnOk P w K mg base CX0 (k + 1) f fd ["bush"] (SpG K R_bv) := by
  refine fn_okD Fn sc_bv (fun κ M W h => ?_) fun cdv A outer s H E hr nd B0 F0 κ M W hR => ?_
  · obtain ⟨ns, rfl, _⟩ := h
    rfl
  · obtain ⟨⟨⟨n, es⟩, v⟩, hκ, ⟨hn, hes, hb0⟩, hW⟩ := hR
    have hκ : κ = [.d (bushD (n, es))] := hκ
    subst hκ
    have hb : bval n es = some v := hb0
    obtain ⟨hc, ht⟩ : calm n es = true ∧ tv 6 (fuse es) 0 none = some v := by
      unfold bval at hb
      by_cases c : calm n es = true
      · rw [if_pos c] at hb; exact ⟨c, hb⟩
      · rw [if_neg c] at hb; cases hb
    exact db_cons <| ds_ret <| de_pu G2 hr <| da_cons <| de_ix ix_seq <| de_pu G1 hr <| da_cons <| nm 0 rfl <| da_nil <| da_pu (n, es) rfl ⟨hn, hes, hc⟩ <| de_int <| r2_ix (.tup _) (d := .tuple (edL (fuse es))) rfl <| da_cons <| de_int <| da_cons <| de_non <| da_nil <| da_pu ((fuse es, 0), none, v) rfl ht (hW _)
theorem sc_wcu : FnScope ["bush", "e"] ["bush"] (defScope s_winning_cuts) := ⟨rfl, rfl, rfl, by decide +kernel, rfl, by decide +kernel, by decide +kernel⟩
abbrev R_wcu := Pu (fun a : (Nat × Ed) × List Nat => [.d (bushD a.1)]) (fun a => a.1.1 ≤ 60 ∧ a.1.2.length ≤ 1000 ∧ wins a.1.1 a.1.2 = some a.2) (fun a => .tuple (natL a.2))
theorem ok_wcu {k : Nat} (Fn : FnP K "winning_cuts" s_winning_cuts f fd) (G1 : Go P w K mg base "bush_value" k ["bush"] R_bv) (G2 : Go P w K mg base "cut" k ["bush", "e"] R_cut) (g_tu : mg "tuple" = none) (g_ra : mg "range" = none) (g_le : mg "len" = none) : FnOk P w K mg base CX0 (k + 1) f fd ["bush"] (SpG K R_wcu) := by
  refine fn_okD Fn sc_wcu (fun κ M W h => ?_) fun cdv A outer s H E hr nd B0 F0 κ M W hR => ?_
  · obtain ⟨ns, rfl, _⟩ := h
    rfl
  · obtain ⟨⟨⟨n, es⟩, L⟩, hκ, ⟨hn0, hes0, hb0⟩, hW⟩ := hR
    have hκ : κ = [.d (.tuple [.int (n : Nat), .tuple (edL es)])] := hκ
    subst hκ
    have hn : n ≤ 60 := hn0
    have hes : es.length ≤ 1000 := hes0
    have hb : wins n es = some L := hb0
    have hW : ∀ M', W (.d (.tuple (natL L))) M' := hW
    obtain ⟨hv, hL⟩ := wins_at _ _ _ hb
    refine db_cons <| ds_ret <| de_tupleOf g_tu <| de_lcIfF 1 (fun d => match d with
      | .int i => decide (cutVal n es i.toNat = some 0)
      | _ => false) id <| di_range1 g_ra <| da_cons <| de_len g_le <| de_ix ix_seq <| nm 0 rfl <| de_int <| r2_ix (.tup _) (d := .tuple (edL es)) rfl ⟨_, .tup _, da_nil ⟨_, rfl, ?_, ?_, ?_, fun _ _ _ => trivial, ?_, ?_, fun D => ⟨_, .cell List.mem_cons_self, ?_⟩⟩⟩
    · rw [List.length_map]; omega
    · rw [List.length_map]; omega
    · rw [rngD_len, List.length_map]; omega
    · intro d D acc hd b
      obtain ⟨i, hi, rfl⟩ := rngD_mem hd
      rw [List.length_map, Int.toNat_natCast] at hi
      rw [Int.zero_add]
      obtain ⟨v, hv⟩ := hv i (List.mem_range.mpr hi)
      obtain ⟨c, h1, h2, h3, h4⟩ := cutVal_some hv
      refine dt_cmp op_eq <| de_pu G1 hr <| da_cons <| de_pu G2 hr <| da_cons <| nm 0 rfl <| da_cons <| nm 1 rfl <| da_nil <| da_pu ((n, es), i, c) rfl ⟨Nat.le_trans hn (by decide), hes, Nat.le_of_lt hi, h1⟩ <| da_nil <| da_pu (c, v) rfl ⟨Nat.le_trans h3 hn, Nat.le_trans h4 hes, h2⟩ <| de_int <| r2_teq ⟨?_, rfl⟩
      show _ = decide (cutVal n es (i : Int).toNat = some 0)
      rw [Int.toNat_natCast, hv]
      exact decide_eq_decide.mpr ⟨fun h => by rw [show v = 0 by omega], fun h => by rw [Option.some.inj h]; rfl⟩
    · intro d D acc hd _ b
      exact nm 1 rfl ⟨rfl, rfl⟩
    · rw [List.map_id, List.length_map, Int.toNat_natCast, rng0, show (natL (List.range es.length)).filter _ = natL L by
        rw [hL, List.nil_append]
        unfold natL
        rw [List.filter_map]
        refine congrArg _ (List.filter_congr fun i _ => ?_)
        show decide (cutVal n es (i : Int).toNat = some 0) = _
        rw [Int.toNat_natCast]]
      exact hW _
end
end H92
set_option maxHeartbeats 4000000
namespace H92
open PySem PySem.Spec PyProof.Rows L2 DL G92
theorem e4_alike (ps : List P4) : PySem.W.AllAlike (ps.map e4D) := fun d hd d' hd' => by
  obtain ⟨p, _, rfl⟩ := List.mem_map.mp hd
  obtain ⟨q, _, rfl⟩ := List.mem_map.mp hd'
  simp [e4D, edD, PySem.W.alike, PySem.W.alikeAll]
theorem e4_sortable (ps : List P4) : PySem.W.Sortable (ps.map e4D) := .inl fun d hd => by
  obtain ⟨p, _, rfl⟩ := List.mem_map.mp hd
  exact ⟨_, _, rfl⟩
theorem e4_depth (ps : List P4) : ∀ d ∈ ps.map e4D, d.depth ≤ 50 := fun d hd => by
  obtain ⟨p, _, rfl⟩ := List.mem_map.mp hd
  simp [e4D, edD, PyData.depth, PyData.depthAll]
def pairAt (es ss : Ed) : PyData → PyData
  | .int k => .tuple [edD (es.getD k.toNat (0, 0)), edD (ss.getD k.toNat (0, 0))]
  | d => d
theorem getD_lt {α : Type} {l : List α} {i : Nat} {d : α} (h : i < l.length) : l.getD i d = l[i] := by
  rw [List.getD_eq_getElem?_getD, List.getElem?_eq_getElem h]
  rfl
theorem pairs_zip {es ss : Ed} (h : ss.length = es.length) : (rngD 0 es.length).map (pairAt es ss) = (es.zip ss).map e4D := by
  refine List.ext_getElem? fun i => ?_
  rw [List.getElem?_map, List.getElem?_map]
  by_cases c : i < es.length
  · have c2 : i < ss.length := by omega
    unfold rngD
    rw [List.getElem?_map, List.getElem?_range c, List.getElem?_eq_getElem (by rw [List.length_zip]; omega), List.getElem_zip]
    show some (PyData.tuple [edD (es.getD (0 + (i : Int)).toNat (0, 0)), edD (ss.getD (0 + (i : Int)).toNat (0, 0))]) = some (.tuple [edD es[i], edD ss[i]])
    rw [Int.zero_add, Int.toNat_natCast, getD_lt c, getD_lt c2]
  · rw [List.getElem?_eq_none (by rw [rngD_len]; omega), List.getElem?_eq_none (by rw [List.length_zip]; omega)]
    rfl
section
variable {P : Program} {w : World} {K : PySem.W.Frag} {mg : Str → Option Value} {base : Heap} {f : Addr} {fd : FuncData}
theorem sc_st : FnScope ["lengths", "edges", "seats", "n", "i", "last", "height", "order", "k", "edge", "seat"] ["lengths"] (defScope s__law_stalks) := ⟨rfl, rfl, rfl, by decide +kernel, rfl, by decide +kernel, by decide +kernel⟩
def stalkD (ls : List Nat) : PyData := .tuple [bushD ((stalks 0 ls 1).2.2, (order ls).map (·.1)), .list (edL ((order ls).map (·.2)))]
abbrev R_st := Pu (fun ls : List Nat => [.d (.list (natL ls))]) (fun ls => ls.sum ≤ 1000 ∧ ls.length ≤ 1000) stalkD
theorem nat_at {ls : List Nat} {i l : Nat} (h : ls[i]? = some l) : atI (natL ls) (0 + (i : Int)) = some (.int (l : Nat)) := atI_at (by omega) (by
  unfold natL
  rw [show ((0 : Int) + (i : Int)).toNat = i by omega, List.getElem?_map, h]
  rfl)
theorem ed_at {es : Ed} {i : Nat} (h : i < es.length) : atI (edL es) (i : Int) = some (edD (es.getD i (0, 0))) := atI_at (by omega) (by
  rw [Int.toNat_natCast, List.getElem?_map, List.getElem?_eq_getElem h, getD_lt h]
  rfl)
theorem sum_take (ls : List Nat) (i : Nat) : (ls.take i).sum ≤ ls.sum := by
  have : (ls.take i ++ ls.drop i).sum = (ls.take i).sum + (ls.drop i).sum := List.sum_append
  rw [List.take_append_drop] at this
  omega
theorem ok_st {k : Nat} (Fn : FnP K "_law_stalks" s__law_stalks f fd) (g_tu : mg "tuple" = none) (g_ra : mg "range" = none) (g_le : mg "len" = none) (g_so : mg "sorted" = none) : FnOk P w K mg base CX0 (k + 1) f fd ["lengths"] (SpG K R_st) := by
  refine fn_okD Fn sc_st (fun κ M W h => ?_) fun cdv A outer s H E hr nd B0 F0 κ M W hR => ?_
  · obtain ⟨ns, rfl, _⟩ := h
    rfl
  · obtain ⟨ls, hκ, ⟨hs, hl⟩, hW⟩ := hR
    have hκ : κ = [.d (.list (natL ls))] := hκ
    subst hκ
    have hs : ls.sum ≤ 1000 := hs
    have hl : ls.length ≤ 1000 := hl
    have hW : ∀ M', W (.d (stalkD ls)) M' := hW
    refine db_cons <| ds_parT 3 <| da_cons <| de_lstC <| da_nil ⟨[], rfl, z0, fun p => da_cons <| de_lstC <| da_nil ⟨[], rfl, z0, fun q => da_cons <| de_int <| da_nil ⟨rfl, dgs_cons <| dg_name 1 <| dgs_cons <| dg_name 2 <| dgs_cons <| dg_name 3 <| dgs_nil ?_⟩⟩⟩
    refine db_cons <| ds_for <| di_range1 g_ra <| da_cons <| de_len g_le <| nm 0 rfl ⟨natL ls, .lst _, da_nil ⟨_, rfl, ?_, ?_, fun i M' ρ' => ∃ s4 s5 s6, M' = (q, .lst (edL (stalks 0 (ls.take i) 1).2.1)) :: (p, .lst (edL (stalks 0 (ls.take i) 1).1)) :: M ∧ ρ' = [.d (.list (natL ls)), .v (.ref p), .v (.ref q), .d (.int ((stalks 0 (ls.take i) 1).2.2 : Nat)), s4, s5, s6, .un, .un, .un, .un], ⟨_, _, _, rfl, rfl⟩, fun _ _ _ _ => trivial, ?_, ?_⟩⟩
    · unfold natL; rw [List.length_map]; omega
    · unfold natL; rw [List.length_map]; omega
    · rintro i d M' ρ' hd ⟨s4, s5, s6, rfl, rfl⟩
      obtain ⟨hi, rfl⟩ := rngD_get hd
      have hi : i < ls.length := by
        unfold natL at hi
        rw [List.length_map] at hi
        omega
      obtain ⟨l, hz⟩ : ∃ l, ls[i]? = some l := ⟨_, List.getElem?_eq_getElem hi⟩
      obtain ⟨b1, b2, b3⟩ := stalks_len (ls.take i) 0 1
      have bs := sum_take ls i
      have bl : l ≤ 1000 := by
        have := sum_take ls (i + 1)
        rw [take_get hz, List.sum_append] at this
        simp at this
        omega
      have sn : stalks 0 (ls.take (i + 1)) 1 = ((stalks 0 (ls.take i) 1).1 ++ stalkE l (stalks 0 (ls.take i) 1).2.2, (stalks 0 (ls.take i) 1).2.1 ++ stalkS i l, (stalks 0 (ls.take i) 1).2.2 + l) := by
        rw [take_get hz, stalks_snoc, List.length_take, show 0 + min i ls.length = i by omega]
      generalize stalks 0 (ls.take i) 1 = r at b1 b2 b3 sn ⊢
      obtain ⟨E, S, n⟩ := r
      have b1 : E.length = (ls.take i).sum := b1
      have b2 : S.length = (ls.take i).sum := b2
      refine dg_name 4 <| db_cons <| ds_set 5 <| de_int ?_
      refine db_cons <| ds_for <| di_range1 g_ra <| da_cons <| de_ix ix_seq <| nm 0 rfl <| nm 4 rfl <| r2_ix (.lst _) (nat_at hz) <| da_nil ⟨_, rfl, by omega, by omega, fun h M' ρ' => ∃ s6, M' = (q, .lst (edL (S ++ stalkS i h))) :: (p, .lst (edL (E ++ stalkE h n))) :: M ∧ ρ' = [.d (.list (natL ls)), .v (.ref p), .v (.ref q), .d (.int ((n + h : Nat) : Int)), .d (.int (0 + (i : Int))), .d (.int ((if h = 0 then 0 else n + h - 1 : Nat) : Int)), s6, .un, .un, .un, .un], ⟨_, ?_, rfl⟩, fun _ _ _ _ => trivial, ?_, ?_⟩
      · rw [show stalkS i 0 = [] from rfl, show stalkE 0 n = [] from rfl, List.append_nil, List.append_nil]
      · rintro h d M' ρ' hd ⟨s6, rfl, rfl⟩
        obtain ⟨hh, rfl⟩ := rngD_get hd
        rw [Int.toNat_natCast] at hh
        refine dg_name 6 ?_
        refine db_cons <| ds_expr <| de_append 1 <| nm 1 rfl ⟨p, _, rfl, List.mem_cons_of_mem _ List.mem_cons_self, de_tup <| da_cons <| nm 5 rfl <| da_cons <| nm 3 rfl <| da_nil ⟨[_, _], rfl, z2, _, _, rfl, rfl, ?_, ?_⟩⟩
        · rw [List.length_map, List.length_append, stalkE_len]; omega
        refine db_cons <| ds_expr <| de_append 0 <| nm 2 rfl ⟨q, _, rfl, List.mem_cons_self, de_tup <| da_cons <| nm 4 rfl <| da_cons <| nm 6 rfl <| da_nil ⟨[_, _], rfl, z2, _, _, rfl, rfl, ?_, ?_⟩⟩
        · rw [List.length_map, List.length_append, stalkS_len]; omega
        refine db_cons <| ds_par 5 3 <| da_cons <| nm 3 rfl <| da_cons <| de_op op_add <| nm 3 rfl <| de_int <| r2_i <| da_nil ⟨_, _, rfl, db_nil ⟨.d (.int (0 + (h : Int))), ?_, ?_⟩⟩
        · rw [stalkS_succ, stalkE_succ, ← List.append_assoc, ← List.append_assoc, edL_app (S ++ stalkS i h), edL_app (E ++ stalkE h n)]
          rw [Int.zero_add, Int.zero_add]
          rfl
        · rw [if_neg (Nat.succ_ne_zero h), show n + (h + 1) - 1 = n + h by omega, show ((n + (h + 1) : Nat) : Int) = ((n + h : Nat) : Int) + 1 by omega]
          rfl
      · rintro M' ρ' ⟨s6, rfl, rfl⟩
        rw [rngD_len, Int.toNat_natCast]
        refine db_nil ⟨.d (.int (0 + (i : Int))), .d (.int ((if l = 0 then 0 else n + l - 1 : Nat) : Int)), s6, ?_, ?_⟩
        · rw [sn]
        · rw [sn]
    · rintro M' ρ' ⟨s4, s5, s6, rfl, rfl⟩
      rw [rngD_len, Int.toNat_natCast, show (natL ls).length = ls.length by unfold natL; rw [List.length_map], List.take_length]
      obtain ⟨b1, b2, b3⟩ := stalks_len ls 0 1
      have hW : ∀ M', W (.d (.tuple [bushD ((stalks 0 ls 1).2.2, (isort2 ((stalks 0 ls 1).1.zip (stalks 0 ls 1).2.1)).map (·.1)), .list (edL ((isort2 ((stalks 0 ls 1).1.zip (stalks 0 ls 1).2.1)).map (·.2)))])) M' := hW
      generalize stalks 0 ls 1 = r at b1 b2 b3 hW ⊢
      obtain ⟨E, S, n⟩ := r
      have b1 : E.length = ls.sum := b1
      have b2 : S.length = ls.sum := b2
      refine db_cons <| ds_set 7 <| de_freeze <| de_sorted hr.units g_so <| de_lcF 8 (pairAt E S) <| di_range1 g_ra <| da_cons <| de_len g_le <| nm 1 rfl ⟨edL E, .cell (by simp), da_nil ⟨_, rfl, ?_, ?_, ?_, fun _ _ _ => trivial, ?_, fun D => ⟨_, .cell List.mem_cons_self, ?_⟩⟩⟩
      · rw [List.length_map]; omega
      · rw [List.length_map]; omega
      · rw [rngD_len, List.length_map]; omega
      · intro d D acc hd b
        obtain ⟨i, hi, rfl⟩ := rngD_mem hd
        rw [List.length_map, Int.toNat_natCast] at hi
        rw [Int.zero_add]
        refine de_tup <| da_cons <| de_ix ix_seq <| nm 1 rfl <| nm 8 rfl <| r2_ix (.cell (ds := edL E) (by simp)) (ed_at hi) <| da_cons <| de_ix ix_seq <| nm 2 rfl <| nm 8 rfl <| r2_ix (.cell (ds := edL S) (by simp)) (ed_at (by omega)) <| da_nil ⟨[_, _], rfl, z2, ?_, rfl⟩
        show _ = Sl.d (.tuple [edD (E.getD (i : Int).toNat (0, 0)), edD (S.getD (i : Int).toNat (0, 0))])
        rw [Int.toNat_natCast]
      rw [List.length_map, Int.toNat_natCast, pairs_zip (by omega)]
      refine ⟨e4_alike _, e4_sortable _, ?_, e4_depth _, fun l => ⟨l, _, _, rfl, rfl, ?_⟩⟩
      · rw [List.length_map, List.length_zip]; omega
      rw [sort_e4]
      have hol : (isort2 (E.zip S)).length ≤ 1000 := by
        rw [show isort2 (E.zip S) = isortG le2 (E.zip S) from rfl, (isortG_perm _).length_eq, List.length_zip]
        omega
      generalize isort2 (E.zip S) = O at hW hol ⊢
      refine db_cons <| ds_ret <| de_tup <| da_cons <| de_tup <| da_cons <| nm 3 rfl <| da_cons <| de_tupleOf g_tu <| de_lc2C 9 10 (by decide) <| di_list <| nm 7 rfl ⟨_, rfl, fun D2 => ⟨fun i acc' M'' => M'' = (D, .lst ((E.zip S).map e4D)) :: (q, .lst (edL S)) :: (p, .lst (edL E)) :: M ∧ acc' = edL ((O.take i).map (·.1)), ⟨rfl, rfl⟩, fun _ _ _ _ => trivial, ?_, ?_⟩⟩
      · rintro i d acc' M'' hd ⟨rfl, rfl⟩
        obtain ⟨⟨a, c⟩, he, rfl⟩ := map_get hd
        have hi := (List.getElem?_eq_some_iff.mp he).1
        refine ⟨_, _, rfl, fun b => nm 9 rfl ⟨_, _, rfl, rfl, ?_, rfl, ?_⟩⟩
        · rw [List.length_map, List.length_map, List.length_take]; omega
        · rw [take_get he, List.map_append, edL_app]; rfl
      · rintro acc' M'' ⟨rfl, rfl⟩
        rw [List.length_map, List.take_length]
        refine ⟨_, .cell List.mem_cons_self, da_nil ⟨[_, _], rfl, z2, da_cons <| de_freeze <| de_lc2C 9 10 (by decide) <| di_list <| nm 7 rfl ⟨_, rfl, fun D3 => ⟨fun i acc' M'' => M'' = (D2, .lst (edL (O.map (·.1)))) :: (D, .lst ((E.zip S).map e4D)) :: (q, .lst (edL S)) :: (p, .lst (edL E)) :: M ∧ acc' = edL ((O.take i).map (·.2)), ⟨rfl, rfl⟩, fun _ _ _ _ => trivial, ?_, ?_⟩⟩⟩⟩
        · rintro i d acc' M'' hd ⟨rfl, rfl⟩
          obtain ⟨⟨a, c⟩, he, rfl⟩ := map_get hd
          have hi := (List.getElem?_eq_some_iff.mp he).1
          refine ⟨_, _, rfl, fun b => nm 10 rfl ⟨_, _, rfl, rfl, ?_, rfl, ?_⟩⟩
          · rw [List.length_map, List.length_map, List.length_take]; omega
          · rw [take_get he, List.map_append, edL_app]; rfl
        · rintro acc' M'' ⟨rfl, rfl⟩
          rw [List.length_map, List.take_length]
          exact ⟨D3, _, _, rfl, rfl, da_nil ⟨[_, _], rfl, z2, hW _⟩⟩
end
end H92
set_option maxHeartbeats 4000000
namespace DL
open PySem PySem.Spec PyProof.Rows L2
section
variable {X : Cx} {B0 F : Hp} {M : Cs} {ρ κ : List Sl} {ss : List Stmt} {k : KK}
/-- cells that nobody asks for any more -/
theorem db_drop (j : Nat) (h : DB X B0 F (M.drop j) ρ κ ss k) : DB X B0 F M ρ κ ss k := fun σ vs H D g c => h σ vs H D (g.dropM j) c
end
end DL
namespace H92
open PySem PySem.Spec PyProof.Rows L2 DL G92
theorem same_iL (m : Nat) {ns : List Int} (h : ns.length ≤ 100000) : SameOk (m + 1) (.tuple (iL ns)) := ⟨by rw [List.length_map]; exact h, fun d hd => by
  obtain ⟨n, _, rfl⟩ := List.mem_map.mp hd
  cases m <;> trivial⟩
theorem same_tups (m : Nat) {ds : List PyData} (h : ds.length ≤ 100000) (hd : ∀ d ∈ ds, SameOk m d) : SameOk (m + 1) (.tuple ds) := ⟨h, hd⟩
theorem same_int (m : Nat) (i : Int) : SameOk m (.int i) := by cases m <;> trivial
theorem same_turn (m : Nat) (l s : Int) : SameOk (m + 1) (turn l s) := by
  unfold turn
  split
  · exact same_iL m (ns := [l]) (by simp)
  · exact same_iL m (ns := [s, l]) (by simp)
/-! ### what is due -/
theorem movL_mem {t : Int} {d : PyData} : ∀ (i : Nat) (zs : List Int), d ∈ movL t i zs → ∃ j z, zs[j]? = some z ∧ d = .tuple [.int ((i + j : Nat) : Int), .int (Builtin.bitXor z t)]
  | i, [], h => by cases h
  | i, z :: zs, h => by
    rw [movL] at h
    rcases List.mem_append.mp h with h | h
    · split at h
      · rw [List.mem_singleton.mp h]
        exact ⟨0, z, rfl, rfl⟩
      · cases h
    · obtain ⟨j, z', h1, h2⟩ := movL_mem (i + 1) zs h
      exact ⟨j + 1, z', h1, by rw [h2, show i + 1 + j = i + (j + 1) by omega]⟩
theorem movs_mem {ns : List Int} {d : PyData} (h : d ∈ movs ns) : ∃ (j : Nat) (z : Int), ns[j]? = some z ∧ d = .tuple [.int (j : Nat), .int (Builtin.bitXor z (xorI ns))] := by
  obtain ⟨j, z, h1, h2⟩ := movL_mem 0 ns h
  rw [Nat.zero_add] at h2
  exact ⟨j, z, h1, h2⟩
def turnOf (ns : List Int) : PyData → PyData
  | .tuple [.int i, .int s] => turn (ns.getD i.toNat 0) s
  | d => d
theorem movL_turns {t : Int} {ns : List Int} : ∀ (i : Nat) (zs : List Int), (∀ j z, zs[j]? = some z → ns[i + j]? = some z) → (movL t i zs).map (turnOf ns) = turns t zs
  | i, [], _ => rfl
  | i, z :: zs, h => by
    have h0 : ns[i]? = some z := h 0 z rfl
    obtain ⟨hi, hz⟩ := List.getElem?_eq_some_iff.mp h0
    rw [movL, List.map_append, movL_turns (i + 1) zs fun j y hy => by
      rw [show i + 1 + j = i + (j + 1) by omega]
      exact h (j + 1) y hy]
    unfold turns
    rw [List.flatMap_cons]
    congr 1
    unfold turn1
    split
    · show [turn (ns.getD (i : Int).toNat 0) (Builtin.bitXor z t)] = _
      rw [Int.toNat_natCast, getD_lt hi, hz]
    · rfl
theorem movs_turns (ns : List Int) : (movs ns).map (turnOf ns) = turns (xorI ns) ns := movL_turns 0 ns fun j z h => by rw [Nat.zero_add]; exact h
theorem movs_len (ns : List Int) : (movs ns).length ≤ ns.length := movL_len _ _ _
theorem same_movs (m : Nat) {ns : List Int} (h : ns.length ≤ 1000) : SameOk (m + 2) (.tuple (movs ns)) := same_tups (m + 1) (Nat.le_trans (movs_len ns) (by omega)) fun d hd => by
  obtain ⟨j, z, _, rfl⟩ := movs_mem hd
  exact same_iL m (ns := [_, _]) (by simp)
/-! ### one coin at a time -/
theorem xor_ones (ns : List Int) : hv .one ns = ((ns.length % 2 : Nat) : Int) := by
  have : ∀ (l : List Int) (u : Nat), u < 2 → (l.map (cv .one)).foldl Builtin.bitXor (u : Int) = (((u + l.length) % 2 : Nat) : Int) := by
    intro l
    induction l with
    | nil => intro u hu; show (u : Int) = _; rw [List.length_nil]; omega
    | cons z l ih =>
      intro u hu
      rw [List.map_cons, List.foldl_cons, show cv .one z = ((1 : Nat) : Int) from rfl, xor_nat]
      have : u = 0 ∨ u = 1 := by omega
      rcases this with rfl | rfl
      · rw [show (0 ^^^ 1 : Nat) = 1 from rfl, ih 1 (by omega), List.length_cons]; omega
      · rw [show (1 ^^^ 1 : Nat) = 0 from rfl, ih 0 (by omega), List.length_cons]; omega
  have h := this ns 0 (by omega)
  rw [Nat.zero_add] at h
  exact h
/-! ### keys of a dict made of pairs -/
theorem putD_keys {es : List (Key × PyData)} {ks : List Int} (h : es.map (·.1) = ks.map Sum.inl) (k : Int) (v : PyData) : ∃ ks' : List Int, (putD es (.inl k) v).map (·.1) = ks'.map Sum.inl ∧ (∀ x ∈ ks', x ∈ ks ∨ x = k) ∧ ks'.length ≤ ks.length + 1 := by
  unfold putD
  split
  · refine ⟨ks, ?_, fun x hx => .inl hx, by omega⟩
    rw [List.map_map, ← h]
    refine List.map_congr_left fun e _ => ?_
    show (if e.1 = Sum.inl k then (e.1, v) else e).1 = e.1
    split <;> rfl
  · refine ⟨ks ++ [k], ?_, fun x hx => ?_, by simp⟩
    · rw [List.map_append, List.map_append, h]; rfl
    · rcases List.mem_append.mp hx with hx | hx
      · exact .inl hx
      · exact .inr (List.mem_singleton.mp hx)
theorem mergeD_keys : ∀ (ns : List Int) (es : List (Key × PyData)) (ks : List Int), es.map (·.1) = ks.map Sum.inl → ∃ ks' : List Int, (mergeD es (ns.map fun n => (Sum.inl n, PyData.int 1))).map (·.1) = ks'.map Sum.inl ∧ (∀ x ∈ ks', x ∈ ks ∨ x ∈ ns) ∧ ks'.length ≤ ks.length + ns.length
  | [], es, ks, h => ⟨ks, h, fun x hx => .inl hx, by simp⟩
  | n :: ns, es, ks, h => by
    obtain ⟨k1, h1, h2, h3⟩ := putD_keys h n (.int 1)
    obtain ⟨k2, g1, g2, g3⟩ := mergeD_keys ns _ k1 h1
    refine ⟨k2, g1, fun x hx => ?_, by simp at *; omega⟩
    rcases g2 x hx with hx | hx
    · rcases h2 x hx with hx | rfl
      · exact .inl hx
      · exact .inr List.mem_cons_self
    · exact .inr (List.mem_cons_of_mem _ hx)
/-! ### stalks: from N to Z -/
theorem xorI_ofN (ls : List Nat) : xorI (ls.map fun i : Nat => (i : Int)) = (xorN ls : Nat) := by
  have : ∀ (l : List Nat) (u : Nat), (l.map fun i : Nat => (i : Int)).foldl Builtin.bitXor (u : Int) = ((l.foldl (· ^^^ ·) u : Nat) : Int) := by
    intro l
    induction l with
    | nil => intro u; rfl
    | cons z l ih =>
      intro u
      rw [List.map_cons, List.foldl_cons, xor_nat, ih, List.foldl_cons]
  exact this ls 0
theorem movL_ofN (t : Nat) : ∀ (i : Nat) (ls : List Nat), movL (t : Int) i (ls.map fun i : Nat => (i : Int)) = edL (movN t i ls)
  | i, [] => rfl
  | i, l :: ls => by
    rw [List.map_cons, movL, movN, edL_app, movL_ofN t (i + 1) ls]
    congr 1
    rw [xor_nat]
    by_cases c : l ^^^ t < l
    · rw [if_pos c, if_pos (by omega)]
      rfl
    · rw [if_neg c, if_neg (by omega)]
      rfl
theorem movs_ofN (ls : List Nat) : movs (ls.map fun i : Nat => (i : Int)) = edL (movN (xorN ls) 0 ls) := by
  unfold movs
  rw [xorI_ofN, movL_ofN]
theorem sum_ofN (ls : List Nat) : (ls.map fun i : Nat => (i : Int)).sum = (ls.sum : Nat) := by
  induction ls with
  | nil => rfl
  | cons l ls ih => rw [List.map_cons, List.sum_cons, List.sum_cons, ih]; omega
theorem any_contains (ms : Ed) (s : Nat × Nat) : ((edL ms).any fun z => PyData.eqv z (edD s)) = ms.contains s := by
  rw [List.any_map, List.contains_eq_any_beq]
  congr 1
  funext e
  show PyData.eqv (edD e) (edD s) = (s == e)
  rw [eqv_ed, Bool.eq_iff_iff, decide_eq_true_iff, beq_iff_eq]
  exact eq_comm
theorem fam_mem {ls : List Nat} (h1 : 1 ≤ ls.length) (h3 : ls.length ≤ 3) (hl : ∀ l ∈ ls, 1 ≤ l ∧ l ≤ 4) (hs : ls.sum < 12) : good ls = true := by
  have f : ∀ ls ∈ fam, good ls = true := List.all_eq_true.mp fam_good
  have o : ∀ l : Nat, 1 ≤ l ∧ l ≤ 4 → l ∈ [1, 2, 3, 4] := by
    intro l h
    have : l = 1 ∨ l = 2 ∨ l = 3 ∨ l = 4 := by omega
    rcases this with rfl | rfl | rfl | rfl <;> simp
  refine f ls ?_
  unfold fam
  match ls, h1, h3, hl, hs with
  | [a], _, _, hl, _ => exact List.mem_flatMap.mpr ⟨a, o a (hl a (by simp)), List.mem_cons_self⟩
  | [a, b], _, _, hl, _ => exact List.mem_flatMap.mpr ⟨a, o a (hl a (by simp)), List.mem_cons_of_mem _ (List.mem_flatMap.mpr ⟨b, o b (hl b (by simp)), List.mem_cons_self⟩)⟩
  | [a, b, c], _, _, hl, hs =>
    refine List.mem_flatMap.mpr ⟨a, o a (hl a (by simp)), List.mem_cons_of_mem _ (List.mem_flatMap.mpr ⟨b, o b (hl b (by simp)), List.mem_cons_of_mem _ (List.mem_map.mpr ⟨c, ?_, rfl⟩)⟩)⟩
    have hc := hl c (by simp)
    have ha := hl a (by simp)
    have hb := hl b (by simp)
    have hs : a + (b + (c + 0)) < 12 := hs
    by_cases q : a + b < 8
    · rw [if_pos q]; exact o c hc
    · rw [if_neg q]
      have : c = 1 ∨ c = 2 ∨ c = 3 := by omega
      rcases this with rfl | rfl | rfl <;> simp
theorem good_at {ls : List Nat} (h : good ls = true) : bval (stalks 0 ls 1).2.2 ((order ls).map (·.1)) = some (xorN ls) ∧ wins (stalks 0 ls 1).2.2 ((order ls).map (·.1)) = some ((List.range (order ls).length).filter fun e => (movN (xorN ls) 0 ls).contains (((order ls).map (·.2)).getD e (0, 0))) := by
  unfold good at h
  rw [Bool.and_eq_true] at h
  exact ⟨of_decide_eq_true h.1, of_decide_eq_true h.2⟩
theorem order_len (ls : List Nat) : (order ls).length = ls.sum := by
  obtain ⟨h1, h2, _⟩ := stalks_len ls 0 1
  rw [show order ls = isortG le2 ((stalks 0 ls 1).1.zip (stalks 0 ls 1).2.1) from rfl, (isortG_perm _).length_eq, List.length_zip, h1, h2, Nat.min_self]
theorem lay_ed (e : Nat × Nat) : (edD e).canLay0 = true ∧ (edD e).depth = 1 := by
  unfold edD
  constructor
  · simp [PyData.canLay0, PyData.canLayAll0]
  · simp [PyData.depth, PyData.depthAll]
theorem lay_edL : ∀ es : Ed, PyData.canLayAll0 (edL es) = true ∧ PyData.depthAll (edL es) ≤ 1
  | [] => by rw [show edL [] = [] from rfl, PyData.canLayAll0, PyData.depthAll]; exact ⟨rfl, by omega⟩
  | e :: es => by
    obtain ⟨h1, h2⟩ := lay_edL es
    obtain ⟨g1, g2⟩ := lay_ed e
    rw [show edL (e :: es) = edD e :: edL es from rfl, PyData.canLayAll0, PyData.depthAll, h1, g1, g2]
    exact ⟨rfl, by omega⟩
theorem shaped_ed (e : Nat × Nat) : SeqAt.shaped (edD e) = true := by
  unfold SeqAt.shaped
  rw [(lay_ed e).1, (lay_ed e).2]
  rfl
theorem shaped_edL (es : Ed) : SeqAt.shaped (.list (edL es)) = true := by
  unfold SeqAt.shaped
  rw [PyData.canLay0, PyData.depth, (lay_edL es).1]
  have := (lay_edL es).2
  simp
  omega
end H92
set_option maxHeartbeats 8000000
namespace H92
open PySem PySem.Spec PyProof.Rows L2 DL G92
def R_law : List Sl → Cs → (Sl → Cs → Prop) → Prop := fun κ M W => ∃ ns : List Int, ns.length ≤ 100000 ∧ κ = [.rd (iL ns)] ∧ M = [] ∧ ∀ M', W (.d (.bool true)) M'
section
variable {P : Program} {w : World} {K : PySem.W.Frag} {mg : Str → Option Value} {base : Heap} {f : Addr} {fd : FuncData}
abbrev NL : List Str := ["script", "box", "turn", "heads", "step", "total", "due", "turns", "i", "size", "place", "lengths", "bush", "seats", "e", "n", "rulers", "evens", "k"]
theorem sc_law : FnScope NL ["script"] (defScope s_law) := ⟨rfl, rfl, rfl, by decide +kernel, rfl, by decide +kernel, by decide +kernel⟩
structure Env92 (P : Program) (w : World) (K : PySem.W.Frag) (mg : Str → Option Value) (base : Heap) (k : Nat) : Prop where
  box : Go P w K mg base "_law_box" k ["script"] R_box
  draw : ∀ bx cs, Go P w K mg base "_law_draw" k ["box", "many"] (R_draw bx cs)
  same : Go P w K mg base "_law_same" k ["a", "b"] (R_same 3)
  lxor : Go P w K mg base "_law_xor" k ["numbers"] R_lxor
  lmov : Go P w K mg base "_law_moves" k ["heaps_there"] R_lm
  st : Go P w K mg base "_law_stalks" k ["lengths"] R_st
  hv : Go P w K mg base "heads_value" k ["sort", "heads"] R_hv
  wc : Go P w K mg base "without_carry" k ["numbers"] R_wc
  nm : Go P w K mg base "nim_moves" k ["heaps"] R_nm
  cm : Go P w K mg base "coin_moves" k ["sort", "heads"] R_cm
  bv : Go P w K mg base "bush_value" k ["bush"] R_bv
  wcu : Go P w K mg base "winning_cuts" k ["bush"] R_wcu
  cvs : Go P w K mg base "coin_values" k ["sort", "n"] R_cvs
  ra : mg "range" = none
  tu : mg "tuple" = none
  so : mg "sorted" = none
  di : mg "dict" = none
  le : mg "len" = none
  su : mg "sum" = none
  al : mg "all" = none
abbrev LX (P : Program) (w : World) (K : PySem.W.Frag) (mg : Str → Option Value) (base : Heap) (f : Addr) (cdv : Value) (A : Around) (outer : List Env) (s : Shared) (H : Hp) (E : XK) : Cx := (cxOf CX0 P w K mg base NL "law" (defScope s_law) f cdv A outer s H E).nox
variable {cdv : Value} {A : Around} {outer : List Env} {s : Shared} {H : Hp} {E : XK} {k : Nat} {B0 F0 : Hp} {bx cs : Addr}
abbrev loopBody : List Stmt := match (defBody s_law).getD 1 (.Pass ⟨0, 0, 0, 0⟩) with
  | .For _ _ b _ _ => b
  | _ => []
/-- the heads -/
theorem w_heads (V : Env92 P w K mg base k) (hr : Room k (LX P w K mg base f cdv A outer s H E).A) (nd : NL.Nodup) {M : Cs} {κ : List Sl} {kk : KK} {ss : List Stmt} {s0 s2 s3 s4 s5 s6 s7 s8 s9 s10 s11 s12 s13 s14 s15 s16 s17 s18 : Sl} (hb : Box bx cs M)
    (h : ∀ (ns : List Int) M' s4', ns.length ≤ 64 → (∀ n ∈ ns, 1 ≤ n ∧ n ≤ 1000) → Box bx cs M' → DB (LX P w K mg base f cdv A outer s H E) B0 F0 M' [s0, .v (.ref bx), s2, .d (.tuple (iL ns)), s4', s5, s6, s7, s8, s9, s10, s11, s12, s13, s14, s15, s16, s17, s18] κ ss kk) :
    DB (LX P w K mg base f cdv A outer s H E) B0 F0 M [s0, .v (.ref bx), s2, s3, s4, s5, s6, s7, s8, s9, s10, s11, s12, s13, s14, s15, s16, s17, s18] κ (loopBody.take 1 ++ ss) kk := by
  refine db_cons <| ds_set 3 <| de_tupleOf V.tu <| de_callB (call_sortedDI rfl) V.so bt_sorted <| da_cons <| de_callTy (call_dictP rfl) V.di bt_dict <| da_cons <| de_lcC 4 <| di_range1 V.ra <| da_cons <| de_op op_add <| de_int <| de_goJ 0 (V.draw bx cs) hr <| da_cons <| nm 1 rfl <| da_cons <| de_int <| da_nil ⟨8, rfl, hb, by decide, by decide, fun m M1 hm0 hm1 hb1 => ⟨trivial, r2_i <| da_nil ⟨_, rfl, by omega, by omega, fun D => ⟨fun i acc M' => Box bx cs M' ∧ ∃ ns : List Int, ns.length = i ∧ (∀ n ∈ ns, 1 ≤ n ∧ n ≤ 1000) ∧ acc = ns.map (fun n => .tuple [.int n, .int 1]), ⟨hb1, [], rfl, (fun _ h => by cases h), rfl⟩, fun _ _ _ _ => trivial, ?_, ?_⟩⟩⟩⟩
  · rintro i d acc M' hd ⟨hb', ns, rfl, hns, rfl⟩ b
    obtain ⟨hi, -⟩ := rngD_get hd
    refine de_tup <| da_cons <| de_op op_add <| de_int <| de_goJ 1 (V.draw bx cs) hr <| da_cons <| nm 1 rfl <| da_cons <| de_int <| da_nil ⟨30, rfl, hb', by decide, by decide, fun z M2 hz0 hz1 hb2 => ⟨trivial, r2_i <| da_cons <| de_int <| da_nil ⟨[_, _], rfl, z2, _, M2, rfl, rfl, ?_, hb2, ns ++ [1 + z], by simp, ?_, ?_⟩⟩⟩
    · rw [List.length_map]; omega
    · intro n hn
      rcases List.mem_append.mp hn with hn | hn
      · exact hns n hn
      · rw [List.mem_singleton.mp hn]; omega
    · rw [List.map_append]; rfl
  · rintro acc M' ⟨hb', ns, hl, hns, rfl⟩
    have hl : ns.length ≤ 8 := by
      rw [rngD_len] at hl
      omega
    obtain ⟨ks, h1, h2, h3⟩ := mergeD_keys ns [] [] rfl
    refine da_nil <| rn_dict (es := ns.map fun n => (Sum.inl n, PyData.int 1)) ?_ fun p => da_nil <| rn_sortedDI List.mem_cons_self h1 (by simp at h3; omega) fun ys hp hs l => ⟨_, .cell List.mem_cons_self, db_drop 3 <| h ys M' _ ?_ ?_ hb'⟩
    · rw [List.map_map]
      exact .cell List.mem_cons_self
    · rw [hp.length_eq]; simp at h3; omega
    · intro n hn
      rcases h2 n (hp.mem_iff.mp hn) with h | h
      · cases h
      · exact hns n h
end
end H92
set_option maxHeartbeats 8000000
namespace H92
open PySem PySem.Spec PyProof.Rows L2 DL G92
section
variable {P : Program} {w : World} {K : PySem.W.Frag} {mg : Str → Option Value} {base : Heap} {f : Addr} {fd : FuncData}
variable {cdv : Value} {A : Around} {outer : List Env} {s : Shared} {H : Hp} {E : XK} {k : Nat} {B0 F0 : Hp} {bx cs : Addr}
/-- heads and heaps -/
theorem w_coins (V : Env92 P w K mg base k) (hr : Room k (LX P w K mg base f cdv A outer s H E).A) (nd : NL.Nodup) {M : Cs} {κ : List Sl} {kk : KK} {ss : List Stmt} {ns : List Int} {s0 s1 s2 s4 s5 s6 s7 s8 s9 s10 s11 s12 s13 s14 s15 s16 s17 s18 : Sl} (hl : ns.length ≤ 64) (hns : ∀ n ∈ ns, 1 ≤ n ∧ n ≤ 1000)
    (h : ∀ s5' s6' s7', DB (LX P w K mg base f cdv A outer s H E) B0 F0 M [s0, s1, s2, .d (.tuple (iL ns)), s4, s5', s6', s7', s8, s9, s10, s11, s12, s13, s14, s15, s16, s17, s18] κ ss kk) :
    DB (LX P w K mg base f cdv A outer s H E) B0 F0 M [s0, s1, s2, .d (.tuple (iL ns)), s4, s5, s6, s7, s8, s9, s10, s11, s12, s13, s14, s15, s16, s17, s18] κ ((loopBody.drop 1).take 6 ++ ss) kk := by
  have hml := movs_len ns
  refine db_cons <| ds_par 5 6 <| da_cons <| de_pu V.lxor hr <| da_cons <| nm 3 rfl <| da_nil <| da_pu (true, ns) rfl trivial <| da_cons <| de_pu V.lmov hr <| da_cons <| nm 3 rfl <| da_nil <| da_pu (true, ns) rfl (Nat.le_trans hl (by decide)) <| da_nil ⟨_, _, rfl, ?_⟩
  refine db_cons <| ds_if <| dt_w <| dw_or <| dt_not <| dt_val <| de_pu V.same hr <| da_cons <| de_tup <| da_cons <| de_pu V.hv hr <| da_cons <| de_str <| da_cons <| nm 3 rfl <| da_nil <| da_pu (.two, ns) rfl trivial <| da_cons <| de_pu V.wc hr <| da_cons <| nm 3 rfl <| da_nil <| da_pu ns rfl trivial <| da_nil ⟨[_, _], rfl, z2, da_cons <| de_tup <| da_cons <| nm 5 rfl <| da_cons <| nm 5 rfl <| da_nil ⟨[_, _], rfl, z2, da_nil <| da_pu (.tuple (iL [xorI ns, xorI ns])) (by rw [hv_xor]; rfl) (same_iL 2 z2) ⟨_, rfl, (fun _ => dw_or1 <| dt_not <| dt_val <| de_pu V.same hr <| da_cons <| de_pu V.nm hr <| da_cons <| nm 3 rfl <| da_nil <| da_pu ns rfl (Nat.le_trans hl (by decide)) <| da_cons <| de_tupleOf V.tu <| nm 6 rfl ⟨movs ns, .lst _, da_nil <| da_pu (.tuple (movs ns)) rfl (same_movs 1 (Nat.le_trans hl (by decide))) ⟨_, rfl, waysF rfl <| db_nil ?_⟩⟩), fun h => by cases h⟩⟩⟩
  refine db_cons <| ds_set 7 <| de_freeze <| de_sorted hr.units V.so <| de_lc2C 8 9 (by decide) <| di_list <| nm 6 rfl ⟨movs ns, rfl, fun D => ⟨fun i acc M' => M' = M ∧ acc = ((movs ns).take i).map (turnOf ns), ⟨rfl, rfl⟩, fun _ _ _ _ => trivial, ?_, ?_⟩⟩
  · rintro i d acc M' hd ⟨rfl, rfl⟩
    have hi := (List.getElem?_eq_some_iff.mp hd).1
    obtain ⟨j, z, hz, rfl⟩ := movs_mem (List.mem_of_getElem? hd)
    obtain ⟨hj, hjz⟩ := List.getElem?_eq_some_iff.mp hz
    have ix : atI (iL ns) (j : Int) = some (.int z) := atI_at (by omega) (by rw [Int.toNat_natCast, List.getElem?_map, hz]; rfl)
    have acc1 : ((movs ns).take (i + 1)).map (turnOf ns) = ((movs ns).take i).map (turnOf ns) ++ [turn z (Builtin.bitXor z (xorI ns))] := by
      rw [take_get hd, List.map_append]
      show _ ++ [turn (ns.getD (j : Int).toNat 0) (Builtin.bitXor z (xorI ns))] = _
      rw [Int.toNat_natCast, getD_lt hj, hjz]
    have hlen : (((movs ns).take i).map (turnOf ns)).length < 100000 := by
      rw [List.length_map, List.length_take]
      omega
    refine ⟨_, _, rfl, fun b => de_ifexp <| dt_cmp op_eq <| nm 9 rfl <| de_int <| r2_teq <| waysD (fun c => ?_) fun c => ?_⟩
    · refine de_tup <| da_cons <| de_ix ix_seq <| nm 3 rfl <| nm 8 rfl <| r2_ix (.tup _) ix <| da_nil ⟨[_], rfl, z1, _, _, rfl, rfl, hlen, rfl, ?_⟩
      rw [acc1]
      unfold turn
      rw [if_pos c]
    · refine de_tup <| da_cons <| nm 9 rfl <| da_cons <| de_ix ix_seq <| nm 3 rfl <| nm 8 rfl <| r2_ix (.tup _) ix <| da_nil ⟨[_, _], rfl, z2, _, _, rfl, rfl, hlen, rfl, ?_⟩
      rw [acc1]
      unfold turn
      rw [if_neg c]
  · rintro acc M' ⟨rfl, rfl⟩
    rw [List.take_length, movs_turns]
    have htl := turns_len (xorI ns) ns
    refine ⟨_, .cell List.mem_cons_self, alike_ints turns_int, sortable_ints turns_int, by omega, depth_ints turns_int, fun l => ⟨l, _, _, rfl, rfl, db_drop 1 ?_⟩⟩
    have ssort : SameOk 3 (.tuple (sortD (turns (xorI ns) ns))) := same_tups 2 (by unfold sortD; rw [List.length_mergeSort]; omega) fun d hd => by
      have hd : d ∈ turns (xorI ns) ns := List.mem_mergeSort.mp hd
      obtain ⟨z, _, hd⟩ := List.mem_flatMap.mp hd
      unfold turn1 at hd
      split at hd
      · rw [List.mem_singleton.mp hd]; exact same_turn 1 _ _
      · cases hd
    refine db_cons <| ds_if <| dt_not <| dt_val <| de_pu V.same hr <| da_cons <| de_pu V.cm hr <| da_cons <| de_str <| da_cons <| nm 3 rfl <| da_nil <| da_pu ns rfl ⟨hl, hns⟩ <| da_cons <| de_tupleOf V.tu <| nm 7 rfl ⟨_, .lst _, da_nil <| da_pu (.tuple (sortD (turns (xorI ns) ns))) rfl ssort ⟨_, rfl, waysF rfl <| db_nil ?_⟩⟩
    refine db_cons <| ds_if <| dt_not <| dt_val <| de_pu V.same hr <| da_cons <| de_pu V.hv hr <| da_cons <| de_str <| da_cons <| nm 3 rfl <| da_nil <| da_pu (.one, ns) rfl trivial <| da_cons <| de_op op_sub <| de_len V.le <| nm 3 rfl ⟨_, .tup _, de_op op_mul <| de_op op_fdivW <| de_len V.le <| nm 3 rfl ⟨_, .tup _, de_int <| r2_c ⟨by decide, by decide⟩ <| de_int <| r2_c (cmulL _ (by decide)) <| r2_i <| da_nil <| da_pu (.int (hv .one ns)) ?_ (same_int 3 _) ⟨_, rfl, waysF rfl <| db_nil ?_⟩⟩⟩
    · rw [xor_ones, List.length_map]
      rw [show ((ns.length : Nat) : Int) - ((ns.length : Nat) : Int) / 2 * 2 = ((ns.length % 2 : Nat) : Int) by omega]
    refine db_cons <| ds_if <| dt_not <| dt_val <| de_pu V.same hr <| da_cons <| de_pu V.hv hr <| da_cons <| de_str <| da_cons <| nm 3 rfl <| da_nil <| da_pu (.pair, ns) rfl trivial <| da_cons <| de_pu V.wc hr <| da_cons <| de_tupleOf V.tu <| de_lcF 10 (fun d => match d with
      | .int p => .int (p - 1)
      | d => d) <| di_tup <| nm 3 rfl ⟨_, rfl, ?_, fun _ _ _ => trivial, ?_, fun D => ⟨_, .cell List.mem_cons_self, da_nil <| da_pu (ns.map (cv .pair)) ?_ trivial <| da_nil <| da_pu (.int (hv .pair ns)) rfl (same_int 3 _) ⟨_, rfl, waysF rfl <| db_nil <| db_drop 1 <| h _ _ _⟩⟩⟩
    · rw [List.length_map]; omega
    · intro d D acc hd b
      obtain ⟨n, _, rfl⟩ := List.mem_map.mp hd
      exact de_op op_sub <| nm 10 rfl <| de_int <| r2_i ⟨rfl, rfl⟩
    · rw [show iL (ns.map (cv .pair)) = (ns.map (cv .pair)).map PyData.int from rfl, List.map_map, List.map_map]
      rfl
end
end H92
set_option maxHeartbeats 8000000
namespace H92
open PySem PySem.Spec PyProof.Rows L2 DL G92
section
variable {P : Program} {w : World} {K : PySem.W.Frag} {mg : Str → Option Value} {base : Heap} {f : Addr} {fd : FuncData}
variable {cdv : Value} {A : Around} {outer : List Env} {s : Shared} {H : Hp} {E : XK} {k : Nat} {B0 F0 : Hp} {bx cs : Addr}
theorem same_natL (m : Nat) {ns : List Nat} (h : ns.length ≤ 100000) : SameOk (m + 1) (.tuple (natL ns)) := by
  rw [natL_iL]
  exact same_iL m (by rw [List.length_map]; exact h)
/-- stalks side by side -/
theorem w_stalks (V : Env92 P w K mg base k) (hr : Room k (LX P w K mg base f cdv A outer s H E).A) (nd : NL.Nodup) {M : Cs} {κ : List Sl} {kk : KK} {ss : List Stmt} {s0 s2 s3 s4 s5 s6 s7 s8 s9 s10 s11 s12 s13 s14 s15 s16 s17 s18 : Sl} (hb : Box bx cs M)
    (h : ∀ M' s4' s11' s12' s13', Box bx cs M' → DB (LX P w K mg base f cdv A outer s H E) B0 F0 M' [s0, .v (.ref bx), s2, s3, s4', s5, s6, s7, s8, s9, s10, s11', s12', s13', s14, s15, s16, s17, s18] κ ss kk) :
    DB (LX P w K mg base f cdv A outer s H E) B0 F0 M [s0, .v (.ref bx), s2, s3, s4, s5, s6, s7, s8, s9, s10, s11, s12, s13, s14, s15, s16, s17, s18] κ (loopBody.drop 7 ++ ss) kk := by
  refine db_cons <| ds_set 11 <| de_freeze <| de_lcC 4 <| di_range1 V.ra <| da_cons <| de_op op_add <| de_int <| de_goJ 0 (V.draw bx cs) hr <| da_cons <| nm 1 rfl <| da_cons <| de_int <| da_nil ⟨3, rfl, hb, by decide, by decide, fun m M1 hm0 hm1 hb1 => ⟨trivial, r2_i <| da_nil ⟨_, rfl, by omega, by omega, fun D => ⟨fun i acc M' => Box bx cs M' ∧ ∃ ls : List Nat, ls.length = i ∧ (∀ l ∈ ls, 1 ≤ l ∧ l ≤ 4) ∧ acc = natL ls, ⟨hb1, [], rfl, (fun _ h => by cases h), rfl⟩, fun _ _ _ _ => trivial, ?_, ?_⟩⟩⟩⟩
  · rintro i d acc M' hd ⟨hb', ls, rfl, hls, rfl⟩ b
    obtain ⟨hi, -⟩ := rngD_get hd
    refine de_op op_add <| de_int <| de_goJ 1 (V.draw bx cs) hr <| da_cons <| nm 1 rfl <| da_cons <| de_int <| da_nil ⟨4, rfl, hb', by decide, by decide, fun z M2 hz0 hz1 hb2 => ⟨trivial, r2_i ⟨_, M2, rfl, rfl, ?_, hb2, ls ++ [(1 + z).toNat], by simp, ?_, ?_⟩⟩⟩
    · unfold natL; rw [List.length_map]; omega
    · intro l hl
      rcases List.mem_append.mp hl with hl | hl
      · exact hls l hl
      · rw [List.mem_singleton.mp hl]; omega
    · unfold natL
      rw [List.map_append]
      show _ ++ [PyData.int (1 + z)] = _ ++ [PyData.int ((1 + z).toNat : Int)]
      rw [Int.toNat_of_nonneg (by omega)]
  · rintro acc M' ⟨hb', ls, hl, hls, rfl⟩
    rw [rngD_len] at hl
    have hl1 : 1 ≤ ls.length := by omega
    have hl3 : ls.length ≤ 3 := by omega
    refine ⟨D, _, _, rfl, rfl, ?_⟩
    refine db_cons <| ds_if <| dt_cmp op_lt <| de_sum V.su <| nm 11 rfl ⟨ls.map fun i : Nat => (i : Int), natL_iL ls ▸ .lst _, de_int <| r2_t ?_⟩
    refine waysD (fun hs => ?_) (fun _ => db_nil <| h M' _ _ _ _ hb')
    rw [sum_ofN] at hs
    have hs : ls.sum < 12 := by omega
    obtain ⟨gb, gw⟩ := good_at (fam_mem hl1 hl3 hls hs)
    obtain ⟨b1, b2, b3⟩ := stalks_len ls 0 1
    have ol := order_len ls
    refine db_cons <| ds_asg <| de_pu V.st hr <| da_cons <| nm 11 rfl <| da_nil <| da_pu ls rfl ⟨by omega, by omega⟩ <| dg_tup rfl <| dgs_cons <| dg_name 12 <| dgs_cons <| dg_name 13 <| dgs_nil ?_
    refine db_cons <| ds_if <| dt_not <| dt_val <| de_pu V.same hr <| da_cons <| de_pu V.bv hr <| da_cons <| nm 12 rfl <| da_nil <| da_pu (((stalks 0 ls 1).2.2, (order ls).map (·.1)), xorN ls) rfl ⟨?_, ?_, gb⟩ <| da_cons <| de_pu V.wc hr <| da_cons <| de_tupleOf V.tu <| nm 11 rfl ⟨natL ls, .lst _, da_nil <| da_pu (ls.map fun i : Nat => (i : Int)) (by rw [natL_iL]) trivial <| da_nil <| da_pu (.int (xorN ls : Nat)) (by rw [xorI_ofN]) (same_int 3 _) ⟨_, rfl, waysF rfl <| db_nil ?_⟩⟩
    · show (stalks 0 ls 1).2.2 ≤ 60
      omega
    · show ((order ls).map (·.1)).length ≤ 1000
      rw [List.length_map]; omega
    refine db_cons <| ds_if <| dt_not <| dt_val <| de_pu V.same hr <| da_cons <| de_pu V.wcu hr <| da_cons <| nm 12 rfl <| da_nil <| da_pu (((stalks 0 ls 1).2.2, (order ls).map (·.1)), _) rfl ⟨?_, ?_, gw⟩ <| da_cons <| de_tupleOf V.tu <| de_lcIfF 14 (fun d => match d with
      | .int e => (edL (movN (xorN ls) 0 ls)).any fun z => PyData.eqv z (edD (((order ls).map (·.2)).getD e.toNat (0, 0)))
      | _ => false) id <| di_range1 V.ra <| da_cons <| de_len V.le <| nm 13 rfl ⟨edL ((order ls).map (·.2)), .lst _, da_nil ⟨_, rfl, ?_, ?_, ?_, fun _ _ _ => trivial, ?_, ?_, fun D => ⟨_, .cell List.mem_cons_self, da_nil <| da_pu (.tuple (natL ((List.range (order ls).length).filter fun e => (movN (xorN ls) 0 ls).contains (((order ls).map (·.2)).getD e (0, 0))))) ?_ ?_ ⟨_, rfl, waysF rfl <| db_nil <| db_nil <| db_drop 1 <| h _ _ _ _ _ hb'⟩⟩⟩⟩
    · show (stalks 0 ls 1).2.2 ≤ 60
      omega
    · show ((order ls).map (·.1)).length ≤ 1000
      rw [List.length_map]; omega
    · rw [List.length_map, List.length_map]; omega
    · rw [List.length_map, List.length_map]; omega
    · rw [rngD_len, List.length_map, List.length_map]; omega
    · intro d D acc hd b
      obtain ⟨i, hi, rfl⟩ := rngD_mem hd
      rw [List.length_map, List.length_map, Int.toNat_natCast] at hi
      rw [Int.zero_add]
      refine dt_cmp (op_inD (show (LX P w K mg base f cdv A outer s H E).A.units + 65 < cLine from by have := hr.un; omega)) <| de_ix ix_seq <| nm 13 rfl <| nm 14 rfl <| r2_ix (.lst _) (ed_at (by rw [List.length_map]; exact hi)) <| de_pu V.lmov hr <| da_cons <| nm 11 rfl <| da_nil <| da_pu (false, ls.map fun i : Nat => (i : Int)) (by rw [natL_iL]; rfl) (by show (ls.map fun i : Nat => (i : Int)).length ≤ 1000; rw [List.length_map]; omega) <| r2_inD (ds := edL (movN (xorN ls) 0 ls)) (by rw [movs_ofN]; exact .lst _) (shaped_ed _) (shaped_edL _) ⟨_, rfl, ?_, rfl⟩
      rfl
    · intro d D acc hd _ b
      exact nm 14 rfl ⟨rfl, rfl⟩
    · rw [List.map_id, List.length_map, List.length_map, Int.toNat_natCast, rng0]
      congr 3
      unfold natL
      rw [List.filter_map]
      refine congrArg (fun l => PyData.tuple (List.map (fun i : Nat => PyData.int i) l)) (List.filter_congr fun i _ => ?_)
      exact any_contains _ _
    · refine same_natL 2 (Nat.le_trans (List.length_filter_le _ _) ?_)
      rw [List.length_range]
      omega
end
end H92
set_option maxHeartbeats 8000000
namespace H92
open PySem PySem.Spec PyProof.Rows L2 DL G92
section
variable {P : Program} {w : World} {K : PySem.W.Frag} {mg : Str → Option Value} {base : Heap} {f : Addr} {fd : FuncData}
theorem cvs_two (n : Int) : cvs .two n = rngD 1 n.toNat := by
  unfold cvs
  refine (List.map_congr_left fun d hd => ?_).trans (List.map_id _)
  obtain ⟨i, _, rfl⟩ := rngD_mem hd
  rfl
theorem cvs_at (t : Srt) {n : Int} {i : Nat} (h : i < n.toNat) : atI (cvs t n) (0 + (i : Int)) = some (.int (cv t (1 + (i : Int)))) := atI_at (by omega) (by
  unfold cvs rngD
  rw [show ((0 : Int) + (i : Int)).toNat = i by omega, List.getElem?_map, List.getElem?_map, List.getElem?_range h]
  rfl)
theorem ok_law {k : Nat} (Fn : FnP K "law" s_law f fd) (V : Env92 P w K mg base k) : FnOk P w K mg base CX0 (k + 1) f fd ["script"] (SpG K R_law) := by
  refine fn_okD Fn sc_law (fun κ M W h => ?_) fun cdv A outer s H E hr nd B0 F0 κ M W hR => ?_
  · obtain ⟨ns, _, rfl, _⟩ := h
    rfl
  · obtain ⟨ns, hl, rfl, rfl, hW⟩ := hR
    have g_tu := V.tu
    have g_ra := V.ra
    refine db_cons <| ds_set 1 <| de_goJ 0 V.box hr <| da_cons <| nm 0 rfl <| da_nil ⟨ns, hl, rfl, rfl, fun bx cs M1 hb => ⟨trivial, ?_⟩⟩
    refine db_cons <| ds_for <| di_range1 V.ra <| da_cons <| de_int <| da_nil ⟨4, rfl, by decide, by decide, fun i M' ρ' => Box bx cs M' ∧ ∃ s2 s3 s4 s5 s6 s7 s11 s12 s13, ρ' = [.rd (iL ns), .v (.ref bx), s2, s3, s4, s5, s6, s7, .un, .un, .un, s11, s12, s13, .un, .un, .un, .un, .un], ⟨hb, _, _, _, _, _, _, _, _, _, rfl⟩, fun _ _ _ _ => trivial, ?_, ?_⟩
    · rintro i d M' ρ' hd ⟨hb', s2, s3, s4, s5, s6, s7, s11, s12, s13, rfl⟩
      refine dg_name 2 ?_
      exact w_heads (ss := loopBody.drop 1) V hr nd hb' fun hs M2 s4' hl hh hb2 => w_coins (ss := loopBody.drop 7) V hr nd hl hh fun s5' s6' s7' => w_stalks (ss := []) V hr nd hb2 fun M3 s4'' s11' s12' s13' hb3 => db_nil ⟨hb3, _, _, _, _, _, _, _, _, _, rfl⟩
    · rintro M' ρ' ⟨hb', s2, s3, s4, s5, s6, s7, s11, s12, s13, rfl⟩
      refine db_cons <| ds_set 15 <| de_op op_add <| de_int <| de_goJ 0 (V.draw bx cs) hr <| da_cons <| nm 1 rfl <| da_cons <| de_int <| da_nil ⟨64, rfl, hb', by decide, by decide, fun m M1 hm0 hm1 hb1 => ⟨trivial, r2_i ?_⟩⟩
      have hn : 0 ≤ 1 + m ∧ 1 + m ≤ 1000 := by omega
      generalize hnn : 1 + m = n at hn ⊢
      refine db_cons <| ds_parT 2 <| da_cons <| de_pu V.cvs hr <| da_cons <| de_str <| da_cons <| nm 15 rfl <| da_nil <| da_pu (.ruler, n) rfl hn <| da_cons <| de_pu V.cvs hr <| da_cons <| de_str <| da_cons <| nm 15 rfl <| da_nil <| da_pu (.even, n) rfl hn <| da_nil ⟨rfl, dgs_cons <| dg_name 16 <| dgs_cons <| dg_name 17 <| dgs_nil ?_⟩
      refine db_cons <| ds_ret <| de_and <| de_pu V.same hr <| da_cons <| de_pu V.cvs hr <| da_cons <| de_str <| da_cons <| nm 15 rfl <| da_nil <| da_pu (.two, n) rfl hn <| da_cons <| de_tupRg2 V.tu V.ra <| de_int <| de_op op_add <| nm 15 rfl <| de_int <| r2_i ⟨_, _, rfl, rfl, ?_, da_nil <| da_pu (.tuple (rngD 1 n.toNat)) ?_ ?_ ⟨_, rfl, waysT rfl ?_⟩⟩
      · exact ⟨by omega, by omega, by omega, by omega, by omega⟩
      · rw [cvs_two, show n + 1 - 1 = n by omega]
      · rw [show rngD 1 n.toNat = iL ((List.range n.toNat).map fun i : Nat => 1 + (i : Int)) by
          unfold rngD
          rw [show iL ((List.range n.toNat).map fun i : Nat => 1 + (i : Int)) = ((List.range n.toNat).map fun i : Nat => 1 + (i : Int)).map PyData.int from rfl, List.map_map]
          rfl]
        exact same_iL 2 (by simp; omega)
      · refine de_one <| de_all V.al <| de_lcF 18 (fun _ => .bool true) <| di_range1 V.ra <| da_cons <| nm 15 rfl <| da_nil ⟨_, rfl, by omega, by omega, ?_, fun _ _ _ => trivial, ?_, fun D => ⟨List.replicate n.toNat true, ?_, ?_⟩⟩
        · rw [rngD_len]; omega
        · intro d D acc hd b
          obtain ⟨i, hi, rfl⟩ := rngD_mem hd
          refine de_cmp op_eq <| de_op op_fdivW <| de_ix ix_seq <| nm 16 rfl <| nm 18 rfl <| r2_ix (.tup _) (cvs_at .ruler hi) <| de_int <| r2_c ⟨by decide, by decide⟩ <| de_ix ix_seq <| nm 17 rfl <| nm 18 rfl <| r2_ix (.tup _) (cvs_at .even hi) <| r2_eqI ⟨?_, rfl⟩
          rw [decide_eq_true (show cv .ruler (1 + (i : Int)) / 2 = cv .even (1 + (i : Int)) from rfl)]
        · rw [show ((rngD 0 n.toNat).map fun _ => PyData.bool true) = (List.replicate n.toNat true).map PyData.bool by
            rw [List.map_const', rngD_len, List.map_replicate]]
          exact .cell List.mem_cons_self
        · rw [show (List.replicate n.toNat true).all id = true by simp]
          exact hW _
end
end H92
set_option maxHeartbeats 0
namespace H92
open PySem PySem.Spec PyProof.Rows L2
def d_ones : He.DefD := ⟨("ones", none), "ones", "ones", defArgs s_ones, defBody s_ones, defScope s_ones, [], []⟩
def d_coin_value : He.DefD := ⟨("coin_value", none), "coin_value", "coin_value", defArgs s_coin_value, defBody s_coin_value, defScope s_coin_value, [], []⟩
def d_coin_values : He.DefD := ⟨("coin_values", none), "coin_values", "coin_values", defArgs s_coin_values, defBody s_coin_values, defScope s_coin_values, [], []⟩
def d_heads_value : He.DefD := ⟨("heads_value", none), "heads_value", "heads_value", defArgs s_heads_value, defBody s_heads_value, defScope s_heads_value, [], []⟩
def d_may_turn : He.DefD := ⟨("may_turn", none), "may_turn", "may_turn", defArgs s_may_turn, defBody s_may_turn, defScope s_may_turn, [], []⟩
def d_moves_with : He.DefD := ⟨("moves_with", none), "moves_with", "moves_with", defArgs s_moves_with, defBody s_moves_with, defScope s_moves_with, [], []⟩
def d_coin_moves : He.DefD := ⟨("coin_moves", none), "coin_moves", "coin_moves", defArgs s_coin_moves, defBody s_coin_moves, defScope s_coin_moves, [], []⟩
def d_hanging : He.DefD := ⟨("hanging", none), "hanging", "hanging", defArgs s_hanging, defBody s_hanging, defScope s_hanging, [], []⟩
def d_cut : He.DefD := ⟨("cut", none), "cut", "cut", defArgs s_cut, defBody s_cut, defScope s_cut, [], []⟩
def d_is_bridge : He.DefD := ⟨("is_bridge", none), "is_bridge", "is_bridge", defArgs s_is_bridge, defBody s_is_bridge, defScope s_is_bridge, [], []⟩
def d_groups_of : He.DefD := ⟨("groups_of", none), "groups_of", "groups_of", defArgs s_groups_of, defBody s_groups_of, defScope s_groups_of, [], []⟩
def d_fused : He.DefD := ⟨("fused", none), "fused", "fused", defArgs s_fused, defBody s_fused, defScope s_fused, [], []⟩
def d_tree_value : He.DefD := ⟨("tree_value", none), "tree_value", "tree_value", defArgs s_tree_value, defBody s_tree_value, defScope s_tree_value, [], []⟩
def d_bush_value : He.DefD := ⟨("bush_value", none), "bush_value", "bush_value", defArgs s_bush_value, defBody s_bush_value, defScope s_bush_value, [], []⟩
def d_winning_cuts : He.DefD := ⟨("winning_cuts", none), "winning_cuts", "winning_cuts", defArgs s_winning_cuts, defBody s_winning_cuts, defScope s_winning_cuts, [], []⟩
def d_without_carry : He.DefD := ⟨("without_carry", none), "without_carry", "without_carry", defArgs s_without_carry, defBody s_without_carry, defScope s_without_carry, [], []⟩
def d_nim_moves : He.DefD := ⟨("nim_moves", none), "nim_moves", "nim_moves", defArgs s_nim_moves, defBody s_nim_moves, defScope s_nim_moves, [], []⟩
def d__law_box : He.DefD := ⟨("_law_box", none), "_law_box", "_law_box", defArgs s__law_box, defBody s__law_box, defScope s__law_box, [], []⟩
def d__law_load : He.DefD := ⟨("_law_load", none), "_law_load", "_law_load", defArgs s__law_load, defBody s__law_load, defScope s__law_load, [], []⟩
def d__law_draw : He.DefD := ⟨("_law_draw", none), "_law_draw", "_law_draw", defArgs s__law_draw, defBody s__law_draw, defScope s__law_draw, [], []⟩
def d__law_same : He.DefD := ⟨("_law_same", none), "_law_same", "_law_same", defArgs s__law_same, defBody s__law_same, defScope s__law_same, [], []⟩
def d__law_xor : He.DefD := ⟨("_law_xor", none), "_law_xor", "_law_xor", defArgs s__law_xor, defBody s__law_xor, defScope s__law_xor, [], []⟩
def d__law_moves : He.DefD := ⟨("_law_moves", none), "_law_moves", "_law_moves", defArgs s__law_moves, defBody s__law_moves, defScope s__law_moves, [], []⟩
def d__law_stalks : He.DefD := ⟨("_law_stalks", none), "_law_stalks", "_law_stalks", defArgs s__law_stalks, defBody s__law_stalks, defScope s__law_stalks, [], []⟩
def d_law : He.DefD := ⟨("law", none), "law", "law", defArgs s_law, defBody s_law, defScope s_law, [], []⟩
def fn : List He.DefD := [d_ones, d_coin_value, d_coin_values, d_heads_value, d_may_turn, d_moves_with, d_coin_moves, d_hanging, d_cut, d_is_bridge, d_groups_of, d_fused, d_tree_value, d_bush_value, d_winning_cuts, d_without_carry, d_nim_moves, d__law_box, d__law_load, d__law_draw, d__law_same, d__law_xor, d__law_moves, d__law_stalks, d_law]
def fa : List He.Fa := [.glo "ones", .glo "coin_value", .glo "coin_values", .glo "heads_value", .glo "may_turn", .glo "moves_with", .glo "coin_moves", .glo "hanging", .glo "cut", .glo "is_bridge", .glo "groups_of", .glo "fused", .glo "tree_value", .glo "bush_value", .glo "winning_cuts", .glo "without_carry", .glo "nim_moves", .glo "_law_box", .glo "_law_load", .glo "_law_draw", .glo "_law_same", .glo "_law_xor", .glo "_law_moves", .glo "_law_stalks", .glo "law", .glo "SORTS", .free "all", .free "bool", .free "dict", .free "enumerate", .free "int", .free "isinstance", .free "len", .free "list", .free "max", .free "min", .free "range", .free "set", .free "sorted", .free "str", .free "sum", .free "tuple"]
def ex (K : PySem.W.Frag) : Bool := DLHook.tupN K "SORTS" ["one", "two", "three", "pair", "ruler", "even ruler"]
abbrev R : PySem.W.OpenRow := PySem.W.OpenLaw.row PySem.Challenge.rw_cantmove_k92_whole_heads_heaps_and_stalk
abbrev hk : PySem.W.Hook := DLHook.hookX 4 fa fn ex
def ob (s : PySem.W.SharedT) : DLHook.AlX := DLHook.obsX 4 fa fn ex (HandSHeadRun.getT s)
theorem ob_eq (s : PySem.W.SharedT) : ob s = hk.obs s.abs := DLHook.obsX_eq (HandSHeadRun.getT_eq s)
def loose : List PySem.Str := ["_law_box", "_law_draw", "_law_load", "_law_moves", "_law_same", "_law_stalks", "_law_xor", "bush_value", "coin_moves", "coin_value", "coin_values", "cut", "fused", "groups_of", "hanging", "heads_value", "is_bridge", "may_turn", "moves_with", "nim_moves", "ones", "tree_value", "winning_cuts", "without_carry", "SORTS"]
theorem run (w : World) : HandSHeadRun.RunEq R (PySem.W.view R.prog [29]) hk ob 3000 loose w := by
  intro os
  kernel_rfl
section
variable {K : PySem.W.Frag} {h : Heap} {mg : Str → Option Value}
theorem f_ones (c : He.SaysD fa fn K) : ∃ fd, DL.FnP K "ones" s_ones (He.fAd K ("ones", none)) fd := c.def_ 0 (d := d_ones) rfl
theorem f_coin_value (c : He.SaysD fa fn K) : ∃ fd, DL.FnP K "coin_value" s_coin_value (He.fAd K ("coin_value", none)) fd := c.def_ 1 (d := d_coin_value) rfl
theorem f_coin_values (c : He.SaysD fa fn K) : ∃ fd, DL.FnP K "coin_values" s_coin_values (He.fAd K ("coin_values", none)) fd := c.def_ 2 (d := d_coin_values) rfl
theorem f_heads_value (c : He.SaysD fa fn K) : ∃ fd, DL.FnP K "heads_value" s_heads_value (He.fAd K ("heads_value", none)) fd := c.def_ 3 (d := d_heads_value) rfl
theorem f_may_turn (c : He.SaysD fa fn K) : ∃ fd, DL.FnP K "may_turn" s_may_turn (He.fAd K ("may_turn", none)) fd := c.def_ 4 (d := d_may_turn) rfl
theorem f_moves_with (c : He.SaysD fa fn K) : ∃ fd, DL.FnP K "moves_with" s_moves_with (He.fAd K ("moves_with", none)) fd := c.def_ 5 (d := d_moves_with) rfl
theorem f_coin_moves (c : He.SaysD fa fn K) : ∃ fd, DL.FnP K "coin_moves" s_coin_moves (He.fAd K ("coin_moves", none)) fd := c.def_ 6 (d := d_coin_moves) rfl
theorem f_hanging (c : He.SaysD fa fn K) : ∃ fd, DL.FnP K "hanging" s_hanging (He.fAd K ("hanging", none)) fd := c.def_ 7 (d := d_hanging) rfl
theorem f_cut (c : He.SaysD fa fn K) : ∃ fd, DL.FnP K "cut" s_cut (He.fAd K ("cut", none)) fd := c.def_ 8 (d := d_cut) rfl
theorem f_is_bridge (c : He.SaysD fa fn K) : ∃ fd, DL.FnP K "is_bridge" s_is_bridge (He.fAd K ("is_bridge", none)) fd := c.def_ 9 (d := d_is_bridge) rfl
theorem f_groups_of (c : He.SaysD fa fn K) : ∃ fd, DL.FnP K "groups_of" s_groups_of (He.fAd K ("groups_of", none)) fd := c.def_ 10 (d := d_groups_of) rfl
theorem f_fused (c : He.SaysD fa fn K) : ∃ fd, DL.FnP K "fused" s_fused (He.fAd K ("fused", none)) fd := c.def_ 11 (d := d_fused) rfl
theorem f_tree_value (c : He.SaysD fa fn K) : ∃ fd, DL.FnP K "tree_value" s_tree_value (He.fAd K ("tree_value", none)) fd := c.def_ 12 (d := d_tree_value) rfl
theorem f_bush_value (c : He.SaysD fa fn K) : ∃ fd, DL.FnP K "bush_value" s_bush_value (He.fAd K ("bush_value", none)) fd := c.def_ 13 (d := d_bush_value) rfl
theorem f_winning_cuts (c : He.SaysD fa fn K) : ∃ fd, DL.FnP K "winning_cuts" s_winning_cuts (He.fAd K ("winning_cuts", none)) fd := c.def_ 14 (d := d_winning_cuts) rfl
theorem f_without_carry (c : He.SaysD fa fn K) : ∃ fd, DL.FnP K "without_carry" s_without_carry (He.fAd K ("without_carry", none)) fd := c.def_ 15 (d := d_without_carry) rfl
theorem f_nim_moves (c : He.SaysD fa fn K) : ∃ fd, DL.FnP K "nim_moves" s_nim_moves (He.fAd K ("nim_moves", none)) fd := c.def_ 16 (d := d_nim_moves) rfl
theorem f__law_box (c : He.SaysD fa fn K) : ∃ fd, DL.FnP K "_law_box" s__law_box (He.fAd K ("_law_box", none)) fd := c.def_ 17 (d := d__law_box) rfl
theorem f__law_load (c : He.SaysD fa fn K) : ∃ fd, DL.FnP K "_law_load" s__law_load (He.fAd K ("_law_load", none)) fd := c.def_ 18 (d := d__law_load) rfl
theorem f__law_draw (c : He.SaysD fa fn K) : ∃ fd, DL.FnP K "_law_draw" s__law_draw (He.fAd K ("_law_draw", none)) fd := c.def_ 19 (d := d__law_draw) rfl
theorem f__law_same (c : He.SaysD fa fn K) : ∃ fd, DL.FnP K "_law_same" s__law_same (He.fAd K ("_law_same", none)) fd := c.def_ 20 (d := d__law_same) rfl
theorem f__law_xor (c : He.SaysD fa fn K) : ∃ fd, DL.FnP K "_law_xor" s__law_xor (He.fAd K ("_law_xor", none)) fd := c.def_ 21 (d := d__law_xor) rfl
theorem f__law_moves (c : He.SaysD fa fn K) : ∃ fd, DL.FnP K "_law_moves" s__law_moves (He.fAd K ("_law_moves", none)) fd := c.def_ 22 (d := d__law_moves) rfl
theorem f__law_stalks (c : He.SaysD fa fn K) : ∃ fd, DL.FnP K "_law_stalks" s__law_stalks (He.fAd K ("_law_stalks", none)) fd := c.def_ 23 (d := d__law_stalks) rfl
theorem f_law (c : He.SaysD fa fn K) : ∃ fd, DL.FnP K "law" s_law (He.fAd K ("law", none)) fd := c.def_ 24 (d := d_law) rfl
theorem g_ones (X : K.In h) (G : h.Ns mainGlobals mg) (c : He.SaysD fa fn K) : mg "ones" = some (.ref (He.ga K "ones")) := He.glo_ok X G (c.fact 0 (f := .glo "ones") rfl)
theorem g_coin_value (X : K.In h) (G : h.Ns mainGlobals mg) (c : He.SaysD fa fn K) : mg "coin_value" = some (.ref (He.ga K "coin_value")) := He.glo_ok X G (c.fact 1 (f := .glo "coin_value") rfl)
theorem g_coin_values (X : K.In h) (G : h.Ns mainGlobals mg) (c : He.SaysD fa fn K) : mg "coin_values" = some (.ref (He.ga K "coin_values")) := He.glo_ok X G (c.fact 2 (f := .glo "coin_values") rfl)
theorem g_heads_value (X : K.In h) (G : h.Ns mainGlobals mg) (c : He.SaysD fa fn K) : mg "heads_value" = some (.ref (He.ga K "heads_value")) := He.glo_ok X G (c.fact 3 (f := .glo "heads_value") rfl)
theorem g_may_turn (X : K.In h) (G : h.Ns mainGlobals mg) (c : He.SaysD fa fn K) : mg "may_turn" = some (.ref (He.ga K "may_turn")) := He.glo_ok X G (c.fact 4 (f := .glo "may_turn") rfl)
theorem g_moves_with (X : K.In h) (G : h.Ns mainGlobals mg) (c : He.SaysD fa fn K) : mg "moves_with" = some (.ref (He.ga K "moves_with")) := He.glo_ok X G (c.fact 5 (f := .glo "moves_with") rfl)
theorem g_coin_moves (X : K.In h) (G : h.Ns mainGlobals mg) (c : He.SaysD fa fn K) : mg "coin_moves" = some (.ref (He.ga K "coin_moves")) := He.glo_ok X G (c.fact 6 (f := .glo "coin_moves") rfl)
theorem g_hanging (X : K.In h) (G : h.Ns mainGlobals mg) (c : He.SaysD fa fn K) : mg "hanging" = some (.ref (He.ga K "hanging")) := He.glo_ok X G (c.fact 7 (f := .glo "hanging") rfl)
theorem g_cut (X : K.In h) (G : h.Ns mainGlobals mg) (c : He.SaysD fa fn K) : mg "cut" = some (.ref (He.ga K "cut")) := He.glo_ok X G (c.fact 8 (f := .glo "cut") rfl)
theorem g_is_bridge (X : K.In h) (G : h.Ns mainGlobals mg) (c : He.SaysD fa fn K) : mg "is_bridge" = some (.ref (He.ga K "is_bridge")) := He.glo_ok X G (c.fact 9 (f := .glo "is_bridge") rfl)
theorem g_groups_of (X : K.In h) (G : h.Ns mainGlobals mg) (c : He.SaysD fa fn K) : mg "groups_of" = some (.ref (He.ga K "groups_of")) := He.glo_ok X G (c.fact 10 (f := .glo "groups_of") rfl)
theorem g_fused (X : K.In h) (G : h.Ns mainGlobals mg) (c : He.SaysD fa fn K) : mg "fused" = some (.ref (He.ga K "fused")) := He.glo_ok X G (c.fact 11 (f := .glo "fused") rfl)
theorem g_tree_value (X : K.In h) (G : h.Ns mainGlobals mg) (c : He.SaysD fa fn K) : mg "tree_value" = some (.ref (He.ga K "tree_value")) := He.glo_ok X G (c.fact 12 (f := .glo "tree_value") rfl)
theorem g_bush_value (X : K.In h) (G : h.Ns mainGlobals mg) (c : He.SaysD fa fn K) : mg "bush_value" = some (.ref (He.ga K "bush_value")) := He.glo_ok X G (c.fact 13 (f := .glo "bush_value") rfl)
theorem g_winning_cuts (X : K.In h) (G : h.Ns mainGlobals mg) (c : He.SaysD fa fn K) : mg "winning_cuts" = some (.ref (He.ga K "winning_cuts")) := He.glo_ok X G (c.fact 14 (f := .glo "winning_cuts") rfl)
theorem g_without_carry (X : K.In h) (G : h.Ns mainGlobals mg) (c : He.SaysD fa fn K) : mg "without_carry" = some (.ref (He.ga K "without_carry")) := He.glo_ok X G (c.fact 15 (f := .glo "without_carry") rfl)
theorem g_nim_moves (X : K.In h) (G : h.Ns mainGlobals mg) (c : He.SaysD fa fn K) : mg "nim_moves" = some (.ref (He.ga K "nim_moves")) := He.glo_ok X G (c.fact 16 (f := .glo "nim_moves") rfl)
theorem g__law_box (X : K.In h) (G : h.Ns mainGlobals mg) (c : He.SaysD fa fn K) : mg "_law_box" = some (.ref (He.ga K "_law_box")) := He.glo_ok X G (c.fact 17 (f := .glo "_law_box") rfl)
theorem g__law_load (X : K.In h) (G : h.Ns mainGlobals mg) (c : He.SaysD fa fn K) : mg "_law_load" = some (.ref (He.ga K "_law_load")) := He.glo_ok X G (c.fact 18 (f := .glo "_law_load") rfl)
theorem g__law_draw (X : K.In h) (G : h.Ns mainGlobals mg) (c : He.SaysD fa fn K) : mg "_law_draw" = some (.ref (He.ga K "_law_draw")) := He.glo_ok X G (c.fact 19 (f := .glo "_law_draw") rfl)
theorem g__law_same (X : K.In h) (G : h.Ns mainGlobals mg) (c : He.SaysD fa fn K) : mg "_law_same" = some (.ref (He.ga K "_law_same")) := He.glo_ok X G (c.fact 20 (f := .glo "_law_same") rfl)
theorem g__law_xor (X : K.In h) (G : h.Ns mainGlobals mg) (c : He.SaysD fa fn K) : mg "_law_xor" = some (.ref (He.ga K "_law_xor")) := He.glo_ok X G (c.fact 21 (f := .glo "_law_xor") rfl)
theorem g__law_moves (X : K.In h) (G : h.Ns mainGlobals mg) (c : He.SaysD fa fn K) : mg "_law_moves" = some (.ref (He.ga K "_law_moves")) := He.glo_ok X G (c.fact 22 (f := .glo "_law_moves") rfl)
theorem g__law_stalks (X : K.In h) (G : h.Ns mainGlobals mg) (c : He.SaysD fa fn K) : mg "_law_stalks" = some (.ref (He.ga K "_law_stalks")) := He.glo_ok X G (c.fact 23 (f := .glo "_law_stalks") rfl)
theorem g_law (X : K.In h) (G : h.Ns mainGlobals mg) (c : He.SaysD fa fn K) : mg "law" = some (.ref (He.ga K "law")) := He.glo_ok X G (c.fact 24 (f := .glo "law") rfl)
theorem g_SORTS (X : K.In h) (G : h.Ns mainGlobals mg) (c : He.SaysD fa fn K) : mg "SORTS" = some (.ref (He.ga K "SORTS")) := He.glo_ok X G (c.fact 25 (f := .glo "SORTS") rfl)
theorem b_all (X : K.In h) (G : h.Ns mainGlobals mg) (c : He.SaysD fa fn K) : mg "all" = none := He.free_ok X G (c.fact 26 (f := .free "all") rfl)
theorem b_bool (X : K.In h) (G : h.Ns mainGlobals mg) (c : He.SaysD fa fn K) : mg "bool" = none := He.free_ok X G (c.fact 27 (f := .free "bool") rfl)
theorem b_dict (X : K.In h) (G : h.Ns mainGlobals mg) (c : He.SaysD fa fn K) : mg "dict" = none := He.free_ok X G (c.fact 28 (f := .free "dict") rfl)
theorem b_enumerate (X : K.In h) (G : h.Ns mainGlobals mg) (c : He.SaysD fa fn K) : mg "enumerate" = none := He.free_ok X G (c.fact 29 (f := .free "enumerate") rfl)
theorem b_int (X : K.In h) (G : h.Ns mainGlobals mg) (c : He.SaysD fa fn K) : mg "int" = none := He.free_ok X G (c.fact 30 (f := .free "int") rfl)
theorem b_isinstance (X : K.In h) (G : h.Ns mainGlobals mg) (c : He.SaysD fa fn K) : mg "isinstance" = none := He.free_ok X G (c.fact 31 (f := .free "isinstance") rfl)
theorem b_len (X : K.In h) (G : h.Ns mainGlobals mg) (c : He.SaysD fa fn K) : mg "len" = none := He.free_ok X G (c.fact 32 (f := .free "len") rfl)
theorem b_list (X : K.In h) (G : h.Ns mainGlobals mg) (c : He.SaysD fa fn K) : mg "list" = none := He.free_ok X G (c.fact 33 (f := .free "list") rfl)
theorem b_max (X : K.In h) (G : h.Ns mainGlobals mg) (c : He.SaysD fa fn K) : mg "max" = none := He.free_ok X G (c.fact 34 (f := .free "max") rfl)
theorem b_min (X : K.In h) (G : h.Ns mainGlobals mg) (c : He.SaysD fa fn K) : mg "min" = none := He.free_ok X G (c.fact 35 (f := .free "min") rfl)
theorem b_range (X : K.In h) (G : h.Ns mainGlobals mg) (c : He.SaysD fa fn K) : mg "range" = none := He.free_ok X G (c.fact 36 (f := .free "range") rfl)
theorem b_set (X : K.In h) (G : h.Ns mainGlobals mg) (c : He.SaysD fa fn K) : mg "set" = none := He.free_ok X G (c.fact 37 (f := .free "set") rfl)
theorem b_sorted (X : K.In h) (G : h.Ns mainGlobals mg) (c : He.SaysD fa fn K) : mg "sorted" = none := He.free_ok X G (c.fact 38 (f := .free "sorted") rfl)
theorem b_str (X : K.In h) (G : h.Ns mainGlobals mg) (c : He.SaysD fa fn K) : mg "str" = none := He.free_ok X G (c.fact 39 (f := .free "str") rfl)
theorem b_sum (X : K.In h) (G : h.Ns mainGlobals mg) (c : He.SaysD fa fn K) : mg "sum" = none := He.free_ok X G (c.fact 40 (f := .free "sum") rfl)
theorem b_tuple (X : K.In h) (G : h.Ns mainGlobals mg) (c : He.SaysD fa fn K) : mg "tuple" = none := He.free_ok X G (c.fact 41 (f := .free "tuple") rfl)
end
end H92
set_option maxHeartbeats 8000000
namespace H92
open PySem PySem.Spec PyProof.Rows L2 DL G92
section
variable {P : Program} {w : World} {K : PySem.W.Frag} {mg : Str → Option Value} {base : Heap} {h : Heap}
theorem facts {f : Addr} (X : K.In h) (G : h.Ns mainGlobals mg) (hfa : mg ("law" : Str) = some (.ref f)) (c : He.SaysD fa fn K) (hx : ex K = true) :
    ∃ fd : FuncData, (∀ (s : Shared) (v : Value), BindsTo s fd ⟨[v], []⟩ [("script", v)]) ∧ ∀ base : Heap, K.In base → base.Ns mainGlobals mg → FnOk P w K mg base CX0 10 f fd ["script"] (SpG K R_law) := by
  have e := hfa.symm.trans (g_law X G c)
  cases e
  obtain ⟨fd, F⟩ := f_law c
  have b := FunD.bindsA (ps := ["script"]) F fun _ _ _ _ _ _ us hl => match us, hl with | [_], _ => rfl
  refine ⟨fd, fun s v => b s [v] rfl, fun base _ _ => ok_law F ?_⟩
  have TS : TupS K (He.ga K "SORTS") sorts := tupN_ok hx
  obtain ⟨_, F_wc⟩ := f_without_carry c
  obtain ⟨_, F_lxor⟩ := f__law_xor c
  obtain ⟨_, F_cv⟩ := f_coin_value c
  obtain ⟨_, F_cvs⟩ := f_coin_values c
  obtain ⟨_, F_hv⟩ := f_heads_value c
  obtain ⟨_, F_mt⟩ := f_may_turn c
  obtain ⟨_, F_mw⟩ := f_moves_with c
  obtain ⟨_, F_cm⟩ := f_coin_moves c
  obtain ⟨_, F_ha⟩ := f_hanging c
  obtain ⟨_, F_cut⟩ := f_cut c
  obtain ⟨_, F_ib⟩ := f_is_bridge c
  obtain ⟨_, F_gr⟩ := f_groups_of c
  obtain ⟨_, F_fu⟩ := f_fused c
  obtain ⟨_, F_tv⟩ := f_tree_value c
  obtain ⟨_, F_bv⟩ := f_bush_value c
  obtain ⟨_, F_wcu⟩ := f_winning_cuts c
  obtain ⟨_, F_nm⟩ := f_nim_moves c
  obtain ⟨_, F_box⟩ := f__law_box c
  obtain ⟨_, F_load⟩ := f__law_load c
  obtain ⟨_, F_draw⟩ := f__law_draw c
  obtain ⟨_, F_same⟩ := f__law_same c
  obtain ⟨_, F_lm⟩ := f__law_moves c
  obtain ⟨_, F_st⟩ := f__law_stalks c
  have ra := b_range X G c
  have tu := b_tuple X G c
  have so := b_sorted X G c
  have di := b_dict X G c
  have le := b_len X G c
  have su := b_sum X G c
  have al := b_all X G c
  have li := b_list X G c
  have it := b_int X G c
  have isi := b_isinstance X G c
  have bo := b_bool X G c
  have sr := b_str X G c
  have en := b_enumerate X G c
  have se := b_set X G c
  have mi := b_min X G c
  have ma := b_max X G c
  have wc : ∀ k, Go P w K mg base "without_carry" (k + 1) ["numbers"] R_wc := fun k => go_of F_wc (g_without_carry X G c) (fun _ _ _ _ _ _ us hl => match us, hl with | [_], _ => rfl) (ok_wc F_wc)
  have lxor : ∀ k, Go P w K mg base "_law_xor" (k + 1) ["numbers"] R_lxor := fun k => go_of F_lxor (g__law_xor X G c) (fun _ _ _ _ _ _ us hl => match us, hl with | [_], _ => rfl) (ok_lxor F_lxor)
  have cv : ∀ k, Go P w K mg base "coin_value" (k + 1) ["sort", "place"] R_cv := fun k => go_of F_cv (g_coin_value X G c) (fun _ _ _ _ _ _ us hl => match us, hl with | [_, _], _ => rfl) (ok_cv F_cv)
  have cvs : ∀ k, Go P w K mg base "coin_values" (k + 2) ["sort", "n"] R_cvs := fun k => go_of F_cvs (g_coin_values X G c) (fun _ _ _ _ _ _ us hl => match us, hl with | [_, _], _ => rfl) (ok_cvs F_cvs (cv k) tu ra)
  have hv : ∀ k, Go P w K mg base "heads_value" (k + 2) ["sort", "heads"] R_hv := fun k => go_of F_hv (g_heads_value X G c) (fun _ _ _ _ _ _ us hl => match us, hl with | [_, _], _ => rfl) (ok_hv F_hv (cv k))
  have mt : ∀ k, Go P w K mg base "may_turn" (k + 1) ["sort", "coins"] R_mt := fun k => go_of F_mt (g_may_turn X G c) (fun _ _ _ _ _ _ us hl => match us, hl with | [_, _], _ => rfl) (ok_mt F_mt le (g_SORTS X G c) TS)
  have mw : ∀ k, Go P w K mg base "moves_with" (k + 2) ["sort", "last"] R_mw := fun k => go_of F_mw (g_moves_with X G c) (fun _ _ _ _ _ _ us hl => match us, hl with | [_, _], _ => rfl) (ok_mw F_mw (mt k) ra)
  have cm : ∀ k, Go P w K mg base "coin_moves" (k + 3) ["sort", "heads"] R_cm := fun k => go_of F_cm (g_coin_moves X G c) (fun _ _ _ _ _ _ us hl => match us, hl with | [_, _], _ => rfl) (ok_cm F_cm (hv k) (mw k) tu so)
  have nmv : ∀ k, Go P w K mg base "nim_moves" (k + 2) ["heaps"] R_nm := fun k => go_of F_nm (g_nim_moves X G c) (fun _ _ _ _ _ _ us hl => match us, hl with | [_], _ => rfl) (ok_nm F_nm (wc k) en tu)
  have lm : ∀ k, Go P w K mg base "_law_moves" (k + 2) ["heaps_there"] R_lm := fun k => go_of F_lm (g__law_moves X G c) (fun _ _ _ _ _ _ us hl => match us, hl with | [_], _ => rfl) (ok_lm F_lm (lxor k) ra le)
  have ha : ∀ k, Go P w K mg base "hanging" (k + 1) ["n", "edges"] R_hang := fun k => go_of F_ha (g_hanging X G c) (fun _ _ _ _ _ _ us hl => match us, hl with | [_, _], _ => rfl) (ok_hang F_ha ra)
  have ib : ∀ k, Go P w K mg base "is_bridge" (k + 2) ["bush", "e"] R_ib := fun k => go_of F_ib (g_is_bridge X G c) (fun _ _ _ _ _ _ us hl => match us, hl with | [_, _], _ => rfl) (ok_ib F_ib (ha k) le)
  have cut : ∀ k, Go P w K mg base "cut" (k + 2) ["bush", "e"] R_cut := fun k => go_of F_cut (g_cut X G c) (fun _ _ _ _ _ _ us hl => match us, hl with | [_, _], _ => rfl) (ok_cut F_cut (ha k) le en tu so)
  have gr : ∀ k, Go P w K mg base "groups_of" (k + 3) ["bush"] R_gr := fun k => go_of F_gr (g_groups_of X G c) (fun _ _ _ _ _ _ us hl => match us, hl with | [_], _ => rfl) (ok_gr F_gr (ib k) li ra en)
  have fu : ∀ k, Go P w K mg base "fused" (k + 4) ["bush"] R_fu := fun k => go_of F_fu (g_fused X G c) (fun _ _ _ _ _ _ us hl => match us, hl with | [_], _ => rfl) (ok_fu F_fu (gr k) se so mi ma le tu)
  have bv : ∀ k, Go P w K mg base "bush_value" (k + 8) ["bush"] R_bv := fun k => go_of F_bv (g_bush_value X G c) (fun _ _ _ _ _ _ us hl => match us, hl with | [_], _ => rfl) (ok_bv F_bv (fu (k + 3)) (go_tv k F_tv (g_tree_value X G c) 6))
  have wcu : Go P w K mg base "winning_cuts" 9 ["bush"] R_wcu := go_of F_wcu (g_winning_cuts X G c) (fun _ _ _ _ _ _ us hl => match us, hl with | [_], _ => rfl) (ok_wcu F_wcu (bv 0) (cut 6) tu ra le)
  have box : Go P w K mg base "_law_box" 9 ["script"] R_box := go_of F_box (g__law_box X G c) (fun _ _ _ _ _ _ us hl => match us, hl with | [_], _ => rfl) (ok_box F_box le li)
  have load : ∀ bx cs, Go P w K mg base "_law_load" 8 ["box"] (R_load bx cs) := fun bx cs => go_of F_load (g__law_load X G c) (fun _ _ _ _ _ _ us hl => match us, hl with | [_], _ => rfl) (ok_load F_load le it)
  have draw : ∀ bx cs, Go P w K mg base "_law_draw" 9 ["box", "many"] (R_draw bx cs) := fun bx cs => go_of F_draw (g__law_draw X G c) (fun _ _ _ _ _ _ us hl => match us, hl with | [_, _], _ => rfl) (ok_draw F_draw (load bx cs) it)
  have st : Go P w K mg base "_law_stalks" 9 ["lengths"] R_st := go_of F_st (g__law_stalks X G c) (fun _ _ _ _ _ _ us hl => match us, hl with | [_], _ => rfl) (ok_st F_st tu ra le so)
  exact ⟨box, draw, go_same 5 F_same (g__law_same X G c) isi tu li bo it sr le al ra 3, lxor 8, lm 7, st, hv 7, wc 8, nmv 7, cm 6, bv 1, wcu, cvs 7, ra, tu, so, di, le, su, al⟩
theorem law_start {H : Hp} {a : Addr} {ns : List Int} {E : XK} (hl : ns.length ≤ 100000) (hS : SqL K H a (ns.map V.int)) : SpG K R_law [.ref a] H (fun v _ => v = .bl true) E := by
  refine ⟨fun _ => none, H, [], [.rd (iL ns)], fun r _ => r = .d (.bool true), ⟨fun _ => none, ?_⟩, fun r M h => by rw [h]; trivial, ⟨ns, hl, rfl, rfl, fun _ => rfl⟩, fun v H' r M' g e => ?_⟩
  · exact ⟨fun _ _ h => (nomatch h), fun _ _ h => (nomatch h), fun _ _ h => h, fun _ h => absurd rfl h, fun _ h => (by cases h), List.nodup_nil, .nil, .cons ⟨a, ns.map V.int, rfl, hS, RpA.of_ints⟩ .nil⟩
  · subst e
    exact g.bl
end
end H92
open PySem PySem.W PySem.Calls PyProof.Rows
theorem PySem.Challenge.cw_cantmove_k92_whole_heads_heaps_and_stalk_holds : PySem.Challenge.rw_cantmove_k92_whole_heads_heaps_and_stalk.Holds := by
  w_on; o_law
  refine HandSHeadRun.head_any (r := OpenLaw.row PySem.Challenge.rw_cantmove_k92_whole_heads_heaps_and_stalk) (q := view (OpenLaw.row PySem.Challenge.rw_cantmove_k92_whole_heads_heaps_and_stalk).prog [29]) (H := H92.hk) (ob := H92.ob) (M := 3000) (loose := H92.loose) (d := HandSHeadRun.topDef (OpenLaw.row PySem.Challenge.rw_cantmove_k92_whole_heads_heaps_and_stalk).prog 29) (kwd := []) H92.ob_eq
    (by kernel_rfl) (fun s => by kernel_rfl) H92.run (by kernel_rfl) (by kernel_rfl) (by kernel_rfl) (by rfl) (by first | assumption | decide +kernel) (by decide +kernel) ⟨rfl, rfl, rfl, rfl, rfl, by decide +kernel⟩ ?hw ?hc
  case hw => w_witness2
  case hc =>
    refine L2.walk_ofE (l := PySem.Challenge.rw_cantmove_k92_whole_heads_heaps_and_stalk) (n := 63) (k := 10) (x := "script") (CX := L2.CX0) rfl (by decide) (by kernel_rfl) ⟨rfl, by decide, by decide⟩ ?F (fun _ _ _ _ z => z)
    intro w mg fa h Y G hmg0
    obtain ⟨K, KX, c, hx⟩ := Y
    have hmg : mg ("law" : PySem.Str) = some (.ref fa) := by
      have e : (HandSHeadRun.topDef (OpenLaw.row PySem.Challenge.rw_cantmove_k92_whole_heads_heaps_and_stalk).prog 29).name = ("law" : PySem.Str) := by kernel_rfl
      rw [← e]
      exact hmg0
    obtain ⟨fd, hb, hF⟩ := H92.facts (P := (PySem.Challenge.rw_cantmove_k92_whole_heads_heaps_and_stalk).prog) (w := w) KX G hmg c hx
    exact ⟨K, fd, DL.SpG K H92.R_law, KX, hb, fun H a ns hl _ hS => H92.law_start (Nat.le_trans hl (by decide)) hS, hF⟩
