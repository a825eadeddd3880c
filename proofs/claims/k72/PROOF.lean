import PyProof.Rows.All
import Wide.All
import OpenK.AllK
import Wide.FinOn
import KE.KDictKeyed
import KE.KeyNested
import HandS.ForMost
import HandS.Walk
import HandS.SortInts
import HandS.IsInst
import HandS.Style
import HandS.Wide
import HandS.Conv
import HandS.More
import KE.SortData
import HandS.TupAny
import HandS.DictComp
import HandS.Strs
import HandS.Defaults
import HandS.Small
import HandS.Sort
import HandS.Deep
import KE.GoesMore
import KE.GoesEnum
import HandS.SetFor
import HandS.Text
import HandS.Head0
import HandS.Head1
import HandS.Head2
import HandS.HeadEnd
import HandS.HeadHook1
import HandS.HeadHook2
import KE.KIndexOf
import KE.KTupSum
import KE.KRevSl
import HandS.TupMul
import KE.KDictPairs
import HandS.Flow
import HandS.Codes
import PySem.Challenge.RW_cantmove_k72_whole_parks_taken_apart
set_option Elab.async false
set_option linter.all false
set_option maxRecDepth 100000
set_option maxHeartbeats 2000000
/-! DL: a data layer over the hand layer: slots hold plain data, cells hold what may change. -/
namespace DL
open PySem PySem.Spec PyProof.Rows L2

abbrev Fg := PySem.W.Frag

/-! ### what represents a datum -/
mutual
inductive Rp (K : Fg) (H : Hp) : V → PyData → Prop
  | non : Rp K H .non .none
  | bl (b : Bool) : Rp K H (.bl b) (.bool b)
  | int (i : Int) : Rp K H (.int i) (.int i)
  | str (x : Str) : Rp K H (.str x) (.str x)
  | lst {a : Addr} {xs : List V} {ds : List PyData} : H a = some (.lst xs) → RpA K H xs ds → Rp K H (.ref a) (.list ds)
  | tup {a : Addr} {xs : List V} {ds : List PyData} : SqT K H a xs → RpA K H xs ds → Rp K H (.ref a) (.tuple ds)
inductive RpA (K : Fg) (H : Hp) : List V → List PyData → Prop
  | nil : RpA K H [] []
  | cons {v : V} {vs : List V} {d : PyData} {ds : List PyData} : Rp K H v d → RpA K H vs ds → RpA K H (v :: vs) (d :: ds)
end
theorem same_t {K : Fg} {H H' : Hp} {a : Addr} {xs : List V} (e : Same H H') (h : SqT K H a xs) : SqT K H' a xs := by
  rcases h with (h | ⟨o, h⟩) | h
  · exact .inl (.inl (e _ _ h))
  · exact .inl (.inr ⟨o, e _ _ h⟩)
  · exact .inr h
mutual
theorem Rp.ext {K : Fg} {H H' : Hp} (e : Same H H') : ∀ {v : V} {d : PyData}, Rp K H v d → Rp K H' v d
  | _, _, .non => .non
  | _, _, .bl b => .bl b
  | _, _, .int i => .int i
  | _, _, .str x => .str x
  | _, _, .lst h hs => .lst (e _ _ h) (RpA.ext e hs)
  | _, _, .tup h hs => .tup (same_t e h) (RpA.ext e hs)
theorem RpA.ext {K : Fg} {H H' : Hp} (e : Same H H') : ∀ {vs : List V} {ds : List PyData}, RpA K H vs ds → RpA K H' vs ds
  | _, _, .nil => .nil
  | _, _, .cons h hs => .cons (Rp.ext e h) (RpA.ext e hs)
end
mutual
theorem Rp.dp {K : Fg} {H : Hp} : ∀ {v : V} {d : PyData}, Rp K H v d → Dp K H v d
  | _, _, .non => .non
  | _, _, .bl b => .bl b
  | _, _, .int i => .int i
  | _, _, .str x => .str x
  | _, _, .lst h hs => .lst (SqL.of h) (RpA.dp hs)
  | _, _, .tup h hs => .tup h (RpA.dp hs)
theorem RpA.dp {K : Fg} {H : Hp} : ∀ {vs : List V} {ds : List PyData}, RpA K H vs ds → DpAll K H vs ds
  | _, _, .nil => .nil
  | _, _, .cons h hs => .cons (Rp.dp h) (RpA.dp hs)
end
section
variable {K : Fg} {H : Hp}
theorem Rp.non_inv {v : V} (h : Rp K H v .none) : v = .non := by cases h; rfl
theorem Rp.bl_inv {v : V} {b : Bool} (h : Rp K H v (.bool b)) : v = .bl b := by cases h; rfl
theorem Rp.int_inv {v : V} {i : Int} (h : Rp K H v (.int i)) : v = .int i := by cases h; rfl
theorem Rp.str_inv {v : V} {x : Str} (h : Rp K H v (.str x)) : v = .str x := by cases h; rfl
theorem Rp.lst_inv {v : V} {ds : List PyData} (h : Rp K H v (.list ds)) : ∃ a xs, v = .ref a ∧ H a = some (.lst xs) ∧ RpA K H xs ds := by cases h with | lst h hs => exact ⟨_, _, rfl, h, hs⟩
theorem Rp.tup_inv {v : V} {ds : List PyData} (h : Rp K H v (.tuple ds)) : ∃ a xs, v = .ref a ∧ SqT K H a xs ∧ RpA K H xs ds := by cases h with | tup h hs => exact ⟨_, _, rfl, h, hs⟩
theorem RpA.len : ∀ {vs : List V} {ds : List PyData}, RpA K H vs ds → vs.length = ds.length
  | _, _, .nil => rfl
  | _, _, .cons _ hs => by simp [RpA.len hs]
theorem RpA.get : ∀ {vs : List V} {ds : List PyData} {i : Nat} {d : PyData}, RpA K H vs ds → ds[i]? = some d → ∃ v, vs[i]? = some v ∧ Rp K H v d
  | _, _, _, _, .nil, e => by simp at e
  | _, _, 0, _, .cons h _, e => by simp at e; subst e; exact ⟨_, rfl, h⟩
  | _, _, i + 1, d, .cons _ t, e => by
    obtain ⟨u, h1, h2⟩ := RpA.get (i := i) (d := d) t (by simpa using e)
    exact ⟨u, by simpa using h1, h2⟩
theorem RpA.getV : ∀ {vs : List V} {ds : List PyData} {i : Nat} {v : V}, RpA K H vs ds → vs[i]? = some v → ∃ d, ds[i]? = some d ∧ Rp K H v d
  | _, _, _, _, .nil, e => by simp at e
  | _, _, 0, _, .cons h _, e => by simp at e; subst e; exact ⟨_, rfl, h⟩
  | _, _, i + 1, d, .cons _ t, e => by
    obtain ⟨u, h1, h2⟩ := RpA.getV (i := i) (v := d) t (by simpa using e)
    exact ⟨u, by simpa using h1, h2⟩
theorem RpA.app : ∀ {vs ws : List V} {ds es : List PyData}, RpA K H vs ds → RpA K H ws es → RpA K H (vs ++ ws) (ds ++ es)
  | _, _, _, _, .nil, s => s
  | _, _, _, _, .cons r t, s => .cons r (RpA.app t s)
theorem RpA.take : ∀ {vs : List V} {ds : List PyData} (n : Nat), RpA K H vs ds → RpA K H (vs.take n) (ds.take n)
  | _, _, 0, _ => .nil
  | _, _, _ + 1, .nil => .nil
  | _, _, n + 1, .cons r t => .cons r (RpA.take n t)
theorem RpA.drop : ∀ {vs : List V} {ds : List PyData} (n : Nat), RpA K H vs ds → RpA K H (vs.drop n) (ds.drop n)
  | _, _, 0, r => r
  | _, _, _ + 1, .nil => .nil
  | _, _, n + 1, .cons _ t => RpA.drop n t
theorem RpA.rev : ∀ {vs : List V} {ds : List PyData}, RpA K H vs ds → RpA K H vs.reverse ds.reverse
  | _, _, .nil => .nil
  | _, _, .cons r t => by
    rw [List.reverse_cons, List.reverse_cons]
    exact RpA.app (RpA.rev t) (.cons r .nil)
theorem RpA.set {v : V} {d : PyData} (r : Rp K H v d) : ∀ {vs : List V} {ds : List PyData} (i : Nat), RpA K H vs ds → RpA K H (vs.set i v) (ds.set i d)
  | _, _, _, .nil => .nil
  | _, _, 0, .cons _ t => .cons r t
  | _, _, i + 1, .cons q t => .cons q (RpA.set r i t)
theorem RpA.ints : ∀ {vs : List V} {ns : List Int}, RpA K H vs (ns.map PyData.int) → vs = ns.map V.int
  | _, [], h => by cases h; rfl
  | _, n :: ns, h => by
    cases h with
    | cons h t => rw [Rp.int_inv h, RpA.ints t]; rfl
theorem RpA.of_ints : ∀ {ns : List Int}, RpA K H (ns.map V.int) (ns.map PyData.int)
  | [] => .nil
  | n :: ns => .cons (.int n) RpA.of_ints
theorem RpA.bls : ∀ {vs : List V} {ns : List Bool}, RpA K H vs (ns.map PyData.bool) → vs = ns.map V.bl
  | _, [], h => by cases h; rfl
  | _, n :: ns, h => by
    cases h with
    | cons h t => rw [Rp.bl_inv h, RpA.bls t]; rfl
theorem RpA.strs : ∀ {vs : List V} {ns : List Str}, RpA K H vs (ns.map PyData.str) → vs = ns.map V.str
  | _, [], h => by cases h; rfl
  | _, n :: ns, h => by
    cases h with
    | cons h t => rw [Rp.str_inv h, RpA.strs t]; rfl
end

/-! ### slots, cells -/
inductive Sl where
  | un | d (x : PyData) | rd (xs : List PyData) | v (x : V)
inductive MC where
  | lst (xs : List PyData) | dic (kvs : List (Key × PyData)) | raw (o : HO) | dn (mk : List (NestedKey × Addr × Value) → HO) (es : List (NestedKey × PyData)) | ins (C : Addr) (fs : List (Str × Sl))
abbrev Cs := List (Addr × MC)

def VOk (K : Fg) (F B : Hp) (x : V) : Sl → Prop
  | .un => True
  | .d y => Rp K B x y
  | .rd ys => ∃ a xs, x = .ref a ∧ SqL K F a xs ∧ RpA K B xs ys
  | .v y => x = y
def OOk (K : Fg) (F B : Hp) (o : Option V) : Sl → Prop
  | .un => True
  | s => ∃ x, o = some x ∧ VOk K F B x s
abbrev SOk (K : Fg) (F B : Hp) : List (Option V) → List Sl → Prop := Paired (OOk K F B)
abbrev KOk (K : Fg) (F B : Hp) : List V → List Sl → Prop := Paired (VOk K F B)
/-- an attribute: data or this very value -/
def FOk (K : Fg) (B : Hp) (x : V) : Sl → Prop
  | .d y => Rp K B x y
  | .v y => x = y
  | _ => False
def MOk (K : Fg) (B : Hp) (o : HO) : MC → Prop
  | .raw u => o = u
  | .lst xs => ∃ vs, o = .lst vs ∧ RpA K B vs xs
  | .dic es => ∃ kvs, o = .dK kvs ∧ Paired (fun (p : Key × V) (q : Key × PyData) => p.1 = q.1 ∧ Rp K B p.2 q.2) kvs es
  | .dn mk es => ∃ xs, o = mk xs ∧ Paired (fun (x : NestedKey × Addr × Value) (e : NestedKey × PyData) => x.1 = e.1 ∧ e.1.depth ≤ 8 ∧ Rp K B (.ref x.2.1) e.1.data ∧ ∃ v, RelV v x.2.2 ∧ Rp K B v e.2) xs es
  | .ins C fs => ∃ dx vs, o = .ins C dx vs ∧ Paired (fun (p : Str × V) (q : Str × Sl) => p.1 = q.1 ∧ FOk K B p.2 q.2) vs fs
structure CellOk (K : Fg) (F B H : Hp) (c : Addr × MC) : Prop where
  b : B c.1 = none
  f : F c.1 = none
  o : ∃ o, H c.1 = some o ∧ MOk K B o c.2
structure GoodB (K : Fg) (B0 F : Hp) (M : Cs) (ρ κ : List Sl) (σ : List (Option V)) (vs : List V) (H B : Hp) : Prop where
  b0 : Same B0 B
  bh : Same B H
  fh : Same F H
  new : ∀ a, B a ≠ none → B0 a ≠ none ∨ F a = none
  cells : ∀ c, c ∈ M → CellOk K F B H c
  nd : (M.map (·.1)).Nodup
  sl : SOk K F B σ ρ
  st : KOk K F B vs κ
def Good (K : Fg) (B0 F : Hp) (M : Cs) (ρ κ : List Sl) (σ : List (Option V)) (vs : List V) (H : Hp) : Prop := ∃ B, GoodB K B0 F M ρ κ σ vs H B

section
variable {K : Fg} {B0 F B B' H H' : Hp} {M : Cs} {ρ κ : List Sl} {σ : List (Option V)} {vs : List V}
theorem VOk.ext {x : V} {s : Sl} (e : Same B B') (h : VOk K F B x s) : VOk K F B' x s := by
  cases s with
  | un => trivial
  | d y => exact Rp.ext e h
  | rd ys => obtain ⟨a, xs, h1, h2, h3⟩ := h; exact ⟨a, xs, h1, h2, h3.ext e⟩
  | v y => exact h
theorem OOk.ext {x : Option V} {s : Sl} (e : Same B B') (h : OOk K F B x s) : OOk K F B' x s := by
  cases s with
  | un => trivial
  | d y => obtain ⟨x, h1, h2⟩ := h; exact ⟨x, h1, h2.ext e⟩
  | rd ys => obtain ⟨x, h1, h2⟩ := h; exact ⟨x, h1, h2.ext e⟩
  | v y => obtain ⟨x, h1, h2⟩ := h; exact ⟨x, h1, h2.ext e⟩
theorem OOk.of {x : V} {s : Sl} (h : VOk K F B x s) : OOk K F B (some x) s := by
  cases s with
  | un => trivial
  | d y => exact ⟨x, rfl, h⟩
  | rd ys => exact ⟨x, rfl, h⟩
  | v y => exact ⟨x, rfl, h⟩
theorem OOk.v {o : Option V} {s : Sl} (hs : s ≠ .un) (h : OOk K F B o s) : ∃ x, o = some x ∧ VOk K F B x s := by
  cases s with
  | un => exact absurd rfl hs
  | d y => exact h
  | rd ys => exact h
  | v y => exact h
theorem FOk.ext {x : V} {s : Sl} (e : Same B B') (h : FOk K B x s) : FOk K B' x s := by
  cases s with
  | d y => exact Rp.ext e h
  | v y => exact h
  | un => exact h
  | rd ys => exact h
theorem MOk.ext {o : HO} {c : MC} (e : Same B B') (h : MOk K B o c) : MOk K B' o c := by
  cases c with
  | raw u => exact h
  | lst xs => obtain ⟨vs, h1, h2⟩ := h; exact ⟨vs, h1, h2.ext e⟩
  | dic es => obtain ⟨kvs, h1, h2⟩ := h; exact ⟨kvs, h1, Paired.mapP h2 fun _ _ z => ⟨z.1, z.2.ext e⟩⟩
  | ins C fs => obtain ⟨dx, vs, h1, h2⟩ := h; exact ⟨dx, vs, h1, Paired.mapP h2 fun _ _ z => ⟨z.1, z.2.ext e⟩⟩
  | dn mk es => obtain ⟨xs, h1, h2⟩ := h; exact ⟨xs, h1, Paired.mapP h2 fun _ _ ⟨z1, z2, z3, v, z4, z5⟩ => ⟨z1, z2, z3.ext e, v, z4, z5.ext e⟩⟩
theorem Paired.get? {α β : Type} {R : α → β → Prop} : ∀ {l : List α} {m : List β} {i : Nat} {b : β}, Paired R l m → m[i]? = some b → ∃ a, l[i]? = some a ∧ R a b
  | _, _, _, _, .nil, e => by simp at e
  | _, _, 0, _, .cons h _, e => by simp at e; subst e; exact ⟨_, rfl, h⟩
  | _, _, i + 1, d, .cons _ t, e => by
    obtain ⟨u, h1, h2⟩ := Paired.get? (i := i) (b := d) t (by simpa using e)
    exact ⟨u, by simpa using h1, h2⟩
theorem Paired.set {α β : Type} {R : α → β → Prop} {a : α} {b : β} (r : R a b) : ∀ {l : List α} {m : List β} (i : Nat), Paired R l m → Paired R (l.set i a) (m.set i b)
  | _, _, _, .nil => .nil
  | _, _, 0, .cons _ t => .cons r t
  | _, _, i + 1, .cons q t => .cons q (Paired.set r i t)
theorem Paired.app {α β : Type} {R : α → β → Prop} : ∀ {l l' : List α} {m m' : List β}, Paired R l m → Paired R l' m' → Paired R (l ++ l') (m ++ m')
  | _, _, _, _, .nil, s => s
  | _, _, _, _, .cons r t, s => .cons r (Paired.app t s)

/-- an object that never changes is laid -/
theorem GoodB.laid {p : Addr} {o : HO} (g : GoodB K B0 F M ρ κ σ vs H B) (hp : H p = none) : GoodB K B0 F M ρ κ σ vs (upd H p o) (upd B p o) := by
  have bp : B p = none := g.bh.free hp
  have e : Same B (upd B p o) := fun a u z => by rw [upd_ne (ne_of_none z bp)]; exact z
  refine ⟨g.b0.trans e, fun a u z => ?_, fun a u z => ?_, fun a ha => ?_, fun c hc => ?_, g.nd, Paired.mapP g.sl fun _ _ z => z.ext e, Paired.mapP g.st fun _ _ z => z.ext e⟩
  · by_cases q : a = p
    · subst q; rw [upd_same] at z ⊢; exact z
    · rw [upd_ne q] at z ⊢; exact g.bh a u z
  · rw [upd_ne (ne_of_none (g.fh a u z) hp)]; exact g.fh a u z
  · by_cases q : a = p
    · subst q; exact .inr (g.fh.free hp)
    · rw [upd_ne q] at ha; exact g.new a ha
  · obtain ⟨h1, h2, u, h3, h4⟩ := g.cells c hc
    have q : c.1 ≠ p := ne_of_none h3 hp
    exact ⟨by rw [upd_ne q]; exact h1, h2, u, by rw [upd_ne q]; exact h3, h4.ext e⟩
/-- a cell is laid -/
theorem GoodB.cell {p : Addr} {o : HO} {c : MC} (g : GoodB K B0 F M ρ κ σ vs H B) (hp : H p = none) (hc : MOk K B o c) : GoodB K B0 F ((p, c) :: M) ρ κ σ vs (upd H p o) B := by
  have bp : B p = none := g.bh.free hp
  have fp : F p = none := g.fh.free hp
  refine ⟨g.b0, fun a u z => ?_, fun a u z => ?_, g.new, fun d hd => ?_, ?_, g.sl, g.st⟩
  · rw [upd_ne (ne_of_none z bp)]; exact g.bh a u z
  · rw [upd_ne (ne_of_none z fp)]; exact g.fh a u z
  · rcases List.mem_cons.mp hd with e | hd
    · subst e; exact ⟨bp, fp, o, upd_same, hc⟩
    · obtain ⟨h1, h2, u, h3, h4⟩ := g.cells d hd
      exact ⟨h1, h2, u, by rw [upd_ne (ne_of_none h3 hp)]; exact h3, h4⟩
  · rw [List.map_cons, List.nodup_cons]
    refine ⟨fun z => ?_, g.nd⟩
    obtain ⟨d, hd, e⟩ := List.mem_map.mp z
    obtain ⟨_, _, u, h3, _⟩ := g.cells d hd
    exact ne_of_none h3 hp e
theorem nodup_at {M : Cs} (h : (M.map (·.1)).Nodup) {i j : Nat} {c d : Addr × MC} (hi : M[i]? = some c) (hj : M[j]? = some d) (e : c.1 = d.1) : i = j := by
  have a : (M.map (·.1))[i]? = some c.1 := by rw [List.getElem?_map, hi]; rfl
  have b : (M.map (·.1))[j]? = some c.1 := by rw [List.getElem?_map, hj, e]; rfl
  obtain ⟨h1, e1⟩ := List.getElem?_eq_some_iff.mp a
  obtain ⟨h2, e2⟩ := List.getElem?_eq_some_iff.mp b
  exact (List.getElem_inj h).mp (e1.trans e2.symm)
/-- a cell is written -/
theorem GoodB.write {j : Nat} {p : Addr} {c c' : MC} {o : HO} (g : GoodB K B0 F M ρ κ σ vs H B) (hj : M[j]? = some (p, c)) (hc : MOk K B o c') : GoodB K B0 F (M.set j (p, c')) ρ κ σ vs (upd H p o) B := by
  obtain ⟨bp, fp, _⟩ := g.cells (p, c) (List.mem_of_getElem? hj)
  refine ⟨g.b0, fun a u z => ?_, fun a u z => ?_, g.new, fun d hd => ?_, ?_, g.sl, g.st⟩
  · rw [upd_ne (ne_of_none z bp)]; exact g.bh a u z
  · rw [upd_ne (ne_of_none z fp)]; exact g.fh a u z
  · obtain ⟨i, hi⟩ := List.mem_iff_getElem?.mp hd
    by_cases hij : j = i
    · subst hij
      have hl : j < M.length := (List.getElem?_eq_some_iff.mp hj).1
      rw [List.getElem?_set_self hl] at hi
      cases hi
      exact ⟨bp, fp, o, upd_same, hc⟩
    · rw [List.getElem?_set_ne hij] at hi
      obtain ⟨h1, h2, u, h3, h4⟩ := g.cells d (List.mem_of_getElem? hi)
      refine ⟨h1, h2, u, ?_, h4⟩
      rw [upd_ne (fun e => hij (nodup_at g.nd hj hi e.symm))]
      exact h3
  · have : (M.set j (p, c')).map (·.1) = M.map (·.1) := by
      rw [List.map_set]
      show (M.map (·.1)).set j p = M.map (·.1)
      refine List.ext_getElem? fun i => ?_
      by_cases hij : j = i
      · subst hij
        rw [List.getElem?_set, List.getElem?_map, hj]
        simp
        exact (List.getElem?_eq_some_iff.mp hj).1
      · rw [List.getElem?_set_ne hij]
    rw [this]
    exact g.nd
/-- a list cell becomes data: v the value of the stack's top -/
theorem GoodB.freeze {p : Addr} {xs : List PyData} (g : GoodB K B0 F ((p, .lst xs) :: M) ρ κ σ vs H B) : ∃ B', GoodB K B0 F M ρ (.d (.list xs) :: κ) σ (.ref p :: vs) H B' := by
  obtain ⟨bp, fp, o, ho, ws, rfl, hw⟩ := g.cells _ List.mem_cons_self
  have e : Same B (upd B p (.lst ws)) := fun a u z => by rw [upd_ne (ne_of_none z bp)]; exact z
  have nd := g.nd
  rw [List.map_cons, List.nodup_cons] at nd
  refine ⟨upd B p (.lst ws), g.b0.trans e, fun a u z => ?_, g.fh, fun a ha => ?_, fun c hc => ?_, nd.2, Paired.mapP g.sl fun _ _ z => z.ext e, .cons ?_ (Paired.mapP g.st fun _ _ z => z.ext e)⟩
  · by_cases q : a = p
    · subst q; rw [upd_same] at z; rw [← z]; exact ho
    · rw [upd_ne q] at z; exact g.bh a u z
  · by_cases q : a = p
    · subst q; exact .inr fp
    · rw [upd_ne q] at ha; exact g.new a ha
  · obtain ⟨h1, h2, u, h3, h4⟩ := g.cells c (List.mem_cons_of_mem _ hc)
    have q : c.1 ≠ p := fun q => nd.1 (List.mem_map.mpr ⟨c, hc, q⟩)
    exact ⟨by rw [upd_ne q]; exact h1, h2, u, h3, h4.ext e⟩
  · exact .lst upd_same (hw.ext e)
theorem GoodB.stk {κ' : List Sl} {vs' : List V} (g : GoodB K B0 F M ρ κ σ vs H B) (h : KOk K F B vs' κ') : GoodB K B0 F M ρ κ' σ vs' H B := ⟨g.b0, g.bh, g.fh, g.new, g.cells, g.nd, g.sl, h⟩
theorem GoodB.slt {ρ' : List Sl} {σ' : List (Option V)} (g : GoodB K B0 F M ρ κ σ vs H B) (h : SOk K F B σ' ρ') : GoodB K B0 F M ρ' κ σ' vs H B := ⟨g.b0, g.bh, g.fh, g.new, g.cells, g.nd, h, g.st⟩
theorem GoodB.fst {r : Sl} {v : V} (g : GoodB K B0 F M ρ (r :: κ) σ (v :: vs) H B) : VOk K F B v r := by cases g.st; assumption
theorem GoodB.pop {r : Sl} {v : V} (g : GoodB K B0 F M ρ (r :: κ) σ (v :: vs) H B) : GoodB K B0 F M ρ κ σ vs H B := g.stk (by cases g.st; assumption)
theorem GoodB.push {r : Sl} {v : V} (g : GoodB K B0 F M ρ κ σ vs H B) (h : VOk K F B v r) : GoodB K B0 F M ρ (r :: κ) σ (v :: vs) H B := g.stk (.cons h g.st)
theorem Good.push {r : Sl} {v : V} (g : Good K B0 F M ρ κ σ vs H) (h : ∀ B, GoodB K B0 F M ρ κ σ vs H B → VOk K F B v r) : Good K B0 F M ρ (r :: κ) σ (v :: vs) H := by
  obtain ⟨B, g⟩ := g; exact ⟨B, g.push (h B g)⟩
theorem Good.pop {r : Sl} {v : V} (g : Good K B0 F M ρ (r :: κ) σ (v :: vs) H) : Good K B0 F M ρ κ σ vs H := by
  obtain ⟨B, g⟩ := g; exact ⟨B, g.pop⟩
/-- the stack's top is int i -/
theorem Good.int {i : Int} {v : V} (g : Good K B0 F M ρ (.d (.int i) :: κ) σ (v :: vs) H) : v = .int i := by
  obtain ⟨B, g⟩ := g; exact Rp.int_inv g.fst
theorem Good.bl {i : Bool} {v : V} (g : Good K B0 F M ρ (.d (.bool i) :: κ) σ (v :: vs) H) : v = .bl i := by
  obtain ⟨B, g⟩ := g; exact Rp.bl_inv g.fst
theorem Good.str {i : Str} {v : V} (g : Good K B0 F M ρ (.d (.str i) :: κ) σ (v :: vs) H) : v = .str i := by
  obtain ⟨B, g⟩ := g; exact Rp.str_inv g.fst
theorem Good.ref {i : V} {v : V} (g : Good K B0 F M ρ (.v i :: κ) σ (v :: vs) H) : v = i := by
  obtain ⟨B, g⟩ := g; exact g.fst
end
end DL
set_option maxHeartbeats 2000000
namespace DL
open PySem PySem.Spec PyProof.Rows L2

section
variable {K : Fg} {B0 F B B' H H' : Hp} {M : Cs} {ρ κ : List Sl} {σ : List (Option V)} {vs : List V}
theorem Good.pushD {d : PyData} {v : V} (g : Good K B0 F M ρ κ σ vs H) (h : ∀ B, GoodB K B0 F M ρ κ σ vs H B → Rp K B v d) : Good K B0 F M ρ (.d d :: κ) σ (v :: vs) H := g.push h
theorem Good.pushV {v : V} (g : Good K B0 F M ρ κ σ vs H) : Good K B0 F M ρ (.v v :: κ) σ (v :: vs) H := g.push fun _ _ => rfl
theorem GoodB.pushD {d : PyData} {v : V} (g : GoodB K B0 F M ρ κ σ vs H B) (h : Rp K B v d) : GoodB K B0 F M ρ (.d d :: κ) σ (v :: vs) H B := g.push h
theorem GoodB.pushV {v : V} (g : GoodB K B0 F M ρ κ σ vs H B) : GoodB K B0 F M ρ (.v v :: κ) σ (v :: vs) H B := g.push rfl
end

/-! ### every piece of syntax reads itself -/
section
variable (X : Cx)
def tOf (e : Expr) : TE := fun σ H Q => ∀ pins s, Inv X pins σ H s → wpAny (model X.prog X.w) X.A (eval e X.env) (EP X pins σ Q) X.xe s
def tOfT (e : Expr) : TT := fun σ H Q => ∀ pins s, Inv X pins σ H s → wpAny (model X.prog X.w) X.A (isTrue e X.env (eval e X.env)) (TP X pins σ Q) X.xe s
def tOfW (e : Expr) : TT := fun σ H Q => ∀ whole pins s, Inv X pins σ H s → wpAny (model X.prog X.w) X.A (isTrue e X.env whole) (TP X pins σ Q) X.xe s
def tOfA (es : List Expr) : TA := fun σ H Q => ∀ pos pins s, Inv X pins σ H s → wpAny (model X.prog X.w) X.A (spliced (backTo pos (starEach es X.env))) (AP X pins σ Q) X.xe s
def tOfS (st : Stmt) : TS := fun D σ H => ∀ pins s, Inv X pins σ H s → wpAny (model X.prog X.w) X.A (exec st X.env) (SP X pins D) X.xe s
def tOfB (st : List Stmt) : TS := fun D σ H => ∀ pins s, Inv X pins σ H s → wpAny (model X.prog X.w) X.A (execs st X.env) (SP X pins D) X.xe s
def tOfG (tg : Expr) : TG := fun v σ H Q => ∀ pins s u, Inv X pins σ H s → RelV v u → wpAny (model X.prog X.w) X.A (assign tg X.env u) (fun _ s' => ∃ σ' H', Inv X pins σ' H' s' ∧ Q σ' H') X.xe s
def tOfGs (ts : List Expr) : TGs := fun vs σ H Q => ∀ pins s us, Inv X pins σ H s → Vals vs us → wpAny (model X.prog X.w) X.A (assignInOrder ((assignEach ts X.env).map (·.2)) us) (fun _ s' => ∃ σ' H', Inv X pins σ' H' s' ∧ Q σ' H') X.xe s
def tOfI (tg iter : Expr) : TI := fun σ H R => ∀ pins s, Inv X pins σ H s → wpAny (model X.prog X.w) X.A (eval iter X.env) (fun v s1 => wpAny (model X.prog X.w) X.A (pyIter v) (PIE X pins σ tg R) X.xe s1) X.xe s
def tOfO (e : Option Expr) : TO := fun σ H Q => ∀ t, PO X e t → t σ H Q
variable {X} {e : Expr} {es : List Expr} {st : Stmt} {sts : List Stmt} {tg iter : Expr}
theorem pe_self : PE X e (tOf X e) := ⟨fun pins s _ _ _ I h => h pins s I⟩
theorem pt_self : PT X e (tOfT X e) := ⟨fun pins s _ _ _ I h => h pins s I⟩
theorem pw_self : PW X e (tOfW X e) := ⟨fun wh pins s _ _ _ I h => h wh pins s I⟩
theorem pa_self : PA X es (tOfA X es) := ⟨fun pos pins s _ _ _ I h => h pos pins s I⟩
theorem ps_self : PS X st (tOfS X st) := ⟨fun pins s _ _ _ I h => h pins s I⟩
theorem pb_self : PSs X sts (tOfB X sts) := ⟨fun pins s _ _ _ I h => h pins s I⟩
theorem pg_self : PG X tg (tOfG X tg) := ⟨fun pins s _ _ _ u _ I r h => h pins s u I r⟩
theorem pgs_self {ts : List Expr} : PGs X ts (tOfGs X ts) := ⟨fun pins s _ _ _ us _ I r h => h pins s us I r⟩
theorem pi_self : PI X tg iter (tOfI X tg iter) := ⟨fun pins s _ _ _ I h => h pins s I⟩
theorem tOf_of {t : TE} (h : PE X e t) {σ : L2.St} {H : Hp} {Q : VK} (q : t σ H Q) : tOf X e σ H Q := fun pins s I => h.run pins s σ H Q I q
theorem tOfT_of {t : TT} (h : PT X e t) {σ : L2.St} {H : Hp} {Q : Bool → Hp → Prop} (q : t σ H Q) : tOfT X e σ H Q := fun pins s I => h.run pins s σ H Q I q
theorem tOfW_of {t : TT} (h : PW X e t) {σ : L2.St} {H : Hp} {Q : Bool → Hp → Prop} (q : t σ H Q) : tOfW X e σ H Q := fun wh pins s I => h.run wh pins s σ H Q I q
theorem tOfA_of {t : TA} (h : PA X es t) {σ : L2.St} {H : Hp} {Q : List V → Hp → Prop} (q : t σ H Q) : tOfA X es σ H Q := fun pos pins s I => h.run pos pins s σ H Q I q
theorem tOfS_of {t : TS} (h : PS X st t) {σ : L2.St} {H : Hp} {D : Ends} (q : t D σ H) : tOfS X st D σ H := fun pins s I => h.run pins s σ H D I q
theorem tOfB_of {t : TS} (h : PSs X sts t) {σ : L2.St} {H : Hp} {D : Ends} (q : t D σ H) : tOfB X sts D σ H := fun pins s I => h.run pins s σ H D I q
theorem tOfG_of {t : TG} (h : PG X tg t) {v : V} {σ : L2.St} {H : Hp} {Q : L2.St → Hp → Prop} (q : t v σ H Q) : tOfG X tg v σ H Q := fun pins s u I r => h.run pins s σ H v u Q I r q
theorem tOfGs_of {ts : List Expr} {t : TGs} (h : PGs X ts t) {vs : List V} {σ : L2.St} {H : Hp} {Q : L2.St → Hp → Prop} (q : t vs σ H Q) : tOfGs X ts vs σ H Q := fun pins s us I r => h.run pins s σ H vs us Q I r q
theorem tOfI_of {t : TI} (h : PI X tg iter t) {σ : L2.St} {H : Hp} {R : It → Hp → Prop} (q : t σ H R) : tOfI X tg iter σ H R := fun pins s I => h.run pins s σ H R I q
end

/-! ### judgements over data -/
section
variable (X : Cx) (B0 F : Hp) (M : Cs) (ρ κ : List Sl)
def DE (e : Expr) (P : Sl → Cs → Prop) : Prop := ∀ σ vs H Q, Good X.K B0 F M ρ κ σ vs H → (∀ v H' r M', Good X.K B0 F M' ρ (r :: κ) σ (v :: vs) H' → P r M' → Q v H') → tOf X e σ H Q
def DT (e : Expr) (P : Bool → Cs → Prop) : Prop := ∀ σ vs H Q, Good X.K B0 F M ρ κ σ vs H → (∀ b H' M', Good X.K B0 F M' ρ κ σ vs H' → P b M' → Q b H') → tOfT X e σ H Q
def DW (e : Expr) (P : Bool → Cs → Prop) : Prop := ∀ σ vs H Q, Good X.K B0 F M ρ κ σ vs H → (∀ b H' M', Good X.K B0 F M' ρ κ σ vs H' → P b M' → Q b H') → tOfW X e σ H Q
def DA (es : List Expr) (P : List Sl → Cs → Prop) : Prop := ∀ σ vs H Q, Good X.K B0 F M ρ κ σ vs H → (∀ ws H' rs M', ws.length = rs.length → Good X.K B0 F M' ρ (rs ++ κ) σ (ws ++ vs) H' → P rs M' → Q ws H') → tOfA X es σ H Q
structure KK where
  nx : Cs → List Sl → Prop
  rt : Sl → Cs → Prop
  bk : Cs → List Sl → Prop := fun _ _ => False
  ct : Cs → List Sl → Prop := fun _ _ => False
structure Conn (K : Fg) (vs : List V) (k : KK) (D : Ends) : Prop where
  nx : ∀ σ' H' M' ρ', Good K B0 F M' ρ' κ σ' vs H' → k.nx M' ρ' → D.nx σ' H'
  rt : ∀ v H' r M', Good K B0 F M' [] [r] [] [v] H' → k.rt r M' → D.rt v H'
  bk : ∀ σ' H' M' ρ', Good K B0 F M' ρ' κ σ' vs H' → k.bk M' ρ' → D.bk σ' H'
  ct : ∀ σ' H' M' ρ', Good K B0 F M' ρ' κ σ' vs H' → k.ct M' ρ' → D.ct σ' H'
def DS (s : Stmt) (k : KK) : Prop := ∀ σ vs H D, Good X.K B0 F M ρ κ σ vs H → Conn B0 F κ X.K vs k D → tOfS X s D σ H
def DB (s : List Stmt) (k : KK) : Prop := ∀ σ vs H D, Good X.K B0 F M ρ κ σ vs H → Conn B0 F κ X.K vs k D → tOfB X s D σ H
/-- a target takes what r says -/
def DG (r : Sl) (tg : Expr) (P : Cs → List Sl → Prop) : Prop := ∀ σ vs H x Q, Good X.K B0 F M ρ (r :: κ) σ (x :: vs) H → (∀ σ' H' M' ρ', Good X.K B0 F M' ρ' κ σ' vs H' → P M' ρ' → Q σ' H') → tOfG X tg x σ H Q
def DGs (rs : List Sl) (ts : List Expr) (P : Cs → List Sl → Prop) : Prop := ∀ σ vs H xs Q, xs.length = rs.length → Good X.K B0 F M ρ (rs ++ κ) σ (xs ++ vs) H → (∀ σ' H' M' ρ', Good X.K B0 F M' ρ' κ σ' vs H' → P M' ρ' → Q σ' H') → tOfGs X ts xs σ H Q
end
/-- an operation on two values, by their slots -/
def R2D (K : Fg) (B0 F : Hp) (ρ κ : List Sl) (r : R2) (r1 r2 : Sl) (M : Cs) (P : Sl → Cs → Prop) : Prop := ∀ σ vs H x y Q, Good K B0 F M ρ (r2 :: r1 :: κ) σ (y :: x :: vs) H → (∀ v H' r' M', Good K B0 F M' ρ (r' :: κ) σ (v :: vs) H' → P r' M' → Q v H') → r x y H Q
def R1D (K : Fg) (B0 F : Hp) (ρ κ : List Sl) (r : V → Hp → VK → Prop) (r1 : Sl) (M : Cs) (P : Sl → Cs → Prop) : Prop := ∀ σ vs H x Q, Good K B0 F M ρ (r1 :: κ) σ (x :: vs) H → (∀ v H' r' M', Good K B0 F M' ρ (r' :: κ) σ (v :: vs) H' → P r' M' → Q v H') → r x H Q
def RnD (K : Fg) (B0 F : Hp) (ρ κ : List Sl) (r : List V → Hp → VK → Prop) (rs : List Sl) (M : Cs) (P : Sl → Cs → Prop) : Prop := ∀ σ vs H xs Q, xs.length = rs.length → Good K B0 F M ρ (rs ++ κ) σ (xs ++ vs) H → (∀ v H' r' M', Good K B0 F M' ρ (r' :: κ) σ (v :: vs) H' → P r' M' → Q v H') → r xs H Q

section
variable {X : Cx} {B0 F : Hp} {M : Cs} {ρ κ : List Sl} {P : Sl → Cs → Prop} {a b c e : Expr} {pos : Pos}

/-! ### names, constants -/
theorem de_name (i : Nat) {x : Str} {pos : Pos} {r : Sl} (hr : ρ[i]? = some r) (hu : r ≠ .un) (h : P r M) (hN : X.N[i]? = some x := by rfl) (hv : Vis X.env.scope x := by first | exact Or.inl rfl | exact Or.inr (Or.inl rfl) | exact Or.inr (Or.inr rfl)) (hd : (x == ("__debug__" : Str)) = false := by decide)
    (hcd : (x == ("__classdict__" : Str)) = false := by decide) : DE X B0 F M ρ κ (.Name x pos) P := fun σ vs H Q g q => by
  obtain ⟨B, g⟩ := g
  obtain ⟨o, ho, hok⟩ := Paired.get? g.sl hr
  obtain ⟨v, rfl, hv'⟩ := OOk.v hu hok
  exact tOf_of (pe_var hN hv hd hcd) ⟨v, ho, q v H r M ⟨B, g.push hv'⟩ h⟩
theorem de_int {i j pos} (h : P (.d (.int i)) M) : DE X B0 F M ρ κ (.Constant (.int i) j pos) P := fun σ vs H Q g q => tOf_of pe_int (q _ H _ M (g.pushD fun _ _ => Rp.int i) h)
theorem de_bl {i j pos} (h : P (.d (.bool i)) M) : DE X B0 F M ρ κ (.Constant (.bool i) j pos) P := fun σ vs H Q g q => tOf_of pe_bl (q _ H _ M (g.pushD fun _ _ => Rp.bl i) h)
theorem de_non {j pos} (h : P (.d .none) M) : DE X B0 F M ρ κ (.Constant .none j pos) P := fun σ vs H Q g q => tOf_of pe_non (q _ H _ M (g.pushD fun _ _ => Rp.non) h)
theorem de_str {i j pos} (h : P (.d (.str i)) M) : DE X B0 F M ρ κ (.Constant (.str i) j pos) P := fun σ vs H Q g q => tOf_of pe_str (q _ H _ M (g.pushD fun _ _ => Rp.str i) h)
/-- a module's constant, by what stands in the written part -/
theorem de_glob {x : Str} {v : V} {d : PyData} {u : Value} {pos : Pos} (hm : X.mg x = some u) (r : RelV v u) (hd : ∀ H, Rp X.K H v d) (h : P (.d d) M) (hg : Gl X x := by rfl) (hdb : (x == ("__debug__" : Str)) = false := by decide) : DE X B0 F M ρ κ (.Name x pos) P :=
  fun σ vs H Q g q => tOf_of (pe_glob hg hm r hdb) (q _ H _ M (g.pushD fun B _ => hd B) h)
/-- a built-in class as a value -/
theorem de_ty {x : Str} {T : String} {pos : Pos} (hm : X.mg x = none) (hv : bootBuiltins x = some (.type T)) (h : P (.v (.ty T)) M) (hg : Gl X x := by rfl) (hn : x ≠ "__name__" := by decide) (hdb : (x == ("__debug__" : Str)) = false := by decide) : DE X B0 F M ρ κ (.Name x pos) P :=
  fun σ vs H Q g q => tOf_of (pe_bltn (v := .ty T) hg hm hv rfl hn hdb) (q _ H _ M g.pushV h)
/-- weaker wishes -/
theorem DE.mono {P' : Sl → Cs → Prop} (h : DE X B0 F M ρ κ e P) (w : ∀ r M, P r M → P' r M) : DE X B0 F M ρ κ e P' := fun σ vs H Q g q => h σ vs H Q g fun v H' r M' g' p => q v H' r M' g' (w r M' p)
/-- a list cell just made becomes data -/
theorem de_freeze (h : DE X B0 F M ρ κ e fun r M1 => ∃ p xs M2, r = .v (.ref p) ∧ M1 = (p, .lst xs) :: M2 ∧ P (.d (.list xs)) M2) : DE X B0 F M ρ κ e P := fun σ vs H Q g q => h σ vs H Q g fun v H' r M' g' p => by
  obtain ⟨p, xs, M2, rfl, rfl, hp⟩ := p
  have e := g'.ref
  subst e
  obtain ⟨B, g'⟩ := g'
  exact q _ H' _ M2 g'.pop.freeze hp

/-! ### operators -/
theorem de_op {op : Operator} {r : R2} (ho : OpR X (binaryOp op) r) (h : DE X B0 F M ρ κ a fun r1 M1 => DE X B0 F M1 ρ (r1 :: κ) b fun r2 M2 => R2D X.K B0 F ρ κ r r1 r2 M2 P) : DE X B0 F M ρ κ (.BinOp a op b pos) P :=
  fun σ vs H Q g q => tOf_of (pe_op ho pe_self pe_self) (h σ vs H _ g fun x H1 r1 M1 g1 h1 => h1 σ (x :: vs) H1 _ g1 fun y H2 r2 M2 g2 h2 => h2 σ vs H2 x y Q g2 q)
theorem de_unop {op : UnaryOp} {r : V → Hp → VK → Prop} (ho : UnR X (unaryOp op) r) (h : DE X B0 F M ρ κ a fun r1 M1 => R1D X.K B0 F ρ κ r r1 M1 P) : DE X B0 F M ρ κ (.UnaryOp op a pos) P :=
  fun σ vs H Q g q => tOf_of (pe_un ho pe_self) (h σ vs H _ g fun x H1 r1 M1 g1 h1 => h1 σ vs H1 x Q g1 q)
theorem de_cmp {op : CmpOp} {r : R2} (ho : OpR X (compareOp op) r) (h : DE X B0 F M ρ κ a fun r1 M1 => DE X B0 F M1 ρ (r1 :: κ) b fun r2 M2 => R2D X.K B0 F ρ κ r r1 r2 M2 P) (hm : behindInMarks op b = false := by first | rfl | exact nomark _) : DE X B0 F M ρ κ (.Compare a [op] [b] pos) P :=
  fun σ vs H Q g q => tOf_of (pe_cmpR ho pe_self pe_self hm) (h σ vs H _ g fun x H1 r1 M1 g1 h1 => h1 σ (x :: vs) H1 _ g1 fun y H2 r2 M2 g2 h2 => h2 σ vs H2 x y Q g2 q)
theorem dt_cmp {op : CmpOp} {r : R2} {P : Bool → Cs → Prop} (ho : OpR X (compareOp op) r) (h : DE X B0 F M ρ κ a fun r1 M1 => DE X B0 F M1 ρ (r1 :: κ) b fun r2 M2 => R2D X.K B0 F ρ κ r r1 r2 M2 fun r' M' => ∃ k, r' = .d (.bool k) ∧ P k M') (hm : behindInMarks op b = false := by first | rfl | exact nomark _) : DT X B0 F M ρ κ (.Compare a [op] [b] pos) P :=
  fun σ vs H Q g q => tOfT_of (pt_cmpR ho pe_self pe_self hm) (h σ vs H _ g fun x H1 r1 M1 g1 h1 => h1 σ (x :: vs) H1 _ g1 fun y H2 r2 M2 g2 h2 => h2 σ vs H2 x y _ g2 fun v H' r' M' g' p => by
    obtain ⟨k, rfl, p⟩ := p
    have e := g'.bl
    subst e
    exact ⟨k, rfl, q k H' M' g'.pop p⟩)
/-- a chain a < b < c -/
theorem de_chain {op op' : CmpOp} {r r' : R2} (ho : OpR X (compareOp op) r) (ho' : OpR X (compareOp op') r')
    (h : DE X B0 F M ρ κ a fun r1 M1 => DE X B0 F M1 ρ (r1 :: κ) b fun r2 M2 => R2D X.K B0 F ρ (r2 :: r1 :: κ) r r1 r2 M2 fun z M3 => ∃ k, z = .d (.bool k) ∧
      (k = true → DE X B0 F M3 ρ (r2 :: r1 :: κ) c fun r3 M4 => R2D X.K B0 F ρ κ r' r2 r3 M4 P) ∧ (k = false → P (.d (.bool false)) M3))
    (pe : PE X (.Compare a [op, op'] [b, c] pos) (tChain r r' (tOf X a) (tOf X b) (tOf X c)) := by first | exact pe_chain ho ho' pe_self pe_self pe_self (nomark _) (nomark _) | exact pe_chain ho ho' pe_self pe_self pe_self) : DE X B0 F M ρ κ (.Compare a [op, op'] [b, c] pos) P := fun σ vs H Q g q => by
  refine tOf_of pe ?_
  refine h σ vs H _ g fun x H1 r1 M1 g1 h1 => h1 σ (x :: vs) H1 _ g1 fun y H2 r2 M2 g2 h2 => ?_
  have g2' : Good X.K B0 F M2 ρ (r2 :: r1 :: r2 :: r1 :: κ) σ (y :: x :: y :: x :: vs) H2 := by
    obtain ⟨B, g2⟩ := g2
    cases g2.st with
    | cons s1 s2 =>
      cases s2 with
      | cons s2 s3 => exact ⟨B, g2.stk (.cons s1 (.cons s2 (.cons s1 (.cons s2 s3))))⟩
  refine h2 σ (y :: x :: vs) H2 x y _ g2' fun v H' r' M' g' p => ?_
  obtain ⟨k, rfl, p1, p2⟩ := p
  have e := g'.bl
  subst e
  refine ⟨k, rfl, ?_⟩
  cases k with
  | true =>
    refine p1 rfl σ (y :: x :: vs) H' _ g'.pop fun z H4 r3 M4 g4 h4 => ?_
    refine h4 σ vs H4 y z Q ?_ q
    obtain ⟨B, g4⟩ := g4
    cases g4.st with
    | cons s1 s2 =>
      cases s2 with
      | cons s2 s3 =>
        cases s3 with
        | cons s3 s4 => exact ⟨B, g4.stk (.cons s1 (.cons s2 s4))⟩
  | false =>
    refine q _ H' _ M' ?_ (p2 rfl)
    obtain ⟨B, g'⟩ := g'
    cases g'.st with
    | cons s1 s2 =>
      cases s2 with
      | cons s2 s3 =>
        cases s3 with
        | cons s3 s4 => exact ⟨B, g'.stk (.cons s1 s4)⟩

section
variable {K : Fg}
theorem r2_I0 {f : Int → Int → V} {i j : Int} {d : PyData} (hd : ∀ H, Rp K H (f i j) d) (h : P (.d d) M) : R2D K B0 F ρ κ (rI0 f) (.d (.int i)) (.d (.int j)) M P := fun σ vs H x y Q g q => by
  have e := g.int
  subst e
  have e := g.pop.int
  subst e
  exact ⟨i, j, rfl, rfl, q _ H _ M (g.pop.pop.pushD fun B _ => hd B) h⟩
theorem r2_I {C : Int → Int → Prop} {f : Int → Int → V} {i j : Int} {d : PyData} (hd : ∀ H, Rp K H (f i j) d) (hc : C i j) (h : P (.d d) M) : R2D K B0 F ρ κ (rI C f) (.d (.int i)) (.d (.int j)) M P := fun σ vs H x y Q g q => by
  have e := g.int
  subst e
  have e := g.pop.int
  subst e
  exact ⟨i, j, rfl, rfl, hc, q _ H _ M (g.pop.pop.pushD fun B _ => hd B) h⟩
theorem r1_U {f : Int → V} {i : Int} {d : PyData} (hd : ∀ H, Rp K H (f i) d) (h : P (.d d) M) : R1D K B0 F ρ κ (rU f) (.d (.int i)) M P := fun σ vs H x Q g q => by
  have e := g.int
  subst e
  exact ⟨i, rfl, q _ H _ M (g.pop.pushD fun B _ => hd B) h⟩
/-- == of two flat values -/
def flatD : PyData → Option V
  | .none => some .non
  | .bool b => some (.bl b)
  | .int i => some (.int i)
  | .str x => some (.str x)
  | _ => none
theorem Rp.flat {H : Hp} {v w : V} {d : PyData} (h : Rp K H v d) (f : flatD d = some w) : v = w := by
  cases h <;> first | exact Option.some.inj f | cases f
theorem Rp.of_flat {H : Hp} {w : V} {d : PyData} (f : flatD d = some w) : Rp K H w d := by
  cases d <;> first | (cases Option.some.inj f; constructor) | cases f
theorem Good.flat {i : PyData} {σ vs H} {v w : V} (g : Good K B0 F M ρ (.d i :: κ) σ (v :: vs) H) (f : flatD i = some w) : v = w := by
  obtain ⟨B, g⟩ := g; exact Rp.flat g.fst f
theorem r2_eq {x y : PyData} {v w : V} (hx : flatD x = some v) (hy : flatD y = some w) (hs : scal v w = true) (h : P (.d (.bool (decide (v = w)))) M) : R2D K B0 F ρ κ rEq (.d x) (.d y) M P := fun σ vs H x y Q g q => by
  have e := g.flat hy
  subst e
  have e := g.pop.flat hx
  subst e
  exact ⟨hs, q _ H _ M (g.pop.pop.pushD fun B _ => Rp.bl _) h⟩
theorem r2_ne {x y : PyData} {v w : V} (hx : flatD x = some v) (hy : flatD y = some w) (hs : scal v w = true) (h : P (.d (.bool (!decide (v = w)))) M) : R2D K B0 F ρ κ rNe (.d x) (.d y) M P := fun σ vs H x y Q g q => by
  have e := g.flat hy
  subst e
  have e := g.pop.flat hx
  subst e
  exact ⟨hs, q _ H _ M (g.pop.pop.pushD fun B _ => Rp.bl _) h⟩
theorem decV {i j : Int} : decide (V.int i = V.int j) = decide (i = j) := by
  by_cases h : i = j
  · subst h; simp
  · rw [decide_eq_false h, decide_eq_false (fun e => h (V.int.inj e))]
theorem r2_eqI {i j : Int} (h : P (.d (.bool (decide (i = j)))) M) : R2D K B0 F ρ κ rEq (.d (.int i)) (.d (.int j)) M P := r2_eq rfl rfl rfl (by rw [decV]; exact h)
theorem r2_neI {i j : Int} (h : P (.d (.bool (!decide (i = j)))) M) : R2D K B0 F ρ κ rNe (.d (.int i)) (.d (.int j)) M P := r2_ne rfl rfl rfl (by rw [decV]; exact h)
/-- is None, is not None -/
theorem r2_isN {x : PyData} (h : P (.d (.bool (match x with | .none => true | _ => false))) M) : R2D K B0 F ρ κ (fun x y H Q => y = .non ∧ Q (.bl (decide (x = .non))) H) (.d x) (.d .none) M P := fun σ vs H v y Q g q => by
  have e : y = .non := by obtain ⟨B, g⟩ := g; exact Rp.non_inv g.fst
  subst e
  refine ⟨rfl, q _ H _ M (g.pop.pop.pushD fun B _ => ?_) h⟩
  obtain ⟨B, g⟩ := g
  have := g.pop.fst
  cases (show Rp K B v x from this) <;> exact Rp.bl _
/-- data of any depth, ==, != -/
theorem r2_eqD {x y : PyData} (hx : SeqAt.shaped x = true) (hy : SeqAt.shaped y = true) (h : P (.d (.bool (PyData.eqv x y))) M) : R2D K B0 F ρ κ (rEqD K) (.d x) (.d y) M P := fun σ vs H v w Q g q => by
  refine ⟨x, y, ?_, ?_, hx, hy, q _ H _ M (g.pop.pop.pushD fun B _ => Rp.bl _) h⟩
  · obtain ⟨B, g⟩ := g
    have r : Rp K B v x := g.pop.fst
    exact (r.ext g.bh).dp
  · obtain ⟨B, g⟩ := g
    have r : Rp K B w y := g.fst
    exact (r.ext g.bh).dp
theorem r2_neD {x y : PyData} (hx : SeqAt.shaped x = true) (hy : SeqAt.shaped y = true) (h : P (.d (.bool (!PyData.eqv x y))) M) : R2D K B0 F ρ κ (rNeD K) (.d x) (.d y) M P := fun σ vs H v w Q g q => by
  refine ⟨x, y, ?_, ?_, hx, hy, q _ H _ M (g.pop.pop.pushD fun B _ => Rp.bl _) h⟩
  · obtain ⟨B, g⟩ := g
    have r : Rp K B v x := g.pop.fst
    exact (r.ext g.bh).dp
  · obtain ⟨B, g⟩ := g
    have r : Rp K B w y := g.fst
    exact (r.ext g.bh).dp
end

/-! ### and, or, not, if .. else as values and tests -/
variable {rest : List Expr}
theorem de_one {op} (h : DE X B0 F M ρ κ a P) : DE X B0 F M ρ κ (.BoolOp op [a] pos) P := fun σ vs H Q g q => tOf_of (pe_one pe_self) (h σ vs H Q g q)
theorem de_and (h : DE X B0 F M ρ κ a fun r M1 => ∃ k, r = .d (.bool k) ∧ (k = true → DE X B0 F M1 ρ κ (.BoolOp .And (b :: rest) pos) P) ∧ (k = false → P (.d (.bool false)) M1)) : DE X B0 F M ρ κ (.BoolOp .And (a :: b :: rest) pos) P :=
  fun σ vs H Q g q => tOf_of (pe_and pe_self pe_self) (h σ vs H _ g fun x H1 r1 M1 g1 h1 => by
    obtain ⟨k, rfl, p1, p2⟩ := h1
    have e := g1.bl
    subst e
    refine ⟨k, rfl, ?_⟩
    cases k with
    | true => exact p1 rfl σ vs H1 Q g1.pop q
    | false => exact q _ H1 _ M1 g1 (p2 rfl))
theorem de_or (h : DE X B0 F M ρ κ a fun r M1 => ∃ k, r = .d (.bool k) ∧ (k = false → DE X B0 F M1 ρ κ (.BoolOp .Or (b :: rest) pos) P) ∧ (k = true → P (.d (.bool true)) M1)) : DE X B0 F M ρ κ (.BoolOp .Or (a :: b :: rest) pos) P :=
  fun σ vs H Q g q => tOf_of (pe_or pe_self pe_self) (h σ vs H _ g fun x H1 r1 M1 g1 h1 => by
    obtain ⟨k, rfl, p1, p2⟩ := h1
    have e := g1.bl
    subst e
    refine ⟨k, rfl, ?_⟩
    cases k with
    | false => exact p1 rfl σ vs H1 Q g1.pop q
    | true => exact q _ H1 _ M1 g1 (p2 rfl))
theorem de_not (h : DE X B0 F M ρ κ a fun r M1 => ∃ k, r = .d (.bool k) ∧ P (.d (.bool (!k))) M1) : DE X B0 F M ρ κ (.UnaryOp .Not a pos) P :=
  fun σ vs H Q g q => tOf_of (pe_not pe_self) (h σ vs H _ g fun x H1 r1 M1 g1 h1 => by
    obtain ⟨k, rfl, p⟩ := h1
    have e := g1.bl
    subst e
    exact ⟨k, rfl, q _ H1 _ M1 (g1.pop.pushD fun _ _ => Rp.bl _) p⟩)
/-- the second operand's value is told ahead: no two ways -/
theorem de_andP (h : DE X B0 F M ρ κ a fun r M1 => ∃ k k2, r = .d (.bool k) ∧ (k = true → DE X B0 F M1 ρ κ (.BoolOp .And (b :: rest) pos) fun r' M2 => r' = .d (.bool k2) ∧ M2 = M1) ∧ P (.d (.bool (k && k2))) M1) : DE X B0 F M ρ κ (.BoolOp .And (a :: b :: rest) pos) P :=
  de_and (h.mono fun r M1 ⟨k, k2, e, p1, p2⟩ => ⟨k, e, fun hk => (p1 hk).mono fun r' M2 ⟨e1, e2⟩ => by subst e1 e2 hk; exact p2, fun hk => by subst hk; exact p2⟩)
theorem de_orP (h : DE X B0 F M ρ κ a fun r M1 => ∃ k k2, r = .d (.bool k) ∧ (k = false → DE X B0 F M1 ρ κ (.BoolOp .Or (b :: rest) pos) fun r' M2 => r' = .d (.bool k2) ∧ M2 = M1) ∧ P (.d (.bool (k || k2))) M1) : DE X B0 F M ρ κ (.BoolOp .Or (a :: b :: rest) pos) P :=
  de_or (h.mono fun r M1 ⟨k, k2, e, p1, p2⟩ => ⟨k, e, fun hk => (p1 hk).mono fun r' M2 ⟨e1, e2⟩ => by subst e1 e2 hk; exact p2, fun hk => by subst hk; exact p2⟩)
variable {PT : Bool → Cs → Prop}
theorem DT.mono {P P' : Bool → Cs → Prop} (h : DT X B0 F M ρ κ e P) (w : ∀ r M, P r M → P' r M) : DT X B0 F M ρ κ e P' := fun σ vs H Q g q => h σ vs H Q g fun v H' M' g' p => q v H' M' g' (w v M' p)
theorem DW.mono {P P' : Bool → Cs → Prop} (h : DW X B0 F M ρ κ e P) (w : ∀ r M, P r M → P' r M) : DW X B0 F M ρ κ e P' := fun σ vs H Q g q => h σ vs H Q g fun v H' M' g' p => q v H' M' g' (w v M' p)
theorem dt_w (h : DW X B0 F M ρ κ e PT) : DT X B0 F M ρ κ e PT := fun σ vs H Q g q => tOfT_of pw_self.pt (h σ vs H Q g q)
theorem dw_and1 (h : DT X B0 F M ρ κ a PT) : DW X B0 F M ρ κ (.BoolOp .And [a] pos) PT := fun σ vs H Q g q => tOfW_of (pw_and1 pt_self) (h σ vs H Q g q)
theorem dw_or1 (h : DT X B0 F M ρ κ a PT) : DW X B0 F M ρ κ (.BoolOp .Or [a] pos) PT := fun σ vs H Q g q => tOfW_of (pw_or1 pt_self) (h σ vs H Q g q)
theorem dw_and (h : DT X B0 F M ρ κ a fun k M1 => (k = true → DW X B0 F M1 ρ κ (.BoolOp .And (b :: rest) pos) PT) ∧ (k = false → PT false M1)) : DW X B0 F M ρ κ (.BoolOp .And (a :: b :: rest) pos) PT :=
  fun σ vs H Q g q => tOfW_of (pw_and pt_self pw_self) (h σ vs H _ g fun k H1 M1 g1 h1 => by
    cases k with
    | true => exact h1.1 rfl σ vs H1 Q g1 q
    | false => exact q _ H1 M1 g1 (h1.2 rfl))
theorem dw_or (h : DT X B0 F M ρ κ a fun k M1 => (k = false → DW X B0 F M1 ρ κ (.BoolOp .Or (b :: rest) pos) PT) ∧ (k = true → PT true M1)) : DW X B0 F M ρ κ (.BoolOp .Or (a :: b :: rest) pos) PT :=
  fun σ vs H Q g q => tOfW_of (pw_or pt_self pw_self) (h σ vs H _ g fun k H1 M1 g1 h1 => by
    cases k with
    | false => exact h1.1 rfl σ vs H1 Q g1 q
    | true => exact q _ H1 M1 g1 (h1.2 rfl))
theorem dw_andP (h : DT X B0 F M ρ κ a fun k M1 => ∃ k2, (k = true → DW X B0 F M1 ρ κ (.BoolOp .And (b :: rest) pos) fun k' M2 => k' = k2 ∧ M2 = M1) ∧ PT (k && k2) M1) : DW X B0 F M ρ κ (.BoolOp .And (a :: b :: rest) pos) PT :=
  dw_and (h.mono fun k M1 ⟨k2, p1, p2⟩ => ⟨fun hk => (p1 hk).mono fun r' M2 ⟨e1, e2⟩ => by subst e1 e2 hk; exact p2, fun hk => by subst hk; exact p2⟩)
theorem dw_orP (h : DT X B0 F M ρ κ a fun k M1 => ∃ k2, (k = false → DW X B0 F M1 ρ κ (.BoolOp .Or (b :: rest) pos) fun k' M2 => k' = k2 ∧ M2 = M1) ∧ PT (k || k2) M1) : DW X B0 F M ρ κ (.BoolOp .Or (a :: b :: rest) pos) PT :=
  dw_or (h.mono fun k M1 ⟨k2, p1, p2⟩ => ⟨fun hk => (p1 hk).mono fun r' M2 ⟨e1, e2⟩ => by subst e1 e2 hk; exact p2, fun hk => by subst hk; exact p2⟩)
theorem dt_not (h : DT X B0 F M ρ κ a fun k M1 => PT (!k) M1) : DT X B0 F M ρ κ (.UnaryOp .Not a pos) PT :=
  fun σ vs H Q g q => tOfT_of (pt_not pt_self) (h σ vs H _ g fun k H1 M1 g1 h1 => q _ H1 M1 g1 h1)
/-- an expression whose value is a bool -/
theorem dt_val (h : DE X B0 F M ρ κ e fun r M1 => ∃ k, r = .d (.bool k) ∧ PT k M1) (he : ∀ whole, isTrue e X.env whole = (do let v ← whole; standAt e.pos; holding [v] (truthy v)) := by intro _; rfl) : DT X B0 F M ρ κ e PT :=
  fun σ vs H Q g q => tOfT_of (pt_val pe_self he) (h σ vs H _ g fun x H1 r1 M1 g1 h1 => by
    obtain ⟨k, rfl, p⟩ := h1
    have e := g1.bl
    subst e
    exact ⟨k, rfl, q _ H1 M1 g1.pop p⟩)
/-- truth of a datum -/
def truD : PyData → Bool
  | .none => false
  | .bool b => b
  | .int i => i != 0
  | .str x => (x.length : Int) != 0
  | .list xs => !xs.isEmpty
  | .tuple xs => !xs.isEmpty
  | _ => false
theorem isEmpty_rp {K : Fg} {H : Hp} {vs : List V} {ds : List PyData} (h : RpA K H vs ds) : (!vs.isEmpty) = !ds.isEmpty := by cases h <;> rfl
theorem tru_of {K : Fg} {H : Hp} {v : V} {d : PyData} (h : Rp K H v d) (hs : ∀ x, d = .str x → x.length ≤ sizeLine) : TruV K v H (truD d) := by
  cases h with
  | non => rfl
  | bl b => rfl
  | int i => rfl
  | str x => exact ⟨hs x rfl, rfl⟩
  | lst h h2 => exact .inl ⟨_, SqL.of h, (isEmpty_rp h2).symm⟩
  | tup h h2 => exact .inr (.inl ⟨_, h, (isEmpty_rp h2).symm⟩)
theorem dt_truth (h : DE X B0 F M ρ κ e fun r M1 => ∃ d, r = .d d ∧ (∀ x, d = .str x → x.length ≤ sizeLine) ∧ PT (truD d) M1) (he : ∀ whole, isTrue e X.env whole = (do let v ← whole; standAt e.pos; holding [v] (truthy v)) := by intro _; rfl) : DT X B0 F M ρ κ e PT :=
  fun σ vs H Q g q => tOfT_of (pt_truth pe_self he) (h σ vs H _ g fun x H1 r1 M1 g1 h1 => by
    obtain ⟨d, rfl, hs, p⟩ := h1
    refine ⟨truD d, ?_, q _ H1 M1 g1.pop p⟩
    obtain ⟨B, g1⟩ := g1
    exact tru_of (Rp.ext g1.bh g1.fst) hs)
/-- truth of a cell's list -/
theorem dt_truthC (h : DE X B0 F M ρ κ e fun r M1 => ∃ p xs, r = .v (.ref p) ∧ (p, .lst xs) ∈ M1 ∧ PT (!xs.isEmpty) M1) (he : ∀ whole, isTrue e X.env whole = (do let v ← whole; standAt e.pos; holding [v] (truthy v)) := by intro _; rfl) : DT X B0 F M ρ κ e PT :=
  fun σ vs H Q g q => tOfT_of (pt_truth pe_self he) (h σ vs H _ g fun x H1 r1 M1 g1 h1 => by
    obtain ⟨p, xs, rfl, hm, hp⟩ := h1
    have e := g1.ref
    subst e
    refine ⟨!xs.isEmpty, ?_, q _ H1 M1 g1.pop hp⟩
    obtain ⟨B, g1⟩ := g1
    obtain ⟨_, _, o, ho, ws, rfl, hw⟩ := g1.cells _ hm
    exact .inl ⟨ws, SqL.of ho, (isEmpty_rp hw).symm⟩)
theorem de_ifexp (h : DT X B0 F M ρ κ c fun k M1 => (k = true → DE X B0 F M1 ρ κ a P) ∧ (k = false → DE X B0 F M1 ρ κ b P)) : DE X B0 F M ρ κ (.IfExp c a b pos) P :=
  fun σ vs H Q g q => tOf_of (pe_ifExp pt_self pe_self pe_self) (h σ vs H _ g fun k H1 M1 g1 h1 => by
    cases k with
    | true => exact h1.1 rfl σ vs H1 Q g1 q
    | false => exact h1.2 rfl σ vs H1 Q g1 q)

/-! ### arguments, displays -/
variable {es : List Expr} {PA : List Sl → Cs → Prop}
theorem da_nil (h : PA [] M) : DA X B0 F M ρ κ [] PA := fun σ vs H Q g q => tOfA_of pa_nil (q [] H [] M rfl g h)
theorem stk_swap {K : Fg} {F B : Hp} {r : Sl} {v : V} : ∀ {ws : List V} {rs : List Sl} {κ : List Sl} {vs : List V}, ws.length = rs.length → KOk K F B (ws ++ v :: vs) (rs ++ r :: κ) → KOk K F B (v :: (ws ++ vs)) (r :: (rs ++ κ))
  | [], [], _, _, _, h => h
  | w :: ws, x :: rs, κ, vs, hl, h => by
    cases h with
    | cons h1 h2 =>
      have := stk_swap (ws := ws) (rs := rs) (by simpa using hl) h2
      cases this with
      | cons h3 h4 => exact .cons h3 (.cons h1 h4)
theorem da_cons (h : DE X B0 F M ρ κ e fun r M1 => DA X B0 F M1 ρ (r :: κ) es fun rs M2 => PA (r :: rs) M2) (hs : starEach (e :: es) X.env = (false, eval e X.env) :: starEach es X.env := by rfl) : DA X B0 F M ρ κ (e :: es) PA :=
  fun σ vs H Q g q => tOfA_of (pa_cons pe_self pa_self hs) (h σ vs H _ g fun x H1 r1 M1 g1 h1 => h1 σ (x :: vs) H1 _ g1 fun ws H2 rs M2 hl g2 h2 => q (x :: ws) H2 (r1 :: rs) M2 (by simp [hl]) (by
    obtain ⟨B, g2⟩ := g2
    exact ⟨B, g2.stk (stk_swap hl g2.st)⟩) h2)
theorem kok_split {K : Fg} {F B : Hp} : ∀ {ws : List V} {rs : List Sl} {κ : List Sl} {vs : List V}, ws.length = rs.length → KOk K F B (ws ++ vs) (rs ++ κ) → KOk K F B ws rs ∧ KOk K F B vs κ
  | [], [], _, _, _, h => ⟨.nil, h⟩
  | w :: ws, x :: rs, κ, vs, hl, h => by
    cases h with
    | cons h1 h2 =>
      obtain ⟨h3, h4⟩ := kok_split (ws := ws) (rs := rs) (by simpa using hl) h2
      exact ⟨.cons h1 h3, h4⟩
theorem rpa_of {K : Fg} {F B : Hp} : ∀ {ws : List V} {ds : List PyData}, KOk K F B ws (ds.map Sl.d) → RpA K B ws ds
  | _, [], h => by cases h; exact .nil
  | _, d :: ds, h => by
    cases h with
    | cons h1 h2 => exact .cons h1 (rpa_of h2)
/-- (a, b, ..) -/
theorem de_tup {x1} (h : DA X B0 F M ρ κ es fun rs M1 => ∃ ds, rs = ds.map Sl.d ∧ ds.length ≤ 100000 ∧ P (.d (.tuple ds)) M1) : DE X B0 F M ρ κ (.Tuple es x1 pos) P :=
  fun σ vs H Q g q => tOf_of (pe_tup pa_self) (h σ vs H _ g fun ws H1 rs M1 hl g1 h1 => by
    obtain ⟨ds, rfl, hz, p⟩ := h1
    have hl' : ws.length = ds.length := by simpa using hl
    refine ⟨by rw [hl']; exact Nat.le_trans hz (by decide), fun a ha => q _ _ _ M1 ?_ p⟩
    obtain ⟨B, g1⟩ := g1
    obtain ⟨h3, h4⟩ := kok_split hl g1.st
    have g2 := (g1.stk h4).laid (o := .tup ws) ha
    have bp : B a = none := g1.bh.free ha
    exact ⟨_, g2.pushD (Rp.tup (SqT.of upd_same) ((rpa_of h3).ext fun b u z => by rw [upd_ne (ne_of_none z bp)]; exact z))⟩)
/-- [a, b, ..]: a cell -/
theorem de_lstC (h : DA X B0 F M ρ κ es fun rs M1 => ∃ ds, rs = ds.map Sl.d ∧ ds.length ≤ 100000 ∧ ∀ p, P (.v (.ref p)) ((p, .lst ds) :: M1)) : DE X B0 F M ρ κ (.List es pos) P :=
  fun σ vs H Q g q => tOf_of (pe_lst pa_self) (h σ vs H _ g fun ws H1 rs M1 hl g1 h1 => by
    obtain ⟨ds, rfl, hz, p⟩ := h1
    have hl' : ws.length = ds.length := by simpa using hl
    refine ⟨by rw [hl']; exact Nat.le_trans hz (by decide), fun a ha => q _ _ _ _ ?_ (p a)⟩
    obtain ⟨B, g1⟩ := g1
    obtain ⟨h3, h4⟩ := kok_split hl g1.st
    exact ⟨_, ((g1.stk h4).cell (c := .lst ds) ha ⟨ws, rfl, rpa_of h3⟩).pushV⟩)
theorem de_lst (h : DA X B0 F M ρ κ es fun rs M1 => ∃ ds, rs = ds.map Sl.d ∧ ds.length ≤ 100000 ∧ P (.d (.list ds)) M1) : DE X B0 F M ρ κ (.List es pos) P :=
  de_freeze (de_lstC (fun σ vs H Q g q => h σ vs H Q g fun ws H' rs M' hl g' ⟨ds, e, hz, p⟩ => q ws H' rs M' hl g' ⟨ds, e, hz, fun a => ⟨a, ds, M', rfl, rfl, p⟩⟩))
/-- a list of values of any kind (cells among them): a raw cell -/
theorem vs_of {K : Fg} {F B : Hp} : ∀ {ws xs : List V}, KOk K F B ws (xs.map Sl.v) → ws = xs
  | _, [], h => by cases h; rfl
  | _, d :: ds, h => by
    cases h with
    | cons h1 h2 => rw [show _ = d from h1, vs_of h2]

/-! ### calls of built-ins -/
variable {x : Str} {p : Pos} {id T : String} {r : List V → Hp → VK → Prop}
theorem de_callB (hc : CallR X (.builtin id) r) (hm : X.mg x = none) (hv : bootBuiltins x = some (.builtin id)) (h : DA X B0 F M ρ κ (e :: es) fun rs M1 => RnD X.K B0 F ρ κ r rs M1 P) (hg : Gl X x := by rfl) (hn : x ≠ "__name__" := by decide) (hdb : (x == ("__debug__" : Str)) = false := by decide)
    (he : starEach (e :: es) X.env = (false, eval e X.env) :: starEach es X.env := by rfl) (hpl : (backTo pos (starEach es X.env)).any (·.1) = false := by rfl) : DE X B0 F M ρ κ (.Call (.Name x p) (e :: es) [] pos) P :=
  fun σ vs H Q g q => tOf_of (pe_callB hc hg hm hv pa_self hn hdb he hpl) (h σ vs H _ g fun ws H1 rs M1 hl g1 h1 => h1 σ vs H1 ws Q hl g1 q)
theorem de_callTy (hc : CallR X (.type T) r) (hm : X.mg x = none) (hv : bootBuiltins x = some (.type T)) (h : DA X B0 F M ρ κ (e :: es) fun rs M1 => RnD X.K B0 F ρ κ r rs M1 P) (hg : Gl X x := by rfl) (hn : x ≠ "__name__" := by decide) (hdb : (x == ("__debug__" : Str)) = false := by decide)
    (he : starEach (e :: es) X.env = (false, eval e X.env) :: starEach es X.env := by rfl) (hpl : (backTo pos (starEach es X.env)).any (·.1) = false := by rfl) : DE X B0 F M ρ κ (.Call (.Name x p) (e :: es) [] pos) P :=
  fun σ vs H Q g q => tOf_of (pe_callTy hc hg hm hv pa_self hn hdb he hpl) (h σ vs H _ g fun ws H1 rs M1 hl g1 h1 => h1 σ vs H1 ws Q hl g1 q)

/-! ### blocks, statements -/
variable {k : KK} {s : Stmt} {ss : List Stmt}
theorem db_nil (h : k.nx M ρ) : DB X B0 F M ρ κ [] k := fun σ vs H D g c => tOfB_of pss_nil (c.nx σ H M ρ g h)
theorem db_cons (h : DS X B0 F M ρ κ s { k with nx := fun M' ρ' => DB X B0 F M' ρ' κ ss k }) : DB X B0 F M ρ κ (s :: ss) k :=
  fun σ vs H D g c => tOfB_of (pss_cons ps_self pb_self) (h σ vs H { D with nx := tOfB X ss D } g ⟨fun σ' H' M' ρ' g' n => n σ' vs H' D g' c, c.rt, c.bk, c.ct⟩)
theorem ds_pass (h : k.nx M ρ) : DS X B0 F M ρ κ (.Pass pos) k := fun σ vs H D g c => tOfS_of ps_pass (c.nx σ H M ρ g h)
theorem ds_break (h : k.bk M ρ) : DS X B0 F M ρ κ (.Break pos) k := fun σ vs H D g c => tOfS_of ps_break (c.bk σ H M ρ g h)
theorem ds_cont (h : k.ct M ρ) : DS X B0 F M ρ κ (.Continue pos) k := fun σ vs H D g c => tOfS_of ps_continue (c.ct σ H M ρ g h)
theorem ds_expr (h : DE X B0 F M ρ κ e fun _ M1 => k.nx M1 ρ) (hs : swapsWith e none pos.line X.env = pure false := by rfl) : DS X B0 F M ρ κ (.Expr e pos) k :=
  fun σ vs H D g c => tOfS_of (ps_expr pe_self hs) (h σ vs H _ g fun v H1 r M1 g1 n => c.nx σ H1 M1 ρ g1.pop n)
theorem Good.ret {K : Fg} {σ : L2.St} {vs : List V} {H : Hp} {r : Sl} {v : V} (g : Good K B0 F M ρ (r :: κ) σ (v :: vs) H) : Good K B0 F M [] [r] [] [v] H := by
  obtain ⟨B, g⟩ := g
  exact ⟨B, (g.stk (.cons g.fst .nil)).slt .nil⟩
theorem Good.dropM {K : Fg} {σ : L2.St} {vs : List V} {H : Hp} (j : Nat) (g : Good K B0 F M ρ κ σ vs H) : Good K B0 F (M.drop j) ρ κ σ vs H := by
  obtain ⟨B, g⟩ := g
  exact ⟨B, g.b0, g.bh, g.fh, g.new, fun c hc => g.cells c (List.mem_of_mem_drop hc), (by rw [List.map_drop]; exact g.nd.sublist (List.drop_sublist _ _)), g.sl, g.st⟩
theorem ds_ret (h : DE X B0 F M ρ κ e fun r M1 => k.rt r M1) : DS X B0 F M ρ κ (.Return (some e) pos) k :=
  fun σ vs H D g c => tOfS_of (ps_ret pe_self) (h σ vs H _ g fun v H1 r M1 g1 n => c.rt v H1 r M1 g1.ret n)
/-- the first j cells are forgotten -/
theorem ds_retM (j : Nat) (h : DE X B0 F M ρ κ e fun r M1 => k.rt r (M1.drop j)) : DS X B0 F M ρ κ (.Return (some e) pos) k :=
  fun σ vs H D g c => tOfS_of (ps_ret pe_self) (h σ vs H _ g fun v H1 r M1 g1 n => c.rt v H1 r (M1.drop j) (g1.ret.dropM j) n)
theorem ds_set (i : Nat) {x : Str} {pos' : Pos} (h : DE X B0 F M ρ κ e fun r M1 => k.nx M1 (ρ.set i r)) (hN : X.N.Nodup := by exact (by assumption)) (hi : X.N[i]? = some x := by rfl) (hx : Loc X.env.scope x := by first | exact Or.inl rfl | exact Or.inr rfl)
    (hs : swapsWith e (some (.Name x pos')) pos.line X.env = pure false := by rfl) (hf : X.fn x = true ∨ X.env.scope.names.lookup x = some .local := by first | exact .inl rfl | exact .inr rfl) :
    DS X B0 F M ρ κ (.Assign [.Name x pos'] e pos) k :=
  fun σ vs H D g c => tOfS_of (ps_set hN hi hx pe_self hs hf) (h σ vs H _ g fun v H1 r M1 g1 n => c.nx _ H1 M1 _ (by
    obtain ⟨B, g1⟩ := g1
    exact ⟨B, g1.pop.slt (Paired.set (OOk.of g1.fst) i g1.sl)⟩) n)
theorem dg_name (i : Nat) {r : Sl} {x : Str} {P : Cs → List Sl → Prop} (h : P M (ρ.set i r)) (hN : X.N.Nodup := by exact (by assumption)) (hi : X.N[i]? = some x := by rfl) (hx : Loc X.env.scope x := by first | exact Or.inl rfl | exact Or.inr rfl)
    (hf : X.fn x = true ∨ X.env.scope.names.lookup x = some .local := by first | exact .inl rfl | exact .inr rfl) : DG X B0 F M ρ κ r (.Name x pos) P :=
  fun σ vs H v Q g q => tOfG_of (pg_name hN hi hx hf) (q _ H M _ (by
    obtain ⟨B, g1⟩ := g
    exact ⟨B, g1.pop.slt (Paired.set (OOk.of g1.fst) i g1.sl)⟩) h)
theorem dgs_nil {P : Cs → List Sl → Prop} (h : P M ρ) : DGs X B0 F M ρ κ [] [] P := fun σ vs H xs Q hl g q => tOfGs_of pgs_nil (by
  have : xs = [] := List.length_eq_zero_iff.mp hl
  subst this
  exact ⟨rfl, q σ H M ρ g h⟩)
theorem dgs_cons {P : Cs → List Sl → Prop} {r : Sl} {rs : List Sl} {t : Expr} {ts : List Expr} (h : DG X B0 F M ρ (rs ++ κ) r t fun M1 ρ1 => DGs X B0 F M1 ρ1 κ rs ts P) (hs : (assignEach (t :: ts) X.env).map (·.2) = assign t X.env :: (assignEach ts X.env).map (·.2) := by rfl) : DGs X B0 F M ρ κ (r :: rs) (t :: ts) P :=
  fun σ vs H xs Q hl g q => tOfGs_of (pgs_cons pg_self pgs_self hs) (by
    cases xs with
    | nil => cases hl
    | cons x xs =>
      exact ⟨x, xs, rfl, h σ (xs ++ vs) H x _ g fun σ1 H1 M1 ρ1 g1 h1 => h1 σ1 vs H1 xs Q (by simpa using hl) g1 q⟩)
theorem kok_of {K : Fg} {F B : Hp} : ∀ {ws : List V} {ds : List PyData}, RpA K B ws ds → KOk K F B ws (ds.map Sl.d)
  | _, _, .nil => .nil
  | _, _, .cons h t => .cons h (kok_of t)
theorem dg_tup {P : Cs → List Sl → Prop} {ds : List PyData} {ts : List Expr} {j : Nat} {n : Nat} (hn : ds.length = n) (h : DGs X B0 F M ρ κ (ds.map Sl.d) ts P) (hc : X.calm = true := by rfl) (hn' : (assignEach ts X.env).length = n := by rfl) (hst : (assignEach ts X.env).findIdx? (·.1) = none := by rfl) : DG X B0 F M ρ κ (.d (.tuple ds)) (.Tuple ts j pos) P :=
  fun σ vs H v Q g q => tOfG_of (pg_tup (n := n) hc pgs_self hn' hst) (by
    obtain ⟨B, g⟩ := g
    obtain ⟨a, xs, rfl, hq, hr⟩ := Rp.tup_inv g.fst
    refine ⟨a, xs, rfl, same_t g.bh hq, by rw [hr.len, hn], h σ vs H xs Q (by simp [hr.len]) ⟨B, g.pop.stk (Paired.app (kok_of hr) g.pop.st)⟩ q⟩)
theorem ds_asg {tg : Expr} (h : DE X B0 F M ρ κ e fun r M1 => DG X B0 F M1 ρ κ r tg fun M2 ρ2 => k.nx M2 ρ2) (hs : swapsWithSole [tg] e pos.line X.env = pure false := by rfl) (hw : swappedStores [tg] e X.env = pure none := by rfl)
    (h1 : (assignEach [tg] X.env).map (·.2) = [assign tg X.env] := by rfl) : DS X B0 F M ρ κ (.Assign [tg] e pos) k :=
  fun σ vs H D g c => tOfS_of (ps_asg pe_self pg_self hs hw h1) (h σ vs H _ g fun v H1 r M1 g1 n => n σ vs H1 v D.nx g1 fun σ' H' M' ρ' g' n' => c.nx σ' H' M' ρ' g' n')
theorem ds_if {s1 s2 : List Stmt} (h : DT X B0 F M ρ κ c fun b M1 => (b = true → DB X B0 F M1 ρ κ s1 k) ∧ (b = false → DB X B0 F M1 ρ κ s2 k)) : DS X B0 F M ρ κ (.If c s1 s2 pos) k :=
  fun σ vs H D g cn => tOfS_of (ps_if pt_self pb_self pb_self) (h σ vs H _ g fun b H1 M1 g1 n => by
    cases b with
    | true => exact n.1 rfl σ vs H1 D g1 cn
    | false => exact n.2 rfl σ vs H1 D g1 cn)
theorem ds_aug (i : Nat) {x : Str} {op : Operator} {t : R2} {pos' : Pos} {r : Sl} (ho : OpR X (inplaceOp op) t) (hr : ρ[i]? = some r) (hu : r ≠ .un) (h : DE X B0 F M ρ (r :: κ) e fun r2 M1 => R2D X.K B0 F ρ κ t r r2 M1 fun r3 M2 => k.nx M2 (ρ.set i r3)) (hN : X.N.Nodup := by exact (by assumption)) (hi : X.N[i]? = some x := by rfl)
    (hx : Loc X.env.scope x := by first | exact Or.inl rfl | exact Or.inr rfl) (hf : X.fn x = true ∨ X.env.scope.names.lookup x = some .local := by first | exact .inl rfl | exact .inr rfl) : DS X B0 F M ρ κ (.AugAssign (.Name x pos') op e pos) k :=
  fun σ vs H D g c => tOfS_of (ps_aug (ti := t) hN hi hx pe_self (fun pins s σ H x y v u Q I rx ry q => ho pins s σ H x y v u Q I rx ry q) hf) (by
    obtain ⟨B, g0⟩ := g
    obtain ⟨o, ho, hok⟩ := Paired.get? g0.sl hr
    obtain ⟨v, rfl, hv'⟩ := OOk.v hu hok
    refine ⟨v, ho, h σ (v :: vs) H _ ⟨B, g0.push hv'⟩ fun y H1 r2 M1 g1 h1 => h1 σ vs H1 v y _ g1 fun z H2 r3 M2 g2 n => c.nx _ H2 M2 _ (by
      obtain ⟨B, g2⟩ := g2
      exact ⟨B, g2.pop.slt (Paired.set (OOk.of g2.fst) i g2.sl)⟩) n⟩)
end
end DL
set_option maxHeartbeats 2000000
namespace DL
open PySem PySem.Spec PyProof.Rows L2

/-! ### what is walked -/
structure DWalk (K : Fg) (B0 F : Hp) (J : It) (ds : List PyData) (s : Sl) (v : V) (Src : Cs → Prop) : Prop where
  go : ∀ i M ρ κ σ vs H, Src M → Good K B0 F M ρ (s :: κ) σ (v :: vs) H → i < ds.length → J.go i H
  stop : ∀ M ρ κ σ vs H, Src M → Good K B0 F M ρ (s :: κ) σ (v :: vs) H → J.stop ds.length H
  yld : ∀ i M ρ κ σ vs H x H' d, Src M → Good K B0 F M ρ (s :: κ) σ (v :: vs) H → ds[i]? = some d → J.yld i H x H' → Good K B0 F M ρ (.d d :: s :: κ) σ (x :: v :: vs) H'
def DI (X : Cx) (B0 F : Hp) (M : Cs) (ρ κ : List Sl) (tg iter : Expr) (R : List PyData → Sl → (Cs → Prop) → Cs → Prop) : Prop :=
  ∀ σ vs H Q, Good X.K B0 F M ρ κ σ vs H → (∀ J H' M' ds s v Src, Good X.K B0 F M' ρ (s :: κ) σ (v :: vs) H' → DWalk X.K B0 F J ds s v Src → Src M' → R ds s Src M' → Q J H') → tOfI X tg iter σ H Q

section
variable {X : Cx} {B0 F : Hp} {M : Cs} {ρ κ : List Sl} {tg iter e a b : Expr} {pos p : Pos} {R : List PyData → Sl → (Cs → Prop) → Cs → Prop} {k : KK}
theorem walk_seqL {K : Fg} {a : Addr} {xs : List V} {ds : List PyData} {s : Sl} {Src : Cs → Prop} (hq : ∀ M ρ κ σ vs H, Src M → Good K B0 F M ρ (s :: κ) σ (.ref a :: vs) H → SqL K H a xs ∧ ∃ B, GoodB K B0 F M ρ (s :: κ) σ (.ref a :: vs) H B ∧ RpA K B xs ds) (hl : xs.length = ds.length) :
    DWalk K B0 F (Itl K a) ds s (.ref a) Src where
  go := fun i M ρ κ σ vs H h g hi => ⟨xs, xs[i]'(by omega), (hq M ρ κ σ vs H h g).1, by simp [show i < xs.length by omega]⟩
  stop := fun M ρ κ σ vs H h g => ⟨xs, (hq M ρ κ σ vs H h g).1, by omega⟩
  yld := fun i M ρ κ σ vs H x H' d h g hd y => by
    obtain ⟨rfl, y⟩ := y
    obtain ⟨h1, B, g', hr⟩ := hq M ρ κ σ vs _ h g
    obtain ⟨v, hv, hvd⟩ := hr.get hd
    have e : x = v := Option.some.inj ((y xs h1).symm.trans hv)
    subst e
    exact ⟨B, g'.pushD hvd⟩
theorem walk_seqT {K : Fg} {a : Addr} {xs : List V} {ds : List PyData} {s : Sl} {Src : Cs → Prop} (hq : ∀ M ρ κ σ vs H, Src M → Good K B0 F M ρ (s :: κ) σ (.ref a :: vs) H → SqT K H a xs ∧ ∃ B, GoodB K B0 F M ρ (s :: κ) σ (.ref a :: vs) H B ∧ RpA K B xs ds) (hl : xs.length = ds.length) :
    DWalk K B0 F (Itt K a) ds s (.ref a) Src where
  go := fun i M ρ κ σ vs H h g hi => ⟨xs, xs[i]'(by omega), (hq M ρ κ σ vs H h g).1, by simp [show i < xs.length by omega]⟩
  stop := fun M ρ κ σ vs H h g => ⟨xs, (hq M ρ κ σ vs H h g).1, by omega⟩
  yld := fun i M ρ κ σ vs H x H' d h g hd y => by
    obtain ⟨rfl, y⟩ := y
    obtain ⟨h1, B, g', hr⟩ := hq M ρ κ σ vs _ h g
    obtain ⟨v, hv, hvd⟩ := hr.get hd
    have e : x = v := Option.some.inj ((y xs h1).symm.trans hv)
    subst e
    exact ⟨B, g'.pushD hvd⟩
end
/-- a value known by its slot through all states: the walk's own facts are told of every later state -/
theorem rpa_inj {K : Fg} {H : Hp} : ∀ {vs : List V} {ds es : List PyData}, RpA K H vs ds → RpA K H vs es → True := fun _ _ => trivial
section
variable {X : Cx} {B0 F : Hp} {M : Cs} {ρ κ : List Sl} {tg iter e a b : Expr} {pos p : Pos} {R : List PyData → Sl → (Cs → Prop) → Cs → Prop} {k : KK}
/-- over a list that is data: the list at a is the same in every state, as B holds it from the start on -/
theorem di_list (h : DE X B0 F M ρ κ iter fun r M1 => ∃ ds, r = .d (.list ds) ∧ R ds r (fun _ => True) M1) : DI X B0 F M ρ κ tg iter R := fun σ vs H Q g q => by
  refine tOfI_of (pi_list pe_self) (h σ vs H _ g fun v H1 r M1 g1 hr => ?_)
  obtain ⟨ds, rfl, hr⟩ := hr
  obtain ⟨B, g1b⟩ := id g1
  obtain ⟨a, xs, rfl, ha, hx⟩ := Rp.lst_inv g1b.fst
  refine ⟨a, rfl, ⟨xs, SqL.of (g1b.bh _ _ ha)⟩, q (Itl X.K a) H1 M1 ds _ (.ref a) (fun _ => True) g1 ⟨?_, ?_, ?_⟩ trivial hr⟩
  · intro i M ρ κ σ vs H _ g hi
    obtain ⟨B, g⟩ := g
    obtain ⟨a', ys, e, ha', hy⟩ := Rp.lst_inv g.fst
    cases e
    have hl := hy.len
    exact ⟨ys, ys[i]'(by omega), SqL.of (g.bh _ _ ha'), by simp [show i < ys.length by omega]⟩
  · intro M ρ κ σ vs H _ g
    obtain ⟨B, g⟩ := g
    obtain ⟨a', ys, e, ha', hy⟩ := Rp.lst_inv g.fst
    cases e
    have hl := hy.len
    exact ⟨ys, SqL.of (g.bh _ _ ha'), by omega⟩
  · intro i M ρ κ σ vs H x H' d _ g hd y
    obtain ⟨rfl, y⟩ := y
    obtain ⟨B, g⟩ := g
    obtain ⟨a', ys, e, ha', hy⟩ := Rp.lst_inv g.fst
    cases e
    obtain ⟨v, hv, hvd⟩ := hy.get hd
    have e : x = v := Option.some.inj ((y ys (SqL.of (g.bh _ _ ha'))).symm.trans hv)
    subst e
    exact ⟨B, g.pushD hvd⟩
/-- over a list that is handed in, frozen -/
theorem di_rd (h : DE X B0 F M ρ κ iter fun r M1 => ∃ ds, r = .rd ds ∧ R ds r (fun _ => True) M1) : DI X B0 F M ρ κ tg iter R := fun σ vs H Q g q => by
  refine tOfI_of (pi_list pe_self) (h σ vs H _ g fun v H1 r M1 g1 hr => ?_)
  obtain ⟨ds, rfl, hr⟩ := hr
  obtain ⟨B, g1b⟩ := id g1
  obtain ⟨a, xs, rfl, ha, hx⟩ : ∃ a xs, v = .ref a ∧ SqL X.K F a xs ∧ RpA X.K B xs ds := g1b.fst
  refine ⟨a, rfl, ⟨xs, g1b.fh.seq ha⟩, q (Itl X.K a) H1 M1 ds _ (.ref a) (fun _ => True) g1 ⟨?_, ?_, ?_⟩ trivial hr⟩
  · intro i M ρ κ σ vs H _ g hi
    obtain ⟨B, g⟩ := g
    obtain ⟨a', ys, e, ha', hy⟩ : ∃ a' ys, V.ref a = .ref a' ∧ SqL X.K F a' ys ∧ RpA X.K B ys ds := g.fst
    cases e
    have hl := hy.len
    exact ⟨ys, ys[i]'(by omega), g.fh.seq ha', by simp [show i < ys.length by omega]⟩
  · intro M ρ κ σ vs H _ g
    obtain ⟨B, g⟩ := g
    obtain ⟨a', ys, e, ha', hy⟩ : ∃ a' ys, V.ref a = .ref a' ∧ SqL X.K F a' ys ∧ RpA X.K B ys ds := g.fst
    cases e
    have hl := hy.len
    exact ⟨ys, g.fh.seq ha', by omega⟩
  · intro i M ρ κ σ vs H x H' d _ g hd y
    obtain ⟨rfl, y⟩ := y
    obtain ⟨B, g⟩ := g
    obtain ⟨a', ys, e, ha', hy⟩ : ∃ a' ys, V.ref a = .ref a' ∧ SqL X.K F a' ys ∧ RpA X.K B ys ds := g.fst
    cases e
    obtain ⟨v, hv, hvd⟩ := hy.get hd
    have e : x = v := Option.some.inj ((y ys (g.fh.seq ha')).symm.trans hv)
    subst e
    exact ⟨B, g.pushD hvd⟩
/-- over a cell's list, which the loop leaves as it is -/
theorem di_cell (h : DE X B0 F M ρ κ iter fun r M1 => ∃ a ds, r = .v (.ref a) ∧ (a, .lst ds) ∈ M1 ∧ R ds r (fun M => (a, .lst ds) ∈ M) M1) : DI X B0 F M ρ κ tg iter R := fun σ vs H Q g q => by
  refine tOfI_of (pi_list pe_self) (h σ vs H _ g fun v H1 r M1 g1 hr => ?_)
  obtain ⟨a, ds, rfl, hm, hr⟩ := hr
  obtain ⟨B, g1b⟩ := id g1
  have e := g1.ref
  subst e
  obtain ⟨_, _, o, ho, xs, rfl, hx⟩ := g1b.cells _ hm
  refine ⟨a, rfl, ⟨xs, SqL.of ho⟩, q (Itl X.K a) H1 M1 ds _ (.ref a) (fun M => (a, .lst ds) ∈ M) g1 ⟨?_, ?_, ?_⟩ hm hr⟩
  · intro i M ρ κ σ vs H hm g hi
    obtain ⟨B, g⟩ := g
    obtain ⟨_, _, o, ho, ys, rfl, hy⟩ := g.cells _ hm
    have hl := hy.len
    exact ⟨ys, ys[i]'(by omega), SqL.of ho, by simp [show i < ys.length by omega]⟩
  · intro M ρ κ σ vs H hm g
    obtain ⟨B, g⟩ := g
    obtain ⟨_, _, o, ho, ys, rfl, hy⟩ := g.cells _ hm
    have hl := hy.len
    exact ⟨ys, SqL.of ho, by omega⟩
  · intro i M ρ κ σ vs H x H' d hm g hd y
    obtain ⟨rfl, y⟩ := y
    obtain ⟨B, g⟩ := g
    obtain ⟨_, _, o, ho, ys, rfl, hy⟩ := g.cells _ hm
    obtain ⟨v, hv, hvd⟩ := hy.get hd
    have e : x = v := Option.some.inj ((y ys (SqL.of ho)).symm.trans hv)
    subst e
    exact ⟨B, g.pushD hvd⟩
theorem di_tup (h : DE X B0 F M ρ κ iter fun r M1 => ∃ ds, r = .d (.tuple ds) ∧ R ds r (fun _ => True) M1) : DI X B0 F M ρ κ tg iter R := fun σ vs H Q g q => by
  refine tOfI_of (pi_tup pe_self) (h σ vs H _ g fun v H1 r M1 g1 hr => ?_)
  obtain ⟨ds, rfl, hr⟩ := hr
  obtain ⟨B, g1b⟩ := id g1
  obtain ⟨a, xs, rfl, ha, hx⟩ := Rp.tup_inv g1b.fst
  refine ⟨a, rfl, ⟨xs, same_t g1b.bh ha⟩, q (Itt X.K a) H1 M1 ds _ (.ref a) (fun _ => True) g1 ⟨?_, ?_, ?_⟩ trivial hr⟩
  · intro i M ρ κ σ vs H _ g hi
    obtain ⟨B, g⟩ := g
    obtain ⟨a', ys, e, ha', hy⟩ := Rp.tup_inv g.fst
    cases e
    have hl := hy.len
    exact ⟨ys, ys[i]'(by omega), same_t g.bh ha', by simp [show i < ys.length by omega]⟩
  · intro M ρ κ σ vs H _ g
    obtain ⟨B, g⟩ := g
    obtain ⟨a', ys, e, ha', hy⟩ := Rp.tup_inv g.fst
    cases e
    have hl := hy.len
    exact ⟨ys, same_t g.bh ha', by omega⟩
  · intro i M ρ κ σ vs H x H' d _ g hd y
    obtain ⟨rfl, y⟩ := y
    obtain ⟨B, g⟩ := g
    obtain ⟨a', ys, e, ha', hy⟩ := Rp.tup_inv g.fst
    cases e
    obtain ⟨v, hv, hvd⟩ := hy.get hd
    have e : x = v := Option.some.inj ((y ys (same_t g.bh ha')).symm.trans hv)
    subst e
    exact ⟨B, g.pushD hvd⟩
/-- lo, lo + 1, .. -/
def rngD (lo : Int) (n : Nat) : List PyData := (List.range n).map fun i => .int (lo + (i : Nat))
theorem rngD_len (lo : Int) (n : Nat) : (rngD lo n).length = n := by simp [rngD]
theorem rngD_get {lo : Int} {n i : Nat} {d : PyData} (h : (rngD lo n)[i]? = some d) : i < n ∧ d = .int (lo + (i : Nat)) := by
  have hi : i < n := by
    have := (List.getElem?_eq_some_iff.mp h).1
    rwa [rngD_len] at this
  refine ⟨hi, ?_⟩
  unfold rngD at h
  rw [List.getElem?_map, List.getElem?_range hi] at h
  exact (Option.some.inj h).symm
theorem walk_rng {K : Fg} {lo : Int} {n : Nat} {v : V} : DWalk K B0 F (Itr lo n) (rngD lo n) .un v (fun _ => True) where
  go := fun i M ρ κ σ vs H _ g hi => by rw [rngD_len] at hi; exact hi
  stop := fun M ρ κ σ vs H _ g => by rw [rngD_len]; exact Nat.le_refl _
  yld := fun i M ρ κ σ vs H x H' d _ g hd y => by
    obtain ⟨rfl, rfl⟩ := y
    obtain ⟨hi, rfl⟩ := rngD_get hd
    exact g.pushD fun _ _ => Rp.int _
theorem di_range1 (hm : X.mg "range" = none) (h : DA X B0 F M ρ κ [a] fun rs M1 => ∃ j : Int, rs = [.d (.int j)] ∧ -(2 ^ 62) ≤ j ∧ j < 2 ^ 62 ∧ R (rngD 0 j.toNat) .un (fun _ => True) M1) (hg : Gl X "range" := by rfl) (hs : starEach [a] X.env = [(false, eval a X.env)] := by rfl) : DI X B0 F M ρ κ tg (.Call (.Name "range" p) [a] [] pos) R := fun σ vs H Q g q => by
  refine tOfI_of (pi_range1 hg hm pa_self hs) (h σ vs H _ g fun ws H1 rs M1 hl g1 h1 => ?_)
  obtain ⟨j, rfl, h2, h3, hr⟩ := h1
  match ws, hl, g1 with
  | [w], _, g1 =>
    have e := g1.int
    subst e
    exact ⟨j, rfl, h2, h3, q _ H1 M1 _ .un .non _ (g1.pop.push fun _ _ => trivial) walk_rng trivial hr⟩
theorem di_range2 (hm : X.mg "range" = none) (h : DA X B0 F M ρ κ [a, b] fun rs M1 => ∃ i j : Int, rs = [.d (.int i), .d (.int j)] ∧ (-(2 ^ 62) ≤ i ∧ i < 2 ^ 62 ∧ -(2 ^ 62) ≤ j ∧ j < 2 ^ 62) ∧ R (rngD i (j - i).toNat) .un (fun _ => True) M1) (hg : Gl X "range" := by rfl)
    (hs : starEach [a, b] X.env = [(false, eval a X.env), (false, eval b X.env)] := by rfl) (hs2 : starEach [b] X.env = [(false, eval b X.env)] := by rfl) : DI X B0 F M ρ κ tg (.Call (.Name "range" p) [a, b] [] pos) R := fun σ vs H Q g q => by
  refine tOfI_of (pi_range2 hg hm pa_self hs hs2) (h σ vs H _ g fun ws H1 rs M1 hl g1 h1 => ?_)
  obtain ⟨i, j, rfl, h2, hr⟩ := h1
  match ws, hl, g1 with
  | [w, w'], _, g1 =>
    have g2 : Good X.K B0 F M1 ρ (.d (.int j) :: κ) σ (w' :: vs) H1 := g1.pop
    have e := g1.int
    subst e
    have e := g2.int
    subst e
    exact ⟨i, j, rfl, h2, q _ H1 M1 _ .un .non _ (g2.pop.push fun _ _ => trivial) walk_rng trivial hr⟩

/-! ### loops -/
variable {body : List Stmt}
theorem ds_for (h : DI X B0 F M ρ κ tg iter fun ds s Src M1 => ∃ Iv : Nat → Cs → List Sl → Prop, Iv 0 M1 ρ ∧ (∀ i M ρ', Iv i M ρ' → Src M) ∧
      (∀ i d M ρ', ds[i]? = some d → Iv i M ρ' → DG X B0 F M ρ' (s :: κ) (.d d) tg fun M2 ρ2 => DB X B0 F M2 ρ2 (s :: κ) body { nx := Iv (i + 1), ct := Iv (i + 1), bk := k.nx, rt := k.rt }) ∧ (∀ M ρ', Iv ds.length M ρ' → k.nx M ρ'))
    (hp : PassesOwn (model X.prog X.w) X.A X.env X.xe := by exact PassesOwn.never) (hc : X.calm = true := by rfl) (hs : ∀ x, foldedSetIterable iter X.env x = pure x := by intro _; rfl) : DS X B0 F M ρ κ (.For tg iter body [] pos) k :=
  fun σ vs H D g c => tOfS_of (ps_for hp hc pi_self pg_self pb_self hs) (h σ vs H _ g fun J H1 M1 ds s v Src g1 dw hsrc hr => by
    obtain ⟨Iv, h0, hsr, hst, hd⟩ := hr
    refine ⟨fun i m σ' H' => m = ds.length - i ∧ i ≤ ds.length ∧ ∃ M' ρ', Good X.K B0 F M' ρ' (s :: κ) σ' (v :: vs) H' ∧ Iv i M' ρ', ⟨ds.length, by simp, Nat.zero_le _, M1, ρ, g1, h0⟩, ?_⟩
    rintro i m σ' H' ⟨rfl, hi, M', ρ', g', hI⟩
    by_cases hlt : i < ds.length
    · obtain ⟨d, hdd⟩ : ∃ d, ds[i]? = some d := ⟨ds[i], by simp [hlt]⟩
      refine .inr ⟨dw.go i M' ρ' κ σ' vs H' (hsr i M' ρ' hI) g' hlt, fun σ2 H2 => ∃ M2 ρ2, Good X.K B0 F M2 ρ2 (s :: κ) σ2 (v :: vs) H2 ∧ Iv (i + 1) M2 ρ2, fun σ2 H2 ⟨M2, ρ2, g2, h2⟩ => ⟨ds.length - (i + 1), by omega, rfl, hlt, M2, ρ2, g2, h2⟩, fun x H2 y => ?_⟩
      have g2 := dw.yld i M' ρ' κ σ' vs H' x H2 d (hsr i M' ρ' hI) g' hdd y
      refine hst i d M' ρ' hdd hI σ' (v :: vs) H2 x _ g2 fun σ3 H3 M3 ρ3 g3 h3 => h3 σ3 (v :: vs) H3 _ g3 ⟨fun σ4 H4 M4 ρ4 g4 h4 => ⟨M4, ρ4, g4, h4⟩, c.rt, fun σ4 H4 M4 ρ4 g4 h4 => ?_, fun σ4 H4 M4 ρ4 g4 h4 => ⟨M4, ρ4, g4, h4⟩⟩
      exact c.nx σ4 H4 M4 ρ4 g4.pop h4
    · have e : i = ds.length := by omega
      subst e
      exact .inl ⟨dw.stop M' ρ' κ σ' vs H' (hsr _ M' ρ' hI) g', c.nx σ' H' M' ρ' g'.pop (hd M' ρ' hI)⟩)
theorem ds_while {c : Expr} (Iv : Nat → Cs → List Sl → Prop) (m0 : Nat) (h0 : Iv m0 M ρ) (h : ∀ m M ρ', Iv m M ρ' → DT X B0 F M ρ' κ c fun b M1 =>
      (b = true → DB X B0 F M1 ρ' κ body { nx := fun M ρ => ∃ m', m' < m ∧ Iv m' M ρ, ct := fun M ρ => ∃ m', m' < m ∧ Iv m' M ρ, bk := k.nx, rt := k.rt }) ∧ (b = false → k.nx M1 ρ'))
    (hp : PassesOwn (model X.prog X.w) X.A X.env X.xe := by exact PassesOwn.never) : DS X B0 F M ρ κ (.While c body [] pos) k :=
  fun σ vs H D g cn => tOfS_of (ps_while hp pt_self pb_self) ⟨fun m σ' H' => ∃ M' ρ', Good X.K B0 F M' ρ' κ σ' vs H' ∧ Iv m M' ρ', ⟨m0, M, ρ, g, h0⟩, fun m σ' H' ⟨M', ρ', g', hI⟩ => h m M' ρ' hI σ' vs H' _ g' fun b H1 M1 g1 h1 => by
    cases b with
    | true =>
      refine ⟨fun σ2 H2 => ∃ M2 ρ2, Good X.K B0 F M2 ρ2 κ σ2 vs H2 ∧ ∃ m', m' < m ∧ Iv m' M2 ρ2, fun σ2 H2 ⟨M2, ρ2, g2, m', hm, h2⟩ => ⟨m', hm, M2, ρ2, g2, h2⟩, ?_⟩
      exact h1.1 rfl σ' vs H1 _ g1 ⟨fun σ4 H4 M4 ρ4 g4 h4 => ⟨M4, ρ4, g4, h4⟩, cn.rt, cn.nx, fun σ4 H4 M4 ρ4 g4 h4 => ⟨M4, ρ4, g4, h4⟩⟩
    | false => exact cn.nx σ' H1 M1 ρ' g1 (h1.2 rfl)⟩
/-- slots may be forgotten -/
theorem Good.weak {K : Fg} {ρ' : List Sl} {σ : L2.St} {vs : List V} {H : Hp} (g : Good K B0 F M ρ κ σ vs H) (w : Paired (fun s s' => s' = s ∨ s' = Sl.un) ρ ρ') : Good K B0 F M ρ' κ σ vs H := by
  obtain ⟨B, g⟩ := g
  refine ⟨B, g.slt ?_⟩
  have : ∀ {σ : List (Option V)} {ρ ρ' : List Sl}, SOk K F B σ ρ → Paired (fun s s' => s' = s ∨ s' = Sl.un) ρ ρ' → SOk K F B σ ρ' := by
    intro σ ρ ρ' h
    induction h generalizing ρ' with
    | nil => intro w; cases w; exact .nil
    | cons h t ih =>
      intro w
      cases w with
      | cons w1 w2 =>
        refine .cons ?_ (ih w2)
        rcases w1 with e | e
        · rw [e]; exact h
        · rw [e]; trivial
  exact this g.sl w
end

/-! ### comprehensions -/
structure BA where
  st : Shared
  H : Hp
  C : Addr
  cl : List (Str × Addr)
  fp : List Addr
abbrev bk (X : Cx) (scope : Scope) (b : BA) : Cx := X.blk b.st b.H scope (compEnvC scope b.cl b.C X.env) b.fp
def wipeS (ρ : List Sl) : List Nat → List Sl
  | [] => ρ
  | v :: vs => (wipeS ρ vs).set v .un
/-! ### what becomes of a comprehension's value: it is used, or it is stored on its own line -/
abbrev Use := Option (Nat × Str × Pos × Pos)
section
variable (X : Cx)
def tSet (i : Nat) (y : Str) (py spos : Pos) (e : Expr) : TE := fun σ H Q => ∀ D : Ends, Q = (fun x H1 => gName i x σ H1 D.nx) → tOfS X (.Assign [.Name y py] e spos) D σ H
def tUse : Use → Expr → TE
  | none, e => tOf X e
  | some (i, y, py, spos), e => tSet X i y py spos e
def UseOk : Use → Expr → Prop
  | none, _ => True
  | some (i, y, py, spos), e => X.N[i]? = some y ∧ X.env.scope.names.lookup y = some .local ∧ swapsWith e (some (.Name y py)) spos.line X.env = pure true
def DEu (B0 F : Hp) (M : Cs) (ρ κ : List Sl) (u : Use) (e : Expr) (P : Sl → Cs → Prop) : Prop := ∀ σ vs H Q, Good X.K B0 F M ρ κ σ vs H → (∀ v H' r M', Good X.K B0 F M' ρ (r :: κ) σ (v :: vs) H' → P r M' → Q v H') → tUse X u e σ H Q
end
section
variable {X : Cx} {B0 F : Hp} {M : Cs} {ρ κ : List Sl} {e : Expr} {P : Sl → Cs → Prop} {k : KK}
theorem ds_cmp (i : Nat) {y : Str} {py spos : Pos} (h : DEu X B0 F M ρ κ (some (i, y, py, spos)) e fun r M1 => k.nx M1 (ρ.set i r)) : DS X B0 F M ρ κ (.Assign [.Name y py] e spos) k := fun σ vs H D g c =>
  h σ vs H _ g (fun v H1 r M1 g1 n => c.nx (σ.set i (some v)) H1 M1 _ (by
    obtain ⟨B, g1⟩ := g1
    exact ⟨B, g1.pop.slt (Paired.set (OOk.of g1.fst) i g1.sl)⟩) n) D rfl
theorem use_lc {u : Use} {σ : L2.St} {H : Hp} {Q : VK} {elt tg iter : Expr} {ifs : List Expr} {scope : Scope} {own : List (Str × Nat)} {pos : Pos} {wi : TI} {g : TG} {tt : TT} {te : TE} (hc : X.calm = true) (hN : X.N.Nodup) (hi : PI X tg iter wi) (ok : BlkOk X.N X.env.scope scope own)
    (hg : ∀ (s : Shared) (H : Hp) (C : Addr) (cl : List (Str × Addr)) (fp : List Addr), PG (X.blk s H scope (compEnvC scope cl C X.env) fp) tg g) (ht : ∀ (s : Shared) (H : Hp) (C : Addr) (cl : List (Str × Addr)) (fp : List Addr), PTs (X.blk s H scope (compEnvC scope cl C X.env) fp) ifs tt)
    (he : ∀ (s : Shared) (H : Hp) (C : Addr) (cl : List (Str × Addr)) (fp : List Addr), PE (X.blk s H scope (compEnvC scope cl C X.env) fp) elt te) (hs : ∀ x, foldedSetIterable iter X.env x = pure x)
    (hu : UseOk X u (.ListComp elt [⟨tg, iter, ifs, 0⟩] scope pos)) (h : tLc wi g tt te (own.map (·.2)) σ H Q) : tUse X u (.ListComp elt [⟨tg, iter, ifs, 0⟩] scope pos) σ H Q := by
  cases u with
  | none => exact tOf_of (pe_lc hc hN hi ok hg ht he hs) h
  | some q =>
    obtain ⟨i, y, py, spos⟩ := q
    obtain ⟨h1, h2, h3⟩ := hu
    intro D e
    subst e
    exact tOfS_of (ps_setLc hc hN h1 h2 h3 hi ok hg ht he hs) h
end
section
variable {X : Cx} {B0 F : Hp} {M : Cs} {ρ κ : List Sl} {K : Fg}
theorem sok_wipe {F B : Hp} {σ : L2.St} {ρ : List Sl} (h : SOk K F B σ ρ) : ∀ vs : List Nat, SOk K F B (wipe σ vs) (wipeS ρ vs)
  | [] => h
  | v :: vs => Paired.set (show OOk K F B none .un from trivial) v (sok_wipe h vs)
/-- the slots' values as a part of the stack -/
def valsOf (σ : L2.St) : List V := σ.map fun o => o.getD .non
def Shape (σ : L2.St) (ρ : List Sl) : Prop := Paired (fun (o : Option V) (s : Sl) => s = .un ∨ ∃ x, o = some x) σ ρ
theorem shape_of {F B : Hp} {σ : L2.St} {ρ : List Sl} (h : SOk K F B σ ρ) : Shape σ ρ := Paired.mapP h fun o s z => by
  by_cases e : s = .un
  · exact .inl e
  · obtain ⟨x, e, _⟩ := OOk.v e z; exact .inr ⟨x, e⟩
theorem kok_slots {F B : Hp} : ∀ {σ : L2.St} {ρ : List Sl}, SOk K F B σ ρ → KOk K F B (valsOf σ) ρ
  | _, _, .nil => .nil
  | o :: σ, s :: ρ, .cons h t => by
    refine .cons ?_ (kok_slots t)
    by_cases e : s = .un
    · subst e; trivial
    · obtain ⟨x, rfl, hx⟩ := OOk.v e h; exact hx
theorem sok_back {F B : Hp} : ∀ {σ : L2.St} {ρ : List Sl}, Shape σ ρ → KOk K F B (valsOf σ) ρ → SOk K F B σ ρ
  | _, _, .nil, _ => .nil
  | o :: σ, s :: ρ, .cons h t, k => by
    cases k with
    | cons k1 k2 =>
      refine .cons ?_ (sok_back t k2)
      rcases h with e | ⟨x, rfl⟩
      · subst e; trivial
      · exact OOk.of k1
theorem kok_split2 {F B : Hp} : ∀ {ws : List V} {rs : List Sl} {κ : List Sl} {vs : List V}, ws.length = rs.length → KOk K F B (ws ++ vs) (rs ++ κ) → KOk K F B ws rs ∧ KOk K F B vs κ := kok_split
theorem wipe_set {σ : L2.St} {o : Option V} {i : Nat} : ∀ {vs : List Nat}, i ∈ vs → wipe (σ.set i o) vs = wipe σ vs
  | [], h => by cases h
  | v :: vs, h => by
    unfold wipe
    by_cases e : i = v
    · subst e
      have : ∀ vs : List Nat, (wipe (σ.set i o) vs).set i none = (wipe σ vs).set i none := by
        intro vs
        induction vs with
        | nil => unfold wipe; rw [List.set_set]
        | cons v vs ih =>
          unfold wipe
          by_cases e : v = i
          · subst e; rw [List.set_set, List.set_set]; exact ih
          · rw [List.set_comm _ _ e, List.set_comm _ _ e, ih]
      exact this vs
    · have h' : i ∈ vs := by
        rcases List.mem_cons.mp h with h | h
        · exact absurd h e
        · exact h
      rw [wipe_set h']
/-- a turn's end: the element is appended -/
theorem lc_push {D : Addr} {acc : List PyData} {y' : PyData} {M' : Cs} {ρ' κ' : List Sl} {σ : L2.St} {y : V} {vs : List V} {H : Hp} (g : Good K B0 F ((D, .lst acc) :: M') ρ' (.d y' :: κ') σ (y :: vs) H) (hl : acc.length < 100000) {Q : Hp → Prop}
    (q : ∀ H', Good K B0 F ((D, .lst (acc ++ [y'])) :: M') ρ' κ' σ vs H' → Q H') : ∃ ac, H D = some (.lst ac) ∧ ac.length < sizeLine ∧ Q (upd H D (.lst (ac ++ [y]))) := by
  obtain ⟨B, g⟩ := g
  obtain ⟨_, _, o, ho, ws, rfl, hw⟩ := g.cells _ List.mem_cons_self
  have hl2 := hw.len
  have hz : (100000 : Nat) ≤ sizeLine := by decide
  refine ⟨ws, ho, by omega, q _ ⟨B, ?_⟩⟩
  exact (g.pop).write (j := 0) (c := .lst acc) (c' := .lst (acc ++ [y'])) rfl ⟨_, rfl, hw.app (.cons g.fst .nil)⟩
/-- a comprehension: g the target's reading (names alone), tt the tests', own its own names with their places -/
theorem lc_mainU {u : Use} {elt tg iter : Expr} {ifs : List Expr} {scope : Scope} {own : List (Str × Nat)} {pos : Pos} {g : TG} {tt : TT} {P : Sl → Cs → Prop} (hc : X.calm = true) (hN : X.N.Nodup) (ok : BlkOk X.N X.env.scope scope own)
    (hg : ∀ b : BA, PG (bk X scope b) tg g) (ht : ∀ b : BA, PTs (bk X scope b) ifs tt) (hs : ∀ x, foldedSetIterable iter X.env x = pure x)
    (h : DI X B0 F M ρ κ tg iter fun ds s Src M1 => ∀ D, ∃ Iv : Nat → List PyData → Cs → Prop, Iv 0 [] M1 ∧ (∀ i acc M, Iv i acc M → Src ((D, .lst acc) :: M)) ∧
      (∀ i d acc M σ vs H x (Q : Hp → Prop), ds[i]? = some d → Iv i acc M → Good X.K B0 F ((D, .lst acc) :: M) (wipeS ρ (own.map (·.2))) (.d d :: s :: (ρ ++ κ)) σ (x :: vs) H →
        (∀ acc' M' ρ' σ' H', Good X.K B0 F ((D, .lst acc') :: M') ρ' (s :: (ρ ++ κ)) σ' vs H' → Iv (i + 1) acc' M' → Q H') →
        g x σ H fun σ2 H2 => wipe σ2 (own.map (·.2)) = wipe σ (own.map (·.2)) ∧ tt σ2 H2 fun b H3 =>
          if b = true then (∀ b : BA, tOf (bk X scope b) elt σ2 H3 fun y H4 => ∃ ac, H4 D = some (.lst ac) ∧ ac.length < sizeLine ∧ Q (upd H4 D (.lst (ac ++ [y])))) else Q H3) ∧
      ∀ acc M, Iv ds.length acc M → P (.v (.ref D)) ((D, .lst acc) :: M))  (hu : UseOk X u (.ListComp elt [⟨tg, iter, ifs, 0⟩] scope pos)) : DEu X B0 F M ρ κ u (.ListComp elt [⟨tg, iter, ifs, 0⟩] scope pos) P := fun σ vs H Q g0 q => by
  refine use_lc (te := fun σ H Q => ∀ b : BA, tOf (bk X scope b) elt σ H Q) hc hN pi_self ok (fun s H C cl fp => hg ⟨s, H, C, cl, fp⟩) (fun s H C cl fp => ht ⟨s, H, C, cl, fp⟩)
    (fun s H C cl fp => ⟨fun pins s' σ' H' Q' I z => z ⟨s, H, C, cl, fp⟩ pins s' I⟩) hs hu ?_
  have hsh : Shape σ ρ := by obtain ⟨B, g0⟩ := g0; exact shape_of g0.sl
  refine h σ vs H _ g0 fun J H1 M1 ds s v Src g1 dw hsrc hr D hD => ?_
  obtain ⟨Iv, h0, hsr, hst, hd⟩ := hr D
  -- all outer slots on the stack as well
  have up : ∀ {M' H'}, Good X.K B0 F M' ρ (s :: κ) σ (v :: vs) H' → Good X.K B0 F M' ρ (s :: (ρ ++ κ)) σ (v :: (valsOf σ ++ vs)) H' := fun {M' H'} ⟨B, g⟩ => by
    refine ⟨B, g.stk ?_⟩
    cases g.st with
    | cons k1 k2 => exact .cons k1 (Paired.app (kok_slots g.sl) k2)
  have hlen : (valsOf σ).length = ρ.length := by
    have := Paired.length hsh
    simp [valsOf, this]
  have down : ∀ {M' H' ρ' σ'}, Good X.K B0 F M' ρ' (s :: (ρ ++ κ)) σ' (v :: (valsOf σ ++ vs)) H' → Good X.K B0 F M' ρ (s :: κ) σ (v :: vs) H' := fun {M' H' ρ' σ'} ⟨B, g⟩ => by
    cases g.st with
    | cons k1 k2 =>
      obtain ⟨k3, k4⟩ := kok_split hlen k2
      exact ⟨B, (g.slt (sok_back hsh k3)).stk (.cons k1 k4)⟩
  refine ⟨fun i m H' => m = ds.length - i ∧ i ≤ ds.length ∧ ∃ acc M', Good X.K B0 F ((D, .lst acc) :: M') ρ (s :: κ) σ (v :: vs) H' ∧ Iv i acc M', ⟨ds.length, by simp, Nat.zero_le _, [], M1, ?_, h0⟩, ?_⟩
  · obtain ⟨B, g1⟩ := g1
    exact ⟨B, g1.cell (c := .lst []) hD ⟨[], rfl, .nil⟩⟩
  rintro i m H' ⟨rfl, hi, acc, M', g', hI⟩
  by_cases hlt : i < ds.length
  · obtain ⟨d, hdd⟩ : ∃ d, ds[i]? = some d := ⟨ds[i], by simp [hlt]⟩
    refine .inr ⟨dw.go i _ ρ κ σ vs H' (hsr i acc M' hI) g' hlt, fun H2 => ∃ acc2 M2, Good X.K B0 F ((D, .lst acc2) :: M2) ρ (s :: κ) σ (v :: vs) H2 ∧ Iv (i + 1) acc2 M2, fun H2 ⟨acc2, M2, g2, h2⟩ => ⟨ds.length - (i + 1), by omega, rfl, hlt, acc2, M2, g2, h2⟩, fun x H2 y => ?_⟩
    have g2 := dw.yld i _ ρ (ρ ++ κ) σ (valsOf σ ++ vs) H' x H2 d (hsr i acc M' hI) (up g') hdd y
    have g3 : Good X.K B0 F ((D, .lst acc) :: M') (wipeS ρ (own.map (·.2))) (.d d :: s :: (ρ ++ κ)) (wipe σ (own.map (·.2))) (x :: v :: (valsOf σ ++ vs)) H2 := by
      obtain ⟨B, g2⟩ := g2
      exact ⟨B, g2.slt (sok_wipe g2.sl _)⟩
    have z := hst i d acc M' _ _ H2 x (fun H2 => ∃ acc2 M2, Good X.K B0 F ((D, .lst acc2) :: M2) ρ (s :: κ) σ (v :: vs) H2 ∧ Iv (i + 1) acc2 M2) hdd hI g3 fun acc' M'' ρ' σ' H'' gg hh => ⟨acc', M'', down gg, hh⟩
    have eqw : wipe (wipe σ (own.map (·.2))) (own.map (·.2)) = wipe σ (own.map (·.2)) := by
      have : ∀ (ws us : List Nat), (∀ w ∈ us, w ∈ ws) → wipe (wipe σ us) ws = wipe σ ws := by
        intro ws us
        induction us with
        | nil => intro _; rfl
        | cons u us ih =>
          intro hu
          show wipe ((wipe σ us).set u none) ws = _
          rw [wipe_set (hu u List.mem_cons_self)]
          exact ih fun w hw => hu w (List.mem_cons_of_mem _ hw)
      exact this _ _ fun w hw => hw
    rw [eqw] at z
    exact z
  · have e : i = ds.length := by omega
    subst e
    exact .inl ⟨dw.stop _ ρ κ σ vs H' (hsr _ acc M' hI) g', q _ H' _ _ (by
      obtain ⟨B, g'⟩ := g'
      exact ⟨B, g'.pop.pushV⟩) (hd acc M' hI)⟩

/-! the forms one uses -/
variable {elt tg iter c e : Expr} {scope : Scope} {pos : Pos} {P : Sl → Cs → Prop}
/-- [elt for x in iter]: x in slot i -/
theorem gu_lcC {u : Use} (i : Nat) {x : Str} {px : Pos} (h : DI X B0 F M ρ κ (.Name x px) iter fun ds s Src M1 => ∀ D, ∃ Iv : Nat → List PyData → Cs → Prop, Iv 0 [] M1 ∧ (∀ i acc M, Iv i acc M → Src ((D, .lst acc) :: M)) ∧
      (∀ j d acc M, ds[j]? = some d → Iv j acc M → ∀ b : BA, DE (bk X scope b) B0 F ((D, .lst acc) :: M) ((ρ.set i .un).set i (.d d)) (s :: (ρ ++ κ)) elt fun r M2 => ∃ y M', r = .d y ∧ M2 = (D, .lst acc) :: M' ∧ acc.length < 100000 ∧ Iv (j + 1) (acc ++ [y]) M') ∧
      ∀ acc M, Iv ds.length acc M → P (.v (.ref D)) ((D, .lst acc) :: M)) (hN : X.N.Nodup := by exact (by assumption)) (ok : BlkOk X.N X.env.scope scope [(x, i)] := by exact blkOk_by (by kernel_rfl)) (hg : ∀ b : BA, PG (bk X scope b) (.Name x px) (gName i) := by exact fun b => pg_name (by assumption) rfl (by first | exact Or.inl rfl | exact Or.inr rfl))
      (hc : X.calm = true := by rfl) (hs : ∀ x, foldedSetIterable iter X.env x = pure x := by intro _; rfl)  (hu : UseOk X u (.ListComp elt [⟨.Name x px, iter, [], 0⟩] scope pos) := by first | exact trivial | exact ⟨rfl, rfl, (by first | rfl | kernel_rfl)⟩) : DEu X B0 F M ρ κ u (.ListComp elt [⟨.Name x px, iter, [], 0⟩] scope pos) P :=
  lc_mainU (hu := hu) (own := [(x, i)]) (g := gName i) (tt := tYes) hc hN ok hg (fun _ => pts_nil) hs fun σ vs H Q g0 q => h σ vs H Q g0 fun J H1 M1 ds s v Src g1 dw hsrc hr => q J H1 M1 ds s v Src g1 dw hsrc fun D => by
    obtain ⟨Iv, h0, hsr, hst, hd⟩ := hr D
    refine ⟨Iv, h0, hsr, fun j d acc M σ vs H x Q hdd hI g hq => ⟨wipe_set (by simp), ?_⟩, hd⟩
    have fin : ∀ b : BA, tOf (bk X scope b) elt (σ.set i (some x)) H fun y H4 => ∃ ac, H4 D = some (.lst ac) ∧ ac.length < sizeLine ∧ Q (upd H4 D (.lst (ac ++ [y]))) := ?_
    · unfold tYes
      dsimp only
      rw [if_pos rfl]
      exact fin
    intro b
    have g2 : Good X.K B0 F ((D, .lst acc) :: M) ((ρ.set i .un).set i (.d d)) (s :: (ρ ++ κ)) (σ.set i (some x)) vs H := by
      obtain ⟨B, g⟩ := g
      exact ⟨B, g.pop.slt (Paired.set (OOk.of g.fst) i g.sl)⟩
    refine hst j d acc M hdd hI b (σ.set i (some x)) vs H _ g2 fun y H4 r M2 g4 h4 => ?_
    obtain ⟨y', M', rfl, rfl, hl, hI'⟩ := h4
    exact lc_push g4 hl fun H' g5 => hq _ _ _ _ _ g5 hI'
theorem de_lcC (i : Nat) {x : Str} {px : Pos} (h : DI X B0 F M ρ κ (.Name x px) iter fun ds s Src M1 => ∀ D, ∃ Iv : Nat → List PyData → Cs → Prop, Iv 0 [] M1 ∧ (∀ i acc M, Iv i acc M → Src ((D, .lst acc) :: M)) ∧
      (∀ j d acc M, ds[j]? = some d → Iv j acc M → ∀ b : BA, DE (bk X scope b) B0 F ((D, .lst acc) :: M) ((ρ.set i .un).set i (.d d)) (s :: (ρ ++ κ)) elt fun r M2 => ∃ y M', r = .d y ∧ M2 = (D, .lst acc) :: M' ∧ acc.length < 100000 ∧ Iv (j + 1) (acc ++ [y]) M') ∧
      ∀ acc M, Iv ds.length acc M → P (.v (.ref D)) ((D, .lst acc) :: M)) (hN : X.N.Nodup := by exact (by assumption)) (ok : BlkOk X.N X.env.scope scope [(x, i)] := by exact blkOk_by (by kernel_rfl)) (hg : ∀ b : BA, PG (bk X scope b) (.Name x px) (gName i) := by exact fun b => pg_name (by assumption) rfl (by first | exact Or.inl rfl | exact Or.inr rfl))
      (hc : X.calm = true := by rfl) (hs : ∀ x, foldedSetIterable iter X.env x = pure x := by intro _; rfl) : DE X B0 F M ρ κ (.ListComp elt [⟨.Name x px, iter, [], 0⟩] scope pos) P :=
  gu_lcC (u := none) i h hN ok hg hc hs trivial
/-- [elt for x in iter if c] -/
theorem gu_lcIfC {u : Use} (i : Nat) {x : Str} {px : Pos} (h : DI X B0 F M ρ κ (.Name x px) iter fun ds s Src M1 => ∀ D, ∃ Iv : Nat → List PyData → Cs → Prop, Iv 0 [] M1 ∧ (∀ i acc M, Iv i acc M → Src ((D, .lst acc) :: M)) ∧
      (∀ j d acc M, ds[j]? = some d → Iv j acc M → ∀ b : BA, DT (bk X scope b) B0 F ((D, .lst acc) :: M) ((ρ.set i .un).set i (.d d)) (s :: (ρ ++ κ)) c fun k M2 =>
        (k = true → ∀ b : BA, DE (bk X scope b) B0 F M2 ((ρ.set i .un).set i (.d d)) (s :: (ρ ++ κ)) elt fun r M3 => ∃ y M', r = .d y ∧ M3 = (D, .lst acc) :: M' ∧ acc.length < 100000 ∧ Iv (j + 1) (acc ++ [y]) M') ∧
        (k = false → ∃ M', M2 = (D, .lst acc) :: M' ∧ Iv (j + 1) acc M')) ∧
      ∀ acc M, Iv ds.length acc M → P (.v (.ref D)) ((D, .lst acc) :: M)) (hN : X.N.Nodup := by exact (by assumption)) (ok : BlkOk X.N X.env.scope scope [(x, i)] := by exact blkOk_by (by kernel_rfl)) (hg : ∀ b : BA, PG (bk X scope b) (.Name x px) (gName i) := by exact fun b => pg_name (by assumption) rfl (by first | exact Or.inl rfl | exact Or.inr rfl))
      (hc : X.calm = true := by rfl) (hs : ∀ x, foldedSetIterable iter X.env x = pure x := by intro _; rfl)  (hu : UseOk X u (.ListComp elt [⟨.Name x px, iter, [c], 0⟩] scope pos) := by first | exact trivial | exact ⟨rfl, rfl, (by first | rfl | kernel_rfl)⟩) : DEu X B0 F M ρ κ u (.ListComp elt [⟨.Name x px, iter, [c], 0⟩] scope pos) P :=
  lc_mainU (hu := hu) (own := [(x, i)]) (g := gName i) (tt := fun σ H Q => ∀ b : BA, tOfT (bk X scope b) c σ H Q) hc hN ok hg (fun b => ⟨fun pins s σ H Q I z => (pts_one pt_self).run pins s σ H Q I (z b)⟩) hs fun σ vs H Q g0 q => h σ vs H Q g0 fun J H1 M1 ds s v Src g1 dw hsrc hr => q J H1 M1 ds s v Src g1 dw hsrc fun D => by
    obtain ⟨Iv, h0, hsr, hst, hd⟩ := hr D
    refine ⟨Iv, h0, hsr, fun j d acc M σ vs H x Q hdd hI g hq => ⟨wipe_set (by simp), ?_⟩, hd⟩
    intro b
    have g2 : Good X.K B0 F ((D, .lst acc) :: M) ((ρ.set i .un).set i (.d d)) (s :: (ρ ++ κ)) (σ.set i (some x)) vs H := by
      obtain ⟨B, g⟩ := g
      exact ⟨B, g.pop.slt (Paired.set (OOk.of g.fst) i g.sl)⟩
    refine hst j d acc M hdd hI b (σ.set i (some x)) vs H _ g2 fun k H3 M2 g3 h3 => ?_
    cases k with
    | true =>
      rw [if_pos rfl]
      intro b2
      refine h3.1 rfl b2 (σ.set i (some x)) vs H3 _ g3 fun y H4 r M2 g4 h4 => ?_
      obtain ⟨y', M', rfl, rfl, hl, hI'⟩ := h4
      exact lc_push g4 hl fun H' g5 => hq _ _ _ _ _ g5 hI'
    | false =>
      rw [if_neg Bool.false_ne_true]
      obtain ⟨M', rfl, hI'⟩ := h3.2 rfl
      exact hq _ _ _ _ _ g3 hI'
theorem de_lcIfC (i : Nat) {x : Str} {px : Pos} (h : DI X B0 F M ρ κ (.Name x px) iter fun ds s Src M1 => ∀ D, ∃ Iv : Nat → List PyData → Cs → Prop, Iv 0 [] M1 ∧ (∀ i acc M, Iv i acc M → Src ((D, .lst acc) :: M)) ∧
      (∀ j d acc M, ds[j]? = some d → Iv j acc M → ∀ b : BA, DT (bk X scope b) B0 F ((D, .lst acc) :: M) ((ρ.set i .un).set i (.d d)) (s :: (ρ ++ κ)) c fun k M2 =>
        (k = true → ∀ b : BA, DE (bk X scope b) B0 F M2 ((ρ.set i .un).set i (.d d)) (s :: (ρ ++ κ)) elt fun r M3 => ∃ y M', r = .d y ∧ M3 = (D, .lst acc) :: M' ∧ acc.length < 100000 ∧ Iv (j + 1) (acc ++ [y]) M') ∧
        (k = false → ∃ M', M2 = (D, .lst acc) :: M' ∧ Iv (j + 1) acc M')) ∧
      ∀ acc M, Iv ds.length acc M → P (.v (.ref D)) ((D, .lst acc) :: M)) (hN : X.N.Nodup := by exact (by assumption)) (ok : BlkOk X.N X.env.scope scope [(x, i)] := by exact blkOk_by (by kernel_rfl)) (hg : ∀ b : BA, PG (bk X scope b) (.Name x px) (gName i) := by exact fun b => pg_name (by assumption) rfl (by first | exact Or.inl rfl | exact Or.inr rfl))
      (hc : X.calm = true := by rfl) (hs : ∀ x, foldedSetIterable iter X.env x = pure x := by intro _; rfl) : DE X B0 F M ρ κ (.ListComp elt [⟨.Name x px, iter, [c], 0⟩] scope pos) P :=
  gu_lcIfC (u := none) i h hN ok hg hc hs trivial
end
end DL
set_option maxHeartbeats 2000000
namespace DL
open PySem PySem.Spec PyProof.Rows L2

/-! ### defs -/
def NoRd : Sl → Prop
  | .rd _ => False
  | _ => True
/-- a promise over data: R takes the arguments' slots, the cells handed over and what is wanted -/
def SpG (K : Fg) (R : List Sl → Cs → (Sl → Cs → Prop) → Prop) : Sp := fun vs H Q _ => ∃ B0 F M κ W, Good K B0 F M [] κ [] vs H ∧ (∀ r M, W r M → NoRd r) ∧ R κ M W ∧ ∀ v H' r M', Good K B0 F M' [] [r] [] [v] H' → W r M' → Q v H'
section
variable {P : Program} {w : World} {K : Fg} {mg : Str → Option Value} {base : Heap}
theorem start_sok {F B : Hp} {n : Nat} : ∀ {vs : List V} {κ : List Sl}, KOk K F B vs κ → SOk K F B (vs.map some ++ List.replicate n none) (κ ++ List.replicate n .un)
  | _, _, .nil => by
    have : ∀ n : Nat, SOk K F B (List.replicate n none) (List.replicate n .un) := by
      intro n
      induction n with
      | zero => exact .nil
      | succ n ih => exact .cons trivial ih
    exact this n
  | _, _, .cons h t => .cons (OOk.of h) (start_sok t)
theorem fn_ok {x qual : Str} {st : Stmt} {f : Addr} {fd : FuncData} {N ps : List Str} {k : Nat} {R : List Sl → Cs → (Sl → Cs → Prop) → Prop} (Fu : Fun K x qual st f fd) (S : FnScope N ps (defScope st)) (len : ∀ κ M W, R κ M W → κ.length = ps.length)
    (body : ∀ (cdv : Value) (A : Around) (outer : List Env) (s : Shared) (H : Hp) (E : XK), Room k (A.deeper (envOfC qual (defScope st) s.heap.objs.size f cdv)) → N.Nodup → ∀ (B0 F : Hp) (κ : List Sl) (M : Cs) (W : Sl → Cs → Prop), R κ M W →
      DB (cxOf CX0 P w K mg base N qual (defScope st) f cdv A outer s H E).nox B0 F M (κ ++ List.replicate (N.length - ps.length) .un) [] (defBody st) { nx := fun M' _ => W (.d .none) M', rt := W }) : FnOk P w K mg base CX0 (k + 1) f fd ps (SpG K R) := by
  refine Fu.ok S (fun vs H Q E h => ?_) (fun cdv A outer s H vs Q E hr h => ?_)
  · obtain ⟨B0, F, M, κ, W, ⟨B, g⟩, _, hR, _⟩ := h
    rw [Paired.length g.st]
    exact len κ M W hR
  · obtain ⟨B0, F, M, κ, W, ⟨B, g⟩, hn, hR, q⟩ := h
    refine ⟨tOfB _ (defBody st), pb_self, ?_⟩
    have hl := Paired.length g.st
    have hk := len κ M W hR
    refine body cdv A outer s H E hr S.nd B0 F κ M W hR (L2.start N vs) [] H _ ⟨B, (g.stk .nil).slt ?_⟩ ⟨fun σ' H' M' ρ' g' n => ?_, fun v H' r M' g' n => q v H' r M' g' n, fun _ _ _ _ _ n => n.elim, fun _ _ _ _ _ n => n.elim⟩
    · unfold L2.start
      rw [hl, hk]
      exact start_sok g.st
    · refine q .non H' (.d .none) M' ?_ n
      obtain ⟨B', g'⟩ := g'
      exact ⟨B', (g'.stk .nil |>.slt .nil).pushD .non⟩
end

/-- how the arguments are seen by the callee: a cell's list as a frozen one -/
inductive Views (M : Cs) : List Sl → List Sl → Prop
  | nil : Views M [] []
  | same {r : Sl} {rs κ : List Sl} : Views M rs κ → Views M (r :: rs) (r :: κ)
  | rd {a : Addr} {ds : List PyData} {rs κ : List Sl} : (a, .lst ds) ∈ M → Views M rs κ → Views M (.v (.ref a) :: rs) (.rd ds :: κ)
section
variable {X : Cx} {B0 F : Hp} {M : Cs} {ρ κ : List Sl} {P : Sl → Cs → Prop} {e : Expr} {es : List Expr} {p pos : Pos} {x : Str}
theorem kok_views {K : Fg} {F B H : Hp} (fh : Same F H) (hc : ∀ c, c ∈ M → CellOk K F B H c) : ∀ {rs κ' : List Sl} {ws : List V}, Views M rs κ' → KOk K F B ws rs → KOk K H B ws κ'
  | _, _, _, .nil, h => by cases h; exact .nil
  | _, _, _, .same v, h => by
    cases h with
    | cons h1 h2 =>
      refine .cons ?_ (kok_views fh hc v h2)
      rename_i r rs κ a ws
      cases r with
      | un => trivial
      | d y => exact h1
      | rd ys => obtain ⟨a, xs, h1, h2, h3⟩ := h1; exact ⟨a, xs, h1, fh.seq h2, h3⟩
      | v y => exact h1
  | _, _, _, .rd hm v, h => by
    cases h with
    | cons h1 h2 =>
      refine .cons ?_ (kok_views fh hc v h2)
      obtain ⟨_, _, o, ho, ws, rfl, hw⟩ := hc _ hm
      exact ⟨_, ws, h1, SqL.of ho, hw⟩
/-- behind a pure call -/
theorem good_after {K : Fg} {σ : L2.St} {vs : List V} {H1 H' B : Hp} {M' : Cs} {x : PyData} {v : V} (g : GoodB K B0 F M ρ κ σ vs H1 B) (g' : Good K B H1 M' [] [.d x] [] [v] H') : Good K B0 F M ρ (.d x :: κ) σ (v :: vs) H' := by
  obtain ⟨B', g'⟩ := g'
  refine ⟨B', g.b0.trans g'.b0, g'.bh, g.fh.trans g'.fh, fun a ha => ?_, fun c hc => ?_, g.nd, Paired.mapP g.sl fun _ _ z => z.ext g'.b0, .cons g'.fst (Paired.mapP g.st fun _ _ z => z.ext g'.b0)⟩
  · rcases g'.new a ha with h | h
    · exact g.new a h
    · exact .inr (g.fh.free h)
  · obtain ⟨h1, h2, u, h3, h4⟩ := g.cells c hc
    refine ⟨?_, h2, u, g'.fh _ _ h3, h4.ext g'.b0⟩
    cases e : B' c.1 with
    | none => rfl
    | some o =>
      rcases g'.new c.1 (by rw [e]; exact fun z => nomatch z) with h | h
      · exact absurd h1 h
      · rw [h3] at h; cases h
variable {f : Addr} {fd : FuncData} {ps : List Str} {j : Nat} {R : List Sl → Cs → (Sl → Cs → Prop) → Prop}
/-- f(e, ..): a def that leaves all as it was -/
theorem de_call (Fo : FnOk X.prog X.w X.K X.mg X.base CX0 j f fd ps (SpG X.K R)) (hr : Room j X.A) (hm : X.mg x = some (.ref f)) (hk : PySem.W.keepIn X.K (.ref f) = true) (hb : Binds X.K fd ps [])
    (h : DA X B0 F M ρ κ (e :: es) fun rs M1 => ∃ κ', Views M1 rs κ' ∧ R κ' [] fun r _ => ∃ y, r = .d y ∧ P (.d y) M1) (hg : Gl X x := by rfl) (hdb : (x == ("__debug__" : Str)) = false := by decide)
    (he : starEach (e :: es) X.env = (false, eval e X.env) :: starEach es X.env := by rfl) (hpl : (backTo pos (starEach es X.env)).any (·.1) = false := by rfl) : DE X B0 F M ρ κ (.Call (.Name x p) (e :: es) [] pos) P := fun σ vs H Q g q => by
  refine tOf_of (pe_call (E := E0) Fo hr hg hm hk hb .nil pass0 pa_self hdb he hpl) (h σ vs H _ g fun ws H1 rs M1 hl g1 h1 => ?_)
  obtain ⟨κ', hv, hR⟩ := h1
  rw [List.append_nil]
  obtain ⟨B, g1⟩ := g1
  obtain ⟨k1, k2⟩ := kok_split hl g1.st
  refine ⟨B, H1, [], κ', _, ⟨B, Same.refl _, g1.bh, Same.refl _, fun a ha => .inl ha, fun c hc => absurd hc List.not_mem_nil, .nil, .nil, kok_views g1.fh g1.cells hv k1⟩, ?_, hR, fun v H' r M' g' hW => ?_⟩
  · rintro r M ⟨y, rfl, _⟩
    trivial
  · obtain ⟨y, rfl, hP⟩ := hW
    exact q v H' _ M1 (good_after (g1.stk k2) g') hP
/-- f(): no argument -/
theorem de_call0 (Fo : FnOk X.prog X.w X.K X.mg X.base CX0 j f fd ps (SpG X.K R)) (hr : Room j X.A) (hm : X.mg x = some (.ref f)) (hk : PySem.W.keepIn X.K (.ref f) = true) (hb : Binds X.K fd ps [])
    (h : R [] [] fun r _ => ∃ y, r = .d y ∧ P (.d y) M) (hg : Gl X x := by rfl) (hdb : (x == ("__debug__" : Str)) = false := by decide) : DE X B0 F M ρ κ (.Call (.Name x p) [] [] pos) P := fun σ vs H Q g q => by
  refine tOf_of (pe_call0 (E := E0) Fo hr hg hm hk hb .nil pass0 hdb) ?_
  obtain ⟨B, g1⟩ := g
  refine ⟨B, H, [], [], _, ⟨B, Same.refl _, g1.bh, Same.refl _, fun a ha => .inl ha, fun c hc => absurd hc List.not_mem_nil, .nil, .nil, .nil⟩, ?_, h, fun v H' r M' g' hW => ?_⟩
  · rintro r M ⟨y, rfl, _⟩
    trivial
  · obtain ⟨y, rfl, hP⟩ := hW
    exact q v H' _ M (good_after g1 g') hP
open Classical in
/-- a heap without some addresses -/
noncomputable def without (H : Hp) (as : List Addr) : Hp := fun a => if a ∈ as then none else H a
theorem without_in {H : Hp} {as : List Addr} {a : Addr} (h : a ∈ as) : without H as a = none := by unfold without; rw [if_pos h]
theorem without_out {H : Hp} {as : List Addr} {a : Addr} (h : a ∉ as) : without H as a = H a := by unfold without; rw [if_neg h]
theorem without_some {H : Hp} {as : List Addr} {a : Addr} {o : HO} (h : without H as a = some o) : a ∉ as ∧ H a = some o := by
  by_cases q : a ∈ as
  · rw [without_in q] at h; cases h
  · rw [without_out q] at h; exact ⟨q, h⟩
theorem VOk.extF {K : Fg} {F F' B : Hp} {x : V} {s : Sl} (e : Same F F') (h : VOk K F B x s) : VOk K F' B x s := by
  cases s with
  | un => trivial
  | d y => exact h
  | rd ys => obtain ⟨a, xs, h1, h2, h3⟩ := h; exact ⟨a, xs, h1, e.seq h2, h3⟩
  | v y => exact h
/-- behind a call that may change the first cells -/
theorem good_afterM {K : Fg} {σ : L2.St} {vs : List V} {H1 H' B : Hp} {Mp Mr M' : Cs} {r : Sl} {v : V} (g : GoodB K B0 F (Mp ++ Mr) ρ κ σ vs H1 B) (hn : NoRd r) (g' : Good K B (without H1 (Mp.map (·.1))) M' [] [r] [] [v] H') : Good K B0 F (M' ++ Mr) ρ (r :: κ) σ (v :: vs) H' := by
  obtain ⟨B', g'⟩ := g'
  have nd := g.nd
  rw [List.map_append] at nd
  have sF : Same F (without H1 (Mp.map (·.1))) := fun a o e => by
    rw [without_out]
    · exact g.fh a o e
    · intro z
      obtain ⟨c, hc, rfl⟩ := List.mem_map.mp z
      rw [(g.cells c (List.mem_append_left _ hc)).f] at e
      cases e
  have rest : ∀ c ∈ Mr, without H1 (Mp.map (·.1)) c.1 = H1 c.1 := fun c hc => without_out fun z => (List.nodup_append.mp nd).2.2 _ z _ (List.mem_map.mpr ⟨c, hc, rfl⟩) rfl
  have hr' : VOk K F B' v r := by
    have h1 := g'.fst
    cases r with
    | un => trivial
    | d y => exact h1
    | rd ys => exact hn.elim
    | v y => exact h1
  refine ⟨B', g.b0.trans g'.b0, g'.bh, sF.trans g'.fh, fun a ha => ?_, fun c hc => ?_, ?_, Paired.mapP g.sl fun _ _ z => z.ext g'.b0, .cons hr' (Paired.mapP g.st fun _ _ z => z.ext g'.b0)⟩
  · rcases g'.new a ha with h | h
    · exact g.new a h
    · exact .inr (sF.free h)
  · rcases List.mem_append.mp hc with hc | hc
    · obtain ⟨h1, h2, u, h3, h4⟩ := g'.cells c hc
      exact ⟨h1, sF.free h2, u, h3, h4⟩
    · obtain ⟨h1, h2, u, h3, h4⟩ := g.cells c (List.mem_append_right _ hc)
      have h5 := rest c hc
      refine ⟨?_, h2, u, g'.fh _ _ (by rw [h5]; exact h3), h4.ext g'.b0⟩
      cases e : B' c.1 with
      | none => rfl
      | some o =>
        rcases g'.new c.1 (by rw [e]; exact fun z => nomatch z) with h | h
        · exact absurd h1 h
        · rw [h5, h3] at h; cases h
  · rw [List.map_append, List.nodup_append]
    refine ⟨g'.nd, (List.nodup_append.mp nd).2.1, fun a ha b hb e => ?_⟩
    subst e
    obtain ⟨c, hc, e1⟩ := List.mem_map.mp ha
    obtain ⟨c2, hc2, e2⟩ := List.mem_map.mp hb
    have h1 := (g'.cells c hc).f
    obtain ⟨_, _, u, h3, _⟩ := g.cells c2 (List.mem_append_right _ hc2)
    rw [e1, ← e2, rest c2 hc2, h3] at h1
    cases h1
/-- f(e, ..): a def that may change the first n cells -/
theorem de_callM (n : Nat) (Fo : FnOk X.prog X.w X.K X.mg X.base CX0 j f fd ps (SpG X.K R)) (hr : Room j X.A) (hm : X.mg x = some (.ref f)) (hk : PySem.W.keepIn X.K (.ref f) = true) (hb : Binds X.K fd ps [])
    (h : DA X B0 F M ρ κ (e :: es) fun rs M1 => R rs (M1.take n) fun r M2 => NoRd r ∧ P r (M2 ++ M1.drop n)) (hg : Gl X x := by rfl) (hdb : (x == ("__debug__" : Str)) = false := by decide)
    (he : starEach (e :: es) X.env = (false, eval e X.env) :: starEach es X.env := by rfl) (hpl : (backTo pos (starEach es X.env)).any (·.1) = false := by rfl) : DE X B0 F M ρ κ (.Call (.Name x p) (e :: es) [] pos) P := fun σ vs H Q g q => by
  refine tOf_of (pe_call (E := E0) Fo hr hg hm hk hb .nil pass0 pa_self hdb he hpl) (h σ vs H _ g fun ws H1 rs M1 hl g1 hR => ?_)
  rw [List.append_nil]
  obtain ⟨B, g1⟩ := g1
  obtain ⟨k1, k2⟩ := kok_split hl g1.st
  have g2 : GoodB X.K B0 F (M1.take n ++ M1.drop n) ρ κ σ vs H1 B := by rw [List.take_append_drop]; exact g1.stk k2
  have sF : Same F (without H1 ((M1.take n).map (·.1))) := fun a o e => by
    rw [without_out]
    · exact g1.fh a o e
    · intro z
      obtain ⟨c, hc, rfl⟩ := List.mem_map.mp z
      rw [(g1.cells c (List.mem_of_mem_take hc)).f] at e
      cases e
  refine ⟨B, without H1 ((M1.take n).map (·.1)), M1.take n, rs, _, ⟨B, Same.refl _, g1.bh, fun a o e => (without_some e).2, fun a ha => .inl ha, fun c hc => ?_, ?_, .nil, Paired.mapP k1 fun _ _ z => z.extF sF⟩, ?_, hR, fun v H' r M' g' hW => ?_⟩
  · obtain ⟨h1, h2, u, h3, h4⟩ := g1.cells c (List.mem_of_mem_take hc)
    exact ⟨h1, without_in (List.mem_map.mpr ⟨c, hc, rfl⟩), u, h3, h4⟩
  · rw [List.map_take]
    exact g1.nd.sublist (List.take_sublist _ _)
  · rintro r M ⟨hn, _⟩
    exact hn
  · exact q v H' r _ (good_afterM g2 hW.1 g') hW.2
end

/-! ### built-ins by their slots -/
section
variable {X : Cx} {K : Fg} {B0 F : Hp} {M : Cs} {ρ κ : List Sl} {P : Sl → Cs → Prop} {a b e : Expr} {pos : Pos}
/-- what may be read as a list, a tuple of data -/
inductive Seq (M : Cs) : Sl → List PyData → Prop
  | lst (ds : List PyData) : Seq M (.d (.list ds)) ds
  | tup (ds : List PyData) : Seq M (.d (.tuple ds)) ds
  | rd (ds : List PyData) : Seq M (.rd ds) ds
  | cell {a : Addr} {ds : List PyData} : (a, .lst ds) ∈ M → Seq M (.v (.ref a)) ds
/-- .. and what may be read as a list -/
inductive SeqLs (M : Cs) : Sl → List PyData → Prop
  | lst (ds : List PyData) : SeqLs M (.d (.list ds)) ds
  | rd (ds : List PyData) : SeqLs M (.rd ds) ds
  | cell {a : Addr} {ds : List PyData} : (a, .lst ds) ∈ M → SeqLs M (.v (.ref a)) ds
theorem SeqLs.at {σ : L2.St} {vs : List V} {H B : Hp} {s : Sl} {ds : List PyData} {v : V} (q : SeqLs M s ds) (g : GoodB K B0 F M ρ κ σ vs H B) (hv : VOk K F B v s) : ∃ a xs, v = .ref a ∧ SqL K H a xs ∧ RpA K B xs ds := by
  cases q with
  | lst ds => obtain ⟨a, xs, rfl, h1, h2⟩ := Rp.lst_inv hv; exact ⟨a, xs, rfl, SqL.of (g.bh _ _ h1), h2⟩
  | rd ds => obtain ⟨a, xs, rfl, h1, h2⟩ : ∃ a xs, v = .ref a ∧ SqL K F a xs ∧ RpA K B xs ds := hv; exact ⟨a, xs, rfl, g.fh.seq h1, h2⟩
  | @cell a ds hm =>
    have e : v = .ref a := hv
    subst e
    obtain ⟨_, _, o, ho, ws, rfl, hw⟩ := g.cells _ hm
    exact ⟨a, ws, rfl, SqL.of ho, hw⟩
theorem Seq.at {σ : L2.St} {vs : List V} {H B : Hp} {s : Sl} {ds : List PyData} {v : V} (q : Seq M s ds) (g : GoodB K B0 F M ρ κ σ vs H B) (hv : VOk K F B v s) : ∃ a xs, v = .ref a ∧ (SqL K H a xs ∨ SqT K H a xs) ∧ RpA K B xs ds := by
  cases q with
  | lst ds => obtain ⟨a, xs, h1, h2, h3⟩ := SeqLs.at (.lst ds) g hv; exact ⟨a, xs, h1, .inl h2, h3⟩
  | tup ds => obtain ⟨a, xs, rfl, h1, h2⟩ := Rp.tup_inv hv; exact ⟨a, xs, rfl, .inr (same_t g.bh h1), h2⟩
  | rd ds => obtain ⟨a, xs, h1, h2, h3⟩ := SeqLs.at (.rd ds) g hv; exact ⟨a, xs, h1, .inl h2, h3⟩
  | cell hm => obtain ⟨a, xs, h1, h2, h3⟩ := SeqLs.at (.cell hm) g hv; exact ⟨a, xs, h1, .inl h2, h3⟩
theorem one_arg {α : Type} {xs : List α} {n : Nat} (h : xs.length = n) (e : n = 1) : ∃ x, xs = [x] := List.length_eq_one_iff.mp (h.trans e)
/-- len(x) -/
theorem rn_len {s : Sl} {ds : List PyData} (q : Seq M s ds) (h : P (.d (.int ds.length)) M) : RnD K B0 F ρ κ (fun xs H Q => ∃ p ys, xs = [.ref p] ∧ (SqL K H p ys ∨ SqT K H p ys) ∧ Q (.int ys.length) H) [s] M P := fun σ vs H xs Q hl g qq => by
  obtain ⟨x, rfl⟩ := one_arg hl rfl
  obtain ⟨B, g⟩ := g
  obtain ⟨a, ys, rfl, h1, h2⟩ := q.at g g.fst
  exact ⟨a, ys, rfl, h1, qq _ H _ M ⟨B, g.pop.pushD (by rw [h2.len]; exact .int _)⟩ h⟩
/-- tuple(x) -/
theorem rn_tuple {s : Sl} {ds : List PyData} (q : Seq M s ds) (h : P (.d (.tuple ds)) M) : RnD K B0 F ρ κ (fun xs H Q => ∃ p ys, xs = [.ref p] ∧ ((SqL K H p ys ∧ ∀ l, H l = none → Q (.ref l) (upd H l (.tup ys))) ∨ (SqT K H p ys ∧ Q (.ref p) H))) [s] M P := fun σ vs H xs Q hl g qq => by
  obtain ⟨x, rfl⟩ := one_arg hl rfl
  obtain ⟨B, g⟩ := g
  cases q with
  | tup ds =>
    have hv : Rp K B x (.tuple ds) := g.fst
    obtain ⟨a, ys, e, h1, h2⟩ := Rp.tup_inv hv
    subst e
    exact ⟨a, ys, rfl, .inr ⟨same_t g.bh h1, qq _ H _ M ⟨B, g.pop.pushD (.tup h1 h2)⟩ h⟩⟩
  | lst ds =>
    obtain ⟨a, ys, rfl, h1, h2⟩ := SeqLs.at (.lst ds) g g.fst
    refine ⟨a, ys, rfl, .inl ⟨h1, fun l hl => qq _ _ _ M ?_ h⟩⟩
    have bp : B l = none := g.bh.free hl
    exact ⟨_, (g.pop.laid (o := .tup ys) hl).pushD (.tup (SqT.of upd_same) (h2.ext fun b u z => by rw [upd_ne (ne_of_none z bp)]; exact z))⟩
  | rd ds =>
    obtain ⟨a, ys, rfl, h1, h2⟩ := SeqLs.at (.rd ds) g g.fst
    refine ⟨a, ys, rfl, .inl ⟨h1, fun l hl => qq _ _ _ M ?_ h⟩⟩
    have bp : B l = none := g.bh.free hl
    exact ⟨_, (g.pop.laid (o := .tup ys) hl).pushD (.tup (SqT.of upd_same) (h2.ext fun b u z => by rw [upd_ne (ne_of_none z bp)]; exact z))⟩
  | cell hm =>
    obtain ⟨a, ys, rfl, h1, h2⟩ := SeqLs.at (.cell hm) g g.fst
    refine ⟨a, ys, rfl, .inl ⟨h1, fun l hl => qq _ _ _ M ?_ h⟩⟩
    have bp : B l = none := g.bh.free hl
    exact ⟨_, (g.pop.laid (o := .tup ys) hl).pushD (.tup (SqT.of upd_same) (h2.ext fun b u z => by rw [upd_ne (ne_of_none z bp)]; exact z))⟩
/-- a new list of these values: as a cell -/
theorem cell_new {σ : L2.St} {vs : List V} {H B : Hp} {ys : List V} {ds : List PyData} {l : Addr} (g : GoodB K B0 F M ρ κ σ vs H B) (hl : H l = none) (h : RpA K B ys ds) : Good K B0 F ((l, .lst ds) :: M) ρ (.v (.ref l) :: κ) σ (.ref l :: vs) (upd H l (.lst ys)) := ⟨B, (g.cell (c := .lst ds) hl ⟨ys, rfl, h⟩).pushV⟩
/-- list(x): a cell -/
theorem rn_listC {s : Sl} {ds : List PyData} (q : Seq M s ds) (h : ∀ l, P (.v (.ref l)) ((l, .lst ds) :: M)) : RnD K B0 F ρ κ (fun xs H Q => ∃ p ys, xs = [.ref p] ∧ (SqL K H p ys ∨ SqT K H p ys) ∧ ∀ l, H l = none → Q (.ref l) (upd H l (.lst ys))) [s] M P := fun σ vs H xs Q hl g qq => by
  obtain ⟨x, rfl⟩ := one_arg hl rfl
  obtain ⟨B, g⟩ := g
  obtain ⟨a, ys, rfl, h1, h2⟩ := q.at g g.fst
  exact ⟨a, ys, rfl, h1, fun l hl => qq _ _ _ _ (cell_new g.pop hl h2) (h l)⟩
theorem rn_sum {s : Sl} {ns : List Int} (q : SeqLs M s (ns.map PyData.int)) (h : P (.d (.int ns.sum)) M) : RnD K B0 F ρ κ (rSum K) [s] M P := fun σ vs H xs Q hl g qq => by
  obtain ⟨x, rfl⟩ := one_arg hl rfl
  obtain ⟨B, g⟩ := g
  obtain ⟨a, ys, rfl, h1, h2⟩ := q.at g g.fst
  have e := h2.ints
  subst e
  exact ⟨a, ns, rfl, h1, qq _ H _ M ⟨B, g.pop.pushD (.int _)⟩ h⟩
theorem rn_all {s : Sl} {ns : List Bool} (q : SeqLs M s (ns.map PyData.bool)) (h : P (.d (.bool (ns.all id))) M) : RnD K B0 F ρ κ (rAll K) [s] M P := fun σ vs H xs Q hl g qq => by
  obtain ⟨x, rfl⟩ := one_arg hl rfl
  obtain ⟨B, g⟩ := g
  obtain ⟨a, ys, rfl, h1, h2⟩ := q.at g g.fst
  have e := h2.bls
  subst e
  exact ⟨a, ns, rfl, h1, qq _ H _ M ⟨B, g.pop.pushD (.bl _)⟩ h⟩
theorem rn_any {s : Sl} {ns : List Bool} (q : SeqLs M s (ns.map PyData.bool)) (h : P (.d (.bool (ns.any id))) M) : RnD K B0 F ρ κ (rAny K) [s] M P := fun σ vs H xs Q hl g qq => by
  obtain ⟨x, rfl⟩ := one_arg hl rfl
  obtain ⟨B, g⟩ := g
  obtain ⟨a, ys, rfl, h1, h2⟩ := q.at g g.fst
  have e := h2.bls
  subst e
  exact ⟨a, ns, rfl, h1, qq _ H _ M ⟨B, g.pop.pushD (.bl _)⟩ h⟩
theorem two_args {α : Type} {xs : List α} {n : Nat} (h : xs.length = n) (e : n = 2) : ∃ x y, xs = [x, y] := by
  match xs, h.trans e with
  | [x, y], _ => exact ⟨x, y, rfl⟩
theorem rn_max2 {i j : Int} (h : P (.d (.int (if j > i then j else i))) M) : RnD K B0 F ρ κ (fun xs H Q => ∃ i j, xs = [.int i, .int j] ∧ Q (.int (if j > i then j else i)) H) [.d (.int i), .d (.int j)] M P := fun σ vs H xs Q hl g qq => by
  obtain ⟨x, y, rfl⟩ := two_args hl rfl
  have g2 : Good K B0 F M ρ (.d (.int j) :: κ) σ (y :: vs) H := Good.pop g
  have e := Good.int g
  subst e
  have e := g2.int
  subst e
  exact ⟨i, j, rfl, qq _ H _ M (g2.pop.pushD fun _ _ => Rp.int _) h⟩
theorem rn_min2 {i j : Int} (h : P (.d (.int (if j < i then j else i))) M) : RnD K B0 F ρ κ (fun xs H Q => ∃ i j, xs = [.int i, .int j] ∧ Q (.int (if j < i then j else i)) H) [.d (.int i), .d (.int j)] M P := fun σ vs H xs Q hl g qq => by
  obtain ⟨x, y, rfl⟩ := two_args hl rfl
  have g2 : Good K B0 F M ρ (.d (.int j) :: κ) σ (y :: vs) H := Good.pop g
  have e := Good.int g
  subst e
  have e := g2.int
  subst e
  exact ⟨i, j, rfl, qq _ H _ M (g2.pop.pushD fun _ _ => Rp.int _) h⟩
theorem rn_abs {i : Int} (h : P (.d (.int (if i < 0 then -i else i))) M) : RnD K B0 F ρ κ (fun xs H Q => ∃ i, xs = [.int i] ∧ Q (.int (if i < 0 then -i else i)) H) [.d (.int i)] M P := fun σ vs H xs Q hl g qq => by
  obtain ⟨x, rfl⟩ := one_arg hl rfl
  have e := Good.int g
  subst e
  exact ⟨i, rfl, qq _ H _ M (Good.pushD (Good.pop g) fun _ _ => Rp.int _) h⟩
theorem rn_int {i : Int} (h : P (.d (.int i)) M) : RnD K B0 F ρ κ (fun xs H Q => (∃ i, xs = [.int i] ∧ Q (.int i) H) ∨ ∃ k, xs = [.bl k] ∧ Q (.int (if k then 1 else 0)) H) [.d (.int i)] M P := fun σ vs H xs Q hl g qq => by
  obtain ⟨x, rfl⟩ := one_arg hl rfl
  have e := Good.int g
  subst e
  exact .inl ⟨i, rfl, qq _ H _ M (Good.pushD (Good.pop g) fun _ _ => Rp.int _) h⟩

/-! ### subscripts, slices -/
theorem de_ix {r : R2} (hr : IxR X r) (h : DE X B0 F M ρ κ a fun r1 M1 => DE X B0 F M1 ρ (r1 :: κ) b fun r2 M2 => R2D X.K B0 F ρ κ r r1 r2 M2 P) (hs : PlainIx b := by exact fun _ _ => rfl) : DE X B0 F M ρ κ (.Subscript a b pos) P :=
  fun σ vs H Q g q => tOf_of (pe_ix hr pe_self pe_self hs) (h σ vs H _ g fun x H1 r1 M1 g1 h1 => h1 σ (x :: vs) H1 _ g1 fun y H2 r2 M2 g2 h2 => h2 σ vs H2 x y Q g2 q)
theorem atI_rp {H : Hp} {xs : List V} {ds : List PyData} {i : Int} {d : PyData} (h : RpA K H xs ds) (e : atI ds i = some d) : ∃ v, atI xs i = some v ∧ Rp K H v d := by
  unfold atI at e ⊢
  rw [h.len]
  cases q : ixN ds.length i with
  | none => rw [q] at e; cases e
  | some j =>
    rw [q] at e
    obtain ⟨v, h1, h2⟩ := h.get (i := j) (d := d) e
    exact ⟨v, h1, h2⟩
/-- xs[i], xs a list or a tuple -/
theorem r2_ix {s : Sl} {ds : List PyData} {i : Int} {d : PyData} (q : Seq M s ds) (e : atI ds i = some d) (h : P (.d d) M) : R2D K B0 F ρ κ (rIx K) s (.d (.int i)) M P := fun σ vs H x y Q g qq => by
  have ey := g.int
  subst ey
  obtain ⟨B, g⟩ := g.pop
  obtain ⟨a, ys, rfl, h1, h2⟩ := q.at g g.fst
  obtain ⟨v, hv, hd⟩ := atI_rp h2 e
  rcases h1 with h1 | h1
  · exact .inl ⟨a, ys, i, v, rfl, rfl, h1, hv, qq _ H _ M ⟨B, g.pop.pushD hd⟩ h⟩
  · exact .inr (.inl ⟨a, ys, i, v, rfl, rfl, h1, hv, qq _ H _ M ⟨B, g.pop.pushD hd⟩ h⟩)
/-- a part of a slice -/
def tOfP (X : Cx) : Option Expr → TO
  | none => tNoPart
  | some e => tPart (tOf X e)
theorem po_self {o : Option Expr} : PO X o (tOfP X o) := by
  cases o with
  | none => exact po_none
  | some e => exact po_some pe_self
def DO (X : Cx) (B0 F : Hp) (M : Cs) (ρ κ : List Sl) (o : Option Expr) (P : Option Int → Cs → Prop) : Prop := ∀ σ vs H Q, Good X.K B0 F M ρ κ σ vs H → (∀ i H' M', Good X.K B0 F M' ρ κ σ vs H' → P i M' → Q i H') → tOfP X o σ H Q
theorem do_none {P : Option Int → Cs → Prop} (h : P none M) : DO X B0 F M ρ κ none P := fun σ vs H Q g q => q none H M g h
theorem do_some {P : Option Int → Cs → Prop} (h : DE X B0 F M ρ κ e fun r M1 => ∃ i, r = .d (.int i) ∧ P (some i) M1) : DO X B0 F M ρ κ (some e) P := fun σ vs H Q g q => h σ vs H _ g fun v H' r M' g' h' => by
  obtain ⟨i, rfl, h'⟩ := h'
  have e := g'.int
  subst e
  exact ⟨i, rfl, q _ H' M' g'.pop h'⟩
/-- cut of data, as cutV of values -/
def cutD (xs : List PyData) (lo hi : Option Int) : List PyData := (xs.drop (HT.sIx xs.length 0 lo)).take (HT.sIx xs.length xs.length hi - HT.sIx xs.length 0 lo)
theorem cut_rp {H : Hp} {xs : List V} {ds : List PyData} (h : RpA K H xs ds) (lo hi : Option Int) : RpA K H (cutV xs lo hi) (cutD ds lo hi) := by
  unfold cutV cutD
  rw [h.len]
  exact (h.drop _).take _
theorem cutD_all {ds : List PyData} {lo hi : Option Int} (h : HT.sIx ds.length 0 lo = 0 ∧ HT.sIx ds.length ds.length hi = ds.length) : cutD ds lo hi = ds := by
  unfold cutD
  rw [h.1, h.2, List.drop_zero, Nat.sub_zero, List.take_length]
/-- the slice of an operand that stands: the parts are written (no calls) -/
def RsD (K : Fg) (B0 F : Hp) (ρ κ : List Sl) (r : V → Option Int → Option Int → Hp → VK → Prop) (s : Sl) (lo hi : Option Int) (M : Cs) (P : Sl → Cs → Prop) : Prop := ∀ σ vs H x Q, Good K B0 F M ρ (s :: κ) σ (x :: vs) H → (∀ v H' r' M', Good K B0 F M' ρ (r' :: κ) σ (v :: vs) H' → P r' M' → Q v H') → r x lo hi H Q
theorem de_slice {lo hi : Option Expr} {p2 : Pos} {r : V → Option Int → Option Int → Hp → VK → Prop} (hr : SlR X r) (h : DE X B0 F M ρ κ e fun r1 M1 => DO X B0 F M1 ρ (r1 :: κ) lo fun l M2 => DO X B0 F M2 ρ (r1 :: κ) hi fun u M3 => RsD X.K B0 F ρ κ r r1 l u M3 P) :
    DE X B0 F M ρ κ (.Subscript e (.Slice lo hi none p2) pos) P := fun σ vs H Q g q => tOf_of (pe_slice hr pe_self po_self po_self) (h σ vs H _ g fun x H1 r1 M1 g1 h1 => h1 σ (x :: vs) H1 _ g1 fun l H2 M2 g2 h2 => h2 σ (x :: vs) H2 _ g2 fun u H3 M3 g3 h3 => h3 σ vs H3 x Q g3 q)
/-- xs[l:u]: a new list, a cell -/
theorem rs_listC {s : Sl} {ds : List PyData} {l u : Option Int} (q : SeqLs M s ds) (h : ∀ p, P (.v (.ref p)) ((p, .lst (cutD ds l u)) :: M)) : RsD K B0 F ρ κ (rSlL K) s l u M P := fun σ vs H x Q g qq => by
  obtain ⟨B, g⟩ := g
  obtain ⟨a, ys, rfl, h1, h2⟩ := q.at g g.fst
  exact ⟨a, ys, rfl, h1, fun p hp => qq _ _ _ _ (cell_new g.pop hp (cut_rp h2 l u)) (h p)⟩
end
end DL
set_option maxHeartbeats 2000000
namespace DL
open PySem PySem.Spec PyProof.Rows L2

section
variable {X : Cx} {K : Fg} {B0 F : Hp} {M : Cs} {ρ κ : List Sl} {P : Sl → Cs → Prop} {a b e : Expr} {pos : Pos}
/-- sorted(xs) of data, any number of items -/
def sortD (ds : List PyData) : List PyData := ds.mergeSort (PySem.W.dataLe false id)
def rSortedD (K : Fg) : List V → Hp → VK → Prop := fun vs H Q => ∃ (a : Addr) (xs : List V) (ds : List PyData) (G : Hp), vs = [.ref a] ∧ SqL K H a xs ∧ Same G H ∧ RpA K G xs ds ∧ PySem.W.AllAlike ds ∧ PySem.W.Sortable ds ∧ ds.length ≤ sizeLine ∧ (∀ d ∈ ds, d.depth ≤ 50) ∧
  ∀ p ws, H p = none → RpA K G ws (sortD ds) → Q (.ref p) (upd H p (.lst ws))
theorem each_of {K : Fg} {G : Hp} : ∀ {xs : List V} {ds : List PyData} {us : List Value}, RpA K G xs ds → Vals xs us → PySem.W.EachIs (fun u d => ∃ v, RelV v u ∧ Rp K G v d) us ds
  | _, _, _, .nil, .nil => .nil
  | _, _, _, .cons h t, .cons r q => .cons ⟨_, r, h⟩ (each_of t q)
theorem each_reads {X : Cx} {pins : List (Addr × Obj)} {σ : L2.St} {H : Hp} {s : Shared} (I : Inv X pins σ H s) : ∀ {xs : List V} {ds : List PyData} {us : List Value}, RpA X.K H xs ds → Vals xs us → PySem.W.EachIs (fun u d => ∃ as, Reads s.heap u (id d) as) us ds
  | _, _, _, .nil, .nil => .nil
  | _, _, _, .cons h t, .cons r q => .cons (Dp.reads I _ _ _ h.dp r) (each_reads I t q)
theorem each_back {K : Fg} {H : Hp} : ∀ {us : List Value} {ds : List PyData}, PySem.W.EachIs (fun u d => ∃ v, RelV v u ∧ Rp K H v d) us ds → ∃ ws, Vals ws us ∧ RpA K H ws ds
  | _, _, .nil => ⟨[], .nil, .nil⟩
  | _, _, .cons ⟨v, h1, h2⟩ t => by
    obtain ⟨ws, h3, h4⟩ := each_back t
    exact ⟨v :: ws, .cons h1 h3, .cons h2 h4⟩
theorem cr_sortedD (hu : X.A.units + 64 < cLine) : CallR X (.builtin "sorted") (rSortedD X.K) := by
  intro pins s σ H vs us Q I r h
  obtain ⟨a, xs, ds, G, rfl, hs, hG, hr, hal, hk, hz, hdp, q⟩ := h
  obtain ⟨its, rv, hl, hz2⟩ := I.list hs
  rw [Vals.ref1 r]
  refine PySem.W.sorted_data (bs := ds) (enc := id) hl.isList (each_of hr rv) (each_reads I (hr.ext hG) rv) (by rw [List.map_id]; exact hal) (by rw [List.map_id]; exact hk) hz (fun d hd => ?_) fun out ho eo => ?_
  · have := hdp d hd
    show X.A.units + 2 + d.depth < cLine
    omega
  · obtain ⟨ws, h1, h2⟩ := each_back eo
    obtain ⟨ep, he'⟩ := PyProof.Rows.sortedAll_at s.heap its out.toArray
    have hlen : ws.length ≤ sizeLine := by rw [h1.length, ho]; exact hz
    exact ⟨.ref _, upd H (s.heap.objs.size + 1) (.lst ws), I.laid (t' := s.toks) (fun _ _ => PyProof.Rows.sortedAll_old) (Nat.le_succ _) (show ObjOk X.prog X.w _ _ _ (.lst ws) from ⟨hlen, out, ep, h1, he'⟩), rfl, q _ _ (I.hok.fresh (Nat.le_succ _)) h2⟩
theorem rn_sortedC {s : Sl} {ds : List PyData} (q : SeqLs M s ds) (hal : PySem.W.AllAlike ds) (hk : PySem.W.Sortable ds) (hz : ds.length ≤ 100000) (hd : ∀ d ∈ ds, d.depth ≤ 50) (h : ∀ l, P (.v (.ref l)) ((l, .lst (sortD ds)) :: M)) : RnD K B0 F ρ κ (rSortedD K) [s] M P := fun σ vs H xs Q hl g qq => by
  obtain ⟨x, rfl⟩ := one_arg hl rfl
  obtain ⟨B, g⟩ := g
  obtain ⟨a, ys, rfl, h1, h2⟩ := q.at g g.fst
  exact ⟨a, ys, ds, B, rfl, h1, g.bh, h2, hal, hk, Nat.le_trans hz (by decide), hd, fun p ws hp hw => qq _ _ _ _ (cell_new g.pop hp hw) (h p)⟩

/-! ### in -/
theorem rpa_flat {H : Hp} : ∀ {ws : List V} {ds : List PyData} {vs : List V}, RpA K H ws ds → ds.map flatD = vs.map some → ws = vs
  | _, [], [], h, _ => by cases h; rfl
  | _, d :: ds, v :: vs, h, e => by
    cases h with
    | cons h1 h2 =>
      rw [List.map_cons, List.map_cons, List.cons.injEq] at e
      rw [Rp.flat h1 e.1, rpa_flat h2 e.2]
  | _, _ :: _, [], _, e => by cases e
  | _, [], _ :: _, _, e => by cases e
theorem flatV_of {d : PyData} {v : V} (h : flatD d = some v) : flatV v = true := by
  cases d <;> first | (cases Option.some.inj h; rfl) | cases h
theorem flatVs_of : ∀ {ds : List PyData} {vs : List V}, ds.map flatD = vs.map some → vs.all flatV = true
  | [], [], _ => rfl
  | d :: ds, v :: vs, e => by
    rw [List.map_cons, List.map_cons, List.cons.injEq] at e
    rw [List.all_cons, flatV_of e.1, flatVs_of e.2] <;> rfl
  | _ :: _, [], e => by cases e
  | [], _ :: _, e => by cases e
theorem r2_in {s : Sl} {ds : List PyData} {d : PyData} {v : V} {vs : List V} {neg : Bool} (q : Seq M s ds) (hd : flatD d = some v) (hs : ds.map flatD = vs.map some) (h : P (.d (.bool (if neg then !inV v vs else inV v vs))) M) : R2D K B0 F ρ κ (rIn K neg) (.d d) s M P := fun σ vs' H x y Q g qq => by
  obtain ⟨B, g⟩ := g
  obtain ⟨a, ys, rfl, h1, h2⟩ := q.at g g.fst
  have e := Rp.flat g.pop.fst hd
  subst e
  have e := rpa_flat h2 hs
  subst e
  exact ⟨a, _, rfl, h1, flatV_of hd, flatVs_of hs, qq _ H _ M ⟨B, g.pop.pop.pushD (Rp.bl _)⟩ h⟩
/-- ints in ints -/
theorem inV_ints {i : Int} : ∀ {ns : List Int}, inV (.int i) (ns.map V.int) = decide (i ∈ ns)
  | [] => by simp [inV]
  | n :: ns => by
    have ih := inV_ints (i := i) (ns := ns)
    unfold inV at ih ⊢
    rw [List.map_cons, List.any_cons, ih]
    show (n == i || decide (i ∈ ns)) = _
    by_cases e : n = i
    · subst e; simp
    · have e' : ¬ i = n := fun z => e z.symm
      simp [e, e']
theorem flat_ints : ∀ ns : List Int, (ns.map PyData.int).map flatD = (ns.map V.int).map some
  | [] => rfl
  | n :: ns => by rw [List.map_cons, List.map_cons, List.map_cons, List.map_cons, flat_ints ns] <;> rfl
theorem r2_inI {s : Sl} {ns : List Int} {i : Int} (q : Seq M s (ns.map PyData.int)) (h : P (.d (.bool (decide (i ∈ ns)))) M) : R2D K B0 F ρ κ (rIn K false) (.d (.int i)) s M P := r2_in q rfl (flat_ints ns) (by rw [inV_ints]; exact h)
theorem r2_niI {s : Sl} {ns : List Int} {i : Int} (q : Seq M s (ns.map PyData.int)) (h : P (.d (.bool (!decide (i ∈ ns)))) M) : R2D K B0 F ρ κ (rIn K true) (.d (.int i)) s M P := r2_in q rfl (flat_ints ns) (by rw [inV_ints]; exact h)

/-! ### isinstance -/
def tyD : PyData → Value
  | .none => .type "NoneType"
  | .bool _ => .type "bool"
  | .int _ => .type "int"
  | .str _ => .type "str"
  | .list _ => .type "list"
  | .tuple _ => .type "tuple"
  | .dict _ => .type "dict"
theorem tyX_of {H : Hp} {v : V} {d : PyData} (h : Rp K H v d) : TyX K H v (tyD d) := by
  cases h with
  | non => exact .base .non
  | bl b => exact .base (.bl b)
  | int i => exact .base (.int i)
  | str x => exact .base (.str x)
  | lst h hs => exact .base (.lst h)
  | tup h hs =>
    rcases h with (h | ⟨o, h⟩) | ⟨o, its, n, h, hc, _⟩
    · exact .base (.tup h)
    · exact .fTuple h
    · exact .kTuple h hc
theorem rn_isi {d : PyData} {T : String} {b : Bool} (hb : PySem.W.kitOne K (tyD d) (.type T) = some b) (h : P (.d (.bool b)) M) : RnD K B0 F ρ κ (rIsi K) [.d d, .v (.ty T)] M P := fun σ vs H xs Q hl g qq => by
  obtain ⟨x, y, rfl⟩ := two_args hl rfl
  obtain ⟨B, g⟩ := g
  have e : y = .ty T := g.pop.fst
  subst e
  have r : Rp K B x d := g.fst
  exact ⟨x, .ty T, tyD d, .type T, b, rfl, .ty T, tyX_of (r.ext g.bh), hb, qq _ H _ M ⟨B, g.pop.pop.pushD (Rp.bl _)⟩ h⟩

/-! ### tuples: +, slices -/
theorem r2_catT {xs ys : List PyData} (hz : xs.length + ys.length ≤ 100000) (h : P (.d (.tuple (xs ++ ys))) M) : R2D K B0 F ρ κ (rCatA K) (.d (.tuple xs)) (.d (.tuple ys)) M P := fun σ vs H x y Q g qq => by
  obtain ⟨B, g⟩ := g
  obtain ⟨b, vb, rfl, hb, rb⟩ := Rp.tup_inv g.fst
  obtain ⟨a, va, e, ha, ra⟩ := Rp.tup_inv g.pop.fst
  subst e
  refine ⟨a, b, va, vb, rfl, rfl, same_t g.bh ha, same_t g.bh hb, by rw [ra.len, rb.len]; exact Nat.le_trans hz (by decide), fun e => ?_, fun _ e => ?_, fun _ _ p hp => ?_⟩
  · subst e
    cases ra
    exact qq _ H _ M ⟨B, g.pop.pop.pushD (.tup hb rb)⟩ h
  · subst e
    cases rb
    rw [List.append_nil] at h
    exact qq _ H _ M ⟨B, g.pop.pop.pushD (.tup ha ra)⟩ h
  · have bp : B p = none := g.bh.free hp
    exact qq _ _ _ M ⟨_, (g.pop.pop.laid (o := .tup (va ++ vb)) hp).pushD (.tup (SqT.of upd_same) ((ra.app rb).ext fun b u z => by rw [upd_ne (ne_of_none z bp)]; exact z))⟩ h
theorem rs_tup {ds : List PyData} {l u : Option Int} (h : P (.d (.tuple (cutD ds l u))) M) : RsD K B0 F ρ κ (rSlA K) (.d (.tuple ds)) l u M P := fun σ vs H x Q g qq => by
  obtain ⟨B, g⟩ := g
  obtain ⟨a, va, rfl, ha, ra⟩ := Rp.tup_inv g.fst
  refine ⟨a, va, rfl, same_t g.bh ha, fun e => ?_, fun _ p hp => ?_⟩
  · rw [ra.len] at e
    rw [cutD_all e] at h
    exact qq _ H _ M ⟨B, g.pop.pushD (.tup ha ra)⟩ h
  · have bp : B p = none := g.bh.free hp
    exact qq _ _ _ M ⟨_, (g.pop.laid (o := .tup (cutV va l u)) hp).pushD (.tup (SqT.of upd_same) ((cut_rp ra l u).ext fun b u z => by rw [upd_ne (ne_of_none z bp)]; exact z))⟩ h

/-! ### lists: +, append, +=, stores -/
theorem cell_at {σ : L2.St} {vs : List V} {H B : Hp} {n : Nat} {a : Addr} {ds : List PyData} (g : GoodB K B0 F M ρ κ σ vs H B) (h : M[n]? = some (a, .lst ds)) : ∃ ws, H a = some (.lst ws) ∧ RpA K B ws ds := by
  obtain ⟨_, _, o, ho, ws, rfl, hw⟩ := g.cells _ (List.mem_of_getElem? h)
  exact ⟨ws, ho, hw⟩
/-- xs + ys, both tracked lists: a cell -/
inductive SeqCl (M : Cs) : Sl → List PyData → Prop
  | lst (ds : List PyData) : SeqCl M (.d (.list ds)) ds
  | cell {a : Addr} {ds : List PyData} : (a, .lst ds) ∈ M → SeqCl M (.v (.ref a)) ds
theorem SeqCl.at {σ : L2.St} {vs : List V} {H B : Hp} {s : Sl} {ds : List PyData} {v : V} (q : SeqCl M s ds) (g : GoodB K B0 F M ρ κ σ vs H B) (hv : VOk K F B v s) : ∃ a xs, v = .ref a ∧ H a = some (.lst xs) ∧ RpA K B xs ds := by
  cases q with
  | lst ds => obtain ⟨a, xs, rfl, h1, h2⟩ := Rp.lst_inv hv; exact ⟨a, xs, rfl, g.bh _ _ h1, h2⟩
  | @cell a ds hm =>
    have e : v = .ref a := hv
    subst e
    obtain ⟨_, _, o, ho, ws, rfl, hw⟩ := g.cells _ hm
    exact ⟨a, ws, rfl, ho, hw⟩
theorem r2_catC {s t : Sl} {xs ys : List PyData} (q1 : SeqCl M s xs) (q2 : SeqCl M t ys) (hz : xs.length + ys.length ≤ 100000) (h : ∀ l, P (.v (.ref l)) ((l, .lst (xs ++ ys)) :: M)) : R2D K B0 F ρ κ rCat s t M P := fun σ vs H x y Q g qq => by
  obtain ⟨B, g⟩ := g
  obtain ⟨b, vb, rfl, hb, rb⟩ := q2.at g g.fst
  obtain ⟨a, va, e, ha, ra⟩ := q1.at g g.pop.fst
  subst e
  exact ⟨a, b, va, vb, rfl, rfl, ha, hb, by rw [ra.len, rb.len]; exact Nat.le_trans hz (by decide), fun p hp => qq _ _ _ _ (cell_new g.pop.pop hp (ra.app rb)) (h p)⟩
/-- xs += ys: the cell at place n grows -/
theorem r2_ext (n : Nat) {a : Addr} {t : Sl} {xs ys : List PyData} (hn : M[n]? = some (a, .lst xs)) (q2 : SeqCl M t ys) (hz : xs.length + ys.length ≤ 100000) (h : P (.v (.ref a)) (M.set n (a, .lst (xs ++ ys)))) : R2D K B0 F ρ κ rExt2 (.v (.ref a)) t M P := fun σ vs H x y Q g qq => by
  obtain ⟨B, g⟩ := g
  obtain ⟨b, vb, rfl, hb, rb⟩ := q2.at g g.fst
  have e : x = .ref a := g.pop.fst
  subst e
  obtain ⟨va, ha, ra⟩ := cell_at g hn
  exact ⟨a, b, va, vb, rfl, rfl, ha, hb, by rw [ra.len, rb.len]; exact Nat.le_trans hz (by decide), qq _ _ _ _ ⟨B, (g.pop.pop.write (c' := .lst (xs ++ ys)) hn ⟨_, rfl, ra.app rb⟩).pushV⟩ h⟩
variable {o : Expr} {apos cpos : Pos} {k : KK}
/-- o.append(e): o a cell at place n -/
theorem de_append (n : Nat) (h : DE X B0 F M ρ κ o fun r1 M1 => ∃ a ds', r1 = .v (.ref a) ∧ (a, MC.lst ds') ∈ M1 ∧ DE X B0 F M1 ρ (r1 :: κ) e fun r2 M2 => ∃ ds y, r2 = .d y ∧ M2[n]? = some (a, .lst ds) ∧ ds.length < 100000 ∧ P (.d .none) (M2.set n (a, .lst (ds ++ [y]))))
    (hbase : attributeBase o "append" X.env (eval o X.env) = eval o X.env := by rfl)
    (hfew : ((backTo cpos (starEach (e :: []) X.env)).all (fun x => !x.1) && (backToKw cpos (keywordEach [] X.env)).all (fun x => x.1.isSome)
      && decide ((e :: ([] : List Expr)).length + ([] : List Keyword).length + (if ([] : List Keyword).isEmpty then 0 else 1) < 30)) = true := by rfl)
    (hline : (apos.endLine == cpos.line) = true := by rfl) (hs : starEach (e :: []) X.env = (false, eval e X.env) :: starEach [] X.env := by rfl) (hplain : (backTo cpos (starEach [] X.env)).any (·.1) = false := by rfl) :
    DE X B0 F M ρ κ (.Call (.Attribute o "append" apos) [e] [] cpos) P := fun σ vs H Q g q => by
  refine tOf_of (pe_bm PySem.F.plainAttrs_list PySem.F.slot_list_append PySem.F.type_list_append (X := X) mt_append pe_self (pa_cons pe_self pa_nil hs) hbase hfew hline hs hplain) ?_
  refine h σ vs H _ g fun x H1 r1 M1 g1 h1 => ?_
  obtain ⟨a, ds', rfl, hm, h1⟩ := h1
  have e := g1.ref
  subst e
  refine ⟨?_, h1 σ (.ref a :: vs) H1 _ g1 fun y H2 r2 M2 g2 h2 => ?_⟩
  · obtain ⟨B, g1⟩ := g1
    obtain ⟨_, _, u, ho, ws, rfl, hw⟩ := g1.cells _ hm
    exact .inl ⟨rfl, ws, SqL.of ho⟩
  · obtain ⟨ds, yd, rfl, hn, hl, hp⟩ := h2
    obtain ⟨B, g2⟩ := g2
    obtain ⟨ws, ho, hw⟩ := cell_at g2 hn
    have hz : (100000 : Nat) ≤ sizeLine := by decide
    exact ⟨a, ws, y, rfl, rfl, ho, by rw [hw.len]; omega, q _ _ _ _ ⟨B, (g2.pop.pop.write (c' := .lst (ds ++ [yd])) hn ⟨_, rfl, hw.app (.cons g2.fst .nil)⟩).pushD .non⟩ hp⟩
/-- xs.index(y), ints: the first place -/
theorem de_index (h : DE X B0 F M ρ κ o fun r1 M1 => ∃ ns : List Int, SeqLs M1 r1 (ns.map PyData.int) ∧ DE X B0 F M1 ρ (r1 :: κ) e fun r2 M2 => ∃ (i : Int) (j : Nat), M2 = M1 ∧ r2 = .d (.int i) ∧ ns[j]? = some i ∧ (∀ m, m < j → ns[m]? ≠ some i) ∧ P (.d (.int (j : Nat))) M2)
    (hbase : attributeBase o "index" X.env (eval o X.env) = eval o X.env := by rfl)
    (hfew : ((backTo cpos (starEach (e :: []) X.env)).all (fun x => !x.1) && (backToKw cpos (keywordEach [] X.env)).all (fun x => x.1.isSome)
      && decide ((e :: ([] : List Expr)).length + ([] : List Keyword).length + (if ([] : List Keyword).isEmpty then 0 else 1) < 30)) = true := by rfl)
    (hline : (apos.endLine == cpos.line) = true := by rfl) (hs : starEach (e :: []) X.env = (false, eval e X.env) :: starEach [] X.env := by rfl) (hplain : (backTo cpos (starEach [] X.env)).any (·.1) = false := by rfl) :
    DE X B0 F M ρ κ (.Call (.Attribute o "index" apos) [e] [] cpos) P := fun σ vs H Q g q => by
  refine tOf_of (pe_bm PySem.F.plainAttrs_list PySem.F.slot_list_index PySem.F.type_list_index (X := X) mt_index pe_self (pa_cons pe_self pa_nil hs) hbase hfew hline hs hplain) ?_
  refine h σ vs H _ g fun x H1 r1 M1 g1 h1 => ?_
  obtain ⟨ns, hq, h1⟩ := h1
  obtain ⟨B, g1b⟩ := id g1
  obtain ⟨a, ys, rfl, hs1, hr1⟩ := hq.at g1b g1b.fst
  refine ⟨.inl ⟨rfl, ys, hs1⟩, h1 σ (.ref a :: vs) H1 _ g1 fun y H2 r2 M2 g2 h2 => ?_⟩
  obtain ⟨i, j, rfl, rfl, hj, hm, hp⟩ := h2
  have e := g2.int
  subst e
  obtain ⟨B, g2⟩ := g2
  obtain ⟨a', ys', e, hs2, hr2⟩ := hq.at g2 g2.pop.fst
  cases e
  have e := hr2.ints
  subst e
  have hmap : ∀ {m : Nat} {z : V}, (ns.map V.int)[m]? = some z → ∃ k, ns[m]? = some k ∧ z = .int k := fun {m z} e => by
    rw [List.getElem?_map] at e
    cases q : ns[m]? with
    | none => rw [q] at e; cases e
    | some k => rw [q] at e; exact ⟨k, rfl, (Option.some.inj e).symm⟩
  refine ⟨a, ns.map V.int, .int i, j, .int i, rfl, rfl, hs2, rfl, List.all_eq_true.mpr fun z hz => ?_, by rw [List.getElem?_map, hj]; rfl, by show (i == i) = true; simp, fun m z hm' hz => ?_, q _ H2 _ _ ⟨B, g2.pop.pop.pushD (.int _)⟩ hp⟩
  · obtain ⟨k, _, rfl⟩ := List.mem_map.mp hz
    rfl
  · obtain ⟨k, hk, rfl⟩ := hmap hz
    show (k == i) = false
    have : k ≠ i := fun e => hm m hm' (by rw [hk, e])
    simpa using this
/-- o[i] = .. : o a cell at place n -/
theorem dg_sub (n : Nat) {r : Sl} {Pg : Cs → List Sl → Prop} (h : DE X B0 F M ρ (r :: κ) o fun r1 M1 => DE X B0 F M1 ρ (r1 :: r :: κ) e fun r2 M2 => ∃ a ds y i j, r1 = .v (.ref a) ∧ r2 = .d (.int i) ∧ r = .d y ∧ M2[n]? = some (a, .lst ds) ∧ ixN ds.length i = some j ∧ Pg (M2.set n (a, .lst (ds.set j y))) ρ)
    (ha : ∀ v, assign (.Subscript o e pos) X.env v = (do
      let ov ← holding [v] (eval o X.env)
      let iv ← holding [v, ov] (eval e X.env)
      standAt pos
      holding [v, ov, iv] (setItem ov iv v)
      release [v, ov, iv] []) := by intro _; rfl) : DG X B0 F M ρ κ r (.Subscript o e pos) Pg := fun σ vs H x Q g q => by
  refine tOfG_of (pg_sub pe_self pe_self set_list ha) ?_
  refine h σ (x :: vs) H _ g fun v1 H1 r1 M1 g1 h1 => h1 σ (v1 :: x :: vs) H1 _ g1 fun v2 H2 r2 M2 g2 h2 => ?_
  obtain ⟨a, ds, y, i, j, rfl, rfl, rfl, hn, hi, hp⟩ := h2
  have e := g2.int
  subst e
  have e := g2.pop.ref
  subst e
  obtain ⟨B, g2⟩ := g2
  obtain ⟨ws, ho, hw⟩ := cell_at g2 hn
  exact ⟨a, ws, i, j, rfl, rfl, ho, by rw [hw.len]; exact hi, q _ _ _ _ ⟨B, g2.pop.pop.pop.write (c' := .lst (ds.set j y)) hn ⟨_, rfl, hw.set g2.pop.pop.fst j⟩⟩ hp⟩

/-! ### raw lists: a cell whose values are told one by one -/
def slV : V → Sl
  | .int i => .d (.int i)
  | .bl b => .d (.bool b)
  | .str x => .d (.str x)
  | .non => .d .none
  | v => .v v
theorem slV_ok {F B : Hp} (v : V) : VOk K F B v (slV v) := by
  cases v <;> first | exact (rfl : _ = _) | exact Rp.int _ | exact Rp.bl _ | exact Rp.str _ | exact Rp.non
theorem raw_at {σ : L2.St} {vs : List V} {H B : Hp} {a : Addr} {o : HO} (g : GoodB K B0 F M ρ κ σ vs H B) (h : (a, .raw o) ∈ M) : H a = some o := by
  obtain ⟨_, _, u, ho, e⟩ := g.cells _ h
  have e : u = o := e
  subst e
  exact ho
theorem r2_ixRaw {a : Addr} {ws : List V} {i : Int} {v : V} (hm : (a, .raw (.lst ws)) ∈ M) (e : atI ws i = some v) (h : P (slV v) M) : R2D K B0 F ρ κ (rIxL K) (.v (.ref a)) (.d (.int i)) M P := fun σ vs H x y Q g qq => by
  have ey := g.int
  subst ey
  have ex := g.pop.ref
  subst ex
  obtain ⟨B, g⟩ := g
  exact ⟨a, ws, i, v, rfl, rfl, SqL.of (raw_at g hm), e, qq _ H _ M ⟨B, g.pop.pop.push (slV_ok v)⟩ h⟩
theorem dg_subRaw (n : Nat) {r : PyData} {Pg : Cs → List Sl → Prop} (h : DE X B0 F M ρ (.d r :: κ) o fun r1 M1 => DE X B0 F M1 ρ (r1 :: .d r :: κ) e fun r2 M2 => ∃ a ws v i j, r1 = .v (.ref a) ∧ r2 = .d (.int i) ∧ flatD r = some v ∧ M2[n]? = some (a, .raw (.lst ws)) ∧ ixN ws.length i = some j ∧ Pg (M2.set n (a, .raw (.lst (ws.set j v)))) ρ)
    (ha : ∀ v, assign (.Subscript o e pos) X.env v = (do
      let ov ← holding [v] (eval o X.env)
      let iv ← holding [v, ov] (eval e X.env)
      standAt pos
      holding [v, ov, iv] (setItem ov iv v)
      release [v, ov, iv] []) := by intro _; rfl) : DG X B0 F M ρ κ (.d r) (.Subscript o e pos) Pg := fun σ vs H x Q g q => by
  refine tOfG_of (pg_sub pe_self pe_self set_list ha) ?_
  refine h σ (x :: vs) H _ g fun v1 H1 r1 M1 g1 h1 => h1 σ (v1 :: x :: vs) H1 _ g1 fun v2 H2 r2 M2 g2 h2 => ?_
  obtain ⟨a, ws, v, i, j, rfl, rfl, hv, hn, hi, hp⟩ := h2
  have e := g2.int
  subst e
  have e := g2.pop.ref
  subst e
  have e := g2.pop.pop.flat hv
  subst e
  obtain ⟨B, g2⟩ := g2
  have ho := raw_at g2 (List.mem_of_getElem? hn)
  exact ⟨a, ws, i, j, rfl, rfl, ho, hi, q _ _ _ _ ⟨B, g2.pop.pop.pop.write (c' := .raw (.lst (ws.set j _))) hn rfl⟩ hp⟩
end
end DL
set_option maxHeartbeats 2000000
namespace DL
open PySem PySem.Spec PyProof.Rows L2

/-! ### a def by its data in a head -/
section
variable {P : Program} {w : World} {K : Fg} {mg : Str → Option Value} {base : Heap}
theorem fn_okD {x qual : Str} {st : Stmt} {f : Addr} {fd : FuncData} {N ps : List Str} {k : Nat} {R : List Sl → Cs → (Sl → Cs → Prop) → Prop} (Fu : FunD K x qual (defArgs st) (defBody st) (defScope st) [] [] f fd) (S : FnScope N ps (defScope st)) (len : ∀ κ M W, R κ M W → κ.length = ps.length)
    (body : ∀ (cdv : Value) (A : Around) (outer : List Env) (s : Shared) (H : Hp) (E : XK), Room k (A.deeper (envOfC qual (defScope st) s.heap.objs.size f cdv)) → N.Nodup → ∀ (B0 F : Hp) (κ : List Sl) (M : Cs) (W : Sl → Cs → Prop), R κ M W →
      DB (cxOf CX0 P w K mg base N qual (defScope st) f cdv A outer s H E).nox B0 F M (κ ++ List.replicate (N.length - ps.length) .un) [] (defBody st) { nx := fun M' _ => W (.d .none) M', rt := W }) : FnOk P w K mg base CX0 (k + 1) f fd ps (SpG K R) := by
  refine Fu.ok S (fun vs H Q E h => ?_) (fun cdv A outer s H vs Q E hr h => ?_)
  · obtain ⟨B0, F, M, κ, W, ⟨B, g⟩, _, hR, _⟩ := h
    rw [Paired.length g.st]
    exact len κ M W hR
  · obtain ⟨B0, F, M, κ, W, ⟨B, g⟩, hn, hR, q⟩ := h
    refine ⟨tOfB _ (defBody st), PSs.nox pb_self, ?_⟩
    have hl := Paired.length g.st
    have hk := len κ M W hR
    refine body cdv A outer s H E hr S.nd B0 F κ M W hR (L2.start N vs) [] H _ ⟨B, (g.stk .nil).slt ?_⟩ ⟨fun σ' H' M' ρ' g' n => ?_, fun v H' r M' g' n => q v H' r M' g' n, fun _ _ _ _ _ n => n.elim, fun _ _ _ _ _ n => n.elim⟩
    · unfold L2.start
      rw [hl, hk]
      exact start_sok g.st
    · refine q .non H' (.d .none) M' ?_ n
      obtain ⟨B', g'⟩ := g'
      exact ⟨B', (g'.stk .nil |>.slt .nil).pushD .non⟩
end

/-! ### dicts whose keys are ints and texts -/
def valD (kvs : List (Key × PyData)) (k : Key) : Option PyData := (kvs.find? fun kv => decide (kv.1 = k)).map (·.2)
def putD (kvs : List (Key × PyData)) (k : Key) (v : PyData) : List (Key × PyData) := if (kvs.any fun kv => decide (kv.1 = k)) = true then kvs.map (fun kv => if kv.1 = k then (kv.1, v) else kv) else kvs ++ [(k, v)]
abbrev EntsOk (K : Fg) (B : Hp) : List (Key × V) → List (Key × PyData) → Prop := Paired (fun (p : Key × V) (q : Key × PyData) => p.1 = q.1 ∧ Rp K B p.2 q.2)
section
variable {X : Cx} {K : Fg} {B0 F : Hp} {M : Cs} {ρ κ : List Sl} {P : Sl → Cs → Prop} {a b e o i : Expr} {pos : Pos} {k : KK}
theorem ents_val {B : Hp} {ky : Key} : ∀ {kvs : List (Key × V)} {es : List (Key × PyData)}, EntsOk K B kvs es → (∀ d, valD es ky = some d → ∃ v, valV kvs ky = some v ∧ Rp K B v d) ∧ (valD es ky = none → valV kvs ky = none)
  | _, _, .nil => ⟨(fun d h => nomatch h), fun _ => rfl⟩
  | p :: kvs, q :: es, .cons h t => by
    obtain ⟨ih1, ih2⟩ := ents_val (ky := ky) t
    obtain ⟨pk, pv⟩ := p
    obtain ⟨qk, qv⟩ := q
    obtain ⟨h1, h2⟩ := h
    have h1 : pk = qk := h1
    subst h1
    unfold valD valV at *
    rw [List.find?_cons, List.find?_cons]
    by_cases c : pk = ky
    · rw [show decide ((pk, qv).1 = ky) = true from decide_eq_true c]
      exact ⟨fun d h => ⟨pv, rfl, by cases Option.some.inj h; exact h2⟩, fun h => by cases h⟩
    · rw [show decide ((pk, qv).1 = ky) = false from decide_eq_false c]
      exact ⟨ih1, ih2⟩
theorem ents_any {B : Hp} {ky : Key} : ∀ {kvs : List (Key × V)} {es : List (Key × PyData)}, EntsOk K B kvs es → (kvs.any fun kv => decide (kv.1 = ky)) = (es.any fun kv => decide (kv.1 = ky))
  | _, _, .nil => rfl
  | p :: kvs, q :: es, .cons h t => by rw [List.any_cons, List.any_cons, ents_any t, h.1]
theorem ents_put {B : Hp} {ky : Key} {v : V} {d : PyData} (r : Rp K B v d) {kvs : List (Key × V)} {es : List (Key × PyData)} (h : EntsOk K B kvs es) : EntsOk K B (putK kvs ky v) (putD es ky d) := by
  unfold putK putD
  rw [ents_any h]
  by_cases c : (es.any fun kv => decide (kv.1 = ky)) = true
  · rw [if_pos c, if_pos c]
    clear c
    induction h with
    | nil => exact .nil
    | @cons p q ps qs h t ih =>
      rw [List.map_cons, List.map_cons]
      refine .cons ?_ ih
      obtain ⟨h1, h2⟩ := h
      by_cases c : p.1 = ky
      · rw [if_pos c, if_pos (h1 ▸ c)]; exact ⟨h1, r⟩
      · rw [if_neg c, if_neg (h1 ▸ c)]; exact ⟨h1, h2⟩
  · rw [if_neg c, if_neg c]
    exact Paired.app h (.cons ⟨rfl, r⟩ .nil)
theorem putD_len (kvs : List (Key × PyData)) (ky : Key) (v : PyData) : (putD kvs ky v).length ≤ kvs.length + 1 := by
  unfold putD
  split
  · rw [List.length_map]; omega
  · rw [List.length_append, List.length_cons, List.length_nil]; omega
theorem dic_at {σ : L2.St} {vs : List V} {H B : Hp} {a : Addr} {es : List (Key × PyData)} (g : GoodB K B0 F M ρ κ σ vs H B) (h : (a, .dic es) ∈ M) : ∃ kvs, H a = some (.dK kvs) ∧ EntsOk K B kvs es := by
  obtain ⟨_, _, u, ho, kvs, rfl, e⟩ := g.cells _ h
  exact ⟨kvs, ho, e⟩
/-- the key that a slot says -/
inductive KeyIs : Sl → Key → Prop
  | int (i : Int) : KeyIs (.d (.int i)) (.inl i)
  | str (x : Str) : KeyIs (.d (.str x)) (.inr x)
theorem KeyIs.v {σ : L2.St} {vs : List V} {H : Hp} {r : Sl} {ky : Key} {v : V} (q : KeyIs r ky) (g : Good K B0 F M ρ (r :: κ) σ (v :: vs) H) : v = kV ky := by
  cases q with
  | int i => exact g.int
  | str x => exact g.str
theorem de_dnew (h : ∀ p, P (.v (.ref p)) ((p, .dic []) :: M)) : DE X B0 F M ρ κ (.Dict [] [] pos) P := fun σ vs H Q g q => tOf_of pe_dnewK fun p hp => by
  obtain ⟨B, g⟩ := g
  exact q _ _ _ _ ⟨B, (g.cell (c := .dic []) hp ⟨[], rfl, .nil⟩).pushV⟩ (h p)
theorem de_dget (hu : X.A.units + 1 < cLine) (h : DE X B0 F M ρ κ o fun r1 M1 => DE X B0 F M1 ρ (r1 :: κ) i fun r2 M2 => ∃ a es ky d, r1 = .v (.ref a) ∧ (a, .dic es) ∈ M2 ∧ KeyIs r2 ky ∧ valD es ky = some d ∧ P (.d d) M2) (hs : NoSl i := by exact fun _ _ => rfl) : DE X B0 F M ρ κ (.Subscript o i pos) P :=
  fun σ vs H Q g q => tOf_of (pe_dget hu pe_self pe_self hs) (h σ vs H _ g fun x H1 r1 M1 g1 h1 => h1 σ (x :: vs) H1 _ g1 fun y H2 r2 M2 g2 h2 => by
    obtain ⟨a, es, ky, d, rfl, hm, hk, hd, hp⟩ := h2
    have e := g2.pop.ref
    subst e
    have e := hk.v g2
    subst e
    obtain ⟨B, g2⟩ := g2
    obtain ⟨kvs, ho, he⟩ := dic_at g2 hm
    obtain ⟨v, hv, hr⟩ := (ents_val he).1 d hd
    exact ⟨a, v, rfl, by rw [← hv]; exact DGet.k ho, q _ H2 _ M2 ⟨B, g2.pop.pop.pushD hr⟩ hp⟩)
theorem val_some {B : Hp} {ky : Key} {kvs : List (Key × V)} {es : List (Key × PyData)} (h : EntsOk K B kvs es) : (valV kvs ky).isSome = (valD es ky).isSome := by
  cases q : valD es ky with
  | none => rw [(ents_val h).2 q] <;> rfl
  | some d => obtain ⟨v, hv, _⟩ := (ents_val h).1 d q; rw [hv]; rfl
theorem de_din (hu : X.A.units + 1 < cLine) (h : DE X B0 F M ρ κ i fun r1 M1 => DE X B0 F M1 ρ (r1 :: κ) o fun r2 M2 => ∃ a es ky, r2 = .v (.ref a) ∧ (a, .dic es) ∈ M2 ∧ KeyIs r1 ky ∧ P (.d (.bool (valD es ky).isSome)) M2) (hb : behindInMarks .In o = false := by rfl) : DE X B0 F M ρ κ (.Compare i [.In] [o] pos) P :=
  fun σ vs H Q g q => tOf_of (pe_cmp (pc_din hu pe_self pe_self) hb) (h σ vs H _ g fun x H1 r1 M1 g1 h1 => h1 σ (x :: vs) H1 _ g1 fun y H2 r2 M2 g2 h2 => by
    obtain ⟨a, es, ky, rfl, hm, hk, hp⟩ := h2
    have e := g2.ref
    subst e
    have e := hk.v g2.pop
    subst e
    obtain ⟨B, g2⟩ := g2
    obtain ⟨kvs, ho, he⟩ := dic_at g2 hm
    exact ⟨a, _, rfl, DGet.k ho, q _ H2 _ M2 ⟨B, g2.pop.pop.pushD (by rw [val_some he]; exact .bl _)⟩ hp⟩)
theorem de_dnotin (hu : X.A.units + 1 < cLine) (h : DE X B0 F M ρ κ i fun r1 M1 => DE X B0 F M1 ρ (r1 :: κ) o fun r2 M2 => ∃ a es ky, r2 = .v (.ref a) ∧ (a, .dic es) ∈ M2 ∧ KeyIs r1 ky ∧ P (.d (.bool (!(valD es ky).isSome))) M2) (hb : behindInMarks .NotIn o = false := by rfl) : DE X B0 F M ρ κ (.Compare i [.NotIn] [o] pos) P :=
  fun σ vs H Q g q => tOf_of (pe_cmp (pc_dnotin hu pe_self pe_self) hb) (h σ vs H _ g fun x H1 r1 M1 g1 h1 => h1 σ (x :: vs) H1 _ g1 fun y H2 r2 M2 g2 h2 => by
    obtain ⟨a, es, ky, rfl, hm, hk, hp⟩ := h2
    have e := g2.ref
    subst e
    have e := hk.v g2.pop
    subst e
    obtain ⟨B, g2⟩ := g2
    obtain ⟨kvs, ho, he⟩ := dic_at g2 hm
    exact ⟨a, _, rfl, DGet.k ho, q _ H2 _ M2 ⟨B, g2.pop.pop.pushD (by rw [val_some he]; exact .bl _)⟩ hp⟩)
theorem dt_din {PT : Bool → Cs → Prop} (hu : X.A.units + 1 < cLine) (h : DE X B0 F M ρ κ i fun r1 M1 => DE X B0 F M1 ρ (r1 :: κ) o fun r2 M2 => ∃ a es ky, r2 = .v (.ref a) ∧ (a, .dic es) ∈ M2 ∧ KeyIs r1 ky ∧ PT (valD es ky).isSome M2) (hb : behindInMarks .In o = false := by rfl) : DT X B0 F M ρ κ (.Compare i [.In] [o] pos) PT :=
  fun σ vs H Q g q => tOfT_of (pt_cmp (pc_din hu pe_self pe_self) hb) (h σ vs H _ g fun x H1 r1 M1 g1 h1 => h1 σ (x :: vs) H1 _ g1 fun y H2 r2 M2 g2 h2 => by
    obtain ⟨a, es, ky, rfl, hm, hk, hp⟩ := h2
    have e := g2.ref
    subst e
    have e := hk.v g2.pop
    subst e
    obtain ⟨B, g2⟩ := g2
    obtain ⟨kvs, ho, he⟩ := dic_at g2 hm
    exact ⟨a, _, rfl, DGet.k ho, _, rfl, by rw [val_some he]; exact q _ H2 M2 ⟨B, g2.pop.pop⟩ hp⟩)
theorem dt_dnotin {PT : Bool → Cs → Prop} (hu : X.A.units + 1 < cLine) (h : DE X B0 F M ρ κ i fun r1 M1 => DE X B0 F M1 ρ (r1 :: κ) o fun r2 M2 => ∃ a es ky, r2 = .v (.ref a) ∧ (a, .dic es) ∈ M2 ∧ KeyIs r1 ky ∧ PT (!(valD es ky).isSome) M2) (hb : behindInMarks .NotIn o = false := by rfl) : DT X B0 F M ρ κ (.Compare i [.NotIn] [o] pos) PT :=
  fun σ vs H Q g q => tOfT_of (pt_cmp (pc_dnotin hu pe_self pe_self) hb) (h σ vs H _ g fun x H1 r1 M1 g1 h1 => h1 σ (x :: vs) H1 _ g1 fun y H2 r2 M2 g2 h2 => by
    obtain ⟨a, es, ky, rfl, hm, hk, hp⟩ := h2
    have e := g2.ref
    subst e
    have e := hk.v g2.pop
    subst e
    obtain ⟨B, g2⟩ := g2
    obtain ⟨kvs, ho, he⟩ := dic_at g2 hm
    exact ⟨a, _, rfl, DGet.k ho, _, rfl, by rw [val_some he]; exact q _ H2 M2 ⟨B, g2.pop.pop⟩ hp⟩)
/-- d[k] = .. : d a cell at place n -/
theorem dg_subD (n : Nat) (hu : X.A.units + 1 < cLine) {r : Sl} {Pg : Cs → List Sl → Prop} (h : DE X B0 F M ρ (r :: κ) o fun r1 M1 => DE X B0 F M1 ρ (r1 :: r :: κ) e fun r2 M2 => ∃ a es y ky, r1 = .v (.ref a) ∧ KeyIs r2 ky ∧ r = .d y ∧ M2[n]? = some (a, .dic es) ∧ es.length < 100000 ∧ Pg (M2.set n (a, .dic (putD es ky y))) ρ)
    (ha : ∀ v, assign (.Subscript o e pos) X.env v = (do
      let ov ← holding [v] (eval o X.env)
      let iv ← holding [v, ov] (eval e X.env)
      standAt pos
      holding [v, ov, iv] (setItem ov iv v)
      release [v, ov, iv] []) := by intro _; rfl) : DG X B0 F M ρ κ r (.Subscript o e pos) Pg := fun σ vs H x Q g q => by
  refine tOfG_of (pg_sub pe_self pe_self (set_dict hu) ha) ?_
  refine h σ (x :: vs) H _ g fun v1 H1 r1 M1 g1 h1 => h1 σ (v1 :: x :: vs) H1 _ g1 fun v2 H2 r2 M2 g2 h2 => ?_
  obtain ⟨a, es, y, ky, rfl, hk, rfl, hn, hl, hp⟩ := h2
  have e := g2.pop.ref
  subst e
  have e := hk.v g2
  subst e
  obtain ⟨B, g2⟩ := g2
  obtain ⟨kvs, ho, he⟩ := dic_at g2 (List.mem_of_getElem? hn)
  have hz : (100000 : Nat) ≤ sizeLine := by decide
  exact ⟨a, _, rfl, DPut.k ho (by rw [Paired.length he]; omega), q _ _ _ _ ⟨B, g2.pop.pop.pop.write (c' := .dic (putD es ky y)) hn ⟨_, rfl, ents_put g2.pop.pop.fst he⟩⟩ hp⟩
/-- the statement d[k] = e -/
theorem ds_dput (n : Nat) (hu : X.A.units + 1 < cLine) {v : Expr} {pos' : Pos} (h : DE X B0 F M ρ κ v fun r M0 => DE X B0 F M0 ρ (r :: κ) o fun r1 M1 => DE X B0 F M1 ρ (r1 :: r :: κ) e fun r2 M2 => ∃ a es y ky, r1 = .v (.ref a) ∧ KeyIs r2 ky ∧ r = .d y ∧ M2[n]? = some (a, .dic es) ∧ es.length < 100000 ∧ k.nx (M2.set n (a, .dic (putD es ky y))) ρ)
    (hs : swapsWith v (some (.Subscript o e pos')) pos.line X.env = pure false := by rfl) : DS X B0 F M ρ κ (.Assign [.Subscript o e pos'] v pos) k := fun σ vs H D g c => tOfS_of (ps_dput hu pe_self pe_self pe_self hs) (by
    refine h σ vs H _ g fun v0 H0 r0 M0 g0 h0 => h0 σ (v0 :: vs) H0 _ g0 fun v1 H1 r1 M1 g1 h1 => h1 σ (v1 :: v0 :: vs) H1 _ g1 fun v2 H2 r2 M2 g2 h2 => ?_
    obtain ⟨a, es, y, ky, rfl, hk, rfl, hn, hl, hp⟩ := h2
    have e := g2.pop.ref
    subst e
    have e := hk.v g2
    subst e
    obtain ⟨B, g2⟩ := g2
    obtain ⟨kvs, ho, he⟩ := dic_at g2 (List.mem_of_getElem? hn)
    have hz : (100000 : Nat) ≤ sizeLine := by decide
    exact ⟨a, _, rfl, DPut.k ho (by rw [Paired.length he]; omega), c.nx _ _ _ _ ⟨B, g2.pop.pop.pop.write (c' := .dic (putD es ky y)) hn ⟨_, rfl, ents_put g2.pop.pop.fst he⟩⟩ hp⟩)
/-- {k: v}: one entry -/
theorem de_disp1 {ke ve : Expr} (h : ∀ p, DE X B0 F ((p, .dic []) :: M) ρ κ ke fun r1 M1 => DE X B0 F M1 ρ (r1 :: κ) ve fun r2 M2 => ∃ ky d M3, KeyIs r1 ky ∧ r2 = .d d ∧ M2 = (p, .dic []) :: M3 ∧ P (.v (.ref p)) ((p, .dic [(ky, d)]) :: M3)) : DE X B0 F M ρ κ (.Dict [some ke] [ve] pos) P := fun σ vs H Q g q => tOf_of (pe_disp (pps_cons pe_self pe_self pps_nil) (by rfl) (by rfl) (fun z => by cases z) (by decide : 1 ≤ 15)) fun p hp => by
  obtain ⟨B, g⟩ := g
  have g0 := g.cell (c := .dic []) hp ⟨[], rfl, .nil⟩
  refine h p σ vs _ _ ⟨B, g0⟩ fun x H1 r1 M1 g1 h1 => h1 σ (x :: vs) H1 _ g1 fun y H2 r2 M2 g2 h2 => ?_
  obtain ⟨ky, d, M3, hk, rfl, rfl, hP⟩ := h2
  have e := hk.v g2.pop
  subst e
  obtain ⟨B, g2⟩ := g2
  obtain ⟨kvs, ho, he⟩ := dic_at g2 List.mem_cons_self
  cases he
  exact ⟨ho, [(ky, y)], rfl, (by show 1 ≤ 15; decide), q _ _ _ _ ⟨B, ((g2.pop.pop).write (j := 0) (c := .dic []) (c' := .dic [(ky, d)]) rfl ⟨[(ky, y)], rfl, .cons ⟨rfl, (show Rp X.K B y d from g2.fst)⟩ .nil⟩).pushV⟩ hP⟩
end

/-! ### two and three plain names at once -/
section
variable {X : Cx} {B0 F : Hp} {M : Cs} {ρ κ : List Sl} {a b c : Expr} {pos px py pz pt pt2 : Pos} {k : KK} {x y z : Str} {kt k2 : Nat}
theorem ds_par (i j : Nat) (h : DA X B0 F M ρ κ [a, b] fun rs M1 => ∃ r1 r2, rs = [r1, r2] ∧ k.nx M1 ((ρ.set i r1).set j r2)) (hij : i ≠ j := by decide) (hN : X.N.Nodup := by exact (by assumption)) (hi : X.N[i]? = some x := by rfl) (hj : X.N[j]? = some y := by rfl)
    (hx : X.env.scope.names.lookup x = some .local := by rfl) (hy : X.env.scope.names.lookup y = some .local := by rfl) (hc : X.calm = true := by rfl)
    (hw : swappedStores [.Tuple [.Name x px, .Name y py] kt pt] (.Tuple [a, b] k2 pt2) X.env = pure (some [x, y]) := by rfl)
    (hs : swapsWithSole [.Tuple [.Name x px, .Name y py] kt pt] (.Tuple [a, b] k2 pt2) pos.line X.env = pure false := by rfl) : DS X B0 F M ρ κ (.Assign [.Tuple [.Name x px, .Name y py] kt pt] (.Tuple [a, b] k2 pt2) pos) k :=
  fun σ vs H D g cn => tOfS_of (ps_par hc hN hi hj hij hx hy pa_self hw hs) (h σ vs H _ g fun ws H1 rs M1 hl g1 h1 => by
    obtain ⟨r1, r2, rfl, hk⟩ := h1
    obtain ⟨v1, v2, rfl⟩ := two_args hl rfl
    refine ⟨v1, v2, rfl, cn.nx _ H1 M1 _ ?_ hk⟩
    obtain ⟨B, g1⟩ := g1
    have g2 : GoodB X.K B0 F M1 ρ (r1 :: r2 :: κ) σ (v1 :: v2 :: vs) H1 B := g1
    exact ⟨B, g2.pop.pop.slt (Paired.set (OOk.of g2.pop.fst) j (Paired.set (OOk.of g2.fst) i g2.sl))⟩)
theorem ds_par3 (i j l : Nat) (h : DA X B0 F M ρ κ [a, b, c] fun rs M1 => ∃ r1 r2 r3, rs = [r1, r2, r3] ∧ k.nx M1 (((ρ.set i r1).set j r2).set l r3)) (hij : i ≠ j := by decide) (hil : i ≠ l := by decide) (hjl : j ≠ l := by decide) (hN : X.N.Nodup := by exact (by assumption)) (hi : X.N[i]? = some x := by rfl) (hj : X.N[j]? = some y := by rfl) (hl : X.N[l]? = some z := by rfl)
    (hx : X.env.scope.names.lookup x = some .local := by rfl) (hy : X.env.scope.names.lookup y = some .local := by rfl) (hz : X.env.scope.names.lookup z = some .local := by rfl) (hc : X.calm = true := by rfl)
    (hw : swappedStores [.Tuple [.Name x px, .Name y py, .Name z pz] kt pt] (.Tuple [a, b, c] k2 pt2) X.env = pure (some [x, y, z]) := by rfl)
    (hs : swapsWithSole [.Tuple [.Name x px, .Name y py, .Name z pz] kt pt] (.Tuple [a, b, c] k2 pt2) pos.line X.env = pure false := by rfl) : DS X B0 F M ρ κ (.Assign [.Tuple [.Name x px, .Name y py, .Name z pz] kt pt] (.Tuple [a, b, c] k2 pt2) pos) k :=
  fun σ vs H D g cn => tOfS_of (L2.ps_par3 hc hN hi hj hl hij hil hjl hx hy hz pa_self hw hs) (h σ vs H _ g fun ws H1 rs M1 hlen g1 h1 => by
    obtain ⟨r1, r2, r3, rfl, hk⟩ := h1
    match ws, hlen, g1 with
    | [v1, v2, v3], _, g1 =>
      refine ⟨v1, v2, v3, rfl, cn.nx _ H1 M1 _ ?_ hk⟩
      obtain ⟨B, g1⟩ := g1
      have g2 : GoodB X.K B0 F M1 ρ (r1 :: r2 :: r3 :: κ) σ (v1 :: v2 :: v3 :: vs) H1 B := g1
      exact ⟨B, g2.pop.pop.pop.slt (Paired.set (OOk.of g2.pop.pop.fst) l (Paired.set (OOk.of g2.pop.fst) j (Paired.set (OOk.of g2.fst) i g2.sl)))⟩)
end

/-! ### ranges as values -/
section
variable {X : Cx} {K : Fg} {B0 F : Hp} {M : Cs} {ρ κ : List Sl} {P : Sl → Cs → Prop} {tg iter a b e : Expr} {pos p : Pos} {R : List PyData → Sl → (Cs → Prop) → Cs → Prop}
theorem rngV_rp {H : Hp} (a b : Int) : RpA K H (rgV a b) (rngD a (b - a).toNat) := by
  unfold rgV rngD
  have : ∀ (l : List Nat), RpA K H (l.map fun i => V.int (a + (i : Nat))) (l.map fun i => PyData.int (a + (i : Nat))) := by
    intro l
    induction l with
    | nil => exact .nil
    | cons x l ih => exact .cons (.int _) ih
  exact this _
/-- tuple(range(a, b)) | tuple(range(b)), list likewise -/
theorem de_tupRg1 {p2 : Pos} (hm : X.mg "tuple" = none) (hm2 : X.mg "range" = none) (h : DE X B0 F M ρ κ a fun r M1 => ∃ n, r = .d (.int n) ∧ RgOk 0 n ∧ P (.d (.tuple (rngD 0 n.toNat))) M1) (hc : X.calm = true := by rfl) (hg : Gl X "tuple" := by rfl) (hg2 : Gl X "range" := by rfl)
    (pe : PE X (.Call (.Name "tuple" p) [.Call (.Name "range" p2) [a] [] pos] [] pos) (tTupRg (tRg1 (tOf X a))) := by exact pe_tupRg rfl rfl (by assumption) (prg_1 rfl (by assumption) pe_self)) : DE X B0 F M ρ κ (.Call (.Name "tuple" p) [.Call (.Name "range" p2) [a] [] pos] [] pos) P := fun σ vs H Q g q => tOf_of pe (h σ vs H _ g fun v H1 r M1 g1 h1 => by
    obtain ⟨n, rfl, ok, hp⟩ := h1
    have e := g1.int
    subst e
    refine ⟨n, rfl, ok, fun l hl => q _ _ _ M1 ?_ hp⟩
    obtain ⟨B, g1⟩ := g1
    have e : (n - 0).toNat = n.toNat := by omega
    exact ⟨_, (g1.pop.laid (o := .tup (rgV 0 n)) hl).pushD (.tup (SqT.of upd_same) (by rw [← e]; exact rngV_rp 0 n))⟩)
end
end DL
set_option maxHeartbeats 2000000
namespace DL
open PySem PySem.Spec PyProof.Rows L2

section
variable {X : Cx} {K : Fg} {B0 F : Hp} {M : Cs} {ρ κ : List Sl} {P : Sl → Cs → Prop} {a b c e o elt tg iter : Expr} {pos p : Pos} {k : KK} {R : List PyData → Sl → (Cs → Prop) → Cs → Prop}
/-! ### shorter words -/
theorem nm (i : Nat) {x : Str} {pos : Pos} {r : Sl} (hr : ρ[i]? = some r) (h : P r M) (hu : r ≠ .un := by intro h; cases h) (hN : X.N[i]? = some x := by rfl) (hv : Vis X.env.scope x := by first | exact Or.inl rfl | exact Or.inr (Or.inl rfl) | exact Or.inr (Or.inr rfl)) (hd : (x == ("__debug__" : Str)) = false := by decide)
    (hcd : (x == ("__classdict__" : Str)) = false := by decide) : DE X B0 F M ρ κ (.Name x pos) P := de_name i hr hu h hN hv hd hcd
theorem r2_i {f : Int → Int → Int} {i j : Int} (h : P (.d (.int (f i j))) M) : R2D K B0 F ρ κ (rI0 fun i j => .int (f i j)) (.d (.int i)) (.d (.int j)) M P := r2_I0 (fun _ => .int _) h
theorem r2_b {f : Int → Int → Bool} {i j : Int} (h : P (.d (.bool (f i j))) M) : R2D K B0 F ρ κ (rI0 fun i j => .bl (f i j)) (.d (.int i)) (.d (.int j)) M P := r2_I0 (fun _ => .bl _) h
theorem r2_c {C : Int → Int → Prop} {f : Int → Int → Int} {i j : Int} (hc : C i j) (h : P (.d (.int (f i j))) M) : R2D K B0 F ρ κ (rI C fun i j => .int (f i j)) (.d (.int i)) (.d (.int j)) M P := r2_I (fun _ => .int _) hc h
/-- .. as tests -/
theorem r2_t {f : Int → Int → Bool} {PT : Bool → Cs → Prop} {i j : Int} (h : PT (f i j) M) : R2D K B0 F ρ κ (rI0 fun i j => .bl (f i j)) (.d (.int i)) (.d (.int j)) M fun r' M' => ∃ k, r' = .d (.bool k) ∧ PT k M' := r2_b ⟨_, rfl, h⟩
theorem r2_teq {PT : Bool → Cs → Prop} {i j : Int} (h : PT (decide (i = j)) M) : R2D K B0 F ρ κ rEq (.d (.int i)) (.d (.int j)) M fun r' M' => ∃ k, r' = .d (.bool k) ∧ PT k M' := r2_eqI ⟨_, rfl, h⟩
theorem r2_tne {PT : Bool → Cs → Prop} {i j : Int} (h : PT (!decide (i = j)) M) : R2D K B0 F ρ κ rNe (.d (.int i)) (.d (.int j)) M fun r' M' => ∃ k, r' = .d (.bool k) ∧ PT k M' := r2_neI ⟨_, rfl, h⟩
theorem decS {i j : Str} : decide (V.str i = V.str j) = decide (i = j) := by
  by_cases h : i = j
  · subst h; simp
  · rw [decide_eq_false h, decide_eq_false (fun e => h (V.str.inj e))]
theorem r2_tseq {PT : Bool → Cs → Prop} {i j : Str} (h : PT (decide (i = j)) M) : R2D K B0 F ρ κ rEq (.d (.str i)) (.d (.str j)) M fun r' M' => ∃ k, r' = .d (.bool k) ∧ PT k M' := r2_eq rfl rfl rfl (by rw [decS]; exact ⟨_, rfl, h⟩)
/-- a test, both ways, by what it decides -/
theorem ways {A B : Prop} {b : Bool} (h1 : b = true → A) (h2 : b = false → B) : (b = true → A) ∧ (b = false → B) := ⟨h1, h2⟩
theorem waysD {A B C : Prop} [Decidable C] (h1 : C → A) (h2 : ¬ C → B) : (decide C = true → A) ∧ (decide C = false → B) := ⟨fun h => h1 (of_decide_eq_true h), fun h => h2 (of_decide_eq_false h)⟩
theorem waysN {A B C : Prop} [Decidable C] (h1 : ¬ C → A) (h2 : C → B) : ((!decide C) = true → A) ∧ ((!decide C) = false → B) := by
  by_cases z : C
  · rw [decide_eq_true z]; exact ⟨(fun h => by cases h), fun _ => h2 z⟩
  · rw [decide_eq_false z]; exact ⟨fun _ => h1 z, fun h => by cases h⟩
theorem waysT {A B : Prop} {b : Bool} (e : b = true) (h : A) : (b = true → A) ∧ (b = false → B) := ⟨fun _ => h, fun z => by rw [e] at z; cases z⟩
theorem waysF {A B : Prop} {b : Bool} (e : b = false) (h : B) : (b = true → A) ∧ (b = false → B) := ⟨(fun z => by rw [e] at z; cases z), fun _ => h⟩
theorem map_get {α β : Type} {f : α → β} {l : List α} {i : Nat} {d : β} (h : (l.map f)[i]? = some d) : ∃ z, l[i]? = some z ∧ d = f z := by
  rw [List.getElem?_map] at h
  cases q : l[i]? with
  | none => rw [q] at h; cases h
  | some z => rw [q] at h; exact ⟨z, rfl, (Option.some.inj h).symm⟩
theorem take_get {α : Type} {l : List α} {i : Nat} {x : α} (h : l[i]? = some x) : l.take (i + 1) = l.take i ++ [x] := by rw [List.take_add_one, h]; rfl
theorem atI_at {α : Type} {xs : List α} {i : Int} {x : α} (h0 : 0 ≤ i) (h : xs[i.toNat]? = some x) : atI xs i = some x := by
  have e : i = ((i.toNat : Nat) : Int) := by omega
  rw [e]
  exact atI_nat (by simpa using h)

/-! ### comprehensions whose turns leave all as it was -/
/-- [elt for x in iter]: f of each item -/
theorem gu_lcF {u : Use} (i : Nat) (f : PyData → PyData) {x : Str} {px : Pos} {scope : Scope} (h : DI X B0 F M ρ κ (.Name x px) iter fun ds s Src M1 => ds.length ≤ 100000 ∧ (∀ D acc, Src M1 → Src ((D, .lst acc) :: M1)) ∧
      (∀ d D acc, d ∈ ds → ∀ b : BA, DE (bk X scope b) B0 F ((D, .lst acc) :: M1) ((ρ.set i .un).set i (.d d)) (s :: (ρ ++ κ)) elt fun r M2 => r = .d (f d) ∧ M2 = (D, .lst acc) :: M1) ∧ ∀ D, P (.v (.ref D)) ((D, .lst (ds.map f)) :: M1))
      (hN : X.N.Nodup := by exact (by assumption)) (ok : BlkOk X.N X.env.scope scope [(x, i)] := by exact blkOk_by (by kernel_rfl)) (hg : ∀ b : BA, PG (bk X scope b) (.Name x px) (gName i) := by exact fun b => pg_name (by assumption) rfl (by first | exact Or.inl rfl | exact Or.inr rfl))
      (hc : X.calm = true := by rfl) (hs : ∀ x, foldedSetIterable iter X.env x = pure x := by intro _; rfl)  (hu : UseOk X u (.ListComp elt [⟨.Name x px, iter, [], 0⟩] scope pos) := by first | exact trivial | exact ⟨rfl, rfl, (by first | rfl | kernel_rfl)⟩) : DEu X B0 F M ρ κ u (.ListComp elt [⟨.Name x px, iter, [], 0⟩] scope pos) P := by
  refine gu_lcC (hu := hu) i (fun σ vs H Q g q => h σ vs H Q g fun J H1 M1 ds s v Src g1 dw hsrc hr => q J H1 M1 ds s v Src g1 dw hsrc fun D => ?_) hN ok hg hc hs
  obtain ⟨hz, hs', hst, hd⟩ := hr
  refine ⟨fun j acc M => M = M1 ∧ j ≤ ds.length ∧ acc = (ds.take j).map f, ⟨rfl, Nat.zero_le _, rfl⟩, ?_, ?_, ?_⟩
  · rintro j acc M ⟨rfl, _, rfl⟩
    exact hs' D _ hsrc
  · rintro j d acc M hdd ⟨rfl, hj, rfl⟩ b
    refine (hst d D _ (List.mem_of_getElem? hdd) b).mono ?_
    rintro r M2 ⟨rfl, rfl⟩
    refine ⟨f d, _, rfl, rfl, ?_, rfl, (List.getElem?_eq_some_iff.mp hdd).1, by rw [take_get hdd, List.map_append]; rfl⟩
    have hj2 := (List.getElem?_eq_some_iff.mp hdd).1
    rw [List.length_map, List.length_take]
    omega
  · rintro acc M ⟨rfl, _, rfl⟩
    rw [List.take_length]
    exact hd D
theorem de_lcF (i : Nat) (f : PyData → PyData) {x : Str} {px : Pos} {scope : Scope} (h : DI X B0 F M ρ κ (.Name x px) iter fun ds s Src M1 => ds.length ≤ 100000 ∧ (∀ D acc, Src M1 → Src ((D, .lst acc) :: M1)) ∧
      (∀ d D acc, d ∈ ds → ∀ b : BA, DE (bk X scope b) B0 F ((D, .lst acc) :: M1) ((ρ.set i .un).set i (.d d)) (s :: (ρ ++ κ)) elt fun r M2 => r = .d (f d) ∧ M2 = (D, .lst acc) :: M1) ∧ ∀ D, P (.v (.ref D)) ((D, .lst (ds.map f)) :: M1))
      (hN : X.N.Nodup := by exact (by assumption)) (ok : BlkOk X.N X.env.scope scope [(x, i)] := by exact blkOk_by (by kernel_rfl)) (hg : ∀ b : BA, PG (bk X scope b) (.Name x px) (gName i) := by exact fun b => pg_name (by assumption) rfl (by first | exact Or.inl rfl | exact Or.inr rfl))
      (hc : X.calm = true := by rfl) (hs : ∀ x, foldedSetIterable iter X.env x = pure x := by intro _; rfl) : DE X B0 F M ρ κ (.ListComp elt [⟨.Name x px, iter, [], 0⟩] scope pos) P :=
  gu_lcF (u := none) i f h hN ok hg hc hs trivial
/-- [elt for x in iter if c] -/
theorem gu_lcIfF {u : Use} (i : Nat) (t : PyData → Bool) (f : PyData → PyData) {x : Str} {px : Pos} {scope : Scope} (h : DI X B0 F M ρ κ (.Name x px) iter fun ds s Src M1 => ds.length ≤ 100000 ∧ (∀ D acc, Src M1 → Src ((D, .lst acc) :: M1)) ∧
      (∀ d D acc, d ∈ ds → ∀ b : BA, DT (bk X scope b) B0 F ((D, .lst acc) :: M1) ((ρ.set i .un).set i (.d d)) (s :: (ρ ++ κ)) c fun k M2 => k = t d ∧ M2 = (D, .lst acc) :: M1) ∧
      (∀ d D acc, d ∈ ds → t d = true → ∀ b : BA, DE (bk X scope b) B0 F ((D, .lst acc) :: M1) ((ρ.set i .un).set i (.d d)) (s :: (ρ ++ κ)) elt fun r M2 => r = .d (f d) ∧ M2 = (D, .lst acc) :: M1) ∧ ∀ D, P (.v (.ref D)) ((D, .lst ((ds.filter t).map f)) :: M1))
      (hN : X.N.Nodup := by exact (by assumption)) (ok : BlkOk X.N X.env.scope scope [(x, i)] := by exact blkOk_by (by kernel_rfl)) (hg : ∀ b : BA, PG (bk X scope b) (.Name x px) (gName i) := by exact fun b => pg_name (by assumption) rfl (by first | exact Or.inl rfl | exact Or.inr rfl))
      (hc : X.calm = true := by rfl) (hs : ∀ x, foldedSetIterable iter X.env x = pure x := by intro _; rfl)  (hu : UseOk X u (.ListComp elt [⟨.Name x px, iter, [c], 0⟩] scope pos) := by first | exact trivial | exact ⟨rfl, rfl, (by first | rfl | kernel_rfl)⟩) : DEu X B0 F M ρ κ u (.ListComp elt [⟨.Name x px, iter, [c], 0⟩] scope pos) P := by
  refine gu_lcIfC (hu := hu) i (fun σ vs H Q g q => h σ vs H Q g fun J H1 M1 ds s v Src g1 dw hsrc hr => q J H1 M1 ds s v Src g1 dw hsrc fun D => ?_) hN ok hg hc hs
  obtain ⟨hz, hs', ht, hst, hd⟩ := hr
  refine ⟨fun j acc M => M = M1 ∧ j ≤ ds.length ∧ acc = ((ds.take j).filter t).map f, ⟨rfl, Nat.zero_le _, rfl⟩, ?_, ?_, ?_⟩
  · rintro j acc M ⟨rfl, _, rfl⟩
    exact hs' D _ hsrc
  · rintro j d acc M hdd ⟨rfl, hj, rfl⟩ b
    have hj2 := (List.getElem?_eq_some_iff.mp hdd).1
    refine (ht d D _ (List.mem_of_getElem? hdd) b).mono ?_
    rintro k M2 ⟨rfl, rfl⟩
    refine ⟨fun htd b2 => (hst d D _ (List.mem_of_getElem? hdd) htd b2).mono ?_, fun htd => ⟨_, rfl, rfl, hj2, ?_⟩⟩
    · rintro r M2 ⟨rfl, rfl⟩
      refine ⟨f d, _, rfl, rfl, ?_, rfl, hj2, ?_⟩
      · rw [List.length_map]
        have := List.length_filter_le t (ds.take j)
        rw [List.length_take] at this
        omega
      · rw [take_get hdd, List.filter_append, List.filter_cons, if_pos htd, List.map_append]; rfl
    · rw [take_get hdd, List.filter_append, List.filter_cons, if_neg (by rw [htd]; decide), List.filter_nil, List.append_nil]
  · rintro acc M ⟨rfl, _, rfl⟩
    rw [List.take_length]
    exact hd D
theorem de_lcIfF (i : Nat) (t : PyData → Bool) (f : PyData → PyData) {x : Str} {px : Pos} {scope : Scope} (h : DI X B0 F M ρ κ (.Name x px) iter fun ds s Src M1 => ds.length ≤ 100000 ∧ (∀ D acc, Src M1 → Src ((D, .lst acc) :: M1)) ∧
      (∀ d D acc, d ∈ ds → ∀ b : BA, DT (bk X scope b) B0 F ((D, .lst acc) :: M1) ((ρ.set i .un).set i (.d d)) (s :: (ρ ++ κ)) c fun k M2 => k = t d ∧ M2 = (D, .lst acc) :: M1) ∧
      (∀ d D acc, d ∈ ds → t d = true → ∀ b : BA, DE (bk X scope b) B0 F ((D, .lst acc) :: M1) ((ρ.set i .un).set i (.d d)) (s :: (ρ ++ κ)) elt fun r M2 => r = .d (f d) ∧ M2 = (D, .lst acc) :: M1) ∧ ∀ D, P (.v (.ref D)) ((D, .lst ((ds.filter t).map f)) :: M1))
      (hN : X.N.Nodup := by exact (by assumption)) (ok : BlkOk X.N X.env.scope scope [(x, i)] := by exact blkOk_by (by kernel_rfl)) (hg : ∀ b : BA, PG (bk X scope b) (.Name x px) (gName i) := by exact fun b => pg_name (by assumption) rfl (by first | exact Or.inl rfl | exact Or.inr rfl))
      (hc : X.calm = true := by rfl) (hs : ∀ x, foldedSetIterable iter X.env x = pure x := by intro _; rfl) : DE X B0 F M ρ κ (.ListComp elt [⟨.Name x px, iter, [c], 0⟩] scope pos) P :=
  gu_lcIfF (u := none) i t f h hN ok hg hc hs trivial
/-- [elt for x, y in iter]: x, y in slots i, j -/
theorem gu_lc2C {u : Use} (i j : Nat) (hij : i ≠ j) {x y : Str} {px py pt : Pos} {kt : Nat} {scope : Scope} (h : DI X B0 F M ρ κ (.Tuple [.Name x px, .Name y py] kt pt) iter fun ds s Src M1 => ∀ D, ∃ Iv : Nat → List PyData → Cs → Prop, Iv 0 [] M1 ∧ (∀ i acc M, Iv i acc M → Src ((D, .lst acc) :: M)) ∧
      (∀ n d acc M, ds[n]? = some d → Iv n acc M → ∃ d1 d2, d = .tuple [d1, d2] ∧ ∀ b : BA, DE (bk X scope b) B0 F ((D, .lst acc) :: M) ((((ρ.set j .un).set i .un).set i (.d d1)).set j (.d d2)) (s :: (ρ ++ κ)) elt fun r M2 => ∃ y M', r = .d y ∧ M2 = (D, .lst acc) :: M' ∧ acc.length < 100000 ∧ Iv (n + 1) (acc ++ [y]) M') ∧
      ∀ acc M, Iv ds.length acc M → P (.v (.ref D)) ((D, .lst acc) :: M)) (hN : X.N.Nodup := by exact (by assumption)) (ok : BlkOk X.N X.env.scope scope [(x, i), (y, j)] := by exact blkOk_by (by kernel_rfl))
      (hg : ∀ b : BA, PG (bk X scope b) (.Tuple [.Name x px, .Name y py] kt pt) (gTup X.K 2 (gCons (gName i) (gCons (gName j) gNil))) := by exact fun b => pg_tup rfl (pgs_cons (pg_name (by assumption) rfl (by first | exact Or.inl rfl | exact Or.inr rfl)) (pgs_cons (pg_name (by assumption) rfl (by first | exact Or.inl rfl | exact Or.inr rfl)) pgs_nil)))
      (hc : X.calm = true := by rfl) (hs : ∀ x, foldedSetIterable iter X.env x = pure x := by intro _; rfl)  (hu : UseOk X u (.ListComp elt [⟨.Tuple [.Name x px, .Name y py] kt pt, iter, [], 0⟩] scope pos) := by first | exact trivial | exact ⟨rfl, rfl, (by first | rfl | kernel_rfl)⟩) : DEu X B0 F M ρ κ u (.ListComp elt [⟨.Tuple [.Name x px, .Name y py] kt pt, iter, [], 0⟩] scope pos) P :=
  lc_mainU (hu := hu) (own := [(x, i), (y, j)]) (g := gTup X.K 2 (gCons (gName i) (gCons (gName j) gNil))) (tt := tYes) hc hN ok hg (fun _ => pts_nil) hs fun σ vs H Q g0 q => h σ vs H Q g0 fun J H1 M1 ds s v Src g1 dw hsrc hr => q J H1 M1 ds s v Src g1 dw hsrc fun D => by
    obtain ⟨Iv, h0, hsr, hst, hd⟩ := hr D
    refine ⟨Iv, h0, hsr, fun n d acc M σ vs H x Q hdd hI g hq => ?_, hd⟩
    obtain ⟨d1, d2, rfl, hst⟩ := hst n d acc M hdd hI
    obtain ⟨B, g⟩ := g
    obtain ⟨ad, xs, rfl, hx, hr⟩ := Rp.tup_inv g.fst
    cases hr with
    | cons hr1 hr2 =>
      cases hr2 with
      | cons hr2 hr3 =>
        cases hr3
        rename_i v1 v2
        refine ⟨ad, _, rfl, same_t g.bh hx, rfl, v1, _, rfl, v2, _, rfl, rfl, ?_, ?_⟩
        · rw [wipe_set (by simp), wipe_set (by simp)]
        · have fin : ∀ b : BA, tOf (bk X scope b) elt ((σ.set i (some v1)).set j (some v2)) H fun y H4 => ∃ ac, H4 D = some (.lst ac) ∧ ac.length < sizeLine ∧ Q (upd H4 D (.lst (ac ++ [y]))) := ?_
          · unfold tYes
            dsimp only
            rw [if_pos rfl]
            exact fin
          intro b
          have g2 : Good X.K B0 F ((D, .lst acc) :: M) ((((ρ.set j .un).set i .un).set i (.d d1)).set j (.d d2)) (s :: (ρ ++ κ)) ((σ.set i (some v1)).set j (some v2)) vs H :=
            ⟨B, g.pop.slt (Paired.set (OOk.of (s := .d d2) hr2) j (Paired.set (OOk.of (s := .d d1) hr1) i g.sl))⟩
          refine hst b _ vs H _ g2 fun y H4 r M2 g4 h4 => ?_
          obtain ⟨y', M', rfl, rfl, hl, hI'⟩ := h4
          exact lc_push g4 hl fun H' g5 => hq _ _ _ _ _ g5 hI'
theorem de_lc2C (i j : Nat) (hij : i ≠ j) {x y : Str} {px py pt : Pos} {kt : Nat} {scope : Scope} (h : DI X B0 F M ρ κ (.Tuple [.Name x px, .Name y py] kt pt) iter fun ds s Src M1 => ∀ D, ∃ Iv : Nat → List PyData → Cs → Prop, Iv 0 [] M1 ∧ (∀ i acc M, Iv i acc M → Src ((D, .lst acc) :: M)) ∧
      (∀ n d acc M, ds[n]? = some d → Iv n acc M → ∃ d1 d2, d = .tuple [d1, d2] ∧ ∀ b : BA, DE (bk X scope b) B0 F ((D, .lst acc) :: M) ((((ρ.set j .un).set i .un).set i (.d d1)).set j (.d d2)) (s :: (ρ ++ κ)) elt fun r M2 => ∃ y M', r = .d y ∧ M2 = (D, .lst acc) :: M' ∧ acc.length < 100000 ∧ Iv (n + 1) (acc ++ [y]) M') ∧
      ∀ acc M, Iv ds.length acc M → P (.v (.ref D)) ((D, .lst acc) :: M)) (hN : X.N.Nodup := by exact (by assumption)) (ok : BlkOk X.N X.env.scope scope [(x, i), (y, j)] := by exact blkOk_by (by kernel_rfl))
      (hg : ∀ b : BA, PG (bk X scope b) (.Tuple [.Name x px, .Name y py] kt pt) (gTup X.K 2 (gCons (gName i) (gCons (gName j) gNil))) := by exact fun b => pg_tup rfl (pgs_cons (pg_name (by assumption) rfl (by first | exact Or.inl rfl | exact Or.inr rfl)) (pgs_cons (pg_name (by assumption) rfl (by first | exact Or.inl rfl | exact Or.inr rfl)) pgs_nil)))
      (hc : X.calm = true := by rfl) (hs : ∀ x, foldedSetIterable iter X.env x = pure x := by intro _; rfl) : DE X B0 F M ρ κ (.ListComp elt [⟨.Tuple [.Name x px, .Name y py] kt pt, iter, [], 0⟩] scope pos) P :=
  gu_lc2C (u := none) i j hij h hN ok hg hc hs trivial
/-- [elt for x, y in iter if c] -/
theorem gu_lc2IfC {u : Use} (i j : Nat) (hij : i ≠ j) {x y : Str} {px py pt : Pos} {kt : Nat} {scope : Scope} (h : DI X B0 F M ρ κ (.Tuple [.Name x px, .Name y py] kt pt) iter fun ds s Src M1 => ∀ D, ∃ Iv : Nat → List PyData → Cs → Prop, Iv 0 [] M1 ∧ (∀ i acc M, Iv i acc M → Src ((D, .lst acc) :: M)) ∧
      (∀ n d acc M, ds[n]? = some d → Iv n acc M → ∃ d1 d2, d = .tuple [d1, d2] ∧ ∀ b : BA, DT (bk X scope b) B0 F ((D, .lst acc) :: M) ((((ρ.set j .un).set i .un).set i (.d d1)).set j (.d d2)) (s :: (ρ ++ κ)) c fun k M2 =>
        (k = true → ∀ b : BA, DE (bk X scope b) B0 F M2 ((((ρ.set j .un).set i .un).set i (.d d1)).set j (.d d2)) (s :: (ρ ++ κ)) elt fun r M2 => ∃ y M', r = .d y ∧ M2 = (D, .lst acc) :: M' ∧ acc.length < 100000 ∧ Iv (n + 1) (acc ++ [y]) M') ∧
        (k = false → ∃ M', M2 = (D, .lst acc) :: M' ∧ Iv (n + 1) acc M')) ∧
      ∀ acc M, Iv ds.length acc M → P (.v (.ref D)) ((D, .lst acc) :: M)) (hN : X.N.Nodup := by exact (by assumption)) (ok : BlkOk X.N X.env.scope scope [(x, i), (y, j)] := by exact blkOk_by (by kernel_rfl))
      (hg : ∀ b : BA, PG (bk X scope b) (.Tuple [.Name x px, .Name y py] kt pt) (gTup X.K 2 (gCons (gName i) (gCons (gName j) gNil))) := by exact fun b => pg_tup rfl (pgs_cons (pg_name (by assumption) rfl (by first | exact Or.inl rfl | exact Or.inr rfl)) (pgs_cons (pg_name (by assumption) rfl (by first | exact Or.inl rfl | exact Or.inr rfl)) pgs_nil)))
      (hc : X.calm = true := by rfl) (hs : ∀ x, foldedSetIterable iter X.env x = pure x := by intro _; rfl)  (hu : UseOk X u (.ListComp elt [⟨.Tuple [.Name x px, .Name y py] kt pt, iter, [c], 0⟩] scope pos) := by first | exact trivial | exact ⟨rfl, rfl, (by first | rfl | kernel_rfl)⟩) : DEu X B0 F M ρ κ u (.ListComp elt [⟨.Tuple [.Name x px, .Name y py] kt pt, iter, [c], 0⟩] scope pos) P :=
  lc_mainU (hu := hu) (own := [(x, i), (y, j)]) (g := gTup X.K 2 (gCons (gName i) (gCons (gName j) gNil))) (tt := fun σ H Q => ∀ b : BA, tOfT (bk X scope b) c σ H Q) hc hN ok hg (fun b => ⟨fun pins s σ H Q I z => (pts_one pt_self).run pins s σ H Q I (z b)⟩) hs fun σ vs H Q g0 q => h σ vs H Q g0 fun J H1 M1 ds s v Src g1 dw hsrc hr => q J H1 M1 ds s v Src g1 dw hsrc fun D => by
    obtain ⟨Iv, h0, hsr, hst, hd⟩ := hr D
    refine ⟨Iv, h0, hsr, fun n d acc M σ vs H x Q hdd hI g hq => ?_, hd⟩
    obtain ⟨d1, d2, rfl, hst⟩ := hst n d acc M hdd hI
    obtain ⟨B, g⟩ := g
    obtain ⟨ad, xs, rfl, hx, hr⟩ := Rp.tup_inv g.fst
    cases hr with
    | cons hr1 hr2 =>
      cases hr2 with
      | cons hr2 hr3 =>
        cases hr3
        rename_i v1 v2
        refine ⟨ad, _, rfl, same_t g.bh hx, rfl, v1, _, rfl, v2, _, rfl, rfl, ?_, ?_⟩
        · rw [wipe_set (by simp), wipe_set (by simp)]
        · intro b
          have g2 : Good X.K B0 F ((D, .lst acc) :: M) ((((ρ.set j .un).set i .un).set i (.d d1)).set j (.d d2)) (s :: (ρ ++ κ)) ((σ.set i (some v1)).set j (some v2)) vs H :=
            ⟨B, g.pop.slt (Paired.set (OOk.of (s := .d d2) hr2) j (Paired.set (OOk.of (s := .d d1) hr1) i g.sl))⟩
          refine hst b _ vs H _ g2 fun k H3 M2 g3 h3 => ?_
          cases k with
          | true =>
            rw [if_pos rfl]
            intro b2
            refine h3.1 rfl b2 _ vs H3 _ g3 fun y H4 r M2 g4 h4 => ?_
            obtain ⟨y', M', rfl, rfl, hl, hI'⟩ := h4
            exact lc_push g4 hl fun H' g5 => hq _ _ _ _ _ g5 hI'
          | false =>
            rw [if_neg Bool.false_ne_true]
            obtain ⟨M', rfl, hI'⟩ := h3.2 rfl
            exact hq _ _ _ _ _ g3 hI'
theorem de_lc2IfC (i j : Nat) (hij : i ≠ j) {x y : Str} {px py pt : Pos} {kt : Nat} {scope : Scope} (h : DI X B0 F M ρ κ (.Tuple [.Name x px, .Name y py] kt pt) iter fun ds s Src M1 => ∀ D, ∃ Iv : Nat → List PyData → Cs → Prop, Iv 0 [] M1 ∧ (∀ i acc M, Iv i acc M → Src ((D, .lst acc) :: M)) ∧
      (∀ n d acc M, ds[n]? = some d → Iv n acc M → ∃ d1 d2, d = .tuple [d1, d2] ∧ ∀ b : BA, DT (bk X scope b) B0 F ((D, .lst acc) :: M) ((((ρ.set j .un).set i .un).set i (.d d1)).set j (.d d2)) (s :: (ρ ++ κ)) c fun k M2 =>
        (k = true → ∀ b : BA, DE (bk X scope b) B0 F M2 ((((ρ.set j .un).set i .un).set i (.d d1)).set j (.d d2)) (s :: (ρ ++ κ)) elt fun r M2 => ∃ y M', r = .d y ∧ M2 = (D, .lst acc) :: M' ∧ acc.length < 100000 ∧ Iv (n + 1) (acc ++ [y]) M') ∧
        (k = false → ∃ M', M2 = (D, .lst acc) :: M' ∧ Iv (n + 1) acc M')) ∧
      ∀ acc M, Iv ds.length acc M → P (.v (.ref D)) ((D, .lst acc) :: M)) (hN : X.N.Nodup := by exact (by assumption)) (ok : BlkOk X.N X.env.scope scope [(x, i), (y, j)] := by exact blkOk_by (by kernel_rfl))
      (hg : ∀ b : BA, PG (bk X scope b) (.Tuple [.Name x px, .Name y py] kt pt) (gTup X.K 2 (gCons (gName i) (gCons (gName j) gNil))) := by exact fun b => pg_tup rfl (pgs_cons (pg_name (by assumption) rfl (by first | exact Or.inl rfl | exact Or.inr rfl)) (pgs_cons (pg_name (by assumption) rfl (by first | exact Or.inl rfl | exact Or.inr rfl)) pgs_nil)))
      (hc : X.calm = true := by rfl) (hs : ∀ x, foldedSetIterable iter X.env x = pure x := by intro _; rfl) : DE X B0 F M ρ κ (.ListComp elt [⟨.Tuple [.Name x px, .Name y py] kt pt, iter, [c], 0⟩] scope pos) P :=
  gu_lc2IfC (u := none) i j hij h hN ok hg hc hs trivial
end
end DL
set_option maxHeartbeats 2000000
namespace DL
open PySem PySem.Spec PyProof.Rows L2

/-- name = {..} on one line, the name a local -/
theorem ps_setDc {X : Cx} {i : Nat} {y : Str} {py : Pos} {kx vx tg iter : Expr} {ifs : List Expr} {scope : Scope} {own : List (Str × Nat)} {pos spos : Pos} {wi : TI} {g : TG} {tt : TT} {tk tv : TE} (hc : X.calm = true) (hN : X.N.Nodup) (hy : X.N[i]? = some y) (hyl : X.env.scope.names.lookup y = some .local)
    (hsw : swapsWith (.DictComp kx vx [⟨tg, iter, ifs, 0⟩] scope pos) (some (.Name y py)) spos.line X.env = pure true) (hi : PI X tg iter wi) (ok : BlkOk X.N X.env.scope scope own)
    (hg : ∀ (s : Shared) (H : Hp) (C : Addr) (cl : List (Str × Addr)) (fp : List Addr), PG (X.blk s H scope (compEnvC scope cl C X.env) fp) tg g) (ht : ∀ (s : Shared) (H : Hp) (C : Addr) (cl : List (Str × Addr)) (fp : List Addr), PTs (X.blk s H scope (compEnvC scope cl C X.env) fp) ifs tt)
    (hk : ∀ (s : Shared) (H : Hp) (C : Addr) (cl : List (Str × Addr)) (fp : List Addr), PE (X.blk s H scope (compEnvC scope cl C X.env) fp) kx tk)
    (he : ∀ (s : Shared) (H : Hp) (C : Addr) (cl : List (Str × Addr)) (fp : List Addr), PE (X.blk s H scope (compEnvC scope cl C X.env) fp) vx tv) (hs : ∀ x, foldedSetIterable iter X.env x = pure x) :
    PS X (.Assign [.Name y py] (.DictComp kx vx [⟨tg, iter, ifs, 0⟩] scope pos) spos) (tAsg (tDc wi g tt tk tv (own.map (·.2))) (gName i)) := by
  refine ⟨fun pins s σ H D I h => ?_⟩
  rw [exec_Assign_Name_used _ _ _ _ hsw]
  refine wpAny_bind (wpAny_standAt (wpAny_bind ?_))
  show wpAny _ X.A (do let _ ← comprehension (.DictComp kx vx [⟨tg, iter, ifs, 0⟩] scope pos) scope X.env (firstIterPos [⟨tg, iter, ifs, 0⟩] pos) newDict false (eval iter X.env) (some (assign (.Name y py) X.env))) _ _ s
  have h : tDc wi g tt tk tv (own.map (·.2)) σ H (fun x H1 => gName i x σ H1 D.nx) := h
  refine wpAny_bind (thn (dc_core (Qf := fun _ s' => SP X pins D .next s') hc hN I hi ok hg ht hk he hs h fun L C s' m H' I' q hn f => ?_) fun _ s' hq => wpAny_pure (wpAny_pure hq))
  show wpAny _ _ (assign (.Name y py) X.env (.ref L)) _ _ _
  refine wpAny_assign_Name (store_ok2 (v := V.ref L) I' hN hy (.inl hyl) rfl (fun s2 I2 ⟨a, sb, ha⟩ => ?_) (.inr hyl))
  obtain ⟨f0, f1, f2, f3, f4, f5⟩ := f
  have haC : C ≠ a := by
    rcases ha with z | z
    · rw [z]; exact f1
    · exact fun e => f4 y a z e.symm
  refine ⟨m, hn.sameBut sb haC, fun h3 sb3 => ?_⟩
  exact ⟨_, H', I2.turned (t' := s2.toks) (fun b o hb e => (sb3.2 b hb).trans e) f0 f1 f3 f4 f5, q⟩
theorem use_dc {X : Cx} {u : Use} {σ : L2.St} {H : Hp} {Q : VK} {kx vx tg iter : Expr} {ifs : List Expr} {scope : Scope} {own : List (Str × Nat)} {pos : Pos} {wi : TI} {g : TG} {tt : TT} {tk tv : TE} (hc : X.calm = true) (hN : X.N.Nodup) (hi : PI X tg iter wi) (ok : BlkOk X.N X.env.scope scope own)
    (hg : ∀ (s : Shared) (H : Hp) (C : Addr) (cl : List (Str × Addr)) (fp : List Addr), PG (X.blk s H scope (compEnvC scope cl C X.env) fp) tg g) (ht : ∀ (s : Shared) (H : Hp) (C : Addr) (cl : List (Str × Addr)) (fp : List Addr), PTs (X.blk s H scope (compEnvC scope cl C X.env) fp) ifs tt)
    (hk : ∀ (s : Shared) (H : Hp) (C : Addr) (cl : List (Str × Addr)) (fp : List Addr), PE (X.blk s H scope (compEnvC scope cl C X.env) fp) kx tk)
    (he : ∀ (s : Shared) (H : Hp) (C : Addr) (cl : List (Str × Addr)) (fp : List Addr), PE (X.blk s H scope (compEnvC scope cl C X.env) fp) vx tv) (hs : ∀ x, foldedSetIterable iter X.env x = pure x)
    (hu : UseOk X u (.DictComp kx vx [⟨tg, iter, ifs, 0⟩] scope pos)) (h : tDc wi g tt tk tv (own.map (·.2)) σ H Q) : tUse X u (.DictComp kx vx [⟨tg, iter, ifs, 0⟩] scope pos) σ H Q := by
  cases u with
  | none => exact tOf_of (pe_dc hc hN hi ok hg ht hk he hs) h
  | some q =>
    obtain ⟨i, y, py, spos⟩ := q
    obtain ⟨h1, h2, h3⟩ := hu
    intro D e
    subst e
    exact tOfS_of (ps_setDc hc hN h1 h2 h3 hi ok hg ht hk he hs) h
section
variable {X : Cx} {K : Fg} {B0 F : Hp} {M : Cs} {ρ κ : List Sl} {P : Sl → Cs → Prop} {a b c e o elt tg iter : Expr} {pos p : Pos} {k : KK} {R : List PyData → Sl → (Cs → Prop) → Cs → Prop}
/-! ### dict comprehensions -/
theorem dc_push {D : Addr} {acc : List (Key × PyData)} {ky : Key} {y' : PyData} {M' : Cs} {ρ' κ' : List Sl} {σ : L2.St} {r : Sl} {x y : V} {vs : List V} {H : Hp} (g : Good K B0 F ((D, .dic acc) :: M') ρ' (.d y' :: r :: κ') σ (y :: x :: vs) H) (hk : KeyIs r ky) (hl : acc.length < 100000) {Q : Hp → Prop}
    (q : ∀ H', Good K B0 F ((D, .dic (putD acc ky y')) :: M') ρ' κ' σ vs H' → Q H') : ∃ kvs k, x = kV k ∧ H D = some (.dK kvs) ∧ kvs.length < sizeLine ∧ Q (upd H D (.dK (putK kvs k y))) := by
  have e := hk.v g.pop
  subst e
  obtain ⟨B, g⟩ := g
  obtain ⟨_, _, o, ho, kvs, rfl, hw⟩ := g.cells _ List.mem_cons_self
  have hz : (100000 : Nat) ≤ sizeLine := by decide
  refine ⟨kvs, ky, rfl, ho, by rw [Paired.length hw]; omega, q _ ⟨B, ?_⟩⟩
  exact (g.pop.pop).write (j := 0) (c := .dic acc) (c' := .dic (putD acc ky y')) rfl ⟨_, rfl, ents_put g.fst hw⟩
theorem dc_mainU {u : Use} {kx vx tg iter : Expr} {ifs : List Expr} {scope : Scope} {own : List (Str × Nat)} {pos : Pos} {g : TG} {tt : TT} {P : Sl → Cs → Prop} (hc : X.calm = true) (hN : X.N.Nodup) (ok : BlkOk X.N X.env.scope scope own)
    (hg : ∀ b : BA, PG (bk X scope b) tg g) (ht : ∀ b : BA, PTs (bk X scope b) ifs tt) (hs : ∀ x, foldedSetIterable iter X.env x = pure x)
    (h : DI X B0 F M ρ κ tg iter fun ds s Src M1 => ∀ D, ∃ Iv : Nat → List (Key × PyData) → Cs → Prop, Iv 0 [] M1 ∧ (∀ i acc M, Iv i acc M → Src ((D, .dic acc) :: M)) ∧
      (∀ i d acc M σ vs H x (Q : Hp → Prop), ds[i]? = some d → Iv i acc M → Good X.K B0 F ((D, .dic acc) :: M) (wipeS ρ (own.map (·.2))) (.d d :: s :: (ρ ++ κ)) σ (x :: vs) H →
        (∀ acc' M' ρ' σ' H', Good X.K B0 F ((D, .dic acc') :: M') ρ' (s :: (ρ ++ κ)) σ' vs H' → Iv (i + 1) acc' M' → Q H') →
        g x σ H fun σ2 H2 => wipe σ2 (own.map (·.2)) = wipe σ (own.map (·.2)) ∧ tt σ2 H2 fun b H3 =>
          if b = true then (∀ b : BA, tOf (bk X scope b) kx σ2 H3 fun y H4 => ∀ b2 : BA, tOf (bk X scope b2) vx σ2 H4 fun z H5 => ∃ kvs k, y = kV k ∧ H5 D = some (.dK kvs) ∧ kvs.length < sizeLine ∧ Q (upd H5 D (.dK (putK kvs k z)))) else Q H3) ∧
      ∀ acc M, Iv ds.length acc M → P (.v (.ref D)) ((D, .dic acc) :: M))  (hu : UseOk X u (.DictComp kx vx [⟨tg, iter, ifs, 0⟩] scope pos)) : DEu X B0 F M ρ κ u (.DictComp kx vx [⟨tg, iter, ifs, 0⟩] scope pos) P := fun σ vs H Q g0 q => by
  refine use_dc (tk := fun σ H Q => ∀ b : BA, tOf (bk X scope b) kx σ H Q) (tv := fun σ H Q => ∀ b : BA, tOf (bk X scope b) vx σ H Q) hc hN pi_self ok (fun s H C cl fp => hg ⟨s, H, C, cl, fp⟩) (fun s H C cl fp => ht ⟨s, H, C, cl, fp⟩)
    (fun s H C cl fp => ⟨fun pins s' σ' H' Q' I z => z ⟨s, H, C, cl, fp⟩ pins s' I⟩) (fun s H C cl fp => ⟨fun pins s' σ' H' Q' I z => z ⟨s, H, C, cl, fp⟩ pins s' I⟩) hs hu ?_
  have hsh : Shape σ ρ := by obtain ⟨B, g0⟩ := g0; exact shape_of g0.sl
  refine h σ vs H _ g0 fun J H1 M1 ds s v Src g1 dw hsrc hr D hD => ?_
  obtain ⟨Iv, h0, hsr, hst, hd⟩ := hr D
  have up : ∀ {M' H'}, Good X.K B0 F M' ρ (s :: κ) σ (v :: vs) H' → Good X.K B0 F M' ρ (s :: (ρ ++ κ)) σ (v :: (valsOf σ ++ vs)) H' := fun {M' H'} ⟨B, g⟩ => by
    refine ⟨B, g.stk ?_⟩
    cases g.st with
    | cons k1 k2 => exact .cons k1 (Paired.app (kok_slots g.sl) k2)
  have hlen : (valsOf σ).length = ρ.length := by
    have := Paired.length hsh
    simp [valsOf, this]
  have down : ∀ {M' H' ρ' σ'}, Good X.K B0 F M' ρ' (s :: (ρ ++ κ)) σ' (v :: (valsOf σ ++ vs)) H' → Good X.K B0 F M' ρ (s :: κ) σ (v :: vs) H' := fun {M' H' ρ' σ'} ⟨B, g⟩ => by
    cases g.st with
    | cons k1 k2 =>
      obtain ⟨k3, k4⟩ := kok_split hlen k2
      exact ⟨B, (g.slt (sok_back hsh k3)).stk (.cons k1 k4)⟩
  refine ⟨fun i m H' => m = ds.length - i ∧ i ≤ ds.length ∧ ∃ acc M', Good X.K B0 F ((D, .dic acc) :: M') ρ (s :: κ) σ (v :: vs) H' ∧ Iv i acc M', ⟨ds.length, by simp, Nat.zero_le _, [], M1, ?_, h0⟩, ?_⟩
  · obtain ⟨B, g1⟩ := g1
    exact ⟨B, g1.cell (c := .dic []) hD ⟨[], rfl, .nil⟩⟩
  rintro i m H' ⟨rfl, hi, acc, M', g', hI⟩
  by_cases hlt : i < ds.length
  · obtain ⟨d, hdd⟩ : ∃ d, ds[i]? = some d := ⟨ds[i], by simp [hlt]⟩
    refine .inr ⟨dw.go i _ ρ κ σ vs H' (hsr i acc M' hI) g' hlt, fun H2 => ∃ acc2 M2, Good X.K B0 F ((D, .dic acc2) :: M2) ρ (s :: κ) σ (v :: vs) H2 ∧ Iv (i + 1) acc2 M2, fun H2 ⟨acc2, M2, g2, h2⟩ => ⟨ds.length - (i + 1), by omega, rfl, hlt, acc2, M2, g2, h2⟩, fun x H2 y => ?_⟩
    have g2 := dw.yld i _ ρ (ρ ++ κ) σ (valsOf σ ++ vs) H' x H2 d (hsr i acc M' hI) (up g') hdd y
    have g3 : Good X.K B0 F ((D, .dic acc) :: M') (wipeS ρ (own.map (·.2))) (.d d :: s :: (ρ ++ κ)) (wipe σ (own.map (·.2))) (x :: v :: (valsOf σ ++ vs)) H2 := by
      obtain ⟨B, g2⟩ := g2
      exact ⟨B, g2.slt (sok_wipe g2.sl _)⟩
    have z := hst i d acc M' _ _ H2 x (fun H2 => ∃ acc2 M2, Good X.K B0 F ((D, .dic acc2) :: M2) ρ (s :: κ) σ (v :: vs) H2 ∧ Iv (i + 1) acc2 M2) hdd hI g3 fun acc' M'' ρ' σ' H'' gg hh => ⟨acc', M'', down gg, hh⟩
    have eqw : wipe (wipe σ (own.map (·.2))) (own.map (·.2)) = wipe σ (own.map (·.2)) := by
      have : ∀ (ws us : List Nat), (∀ w ∈ us, w ∈ ws) → wipe (wipe σ us) ws = wipe σ ws := by
        intro ws us
        induction us with
        | nil => intro _; rfl
        | cons u us ih =>
          intro hu
          show wipe ((wipe σ us).set u none) ws = _
          rw [wipe_set (hu u List.mem_cons_self)]
          exact ih fun w hw => hu w (List.mem_cons_of_mem _ hw)
      exact this _ _ fun w hw => hw
    rw [eqw] at z
    exact z
  · have e : i = ds.length := by omega
    subst e
    exact .inl ⟨dw.stop _ ρ κ σ vs H' (hsr _ acc M' hI) g', q _ H' _ _ (by
      obtain ⟨B, g'⟩ := g'
      exact ⟨B, g'.pop.pushV⟩) (hd acc M' hI)⟩
/-- {kx: vx for x in iter} -/
theorem gu_dcC {u : Use} (i : Nat) {kx vx : Expr} {x : Str} {px : Pos} {scope : Scope} (h : DI X B0 F M ρ κ (.Name x px) iter fun ds s Src M1 => ∀ D, ∃ Iv : Nat → List (Key × PyData) → Cs → Prop, Iv 0 [] M1 ∧ (∀ i acc M, Iv i acc M → Src ((D, .dic acc) :: M)) ∧
      (∀ j d acc M, ds[j]? = some d → Iv j acc M → ∀ b : BA, DE (bk X scope b) B0 F ((D, .dic acc) :: M) ((ρ.set i .un).set i (.d d)) (s :: (ρ ++ κ)) kx fun r1 M1 => ∀ b : BA, DE (bk X scope b) B0 F M1 ((ρ.set i .un).set i (.d d)) (r1 :: s :: (ρ ++ κ)) vx fun r M2 => ∃ ky y M', KeyIs r1 ky ∧ r = .d y ∧ M2 = (D, .dic acc) :: M' ∧ acc.length < 100000 ∧ Iv (j + 1) (putD acc ky y) M') ∧
      ∀ acc M, Iv ds.length acc M → P (.v (.ref D)) ((D, .dic acc) :: M)) (hN : X.N.Nodup := by exact (by assumption)) (ok : BlkOk X.N X.env.scope scope [(x, i)] := by exact blkOk_by (by kernel_rfl)) (hg : ∀ b : BA, PG (bk X scope b) (.Name x px) (gName i) := by exact fun b => pg_name (by assumption) rfl (by first | exact Or.inl rfl | exact Or.inr rfl))
      (hc : X.calm = true := by rfl) (hs : ∀ x, foldedSetIterable iter X.env x = pure x := by intro _; rfl)  (hu : UseOk X u (.DictComp kx vx [⟨.Name x px, iter, [], 0⟩] scope pos) := by first | exact trivial | exact ⟨rfl, rfl, (by first | rfl | kernel_rfl)⟩) : DEu X B0 F M ρ κ u (.DictComp kx vx [⟨.Name x px, iter, [], 0⟩] scope pos) P :=
  dc_mainU (hu := hu) (own := [(x, i)]) (g := gName i) (tt := tYes) hc hN ok hg (fun _ => pts_nil) hs fun σ vs H Q g0 q => h σ vs H Q g0 fun J H1 M1 ds s v Src g1 dw hsrc hr => q J H1 M1 ds s v Src g1 dw hsrc fun D => by
    obtain ⟨Iv, h0, hsr, hst, hd⟩ := hr D
    refine ⟨Iv, h0, hsr, fun j d acc M σ vs H x Q hdd hI g hq => ⟨wipe_set (by simp), ?_⟩, hd⟩
    have fin : ∀ b : BA, tOf (bk X scope b) kx (σ.set i (some x)) H fun y H4 => ∀ b2 : BA, tOf (bk X scope b2) vx (σ.set i (some x)) H4 fun z H5 => ∃ kvs k, y = kV k ∧ H5 D = some (.dK kvs) ∧ kvs.length < sizeLine ∧ Q (upd H5 D (.dK (putK kvs k z))) := ?_
    · unfold tYes
      dsimp only
      rw [if_pos rfl]
      exact fin
    intro b
    have g2 : Good X.K B0 F ((D, .dic acc) :: M) ((ρ.set i .un).set i (.d d)) (s :: (ρ ++ κ)) (σ.set i (some x)) vs H := by
      obtain ⟨B, g⟩ := g
      exact ⟨B, g.pop.slt (Paired.set (OOk.of g.fst) i g.sl)⟩
    refine hst j d acc M hdd hI b (σ.set i (some x)) vs H _ g2 fun y H4 r1 M4 g4 h4 b2 => h4 b2 (σ.set i (some x)) (y :: vs) H4 _ g4 fun z H5 r M2 g5 h5 => ?_
    obtain ⟨ky, y', M', hk, rfl, rfl, hl, hI'⟩ := h5
    exact dc_push g5 hk hl fun H' g6 => hq _ _ _ _ _ g6 hI'
theorem de_dcC (i : Nat) {kx vx : Expr} {x : Str} {px : Pos} {scope : Scope} (h : DI X B0 F M ρ κ (.Name x px) iter fun ds s Src M1 => ∀ D, ∃ Iv : Nat → List (Key × PyData) → Cs → Prop, Iv 0 [] M1 ∧ (∀ i acc M, Iv i acc M → Src ((D, .dic acc) :: M)) ∧
      (∀ j d acc M, ds[j]? = some d → Iv j acc M → ∀ b : BA, DE (bk X scope b) B0 F ((D, .dic acc) :: M) ((ρ.set i .un).set i (.d d)) (s :: (ρ ++ κ)) kx fun r1 M1 => ∀ b : BA, DE (bk X scope b) B0 F M1 ((ρ.set i .un).set i (.d d)) (r1 :: s :: (ρ ++ κ)) vx fun r M2 => ∃ ky y M', KeyIs r1 ky ∧ r = .d y ∧ M2 = (D, .dic acc) :: M' ∧ acc.length < 100000 ∧ Iv (j + 1) (putD acc ky y) M') ∧
      ∀ acc M, Iv ds.length acc M → P (.v (.ref D)) ((D, .dic acc) :: M)) (hN : X.N.Nodup := by exact (by assumption)) (ok : BlkOk X.N X.env.scope scope [(x, i)] := by exact blkOk_by (by kernel_rfl)) (hg : ∀ b : BA, PG (bk X scope b) (.Name x px) (gName i) := by exact fun b => pg_name (by assumption) rfl (by first | exact Or.inl rfl | exact Or.inr rfl))
      (hc : X.calm = true := by rfl) (hs : ∀ x, foldedSetIterable iter X.env x = pure x := by intro _; rfl) : DE X B0 F M ρ κ (.DictComp kx vx [⟨.Name x px, iter, [], 0⟩] scope pos) P :=
  gu_dcC (u := none) i h hN ok hg hc hs trivial
/-- {kx: vx for x, y in iter} -/
theorem gu_dc2C {u : Use} (i j : Nat) (hij : i ≠ j) {kx vx : Expr} {x y : Str} {px py pt : Pos} {kt : Nat} {scope : Scope} (h : DI X B0 F M ρ κ (.Tuple [.Name x px, .Name y py] kt pt) iter fun ds s Src M1 => ∀ D, ∃ Iv : Nat → List (Key × PyData) → Cs → Prop, Iv 0 [] M1 ∧ (∀ i acc M, Iv i acc M → Src ((D, .dic acc) :: M)) ∧
      (∀ n d acc M, ds[n]? = some d → Iv n acc M → ∃ d1 d2, d = .tuple [d1, d2] ∧ ∀ b : BA, DE (bk X scope b) B0 F ((D, .dic acc) :: M) ((((ρ.set j .un).set i .un).set i (.d d1)).set j (.d d2)) (s :: (ρ ++ κ)) kx fun r1 M1 => ∀ b : BA, DE (bk X scope b) B0 F M1 ((((ρ.set j .un).set i .un).set i (.d d1)).set j (.d d2)) (r1 :: s :: (ρ ++ κ)) vx fun r M2 => ∃ ky y M', KeyIs r1 ky ∧ r = .d y ∧ M2 = (D, .dic acc) :: M' ∧ acc.length < 100000 ∧ Iv (n + 1) (putD acc ky y) M') ∧
      ∀ acc M, Iv ds.length acc M → P (.v (.ref D)) ((D, .dic acc) :: M)) (hN : X.N.Nodup := by exact (by assumption)) (ok : BlkOk X.N X.env.scope scope [(x, i), (y, j)] := by exact blkOk_by (by kernel_rfl))
      (hg : ∀ b : BA, PG (bk X scope b) (.Tuple [.Name x px, .Name y py] kt pt) (gTup X.K 2 (gCons (gName i) (gCons (gName j) gNil))) := by exact fun b => pg_tup rfl (pgs_cons (pg_name (by assumption) rfl (by first | exact Or.inl rfl | exact Or.inr rfl)) (pgs_cons (pg_name (by assumption) rfl (by first | exact Or.inl rfl | exact Or.inr rfl)) pgs_nil)))
      (hc : X.calm = true := by rfl) (hs : ∀ x, foldedSetIterable iter X.env x = pure x := by intro _; rfl)  (hu : UseOk X u (.DictComp kx vx [⟨.Tuple [.Name x px, .Name y py] kt pt, iter, [], 0⟩] scope pos) := by first | exact trivial | exact ⟨rfl, rfl, (by first | rfl | kernel_rfl)⟩) : DEu X B0 F M ρ κ u (.DictComp kx vx [⟨.Tuple [.Name x px, .Name y py] kt pt, iter, [], 0⟩] scope pos) P :=
  dc_mainU (hu := hu) (own := [(x, i), (y, j)]) (g := gTup X.K 2 (gCons (gName i) (gCons (gName j) gNil))) (tt := tYes) hc hN ok hg (fun _ => pts_nil) hs fun σ vs H Q g0 q => h σ vs H Q g0 fun J H1 M1 ds s v Src g1 dw hsrc hr => q J H1 M1 ds s v Src g1 dw hsrc fun D => by
    obtain ⟨Iv, h0, hsr, hst, hd⟩ := hr D
    refine ⟨Iv, h0, hsr, fun n d acc M σ vs H x Q hdd hI g hq => ?_, hd⟩
    obtain ⟨d1, d2, rfl, hst⟩ := hst n d acc M hdd hI
    obtain ⟨B, g⟩ := g
    obtain ⟨ad, xs, rfl, hx, hr⟩ := Rp.tup_inv g.fst
    cases hr with
    | cons hr1 hr2 =>
      cases hr2 with
      | cons hr2 hr3 =>
        cases hr3
        rename_i v1 v2
        refine ⟨ad, _, rfl, same_t g.bh hx, rfl, v1, _, rfl, v2, _, rfl, rfl, ?_, ?_⟩
        · rw [wipe_set (by simp), wipe_set (by simp)]
        · have fin : ∀ b : BA, tOf (bk X scope b) kx ((σ.set i (some v1)).set j (some v2)) H fun y H4 => ∀ b2 : BA, tOf (bk X scope b2) vx ((σ.set i (some v1)).set j (some v2)) H4 fun z H5 => ∃ kvs k, y = kV k ∧ H5 D = some (.dK kvs) ∧ kvs.length < sizeLine ∧ Q (upd H5 D (.dK (putK kvs k z))) := ?_
          · unfold tYes
            dsimp only
            rw [if_pos rfl]
            exact fin
          intro b
          have g2 : Good X.K B0 F ((D, .dic acc) :: M) ((((ρ.set j .un).set i .un).set i (.d d1)).set j (.d d2)) (s :: (ρ ++ κ)) ((σ.set i (some v1)).set j (some v2)) vs H :=
            ⟨B, g.pop.slt (Paired.set (OOk.of (s := .d d2) hr2) j (Paired.set (OOk.of (s := .d d1) hr1) i g.sl))⟩
          refine hst b _ vs H _ g2 fun y H4 r1 M4 g4 h4 b2 => h4 b2 _ (y :: vs) H4 _ g4 fun z H5 r M2 g5 h5 => ?_
          obtain ⟨ky, y', M', hk, rfl, rfl, hl, hI'⟩ := h5
          exact dc_push g5 hk hl fun H' g6 => hq _ _ _ _ _ g6 hI'

/-! ### enumerate -/
theorem de_dc2C (i j : Nat) (hij : i ≠ j) {kx vx : Expr} {x y : Str} {px py pt : Pos} {kt : Nat} {scope : Scope} (h : DI X B0 F M ρ κ (.Tuple [.Name x px, .Name y py] kt pt) iter fun ds s Src M1 => ∀ D, ∃ Iv : Nat → List (Key × PyData) → Cs → Prop, Iv 0 [] M1 ∧ (∀ i acc M, Iv i acc M → Src ((D, .dic acc) :: M)) ∧
      (∀ n d acc M, ds[n]? = some d → Iv n acc M → ∃ d1 d2, d = .tuple [d1, d2] ∧ ∀ b : BA, DE (bk X scope b) B0 F ((D, .dic acc) :: M) ((((ρ.set j .un).set i .un).set i (.d d1)).set j (.d d2)) (s :: (ρ ++ κ)) kx fun r1 M1 => ∀ b : BA, DE (bk X scope b) B0 F M1 ((((ρ.set j .un).set i .un).set i (.d d1)).set j (.d d2)) (r1 :: s :: (ρ ++ κ)) vx fun r M2 => ∃ ky y M', KeyIs r1 ky ∧ r = .d y ∧ M2 = (D, .dic acc) :: M' ∧ acc.length < 100000 ∧ Iv (n + 1) (putD acc ky y) M') ∧
      ∀ acc M, Iv ds.length acc M → P (.v (.ref D)) ((D, .dic acc) :: M)) (hN : X.N.Nodup := by exact (by assumption)) (ok : BlkOk X.N X.env.scope scope [(x, i), (y, j)] := by exact blkOk_by (by kernel_rfl))
      (hg : ∀ b : BA, PG (bk X scope b) (.Tuple [.Name x px, .Name y py] kt pt) (gTup X.K 2 (gCons (gName i) (gCons (gName j) gNil))) := by exact fun b => pg_tup rfl (pgs_cons (pg_name (by assumption) rfl (by first | exact Or.inl rfl | exact Or.inr rfl)) (pgs_cons (pg_name (by assumption) rfl (by first | exact Or.inl rfl | exact Or.inr rfl)) pgs_nil)))
      (hc : X.calm = true := by rfl) (hs : ∀ x, foldedSetIterable iter X.env x = pure x := by intro _; rfl) : DE X B0 F M ρ κ (.DictComp kx vx [⟨.Tuple [.Name x px, .Name y py] kt pt, iter, [], 0⟩] scope pos) P :=
  gu_dc2C (u := none) i j hij h hN ok hg hc hs trivial
def enumD (ds : List PyData) : List PyData := ds.mapIdx fun i d => .tuple [.int (i : Nat), d]
theorem enumD_len (ds : List PyData) : (enumD ds).length = ds.length := by simp [enumD]
theorem enumD_get {ds : List PyData} {i : Nat} {d : PyData} (h : (enumD ds)[i]? = some d) : ∃ z, ds[i]? = some z ∧ d = .tuple [.int (i : Nat), z] := by
  unfold enumD at h
  rw [List.getElem?_mapIdx] at h
  cases q : ds[i]? with
  | none => rw [q] at h; cases h
  | some z => rw [q] at h; exact ⟨z, rfl, (Option.some.inj h).symm⟩
theorem enum_yld {i : Nat} {σ : L2.St} {vs : List V} {H H' : Hp} {d : PyData} {s : Sl} {v : V} {T : Addr} {x : V} (g : Good K B0 F M ρ (s :: κ) σ (v :: vs) H) (hT : H T = none) (e : H' = upd H T (.tup [.int (i : Nat), x])) (hx : ∀ B, GoodB K B0 F M ρ (s :: κ) σ (v :: vs) H B → Rp K B x d) : Good K B0 F M ρ (.d (.tuple [.int (i : Nat), d]) :: s :: κ) σ (.ref T :: v :: vs) H' := by
  obtain ⟨B, g⟩ := g
  subst e
  have bp : B T = none := g.bh.free hT
  exact ⟨_, (g.laid (o := .tup [.int (i : Nat), x]) hT).pushD (.tup (SqT.of upd_same) (.cons (.int _) (.cons ((hx B g).ext fun b u z => by rw [upd_ne (ne_of_none z bp)]; exact z) .nil)))⟩
/-- enumerate(a list) -/
theorem di_enum {elts : List Expr} {kk : Nat} {tpos : Pos} (hm : X.mg "enumerate" = none) (h : DE X B0 F M ρ κ e fun r M1 => ∃ ds, r = .d (.list ds) ∧ R (enumD ds) r (fun _ => True) M1) (hg : Gl X "enumerate" := by rfl) (hs : starEach [e] X.env = (false, eval e X.env) :: starEach [] X.env := by rfl) (hs2 : starEach [e] X.env = [(false, eval e X.env)] := by rfl) :
    DI X B0 F M ρ κ (.Tuple elts kk tpos) (.Call (.Name "enumerate" p) [e] [] pos) R := fun σ vs H Q g q => by
  refine tOfI_of (pi_enum hg hm (pa_cons pe_self pa_nil hs) hs2) (h σ vs H _ g fun v H1 r M1 g1 hr => ?_)
  obtain ⟨ds, rfl, hr⟩ := hr
  obtain ⟨B, g1b⟩ := id g1
  obtain ⟨a, xs, rfl, ha, hx⟩ := Rp.lst_inv g1b.fst
  refine ⟨a, xs, rfl, SqL.of (g1b.bh _ _ ha), q (Ite X.K a) H1 M1 _ _ (.ref a) (fun _ => True) g1 ⟨?_, ?_, ?_⟩ trivial hr⟩
  · intro i M ρ κ σ vs H _ g hi
    rw [enumD_len] at hi
    obtain ⟨B, g⟩ := g
    obtain ⟨a', ys, e, ha', hy⟩ := Rp.lst_inv g.fst
    cases e
    have hl := hy.len
    exact ⟨ys, ys[i]'(by omega), SqL.of (g.bh _ _ ha'), by simp [show i < ys.length by omega]⟩
  · intro M ρ κ σ vs H _ g
    rw [enumD_len]
    obtain ⟨B, g⟩ := g
    obtain ⟨a', ys, e, ha', hy⟩ := Rp.lst_inv g.fst
    cases e
    have hl := hy.len
    exact ⟨ys, SqL.of (g.bh _ _ ha'), by omega⟩
  · intro i M ρ κ σ vs H x H' d _ g hd y
    obtain ⟨T, x', rfl, hT, eH, y⟩ := y
    obtain ⟨z, hz, rfl⟩ := enumD_get hd
    refine enum_yld g hT eH fun B g => ?_
    obtain ⟨a', ys, e, ha', hy⟩ := Rp.lst_inv g.fst
    cases e
    obtain ⟨v, hv, hvd⟩ := hy.get hz
    have e : x' = v := Option.some.inj ((y ys (SqL.of (g.bh _ _ ha'))).symm.trans hv)
    subst e
    exact hvd
/-- enumerate(a cell's list) -/
theorem di_enumC {elts : List Expr} {kk : Nat} {tpos : Pos} (hm : X.mg "enumerate" = none) (h : DE X B0 F M ρ κ e fun r M1 => ∃ a ds, r = .v (.ref a) ∧ (a, .lst ds) ∈ M1 ∧ R (enumD ds) r (fun M => (a, .lst ds) ∈ M) M1) (hg : Gl X "enumerate" := by rfl) (hs : starEach [e] X.env = (false, eval e X.env) :: starEach [] X.env := by rfl) (hs2 : starEach [e] X.env = [(false, eval e X.env)] := by rfl) :
    DI X B0 F M ρ κ (.Tuple elts kk tpos) (.Call (.Name "enumerate" p) [e] [] pos) R := fun σ vs H Q g q => by
  refine tOfI_of (pi_enum hg hm (pa_cons pe_self pa_nil hs) hs2) (h σ vs H _ g fun v H1 r M1 g1 hr => ?_)
  obtain ⟨a, ds, rfl, hmem, hr⟩ := hr
  have e := g1.ref
  subst e
  obtain ⟨B, g1b⟩ := id g1
  obtain ⟨_, _, o, ho, xs, rfl, hx⟩ := g1b.cells _ hmem
  refine ⟨a, xs, rfl, SqL.of ho, q (Ite X.K a) H1 M1 _ _ (.ref a) (fun M => (a, .lst ds) ∈ M) g1 ⟨?_, ?_, ?_⟩ hmem hr⟩
  · intro i M ρ κ σ vs H hm g hi
    rw [enumD_len] at hi
    obtain ⟨B, g⟩ := g
    obtain ⟨_, _, o, ho, ys, rfl, hy⟩ := g.cells _ hm
    have hl := hy.len
    exact ⟨ys, ys[i]'(by omega), SqL.of ho, by simp [show i < ys.length by omega]⟩
  · intro M ρ κ σ vs H hm g
    rw [enumD_len]
    obtain ⟨B, g⟩ := g
    obtain ⟨_, _, o, ho, ys, rfl, hy⟩ := g.cells _ hm
    have hl := hy.len
    exact ⟨ys, SqL.of ho, by omega⟩
  · intro i M ρ κ σ vs H x H' d hm g hd y
    obtain ⟨T, x', rfl, hT, eH, y⟩ := y
    obtain ⟨z, hz, rfl⟩ := enumD_get hd
    refine enum_yld g hT eH fun B g => ?_
    obtain ⟨_, _, o, ho, ys, rfl, hy⟩ := g.cells _ hm
    obtain ⟨v, hv, hvd⟩ := hy.get hz
    have e : x' = v := Option.some.inj ((y ys (SqL.of ho)).symm.trans hv)
    subst e
    exact hvd
end
end DL
set_option maxHeartbeats 4000000
/-! enumerate(t), t a tuple -/
namespace DLE
open PySem PySem.Spec PyProof.Rows
open Sem (wp)
theorem meets_enum1 {v : Value} {o : Obj} {H : Heap → Prop} (B : Begins v o H) :
    Meets (Builtin.«enumerate.__new__» ⟨[.type "enumerate", v], []⟩) (fun _ R s => H s.heap ∧
      R (.ok (.ret (.ref (s.heap.push o).objs.size))) { s with heap := (s.heap.push o).push { cls := .type "enumerate", data := .fields #[.none, .bool false, .ref s.heap.objs.size, rawInt 0, .none, .none] } }) :=
  .of_wp fun prog w A R s h => by
    obtain ⟨hp, g, d, tk, os⟩ := s
    obtain ⟨h1, h⟩ := h
    have hsub := sub_enumerate
    have q1 : ∀ {A' : Around} {E : Value → Shared → Prop} {Q : Value → Shared → Prop}, Q (.ref hp.objs.size) ⟨hp.push o, g, d, tk, os⟩ → wpAny (model prog w) A' (pyIter v) Q E ⟨hp, g, d, tk, os⟩ :=
      fun q => B.iter prog w _ _ ⟨hp, g, d, tk, os⟩ _ h1 q
    wp_walk using q1
    refine wpAny_stack_any fun st => wpAny_pure ?_
    split
    · rename_i c _ _ _ _ _
      cases (c == Value.type "enumerate") <;> (wp_walk using q1; exact ⟨_, rfl, h⟩)
    · wp_walk using q1
      exact ⟨_, rfl, h⟩
theorem call_enum1 {prog : Program} {w : World} {A : Around} {E : Value → Shared → Prop} {s : Shared} {v : Value} {o : Obj} {H : Heap → Prop} {Q : Value → Shared → Prop} (B : Begins v o H) (h1 : H s.heap)
    (h : ∀ h', IsEnum h' (s.heap.objs.size + 1) s.heap.objs.size 0 .none → h'.get? s.heap.objs.size = some o → h'.objs.size = s.heap.objs.size + 2 → (∀ b o, s.heap.get? b = some o → h'.get? b = some o) → Q (.ref (s.heap.objs.size + 1)) { s with heap := h' }) :
    wpAny (model prog w) A (call (.type "enumerate") [v]) Q E s := by
  refine callType_new F.called_enumerate (by decide) (F.typeCall_enumerate_1 _) (F.newCall_enumerate_1 _) (fun obj => F.args_object_init_2 obj _) F.entry_enumerate_new (meets_enum1 B) ⟨h1, ?_⟩
  have hz : (s.heap.push o).objs.size = s.heap.objs.size + 1 := Heap.size_push ..
  show _ ∧ _
  rw [hz]
  have he : IsEnum ((s.heap.push o).push { cls := .type "enumerate", data := .fields #[.none, .bool false, .ref s.heap.objs.size, rawInt 0, .none, .none] }) (s.heap.objs.size + 1) s.heap.objs.size 0 .none := by
    have z := Heap.get?_push_size (s.heap.push o) (o := { cls := .type "enumerate", data := .fields #[.none, .bool false, .ref s.heap.objs.size, rawInt 0, .none, .none] }) rfl
    rw [hz] at z
    exact z
  exact ⟨⟨_, he, rfl⟩, h _ he (Heap.get?_push_of_some _ (Heap.get?_push_size _ B.free)) (by rw [Heap.size_push, hz]) fun b o x => Heap.get?_push_of_some _ (Heap.get?_push_of_some _ x)⟩
end DLE
namespace DL
open PySem PySem.Spec PyProof.Rows L2
def IteT (K : Fg) (a : Addr) : It :=
  ⟨fun i H => ∃ (xs : List V) (x : V), SqT K H a xs ∧ xs[i]? = some x, fun i H v H' => ∃ T x, v = .ref T ∧ H T = none ∧ H' = upd H T (.tup [.int (i : Nat), x]) ∧ ∀ xs, SqT K H a xs → xs[i]? = some x, fun i H => ∃ xs : List V, SqT K H a xs ∧ xs.length ≤ i⟩
theorem turn_enumT {P : Program} {w : World} {K : Fg} {elts : List Expr} {kk : Nat} {tpos : Pos} (a e it : Addr) :
    Turn P w K (.Tuple elts kk tpos) (IteT K a) [e, it] e (fun i h => (∃ old, IsEnum h e it ((i : Nat) : Int) old) ∧ h.IsTupleIter it a i ∧ e ≠ it ∧ a ≠ it ∧ a ≠ e) where
  mem := by simp
  obj := fun i h st b hb => by
    obtain ⟨⟨old, he⟩, ⟨o, ho, hc, hd⟩, _⟩ := st
    rcases List.mem_cons.mp hb with z | z
    · rw [z]; exact ⟨_, he, fun v q => nomatch q⟩
    · rw [List.mem_singleton.mp z]; exact ⟨o, ho, fun v q => by rw [hd] at q; cases q⟩
  keep := fun i h h' ⟨⟨old, he⟩, hi, hne⟩ k => ⟨⟨old, k e List.mem_cons_self _ he⟩, hi.at fun o q => k it (by simp) o q, hne⟩
  item := by
    intro X hP hw hK hc i pins s σ H E I hf st hg
    subst hP hw hK
    obtain ⟨⟨old, he⟩, hit, hne, hai, hae⟩ := st
    obtain ⟨xs, x, hq, hx⟩ := hg
    obtain ⟨its, rv, p, hz⟩ := I.tuple hq
    obtain ⟨u, hu, ru⟩ := rv.get hx
    have hel : e < s.heap.objs.size := Heap.lt_size he
    have hil : it < s.heap.objs.size := by obtain ⟨_, q, _⟩ := hit; exact Heap.lt_size q
    have hlen : its.toArray.size = xs.length := by rw [List.size_toArray]; exact rv.length.symm
    have D := Draws.tuple (prog := X.prog) (w := X.w) (A := X.A.in1) (by simpa using I.ok.hd hc) it a hai its.toArray
    refine wpAny_pyNext_enum_itemD D he ⟨hit, p⟩ (by rw [hlen]; exact (List.getElem?_eq_some_iff.mp hx).1) hne (by simp [hne, Ne.symm hae]) fun x1 h' tk hP1 ho st' hT hsz hk => ?_
    have e1 : x1 = u := by
      have q := hP1.symm.trans (show its.toArray[i]? = some u by simpa using hu)
      exact Option.some.inj q
    subst e1
    refine ⟨_, rfl, wpAny_letOwnedTupleGo_enum (s := { s with heap := h', toks := tk + 1 }) ho fun h'' he' sb => ?_⟩
    have hT2 := (sb.2 _ (Nat.ne_of_gt hel)).trans hT
    have new : ObjOk X.prog X.w (upd H s.heap.objs.size (.tup [.int (i : Nat), x])) h'' s.heap.objs.size (.tup [.int (i : Nat), x]) :=
      ⟨by show 2 ≤ sizeLine; decide, [.int i tk, x1], .cons ⟨_, rfl⟩ (.cons ru .nil), ⟨_, hT2, rfl, _, rfl⟩⟩
    have I1 : Inv X pins σ (upd H s.heap.objs.size (.tup [.int (i : Nat), x])) { s with heap := h'', toks := tk + 1 } :=
      I.turnedNew (ch := [e, it]) (fun b ob hb q => (sb.2 b (fun z => hb (by simp [z]))).trans (hk b ob (fun z => hb (by simp [z])) (fun z => hb (by simp [z])) q)) hf (Nat.le_refl _) new
    refine ⟨.ref s.heap.objs.size, _, I1, rfl, ⟨_, x, rfl, I.hok.fresh (Nat.le_refl _), rfl, fun ys hy => by rw [I.tuple_inj hy hq]; exact hx⟩, ⟨⟨x1, ?_⟩, st'.1.at fun o q => (sb.2 it (Ne.symm hne)).trans q, hne, hai, hae⟩, fun b hb => ?_⟩
    · have e1 : ((i + 1 : Nat) : Int) = (i : Int) + 1 := by omega
      rw [e1]; exact he'
    · have hb' : b < s.heap.objs.size := by
        rcases List.mem_cons.mp hb with z | z
        · rw [z]; exact hel
        · rw [List.mem_singleton.mp z]; exact hil
      rw [upd_ne (Nat.ne_of_lt hb')]
      exact (hf b hb).1
  done := by
    intro X hP hw hK hc i pins s σ H E I hf st hg
    subst hP hw hK
    obtain ⟨⟨old, he⟩, hit, hne, hai, hae⟩ := st
    obtain ⟨xs, hq, hx⟩ := hg
    obtain ⟨its, rv, p, hz⟩ := I.tuple hq
    have hlen : its.toArray.size = xs.length := by rw [List.size_toArray]; exact rv.length.symm
    obtain ⟨f0, f1, f2, f3, f4, f5⟩ := hf it (by simp)
    have hi : i = its.toArray.size ∨ its.toArray.size < i := by omega
    have D := Draws.tuple (prog := X.prog) (w := X.w) (A := X.A.in1) (by simpa using I.ok.hd hc) it a hai its.toArray
    have hT : s.TypeIs (.ref e) "enumerate" := ⟨_, he, rfl⟩
    unfold pyNext
    refine wpAny_bind (wpAny_attempt (wpAny_callSpecial?_slot (name := Str.ofString "__next__") hT F.slot_enumerate_next
      (wpAny_call_entry F.slot_enumerate_next hT F.entry_enumerate_next ?_ (F.args_enumerate_next_1 _))))
    show wpAny _ _ (field (.ref e) 2 >>= _) _ _ _
    refine wpAny_bind (wpAny_field he rfl (x := .ref it) rfl ?_)
    refine wpAny_bind (wpAny_nextOf_tuple_end (by simpa using I.ok.hd hc) hit p (by have z := rv.length; simp only [List.size_toArray] at *; simp; omega) fun h' x he' hx' => ?_)
    obtain ⟨o, ho, hcx⟩ := hx'
    refine wpAny_bind (wpAny_isInstance (T := "StopIteration") (b := true) ⟨o, ho, hcx⟩ isSubtype_stop ?_)
    exact wpAny_pure ⟨rfl, I.turned (t' := s.toks) (fun b o hb q => he' b o hb q) f0 f1 f3 f4 f5⟩
  self := fun A i s Q E st h => let ⟨⟨_, he⟩, _⟩ := st; wpAny_pyIter_enum he h
def iEnumT (K : Fg) (ta : TA) : TI := fun σ H R => ta σ H fun vs H1 => ∃ a xs, vs = [.ref a] ∧ SqT K H1 a xs ∧ R (IteT K a) H1
theorem pi_enumT {X : Cx} {e : Expr} {ta : TA} {p pos tpos : Pos} {elts : List Expr} {kk : Nat} (hg : Gl X "enumerate") (hm : X.mg "enumerate" = none) (ha : PA X [e] ta) (hs : starEach [e] X.env = [(false, eval e X.env)] := by rfl) :
    PI X (.Tuple elts kk tpos) (.Call (.Name "enumerate" p) [e] [] pos) (iEnumT X.K ta) := by
  refine ⟨fun pins s σ H R I h => ?_⟩
  refine Call_ (ld_blt I hg hm boot_enumerate (PyProof.Rows.callWith_type1 (thn (ha.run pos pins s σ H _ I h) fun us s1 ⟨vs, H1, I1, r1, q1⟩ => ?_) hs rfl))
  obtain ⟨a, xs, ex, hq, q⟩ := q1
  subst ex
  obtain rfl := Vals.ref1 r1
  obtain ⟨its, rv, p', hz⟩ := I1.tuple hq
  have hal : a < s1.heap.objs.size := p'.lt
  refine DLE.call_enum1 (begins_tuple a its.toArray) (show s1.heap.IsTuple a its.toArray from p') fun h' he hit hsz hk => wpAny_pyIter_enum he ?_
  have I2 : Inv X pins σ H1 { s1 with heap := h' } := I1.kept (t' := s1.toks) hk
  refine ⟨s1.heap.objs.size + 1, [s1.heap.objs.size + 1, s1.heap.objs.size], _, _, H1, rfl, I2, turn_enumT a (s1.heap.objs.size + 1) s1.heap.objs.size, ⟨⟨.none, he⟩, ⟨_, hit, rfl, rfl⟩, Nat.succ_ne_self _, Nat.ne_of_lt hal, Nat.ne_of_lt (Nat.lt_succ_of_lt hal)⟩, fun b hb => ?_, q⟩
  have hle : s1.heap.objs.size ≤ b := by
    rcases List.mem_cons.mp hb with z | z
    · rw [z]; exact Nat.le_succ _
    · rw [List.mem_singleton.mp z]; exact Nat.le_refl _
  exact I1.fpOk hle (I1.hok.fresh hle)
section
variable {X : Cx} {K : Fg} {B0 F : Hp} {M : Cs} {ρ κ : List Sl} {e : Expr} {pos p : Pos} {R : List PyData → Sl → (Cs → Prop) → Cs → Prop}
theorem di_enumT {elts : List Expr} {kk : Nat} {tpos : Pos} (hm : X.mg "enumerate" = none) (h : DE X B0 F M ρ κ e fun r M1 => ∃ ds, r = .d (.tuple ds) ∧ R (enumD ds) r (fun _ => True) M1) (hg : Gl X "enumerate" := by rfl) (hs : starEach [e] X.env = (false, eval e X.env) :: starEach [] X.env := by rfl) (hs2 : starEach [e] X.env = [(false, eval e X.env)] := by rfl) :
    DI X B0 F M ρ κ (.Tuple elts kk tpos) (.Call (.Name "enumerate" p) [e] [] pos) R := fun σ vs H Q g q => by
  refine tOfI_of (pi_enumT hg hm (pa_cons pe_self pa_nil hs) hs2) (h σ vs H _ g fun v H1 r M1 g1 hr => ?_)
  obtain ⟨ds, rfl, hr⟩ := hr
  obtain ⟨B, g1b⟩ := id g1
  obtain ⟨a, xs, rfl, ha, hx⟩ := Rp.tup_inv g1b.fst
  refine ⟨a, xs, rfl, same_t g1b.bh ha, q (IteT X.K a) H1 M1 _ _ (.ref a) (fun _ => True) g1 ⟨?_, ?_, ?_⟩ trivial hr⟩
  · intro i M ρ κ σ vs H _ g hi
    rw [enumD_len] at hi
    obtain ⟨B, g⟩ := g
    obtain ⟨a', ys, e, ha', hy⟩ := Rp.tup_inv g.fst
    cases e
    have hl := hy.len
    exact ⟨ys, ys[i]'(by omega), same_t g.bh ha', by simp [show i < ys.length by omega]⟩
  · intro M ρ κ σ vs H _ g
    rw [enumD_len]
    obtain ⟨B, g⟩ := g
    obtain ⟨a', ys, e, ha', hy⟩ := Rp.tup_inv g.fst
    cases e
    have hl := hy.len
    exact ⟨ys, same_t g.bh ha', by omega⟩
  · intro i M ρ κ σ vs H x H' d _ g hd y
    obtain ⟨T, x', rfl, hT, eH, y⟩ := y
    obtain ⟨z, hz, rfl⟩ := enumD_get hd
    refine enum_yld g hT eH fun B g => ?_
    obtain ⟨a', ys, e, ha', hy⟩ := Rp.tup_inv g.fst
    cases e
    obtain ⟨v, hv, hvd⟩ := hy.get hz
    have e : x' = v := Option.some.inj ((y ys (same_t g.bh ha')).symm.trans hv)
    subst e
    exact hvd
end
end DL
set_option maxHeartbeats 4000000
namespace DL
open PySem PySem.Spec PyProof.Rows L2

section
variable {X : Cx} {K : Fg} {B0 F : Hp} {M : Cs} {ρ κ : List Sl} {P : Sl → Cs → Prop} {a b c e o : Expr} {es : List Expr} {pos p : Pos} {x : Str} {R : List PyData → Sl → (Cs → Prop) → Cs → Prop}
theorem Good.perm {M' : Cs} {σ : L2.St} {vs : List V} {H : Hp} (g : Good K B0 F M ρ κ σ vs H) (h : M.Perm M') : Good K B0 F M' ρ κ σ vs H := by
  obtain ⟨B, g⟩ := g
  exact ⟨B, g.b0, g.bh, g.fh, g.new, fun c hc => g.cells c (h.mem_iff.mpr hc), (h.map _).nodup_iff.mp g.nd, g.sl, g.st⟩
/-- f(e, ..): a def that may change all cells behind the first j -/
theorem de_callJ {f : Addr} {fd : FuncData} {ps : List Str} {lv : Nat} {Rf : List Sl → Cs → (Sl → Cs → Prop) → Prop} (j : Nat) (Fo : FnOk X.prog X.w X.K X.mg X.base CX0 lv f fd ps (SpG X.K Rf)) (hr : Room lv X.A) (hm : X.mg x = some (.ref f)) (hk : PySem.W.keepIn X.K (.ref f) = true) (hb : Binds X.K fd ps [])
    (h : DA X B0 F M ρ κ (e :: es) fun rs M1 => Rf rs (M1.drop j) fun r M2 => NoRd r ∧ P r (M1.take j ++ M2)) (hg : Gl X x := by rfl) (hdb : (x == ("__debug__" : Str)) = false := by decide)
    (he : starEach (e :: es) X.env = (false, eval e X.env) :: starEach es X.env := by rfl) (hpl : (backTo pos (starEach es X.env)).any (·.1) = false := by rfl) : DE X B0 F M ρ κ (.Call (.Name x p) (e :: es) [] pos) P := fun σ vs H Q g q => by
  refine tOf_of (pe_call (E := E0) Fo hr hg hm hk hb .nil pass0 pa_self hdb he hpl) (h σ vs H _ g fun ws H1 rs M1 hl g1 hR => ?_)
  rw [List.append_nil]
  have pm : M1.Perm (M1.drop j ++ M1.take j) := by
    have h1 : M1 = M1.take j ++ M1.drop j := (List.take_append_drop j M1).symm
    exact (List.Perm.of_eq h1).trans List.perm_append_comm
  obtain ⟨B, g1⟩ := g1.perm pm
  obtain ⟨k1, k2⟩ := kok_split hl g1.st
  have g2 := g1.stk k2
  have sF : Same F (without H1 ((M1.drop j).map (·.1))) := fun a o e => by
    rw [without_out]
    · exact g1.fh a o e
    · intro z
      obtain ⟨c, hc, rfl⟩ := List.mem_map.mp z
      rw [(g1.cells c (List.mem_append_left _ hc)).f] at e
      cases e
  have nd := g1.nd
  rw [List.map_append] at nd
  refine ⟨B, without H1 ((M1.drop j).map (·.1)), M1.drop j, rs, _, ⟨B, Same.refl _, g1.bh, fun a o e => (without_some e).2, fun a ha => .inl ha, fun c hc => ?_, (List.nodup_append.mp nd).1, .nil, Paired.mapP k1 fun _ _ z => z.extF sF⟩, ?_, hR, fun v H' r M' g' hW => ?_⟩
  · obtain ⟨h1, h2, u, h3, h4⟩ := g1.cells c (List.mem_append_left _ hc)
    exact ⟨h1, without_in (List.mem_map.mpr ⟨c, hc, rfl⟩), u, h3, h4⟩
  · rintro r M ⟨hn, _⟩
    exact hn
  · exact q v H' r _ ((good_afterM g2 hW.1 g').perm List.perm_append_comm) hW.2

/-! ### a raw list made, an item popped -/
theorem vok_slV {F B : Hp} {v w : V} (h : VOk K F B v (slV w)) : v = w := by
  cases w with
  | int i => exact Rp.int_inv h
  | bl b => exact Rp.bl_inv h
  | str x => exact Rp.str_inv h
  | non => exact Rp.non_inv h
  | byt b => exact h
  | flt b => exact h
  | ref a => exact h
  | ty n => exact h
theorem koks_slV {F B : Hp} : ∀ {ws vs : List V}, KOk K F B ws (vs.map slV) → ws = vs
  | _, [], h => by cases h; rfl
  | _, v :: vs, h => by
    cases h with
    | cons h1 h2 => rw [vok_slV h1, koks_slV h2]
theorem de_lstRaw (h : DA X B0 F M ρ κ es fun rs M1 => ∃ ws : List V, rs = ws.map slV ∧ ws.length ≤ 100000 ∧ ∀ p, P (.v (.ref p)) ((p, .raw (.lst ws)) :: M1)) : DE X B0 F M ρ κ (.List es pos) P :=
  fun σ vs H Q g q => tOf_of (pe_lst pa_self) (h σ vs H _ g fun ws H1 rs M1 hl g1 h1 => by
    obtain ⟨us, rfl, hz, p⟩ := h1
    obtain ⟨B, g1⟩ := g1
    obtain ⟨h3, h4⟩ := kok_split hl g1.st
    have e := koks_slV h3
    subst e
    exact ⟨Nat.le_trans hz (by decide), fun a ha => q _ _ _ _ ⟨B, ((g1.stk h4).cell (c := .raw (.lst ws)) ha rfl).pushV⟩ (p a)⟩)
variable {apos cpos : Pos}
/-- xs.pop(i): xs a cell at place n -/
theorem de_popAt (n : Nat) (h : DE X B0 F M ρ κ o fun r1 M1 => ∃ a ds', r1 = .v (.ref a) ∧ (a, MC.lst ds') ∈ M1 ∧ DE X B0 F M1 ρ (r1 :: κ) e fun r2 M2 => ∃ ds i k d, r2 = .d (.int i) ∧ M2[n]? = some (a, .lst ds) ∧ -(2 ^ 63) ≤ i ∧ i < 2 ^ 63 ∧ seqIndex? i ds.length = some k ∧ ds[k]? = some d ∧ P (.d d) (M2.set n (a, .lst (ds.eraseIdx k))))
    (hbase : attributeBase o "pop" X.env (eval o X.env) = eval o X.env := by rfl)
    (hfew : ((backTo cpos (starEach (e :: []) X.env)).all (fun x => !x.1) && (backToKw cpos (keywordEach [] X.env)).all (fun x => x.1.isSome)
      && decide ((e :: ([] : List Expr)).length + ([] : List Keyword).length + (if ([] : List Keyword).isEmpty then 0 else 1) < 30)) = true := by rfl)
    (hline : (apos.endLine == cpos.line) = true := by rfl) (hs : starEach (e :: []) X.env = (false, eval e X.env) :: starEach [] X.env := by rfl) (hplain : (backTo cpos (starEach [] X.env)).any (·.1) = false := by rfl) :
    DE X B0 F M ρ κ (.Call (.Attribute o "pop" apos) [e] [] cpos) P := fun σ vs H Q g q => by
  refine tOf_of (pe_bm PySem.F.plainAttrs_list PySem.F.slot_list_pop PySem.F.type_list_pop (X := X) mt_popAt pe_self (pa_cons pe_self pa_nil hs) hbase hfew hline hs hplain) ?_
  refine h σ vs H _ g fun x H1 r1 M1 g1 h1 => ?_
  obtain ⟨a, ds', rfl, hm, h1⟩ := h1
  have e := g1.ref
  subst e
  refine ⟨?_, h1 σ (.ref a :: vs) H1 _ g1 fun y H2 r2 M2 g2 h2 => ?_⟩
  · obtain ⟨B, g1⟩ := g1
    obtain ⟨_, _, u, ho, ws, rfl, hw⟩ := g1.cells _ hm
    exact .inl ⟨rfl, ws, SqL.of ho⟩
  · obtain ⟨ds, i, k, d, rfl, hn, hi1, hi2, hk, hd, hp⟩ := h2
    have e := g2.int
    subst e
    obtain ⟨B, g2⟩ := g2
    obtain ⟨ws, ho, hw⟩ := cell_at g2 hn
    obtain ⟨v, hv, hr⟩ := hw.get hd
    have er : ∀ {ws : List V} {ds : List PyData} (k : Nat), RpA X.K B ws ds → RpA X.K B (ws.eraseIdx k) (ds.eraseIdx k) := by
      intro ws ds k h
      induction ws generalizing ds k with
      | nil => cases h; exact .nil
      | cons w ws ih =>
        cases h with
        | cons h1 h2 =>
          cases k with
          | zero => exact h2
          | succ k => exact .cons h1 (ih k h2)
    exact ⟨a, ws, i, k, v, rfl, rfl, ho, hi1, hi2, by rw [hw.len]; exact hk, hv, q _ _ _ _ ⟨B, (g2.pop.pop.write (c' := .lst (ds.eraseIdx k)) hn ⟨_, rfl, er k hw⟩).pushD hr⟩ hp⟩

/-! ### in, of data at any depth -/
theorem SeqLs.dp {σ : L2.St} {vs : List V} {H B : Hp} {s : Sl} {ds : List PyData} {v : V} (q : SeqLs M s ds) (g : GoodB K B0 F M ρ κ σ vs H B) (hv : VOk K F B v s) : Dp K H v (.list ds) := by
  obtain ⟨a, xs, rfl, h1, h2⟩ := q.at g hv
  exact .lst h1 (h2.ext g.bh).dp
theorem r2_inD {s : Sl} {ds : List PyData} {d : PyData} (q : SeqLs M s ds) (hd : SeqAt.shaped d = true) (hs : SeqAt.shaped (.list ds) = true) (h : P (.d (.bool (ds.any fun z => PyData.eqv z d))) M) : R2D K B0 F ρ κ (rInD K) (.d d) s M P := fun σ vs H x y Q g qq => by
  obtain ⟨B, g⟩ := g
  have r : Rp K B x d := g.pop.fst
  exact ⟨d, ds, (r.ext g.bh).dp, q.dp g g.fst, hd, hs, qq _ H _ M ⟨B, g.pop.pop.pushD (Rp.bl _)⟩ h⟩
theorem r2_niD {s : Sl} {ds : List PyData} {d : PyData} (q : SeqLs M s ds) (hd : SeqAt.shaped d = true) (hs : SeqAt.shaped (.list ds) = true) (h : P (.d (.bool (!ds.any fun z => PyData.eqv z d))) M) : R2D K B0 F ρ κ (rNotInD K) (.d d) s M P := fun σ vs H x y Q g qq => by
  obtain ⟨B, g⟩ := g
  have r : Rp K B x d := g.pop.fst
  exact ⟨d, ds, (r.ext g.bh).dp, q.dp g g.fst, hd, hs, qq _ H _ M ⟨B, g.pop.pop.pushD (Rp.bl _)⟩ h⟩

/-! ### ranges as values -/
/-- range(i, j): a cell -/
theorem rn_range2 {i j : Int} (h : ∀ p, P (.v (.ref p)) ((p, .raw (.rng i j)) :: M)) : RnD K B0 F ρ κ (fun vs H Q => ∃ i j, vs = [V.int i, V.int j] ∧ ∀ p, H p = none → Q (.ref p) (upd H p (.rng i j))) [.d (.int i), .d (.int j)] M P := fun σ vs H xs Q hl g qq => by
  obtain ⟨x, y, rfl⟩ := two_args hl rfl
  have g2 : Good K B0 F M ρ (.d (.int j) :: κ) σ (y :: vs) H := Good.pop g
  have e := Good.int g
  subst e
  have e := g2.int
  subst e
  obtain ⟨B, g2⟩ := g2
  exact ⟨i, j, rfl, fun p hp => qq _ _ _ _ ⟨B, (g2.pop.cell (c := .raw (.rng i j)) hp rfl).pushV⟩ (h p)⟩
/-- a range object that stands, walked -/
def iRngV (te : TE) : TI := fun σ H R => te σ H fun x H1 => ∃ p lo hi, x = .ref p ∧ H1 p = some (.rng lo hi) ∧ (-(2 ^ 62) ≤ lo ∧ lo < 2 ^ 62 ∧ -(2 ^ 62) ≤ hi ∧ hi < 2 ^ 62) ∧ R (Itr lo (hi - lo).toNat) H1
theorem pi_rngV {tg e : Expr} {te : TE} (he : PE X e te) : PI X tg e (iRngV te) := by
  refine ⟨fun pins s σ H R I h => ?_⟩
  refine thn (he.run pins s σ H _ I h) fun v s1 ⟨x, H1, I1, r1, q1⟩ => ?_
  obtain ⟨p, lo, hi, rfl, hp, ⟨h1, h2, h3, h4⟩, q⟩ := q1
  obtain rfl : v = Value.ref p := r1
  obtain ⟨t, u, w, ho⟩ : ObjOk X.prog X.w H1 s1.heap p (.rng lo hi) := I1.hok p _ hp
  refine wpAny_pyIter_range (show IsRange s1.heap p lo hi 1 t u w from ho) (small_one h1 h2 h3 h4) ?_
  refine ⟨s1.heap.objs.size, [s1.heap.objs.size], _, _, H1, rfl, I1.kept (t' := s1.toks) fun b o e => Heap.get?_push_of_some _ e, turn_range _ lo (hi - lo).toNat, ?_, fun b hb => ?_, q⟩
  · have e1 : lo + ((0 : Nat) : Int) * 1 = lo := by simp
    have e2 : (((hi - lo).toNat : Nat) : Int) - ((0 : Nat) : Int) = Builtin.Range.rangeSize lo hi 1 := by rw [rangeSize_one]; split <;> omega
    show IsRangeIter _ _ (lo + ((0 : Nat) : Int) * 1) ((((hi - lo).toNat : Nat) : Int) - ((0 : Nat) : Int)) 1
    rw [e1, e2]
    exact Heap.get?_push_size _ rfl
  · obtain rfl := List.mem_singleton.mp hb
    exact I1.fpOk (Nat.le_refl _) (I1.hok.fresh (Nat.le_refl _))
theorem di_rngV {tg : Expr} (h : DE X B0 F M ρ κ e fun r M1 => ∃ p lo hi, r = .v (.ref p) ∧ (p, .raw (.rng lo hi)) ∈ M1 ∧ (-(2 ^ 62) ≤ lo ∧ lo < 2 ^ 62 ∧ -(2 ^ 62) ≤ hi ∧ hi < 2 ^ 62) ∧ R (rngD lo (hi - lo).toNat) .un (fun _ => True) M1) : DI X B0 F M ρ κ tg e R := fun σ vs H Q g q => by
  refine tOfI_of (pi_rngV pe_self) (h σ vs H _ g fun v H1 r M1 g1 hr => ?_)
  obtain ⟨p, lo, hi, rfl, hm, hb, hr⟩ := hr
  have e := g1.ref
  subst e
  obtain ⟨B, g1b⟩ := id g1
  exact ⟨p, lo, hi, rfl, raw_at g1b hm, hb, q _ H1 M1 _ .un .non _ (g1.pop.push fun _ _ => trivial) walk_rng trivial hr⟩
/-- tuple(range(a, b)), list(range(a)) -/
theorem de_tupRg2 {p2 p3 : Pos} (hm : X.mg "tuple" = none) (hm2 : X.mg "range" = none) (h : DE X B0 F M ρ κ a fun r M1 => DE X B0 F M1 ρ (r :: κ) b fun r2 M2 => ∃ m n, r = .d (.int m) ∧ r2 = .d (.int n) ∧ RgOk m n ∧ P (.d (.tuple (rngD m (n - m).toNat))) M2)
    (pe : PE X (.Call (.Name "tuple" p) [.Call (.Name "range" p2) [a, b] [] p3] [] pos) (tTupRg (tRg2 (tOf X a) (tOf X b))) := by exact pe_tupRg rfl rfl (by assumption) (prg_2 rfl (by assumption) pe_self pe_self)) : DE X B0 F M ρ κ (.Call (.Name "tuple" p) [.Call (.Name "range" p2) [a, b] [] p3] [] pos) P := fun σ vs H Q g q => tOf_of pe (h σ vs H _ g fun v H1 r M1 g1 h1 => h1 σ (v :: vs) H1 _ g1 fun v2 H2 r2 M2 g2 h2 => by
    obtain ⟨m, n, rfl, rfl, ok, hp⟩ := h2
    have e := g2.int
    subst e
    have e := g2.pop.int
    subst e
    refine ⟨m, n, rfl, rfl, ok, fun l hl => q _ _ _ M2 ?_ hp⟩
    obtain ⟨B, g2⟩ := g2
    exact ⟨_, (g2.pop.pop.laid (o := .tup (rgV m n)) hl).pushD (.tup (SqT.of upd_same) (rngV_rp m n))⟩)
theorem de_lstRg1 {p2 p3 : Pos} (hm : X.mg "list" = none) (hm2 : X.mg "range" = none) (h : DE X B0 F M ρ κ a fun r M1 => ∃ n, r = .d (.int n) ∧ RgOk 0 n ∧ ∀ l, P (.v (.ref l)) ((l, .lst (rngD 0 n.toNat)) :: M1))
    (pe : PE X (.Call (.Name "list" p) [.Call (.Name "range" p2) [a] [] p3] [] pos) (tLstRg (tRg1 (tOf X a))) := by exact pe_listRg rfl rfl (by assumption) (prg_1 rfl (by assumption) pe_self)) : DE X B0 F M ρ κ (.Call (.Name "list" p) [.Call (.Name "range" p2) [a] [] p3] [] pos) P := fun σ vs H Q g q => tOf_of pe (h σ vs H _ g fun v H1 r M1 g1 h1 => by
    obtain ⟨n, rfl, ok, hp⟩ := h1
    have e := g1.int
    subst e
    refine ⟨n, rfl, ok, fun l hl => q _ _ _ _ ?_ (hp l)⟩
    obtain ⟨B, g1⟩ := g1
    have e : (n - 0).toNat = n.toNat := by omega
    exact cell_new g1.pop hl (by rw [← e]; exact rngV_rp 0 n))

/-! ### dict(pairs), sorted(d) -/
def mergeD (kvs more : List (Key × PyData)) : List (Key × PyData) := more.foldl (fun acc kv => putD acc kv.1 kv.2) kvs
theorem ents_merge {B : Hp} : ∀ {kvs acc : List (Key × V)} {es acc' : List (Key × PyData)}, EntsOk K B kvs es → EntsOk K B acc acc' → EntsOk K B (mergeK acc kvs) (mergeD acc' es)
  | _, _, _, _, .nil, h => h
  | p :: kvs, acc, q :: es, acc', .cons h t, g => by
    show EntsOk K B (mergeK (putK acc p.1 p.2) kvs) (mergeD (putD acc' q.1 q.2) es)
    rw [h.1]
    exact ents_merge t (ents_put h.2 g)
def keyData : Key → PyData
  | .inl i => .int i
  | .inr x => .str x
theorem key_v {H : Hp} {v : V} {ky : Key} (h : Rp K H v (keyData ky)) : v = kV ky := by
  cases ky with
  | inl i => exact Rp.int_inv h
  | inr x => exact Rp.str_inv h
/-- dict(xs): xs a list of pairs (key, value): a cell -/
theorem rn_dict {s : Sl} {es : List (Key × PyData)} (q : SeqLs M s (es.map fun e => .tuple [keyData e.1, e.2])) (h : ∀ p, P (.v (.ref p)) ((p, .dic (mergeD [] es)) :: M)) : RnD K B0 F ρ κ (fun xs H Q => ∃ (a : Addr) (ps : List Addr) (kvs : List (Key × V)), xs = [.ref a] ∧ SqL K H a (ps.map V.ref) ∧ Paired (fun p kv => SqT K H p [kV kv.1, kv.2]) ps kvs ∧
    ∀ p, H p = none → Q (.ref p) (upd H p (.dK (mergeK [] kvs)))) [s] M P := fun σ vs H xs Q hl g qq => by
  obtain ⟨x, rfl⟩ := one_arg hl rfl
  obtain ⟨B, g⟩ := g
  obtain ⟨a, ys, rfl, h1, h2⟩ := q.at g g.fst
  have : ∀ {ys : List V} {es : List (Key × PyData)}, RpA K B ys (es.map fun e => .tuple [keyData e.1, e.2]) → ∃ (ps : List Addr) (kvs : List (Key × V)), ys = ps.map V.ref ∧ Paired (fun p kv => SqT K H p [kV kv.1, kv.2]) ps kvs ∧ EntsOk K B kvs es := by
    intro ys es
    induction es generalizing ys with
    | nil => intro h; cases h; exact ⟨[], [], rfl, .nil, .nil⟩
    | cons e es ih =>
      intro h
      cases h with
      | cons h1 h2 =>
        obtain ⟨ps, kvs, e1, e2, e3⟩ := ih h2
        obtain ⟨t, ws, rfl, ht, hw⟩ := Rp.tup_inv h1
        cases hw with
        | cons w1 w2 =>
          cases w2 with
          | cons w2 w3 =>
            cases w3
            have ek := key_v w1
            subst ek
            rename_i v2
            exact ⟨t :: ps, (e.1, v2) :: kvs, by rw [e1]; rfl, .cons (same_t g.bh ht) e2, .cons ⟨rfl, w2⟩ e3⟩
  obtain ⟨ps, kvs, rfl, e2, e3⟩ := this h2
  exact ⟨a, ps, kvs, rfl, h1, e2, fun p hp => qq _ _ _ _ ⟨B, (g.pop.cell (c := .dic (mergeD [] es)) hp ⟨_, rfl, ents_merge e3 .nil⟩).pushV⟩ (h p)⟩
/-- sorted(d): d a cell with int keys, fewer than 64 -/
theorem rn_sortedDI {a : Addr} {es : List (Key × PyData)} {ks : List Int} (hm : (a, .dic es) ∈ M) (hk : es.map (·.1) = ks.map Sum.inl) (hl : ks.length < 64) (h : ∀ ys : List Int, ys.Perm ks → ys.Pairwise (· ≤ ·) → ∀ l, P (.v (.ref l)) ((l, .lst (ys.map .int)) :: M)) : RnD K B0 F ρ κ (fun xs H Q => ∃ (a : Addr) (kvs : List (Key × V)) (ks : List Int), xs = [.ref a] ∧ Rd H a (.dK kvs) ∧ kvs.map (·.1) = ks.map Sum.inl ∧ ks.length < 64 ∧
    ∀ (ys : List Int) (p : Addr), ys.Perm ks → ys.Pairwise (· ≤ ·) → H p = none → Q (.ref p) (upd H p (.lst (ys.map V.int)))) [.v (.ref a)] M P := fun σ vs H xs Q hl' g qq => by
  obtain ⟨x, rfl⟩ := one_arg hl' rfl
  have e := Good.ref g
  subst e
  obtain ⟨B, g⟩ := g
  obtain ⟨kvs, ho, he⟩ := dic_at g hm
  have ek : ∀ {kvs : List (Key × V)} {es : List (Key × PyData)}, EntsOk K B kvs es → kvs.map (·.1) = es.map (·.1) := by
    intro kvs es h
    induction h with
    | nil => rfl
    | cons h t ih => rw [List.map_cons, List.map_cons, ih, h.1]
  exact ⟨a, kvs, ks, rfl, .inl ho, (ek he).trans hk, hl, fun ys p h1 h2 hp => qq _ _ _ _ (cell_new g.pop hp RpA.of_ints) (h ys h1 h2 p)⟩
end
end DL
set_option maxHeartbeats 4000000
/-! sorted(set(xs)), xs a list or a tuple of ints -/
namespace DLS
open PySem PySem.Spec PyProof.Rows L2
variable {P : Program} {w : World} {A : Around} {E : Value → Shared → Prop} {s : Shared}
/-- the set just made -/
abbrev fresh0 (w : World) : Obj := { cls := .type "set", dict := none, data := .set #[] 0 (.fresh 0 0 (!w.params.followText "set-order")) }
theorem set_of_list {l : Addr} {items : Array Value} (ns : List Int) {Q : Value → Shared → Prop} (hh : A.handled = none) (hl : s.heap.IsList l items) (hit : IntsAre items.toList ns) (hb : ns.length + 1 < scanBound)
    (h : ∀ (h' : Heap) (tk c : Nat), SetR w h' s.heap.objs.size (fun j => decide (j ∈ ns)) c → c ≤ ns.length → (∀ b o, s.heap.get? b = some o → h'.get? b = some o) → Q (.ref s.heap.objs.size) { s with heap := h', toks := tk }) :
    wpAny (model P w) A (call (.type "set") [.ref l]) Q E s := by
  have len : items.size = ns.length := by rw [← Array.length_toList]; exact IntsAre.length hit
  obtain ⟨c, tl, hmro⟩ := F.called_set.mro
  have a1 := F.called_set.made
  have a2 := F.called_set.sub
  have a3 := F.called_set.notType
  have a4 := F.called_set.canCreate
  have a5 := F.typeCall_set_1 (.ref l)
  refine wpAny_call (codeAny_of_tree ?_)
  show wpAny _ _ (callAny (.type "set") _) _ _ _
  refine wpAny_pure ⟨Code.quiet_builtin _ (by decide +kernel), codeAny_builtin F.entry_type_call ?_⟩
  rw [Around.under_plain (weight_type_call_type "set" [.ref l] []) rfl]
  repeat (any_goals (first | assumption | wp_step))
  refine codeAny_mono (code_set_led1 (.ref l) (E := E) (Q₁ := fun ob s1 => ob = .ref s.heap.objs.size ∧ s1 = { s with heap := s.heap.push (fresh0 w) }) ⟨rfl, rfl⟩) fun r s1 hr => ?_
  match r, hr with
  | .error e, hr => exact hr
  | .ok .next, hr => exact hr.elim
  | .ok .brk, hr => exact hr.elim
  | .ok .cont, hr => exact hr.elim
  | .ok (.ret ob), hr =>
    obtain ⟨rfl, rfl⟩ := hr
    have hS : (s.heap.push (fresh0 w)).get? s.heap.objs.size = some (fresh0 w) := Heap.get?_push_size _ rfl
    have hT : Shared.TypeIs { s with heap := s.heap.push (fresh0 w) } (.ref s.heap.objs.size) "set" := ⟨_, hS, rfl⟩
    have b1 := F.called_set.init.lookup
    have b2 := F.called_set.init.bind (.ref s.heap.objs.size)
    repeat (any_goals (first | assumption | wp_step))
    refine codeAny_mono (codeAny_call_builtin (R := wants (fun r s2 => r = .none ∧ ∃ h' tk c, s2 = { s with heap := h', toks := tk } ∧ SetR w h' s.heap.objs.size (fun j => decide (j ∈ ns)) c ∧ c ≤ ns.length ∧
        (∀ b o, s.heap.get? b = some o → h'.get? b = some o)) E) F.called_set.init.plain F.entry_set_init (check_set_init_1 hT ?_)) fun r2 s2 hr2 => ?_
    · obtain ⟨⟨oc, od, ot, os⟩, hol, hcl, nl, hdl⟩ := hl
      simp only at hcl hdl
      subst hcl hdl
      have hol' : (s.heap.push (fresh0 w)).get? l = some { cls := .type "list", dict := od, data := .seq items nl, slots := os } := Heap.get?_push_of_some _ hol
      have c1 := F.sub_list_set
      have c2 := F.sub_list_frozenset
      have c3 : (Value.type "list" == Value.type "dict") = false := by decide
      have hl1 : (s.heap.push (fresh0 w)).IsList l items := ⟨_, hol', rfl, nl, rfl⟩
      unfold Builtin.«set.__init__» noKeywords Builtin.Frozenset.updateFrom
      generalize hPI : pyIter = PI
      wp_walk
      subst hPI
      refine wpAny_pyIter_list hl1 (wpAny_bind (wpAny_runValue ?_))
      have lt : l < s.heap.objs.size := Heap.lt_size hol
      have sz : (s.heap.push (fresh0 w)).objs.size = s.heap.objs.size + 1 := Heap.size_push ..
      have neI : l ≠ (s.heap.push (fresh0 w)).objs.size := by rw [sz]; exact Nat.ne_of_lt (Nat.lt_succ_of_lt lt)
      have out : s.heap.objs.size ∉ [(s.heap.push (fresh0 w)).objs.size, l] := by
        rw [sz]
        intro z
        rcases List.mem_cons.mp z with z | z
        · exact absurd z (Nat.ne_of_lt (Nat.lt_succ_self _))
        · exact absurd (List.mem_singleton.mp z) (Nat.ne_of_gt lt)
      have val : ∀ (i : Nat) (v : Value), items[i]? = some v → ∃ k t, ns[i]? = some k ∧ v = .int k t := fun i v hv => by
        have hi : i < ns.length := by rw [← len]; exact (Array.getElem?_eq_some_iff.mp hv).1
        obtain ⟨t, e⟩ := PyProof.Rows.IntsAre.int_at hit i v (by rw [Array.getElem?_toList]; exact hv)
        exact ⟨ns[i], t, List.getElem?_eq_getElem hi, by rw [e, List.getD_eq_getElem?_getD, List.getElem?_eq_getElem hi] <;> rfl⟩
      refine set_update_ints ((Walks.list (by simp [hh]) _ l neI items).toS) s.heap.objs.size out ns len hb val (items.size - 0) 0 _ (by omega) (Nat.zero_le _) ⟨⟨_, Heap.get?_push_size _ rfl, rfl, rfl⟩, (hl1.push _)⟩
        ⟨0, Nat.le_refl 0, setR_new_at (Heap.get?_push_of_some _ hS)⟩ fun s' c' hm hc' hS' => ?_
      obtain ⟨h', g2, d', tk', os'⟩ := s'
      obtain rfl : g2 = s.gens := hm.gens
      obtain rfl : d' = s.drawn := hm.drawn
      obtain rfl : os' = s.os := hm.os
      rw [len] at hc'
      show wpAny _ _ _ _ _ _
      refine wpAny_pure ?_
      show wpAny _ _ (ret Value.none) _ _ _
      refine wpAny_pure ⟨rfl, h', tk', c', rfl, hS', hc', fun b o e => hm.heap b o (fun z => ?_) (Heap.get?_push_of_some _ (Heap.get?_push_of_some _ e))⟩
      have hb0 : b < s.heap.objs.size := Heap.lt_size e
      rcases List.mem_cons.mp z with z | z
      · exact absurd z (Nat.ne_of_lt hb0)
      · rw [List.mem_singleton.mp z, sz] at hb0
        exact absurd hb0 (Nat.not_lt_of_le (Nat.le_succ _))
    · match r2, hr2 with
      | .error e, hr2 => exact hr2
      | .ok .next, hr2 => exact hr2.elim
      | .ok .brk, hr2 => exact hr2.elim
      | .ok .cont, hr2 => exact hr2.elim
      | .ok (.ret r), hr2 =>
        obtain ⟨rfl, h', tk, c', rfl, hS', hc', hk'⟩ := hr2
        repeat (any_goals (first | assumption | wp_step))
        exact h _ _ _ hS' hc' hk'
end DLS
namespace DL
open PySem PySem.Spec PyProof.Rows L2
section
variable {X : Cx} {K : Fg} {B0 F : Hp} {M : Cs} {ρ κ : List Sl} {P : Sl → Cs → Prop} {e : Expr} {pos p : Pos}
/-- set(xs) of ints -/
def rSetI (K : Fg) (w : World) : List V → Hp → VK → Prop := fun xs H Q => ∃ (a : Addr) (ns : List Int), xs = [.ref a] ∧ (SqL K H a (ns.map V.int) ∨ SqT K H a (ns.map V.int)) ∧ ns.length ≤ 1000 ∧ ∀ p n, H p = none → n ≤ ns.length → Q (.ref p) (upd H p (SetO w p (fun j => decide (j ∈ ns)) n))
theorem cr_setI (hc : X.calm = true) : CallR X (.type "set") (rSetI X.K X.w) := by
  intro pins s σ H xs us Q I r h
  obtain ⟨a, ns, rfl, hs, hn, q⟩ := h
  obtain rfl := Vals.ref1 r
  have hb : ns.length + 1 < scanBound := by unfold scanBound; omega
  have fin : ∀ (h' : Heap) (tk c : Nat), SetR X.w h' s.heap.objs.size (fun j => decide (j ∈ ns)) c → c ≤ ns.length → (∀ b o, s.heap.get? b = some o → h'.get? b = some o) → EP X pins σ Q (.ref s.heap.objs.size) { s with heap := h', toks := tk } := fun h' tk c hS hc' hk =>
    ⟨.ref _, _, I.laid (t' := tk) hk (Nat.le_refl _) (setO_new hS), rfl, q _ c (I.hok.fresh (Nat.le_refl _)) hc'⟩
  rcases hs with hs | hs
  · obtain ⟨its, rv, pl, hz⟩ := I.list hs
    exact DLS.set_of_list ns (I.ok.hd hc) pl.isList (by simpa using rv.ints) hb fin
  · obtain ⟨its, rv, pl, hz⟩ := I.tuple hs
    exact call_set_tupI ns (I.ok.hd hc) pl (by simpa using rv.ints) hb fin
/-- set(xs): a cell -/
theorem rn_setI {s : Sl} {ns : List Int} {w : World} (q : Seq M s (ns.map PyData.int)) (hn : ns.length ≤ 1000) (h : ∀ p n, n ≤ ns.length → P (.v (.ref p)) ((p, .raw (SetO w p (fun j => decide (j ∈ ns)) n)) :: M)) : RnD K B0 F ρ κ (rSetI K w) [s] M P := fun σ vs H xs Q hl g qq => by
  obtain ⟨x, rfl⟩ := one_arg hl rfl
  obtain ⟨B, g⟩ := g
  obtain ⟨a, ys, rfl, h1, h2⟩ := q.at g g.fst
  have e := h2.ints
  subst e
  exact ⟨a, ns, rfl, h1, hn, fun p n hp hn' => qq _ _ _ _ ⟨B, (g.pop.cell (c := .raw (SetO w p (fun j => decide (j ∈ ns)) n)) hp rfl).pushV⟩ (h p n hn')⟩
/-- sorted(a set of ints) -/
theorem rn_sortedSet {w : World} {a : Addr} {S : Int → Bool} {n : Nat} (hm : (a, .raw (SetO w a S n)) ∈ M) (hn : n < 64) (h : ∀ ns : List Int, ns.Pairwise (· < ·) → (∀ k : Int, k ∈ ns ↔ S k = true) → ∀ l, P (.v (.ref l)) ((l, .lst (ns.map .int)) :: M)) : RnD K B0 F ρ κ (rSortedSet w) [.v (.ref a)] M P := fun σ vs H xs Q hl g qq => by
  obtain ⟨x, rfl⟩ := one_arg hl rfl
  have e := Good.ref g
  subst e
  obtain ⟨B, g⟩ := g
  exact ⟨a, S, n, rfl, raw_at g hm, hn, fun ns p h1 h2 _ hp => qq _ _ _ _ (cell_new g.pop hp RpA.of_ints) (h ns h1 h2 p)⟩
end
end DL
set_option maxHeartbeats 4000000
namespace DL
open PySem PySem.Spec PyProof.Rows L2
abbrev FnP (K : PySem.W.Frag) (x : Str) (st : Stmt) (f : Addr) (fd : FuncData) : Prop := FunD K x x (defArgs st) (defBody st) (defScope st) [] [] f fd
/-- a def that keeps a promise, known by its name -/
abbrev Go (P : Program) (w : World) (K : Fg) (mg : Str → Option Value) (base : Heap) (x : Str) (lv : Nat) (ps : List Str) (R : List Sl → Cs → (Sl → Cs → Prop) → Prop) : Prop :=
  ∃ f fd, mg x = some (.ref f) ∧ PySem.W.keepIn K (.ref f) = true ∧ Binds K fd ps [] ∧ FnOk P w K mg base CX0 lv f fd ps (SpG K R)
/-- a pure promise -/
def Pu {α : Type} (A : α → List Sl) (C : α → Prop) (f : α → PyData) : List Sl → Cs → (Sl → Cs → Prop) → Prop := fun κ _ W => ∃ a, κ = A a ∧ C a ∧ ∀ M', W (.d (f a)) M'
theorem Views.refl {M : Cs} : ∀ rs : List Sl, Views M rs rs
  | [] => .nil
  | _ :: rs => .same (Views.refl rs)
section
variable {X : Cx} {B0 F : Hp} {M : Cs} {ρ κ : List Sl} {P : Sl → Cs → Prop} {e : Expr} {es : List Expr} {p pos : Pos} {x : Str} {lv : Nat} {ps : List Str}
theorem de_go {R : List Sl → Cs → (Sl → Cs → Prop) → Prop} (G : Go X.prog X.w X.K X.mg X.base x lv ps R) (hr : Room lv X.A)
    (h : DA X B0 F M ρ κ (e :: es) fun rs M1 => ∃ κ', Views M1 rs κ' ∧ R κ' [] fun r _ => ∃ y, r = .d y ∧ P (.d y) M1) (hg : Gl X x := by rfl) (hdb : (x == ("__debug__" : Str)) = false := by decide)
    (he : starEach (e :: es) X.env = (false, eval e X.env) :: starEach es X.env := by rfl) (hpl : (backTo pos (starEach es X.env)).any (·.1) = false := by rfl) : DE X B0 F M ρ κ (.Call (.Name x p) (e :: es) [] pos) P := by
  obtain ⟨f, fd, hm, hk, hb, Fo⟩ := G
  exact de_call Fo hr hm hk hb h hg hdb he hpl
/-- a pure def called, no cell among the arguments -/
theorem de_pu {α : Type} {A : α → List Sl} {C : α → Prop} {f : α → PyData} (G : Go X.prog X.w X.K X.mg X.base x lv ps (Pu A C f)) (hr : Room lv X.A)
    (h : DA X B0 F M ρ κ (e :: es) fun rs M1 => ∃ a, rs = A a ∧ C a ∧ P (.d (f a)) M1) (hg : Gl X x := by rfl) (hdb : (x == ("__debug__" : Str)) = false := by decide)
    (he : starEach (e :: es) X.env = (false, eval e X.env) :: starEach es X.env := by rfl) (hpl : (backTo pos (starEach es X.env)).any (·.1) = false := by rfl) : DE X B0 F M ρ κ (.Call (.Name x p) (e :: es) [] pos) P := by
  refine de_go G hr (fun σ vs H Q g q => h σ vs H Q g fun ws H' rs M' hl g' hp => q ws H' rs M' hl g' ?_) hg hdb he hpl
  obtain ⟨a, rfl, hc, hp⟩ := hp
  exact ⟨_, Views.refl _, a, rfl, hc, fun _ => ⟨_, rfl, hp⟩⟩
theorem da_pu {α : Type} {A : α → List Sl} {C : α → Prop} {Pf : α → Prop} {rs : List Sl} (a : α) (h : rs = A a) (hc : C a) (hp : Pf a) : ∃ a, rs = A a ∧ C a ∧ Pf a := ⟨a, h, hc, hp⟩
theorem go_of {P : Program} {w : World} {K : Fg} {mg : Str → Option Value} {base : Heap} {st : Stmt} {f : Addr} {fd : FuncData} {ps : List Str} {lv : Nat} {R : List Sl → Cs → (Sl → Cs → Prop) → Prop} (Fn : FnP K x st f fd) (gm : mg x = some (.ref f))
    (hb : ∀ (kV doc pm : Value) (an : Option Addr) (cdv ct : Value) (us : List Value), us.length = ps.length → bindArgs (PySem.W.fnOf x x (defArgs st) (defBody st) (defScope st) .none kV doc pm an cdv ct) ⟨us, []⟩ = pure (ps.zip us)) (ok : FnOk P w K mg base CX0 lv f fd ps (SpG K R)) : Go P w K mg base x lv ps R :=
  ⟨f, fd, gm, Fn.kp, Fn.bindsN hb, ok⟩
end

/-! ### built-ins by name -/
section
variable {X : Cx} {B0 F : Hp} {M : Cs} {ρ κ : List Sl} {P : Sl → Cs → Prop} {e e2 : Expr} {p pos : Pos}
theorem bt_tuple : bootBuiltins "tuple" = some (.type "tuple") := by decide +kernel
theorem bt_list : bootBuiltins "list" = some (.type "list") := by decide +kernel
theorem bt_sum : bootBuiltins "sum" = some (.builtin "sum") := by decide +kernel
theorem bt_all : bootBuiltins "all" = some (.builtin "all") := by decide +kernel
theorem bt_any : bootBuiltins "any" = some (.builtin "any") := by decide +kernel
theorem bt_sorted : bootBuiltins "sorted" = some (.builtin "sorted") := by decide +kernel
theorem bt_int : bootBuiltins "int" = some (.type "int") := by decide +kernel
theorem bt_min : bootBuiltins "min" = some (.builtin "min") := by decide +kernel
theorem bt_max : bootBuiltins "max" = some (.builtin "max") := by decide +kernel
theorem bt_isi : bootBuiltins "isinstance" = some (.builtin "isinstance") := by decide +kernel
theorem bt_set : bootBuiltins "set" = some (.type "set") := by decide +kernel
theorem bt_dict : bootBuiltins "dict" = some (.type "dict") := by decide +kernel
theorem de_len (gm : X.mg "len" = none) (h : DE X B0 F M ρ κ e fun r M1 => ∃ ds, Seq M1 r ds ∧ P (.d (.int ds.length)) M1) (hg : Gl X "len" := by rfl) (hs : starEach [e] X.env = (false, eval e X.env) :: starEach [] X.env := by rfl) : DE X B0 F M ρ κ (.Call (.Name "len" p) [e] [] pos) P :=
  de_callB call_len_seq gm boot_len (da_cons (fun σ vs H Q g q => h σ vs H Q g fun v H' r M' g' ⟨ds, hq, hp⟩ => q v H' r M' g' (da_nil (rn_len hq hp))) hs) hg (he := hs)
theorem de_tupleOf (gm : X.mg "tuple" = none) (h : DE X B0 F M ρ κ e fun r M1 => ∃ ds, Seq M1 r ds ∧ P (.d (.tuple ds)) M1) (hg : Gl X "tuple" := by rfl) (hs : starEach [e] X.env = (false, eval e X.env) :: starEach [] X.env := by rfl) : DE X B0 F M ρ κ (.Call (.Name "tuple" p) [e] [] pos) P :=
  de_callTy call_tuple_of gm bt_tuple (da_cons (fun σ vs H Q g q => h σ vs H Q g fun v H' r M' g' ⟨ds, hq, hp⟩ => q v H' r M' g' (da_nil (rn_tuple hq hp))) hs) hg (he := hs)
theorem de_listOf (gm : X.mg "list" = none) (h : DE X B0 F M ρ κ e fun r M1 => ∃ ds, Seq M1 r ds ∧ ∀ l, P (.v (.ref l)) ((l, .lst ds) :: M1)) (hg : Gl X "list" := by rfl) (hs : starEach [e] X.env = (false, eval e X.env) :: starEach [] X.env := by rfl) : DE X B0 F M ρ κ (.Call (.Name "list" p) [e] [] pos) P :=
  de_callTy call_list_of gm bt_list (da_cons (fun σ vs H Q g q => h σ vs H Q g fun v H' r M' g' ⟨ds, hq, hp⟩ => q v H' r M' g' (da_nil (rn_listC hq hp))) hs) hg (he := hs)
theorem de_sum (gm : X.mg "sum" = none) (h : DE X B0 F M ρ κ e fun r M1 => ∃ ns : List Int, SeqLs M1 r (ns.map PyData.int) ∧ P (.d (.int ns.sum)) M1) (hc : X.calm = true := by rfl) (hg : Gl X "sum" := by rfl) (hs : starEach [e] X.env = (false, eval e X.env) :: starEach [] X.env := by rfl) : DE X B0 F M ρ κ (.Call (.Name "sum" p) [e] [] pos) P :=
  de_callB (cr_sum hc) gm bt_sum (da_cons (fun σ vs H Q g q => h σ vs H Q g fun v H' r M' g' ⟨ds, hq, hp⟩ => q v H' r M' g' (da_nil (rn_sum hq hp))) hs) hg (he := hs)
theorem de_all (gm : X.mg "all" = none) (h : DE X B0 F M ρ κ e fun r M1 => ∃ ns : List Bool, SeqLs M1 r (ns.map PyData.bool) ∧ P (.d (.bool (ns.all id))) M1) (hc : X.calm = true := by rfl) (hg : Gl X "all" := by rfl) (hs : starEach [e] X.env = (false, eval e X.env) :: starEach [] X.env := by rfl) : DE X B0 F M ρ κ (.Call (.Name "all" p) [e] [] pos) P :=
  de_callB (cr_all hc) gm bt_all (da_cons (fun σ vs H Q g q => h σ vs H Q g fun v H' r M' g' ⟨ds, hq, hp⟩ => q v H' r M' g' (da_nil (rn_all hq hp))) hs) hg (he := hs)
theorem de_any (gm : X.mg "any" = none) (h : DE X B0 F M ρ κ e fun r M1 => ∃ ns : List Bool, SeqLs M1 r (ns.map PyData.bool) ∧ P (.d (.bool (ns.any id))) M1) (hc : X.calm = true := by rfl) (hg : Gl X "any" := by rfl) (hs : starEach [e] X.env = (false, eval e X.env) :: starEach [] X.env := by rfl) : DE X B0 F M ρ κ (.Call (.Name "any" p) [e] [] pos) P :=
  de_callB (cr_any hc) gm bt_any (da_cons (fun σ vs H Q g q => h σ vs H Q g fun v H' r M' g' ⟨ds, hq, hp⟩ => q v H' r M' g' (da_nil (rn_any hq hp))) hs) hg (he := hs)
theorem de_int1 (gm : X.mg "int" = none) (h : DE X B0 F M ρ κ e fun r M1 => ∃ i, r = .d (.int i) ∧ P (.d (.int i)) M1) (hg : Gl X "int" := by rfl) (hs : starEach [e] X.env = (false, eval e X.env) :: starEach [] X.env := by rfl) : DE X B0 F M ρ κ (.Call (.Name "int" p) [e] [] pos) P :=
  de_callTy call_int1 gm bt_int (da_cons (fun σ vs H Q g q => h σ vs H Q g fun v H' r M' g' ⟨i, hq, hp⟩ => q v H' r M' g' (hq ▸ da_nil (rn_int hp))) hs) hg (he := hs)
theorem de_sorted (hu : X.A.units + 64 < cLine) (gm : X.mg "sorted" = none) (h : DE X B0 F M ρ κ e fun r M1 => ∃ ds, SeqLs M1 r ds ∧ PySem.W.AllAlike ds ∧ PySem.W.Sortable ds ∧ ds.length ≤ 100000 ∧ (∀ d ∈ ds, d.depth ≤ 50) ∧ ∀ l, P (.v (.ref l)) ((l, .lst (sortD ds)) :: M1)) (hg : Gl X "sorted" := by rfl) (hs : starEach [e] X.env = (false, eval e X.env) :: starEach [] X.env := by rfl) : DE X B0 F M ρ κ (.Call (.Name "sorted" p) [e] [] pos) P :=
  de_callB (cr_sortedD hu) gm bt_sorted (da_cons (fun σ vs H Q g q => h σ vs H Q g fun v H' r M' g' ⟨ds, hq, h1, h2, h3, h4, hp⟩ => q v H' r M' g' (da_nil (rn_sortedC hq h1 h2 h3 h4 hp))) hs) hg (he := hs)
end

theorem z0 {α : Type} : ([] : List α).length ≤ 100000 := (by decide : 0 ≤ 100000)
theorem z1 {α : Type} {a : α} : [a].length ≤ 100000 := (by decide : 1 ≤ 100000)
theorem z2 {α : Type} {a b : α} : [a, b].length ≤ 100000 := (by decide : 2 ≤ 100000)
theorem z3 {α : Type} {a b c : α} : [a, b, c].length ≤ 100000 := (by decide : 3 ≤ 100000)
/-! ### numbers without a sign -/
theorem xor_nat (a b : Nat) : Builtin.bitXor (a : Int) (b : Int) = ((a ^^^ b : Nat) : Int) := Bits.bitXor_pp (Int.natCast_nonneg a) (Int.natCast_nonneg b)
end DL
set_option maxHeartbeats 4000000
/-! ### the Hook with one thing more, tables of texts -/
namespace DLHook
open PySem PySem.Spec PyProof.Rows L2 He
abbrev AlX : Type := AlD × Bool
def obsX (n : Nat) (fa : List Fa) (fn : List DefD) (ex : PySem.W.Frag → Bool) (g : Addr → Option Obj) : AlX := (obsDG n fa fn g, ex (frG g (asD g n)))
def hookX (n : Nat) (fa : List Fa) (fn : List DefD) (ex : PySem.W.Frag → Bool) : PySem.W.Hook where
  α := AlX
  obs := fun s => obsX n fa fn ex s.heap.get?
  val := fun _ => (valD fn, true)
  says := fun _ h => ∃ K : PySem.W.Frag, K.In h ∧ SaysD fa fn K ∧ ex K = true
  of := fun _ _ e => ⟨_, frG_in, congrArg (fun z : AlX => z.1) e, congrArg (fun z : AlX => z.2) e⟩
  keeps := fun _ _ _ ⟨K, hK, c⟩ k => ⟨K, PySem.W.Frag.In.keeps hK k, c⟩
theorem obsX_eq {n : Nat} {fa : List Fa} {fn : List DefD} {ex : PySem.W.Frag → Bool} {g : Addr → Option Obj} {s : Shared} (h : ∀ a, g a = s.heap.get? a) : obsX n fa fn ex g = (hookX n fa fn ex).obs s := by
  have e : g = s.heap.get? := funext h
  rw [e] <;> rfl
/-- the module's name x is a tuple of these texts -/
def tupN (K : PySem.W.Frag) (x : Str) (vs : List Str) : Bool := (match K.lookup (ga K x) with
  | some ⟨.type c, none, _, _⟩ => decide (c = "tuple")
  | _ => false) && tupB K x (vs.map Dv.str)
end DLHook
namespace DL
open PySem PySem.Spec PyProof.Rows L2
structure TupS (K : Fg) (a : Addr) (ys : List Str) : Prop where
  ty : ∃ o, K.lookup a = some o ∧ o.cls = .type "tuple" ∧ o.dict = none
  sq : ∀ H, SqT K H a (ys.map V.str)
theorem tupN_ok {K : Fg} {x : Str} {vs : List Str} (h : DLHook.tupN K x vs = true) : TupS K (He.ga K x) vs := by
  obtain ⟨h1, h2⟩ := He.ba h
  refine ⟨?_, fun H => ?_⟩
  · cases q : K.lookup (He.ga K x) with
    | none => rw [q] at h1; cases h1
    | some o =>
      obtain ⟨oc, od, dt, osl⟩ := o
      rw [q] at h1
      cases oc with
      | type c =>
        cases od with
        | none => exact ⟨_, rfl, congrArg Value.type (of_decide_eq_true h1), rfl⟩
        | some a => cases h1
      | _ => cases od <;> cases h1
  · have e := He.tupB_ok h2 H
    rw [List.map_map] at e
    exact e
section
variable {X : Cx} {B0 F : Hp} {M : Cs} {ρ κ : List Sl} {P : Sl → Cs → Prop} {e o : Expr} {apos cpos : Pos}
theorem de_globR {x : Str} {a : Addr} {pos : Pos} (hm : X.mg x = some (.ref a)) (h : P (.v (.ref a)) M) (hg : Gl X x := by rfl) (hdb : (x == ("__debug__" : Str)) = false := by decide) : DE X B0 F M ρ κ (.Name x pos) P :=
  fun σ vs H Q g q => tOf_of (pe_glob hg hm (show RelV (.ref a) (.ref a) from rfl) hdb) (q (.ref a) H _ M g.pushV h)
/-- T.index(z), T a table of texts -/
theorem de_idxTupS (h : DE X B0 F M ρ κ o fun r1 M1 => ∃ a ys, r1 = .v (.ref a) ∧ TupS X.K a ys ∧ DE X B0 F M1 ρ (r1 :: κ) e fun r2 M2 => ∃ (z : Str) (j : Nat), r2 = .d (.str z) ∧ ys[j]? = some z ∧ (∀ m, m < j → ys[m]? ≠ some z) ∧ P (.d (.int (j : Nat))) M2)
    (hbase : attributeBase o "index" X.env (eval o X.env) = eval o X.env := by rfl)
    (hfew : ((backTo cpos (starEach (e :: []) X.env)).all (fun x => !x.1) && (backToKw cpos (keywordEach [] X.env)).all (fun x => x.1.isSome)
      && decide ((e :: ([] : List Expr)).length + ([] : List Keyword).length + (if ([] : List Keyword).isEmpty then 0 else 1) < 30)) = true := by rfl)
    (hline : (apos.endLine == cpos.line) = true := by rfl) (hs : starEach (e :: []) X.env = (false, eval e X.env) :: starEach [] X.env := by rfl) (hplain : (backTo cpos (starEach [] X.env)).any (·.1) = false := by rfl) :
    DE X B0 F M ρ κ (.Call (.Attribute o "index" apos) [e] [] cpos) P := fun σ vs H Q g q => by
  refine tOf_of (pe_bm PySem.F.plainAttrs_tuple PySem.F.slot_tuple_index PySem.F.type_tuple_index (X := X) mt_tup_index pe_self (pa_cons pe_self pa_nil hs) hbase hfew hline hs hplain) ?_
  refine h σ vs H _ g fun x H1 r1 M1 g1 h1 => ?_
  obtain ⟨a, ys, rfl, ht, h1⟩ := h1
  have e := g1.ref
  subst e
  refine ⟨.inr (.inl ⟨rfl, ht.ty⟩), h1 σ (.ref a :: vs) H1 _ g1 fun y H2 r2 M2 g2 h2 => ?_⟩
  obtain ⟨z, j, rfl, hj, hm, hp⟩ := h2
  have e := g2.str
  subst e
  obtain ⟨B, g2⟩ := g2
  exact ⟨a, ys, z, j, rfl, rfl, ht.sq H2, hj, hm, q _ H2 _ _ ⟨B, g2.pop.pop.pushD (.int _)⟩ hp⟩
end
section
variable {X : Cx} {B0 F : Hp} {M : Cs} {ρ κ : List Sl} {pos pt pt2 : Pos} {k : KK} {ts es : List Expr} {kt k2 : Nat}
/-- x, .. = e, ..: where the model makes the tuple -/
theorem ds_parT (n : Nat) (h : DA X B0 F M ρ κ es fun rs M1 => rs.length = n ∧ DGs X B0 F M1 ρ κ rs ts fun M2 ρ2 => k.nx M2 ρ2) (hz : n ≤ 100 := by decide) (hc : X.calm = true := by rfl)
    (hn' : (assignEach ts X.env).length = n := by first | kernel_rfl | rfl) (hst : (assignEach ts X.env).findIdx? (·.1) = none := by first | kernel_rfl | rfl)
    (hs : swapsWithSole [.Tuple ts kt pt] (.Tuple es k2 pt2) pos.line X.env = pure false := by first | kernel_rfl | rfl) (hw : swappedStores [.Tuple ts kt pt] (.Tuple es k2 pt2) X.env = pure none := by first | kernel_rfl | rfl)
    (h1 : (assignEach [.Tuple ts kt pt] X.env).map (·.2) = [assign (.Tuple ts kt pt) X.env] := by first | kernel_rfl | rfl) : DS X B0 F M ρ κ (.Assign [.Tuple ts kt pt] (.Tuple es k2 pt2) pos) k :=
  fun σ vs H D g c => tOfS_of (ps_asg (pe_tup pa_self) (pg_tup (n := n) hc pgs_self hn' hst) hs hw h1) (h σ vs H _ g fun ws H1 rs M1 hl g1 h1 => by
    obtain ⟨hr, hd⟩ := h1
    have hb : n ≤ sizeLine := Nat.le_trans hz (by decide)
    refine ⟨by rw [hl, hr]; exact hb, fun a ha => ?_⟩
    obtain ⟨B, g1⟩ := g1
    exact ⟨a, ws, rfl, SqT.of upd_same, by rw [hl, hr], hd σ vs _ ws _ hl ⟨_, g1.laid (o := .tup ws) ha⟩ fun σ' H' M' ρ' g' n' => c.nx σ' H' M' ρ' g' n'⟩)
end
end DL
set_option maxHeartbeats 4000000
/-! dicts whose keys are tuples of tuples (to depth 8) -/
namespace DL
open PySem PySem.Spec PyProof.Rows L2
/-- the dict at a: its keys, where they stand, its values -/
def NDic (P : Program) (w : World) (a : Addr) (xs : List (NestedKey × Addr × Value)) : HO := .ext fun h => (a == sysModules) = false ∧ xs.length ≤ 100001 ∧
  ∃ o es ep, h.get? a = some o ∧ o.ExactDict ∧ o.data = .dict es ep ∧ es.toList = xs.map (entryOfKey (nestedKind P w)) ∧ (xs.map (·.1)).Nodup
mutual
theorem nest_of {h : Heap} : ∀ (k : NestedKey) {u : Value} {as : List Addr}, Reads h u k.data as → NestedIs h k u
  | .none, _, _, r => by cases r; exact .none
  | .num i, _, _, r => by cases r; exact .int _ _
  | .text x, _, _, r => by cases r; exact .text _ _
  | .tup ks, _, _, r => by
    cases r with
    | tuple h1 h2 h3 h4 => exact .tup h1 h2 h3 (nest_all ks h4)
theorem nest_all {h : Heap} : ∀ (ks : List NestedKey) {us : List Value} {as : List Addr}, ReadsAll h us (NestedKey.datas ks) as → NestedAll h ks us
  | [], _, _, r => by cases r; exact .nil
  | k :: ks, _, _, r => by
    cases r with
    | cons r1 r2 => exact .cons (nest_of k r1) (nest_all ks r2)
end
section
variable {X : Cx} {pins : List (Addr × Obj)} {σ : L2.St} {H : Hp} {s : Shared} {a : Addr} {xs : List (NestedKey × Addr × Value)}
theorem nd_key (I : Inv X pins σ H s) {k : NestedKey} {v : V} {p : Addr} (hd : k.depth ≤ 8) (hk : Dp X.K H v k.data) (r : RelV v (.ref p)) : (nestedKind X.prog X.w).is s.heap k p := by
  obtain ⟨as, h⟩ := Dp.reads I _ _ _ hk r
  exact ⟨nest_of k h, hd⟩
/-- all keys stand -/
def NKeys (K : Fg) (H : Hp) (xs : List (NestedKey × Addr × Value)) : Prop := ∀ x ∈ xs, x.1.depth ≤ 8 ∧ Dp K H (.ref x.2.1) x.1.data
theorem nd_at (I : Inv X pins σ H s) (e : H a = some (NDic X.prog X.w a xs)) (hk : NKeys X.K H xs) : (a == sysModules) = false ∧ xs.length ≤ 100001 ∧ s.heap.DictOfH (nestedKind X.prog X.w) a xs := by
  obtain ⟨⟨h1, h2, o, es, ep, h3, h4, h5, h6, h7⟩, -⟩ := (show ObjOk X.prog X.w H s.heap a (NDic X.prog X.w a xs) from I.hok a _ e)
  exact ⟨h1, h2, o, es, ep, h3, h4, h5, h6, fun x hx => nd_key I (hk x hx).1 (hk x hx).2 rfl, h7⟩
theorem nd_ok {P : Program} {w : World} {H' : Hp} {h' : Heap} (h1 : (a == sysModules) = false) (h2 : xs.length ≤ 100001) (hd : h'.DictOfH (nestedKind P w) a xs) : ObjOk P w H' h' a (NDic P w a xs) := by
  obtain ⟨o, es, ep, h3, h4, h5, h6, _, h7⟩ := hd
  refine ⟨⟨h1, h2, o, es, ep, h3, h4, h5, h6, h7⟩, ⟨o, h3⟩, fun g1 g2 ⟨a1, a2, o, es, ep, a3, a4⟩ q => ⟨a1, a2, o, es, ep, q o a3, a4⟩⟩
end
/-! ### rules of the hand layer -/
section
variable {X : Cx} {o i e : Expr} {td ty tv : TE} {pos : Pos}
/-- what stands at the key -/
def NAt (X : Cx) (H : Hp) (a : Addr) (y : V) (xs : List (NestedKey × Addr × Value)) (k : NestedKey) : Prop := H a = some (NDic X.prog X.w a xs) ∧ NKeys X.K H xs ∧ k.depth ≤ 8 ∧ (∃ p, y = .ref p) ∧ Dp X.K H y k.data
theorem nd_room {A : Around} (hu : A.units + 64 < cLine) {P : Program} {w : World} : (nestedKind P w).room A.in1 := by show A.units + 1 + 8 < cLine; omega
theorem pe_ndget (hu : X.A.units + 64 < cLine) (ho : PE X o td) (hi : PE X i ty) (hs : NoSl i) : PE X (.Subscript o i pos) (fun σ H Q => td σ H fun x H1 => ty σ H1 fun y H2 => ∃ a xs k p v, x = .ref a ∧ NAt X H2 a y xs k ∧ atKey xs k = some p ∧ RelV v p.2 ∧ Q v H2) := by
  refine ⟨fun pins s σ H Q I h => ?_⟩
  refine subD_of PySem.F.slot_dict_getitem.lookup hs (thn (ho.run pins s σ H _ I h) fun u s1 ⟨x, H1, I1, rx, q1⟩ => thn (hi.run pins s1 σ H1 _ I1 q1) fun iv s2 ⟨y, H2, I2, ry, a, xs, k, p, v, ex, g, hp, rv, q2⟩ => ?_)
  subst ex
  obtain rfl : u = Value.ref a := rx
  obtain ⟨g1, g2, g3, ⟨b, rfl⟩, g4⟩ := g
  obtain rfl : iv = Value.ref b := ry
  obtain ⟨h1, h2, h3⟩ := nd_at I2 g1 g2
  exact ⟨h3.typeIs, wpAny_getItem_heap (nd_room hu) (nd_key I2 g3 g4 rfl) h3 hp ⟨v, H2, I2.tok _, rv, q2⟩⟩
theorem pc_ndin (hu : X.A.units + 64 < cLine) (hi : PE X i ty) (ho : PE X o td) : PC X .In i o (fun σ H Q => ty σ H fun y H1 => td σ H1 fun x H2 => ∃ a xs k, x = .ref a ∧ NAt X H2 a y xs k ∧ Q (.bl (atKey xs k).isSome) H2) := by
  refine ⟨fun pins s σ H Q I h => ?_⟩
  refine thn (hi.run pins s σ H _ I h) fun iv s1 ⟨y, H1, I1, ry, q1⟩ => thn (ho.run pins s1 σ H1 _ I1 q1) fun u s2 ⟨x, H2, I2, rx, a, xs, k, ex, g, q2⟩ => ?_
  subst ex
  obtain rfl : u = Value.ref a := rx
  obtain ⟨g1, g2, g3, ⟨b, rfl⟩, g4⟩ := g
  obtain rfl : iv = Value.ref b := ry
  obtain ⟨h1, h2, h3⟩ := nd_at I2 g1 g2
  exact wpAny_in_heap (nd_room hu) (nd_key I2 g3 g4 rfl) h1 h3 ⟨.bl _, H2, I2.tok _, rfl, q2⟩
theorem pc_ndnin (hu : X.A.units + 64 < cLine) (hi : PE X i ty) (ho : PE X o td) : PC X .NotIn i o (fun σ H Q => ty σ H fun y H1 => td σ H1 fun x H2 => ∃ a xs k, x = .ref a ∧ NAt X H2 a y xs k ∧ Q (.bl (!(atKey xs k).isSome)) H2) := by
  refine ⟨fun pins s σ H Q I h => ?_⟩
  refine thn (hi.run pins s σ H _ I h) fun iv s1 ⟨y, H1, I1, ry, q1⟩ => thn (ho.run pins s1 σ H1 _ I1 q1) fun u s2 ⟨x, H2, I2, rx, a, xs, k, ex, g, q2⟩ => ?_
  subst ex
  obtain rfl : u = Value.ref a := rx
  obtain ⟨g1, g2, g3, ⟨b, rfl⟩, g4⟩ := g
  obtain rfl : iv = Value.ref b := ry
  obtain ⟨h1, h2, h3⟩ := nd_at I2 g1 g2
  exact wpAny_notIn_heap (nd_room hu) (nd_key I2 g3 g4 rfl) h1 h3 ⟨.bl _, H2, I2.tok _, rfl, q2⟩
theorem ps_ndput {value : Expr} {pos' : Pos} (hu : X.A.units + 64 < cLine) (ho : PE X o td) (hi : PE X i ty) (hv : PE X value tv) (hs : swapsWith value (some (.Subscript o i pos')) pos.line X.env = pure false) :
    PS X (.Assign [.Subscript o i pos'] value pos) (fun D σ H => tv σ H fun v H1 => td σ H1 fun x H2 => ty σ H2 fun y H3 => ∃ a xs k, x = .ref a ∧ NAt X H3 a y xs k ∧ xs.length ≤ 100000 ∧ ∀ p u, y = .ref p → RelV v u → D.nx σ (upd H3 a (NDic X.prog X.w a (storedH xs k p u)))) := by
  refine ⟨fun pins s σ H D I h => ?_⟩
  refine wpAny_Assign_Subscript (thn (hv.run pins s σ H _ I h) fun r s1 ⟨v, H1, I1, rv, q1⟩ => thn (ho.run pins s1 σ H1 _ I1 q1) fun u s2 ⟨x, H2, I2, rx, q2⟩ => thn (hi.run pins s2 σ H2 _ I2 q2) fun iv s3 ⟨y, H3, I3, ry, a, xs, k, ex, g, hl, q3⟩ => ?_) hs
  subst ex
  obtain rfl : u = Value.ref a := rx
  obtain ⟨g1, g2, g3, ⟨b, rfl⟩, g4⟩ := g
  obtain rfl : iv = Value.ref b := ry
  obtain ⟨h1, h2, h3⟩ := nd_at I3 g1 g2
  have hz : (100001 : Nat) ≤ sizeLine := by decide
  refine wpAny_setItem_heap (hsz := by omega) (nd_room hu) (nd_key I3 g3 g4 rfl) h3 fun h' dd' hs' => ⟨σ, _, d_write I3 (by rw [g1]; exact True.intro) hs' ?_ (nd_ok h1 ?_ dd'), q3 b r rfl rv⟩
  · obtain ⟨q, _, _, hq, _⟩ := dd'
    exact ⟨q, hq⟩
  · unfold storedH
    split
    · rw [List.length_map]; omega
    · rw [List.length_append]; show _ + 1 ≤ _; omega
theorem pe_ndnew : PE X (.Dict [] [] pos) (fun _ H Q => ∀ p, H p = none → Q (.ref p) (upd H p (NDic X.prog X.w p []))) := ⟨fun pins s σ H Q I h =>
  wpAny_Dict_empty ⟨.ref s.heap.objs.size, _, I.laid (a := s.heap.objs.size) (o := NDic X.prog X.w s.heap.objs.size []) (t' := s.toks) (fun _ _ q => Heap.get?_push_of_some _ q) (Nat.le_refl _)
    (nd_ok (beq_eq_false_iff_ne.mpr (Ne.symm (Nat.ne_of_lt I.big))) (Nat.zero_le _) (Heap.DictOfH.new s.heap)), rfl, h _ (I.hok.fresh (Nat.le_refl _))⟩⟩
end
end DL
set_option maxHeartbeats 4000000
namespace DL
open PySem PySem.Spec PyProof.Rows L2
def valN (es : List (NestedKey × PyData)) (k : NestedKey) : Option PyData := (es.find? fun e => decide (e.1 = k)).map (·.2)
def putN (es : List (NestedKey × PyData)) (k : NestedKey) (d : PyData) : List (NestedKey × PyData) := if (valN es k).isSome then es.map (fun e => if e.1 = k then (e.1, d) else e) else es ++ [(k, d)]
def NRel (K : Fg) (B : Hp) (x : NestedKey × Addr × Value) (e : NestedKey × PyData) : Prop := x.1 = e.1 ∧ e.1.depth ≤ 8 ∧ Rp K B (.ref x.2.1) e.1.data ∧ ∃ v, RelV v x.2.2 ∧ Rp K B v e.2
section
variable {K : Fg} {B : Hp}
theorem nr_val {k : NestedKey} : ∀ {xs : List (NestedKey × Addr × Value)} {es : List (NestedKey × PyData)}, Paired (NRel K B) xs es → (∀ d, valN es k = some d → ∃ p, atKey xs k = some p ∧ ∃ v, RelV v p.2 ∧ Rp K B v d) ∧ (valN es k = none → atKey xs k = none)
  | _, _, .nil => ⟨(fun d h => by cases h), fun _ => rfl⟩
  | x :: xs, e :: es, .cons h t => by
    obtain ⟨ih1, ih2⟩ := nr_val (k := k) t
    obtain ⟨h1, h2, h3, v, h4, h5⟩ := h
    unfold valN atKey at *
    rw [List.find?_cons, List.find?_cons]
    by_cases c : e.1 = k
    · rw [decide_eq_true c, decide_eq_true (h1.trans c)]
      exact ⟨(fun d hd => ⟨x.2, rfl, v, h4, by cases Option.some.inj hd; exact h5⟩), fun h => by cases h⟩
    · rw [decide_eq_false c, decide_eq_false (fun z => c (h1 ▸ z))]
      exact ⟨ih1, ih2⟩
theorem nr_some {k : NestedKey} {xs : List (NestedKey × Addr × Value)} {es : List (NestedKey × PyData)} (h : Paired (NRel K B) xs es) : (atKey xs k).isSome = (valN es k).isSome := by
  cases q : valN es k with
  | none => rw [(nr_val h).2 q]; rfl
  | some d => obtain ⟨p, hp, _⟩ := (nr_val h).1 d q; rw [hp]; rfl
theorem nr_keys {F H : Hp} (e : Same B H) : ∀ {xs : List (NestedKey × Addr × Value)} {es : List (NestedKey × PyData)}, Paired (NRel K B) xs es → NKeys K H xs
  | _, _, .nil => fun x hx => by cases hx
  | x :: xs, f :: es, .cons h t => fun y hy => by
    rcases List.mem_cons.mp hy with rfl | hy
    · obtain ⟨h1, h2, h3, _⟩ := h
      rw [h1]
      exact ⟨h2, (h3.ext e).dp⟩
    · exact nr_keys (F := F) e t y hy
theorem nr_put {k : NestedKey} {p : Addr} {u : Value} {v : V} {d : PyData} (hk : k.depth ≤ 8) (hp : Rp K B (.ref p) k.data) (hv : RelV v u) (hd : Rp K B v d) {xs : List (NestedKey × Addr × Value)} {es : List (NestedKey × PyData)} (h : Paired (NRel K B) xs es) : Paired (NRel K B) (storedH xs k p u) (putN es k d) := by
  unfold storedH putN
  rw [nr_some h]
  by_cases c : (valN es k).isSome = true
  · rw [if_pos c, if_pos c]
    clear c
    induction h with
    | nil => exact .nil
    | @cons x e xs es h t ih =>
      rw [List.map_cons, List.map_cons]
      refine .cons ?_ ih
      obtain ⟨h1, h2, h3, w, h4, h5⟩ := h
      unfold putAt
      by_cases c : e.1 = k
      · rw [if_pos c, if_pos (h1.trans c)]
        exact ⟨h1, h2, h3, v, hv, hd⟩
      · rw [if_neg c, if_neg (fun z => c (h1 ▸ z))]
        exact ⟨h1, h2, h3, w, h4, h5⟩
  · rw [if_neg c, if_neg c]
    exact Paired.app h (.cons ⟨rfl, hk, hp, v, hv, hd⟩ .nil)
theorem nr_len {xs : List (NestedKey × Addr × Value)} {es : List (NestedKey × PyData)} (h : Paired (NRel K B) xs es) : xs.length = es.length := Paired.length h
theorem putN_len (es : List (NestedKey × PyData)) (k : NestedKey) (d : PyData) : (putN es k d).length ≤ es.length + 1 := by
  unfold putN
  split
  · rw [List.length_map]; omega
  · simp
theorem valN_app (es fs : List (NestedKey × PyData)) (k : NestedKey) : valN (es ++ fs) k = (valN es k).or (valN fs k) := by
  unfold valN
  rw [List.find?_append]
  cases es.find? fun kv => decide (kv.1 = k) <;> rfl
/-- what is found behind a store -/
theorem valN_put (es : List (NestedKey × PyData)) (k k' : NestedKey) (d : PyData) : valN (putN es k d) k' = if k' = k then some d else valN es k' := by
  unfold putN
  by_cases c : (valN es k).isSome = true
  · rw [if_pos c]
    induction es with
    | nil => cases c
    | cons e es ih =>
      obtain ⟨ek, ev⟩ := e
      have um : ∀ (l : List (NestedKey × PyData)), ¬ (valN l ek).isSome = true → l.map (fun e => if e.1 = ek then (e.1, d) else e) = l := fun l hl => by
        refine (List.map_congr_left fun kv hkv => ?_).trans (List.map_id l)
        rw [if_neg fun h => hl (by
          unfold valN
          rw [Option.isSome_map, List.find?_isSome]
          exact ⟨kv, hkv, decide_eq_true h⟩)]
        rfl
      rw [List.map_cons]
      by_cases a : ek = k
      · subst a
        rw [if_pos rfl]
        by_cases b : k' = ek
        · subst b
          rw [if_pos rfl]
          unfold valN
          rw [List.find?_cons, decide_eq_true rfl]
          rfl
        · have b2 : ¬ ek = k' := fun h => b h.symm
          rw [if_neg b]
          by_cases c2 : (valN es ek).isSome = true
          · have := ih c2
            rw [if_neg b] at this
            unfold valN at this ⊢
            rw [List.find?_cons, List.find?_cons]
            simp only [decide_eq_false b2]
            exact this
          · rw [um es c2]
            unfold valN
            rw [List.find?_cons, List.find?_cons]
            simp only [decide_eq_false b2]
      · rw [if_neg a]
        have c2 : (valN es k).isSome = true := by
          unfold valN at c ⊢
          rw [List.find?_cons, decide_eq_false a] at c
          exact c
        have := ih c2
        by_cases b : k' = ek
        · subst b
          rw [if_neg a]
          unfold valN
          rw [List.find?_cons, List.find?_cons, decide_eq_true rfl]
        · have b2 : ¬ ek = k' := fun h => b h.symm
          unfold valN at this ⊢
          rw [List.find?_cons, List.find?_cons]
          simp only [decide_eq_false b2]
          exact this
  · rw [if_neg c, valN_app]
    have o : ∀ k', valN [(k, d)] k' = if k' = k then some d else none := fun k' => by
      unfold valN
      by_cases b : k' = k
      · subst b; simp
      · rw [if_neg b, List.find?_cons, decide_eq_false (fun h => b h.symm)]
        rfl
    rw [o]
    by_cases b : k' = k
    · subst b
      rw [if_pos rfl, if_pos rfl]
      cases q : valN es k' with
      | none => rfl
      | some y => rw [q] at c; exact absurd rfl c
    · rw [if_neg b, if_neg b]
      cases valN es k' <;> rfl
end
section
variable {X : Cx} {B0 F : Hp} {M : Cs} {ρ κ : List Sl} {P : Sl → Cs → Prop} {o i e : Expr} {pos : Pos} {k : KK}
theorem ndic_at {K : Fg} {Pg : Program} {w : World} {σ : L2.St} {vs : List V} {H B : Hp} {a : Addr} {es : List (NestedKey × PyData)} (g : GoodB K B0 F M ρ κ σ vs H B) (h : (a, .dn (NDic Pg w a) es) ∈ M) : ∃ xs, H a = some (NDic Pg w a xs) ∧ Paired (NRel K B) xs es := by
  obtain ⟨_, _, o, ho, xs, rfl, hx⟩ := g.cells _ h
  exact ⟨xs, ho, hx⟩
theorem de_ndnew (h : ∀ p, P (.v (.ref p)) ((p, .dn (NDic X.prog X.w p) []) :: M)) : DE X B0 F M ρ κ (.Dict [] [] pos) P := fun σ vs H Q g q => tOf_of pe_ndnew fun p hp => by
  obtain ⟨B, g⟩ := g
  exact q _ _ _ _ ⟨B, (g.cell (c := .dn (NDic X.prog X.w p) []) hp ⟨[], rfl, .nil⟩).pushV⟩ (h p)
theorem nat_of {σ : L2.St} {vs : List V} {H B : Hp} {a : Addr} {es : List (NestedKey × PyData)} {xs : List (NestedKey × Addr × Value)} {y : V} {ks : List NestedKey} (g : GoodB X.K B0 F M ρ κ σ vs H B) (ho : H a = some (NDic X.prog X.w a xs)) (hx : Paired (NRel X.K B) xs es) (hd : (NestedKey.tup ks).depth ≤ 8) (hy : Rp X.K B y (NestedKey.tup ks).data) : NAt X H a y xs (.tup ks) := by
  refine ⟨ho, nr_keys (F := F) g.bh hx, hd, ?_, (hy.ext g.bh).dp⟩
  rw [NestedKey.data] at hy
  obtain ⟨p, _, rfl, _⟩ := Rp.tup_inv hy
  exact ⟨p, rfl⟩
theorem de_ndget (hu : X.A.units + 64 < cLine) (h : DE X B0 F M ρ κ o fun r1 M1 => DE X B0 F M1 ρ (r1 :: κ) i fun r2 M2 => ∃ a es ks d, r1 = .v (.ref a) ∧ (a, .dn (NDic X.prog X.w a) es) ∈ M2 ∧ r2 = .d (NestedKey.tup ks).data ∧ (NestedKey.tup ks).depth ≤ 8 ∧ valN es (.tup ks) = some d ∧ P (.d d) M2) (hs : NoSl i := by exact fun _ _ => rfl) : DE X B0 F M ρ κ (.Subscript o i pos) P :=
  fun σ vs H Q g q => tOf_of (pe_ndget hu pe_self pe_self hs) (h σ vs H _ g fun x H1 r1 M1 g1 h1 => h1 σ (x :: vs) H1 _ g1 fun y H2 r2 M2 g2 h2 => by
    obtain ⟨a, es, ks, d, rfl, hm, rfl, hd, hv, hp⟩ := h2
    have e := g2.pop.ref
    subst e
    obtain ⟨B, g2⟩ := g2
    obtain ⟨xs, ho, hx⟩ := ndic_at g2 hm
    obtain ⟨p, hp1, v, hp2, hp3⟩ := (nr_val hx).1 d hv
    exact ⟨a, xs, .tup ks, p, v, rfl, nat_of g2 ho hx hd g2.fst, hp1, hp2, q _ H2 _ M2 ⟨B, g2.pop.pop.pushD hp3⟩ hp⟩)
theorem de_ndin (hu : X.A.units + 64 < cLine) (h : DE X B0 F M ρ κ i fun r1 M1 => DE X B0 F M1 ρ (r1 :: κ) o fun r2 M2 => ∃ a es ks, r2 = .v (.ref a) ∧ (a, .dn (NDic X.prog X.w a) es) ∈ M2 ∧ r1 = .d (NestedKey.tup ks).data ∧ (NestedKey.tup ks).depth ≤ 8 ∧ P (.d (.bool (valN es (.tup ks)).isSome)) M2) (hb : behindInMarks .In o = false := by rfl) : DE X B0 F M ρ κ (.Compare i [.In] [o] pos) P :=
  fun σ vs H Q g q => tOf_of (pe_cmp (pc_ndin hu pe_self pe_self) hb) (h σ vs H _ g fun x H1 r1 M1 g1 h1 => h1 σ (x :: vs) H1 _ g1 fun y H2 r2 M2 g2 h2 => by
    obtain ⟨a, es, ks, rfl, hm, rfl, hd, hp⟩ := h2
    have e := g2.ref
    subst e
    obtain ⟨B, g2⟩ := g2
    obtain ⟨xs, ho, hx⟩ := ndic_at g2 hm
    exact ⟨a, xs, .tup ks, rfl, nat_of g2 ho hx hd g2.pop.fst, q _ H2 _ M2 ⟨B, g2.pop.pop.pushD (by rw [nr_some hx]; exact .bl _)⟩ hp⟩)
theorem dt_ndnin {PT : Bool → Cs → Prop} (hu : X.A.units + 64 < cLine) (h : DE X B0 F M ρ κ i fun r1 M1 => DE X B0 F M1 ρ (r1 :: κ) o fun r2 M2 => ∃ a es ks, r2 = .v (.ref a) ∧ (a, .dn (NDic X.prog X.w a) es) ∈ M2 ∧ r1 = .d (NestedKey.tup ks).data ∧ (NestedKey.tup ks).depth ≤ 8 ∧ PT (!(valN es (.tup ks)).isSome) M2) (hb : behindInMarks .NotIn o = false := by rfl) : DT X B0 F M ρ κ (.Compare i [.NotIn] [o] pos) PT :=
  fun σ vs H Q g q => tOfT_of (pt_cmp (pc_ndnin hu pe_self pe_self) hb) (h σ vs H _ g fun x H1 r1 M1 g1 h1 => h1 σ (x :: vs) H1 _ g1 fun y H2 r2 M2 g2 h2 => by
    obtain ⟨a, es, ks, rfl, hm, rfl, hd, hp⟩ := h2
    have e := g2.ref
    subst e
    obtain ⟨B, g2⟩ := g2
    obtain ⟨xs, ho, hx⟩ := ndic_at g2 hm
    exact ⟨a, xs, .tup ks, rfl, nat_of g2 ho hx hd g2.pop.fst, _, rfl, by rw [nr_some hx]; exact q _ H2 M2 ⟨B, g2.pop.pop⟩ hp⟩)
theorem dt_ndin {PT : Bool → Cs → Prop} (hu : X.A.units + 64 < cLine) (h : DE X B0 F M ρ κ i fun r1 M1 => DE X B0 F M1 ρ (r1 :: κ) o fun r2 M2 => ∃ a es ks, r2 = .v (.ref a) ∧ (a, .dn (NDic X.prog X.w a) es) ∈ M2 ∧ r1 = .d (NestedKey.tup ks).data ∧ (NestedKey.tup ks).depth ≤ 8 ∧ PT (valN es (.tup ks)).isSome M2) (hb : behindInMarks .In o = false := by rfl) : DT X B0 F M ρ κ (.Compare i [.In] [o] pos) PT :=
  fun σ vs H Q g q => tOfT_of (pt_cmp (pc_ndin hu pe_self pe_self) hb) (h σ vs H _ g fun x H1 r1 M1 g1 h1 => h1 σ (x :: vs) H1 _ g1 fun y H2 r2 M2 g2 h2 => by
    obtain ⟨a, es, ks, rfl, hm, rfl, hd, hp⟩ := h2
    have e := g2.ref
    subst e
    obtain ⟨B, g2⟩ := g2
    obtain ⟨xs, ho, hx⟩ := ndic_at g2 hm
    exact ⟨a, xs, .tup ks, rfl, nat_of g2 ho hx hd g2.pop.fst, _, rfl, by rw [nr_some hx]; exact q _ H2 M2 ⟨B, g2.pop.pop⟩ hp⟩)
/-- the statement d[k] = e -/
theorem ds_ndput (n : Nat) (hu : X.A.units + 64 < cLine) {v : Expr} {pos' : Pos} (h : DE X B0 F M ρ κ v fun r M0 => DE X B0 F M0 ρ (r :: κ) o fun r1 M1 => DE X B0 F M1 ρ (r1 :: r :: κ) i fun r2 M2 => ∃ a es y ks, r1 = .v (.ref a) ∧ r2 = .d (NestedKey.tup ks).data ∧ (NestedKey.tup ks).depth ≤ 8 ∧ r = .d y ∧ M2[n]? = some (a, .dn (NDic X.prog X.w a) es) ∧ es.length ≤ 100000 ∧ k.nx (M2.set n (a, .dn (NDic X.prog X.w a) (putN es (.tup ks) y))) ρ)
    (hs : swapsWith v (some (.Subscript o i pos')) pos.line X.env = pure false := by rfl) : DS X B0 F M ρ κ (.Assign [.Subscript o i pos'] v pos) k := fun σ vs H D g c => tOfS_of (ps_ndput hu pe_self pe_self pe_self hs) (by
    refine h σ vs H _ g fun v0 H0 r0 M0 g0 h0 => h0 σ (v0 :: vs) H0 _ g0 fun v1 H1 r1 M1 g1 h1 => h1 σ (v1 :: v0 :: vs) H1 _ g1 fun v2 H2 r2 M2 g2 h2 => ?_
    obtain ⟨a, es, y, ks, rfl, rfl, hd, rfl, hn, hl, hp⟩ := h2
    have e := g2.pop.ref
    subst e
    obtain ⟨B, g2⟩ := g2
    obtain ⟨xs, ho, hx⟩ := ndic_at g2 (List.mem_of_getElem? hn)
    refine ⟨a, xs, .tup ks, rfl, nat_of g2 ho hx hd g2.fst, by rw [nr_len hx]; exact hl, fun p u ep ru => c.nx _ _ _ _ ⟨B, g2.pop.pop.pop.write (c' := .dn (NDic X.prog X.w a) (putN es (.tup ks) y)) hn ⟨_, rfl, nr_put hd ?_ ru g2.pop.pop.fst hx⟩⟩ hp⟩
    rw [← ep]
    exact g2.fst)
end
end DL
set_option maxHeartbeats 4000000
/-! t[::-1], t.index(i), sum(t), max(xs), min(xs), t * n -/
namespace DLV
open PySem PySem.Spec PyProof.Rows L2 HT
section
variable {prog : Program} {w : World} {A : Around} {E : Value → Shared → Prop} {s : Shared}
theorem applied_rev {sl : Addr} {t : Tok} {n : Nat} {Q : Int × Int × Nat → Shared → Prop} (hs : s.heap.IsSliceOf sl .none .none (.int (-1) t))
    (h : Q ((n : Int) - 1, -1, n) s) : wpAny (model prog w) A (Builtin.Slice.sliceApplied (.ref sl) (pure (n : Int))) Q E s := by
  obtain ⟨os, hos, hcs, hds⟩ := id hs
  unfold Builtin.Slice.sliceApplied Builtin.Slice.sliceFields
  refine wpAny_bind (wpAny_bind (wpAny_field hos hds (x := .none) rfl (wpAny_bind (wpAny_field hos hds (x := .none) rfl (wpAny_bind (wpAny_field hos hds (x := .int (-1) t) rfl (wpAny_pure ?_)))))))
  refine wpAny_bind (slicePart_int ?_)
  show wpAny _ _ (if ((-1 : Int) == 0) = true then _ else _) _ _ s
  rw [if_neg (by decide)]
  refine wpAny_bind (slicePart_none (wpAny_bind (slicePart_none (wpAny_bind (wpAny_pure ?_)))))
  show wpAny _ _ (pure ((n : Int) - 1, (-1 : Int), Builtin.Slice.slicePlaces ((n : Int) - 1) (-1) (-1))) _ _ s
  have e : Builtin.Slice.slicePlaces ((n : Int) - 1) (-1) (-1) = n := by
    unfold Builtin.Slice.slicePlaces
    have h1 : ¬ ((-1 : Int) > 0) := by omega
    simp only [h1, if_false, Int.neg_neg, Int.ediv_one]
    split <;> omega
  rw [e]
  exact wpAny_pure h
theorem fm_congr {α β : Type} {f g : α → Option β} : ∀ {l : List α}, (∀ x ∈ l, f x = g x) → l.filterMap f = l.filterMap g
  | [], _ => rfl
  | x :: l, h => by rw [List.filterMap_cons, List.filterMap_cons, h x List.mem_cons_self, fm_congr fun y hy => h y (List.mem_cons_of_mem _ hy)]
theorem paired_rev {α β : Type} {R : α → β → Prop} : ∀ {l : List α} {m : List β}, Paired R l m → Paired R l.reverse m.reverse
  | _, _, .nil => .nil
  | _, _, .cons h t => by
    rw [List.reverse_cons, List.reverse_cons]
    exact DL.Paired.app (paired_rev t) (.cons h .nil)
theorem pick_rev (xs : Array Value) : ((List.range xs.size).filterMap fun (m : Nat) => xs[(((xs.size : Int) - 1) + (m : Int) * -1).toNat]?).toArray = xs.toList.reverse.toArray := by
  have e : ((List.range xs.size).filterMap fun (m : Nat) => xs[(((xs.size : Int) - 1) + (m : Int) * -1).toNat]?) = ((List.range xs.size).map fun k => xs.size - 1 - k).filterMap (xs[·]?) := by
    rw [List.filterMap_map]
    refine fm_congr fun m hm => ?_
    have := List.mem_range.mp hm
    show _ = xs[xs.size - 1 - m]?
    rw [show (((xs.size : Int) - 1) + (m : Int) * -1).toNat = xs.size - 1 - m by omega]
  rw [e, PySem.W.krv_range, List.filterMap_reverse, PySem.W.krv_all]
theorem getItem_rev {t sl : Addr} {items : Array Value} {tk : Tok} {Q : Value → Shared → Prop} (ht : IsTup s.heap t items) (hs : s.heap.IsSliceOf sl .none .none (.int (-1) tk))
    (h : Q (.ref s.heap.objs.size) { s with heap := s.heap.push { cls := .type "tuple", data := .seq items.toList.reverse.toArray } }) (hsz : items.size ≤ sizeLine) : wpAny (model prog w) A (getItem (.ref t) (.ref sl)) Q E s := by
  have htake : sizeOk (.seq items.toList.reverse.toArray) := by
    show items.toList.reverse.toArray.size ≤ sizeLine
    rw [List.size_toArray, List.length_reverse, Array.length_toList]
    exact hsz
  obtain ⟨os, hos, hcs, hds⟩ := id hs
  have hTs : s.TypeIs (.ref sl) "slice" := ⟨os, hos, hcs⟩
  unfold getItem
  try with_reducible refine wpAny_holding ?_
  first | refine wpAny_bind (wpAny_pure ?_) | skip
  refine wpAny_bind (wpAny_sequenceKey ht.typeIs (by decide) ?_)
  refine wpAny_bind (wpAny_callSpecial?_slot (name := Str.ofString "__getitem__") ht.typeIs PyProof.Rows.slot_tuple_getitem
    (wpAny_call_entry PyProof.Rows.slot_tuple_getitem ht.typeIs entry_tuple_getitem ?_ (args_tuple_getitem _ _)))
  show wpAny _ _ (Builtin.Tuple.tupleItemsOf (.ref t) >>= _) _ _ s
  refine wpAny_bind (tupleItemsOf_ ht ?_)
  refine wpAny_bind (wpAny_typeOf hTs ?_)
  rw [if_pos (by decide)]
  refine wpAny_bind (applied_rev hs ?_)
  have hno : ¬ ((((items.size : Int) - 1) == 0 && (-1 : Int) == 1 && items.size == items.size) = true) := by simp
  show wpAny _ _ (if (((items.size : Int) - 1) == 0 && (-1 : Int) == 1 && items.size == items.size) = true then _ else _) _ _ s
  rw [if_neg hno, pick_rev]
  first
    | exact wpAny_bind (m := Builtin.Tuple.tupleExact _) (wpAny_newObj_type (wpAny_pure ⟨_, rfl, wpAny_pure h⟩) htake)
    | exact wpAny_bind (m := Builtin.Tuple.tupleExact _) (wpAny_newObj_type (wpAny_bind (wpAny_pure (wpAny_pure ⟨_, rfl, wpAny_pure h⟩))) htake)
    | exact wpAny_bind (wpAny_bind (m := Builtin.Tuple.tupleExact _) (wpAny_newObj_type (wpAny_pure (wpAny_pure ⟨_, rfl, wpAny_pure h⟩)) htake))
    | exact wpAny_bind (wpAny_bind (m := Builtin.Tuple.tupleExact _) (wpAny_newObj_type (wpAny_pure ⟨_, rfl, wpAny_pure h⟩) htake))
end
section
variable {X : Cx} {e st : Expr} {te : TE} {ts : TO} {p2 pos : Pos}
/-- t[::-1] -/
theorem pe_revT (he : PE X e te) (hst : PO X (some st) ts) : PE X (.Subscript e (.Slice none none (some st) p2) pos) (fun σ H Q => te σ H fun x H1 => ts σ H1 fun o H2 => o = some (-1) ∧ ∃ a xs, x = .ref a ∧ SqT X.K H2 a xs ∧ ∀ p, H2 p = none → Q (.ref p) (upd H2 p (.tup xs.reverse))) := by
  refine ⟨fun pins s σ H Q I h => ?_⟩
  refine Subscript_ (thn (he.run pins s σ H _ I h) fun v s1 ⟨x, H1, I1, r1, q1⟩ => ?_)
  refine wpAny_Slice ?_
  rw [evalPart_none]
  refine wpAny_pure (wpAny_pure (thn (hst.run pins s1 σ H1 _ I1 q1) fun vk s3 ⟨o, H3, I3, pk, ho, a, xs, ex, hx, q3⟩ => ?_))
  subst ho ex
  cases r1
  cases pk with
  | int _ t =>
    have I4 : Inv X pins σ H3 { s3 with heap := s3.heap.push { cls := .type "slice", data := .fields #[.none, .none, .int (-1) t] } } := I3.kept (t' := s3.toks) fun b ob q => Heap.get?_push_of_some _ q
    obtain ⟨its, r, ht, hz⟩ := I4.tuple hx
    show wpAny (model X.prog X.w) X.A (subscriptTail e (.Slice none none (some st) p2) (.ref a) (.ref s3.heap.objs.size)) (EP X pins σ Q) X.xe { s3 with heap := s3.heap.push { cls := .type "slice", data := .fields #[.none, .none, .int (-1) t] } }
    refine tail_any (ops := [.ref a, .ref s3.heap.objs.size]) ht.typeIs PyProof.Rows.slot_tuple_getitem.lookup ?_ (by with_unfolding_all rfl)
    refine getItem_rev (s := { s3 with heap := s3.heap.push { cls := .type "slice", data := .fields #[.none, .none, .int (-1) t] } }) ht (Heap.IsSliceOf.new ..) ?_ (by rw [List.size_toArray, ← r.length]; exact hz)
    refine ⟨.ref _, _, I4.laid (o := .tup xs.reverse) (fun b ob q => Heap.get?_push_of_some _ q) (Nat.le_refl _) ?_, rfl, q3 _ (I4.hok.fresh (Nat.le_refl _))⟩
    exact ⟨by rw [List.length_reverse]; exact hz, its.reverse, paired_rev r, IsTup.new _ _⟩
end
end DLV
set_option maxHeartbeats 4000000
/-! instances -/
namespace DL
open PySem PySem.Spec PyProof.Rows L2
section
variable {X : Cx} {B0 F B H1 : Hp} {M M1 : Cs} {ρ κ rs : List Sl} {σ : L2.St} {vs ws : List V} {P : Sl → Cs → Prop} {Q : VK} {E : XK} {Rf : List Sl → Cs → (Sl → Cs → Prop) → Prop}
/-- a def's promise asked for: it may change the first n cells -/
theorem sp_M (g2 : GoodB X.K B0 F M1 ρ κ σ vs H1 B) (k1 : KOk X.K F B ws rs) (n : Nat) (hR : Rf rs (M1.take n) fun r M2 => NoRd r ∧ P r (M2 ++ M1.drop n))
    (q : ∀ v H' r M', Good X.K B0 F M' ρ (r :: κ) σ (v :: vs) H' → P r M' → Q v H') : SpG X.K Rf ws H1 Q E := by
  have g1 := g2
  have g2 : GoodB X.K B0 F (M1.take n ++ M1.drop n) ρ κ σ vs H1 B := by rw [List.take_append_drop]; exact g2
  have sF : Same F (without H1 ((M1.take n).map (·.1))) := fun a o e => by
    rw [without_out]
    · exact g1.fh a o e
    · intro z
      obtain ⟨c, hc, rfl⟩ := List.mem_map.mp z
      rw [(g1.cells c (List.mem_of_mem_take hc)).f] at e
      cases e
  refine ⟨B, without H1 ((M1.take n).map (·.1)), M1.take n, rs, _, ⟨B, Same.refl _, g1.bh, fun a o e => (without_some e).2, fun a ha => .inl ha, fun c hc => ?_, ?_, .nil, Paired.mapP k1 fun _ _ z => z.extF sF⟩, ?_, hR, fun v H' r M' g' hW => ?_⟩
  · obtain ⟨h1, h2, u, h3, h4⟩ := g1.cells c (List.mem_of_mem_take hc)
    exact ⟨h1, without_in (List.mem_map.mpr ⟨c, hc, rfl⟩), u, h3, h4⟩
  · rw [List.map_take]
    exact g1.nd.sublist (List.take_sublist _ _)
  · rintro r M ⟨hn, _⟩
    exact hn
  · exact q v H' r _ (good_afterM g2 hW.1 g') hW.2
/-- .. all cells behind the first j -/
theorem sp_J (g2 : GoodB X.K B0 F M1 ρ κ σ vs H1 B) (k1 : KOk X.K F B ws rs) (j : Nat) (hR : Rf rs (M1.drop j) fun r M2 => NoRd r ∧ P r (M1.take j ++ M2))
    (q : ∀ v H' r M', Good X.K B0 F M' ρ (r :: κ) σ (v :: vs) H' → P r M' → Q v H') : SpG X.K Rf ws H1 Q E := by
  have pm : M1.Perm (M1.drop j ++ M1.take j) := by
    have h1 : M1 = M1.take j ++ M1.drop j := (List.take_append_drop j M1).symm
    exact (List.Perm.of_eq h1).trans List.perm_append_comm
  have g3 : GoodB X.K B0 F (M1.drop j ++ M1.take j) ρ κ σ vs H1 B := ⟨g2.b0, g2.bh, g2.fh, g2.new, fun c hc => g2.cells c (pm.mem_iff.mpr hc), (pm.map _).nodup_iff.mp g2.nd, g2.sl, g2.st⟩
  have e1 : (M1.drop j ++ M1.take j).take (M1.drop j).length = M1.drop j := List.take_left' rfl
  have e2 : (M1.drop j ++ M1.take j).drop (M1.drop j).length = M1.take j := List.drop_left' rfl
  refine sp_M (P := fun r M' => ∃ M2, M' = M2 ++ M1.take j ∧ P r (M1.take j ++ M2)) g3 k1 (M1.drop j).length ?_ ?_
  · rw [e1, e2]
    have mono : ∀ r M2, (NoRd r ∧ P r (M1.take j ++ M2)) = (NoRd r ∧ ∃ M3, M2 ++ M1.take j = M3 ++ M1.take j ∧ P r (M1.take j ++ M3)) := fun r M2 => propext ⟨fun ⟨h1, h2⟩ => ⟨h1, M2, rfl, h2⟩, fun ⟨h1, M3, h2, h3⟩ => ⟨h1, by rw [List.append_cancel_right h2]; exact h3⟩⟩
    have e3 : (fun r M2 => NoRd r ∧ P r (M1.take j ++ M2)) = fun r M2 => NoRd r ∧ ∃ M3, M2 ++ M1.take j = M3 ++ M1.take j ∧ P r (M1.take j ++ M3) := funext fun r => funext fun M2 => mono r M2
    rw [← e3]
    exact hR
  · rintro v H' r M' g' ⟨M2, rfl, hp⟩
    exact q v H' r _ (g'.perm List.perm_append_comm) hp
end
section
variable {X : Cx} {B0 F : Hp} {M : Cs} {ρ κ : List Sl} {P : Sl → Cs → Prop} {o e value : Expr} {es : List Expr} {p pos pos' apos : Pos} {x m f : Str} {lv : Nat} {ps : List Str} {k : KK}
theorem ins_at {K : Fg} {σ : L2.St} {vs : List V} {H B : Hp} {a C : Addr} {fs : List (Str × Sl)} (g : GoodB K B0 F M ρ κ σ vs H B) (h : (a, .ins C fs) ∈ M) : ∃ dx us, H a = some (.ins C dx us) ∧ Paired (fun (p : Str × V) (q : Str × Sl) => p.1 = q.1 ∧ FOk K B p.2 q.2) us fs := by
  obtain ⟨_, _, o, ho, dx, us, rfl, hx⟩ := g.cells _ h
  exact ⟨dx, us, ho, hx⟩
theorem fs_lookup {K : Fg} {B : Hp} {f : Str} : ∀ {us : List (Str × V)} {fs : List (Str × Sl)}, Paired (fun (p : Str × V) (q : Str × Sl) => p.1 = q.1 ∧ FOk K B p.2 q.2) us fs → (∀ s, fs.lookup f = some s → ∃ v, us.lookup f = some v ∧ FOk K B v s) ∧ (fs.lookup f = none → us.lookup f = none)
  | _, _, .nil => ⟨(fun s h => by cases h), fun _ => rfl⟩
  | (u, v) :: us, (g, s) :: fs, .cons h t => by
    obtain ⟨ih1, ih2⟩ := fs_lookup (f := f) t
    obtain ⟨h1, h2⟩ := h
    have h1 : u = g := h1
    subst h1
    rw [List.lookup_cons, List.lookup_cons]
    cases f == u with
    | true => exact ⟨(fun s' hs => ⟨v, rfl, by cases Option.some.inj hs; exact h2⟩), fun h => by cases h⟩
    | false => exact ⟨ih1, ih2⟩
def putS (f : Str) (s : Sl) : List (Str × Sl) → List (Str × Sl)
  | [] => [(f, s)]
  | (g, x) :: r => if g = f then (g, s) :: r else (g, x) :: putS f s r
theorem fs_put {K : Fg} {B : Hp} {f : Str} {v : V} {s : Sl} (hv : FOk K B v s) : ∀ {us : List (Str × V)} {fs : List (Str × Sl)}, Paired (fun (p : Str × V) (q : Str × Sl) => p.1 = q.1 ∧ FOk K B p.2 q.2) us fs → Paired (fun (p : Str × V) (q : Str × Sl) => p.1 = q.1 ∧ FOk K B p.2 q.2) (putF f v us) (putS f s fs)
  | _, _, .nil => .cons ⟨rfl, hv⟩ .nil
  | (u, w) :: us, (g, t) :: fs, .cons h r => by
    have h1 : u = g := h.1
    subst h1
    unfold putF putS
    by_cases c : u = f
    · rw [if_pos c, if_pos c]; exact .cons ⟨rfl, hv⟩ r
    · rw [if_neg c, if_neg c]; exact .cons h (fs_put hv r)
/-- e.f -/
theorem de_fld (h : DE X B0 F M ρ κ e fun r M1 => ∃ a C fs s, r = .v (.ref a) ∧ (a, .ins C fs) ∈ M1 ∧ Cls X.K C ∧ NoAttr X.K C f ∧ fs.lookup f = some s ∧ P s M1) (hb : attributeBase e f X.env (eval e X.env) = eval e X.env := by rfl) : DE X B0 F M ρ κ (.Attribute e f pos) P := fun σ vs H Q g q =>
  tOf_of (pe_fld pe_self hb) (h σ vs H _ g fun v H1 r M1 g1 h1 => by
    obtain ⟨a, C, fs, s, rfl, hm, hc, hn, hs, hp⟩ := h1
    have e := g1.ref
    subst e
    obtain ⟨B, g1⟩ := g1
    obtain ⟨dx, us, ho, hu⟩ := ins_at g1 hm
    obtain ⟨v, hv, hf⟩ := (fs_lookup hu).1 s hs
    refine ⟨a, C, dx, us, v, rfl, ho, hc, hn, hv, q v H1 s M1 ⟨B, ?_⟩ hp⟩
    cases s with
    | d y => exact g1.pop.push hf
    | v y => exact g1.pop.push hf
    | un => exact hf.elim
    | rd ys => exact hf.elim)
/-- o.f = value, o at place n -/
theorem ds_fld (n : Nat) (h : DE X B0 F M ρ κ value fun r M1 => DE X B0 F M1 ρ (r :: κ) o fun r1 M2 => ∃ a C fs, r1 = .v (.ref a) ∧ M2[n]? = some (a, .ins C fs) ∧ Cls X.K C ∧ NoAttr X.K C f ∧ fs.length < 1000 ∧ (∃ y, r = .d y ∨ ∃ w, r = .v w) ∧ k.nx (M2.set n (a, .ins C (putS f r fs))) ρ)
    (hs : swapsWith value (some (.Attribute o f pos')) pos.line X.env = pure false := by rfl) : DS X B0 F M ρ κ (.Assign [.Attribute o f pos'] value pos) k := fun σ vs H D g c =>
  tOfS_of (ps_fld pe_self pe_self hs) (h σ vs H _ g fun v H1 r M1 g1 h1 => h1 σ (v :: vs) H1 _ g1 fun v2 H2 r1 M2 g2 h2 => by
    obtain ⟨a, C, fs, rfl, hn, hc, hno, hl, hr, hp⟩ := h2
    have e := g2.ref
    subst e
    obtain ⟨B, g2⟩ := g2
    obtain ⟨dx, us, ho, hu⟩ := ins_at g2 (List.mem_of_getElem? hn)
    have hv : FOk X.K B v r := by
      have := g2.pop.fst
      obtain ⟨y, rfl | ⟨w, rfl⟩⟩ := hr
      · exact this
      · exact this
    exact ⟨a, C, dx, us, rfl, ho, hc, hno, by rw [Paired.length hu]; exact hl, c.nx _ _ _ _ ⟨B, g2.pop.pop.write (c' := .ins C (putS f r fs)) hn ⟨dx, _, rfl, fs_put hv hu⟩⟩ hp⟩)
/-- o.m(e, ..): a method that may change all cells behind the first j -/
theorem de_methJ (j : Nat) {C f : Addr} {fd : FuncData} {Rf : List Sl → Cs → (Sl → Cs → Prop) → Prop} {pl : Sem Bool} (c : Cls X.K C) (hm : Meth X.K C m f) (Fo : FnOk X.prog X.w X.K X.mg X.base CX0 lv f fd ps (SpG X.K Rf)) (hr : Room lv X.A) (hb : Binds X.K fd ps [])
    (h : DE X B0 F M ρ κ o fun r1 M1 => ∃ a fs, r1 = .v (.ref a) ∧ (a, .ins C fs) ∈ M1 ∧ fs.lookup m = none ∧ DA X B0 F M1 ρ (r1 :: κ) (e :: es) fun rs M2 => Rf (r1 :: rs) (M2.drop j) fun r M3 => NoRd r ∧ P r (M2.take j ++ M3))
    (hst : starEach (e :: es) X.env = (false, eval e X.env) :: starEach es X.env := by rfl) (hpl : (backTo pos (starEach es X.env)).any (·.1) = false := by rfl)
    (ht : eval (.Call (.Attribute o m apos) (e :: es) [] pos) X.env = (do
      let ov ← eval o X.env
      standAt apos.atName
      let (f, first) ← holding [ov] (getMethod ov m pl)
      callWith pos f first (backTo pos (starEach (e :: es) X.env)) (backToKw pos (keywordEach [] X.env))) := by rfl) : DE X B0 F M ρ κ (.Call (.Attribute o m apos) (e :: es) [] pos) P := fun σ vs H Q g q => by
  refine tOf_of (pe_meth (E := E0) pe_self c hm Fo hr hb .nil pass0 pa_self hst hpl ht) (h σ vs H _ g fun v H1 r1 M1 g1 h1 => ?_)
  obtain ⟨a, fs, rfl, hma, hlk, h1⟩ := h1
  have ev := g1.ref
  subst ev
  obtain ⟨B, g1b⟩ := id g1
  obtain ⟨dx, us, ho, hu⟩ := ins_at g1b hma
  refine ⟨a, dx, us, rfl, ho, (fs_lookup hu).2 hlk, h1 σ (.ref a :: vs) H1 _ g1 fun ws H2 rs M2 hl g2 hR => ?_⟩
  rw [List.append_nil]
  obtain ⟨B2, g2⟩ := g2
  obtain ⟨k1, k2⟩ := kok_split hl g2.st
  have g3 := g2.stk k2
  exact sp_J g3.pop (.cons g3.fst k1) j hR q
/-- C(e, ..): a new instance; __init__ may change it and the first n cells -/
theorem de_makeM (n : Nat) {C f : Addr} {fd : FuncData} {Rf : List Sl → Cs → (Sl → Cs → Prop) → Prop} (Mk0 : Mk X.K C f) (Fo : FnOk X.prog X.w X.K X.mg X.base CX0 lv f fd ps (SpG X.K Rf)) (hr : Room (lv + 1) X.A) (hm : X.mg x = some (.ref C)) (hb : Binds X.K fd ps [])
    (h : DA X B0 F M ρ κ (e :: es) fun rs M1 => ∀ a, Rf (.v (.ref a) :: rs) ((a, .ins C []) :: M1.take n) fun r M2 => r = .d .none ∧ P (.v (.ref a)) (M2 ++ M1.drop n)) (hg : Gl X x := by rfl)
    (hdb : (x == ("__debug__" : Str)) = false := by decide) (he : starEach (e :: es) X.env = (false, eval e X.env) :: starEach es X.env := by rfl) (hpl : (backTo pos (starEach es X.env)).any (·.1) = false := by rfl) : DE X B0 F M ρ κ (.Call (.Name x p) (e :: es) [] pos) P := fun σ vs H Q g q => by
  refine tOf_of (pe_make (E := E0) Mk0 Fo hr hg hm hb .nil pass0 pa_self hdb he hpl) (h σ vs H _ g fun ws H1 rs M1 hl g1 hR => fun a dx ha hdx hne => ?_)
  rw [List.append_nil]
  obtain ⟨B, g1⟩ := g1
  have g2 := g1.cell (p := dx) (o := .own a) (c := .raw (.own a)) hdx rfl
  have hx : upd H1 dx (.own a) a = none := by rw [upd_ne (fun e => hne e.symm)]; exact ha
  have g3 : GoodB X.K B0 F M1 ρ (rs ++ κ) σ (ws ++ vs) (upd H1 dx (.own a)) B := ⟨g2.b0, g2.bh, g2.fh, g2.new, fun c hc => g2.cells c (List.mem_cons_of_mem _ hc), (List.nodup_cons.mp g2.nd).2, g2.sl, g2.st⟩
  have g4 := g3.cell (p := a) (o := .ins C dx []) (c := .ins C []) hx ⟨dx, [], rfl, .nil⟩
  obtain ⟨k1, k2⟩ := kok_split hl g4.st
  have k0 : KOk X.K F B (.ref a :: ws) (.v (.ref a) :: rs) := .cons (show VOk X.K F B (.ref a) (.v (.ref a)) from rfl) k1
  refine sp_M (P := fun r M' => r = .d .none ∧ P (.v (.ref a)) M') (g4.stk k2) k0 (n + 1) ?_ ?_
  · have e1 : (fun r M2 => r = Sl.d .none ∧ P (.v (.ref a)) (M2 ++ M1.drop n)) = fun r M2 => NoRd r ∧ r = Sl.d .none ∧ P (.v (.ref a)) (M2 ++ ((a, MC.ins C []) :: M1).drop (n + 1)) := funext fun r => funext fun M2 => propext ⟨fun ⟨h1, h2⟩ => ⟨by rw [h1]; trivial, h1, h2⟩, fun ⟨_, h1, h2⟩ => ⟨h1, h2⟩⟩
    show Rf _ ((a, MC.ins C []) :: M1.take n) _
    rw [← e1]
    exact hR a
  · rintro v H' r M' g' ⟨rfl, hp⟩
    obtain ⟨B', g'⟩ := g'
    have hv : v = .non := by
      have := g'.fst
      cases this
      rfl
    exact ⟨hv, q (.ref a) H' _ M' ⟨B', g'.pop.pushV⟩ hp⟩
end
end DL
set_option maxHeartbeats 4000000
namespace DL
open PySem PySem.Spec PyProof.Rows L2
/-! ### the kinds of data -/
def isTup : PyData → Bool
  | .tuple _ => true
  | _ => false
def isLst : PyData → Bool
  | .list _ => true
  | _ => false
def isBool : PyData → Bool
  | .bool _ => true
  | _ => false
def isInt : PyData → Bool
  | .bool _ => true
  | .int _ => true
  | _ => false
def isStr : PyData → Bool
  | .str _ => true
  | _ => false
theorem kTup (K : Fg) (d : PyData) : PySem.W.kitOne K (tyD d) (.type "tuple") = some (isTup d) := by cases d <;> kernel_rfl
theorem kLst (K : Fg) (d : PyData) : PySem.W.kitOne K (tyD d) (.type "list") = some (isLst d) := by cases d <;> kernel_rfl
theorem kBool (K : Fg) (d : PyData) : PySem.W.kitOne K (tyD d) (.type "bool") = some (isBool d) := by cases d <;> kernel_rfl
theorem kInt (K : Fg) (d : PyData) : PySem.W.kitOne K (tyD d) (.type "int") = some (isInt d) := by cases d <;> kernel_rfl
theorem kStr (K : Fg) (d : PyData) : PySem.W.kitOne K (tyD d) (.type "str") = some (isStr d) := by cases d <;> kernel_rfl
theorem bt_bool : bootBuiltins "bool" = some (.type "bool") := by decide +kernel
theorem bt_str : bootBuiltins "str" = some (.type "str") := by decide +kernel
section
variable {X : Cx} {B0 F : Hp} {M : Cs} {ρ κ : List Sl} {P : Sl → Cs → Prop} {e : Expr} {p p2 pos : Pos}
theorem de_isi {T : String} {x : Str} (hv : bootBuiltins x = some (.type T)) (gi : X.mg "isinstance" = none) (gx : X.mg x = none) (h : DE X B0 F M ρ κ e fun r M1 => ∃ d b, r = .d d ∧ PySem.W.kitOne X.K (tyD d) (.type T) = some b ∧ P (.d (.bool b)) M1)
    (hg : Gl X "isinstance" := by rfl) (hg2 : Gl X x := by rfl) (hn : x ≠ "__name__" := by decide) (hdb : (x == ("__debug__" : Str)) = false := by decide)
    (hs : starEach [e, .Name x p2] X.env = (false, eval e X.env) :: starEach [.Name x p2] X.env := by rfl) (hs2 : starEach [.Name x p2] X.env = (false, eval (.Name x p2) X.env) :: starEach [] X.env := by rfl) (hpl : (backTo pos (starEach [.Name x p2] X.env)).any (·.1) = false := by rfl) : DE X B0 F M ρ κ (.Call (.Name "isinstance" p) [e, .Name x p2] [] pos) P :=
  de_callB call_isi gi bt_isi (da_cons (fun σ vs H Q g q => h σ vs H Q g fun v H' r M' g' ⟨d, b, hr, hk, hp⟩ => q v H' r M' g' (hr ▸ da_cons (de_ty gx hv (da_nil (rn_isi hk hp)) hg2 hn hdb) hs2)) hs) hg (he := hs) (hpl := hpl)
end
end DL
namespace DL
open PySem PySem.Spec PyProof.Rows L2
section
variable {X : Cx} {B0 F : Hp} {M : Cs} {ρ κ : List Sl} {P : Sl → Cs → Prop} {e : Expr} {es : List Expr} {p pos : Pos} {x : Str} {lv : Nat} {ps : List Str}
/-- a def called that may change all cells behind the first j -/
theorem de_goJ (j : Nat) {R : List Sl → Cs → (Sl → Cs → Prop) → Prop} (G : Go X.prog X.w X.K X.mg X.base x lv ps R) (hr : Room lv X.A)
    (h : DA X B0 F M ρ κ (e :: es) fun rs M1 => R rs (M1.drop j) fun r M2 => NoRd r ∧ P r (M1.take j ++ M2)) (hg : Gl X x := by rfl) (hdb : (x == ("__debug__" : Str)) = false := by decide)
    (he : starEach (e :: es) X.env = (false, eval e X.env) :: starEach es X.env := by rfl) (hpl : (backTo pos (starEach es X.env)).any (·.1) = false := by rfl) : DE X B0 F M ρ κ (.Call (.Name x p) (e :: es) [] pos) P := by
  obtain ⟨f, fd, hm, hk, hb, Fo⟩ := G
  exact de_callJ j Fo hr hm hk hb h hg hdb he hpl
end
end DL
namespace DL
open PySem PySem.Spec PyProof.Rows L2
theorem valD_app (es fs : List (Key × PyData)) (k : Key) : valD (es ++ fs) k = (valD es k).or (valD fs k) := by
  unfold valD
  rw [List.find?_append]
  cases es.find? fun kv => decide (kv.1 = k) <;> rfl
theorem valD_one (k k' : Key) (v : PyData) : valD [(k, v)] k' = if k' = k then some v else none := by
  unfold valD
  by_cases c : k' = k
  · subst c; simp
  · rw [if_neg c]
    have : ¬ k = k' := fun h => c h.symm
    simp [this]
theorem valD_none {es : List (Key × PyData)} {k : Key} (h : ¬ (es.any fun kv => decide (kv.1 = k)) = true) : valD es k = none := by
  unfold valD
  rw [List.find?_eq_none.mpr fun kv hkv => ?_]
  · rfl
  · intro hc
    exact h (List.any_eq_true.mpr ⟨kv, hkv, hc⟩)
theorem valD_put (es : List (Key × PyData)) (k k' : Key) (v : PyData) : valD (putD es k v) k' = if k' = k then some v else valD es k' := by
  unfold putD
  by_cases c : (es.any fun kv => decide (kv.1 = k)) = true
  · rw [if_pos c]
    induction es with
    | nil => cases c
    | cons e es ih =>
      obtain ⟨ek, ev⟩ := e
      unfold valD at ih ⊢
      rw [List.map_cons, List.find?_cons, List.find?_cons]
      by_cases a : ek = k
      · subst a
        rw [if_pos rfl]
        by_cases b : k' = ek
        · subst b; simp
        · have b2 : ¬ ek = k' := fun h => b h.symm
          rw [if_neg b]
          simp only [decide_eq_false b2]
          by_cases c2 : (es.any fun kv => decide (kv.1 = ek)) = true
          · rw [ih c2, if_neg b]
          · congr 2
            refine (List.map_congr_left fun kv hkv => ?_).trans (List.map_id _)
            rw [if_neg fun h => c2 (List.any_eq_true.mpr ⟨kv, hkv, decide_eq_true h⟩)]
            rfl
      · rw [if_neg a]
        have c2 : (es.any fun kv => decide (kv.1 = k)) = true := by
          rw [List.any_cons, decide_eq_false a, Bool.false_or] at c
          exact c
        by_cases b : k' = ek
        · subst b
          rw [if_neg (fun h => a h)]
          simp
        · have b2 : ¬ ek = k' := fun h => b h.symm
          simp only [decide_eq_false b2]
          exact ih c2
  · rw [if_neg c, valD_app, valD_one]
    by_cases b : k' = k
    · subst b
      rw [valD_none c, if_pos rfl]
      rfl
    · rw [if_neg b, if_neg b]
      cases valD es k' <;> rfl
end DL
namespace DL
open PySem PySem.Spec PyProof.Rows L2
section
variable {X : Cx} {B0 F : Hp} {M : Cs} {ρ κ : List Sl} {a b c : Expr} {pos : Pos}
/-- the chain a < b < c, as a test -/
theorem dt_chain {op op' : CmpOp} {r r' : R2} {PT : Bool → Cs → Prop} (ho : OpR X (compareOp op) r) (ho' : OpR X (compareOp op') r')
    (h : DE X B0 F M ρ κ a fun r1 M1 => DE X B0 F M1 ρ (r1 :: κ) b fun r2 M2 => R2D X.K B0 F ρ (r2 :: r1 :: κ) r r1 r2 M2 fun z M3 => ∃ k, z = .d (.bool k) ∧
      (k = true → DE X B0 F M3 ρ (r2 :: r1 :: κ) c fun r3 M4 => R2D X.K B0 F ρ κ r' r2 r3 M4 fun z M5 => ∃ k, z = .d (.bool k) ∧ PT k M5) ∧ (k = false → PT false M3))
    (hm : lastMarks [op, op'] [b, c] = false := by with_unfolding_all rfl) : DT X B0 F M ρ κ (.Compare a [op, op'] [b, c] pos) PT := fun σ vs H Q g q => by
  refine tOfT_of (pt_chain ho ho' pe_self pe_self pe_self hm) ?_
  refine h σ vs H _ g fun x H1 r1 M1 g1 h1 => h1 σ (x :: vs) H1 _ g1 fun y H2 r2 M2 g2 h2 => ?_
  have g2' : Good X.K B0 F M2 ρ (r2 :: r1 :: r2 :: r1 :: κ) σ (y :: x :: y :: x :: vs) H2 := by
    obtain ⟨B, g2⟩ := g2
    cases g2.st with
    | cons s1 s2 =>
      cases s2 with
      | cons s2 s3 => exact ⟨B, g2.stk (.cons s1 (.cons s2 (.cons s1 (.cons s2 s3))))⟩
  refine h2 σ (y :: x :: vs) H2 x y _ g2' fun v H' r' M' g' p => ?_
  obtain ⟨k, rfl, p1, p2⟩ := p
  have e := g'.bl
  subst e
  refine ⟨k, rfl, ?_⟩
  cases k with
  | true =>
    refine p1 rfl σ (y :: x :: vs) H' _ g'.pop fun z H4 r3 M4 g4 h4 => ?_
    refine h4 σ vs H4 y z _ ?_ fun v5 H5 r5 M5 g5 p5 => ?_
    · obtain ⟨B, g4⟩ := g4
      cases g4.st with
      | cons s1 s2 =>
        cases s2 with
        | cons s2 s3 =>
          cases s3 with
          | cons s3 s4 => exact ⟨B, g4.stk (.cons s1 (.cons s2 s4))⟩
    · obtain ⟨k, rfl, hp⟩ := p5
      have e := g5.bl
      subst e
      exact ⟨k, rfl, q k H5 M5 g5.pop hp⟩
  | false =>
    exact ⟨false, rfl, q false H' M' g'.pop.pop.pop (p2 rfl)⟩
end
end DL
namespace DL
open PySem PySem.Spec PyProof.Rows L2
section
variable {X : Cx} {B0 F : Hp} {M : Cs} {ρ κ : List Sl} {ss : List Stmt} {k : KK}
/-- cells that nobody asks for any more -/
theorem db_drop (j : Nat) (h : DB X B0 F (M.drop j) ρ κ ss k) : DB X B0 F M ρ κ ss k := fun σ vs H D g c => h σ vs H D (g.dropM j) c
end
end DL
namespace DL
open PySem PySem.Spec PyProof.Rows L2
abbrev iL (ns : List Int) : List PyData := ns.map PyData.int
def natL (ns : List Nat) : List PyData := ns.map fun i => .int (i : Nat)
theorem rngD_mem {lo : Int} {n : Nat} {d : PyData} (h : d ∈ rngD lo n) : ∃ i : Nat, i < n ∧ d = .int (lo + (i : Nat)) := by
  obtain ⟨i, hi, rfl⟩ := List.mem_map.mp h
  exact ⟨i, List.mem_range.mp hi, rfl⟩
theorem rng0 (n : Nat) : rngD 0 n = natL (List.range n) := by
  unfold rngD natL
  exact List.map_congr_left fun i _ => by rw [Int.zero_add]
theorem natL_iL (ns : List Nat) : natL ns = iL (ns.map fun i : Nat => (i : Int)) := by
  unfold natL
  rw [show iL (ns.map fun i : Nat => (i : Int)) = (ns.map fun i : Nat => (i : Int)).map PyData.int from rfl, List.map_map]
  rfl
theorem natL_len (ns : List Nat) : (natL ns).length = ns.length := by unfold natL; rw [List.length_map]
theorem natL_app (a b : List Nat) : natL (a ++ b) = natL a ++ natL b := List.map_append
theorem nat_at {ls : List Nat} {i l : Nat} (h : ls[i]? = some l) : atI (natL ls) (i : Int) = some (.int (l : Nat)) := atI_at (by omega) (by
  unfold natL
  rw [Int.toNat_natCast, List.getElem?_map, h]
  rfl)
theorem getD_lt {α : Type} {l : List α} {i : Nat} {d : α} (h : i < l.length) : l.getD i d = l[i] := by
  rw [List.getD_eq_getElem?_getD, List.getElem?_eq_getElem h]
  rfl
end DL
set_option maxHeartbeats 4000000
/-! comprehensions whose items are values (new cells), lists of lists frozen -/
namespace DL
open PySem PySem.Spec PyProof.Rows L2
section
variable {X : Cx} {B0 F : Hp} {M : Cs} {ρ κ : List Sl} {K : Fg}
theorem lc_rawU {u : Use} {elt tg iter : Expr} {ifs : List Expr} {scope : Scope} {own : List (Str × Nat)} {pos : Pos} {g : TG} {tt : TT} {P : Sl → Cs → Prop} (hc : X.calm = true) (hN : X.N.Nodup) (ok : BlkOk X.N X.env.scope scope own)
    (hg : ∀ b : BA, PG (bk X scope b) tg g) (ht : ∀ b : BA, PTs (bk X scope b) ifs tt) (hs : ∀ x, foldedSetIterable iter X.env x = pure x)
    (h : DI X B0 F M ρ κ tg iter fun ds s Src M1 => ∀ D, ∃ Iv : Nat → Cs → Prop, Iv 0 ((D, .raw (.lst [])) :: M1) ∧ (∀ i M, Iv i M → Src M) ∧
      (∀ i d M σ vs H x (Q : Hp → Prop), ds[i]? = some d → Iv i M → Good X.K B0 F M (wipeS ρ (own.map (·.2))) (.d d :: s :: (ρ ++ κ)) σ (x :: vs) H →
        (∀ M' ρ' σ' H', Good X.K B0 F M' ρ' (s :: (ρ ++ κ)) σ' vs H' → Iv (i + 1) M' → Q H') →
        g x σ H fun σ2 H2 => wipe σ2 (own.map (·.2)) = wipe σ (own.map (·.2)) ∧ tt σ2 H2 fun b H3 =>
          if b = true then (∀ b : BA, tOf (bk X scope b) elt σ2 H3 fun y H4 => ∃ ac, H4 D = some (.lst ac) ∧ ac.length < sizeLine ∧ Q (upd H4 D (.lst (ac ++ [y])))) else Q H3) ∧
      ∀ M, Iv ds.length M → P (.v (.ref D)) M)  (hu : UseOk X u (.ListComp elt [⟨tg, iter, ifs, 0⟩] scope pos)) : DEu X B0 F M ρ κ u (.ListComp elt [⟨tg, iter, ifs, 0⟩] scope pos) P := fun σ vs H Q g0 q => by
  refine use_lc (te := fun σ H Q => ∀ b : BA, tOf (bk X scope b) elt σ H Q) hc hN pi_self ok (fun s H C cl fp => hg ⟨s, H, C, cl, fp⟩) (fun s H C cl fp => ht ⟨s, H, C, cl, fp⟩)
    (fun s H C cl fp => ⟨fun pins s' σ' H' Q' I z => z ⟨s, H, C, cl, fp⟩ pins s' I⟩) hs hu ?_
  have hsh : Shape σ ρ := by obtain ⟨B, g0⟩ := g0; exact shape_of g0.sl
  refine h σ vs H _ g0 fun J H1 M1 ds s v Src g1 dw hsrc hr D hD => ?_
  obtain ⟨Iv, h0, hsr, hst, hd⟩ := hr D
  -- all outer slots on the stack as well
  have up : ∀ {M' H'}, Good X.K B0 F M' ρ (s :: κ) σ (v :: vs) H' → Good X.K B0 F M' ρ (s :: (ρ ++ κ)) σ (v :: (valsOf σ ++ vs)) H' := fun {M' H'} ⟨B, g⟩ => by
    refine ⟨B, g.stk ?_⟩
    cases g.st with
    | cons k1 k2 => exact .cons k1 (Paired.app (kok_slots g.sl) k2)
  have hlen : (valsOf σ).length = ρ.length := by
    have := Paired.length hsh
    simp [valsOf, this]
  have down : ∀ {M' H' ρ' σ'}, Good X.K B0 F M' ρ' (s :: (ρ ++ κ)) σ' (v :: (valsOf σ ++ vs)) H' → Good X.K B0 F M' ρ (s :: κ) σ (v :: vs) H' := fun {M' H' ρ' σ'} ⟨B, g⟩ => by
    cases g.st with
    | cons k1 k2 =>
      obtain ⟨k3, k4⟩ := kok_split hlen k2
      exact ⟨B, (g.slt (sok_back hsh k3)).stk (.cons k1 k4)⟩
  refine ⟨fun i m H' => m = ds.length - i ∧ i ≤ ds.length ∧ ∃ M', Good X.K B0 F M' ρ (s :: κ) σ (v :: vs) H' ∧ Iv i M', ⟨ds.length, by simp, Nat.zero_le _, _, ?_, h0⟩, ?_⟩
  · obtain ⟨B, g1⟩ := g1
    exact ⟨B, g1.cell (c := .raw (.lst [])) hD rfl⟩
  rintro i m H' ⟨rfl, hi, M', g', hI⟩
  by_cases hlt : i < ds.length
  · obtain ⟨d, hdd⟩ : ∃ d, ds[i]? = some d := ⟨ds[i], by simp [hlt]⟩
    refine .inr ⟨dw.go i _ ρ κ σ vs H' (hsr i M' hI) g' hlt, fun H2 => ∃ M2, Good X.K B0 F M2 ρ (s :: κ) σ (v :: vs) H2 ∧ Iv (i + 1) M2, fun H2 ⟨M2, g2, h2⟩ => ⟨ds.length - (i + 1), by omega, rfl, hlt, M2, g2, h2⟩, fun x H2 y => ?_⟩
    have g2 := dw.yld i _ ρ (ρ ++ κ) σ (valsOf σ ++ vs) H' x H2 d (hsr i M' hI) (up g') hdd y
    have g3 : Good X.K B0 F M' (wipeS ρ (own.map (·.2))) (.d d :: s :: (ρ ++ κ)) (wipe σ (own.map (·.2))) (x :: v :: (valsOf σ ++ vs)) H2 := by
      obtain ⟨B, g2⟩ := g2
      exact ⟨B, g2.slt (sok_wipe g2.sl _)⟩
    have z := hst i d M' _ _ H2 x (fun H2 => ∃ M2, Good X.K B0 F M2 ρ (s :: κ) σ (v :: vs) H2 ∧ Iv (i + 1) M2) hdd hI g3 fun M'' ρ' σ' H'' gg hh => ⟨M'', down gg, hh⟩
    have eqw : wipe (wipe σ (own.map (·.2))) (own.map (·.2)) = wipe σ (own.map (·.2)) := by
      have : ∀ (ws us : List Nat), (∀ w ∈ us, w ∈ ws) → wipe (wipe σ us) ws = wipe σ ws := by
        intro ws us
        induction us with
        | nil => intro _; rfl
        | cons u us ih =>
          intro hu
          show wipe ((wipe σ us).set u none) ws = _
          rw [wipe_set (hu u List.mem_cons_self)]
          exact ih fun w hw => hu w (List.mem_cons_of_mem _ hw)
      exact this _ _ fun w hw => hw
    rw [eqw] at z
    exact z
  · have e : i = ds.length := by omega
    subst e
    exact .inl ⟨dw.stop _ ρ κ σ vs H' (hsr _ M' hI) g', q _ H' _ _ (by
      obtain ⟨B, g'⟩ := g'
      exact ⟨B, g'.pop.pushV⟩) (hd M' hI)⟩


variable {elt tg iter c e : Expr} {scope : Scope} {pos : Pos} {P : Sl → Cs → Prop}
/-- [elt for x in iter], elt a value: x in slot i; the new list stands among the cells as a raw one -/
theorem gu_lcRaw {u : Use} (i : Nat) {x : Str} {px : Pos} (h : DI X B0 F M ρ κ (.Name x px) iter fun ds s Src M1 => ∀ D, ∃ Iv : Nat → Cs → Prop, Iv 0 ((D, .raw (.lst [])) :: M1) ∧ (∀ i M, Iv i M → Src M) ∧
      (∀ j d M, ds[j]? = some d → Iv j M → ∀ b : BA, DE (bk X scope b) B0 F M ((ρ.set i .un).set i (.d d)) (s :: (ρ ++ κ)) elt fun r M2 => ∃ m acc y, r = .v y ∧ M2[m]? = some (D, .raw (.lst acc)) ∧ acc.length < 100000 ∧ Iv (j + 1) (M2.set m (D, .raw (.lst (acc ++ [y]))))) ∧
      ∀ M, Iv ds.length M → P (.v (.ref D)) M) (hN : X.N.Nodup := by exact (by assumption)) (ok : BlkOk X.N X.env.scope scope [(x, i)] := by exact blkOk_by (by kernel_rfl)) (hg : ∀ b : BA, PG (bk X scope b) (.Name x px) (gName i) := by exact fun b => pg_name (by assumption) rfl (by first | exact Or.inl rfl | exact Or.inr rfl))
      (hc : X.calm = true := by rfl) (hs : ∀ x, foldedSetIterable iter X.env x = pure x := by intro _; rfl) (hu : UseOk X u (.ListComp elt [⟨.Name x px, iter, [], 0⟩] scope pos) := by first | exact trivial | exact ⟨rfl, rfl, (by first | rfl | kernel_rfl)⟩) : DEu X B0 F M ρ κ u (.ListComp elt [⟨.Name x px, iter, [], 0⟩] scope pos) P :=
  lc_rawU (hu := hu) (own := [(x, i)]) (g := gName i) (tt := tYes) hc hN ok hg (fun _ => pts_nil) hs fun σ vs H Q g0 q => h σ vs H Q g0 fun J H1 M1 ds s v Src g1 dw hsrc hr => q J H1 M1 ds s v Src g1 dw hsrc fun D => by
    obtain ⟨Iv, h0, hsr, hst, hd⟩ := hr D
    refine ⟨Iv, h0, hsr, fun j d M σ vs H x Q hdd hI g hq => ⟨wipe_set (by simp), ?_⟩, hd⟩
    have fin : ∀ b : BA, tOf (bk X scope b) elt (σ.set i (some x)) H fun y H4 => ∃ ac, H4 D = some (.lst ac) ∧ ac.length < sizeLine ∧ Q (upd H4 D (.lst (ac ++ [y]))) := ?_
    · unfold tYes
      dsimp only
      rw [if_pos rfl]
      exact fin
    intro b
    have g2 : Good X.K B0 F M ((ρ.set i .un).set i (.d d)) (s :: (ρ ++ κ)) (σ.set i (some x)) vs H := by
      obtain ⟨B, g⟩ := g
      exact ⟨B, g.pop.slt (Paired.set (OOk.of g.fst) i g.sl)⟩
    refine hst j d M hdd hI b (σ.set i (some x)) vs H _ g2 fun y H4 r M2 g4 h4 => ?_
    obtain ⟨m, acc, y', rfl, hm, hl, hI'⟩ := h4
    have ey := g4.ref
    subst ey
    obtain ⟨B, g4⟩ := g4
    obtain ⟨_, _, o, ho, ho2⟩ := g4.cells _ (List.mem_of_getElem? hm)
    have ho2 : o = .lst acc := ho2
    subst ho2
    have hz : (100000 : Nat) ≤ sizeLine := by decide
    exact ⟨acc, ho, by omega, hq _ _ _ _ ⟨B, g4.pop.write (c' := .raw (.lst (acc ++ [y]))) hm rfl⟩ hI'⟩
end
end DL
set_option maxHeartbeats 4000000
namespace DL
open PySem PySem.Spec PyProof.Rows L2
section
variable {K : Fg} {B0 F B H : Hp} {M : Cs} {ρ κ : List Sl} {σ : L2.St} {vs : List V}
theorem GoodB.freezeR {p : Addr} {ws : List V} {ds : List PyData} (g : GoodB K B0 F ((p, .raw (.lst ws)) :: M) ρ κ σ vs H B) (hw : RpA K B ws ds) : ∃ B', GoodB K B0 F M ρ (.d (.list ds) :: κ) σ (.ref p :: vs) H B' := by
  obtain ⟨bp, fp, o, ho, ho2⟩ := g.cells _ List.mem_cons_self
  have ho2 : o = .lst ws := ho2
  subst ho2
  have e : Same B (upd B p (.lst ws)) := fun a u z => by rw [upd_ne (ne_of_none z bp)]; exact z
  have nd := g.nd
  rw [List.map_cons, List.nodup_cons] at nd
  refine ⟨upd B p (.lst ws), g.b0.trans e, fun a u z => ?_, g.fh, fun a ha => ?_, fun c hc => ?_, nd.2, Paired.mapP g.sl fun _ _ z => z.ext e, .cons ?_ (Paired.mapP g.st fun _ _ z => z.ext e)⟩
  · by_cases q : a = p
    · subst q; rw [upd_same] at z; rw [← z]; exact ho
    · rw [upd_ne q] at z; exact g.bh a u z
  · by_cases q : a = p
    · subst q; exact .inr fp
    · rw [upd_ne q] at ha; exact g.new a ha
  · obtain ⟨h1, h2, u, h3, h4⟩ := g.cells c (List.mem_cons_of_mem _ hc)
    have q : c.1 ≠ p := fun q => nd.1 (List.mem_map.mpr ⟨c, hc, q⟩)
    exact ⟨by rw [upd_ne q]; exact h1, h2, u, h3, h4.ext e⟩
  · exact .lst upd_same (hw.ext e)
theorem GoodB.freezeL : ∀ (L : List (Addr × List PyData)) {κ : List Sl} {vs : List V} {B : Hp}, GoodB K B0 F ((L.map fun c => (c.1, MC.lst c.2)) ++ M) ρ κ σ vs H B →
    ∃ B', GoodB K B0 F M ρ ((L.map fun c => Sl.d (.list c.2)).reverse ++ κ) σ ((L.map fun c => V.ref c.1).reverse ++ vs) H B'
  | [], _, _, B, g => ⟨B, g⟩
  | c :: L, κ, vs, B, g => by
    obtain ⟨B1, g1⟩ := GoodB.freeze g
    obtain ⟨B2, g2⟩ := GoodB.freezeL L g1
    refine ⟨B2, ?_⟩
    rw [List.map_cons, List.map_cons, List.reverse_cons, List.reverse_cons, List.append_assoc, List.append_assoc]
    exact g2
theorem rpa_kok {F : Hp} : ∀ {cs : List (Addr × List PyData)}, KOk K F B (cs.map fun c => V.ref c.1) (cs.map fun c => Sl.d (.list c.2)) → RpA K B (cs.map fun c => V.ref c.1) (cs.map fun c => .list c.2)
  | [], _ => .nil
  | c :: cs, h => by
    cases h with
    | cons h1 h2 => exact .cons h1 (rpa_kok h2)
end
/-- a list of new lists that nobody changes any more: data -/
theorem de_freezeLL {X : Cx} {B0 F : Hp} {M : Cs} {ρ κ : List Sl} {e : Expr} {P : Sl → Cs → Prop} (h : DE X B0 F M ρ κ e fun r M1 => ∃ (D : Addr) (cs : List (Addr × List PyData)) (M2 : Cs), r = .v (.ref D) ∧ M1 = (cs.reverse.map fun c => (c.1, MC.lst c.2)) ++ (D, .raw (.lst (cs.map fun c => V.ref c.1))) :: M2 ∧ P (.d (.list (cs.map fun c => .list c.2))) M2) : DE X B0 F M ρ κ e P := fun σ vs H Q g q => h σ vs H Q g fun v H' r M' g' p => by
  obtain ⟨D, cs, M2, rfl, rfl, hp⟩ := p
  have e := g'.ref
  subst e
  obtain ⟨B, g'⟩ := g'
  obtain ⟨B1, g1⟩ := GoodB.freezeL cs.reverse g'.pop
  rw [← List.map_reverse, ← List.map_reverse, List.reverse_reverse] at g1
  obtain ⟨k1, k2⟩ := kok_split (by rw [List.length_map, List.length_map]) g1.st
  obtain ⟨B2, g2⟩ := GoodB.freezeR (g1.stk k2) (rpa_kok k1)
  exact q _ H' _ M2 ⟨B2, g2⟩ hp
end DL
set_option maxHeartbeats 2000000
/-! rows of whole numbers from 0 on: told as natL -/
namespace DL
open PySem PySem.Spec PyProof.Rows L2
theorem mem_natI {ns : List Nat} {k : Nat} : decide ((k : Int) ∈ ns.map fun i : Nat => (i : Int)) = decide (k ∈ ns) := decide_eq_decide.mpr ⟨fun h => by
  obtain ⟨x, hx, e⟩ := List.mem_map.mp h
  have : x = k := by omega
  exact this ▸ hx, fun h => List.mem_map.mpr ⟨k, h, rfl⟩⟩
section
variable {X : Cx} {K : Fg} {B0 F : Hp} {M : Cs} {ρ κ : List Sl} {P : Sl → Cs → Prop} {a b c e o elt tg iter : Expr} {pos p : Pos} {k : KK} {R : List PyData → Sl → (Cs → Prop) → Cs → Prop}
theorem seq_nat {s : Sl} {S : List Nat} (h : Seq M s (natL S)) : Seq M s ((S.map fun i : Nat => (i : Int)).map PyData.int) := by
  have e : natL S = (S.map fun i : Nat => (i : Int)).map PyData.int := natL_iL S
  rw [← e]
  exact h
theorem seqls_nat {s : Sl} {S : List Nat} (h : SeqLs M s (natL S)) : SeqLs M s ((S.map fun i : Nat => (i : Int)).map PyData.int) := by
  have e : natL S = (S.map fun i : Nat => (i : Int)).map PyData.int := natL_iL S
  rw [← e]
  exact h
theorem r2_inN {s : Sl} {S : List Nat} {q : Nat} (h1 : Seq M s (natL S)) (h : P (.d (.bool (decide (q ∈ S)))) M) : R2D K B0 F ρ κ (rIn K false) (.d (.int (q : Nat))) s M P := r2_inI (seq_nat h1) (by rw [mem_natI]; exact h)
theorem r2_niN {s : Sl} {S : List Nat} {q : Nat} (h1 : Seq M s (natL S)) (h : P (.d (.bool (!decide (q ∈ S)))) M) : R2D K B0 F ρ κ (rIn K true) (.d (.int (q : Nat))) s M P := r2_niI (seq_nat h1) (by rw [mem_natI]; exact h)
theorem r2_tin {s : Sl} {S : List Nat} {q : Nat} {PT : Bool → Cs → Prop} (h1 : Seq M s (natL S)) (h : PT (decide (q ∈ S)) M) : R2D K B0 F ρ κ (rIn K false) (.d (.int (q : Nat))) s M fun r' M' => ∃ k, r' = .d (.bool k) ∧ PT k M' := r2_inN h1 ⟨_, rfl, h⟩
theorem r2_tni {s : Sl} {S : List Nat} {q : Nat} {PT : Bool → Cs → Prop} (h1 : Seq M s (natL S)) (h : PT (!decide (q ∈ S)) M) : R2D K B0 F ρ κ (rIn K true) (.d (.int (q : Nat))) s M fun r' M' => ∃ k, r' = .d (.bool k) ∧ PT k M' := r2_niN h1 ⟨_, rfl, h⟩
theorem dec_nat {i j : Nat} : decide ((i : Int) = (j : Int)) = decide (i = j) := decide_eq_decide.mpr (by omega)
theorem r2_teqN {PT : Bool → Cs → Prop} {i j : Nat} (h : PT (decide (i = j)) M) : R2D K B0 F ρ κ rEq (.d (.int (i : Nat))) (.d (.int (j : Nat))) M fun r' M' => ∃ k, r' = .d (.bool k) ∧ PT k M' := r2_teq (by rw [dec_nat]; exact h)
theorem r2_tneN {PT : Bool → Cs → Prop} {i j : Nat} (h : PT (!decide (i = j)) M) : R2D K B0 F ρ κ rNe (.d (.int (i : Nat))) (.d (.int (j : Nat))) M fun r' M' => ∃ k, r' = .d (.bool k) ∧ PT k M' := r2_tne (by rw [dec_nat]; exact h)
theorem nat_get {S : List Nat} {i : Nat} {d : PyData} (h : (natL S)[i]? = some d) : ∃ q, S[i]? = some q ∧ d = .int (q : Nat) := map_get h
theorem nat_mem {S : List Nat} {d : PyData} (h : d ∈ natL S) : ∃ q, q ∈ S ∧ d = .int (q : Nat) := by
  obtain ⟨q, h1, h2⟩ := List.mem_map.mp h
  exact ⟨q, h1, h2.symm⟩
theorem natL_filter {S : List Nat} {f : PyData → Bool} {t : Nat → Bool} (h : ∀ q ∈ S, f (.int (q : Nat)) = t q) : (natL S).filter f = natL (S.filter t) := by
  unfold natL
  rw [List.filter_map]
  exact congrArg _ (List.filter_congr h)
def natOf : PyData → Nat
  | .int i => i.toNat
  | _ => 0
/-- [x for x in natL S if c] -/
theorem gu_filN {u : Use} (i : Nat) (t : Nat → Bool) {x : Str} {px p2 : Pos} {scope : Scope} (h : DI X B0 F M ρ κ (.Name x px) iter fun ds s Src M1 => ∃ S : List Nat, ds = natL S ∧ S.length ≤ 100000 ∧ (∀ D acc, Src M1 → Src ((D, .lst acc) :: M1)) ∧
      (∀ q D acc, q ∈ S → ∀ b : BA, DT (bk X scope b) B0 F ((D, .lst acc) :: M1) ((ρ.set i .un).set i (.d (.int (q : Nat)))) (s :: (ρ ++ κ)) c fun k M2 => k = t q ∧ M2 = (D, .lst acc) :: M1) ∧ ∀ D, P (.v (.ref D)) ((D, .lst (natL (S.filter t))) :: M1))
      (hN : X.N.Nodup := by exact (by assumption)) (ok : BlkOk X.N X.env.scope scope [(x, i)] := by exact blkOk_by (by kernel_rfl)) (hg : ∀ b : BA, PG (bk X scope b) (.Name x px) (gName i) := by exact fun b => pg_name (by assumption) rfl (by first | exact Or.inl rfl | exact Or.inr rfl))
      (hel : ∀ (b : BA) (M2 : Cs) (ρ2 κ2 : List Sl) (d : PyData) (P2 : Sl → Cs → Prop), ρ2[i]? = some (.d d) → P2 (.d d) M2 → DE (bk X scope b) B0 F M2 ρ2 κ2 (.Name x p2) P2 := by exact fun b M2 ρ2 κ2 d P2 hr hp => nm _ hr hp) (hi : i < ρ.length := by first | decide | simp)
      (hc : X.calm = true := by rfl) (hs : ∀ x, foldedSetIterable iter X.env x = pure x := by intro _; rfl) (hu : UseOk X u (.ListComp (.Name x p2) [⟨.Name x px, iter, [c], 0⟩] scope pos) := by first | exact trivial | exact ⟨rfl, rfl, (by first | rfl | kernel_rfl)⟩) : DEu X B0 F M ρ κ u (.ListComp (.Name x p2) [⟨.Name x px, iter, [c], 0⟩] scope pos) P := by
  refine gu_lcIfF (u := u) i (fun d => t (natOf d)) id (fun σ vs H Q g q => h σ vs H Q g fun J H1 M1 ds s v Src g1 dw hsrc hr => q J H1 M1 ds s v Src g1 dw hsrc ?_) hN ok hg hc hs hu
  obtain ⟨S, rfl, hl, h1, h2, h3⟩ := hr
  refine ⟨by rw [natL_len]; exact hl, h1, ?_, ?_, fun D => ?_⟩
  · intro d D acc hd b
    obtain ⟨q, hq, rfl⟩ := nat_mem hd
    exact h2 q D acc hq b
  · intro d D acc hd _ b
    exact hel b _ _ _ d _ (by rw [List.set_set, List.getElem?_set_self hi]) ⟨rfl, rfl⟩
  · rw [List.map_id, natL_filter (t := t) fun q _ => rfl]
    exact h3 D
theorem de_filN (i : Nat) (t : Nat → Bool) {x : Str} {px p2 : Pos} {scope : Scope} (h : DI X B0 F M ρ κ (.Name x px) iter fun ds s Src M1 => ∃ S : List Nat, ds = natL S ∧ S.length ≤ 100000 ∧ (∀ D acc, Src M1 → Src ((D, .lst acc) :: M1)) ∧
      (∀ q D acc, q ∈ S → ∀ b : BA, DT (bk X scope b) B0 F ((D, .lst acc) :: M1) ((ρ.set i .un).set i (.d (.int (q : Nat)))) (s :: (ρ ++ κ)) c fun k M2 => k = t q ∧ M2 = (D, .lst acc) :: M1) ∧ ∀ D, P (.v (.ref D)) ((D, .lst (natL (S.filter t))) :: M1))
      (hN : X.N.Nodup := by exact (by assumption)) (ok : BlkOk X.N X.env.scope scope [(x, i)] := by exact blkOk_by (by kernel_rfl)) (hg : ∀ b : BA, PG (bk X scope b) (.Name x px) (gName i) := by exact fun b => pg_name (by assumption) rfl (by first | exact Or.inl rfl | exact Or.inr rfl))
      (hel : ∀ (b : BA) (M2 : Cs) (ρ2 κ2 : List Sl) (d : PyData) (P2 : Sl → Cs → Prop), ρ2[i]? = some (.d d) → P2 (.d d) M2 → DE (bk X scope b) B0 F M2 ρ2 κ2 (.Name x p2) P2 := by exact fun b M2 ρ2 κ2 d P2 hr hp => nm _ hr hp) (hi : i < ρ.length := by first | decide | simp)
      (hc : X.calm = true := by rfl) (hs : ∀ x, foldedSetIterable iter X.env x = pure x := by intro _; rfl) : DE X B0 F M ρ κ (.ListComp (.Name x p2) [⟨.Name x px, iter, [c], 0⟩] scope pos) P :=
  gu_filN (u := none) i t h hN ok hg hel hi hc hs trivial
theorem alike_nat {S : List Nat} : PySem.W.AllAlike (natL S) := fun d hd d' hd' => by
  obtain ⟨x, _, rfl⟩ := nat_mem hd
  obtain ⟨y, _, rfl⟩ := nat_mem hd'
  rw [PySem.W.alike]
theorem sortable_nat {S : List Nat} : PySem.W.Sortable (natL S) := .inr fun d hd => by
  obtain ⟨x, _, rfl⟩ := nat_mem hd
  exact ⟨(fun h => nomatch h), (fun xs h => nomatch h)⟩
theorem depth_nat {S : List Nat} : ∀ d ∈ natL S, d.depth ≤ 50 := fun d hd => by
  obtain ⟨x, _, rfl⟩ := nat_mem hd
  rw [PyData.depth]
  decide
theorem leN_data (a b : Nat) : PySem.W.dataLe false id (.int (a : Nat)) (.int (b : Nat)) = decide (a ≤ b) := by
  show (!PySem.W.dataLt (.int (b : Nat)) (.int (a : Nat))) = _
  rw [PySem.W.dataLt_int, Bool.eq_iff_iff]
  simp
theorem sort_nat (S : List Nat) : ∃ T : List Nat, sortD (natL S) = natL T ∧ T.Perm S ∧ T.Pairwise (· ≤ ·) := by
  refine ⟨S.mergeSort fun a b => decide (a ≤ b), ?_, List.mergeSort_perm _ _, ?_⟩
  · unfold sortD natL
    rw [List.map_mergeSort]
    intro a _ b _
    exact (leN_data a b).symm
  · exact (List.pairwise_mergeSort (fun a b c => by simpa using Nat.le_trans) (fun a b => by simpa using Nat.le_total a b) S).imp fun h => by simpa using h
theorem sort_up {T S : List Nat} (p : T.Perm S) (h1 : T.Pairwise (· ≤ ·)) (h2 : S.Pairwise (· ≤ ·)) : T = S := List.Perm.eq_of_pairwise (fun a b _ _ h h' => Nat.le_antisymm h h') h1 h2 p
/-- sorted(natL S) -/
theorem de_sortedN (hu : X.A.units + 64 < cLine) (gm : X.mg "sorted" = none) (h : DE X B0 F M ρ κ e fun r M1 => ∃ S : List Nat, SeqLs M1 r (natL S) ∧ S.length ≤ 100000 ∧ ∀ T, T.Perm S → T.Pairwise (· ≤ ·) → ∀ l, P (.v (.ref l)) ((l, .lst (natL T)) :: M1)) (hg : Gl X "sorted" := by rfl) (hst : starEach [e] X.env = (false, eval e X.env) :: starEach [] X.env := by rfl) : DE X B0 F M ρ κ (.Call (.Name "sorted" p) [e] [] pos) P := by
  refine de_sorted hu gm (hg := hg) (hs := hst) (h.mono fun r M1 ⟨S, hq, hl, hT⟩ => ⟨natL S, hq, alike_nat, sortable_nat, by rw [natL_len]; exact hl, depth_nat, fun l => ?_⟩)
  obtain ⟨T, e1, e2, e3⟩ := sort_nat S
  rw [e1]
  exact hT T e2 e3 l
end
end DL
namespace DL
open PySem PySem.Spec PyProof.Rows L2
section
variable {X : Cx} {B0 F : Hp} {M : Cs} {ρ κ : List Sl} {P : Sl → Cs → Prop} {e : Expr} {es : List Expr} {p pos : Pos} {x : Str} {lv : Nat} {ps : List Str}
/-- a pure promise that leaves open which datum comes back -/
def PuR {α : Type} (A : α → List Sl) (C : α → Prop) (Rl : α → PyData → Prop) : List Sl → Cs → (Sl → Cs → Prop) → Prop := fun κ _ W => ∃ a, κ = A a ∧ C a ∧ ∀ y M', Rl a y → W (.d y) M'
theorem de_pur {α : Type} {A : α → List Sl} {C : α → Prop} {Rl : α → PyData → Prop} (G : Go X.prog X.w X.K X.mg X.base x lv ps (PuR A C Rl)) (hr : Room lv X.A)
    (h : DA X B0 F M ρ κ (e :: es) fun rs M1 => ∃ a, rs = A a ∧ C a ∧ ∀ y, Rl a y → P (.d y) M1) (hg : Gl X x := by rfl) (hdb : (x == ("__debug__" : Str)) = false := by decide)
    (he : starEach (e :: es) X.env = (false, eval e X.env) :: starEach es X.env := by rfl) (hpl : (backTo pos (starEach es X.env)).any (·.1) = false := by rfl) : DE X B0 F M ρ κ (.Call (.Name x p) (e :: es) [] pos) P := by
  refine de_go G hr (fun σ vs H Q g q => h σ vs H Q g fun ws H' rs M' hl g' hp => q ws H' rs M' hl g' ?_) hg hdb he hpl
  obtain ⟨a, rfl, hc, hp⟩ := hp
  exact ⟨_, Views.refl _, a, rfl, hc, fun y _ hy => ⟨_, rfl, hp y hy⟩⟩
end
end DL
set_option maxHeartbeats 2000000
/-! methods known by what they promise -/
namespace DL
open PySem PySem.Spec PyProof.Rows L2
abbrev GoM (P : Program) (w : World) (K : Fg) (mg : Str → Option Value) (base : Heap) (C : Addr) (m : Str) (lv : Nat) (ps : List Str) (R : List Sl → Cs → (Sl → Cs → Prop) → Prop) : Prop :=
  ∃ f fd, Meth K C m f ∧ Binds K fd ps [] ∧ FnOk P w K mg base CX0 lv f fd ps (SpG K R)
abbrev GoN (P : Program) (w : World) (K : Fg) (mg : Str → Option Value) (base : Heap) (C : Addr) (lv : Nat) (ps : List Str) (R : List Sl → Cs → (Sl → Cs → Prop) → Prop) : Prop :=
  ∃ f fd, Mk K C f ∧ Binds K fd ps [] ∧ FnOk P w K mg base CX0 lv f fd ps (SpG K R)
abbrev FnM (K : PySem.W.Frag) (m : Str) (q : Str) (st : Stmt) (f : Addr) (fd : FuncData) : Prop := FunD K m q (defArgs st) (defBody st) (defScope st) [] [] f fd
section
variable {X : Cx} {K : Fg} {B0 F : Hp} {M : Cs} {ρ κ : List Sl} {P : Sl → Cs → Prop} {e o : Expr} {es : List Expr} {p pos apos : Pos} {x m q : Str} {lv : Nat} {ps : List Str}
theorem de_goM (j : Nat) {C : Addr} {Rf : List Sl → Cs → (Sl → Cs → Prop) → Prop} {pl : Sem Bool} (c : Cls X.K C) (G : GoM X.prog X.w X.K X.mg X.base C m lv ps Rf) (hr : Room lv X.A)
    (h : DE X B0 F M ρ κ o fun r1 M1 => ∃ a fs, r1 = .v (.ref a) ∧ (a, .ins C fs) ∈ M1 ∧ fs.lookup m = none ∧ DA X B0 F M1 ρ (r1 :: κ) (e :: es) fun rs M2 => Rf (r1 :: rs) (M2.drop j) fun r M3 => NoRd r ∧ P r (M2.take j ++ M3))
    (hst : starEach (e :: es) X.env = (false, eval e X.env) :: starEach es X.env := by rfl) (hpl : (backTo pos (starEach es X.env)).any (·.1) = false := by rfl)
    (ht : eval (.Call (.Attribute o m apos) (e :: es) [] pos) X.env = (do
      let ov ← eval o X.env
      standAt apos.atName
      let (f, first) ← holding [ov] (getMethod ov m pl)
      callWith pos f first (backTo pos (starEach (e :: es) X.env)) (backToKw pos (keywordEach [] X.env))) := by rfl) : DE X B0 F M ρ κ (.Call (.Attribute o m apos) (e :: es) [] pos) P := by
  obtain ⟨f, fd, hm, hb, Fo⟩ := G
  exact de_methJ j c hm Fo hr hb h hst hpl ht
theorem de_goN (n : Nat) {C : Addr} {Rf : List Sl → Cs → (Sl → Cs → Prop) → Prop} (G : GoN X.prog X.w X.K X.mg X.base C lv ps Rf) (hr : Room (lv + 1) X.A) (hm : X.mg x = some (.ref C))
    (h : DA X B0 F M ρ κ (e :: es) fun rs M1 => ∀ a, Rf (.v (.ref a) :: rs) ((a, .ins C []) :: M1.take n) fun r M2 => r = .d .none ∧ P (.v (.ref a)) (M2 ++ M1.drop n)) (hg : Gl X x := by rfl)
    (hdb : (x == ("__debug__" : Str)) = false := by decide) (he : starEach (e :: es) X.env = (false, eval e X.env) :: starEach es X.env := by rfl) (hpl : (backTo pos (starEach es X.env)).any (·.1) = false := by rfl) : DE X B0 F M ρ κ (.Call (.Name x p) (e :: es) [] pos) P := by
  obtain ⟨f, fd, hk, hb, Fo⟩ := G
  exact de_makeM n hk Fo hr hm hb h hg hdb he hpl
theorem gom_of {P : Program} {w : World} {mg : Str → Option Value} {base : Heap} {st : Stmt} {f C : Addr} {fd : FuncData} {R : List Sl → Cs → (Sl → Cs → Prop) → Prop} (Fn : FnM K m q st f fd) (Hm : Meth K C m f)
    (hb : ∀ (kV doc pm : Value) (an : Option Addr) (cdv ct : Value) (us : List Value), us.length = ps.length → bindArgs (PySem.W.fnOf m q (defArgs st) (defBody st) (defScope st) .none kV doc pm an cdv ct) ⟨us, []⟩ = pure (ps.zip us)) (ok : FnOk P w K mg base CX0 lv f fd ps (SpG K R)) : GoM P w K mg base C m lv ps R :=
  ⟨f, fd, Hm, Fn.bindsN hb, ok⟩
theorem gon_of {P : Program} {w : World} {mg : Str → Option Value} {base : Heap} {st : Stmt} {f C : Addr} {fd : FuncData} {R : List Sl → Cs → (Sl → Cs → Prop) → Prop} (Fn : FnM K "__init__" q st f fd) (Hm : Mk K C f)
    (hb : ∀ (kV doc pm : Value) (an : Option Addr) (cdv ct : Value) (us : List Value), us.length = ps.length → bindArgs (PySem.W.fnOf "__init__" q (defArgs st) (defBody st) (defScope st) .none kV doc pm an cdv ct) ⟨us, []⟩ = pure (ps.zip us)) (ok : FnOk P w K mg base CX0 lv f fd ps (SpG K R)) : GoN P w K mg base C lv ps R :=
  ⟨f, fd, Hm, Fn.bindsN hb, ok⟩
end
end DL
set_option maxHeartbeats 2000000
/-! calls that may change the n cells behind the first j -/
namespace DL
open PySem PySem.Spec PyProof.Rows L2
section
variable {X : Cx} {B0 F B H1 : Hp} {M M1 : Cs} {ρ κ rs : List Sl} {σ : L2.St} {vs ws : List V} {P : Sl → Cs → Prop} {Q : VK} {E : XK} {Rf : List Sl → Cs → (Sl → Cs → Prop) → Prop}
theorem sp_X (g2 : GoodB X.K B0 F M1 ρ κ σ vs H1 B) (k1 : KOk X.K F B ws rs) (j n : Nat) (hR : Rf rs ((M1.drop j).take n) fun r M2 => NoRd r ∧ P r (M1.take j ++ (M2 ++ (M1.drop j).drop n)))
    (q : ∀ v H' r M', Good X.K B0 F M' ρ (r :: κ) σ (v :: vs) H' → P r M' → Q v H') : SpG X.K Rf ws H1 Q E := by
  have e0 : M1.take j ++ ((M1.drop j).take n ++ (M1.drop j).drop n) = M1 := by rw [List.take_append_drop, List.take_append_drop]
  generalize ht : M1.take j = T at *
  generalize hm : (M1.drop j).take n = N at *
  generalize hd : (M1.drop j).drop n = D at *
  have pm : M1.Perm (N ++ (T ++ D)) := by
    rw [← e0, ← List.append_assoc, ← List.append_assoc]
    exact List.Perm.append_right _ List.perm_append_comm
  have g3 : GoodB X.K B0 F (N ++ (T ++ D)) ρ κ σ vs H1 B := ⟨g2.b0, g2.bh, g2.fh, g2.new, fun c hc => g2.cells c (pm.mem_iff.mpr hc), (pm.map _).nodup_iff.mp g2.nd, g2.sl, g2.st⟩
  have e1 : (N ++ (T ++ D)).take N.length = N := List.take_left' rfl
  have e2 : (N ++ (T ++ D)).drop N.length = T ++ D := List.drop_left' rfl
  refine sp_M (P := fun r M' => ∃ M2, M' = M2 ++ (T ++ D) ∧ P r (T ++ (M2 ++ D))) g3 k1 N.length ?_ ?_
  · rw [e1, e2]
    have mono : ∀ r M2, (NoRd r ∧ P r (T ++ (M2 ++ D))) = (NoRd r ∧ ∃ M3, M2 ++ (T ++ D) = M3 ++ (T ++ D) ∧ P r (T ++ (M3 ++ D))) := fun r M2 => propext ⟨fun ⟨h1, h2⟩ => ⟨h1, M2, rfl, h2⟩, fun ⟨h1, M3, h2, h3⟩ => ⟨h1, by rw [List.append_cancel_right h2]; exact h3⟩⟩
    have e3 : (fun r M2 => NoRd r ∧ P r (T ++ (M2 ++ D))) = fun r M2 => NoRd r ∧ ∃ M3, M2 ++ (T ++ D) = M3 ++ (T ++ D) ∧ P r (T ++ (M3 ++ D)) := funext fun r => funext fun M2 => mono r M2
    rw [← e3]
    exact hR
  · rintro v H' r M' g' ⟨M2, rfl, hp⟩
    refine q v H' r _ (g'.perm ?_) hp
    rw [← List.append_assoc, ← List.append_assoc]
    exact List.Perm.append_right _ List.perm_append_comm
end
section
variable {X : Cx} {K : Fg} {B0 F : Hp} {M M' : Cs} {ρ κ : List Sl} {P : Sl → Cs → Prop} {e o : Expr} {es : List Expr} {p pos apos : Pos} {x m q : Str} {lv : Nat} {ps : List Str}
theorem de_perm (pm : M.Perm M') (h : DE X B0 F M' ρ κ e P) : DE X B0 F M ρ κ e P := fun σ vs H Q g q => h σ vs H Q (g.perm pm) q
theorem de_permR (h : DE X B0 F M ρ κ e fun r M1 => ∃ M2, M1.Perm M2 ∧ P r M2) : DE X B0 F M ρ κ e P := fun σ vs H Q g q => h σ vs H Q g fun v H' r M1 g1 ⟨M2, pm, hp⟩ => q v H' r M2 (g1.perm pm) hp
theorem de_goX (j n : Nat) {R : List Sl → Cs → (Sl → Cs → Prop) → Prop} (G : Go X.prog X.w X.K X.mg X.base x lv ps R) (hr : Room lv X.A)
    (h : DA X B0 F M ρ κ (e :: es) fun rs M1 => R rs ((M1.drop j).take n) fun r M2 => NoRd r ∧ P r (M1.take j ++ (M2 ++ (M1.drop j).drop n))) (hg : Gl X x := by rfl) (hdb : (x == ("__debug__" : Str)) = false := by decide)
    (he : starEach (e :: es) X.env = (false, eval e X.env) :: starEach es X.env := by rfl) (hpl : (backTo pos (starEach es X.env)).any (·.1) = false := by rfl) : DE X B0 F M ρ κ (.Call (.Name x p) (e :: es) [] pos) P := fun σ vs H Q g q => by
  obtain ⟨f, fd, hm, hk, hb, Fo⟩ := G
  refine tOf_of (pe_call (E := E0) Fo hr hg hm hk hb .nil pass0 pa_self hdb he hpl) (h σ vs H _ g fun ws H1 rs M1 hl g1 hR => ?_)
  rw [List.append_nil]
  obtain ⟨B, g1⟩ := g1
  obtain ⟨k1, k2⟩ := kok_split hl g1.st
  exact sp_X (g1.stk k2) k1 j n hR q
theorem de_goMX (j n : Nat) {C : Addr} {Rf : List Sl → Cs → (Sl → Cs → Prop) → Prop} {pl : Sem Bool} (c : Cls X.K C) (G : GoM X.prog X.w X.K X.mg X.base C m lv ps Rf) (hr : Room lv X.A)
    (h : DE X B0 F M ρ κ o fun r1 M1 => ∃ a fs, r1 = .v (.ref a) ∧ (a, .ins C fs) ∈ M1 ∧ fs.lookup m = none ∧ DA X B0 F M1 ρ (r1 :: κ) (e :: es) fun rs M2 => Rf (r1 :: rs) ((M2.drop j).take n) fun r M3 => NoRd r ∧ P r (M2.take j ++ (M3 ++ (M2.drop j).drop n)))
    (hst : starEach (e :: es) X.env = (false, eval e X.env) :: starEach es X.env := by rfl) (hpl : (backTo pos (starEach es X.env)).any (·.1) = false := by rfl)
    (ht : eval (.Call (.Attribute o m apos) (e :: es) [] pos) X.env = (do
      let ov ← eval o X.env
      standAt apos.atName
      let (f, first) ← holding [ov] (getMethod ov m pl)
      callWith pos f first (backTo pos (starEach (e :: es) X.env)) (backToKw pos (keywordEach [] X.env))) := by rfl) : DE X B0 F M ρ κ (.Call (.Attribute o m apos) (e :: es) [] pos) P := fun σ vs H Q g q => by
  obtain ⟨f, fd, hm, hb, Fo⟩ := G
  refine tOf_of (pe_meth (E := E0) pe_self c hm Fo hr hb .nil pass0 pa_self hst hpl ht) (h σ vs H _ g fun v H1 r1 M1 g1 h1 => ?_)
  obtain ⟨a, fs, rfl, hma, hlk, h1⟩ := h1
  have ev := g1.ref
  subst ev
  obtain ⟨B, g1b⟩ := id g1
  obtain ⟨dx, us, ho, hu⟩ := ins_at g1b hma
  refine ⟨a, dx, us, rfl, ho, (fs_lookup hu).2 hlk, h1 σ (.ref a :: vs) H1 _ g1 fun ws H2 rs M2 hl g2 hR => ?_⟩
  rw [List.append_nil]
  obtain ⟨B2, g2⟩ := g2
  obtain ⟨k1, k2⟩ := kok_split hl g2.st
  have g3 := g2.stk k2
  exact sp_X g3.pop (.cons g3.fst k1) j n hR q
end
end DL
namespace DL
open PySem PySem.Spec PyProof.Rows L2
section
variable {X : Cx} {B0 F : Hp} {M : Cs} {ρ κ : List Sl} {s : Stmt} {ss : List Stmt} {k : KK}
/-- what holds behind a statement, whichever way it went -/
theorem ds_join (J : Cs → List Sl → Prop) (h : DS X B0 F M ρ κ s { k with nx := J }) (h2 : ∀ M ρ, J M ρ → k.nx M ρ) : DS X B0 F M ρ κ s k :=
  fun σ vs H D g c => h σ vs H D g ⟨fun σ' H' M' ρ' g' hj => c.nx σ' H' M' ρ' g' (h2 M' ρ' hj), c.rt, c.bk, c.ct⟩
theorem db_join (J : Cs → List Sl → Prop) (h : DB X B0 F M ρ κ ss { k with nx := J }) (h2 : ∀ M ρ, J M ρ → k.nx M ρ) : DB X B0 F M ρ κ ss k :=
  fun σ vs H D g c => h σ vs H D g ⟨fun σ' H' M' ρ' g' hj => c.nx σ' H' M' ρ' g' (h2 M' ρ' hj), c.rt, c.bk, c.ct⟩
end
end DL
set_option maxHeartbeats 1000000
/-! dict(pairs), sorted(dict), list(dict): keys are tuples -/
namespace DL
open PySem PySem.Spec PyProof.Rows L2
section
variable {X : Cx} {pins : List (Addr × Obj)} {σ : L2.St} {H : Hp} {s : Shared}
abbrev PRel (x : NestedKey × Addr × Value) (q : NestedKey × Addr × V) : Prop := x.1 = q.1 ∧ x.2.1 = q.2.1 ∧ RelV q.2.2 x.2.2
abbrev PSrc (K : Fg) (H : Hp) (t : Addr) (q : NestedKey × Addr × V) : Prop := SqT K H t [.ref q.2.1, q.2.2] ∧ q.1.depth ≤ 8 ∧ Dp K H (.ref q.2.1) q.1.data
theorem pairsN_of (I : Inv X pins σ H s) : ∀ {ts : List Addr} {qs : List (NestedKey × Addr × V)}, Paired (PSrc X.K H) ts qs →
    ∃ prs : List (NestedKey × Addr × Value), Paired PRel prs qs ∧ prs.length = ts.length ∧ ∀ (j : Nat) (x : NestedKey × Addr × Value), prs[j]? = some x → ∃ b : Addr, ts[j]? = some b ∧ IsTup s.heap b #[.ref x.2.1, x.2.2] ∧ (nestedKind X.prog X.w).is s.heap x.1 x.2.1
  | _, _, .nil => ⟨[], .nil, rfl, fun j q e => by simp at e⟩
  | _, _, .cons (a := t) (b := q) h r => by
    obtain ⟨prs, rl, hl, hp⟩ := pairsN_of I r
    obtain ⟨its, rv, ht, _⟩ := I.tuple h.1
    obtain ⟨u, y, ei, ru, ry⟩ := vals2 rv
    subst ei
    obtain rfl : u = Value.ref q.2.1 := ru
    refine ⟨(q.1, q.2.1, y) :: prs, .cons ⟨rfl, rfl, ry⟩ rl, by rw [List.length_cons, List.length_cons, hl], fun j x e => ?_⟩
    cases j with
    | zero =>
      have e' : (q.1, q.2.1, y) = x := Option.some.inj e
      subst e'
      exact ⟨t, rfl, ht, nd_key I h.2.1 h.2.2 rfl⟩
    | succ j =>
      obtain ⟨b, e1, e2, e3⟩ := hp j x (by simpa using e)
      exact ⟨b, by simpa using e1, e2, e3⟩
def rDictN (X : Cx) : List V → Hp → VK → Prop := fun vs H Q => ∃ (a : Addr) (ts : List Addr) (qs : List (NestedKey × Addr × V)), vs = [.ref a] ∧ SqL X.K H a (ts.map V.ref) ∧ Paired (PSrc X.K H) ts qs ∧ ts.length ≤ 100000 ∧
  ∀ p xs, H p = none → Paired PRel xs qs → Q (.ref p) (upd H p (NDic X.prog X.w p (storedAllH [] xs)))
theorem nested_keep {h h' : Heap} {k : NestedKey} {v : Value} (x : NestedIs h k v) (e : ∀ b o, h.get? b = some o → h'.get? b = some o) : NestedIs h' k v := NestedIs.at (fun a o vs n h1 _ => e a o h1) k v x
theorem cr_dictN (hc : X.calm = true) (hu : X.A.units + 64 < cLine) : CallR X (.type "dict") (rDictN X) := by
  intro pins s σ H vs us Q I r h
  obtain ⟨a, ts, qs, rfl, hq, hp, hz0, q⟩ := h
  obtain ⟨u, eu, rx⟩ := vals1 r
  subst eu
  cases rx
  obtain ⟨its, rv, pl, hz⟩ := I.list hq
  have ei := refs_at rv
  subst ei
  obtain ⟨prs, rel, hl, hpr⟩ := pairsN_of I hp
  obtain ⟨o, n, ho, hcl, hd, hdat⟩ := pl
  have hn : prs.length ≤ sizeLine := by rw [hl]; exact Nat.le_trans hz0 (by decide)
  have hat : ∀ j : Nat, ∀ b, ts[j]? = some b → ts.getD j 0 = b := fun j b e => by rw [List.getD_eq_getElem?_getD, e]; rfl
  have hitems : PairItems s.heap ((ts.map Value.ref).toArray) (fun j => ts.getD j 0) (prs.map fun x => (Value.ref x.2.1, x.2.2)) := by
    refine ⟨by simp [hl], fun j k v e => ?_⟩
    rw [List.getElem?_map] at e
    obtain ⟨x, hx, e2⟩ := Option.map_eq_some_iff.mp e
    obtain ⟨b, e3, e4, _⟩ := hpr j x hx
    cases e2
    show _ ∧ PairAt s.heap (ts.getD j 0) _ _
    rw [hat j b e3]
    exact ⟨by simp [e3, hat j b e3], .inl e4⟩
  have hhave : PairsHaveH (nestedKind X.prog X.w) (prs.map fun x => (Value.ref x.2.1, x.2.2)).length (PairRel (prs.map fun x => (Value.ref x.2.1, x.2.2))) prs := by
    refine ⟨by simp, fun i key v e => ?_⟩
    have e : (prs.map fun x => (Value.ref x.2.1, x.2.2))[i]? = some (key, v) := e
    rw [List.getElem?_map] at e
    obtain ⟨x, hx, e2⟩ := Option.map_eq_some_iff.mp e
    cases e2
    exact ⟨x.1, x.2.1, hx, rfl⟩
  have hstay : KeysStay (nestedKind X.prog X.w) s.heap s.heap.objs.size [] prs := by
    intro h' hk x hx
    obtain ⟨j, hj⟩ := List.mem_iff_getElem?.mp hx
    obtain ⟨b, _, _, e5, e6⟩ := hpr j x hj
    exact ⟨nested_keep e5 fun b o e => hk b o (Nat.ne_of_lt (Heap.lt_size e)) (fun z => nomatch z) e, e6⟩
  refine call_dict_pairsH (PairArg.list a ((ts.map Value.ref).toArray) (fun j => ts.getD j 0) (prs.map fun x => (Value.ref x.2.1, x.2.2))) (I.ok.hd hc) (show X.A.units + 1 + 1 + 8 < cLine by omega) ⟨⟨o, n, ho, hcl, hd, hdat⟩, hitems⟩ hhave hstay (by rw [List.length_map]; exact hn) fun h' tk hd' hk => ?_
  have hlen : (storedAllH [] prs).length ≤ 100001 := by
    have := storedAllH_length prs []
    simp only [List.length_nil, Nat.zero_add] at this
    omega
  exact ⟨.ref s.heap.objs.size, upd H s.heap.objs.size (NDic X.prog X.w s.heap.objs.size (storedAllH [] prs)), I.laid (t' := tk) (fun b o e => hk b o (fun z => nomatch z) e) (Nat.le_refl _) (nd_ok (beq_eq_false_iff_ne.mpr (Nat.ne_of_gt I.big)) hlen hd'), rfl, q _ _ (I.hok.fresh (Nat.le_refl _)) rel⟩
/-- sorted(dict) -/
def rSortedN (X : Cx) : List V → Hp → VK → Prop := fun vs H Q => ∃ (a : Addr) (xs : List (NestedKey × Addr × Value)) (ds : List PyData) (G : Hp), vs = [.ref a] ∧ H a = some (NDic X.prog X.w a xs) ∧ NKeys X.K H xs ∧ Same G H ∧ RpA X.K G (xs.map fun x => V.ref x.2.1) ds ∧ PySem.W.AllAlike ds ∧ PySem.W.Sortable ds ∧ (∀ d ∈ ds, d.depth ≤ 50) ∧
  ∀ p ws, H p = none → RpA X.K G ws (sortD ds) → Q (.ref p) (upd H p (.lst ws))
theorem cr_sortedN (hc : X.calm = true) (hu : X.A.units + 64 < cLine) : CallR X (.builtin "sorted") (rSortedN X) := by
  intro pins s σ H vs us Q I r h
  obtain ⟨a, xs, ds, G, rfl, hx, hkx, hG, hr, hal, hk, hdp, q⟩ := h
  obtain ⟨u, eu, rx⟩ := vals1 r
  subst eu
  cases rx
  obtain ⟨g1, g2, o, es, ep, g3, g4, g5, g6, g7, g8⟩ := nd_at I hx hkx
  have hsz : es.size = xs.length := by rw [← Array.length_toList, g6, List.length_map]
  have h100 : (100001 : Nat) ≤ sizeLine := by decide
  refine Calls.call_function_entry PyProof.Rows.kind_sorted PyProof.Rows.plain_sorted PyProof.Rows.entry_sorted (PyProof.Rows.args_sorted1 _) ?_
  unfold Builtin.«sorted»
  refine wpAny_bind (m := checkCount "sorted" 1 1 _) (wpAny_pure ?_)
  refine wpAny_bind (PySem.W.kdu_collect (A := X.A.in1) (kdl_raw g1 g4 g5) (I.ok.hd hc) g3 (by omega) fun h' tk acc kp it => ?_)
  have ea : acc.toList = xs.map fun x => Value.ref x.2.1 := by
    apply List.ext_getElem?
    intro j
    rw [List.getElem?_map]
    have hl : acc.toList.length = xs.length := by rw [Array.length_toList, it.1, hsz]
    cases hj : acc.toList[j]? with
    | none =>
      have h1 := List.getElem?_eq_none_iff.mp hj
      rw [List.getElem?_eq_none (by omega)]
      rfl
    | some v =>
      obtain ⟨en, hen, hv⟩ := it.2 j v (by rw [← Array.getElem?_toList]; exact hj)
      have qe : es.toList[j]? = some en := by rw [Array.getElem?_toList]; exact hen
      rw [g6, List.getElem?_map] at qe
      cases hb : xs[j]? with
      | none => rw [hb] at qe; cases qe
      | some b =>
        rw [hb] at qe
        have e2 : entryOfKey (nestedKind X.prog X.w) b = en := Option.some.inj qe
        rw [hv, ← e2]
        rfl
  have hvals : Vals (xs.map fun x => V.ref x.2.1) (xs.map fun x => Value.ref x.2.1) := by
    clear hx hkx hr g2 g6 g7 g8 hsz ea
    induction xs with
    | nil => exact .nil
    | cons x xs ih => exact .cons rfl ih
  generalize hus : acc.toList = us at ea
  have I1 : Inv X pins σ H { s with heap := h', toks := tk } := I.kept kp
  rw [← ea] at hvals
  have hlen : us.length ≤ sizeLine := by rw [ea, List.length_map]; omega
  refine wpAny_bind (wpAny_newList ?_ hlen)
  have hoL : (h'.push (seqObj "list" us.toArray 0)).get? h'.objs.size = some (seqObj "list" us.toArray 0) := Heap.get?_push_size _ rfl
  show wpAny _ _ _ _ _ { s with heap := h'.push (seqObj "list" us.toArray 0), toks := tk }
  have er := each_reads I1 (hr.ext hG) hvals
  have er' : PySem.W.EachIs (fun v d => ∃ as, Reads (PySem.W.sortingHeap (h'.push (seqObj "list" us.toArray 0)) h'.objs.size us) v d as) us ds := er.mono fun _ _ ⟨as, r⟩ => ⟨as, PyProof.Rows.Reads.keeps (fun b o e => PySem.W.sortingHeap_old (Nat.ne_of_lt (Heap.lt_size e)) (Heap.get?_push_of_some _ e)) r⟩
  refine wpAny_bind (wpAny_holding (wpAny_call_entry PyProof.Rows.slot_list_sort ⟨_, hoL, rfl⟩ PyProof.Rows.entry_list_sort
    (PySem.W.list_sort_vals (s := { s with heap := h'.push (seqObj "list" us.toArray 0), toks := tk }) hoL (PySem.W.SortsAt.data (s := { s with heap := PySem.W.sortingHeap (h'.push (seqObj "list" us.toArray 0)) h'.objs.size us, toks := tk }) er' hal hk (fun d hd => ?_)) hlen ⟨_, rfl, ?_⟩) (PyProof.Rows.args_list_sort _)))
  · have := hdp d hd
    show X.A.units + 2 + d.depth < cLine
    omega
  obtain ⟨ws, h1, h2⟩ := each_back (PySem.W.sortVals_data (enc := id) (h' := PySem.W.sortingHeap (h'.push (seqObj "list" us.toArray 0)) h'.objs.size us) false (each_of hr hvals) er' (by rw [List.map_id]; exact hal))
  rw [List.map_id] at h1
  obtain ⟨e', he'⟩ := PyProof.Rows.sortedHeap_at (vs := us) (out := (PySem.W.sortVals (PySem.W.dataKind (PySem.W.sortingHeap (h'.push (seqObj "list" us.toArray 0)) h'.objs.size us) ds) false us us).toArray) hoL
  have hlw : ws.length ≤ sizeLine := by
    have := h2.len
    unfold sortD at this
    rw [List.length_mergeSort] at this
    have h3 := hr.len
    rw [List.length_map] at h3
    have h4 : (List.mergeSort ds (PySem.W.dataLe false id)).length = ds.length := List.length_mergeSort _
    have := h2.len
    omega
  refine wpAny_pure ⟨_, rfl, .ref h'.objs.size, upd H h'.objs.size (.lst ws), I1.laid (t' := tk) (fun b u e => ?_) (Nat.le_refl _) (show ObjOk X.prog X.w _ _ _ (.lst ws) from ⟨hlw, _, e', h1, he'⟩), rfl, q _ ws (I1.hok.fresh (Nat.le_refl _)) h2⟩
  have hb : b < h'.objs.size := Heap.lt_size e
  rw [PyProof.Rows.sortedHeap_old (Nat.ne_of_lt hb) (by rw [size_push']; exact Nat.lt_succ_of_lt hb)]
  exact Heap.get?_push_of_some _ e
end
end DL
namespace DL
open PySem PySem.Spec PyProof.Rows L2
/-! ### the same on data -/
def mergeN (acc more : List (NestedKey × PyData)) : List (NestedKey × PyData) := more.foldl (fun acc e => putN acc e.1 e.2) acc
section
variable {X : Cx} {B0 F B : Hp} {M : Cs} {ρ κ : List Sl} {P : Sl → Cs → Prop} {K : Fg} {e : Expr} {p pos : Pos}
theorem nr_stored : ∀ {ps : List (NestedKey × Addr × Value)} {es : List (NestedKey × PyData)} {xs : List (NestedKey × Addr × Value)} {acc : List (NestedKey × PyData)}, Paired (NRel K B) ps es → Paired (NRel K B) xs acc → Paired (NRel K B) (storedAllH xs ps) (mergeN acc es)
  | _, _, _, _, .nil, h => h
  | _, _, xs, acc, .cons (a := p) (b := e) h t, hx => by
    obtain ⟨h1, h2, h3, v, h4, h5⟩ := h
    unfold storedAllH mergeN
    rw [List.foldl_cons, List.foldl_cons, h1]
    exact nr_stored t (nr_put h2 h3 h4 h5 hx)
theorem psrc_of {H : Hp} (sm : Same B H) : ∀ {xs : List V} {es : List (NestedKey × PyData)}, (∀ e ∈ es, e.1.depth ≤ 8 ∧ ∃ ks, e.1 = .tup ks) → RpA K B xs (es.map fun e => .tuple [e.1.data, e.2]) →
    ∃ (ts : List Addr) (qs : List (NestedKey × Addr × V)), xs = ts.map V.ref ∧ Paired (PSrc K H) ts qs ∧ Paired (fun (q : NestedKey × Addr × V) (e : NestedKey × PyData) => q.1 = e.1 ∧ e.1.depth ≤ 8 ∧ Rp K B (.ref q.2.1) e.1.data ∧ Rp K B q.2.2 e.2) qs es
  | _, [], _, h => by cases h; exact ⟨[], [], rfl, .nil, .nil⟩
  | _, e :: es, hk, h => by
    cases h with
    | cons h1 h2 =>
      obtain ⟨ts, qs, rfl, i1, i2⟩ := psrc_of sm (es := es) (fun e he => hk e (List.mem_cons_of_mem _ he)) h2
      obtain ⟨t, ys, rfl, j1, j2⟩ := Rp.tup_inv h1
      obtain ⟨hd, ks, hks⟩ := hk e List.mem_cons_self
      cases j2 with
      | cons k1 k2 =>
        cases k2 with
        | cons k2 k3 =>
          cases k3
          have k1' := k1
          rw [hks, NestedKey.data] at k1'
          obtain ⟨b, zs, rfl, _, _⟩ := Rp.tup_inv k1'
          exact ⟨t :: ts, (e.1, b, _) :: qs, rfl, .cons ⟨same_t sm j1, hd, (k1.ext sm).dp⟩ i1, .cons ⟨rfl, hd, k1, k2⟩ i2⟩
theorem prel_nrel : ∀ {xs : List (NestedKey × Addr × Value)} {qs : List (NestedKey × Addr × V)} {es : List (NestedKey × PyData)}, Paired PRel xs qs → Paired (fun (q : NestedKey × Addr × V) (e : NestedKey × PyData) => q.1 = e.1 ∧ e.1.depth ≤ 8 ∧ Rp K B (.ref q.2.1) e.1.data ∧ Rp K B q.2.2 e.2) qs es → Paired (NRel K B) xs es
  | _, _, _, .nil, .nil => .nil
  | _, _, _, .cons h t, .cons g u => .cons ⟨h.1.trans g.1, g.2.1, by rw [h.2.1]; exact g.2.2.1, _, h.2.2, g.2.2.2⟩ (prel_nrel t u)
theorem rn_dictN {s : Sl} {es : List (NestedKey × PyData)} (q : SeqLs M s (es.map fun e => .tuple [e.1.data, e.2])) (hk : ∀ e ∈ es, e.1.depth ≤ 8 ∧ ∃ ks, e.1 = .tup ks) (hz : es.length ≤ 100000) (h : ∀ p, P (.v (.ref p)) ((p, .dn (NDic X.prog X.w p) (mergeN [] es)) :: M)) : RnD X.K B0 F ρ κ (rDictN X) [s] M P := fun σ vs H xs Q hl g qq => by
  obtain ⟨x, rfl⟩ := one_arg hl rfl
  obtain ⟨B, g⟩ := g
  obtain ⟨a, ys, rfl, h3, h4⟩ := q.at g g.fst
  obtain ⟨ts, qs, rfl, i1, i2⟩ := psrc_of g.bh hk h4
  refine ⟨a, ts, qs, rfl, h3, i1, ?_, fun p xs hp hx => qq _ _ _ _ ⟨B, (g.pop.cell (c := .dn (NDic X.prog X.w p) (mergeN [] es)) hp ⟨_, rfl, nr_stored (prel_nrel hx i2) .nil⟩).pushV⟩ (h p)⟩
  have := h4.len
  rw [List.length_map, List.length_map] at this
  omega
theorem de_dictN (hu : X.A.units + 64 < cLine) (gm : X.mg "dict" = none) (h : DE X B0 F M ρ κ e fun r M1 => ∃ es : List (NestedKey × PyData), SeqLs M1 r (es.map fun e => .tuple [e.1.data, e.2]) ∧ (∀ e ∈ es, e.1.depth ≤ 8 ∧ ∃ ks, e.1 = .tup ks) ∧ es.length ≤ 100000 ∧ ∀ p, P (.v (.ref p)) ((p, .dn (NDic X.prog X.w p) (mergeN [] es)) :: M1)) (hc : X.calm = true := by rfl) (hg : Gl X "dict" := by rfl) (hs : starEach [e] X.env = (false, eval e X.env) :: starEach [] X.env := by rfl) : DE X B0 F M ρ κ (.Call (.Name "dict" p) [e] [] pos) P :=
  de_callTy (cr_dictN hc hu) gm bt_dict (da_cons (fun σ vs H Q g q => h σ vs H Q g fun v H' r M' g' ⟨es, h1, h2, h3, h4⟩ => q v H' r M' g' (da_nil (rn_dictN h1 h2 h3 h4))) hs) hg (he := hs)
theorem keys_rp : ∀ {xs : List (NestedKey × Addr × Value)} {es : List (NestedKey × PyData)}, Paired (NRel K B) xs es → RpA K B (xs.map fun x => V.ref x.2.1) (es.map fun e => e.1.data)
  | _, _, .nil => .nil
  | _, _, .cons h t => .cons h.2.2.1 (keys_rp t)
theorem rn_sortedN {a : Addr} {es : List (NestedKey × PyData)} (hm : (a, .dn (NDic X.prog X.w a) es) ∈ M) (hal : PySem.W.AllAlike (es.map fun e => e.1.data)) (hk : PySem.W.Sortable (es.map fun e => e.1.data)) (hd : ∀ e ∈ es, e.1.data.depth ≤ 50) (h : ∀ l, P (.v (.ref l)) ((l, .lst (sortD (es.map fun e => e.1.data))) :: M)) : RnD X.K B0 F ρ κ (rSortedN X) [.v (.ref a)] M P := fun σ vs H xs Q hl g qq => by
  obtain ⟨x, rfl⟩ := one_arg hl rfl
  have ev := (show Good X.K B0 F M ρ (.v (.ref a) :: κ) σ (x :: vs) H from g).ref
  subst ev
  obtain ⟨B, g⟩ := g
  obtain ⟨xs, ho, hx⟩ := ndic_at g hm
  refine ⟨a, xs, _, B, rfl, ho, nr_keys (F := F) g.bh hx, g.bh, keys_rp hx, hal, hk, fun d hd' => ?_, fun p ws hp hw => qq _ _ _ _ ⟨B, ?_⟩ (h p)⟩
  · obtain ⟨e, he, rfl⟩ := List.mem_map.mp hd'
    exact hd e he
  · exact (g.pop.cell (c := .lst _) hp ⟨ws, rfl, hw⟩).pushV
theorem de_sortedDN (hu : X.A.units + 64 < cLine) (gm : X.mg "sorted" = none) (h : DE X B0 F M ρ κ e fun r M1 => ∃ (a : Addr) (es : List (NestedKey × PyData)), r = .v (.ref a) ∧ (a, .dn (NDic X.prog X.w a) es) ∈ M1 ∧ PySem.W.AllAlike (es.map fun e => e.1.data) ∧ PySem.W.Sortable (es.map fun e => e.1.data) ∧ (∀ e ∈ es, e.1.data.depth ≤ 50) ∧ ∀ l, P (.v (.ref l)) ((l, .lst (sortD (es.map fun e => e.1.data))) :: M1)) (hc : X.calm = true := by rfl) (hg : Gl X "sorted" := by rfl) (hs : starEach [e] X.env = (false, eval e X.env) :: starEach [] X.env := by rfl) : DE X B0 F M ρ κ (.Call (.Name "sorted" p) [e] [] pos) P :=
  de_callB (cr_sortedN hc hu) gm bt_sorted (da_cons (fun σ vs H Q g q => h σ vs H Q g fun v H' r M' g' ⟨a, es, h0, h1, h2, h3, h4, h5⟩ => by
    subst h0
    exact q v H' _ M' g' (da_nil (rn_sortedN h1 h2 h3 h4 h5))) hs) hg (he := hs)
end
end DL
set_option maxHeartbeats 1000000
/-! sorted(tuple) -/
namespace DL
open PySem PySem.Spec PyProof.Rows L2
section
variable {prog : Program} {w : World} {A : Around} {E : Value → Shared → Prop} {s : Shared}
theorem collectT {t : Addr} {us : List Value} {R : List Value → Shared → Prop} (ht : s.heap.IsTuple t us.toArray) (hn : us.length ≤ sizeLine)
    (hR : R us { s with heap := (s.heap.push (seqObj "list" #[] 0)).update s.heap.objs.size (Obj.mapSeq (· ++ us.toArray)) }) : wpAny (model prog w) A (collect (.ref t)) R E s := by
  obtain ⟨ob, hob, hcls, m, hdt⟩ := id ht
  unfold collect
  refine wpAny_bind (wpAny_runValue (codeAny_builtin entry_proto_collect' ?_))
  show wpAny _ _ (newList [] >>= fun z => again (.builtin "list.__iadd__" ⟨[z, .ref t], []⟩)) _ _ s
  refine wpAny_bind (wpAny_newList (wpAny_pure ⟨Code.quiet_builtin _ (by decide +kernel), codeAny_builtin entry_list_iadd' ?_⟩))
  show wpAny _ _ (Builtin.List.listExtendWith (.ref s.heap.objs.size) (.ref t) (.ref s.heap.objs.size)) _ _ { s with heap := s.heap.push (seqObj "list" #[] 0) }
  unfold Builtin.List.listExtendWith
  have hob' : (s.heap.push (seqObj "list" #[] 0)).get? t = some ob := Heap.get?_push_of_some _ hob
  refine wpAny_bind (wpAny_typeOf (T := "tuple") ⟨ob, hob', hcls⟩ ?_)
  have hb : ((Value.type "tuple" == Value.type "list") || (Value.type "tuple" == Value.type "tuple")) = true := by rfl
  rw [if_pos (by first | exact hb | simp)]
  refine wpAny_bind (listItems_at hob' hdt ?_)
  refine wpAny_bind (listItems_at (xs := #[]) (n := 0) (Heap.get?_push_size _ rfl) rfl ?_)
  rw [if_neg (by simp)]
  refine wpAny_bind (listUpdate_at (xs := #[]) (n := 0) (Heap.get?_push_size _ rfl) rfl ?_ (Nat.zero_le _) (by
    show (#[] ++ us.toArray).size ≤ sizeLine + 1
    simp only [Array.size_append, List.size_toArray, List.length_nil]
    omega))
  refine wpAny_pure ?_
  show wpAny (model prog w) A (do
      let z ← load s.heap.objs.size
      match z.data with
      | .seq ys _ => pure ys.toList
      | _ => unsupported "internal:collect") R E { s with heap := (s.heap.push (seqObj "list" #[] 0)).update s.heap.objs.size (Obj.mapSeq (· ++ us.toArray)) }
  refine wpAny_bind (wpAny_load (get?_update_seq (Heap.get?_push_size _ rfl) _) ?_)
  show wpAny _ _ (pure ((#[] : Array Value) ++ us.toArray).toList) R E _
  rw [show ((#[] : Array Value) ++ us.toArray).toList = us by simp]
  exact wpAny_pure hR
end
section
variable {X : Cx} {pins : List (Addr × Obj)} {σ : L2.St} {H : Hp} {s : Shared}
def rSortedTu (K : Fg) : List V → Hp → VK → Prop := fun vs H Q => ∃ (a : Addr) (xs : List V) (ds : List PyData) (G : Hp), vs = [.ref a] ∧ SqT K H a xs ∧ Same G H ∧ RpA K G xs ds ∧ PySem.W.AllAlike ds ∧ PySem.W.Sortable ds ∧ ds.length ≤ 100000 ∧ (∀ d ∈ ds, d.depth ≤ 50) ∧
  ∀ p ws, H p = none → RpA K G ws (sortD ds) → Q (.ref p) (upd H p (.lst ws))
theorem cr_sortedTu (hu : X.A.units + 64 < cLine) : CallR X (.builtin "sorted") (rSortedTu X.K) := by
  intro pins s σ H vs us Q I r h
  obtain ⟨a, xs, ds, G, rfl, hx, hG, hr, hal, hk, hz, hdp, q⟩ := h
  obtain ⟨u, eu, rx⟩ := vals1 r
  subst eu
  cases rx
  obtain ⟨us, hvals, ht, hzz⟩ := I.tuple hx
  have hlen : us.length ≤ sizeLine := by
    have h1 := hvals.length
    have h2 := hr.len
    have h3 : (100000 : Nat) ≤ sizeLine := by decide
    omega
  refine Calls.call_function_entry PyProof.Rows.kind_sorted PyProof.Rows.plain_sorted PyProof.Rows.entry_sorted (PyProof.Rows.args_sorted1 _) ?_
  unfold Builtin.«sorted»
  refine wpAny_bind (m := checkCount "sorted" 1 1 _) (wpAny_pure ?_)
  refine wpAny_bind (collectT ht hlen ?_)
  generalize hh : (s.heap.push (seqObj "list" #[] 0)).update s.heap.objs.size (Obj.mapSeq (· ++ us.toArray)) = h'
  have kp : ∀ (b : Addr) (o : Obj), s.heap.get? b = some o → h'.get? b = some o := fun b o e => by
    have hne : b ≠ s.heap.objs.size := Nat.ne_of_lt (Heap.lt_size e)
    rw [← hh, Heap.get?_update_ne _ _ _ _ hne]
    exact Heap.get?_push_of_some _ e
  have hsz : s.heap.objs.size ≤ h'.objs.size := by
    rw [← hh, Heap.size_update, size_push']
    exact Nat.le_succ _
  have I1 : Inv X pins σ H { s with heap := h' } := I.kept (t' := s.toks) kp
  refine wpAny_bind (wpAny_newList ?_ hlen)
  have hoL : (h'.push (seqObj "list" us.toArray 0)).get? h'.objs.size = some (seqObj "list" us.toArray 0) := Heap.get?_push_size _ rfl
  show wpAny _ _ _ _ _ { s with heap := h'.push (seqObj "list" us.toArray 0) }
  have er := each_reads I1 (hr.ext hG) hvals
  have er' : PySem.W.EachIs (fun v d => ∃ as, Reads (PySem.W.sortingHeap (h'.push (seqObj "list" us.toArray 0)) h'.objs.size us) v d as) us ds := er.mono fun _ _ ⟨as, r⟩ => ⟨as, PyProof.Rows.Reads.keeps (fun b o e => PySem.W.sortingHeap_old (Nat.ne_of_lt (Heap.lt_size e)) (Heap.get?_push_of_some _ e)) r⟩
  refine wpAny_bind (wpAny_holding (wpAny_call_entry PyProof.Rows.slot_list_sort ⟨_, hoL, rfl⟩ PyProof.Rows.entry_list_sort
    (PySem.W.list_sort_vals (s := { s with heap := h'.push (seqObj "list" us.toArray 0) }) hoL (PySem.W.SortsAt.data (s := { s with heap := PySem.W.sortingHeap (h'.push (seqObj "list" us.toArray 0)) h'.objs.size us }) er' hal hk (fun d hd => ?_)) hlen ⟨_, rfl, ?_⟩) (PyProof.Rows.args_list_sort _)))
  · have := hdp d hd
    show X.A.units + 2 + d.depth < cLine
    omega
  obtain ⟨ws, h1, h2⟩ := each_back (PySem.W.sortVals_data (enc := id) (h' := PySem.W.sortingHeap (h'.push (seqObj "list" us.toArray 0)) h'.objs.size us) false (each_of hr hvals) er' (by rw [List.map_id]; exact hal))
  rw [List.map_id] at h1
  obtain ⟨e', he'⟩ := PyProof.Rows.sortedHeap_at (vs := us) (out := (PySem.W.sortVals (PySem.W.dataKind (PySem.W.sortingHeap (h'.push (seqObj "list" us.toArray 0)) h'.objs.size us) ds) false us us).toArray) hoL
  have hlw : ws.length ≤ sizeLine := by
    have h4 : (List.mergeSort ds (PySem.W.dataLe false id)).length = ds.length := List.length_mergeSort _
    have := h2.len
    have h3 : (100000 : Nat) ≤ sizeLine := by decide
    omega
  refine wpAny_pure ⟨_, rfl, .ref h'.objs.size, upd H h'.objs.size (.lst ws), I1.laid (t' := s.toks) (fun b u e => ?_) (Nat.le_refl _) (show ObjOk X.prog X.w _ _ _ (.lst ws) from ⟨hlw, _, e', h1, he'⟩), rfl, q _ ws (I1.hok.fresh (Nat.le_refl _)) h2⟩
  have hb : b < h'.objs.size := Heap.lt_size e
  rw [PyProof.Rows.sortedHeap_old (Nat.ne_of_lt hb) (by rw [size_push']; exact Nat.lt_succ_of_lt hb)]
  exact Heap.get?_push_of_some _ e
end
section
variable {X : Cx} {B0 F B : Hp} {M : Cs} {ρ κ : List Sl} {P : Sl → Cs → Prop} {K : Fg} {e : Expr} {p pos : Pos}
theorem rn_sortedTu {ds : List PyData} (hal : PySem.W.AllAlike ds) (hk : PySem.W.Sortable ds) (hz : ds.length ≤ 100000) (hd : ∀ d ∈ ds, d.depth ≤ 50) (h : ∀ l, P (.v (.ref l)) ((l, .lst (sortD ds)) :: M)) : RnD K B0 F ρ κ (rSortedTu K) [.d (.tuple ds)] M P := fun σ vs H xs Q hl g qq => by
  obtain ⟨x, rfl⟩ := one_arg hl rfl
  obtain ⟨B, g⟩ := g
  obtain ⟨a, ys, rfl, h3, h4⟩ := Rp.tup_inv (show Rp K B x (.tuple ds) from g.fst)
  exact ⟨a, ys, ds, B, rfl, same_t g.bh h3, g.bh, h4, hal, hk, hz, hd, fun p ws hp hw => qq _ _ _ _ ⟨B, (g.pop.cell (c := .lst _) hp ⟨ws, rfl, hw⟩).pushV⟩ (h p)⟩
theorem de_sortedTu (hu : X.A.units + 64 < cLine) (gm : X.mg "sorted" = none) (h : DE X B0 F M ρ κ e fun r M1 => ∃ ds : List PyData, r = .d (.tuple ds) ∧ PySem.W.AllAlike ds ∧ PySem.W.Sortable ds ∧ ds.length ≤ 100000 ∧ (∀ d ∈ ds, d.depth ≤ 50) ∧ ∀ l, P (.v (.ref l)) ((l, .lst (sortD ds)) :: M1)) (hg : Gl X "sorted" := by rfl) (hs : starEach [e] X.env = (false, eval e X.env) :: starEach [] X.env := by rfl) : DE X B0 F M ρ κ (.Call (.Name "sorted" p) [e] [] pos) P :=
  de_callB (cr_sortedTu hu) gm bt_sorted (da_cons (fun σ vs H Q g q => h σ vs H Q g fun v H' r M' g' ⟨ds, h0, h1, h2, h3, h4, h5⟩ => by
    subst h0
    exact q v H' _ M' g' (da_nil (rn_sortedTu h1 h2 h3 h4 h5))) hs) hg (he := hs)
/-! ### rows of pairs -/
abbrev Eds := List (Nat × Nat)
def epD (e : Nat × Nat) : PyData := .tuple [.int e.1, .int e.2]
theorem alike_pr {es : Eds} : PySem.W.AllAlike (es.map epD) := fun d hd d' hd' => by
  obtain ⟨x, _, rfl⟩ := List.mem_map.mp hd
  obtain ⟨y, _, rfl⟩ := List.mem_map.mp hd'
  simp [epD, PySem.W.alike, PySem.W.alikeAll]
theorem sortable_pr {es : Eds} : PySem.W.Sortable (es.map epD) := .inl fun d hd => by
  obtain ⟨x, _, rfl⟩ := List.mem_map.mp hd
  exact ⟨_, _, rfl⟩
theorem depth_pr {es : Eds} : ∀ d ∈ es.map epD, d.depth ≤ 50 := fun d hd => by
  obtain ⟨x, _, rfl⟩ := List.mem_map.mp hd
  simp [epD, PyData.depth, PyData.depthAll]
def lePr (a b : Nat × Nat) : Bool := decide (a.1 < b.1 ∨ (a.1 = b.1 ∧ a.2 ≤ b.2))
theorem lePr_data (a b : Nat × Nat) : PySem.W.dataLe false id (epD a) (epD b) = lePr a b := by
  show (!PySem.W.dataLt (.tuple [.int (b.1 : Nat), .int (b.2 : Nat)]) (.tuple [.int (a.1 : Nat), .int (a.2 : Nat)])) = _
  unfold lePr
  rw [PySem.W.dataLt_ii, Bool.eq_iff_iff]
  simp only [Bool.not_eq_true', decide_eq_false_iff_not, decide_eq_true_iff]
  omega
theorem sort_pr (es : Eds) : ∃ T : Eds, sortD (es.map epD) = T.map epD ∧ T.Perm es ∧ T.Pairwise fun a b => a.1 < b.1 ∨ (a.1 = b.1 ∧ a.2 ≤ b.2) := by
  refine ⟨es.mergeSort lePr, ?_, List.mergeSort_perm _ _, ?_⟩
  · unfold sortD
    rw [List.map_mergeSort]
    intro a _ b _
    exact (lePr_data a b).symm
  · refine (List.pairwise_mergeSort (fun a b c h1 h2 => ?_) (fun a b => ?_) es).imp fun h => ?_
    · unfold lePr at *
      simp only [decide_eq_true_iff] at *
      omega
    · unfold lePr
      simp only [Bool.or_eq_true, decide_eq_true_iff]
      omega
    · unfold lePr at h
      simpa using h
end
end DL
set_option maxHeartbeats 1000000
namespace DL
open PySem PySem.Spec PyProof.Rows L2
theorem valN_key {es : List (NestedKey × PyData)} {k : NestedKey} : (valN es k).isSome = true ↔ k ∈ es.map (·.1) := by
  unfold valN
  rw [Option.isSome_map, List.find?_isSome, List.mem_map]
  exact ⟨fun ⟨e, h, he⟩ => ⟨e, h, of_decide_eq_true he⟩, fun ⟨e, h, he⟩ => ⟨e, h, decide_eq_true he⟩⟩
theorem putN_keys (es : List (NestedKey × PyData)) (k : NestedKey) (d : PyData) : (putN es k d).map (·.1) = if k ∈ es.map (·.1) then es.map (·.1) else es.map (·.1) ++ [k] := by
  unfold putN
  by_cases c : (valN es k).isSome = true
  · rw [if_pos c, if_pos (valN_key.mp c), List.map_map]
    refine List.map_congr_left fun e _ => ?_
    show (if e.1 = k then (e.1, d) else e).1 = e.1
    split <;> rfl
  · rw [if_neg c, if_neg fun h => c (valN_key.mpr h), List.map_append]
    rfl
theorem mergeN_keys : ∀ (more acc : List (NestedKey × PyData)), (acc.map (·.1)).Nodup → ((mergeN acc more).map (·.1)).Nodup ∧ ∀ k, k ∈ (mergeN acc more).map (·.1) ↔ k ∈ acc.map (·.1) ∨ k ∈ more.map (·.1)
  | [], acc, h => ⟨h, fun k => by simp [mergeN]⟩
  | e :: more, acc, h => by
    have h1 : ((putN acc e.1 e.2).map (·.1)).Nodup := by
      rw [putN_keys]
      split
      · exact h
      · rename_i c
        exact List.nodup_append.mpr ⟨h, by simp, fun a ha b hb z => c (by rw [List.mem_singleton.mp hb] at z; exact z ▸ ha)⟩
    obtain ⟨h2, h3⟩ := mergeN_keys more (putN acc e.1 e.2) h1
    refine ⟨h2, fun k => (h3 k).trans ?_⟩
    rw [putN_keys, List.map_cons, List.mem_cons]
    split
    · rename_i c
      exact ⟨fun z => z.elim .inl fun z => .inr (.inr z), fun z => z.elim .inl fun z => z.elim (fun z => .inl (z ▸ c)) .inr⟩
    · rw [List.mem_append, List.mem_singleton]
      exact ⟨fun z => z.elim (fun z => z.elim .inl fun z => .inr (.inl z)) fun z => .inr (.inr z), fun z => z.elim (fun z => .inl (.inl z)) fun z => z.elim (fun z => .inl (.inr z)) .inr⟩
/-! pairs as keys -/
def keyP (e : Nat × Nat) : NestedKey := .tup [.num (e.1 : Int), .num (e.2 : Int)]
theorem keyP_inj {e f : Nat × Nat} (h : keyP e = keyP f) : e = f := by
  unfold keyP at h
  injection h with h
  rw [List.cons.injEq, List.cons.injEq] at h
  obtain ⟨h1, h2, _⟩ := h
  injection h1 with h1
  injection h2 with h2
  exact Prod.ext (by omega) (by omega)
theorem keyP_data (e : Nat × Nat) : (keyP e).data = epD e := by
  unfold keyP epD
  rw [NestedKey.data, NestedKey.datas, NestedKey.datas, NestedKey.datas, NestedKey.data, NestedKey.data]
theorem keyP_depth (e : Nat × Nat) : (keyP e).depth ≤ 8 := by
  unfold keyP
  rw [NestedKey.depth, NestedKey.depthAll, NestedKey.depthAll, NestedKey.depthAll, NestedKey.depth, NestedKey.depth]
  decide
/-- sorted(dict of pairs): each pair once, going up -/
theorem dict_pr (es : Eds) (d : PyData) : ∃ L T : Eds, (mergeN [] (es.map fun e => (keyP e, d))).map (fun e => e.1.data) = L.map epD ∧ sortD (L.map epD) = T.map epD ∧ T.Nodup ∧ (∀ e, e ∈ T ↔ e ∈ es) ∧ T.length ≤ es.length := by
  obtain ⟨h1, h2⟩ := mergeN_keys (es.map fun e => (keyP e, d)) [] List.nodup_nil
  have h3 : ∀ k, k ∈ (mergeN [] (es.map fun e => (keyP e, d))).map (·.1) → ∃ e ∈ es, k = keyP e := fun k hk => by
    rcases (h2 k).mp hk with h | h
    · cases h
    · rw [List.map_map] at h
      obtain ⟨e, he, rfl⟩ := List.mem_map.mp h
      exact ⟨e, he, rfl⟩
  have h4 : ∀ ks : List NestedKey, (∀ k ∈ ks, ∃ e ∈ es, k = keyP e) → ∃ L : Eds, ks = L.map keyP := fun ks => by
    induction ks with
    | nil => exact fun _ => ⟨[], rfl⟩
    | cons k ks ih =>
      intro h
      obtain ⟨L, rfl⟩ := ih fun k hk => h k (List.mem_cons_of_mem _ hk)
      obtain ⟨e, _, rfl⟩ := h k List.mem_cons_self
      exact ⟨e :: L, rfl⟩
  obtain ⟨L, hL⟩ := h4 _ h3
  obtain ⟨T, e1, e2, _⟩ := sort_pr L
  have hnd : L.Nodup := by
    rw [hL] at h1
    exact (List.pairwise_map.mp h1).imp fun h z => h (by rw [z])
  have hme : ∀ e, e ∈ L ↔ e ∈ es := fun e => by
    have := h2 (keyP e)
    rw [hL, List.mem_map, List.map_map] at this
    constructor
    · intro h
      rcases this.mp ⟨e, h, rfl⟩ with z | z
      · cases z
      · obtain ⟨f, hf, e3⟩ := List.mem_map.mp z
        exact keyP_inj (show keyP f = keyP e from e3) ▸ hf
    · intro h
      obtain ⟨f, hf, e3⟩ := this.mpr (.inr (List.mem_map.mpr ⟨e, h, rfl⟩))
      exact keyP_inj e3 ▸ hf
  refine ⟨L, T, ?_, e1, e2.nodup_iff.mpr hnd, fun e => e2.mem_iff.trans (hme e), ?_⟩
  · rw [show (fun e : NestedKey × PyData => e.1.data) = NestedKey.data ∘ (·.1) from rfl, ← List.map_map, hL, List.map_map]
    exact List.map_congr_left fun e _ => keyP_data e
  · rw [e2.length_eq]
    have : ∀ (a b : Eds), a.Nodup → (∀ x ∈ a, x ∈ b) → a.length ≤ b.length := fun a => by
      induction a with
      | nil => exact fun _ _ _ => Nat.zero_le _
      | cons x a ih =>
        intro b hn hs
        obtain ⟨n1, n2⟩ := List.nodup_cons.mp hn
        have hx := hs x List.mem_cons_self
        have h5 := ih (b.erase x) n2 fun y hy => (List.mem_erase_of_ne fun z => n1 (by rw [← z]; exact hy)).mpr (hs y (List.mem_cons_of_mem _ hy))
        rw [List.length_erase_of_mem hx] at h5
        have := List.length_pos_of_mem hx
        rw [List.length_cons]
        omega
    exact this L es hnd fun x hx => (hme x).mp hx
end DL
set_option maxHeartbeats 1000000
namespace DL
open PySem PySem.Spec PyProof.Rows L2
section
variable {X : Cx} {B0 F : Hp} {M : Cs} {ρ κ : List Sl} {P : Sl → Cs → Prop} {a : Expr} {p p2 p3 pos : Pos}
/-- tuple(range(a)) -/
theorem de_tupRgA (hm : X.mg "tuple" = none) (hm2 : X.mg "range" = none) (h : DE X B0 F M ρ κ a fun r M1 => ∃ n, r = .d (.int n) ∧ RgOk 0 n ∧ P (.d (.tuple (rngD 0 n.toNat))) M1) (hc : X.calm = true := by rfl) (hg : Gl X "tuple" := by rfl) (hg2 : Gl X "range" := by rfl)
    (n1 : starEach [.Call (.Name "range" p2) [a] [] p3] X.env = (false, eval (.Call (.Name "range" p2) [a] [] p3) X.env) :: starEach [] X.env := by rfl) (n2 : starEach [a] X.env = (false, eval a X.env) :: starEach [] X.env := by rfl) : DE X B0 F M ρ κ (.Call (.Name "tuple" p) [.Call (.Name "range" p2) [a] [] p3] [] pos) P := fun σ vs H Q g q => tOf_of (pe_tupRg hc hg hm (prg_1 hg2 hm2 pe_self n2) n1) (h σ vs H _ g fun v H1 r M1 g1 h1 => by
    obtain ⟨n, rfl, ok, hp⟩ := h1
    have e := g1.int
    subst e
    refine ⟨n, rfl, ok, fun l hl => q _ _ _ M1 ?_ hp⟩
    obtain ⟨B, g1⟩ := g1
    have e : (n - 0).toNat = n.toNat := by omega
    exact ⟨_, (g1.pop.laid (o := .tup (rgV 0 n)) hl).pushD (.tup (SqT.of upd_same) (by rw [← e]; exact rngV_rp 0 n))⟩)
end
end DL
set_option maxHeartbeats 1000000
/-! comprehensions of two walks -/
namespace DL
open PySem PySem.Spec PyProof.Rows L2
section
variable {X : Cx} {B0 F : Hp} {M : Cs} {ρ κ : List Sl} {elt iter iter1 c e : Expr} {scope : Scope} {pos : Pos} {P : Sl → Cs → Prop}
theorem up_slots {K : Fg} {M' : Cs} {ρ κ : List Sl} {s : Sl} {σ : L2.St} {v : V} {vs : List V} {H' : Hp} (g : Good K B0 F M' ρ (s :: κ) σ (v :: vs) H') : Good K B0 F M' ρ (s :: (ρ ++ κ)) σ (v :: (valsOf σ ++ vs)) H' := by
  obtain ⟨B, g⟩ := g
  refine ⟨B, g.stk ?_⟩
  cases g.st with
  | cons k1 k2 => exact .cons k1 (Paired.app (kok_slots g.sl) k2)
theorem down_slots {K : Fg} {M' : Cs} {ρ ρ' κ : List Sl} {s : Sl} {σ σ' : L2.St} {v : V} {vs : List V} {H' : Hp} (hsh : Shape σ ρ) (g : Good K B0 F M' ρ' (s :: (ρ ++ κ)) σ' (v :: (valsOf σ ++ vs)) H') : Good K B0 F M' ρ (s :: κ) σ (v :: vs) H' := by
  obtain ⟨B, g⟩ := g
  have hlen : (valsOf σ).length = ρ.length := by
    have := Paired.length hsh
    simp [valsOf, this]
  cases g.st with
  | cons k1 k2 =>
    obtain ⟨k3, k4⟩ := kok_split hlen k2
    exact ⟨B, (g.slt (sok_back hsh k3)).stk (.cons k1 k4)⟩
theorem good_shape {K : Fg} {M' : Cs} {ρ κ : List Sl} {σ : L2.St} {vs : List V} {H' : Hp} (g : Good K B0 F M' ρ κ σ vs H') : Shape σ ρ := by
  obtain ⟨B, g⟩ := g
  exact shape_of g.sl
theorem eq_take_of {α : Type} {l : List α} {i : Nat} {d : α} (h : l[i]? = some d) : l.take (i + 1) = l.take i ++ [d] := take_get h
/-- [elt for x in iter for y in iter1 if c]: nothing is changed on the way -/
theorem de_lcGG (i j : Nat) (hij : i ≠ j) (rows : PyData → List PyData) (t : PyData → PyData → Bool) (f : PyData → PyData → PyData) {x y : Str} {px py : Pos}
    (h : DI X B0 F M ρ κ (.Name x px) iter fun ds s Src M1 => (ds.flatMap rows).length ≤ 100000 ∧ (∀ D acc, Src ((D, .lst acc) :: M1)) ∧
      (∀ d D acc, d ∈ ds → ∀ b : BA, DI (bk X scope b) B0 F ((D, .lst acc) :: M1) (((ρ.set j .un).set i .un).set i (.d d)) (s :: (ρ ++ κ)) (.Name y py) iter1 fun es s1 Src1 M2 => es = rows d ∧ M2 = (D, .lst acc) :: M1 ∧ (∀ acc', Src1 ((D, .lst acc') :: M1)) ∧
        (∀ e acc', e ∈ es → ∀ b : BA, DT (bk X scope b) B0 F ((D, .lst acc') :: M1) (((((ρ.set j .un).set i .un).set i (.d d)).set j .un).set j (.d e)) (s1 :: ((((ρ.set j .un).set i .un).set i (.d d)) ++ (s :: (ρ ++ κ)))) c fun k M3 => k = t d e ∧ M3 = (D, .lst acc') :: M1) ∧
        (∀ e acc', e ∈ es → t d e = true → ∀ b : BA, DE (bk X scope b) B0 F ((D, .lst acc') :: M1) (((((ρ.set j .un).set i .un).set i (.d d)).set j .un).set j (.d e)) (s1 :: ((((ρ.set j .un).set i .un).set i (.d d)) ++ (s :: (ρ ++ κ)))) elt fun r M3 => r = .d (f d e) ∧ M3 = (D, .lst acc') :: M1)) ∧
      ∀ D, P (.v (.ref D)) ((D, .lst (ds.flatMap fun d => ((rows d).filter (t d)).map (f d))) :: M1))
    (hN : X.N.Nodup := by exact (by assumption)) (ok : BlkOk X.N X.env.scope scope [(x, i), (y, j)] := by exact blkOk_by (by kernel_rfl)) (hg : ∀ b : BA, PG (bk X scope b) (.Name x px) (gName i) := by exact fun b => pg_name (by assumption) rfl (by first | exact Or.inl rfl | exact Or.inr rfl))
    (hg1 : ∀ b : BA, PG (bk X scope b) (.Name y py) (gName j) := by exact fun b => pg_name (by assumption) rfl (by first | exact Or.inl rfl | exact Or.inr rfl))
    (hc : X.calm = true := by rfl) (hs : ∀ x, foldedSetIterable iter X.env x = pure x := by intro _; rfl) (hs1 : ∀ env x, foldedSetIterable iter1 env x = pure x := by intro _ _; rfl) : DE X B0 F M ρ κ (.ListComp elt [⟨.Name x px, iter, [], 0⟩, ⟨.Name y py, iter1, [c], 0⟩] scope pos) P := fun σ vs H Q g0 q => by
  refine tOf_of (pe_lc2 (own := [(x, i), (y, j)]) (vs1 := [j]) (g := gName i) (g1 := gName j) (tt := tYes) (tt1 := fun σ H Q => ∀ b : BA, tOfT (bk X scope b) c σ H Q) (te := fun σ H Q => ∀ b : BA, tOf (bk X scope b) elt σ H Q)
    (wi1 := fun σ H R => ∀ b : BA, tOfI (bk X scope b) (.Name y py) iter1 σ H R) hc hN pi_self ok (by simp) (fun s H C cl fp => hg ⟨s, H, C, cl, fp⟩) (fun _ _ _ _ _ => pts_nil)
    (fun s H C cl fp => ⟨fun pins s' σ' H' R I z => z ⟨s, H, C, cl, fp⟩ pins s' I⟩) (fun s H C cl fp => hg1 ⟨s, H, C, cl, fp⟩)
    (fun s H C cl fp => ⟨fun pins s' σ' H' Q' I z => (pts_one pt_self).run pins s' σ' H' Q' I (z ⟨s, H, C, cl, fp⟩)⟩) (fun s H C cl fp => ⟨fun pins s' σ' H' Q' I z => z ⟨s, H, C, cl, fp⟩ pins s' I⟩) hs hs1) ?_
  have hsh := good_shape g0
  refine h σ vs H _ g0 fun J H1 M1 ds s v Src g1 dw hsrc hr D hD => ?_
  obtain ⟨hlen, hsr, hst, hd⟩ := hr
  let app : PyData → List PyData := fun d => ((rows d).filter (t d)).map (f d)
  have lenT : ∀ k, ((ds.take k).flatMap app).length ≤ ((ds.take k).flatMap rows).length := fun k => by
    induction ds.take k with
    | nil => simp
    | cons d l ih =>
      rw [List.flatMap_cons, List.flatMap_cons, List.length_append, List.length_append]
      have : (app d).length ≤ (rows d).length := by
        show (List.map _ _).length ≤ _
        rw [List.length_map]
        exact List.length_filter_le _ _
      omega
  have lenU : ∀ k, ((ds.take k).flatMap rows).length ≤ 100000 := fun k => by
    have e := congrArg (fun l => (l.flatMap rows).length) (List.take_append_drop k ds)
    simp only [List.flatMap_append, List.length_append] at e
    omega
  refine ⟨fun n m H' => m = ds.length - n ∧ n ≤ ds.length ∧ Good X.K B0 F ((D, .lst ((ds.take n).flatMap app)) :: M1) ρ (s :: κ) σ (v :: vs) H', ⟨ds.length, by simp, Nat.zero_le _, ?_⟩, ?_⟩
  · obtain ⟨B, g1⟩ := g1
    exact ⟨B, g1.cell (c := .lst []) hD ⟨[], rfl, .nil⟩⟩
  rintro n m H' ⟨rfl, hn, g'⟩
  by_cases hlt : n < ds.length
  · obtain ⟨d, hdd⟩ : ∃ d, ds[n]? = some d := ⟨ds[n], by simp [hlt]⟩
    have hdm := List.mem_of_getElem? hdd
    have eT : (ds.take (n + 1)).flatMap app = (ds.take n).flatMap app ++ app d := by rw [take_get hdd, List.flatMap_append]; simp
    have eU : ((ds.take (n + 1)).flatMap rows).length = ((ds.take n).flatMap rows).length + (rows d).length := by rw [take_get hdd, List.flatMap_append]; simp
    refine .inr ⟨dw.go n _ ρ κ σ vs H' (hsr _ _) g' hlt, fun H2 => Good X.K B0 F ((D, .lst ((ds.take (n + 1)).flatMap app)) :: M1) ρ (s :: κ) σ (v :: vs) H2, fun H2 g2 => ⟨ds.length - (n + 1), by omega, rfl, hlt, g2⟩, fun z H2 yl => ⟨?_, ?_⟩⟩
    · show wipe ((wipe σ [i, j]).set i (some z)) [i, j] = wipe σ [i, j]
      rw [wipe_set (by simp)]
      show ((((σ.set j none).set i none).set j none).set i none) = (σ.set j none).set i none
      have e1 : ((σ.set j none).set i none).set j none = (σ.set j none).set i none := by rw [List.set_comm none none hij, List.set_set]
      rw [e1, List.set_set]
    unfold tYes
    dsimp only
    rw [if_pos rfl]
    intro b
    have g2 := dw.yld n _ ρ (ρ ++ κ) σ (valsOf σ ++ vs) H' z H2 d (hsr _ _) (up_slots g') hdd yl
    have g3 : Good X.K B0 F ((D, .lst ((ds.take n).flatMap app)) :: M1) (((ρ.set j .un).set i .un).set i (.d d)) (s :: (ρ ++ κ)) ((wipe σ [i, j]).set i (some z)) (v :: (valsOf σ ++ vs)) H2 := by
      obtain ⟨B, g2⟩ := g2
      exact ⟨B, (g2.pop.slt (Paired.set (OOk.of g2.fst) i (sok_wipe g2.sl [i, j])))⟩
    have hsh2 := good_shape g3
    refine hst d D ((ds.take n).flatMap app) hdm b _ _ H2 _ g3 fun J1 H4 M2 es s1 v1 Src1 g4 dw1 hsrc1 hr1 => ?_
    obtain ⟨hes, hM2, hsr1, ht1, he1⟩ := hr1
    subst hM2
    subst hes
    refine ⟨fun l k H' => k = (rows d).length - l ∧ l ≤ (rows d).length ∧ Good X.K B0 F ((D, .lst ((ds.take n).flatMap app ++ (((rows d).take l).filter (t d)).map (f d))) :: M1) (((ρ.set j .un).set i .un).set i (.d d)) (s1 :: s :: (ρ ++ κ)) ((wipe σ [i, j]).set i (some z)) (v1 :: v :: (valsOf σ ++ vs)) H', ⟨(rows d).length, by simp, Nat.zero_le _, by simpa using g4⟩, ?_⟩
    rintro l k H5 ⟨rfl, hl, g5⟩
    by_cases hlt1 : l < (rows d).length
    · obtain ⟨e, hee⟩ : ∃ e, (rows d)[l]? = some e := ⟨(rows d)[l], by simp [hlt1]⟩
      have hem := List.mem_of_getElem? hee
      refine .inr ⟨dw1.go l _ _ (s :: (ρ ++ κ)) _ _ H5 (hsr1 _) g5 hlt1, fun H6 => Good X.K B0 F ((D, .lst ((ds.take n).flatMap app ++ (((rows d).take (l + 1)).filter (t d)).map (f d))) :: M1) (((ρ.set j .un).set i .un).set i (.d d)) (s1 :: s :: (ρ ++ κ)) ((wipe σ [i, j]).set i (some z)) (v1 :: v :: (valsOf σ ++ vs)) H6, fun H6 g6 => ⟨(rows d).length - (l + 1), by omega, rfl, hlt1, g6⟩, fun z1 H6 yl1 => ⟨?_, ?_⟩⟩
      · show ((((wipe σ [i, j]).set i (some z)).set j none).set j (some z1)).set j none = ((wipe σ [i, j]).set i (some z)).set j none
        rw [List.set_set, List.set_set]
      intro b1
      have g6 := dw1.yld l _ _ _ _ _ H5 z1 H6 e (hsr1 _) (up_slots g5) hee yl1
      have g7 : Good X.K B0 F ((D, .lst ((ds.take n).flatMap app ++ (((rows d).take l).filter (t d)).map (f d))) :: M1) (((((ρ.set j .un).set i .un).set i (.d d)).set j .un).set j (.d e)) (s1 :: ((((ρ.set j .un).set i .un).set i (.d d)) ++ (s :: (ρ ++ κ)))) ((((wipe σ [i, j]).set i (some z)).set j none).set j (some z1)) (v1 :: (valsOf ((wipe σ [i, j]).set i (some z)) ++ (v :: (valsOf σ ++ vs)))) H6 := by
        obtain ⟨B, g6⟩ := g6
        exact ⟨B, (g6.pop.slt (Paired.set (OOk.of g6.fst) j (sok_wipe g6.sl [j])))⟩
      have eF : ((rows d).take (l + 1)).filter (t d) = ((rows d).take l).filter (t d) ++ if t d e = true then [e] else [] := by
        rw [take_get hee, List.filter_append]
        congr 1
        by_cases z : t d e = true <;> simp [z]
      refine ht1 e _ hem b1 _ _ H6 _ g7 fun kk H7 M3 g8 h8 => ?_
      obtain ⟨rfl, rfl⟩ := h8
      by_cases hk : t d e = true
      · rw [if_pos hk]
        intro b2
        refine he1 e _ hem hk b2 _ _ H7 _ g8 fun yv H8 r M4 g9 h9 => ?_
        obtain ⟨rfl, rfl⟩ := h9
        have hbnd : ((ds.take n).flatMap app ++ (((rows d).take l).filter (t d)).map (f d)).length < 100000 := by
          have h1 := lenT n
          have h2 := lenU (n + 1)
          have h3 : (((rows d).take l).filter (t d)).length ≤ l := Nat.le_trans (List.length_filter_le _ _) (by rw [List.length_take]; omega)
          rw [List.length_append, List.length_map]
          omega
        refine lc_push g9 hbnd fun H9 g10 => ?_
        have := down_slots hsh2 g10
        rw [eF, if_pos hk, List.map_append, ← List.append_assoc]
        exact this
      · rw [if_neg hk]
        have := down_slots hsh2 g8
        rw [eF, if_neg hk, List.append_nil]
        exact this
    · have el : l = (rows d).length := by omega
      subst el
      refine .inl ⟨dw1.stop _ _ (s :: (ρ ++ κ)) _ _ H5 (hsr1 _) g5, ?_⟩
      rw [List.take_length] at g5
      rw [eT]
      obtain ⟨B, g5⟩ := g5
      exact down_slots hsh ⟨B, g5.pop⟩
  · have e : n = ds.length := by omega
    subst e
    rw [List.take_length] at g'
    exact .inl ⟨dw.stop _ ρ κ σ vs H' (hsr _ _) g', q _ H' _ _ (by
      obtain ⟨B, g'⟩ := g'
      exact ⟨B, g'.pop.pushV⟩) (hd D)⟩
end
end DL
set_option maxHeartbeats 1000000
/-! list.remove, dict.get, dict.update(pairs), str(int), tuples of ints compared -/
namespace DL
open PySem PySem.Spec PyProof.Rows L2
section
variable {X : Cx} {pins : List (Addr × Obj)} {σ : L2.St} {H : Hp} {s : Shared}
theorem upairs_of (I : Inv X pins σ H s) : ∀ {ps : List Addr} {more : List (Key × V)}, Paired (fun p kv => SqT X.K H p [kV kv.1, kv.2]) ps more →
    ∃ qs : List (Value × Key × Value), qs.length = ps.length ∧ KV more (qs.map (·.2)) ∧ ∀ (j : Nat) (q : Value × Key × Value), qs[j]? = some q → ∃ b : Addr, ps[j]? = some b ∧ IsTup s.heap b #[q.1, q.2.2] ∧ (mixKind X.prog X.w).is q.2.1 q.1 = true
  | _, _, .nil => ⟨[], rfl, .nil, fun j q e => by simp at e⟩
  | _, _, .cons (a := p) (b := kv) h t => by
    obtain ⟨qs, hl, r, hp⟩ := upairs_of I t
    obtain ⟨its, rv, ht, _⟩ := I.tuple h
    obtain ⟨u, y, ei, ru, ry⟩ := vals2 rv
    subst ei
    refine ⟨(u, kv.1, y) :: qs, by rw [List.length_cons, List.length_cons, hl], .cons ⟨rfl, ry⟩ r, fun j q e => ?_⟩
    cases j with
    | zero =>
      have e' : (u, kv.1, y) = q := Option.some.inj e
      subst e'
      exact ⟨p, rfl, ht, kV_is (P := X.prog) (w := X.w) ru⟩
    | succ j =>
      obtain ⟨b, e1, e2, e3⟩ := hp j q (by simpa using e)
      exact ⟨b, by simpa using e1, e2, e3⟩
variable {o e : Expr} {td ty : TE} {apos cpos : Pos}
def tUpd (X : Cx) (td ty : TE) : TE := fun σ H Q => td σ H fun x H1 => ∃ d, x = .ref d ∧ IsD H1 d ∧ ty σ H1 fun y H2 => ∃ (kvs : List (Key × V)) (a : Addr) (ps : List Addr) (more : List (Key × V)), H2 d = some (.dK kvs) ∧ y = .ref a ∧ SqL X.K H2 a (ps.map V.ref) ∧ Paired (fun p kv => SqT X.K H2 p [kV kv.1, kv.2]) ps more ∧ kvs.length + more.length ≤ 100000 ∧ Q .non (upd H2 d (.dK (mergeK kvs more)))
theorem pe_dupd (hc : X.calm = true) (ho : PE X o td) (he : PE X e ty) (m : M1 X o "update" apos e cpos) : PE X (.Call (.Attribute o "update" apos) [e] [] cpos) (tUpd X td ty) := by
  refine ⟨fun pins s σ H Q I h => ?_⟩
  refine wpAny_Call_method m.base m.few m.line PySem.F.plainAttrs_dict PySem.F.slot_dict_update PySem.F.type_dict_update (thn (ho.run pins s σ H _ I h) fun u s1 ⟨x, H1, I1, rx, d, ex, isd, q1⟩ => ?_)
  subst ex
  obtain rfl : u = Value.ref d := rx
  obtain ⟨t1, t2, _⟩ := isD_at I1 isd
  refine ⟨t1, t2, ?_⟩
  rw [m.trees]
  refine Calls.callWith_builtin rfl (Calls.evalArgs_plain (Calls.spliced_cons (thn (he.run pins s1 σ H1 _ I1 q1) fun iv s2 ⟨y, H2, I2, ry, kvs, a, ps, more, hd, ey, hq, hp, hz, q2⟩ => Calls.spliced_nil ?_)))
  subst ey
  obtain rfl : iv = Value.ref a := ry
  obtain ⟨z, hds, vs, rel, dd⟩ := dk_rd I2.hok (.inl hd)
  obtain ⟨its, rv, pl, hz2⟩ := I2.list hq
  have ei := refs_at rv
  subst ei
  obtain ⟨qs, hl, rq, hqs⟩ := upairs_of I2 hp
  obtain ⟨ob, n, hob, hcl, hdi, hdat⟩ := pl
  have hat : ∀ j : Nat, ∀ b, ps[j]? = some b → ps.getD j 0 = b := fun j b e => by rw [List.getD_eq_getElem?_getD, e]; rfl
  have hitems : PairItems s2.heap ((ps.map Value.ref).toArray) (fun j => ps.getD j 0) (qs.map fun q => (q.1, q.2.2)) := by
    refine ⟨by simp [hl], fun j k v e => ?_⟩
    rw [List.getElem?_map] at e
    obtain ⟨q, hq1, e2⟩ := Option.map_eq_some_iff.mp e
    obtain ⟨b, e3, e4, _⟩ := hqs j q hq1
    cases e2
    show _ ∧ PairAt s2.heap (ps.getD j 0) _ _
    rw [hat j b e3]
    exact ⟨by simp [e3, hat j b e3], .inl e4⟩
  have hhave : PairsHave (mixKind X.prog X.w) (qs.map fun q => (q.1, q.2.2)).length (PairRel (qs.map fun q => (q.1, q.2.2))) (qs.map (·.2)) := by
    refine ⟨by simp, fun i key v e => ?_⟩
    have e : (qs.map fun q => (q.1, q.2.2))[i]? = some (key, v) := e
    rw [List.getElem?_map] at e
    obtain ⟨q, hq1, e2⟩ := Option.map_eq_some_iff.mp e
    obtain ⟨b, _, _, e5⟩ := hqs i q hq1
    cases e2
    exact ⟨q.2.1, by rw [List.getElem?_map, hq1]; rfl, e5⟩
  have hml : more.length = qs.length := by
    have := Paired.length rq
    rwa [List.length_map] at this
  have h100 : (100000 : Nat) ≤ sizeLine := by decide
  have hvl : vs.length = kvs.length := (rel.length).symm
  obtain ⟨od, _, _, hod, hex, _⟩ := id dd
  have hne : d ∉ a :: (List.range (qs.map fun q => (q.1, q.2.2)).length).map (fun j => ps.getD j 0) := by
    intro hm
    rcases List.mem_cons.mp hm with rfl | hm
    · rw [hob] at hod
      cases hod
      have := hex.1
      rw [hcl] at this
      exact absurd this (by decide)
    · obtain ⟨j, hj, rfl⟩ := List.mem_map.mp hm
      have hj := List.mem_range.mp hj
      rw [List.length_map] at hj
      obtain ⟨b, e3, ⟨ot, hot, hct, _⟩, _⟩ := hqs j qs[j] (by simp [hj])
      have e6 : ps.getD j 0 = b := hat j b e3
      rw [e6, hot] at hod
      cases hod
      have := hex.1
      rw [hct] at this
      exact absurd this (by decide)
  refine call_update_pairs (PairArg.list a ((ps.map Value.ref).toArray) (fun j => ps.getD j 0) (qs.map fun q => (q.1, q.2.2))) (I2.ok.hd hc) ⟨⟨ob, n, hob, hcl, hdi, hdat⟩, hitems⟩ hne hhave dd (by rw [List.length_map]; omega) fun h' tk hd' hk => ?_
  have hlen : (mergeK kvs more).length ≤ sizeLine := by
    have := length_mergeK more kvs
    omega
  refine ⟨.non, upd H2 d (.dK (mergeK kvs more)), I2.write (x := d) (e := d) (by rw [hd]; exact True.intro) (.inl rfl) (fun b u hb e => hk b u hb (fun z => nomatch z) e) ?_ (dk_new hlen hds (KV.merge rq rel) hd'), rfl, q2⟩
  obtain ⟨o', _, _, ho', _⟩ := hd'
  exact ⟨o', ho'⟩
end
section
variable {X : Cx} {B0 F : Hp} {M : Cs} {ρ κ : List Sl} {P : Sl → Cs → Prop} {o e : Expr} {apos cpos p pos : Pos} {K : Fg}
theorem mapErase {α β : Type} (f : α → β) : ∀ (l : List α) (j : Nat), (l.eraseIdx j).map f = (l.map f).eraseIdx j
  | [], _ => rfl
  | _ :: _, 0 => rfl
  | x :: l, j + 1 => by
    show f x :: (l.eraseIdx j).map f = f x :: (l.map f).eraseIdx j
    rw [mapErase f l j]
/-- d.get(k) -/
theorem de_dgetM (hu : X.A.units + 1 < cLine) (h : DE X B0 F M ρ κ o fun r1 M1 => ∃ a es0, r1 = .v (.ref a) ∧ (a, .dic es0) ∈ M1 ∧ DE X B0 F M1 ρ (r1 :: κ) e fun r2 M2 => ∃ es ky, (a, .dic es) ∈ M2 ∧ KeyIs r2 ky ∧ P (.d ((valD es ky).getD .none)) M2)
    (m : M1 X o "get" apos e cpos := by exact ⟨rfl, rfl, rfl, rfl⟩) : DE X B0 F M ρ κ (.Call (.Attribute o "get" apos) [e] [] cpos) P := fun σ vs H Q g q => by
  refine tOf_of (pe_dget1 hu pe_self pe_self m) (h σ vs H _ g fun x H1 r1 M1 g1 h1 => ?_)
  obtain ⟨a, es0, rfl, hm, h1⟩ := h1
  have ev := g1.ref
  subst ev
  refine ⟨a, rfl, ?_, h1 σ (.ref a :: vs) H1 _ g1 fun y H2 r2 M2 g2 h2 => ?_⟩
  · obtain ⟨B, g1⟩ := g1
    obtain ⟨kvs, ho, _⟩ := dic_at g1 hm
    exact .inl ⟨kvs, .inl ho⟩
  · obtain ⟨es, ky, hm2, hk, hp⟩ := h2
    have ey := hk.v g2
    obtain ⟨B, g2⟩ := g2
    obtain ⟨kvs, ho, he⟩ := dic_at g2 hm2
    refine ⟨valV kvs ky, .inl ⟨kvs, ky, .inl ho, ey, rfl⟩, q _ H2 _ M2 ⟨B, g2.pop.pop.pushD ?_⟩ hp⟩
    obtain ⟨i1, i2⟩ := ents_val (ky := ky) he
    cases c : valD es ky with
    | none => rw [i2 c]; exact .non
    | some d =>
      obtain ⟨v, hv, hr⟩ := i1 d c
      rw [hv]
      exact hr
/-- d.update([(k, v), ..]) -/
theorem de_dupd (n : Nat) (h : DE X B0 F M ρ κ o fun r1 M1 => ∃ a es0, r1 = .v (.ref a) ∧ (a, .dic es0) ∈ M1 ∧ DE X B0 F M1 ρ (r1 :: κ) e fun r2 M2 => ∃ es more, M2[n]? = some (a, .dic es) ∧ SeqLs M2 r2 (more.map fun kv : Key × PyData => .tuple [keyData kv.1, kv.2]) ∧ es.length + more.length ≤ 100000 ∧ P (.d .none) (M2.set n (a, .dic (mergeD es more))))
    (hc : X.calm = true := by rfl) (m : M1 X o "update" apos e cpos := by exact ⟨rfl, rfl, rfl, rfl⟩) : DE X B0 F M ρ κ (.Call (.Attribute o "update" apos) [e] [] cpos) P := fun σ vs H Q g q => by
  refine tOf_of (pe_dupd hc pe_self pe_self m) (h σ vs H _ g fun x H1 r1 M1 g1 h1 => ?_)
  obtain ⟨a, es0, rfl, hm, h1⟩ := h1
  have ev := g1.ref
  subst ev
  refine ⟨a, rfl, ?_, h1 σ (.ref a :: vs) H1 _ g1 fun y H2 r2 M2 g2 h2 => ?_⟩
  · obtain ⟨B, g1⟩ := g1
    obtain ⟨kvs, ho, _⟩ := dic_at g1 hm
    exact .inl ⟨kvs, .inl ho⟩
  · obtain ⟨es, more, hn, hq, hz, hp⟩ := h2
    obtain ⟨B, g2⟩ := g2
    obtain ⟨kvs, ho, he⟩ := dic_at g2 (List.mem_of_getElem? hn)
    obtain ⟨b, xs, rfl, h3, h4⟩ := hq.at g2 g2.fst
    have conv : ∀ {xs : List V} {more : List (Key × PyData)}, RpA X.K B xs (more.map fun kv : Key × PyData => .tuple [keyData kv.1, kv.2]) → ∃ (ps : List Addr) (mv : List (Key × V)), xs = ps.map V.ref ∧ Paired (fun p kv => SqT X.K H2 p [kV kv.1, kv.2]) ps mv ∧ EntsOk X.K B mv more := by
      intro xs more
      induction more generalizing xs with
      | nil => intro h; cases h; exact ⟨[], [], rfl, .nil, .nil⟩
      | cons kv more ih =>
        intro h
        cases h with
        | cons j1 j2 =>
          obtain ⟨ps, mv, rfl, k1, k2⟩ := ih j2
          obtain ⟨t, ys, rfl, l1, l2⟩ := Rp.tup_inv j1
          cases l2 with
          | cons m1 m2 =>
            cases m2 with
            | cons m2 m3 =>
              cases m3
              have e1 := key_v m1
              subst e1
              exact ⟨t :: ps, (kv.1, _) :: mv, rfl, .cons (same_t g2.bh l1) k1, .cons ⟨rfl, m2⟩ k2⟩
    obtain ⟨ps, mv, rfl, k1, k2⟩ := conv h4
    have l1 := Paired.length he
    have l2 := Paired.length k2
    refine ⟨kvs, b, ps, mv, ho, rfl, h3, k1, by omega, q _ _ _ _ ⟨B, (g2.pop.pop.write (c' := .dic (mergeD es more)) hn ⟨_, rfl, ents_merge k2 he⟩).pushD .non⟩ hp⟩
/-- xs.remove(i) -/
theorem de_remove (n : Nat) (h : DE X B0 F M ρ κ o fun r1 M1 => ∃ a ds', r1 = .v (.ref a) ∧ (a, MC.lst ds') ∈ M1 ∧ DE X B0 F M1 ρ (r1 :: κ) e fun r2 M2 => ∃ (ns : List Nat) (i : Nat), r2 = .d (.int (i : Nat)) ∧ M2[n]? = some (a, .lst (natL ns)) ∧ i ∈ ns ∧ P (.d .none) (M2.set n (a, .lst (natL (ns.erase i)))))
    (hbase : attributeBase o "remove" X.env (eval o X.env) = eval o X.env := by rfl)
    (hfew : ((backTo cpos (starEach (e :: []) X.env)).all (fun x => !x.1) && (backToKw cpos (keywordEach [] X.env)).all (fun x => x.1.isSome)
      && decide ((e :: ([] : List Expr)).length + ([] : List Keyword).length + (if ([] : List Keyword).isEmpty then 0 else 1) < 30)) = true := by rfl)
    (hline : (apos.endLine == cpos.line) = true := by rfl) (hs : starEach (e :: []) X.env = (false, eval e X.env) :: starEach [] X.env := by rfl) (hplain : (backTo cpos (starEach [] X.env)).any (·.1) = false := by rfl) :
    DE X B0 F M ρ κ (.Call (.Attribute o "remove" apos) [e] [] cpos) P := fun σ vs H Q g q => by
  refine tOf_of (pe_bm PySem.F.plainAttrs_list PySem.F.slot_list_remove PySem.F.type_list_remove (X := X) mt_remove pe_self (pa_cons pe_self pa_nil hs) hbase hfew hline hs hplain) ?_
  refine h σ vs H _ g fun x H1 r1 M1 g1 h1 => ?_
  obtain ⟨a, ds', rfl, hm, h1⟩ := h1
  have e := g1.ref
  subst e
  refine ⟨?_, h1 σ (.ref a :: vs) H1 _ g1 fun y H2 r2 M2 g2 h2 => ?_⟩
  · obtain ⟨B, g1⟩ := g1
    obtain ⟨_, _, u, ho, ws, rfl, hw⟩ := g1.cells _ hm
    exact .inl ⟨rfl, ws, SqL.of ho⟩
  · obtain ⟨ns, i, rfl, hn, hi, hp⟩ := h2
    have e := g2.int
    subst e
    obtain ⟨B, g2⟩ := g2
    obtain ⟨ws, ho, hw⟩ := cell_at g2 hn
    have hw2 : ws = (ns.map fun i : Nat => (i : Int)).map V.int := by
      rw [natL_iL] at hw
      exact hw.ints
    subst hw2
    have hlt := List.idxOf_lt_length_of_mem hi
    have hget : ns[ns.idxOf i]? = some i := by rw [List.getElem?_eq_getElem hlt, List.getElem_idxOf]
    refine ⟨a, ns.map fun i : Nat => (i : Int), (i : Int), ns.idxOf i, rfl, rfl, ho, by rw [List.getElem?_map, hget]; rfl, fun m hm z => ?_, q _ _ _ _ ⟨B, (g2.pop.pop.write (c' := .lst (natL (ns.erase i))) hn ⟨_, rfl, ?_⟩).pushD .non⟩ hp⟩
    · rw [List.getElem?_map] at z
      obtain ⟨y, hy, e⟩ := Option.map_eq_some_iff.mp z
      have e : y = i := by omega
      subst e
      have hml := (List.getElem?_eq_some_iff.mp hy)
      obtain ⟨hml, hy⟩ := hml
      have := List.not_of_lt_findIdx (p := fun x => x == y) (show m < ns.findIdx (fun x => x == y) from hm)
      rw [hy] at this
      simp at this
    · rw [List.erase_eq_eraseIdx_of_idxOf (i := ns.idxOf i) rfl, natL_iL, mapErase (fun i : Nat => (i : Int)) ns]
      exact RpA.of_ints
/-- str(i) -/
theorem de_strI (gm : X.mg "str" = none) (h : DE X B0 F M ρ κ e fun r M1 => ∃ i : Int, r = .d (.int i) ∧ i.natAbs.log2 < 1920 ∧ P (.d (.str (toString i))) M1) (hg : Gl X "str" := by rfl) (hs : starEach [e] X.env = (false, eval e X.env) :: starEach [] X.env := by rfl) : DE X B0 F M ρ κ (.Call (.Name "str" p) [e] [] pos) P :=
  de_callTy call_str_int gm bt_str (da_cons (fun σ vs H Q g q => h σ vs H Q g fun v H' r M' g' ⟨i, h0, h1, h2⟩ => by
    subst h0
    refine q v H' _ M' g' (da_nil fun σ vs H xs Q hl g qq => ?_)
    obtain ⟨x, rfl⟩ := one_arg hl rfl
    have e := (show Good X.K B0 F M' ρ (.d (.int i) :: κ) σ (x :: vs) H from g).int
    subst e
    obtain ⟨B, g⟩ := g
    exact ⟨i, rfl, h1, qq _ _ _ _ ⟨B, g.pop.pushD (.str _)⟩ h2⟩) hs) hg (he := hs)
theorem rp_ints {H : Hp} {v : V} {ns : List Int} (h : Rp K H v (.tuple (iL ns))) : ∃ a, v = .ref a ∧ SqT K H a (ns.map V.int) := by
  obtain ⟨a, xs, rfl, h1, h2⟩ := Rp.tup_inv h
  have := h2.ints
  subst this
  exact ⟨a, rfl, h1⟩
/-- tuples of ints, < -/
theorem r2_ltT {ns ms : List Int} (h : P (.d (.bool (HT.lexLt ns ms))) M) : R2D K B0 F ρ κ (rLtT K) (.d (.tuple (iL ns))) (.d (.tuple (iL ms))) M P := fun σ vs H x y Q g qq => by
  obtain ⟨B, g⟩ := g
  cases g.st with
  | cons h1 h2 =>
    cases h2 with
    | cons h2 h3 =>
      obtain ⟨b, rfl, hb⟩ := rp_ints (show Rp K B y _ from h1)
      obtain ⟨a, rfl, ha⟩ := rp_ints (show Rp K B x _ from h2)
      exact ⟨a, b, ns, ms, rfl, rfl, same_t g.bh ha, same_t g.bh hb, qq _ _ _ _ ⟨B, (g.stk h3).pushD (.bl _)⟩ h⟩
end
end DL
set_option maxHeartbeats 4000000
namespace DLV
open PySem PySem.Spec PyProof.Rows L2
section
variable {X : Cx}
def rSumT (K : PySem.W.Frag) : List V → Hp → VK → Prop := fun vs H Q => ∃ (a : Addr) (ns : List Int), vs = [V.ref a] ∧ SqT K H a (ns.map V.int) ∧ Q (.int ns.sum) H
/-- sum(t), t a tuple of ints -/
theorem cr_sumT (hc : X.calm = true) : CallR X (.builtin "sum") (rSumT X.K) := by
  intro pins s σ H vs us Q I r h
  obtain ⟨a, ns, rfl, hs, q⟩ := h
  obtain ⟨its, rv, hl, _⟩ := I.tuple hs
  rw [Vals.ref1 r]
  have hi : IntsAre its ns := rv.ints
  obtain ⟨xs, hx⟩ := hi.allInts.items
  have hn : numsOf its.toArray.toList = ns := by rw [show its.toArray.toList = its from rfl, hi.numsOf]
  have hl2 : s.heap.IsTuple a its.toArray := hl
  rw [hx] at hl2 hn
  rw [nums_intItems] at hn
  refine PySem.W.ktm_sumG (I.ok.hd hc) hl2 fun h' tk t' hk => ?_
  rw [preSum_eq, List.take_of_length_le (by simp), hn]
  exact ⟨.int _, H, I.kept hk, ⟨_, rfl⟩, q⟩
end
end DLV
namespace DL
open PySem PySem.Spec PyProof.Rows L2
section
variable {X : Cx} {K : Fg} {B0 F : Hp} {M : Cs} {ρ κ : List Sl} {P : Sl → Cs → Prop} {e o st : Expr} {p p2 pos apos cpos : Pos}
/-- t[::-1] -/
theorem de_revT (h : DE X B0 F M ρ κ e fun r1 M1 => ∃ ds, r1 = .d (.tuple ds) ∧ DO X B0 F M1 ρ (r1 :: κ) (some st) fun i M2 => i = some (-1) ∧ P (.d (.tuple ds.reverse)) M2) : DE X B0 F M ρ κ (.Subscript e (.Slice none none (some st) p2) pos) P := fun σ vs H Q g q =>
  tOf_of (DLV.pe_revT pe_self po_self) (h σ vs H _ g fun x H1 r1 M1 g1 h1 => by
    obtain ⟨ds, rfl, h1⟩ := h1
    refine h1 σ (x :: vs) H1 _ g1 fun i H2 M2 g2 h2 => ?_
    obtain ⟨rfl, hp⟩ := h2
    obtain ⟨B, g2⟩ := g2
    obtain ⟨a, va, rfl, ha, ra⟩ := Rp.tup_inv g2.fst
    refine ⟨rfl, a, va, rfl, same_t g2.bh ha, fun p hp' => ?_⟩
    have bp : B p = none := g2.bh.free hp'
    have rr : RpA X.K B va.reverse ds.reverse := by
      have : ∀ {vs : List V} {ds : List PyData}, RpA X.K B vs ds → RpA X.K B vs.reverse ds.reverse := by
        intro vs ds h
        induction vs generalizing ds with
        | nil => cases h; exact .nil
        | cons v vs ih =>
          cases h with
          | cons h1 h2 =>
            rw [List.reverse_cons, List.reverse_cons]
            exact (ih h2).app (.cons h1 .nil)
      exact this ra
    exact q _ _ _ M2 ⟨_, (g2.pop.laid (o := .tup va.reverse) hp').pushD (.tup (SqT.of upd_same) (rr.ext fun b u z => by rw [upd_ne (ne_of_none z bp)]; exact z))⟩ hp)
theorem rn_sumT {ns : List Int} (h : P (.d (.int ns.sum)) M) : RnD K B0 F ρ κ (DLV.rSumT K) [.d (.tuple (ns.map .int))] M P := fun σ vs H xs Q hl g qq => by
  obtain ⟨x, rfl⟩ := one_arg hl rfl
  obtain ⟨B, g⟩ := g
  obtain ⟨a, va, rfl, ha, ra⟩ := Rp.tup_inv g.fst
  have e := ra.ints
  subst e
  exact ⟨a, ns, rfl, same_t g.bh ha, qq _ H _ M ⟨B, g.pop.pushD (.int _)⟩ h⟩
theorem de_sumT (gm : X.mg "sum" = none) (h : DE X B0 F M ρ κ e fun r M1 => ∃ ns : List Int, r = .d (.tuple (ns.map PyData.int)) ∧ P (.d (.int ns.sum)) M1) (hc : X.calm = true := by rfl) (hg : Gl X "sum" := by rfl) (hs : starEach [e] X.env = (false, eval e X.env) :: starEach [] X.env := by rfl) : DE X B0 F M ρ κ (.Call (.Name "sum" p) [e] [] pos) P :=
  de_callB (DLV.cr_sumT hc) gm bt_sum (da_cons (fun σ vs H Q g q => h σ vs H Q g fun v H' r M' g' ⟨ds, hq, hp⟩ => q v H' r M' g' (hq ▸ da_nil (rn_sumT hp))) hs) hg (he := hs)
/-- the greatest, the least of a list of ints -/
theorem rn_maxL {s : Sl} {ns : List Int} (q : SeqLs M s (ns.map PyData.int)) (hn : 0 < ns.length) (h : ∀ m, m ∈ ns → (∀ y ∈ ns, y ≤ m) → P (.d (.int m)) M) : RnD K B0 F ρ κ (rMax K) [s] M P := fun σ vs H xs Q hl g qq => by
  obtain ⟨x, rfl⟩ := one_arg hl rfl
  obtain ⟨B, g⟩ := g
  obtain ⟨a, ys, rfl, h1, h2⟩ := q.at g g.fst
  have e := h2.ints
  subst e
  exact ⟨a, ns, rfl, h1, hn, fun m h3 h4 => qq _ H _ M ⟨B, g.pop.pushD (.int _)⟩ (h m h3 h4)⟩
theorem rn_minL {s : Sl} {ns : List Int} (q : SeqLs M s (ns.map PyData.int)) (hn : 0 < ns.length) (h : ∀ m, m ∈ ns → (∀ y ∈ ns, m ≤ y) → P (.d (.int m)) M) : RnD K B0 F ρ κ (rMin K) [s] M P := fun σ vs H xs Q hl g qq => by
  obtain ⟨x, rfl⟩ := one_arg hl rfl
  obtain ⟨B, g⟩ := g
  obtain ⟨a, ys, rfl, h1, h2⟩ := q.at g g.fst
  have e := h2.ints
  subst e
  exact ⟨a, ns, rfl, h1, hn, fun m h3 h4 => qq _ H _ M ⟨B, g.pop.pushD (.int _)⟩ (h m h3 h4)⟩
theorem de_maxL (gm : X.mg "max" = none) (h : DE X B0 F M ρ κ e fun r M1 => ∃ ns : List Int, SeqLs M1 r (ns.map PyData.int) ∧ 0 < ns.length ∧ ∀ m, m ∈ ns → (∀ y ∈ ns, y ≤ m) → P (.d (.int m)) M1) (hc : X.calm = true := by rfl) (hg : Gl X "max" := by rfl) (hs : starEach [e] X.env = (false, eval e X.env) :: starEach [] X.env := by rfl) : DE X B0 F M ρ κ (.Call (.Name "max" p) [e] [] pos) P :=
  de_callB (cr_max hc) gm bt_max (da_cons (fun σ vs H Q g q => h σ vs H Q g fun v H' r M' g' ⟨ds, hq, hn, hp⟩ => q v H' r M' g' (da_nil (rn_maxL hq hn hp))) hs) hg (he := hs)
theorem de_minL (gm : X.mg "min" = none) (h : DE X B0 F M ρ κ e fun r M1 => ∃ ns : List Int, SeqLs M1 r (ns.map PyData.int) ∧ 0 < ns.length ∧ ∀ m, m ∈ ns → (∀ y ∈ ns, m ≤ y) → P (.d (.int m)) M1) (hc : X.calm = true := by rfl) (hg : Gl X "min" := by rfl) (hs : starEach [e] X.env = (false, eval e X.env) :: starEach [] X.env := by rfl) : DE X B0 F M ρ κ (.Call (.Name "min" p) [e] [] pos) P :=
  de_callB (cr_min hc) gm bt_min (da_cons (fun σ vs H Q g q => h σ vs H Q g fun v H' r M' g' ⟨ds, hq, hn, hp⟩ => q v H' r M' g' (da_nil (rn_minL hq hn hp))) hs) hg (he := hs)
end
end DL
namespace DL
open PySem PySem.Spec PyProof.Rows L2
theorem allF {M : Cs} {D : Addr} {ds : List PyData} {g : PyData → Bool} : SeqLs ((D, .lst (ds.map fun d => .bool (g d))) :: M) (.v (.ref D)) ((ds.map g).map PyData.bool) := by
  rw [List.map_map]
  exact .cell List.mem_cons_self
theorem all_id {ds : List PyData} {g : PyData → Bool} : (ds.map g).all id = ds.all g := by rw [List.all_map]; rfl
theorem any_id {ds : List PyData} {g : PyData → Bool} : (ds.map g).any id = ds.any g := by rw [List.any_map]; rfl
theorem all_nat {S : List Nat} {g : PyData → Bool} {t : Nat → Bool} (h : ∀ q ∈ S, g (.int (q : Nat)) = t q) : (natL S).all g = S.all t := by
  unfold natL
  rw [List.all_map]
  induction S with
  | nil => rfl
  | cons x S ih =>
    rw [List.all_cons, List.all_cons, ih fun q hq => h q (List.mem_cons_of_mem _ hq)]
    show (g (.int (x : Nat)) && _) = _
    rw [h x List.mem_cons_self]
theorem any_nat {S : List Nat} {g : PyData → Bool} {t : Nat → Bool} (h : ∀ q ∈ S, g (.int (q : Nat)) = t q) : (natL S).any g = S.any t := by
  unfold natL
  rw [List.any_map]
  induction S with
  | nil => rfl
  | cons x S ih =>
    rw [List.any_cons, List.any_cons, ih fun q hq => h q (List.mem_cons_of_mem _ hq)]
    show (g (.int (x : Nat)) || _) = _
    rw [h x List.mem_cons_self]
end DL
set_option maxHeartbeats 1000000
/-! a pair in a row of pairs (list, cell or tuple); any data in a tuple -/
namespace DL
open PySem PySem.Spec PyProof.Rows L2
def rInT2 (K : PySem.W.Frag) (neg : Bool) : R2 := fun x y H Q => ∃ d ds, Dp K H x d ∧ Dp K H y (.tuple ds) ∧ SeqAt.shaped d = true ∧ SeqAt.shaped (.tuple ds) = true ∧ Q (.bl (if neg then !ds.any fun z => PyData.eqv z d else ds.any fun z => PyData.eqv z d)) H
section
variable {X : Cx}
theorem op_inT2 (hu : X.A.units + 64 < cLine) : OpR X (compareOp .In) (rInT2 X.K false) := by
  intro pins s σ H x y v u Q I rx ry h
  obtain ⟨d, ds, hd, he, sd, se, q⟩ := h
  obtain ⟨as, r1⟩ := Dp.reads I d x v hd rx
  obtain ⟨bs, r2⟩ := Dp.reads I (.tuple ds) y u he ry
  refine SeqAt.in_tuple_reads r2 r1 (SeqAt.canLay_of_shaped se) (SeqAt.canLay_of_shaped sd) ?_ ⟨.bl _, H, I, rfl, q⟩
  unfold SeqAt.shaped at sd se
  simp only [Bool.and_eq_true, decide_eq_true_iff] at sd se
  have : min (PyData.depthAll ds) d.depth ≤ 63 := by
    have h1 := se.2
    rw [PyData.depth] at h1
    omega
  omega
theorem op_notInT2 (hu : X.A.units + 64 < cLine) : OpR X (compareOp .NotIn) (rInT2 X.K true) := by
  intro pins s σ H x y v u Q I rx ry h
  obtain ⟨d, ds, hd, he, sd, se, q⟩ := h
  obtain ⟨as, r1⟩ := Dp.reads I d x v hd rx
  obtain ⟨bs, r2⟩ := Dp.reads I (.tuple ds) y u he ry
  refine SeqAt.notIn_tuple_reads r2 r1 (SeqAt.canLay_of_shaped se) (SeqAt.canLay_of_shaped sd) ?_ ⟨.bl _, H, I, rfl, q⟩
  unfold SeqAt.shaped at sd se
  simp only [Bool.and_eq_true, decide_eq_true_iff] at sd se
  have : min (PyData.depthAll ds) d.depth ≤ 63 := by
    have h1 := se.2
    rw [PyData.depth] at h1
    omega
  omega
end
theorem eqv_ep (e f : Nat × Nat) : PyData.eqv (epD e) (epD f) = decide (e = f) := by
  unfold epD
  rw [PyData.eqv, PyData.eqvAll, PyData.eqvAll, PyData.eqvAll, PyData.eqv, PyData.eqv, Bool.eq_iff_iff]
  simp only [Bool.and_eq_true, beq_iff_eq, decide_eq_true_iff, Bool.and_true]
  constructor
  · rintro ⟨h1, h2⟩
    exact Prod.ext (by omega) (by omega)
  · rintro rfl
    exact ⟨rfl, rfl⟩
theorem any_ep (S : Eds) (e : Nat × Nat) : ((S.map epD).any fun z => PyData.eqv z (epD e)) = decide (e ∈ S) := by
  rw [List.any_map, Bool.eq_iff_iff, List.any_eq_true, decide_eq_true_iff]
  constructor
  · rintro ⟨x, hx, h⟩
    have h : PyData.eqv (epD x) (epD e) = true := h
    rw [eqv_ep, decide_eq_true_iff] at h
    exact h ▸ hx
  · intro h
    exact ⟨e, h, by show PyData.eqv (epD e) (epD e) = true; rw [eqv_ep]; simp⟩
theorem lay_eps : ∀ S : Eds, PyData.canLayAll0 (S.map epD) = true
  | [] => by simp [PyData.canLayAll0]
  | e :: S => by
    rw [List.map_cons, PyData.canLayAll0, lay_eps S]
    simp [epD, PyData.canLay0, PyData.canLayAll0]
theorem depth_eps : ∀ S : Eds, PyData.depthAll (S.map epD) ≤ 1
  | [] => by simp [PyData.depthAll]
  | e :: S => by
    rw [List.map_cons, PyData.depthAll]
    have := depth_eps S
    have h2 : (epD e).depth ≤ 1 := by simp [epD, PyData.depth, PyData.depthAll]
    omega
theorem shaped_ep (e : Nat × Nat) : SeqAt.shaped (epD e) = true := by simp [SeqAt.shaped, epD, PyData.canLay0, PyData.canLayAll0, PyData.depth, PyData.depthAll]
theorem shaped_lst (S : Eds) : SeqAt.shaped (.list (S.map epD)) = true := by
  have := depth_eps S
  unfold SeqAt.shaped
  rw [Bool.and_eq_true, decide_eq_true_iff]
  exact ⟨by rw [PyData.canLay0]; exact lay_eps S, by rw [PyData.depth]; omega⟩
theorem shaped_tup (S : Eds) : SeqAt.shaped (.tuple (S.map epD)) = true := by
  have := depth_eps S
  unfold SeqAt.shaped
  rw [Bool.and_eq_true, decide_eq_true_iff]
  exact ⟨by rw [PyData.canLay0]; exact lay_eps S, by rw [PyData.depth]; omega⟩
section
variable {K : Fg} {B0 F : Hp} {M : Cs} {ρ κ : List Sl} {P : Sl → Cs → Prop}
theorem r2_inPT {neg : Bool} {S : Eds} {e : Nat × Nat} (h : P (.d (.bool (if neg then !decide (e ∈ S) else decide (e ∈ S)))) M) : R2D K B0 F ρ κ (rInT2 K neg) (.d (epD e)) (.d (.tuple (S.map epD))) M P := fun σ vs H x y Q g qq => by
  obtain ⟨B, g⟩ := g
  have r : Rp K B x (epD e) := g.pop.fst
  have r2 : Rp K B y (.tuple (S.map epD)) := g.fst
  refine ⟨epD e, S.map epD, (r.ext g.bh).dp, (r2.ext g.bh).dp, shaped_ep e, shaped_tup S, qq _ H _ M ⟨B, g.pop.pop.pushD (Rp.bl _)⟩ ?_⟩
  rw [any_ep]
  exact h
theorem r2_inPL {s : Sl} {S : Eds} {e : Nat × Nat} (q : SeqLs M s (S.map epD)) (h : P (.d (.bool (decide (e ∈ S)))) M) : R2D K B0 F ρ κ (rInD K) (.d (epD e)) s M P := r2_inD q (shaped_ep e) (shaped_lst S) (by rw [any_ep]; exact h)
theorem r2_niPL {s : Sl} {S : Eds} {e : Nat × Nat} (q : SeqLs M s (S.map epD)) (h : P (.d (.bool (!decide (e ∈ S)))) M) : R2D K B0 F ρ κ (rNotInD K) (.d (epD e)) s M P := r2_niD q (shaped_ep e) (shaped_lst S) (by rw [any_ep]; exact h)
theorem _root_.PySem.units65 {k : Nat} {A : Around} (r : Room k A) : A.units + 65 < cLine := by have := r.un; omega
end
end DL
set_option maxHeartbeats 1000000
/-! a row read only: list, tuple or frozen list -/
namespace DL
open PySem PySem.Spec PyProof.Rows L2
inductive SeqK : Sl → List PyData → Prop
  | lst (ds : List PyData) : SeqK (.d (.list ds)) ds
  | tup (ds : List PyData) : SeqK (.d (.tuple ds)) ds
  | rd (ds : List PyData) : SeqK (.rd ds) ds
theorem SeqK.seq {M : Cs} {s : Sl} {ds : List PyData} (h : SeqK s ds) : Seq M s ds := by
  cases h with
  | lst => exact .lst _
  | tup => exact .tup _
  | rd => exact .rd _
theorem SeqK.un {s : Sl} {ds : List PyData} (h : SeqK s ds) : s ≠ .un := by
  cases h <;> intro z <;> cases z
section
variable {X : Cx} {B0 F : Hp} {M : Cs} {ρ κ : List Sl} {tg iter : Expr} {R : List PyData → Sl → (Cs → Prop) → Cs → Prop}
theorem DE.mono2 {e : Expr} {P P' : Sl → Cs → Prop} (h : DE X B0 F M ρ κ e P) (w : ∀ r M, P r M → P' r M) : DE X B0 F M ρ κ e P' := DE.mono h w
theorem di_seqK {s : Sl} {ds : List PyData} (hs : SeqK s ds) (h : DE X B0 F M ρ κ iter fun r M1 => r = s ∧ R ds r (fun _ => True) M1) : DI X B0 F M ρ κ tg iter R := by
  cases hs with
  | lst => exact di_list (DE.mono h fun r M1 ⟨h1, h2⟩ => ⟨ds, h1, h2⟩)
  | tup => exact di_tup (DE.mono h fun r M1 ⟨h1, h2⟩ => ⟨ds, h1, h2⟩)
  | rd => exact di_rd (DE.mono h fun r M1 ⟨h1, h2⟩ => ⟨ds, h1, h2⟩)
end
theorem du_freeze {X : Cx} {B0 F : Hp} {M : Cs} {ρ κ : List Sl} {e : Expr} {P : Sl → Cs → Prop} {u : Use} (h : DEu X B0 F M ρ κ u e fun r M1 => ∃ p xs M2, r = .v (.ref p) ∧ M1 = (p, .lst xs) :: M2 ∧ P (.d (.list xs)) M2) : DEu X B0 F M ρ κ u e P := fun σ vs H Q g q => h σ vs H Q g fun v H' r M' g' p => by
  obtain ⟨p, xs, M2, rfl, rfl, hp⟩ := p
  have e := g'.ref
  subst e
  obtain ⟨B, g'⟩ := g'
  exact q _ H' _ M2 g'.pop.freeze hp
section
variable {X : Cx} {B0 F : Hp} {M : Cs} {ρ κ : List Sl} {P : Sl → Cs → Prop} {o e : Expr} {apos cpos : Pos}
/-- xs.extend(ys) -/
theorem de_extend (n : Nat) (h : DE X B0 F M ρ κ o fun r1 M1 => ∃ a ds', r1 = .v (.ref a) ∧ (a, MC.lst ds') ∈ M1 ∧ DE X B0 F M1 ρ (r1 :: κ) e fun r2 M2 => ∃ ds ys, SeqCl M2 r2 ys ∧ M2[n]? = some (a, .lst ds) ∧ ds.length + ys.length ≤ 100000 ∧ P (.d .none) (M2.set n (a, .lst (ds ++ ys))))
    (hbase : attributeBase o "extend" X.env (eval o X.env) = eval o X.env := by rfl)
    (hfew : ((backTo cpos (starEach (e :: []) X.env)).all (fun x => !x.1) && (backToKw cpos (keywordEach [] X.env)).all (fun x => x.1.isSome)
      && decide ((e :: ([] : List Expr)).length + ([] : List Keyword).length + (if ([] : List Keyword).isEmpty then 0 else 1) < 30)) = true := by rfl)
    (hline : (apos.endLine == cpos.line) = true := by rfl) (hs : starEach (e :: []) X.env = (false, eval e X.env) :: starEach [] X.env := by rfl) (hplain : (backTo cpos (starEach [] X.env)).any (·.1) = false := by rfl) :
    DE X B0 F M ρ κ (.Call (.Attribute o "extend" apos) [e] [] cpos) P := fun σ vs H Q g q => by
  refine tOf_of (pe_bm PySem.F.plainAttrs_list PySem.F.slot_list_extend PySem.F.type_list_extend (X := X) mt_extend pe_self (pa_cons pe_self pa_nil hs) hbase hfew hline hs hplain) ?_
  refine h σ vs H _ g fun x H1 r1 M1 g1 h1 => ?_
  obtain ⟨a, ds', rfl, hm, h1⟩ := h1
  have e := g1.ref
  subst e
  refine ⟨?_, h1 σ (.ref a :: vs) H1 _ g1 fun y H2 r2 M2 g2 h2 => ?_⟩
  · obtain ⟨B, g1⟩ := g1
    obtain ⟨_, _, u, ho, ws, rfl, hw⟩ := g1.cells _ hm
    exact .inl ⟨rfl, ws, SqL.of ho⟩
  · obtain ⟨ds, ys, hq, hn, hl, hp⟩ := h2
    obtain ⟨B, g2⟩ := g2
    obtain ⟨ws, ho, hw⟩ := cell_at g2 hn
    obtain ⟨b, vs2, rfl, h3, h4⟩ := hq.at g2 g2.fst
    have hz : (100000 : Nat) ≤ sizeLine := by decide
    exact ⟨a, b, ws, vs2, rfl, rfl, ho, h3, by rw [hw.len, h4.len]; omega, q _ _ _ _ ⟨B, (g2.pop.pop.write (c' := .lst (ds ++ ys)) hn ⟨_, rfl, hw.app h4⟩).pushD .non⟩ hp⟩
end
section
variable {X : Cx} {B0 F : Hp} {M : Cs} {ρ κ : List Sl} {P : Sl → Cs → Prop} {a : Expr} {pos : Pos}
/-- not x, x a datum -/
theorem de_notD (h : DE X B0 F M ρ κ a fun r M1 => ∃ d, r = .d d ∧ (∀ x, d = .str x → x.length ≤ sizeLine) ∧ P (.d (.bool (!truD d))) M1) : DE X B0 F M ρ κ (.UnaryOp .Not a pos) P :=
  fun σ vs H Q g q => tOf_of (pe_notT pe_self) (h σ vs H _ g fun x H1 r1 M1 g1 h1 => by
    obtain ⟨d, rfl, hs, hp⟩ := h1
    obtain ⟨B, g1⟩ := g1
    exact ⟨truD d, tru_of (Rp.ext g1.bh g1.fst) hs, q _ H1 _ M1 ⟨B, g1.pop.pushD (.bl _)⟩ hp⟩)
end
end DL
set_option maxHeartbeats 1000000
/-! sorted(set) of few small ints -/
namespace DL
open PySem PySem.Spec PyProof.Rows L2
theorem nodup_le {α : Type} [DecidableEq α] : ∀ {l m : List α}, l.Nodup → (∀ x ∈ l, x ∈ m) → l.length ≤ m.length
  | [], _, _, _ => Nat.zero_le _
  | x :: l, m, h, s => by
    obtain ⟨h1, h2⟩ := List.nodup_cons.mp h
    have hx := s x List.mem_cons_self
    have := nodup_le (l := l) (m := m.erase x) h2 fun y hy => (List.mem_erase_of_ne fun e => h1 (by rw [← e]; exact hy)).mpr (s y (List.mem_cons_of_mem _ hy))
    rw [List.length_erase_of_mem hx] at this
    have : 0 < m.length := List.length_pos_of_mem hx
    rw [List.length_cons]
    omega
def rSortedSetB (w : World) : List V → Hp → VK → Prop := fun vs H Q => ∃ (a : Addr) (S : Int → Bool) (n : Nat), vs = [V.ref a] ∧ H a = some (SetO w a S n) ∧ (∀ k, S k = true → 0 ≤ k ∧ k < 60) ∧
  ∀ (ns : List Int) (p : Addr), ns.Pairwise (· < ·) → (∀ k : Int, k ∈ ns ↔ S k = true) → ns.length = n → H p = none → Q (.ref p) (upd H p (.lst (ns.map V.int)))
section
variable {X : Cx}
theorem cr_sortedSetB (hc : X.calm = true) : CallR X (.builtin "sorted") (rSortedSetB X.w) := by
  intro pins s σ H vs us Q I r h
  obtain ⟨a, S, n, rfl, ha, hS, q⟩ := h
  have hn : n < 64 := by
    obtain ⟨o, es, ep, t, h1, h2, h3, h4, h5, h6, h7, h8, h9, _⟩ := setO_get I ha
    have h10 := nodup_le (l := es.toList.map keyOf) (m := (List.range 60).map fun i : Nat => (i : Int)) h5 fun x hx => by
      have h11 := hS x ((h6 x).mpr hx)
      exact List.mem_map.mpr ⟨x.toNat, List.mem_range.mpr (by omega), by omega⟩
    rw [List.length_map, List.length_map, List.length_range, Array.length_toList] at h10
    omega
  exact cr_sortedSet hc pins s σ H [V.ref a] us Q I r ⟨a, S, n, rfl, ha, hn, q⟩
end
section
variable {X : Cx} {K : Fg} {B0 F : Hp} {M : Cs} {ρ κ : List Sl} {P : Sl → Cs → Prop} {e : Expr} {pos p p2 pos2 : Pos}
theorem rn_sortedSetB {w : World} {a : Addr} {S : Int → Bool} {n : Nat} (hm : (a, .raw (SetO w a S n)) ∈ M) (hn : ∀ k, S k = true → 0 ≤ k ∧ k < 60) (h : ∀ ns : List Int, ns.Pairwise (· < ·) → (∀ k : Int, k ∈ ns ↔ S k = true) → ∀ l, P (.v (.ref l)) ((l, .lst (ns.map .int)) :: M)) : RnD K B0 F ρ κ (rSortedSetB w) [.v (.ref a)] M P := fun σ vs H xs Q hl g qq => by
  obtain ⟨x, rfl⟩ := one_arg hl rfl
  have e := Good.ref g
  subst e
  obtain ⟨B, g⟩ := g
  exact ⟨a, S, n, rfl, raw_at g hm, hn, fun ns p h1 h2 _ hp => qq _ _ _ _ (cell_new g.pop hp RpA.of_ints) (h ns h1 h2 p)⟩
/-- sorted(set(natL S)), all below 60 -/
theorem de_sortedSetN (gs : X.mg "sorted" = none) (gm : X.mg "set" = none) (h : DE X B0 F M ρ κ e fun r M1 => ∃ S : List Nat, Seq M1 r (natL S) ∧ S.length ≤ 1000 ∧ (∀ x ∈ S, x < 60) ∧ ∀ T : List Nat, T.Pairwise (· < ·) → (∀ x, x ∈ T ↔ x ∈ S) → ∀ a o l, P (.v (.ref l)) ((l, .lst (natL T)) :: (a, .raw o) :: M1))
    (hc : X.calm = true := by rfl) (hg : Gl X "sorted" := by rfl) (hg2 : Gl X "set" := by rfl) (hs : starEach [.Call (.Name "set" p2) [e] [] pos2] X.env = (false, eval (.Call (.Name "set" p2) [e] [] pos2) X.env) :: starEach [] X.env := by rfl) (hs2 : starEach [e] X.env = (false, eval e X.env) :: starEach [] X.env := by rfl) : DE X B0 F M ρ κ (.Call (.Name "sorted" p) [.Call (.Name "set" p2) [e] [] pos2] [] pos) P := by
  refine de_callB (cr_sortedSetB hc) gs bt_sorted (da_cons (de_callTy (cr_setI hc) gm bt_set (da_cons (fun σ vs H Q g q => h σ vs H Q g fun v H' r M' g' ⟨S, h1, h2, h3, h4⟩ => q v H' r M' g' (da_nil (rn_setI (seq_nat h1) (by rw [List.length_map]; exact h2) fun a n hn => ?_))) hs2) hg2 (he := hs2)) hs) hg (he := hs)
  refine da_nil (rn_sortedSetB List.mem_cons_self (fun k hk => ?_) fun ns p1 p2 l => ?_)
  · obtain ⟨x, hx, rfl⟩ := List.mem_map.mp (of_decide_eq_true hk)
    have := h3 x hx
    omega
  · have hns : ns = (ns.map Int.toNat).map fun i : Nat => (i : Int) := by
      rw [List.map_map]
      refine (List.map_id _).symm.trans (List.map_congr_left fun x hx => ?_)
      obtain ⟨y, hy, e⟩ := List.mem_map.mp (of_decide_eq_true ((p2 x).mp hx))
      show x = ((x.toNat : Nat) : Int)
      omega
    have hmem : ∀ x : Nat, x ∈ ns.map Int.toNat ↔ x ∈ S := fun x => by
      constructor
      · intro hx
        obtain ⟨y, hy, rfl⟩ := List.mem_map.mp hx
        obtain ⟨z, hz, rfl⟩ := List.mem_map.mp (of_decide_eq_true ((p2 y).mp hy))
        exact hz
      · intro hx
        exact List.mem_map.mpr ⟨(x : Int), (p2 x).mpr (decide_eq_true (List.mem_map.mpr ⟨x, hx, rfl⟩)), Int.toNat_natCast x⟩
    have hp : (ns.map Int.toNat).Pairwise (· < ·) := by
      rw [hns] at p1
      exact (List.pairwise_map.mp p1).imp fun h => by omega
    have e : natL (ns.map Int.toNat) = ns.map PyData.int := by
      rw [natL_iL]
      conv => rhs; rw [hns]
    exact e ▸ h4 _ hp hmem a _ l
end
end DL
set_option maxHeartbeats 0
namespace H72
open PySem PySem.Spec PyProof.Rows
def top (i : Nat) : Stmt := PySem.Challenge.pw_cantmove_k72_whole_parks_taken_apart.main.body.getD i (.Pass ⟨0, 0, 0, 0⟩)
abbrev s_is_number : Stmt := top 1
abbrev s_is_ascending : Stmt := top 2
abbrev s_is_way : Stmt := top 5
abbrev s_is_park : Stmt := top 6
abbrev s_near : Stmt := top 7
abbrev s_steps_from : Stmt := top 8
abbrev s_is_corner : Stmt := top 9
abbrev s_corners : Stmt := top 10
abbrev s_take_apart : Stmt := top 11
abbrev s_left_behind : Stmt := top 12
abbrev s_is_apart : Stmt := top 13
abbrev s_is_stuck : Stmt := top 14
abbrev s__law_flat : Stmt := top 16
abbrev s__law_box : Stmt := top 17
abbrev s__law_load : Stmt := top 18
abbrev s__law_draw : Stmt := top 19
abbrev s__law_same : Stmt := top 20
abbrev s__law_bent : Stmt := top 21
abbrev s__law_park : Stmt := top 22
abbrev s__law_near : Stmt := top 23
abbrev s__law_is_corner : Stmt := top 24
abbrev s__law_corners : Stmt := top 25
abbrev s__law_left : Stmt := top 26
abbrev s__law_apart : Stmt := top 27
abbrev s__law_is_park : Stmt := top 28
abbrev s__law_wins : Stmt := top 29
abbrev s__law_far : Stmt := top 30
abbrev s__law_fine : Stmt := top 31
abbrev s_law : Stmt := top 32
end H72
set_option maxHeartbeats 4000000
namespace H72
open PySem PySem.Spec PyProof.Rows L2 DL
/-! ### _law_same of equal data -/
def SameOk : Nat → PyData → Prop
  | _, .none => True
  | _, .bool _ => True
  | _, .int _ => True
  | _, .str _ => True
  | m + 1, .tuple ds => ds.length ≤ 100000 ∧ ∀ d ∈ ds, SameOk m d
  | m + 1, .list ds => ds.length ≤ 100000 ∧ ∀ d ∈ ds, SameOk m d
  | _, _ => False
abbrev R_same (m : Nat) := Pu (fun d : PyData => [.d d, .d d]) (SameOk m) (fun _ => .bool true)
section
variable {P : Program} {w : World} {K : PySem.W.Frag} {mg : Str → Option Value} {base : Heap} {f : Addr} {fd : FuncData}
theorem sc_same : FnScope ["a", "b", "k"] ["a", "b"] (defScope s__law_same) := ⟨rfl, rfl, rfl, by decide +kernel, rfl, by decide +kernel, by decide +kernel⟩
theorem ok_same1 {k m : Nat} (Fn : FnP K "_law_same" s__law_same f fd) (G : ∀ m', m = m' + 1 → Go P w K mg base "_law_same" k ["a", "b"] (R_same m')) (g_is : mg "isinstance" = none) (g_tu : mg "tuple" = none) (g_li : mg "list" = none) (g_bo : mg "bool" = none) (g_in : mg "int" = none) (g_st : mg "str" = none) (g_le : mg "len" = none) (g_al : mg "all" = none) (g_ra : mg "range" = none) : FnOk P w K mg base CX0 (k + 1) f fd ["a", "b"] (SpG K (R_same m)) := by
  refine fn_okD Fn sc_same (fun κ M W h => ?_) fun cdv A outer s H E hr nd B0 F0 κ M W hR => ?_
  · obtain ⟨ns, rfl, _⟩ := h
    rfl
  · obtain ⟨d, hκ, hd, hW⟩ := hR
    have hκ : κ = [.d d, .d d] := hκ
    subst hκ
    have hW : ∀ M', W (.d (.bool true)) M' := hW
    have row : ∀ (ds : List PyData), (∀ M, Seq M (.d d) ds) → (ds.length ≤ 100000 ∧ ∃ m', m = m' + 1 ∧ ∀ y ∈ ds, SameOk m' y) → ∀ kk : KK, kk.rt = W → DB (cxOf CX0 P w K mg base ["a", "b", "k"] "_law_same" (defScope s__law_same) f cdv A outer s H E).nox B0 F0 M [.d d, .d d, .un] [] ((match defBody s__law_same with | .If _ b _ _ :: _ => b | _ => [])) kk := fun ds q ⟨hl, m', hm, hy⟩ kk hkk => by
      subst hkk
      have hl' : -(2 ^ 62) ≤ (ds.length : Int) ∧ (ds.length : Int) < 2 ^ 62 := by omega
      refine db_cons <| ds_ret <| de_and <| de_cmp op_eq <| de_len g_le <| nm 0 rfl ⟨ds, q _, de_len g_le <| nm 1 rfl ⟨ds, q _, r2_eqI ⟨_, rfl, waysT (decide_eq_true rfl) ?_⟩⟩⟩
      refine de_one <| de_all g_al <| de_lcF 2 (fun _ => .bool true) <| di_range1 g_ra <| da_cons <| de_len g_le <| nm 0 rfl ⟨ds, q _, da_nil ⟨_, rfl, hl'.1, hl'.2, ?_, fun _ _ _ => trivial, ?_, fun D => ⟨List.replicate ds.length true, ?_, ?_⟩⟩⟩
      · rw [rngD_len]; omega
      · intro y D acc hy' b
        obtain ⟨i, hi, rfl⟩ := rngD_mem hy'
        have hi : i < ds.length := by omega
        have e : atI ds (0 + (i : Int)) = some ds[i] := atI_at (by omega) (by rw [show ((0 : Int) + (i : Int)).toNat = i by omega]; exact List.getElem?_eq_getElem hi)
        exact de_pu (G m' hm) hr <| da_cons <| de_ix ix_seq <| nm 0 rfl <| nm 2 rfl <| r2_ix (q _) e <| da_cons <| de_ix ix_seq <| nm 1 rfl <| nm 2 rfl <| r2_ix (q _) e <| da_nil <| da_pu ds[i] rfl (hy _ (List.getElem_mem hi)) ⟨rfl, rfl⟩
      · rw [show ((rngD 0 ((ds.length : Nat) : Int).toNat).map fun _ => PyData.bool true) = (List.replicate ds.length true).map PyData.bool by
          rw [List.map_const', rngD_len, List.map_replicate, Int.toNat_natCast]]
        exact .cell List.mem_cons_self
      · rw [show (List.replicate ds.length true).all id = true by simp]
        exact hW _
    refine db_cons <| ds_if <| dt_w <| dw_orP <| dt_w <| dw_andP <| dt_val <| de_isi bt_tuple g_is g_tu <| nm 0 rfl ⟨d, _, rfl, kTup _ d, _, rfl, isTup d, fun _ => dw_and1 <| dt_val <| de_isi bt_tuple g_is g_tu <| nm 1 rfl ⟨d, _, rfl, kTup _ d, _, rfl, rfl, rfl⟩,
      isLst d && isLst d, fun _ => dw_or1 <| dt_w <| dw_andP <| dt_val <| de_isi bt_list g_is g_li <| nm 0 rfl ⟨d, _, rfl, kLst _ d, _, rfl, isLst d, fun _ => dw_and1 <| dt_val <| de_isi bt_list g_is g_li <| nm 1 rfl ⟨d, _, rfl, kLst _ d, _, rfl, rfl, rfl⟩, rfl, rfl⟩, ?_⟩
    have rest : isTup d = false → isLst d = false → DB (cxOf CX0 P w K mg base ["a", "b", "k"] "_law_same" (defScope s__law_same) f cdv A outer s H E).nox B0 F0 M [.d d, .d d, .un] [] ((defBody s__law_same).drop 1) { nx := fun M' ρ' => W (.d .none) M', rt := W } := fun h1 h2 => by
      refine db_cons <| ds_if <| dt_w <| dw_orP <| dt_val <| de_isi bt_bool g_is g_bo <| nm 0 rfl ⟨d, _, rfl, kBool _ d, _, rfl, isBool d, fun _ => dw_or1 <| dt_val <| de_isi bt_bool g_is g_bo <| nm 1 rfl ⟨d, _, rfl, kBool _ d, _, rfl, rfl, rfl⟩, ?_⟩
      cases d with
      | bool b =>
        refine waysT rfl <| db_cons <| ds_ret <| de_and <| de_isi bt_bool g_is g_bo <| nm 0 rfl ⟨_, _, rfl, kBool _ _, _, rfl, waysT rfl <| de_and <| de_isi bt_bool g_is g_bo <| nm 1 rfl ⟨_, _, rfl, kBool _ _, _, rfl, waysT rfl <| de_one <| de_cmp op_eq <| nm 0 rfl <| nm 1 rfl <| r2_eq rfl rfl rfl ?_⟩⟩
        cases b <;> exact hW _
      | tuple ds => cases h1
      | list ds => cases h2
      | dict _ => cases m <;> exact hd.elim
      | int i =>
        refine waysF rfl <| db_nil <| db_cons <| ds_if <| dt_w <| dw_orP <| dt_w <| dw_andP <| dt_val <| de_isi bt_int g_is g_in <| nm 0 rfl ⟨_, _, rfl, kInt _ _, _, rfl, true, fun _ => dw_and1 <| dt_val <| de_isi bt_int g_is g_in <| nm 1 rfl ⟨_, _, rfl, kInt _ _, _, rfl, rfl, rfl⟩, true, (fun h => by cases h), waysT rfl ?_⟩
        refine db_cons <| ds_ret <| de_cmp op_eq <| nm 0 rfl <| nm 1 rfl <| r2_eqI ?_
        rw [decide_eq_true rfl]
        exact hW _
      | str x =>
        refine waysF rfl <| db_nil <| db_cons <| ds_if <| dt_w <| dw_orP <| dt_w <| dw_andP <| dt_val <| de_isi bt_int g_is g_in <| nm 0 rfl ⟨_, _, rfl, kInt _ _, _, rfl, true, (fun h => by cases h), true, fun _ => dw_or1 <| dt_w <| dw_andP <| dt_val <| de_isi bt_str g_is g_st <| nm 0 rfl ⟨_, _, rfl, kStr _ _, _, rfl, true, fun _ => dw_and1 <| dt_val <| de_isi bt_str g_is g_st <| nm 1 rfl ⟨_, _, rfl, kStr _ _, _, rfl, rfl, rfl⟩, rfl, rfl⟩, waysT rfl ?_⟩
        refine db_cons <| ds_ret <| de_cmp op_eq <| nm 0 rfl <| nm 1 rfl <| r2_eq rfl rfl rfl ?_
        rw [decide_eq_true rfl]
        exact hW _
      | none =>
        refine waysF rfl <| db_nil <| db_cons <| ds_if <| dt_w <| dw_orP <| dt_w <| dw_andP <| dt_val <| de_isi bt_int g_is g_in <| nm 0 rfl ⟨_, _, rfl, kInt _ _, _, rfl, true, (fun h => by cases h), false, fun _ => dw_or1 <| dt_w <| dw_andP <| dt_val <| de_isi bt_str g_is g_st <| nm 0 rfl ⟨_, _, rfl, kStr _ _, _, rfl, true, (fun h => by cases h), rfl, rfl⟩, waysF rfl <| db_nil ?_⟩
        exact db_cons <| ds_ret <| de_and <| de_cmp op_isN <| nm 0 rfl <| de_non <| r2_isN ⟨_, rfl, waysT rfl <| de_one <| de_cmp op_isN <| nm 1 rfl <| de_non <| r2_isN (hW _)⟩
    cases h1 : isTup d with
    | true =>
      cases d with
      | tuple ds =>
        cases m with
        | zero => exact hd.elim
        | succ m => exact waysT rfl (row ds (fun _ => .tup ds) ⟨hd.1, m, rfl, hd.2⟩ _ rfl)
      | _ => cases h1
    | false =>
      cases h2 : isLst d with
      | true =>
        cases d with
        | list ds =>
          cases m with
          | zero => exact hd.elim
          | succ m => exact waysT rfl (row ds (fun _ => .lst ds) ⟨hd.1, m, rfl, hd.2⟩ _ rfl)
        | _ => cases h2
      | false => exact waysF rfl <| db_nil <| rest h1 h2
end
end H72
namespace H72
open PySem PySem.Spec PyProof.Rows L2 DL
section
variable {P : Program} {w : World} {K : PySem.W.Frag} {mg : Str → Option Value} {base : Heap} {f : Addr} {fd : FuncData}
theorem go_same (k : Nat) (Fn : FnP K "_law_same" s__law_same f fd) (gm : mg "_law_same" = some (.ref f)) (g_is : mg "isinstance" = none) (g_tu : mg "tuple" = none) (g_li : mg "list" = none) (g_bo : mg "bool" = none) (g_in : mg "int" = none) (g_st : mg "str" = none) (g_le : mg "len" = none) (g_al : mg "all" = none) (g_ra : mg "range" = none) :
    ∀ m, Go P w K mg base "_law_same" (k + 1 + m) ["a", "b"] (R_same m) := by
  have one : ∀ (j m : Nat), (∀ m', m = m' + 1 → Go P w K mg base "_law_same" j ["a", "b"] (R_same m')) → Go P w K mg base "_law_same" (j + 1) ["a", "b"] (R_same m) := fun j m h =>
    go_of Fn gm (fun _ _ _ _ _ _ us hl => match us, hl with | [_, _], _ => rfl) (ok_same1 Fn h g_is g_tu g_li g_bo g_in g_st g_le g_al g_ra)
  intro m
  induction m with
  | zero => exact one k 0 fun m' h => by omega
  | succ m ih =>
    refine one (k + 1 + m) (m + 1) fun m' h => ?_
    have : m = m' := by omega
    subst this
    exact ih
end
/-! ### the box -/
/-- the box stands at the end of the cells -/
inductive Box (bx cs : Addr) : Cs → Prop
  | mk (ns : List Int) (dg sd : Int) : Box bx cs [(bx, .raw (.lst [.ref cs, .int dg, .int sd])), (cs, .lst (ns.map .int))]
def R_load (bx cs : Addr) : List Sl → Cs → (Sl → Cs → Prop) → Prop := fun κ M W => κ = [.v (.ref bx)] ∧ Box bx cs M ∧ ∀ (i : Int) M', Box bx cs M' → W (.d (.int i)) M'
def R_draw (bx cs : Addr) : List Sl → Cs → (Sl → Cs → Prop) → Prop := fun κ M W => ∃ m : Int, κ = [.v (.ref bx), .d (.int m)] ∧ Box bx cs M ∧ 0 < m ∧ m < 2 ^ 200 ∧ ∀ (i : Int) M', 0 ≤ i → i < m → Box bx cs M' → W (.d (.int i)) M'
section
variable {P : Program} {w : World} {K : PySem.W.Frag} {mg : Str → Option Value} {base : Heap} {f : Addr} {fd : FuncData} {bx cs : Addr}
theorem sc_load : FnScope ["box", "cells", "cell", "size", "first", "second"] ["box"] (defScope s__law_load) := ⟨rfl, rfl, rfl, by decide +kernel, rfl, by decide +kernel, by decide +kernel⟩
theorem cmulL {i : Int} (c : Int) (h : -(2 ^ 64) < c ∧ c < 2 ^ 64) : CMul i c := .inr h
theorem cmulF {i : Int} (c : Int) (h : -(2 ^ 64) < c ∧ c < 2 ^ 64) : CMul c i := .inl h
theorem ok_load {k : Nat} (Fn : FnP K "_law_load" s__law_load f fd) (g_le : mg "len" = none) (g_in : mg "int" = none) : FnOk P w K mg base CX0 (k + 1) f fd ["box"] (SpG K (R_load bx cs)) := by
  refine fn_okD Fn sc_load (fun κ M W h => ?_) fun cdv A outer s H E hr nd B0 F0 κ M W hR => ?_
  · obtain ⟨rfl, _⟩ := h
    rfl
  · obtain ⟨rfl, hb, hW⟩ := hR
    obtain ⟨ns, dg, sd⟩ := hb
    have tail : ∀ (ns' : List Int) (sd' : Int) (s2 s3 : Sl), DB (cxOf CX0 P w K mg base ["box", "cells", "cell", "size", "first", "second"] "_law_load" (defScope s__law_load) f cdv A outer s H E).nox B0 F0 [(bx, .raw (.lst [.ref cs, .int dg, .int sd'])), (cs, .lst (ns'.map .int))] [.v (.ref bx), .v (.ref cs), s2, s3, .un, .un] [] ((defBody s__law_load).drop 2) { nx := fun M' ρ' => W (.d .none) M', rt := W } := by
      intro ns' sd' s2 s3
      refine db_cons <| ds_set 4 <| de_op op_mod <| de_callTy call_int1 g_in bt_int <| da_cons <| de_op op_add <| de_op op_mul <| de_ix ix_list <| nm 0 rfl <| de_int <| r2_ixRaw (ws := [.ref cs, .int dg, .int sd']) (v := .int sd') (by simp) rfl <| de_int <| r2_c (cmulL _ (by decide)) <| de_int <| r2_i <| da_nil <| rn_int <| de_int <| r2_c (by decide) ?_
      refine db_cons <| ds_set 5 <| de_op op_mod <| de_callTy call_int1 g_in bt_int <| da_cons <| de_op op_add <| de_op op_mul <| nm 4 rfl <| de_int <| r2_c (cmulL _ (by decide)) <| de_int <| r2_i <| da_nil <| rn_int <| de_int <| r2_c (by decide) ?_
      refine db_cons <| ds_asg <| de_op op_mod <| de_callTy call_int1 g_in bt_int <| da_cons <| de_op op_add <| de_op op_mul <| nm 5 rfl <| de_int <| r2_c (cmulL _ (by decide)) <| de_int <| r2_i <| da_nil <| rn_int <| de_int <| r2_c (by decide) <| dg_subRaw 0 <| nm 0 rfl <| de_int ⟨bx, [.ref cs, .int dg, .int sd'], .int _, 2, 2, rfl, rfl, rfl, rfl, rfl, ?_⟩
      refine db_cons <| ds_ret <| de_op op_add <| de_op op_add <| de_op op_mul <| nm 4 rfl <| de_int <| r2_c (cmulL _ (by decide)) <| de_op op_mul <| nm 5 rfl <| de_int <| r2_c (cmulL _ (by decide)) <| r2_i <| de_ix ix_list <| nm 0 rfl <| de_int <| r2_ixRaw (ws := [.ref cs, .int dg, .int _]) (v := .int _) (by simp; rfl) rfl <| r2_i ?_
      exact hW _ _ (.mk _ _ _)
    refine db_cons <| ds_set 1 <| de_ix ix_list <| nm 0 rfl <| de_int <| r2_ixRaw (ws := [.ref cs, .int dg, .int sd]) (v := .ref cs) (by simp) rfl ?_
    refine db_cons <| ds_if <| dt_cmp op_gt <| de_len g_le <| nm 1 rfl ⟨ns.map .int, .cell (by simp), de_int <| r2_t ?_⟩
    refine waysD (fun c => ?_) (fun c => db_nil (tail ns sd .un .un))
    cases ns with
    | nil => simp at c
    | cons n ns =>
      refine db_cons <| ds_set 2 <| de_callTy call_int1 g_in bt_int <| da_cons <| de_popAt 1 <| nm 1 rfl ⟨cs, _, rfl, by simp; rfl, de_int ⟨_, 0, 0, _, rfl, rfl, by decide, by decide, ?_, rfl, da_nil <| rn_int ?_⟩⟩
      · simp [seqIndex?]
      refine db_cons <| ds_set 3 <| de_ifexp <| dt_cmp op_ge <| nm 2 rfl <| de_int <| r2_t ?_
      have two : ∀ (z : Int), DB (cxOf CX0 P w K mg base ["box", "cells", "cell", "size", "first", "second"] "_law_load" (defScope s__law_load) f cdv A outer s H E).nox B0 F0 [(bx, .raw (.lst [.ref cs, .int dg, .int sd])), (cs, .lst (ns.map .int))] [.v (.ref bx), .v (.ref cs), .d (.int n), .d (.int z), .un, .un] [] ((match (defBody s__law_load).getD 1 (.Pass ⟨0, 0, 0, 0⟩) with | .If _ b _ _ => b.drop 2 | _ => [])) { nx := fun M' ρ' => DB (cxOf CX0 P w K mg base ["box", "cells", "cell", "size", "first", "second"] "_law_load" (defScope s__law_load) f cdv A outer s H E).nox B0 F0 M' ρ' [] ((defBody s__law_load).drop 2) { nx := fun M' ρ' => W (.d .none) M', rt := W }, rt := W } := by
        intro z
        refine db_cons <| ds_if <| dt_cmp op_ge <| nm 3 rfl <| de_int <| r2_t ?_
        refine waysD (fun c => db_cons <| ds_ret <| nm 3 rfl <| hW _ _ (.mk _ _ _)) (fun c => db_nil ?_)
        refine db_cons <| ds_asg <| de_op op_mod <| de_callTy call_int1 g_in bt_int <| da_cons <| de_op op_add <| de_op op_add <| de_op op_mul <| de_ix ix_list <| nm 0 rfl <| de_int <| r2_ixRaw (ws := [.ref cs, .int dg, .int sd]) (v := .int sd) (by simp) rfl <| de_int <| r2_c (cmulL _ (by decide)) <| de_op op_mul <| nm 3 rfl <| de_int <| r2_c (cmulL _ (by decide)) <| r2_i <| de_int <| r2_i <| da_nil <| rn_int <| de_int <| r2_c (by decide) <| dg_subRaw 0 <| nm 0 rfl <| de_int ⟨bx, [.ref cs, .int dg, .int sd], .int _, 2, 2, rfl, rfl, rfl, rfl, rfl, ?_⟩
        exact db_nil (tail ns _ _ _)
      refine waysD (fun c => ?_) (fun c => ?_)
      · exact de_op op_mul <| de_int <| nm 2 rfl <| r2_c (cmulF _ (by decide)) <| two _
      · exact de_op op_sub <| de_op op_mul <| de_unop un_neg <| de_int <| r1_U (fun _ => .int _) <| nm 2 rfl <| r2_c (cmulF _ (by decide)) <| de_int <| r2_i <| two _
end
end H72
namespace H72
open PySem PySem.Spec PyProof.Rows L2 DL
def R_box : List Sl → Cs → (Sl → Cs → Prop) → Prop := fun κ M W => ∃ ns : List Int, ns.length ≤ 100000 ∧ κ = [.rd (iL ns)] ∧ M = [] ∧ ∀ bx cs M', Box bx cs M' → W (.v (.ref bx)) M'
section
variable {P : Program} {w : World} {K : PySem.W.Frag} {mg : Str → Option Value} {base : Heap} {f : Addr} {fd : FuncData} {bx cs : Addr}
theorem sc_draw : FnScope ["box", "many", "digit"] ["box", "many"] (defScope s__law_draw) := ⟨rfl, rfl, rfl, by decide +kernel, rfl, by decide +kernel, by decide +kernel⟩
theorem log_200 {m : Int} (h0 : 0 < m) (h : m < 2 ^ 200) : m.natAbs.log2 < 9000 := by
  have h1 : m.natAbs < 2 ^ 200 := by
    have : ((m.natAbs : Nat) : Int) < ((2 ^ 200 : Nat) : Int) := by rw [Int.natAbs_of_nonneg (by omega)]; exact_mod_cast h
    exact Int.ofNat_lt.mp this
  exact Nat.lt_of_lt_of_le ((Nat.log2_lt (by omega)).mpr h1) (by decide)
theorem ok_draw {k : Nat} (Fn : FnP K "_law_draw" s__law_draw f fd) (G : Go P w K mg base "_law_load" k ["box"] (R_load bx cs)) (g_in : mg "int" = none) : FnOk P w K mg base CX0 (k + 1) f fd ["box", "many"] (SpG K (R_draw bx cs)) := by
  refine fn_okD Fn sc_draw (fun κ M W h => ?_) fun cdv A outer s H E hr nd B0 F0 κ M W hR => ?_
  · obtain ⟨m, rfl, _⟩ := h
    rfl
  · obtain ⟨m, rfl, hb, h0, hm, hW⟩ := hR
    have tail : ∀ M, Box bx cs M → DB (cxOf CX0 P w K mg base ["box", "many", "digit"] "_law_draw" (defScope s__law_draw) f cdv A outer s H E).nox B0 F0 M [.v (.ref bx), .d (.int m), .un] [] ((defBody s__law_draw).drop 1) { nx := fun M' ρ' => W (.d .none) M', rt := W } := by
      rintro M ⟨ns, dg, sd⟩
      refine db_cons <| ds_set 2 <| de_op op_mod <| de_callTy call_int1 g_in bt_int <| da_cons <| de_ix ix_list <| nm 0 rfl <| de_int <| r2_ixRaw (ws := [.ref cs, .int dg, .int sd]) (v := .int dg) (by simp) rfl <| da_nil <| rn_int <| nm 1 rfl <| r2_c h0 ?_
      refine db_cons <| ds_asg <| de_op op_fdivW <| de_ix ix_list <| nm 0 rfl <| de_int <| r2_ixRaw (ws := [.ref cs, .int dg, .int sd]) (v := .int dg) (by simp) rfl <| nm 1 rfl <| r2_c ⟨h0, log_200 h0 hm⟩ <| dg_subRaw 0 <| nm 0 rfl <| de_int ⟨bx, [.ref cs, .int dg, .int sd], .int _, 1, 1, rfl, rfl, rfl, rfl, rfl, ?_⟩
      exact db_cons <| ds_ret <| nm 2 rfl <| hW _ _ (Int.emod_nonneg _ (by omega)) (Int.emod_lt_of_pos _ h0) (.mk _ _ _)
    obtain ⟨ns, dg, sd⟩ := hb
    refine db_cons <| ds_if <| dt_cmp op_lt <| de_ix ix_list <| nm 0 rfl <| de_int <| r2_ixRaw (ws := [.ref cs, .int dg, .int sd]) (v := .int dg) (by simp) rfl <| nm 1 rfl <| r2_t ?_
    refine waysD (fun c => ?_) (fun c => db_nil (tail _ (.mk _ _ _)))
    refine db_cons <| ds_asg <| de_goJ 0 G hr <| da_cons <| nm 0 rfl <| da_nil ⟨rfl, .mk ns dg sd, fun i M' hb => ⟨trivial, ?_⟩⟩
    obtain ⟨ns', dg', sd'⟩ := hb
    exact dg_subRaw 0 <| nm 0 rfl <| de_int ⟨bx, [.ref cs, .int dg', .int sd'], .int i, 1, 1, rfl, rfl, rfl, rfl, rfl, db_nil (tail _ (.mk ns' i sd'))⟩
theorem cutI (ns : List Int) (l u : Option Int) : ∃ ms, DL.cutD (iL ns) l u = iL ms := by
  unfold DL.cutD
  rw [← List.map_drop, ← List.map_take]
  exact ⟨_, rfl⟩
theorem sc_box : FnScope ["script"] ["script"] (defScope s__law_box) := ⟨rfl, rfl, rfl, by decide +kernel, rfl, by decide +kernel, by decide +kernel⟩
theorem ok_box {k : Nat} (Fn : FnP K "_law_box" s__law_box f fd) (g_le : mg "len" = none) (g_li : mg "list" = none) : FnOk P w K mg base CX0 (k + 1) f fd ["script"] (SpG K R_box) := by
  refine fn_okD Fn sc_box (fun κ M W h => ?_) fun cdv A outer s H E hr nd B0 F0 κ M W hR => ?_
  · obtain ⟨m, _, rfl, _⟩ := h
    rfl
  · obtain ⟨ns, hl, rfl, rfl, hW⟩ := hR
    refine db_cons <| ds_ret <| de_lstRaw <| da_cons <| de_listOf g_li <| de_freeze <| de_slice sl_list <| nm 0 rfl <| do_none <| do_some <| de_int ⟨_, rfl, rs_listC (.rd _) fun p => ⟨p, _, _, rfl, rfl, _, .lst _, fun cs => da_cons <| de_int <| da_cons <| de_op op_add <| de_int <| de_len g_le <| nm 0 rfl ⟨_, .rd _, r2_i <| da_nil ⟨[.ref cs, .int 0, .int _], rfl, z3, fun bx => ?_⟩⟩⟩⟩
    obtain ⟨ms, hm⟩ := cutI ns none (some 63)
    rw [hm]
    exact hW bx cs _ (.mk _ _ _)
end
end H72
set_option maxHeartbeats 1000000
/-! one cop, one robber: plain theory -/
namespace PK
/-- caught, the cop to move -/
inductive Lost (A : Nat → Nat → Prop) (V : Nat → Prop) : Nat → Nat → Prop
  | here (c : Nat) : V c → Lost A V c c
  | hit (c r : Nat) : V c → V r → A c r → Lost A V c r
  | move (c r t : Nat) : V c → V r → V t → A c t → (∀ p, V p → A r p → Lost A V t p) → Lost A V c r
def CW (A : Nat → Nat → Prop) (V : Nat → Prop) : Prop := ∃ c, V c ∧ ∀ r, V r → Lost A V c r
structure Corner (A : Nat → Nat → Prop) (V : Nat → Prop) (u v : Nat) : Prop where
  hu : V u
  hv : V v
  ne : u ≠ v
  a : A u v
  all : ∀ t, V t → A u t → A v t
section
variable {A : Nat → Nat → Prop} {V : Nat → Prop}
theorem cw_stuck (refl : ∀ x, V x → A x x) (sym : ∀ x y, A x y → A y x) (no : ∀ u v, ¬ Corner A V u v) {x y : Nat} (hx : V x) (hy : V y) (hxy : x ≠ y) : ¬ CW A V := by
  have key : ∀ c r, Lost A V c r → c = r ∨ A c r := by
    intro c r h
    induction h with
    | here c _ => exact .inl rfl
    | hit c r _ _ a => exact .inr a
    | move c r t hc hr ht a hp ih =>
      by_cases e : t = r
      · exact .inr (e ▸ a)
      · refine absurd ⟨hr, ht, fun z => e z.symm, ?_, fun p hp' ha => ?_⟩ (no r t)
        · rcases ih r hr (refl r hr) with h | h
          · exact absurd h e
          · exact sym _ _ h
        · rcases ih p hp' ha with h | h
          · exact h ▸ refl t ht
          · exact h
  rintro ⟨c, hc, hl⟩
  obtain ⟨u, hu, huc⟩ : ∃ u, V u ∧ u ≠ c := by
    by_cases e : x = c
    · exact ⟨y, hy, fun z => hxy (e.trans z.symm)⟩
    · exact ⟨x, hx, e⟩
  have all : ∀ p, V p → A c p := fun p hp => by
    rcases key c p (hl p hp) with h | h
    · exact h ▸ refl c hc
    · exact h
  exact no u c ⟨hu, hc, huc, sym _ _ (all u hu), fun t ht _ => all t ht⟩
theorem cw_one (refl : ∀ x, V x → A x x) {x : Nat} (hx : V x) (one : ∀ y, V y → y = x) : CW A V := ⟨x, hx, fun r hr => by rw [one r hr]; exact .here x hx⟩
/-- taking a corner away changes nothing -/
theorem cw_corner (refl : ∀ x, V x → A x x) (sym : ∀ x y, A x y → A y x) {u v : Nat} (k : Corner A V u v) : CW A V ↔ CW A (fun x => V x ∧ x ≠ u) := by
  have rho : ∃ f : Nat → Nat, f u = v ∧ ∀ x, x ≠ u → f x = x := ⟨fun x => if x = u then v else x, by simp, fun x h => by simp [h]⟩
  obtain ⟨f, fu, fx⟩ := rho
  have fW : ∀ x, V x → V (f x) ∧ f x ≠ u := fun x hx => by
    by_cases e : x = u
    · rw [e, fu]; exact ⟨k.hv, fun z => k.ne z.symm⟩
    · rw [fx x e]; exact ⟨hx, e⟩
  have fA : ∀ x y, V x → V y → A x y → A (f x) (f y) := fun x y hx hy a => by
    by_cases e : x = u
    · by_cases d : y = u
      · rw [e, d, fu]; exact refl v k.hv
      · rw [e, fu, fx y d]; exact k.all y hy (e ▸ a)
    · by_cases d : y = u
      · rw [d, fu, fx x e]; exact sym _ _ (k.all x hx (sym _ _ (d ▸ a)))
      · rw [fx x e, fx y d]; exact a
  constructor
  · rintro ⟨c, hc, hl⟩
    have key : ∀ c r, Lost A V c r → r ≠ u → Lost A (fun x => V x ∧ x ≠ u) (f c) r := by
      intro c r h
      induction h with
      | here c h => exact fun e => by rw [fx c e]; exact .here c ⟨h, e⟩
      | hit c r h1 h2 a => exact fun e => .hit _ _ (fW c h1) ⟨h2, e⟩ (by have := fA c r h1 h2 a; rwa [fx r e] at this)
      | move c r t h1 h2 h3 a hp ih =>
        exact fun e => .move _ _ (f t) (fW c h1) ⟨h2, e⟩ (fW t h3) (fA c t h1 h3 a) fun p hp' ha => ih p hp'.1 ha hp'.2
    exact ⟨f c, fW c hc, fun r hr => key c r (hl r hr.1) hr.2⟩
  · rintro ⟨c, hc, hl⟩
    have key : ∀ c s, Lost A (fun x => V x ∧ x ≠ u) c s → ∀ r, V r → f r = s → Lost A V c r := by
      intro c s h
      induction h with
      | here c h =>
        intro r hr e
        by_cases d : r = u
        · rw [d, fu] at e
          rw [d, ← e]
          exact .hit v u k.hv k.hu (sym _ _ k.a)
        · rw [fx r d] at e
          rw [e]
          exact .here c h.1
      | hit c s h1 h2 a =>
        intro r hr e
        by_cases d : r = u
        · rw [d, fu] at e
          rw [d]
          exact .move c u v h1.1 k.hu k.hv (e ▸ a) fun p hp ha => .hit v p k.hv hp (k.all p hp ha)
        · rw [fx r d] at e
          exact .hit c r h1.1 hr (e ▸ a)
      | move c s t h1 h2 h3 a hp ih =>
        intro r hr e
        refine .move c r t h1.1 hr h3.1 a fun p hp' ha => ih (f p) (fW p hp') ?_ p hp' rfl
        rw [← e]
        exact fA r p hr hp' ha
    exact ⟨c, hc.1, fun r hr => key c (f r) (hl _ (fW r hr)) r hr rfl⟩
end
theorem Lost.congr {A : Nat → Nat → Prop} {V W : Nat → Prop} (h : ∀ x, V x ↔ W x) : CW A V ↔ CW A W := by
  have e : V = W := funext fun x => propext (h x)
  rw [e]
/-! ### in rows -/
/-- next to each other, or the same -/
def adj (es : List (Nat × Nat)) (p q : Nat) : Bool := decide (q = p) || decide ((p, q) ∈ es) || decide ((q, p) ∈ es)
theorem adj_refl (es : List (Nat × Nat)) (p : Nat) : adj es p p = true := by simp [adj]
theorem adj_sym (es : List (Nat × Nat)) (p q : Nat) : adj es p q = adj es q p := by
  unfold adj
  rw [show decide (q = p) = decide (p = q) from decide_eq_decide.mpr eq_comm, Bool.or_assoc, Bool.or_assoc, Bool.or_comm (decide ((p, q) ∈ es))]
def nearL (n : Nat) (es : List (Nat × Nat)) (p : Nat) : List Nat := (List.range n).filter (adj es p)
theorem mem_near {n : Nat} {es : List (Nat × Nat)} {p q : Nat} : q ∈ nearL n es p ↔ q < n ∧ adj es p q = true := by
  unfold nearL
  rw [List.mem_filter, List.mem_range]
def cornerB (n : Nat) (es : List (Nat × Nat)) (L : List Nat) (u v : Nat) : Bool := decide (u ≠ v) && (decide (v ∈ nearL n es u) && ((nearL n es u).filter fun t => decide (t ∈ L)).all fun t => decide (t ∈ nearL n es v))
/-- the law's own look -/
def cornerC (n : Nat) (es : List (Nat × Nat)) (L : List Nat) (u v : Nat) : Bool := decide (u ≠ v) && ((nearL n es u).filter fun t => decide (t ∈ L)).all fun t => decide (t ∈ nearL n es v)
abbrev Ad (es : List (Nat × Nat)) (p q : Nat) : Prop := adj es p q = true
structure LOk (n : Nat) (L : List Nat) : Prop where
  nd : L.Nodup
  lt : ∀ x ∈ L, x < n
theorem corner_iff {n : Nat} {es : List (Nat × Nat)} {L : List Nat} (hL : LOk n L) {u v : Nat} (hu : u ∈ L) (hv : v ∈ L) : cornerB n es L u v = true ↔ Corner (Ad es) (· ∈ L) u v := by
  unfold cornerB
  simp only [Bool.and_eq_true, decide_eq_true_iff, List.all_eq_true, List.mem_filter, mem_near]
  constructor
  · rintro ⟨h1, ⟨_, h2⟩, h3⟩
    exact ⟨hu, hv, h1, h2, fun t ht ha => (h3 t ⟨⟨hL.lt t ht, ha⟩, ht⟩).2⟩
  · rintro ⟨_, _, h1, h2, h3⟩
    exact ⟨h1, ⟨hL.lt v hv, h2⟩, fun t ht => ⟨ht.1.1, h3 t ht.2 ht.1.2⟩⟩
theorem corner_C {n : Nat} {es : List (Nat × Nat)} {L : List Nat} (hL : LOk n L) {u v : Nat} (hu : u ∈ L) (hv : v ∈ L) : cornerC n es L u v = cornerB n es L u v := by
  rw [Bool.eq_iff_iff]
  unfold cornerB cornerC
  simp only [Bool.and_eq_true, decide_eq_true_iff, List.all_eq_true, List.mem_filter, mem_near]
  constructor
  · rintro ⟨h1, h3⟩
    have h4 := h3 u ⟨⟨hL.lt u hu, adj_refl es u⟩, hu⟩
    exact ⟨h1, ⟨hL.lt v hv, by rw [adj_sym]; exact h4.2⟩, h3⟩
  · rintro ⟨h1, h2, h3⟩
    exact ⟨h1, h3⟩
def cornersL (n : Nat) (es : List (Nat × Nat)) (L : List Nat) : List (Nat × Nat) := L.flatMap fun u => (L.filter (cornerB n es L u)).map fun v => (u, v)
theorem mem_corners {n : Nat} {es : List (Nat × Nat)} {L : List Nat} (hL : LOk n L) {u v : Nat} : (u, v) ∈ cornersL n es L ↔ Corner (Ad es) (· ∈ L) u v := by
  unfold cornersL
  rw [List.mem_flatMap]
  constructor
  · rintro ⟨x, hx, h⟩
    obtain ⟨y, hy, e⟩ := List.mem_map.mp h
    obtain ⟨hy, hc⟩ := List.mem_filter.mp hy
    have e1 : x = u := congrArg Prod.fst e
    have e2 : y = v := congrArg Prod.snd e
    subst e1 e2
    exact (corner_iff hL hx hy).mp hc
  · intro k
    exact ⟨u, k.hu, List.mem_map.mpr ⟨v, List.mem_filter.mpr ⟨k.hv, (corner_iff hL k.hu k.hv).mpr k⟩, rfl⟩⟩
/-- what a row of pairs leaves behind: L the places left -/
structure Left (n : Nat) (es : List (Nat × Nat)) (L : List Nat) : Prop where
  ok : LOk n L
  ne : L ≠ []
  cw : CW (Ad es) (· < n) ↔ CW (Ad es) (· ∈ L)
theorem Left.start {n : Nat} (es : List (Nat × Nat)) (hn : 0 < n) : Left n es (List.range n) := ⟨⟨List.nodup_range, fun x hx => List.mem_range.mp hx⟩, fun e => by
  have := congrArg List.length e
  simp at this
  omega, Lost.congr fun x => List.mem_range.symm⟩
theorem Left.take {n : Nat} {es : List (Nat × Nat)} {L : List Nat} (h : Left n es L) {u v : Nat} (k : Corner (Ad es) (· ∈ L) u v) : Left n es (L.erase u) := by
  refine ⟨⟨h.ok.nd.erase u, fun x hx => h.ok.lt x (List.mem_of_mem_erase hx)⟩, fun e => ?_, h.cw.trans ((cw_corner (fun x _ => adj_refl es x) (fun x y a => by rw [Ad, adj_sym]; exact a) k).trans (Lost.congr fun x => ?_))⟩
  · have : v ∈ L.erase u := (List.mem_erase_of_ne fun z => k.ne z.symm).mpr k.hv
    rw [e] at this
    cases this
  · rw [h.ok.nd.mem_erase_iff]
    exact and_comm
theorem Left.apart {n : Nat} {es : List (Nat × Nat)} {L : List Nat} (h : Left n es L) (h1 : L.length = 1) : CW (Ad es) (· < n) := by
  obtain ⟨x, rfl⟩ := List.length_eq_one_iff.mp h1
  exact h.cw.mpr (cw_one (fun x _ => adj_refl es x) (x := x) List.mem_cons_self fun y hy => List.mem_singleton.mp hy)
theorem Left.stuck {n : Nat} {es : List (Nat × Nat)} {L : List Nat} (h : Left n es L) (h1 : 1 < L.length) (h2 : cornersL n es L = []) : ¬ CW (Ad es) (· < n) := by
  rw [h.cw]
  match L, h, h1, h2 with
  | x :: y :: L, h, h1, h2 =>
    refine cw_stuck (fun x _ => adj_refl es x) (fun x y a => by rw [Ad, adj_sym]; exact a) (fun u v k => ?_) (x := x) (y := y) (by simp) (by simp) fun e => ?_
    · have := (mem_corners h.ok).mpr k
      rw [h2] at this
      cases this
    · subst e
      exact (List.nodup_cons.mp h.ok.nd).1 List.mem_cons_self
end PK
set_option maxHeartbeats 1000000
namespace H72
open PySem PySem.Spec PyProof.Rows L2 DL PK
abbrev Ed := List (Nat × Nat)
abbrev edL (es : Ed) : List PyData := es.map epD
def grD (g : Nat × Ed) : PyData := .tuple [.int (g.1 : Nat), .tuple (edL g.2)]
theorem same_int (m : Nat) (i : Int) : SameOk m (.int i) := by cases m <;> trivial
theorem same_bool (m : Nat) (i : Bool) : SameOk m (.bool i) := by cases m <;> trivial
theorem same_str (m : Nat) (i : Str) : SameOk m (.str i) := by cases m <;> trivial
theorem same_none (m : Nat) : SameOk m .none := by cases m <;> trivial
theorem same_natL (m : Nat) {ns : List Nat} (h : ns.length ≤ 100000) : SameOk (m + 1) (.tuple (natL ns)) := ⟨by rw [natL_len]; exact h, fun d hd => by
  obtain ⟨n, _, rfl⟩ := nat_mem hd
  exact same_int m _⟩
/-! ### values of all kinds -/
def isNum (lo hi : Int) : PyData → Bool
  | .int i => decide (lo ≤ i) && decide (i ≤ hi)
  | _ => false
def ltI : PyData → PyData → Bool
  | .int i, .int j => decide (i < j)
  | _, _ => false
def isWay (n : Int) : PyData → Bool
  | .tuple [a, b] => (isNum 0 (n - 1) a && isNum 0 (n - 1) b) && ltI a b
  | _ => false
def prI (p : Int × Int) : PyData := .tuple [.int p.1, .int p.2]
def wayOf : PyData → Int × Int
  | .tuple [.int a, .int b] => (a, b)
  | _ => (0, 0)
def ascAt (ps : List (Int × Int)) (k : Nat) : Bool := HT.lexLt [(ps.getD k (0, 0)).1, (ps.getD k (0, 0)).2] [(ps.getD (k + 1) (0, 0)).1, (ps.getD (k + 1) (0, 0)).2]
def ascP (ps : List (Int × Int)) : Bool := (List.range (ps.length - 1)).all (ascAt ps)
def isPark : PyData → Bool
  | .tuple [.int n, .tuple ws] => isNum 1 12 (.int n) && (ws.all (isWay n) && ascP (ws.map wayOf))
  | _ => false
theorem way_is {n : Int} {d : PyData} (h : isWay n d = true) : d = prI (wayOf d) ∧ 0 ≤ (wayOf d).1 ∧ (wayOf d).1 < (wayOf d).2 ∧ (wayOf d).2 < n := by
  unfold isWay at h
  split at h
  · rename_i a b
    cases a <;> simp [isNum, ltI] at h
    cases b <;> simp [isNum, ltI] at h
    simp only [wayOf, prI]
    exact ⟨trivial, by omega, by omega, by omega⟩
  · cases h
theorem ways_are {n : Int} {ws : List PyData} (h : ws.all (isWay n) = true) : ws = (ws.map wayOf).map prI := by
  rw [List.map_map]
  refine (List.map_id _).symm.trans (List.map_congr_left fun d hd => ?_)
  exact (way_is (List.all_eq_true.mp h d hd)).1
/-- plain values: at most N parts, depth m -/
def GV (N : Nat) : Nat → PyData → Prop
  | _, .none => True
  | _, .bool _ => True
  | _, .int _ => True
  | _, .str _ => True
  | m + 1, .tuple ds => ds.length ≤ N ∧ ∀ d ∈ ds, GV N m d
  | _, _ => False
theorem GV.tup {N m : Nat} {ds : List PyData} (h : GV N m (.tuple ds)) : ds.length ≤ N ∧ ∃ m', m = m' + 1 ∧ ∀ d ∈ ds, GV N m' d := by
  cases m with
  | zero => exact h.elim
  | succ m => exact ⟨h.1, m, rfl, h.2⟩
section
variable {P : Program} {w : World} {K : PySem.W.Frag} {mg : Str → Option Value} {base : Heap} {f : Addr} {fd : FuncData}
theorem sc_num : FnScope ["value", "least", "most"] ["value", "least", "most"] (defScope s_is_number) := ⟨rfl, rfl, rfl, by decide +kernel, rfl, by decide +kernel, by decide +kernel⟩
abbrev R_num := Pu (fun a : PyData × Int × Int => [.d a.1, .d (.int a.2.1), .d (.int a.2.2)]) (fun _ => True) (fun a => .bool (isNum a.2.1 a.2.2 a.1))
theorem ok_num {k : Nat} (Fn : FnP K "is_number" s_is_number f fd) (g_is : mg "isinstance" = none) (g_in : mg "int" = none) (g_bo : mg "bool" = none) : FnOk P w K mg base CX0 (k + 1) f fd ["value", "least", "most"] (SpG K R_num) := by
  refine fn_okD Fn sc_num (fun κ M W h => ?_) fun cdv A outer s H E hr nd B0 F0 κ M W hR => ?_
  · obtain ⟨ns, rfl, _⟩ := h
    rfl
  · obtain ⟨⟨d, lo, hi⟩, hκ, -, hW⟩ := hR
    have hκ : κ = [.d d, .d (.int lo), .d (.int hi)] := hκ
    subst hκ
    have hW : ∀ M', W (.d (.bool (isNum lo hi d))) M' := hW
    refine db_cons <| ds_ret <| de_and <| de_isi bt_int g_is g_in <| nm 0 rfl ⟨d, _, rfl, kInt _ d, _, rfl, fun h1 => de_and <| de_not <| de_isi bt_bool g_is g_bo <| nm 0 rfl ⟨d, _, rfl, kBool _ d, _, rfl, _, rfl, fun h2 => ?_, fun h2 => ?_⟩, fun h1 => ?_⟩
    · cases d with
      | int i =>
        refine de_one <| de_chain op_le op_le (pe := pe_chain op_le op_le pe_self pe_self pe_self) <| nm 1 rfl <| nm 0 rfl <| r2_b ⟨_, rfl, fun h3 => nm 2 rfl <| r2_b ?_, fun h3 => ?_⟩
        · have := hW M
          rw [show isNum lo hi (.int i) = (decide (lo ≤ i) && decide (i ≤ hi)) from rfl, h3, Bool.true_and] at this
          exact this
        · have := hW M
          rw [show isNum lo hi (.int i) = (decide (lo ≤ i) && decide (i ≤ hi)) from rfl, h3, Bool.false_and] at this
          exact this
      | bool b => cases h2
      | _ => cases h1
    · cases d with
      | bool b => exact hW M
      | _ => cases h2
    · cases d with
      | int i => cases h1
      | bool b => cases h1
      | _ => exact hW M
theorem sc_asc : FnScope ["rows", "k"] ["rows"] (defScope s_is_ascending) := ⟨rfl, rfl, rfl, by decide +kernel, rfl, by decide +kernel, by decide +kernel⟩
abbrev R_asc := Pu (fun ps : List (Int × Int) => [.d (.tuple (ps.map prI))]) (fun ps => ps.length ≤ 10000) (fun ps => .bool (ascP ps))
theorem pr_at {ps : List (Int × Int)} {k : Nat} (h : k < ps.length) : atI (ps.map prI) (k : Int) = some (prI (ps.getD k (0, 0))) := atI_at (by omega) (by
  rw [Int.toNat_natCast, List.getElem?_map, List.getD_eq_getElem?_getD, List.getElem?_eq_getElem h]
  rfl)
theorem ok_asc {k : Nat} (Fn : FnP K "is_ascending" s_is_ascending f fd) (g_al : mg "all" = none) (g_ra : mg "range" = none) (g_le : mg "len" = none) : FnOk P w K mg base CX0 (k + 1) f fd ["rows"] (SpG K R_asc) := by
  refine fn_okD Fn sc_asc (fun κ M W h => ?_) fun cdv A outer s H E hr nd B0 F0 κ M W hR => ?_
  · obtain ⟨ns, rfl, _⟩ := h
    rfl
  · obtain ⟨ps, rfl, hn, hW⟩ := hR
    have hn : ps.length ≤ 10000 := hn
    have hW : ∀ M', W (.d (.bool (ascP ps))) M' := hW
    refine db_cons <| ds_ret <| de_all g_al <| de_lcF 1 (fun d => .bool (ascAt ps (natOf d))) <| di_range1 g_ra <| da_cons <| de_op op_sub <| de_len g_le <| nm 0 rfl ⟨_, .tup _, de_int <| r2_i <| da_nil ⟨_, rfl, by rw [List.length_map]; omega, by rw [List.length_map]; omega, by rw [rngD_len, List.length_map]; omega, fun _ _ _ => trivial, ?_, fun D => ⟨_, allF, ?_⟩⟩⟩
    · intro d D acc hd b
      obtain ⟨i, hi, rfl⟩ := rngD_mem hd
      rw [List.length_map] at hi
      rw [Int.zero_add]
      refine de_cmp (op_ltT hr.units0) <| de_ix ix_seq <| nm 0 rfl <| nm 1 rfl <| r2_ix (.tup _) (pr_at (by omega)) <| de_ix ix_seq <| nm 0 rfl <| de_op op_add <| nm 1 rfl <| de_int <| r2_i <| r2_ix (.tup _) (show atI (ps.map prI) ((i : Int) + 1) = some (prI (ps.getD (i + 1) (0, 0))) from ?_) <| r2_ltT (ns := [_, _]) (ms := [_, _]) ⟨rfl, rfl⟩
      exact pr_at (k := i + 1) (by omega)
    · rw [all_id, List.length_map, show ((ps.length : Int) - 1).toNat = ps.length - 1 by omega, rng0, all_nat (t := ascAt ps) fun q _ => rfl]
      exact hW _
end
end H72
set_option maxHeartbeats 2000000
namespace DL
theorem orT {A B : Prop} {b : Bool} (e : b = true) (h : B) : (b = false → A) ∧ (b = true → B) := ⟨(fun z => by rw [e] at z; cases z), fun _ => h⟩
theorem orF {A B : Prop} {b : Bool} (e : b = false) (h : A) : (b = false → A) ∧ (b = true → B) := ⟨fun _ => h, (fun z => by rw [e] at z; cases z)⟩
theorem orD {A B C : Prop} [Decidable C] (h1 : ¬ C → A) (h2 : C → B) : (decide C = false → A) ∧ (decide C = true → B) := ⟨fun h => h1 (of_decide_eq_false h), fun h => h2 (of_decide_eq_true h)⟩
theorem orW {A B : Prop} {b : Bool} (h1 : b = false → A) (h2 : b = true → B) : (b = false → A) ∧ (b = true → B) := ⟨h1, h2⟩
theorem two_of {α : Type} {l : List α} (h : l.length = 2) : ∃ a b, l = [a, b] := by
  match l, h with
  | [a, b], _ => exact ⟨a, b, rfl⟩
open PySem in
theorem tup_of {d : PyData} (h : isTup d = true) : ∃ ds, d = .tuple ds := by
  cases d with
  | tuple ds => exact ⟨ds, rfl⟩
  | _ => cases h
end DL
namespace H72
open PySem PySem.Spec PyProof.Rows L2 DL PK
section
variable {P : Program} {w : World} {K : PySem.W.Frag} {mg : Str → Option Value} {base : Heap} {f : Addr} {fd : FuncData}
theorem sc_way : FnScope ["n", "value", "place"] ["n", "value"] (defScope s_is_way) := ⟨rfl, rfl, rfl, by decide +kernel, rfl, by decide +kernel, by decide +kernel⟩
abbrev R_way := Pu (fun a : Int × PyData => [.d (.int a.1), .d a.2]) (fun _ => True) (fun a => .bool (isWay a.1 a.2))
theorem num_int {lo hi : Int} {a : PyData} (h : isNum lo hi a = true) : ∃ i : Int, a = .int i ∧ lo ≤ i ∧ i ≤ hi := by
  cases a <;> simp [isNum] at h
  exact ⟨_, rfl, h⟩
theorem way_not {n : Int} {d : PyData} (h : isTup d = false) : isWay n d = false := by
  cases d with
  | tuple ds => cases h
  | _ => rfl
theorem way_len {n : Int} {ds : List PyData} (h : ds.length ≠ 2) : isWay n (.tuple ds) = false := by
  match ds, h with
  | [], _ => rfl
  | [_], _ => rfl
  | [_, _], h => exact absurd rfl h
  | _ :: _ :: _ :: _, _ => rfl
theorem ok_way {k : Nat} (Fn : FnP K "is_way" s_is_way f fd) (Gn : Go P w K mg base "is_number" k ["value", "least", "most"] R_num) (g_is : mg "isinstance" = none) (g_tu : mg "tuple" = none) (g_al : mg "all" = none) (g_le : mg "len" = none) : FnOk P w K mg base CX0 (k + 1) f fd ["n", "value"] (SpG K R_way) := by
  refine fn_okD Fn sc_way (fun κ M W h => ?_) fun cdv A outer s H E hr nd B0 F0 κ M W hR => ?_
  · obtain ⟨ns, rfl, _⟩ := h
    rfl
  · obtain ⟨⟨n, d⟩, hκ, -, hW⟩ := hR
    have hκ : κ = [.d (.int n), .d d] := hκ
    subst hκ
    have hW : ∀ M', W (.d (.bool (isWay n d))) M' := hW
    cases hd : isTup d with
    | false =>
      refine db_cons <| ds_if <| dt_w <| dw_or <| dt_not <| dt_val <| de_isi bt_tuple g_is g_tu <| nm 1 rfl ⟨d, _, rfl, kTup _ d, _, rfl, orT (by rw [hd]; rfl) <| waysT rfl <| db_cons <| ds_ret <| de_bl ?_⟩
      have := hW M
      rwa [way_not hd] at this
    | true =>
      obtain ⟨ds, rfl⟩ := tup_of hd
      refine db_cons <| ds_if <| dt_w <| dw_or <| dt_not <| dt_val <| de_isi bt_tuple g_is g_tu <| nm 1 rfl ⟨_, _, rfl, kTup _ _, _, rfl, orF rfl <| dw_or <| dt_cmp op_ne <| de_len g_le <| nm 1 rfl ⟨ds, .tup _, de_int <| r2_tne <| orW (fun h2 => ?_) (fun h2 => waysT rfl <| db_cons <| ds_ret <| de_bl ?_)⟩⟩
      · have h2 : ds.length = 2 := by simp at h2; omega
        obtain ⟨a, b, rfl⟩ := two_of h2
        refine dw_or1 <| dt_not <| dt_val <| de_all g_al <| de_lcF 2 (fun d => .bool (isNum 0 (n - 1) d)) <| di_tup <| nm 1 rfl ⟨_, rfl, z2, fun _ _ _ => trivial, fun d D acc hd b => ?_, fun D => ⟨_, allF, _, rfl, ?_⟩⟩
        · exact de_pu Gn hr <| da_cons <| nm 2 rfl <| da_cons <| de_int <| da_cons <| de_op op_sub <| nm 0 rfl <| de_int <| r2_i <| da_nil <| da_pu (d, 0, n - 1) rfl trivial ⟨rfl, rfl⟩
        rw [all_id]
        have e : ([a, b].all fun d => isNum 0 (n - 1) d) = (isNum 0 (n - 1) a && isNum 0 (n - 1) b) := by simp
        rw [e]
        have e2 : isWay n (.tuple [a, b]) = ((isNum 0 (n - 1) a && isNum 0 (n - 1) b) && ltI a b) := rfl
        rw [e2] at hW
        cases hc : (isNum 0 (n - 1) a && isNum 0 (n - 1) b) with
        | false =>
          rw [hc] at hW
          exact waysT rfl <| db_cons <| ds_ret <| de_bl <| hW _
        | true =>
          rw [hc, Bool.true_and] at hW
          refine waysF rfl <| db_nil ?_
          obtain ⟨ha, hb⟩ := Bool.and_eq_true_iff.mp hc
          obtain ⟨i, rfl, _⟩ := num_int ha
          obtain ⟨j, rfl, _⟩ := num_int hb
          exact db_cons <| ds_ret <| de_cmp op_lt <| de_ix ix_seq <| nm 1 rfl <| de_int <| r2_ix (.tup _) (d := .int i) rfl <| de_ix ix_seq <| nm 1 rfl <| de_int <| r2_ix (.tup _) (d := .int j) rfl <| r2_b (hW _)
      · have h2 : ds.length ≠ 2 := by simp at h2; omega
        have := hW M
        rwa [way_len h2] at this
theorem sc_park : FnScope ["value", "way"] ["value"] (defScope s_is_park) := ⟨rfl, rfl, rfl, by decide +kernel, rfl, by decide +kernel, by decide +kernel⟩
abbrev R_isp := Pu (fun d : PyData => [.d d]) (fun d => ∃ m, GV 1000 m d) (fun d => .bool (isPark d))
/-- the shapes of a value that may be a park -/
inductive PSh : PyData → Prop
  | not {d : PyData} : isTup d = false → PSh d
  | len {ds : List PyData} : ds.length ≠ 2 → PSh (.tuple ds)
  | two (a b : PyData) : PSh (.tuple [a, b])
theorem psh (d : PyData) : PSh d := by
  cases hd : isTup d with
  | false => exact .not hd
  | true =>
    obtain ⟨ds, rfl⟩ := tup_of hd
    by_cases h2 : ds.length = 2
    · obtain ⟨a, b, rfl⟩ := two_of h2
      exact .two a b
    · exact .len h2
theorem park_not {d : PyData} (h : isTup d = false) : isPark d = false := by
  cases d with
  | tuple ds => cases h
  | _ => rfl
theorem park_len {ds : List PyData} (h : ds.length ≠ 2) : isPark (.tuple ds) = false := by
  match ds, h with
  | [], _ => rfl
  | [x], _ => cases x <;> rfl
  | [_, _], h => exact absurd rfl h
  | x :: y :: z :: r, _ =>
    unfold isPark
    split
    · rename_i e
      simp at e
    · rfl
theorem park_num {a b : PyData} (h : isNum 1 12 a = false) : isPark (.tuple [a, b]) = false := by
  cases a <;> cases b <;> first | rfl | (show (isNum 1 12 (.int _) && _) = false; rw [h]; rfl)
theorem park_tup {a b : PyData} (h : isTup b = false) : isPark (.tuple [a, b]) = false := by
  cases b with
  | tuple ds => cases h
  | _ => cases a <;> rfl
theorem ok_isp {k : Nat} {t : Tok} (Fn : FnP K "is_park" s_is_park f fd) (Gn : Go P w K mg base "is_number" k ["value", "least", "most"] R_num) (Gw : Go P w K mg base "is_way" k ["n", "value"] R_way) (Ga : Go P w K mg base "is_ascending" k ["rows"] R_asc) (g_mp : mg "MAX_PARK" = some (.int 12 t)) (g_is : mg "isinstance" = none) (g_tu : mg "tuple" = none) (g_al : mg "all" = none) (g_le : mg "len" = none) : FnOk P w K mg base CX0 (k + 1) f fd ["value"] (SpG K R_isp) := by
  refine fn_okD Fn sc_park (fun κ M W h => ?_) fun cdv A outer s H E hr nd B0 F0 κ M W hR => ?_
  · obtain ⟨ns, rfl, _⟩ := h
    rfl
  · obtain ⟨d, hκ, ⟨m, hg⟩, hW⟩ := hR
    have hκ : κ = [.d d] := hκ
    subst hκ
    have hW : ∀ M', W (.d (.bool (isPark d))) M' := hW
    cases psh d with
    | not hd =>
      refine db_cons <| ds_if <| dt_w <| dw_or <| dt_not <| dt_val <| de_isi bt_tuple g_is g_tu <| nm 0 rfl ⟨d, _, rfl, kTup _ d, _, rfl, orT (by rw [hd]; rfl) <| waysT rfl <| db_cons <| ds_ret <| de_bl ?_⟩
      have := hW M
      rwa [park_not hd] at this
    | @len ds h2 =>
      refine db_cons <| ds_if <| dt_w <| dw_or <| dt_not <| dt_val <| de_isi bt_tuple g_is g_tu <| nm 0 rfl ⟨_, _, rfl, kTup _ _, _, rfl, orF rfl <| dw_or <| dt_cmp op_ne <| de_len g_le <| nm 0 rfl ⟨ds, .tup _, de_int <| r2_tne <| orT (by simp; omega) <| waysT rfl <| db_cons <| ds_ret <| de_bl ?_⟩⟩
      have := hW M
      rwa [park_len h2] at this
    | two a b =>
      refine db_cons <| ds_if <| dt_w <| dw_or <| dt_not <| dt_val <| de_isi bt_tuple g_is g_tu <| nm 0 rfl ⟨_, _, rfl, kTup _ _, _, rfl, orF rfl <| dw_or <| dt_cmp op_ne <| de_len g_le <| nm 0 rfl ⟨[a, b], .tup _, de_int <| r2_tne <| orF rfl <| dw_or1 <| dt_not <| dt_val <| de_pu Gn hr <| da_cons <| de_ix ix_seq <| nm 0 rfl <| de_int <| r2_ix (.tup _) (d := a) rfl <| da_cons <| de_int <| da_cons <| de_glob (v := .int 12) g_mp ⟨_, rfl⟩ (fun _ => .int 12) <| da_nil <| da_pu (a, 1, 12) rfl trivial ⟨_, rfl, ways (fun h => db_cons <| ds_ret <| de_bl ?_) (fun h => db_nil ?_)⟩⟩⟩
      · have h : isNum 1 12 a = false := by simpa using h
        have := hW M
        rwa [park_num h] at this
      have h : isNum 1 12 a = true := by simpa using h
      obtain ⟨n, rfl, hn1, hn2⟩ := num_int h
      cases hb : isTup b with
      | false =>
        refine db_cons <| ds_if <| dt_w <| dw_or <| dt_not <| dt_val <| de_isi bt_tuple g_is g_tu <| de_ix ix_seq <| nm 0 rfl <| de_int <| r2_ix (.tup _) (d := b) rfl ⟨b, _, rfl, kTup _ b, _, rfl, orT (by rw [hb]; rfl) <| waysT rfl <| db_cons <| ds_ret <| de_bl ?_⟩
        have := hW M
        rwa [park_tup hb] at this
      | true =>
        obtain ⟨ws, rfl⟩ := tup_of hb
        obtain ⟨_, m', rfl, hg'⟩ := hg.tup
        obtain ⟨hwl, _⟩ := (hg' (.tuple ws) (by simp)).tup
        have hP : isPark (.tuple [.int n, .tuple ws]) = (isNum 1 12 (.int n) && (ws.all (isWay n) && ascP (ws.map wayOf))) := rfl
        rw [hP, h, Bool.true_and] at hW
        refine db_cons <| ds_if <| dt_w <| dw_or <| dt_not <| dt_val <| de_isi bt_tuple g_is g_tu <| de_ix ix_seq <| nm 0 rfl <| de_int <| r2_ix (.tup _) (d := .tuple ws) rfl ⟨_, _, rfl, kTup _ _, _, rfl, orF rfl <| dw_or1 <| dt_not <| dt_val <| de_all g_al <| de_lcF 1 (fun d => .bool (isWay n d)) <| di_tup <| de_ix ix_seq <| nm 0 rfl <| de_int <| r2_ix (.tup _) (d := .tuple ws) rfl ⟨ws, rfl, by omega, fun _ _ _ => trivial, fun d D acc hd b => ?_, fun D => ⟨_, allF, _, rfl, ?_⟩⟩⟩
        · exact de_pu Gw hr <| da_cons <| de_ix ix_seq <| nm 0 rfl <| de_int <| r2_ix (.tup _) (d := .int n) rfl <| da_cons <| nm 1 rfl <| da_nil <| da_pu (n, d) rfl trivial ⟨rfl, rfl⟩
        rw [all_id]
        refine ways (fun h => db_cons <| ds_ret <| de_bl ?_) (fun h => db_nil ?_)
        · have h : ws.all (isWay n) = false := by simpa using h
          have := hW ((D, MC.lst (ws.map fun d => .bool (isWay n d))) :: M)
          rwa [h] at this
        · have h : ws.all (isWay n) = true := by rw [Bool.not_eq_false'] at h; exact h
          rw [h, Bool.true_and] at hW
          have hw2 := ways_are h
          refine db_cons <| ds_ret <| de_pu Ga hr <| da_cons <| de_ix ix_seq <| nm 0 rfl <| de_int <| r2_ix (.tup _) (d := .tuple ws) rfl <| da_nil <| da_pu (ws.map wayOf) (by rw [← hw2]) (by rw [List.length_map]; omega) (hW _)
end
end H72
set_option maxHeartbeats 2000000
namespace H72
open PySem PySem.Spec PyProof.Rows L2 DL PK
section
variable {P : Program} {w : World} {K : PySem.W.Frag} {mg : Str → Option Value} {base : Heap} {f : Addr} {fd : FuncData}
theorem sc_lip : FnScope ["value", "way", "place", "k"] ["value"] (defScope s__law_is_park) := ⟨rfl, rfl, rfl, by decide +kernel, rfl, by decide +kernel, by decide +kernel⟩
theorem num_not {d : PyData} (h : isInt d = false ∨ isBool d = true) {lo hi : Int} : isNum lo hi d = false := by
  cases d with
  | int i => exact h.elim (fun z => by cases z) (fun z => by cases z)
  | _ => rfl
theorem int_of {d : PyData} (h1 : isInt d = true) (h2 : isBool d = false) : ∃ i : Int, d = .int i := by
  cases d with
  | int i => exact ⟨i, rfl⟩
  | bool b => cases h2
  | _ => cases h1
theorem ok_lip {k : Nat} (Fn : FnP K "_law_is_park" s__law_is_park f fd) (g_is : mg "isinstance" = none) (g_tu : mg "tuple" = none) (g_in : mg "int" = none) (g_bo : mg "bool" = none) (g_al : mg "all" = none) (g_le : mg "len" = none) (g_ra : mg "range" = none) : FnOk P w K mg base CX0 (k + 1) f fd ["value"] (SpG K R_isp) := by
  refine fn_okD Fn sc_lip (fun κ M W h => ?_) fun cdv A outer s H E hr nd B0 F0 κ M W hR => ?_
  · obtain ⟨ns, rfl, _⟩ := h
    rfl
  · obtain ⟨d, hκ, ⟨m, hg⟩, hW⟩ := hR
    have hκ : κ = [.d d] := hκ
    subst hκ
    have hW : ∀ M', W (.d (.bool (isPark d))) M' := hW
    cases psh d with
    | not hd =>
      rw [park_not hd] at hW
      exact db_cons <| ds_if <| dt_w <| dw_or <| dt_not <| dt_val <| de_isi bt_tuple g_is g_tu <| nm 0 rfl ⟨d, _, rfl, kTup _ d, _, rfl, orT (by rw [hd]; rfl) <| waysT rfl <| db_cons <| ds_ret <| de_bl <| hW _⟩
    | @len ds h2 =>
      rw [park_len h2] at hW
      exact db_cons <| ds_if <| dt_w <| dw_or <| dt_not <| dt_val <| de_isi bt_tuple g_is g_tu <| nm 0 rfl ⟨_, _, rfl, kTup _ _, _, rfl, orF rfl <| dw_or <| dt_cmp op_ne <| de_len g_le <| nm 0 rfl ⟨ds, .tup _, de_int <| r2_tne <| orT (by simp; omega) <| waysT rfl <| db_cons <| ds_ret <| de_bl <| hW _⟩⟩
    | two a b =>
      refine db_cons <| ds_if <| dt_w <| dw_or <| dt_not <| dt_val <| de_isi bt_tuple g_is g_tu <| nm 0 rfl ⟨_, _, rfl, kTup _ _, _, rfl, orF rfl <| dw_or <| dt_cmp op_ne <| de_len g_le <| nm 0 rfl ⟨[a, b], .tup _, de_int <| r2_tne <| orF rfl <| dw_or <| dt_not <| dt_val <| de_isi bt_int g_is g_in <| de_ix ix_seq <| nm 0 rfl <| de_int <| r2_ix (.tup _) (d := a) rfl ⟨a, _, rfl, kInt _ a, _, rfl, orW (fun h1 => ?_) (fun h1 => ?_)⟩⟩⟩
      · have h1 : isInt a = true := by simpa using h1
        refine dw_or <| dt_val <| de_isi bt_bool g_is g_bo <| de_ix ix_seq <| nm 0 rfl <| de_int <| r2_ix (.tup _) (d := a) rfl ⟨a, _, rfl, kBool _ a, _, rfl, orW (fun h2 => ?_) (fun h2 => waysT rfl <| db_cons <| ds_ret <| de_bl ?_)⟩
        · obtain ⟨n, rfl⟩ := int_of h1 h2
          have hcut : ∀ (hb : isNum 1 12 (.int n) = false), W (.d (.bool false)) M := fun hb => by
            have := hW M
            rwa [park_num hb] at this
          refine dw_or <| dt_not <| dt_chain op_le op_le <| de_int <| de_ix ix_seq <| nm 0 rfl <| de_int <| r2_ix (.tup _) (d := .int n) rfl <| r2_b ⟨_, rfl, waysD (fun h3 => de_int <| r2_t <| orW (fun h4 => ?_) (fun h4 => waysT rfl <| db_cons <| ds_ret <| de_bl ?_)) (fun h3 => orT rfl <| waysT rfl <| db_cons <| ds_ret <| de_bl ?_)⟩
          · have h4 : n ≤ 12 := by simpa using h4
            refine dw_or1 <| dt_not <| dt_val <| de_isi bt_tuple g_is g_tu <| de_ix ix_seq <| nm 0 rfl <| de_int <| r2_ix (.tup _) (d := b) rfl ⟨b, _, rfl, kTup _ b, _, rfl, ways (fun h5 => db_cons <| ds_ret <| de_bl ?_) (fun h5 => db_nil ?_)⟩
            · have h5 : isTup b = false := by simpa using h5
              have := hW M
              rwa [park_tup h5] at this
            · have h5 : isTup b = true := by simpa using h5
              obtain ⟨ws, rfl⟩ := tup_of h5
              obtain ⟨_, m', rfl, hg'⟩ := hg.tup
              obtain ⟨hwl, _⟩ := (hg' (.tuple ws) (by simp)).tup
              have hP : isPark (.tuple [.int n, .tuple ws]) = (isNum 1 12 (.int n) && (ws.all (isWay n) && ascP (ws.map wayOf))) := rfl
              have hn : isNum 1 12 (.int n) = true := by simp [isNum]; omega
              rw [hP, hn, Bool.true_and] at hW
              have hbad : ∀ i x, ws[i]? = some x → isWay n x = false → ∀ M', W (.d (.bool false)) M' := fun i x hx hf M' => by
                have : ws.all (isWay n) = false := by
                  cases c : ws.all (isWay n) with
                  | false => rfl
                  | true => rw [List.all_eq_true.mp c x (List.mem_of_getElem? hx)] at hf; cases hf
                have h6 := hW M'
                rwa [this] at h6
              refine db_cons <| ds_for <| di_tup <| de_ix ix_seq <| nm 0 rfl <| de_int <| r2_ix (.tup _) (d := .tuple ws) rfl ⟨ws, rfl, fun i M' ρ' => (ws.take i).all (isWay n) = true ∧ ∃ s1, ρ' = [.d (.tuple [.int n, .tuple ws]), s1, .un, .un], ⟨rfl, _, rfl⟩, fun _ _ _ _ => trivial, ?_, ?_⟩
              · rintro i x M' ρ' hx ⟨hal, s1, rfl⟩
                refine dg_name 1 ?_
                have hnext : isWay n x = true → (ws.take (i + 1)).all (isWay n) = true := fun h => by
                  rw [take_get hx, List.all_append, hal]
                  simp [h]
                cases psh x with
                | not hd =>
                  exact db_cons <| ds_if <| dt_w <| dw_or <| dt_not <| dt_val <| de_isi bt_tuple g_is g_tu <| nm 1 rfl ⟨x, _, rfl, kTup _ x, _, rfl, orT (by rw [hd]; rfl) <| waysT rfl <| db_cons <| ds_ret <| de_bl <| hbad i x hx (way_not hd) _⟩
                | @len ds h2 =>
                  exact db_cons <| ds_if <| dt_w <| dw_or <| dt_not <| dt_val <| de_isi bt_tuple g_is g_tu <| nm 1 rfl ⟨_, _, rfl, kTup _ _, _, rfl, orF rfl <| dw_or <| dt_cmp op_ne <| de_len g_le <| nm 1 rfl ⟨ds, .tup _, de_int <| r2_tne <| orT (by simp; omega) <| waysT rfl <| db_cons <| ds_ret <| de_bl <| hbad i _ hx (way_len h2) _⟩⟩
                | two p q =>
                  refine db_cons <| ds_if <| dt_w <| dw_or <| dt_not <| dt_val <| de_isi bt_tuple g_is g_tu <| nm 1 rfl ⟨_, _, rfl, kTup _ _, _, rfl, orF rfl <| dw_or <| dt_cmp op_ne <| de_len g_le <| nm 1 rfl ⟨[p, q], .tup _, de_int <| r2_tne <| orF rfl <| dw_or <| dt_not <| dt_val <| de_all g_al <| de_lcF 2 (fun d => .bool (isNum 0 (n - 1) d)) <| di_tup <| nm 1 rfl ⟨_, rfl, z2, fun _ _ _ => trivial, fun d D acc hd b => ?_, fun D => ⟨_, allF, _, rfl, ?_⟩⟩⟩⟩
                  · refine de_and <| de_isi bt_int g_is g_in <| nm 2 rfl ⟨d, _, rfl, kInt _ d, _, rfl, fun e1 => de_and <| de_not <| de_isi bt_bool g_is g_bo <| nm 2 rfl ⟨d, _, rfl, kBool _ d, _, rfl, _, rfl, fun e2 => ?_, fun e2 => ?_⟩, fun e1 => ?_⟩
                    · obtain ⟨z, rfl⟩ := int_of e1 (by simpa using e2)
                      have hz : isNum 0 (n - 1) (.int z) = (decide (0 ≤ z) && decide (z < n)) := by
                        show (decide (0 ≤ z) && decide (z ≤ n - 1)) = _
                        rw [show decide (z ≤ n - 1) = decide (z < n) from decide_eq_decide.mpr (by omega)]
                      rw [hz]
                      exact de_one <| de_chain op_le op_lt (pe := pe_chain op_le op_lt pe_self pe_self pe_self) <| de_int <| nm 2 rfl <| r2_b ⟨_, rfl, fun e3 => de_ix ix_seq <| nm 0 rfl <| de_int <| r2_ix (.tup _) (d := .int n) rfl <| r2_b ⟨by rw [e3, Bool.true_and], rfl⟩, fun e3 => ⟨by rw [e3]; rfl, rfl⟩⟩
                    · exact ⟨by rw [num_not (.inr (by simpa using e2))], rfl⟩
                    · exact ⟨by rw [num_not (.inl e1)], rfl⟩
                  rw [all_id]
                  have e : ([p, q].all fun d => isNum 0 (n - 1) d) = (isNum 0 (n - 1) p && isNum 0 (n - 1) q) := by simp
                  rw [e]
                  have e2 : isWay n (.tuple [p, q]) = ((isNum 0 (n - 1) p && isNum 0 (n - 1) q) && ltI p q) := rfl
                  cases hc : (isNum 0 (n - 1) p && isNum 0 (n - 1) q) with
                  | false =>
                    exact orT rfl <| waysT rfl <| db_cons <| ds_ret <| de_bl <| hbad i _ hx (by rw [e2, hc]; rfl) _
                  | true =>
                    obtain ⟨ha, hb⟩ := Bool.and_eq_true_iff.mp hc
                    obtain ⟨u, rfl, _⟩ := num_int ha
                    obtain ⟨v, rfl, _⟩ := num_int hb
                    rw [hc, Bool.true_and] at e2
                    refine orF rfl <| dw_or1 <| dt_cmp op_ge <| de_ix ix_seq <| nm 1 rfl <| de_int <| r2_ix (.tup _) (d := .int u) rfl <| de_ix ix_seq <| nm 1 rfl <| de_int <| r2_ix (.tup _) (d := .int v) rfl <| r2_t <| waysD (fun h7 => db_cons <| ds_ret <| de_bl <| hbad i _ hx (by rw [e2]; exact decide_eq_false (Int.not_lt.mpr h7)) _) (fun h7 => db_drop 1 <| db_nil <| db_nil ⟨hnext (by rw [e2]; exact decide_eq_true (Int.not_le.mp h7)), _, rfl⟩)
              · rintro M' ρ' ⟨hal, s1, rfl⟩
                rw [List.take_length] at hal
                rw [hal, Bool.true_and] at hW
                have hw2 := ways_are hal
                have hlen : (ws.map wayOf).length = ws.length := List.length_map _
                have pa : ∀ j : Nat, j < ws.length → atI ws (j : Int) = some (prI ((ws.map wayOf).getD j (0, 0))) := fun j hj => by
                  have := pr_at (ps := ws.map wayOf) (k := j) (by rw [hlen]; exact hj)
                  rwa [← hw2] at this
                refine db_cons <| ds_ret <| de_all g_al <| de_lcF 3 (fun d => .bool (ascAt (ws.map wayOf) (natOf d))) <| di_range1 g_ra <| da_cons <| de_op op_sub <| de_len g_le <| de_ix ix_seq <| nm 0 rfl <| de_int <| r2_ix (.tup _) (d := .tuple ws) rfl ⟨ws, .tup _, de_int <| r2_i <| da_nil ⟨_, rfl, by omega, by omega, by rw [rngD_len]; omega, fun _ _ _ => trivial, ?_, fun D => ⟨_, allF, ?_⟩⟩⟩
                · intro d D acc hd b
                  obtain ⟨i, hi, rfl⟩ := rngD_mem hd
                  rw [Int.zero_add]
                  refine de_cmp (op_ltT hr.units0) <| de_ix ix_seq <| de_ix ix_seq <| nm 0 rfl <| de_int <| r2_ix (.tup _) (d := .tuple ws) rfl <| nm 3 rfl <| r2_ix (.tup _) (pa i (by omega)) <| de_ix ix_seq <| de_ix ix_seq <| nm 0 rfl <| de_int <| r2_ix (.tup _) (d := .tuple ws) rfl <| de_op op_add <| nm 3 rfl <| de_int <| r2_i <| r2_ix (.tup _) (show atI ws ((i : Int) + 1) = some (prI ((ws.map wayOf).getD (i + 1) (0, 0))) from pa (i + 1) (by omega)) <| r2_ltT (ns := [_, _]) (ms := [_, _]) ⟨rfl, rfl⟩
                · rw [all_id, show ((ws.length : Int) - 1).toNat = ws.length - 1 by omega, rng0, all_nat (t := ascAt (ws.map wayOf)) fun q _ => rfl]
                  have h8 := hW ((D, MC.lst ((natL (List.range (ws.length - 1))).map fun d => .bool (ascAt (ws.map wayOf) (natOf d)))) :: M')
                  unfold ascP at h8
                  rwa [hlen] at h8
          · exact hcut (by simp at h4; simp [isNum]; omega)
          · exact hcut (by simp [isNum]; omega)
        · have := hW M
          rwa [park_num (num_not (.inr h2))] at this
      · have h1 : isInt a = false := by simpa using h1
        refine waysT rfl <| db_cons <| ds_ret <| de_bl ?_
        have := hW M
        rwa [park_num (num_not (.inl h1))] at this
end
end H72
set_option maxHeartbeats 2000000
namespace H72
open PySem PySem.Spec PyProof.Rows L2 DL PK
structure PkOk (g : Nat × Ed) : Prop where
  n0 : 1 ≤ g.1
  n : g.1 ≤ 12
  e : g.2.length ≤ 200
  up : ∀ e ∈ g.2, e.1 < e.2 ∧ e.2 < g.1
  nd : g.2.Nodup
def nearN (es : Ed) (p : Nat) : List Nat := es.filterMap fun e => if p = e.1 ∨ p = e.2 then some (e.1 + e.2 - p) else none
theorem nearN_take {es : Ed} {i : Nat} {e : Nat × Nat} {p : Nat} (h : es[i]? = some e) : nearN (es.take (i + 1)) p = nearN (es.take i) p ++ (if p = e.1 ∨ p = e.2 then [e.1 + e.2 - p] else []) := by
  unfold nearN
  rw [take_get h, List.filterMap_append]
  congr 1
  by_cases c : p = e.1 ∨ p = e.2
  · rw [if_pos c]; simp [c]
  · rw [if_neg c]; simp [c]
theorem nearN_len (es : Ed) (p : Nat) : (nearN es p).length ≤ es.length := List.length_filterMap_le _ _
theorem mem_nearN {es : Ed} (up : ∀ e ∈ es, e.1 < e.2) {p q : Nat} : q ∈ nearN es p ↔ (p, q) ∈ es ∨ (q, p) ∈ es := by
  unfold nearN
  rw [List.mem_filterMap]
  constructor
  · rintro ⟨e, he, h⟩
    have := up e he
    by_cases c : p = e.1 ∨ p = e.2
    · rw [if_pos c] at h
      have h : e.1 + e.2 - p = q := Option.some.inj h
      rcases c with c | c
      · exact .inl (by rw [show (p, q) = e from Prod.ext c (by show q = e.2; omega)]; exact he)
      · exact .inr (by rw [show (q, p) = e from Prod.ext (by show q = e.1; omega) c]; exact he)
    · rw [if_neg c] at h; cases h
  · rintro (h | h)
    · exact ⟨_, h, by rw [if_pos (.inl rfl)]; show some (p + q - p) = _; rw [Nat.add_sub_cancel_left]⟩
    · exact ⟨_, h, by rw [if_pos (.inr rfl)]; show some (q + p - p) = _; rw [Nat.add_sub_cancel]⟩
theorem near_nd {es : Ed} (nd : es.Nodup) (up : ∀ e ∈ es, e.1 < e.2) (p : Nat) : (nearN es p).Nodup := by
  induction es with
  | nil => exact List.nodup_nil
  | cons e es ih =>
    obtain ⟨h1, h2⟩ := List.nodup_cons.mp nd
    have ih := ih h2 fun e he => up e (List.mem_cons_of_mem _ he)
    have he := up e List.mem_cons_self
    unfold nearN at ih ⊢
    rw [List.filterMap_cons]
    by_cases c : p = e.1 ∨ p = e.2
    · rw [if_pos c]
      refine List.nodup_cons.mpr ⟨fun h => ?_, ih⟩
      obtain ⟨e', he', h3⟩ := List.mem_filterMap.mp h
      have hu := up e' (List.mem_cons_of_mem _ he')
      by_cases c' : p = e'.1 ∨ p = e'.2
      · rw [if_pos c'] at h3
        have h4 : e'.1 + e'.2 - p = e.1 + e.2 - p := Option.some.inj h3
        refine h1 ?_
        have e1 : e.1 = e'.1 := by omega
        have e2 : e.2 = e'.2 := by omega
        rw [show e = e' from Prod.ext e1 e2]
        exact he'
      · rw [if_neg c'] at h3; cases h3
    · rw [if_neg c]; exact ih
theorem up_eq {a b : List Nat} (ha : a.Pairwise (· < ·)) (hb : b.Pairwise (· < ·)) (h : ∀ x, x ∈ a ↔ x ∈ b) : a = b :=
  sort_up ((List.perm_ext_iff_of_nodup (ha.imp fun h => by omega) (hb.imp fun h => by omega)).mpr h) (ha.imp fun h => by omega) (hb.imp fun h => by omega)
theorem adj_iff {es : Ed} {p q : Nat} : adj es p q = true ↔ q = p ∨ (p, q) ∈ es ∨ (q, p) ∈ es := by
  unfold adj
  simp only [Bool.or_eq_true, decide_eq_true_iff, or_assoc]
theorem near_sorted {g : Nat × Ed} (h : PkOk g) {p : Nat} (hp : p < g.1) {T : List Nat} (p1 : T.Perm (nearN g.2 p ++ [p])) (p2 : T.Pairwise (· ≤ ·)) : T = nearL g.1 g.2 p := by
  have up1 : ∀ e ∈ g.2, e.1 < e.2 := fun e he => (h.up e he).1
  have nd : (nearN g.2 p ++ [p]).Nodup := List.nodup_append.mpr ⟨near_nd h.nd up1 p, by simp, fun a ha b hb e => by
    rw [List.mem_singleton.mp hb] at e
    subst e
    rcases (mem_nearN up1).mp ha with z | z <;> exact absurd (h.up _ z).1 (by simp)⟩
  refine up_eq ?_ (List.pairwise_lt_range.filter _) fun x => ?_
  · exact List.Pairwise.imp₂ (fun a b h1 h2 => by omega) p2 (p1.nodup_iff.mpr nd)
  · rw [p1.mem_iff, List.mem_append, List.mem_singleton, mem_near, mem_nearN up1, adj_iff]
    constructor
    · rintro ((z | z) | z)
      · exact ⟨(h.up _ z).2, .inr (.inl z)⟩
      · have := h.up _ z
        exact ⟨Nat.lt_trans this.1 this.2, .inr (.inr z)⟩
      · exact ⟨z ▸ hp, .inl z⟩
    · rintro ⟨_, z | z⟩
      · exact .inr z
      · exact .inl z
def rowsT (g : Nat × Ed) : PyData := .tuple ((List.range g.1).map fun p => .tuple (natL (nearL g.1 g.2 p)))
def rowsL (g : Nat × Ed) : PyData := .list ((List.range g.1).map fun p => .list (natL (nearL g.1 g.2 p)))
theorem rowT_at {g : Nat × Ed} {p : Nat} (h : p < g.1) : atI ((List.range g.1).map fun p => PyData.tuple (natL (nearL g.1 g.2 p))) (p : Int) = some (.tuple (natL (nearL g.1 g.2 p))) := atI_at (by omega) (by
  rw [Int.toNat_natCast, List.getElem?_map, List.getElem?_range h]
  rfl)
theorem rowL_at {g : Nat × Ed} {p : Nat} (h : p < g.1) : atI ((List.range g.1).map fun p => PyData.list (natL (nearL g.1 g.2 p))) (p : Int) = some (.list (natL (nearL g.1 g.2 p))) := atI_at (by omega) (by
  rw [Int.toNat_natCast, List.getElem?_map, List.getElem?_range h]
  rfl)
theorem nearL_len (n : Nat) (es : Ed) (p : Nat) : (nearL n es p).length ≤ n := by
  have := List.length_filter_le (adj es p) (List.range n)
  rwa [List.length_range] at this
section
variable {P : Program} {w : World} {K : PySem.W.Frag} {mg : Str → Option Value} {base : Heap} {f : Addr} {fd : FuncData}
theorem sc_near : FnScope ["park", "n", "ways", "found", "place", "rows", "i", "j"] ["park"] (defScope s_near) := ⟨rfl, rfl, rfl, by decide +kernel, rfl, by decide +kernel, by decide +kernel⟩
abbrev R_near := Pu (fun g : Nat × Ed => [.d (grD g)]) PkOk rowsT
theorem ok_near {k : Nat} (Fn : FnP K "near" s_near f fd) (g_ra : mg "range" = none) (g_tu : mg "tuple" = none) (g_so : mg "sorted" = none) : FnOk P w K mg base CX0 (k + 1) f fd ["park"] (SpG K R_near) := by
  refine fn_okD Fn sc_near (fun κ M W h => ?_) fun cdv A outer s H E hr nd B0 F0 κ M W hR => ?_
  · obtain ⟨ns, rfl, _⟩ := h
    rfl
  · obtain ⟨⟨n, es⟩, hκ, hg, hW⟩ := hR
    have hκ : κ = [.d (.tuple [.int (n : Nat), .tuple (edL es)])] := hκ
    subst hκ
    have hg : PkOk (n, es) := hg
    have hn : n ≤ 12 := hg.n
    have hes : es.length ≤ 200 := hg.e
    have hW : ∀ M', W (.d (rowsT (n, es))) M' := hW
    refine db_cons <| ds_asg <| nm 0 rfl <| dg_tup rfl <| dgs_cons <| dg_name 1 <| dgs_cons <| dg_name 2 <| dgs_nil ?_
    refine db_cons <| ds_set 3 <| de_lstC <| da_nil ⟨[], rfl, z0, fun q => ?_⟩
    refine db_cons <| ds_for <| di_range1 g_ra <| da_cons <| nm 1 rfl <| da_nil ⟨_, rfl, by omega, by omega, fun p M' ρ' => ∃ s4 s5, M' = (q, MC.lst ((List.range p).map fun p => .tuple (natL (nearL n es p)))) :: M ∧ ρ' = [.d (.tuple [.int (n : Nat), .tuple (edL es)]), .d (.int (n : Nat)), .d (.tuple (edL es)), .v (.ref q), s4, s5, .un, .un], ⟨_, _, rfl, rfl⟩, fun _ _ _ _ => trivial, ?_, ?_⟩
    · rintro p d M' ρ' hd ⟨s4, s5, rfl, rfl⟩
      obtain ⟨hp, rfl⟩ := rngD_get hd
      have hp : p < n := by omega
      rw [Int.zero_add]
      refine dg_name 4 ?_
      refine db_cons <| ds_cmp 5 <| du_freeze <| gu_lc2IfC 6 7 (by decide) <| di_tup <| nm 2 rfl ⟨_, rfl, fun D => ⟨fun i acc M' => M' = (q, MC.lst ((List.range p).map fun p => .tuple (natL (nearL n es p)))) :: M ∧ acc = natL (nearN (es.take i) p), ⟨rfl, rfl⟩, fun _ _ _ _ => trivial, ?_, ?_⟩⟩
      · rintro i d acc M' hd ⟨rfl, rfl⟩
        obtain ⟨⟨a, c⟩, he, rfl⟩ := map_get hd
        have hi := (List.getElem?_eq_some_iff.mp he).1
        have hnl := nearN_len (es.take i) p
        rw [List.length_take] at hnl
        refine ⟨_, _, rfl, fun b => dt_cmp op_in_seq <| nm 4 rfl <| de_tup <| da_cons <| nm 6 rfl <| da_cons <| nm 7 rfl <| da_nil ⟨[_, _], rfl, z2, r2_tin (S := [a, c]) (.tup _) (waysD (fun hin => ?_) (fun hin => ?_))⟩⟩
        · have hin : p = a ∨ p = c := by simpa using hin
          refine fun b => de_op op_sub <| de_op op_add <| nm 6 rfl <| nm 7 rfl <| r2_i <| nm 4 rfl <| r2_i ⟨_, _, rfl, rfl, ?_, rfl, ?_⟩
          · rw [natL_len]; omega
          · rw [nearN_take he, if_pos hin, natL_app, show (a : Int) + (c : Int) - (p : Int) = ((a + c - p : Nat) : Int) by omega]
            rfl
        · have hin : ¬ (p = a ∨ p = c) := by simpa using hin
          refine ⟨_, rfl, rfl, ?_⟩
          rw [nearN_take he, if_neg hin, List.append_nil]
      · rintro acc M' ⟨rfl, rfl⟩
        rw [List.length_map, List.take_length]
        have hnl := nearN_len es p
        refine ⟨D, _, _, rfl, rfl, ?_⟩
        refine db_cons <| ds_expr <| de_append 1 <| nm 3 rfl ⟨q, _, rfl, List.mem_cons_self, de_tupleOf g_tu <| de_sortedN hr.units g_so <| de_freeze <| de_op op_cat <| nm 5 rfl <| de_lst <| da_cons <| nm 4 rfl <| da_nil ⟨[_], rfl, z1, r2_catC (.lst _) (.lst _) (by rw [natL_len]; show (nearN es p).length + 1 ≤ 100000; omega) fun l => ⟨l, _, _, rfl, rfl, nearN es p ++ [p], by rw [natL_app]; exact .lst _, by rw [List.length_append]; show (nearN es p).length + 1 ≤ 100000; omega, fun T p1 p2 l2 => ⟨_, .cell List.mem_cons_self, _, _, rfl, rfl, ?_, db_drop 1 <| db_nil ⟨_, _, ?_, rfl⟩⟩⟩⟩⟩
        · rw [List.length_map, List.length_range]; omega
        · rw [near_sorted hg hp p1 p2, List.range_succ, List.map_append]
          rfl
    · rintro M' ρ' ⟨s4, s5, rfl, rfl⟩
      rw [rngD_len, Int.toNat_natCast]
      exact db_cons <| ds_ret <| de_tupleOf g_tu <| nm 3 rfl ⟨_, .cell List.mem_cons_self, hW _⟩
theorem sc_lnear : FnScope ["park", "place", "there"] ["park"] (defScope s__law_near) := ⟨rfl, rfl, rfl, by decide +kernel, rfl, by decide +kernel, by decide +kernel⟩
abbrev R_lnear := Pu (fun g : Nat × Ed => [.d (grD g)]) PkOk rowsL
theorem min_nat (i j : Nat) : (if ((j : Nat) : Int) < ((i : Nat) : Int) then ((j : Nat) : Int) else ((i : Nat) : Int)) = ((min i j : Nat) : Int) := by split <;> omega
theorem max_nat (i j : Nat) : (if ((j : Nat) : Int) > ((i : Nat) : Int) then ((j : Nat) : Int) else ((i : Nat) : Int)) = ((max i j : Nat) : Int) := by split <;> omega
theorem adj_minmax {g : Nat × Ed} (h : PkOk g) (p q : Nat) : (decide (q = p) || decide ((min p q, max p q) ∈ g.2)) = adj g.2 p q := by
  rw [Bool.eq_iff_iff, adj_iff]
  simp only [Bool.or_eq_true, decide_eq_true_iff]
  by_cases c : p ≤ q
  · rw [Nat.min_eq_left c, Nat.max_eq_right c]
    refine or_congr_right ⟨.inl, fun z => z.elim id fun z => ?_⟩
    have := (h.up _ z).1
    simp at this
    omega
  · rw [Nat.min_eq_right (by omega), Nat.max_eq_left (by omega)]
    refine or_congr_right ⟨.inr, fun z => z.elim (fun z => ?_) id⟩
    have := (h.up _ z).1
    simp at this
    omega
theorem ok_lnear {k : Nat} (Fn : FnP K "_law_near" s__law_near f fd) (g_ra : mg "range" = none) (g_mi : mg "min" = none) (g_ma : mg "max" = none) : FnOk P w K mg base CX0 (k + 1) f fd ["park"] (SpG K R_lnear) := by
  refine fn_okD Fn sc_lnear (fun κ M W h => ?_) fun cdv A outer s H E hr nd B0 F0 κ M W hR => ?_
  · obtain ⟨ns, rfl, _⟩ := h
    rfl
  · obtain ⟨⟨n, es⟩, hκ, hg, hW⟩ := hR
    have hκ : κ = [.d (.tuple [.int (n : Nat), .tuple (edL es)])] := hκ
    subst hκ
    have hg : PkOk (n, es) := hg
    have hn : n ≤ 12 := hg.n
    have hW : ∀ M', W (.d (rowsL (n, es))) M' := hW
    refine db_cons <| ds_ret <| de_freeze <| de_lcF 1 (fun d => .list (natL (nearL n es (natOf d)))) <| di_range1 g_ra <| da_cons <| de_ix ix_seq <| nm 0 rfl <| de_int <| r2_ix (.tup _) (d := .int (n : Nat)) rfl <| da_nil ⟨_, rfl, by omega, by omega, by rw [rngD_len]; omega, fun _ _ _ => trivial, ?_, fun D => ⟨D, _, _, rfl, rfl, ?_⟩⟩
    · intro d D acc hd b
      obtain ⟨p, hp, rfl⟩ := rngD_mem hd
      rw [Int.zero_add]
      refine de_freeze <| de_filN 2 (adj es p) <| di_range1 g_ra <| da_cons <| de_ix ix_seq <| nm 0 rfl <| de_int <| r2_ix (.tup _) (d := .int (n : Nat)) rfl <| da_nil ⟨_, rfl, by omega, by omega, List.range n, by rw [Int.toNat_natCast, rng0], by rw [List.length_range]; omega, fun _ _ _ => trivial, ?_, fun D2 => ⟨D2, _, _, rfl, rfl, rfl, rfl⟩⟩
      intro q D2 acc2 hq b2
      refine dt_w <| dw_orP <| dt_cmp op_eq <| nm 2 rfl <| nm 1 rfl <| r2_teqN ⟨decide ((min p q, max p q) ∈ es), fun _ => dw_or1 <| dt_cmp (op_inT2 hr.units) <| de_tup <| da_cons <| de_callB (call_min2 rfl) g_mi bt_min <| da_cons <| nm 1 rfl <| da_cons <| nm 2 rfl <| da_nil <| rn_min2 <| da_cons <| de_callB (call_max2 rfl) g_ma bt_max <| da_cons <| nm 1 rfl <| da_cons <| nm 2 rfl <| da_nil <| rn_max2 <| da_nil ⟨[_, _], rfl, z2, ?_⟩, adj_minmax hg p q, rfl⟩
      rw [min_nat, max_nat]
      exact de_ix ix_seq <| nm 0 rfl <| de_int <| r2_ix (.tup _) (d := .tuple (edL es)) rfl <| r2_inPT (e := (min p q, max p q)) ⟨_, rfl, rfl, rfl⟩
    · rw [Int.toNat_natCast, rng0]
      have := hW M
      unfold rowsL natL at *
      rw [List.map_map]
      exact this
end
end H72
set_option maxHeartbeats 2000000
namespace H72
open PySem PySem.Spec PyProof.Rows L2 DL PK
section
variable {P : Program} {w : World} {K : PySem.W.Frag} {mg : Str → Option Value} {base : Heap} {f : Addr} {fd : FuncData}
theorem sc_ic : FnScope ["rows", "left", "u", "v", "there"] ["rows", "left", "u", "v"] (defScope s_is_corner) := ⟨rfl, rfl, rfl, by decide +kernel, rfl, by decide +kernel, by decide +kernel⟩
/-- a promise on a row that is read only -/
def R_ic (rows : Nat × Ed → PyData) (c : Nat → Ed → List Nat → Nat → Nat → Bool) : List Sl → Cs → (Sl → Cs → Prop) → Prop := fun κ _ W => ∃ (g : Nat × Ed) (s : Sl) (L : List Nat) (u v : Nat), κ = [.d (rows g), s, .d (.int (u : Nat)), .d (.int (v : Nat))] ∧ SeqK s (natL L) ∧ g.1 ≤ 12 ∧ u < g.1 ∧ v < g.1 ∧ ∀ M', W (.d (.bool (c g.1 g.2 L u v))) M'
theorem ok_ic {k : Nat} (Fn : FnP K "is_corner" s_is_corner f fd) (g_al : mg "all" = none) : FnOk P w K mg base CX0 (k + 1) f fd ["rows", "left", "u", "v"] (SpG K (R_ic rowsT cornerB)) := by
  refine fn_okD Fn sc_ic (fun κ M W h => ?_) fun cdv A outer s H E hr nd B0 F0 κ M W hR => ?_
  · obtain ⟨g, s, L, u, v, rfl, _⟩ := h
    rfl
  · obtain ⟨g, sl, L, u, v, rfl, hs, hn, hu, hv, hW⟩ := hR
    have hun := hs.un
    have hl := nearL_len g.1 g.2 u
    unfold cornerB at hW
    refine db_cons <| ds_ret <| de_and <| de_cmp op_ne <| nm 2 rfl <| nm 3 rfl <| r2_neI ⟨_, rfl, fun h1 => ?_, fun h1 => ?_⟩
    · have h1 : u ≠ v := by simp at h1; omega
      rw [decide_eq_true h1, Bool.true_and] at hW
      refine de_and <| de_cmp op_in_seq <| nm 3 rfl <| de_ix ix_seq <| nm 0 rfl <| nm 2 rfl <| r2_ix (.tup _) (rowT_at hu) <| r2_inN (.tup _) ⟨_, rfl, fun h2 => ?_, fun h2 => ?_⟩
      · rw [h2, Bool.true_and] at hW
        refine de_one <| de_all g_al <| de_lcIfF 4 (fun d => decide (natOf d ∈ L)) (fun d => .bool (decide (natOf d ∈ nearL g.1 g.2 v))) <| di_tup <| de_ix ix_seq <| nm 0 rfl <| nm 2 rfl <| r2_ix (.tup _) (rowT_at hu) ⟨_, rfl, by rw [natL_len]; omega, fun _ _ _ => trivial, ?_, ?_, fun D => ⟨_, allF, ?_⟩⟩
        · intro d D acc hd b
          obtain ⟨t, ht, rfl⟩ := nat_mem hd
          exact dt_cmp op_in_seq <| nm 4 rfl <| nm 1 rfl (hu := hun) <| r2_tin hs.seq ⟨rfl, rfl⟩
        · intro d D acc hd _ b
          obtain ⟨t, ht, rfl⟩ := nat_mem hd
          exact de_cmp op_in_seq <| nm 4 rfl <| de_ix ix_seq <| nm 0 rfl <| nm 3 rfl <| r2_ix (.tup _) (rowT_at hv) <| r2_inN (.tup _) ⟨rfl, rfl⟩
        · rw [all_id, natL_filter (t := fun t => decide (t ∈ L)) fun q _ => rfl, all_nat (t := fun t => decide (t ∈ nearL g.1 g.2 v)) fun q _ => rfl]
          exact hW _
      · rw [h2, Bool.false_and] at hW
        exact hW _
    · have h1 : ¬ u ≠ v := by simp at h1; omega
      rw [decide_eq_false h1, Bool.false_and] at hW
      exact hW _
theorem sc_lic : FnScope ["rows", "left", "u", "v", "there"] ["rows", "left", "u", "v"] (defScope s__law_is_corner) := ⟨rfl, rfl, rfl, by decide +kernel, rfl, by decide +kernel, by decide +kernel⟩
theorem ok_lic {k : Nat} (Fn : FnP K "_law_is_corner" s__law_is_corner f fd) (g_al : mg "all" = none) : FnOk P w K mg base CX0 (k + 1) f fd ["rows", "left", "u", "v"] (SpG K (R_ic rowsL cornerC)) := by
  refine fn_okD Fn sc_lic (fun κ M W h => ?_) fun cdv A outer s H E hr nd B0 F0 κ M W hR => ?_
  · obtain ⟨g, s, L, u, v, rfl, _⟩ := h
    rfl
  · obtain ⟨g, sl, L, u, v, rfl, hs, hn, hu, hv, hW⟩ := hR
    have hun := hs.un
    have hl := nearL_len g.1 g.2 u
    unfold cornerC at hW
    refine db_cons <| ds_ret <| de_and <| de_cmp op_ne <| nm 2 rfl <| nm 3 rfl <| r2_neI ⟨_, rfl, fun h1 => ?_, fun h1 => ?_⟩
    · have h1 : u ≠ v := by simp at h1; omega
      rw [decide_eq_true h1, Bool.true_and] at hW
      refine de_one <| de_all g_al <| de_lcIfF 4 (fun d => decide (natOf d ∈ L)) (fun d => .bool (decide (natOf d ∈ nearL g.1 g.2 v))) <| di_list <| de_ix ix_seq <| nm 0 rfl <| nm 2 rfl <| r2_ix (.lst _) (rowL_at hu) ⟨_, rfl, by rw [natL_len]; omega, fun _ _ _ => trivial, ?_, ?_, fun D => ⟨_, allF, ?_⟩⟩
      · intro d D acc hd b
        obtain ⟨t, ht, rfl⟩ := nat_mem hd
        exact dt_cmp op_in_seq <| nm 4 rfl <| nm 1 rfl (hu := hun) <| r2_tin hs.seq ⟨rfl, rfl⟩
      · intro d D acc hd _ b
        obtain ⟨t, ht, rfl⟩ := nat_mem hd
        exact de_cmp op_in_seq <| nm 4 rfl <| de_ix ix_seq <| nm 0 rfl <| nm 3 rfl <| r2_ix (.lst _) (rowL_at hv) <| r2_inN (.lst _) ⟨rfl, rfl⟩
      · rw [all_id, natL_filter (t := fun t => decide (t ∈ L)) fun q _ => rfl, all_nat (t := fun t => decide (t ∈ nearL g.1 g.2 v)) fun q _ => rfl]
        exact hW _
    · have h1 : ¬ u ≠ v := by simp at h1; omega
      rw [decide_eq_false h1, Bool.false_and] at hW
      exact hW _
theorem sc_co : FnScope ["park", "left", "rows", "u", "v"] ["park", "left"] (defScope s_corners) := ⟨rfl, rfl, rfl, by decide +kernel, rfl, by decide +kernel, by decide +kernel⟩
def R_co : List Sl → Cs → (Sl → Cs → Prop) → Prop := fun κ _ W => ∃ (g : Nat × Ed) (s : Sl) (L : List Nat), κ = [.d (grD g), s] ∧ SeqK s (natL L) ∧ PkOk g ∧ L.length ≤ 20 ∧ (∀ x ∈ L, x < g.1) ∧ ∀ M', W (.d (.tuple (edL (cornersL g.1 g.2 L)))) M'
theorem corners_data {L : List Nat} {c : Nat → Nat → Bool} : ((natL L).flatMap fun d => ((natL L).filter fun e => c (natOf d) (natOf e)).map fun e => epD (natOf d, natOf e)) = edL (L.flatMap fun u => (L.filter (c u)).map fun v => (u, v)) := by
  unfold natL
  show _ = List.map epD (List.flatMap _ _)
  rw [List.flatMap_map, List.map_flatMap]
  congr 1
  funext u
  rw [List.filter_map, List.map_map, List.map_map]
  rfl
theorem flat_len {α β : Type} {L : List α} {r : α → List β} {n : Nat} (h : ∀ x ∈ L, (r x).length ≤ n) : (L.flatMap r).length ≤ L.length * n := by
  induction L with
  | nil => simp
  | cons x L ih =>
    have h1 := h x List.mem_cons_self
    have h2 := ih fun y hy => h y (List.mem_cons_of_mem _ hy)
    rw [List.flatMap_cons, List.length_append, List.length_cons, Nat.succ_mul]
    omega
theorem ok_co {k : Nat} (Fn : FnP K "corners" s_corners f fd) (Gn : Go P w K mg base "near" k ["park"] R_near) (Gi : Go P w K mg base "is_corner" k ["rows", "left", "u", "v"] (R_ic rowsT cornerB)) (g_tu : mg "tuple" = none) : FnOk P w K mg base CX0 (k + 1) f fd ["park", "left"] (SpG K R_co) := by
  refine fn_okD Fn sc_co (fun κ M W h => ?_) fun cdv A outer s H E hr nd B0 F0 κ M W hR => ?_
  · obtain ⟨g, s, L, rfl, _⟩ := h
    rfl
  · obtain ⟨g, sl, L, rfl, hs, hg, hL, hlt, hW⟩ := hR
    have hun := hs.un
    have hgn := hg.n
    refine db_cons <| ds_set 2 <| de_pu Gn hr <| da_cons <| nm 0 rfl <| da_nil <| da_pu g rfl hg ?_
    refine db_cons <| ds_ret <| de_tupleOf g_tu <| de_lcGG 3 4 (by decide) (fun _ => natL L) (fun d e => cornerB g.1 g.2 L (natOf d) (natOf e)) (fun d e => epD (natOf d, natOf e)) <| di_seqK hs <| nm 1 rfl (hu := hun) ⟨rfl, ?_, fun _ _ => trivial, ?_, fun D => ⟨_, .cell List.mem_cons_self, ?_⟩⟩
    · refine Nat.le_trans (flat_len (n := 20) fun x _ => by rw [natL_len]; exact hL) ?_
      rw [natL_len]
      omega
    · intro d D acc hd b
      obtain ⟨u, hu, rfl⟩ := nat_mem hd
      refine di_seqK hs <| nm 1 rfl (hu := hun) ⟨rfl, rfl, rfl, fun _ => trivial, ?_, ?_⟩
      · intro e acc' he b2
        obtain ⟨v, hv, rfl⟩ := nat_mem he
        exact dt_val <| de_go Gi hr <| da_cons <| nm 2 rfl <| da_cons <| nm 1 rfl (hu := hun) <| da_cons <| nm 3 rfl <| da_cons <| nm 4 rfl <| da_nil ⟨_, Views.refl _, g, sl, L, u, v, rfl, hs, hgn, hlt u hu, hlt v hv, fun _ => ⟨_, rfl, _, rfl, rfl, rfl⟩⟩
      · intro e acc' he _ b2
        obtain ⟨v, hv, rfl⟩ := nat_mem he
        exact de_tup <| da_cons <| nm 3 rfl <| da_cons <| nm 4 rfl <| da_nil ⟨[_, _], rfl, z2, rfl, rfl⟩
    · rw [corners_data (c := cornerB g.1 g.2 L)]
      exact hW _
theorem sc_flat : FnScope ["rows", "found", "row"] ["rows"] (defScope s__law_flat) := ⟨rfl, rfl, rfl, by decide +kernel, rfl, by decide +kernel, by decide +kernel⟩
abbrev R_flat := Pu (fun rows : List (List PyData) => [.d (.list (rows.map .list))]) (fun rows => rows.flatten.length ≤ 10000) (fun rows => .list rows.flatten)
theorem ok_flat {k : Nat} (Fn : FnP K "_law_flat" s__law_flat f fd) : FnOk P w K mg base CX0 (k + 1) f fd ["rows"] (SpG K R_flat) := by
  refine fn_okD Fn sc_flat (fun κ M W h => ?_) fun cdv A outer s H E hr nd B0 F0 κ M W hR => ?_
  · obtain ⟨ns, rfl, _⟩ := h
    rfl
  · obtain ⟨rows, rfl, hn, hW⟩ := hR
    have hn : rows.flatten.length ≤ 10000 := hn
    have hW : ∀ M', W (.d (.list rows.flatten)) M' := hW
    refine db_cons <| ds_set 1 <| de_lstC <| da_nil ⟨[], rfl, z0, fun p => ?_⟩
    refine db_cons <| ds_for <| di_list <| nm 0 rfl ⟨_, rfl, fun i M' ρ' => ∃ s2, M' = (p, .lst (rows.take i).flatten) :: M ∧ ρ' = [.d (.list (rows.map .list)), .v (.ref p), s2], ⟨_, rfl, rfl⟩, fun _ _ _ _ => trivial, ?_, ?_⟩
    · rintro i d M' ρ' hd ⟨s2, rfl, rfl⟩
      obtain ⟨r, hz, rfl⟩ := map_get hd
      have hlen : (rows.take (i + 1)).flatten.length ≤ rows.flatten.length := by
        have := congrArg List.length (congrArg List.flatten (List.take_append_drop (i + 1) rows))
        rw [List.flatten_append, List.length_append] at this
        omega
      rw [take_get hz, List.flatten_append, List.length_append] at hlen
      refine dg_name 2 <| db_cons <| ds_expr <| de_extend 0 <| nm 1 rfl ⟨p, _, rfl, List.mem_cons_self, nm 2 rfl ⟨_, r, .lst _, rfl, ?_, db_nil ⟨.d (.list r), ?_, rfl⟩⟩⟩
      · have e1 : ([r] : List (List PyData)).flatten.length = r.length := by simp
        omega
      · rw [take_get hz, List.flatten_append]
        simp
    · rintro M' ρ' ⟨s2, rfl, rfl⟩
      rw [List.length_map, List.take_length]
      exact db_cons <| ds_ret <| de_freeze <| nm 1 rfl ⟨p, _, _, rfl, rfl, hW _⟩
theorem sc_lco : FnScope ["rows", "left", "u", "v"] ["rows", "left"] (defScope s__law_corners) := ⟨rfl, rfl, rfl, by decide +kernel, rfl, by decide +kernel, by decide +kernel⟩
def R_lco : List Sl → Cs → (Sl → Cs → Prop) → Prop := fun κ _ W => ∃ (g : Nat × Ed) (s : Sl) (L : List Nat), κ = [.d (rowsL g), s] ∧ SeqK s (natL L) ∧ PkOk g ∧ L.length ≤ 20 ∧ LOk g.1 L ∧ ∀ M', W (.d (.list (edL (cornersL g.1 g.2 L)))) M'
theorem ok_lco {k : Nat} (Fn : FnP K "_law_corners" s__law_corners f fd) (Gf : Go P w K mg base "_law_flat" k ["rows"] R_flat) (Gi : Go P w K mg base "_law_is_corner" k ["rows", "left", "u", "v"] (R_ic rowsL cornerC)) : FnOk P w K mg base CX0 (k + 1) f fd ["rows", "left"] (SpG K R_lco) := by
  refine fn_okD Fn sc_lco (fun κ M W h => ?_) fun cdv A outer s H E hr nd B0 F0 κ M W hR => ?_
  · obtain ⟨g, s, L, rfl, _⟩ := h
    rfl
  · obtain ⟨g, sl, L, rfl, hs, hg, hL, hok, hW⟩ := hR
    have hun := hs.un
    have hgn := hg.n
    have hlt := hok.lt
    refine db_cons <| ds_ret <| de_pu Gf hr <| da_cons <| de_freeze <| de_lcF 2 (fun d => .list (edL ((L.filter (cornerB g.1 g.2 L (natOf d))).map fun v => (natOf d, v)))) <| di_seqK hs <| nm 1 rfl (hu := hun) ⟨rfl, by rw [natL_len]; omega, fun _ _ _ => trivial, ?_, fun D => ⟨D, _, _, rfl, rfl, da_nil <| da_pu (L.map fun u => edL ((L.filter (cornerB g.1 g.2 L u)).map fun v => (u, v))) ?_ ?_ ?_⟩⟩
    · intro d D acc hd b
      obtain ⟨u, hu, rfl⟩ := nat_mem hd
      refine de_freeze <| de_lcIfF 3 (fun e => cornerB g.1 g.2 L u (natOf e)) (fun e => epD (u, natOf e)) <| di_seqK hs <| nm 1 rfl (hu := hun) ⟨rfl, by rw [natL_len]; omega, fun _ _ _ => trivial, ?_, ?_, fun D2 => ⟨D2, _, _, rfl, rfl, ?_, rfl⟩⟩
      · intro e D2 acc2 he b2
        obtain ⟨v, hv, rfl⟩ := nat_mem he
        exact dt_val <| de_go Gi hr <| da_cons <| nm 0 rfl <| da_cons <| nm 1 rfl (hu := hun) <| da_cons <| nm 2 rfl <| da_cons <| nm 3 rfl <| da_nil ⟨_, Views.refl _, g, sl, L, u, v, rfl, hs, hgn, hlt u hu, hlt v hv, fun _ => ⟨_, rfl, _, rfl, corner_C hok hu hv, rfl⟩⟩
      · intro e D2 acc2 he _ b2
        obtain ⟨v, hv, rfl⟩ := nat_mem he
        exact de_tup <| da_cons <| nm 2 rfl <| da_cons <| nm 3 rfl <| da_nil ⟨[_, _], rfl, z2, rfl, rfl⟩
      · rw [natL_filter (t := cornerB g.1 g.2 L u) fun q _ => rfl]
        show Sl.d (.list (List.map _ (List.map _ _))) = Sl.d (.list (List.map _ (List.map _ _)))
        rw [List.map_map, List.map_map]
        rfl
    · show [Sl.d (.list (List.map _ (List.map _ _)))] = [Sl.d (.list (List.map _ (List.map _ _)))]
      rw [List.map_map, List.map_map]
      rfl
    · have e : (L.map fun u => edL ((L.filter (cornerB g.1 g.2 L u)).map fun v => (u, v))).flatten.length ≤ L.length * 20 := by
        rw [← List.flatMap_def]
        refine flat_len fun x _ => ?_
        rw [List.length_map, List.length_map]
        exact Nat.le_trans (List.length_filter_le _ _) hL
      omega
    · have e : (L.map fun u => edL ((L.filter (cornerB g.1 g.2 L u)).map fun v => (u, v))).flatten = edL (cornersL g.1 g.2 L) := by
        unfold cornersL
        rw [← List.flatMap_def, show edL = List.map epD from rfl, List.map_flatMap]
      rw [e]
      exact hW _
end
end H72
set_option maxHeartbeats 2000000
namespace H72
open PySem PySem.Spec PyProof.Rows L2 DL PK
def stepI (g : Nat × Ed) (L : List Nat) (u v : Int) : Option (List Nat) := if 0 ≤ u ∧ 0 ≤ v ∧ u.toNat ∈ L ∧ v.toNat ∈ L ∧ cornerB g.1 g.2 L u.toNat v.toNat = true then some (L.erase u.toNat) else none
def stepD (g : Nat × Ed) (L : List Nat) : PyData → Option (List Nat)
  | .tuple [.int u, .int v] => stepI g L u v
  | _ => none
def leftL (g : Nat × Ed) : List PyData → List Nat → Option (List Nat)
  | [], L => some L
  | p :: ps, L => (stepD g L p).bind (leftL g ps)
def leftD (g : Nat × Ed) : PyData → Option (List Nat)
  | .tuple ps => leftL g ps (List.range g.1)
  | _ => none
def optD : Option (List Nat) → PyData
  | none => .none
  | some L => .list (natL L)
theorem leftL_snoc (g : Nat × Ed) (p : PyData) : ∀ (ps : List PyData) (L : List Nat), leftL g (ps ++ [p]) L = (leftL g ps L).bind fun L => stepD g L p
  | [], L => by
    show (stepD g L p).bind (leftL g []) = stepD g L p
    cases stepD g L p <;> rfl
  | q :: ps, L => by
    show (stepD g L q).bind (leftL g (ps ++ [p])) = ((stepD g L q).bind (leftL g ps)).bind _
    cases stepD g L q with
    | none => rfl
    | some L' => exact leftL_snoc g p ps L'
theorem drop_at {α : Type} {l : List α} {i : Nat} {x : α} (h : l[i]? = some x) : l.drop i = x :: l.drop (i + 1) := by
  obtain ⟨h1, h2⟩ := List.getElem?_eq_some_iff.mp h
  rw [List.drop_eq_getElem_cons h1, h2]
theorem step_ep {g : Nat × Ed} {L : List Nat} {u v : Nat} : stepD g L (epD (u, v)) = if u ∈ L ∧ v ∈ L ∧ cornerB g.1 g.2 L u v = true then some (L.erase u) else none := by
  show stepI g L (u : Int) (v : Int) = _
  unfold stepI
  rw [Int.toNat_natCast, Int.toNat_natCast]
  by_cases c : u ∈ L ∧ v ∈ L ∧ cornerB g.1 g.2 L u v = true
  · rw [if_pos c, if_pos ⟨by omega, by omega, c⟩]
  · rw [if_neg c, if_neg fun z => c z.2.2]
theorem step_not {g : Nat × Ed} {L : List Nat} {d : PyData} (h : isTup d = false) : stepD g L d = none := by
  cases d with
  | tuple ds => cases h
  | _ => rfl
theorem step_len {g : Nat × Ed} {L : List Nat} {ds : List PyData} (h : ds.length ≠ 2) : stepD g L (.tuple ds) = none := by
  match ds, h with
  | [], _ => rfl
  | [x], _ => cases x <;> rfl
  | [_, _], h => exact absurd rfl h
  | x :: y :: z :: r, _ =>
    unfold stepD
    split
    · rename_i e
      simp at e
    · rfl
theorem step_num {g : Nat × Ed} {L : List Nat} (hL : LOk g.1 L) {a b : PyData} (h : (isNum 0 ((g.1 : Int) - 1) a && isNum 0 ((g.1 : Int) - 1) b) = false) : stepD g L (.tuple [a, b]) = none := by
  cases a <;> try (cases b <;> rfl)
  rename_i u
  cases b <;> try rfl
  rename_i v
  show stepI g L u v = none
  unfold stepI
  refine if_neg fun ⟨h1, h2, h3, h4, _⟩ => ?_
  have h5 := hL.lt _ h3
  have h6 := hL.lt _ h4
  have : (isNum 0 ((g.1 : Int) - 1) (.int u) && isNum 0 ((g.1 : Int) - 1) (.int v)) = true := by
    simp [isNum]
    omega
  rw [this] at h
  cases h
/-- a step taken keeps what is left fine -/
theorem _root_.PK.Left.step {g : Nat × Ed} {L L' : List Nat} {p : PyData} (h : Left g.1 g.2 L) (e : stepD g L p = some L') : Left g.1 g.2 L' := by
  unfold stepD at e
  split at e
  · unfold stepI at e
    split at e
    · rename_i u v c
      cases e
      exact h.take ((corner_iff h.ok c.2.2.1 c.2.2.2.1).mp c.2.2.2.2)
    · cases e
  · cases e
theorem _root_.PK.Left.all {g : Nat × Ed} : ∀ {ps : List PyData} {L L' : List Nat}, Left g.1 g.2 L → leftL g ps L = some L' → Left g.1 g.2 L'
  | [], L, L', h, e => by cases e; exact h
  | p :: ps, L, L', h, e => by
    have e : (stepD g L p).bind (leftL g ps) = some L' := e
    cases c : stepD g L p with
    | none => rw [c] at e; cases e
    | some L2 =>
      rw [c] at e
      exact PK.Left.all (h.step c) e
theorem lok_len {n : Nat} {L : List Nat} (h : LOk n L) : L.length ≤ n := by
  have : ∀ (a b : List Nat), a.Nodup → (∀ x ∈ a, x ∈ b) → a.length ≤ b.length := fun a => by
    induction a with
    | nil => exact fun _ _ _ => Nat.zero_le _
    | cons x a ih =>
      intro b hn hs
      obtain ⟨n1, n2⟩ := List.nodup_cons.mp hn
      have hx := hs x List.mem_cons_self
      have h5 := ih (b.erase x) n2 fun y hy => (List.mem_erase_of_ne fun z => n1 (by rw [← z]; exact hy)).mpr (hs y (List.mem_cons_of_mem _ hy))
      rw [List.length_erase_of_mem hx] at h5
      have := List.length_pos_of_mem hx
      rw [List.length_cons]
      omega
  have := this L (List.range n) h.nd fun x hx => List.mem_range.mpr (h.lt x hx)
  rwa [List.length_range] at this
section
variable {P : Program} {w : World} {K : PySem.W.Frag} {mg : Str → Option Value} {base : Heap} {f : Addr} {fd : FuncData}
theorem sc_lb : FnScope ["park", "value", "rows", "left", "pair", "place", "u", "v"] ["park", "value"] (defScope s_left_behind) := ⟨rfl, rfl, rfl, by decide +kernel, rfl, by decide +kernel, by decide +kernel⟩
abbrev R_lb := Pu (fun a : (Nat × Ed) × PyData => [.d (grD a.1), .d a.2]) (fun a => PkOk a.1 ∧ ∃ m, GV 1000 m a.2) (fun a => optD (leftD a.1 a.2))
theorem ok_lb {k : Nat} (Fn : FnP K "left_behind" s_left_behind f fd) (Gn : Go P w K mg base "near" k ["park"] R_near) (Gi : Go P w K mg base "is_corner" k ["rows", "left", "u", "v"] (R_ic rowsT cornerB)) (Gm : Go P w K mg base "is_number" k ["value", "least", "most"] R_num) (g_is : mg "isinstance" = none) (g_tu : mg "tuple" = none) (g_al : mg "all" = none) (g_le : mg "len" = none) (g_li : mg "list" = none) (g_ra : mg "range" = none) : FnOk P w K mg base CX0 (k + 1) f fd ["park", "value"] (SpG K R_lb) := by
  refine fn_okD Fn sc_lb (fun κ M W h => ?_) fun cdv A outer s H E hr nd B0 F0 κ M W hR => ?_
  · obtain ⟨ns, rfl, _⟩ := h
    rfl
  · obtain ⟨⟨g, d⟩, hκ, ⟨hg, m, hgv⟩, hW⟩ := hR
    have hκ : κ = [.d (grD g), .d d] := hκ
    subst hκ
    have hg : PkOk g := hg
    have hgn := hg.n
    have hgv : GV 1000 m d := hgv
    have hW : ∀ M', W (.d (optD (leftD g d))) M' := hW
    cases hd : isTup d with
    | false =>
      have e : leftD g d = none := by
        cases d with
        | tuple ds => cases hd
        | _ => rfl
      rw [e] at hW
      exact db_cons <| ds_if <| dt_not <| dt_val <| de_isi bt_tuple g_is g_tu <| nm 1 rfl ⟨d, _, rfl, kTup _ d, _, rfl, waysT (by rw [hd]; rfl) <| db_cons <| ds_ret <| de_non <| hW _⟩
    | true =>
      obtain ⟨ps, rfl⟩ := tup_of hd
      obtain ⟨hpl, _⟩ := hgv.tup
      refine db_cons <| ds_if <| dt_not <| dt_val <| de_isi bt_tuple g_is g_tu <| nm 1 rfl ⟨_, _, rfl, kTup _ _, _, rfl, waysF rfl <| db_nil ?_⟩
      have hW : ∀ M', W (.d (optD (leftL g ps (List.range g.1)))) M' := hW
      refine db_cons <| ds_par 2 3 <| da_cons <| de_pu Gn hr <| da_cons <| nm 0 rfl <| da_nil <| da_pu g rfl hg <| da_cons <| de_lstRg1 g_li g_ra <| de_ix ix_seq <| nm 0 rfl <| de_int <| r2_ix (.tup _) (d := .int (g.1 : Nat)) rfl ⟨_, rfl, ⟨by omega, by omega, by omega, by omega, by omega⟩, fun l => da_nil ⟨_, _, rfl, ?_⟩⟩
      rw [Int.toNat_natCast, rng0]
      refine db_cons <| ds_for <| di_tup <| nm 1 rfl ⟨ps, rfl, fun i M' ρ' => ∃ L s4 s6 s7, M' = (l, MC.lst (natL L)) :: M ∧ Left g.1 g.2 L ∧ leftL g (ps.drop i) L = leftL g ps (List.range g.1) ∧ ρ' = [.d (grD g), .d (.tuple ps), .d (rowsT g), .v (.ref l), s4, .un, s6, s7], ⟨List.range g.1, _, _, _, rfl, .start _ hg.n0, rfl, rfl⟩, fun _ _ _ _ => trivial, ?_, ?_⟩
      · rintro i x M' ρ' hx ⟨L, s4, s6, s7, rfl, hL, he, rfl⟩
        rw [drop_at hx] at he
        have he : (stepD g L x).bind (leftL g (ps.drop (i + 1))) = leftL g ps (List.range g.1) := he
        have hbad : stepD g L x = none → ∀ M', W (.d .none) M' := fun h M' => by
          rw [h] at he
          have := hW M'
          rw [← he] at this
          exact this
        have hLl := lok_len hL.ok
        refine dg_name 4 ?_
        cases psh x with
        | not hd =>
          exact db_cons <| ds_if <| dt_w <| dw_or <| dt_not <| dt_val <| de_isi bt_tuple g_is g_tu <| nm 4 rfl ⟨x, _, rfl, kTup _ x, _, rfl, orT (by rw [hd]; rfl) <| waysT rfl <| db_cons <| ds_ret <| de_non <| hbad (step_not hd) _⟩
        | @len ds h2 =>
          exact db_cons <| ds_if <| dt_w <| dw_or <| dt_not <| dt_val <| de_isi bt_tuple g_is g_tu <| nm 4 rfl ⟨_, _, rfl, kTup _ _, _, rfl, orF rfl <| dw_or1 <| dt_cmp op_ne <| de_len g_le <| nm 4 rfl ⟨ds, .tup _, de_int <| r2_tne <| waysT (by simp; omega) <| db_cons <| ds_ret <| de_non <| hbad (step_len h2) _⟩⟩
        | two a b =>
          refine db_cons <| ds_if <| dt_w <| dw_or <| dt_not <| dt_val <| de_isi bt_tuple g_is g_tu <| nm 4 rfl ⟨_, _, rfl, kTup _ _, _, rfl, orF rfl <| dw_or1 <| dt_cmp op_ne <| de_len g_le <| nm 4 rfl ⟨[a, b], .tup _, de_int <| r2_tne <| waysF rfl <| db_nil ?_⟩⟩
          refine db_cons <| ds_if <| dt_not <| dt_val <| de_all g_al <| de_lcF 5 (fun d => .bool (isNum 0 ((g.1 : Int) - 1) d)) <| di_tup <| nm 4 rfl ⟨_, rfl, z2, fun _ _ _ => trivial, fun d D acc hd b => ?_, fun D => ⟨_, allF, _, rfl, ?_⟩⟩
          · exact de_pu Gm hr <| da_cons <| nm 5 rfl <| da_cons <| de_int <| da_cons <| de_op op_sub <| de_ix ix_seq <| nm 0 rfl <| de_int <| r2_ix (.tup _) (d := .int (g.1 : Nat)) rfl <| de_int <| r2_i <| da_nil <| da_pu (d, 0, (g.1 : Int) - 1) rfl trivial ⟨rfl, rfl⟩
          rw [all_id, show ([a, b].all fun d => isNum 0 ((g.1 : Int) - 1) d) = (isNum 0 ((g.1 : Int) - 1) a && isNum 0 ((g.1 : Int) - 1) b) by simp]
          cases hc : (isNum 0 ((g.1 : Int) - 1) a && isNum 0 ((g.1 : Int) - 1) b) with
          | false => exact waysT rfl <| db_cons <| ds_ret <| de_non <| hbad (step_num hL.ok hc) _
          | true =>
            obtain ⟨ha, hb⟩ := Bool.and_eq_true_iff.mp hc
            obtain ⟨u', rfl, hu1, hu2⟩ := num_int ha
            obtain ⟨v', rfl, hv1, hv2⟩ := num_int hb
            obtain ⟨u, rfl⟩ := Int.eq_ofNat_of_zero_le hu1
            obtain ⟨v, rfl⟩ := Int.eq_ofNat_of_zero_le hv1
            have hu : u < g.1 := by omega
            have hv : v < g.1 := by omega
            have hst : stepD g L (.tuple [.int (u : Int), .int (v : Int)]) = if u ∈ L ∧ v ∈ L ∧ cornerB g.1 g.2 L u v = true then some (L.erase u) else none := step_ep
            refine waysF rfl <| db_nil <| db_drop 1 ?_
            refine db_cons <| ds_asg <| nm 4 rfl <| dg_tup rfl <| dgs_cons <| dg_name 6 <| dgs_cons <| dg_name 7 <| dgs_nil ?_
            refine db_cons <| ds_if <| dt_w <| dw_or <| dt_cmp op_notIn_seq <| nm 6 rfl <| nm 3 rfl <| r2_tni (.cell List.mem_cons_self) <| orW (fun h1 => ?_) (fun h1 => waysT rfl <| db_cons <| ds_ret <| de_non <| hbad (by rw [hst, if_neg fun z => by simp [z.1] at h1]) _)
            have h1 : u ∈ L := by simpa using h1
            refine dw_or <| dt_cmp op_notIn_seq <| nm 7 rfl <| nm 3 rfl <| r2_tni (.cell List.mem_cons_self) <| orW (fun h2 => ?_) (fun h2 => waysT rfl <| db_cons <| ds_ret <| de_non <| hbad (by rw [hst, if_neg fun z => by simp [z.2.1] at h2]) _)
            have h2 : v ∈ L := by simpa using h2
            refine dw_or1 <| dt_not <| dt_val <| de_go Gi hr <| da_cons <| nm 2 rfl <| da_cons <| nm 3 rfl <| da_cons <| nm 6 rfl <| da_cons <| nm 7 rfl <| da_nil ⟨_, .same (.rd List.mem_cons_self (Views.refl _)), g, _, L, u, v, rfl, .rd _, hgn, hu, hv, fun _ => ⟨_, rfl, _, rfl, ways (fun h3 => db_cons <| ds_ret <| de_non <| hbad (by rw [hst, if_neg fun z => by simp [z.2.2] at h3]) _) (fun h3 => db_nil ?_)⟩⟩
            have h3 : cornerB g.1 g.2 L u v = true := by simpa using h3
            have hs2 : stepD g L (.tuple [.int (u : Int), .int (v : Int)]) = some (L.erase u) := by rw [hst, if_pos ⟨h1, h2, h3⟩]
            rw [hs2] at he
            exact db_cons <| ds_expr <| de_remove 0 <| nm 3 rfl ⟨l, _, rfl, List.mem_cons_self, nm 6 rfl ⟨L, u, rfl, rfl, h1, db_nil ⟨L.erase u, _, _, _, rfl, hL.step hs2, he, rfl⟩⟩⟩
      · rintro M' ρ' ⟨L, s4, s6, s7, rfl, hL, he, rfl⟩
        rw [List.drop_length] at he
        have he : some L = leftL g ps (List.range g.1) := he
        rw [← he] at hW
        exact db_cons <| ds_ret <| de_freeze <| nm 3 rfl ⟨l, _, _, rfl, rfl, hW _⟩
end
end H72
set_option maxHeartbeats 2000000
namespace H72
open PySem PySem.Spec PyProof.Rows L2 DL PK
def apartB (g : Nat × Ed) (d : PyData) : Bool := match leftD g d with
  | some L => decide (L.length = 1)
  | none => false
def stuckB (g : Nat × Ed) (d : PyData) : Bool := match leftD g d with
  | some L => decide (1 < L.length) && decide (cornersL g.1 g.2 L = [])
  | none => false
theorem left_ok {g : Nat × Ed} (hg : PkOk g) {d : PyData} {L : List Nat} (h : leftD g d = some L) : Left g.1 g.2 L := by
  unfold leftD at h
  split at h
  · exact (Left.start g.2 hg.n0).all h
  · cases h
def isP2 : PyData → Bool
  | .tuple [_, _] => true
  | _ => false
theorem step_p2 {g : Nat × Ed} {L : List Nat} {d : PyData} (h : isP2 d = false) : stepD g L d = none := by
  cases psh d with
  | not hd => exact step_not hd
  | len h2 => exact step_len h2
  | two a b => cases h
theorem left_p2 {g : Nat × Ed} : ∀ {ps : List PyData} {L : List Nat}, ps.all isP2 = false → leftL g ps L = none
  | [], L, h => by cases h
  | p :: ps, L, h => by
    show (stepD g L p).bind (leftL g ps) = none
    rw [List.all_cons, Bool.and_eq_false_iff] at h
    rcases h with h | h
    · rw [step_p2 h]; rfl
    · cases stepD g L p with
      | none => rfl
      | some L' => exact left_p2 h
section
variable {P : Program} {w : World} {K : PySem.W.Frag} {mg : Str → Option Value} {base : Heap} {f : Addr} {fd : FuncData}
theorem sc_ia : FnScope ["park", "value", "left"] ["park", "value"] (defScope s_is_apart) := ⟨rfl, rfl, rfl, by decide +kernel, rfl, by decide +kernel, by decide +kernel⟩
abbrev R_ia (b : Nat × Ed → PyData → Bool) := Pu (fun a : (Nat × Ed) × PyData => [.d (grD a.1), .d a.2]) (fun a => PkOk a.1 ∧ ∃ m, GV 1000 m a.2) (fun a => .bool (b a.1 a.2))
def isNon : PyData → Bool
  | .none => true
  | _ => false
theorem r2_notN {K : PySem.W.Frag} {B0 F : Hp} {ρ κ : List Sl} {M : Cs} {P : Sl → Cs → Prop} {x : PyData} (h : P (.d (.bool (!isNon x))) M) : R2D K B0 F ρ κ (fun x y H Q => y = .non ∧ Q (.bl (!decide (x = .non))) H) (.d x) (.d .none) M P := fun σ vs H v y Q g qq => by
  obtain ⟨B, g⟩ := g
  have hy : y = .non := Rp.non_inv (show Rp K B y .none from g.fst)
  have r : Rp K B v x := g.pop.fst
  refine ⟨hy, qq _ H _ M ⟨B, g.pop.pop.pushD ?_⟩ h⟩
  have e : decide (v = V.non) = isNon x := by
    cases r <;> simp [isNon]
  rw [e]
  exact .bl _
theorem ok_ia {k : Nat} (Fn : FnP K "is_apart" s_is_apart f fd) (Gl : Go P w K mg base "left_behind" k ["park", "value"] R_lb) (g_le : mg "len" = none) : FnOk P w K mg base CX0 (k + 1) f fd ["park", "value"] (SpG K (R_ia apartB)) := by
  refine fn_okD Fn sc_ia (fun κ M W h => ?_) fun cdv A outer s H E hr nd B0 F0 κ M W hR => ?_
  · obtain ⟨ns, rfl, _⟩ := h
    rfl
  · obtain ⟨⟨g, d⟩, hκ, ⟨hg, m, hgv⟩, hW⟩ := hR
    have hκ : κ = [.d (grD g), .d d] := hκ
    subst hκ
    have hg : PkOk g := hg
    have hW : ∀ M', W (.d (.bool (apartB g d))) M' := hW
    refine db_cons <| ds_set 2 <| de_pu Gl hr <| da_cons <| nm 0 rfl <| da_cons <| nm 1 rfl <| da_nil <| da_pu (g, d) rfl ⟨hg, m, hgv⟩ ?_
    unfold apartB at hW
    show DB _ _ _ _ [.d (grD g), .d d, .d (optD (leftD g d))] _ _ _
    cases hl : leftD g d with
    | none =>
      rw [hl] at hW
      exact db_cons <| ds_ret <| de_and <| de_cmp op_notN <| nm 2 rfl <| de_non <| r2_notN ⟨_, rfl, (fun h => by cases h), fun _ => hW _⟩
    | some L =>
      rw [hl] at hW
      refine db_cons <| ds_ret <| de_and <| de_cmp op_notN <| nm 2 rfl <| de_non <| r2_notN ⟨_, rfl, fun _ => de_one <| de_cmp op_eq <| de_len g_le <| nm 2 rfl ⟨natL L, .lst _, de_int <| r2_eqI ?_⟩, fun h => by cases h⟩
      rw [natL_len, show decide ((L.length : Int) = 1) = decide (L.length = 1) from decide_eq_decide.mpr (by omega)]
      exact hW _
theorem sc_is : FnScope ["park", "value", "left"] ["park", "value"] (defScope s_is_stuck) := ⟨rfl, rfl, rfl, by decide +kernel, rfl, by decide +kernel, by decide +kernel⟩
theorem ok_is {k : Nat} (Fn : FnP K "is_stuck" s_is_stuck f fd) (Gl : Go P w K mg base "left_behind" k ["park", "value"] R_lb) (Gc : Go P w K mg base "corners" k ["park", "left"] R_co) (g_le : mg "len" = none) : FnOk P w K mg base CX0 (k + 1) f fd ["park", "value"] (SpG K (R_ia stuckB)) := by
  refine fn_okD Fn sc_is (fun κ M W h => ?_) fun cdv A outer s H E hr nd B0 F0 κ M W hR => ?_
  · obtain ⟨ns, rfl, _⟩ := h
    rfl
  · obtain ⟨⟨g, d⟩, hκ, ⟨hg, m, hgv⟩, hW⟩ := hR
    have hκ : κ = [.d (grD g), .d d] := hκ
    subst hκ
    have hg : PkOk g := hg
    have hgn := hg.n
    have hW : ∀ M', W (.d (.bool (stuckB g d))) M' := hW
    refine db_cons <| ds_set 2 <| de_pu Gl hr <| da_cons <| nm 0 rfl <| da_cons <| nm 1 rfl <| da_nil <| da_pu (g, d) rfl ⟨hg, m, hgv⟩ ?_
    unfold stuckB at hW
    show DB _ _ _ _ [.d (grD g), .d d, .d (optD (leftD g d))] _ _ _
    cases hl : leftD g d with
    | none =>
      rw [hl] at hW
      exact db_cons <| ds_ret <| de_and <| de_cmp op_notN <| nm 2 rfl <| de_non <| r2_notN ⟨_, rfl, (fun h => by cases h), fun _ => hW _⟩
    | some L =>
      rw [hl] at hW
      have hW : ∀ M', W (.d (.bool (decide (1 < L.length) && decide (cornersL g.1 g.2 L = [])))) M' := hW
      have hL := (left_ok hg hl).ok
      have hLl := lok_len hL
      refine db_cons <| ds_ret <| de_and <| de_cmp op_notN <| nm 2 rfl <| de_non <| r2_notN ⟨_, rfl, fun _ => de_and <| de_cmp op_gt <| de_len g_le <| nm 2 rfl ⟨natL L, .lst _, de_int <| r2_b ⟨_, rfl, fun h1 => ?_, fun h1 => ?_⟩⟩, fun h => by cases h⟩
      · rw [natL_len] at h1
        have h1 : 1 < L.length := by simp at h1; omega
        rw [decide_eq_true h1, Bool.true_and] at hW
        refine de_one <| de_notD <| de_go Gc hr <| da_cons <| nm 0 rfl <| da_cons <| nm 2 rfl <| da_nil ⟨_, Views.refl _, g, _, L, rfl, .lst _, hg, by omega, hL.lt, fun _ => ⟨_, rfl, _, rfl, (fun x h => nomatch h), ?_⟩⟩
        have e : (!truD (.tuple (edL (cornersL g.1 g.2 L)))) = decide (cornersL g.1 g.2 L = []) := by
          cases cornersL g.1 g.2 L with
          | nil => rfl
          | cons a b => rfl
        rw [e]
        exact hW _
      · rw [natL_len] at h1
        have h1 : ¬ 1 < L.length := by simp at h1; omega
        rw [decide_eq_false h1, Bool.false_and] at hW
        exact hW _
end
end H72
set_option maxHeartbeats 2000000
namespace H72
open PySem PySem.Spec PyProof.Rows L2 DL PK
theorem step_int {g : Nat × Ed} {L : List Nat} {a b : PyData} (h : (isInt a && !isBool a && (isInt b && !isBool b)) = false) : stepD g L (.tuple [a, b]) = none := by
  cases a <;> try (cases b <;> rfl)
  cases b <;> first | rfl | cases h
section
variable {P : Program} {w : World} {K : PySem.W.Frag} {mg : Str → Option Value} {base : Heap} {f : Addr} {fd : FuncData}
theorem sc_ll : FnScope ["park", "value", "pair", "rows", "left", "u", "v", "place"] ["park", "value"] (defScope s__law_left) := ⟨rfl, rfl, rfl, by decide +kernel, rfl, by decide +kernel, by decide +kernel⟩
def p2f (d : PyData) : Bool := match d with
  | .tuple ds => decide (ds.length = 2)
  | _ => false
theorem p2f_eq (d : PyData) : p2f d = isP2 d := by
  cases psh d with
  | @not d hd =>
    cases d with
    | tuple ds => cases hd
    | _ => rfl
  | @len ds h2 =>
    have e : p2f (.tuple ds) = false := decide_eq_false h2
    rw [e]
    match ds, h2 with
    | [], _ => rfl
    | [_], _ => rfl
    | [_, _], h => exact absurd rfl h
    | _ :: _ :: _ :: _, _ => rfl
  | two a b => rfl
theorem ok_ll {k : Nat} (Fn : FnP K "_law_left" s__law_left f fd) (Gn : Go P w K mg base "_law_near" k ["park"] R_lnear) (Gi : Go P w K mg base "_law_is_corner" k ["rows", "left", "u", "v"] (R_ic rowsL cornerC)) (g_is : mg "isinstance" = none) (g_tu : mg "tuple" = none) (g_in : mg "int" = none) (g_bo : mg "bool" = none) (g_al : mg "all" = none) (g_le : mg "len" = none) (g_li : mg "list" = none) (g_ra : mg "range" = none) : FnOk P w K mg base CX0 (k + 1) f fd ["park", "value"] (SpG K R_lb) := by
  refine fn_okD Fn sc_ll (fun κ M W h => ?_) fun cdv A outer s H E hr nd B0 F0 κ M W hR => ?_
  · obtain ⟨ns, rfl, _⟩ := h
    rfl
  · obtain ⟨⟨g, d⟩, hκ, ⟨hg, m, hgv⟩, hW⟩ := hR
    have hκ : κ = [.d (grD g), .d d] := hκ
    subst hκ
    have hg : PkOk g := hg
    have hgn := hg.n
    have hgv : GV 1000 m d := hgv
    have hW : ∀ M', W (.d (optD (leftD g d))) M' := hW
    cases hd : isTup d with
    | false =>
      have e : leftD g d = none := by
        cases d with
        | tuple ds => cases hd
        | _ => rfl
      rw [e] at hW
      exact db_cons <| ds_if <| dt_w <| dw_or <| dt_not <| dt_val <| de_isi bt_tuple g_is g_tu <| nm 1 rfl ⟨d, _, rfl, kTup _ d, _, rfl, orT (by rw [hd]; rfl) <| waysT rfl <| db_cons <| ds_ret <| de_non <| hW _⟩
    | true =>
      obtain ⟨ps, rfl⟩ := tup_of hd
      obtain ⟨hpl, _⟩ := hgv.tup
      have hW : ∀ M', W (.d (optD (leftL g ps (List.range g.1)))) M' := hW
      refine db_cons <| ds_if <| dt_w <| dw_or <| dt_not <| dt_val <| de_isi bt_tuple g_is g_tu <| nm 1 rfl ⟨_, _, rfl, kTup _ _, _, rfl, orF rfl <| dw_or1 <| dt_not <| dt_val <| de_all g_al <| de_lcF 2 (fun d => .bool (p2f d)) <| di_tup <| nm 1 rfl ⟨ps, rfl, by omega, fun _ _ _ => trivial, fun d D acc hd b => ?_, fun D => ⟨_, allF, _, rfl, ?_⟩⟩⟩
      · cases h : isTup d with
        | false =>
          refine de_and <| de_isi bt_tuple g_is g_tu <| nm 2 rfl ⟨d, _, rfl, kTup _ d, _, rfl, (fun z => by rw [h] at z; cases z), fun _ => ⟨?_, rfl⟩⟩
          cases d with
          | tuple ds => cases h
          | _ => rfl
        | true =>
          obtain ⟨ds, rfl⟩ := tup_of h
          refine de_and <| de_isi bt_tuple g_is g_tu <| nm 2 rfl ⟨_, _, rfl, kTup _ _, _, rfl, fun _ => de_one <| de_cmp op_eq <| de_len g_le <| nm 2 rfl ⟨ds, .tup _, de_int <| r2_eqI ⟨?_, rfl⟩⟩, fun z => by cases z⟩
          show Sl.d (.bool _) = Sl.d (.bool (decide (ds.length = 2)))
          rw [show decide ((ds.length : Int) = 2) = decide (ds.length = 2) from decide_eq_decide.mpr (by omega)]
      rw [all_id, show (ps.all fun d => p2f d) = ps.all isP2 from congrArg ps.all (funext p2f_eq)]
      cases hp2 : ps.all isP2 with
      | false =>
        rw [left_p2 hp2] at hW
        exact waysT rfl <| db_cons <| ds_ret <| de_non <| hW _
      | true =>
        refine waysF rfl <| db_nil <| db_drop 1 ?_
        refine db_cons <| ds_par 3 4 <| da_cons <| de_pu Gn hr <| da_cons <| nm 0 rfl <| da_nil <| da_pu g rfl hg <| da_cons <| de_lstRg1 g_li g_ra <| de_ix ix_seq <| nm 0 rfl <| de_int <| r2_ix (.tup _) (d := .int (g.1 : Nat)) rfl ⟨_, rfl, ⟨by omega, by omega, by omega, by omega, by omega⟩, fun l => da_nil ⟨_, _, rfl, ?_⟩⟩
        rw [Int.toNat_natCast, rng0]
        refine db_cons <| ds_for <| di_tup <| nm 1 rfl ⟨ps, rfl, fun i M' ρ' => ∃ L s5 s6, M' = (l, MC.lst (natL L)) :: M ∧ Left g.1 g.2 L ∧ leftL g (ps.drop i) L = leftL g ps (List.range g.1) ∧ ρ' = [.d (grD g), .d (.tuple ps), .un, .d (rowsL g), .v (.ref l), s5, s6, .un], ⟨List.range g.1, _, _, rfl, .start _ hg.n0, rfl, rfl⟩, fun _ _ _ _ => trivial, ?_, ?_⟩
        · rintro i x M' ρ' hx ⟨L, s5, s6, rfl, hL, he, rfl⟩
          rw [drop_at hx] at he
          have he : (stepD g L x).bind (leftL g (ps.drop (i + 1))) = leftL g ps (List.range g.1) := he
          have hbad : stepD g L x = none → ∀ M', W (.d .none) M' := fun h M' => by
            rw [h] at he
            have := hW M'
            rw [← he] at this
            exact this
          have hLl := lok_len hL.ok
          have hx2 : isP2 x = true := List.all_eq_true.mp hp2 x (List.mem_of_getElem? hx)
          cases psh x with
          | not hd =>
            cases x with
            | tuple ds => cases hd
            | _ => cases hx2
          | @len ds h2 =>
            exfalso
            rw [← p2f_eq] at hx2
            exact h2 (of_decide_eq_true hx2)
          | two a b =>
            refine dg_tup rfl <| dgs_cons <| dg_name 5 <| dgs_cons <| dg_name 6 <| dgs_nil ?_
            refine db_cons <| ds_if <| dt_w <| dw_or <| dt_not <| dt_val <| de_all g_al <| de_lcF 7 (fun d => .bool (isInt d && !isBool d)) <| di_tup <| de_tup <| da_cons <| nm 5 rfl <| da_cons <| nm 6 rfl <| da_nil ⟨[a, b], rfl, z2, [a, b], rfl, z2, fun _ _ _ => trivial, fun d D acc hd b => ?_, fun D => ⟨_, allF, _, rfl, ?_⟩⟩
            · exact de_and <| de_isi bt_int g_is g_in <| nm 7 rfl ⟨d, _, rfl, kInt _ d, _, rfl, fun e1 => de_one <| de_not <| de_isi bt_bool g_is g_bo <| nm 7 rfl ⟨d, _, rfl, kBool _ d, _, rfl, by rw [e1, Bool.true_and], rfl⟩, fun e1 => ⟨by rw [e1]; rfl, rfl⟩⟩
            rw [all_id, show ([a, b].all fun d => isInt d && !isBool d) = (isInt a && !isBool a && (isInt b && !isBool b)) by simp]
            cases hc : (isInt a && !isBool a && (isInt b && !isBool b)) with
            | false => exact orT rfl <| waysT rfl <| db_cons <| ds_ret <| de_non <| hbad (step_int hc) _
            | true =>
              simp only [Bool.and_eq_true, Bool.not_eq_true'] at hc
              obtain ⟨u', rfl⟩ := int_of hc.1.1 hc.1.2
              obtain ⟨v', rfl⟩ := int_of hc.2.1 hc.2.2
              have hI : stepD g L (.tuple [.int u', .int v']) = stepI g L u' v' := rfl
              refine orF rfl <| dw_or <| dt_cmp op_notIn_seq <| nm 5 rfl <| nm 4 rfl <| r2_niI (seq_nat (.cell (List.mem_cons_of_mem _ List.mem_cons_self))) ⟨_, rfl, orW (fun h1 => ?_) (fun h1 => waysT rfl <| db_cons <| ds_ret <| de_non <| hbad ?_ _)⟩
              · have h1 : u' ∈ L.map fun i : Nat => (i : Int) := by simpa using h1
                obtain ⟨u, hu, rfl⟩ := List.mem_map.mp h1
                have hun := hL.ok.lt u hu
                refine dw_or <| dt_cmp op_notIn_seq <| nm 6 rfl <| nm 4 rfl <| r2_niI (seq_nat (.cell (List.mem_cons_of_mem _ List.mem_cons_self))) ⟨_, rfl, orW (fun h2 => ?_) (fun h2 => waysT rfl <| db_cons <| ds_ret <| de_non <| hbad ?_ _)⟩
                · have h2 : v' ∈ L.map fun i : Nat => (i : Int) := by simpa using h2
                  obtain ⟨v, hv, rfl⟩ := List.mem_map.mp h2
                  have hvn := hL.ok.lt v hv
                  have hst : stepD g L (.tuple [.int (u : Int), .int (v : Int)]) = if u ∈ L ∧ v ∈ L ∧ cornerB g.1 g.2 L u v = true then some (L.erase u) else none := step_ep
                  refine dw_or1 <| dt_not <| dt_val <| de_go Gi hr <| da_cons <| nm 3 rfl <| da_cons <| nm 4 rfl <| da_cons <| nm 5 rfl <| da_cons <| nm 6 rfl <| da_nil ⟨_, .same (.rd (List.mem_cons_of_mem _ List.mem_cons_self) (Views.refl _)), g, _, L, u, v, rfl, .rd _, hgn, hun, hvn, fun _ => ⟨_, rfl, _, rfl, ?_⟩⟩
                  rw [corner_C hL.ok hu hv]
                  refine ways (fun h3 => db_cons <| ds_ret <| de_non <| hbad (by rw [hst, if_neg fun z => by simp [z.2.2] at h3]) _) (fun h3 => db_nil <| db_drop 1 ?_)
                  have h3 : cornerB g.1 g.2 L u v = true := by simpa using h3
                  have hs2 : stepD g L (.tuple [.int (u : Int), .int (v : Int)]) = some (L.erase u) := by rw [hst, if_pos ⟨hu, hv, h3⟩]
                  rw [hs2] at he
                  exact db_cons <| ds_expr <| de_remove 0 <| nm 4 rfl ⟨l, _, rfl, List.mem_cons_self, nm 5 rfl ⟨L, u, rfl, rfl, hu, db_nil ⟨L.erase u, _, _, rfl, hL.step hs2, he, rfl⟩⟩⟩
                · rw [hI]
                  unfold stepI
                  refine if_neg fun z => ?_
                  have : v' ∈ L.map fun i : Nat => (i : Int) := List.mem_map.mpr ⟨v'.toNat, z.2.2.2.1, by omega⟩
                  simp at h2
                  obtain ⟨y, hy, e⟩ := List.mem_map.mp this
                  exact h2 y hy e
              · rw [hI]
                unfold stepI
                refine if_neg fun z => ?_
                have : u' ∈ L.map fun i : Nat => (i : Int) := List.mem_map.mpr ⟨u'.toNat, z.2.2.1, by omega⟩
                simp at h1
                obtain ⟨y, hy, e⟩ := List.mem_map.mp this
                exact h1 y hy e
        · rintro M' ρ' ⟨L, s5, s6, rfl, hL, he, rfl⟩
          rw [List.drop_length] at he
          have he : some L = leftL g ps (List.range g.1) := he
          rw [← he] at hW
          exact db_cons <| ds_ret <| de_freeze <| nm 4 rfl ⟨l, _, _, rfl, rfl, hW _⟩
end
end H72
set_option maxHeartbeats 2000000
namespace H72
open PySem PySem.Spec PyProof.Rows L2 DL PK
/-- a row of pairs that takes a park apart, as far as it goes -/
structure Taken (g : Nat × Ed) (ps : Ed) (L : List Nat) : Prop where
  run : leftL g (edL ps) (List.range g.1) = some L
  left : Left g.1 g.2 L
  len : ps.length + L.length = g.1
  lt : ∀ e ∈ ps, e.1 < g.1 ∧ e.2 < g.1
theorem Taken.start {g : Nat × Ed} (hg : PkOk g) : Taken g [] (List.range g.1) := ⟨rfl, .start _ hg.n0, by simp, fun e h => by cases h⟩
theorem Taken.next {g : Nat × Ed} {ps : Ed} {L : List Nat} (h : Taken g ps L) {u v : Nat} (hc : (u, v) ∈ cornersL g.1 g.2 L) : Taken g (ps ++ [(u, v)]) (L.erase u) ∧ u ∈ L ∧ (L.erase u).length < L.length := by
  have k := (mem_corners h.left.ok).mp hc
  have hu : u ∈ L := k.hu
  have hv : v ∈ L := k.hv
  have st : stepD g L (epD (u, v)) = some (L.erase u) := by rw [step_ep, if_pos ⟨hu, hv, (corner_iff h.left.ok hu hv).mpr k⟩]
  have hl := List.length_erase_of_mem hu
  have hp := List.length_pos_of_mem hu
  refine ⟨⟨?_, h.left.step st, ?_, fun e he => ?_⟩, hu, by omega⟩
  · rw [show edL (ps ++ [(u, v)]) = edL ps ++ [epD (u, v)] from List.map_append, leftL_snoc, h.run]
    exact st
  · have := h.len
    rw [List.length_append, List.length_singleton]
    omega
  · rcases List.mem_append.mp he with he | he
    · exact h.lt e he
    · rw [List.mem_singleton.mp he]
      exact ⟨h.left.ok.lt u hu, h.left.ok.lt v hv⟩
def Told (g : Nat × Ed) (y : PyData) : Prop := ∃ ps L, Taken g ps L ∧ ((y = .tuple [.str "apart", .tuple (edL ps)] ∧ L.length = 1) ∨ (y = .tuple [.str "stuck", .tuple (edL ps)] ∧ 1 < L.length ∧ cornersL g.1 g.2 L = []))
theorem ne_len {L : List Nat} (h : L ≠ []) : 0 < L.length := List.length_pos_iff.mpr h
section
variable {P : Program} {w : World} {K : PySem.W.Frag} {mg : Str → Option Value} {base : Heap} {f : Addr} {fd : FuncData}
theorem sc_ta : FnScope ["park", "left", "found", "pairs"] ["park"] (defScope s_take_apart) := ⟨rfl, rfl, rfl, by decide +kernel, rfl, by decide +kernel, by decide +kernel⟩
abbrev R_ta : List Sl → Cs → (Sl → Cs → Prop) → Prop := PuR (fun g : Nat × Ed => [.d (grD g)]) PkOk Told
theorem ok_ta {k : Nat} (Fn : FnP K "take_apart" s_take_apart f fd) (Gc : Go P w K mg base "corners" k ["park", "left"] R_co) (g_le : mg "len" = none) (g_li : mg "list" = none) (g_ra : mg "range" = none) (g_tu : mg "tuple" = none) : FnOk P w K mg base CX0 (k + 1) f fd ["park"] (SpG K R_ta) := by
  refine fn_okD Fn sc_ta (fun κ M W h => ?_) fun cdv A outer s H E hr nd B0 F0 κ M W hR => ?_
  · obtain ⟨ns, rfl, _⟩ := h
    rfl
  · obtain ⟨g, hκ, hg, hW⟩ := hR
    have hκ : κ = [.d (grD g)] := hκ
    subst hκ
    have hg : PkOk g := hg
    have hgn := hg.n
    refine db_cons <| ds_par 1 2 <| da_cons <| de_lstRg1 g_li g_ra <| de_ix ix_seq <| nm 0 rfl <| de_int <| r2_ix (.tup _) (d := .int (g.1 : Nat)) rfl ⟨_, rfl, ⟨by omega, by omega, by omega, by omega, by omega⟩, fun l => da_cons <| de_lstC <| da_nil ⟨[], rfl, z0, fun q => da_nil ⟨_, _, rfl, ?_⟩⟩⟩
    rw [Int.toNat_natCast, rng0]
    refine db_cons <| ds_while (fun m M' ρ' => ∃ L ps s3, M' = (q, MC.lst (edL ps)) :: (l, MC.lst (natL L)) :: M ∧ Taken g ps L ∧ L.length = m ∧ ρ' = [.d (grD g), .v (.ref l), .v (.ref q), s3]) (List.range g.1).length ⟨List.range g.1, [], _, rfl, .start hg, rfl, rfl⟩ ?_
    rintro m M' ρ' ⟨L, ps, s3, rfl, hT, hm, rfl⟩
    have hlen := hT.len
    refine dt_cmp op_gt <| de_len g_le <| nm 1 rfl ⟨natL L, .cell (List.mem_cons_of_mem _ List.mem_cons_self), de_int <| r2_t (waysD (fun h => ?_) (fun h => ?_))⟩
    · rw [natL_len] at h
      have h : 1 < L.length := by omega
      refine db_cons <| ds_set 3 <| de_go Gc hr <| da_cons <| nm 0 rfl <| da_cons <| nm 1 rfl <| da_nil ⟨_, .same (.rd (List.mem_cons_of_mem _ List.mem_cons_self) (Views.refl _)), g, _, L, rfl, .rd _, hg, by omega, hT.left.ok.lt, fun _ => ⟨_, rfl, ?_⟩⟩
      refine db_cons <| ds_if <| dt_not <| dt_truth <| nm 3 rfl ⟨_, rfl, (fun x h => nomatch h), ?_⟩
      cases hc : cornersL g.1 g.2 L with
      | nil =>
        exact waysT rfl <| db_cons <| ds_ret <| de_tup <| da_cons <| de_str <| da_cons <| de_tupleOf g_tu <| nm 2 rfl ⟨_, .cell List.mem_cons_self, da_nil ⟨[_, _], rfl, z2, hW _ _ ⟨ps, L, hT, .inr ⟨rfl, h, hc⟩⟩⟩⟩
      | cons e cs =>
        obtain ⟨u, v⟩ := e
        obtain ⟨hT2, hu, hlt⟩ := hT.next (u := u) (v := v) (by rw [hc]; exact List.mem_cons_self)
        refine waysF rfl <| db_nil ?_
        refine db_cons <| ds_expr <| de_append 0 <| nm 2 rfl ⟨q, _, rfl, List.mem_cons_self, de_ix ix_seq <| nm 3 rfl <| de_int <| r2_ix (.tup _) (d := epD (u, v)) (atI_at (by decide) rfl) ⟨_, _, rfl, rfl, by rw [List.length_map]; omega, ?_⟩⟩
        exact db_cons <| ds_expr <| de_remove 1 <| nm 1 rfl ⟨l, _, rfl, List.mem_cons_of_mem _ List.mem_cons_self, de_ix ix_seq <| de_ix ix_seq <| nm 3 rfl <| de_int <| r2_ix (.tup _) (d := epD (u, v)) (atI_at (by decide) rfl) <| de_int <| r2_ix (.tup _) (d := .int (u : Nat)) rfl ⟨L, u, rfl, rfl, hu, db_nil ⟨(L.erase u).length, by omega, L.erase u, ps ++ [(u, v)], _, by rw [show edL (ps ++ [(u, v)]) = edL ps ++ [epD (u, v)] from List.map_append]; rfl, hT2, rfl, rfl⟩⟩⟩
    · rw [natL_len] at h
      have h0 := ne_len hT.left.ne
      have h : L.length = 1 := by omega
      exact db_cons <| ds_ret <| de_tup <| da_cons <| de_str <| da_cons <| de_tupleOf g_tu <| nm 2 rfl ⟨_, .cell List.mem_cons_self, da_nil ⟨[_, _], rfl, z2, hW _ _ ⟨ps, L, hT, .inl ⟨rfl, h⟩⟩⟩⟩
theorem sc_lap : FnScope ["box", "park", "rows", "left", "found", "some", "pair"] ["box", "park"] (defScope s__law_apart) := ⟨rfl, rfl, rfl, by decide +kernel, rfl, by decide +kernel, by decide +kernel⟩
def R_lap (bx cs : Addr) : List Sl → Cs → (Sl → Cs → Prop) → Prop := fun κ M W => ∃ (g : Nat × Ed), κ = [.v (.ref bx), .d (grD g)] ∧ Box bx cs M ∧ PkOk g ∧ ∀ ps L M', Taken g ps L → (L.length = 1 ∨ 1 < L.length ∧ cornersL g.1 g.2 L = []) → Box bx cs M' → W (.d (.tuple [.tuple (edL ps), .bool (decide (L.length = 1))])) M'
theorem ne_nil_ep (cs : Ed) : (!PyData.eqv (.list (edL cs)) (.list [])) = decide (cs ≠ []) := by
  cases cs with
  | nil => rfl
  | cons a b => rfl
theorem ok_lap {k : Nat} {bx cs : Addr} (Fn : FnP K "_law_apart" s__law_apart f fd) (Gn : Go P w K mg base "_law_near" k ["park"] R_lnear) (Gc : Go P w K mg base "_law_corners" k ["rows", "left"] R_lco) (Gd : Go P w K mg base "_law_draw" k ["box", "many"] (R_draw bx cs)) (g_le : mg "len" = none) (g_li : mg "list" = none) (g_ra : mg "range" = none) (g_tu : mg "tuple" = none) : FnOk P w K mg base CX0 (k + 1) f fd ["box", "park"] (SpG K (R_lap bx cs)) := by
  refine fn_okD Fn sc_lap (fun κ M W h => ?_) fun cdv A outer s H E hr nd B0 F0 κ M W hR => ?_
  · obtain ⟨ns, rfl, _⟩ := h
    rfl
  · obtain ⟨g, rfl, hb, hg, hW⟩ := hR
    have hgn := hg.n
    refine db_cons <| ds_par3 2 3 4 <| da_cons <| de_pu Gn hr <| da_cons <| nm 1 rfl <| da_nil <| da_pu g rfl hg <| da_cons <| de_lstRg1 g_li g_ra <| de_ix ix_seq <| nm 1 rfl <| de_int <| r2_ix (.tup _) (d := .int (g.1 : Nat)) rfl ⟨_, rfl, ⟨by omega, by omega, by omega, by omega, by omega⟩, fun l => da_cons <| de_lstC <| da_nil ⟨[], rfl, z0, fun q => da_nil ⟨_, _, _, rfl, ?_⟩⟩⟩
    rw [Int.toNat_natCast, rng0]
    refine db_cons <| ds_while (fun m M' ρ' => ∃ L ps s5 s6 M2, M' = (q, MC.lst (edL ps)) :: (l, MC.lst (natL L)) :: M2 ∧ Box bx cs M2 ∧ Taken g ps L ∧ L.length = m ∧ ρ' = [.v (.ref bx), .d (grD g), .d (rowsL g), .v (.ref l), .v (.ref q), s5, s6]) (List.range g.1).length ⟨List.range g.1, [], _, _, M, rfl, hb, .start hg, rfl, rfl⟩ ?_
    rintro m M' ρ' ⟨L, ps, s5, s6, M2, rfl, hb2, hT, hm, rfl⟩
    have hlen := hT.len
    have hok := hT.left.ok
    have fin : (L.length = 1 ∨ 1 < L.length ∧ cornersL g.1 g.2 L = []) → DB (cxOf CX0 P w K mg base ["box", "park", "rows", "left", "found", "some", "pair"] "_law_apart" (defScope s__law_apart) f cdv A outer s H E).nox B0 F0 ((q, MC.lst (edL ps)) :: (l, MC.lst (natL L)) :: M2) [.v (.ref bx), .d (grD g), .d (rowsL g), .v (.ref l), .v (.ref q), s5, s6] [] ((defBody s__law_apart).drop 2) { nx := fun M' ρ' => W (.d .none) M', rt := W } := fun h => by
      refine db_cons <| ds_retM 2 <| de_tup <| da_cons <| de_tupleOf g_tu <| nm 4 rfl ⟨_, .cell List.mem_cons_self, da_cons <| de_cmp op_eq <| de_len g_le <| nm 3 rfl ⟨natL L, .cell (List.mem_cons_of_mem _ List.mem_cons_self), de_int <| r2_eqI <| da_nil ⟨[_, _], rfl, z2, ?_⟩⟩⟩
      rw [natL_len, show decide ((L.length : Int) = 1) = decide (L.length = 1) from decide_eq_decide.mpr (by omega)]
      exact hW ps L M2 hT h hb2
    refine dt_w <| dw_and <| dt_cmp op_gt <| de_len g_le <| nm 3 rfl ⟨natL L, .cell (List.mem_cons_of_mem _ List.mem_cons_self), de_int <| r2_t (waysD (fun h => ?_) (fun h => waysF rfl ?_))⟩
    · rw [natL_len] at h
      have h : 1 < L.length := by omega
      refine dw_and1 <| dt_cmp (op_neD hr.units) <| de_go Gc hr <| da_cons <| nm 2 rfl <| da_cons <| nm 3 rfl <| da_nil ⟨_, .same (.rd (List.mem_cons_of_mem _ List.mem_cons_self) (Views.refl _)), g, _, L, rfl, .rd _, hg, by omega, hok, fun _ => ⟨_, rfl, de_lst <| da_nil ⟨[], rfl, z0, r2_neD (shaped_lst _) rfl ⟨_, rfl, ?_⟩⟩⟩⟩
      rw [ne_nil_ep]
      refine waysD (fun hc => ?_) (fun hc => fin (.inr ⟨h, Classical.not_not.mp hc⟩))
      refine db_cons <| ds_set 5 <| de_go Gc hr <| da_cons <| nm 2 rfl <| da_cons <| nm 3 rfl <| da_nil ⟨_, .same (.rd (List.mem_cons_of_mem _ List.mem_cons_self) (Views.refl _)), g, _, L, rfl, .rd _, hg, by omega, hok, fun _ => ⟨_, rfl, ?_⟩⟩
      have hcl : 0 < (cornersL g.1 g.2 L).length := List.length_pos_iff.mpr hc
      have hcm : (cornersL g.1 g.2 L).length ≤ L.length * 20 := by
        unfold cornersL
        refine flat_len fun x _ => ?_
        rw [List.length_map]
        exact Nat.le_trans (List.length_filter_le _ _) (by omega)
      refine db_cons <| ds_set 6 <| de_ix ix_seq <| nm 5 rfl <| de_goJ 2 Gd hr <| da_cons <| nm 0 rfl <| da_cons <| de_len g_le <| nm 5 rfl ⟨_, .lst _, da_nil ⟨((cornersL g.1 g.2 L).length : Int), by rw [List.length_map], hb2, by omega, by omega, fun z M3 hz0 hz1 hb3 => ⟨trivial, ?_⟩⟩⟩
      obtain ⟨z, rfl⟩ := Int.eq_ofNat_of_zero_le hz0
      have hz : z < (cornersL g.1 g.2 L).length := by omega
      obtain ⟨u, v⟩ : Nat × Nat := (cornersL g.1 g.2 L)[z]
      obtain ⟨⟨u, v⟩, he⟩ : ∃ e, (cornersL g.1 g.2 L)[z]? = some e := ⟨_, List.getElem?_eq_getElem hz⟩
      obtain ⟨hT2, hu, hlt⟩ := hT.next (u := u) (v := v) (List.mem_of_getElem? he)
      refine r2_ix (.lst _) (d := epD (u, v)) (atI_at (by omega) (by rw [Int.toNat_natCast, List.getElem?_map, he]; rfl)) ?_
      refine db_cons <| ds_expr <| de_append 0 <| nm 4 rfl ⟨q, _, rfl, List.mem_cons_self, nm 6 rfl ⟨_, _, rfl, rfl, by rw [List.length_map]; omega, ?_⟩⟩
      exact db_cons <| ds_expr <| de_remove 1 <| nm 3 rfl ⟨l, _, rfl, List.mem_cons_of_mem _ List.mem_cons_self, de_ix ix_seq <| nm 6 rfl <| de_int <| r2_ix (.tup _) (d := .int (u : Nat)) rfl ⟨L, u, rfl, rfl, hu, db_nil ⟨(L.erase u).length, by omega, L.erase u, ps ++ [(u, v)], _, _, M3, by rw [show edL (ps ++ [(u, v)]) = edL ps ++ [epD (u, v)] from List.map_append]; rfl, hb3, hT2, rfl, rfl⟩⟩⟩
    · rw [natL_len] at h
      have h0 := ne_len hT.left.ne
      exact fin (.inl (by omega))
end
end H72
set_option maxHeartbeats 1000000
/-! distances in a park -/
namespace PK
variable {n : Nat} {es : List (Nat × Nat)} {p : Nat}
def Ball (n : Nat) (es : List (Nat × Nat)) (p : Nat) : Nat → Nat → Prop
  | 0, q => q = p
  | k + 1, q => q < n ∧ ∃ t, Ball n es p k t ∧ adj es t q = true
theorem Ball.lt (hp : p < n) : ∀ {k q : Nat}, Ball n es p k q → q < n
  | 0, q, h => by
    have h : q = p := h
    omega
  | k + 1, q, h => h.1
theorem Ball.up (hp : p < n) {k q : Nat} (h : Ball n es p k q) : Ball n es p (k + 1) q := ⟨h.lt hp, q, h, adj_refl es q⟩
theorem Ball.mono (hp : p < n) {k l q : Nat} (h : Ball n es p k q) (hl : k ≤ l) : Ball n es p l q := by
  induction l with
  | zero => rwa [show k = 0 by omega] at h
  | succ l ih =>
    by_cases c : k = l + 1
    · subst c; exact h
    · exact (ih (by omega)).up hp
structure DD (n : Nat) (es : List (Nat × Nat)) (p k q : Nat) : Prop where
  b : Ball n es p k q
  no : ∀ j, j < k → ¬ Ball n es p j q
theorem DD.uniq {k l q : Nat} (h : DD n es p k q) (h' : DD n es p l q) : k = l := by
  rcases Nat.lt_trichotomy k l with c | c | c
  · exact absurd h.b (h'.no k c)
  · exact c
  · exact absurd h'.b (h.no l c)
theorem DD.zero : DD n es p 0 p := ⟨rfl, fun j h => absurd h (Nat.not_lt_zero j)⟩
theorem DD.of (hp : p < n) {k t q : Nat} (h : DD n es p k t) (a : adj es t q = true) (hq : q < n) (no : ¬ Ball n es p k q) : DD n es p (k + 1) q := ⟨⟨hq, t, h.b, a⟩, fun j hj hb => no (hb.mono hp (by omega))⟩
theorem DD.ex {k q : Nat} (h : Ball n es p k q) : ∃ l, l ≤ k ∧ DD n es p l q := by
  induction k using Nat.strongRecOn with
  | ind k ih =>
    by_cases c : ∃ j, j < k ∧ Ball n es p j q
    · obtain ⟨j, hj, hb⟩ := c
      obtain ⟨l, hl, hd⟩ := ih j hj hb
      exact ⟨l, by omega, hd⟩
    · exact ⟨k, Nat.le_refl _, h, fun j hj hb => c ⟨j, hj, hb⟩⟩
theorem DD.pred (hp : p < n) {k q : Nat} (h : DD n es p (k + 1) q) : ∃ t, DD n es p k t ∧ adj es t q = true := by
  obtain ⟨hq, t, hb, a⟩ := h.b
  obtain ⟨l, hl, hd⟩ := DD.ex hb
  by_cases c : l = k
  · subst c; exact ⟨t, hd, a⟩
  · exact absurd ⟨hq, t, hd.b, a⟩ (h.no (l + 1) (by omega))
/-- no place at s: none behind -/
theorem DD.none (hp : p < n) {s : Nat} (h : ∀ q, ¬ DD n es p s q) {k q : Nat} (hk : s ≤ k) : ¬ DD n es p k q := by
  induction k generalizing q with
  | zero =>
    rw [show s = 0 by omega] at h
    exact h q
  | succ k ih =>
    by_cases c : s = k + 1
    · rw [← c]; exact h q
    · intro hd
      obtain ⟨t, ht, _⟩ := hd.pred hp
      exact ih (by omega) ht
open Classical in
noncomputable def distO (n : Nat) (es : List (Nat × Nat)) (p q : Nat) : Option Nat := if h : ∃ k, DD n es p k q then some (choose h) else none
theorem dist_some {k q : Nat} (h : DD n es p k q) : distO n es p q = some k := by
  have hx : ∃ k, DD n es p k q := ⟨k, h⟩
  unfold distO
  rw [dif_pos hx, (Classical.choose_spec hx).uniq h]
theorem dist_none {q : Nat} (h : ∀ k, ¬ DD n es p k q) : distO n es p q = none := by
  unfold distO
  rw [dif_neg fun ⟨k, hk⟩ => h k hk]
abbrev Fl := List (Nat × Nat)
def ks (F : Fl) : List Nat := F.map (·.1)
theorem mem_ks {F : Fl} {q : Nat} : q ∈ ks F ↔ ∃ k, (q, k) ∈ F := by
  unfold ks
  rw [List.mem_map]
  constructor
  · rintro ⟨⟨a, b⟩, h, rfl⟩; exact ⟨b, h⟩
  · rintro ⟨k, h⟩; exact ⟨_, h, rfl⟩
theorem ks_app (F G : Fl) : ks (F ++ G) = ks F ++ ks G := List.map_append
/-- found places with their steps, none twice -/
structure Fd (n : Nat) (es : List (Nat × Nat)) (p : Nat) (F : Fl) : Prop where
  ok : ∀ e ∈ F, DD n es p e.2 e.1
  nd : (ks F).Nodup
theorem Fd.le (hp : p < n) {F : Fl} (h : Fd n es p F) : F.length ≤ n := by
  have h1 : (ks F).length ≤ (List.range n).length := DL.nodup_le h.nd fun x hx => by
    obtain ⟨k, hk⟩ := mem_ks.mp hx
    exact List.mem_range.mpr ((h.ok _ hk).b.lt hp)
  rw [List.length_range] at h1
  rwa [show (ks F).length = F.length from List.length_map _] at h1
/-- all is found: the look-up is the distance -/
theorem Fd.fin {F : Fl} (h : Fd n es p F) (all : ∀ k q, DD n es p k q → q ∈ ks F) (q : Nat) : (q ∈ ks F → ∃ k, (q, k) ∈ F ∧ distO n es p q = some k) ∧ (q ∉ ks F → distO n es p q = none) := by
  constructor
  · intro hq
    obtain ⟨k, hk⟩ := mem_ks.mp hq
    exact ⟨k, hk, dist_some (h.ok _ hk)⟩
  · intro hq
    exact dist_none fun k hk => hq (all k q hk)
/-- the search place by place -/
structure Bf (n : Nat) (es : List (Nat × Nat)) (p : Nat) (F : Fl) (B : List Nat) (s : Nat) : Prop where
  fd : Fd n es p F
  le : ∀ e ∈ F, e.2 ≤ s + 1
  all : ∀ q, Ball n es p s q → q ∈ ks F
  b : ∀ q ∈ B, DD n es p (s + 1) q
  bb : ∀ q ∈ ks F, DD n es p (s + 1) q → q ∈ B
def Dn (n : Nat) (es : List (Nat × Nat)) (p : Nat) (F : Fl) (s : Nat) (D : Nat → Prop) : Prop := ∀ t, Ball n es p s t → ¬ D t → ∀ q, q < n → adj es t q = true → q ∈ ks F
theorem Bf.start (hp : p < n) : Bf n es p [(p, 0)] [] 0 := ⟨⟨fun e he => by rw [List.mem_singleton.mp he]; exact .zero, by simp [ks]⟩, fun e he => by rw [List.mem_singleton.mp he]; omega, fun q h => by
  have h : q = p := h
  simp [ks, h], fun q h => (by cases h), fun q h hd => by
  have h : q = p := by simpa [ks] using h
  subst h
  exact absurd rfl (hd.no 0 (by omega))⟩
theorem Dn.start : Dn n es p [(p, 0)] 0 (· ∈ [p]) := fun t ht hn => by
  have ht : t = p := ht
  exact absurd (List.mem_singleton.mpr ht) hn
theorem Bf.add (hp : p < n) {F : Fl} {B : List Nat} {s u w : Nat} (h : Bf n es p F B s) (hu : DD n es p s u) (a : adj es u w = true) (hw : w < n) (no : w ∉ ks F) : Bf n es p (F ++ [(w, s + 1)]) (B ++ [w]) s := by
  have hd : DD n es p (s + 1) w := hu.of hp a hw fun hb => no (h.all w hb)
  refine ⟨⟨fun e he => ?_, ?_⟩, fun e he => ?_, fun q hq => ?_, fun q hq => ?_, fun q hq hq2 => ?_⟩
  · rcases List.mem_append.mp he with he | he
    · exact h.fd.ok e he
    · rw [List.mem_singleton.mp he]; exact hd
  · rw [ks_app]
    refine List.nodup_append.mpr ⟨h.fd.nd, by simp [ks], fun a ha b hb e => ?_⟩
    have hb : b = w := by simpa [ks] using hb
    subst e hb
    exact no ha
  · rcases List.mem_append.mp he with he | he
    · exact h.le e he
    · rw [List.mem_singleton.mp he]; exact Nat.le_refl _
  · rw [ks_app]
    exact List.mem_append_left _ (h.all q hq)
  · rcases List.mem_append.mp hq with hq | hq
    · exact h.b q hq
    · rw [List.mem_singleton.mp hq]; exact hd
  · rw [ks_app] at hq
    rcases List.mem_append.mp hq with hq | hq
    · exact List.mem_append_left _ (h.bb q hq hq2)
    · have hq : q = w := by simpa [ks] using hq
      rw [hq]
      exact List.mem_append_right _ (List.mem_singleton.mpr rfl)
theorem Dn.grow {F G : Fl} {s : Nat} {D : Nat → Prop} (h : Dn n es p F s D) : Dn n es p (F ++ G) s D := fun t ht hn q hq a => by
  rw [ks_app]
  exact List.mem_append_left _ (h t ht hn q hq a)
theorem Bf.shift (hp : p < n) {F : Fl} {B : List Nat} {s : Nat} (h : Bf n es p F B s) (d : Dn n es p F s (· ∈ ([] : List Nat))) : Bf n es p F [] (s + 1) ∧ Dn n es p F (s + 1) (· ∈ B) := by
  have all : ∀ q, Ball n es p (s + 1) q → q ∈ ks F := fun q ⟨hq, t, hb, a⟩ => d t hb (by simp) q hq a
  refine ⟨⟨h.fd, fun e he => Nat.le_succ_of_le (h.le e he), all, fun q hq => (by cases hq), fun q hq hd => ?_⟩, fun t ht hn q hq a => ?_⟩
  · obtain ⟨k, hk⟩ := mem_ks.mp hq
    have h1 := h.le _ hk
    have h2 := (h.fd.ok _ hk).uniq hd
    have h1 : k ≤ s + 1 := h1
    have h2 : k = s + 1 + 1 := h2
    omega
  · obtain ⟨l, hl, hd⟩ := DD.ex ht
    by_cases c : l = s + 1
    · subst c
      exact absurd (h.bb t (all t ht) hd) hn
    · exact d t (hd.b.mono hp (by omega)) (by simp) q hq a
theorem Bf.fin (hp : p < n) {F : Fl} {s : Nat} (h : Bf n es p F [] s) (d : Dn n es p F s (· ∈ ([] : List Nat))) : ∀ k q, DD n es p k q → q ∈ ks F := fun k q hd => by
  by_cases c : k ≤ s
  · exact h.all q (hd.b.mono hp c)
  · refine absurd hd (DD.none hp (s := s + 1) (fun t ht => ?_) (by omega))
    obtain ⟨ht', u, hb, a⟩ := ht.b
    have := h.bb t (d u hb (by simp) t ht' a) ht
    cases this
/-- the state of the queue -/
def Qs (n : Nat) (es : List (Nat × Nat)) (p : Nat) (F : Fl) (q : List Nat) : Prop := ∃ A B s, q = A ++ B ∧ Bf n es p F B s ∧ Dn n es p F s (· ∈ A) ∧ ∀ a ∈ A, DD n es p s a
/-- the place u is looked at, its neighbours W are done -/
def Mid (n : Nat) (es : List (Nat × Nat)) (p u s : Nat) (F : Fl) (q : List Nat) (W : List Nat) : Prop := DD n es p s u ∧ ∃ A B, q = A ++ B ∧ Bf n es p F B s ∧ Dn n es p F s (fun t => t = u ∨ t ∈ A) ∧ (∀ a ∈ A, DD n es p s a) ∧ ∀ w ∈ W, w ∈ ks F
theorem Qs.start (hp : p < n) : Qs n es p [(p, 0)] [p] := ⟨[p], [], 0, rfl, .start hp, .start, fun a ha => by rw [List.mem_singleton.mp ha]; exact .zero⟩
theorem Qs.pop (hp : p < n) {F : Fl} {u : Nat} {q : List Nat} (h : Qs n es p F (u :: q)) : ∃ s, Mid n es p u s F q [] := by
  obtain ⟨A, B, s, e, h1, h2, h3⟩ := h
  cases A with
  | nil =>
    obtain ⟨k1, k2⟩ := h1.shift hp h2
    have e : u :: q = B := e
    subst e
    exact ⟨s + 1, h1.b u List.mem_cons_self, q, [], (List.append_nil q).symm, k1, fun t ht hn => k2 t ht fun z => hn (List.mem_cons.mp z), fun a ha => h1.b a (List.mem_cons_of_mem _ ha), fun w hw => by cases hw⟩
  | cons a A =>
    have e1 : u = a := (List.cons.inj e).1
    have e2 : q = A ++ B := (List.cons.inj e).2
    subst e1
    exact ⟨s, h3 u List.mem_cons_self, A, B, e2, h1, fun t ht hn => h2 t ht fun z => hn (List.mem_cons.mp z), fun a ha => h3 a (List.mem_cons_of_mem _ ha), fun w hw => by cases hw⟩
theorem Mid.old {F : Fl} {u s w : Nat} {q W : List Nat} (h : Mid n es p u s F q W) (hw : w ∈ ks F) : Mid n es p u s F q (W ++ [w]) := by
  obtain ⟨h0, A, B, e, h1, h2, h3, h4⟩ := h
  exact ⟨h0, A, B, e, h1, h2, h3, fun x hx => (List.mem_append.mp hx).elim (h4 x) fun hx => by rw [List.mem_singleton.mp hx]; exact hw⟩
theorem Mid.new (hp : p < n) {F : Fl} {u s w : Nat} {q W : List Nat} (h : Mid n es p u s F q W) (a : adj es u w = true) (hw : w < n) (no : w ∉ ks F) : Mid n es p u s (F ++ [(w, s + 1)]) (q ++ [w]) (W ++ [w]) := by
  obtain ⟨h0, A, B, e, h1, h2, h3, h4⟩ := h
  refine ⟨h0, A, B ++ [w], by rw [e, List.append_assoc], h1.add hp h0 a hw no, h2.grow, h3, fun x hx => ?_⟩
  rw [ks_app]
  refine (List.mem_append.mp hx).elim (fun hx => List.mem_append_left _ (h4 x hx)) fun hx => List.mem_append_right _ ?_
  rw [List.mem_singleton.mp hx]
  simp [ks]
theorem Mid.done {F : Fl} {u s : Nat} {q W : List Nat} (h : Mid n es p u s F q W) (hW : ∀ w, w < n → adj es u w = true → w ∈ W) : Qs n es p F q := by
  obtain ⟨h0, A, B, e, h1, h2, h3, h4⟩ := h
  refine ⟨A, B, s, e, h1, fun t ht hn x hx a => ?_, h3⟩
  by_cases c : t = u
  · subst c
    exact h4 x (hW x hx a)
  · exact h2 t ht (fun z => z.elim c hn) x hx a
theorem Mid.fd {F : Fl} {u s : Nat} {q W : List Nat} (h : Mid n es p u s F q W) : Fd n es p F ∧ (u, s) ∈ F := by
  obtain ⟨h0, A, B, e, h1, h2, h3, h4⟩ := h
  refine ⟨h1.fd, ?_⟩
  obtain ⟨k, hk⟩ := mem_ks.mp (h1.all u h0.b)
  have e : k = s := (h1.fd.ok _ hk).uniq h0
  rwa [← e]
theorem Qs.fd {F : Fl} {q : List Nat} (h : Qs n es p F q) : Fd n es p F := by
  obtain ⟨A, B, s, e, h1, h2, h3⟩ := h
  exact h1.fd
theorem Qs.fin (hp : p < n) {F : Fl} (h : Qs n es p F []) : ∀ k q, DD n es p k q → q ∈ ks F := by
  obtain ⟨A, B, s, e, h1, h2, h3⟩ := h
  have e := List.append_eq_nil_iff.mp e.symm
  obtain ⟨rfl, rfl⟩ := e
  exact h1.fin hp h2
/-- the search ring by ring -/
structure Rg (n : Nat) (es : List (Nat × Nat)) (p : Nat) (F : Fl) (R : List Nat) (s : Nat) : Prop where
  fd : Fd n es p F
  all : ∀ q, q ∈ ks F ↔ Ball n es p s q
  ring : ∀ q, q ∈ R ↔ DD n es p s q
theorem Rg.start (hp : p < n) : Rg n es p [(p, 0)] [p] 0 := ⟨(Bf.start hp).fd, fun q => by simp [ks, Ball], fun q => by
  rw [List.mem_singleton]
  constructor
  · rintro rfl; exact .zero
  · exact fun h => h.b⟩
theorem Rg.next (hp : p < n) {F : Fl} {R R' : List Nat} {s : Nat} (h : Rg n es p F R s) (hR : ∀ q, q ∈ R' ↔ (∃ t ∈ R, q < n ∧ adj es t q = true) ∧ q ∉ ks F) (nd : R'.Nodup) : Rg n es p (F ++ R'.map fun q => (q, s + 1)) R' (s + 1) := by
  have ring : ∀ q, q ∈ R' ↔ DD n es p (s + 1) q := fun q => by
    rw [hR]
    constructor
    · rintro ⟨⟨t, ht, hq, a⟩, no⟩
      exact ((h.ring t).mp ht).of hp a hq fun hb => no ((h.all q).mpr hb)
    · intro hd
      obtain ⟨t, ht, a⟩ := hd.pred hp
      exact ⟨⟨t, (h.ring t).mpr ht, hd.b.lt hp, a⟩, fun hq => hd.no s (by omega) ((h.all q).mp hq)⟩
  have hk : ks (R'.map fun q => (q, s + 1)) = R' := by
    unfold ks
    rw [List.map_map]
    exact List.map_id _
  refine ⟨⟨fun e he => ?_, ?_⟩, fun q => ?_, ring⟩
  · rcases List.mem_append.mp he with he | he
    · exact h.fd.ok e he
    · obtain ⟨q, hq, rfl⟩ := List.mem_map.mp he
      exact (ring q).mp hq
  · rw [ks_app, hk]
    exact List.nodup_append.mpr ⟨h.fd.nd, nd, fun a ha b hb e => ((hR b).mp hb).2 (e ▸ ha)⟩
  · rw [ks_app, hk, List.mem_append, h.all, ring]
    constructor
    · rintro (hb | hd)
      · exact hb.up hp
      · exact hd.b
    · intro hb
      obtain ⟨l, hl, hd⟩ := DD.ex hb
      by_cases c : l = s + 1
      · subst c; exact .inr hd
      · exact .inl (hd.b.mono hp (by omega))
theorem Rg.fin (hp : p < n) {F : Fl} {s : Nat} (h : Rg n es p F [] s) : ∀ k q, DD n es p k q → q ∈ ks F := fun k q hd => by
  by_cases c : k ≤ s
  · exact (h.all q).mpr (hd.b.mono hp c)
  · refine absurd hd (DD.none hp (s := s) (fun t ht => ?_) (by omega))
    have := (h.ring t).mpr ht
    cases this
end PK
set_option maxHeartbeats 2000000
namespace H72
open PySem PySem.Spec PyProof.Rows L2 DL PK
def dicL (F : Fl) : List (Key × PyData) := F.map fun e => ((.inl (e.1 : Int) : Key), PyData.int (e.2 : Nat))
theorem dicL_len (F : Fl) : (dicL F).length = F.length := List.length_map _
theorem key_nat {a b : Nat} : ((.inl (a : Int) : Key) = .inl (b : Int)) ↔ a = b := by
  constructor
  · intro h
    have := Sum.inl.inj h
    omega
  · rintro rfl; rfl
theorem val_out {F : Fl} {q : Nat} (h : q ∉ ks F) : valD (dicL F) (.inl (q : Int)) = none := by
  refine valD_none fun z => ?_
  obtain ⟨kv, h1, h2⟩ := List.any_eq_true.mp z
  obtain ⟨e, he, rfl⟩ := List.mem_map.mp h1
  have h2 := key_nat.mp (of_decide_eq_true h2)
  exact h (mem_ks.mpr ⟨e.2, h2 ▸ he⟩)
theorem val_at {F : Fl} {q k : Nat} (nd : (ks F).Nodup) (h : (q, k) ∈ F) : valD (dicL F) (.inl (q : Int)) = some (.int (k : Nat)) := by
  induction F with
  | nil => cases h
  | cons e F ih =>
    obtain ⟨h1, h2⟩ := List.nodup_cons.mp (show (e.1 :: ks F).Nodup from nd)
    have hv : valD (dicL (e :: F)) (.inl (q : Int)) = if (.inl (q : Int) : Key) = .inl (e.1 : Int) then some (.int (e.2 : Nat)) else valD (dicL F) (.inl (q : Int)) := by
      show valD ([((.inl (e.1 : Int) : Key), PyData.int (e.2 : Nat))] ++ dicL F) _ = _
      rw [valD_app, valD_one]
      split <;> rfl
    rw [hv]
    rcases List.mem_cons.mp h with rfl | h
    · rw [if_pos rfl]
    · rw [if_neg fun z => h1 (by
        have z := key_nat.mp z
        rw [← z]
        exact mem_ks.mpr ⟨k, h⟩)]
      exact ih h2 h
theorem val_in {F : Fl} {q : Nat} (nd : (ks F).Nodup) (h : q ∈ ks F) : (valD (dicL F) (.inl (q : Int))).isSome = true := by
  obtain ⟨k, hk⟩ := mem_ks.mp h
  rw [val_at nd hk]
  rfl
theorem put_new {F : Fl} {q k : Nat} (h : q ∉ ks F) : putD (dicL F) (.inl (q : Int)) (.int (k : Nat)) = dicL (F ++ [(q, k)]) := by
  unfold putD
  rw [if_neg fun z => ?_]
  · exact (List.map_append (l₁ := F) (l₂ := [(q, k)])).symm
  · obtain ⟨kv, h1, h2⟩ := List.any_eq_true.mp z
    obtain ⟨e, he, rfl⟩ := List.mem_map.mp h1
    have h2 := key_nat.mp (of_decide_eq_true h2)
    exact h (mem_ks.mpr ⟨e.2, h2 ▸ he⟩)
theorem merge_new {G : Fl} : ∀ {F : Fl}, (ks (F ++ G)).Nodup → mergeD (dicL F) (dicL G) = dicL (F ++ G) := by
  induction G with
  | nil => intro F _; rw [List.append_nil]; rfl
  | cons e G ih =>
    intro F h
    have h2 : (ks ((F ++ [e]) ++ G)).Nodup := by rwa [List.append_assoc]
    have no : e.1 ∉ ks F := fun z => by
      rw [ks_app] at h
      exact (List.nodup_append.mp h).2.2 _ z _ (show e.1 ∈ ks (e :: G) from List.mem_cons_self) rfl
    show mergeD (putD (dicL F) (.inl (e.1 : Int)) (.int (e.2 : Nat))) (dicL G) = _
    rw [put_new no, ih h2, List.append_assoc]
    rfl
def oN : Option Nat → PyData
  | none => .none
  | some k => .int (k : Nat)
noncomputable def distT (g : Nat × Ed) (p : Nat) : PyData := .tuple ((List.range g.1).map fun q => oN (distO g.1 g.2 p q))
theorem get_fin {n p : Nat} {es : Ed} {F : Fl} (h : Fd n es p F) (all : ∀ k q, DD n es p k q → q ∈ ks F) (q : Nat) : (valD (dicL F) (.inl (q : Int))).getD .none = oN (distO n es p q) := by
  obtain ⟨h1, h2⟩ := h.fin all q
  by_cases c : q ∈ ks F
  · obtain ⟨k, hk, e⟩ := h1 c
    rw [val_at h.nd hk, e]
    rfl
  · rw [val_out c, h2 c]
    rfl
theorem lay_nats : ∀ S : List Nat, PyData.canLayAll0 (natL S) = true
  | [] => by simp [natL, PyData.canLayAll0]
  | x :: S => by
    have := lay_nats S
    show PyData.canLayAll0 (.int _ :: natL S) = true
    simp [PyData.canLayAll0, PyData.canLay0, this]
theorem depth_nats : ∀ S : List Nat, PyData.depthAll (natL S) ≤ 1
  | [] => by simp [natL, PyData.depthAll]
  | x :: S => by
    have := depth_nats S
    show PyData.depthAll (.int _ :: natL S) ≤ 1
    simp [PyData.depthAll, PyData.depth, this]
theorem shaped_nats (S : List Nat) : SeqAt.shaped (.list (natL S)) = true := by
  have := depth_nats S
  unfold SeqAt.shaped
  rw [Bool.and_eq_true, decide_eq_true_iff]
  exact ⟨by rw [PyData.canLay0]; exact lay_nats S, by rw [PyData.depth]; omega⟩
theorem ne_nil_nats (S : List Nat) : (!PyData.eqv (.list (natL S)) (.list [])) = decide (S ≠ []) := by
  cases S with
  | nil => rfl
  | cons a b => rfl
theorem flat_nats (S : List Nat) (f : Nat → List Nat) : (S.map fun u => natL (f u)).flatten = natL (S.flatMap f) := by
  rw [← List.flatMap_def]
  unfold natL
  rw [List.map_flatMap]
section
variable {P : Program} {w : World} {K : PySem.W.Frag} {mg : Str → Option Value} {base : Heap} {f : Addr} {fd : FuncData}
theorem sc_sf : FnScope ["park", "place", "rows", "found", "at", "here", "there"] ["park", "place"] (defScope s_steps_from) := ⟨rfl, rfl, rfl, by decide +kernel, rfl, by decide +kernel, by decide +kernel⟩
abbrev R_sf := Pu (fun a : (Nat × Ed) × Nat => [.d (grD a.1), .d (.int (a.2 : Nat))]) (fun a => PkOk a.1 ∧ a.2 < a.1.1) (fun a => distT a.1 a.2)
theorem ok_sf {k : Nat} (Fn : FnP K "steps_from" s_steps_from f fd) (Gn : Go P w K mg base "near" k ["park"] R_near) (g_ra : mg "range" = none) (g_tu : mg "tuple" = none) : FnOk P w K mg base CX0 (k + 1) f fd ["park", "place"] (SpG K R_sf) := by
  refine fn_okD Fn sc_sf (fun κ M W h => ?_) fun cdv A outer s H E hr nd B0 F0 κ M W hR => ?_
  · obtain ⟨ns, rfl, _⟩ := h
    rfl
  · obtain ⟨⟨g, p⟩, hκ, ⟨hg, hp⟩, hW⟩ := hR
    have hκ : κ = [.d (grD g), .d (.int (p : Nat))] := hκ
    subst hκ
    have hg : PkOk g := hg
    have hp : p < g.1 := hp
    have hgn := hg.n
    have hu := Nat.lt_of_le_of_lt (Nat.add_le_add_left (by decide : 1 ≤ 64) _) hr.units
    have hW : ∀ M', W (.d (distT g p)) M' := hW
    refine db_cons <| ds_parT 3 <| da_cons <| de_pu Gn hr <| da_cons <| nm 0 rfl <| da_nil <| da_pu g rfl hg <| da_cons <| de_disp1 fun fa => nm 1 rfl <| de_int ⟨_, _, _, .int _, rfl, rfl, da_cons <| de_lstC <| da_cons <| nm 1 rfl <| da_nil ⟨[.int (p : Nat)], rfl, z1, fun qa => da_nil ⟨rfl, dgs_cons <| dg_name 2 <| dgs_cons <| dg_name 3 <| dgs_cons <| dg_name 4 <| dgs_nil ?_⟩⟩⟩
    refine db_cons <| ds_while (fun m M' ρ' => ∃ F q s5 s6, M' = (qa, MC.lst (natL q)) :: (fa, MC.dic (dicL F)) :: M ∧ Qs g.1 g.2 p F q ∧ q.length + (g.1 - F.length) = m ∧ m ≤ 12 ∧ ρ' = [.d (grD g), .d (.int (p : Nat)), .d (rowsT g), .v (.ref fa), .v (.ref qa), s5, s6]) (1 + (g.1 - 1)) ⟨[(p, 0)], [p], _, _, rfl, .start hp, rfl, by omega, rfl⟩ ?_
    rintro m M' ρ' ⟨F, q, s5, s6, rfl, hQ, hm, hm12, rfl⟩
    refine dt_truthC <| nm 4 rfl ⟨qa, _, rfl, List.mem_cons_self, ?_⟩
    cases q with
    | nil =>
      have fin := get_fin hQ.fd (hQ.fin hp)
      refine waysF rfl <| db_cons <| ds_ret <| de_tupleOf g_tu <| de_lcF 6 (fun d => oN (distO g.1 g.2 p (natOf d))) <| di_range1 g_ra <| da_cons <| de_ix ix_seq <| nm 0 rfl <| de_int <| r2_ix (.tup _) (d := .int (g.1 : Nat)) rfl <| da_nil ⟨_, rfl, by omega, by omega, by rw [rngD_len]; omega, fun _ _ _ => trivial, ?_, fun D => ⟨_, .cell List.mem_cons_self, ?_⟩⟩
      · intro d D acc hd b
        obtain ⟨x, hx, rfl⟩ := rngD_mem hd
        rw [Int.zero_add]
        exact de_dgetM hu <| nm 3 rfl ⟨fa, _, rfl, List.mem_cons_of_mem _ (List.mem_cons_of_mem _ List.mem_cons_self), nm 6 rfl ⟨_, _, List.mem_cons_of_mem _ (List.mem_cons_of_mem _ List.mem_cons_self), .int _, by rw [fin]; rfl, rfl⟩⟩
      · rw [Int.toNat_natCast, rng0]
        have := hW ((D, MC.lst ((natL (List.range g.1)).map fun d => oN (distO g.1 g.2 p (natOf d)))) :: (qa, MC.lst (natL [])) :: (fa, MC.dic (dicL F)) :: M)
        unfold distT at this
        unfold natL at *
        rw [List.map_map]
        rw [List.map_map] at this
        exact this
    | cons u q =>
      refine waysT rfl ?_
      obtain ⟨st, hM0⟩ := hQ.pop hp
      have hun : u < g.1 := hM0.1.b.lt hp
      refine db_cons <| ds_set 5 <| de_popAt 0 <| nm 4 rfl ⟨qa, _, rfl, List.mem_cons_self, de_int ⟨_, 0, 0, .int (u : Nat), rfl, rfl, by decide, by decide, ?_, rfl, ?_⟩⟩
      · rw [natL_len]
        simp [seqIndex?]
      refine db_cons <| ds_for <| di_tup <| de_ix ix_seq <| nm 2 rfl <| nm 5 rfl <| r2_ix (.tup _) (rowT_at hun) ⟨_, rfl, fun i M' ρ' => ∃ F' q' s6, M' = (qa, MC.lst (natL q')) :: (fa, MC.dic (dicL F')) :: M ∧ Mid g.1 g.2 p u st F' q' ((nearL g.1 g.2 u).take i) ∧ q'.length + (g.1 - F'.length) + 1 = m ∧ ρ' = [.d (grD g), .d (.int (p : Nat)), .d (rowsT g), .v (.ref fa), .v (.ref qa), .d (.int (u : Nat)), s6], ⟨F, q, _, rfl, hM0, by rw [← hm, List.length_cons]; omega, rfl⟩, fun _ _ _ _ => trivial, ?_, ?_⟩
      · rintro i d M' ρ' hd ⟨F', q', s6, rfl, hM, hm', rfl⟩
        obtain ⟨x, hx, rfl⟩ := map_get hd
        obtain ⟨hxn, ha⟩ := mem_near.mp (List.mem_of_getElem? hx)
        obtain ⟨hfd, huF⟩ := hM.fd
        have hle := hfd.le hp
        refine dg_name 6 <| db_cons <| ds_if <| dt_dnotin hu <| nm 6 rfl <| nm 3 rfl ⟨fa, _, _, rfl, List.mem_cons_of_mem _ List.mem_cons_self, .int _, ?_⟩
        by_cases c : x ∈ ks F'
        · rw [val_in hfd.nd c]
          exact waysF rfl <| db_nil <| db_nil ⟨F', q', _, rfl, by rw [take_get hx]; exact hM.old c, hm', rfl⟩
        · rw [val_out c]
          have hM2 := hM.new hp ha hxn c
          have hle2 := hM2.fd.1.le hp
          rw [List.length_append, List.length_singleton] at hle2
          refine waysT rfl <| db_cons <| ds_dput 1 hu <| de_op op_add <| de_dget hu <| nm 3 rfl <| nm 5 rfl ⟨fa, _, _, _, rfl, List.mem_cons_of_mem _ List.mem_cons_self, .int _, val_at hfd.nd huF, de_int <| r2_i <| nm 3 rfl <| nm 6 rfl ⟨fa, _, _, _, rfl, .int _, rfl, rfl, by rw [dicL_len]; omega, ?_⟩⟩
          rw [show ((st : Nat) : Int) + 1 = ((st + 1 : Nat) : Int) by omega, put_new c]
          exact db_cons <| ds_expr <| de_append 0 <| nm 4 rfl ⟨qa, _, rfl, List.mem_cons_self, nm 6 rfl ⟨_, _, rfl, rfl, by rw [natL_len]; omega, db_nil <| db_nil ⟨F' ++ [(x, st + 1)], q' ++ [x], _, by rw [natL_app]; rfl, by rw [take_get hx]; exact hM2, by rw [List.length_append, List.length_append, List.length_singleton, List.length_singleton]; omega, rfl⟩⟩⟩
      · rintro M' ρ' ⟨F', q', s6, rfl, hM, hm', rfl⟩
        rw [natL_len, List.take_length] at hM
        exact db_nil ⟨q'.length + (g.1 - F'.length), by omega, F', q', _, _, rfl, hM.done fun w hw a => mem_near.mpr ⟨hw, a⟩, rfl, by omega, rfl⟩
theorem sc_far : FnScope ["rows", "place", "far", "ring", "step", "there", "here"] ["rows", "place"] (defScope s__law_far) := ⟨rfl, rfl, rfl, by decide +kernel, rfl, by decide +kernel, by decide +kernel⟩
abbrev R_far := Pu (fun a : (Nat × Ed) × Nat => [.d (rowsL a.1), .d (.int (a.2 : Nat))]) (fun a => PkOk a.1 ∧ a.2 < a.1.1) (fun a => distT a.1 a.2)
theorem ok_far {k : Nat} (Fn : FnP K "_law_far" s__law_far f fd) (Gf : Go P w K mg base "_law_flat" k ["rows"] R_flat) (g_ra : mg "range" = none) (g_tu : mg "tuple" = none) (g_so : mg "sorted" = none) (g_se : mg "set" = none) (g_le : mg "len" = none) : FnOk P w K mg base CX0 (k + 1) f fd ["rows", "place"] (SpG K R_far) := by
  refine fn_okD Fn sc_far (fun κ M W h => ?_) fun cdv A outer s H E hr nd B0 F0 κ M W hR => ?_
  · obtain ⟨ns, rfl, _⟩ := h
    rfl
  · obtain ⟨⟨g, p⟩, hκ, ⟨hg, hp⟩, hW⟩ := hR
    have hκ : κ = [.d (rowsL g), .d (.int (p : Nat))] := hκ
    subst hκ
    have hg : PkOk g := hg
    have hp : p < g.1 := hp
    have hgn := hg.n
    have hu := Nat.lt_of_le_of_lt (Nat.add_le_add_left (by decide : 1 ≤ 64) _) hr.units
    have hW : ∀ M', W (.d (distT g p)) M' := hW
    refine db_cons <| ds_parT 3 <| da_cons <| de_disp1 fun fa => nm 1 rfl <| de_int ⟨_, _, _, .int _, rfl, rfl, da_cons <| de_freeze <| de_lstC <| da_cons <| nm 1 rfl <| da_nil ⟨[.int (p : Nat)], rfl, z1, fun qa => ⟨qa, _, _, rfl, rfl, da_cons <| de_int <| da_nil ⟨rfl, dgs_cons <| dg_name 2 <| dgs_cons <| dg_name 3 <| dgs_cons <| dg_name 4 <| dgs_nil ?_⟩⟩⟩⟩
    refine db_cons <| ds_while (fun m M' ρ' => ∃ F R st s5 s6, M' = (fa, MC.dic (dicL F)) :: M ∧ Rg g.1 g.2 p F R st ∧ R.Nodup ∧ (g.1 - F.length) + (if R = [] then 0 else 1) = m ∧ ρ' = [.d (rowsL g), .d (.int (p : Nat)), .v (.ref fa), .d (.list (natL R)), .d (.int (st : Nat)), s5, s6]) (g.1 - 1 + 1) ⟨[(p, 0)], [p], 0, _, _, rfl, .start hp, by simp, rfl, rfl⟩ ?_
    rintro m M' ρ' ⟨F, R, st, s5, s6, rfl, hQ, hnd, hm, rfl⟩
    have hfd := hQ.fd
    have hle := hfd.le hp
    refine dt_cmp (op_neD hr.units) <| nm 3 rfl <| de_lst <| da_nil ⟨[], rfl, z0, r2_neD (shaped_nats _) rfl ⟨_, rfl, ?_⟩⟩
    rw [ne_nil_nats]
    refine waysD (fun hne => ?_) (fun hne => ?_)
    · have hRlt : ∀ x ∈ R, x < g.1 := fun x hx => ((hQ.ring x).mp hx).b.lt hp
      have hRlen : R.length ≤ 12 := by
        have := nodup_le hnd (m := List.range g.1) fun x hx => List.mem_range.mpr (hRlt x hx)
        rw [List.length_range] at this
        omega
      have hfl : (R.flatMap (nearL g.1 g.2)).length ≤ R.length * 12 := flat_len fun x _ => Nat.le_trans (nearL_len _ _ _) hgn
      refine db_cons <| ds_set 4 <| de_op op_add <| nm 4 rfl <| de_int <| r2_i ?_
      rw [show ((st : Nat) : Int) + 1 = ((st + 1 : Nat) : Int) by omega]
      refine db_cons <| ds_cmp 3 <| du_freeze <| gu_lcIfF 5 (fun d => decide (natOf d ∉ ks F)) (fun d => d) <| di_list <| de_freeze <| de_sortedSetN g_so g_se <| de_pu Gf hr <| da_cons <| de_freeze <| de_lcF 6 (fun d => .list (natL (nearL g.1 g.2 (natOf d)))) <| di_list <| nm 3 rfl ⟨_, rfl, by rw [natL_len]; omega, fun _ _ _ => trivial, ?_, fun D => ⟨D, _, _, rfl, rfl, da_nil <| da_pu (R.map fun u => natL (nearL g.1 g.2 u)) ?_ ?_ ⟨R.flatMap (nearL g.1 g.2), ?_, by omega, fun x hx => ?_, fun T hT hTm a o l => ⟨l, _, _, rfl, rfl, _, rfl, ?_, fun _ _ _ => trivial, ?_, ?_, fun D2 => ⟨D2, _, _, rfl, rfl, ?_⟩⟩⟩⟩⟩
      · intro d D acc hd b
        obtain ⟨x, hx, rfl⟩ := nat_mem hd
        refine de_freeze <| de_lcF 5 (fun d => d) <| di_list <| de_ix ix_seq <| nm 0 rfl <| nm 6 rfl <| r2_ix (.lst _) (rowL_at (hRlt x hx)) ⟨_, rfl, by have := nearL_len g.1 g.2 x; rw [natL_len]; omega, fun _ _ _ => trivial, ?_, fun D2 => ⟨D2, _, _, rfl, rfl, ?_, rfl⟩⟩
        · intro d D acc hd b
          exact nm 5 rfl ⟨rfl, rfl⟩
        · rw [List.map_id']
          rfl
      · show [Sl.d (.list (List.map _ (List.map _ _)))] = [Sl.d (.list (List.map _ (List.map _ _)))]
        rw [List.map_map, List.map_map]
        rfl
      · rw [flat_nats, natL_len]
        omega
      · rw [flat_nats]
        exact .lst _
      · obtain ⟨u, hu1, hu2⟩ := List.mem_flatMap.mp hx
        have := (mem_near.mp hu2).1
        omega
      · have hTl : T.length ≤ 100 := by
          have := nodup_le (hT.imp fun h => by omega) (m := List.range g.1) fun x hx => by
            obtain ⟨u, hu1, hu2⟩ := List.mem_flatMap.mp ((hTm x).mp hx)
            exact List.mem_range.mpr (mem_near.mp hu2).1
          rw [List.length_range] at this
          omega
        rw [natL_len]
        omega
      · intro d D acc hd b
        obtain ⟨x, hx, rfl⟩ := nat_mem hd
        refine dt_dnotin hu <| nm 5 rfl <| nm 2 rfl ⟨fa, _, _, rfl, List.mem_cons_of_mem _ (List.mem_cons_of_mem _ List.mem_cons_self), .int _, ?_, rfl⟩
        show _ = decide (x ∉ ks F)
        by_cases c : x ∈ ks F
        · rw [val_in hfd.nd c, decide_eq_false (fun z => z c)]
          rfl
        · rw [val_out c, decide_eq_true c]
          rfl
      · intro d D acc hd _ b
        exact nm 5 rfl ⟨rfl, rfl⟩
      · rw [List.map_id', natL_filter (t := fun x => decide (x ∉ ks F)) fun q _ => rfl]
        have hT2 : (T.filter fun x => decide (x ∉ ks F)).Nodup := (hT.imp fun h => by omega : T.Nodup).filter _
        have hN := hQ.next hp (R' := T.filter fun x => decide (x ∉ ks F)) (fun q => by
          rw [List.mem_filter, hTm, List.mem_flatMap, decide_eq_true_iff]
          constructor
          · rintro ⟨⟨t, h1, h2⟩, h3⟩
            exact ⟨⟨t, h1, mem_near.mp h2⟩, h3⟩
          · rintro ⟨⟨t, h1, h2⟩, h3⟩
            exact ⟨⟨t, h1, mem_near.mpr h2⟩, h3⟩) hT2
        generalize (T.filter fun x => decide (x ∉ ks F)) = R' at hT2 hN
        have hN2 := hN.fd.le hp
        rw [List.length_append, List.length_map] at hN2
        refine db_drop 1 <| db_cons <| ds_expr <| de_dupd 1 <| nm 2 rfl ⟨fa, _, rfl, List.mem_cons_self, de_lcF 5 (fun d => .tuple [d, .int ((st + 1 : Nat) : Int)]) <| di_list <| nm 3 rfl ⟨_, rfl, by rw [natL_len]; omega, fun _ _ _ => trivial, ?_, fun D3 => ⟨dicL F, dicL (R'.map fun q => (q, st + 1)), rfl, ?_, ?_, ?_⟩⟩⟩
        · intro d D acc hd b
          exact de_tup <| da_cons <| nm 5 rfl <| da_cons <| nm 4 rfl <| da_nil ⟨[_, _], rfl, z2, rfl, rfl⟩
        · have e : (natL R').map (fun d => PyData.tuple [d, .int ((st + 1 : Nat) : Int)]) = (dicL (R'.map fun q => (q, st + 1))).map fun kv : Key × PyData => .tuple [keyData kv.1, kv.2] := by
            unfold natL dicL
            rw [List.map_map, List.map_map, List.map_map]
            rfl
          rw [← e]
          exact .cell List.mem_cons_self
        · rw [dicL_len, dicL_len, List.length_map]
          omega
        · rw [merge_new hN.fd.nd]
          refine db_drop 1 <| db_nil ⟨g.1 - (F ++ R'.map fun q => (q, st + 1)).length + (if R' = [] then 0 else 1), ?_, _, R', st + 1, _, _, rfl, hN, hT2, rfl, rfl⟩
          rw [← hm, if_neg hne, List.length_append, List.length_map]
          cases R' with
          | nil => rw [if_pos rfl]; simp
          | cons a b => rw [if_neg (by simp)]; rw [List.length_cons] at hN2 ⊢; omega
    · have hR : R = [] := Classical.not_not.mp hne
      subst hR
      have fin := get_fin hQ.fd (hQ.fin hp)
      refine db_cons <| ds_ret <| de_tupleOf g_tu <| de_lcF 5 (fun d => oN (distO g.1 g.2 p (natOf d))) <| di_range1 g_ra <| da_cons <| de_len g_le <| nm 0 rfl ⟨_, .lst _, da_nil ⟨_, rfl, by rw [List.length_map, List.length_range]; omega, by rw [List.length_map, List.length_range]; omega, by rw [rngD_len, List.length_map, List.length_range]; omega, fun _ _ _ => trivial, ?_, fun D => ⟨_, .cell List.mem_cons_self, ?_⟩⟩⟩
      · intro d D acc hd b
        obtain ⟨x, hx, rfl⟩ := rngD_mem hd
        rw [Int.zero_add]
        exact de_dgetM hu <| nm 2 rfl ⟨fa, _, rfl, List.mem_cons_of_mem _ List.mem_cons_self, nm 5 rfl ⟨_, _, List.mem_cons_of_mem _ List.mem_cons_self, .int _, by rw [fin]; rfl, rfl⟩⟩
      · rw [List.length_map, List.length_range, Int.toNat_natCast, rng0]
        have := hW ((D, MC.lst ((natL (List.range g.1)).map fun d => oN (distO g.1 g.2 p (natOf d)))) :: (fa, MC.dic (dicL F)) :: M)
        unfold distT at this
        unfold natL at *
        rw [List.map_map]
        rw [List.map_map] at this
        exact this
end
end H72
set_option maxHeartbeats 2000000
namespace PK
def ruleB (n : Nat) (es L : List (Nat × Nat)) (c r : Nat) : Bool := (nearL n es c).any fun t => decide (t = r) || (nearL n es r).all fun q => decide ((t, q) ∈ L)
structure WOk (n : Nat) (es L : List (Nat × Nat)) : Prop where
  lt : ∀ e ∈ L, e.1 < n ∧ e.2 < n
  snd : ∀ e ∈ L, Lost (Ad es) (· < n) e.1 e.2
  nd : L.Nodup
  diag : ∀ c, c < n → (c, c) ∈ L
def Dne (n : Nat) (es L : List (Nat × Nat)) (D : Nat → Nat → Prop) : Prop := ∀ c r, D c r → (c, r) ∈ L ∨ ruleB n es L c r = false
variable {n : Nat} {es L : List (Nat × Nat)}
theorem WOk.add (h : WOk n es L) {c r : Nat} (hc : c < n) (hr : r < n) (no : (c, r) ∉ L) (hb : ruleB n es L c r = true) : WOk n es (L ++ [(c, r)]) := by
  refine ⟨fun e he => ?_, fun e he => ?_, ?_, fun x hx => List.mem_append_left _ (h.diag x hx)⟩
  · rcases List.mem_append.mp he with he | he
    · exact h.lt e he
    · rw [List.mem_singleton.mp he]; exact ⟨hc, hr⟩
  · rcases List.mem_append.mp he with he | he
    · exact h.snd e he
    · rw [List.mem_singleton.mp he]
      obtain ⟨t, ht, hb⟩ := List.any_eq_true.mp hb
      obtain ⟨htn, ha⟩ := mem_near.mp ht
      rcases (Bool.or_eq_true _ _).mp hb with hb | hb
      · have hb := of_decide_eq_true hb
        subst hb
        exact .hit c t hc hr ha
      · refine .move c r t hc hr htn ha fun p hp a => ?_
        exact h.snd _ (of_decide_eq_true (List.all_eq_true.mp hb p (mem_near.mpr ⟨hp, a⟩)))
  · exact List.nodup_append.mpr ⟨h.nd, by simp, fun a ha b hb e => by
      rw [List.mem_singleton.mp hb] at e
      subst e
      exact no ha⟩
theorem WOk.all (h : WOk n es L) (d : Dne n es L fun c r => c < n ∧ r < n) {c r : Nat} (hl : Lost (Ad es) (· < n) c r) : (c, r) ∈ L := by
  induction hl with
  | here c hc => exact h.diag c hc
  | hit c r hc hr a =>
    rcases d c r ⟨hc, hr⟩ with z | z
    · exact z
    · have : ruleB n es L c r = true := List.any_eq_true.mpr ⟨r, mem_near.mpr ⟨hr, a⟩, by simp⟩
      rw [this] at z
      cases z
  | move c r t hc hr ht a _ ih =>
    rcases d c r ⟨hc, hr⟩ with z | z
    · exact z
    · have : ruleB n es L c r = true := List.any_eq_true.mpr ⟨t, mem_near.mpr ⟨ht, a⟩, by
        rw [Bool.or_eq_true]
        exact .inr (List.all_eq_true.mpr fun p hp => decide_eq_true (ih p (mem_near.mp hp).1 (mem_near.mp hp).2))⟩
      rw [this] at z
      cases z
open Classical in
noncomputable def winsB (n : Nat) (es : List (Nat × Nat)) : Bool := decide (CW (Ad es) (· < n))
theorem winsB_iff : winsB n es = true ↔ CW (Ad es) (· < n) := by
  unfold winsB
  exact @decide_eq_true_iff _ (Classical.propDecidable _)
theorem WOk.fin (h : WOk n es L) (d : Dne n es L fun c r => c < n ∧ r < n) : ((List.range n).any fun c => (List.range n).all fun r => decide ((c, r) ∈ L)) = winsB n es := by
  rw [Bool.eq_iff_iff, winsB_iff, List.any_eq_true]
  constructor
  · rintro ⟨c, hc, ha⟩
    exact ⟨c, List.mem_range.mp hc, fun r hr => h.snd _ (of_decide_eq_true (List.all_eq_true.mp ha r (List.mem_range.mpr hr)))⟩
  · rintro ⟨c, hc, ha⟩
    exact ⟨c, List.mem_range.mpr hc, List.all_eq_true.mpr fun r hr => decide_eq_true (h.all d (ha r (List.mem_range.mp hr)))⟩
theorem filt_one (n c : Nat) : (List.range n).filter (fun r => decide (c = r)) = if c < n then [c] else [] := by
  induction n with
  | zero => rfl
  | succ n ih =>
    rw [List.range_succ, List.filter_append, ih]
    by_cases h : c < n
    · rw [if_pos h, if_pos (by omega)]
      have : ¬ c = n := by omega
      simp [this]
    · rw [if_neg h]
      by_cases h2 : c = n
      · subst h2; simp
      · rw [if_neg (by omega)]
        simp [h2]
theorem WOk.start (n : Nat) (es : List (Nat × Nat)) : WOk n es ((List.range n).map fun c => (c, c)) := by
  refine ⟨fun e he => ?_, fun e he => ?_, ?_, fun c hc => List.mem_map.mpr ⟨c, List.mem_range.mpr hc, rfl⟩⟩
  · obtain ⟨c, hc, rfl⟩ := List.mem_map.mp he
    exact ⟨List.mem_range.mp hc, List.mem_range.mp hc⟩
  · obtain ⟨c, hc, rfl⟩ := List.mem_map.mp he
    exact .here c (List.mem_range.mp hc)
  · exact List.Pairwise.map _ (fun a b h e => h (congrArg Prod.fst e)) List.nodup_range
theorem WOk.len (h : WOk n es L) : L.length ≤ n * n := by
  have h1 := DL.nodup_le h.nd (m := (List.range n).flatMap fun i => (List.range n).map fun j => (i, j)) fun e he => List.mem_flatMap.mpr ⟨e.1, List.mem_range.mpr (h.lt e he).1, List.mem_map.mpr ⟨e.2, List.mem_range.mpr (h.lt e he).2, rfl⟩⟩
  have h2 := H72.flat_len (L := List.range n) (r := fun i => (List.range n).map fun j => (i, j)) (n := n) fun x _ => by rw [List.length_map, List.length_range]; exact Nat.le_refl _
  rw [List.length_range] at h2
  omega
end PK
namespace H72
open PySem PySem.Spec PyProof.Rows L2 DL PK
theorem allD {M : Cs} {ds : List PyData} {g : PyData → Bool} : SeqLs M (.d (.list (ds.map fun d => .bool (g d)))) ((ds.map g).map PyData.bool) := by
  rw [List.map_map]
  exact .lst _
theorem flat_one {l : List Nat} : (l.map fun x => [epD (x, x)]).flatten = edL (l.map fun c => (c, c)) := by
  induction l with
  | nil => rfl
  | cons a l ih =>
    show epD (a, a) :: (l.map fun x => [epD (x, x)]).flatten = _
    rw [ih]
    rfl
section
variable {P : Program} {w : World} {K : PySem.W.Frag} {mg : Str → Option Value} {base : Heap} {f : Addr} {fd : FuncData}
def R_flatC : List Sl → Cs → (Sl → Cs → Prop) → Prop := fun κ M W => ∃ rows : List (List PyData), κ = [.d (.list (rows.map .list))] ∧ rows.flatten.length ≤ 10000 ∧ ∀ p, W (.v (.ref p)) ((p, .lst rows.flatten) :: M)
theorem ok_flatC {k : Nat} (Fn : FnP K "_law_flat" s__law_flat f fd) : FnOk P w K mg base CX0 (k + 1) f fd ["rows"] (SpG K R_flatC) := by
  refine fn_okD Fn sc_flat (fun κ M W h => ?_) fun cdv A outer s H E hr nd B0 F0 κ M W hR => ?_
  · obtain ⟨ns, rfl, _⟩ := h
    rfl
  · obtain ⟨rows, rfl, hn, hW⟩ := hR
    refine db_cons <| ds_set 1 <| de_lstC <| da_nil ⟨[], rfl, z0, fun p => ?_⟩
    refine db_cons <| ds_for <| di_list <| nm 0 rfl ⟨_, rfl, fun i M' ρ' => ∃ s2, M' = (p, .lst (rows.take i).flatten) :: M ∧ ρ' = [.d (.list (rows.map .list)), .v (.ref p), s2], ⟨_, rfl, rfl⟩, fun _ _ _ _ => trivial, ?_, ?_⟩
    · rintro i d M' ρ' hd ⟨s2, rfl, rfl⟩
      obtain ⟨r, hz, rfl⟩ := map_get hd
      have hlen : (rows.take (i + 1)).flatten.length ≤ rows.flatten.length := by
        have := congrArg List.length (congrArg List.flatten (List.take_append_drop (i + 1) rows))
        rw [List.flatten_append, List.length_append] at this
        omega
      rw [take_get hz, List.flatten_append, List.length_append] at hlen
      refine dg_name 2 <| db_cons <| ds_expr <| de_extend 0 <| nm 1 rfl ⟨p, _, rfl, List.mem_cons_self, nm 2 rfl ⟨_, r, .lst _, rfl, ?_, db_nil ⟨.d (.list r), ?_, rfl⟩⟩⟩
      · have e1 : ([r] : List (List PyData)).flatten.length = r.length := by simp
        omega
      · rw [take_get hz, List.flatten_append]
        simp
    · rintro M' ρ' ⟨s2, rfl, rfl⟩
      rw [List.length_map, List.take_length]
      exact db_cons <| ds_ret <| nm 1 rfl (hW p)
theorem sc_wins : FnScope ["park", "rows", "n", "cop", "robber", "lost", "many", "there", "place"] ["park"] (defScope s__law_wins) := ⟨rfl, rfl, rfl, by decide +kernel, rfl, by decide +kernel, by decide +kernel⟩
abbrev R_wins := Pu (fun g : Nat × Ed => [.d (grD g)]) PkOk (fun g => .bool (winsB g.1 g.2))
theorem ok_wins {k : Nat} (Fn : FnP K "_law_wins" s__law_wins f fd) (Gn : Go P w K mg base "_law_near" k ["park"] R_lnear) (Gf : Go P w K mg base "_law_flat" k ["rows"] R_flatC) (g_ra : mg "range" = none) (g_le : mg "len" = none) (g_al : mg "all" = none) (g_an : mg "any" = none) : FnOk P w K mg base CX0 (k + 1) f fd ["park"] (SpG K R_wins) := by
  refine fn_okD Fn sc_wins (fun κ M W h => ?_) fun cdv A outer s H E hr nd B0 F0 κ M W hR => ?_
  · obtain ⟨ns, rfl, _⟩ := h
    rfl
  · obtain ⟨⟨n, es⟩, hκ, hg, hW⟩ := hR
    have hκ : κ = [.d (.tuple [.int (n : Nat), .tuple (edL es)])] := hκ
    subst hκ
    have hg : PkOk (n, es) := hg
    have hn0 : 1 ≤ n := hg.n0
    have hn : n ≤ 12 := hg.n
    have hnn : n * n ≤ 12 * 12 := Nat.mul_le_mul hn hn
    have hW : ∀ M', W (.d (.bool (winsB n es))) M' := hW
    refine db_cons <| ds_parT 2 <| da_cons <| de_pu Gn hr <| da_cons <| nm 0 rfl <| da_nil <| da_pu (n, es) rfl hg <| da_cons <| de_ix ix_seq <| nm 0 rfl <| de_int <| r2_ix (.tup _) (d := .int (n : Nat)) rfl <| da_nil ⟨rfl, dgs_cons <| dg_name 1 <| dgs_cons <| dg_name 2 <| dgs_nil ?_⟩
    refine db_cons <| ds_set 5 <| de_goX 0 0 Gf hr <| da_cons <| de_freeze <| de_lcF 3 (fun d => .list ([natOf d].map fun x => epD (x, x))) <| di_range1 g_ra <| da_cons <| nm 2 rfl <| da_nil ⟨_, rfl, by omega, by omega, by rw [rngD_len]; omega, fun _ _ _ => trivial, ?_, fun D => ⟨D, _, _, rfl, rfl, da_nil ⟨(List.range n).map fun x => [epD (x, x)], ?_, ?_, fun l => ⟨trivial, ?_⟩⟩⟩⟩
    · intro d D acc hd b
      obtain ⟨c, hc, rfl⟩ := rngD_mem hd
      have hc : c < n := by omega
      rw [Int.zero_add]
      refine de_freeze <| de_lcIfF 4 (fun e => decide (c = natOf e)) (fun e => epD (c, natOf e)) <| di_range1 g_ra <| da_cons <| nm 2 rfl <| da_nil ⟨_, rfl, by omega, by omega, by rw [rngD_len]; omega, fun _ _ _ => trivial, ?_, ?_, fun D2 => ⟨D2, _, _, rfl, rfl, ?_, rfl⟩⟩
      · intro e D2 acc2 he b2
        obtain ⟨r, hr', rfl⟩ := rngD_mem he
        rw [Int.zero_add]
        exact dt_cmp op_eq <| nm 3 rfl <| nm 4 rfl <| r2_teqN ⟨rfl, rfl⟩
      · intro e D2 acc2 he _ b2
        obtain ⟨r, hr', rfl⟩ := rngD_mem he
        rw [Int.zero_add]
        exact de_tup <| da_cons <| nm 3 rfl <| da_cons <| nm 4 rfl <| da_nil ⟨[_, _], rfl, z2, rfl, rfl⟩
      · rw [Int.toNat_natCast, rng0, natL_filter (t := fun r => decide (c = r)) fun q _ => rfl, filt_one, if_pos hc]
        rfl
    · rw [Int.toNat_natCast, rng0]
      show [Sl.d (.list (List.map _ (List.map _ _)))] = [Sl.d (.list (List.map _ (List.map _ _)))]
      rw [List.map_map, List.map_map]
      rfl
    · rw [← List.flatMap_def]
      exact Nat.le_trans (flat_len (n := 1) fun x _ => Nat.le_refl 1) (by rw [List.length_range]; omega)
    rw [flat_one]
    refine db_cons <| ds_set 6 <| de_int ?_
    refine db_cons <| ds_while (fun m M' ρ' => ∃ (L : Ed) (many : Nat) (s3 s4 : Sl), M' = (l, MC.lst (edL L)) :: M ∧ WOk n es L ∧ many ≤ L.length ∧ (L.length = many → Dne n es L fun c r => c < n ∧ r < n) ∧ 200 - many = m ∧ ρ' = [.d (.tuple [.int (n : Nat), .tuple (edL es)]), .d (rowsL (n, es)), .d (.int (n : Nat)), s3, s4, .v (.ref l), .d (.int (many : Nat)), .un, .un]) 200 ⟨_, 0, _, _, rfl, .start n es, Nat.zero_le _, (fun z => by rw [List.length_map, List.length_range] at z; omega), rfl, rfl⟩ ?_
    rintro m M' ρ' ⟨L, many, s3, s4, rfl, hL, hml, hD, hm, rfl⟩
    have hLn := hL.len
    refine dt_cmp op_lt <| nm 6 rfl <| de_len g_le <| nm 5 rfl ⟨edL L, .cell List.mem_cons_self, r2_t (waysD (fun h => ?_) (fun h => ?_))⟩
    · rw [List.length_map] at h
      have h : many < L.length := by omega
      refine db_cons <| ds_set 6 <| de_len g_le <| nm 5 rfl ⟨edL L, .cell List.mem_cons_self, ?_⟩
      rw [show (edL L).length = L.length from List.length_map _]
      refine db_cons <| ds_for <| di_range1 g_ra <| da_cons <| nm 2 rfl <| da_nil ⟨_, rfl, by omega, by omega, fun c M' ρ' => ∃ (L' : Ed) (s3 s4 : Sl), M' = (l, MC.lst (edL L')) :: M ∧ WOk n es L' ∧ L.length ≤ L'.length ∧ (L'.length = L.length → Dne n es L' fun a b => a < c ∧ b < n) ∧ ρ' = [.d (.tuple [.int (n : Nat), .tuple (edL es)]), .d (rowsL (n, es)), .d (.int (n : Nat)), s3, s4, .v (.ref l), .d (.int (L.length : Nat)), .un, .un], ⟨L, _, _, rfl, hL, Nat.le_refl _, (fun _ a b z => absurd z.1 (Nat.not_lt_zero a)), rfl⟩, fun _ _ _ _ => trivial, ?_, ?_⟩
      · rintro c d M' ρ' hd ⟨L1, s3, s4, rfl, hL1, hl1, hD1, rfl⟩
        obtain ⟨hc, rfl⟩ := rngD_get hd
        have hc : c < n := by omega
        rw [Int.zero_add]
        refine dg_name 3 <| db_cons <| ds_for <| di_range1 g_ra <| da_cons <| nm 2 rfl <| da_nil ⟨_, rfl, by omega, by omega, fun r M' ρ' => ∃ (L' : Ed) (s4 : Sl), M' = (l, MC.lst (edL L')) :: M ∧ WOk n es L' ∧ L.length ≤ L'.length ∧ (L'.length = L.length → Dne n es L' fun a b => (a < c ∧ b < n) ∨ (a = c ∧ b < r)) ∧ ρ' = [.d (.tuple [.int (n : Nat), .tuple (edL es)]), .d (rowsL (n, es)), .d (.int (n : Nat)), .d (.int (c : Nat)), s4, .v (.ref l), .d (.int (L.length : Nat)), .un, .un], ⟨L1, _, rfl, hL1, hl1, (fun e a b z => hD1 e a b (z.elim id fun z => absurd z.2 (Nat.not_lt_zero b))), rfl⟩, fun _ _ _ _ => trivial, ?_, ?_⟩
        · rintro r d M' ρ' hd ⟨L2, s4, rfl, hL2, hl2, hD2, rfl⟩
          obtain ⟨hr', rfl⟩ := rngD_get hd
          have hr' : r < n := by omega
          have hL2n := hL2.len
          have hnc := nearL_len n es c
          have hnr := nearL_len n es r
          rw [Int.zero_add]
          have next : ((c, r) ∈ L2 ∨ ruleB n es L2 c r = false) → L2.length = L.length → Dne n es L2 fun a b => (a < c ∧ b < n) ∨ (a = c ∧ b < r + 1) := fun h e a b z => by
            by_cases q : a = c ∧ b = r
            · rw [q.1, q.2]; exact h
            · exact hD2 e a b (z.elim .inl fun z => .inr ⟨z.1, by omega⟩)
          refine dg_name 4 <| db_cons <| ds_if <| dt_w <| dw_and <| dt_cmp (op_notInD (PySem.units65 hr)) <| de_tup <| da_cons <| nm 3 rfl <| da_cons <| nm 4 rfl <| da_nil ⟨[_, _], rfl, z2, nm 5 rfl <| r2_niPL (e := (c, r)) (.cell List.mem_cons_self) ⟨_, rfl, waysN (fun h1 => ?_) (fun h1 => waysF rfl <| db_nil <| db_nil ⟨L2, _, rfl, hL2, hl2, next (.inl h1), rfl⟩)⟩⟩
          refine dw_and1 <| dt_val <| de_any g_an <| de_lcF 7 (fun d => .bool (decide (natOf d = r) || (nearL n es r).all fun q => decide ((natOf d, q) ∈ L2))) <| di_list <| de_ix ix_seq <| nm 1 rfl <| nm 3 rfl <| r2_ix (.lst _) (rowL_at (g := (n, es)) hc) ⟨_, rfl, by rw [natL_len]; show (nearL n es c).length ≤ _; omega, fun _ _ _ => trivial, ?_, fun D => ⟨_, allF, _, rfl, ?_⟩⟩
          · intro d D acc hd b
            obtain ⟨t, ht, rfl⟩ := nat_mem hd
            refine de_or <| de_cmp op_eq <| nm 7 rfl <| nm 4 rfl <| r2_eqI ⟨_, rfl, fun e1 => ?_, fun e1 => ?_⟩
            · rw [dec_nat] at e1
              refine de_one <| de_all g_al <| de_freeze <| de_lcF 8 (fun d => .bool (decide ((t, natOf d) ∈ L2))) <| di_list <| de_ix ix_seq <| nm 1 rfl <| nm 4 rfl <| r2_ix (.lst _) (rowL_at (g := (n, es)) hr') ⟨_, rfl, by rw [natL_len]; show (nearL n es r).length ≤ _; omega, fun _ _ _ => trivial, ?_, fun D => ⟨D, _, _, rfl, rfl, _, allD, ?_⟩⟩
              · intro d D acc hd b
                obtain ⟨q, hq, rfl⟩ := nat_mem hd
                exact de_cmp (op_inD (PySem.units65 hr)) <| de_tup <| da_cons <| nm 7 rfl <| da_cons <| nm 8 rfl <| da_nil ⟨[_, _], rfl, z2, nm 5 rfl <| r2_inPL (e := (t, q)) (.cell (List.mem_cons_of_mem _ (List.mem_cons_of_mem _ List.mem_cons_self))) ⟨rfl, rfl⟩⟩
              · rw [all_id, all_nat (t := fun q => decide ((t, q) ∈ L2)) fun q _ => rfl]
                refine ⟨?_, rfl⟩
                show _ = Sl.d (.bool (decide (t = r) || _))
                rw [e1, Bool.false_or]
                rfl
            · rw [dec_nat] at e1
              refine ⟨?_, rfl⟩
              show _ = Sl.d (.bool (decide (t = r) || _))
              rw [e1, Bool.true_or]
          rw [any_id, any_nat (t := fun t => decide (t = r) || (nearL n es r).all fun q => decide ((t, q) ∈ L2)) fun q _ => rfl]
          refine ways (fun h2 => db_drop 1 ?_) (fun h2 => db_nil <| db_drop 1 <| db_nil ⟨L2, _, rfl, hL2, hl2, next (.inr h2), rfl⟩)
          have hL3 := hL2.add hc hr' h1 h2
          exact db_cons <| ds_expr <| de_append 0 <| nm 5 rfl ⟨l, _, rfl, List.mem_cons_self, de_tup <| da_cons <| nm 3 rfl <| da_cons <| nm 4 rfl <| da_nil ⟨[_, _], rfl, z2, _, _, rfl, rfl, by rw [List.length_map]; omega, db_nil <| db_nil ⟨L2 ++ [(c, r)], _, by rw [show edL (L2 ++ [(c, r)]) = edL L2 ++ [epD (c, r)] from List.map_append]; rfl, hL3, by rw [List.length_append]; omega, (fun e => by rw [List.length_append, List.length_singleton] at e; omega), rfl⟩⟩⟩
        · rintro M' ρ' ⟨L2, s4, rfl, hL2, hl2, hD2, rfl⟩
          rw [rngD_len, Int.toNat_natCast] at hD2
          exact db_nil ⟨L2, _, _, rfl, hL2, hl2, fun e a b z => hD2 e a b (by omega), rfl⟩
      · rintro M' ρ' ⟨L1, s3, s4, rfl, hL1, hl1, hD1, rfl⟩
        rw [rngD_len, Int.toNat_natCast] at hD1
        exact db_nil ⟨200 - L.length, by omega, L1, L.length, _, _, rfl, hL1, hl1, hD1, rfl, rfl⟩
    · rw [List.length_map] at h
      have h : L.length = many := by omega
      refine db_cons <| ds_ret <| de_any g_an <| de_lcF 3 (fun d => .bool ((List.range n).all fun q => decide ((natOf d, q) ∈ L))) <| di_range1 g_ra <| da_cons <| nm 2 rfl <| da_nil ⟨_, rfl, by omega, by omega, by rw [rngD_len]; omega, fun _ _ _ => trivial, ?_, fun D => ⟨_, allF, ?_⟩⟩
      · intro d D acc hd b
        obtain ⟨c, hc, rfl⟩ := rngD_mem hd
        rw [Int.zero_add]
        refine de_all g_al <| de_freeze <| de_lcF 4 (fun d => .bool (decide ((c, natOf d) ∈ L))) <| di_range1 g_ra <| da_cons <| nm 2 rfl <| da_nil ⟨_, rfl, by omega, by omega, by rw [rngD_len]; omega, fun _ _ _ => trivial, ?_, fun D => ⟨D, _, _, rfl, rfl, _, allD, ?_⟩⟩
        · intro d D acc hd b
          obtain ⟨r, hr', rfl⟩ := rngD_mem hd
          rw [Int.zero_add]
          exact de_cmp (op_inD (PySem.units65 hr)) <| de_tup <| da_cons <| nm 3 rfl <| da_cons <| nm 4 rfl <| da_nil ⟨[_, _], rfl, z2, nm 5 rfl <| r2_inPL (e := (c, r)) (.cell (List.mem_cons_of_mem _ (List.mem_cons_of_mem _ List.mem_cons_self))) ⟨rfl, rfl⟩⟩
        · rw [all_id, Int.toNat_natCast, rng0, all_nat (t := fun q => decide ((c, q) ∈ L)) fun q _ => rfl]
          exact ⟨rfl, rfl⟩
      · rw [any_id, Int.toNat_natCast, rng0, any_nat (t := fun c => (List.range n).all fun q => decide ((c, q) ∈ L)) fun q _ => rfl, hL.fin (hD h)]
        exact hW _
end
end H72
set_option maxHeartbeats 2000000
namespace H72
open PySem PySem.Spec PyProof.Rows L2 DL PK
/-- ints and tuples -/
def IV : Nat → PyData → Prop
  | _, .int i => -1000 ≤ i ∧ i ≤ 1000
  | m + 1, .tuple ds => ds.length ≤ 400 ∧ ∀ d ∈ ds, IV m d
  | _, _ => False
abbrev GX (d : PyData) : Prop := ∃ k, GV 1000 k d
theorem gv_up : ∀ {k l : Nat} {d : PyData}, GV 1000 k d → k ≤ l → GV 1000 l d
  | _, l, .none, _, _ => by cases l <;> trivial
  | _, l, .bool _, _, _ => by cases l <;> trivial
  | _, l, .int _, _, _ => by cases l <;> trivial
  | _, l, .str _, _, _ => by cases l <;> trivial
  | k + 1, 0, .tuple ds, _, hl => by omega
  | k + 1, l + 1, .tuple ds, h, hl => ⟨h.1, fun d hd => gv_up (h.2 d hd) (by omega)⟩
  | 0, _, .tuple _, h, _ => h.elim
  | 0, _, .list _, h, _ => h.elim
  | _ + 1, _, .list _, h, _ => h.elim
  | 0, _, .dict _, h, _ => h.elim
  | _ + 1, _, .dict _, h, _ => h.elim
theorem gx_tup {ds : List PyData} (hl : ds.length ≤ 1000) (h : ∀ d ∈ ds, GX d) : GX (.tuple ds) := by
  have : ∃ k, ∀ d ∈ ds, GV 1000 k d := by
    clear hl
    induction ds with
    | nil => exact ⟨0, fun d hd => by cases hd⟩
    | cons a ds ih =>
      obtain ⟨k, hk⟩ := h a List.mem_cons_self
      obtain ⟨l, hl⟩ := ih fun d hd => h d (List.mem_cons_of_mem _ hd)
      refine ⟨max k l, fun d hd => ?_⟩
      rcases List.mem_cons.mp hd with rfl | hd
      · exact gv_up hk (by omega)
      · exact gv_up (hl d hd) (by omega)
  obtain ⟨k, hk⟩ := this
  exact ⟨k + 1, hl, hk⟩
theorem gx_int (i : Int) : GX (.int i) := ⟨0, trivial⟩
theorem gx_bool (i : Bool) : GX (.bool i) := ⟨0, trivial⟩
theorem gx_str (i : Str) : GX (.str i) := ⟨0, trivial⟩
theorem gx_none : GX .none := ⟨0, trivial⟩
theorem iv_gx : ∀ {m : Nat} {d : PyData}, IV m d → GX d
  | _, .int i, _ => gx_int i
  | m + 1, .tuple ds, h => gx_tup (by have := h.1; omega) fun d hd => iv_gx (h.2 d hd)
  | 0, .tuple _, h => h.elim
  | 0, .none, h => h.elim
  | _ + 1, .none, h => h.elim
  | 0, .bool _, h => h.elim
  | _ + 1, .bool _, h => h.elim
  | 0, .str _, h => h.elim
  | _ + 1, .str _, h => h.elim
  | 0, .list _, h => h.elim
  | _ + 1, .list _, h => h.elim
  | 0, .dict _, h => h.elim
  | _ + 1, .dict _, h => h.elim
theorem mem_cut {ds : List PyData} {l u : Option Int} {x : PyData} (h : x ∈ DL.cutD ds l u) : x ∈ ds := List.mem_of_mem_drop (List.mem_of_mem_take h)
theorem cut_len (ds : List PyData) (l u : Option Int) : (DL.cutD ds l u).length ≤ ds.length := by
  unfold DL.cutD
  rw [List.length_take, List.length_drop]
  omega
theorem log_small {i : Int} (h : -1000 ≤ i ∧ i ≤ 1000) : i.natAbs.log2 < 1920 := by
  by_cases c : i.natAbs = 0
  · rw [c]; decide
  · have h1 : i.natAbs < 2 ^ 10 := by
      have : (2 : Nat) ^ 10 = 1024 := by decide
      omega
    have h2 := (Nat.log2_lt c).mpr h1
    omega
theorem small200 {i : Int} (h : i ≤ 1000) : i < 2 ^ 200 := by
  have h2 : (2 : Int) ^ 200 > 1000 := by decide
  omega
def R_bent (bx cs : Addr) (m : Nat) : List Sl → Cs → (Sl → Cs → Prop) → Prop := fun κ M W => ∃ d, κ = [.v (.ref bx), .d d] ∧ Box bx cs M ∧ IV m d ∧ ∀ d' M', GX d' → Box bx cs M' → W (.d d') M'
section
variable {P : Program} {w : World} {K : PySem.W.Frag} {mg : Str → Option Value} {base : Heap} {f : Addr} {fd : FuncData}
theorem sc_bent : FnScope ["box", "value", "at", "pick"] ["box", "value"] (defScope s__law_bent) := ⟨rfl, rfl, rfl, by decide +kernel, rfl, by decide +kernel, by decide +kernel⟩
theorem eight {ds : List PyData} {z : Int} (h0 : 0 ≤ z) (h1 : z < 8) (hl : ds.length = 8) (h : ∀ d ∈ ds, GX d) : ∃ d, atI ds z = some d ∧ GX d := by
  obtain ⟨k, rfl⟩ := Int.eq_ofNat_of_zero_le h0
  have hk : k < ds.length := by omega
  exact ⟨ds[k], atI_at h0 (by rw [Int.toNat_natCast]; exact List.getElem?_eq_getElem hk), h _ (List.getElem_mem hk)⟩
theorem ok_bent {k m : Nat} {bx cs : Addr} (Fn : FnP K "_law_bent" s__law_bent f fd) (G : ∀ m', m = m' + 1 → Go P w K mg base "_law_bent" k ["box", "value"] (R_bent bx cs m')) (Gd : Go P w K mg base "_law_draw" k ["box", "many"] (R_draw bx cs)) (g_is : mg "isinstance" = none) (g_tu : mg "tuple" = none) (g_in : mg "int" = none) (g_bo : mg "bool" = none) (g_st : mg "str" = none) (g_le : mg "len" = none) : FnOk P w K mg base CX0 (k + 1) f fd ["box", "value"] (SpG K (R_bent bx cs m)) := by
  refine fn_okD Fn sc_bent (fun κ M W h => ?_) fun cdv A outer s H E hr nd B0 F0 κ M W hR => ?_
  · obtain ⟨ns, rfl, _⟩ := h
    rfl
  · obtain ⟨d, rfl, hb, hd, hW⟩ := hR
    cases d with
    | tuple ds =>
      obtain ⟨m', rfl, hl, hds⟩ : ∃ m', m = m' + 1 ∧ ds.length ≤ 400 ∧ ∀ d ∈ ds, IV m' d := by
        cases m with
        | zero => exact hd.elim
        | succ m => exact ⟨m, rfl, hd.1, hd.2⟩
      have hg : ∀ d ∈ ds, GX d := fun d h => iv_gx (hds d h)
      have hc := cut_len ds
      have hcg : ∀ l u, GX (.tuple (DL.cutD ds l u)) := fun l u => gx_tup (by have := hc l u; omega) fun d h => hg d (mem_cut h)
      have rest : ∀ M, Box bx cs M → DB (cxOf CX0 P w K mg base ["box", "value", "at", "pick"] "_law_bent" (defScope s__law_bent) f cdv A outer s H E).nox B0 F0 M [.v (.ref bx), .d (.tuple ds), .un, .un] [] ((defBody s__law_bent).drop 1) { nx := fun M' ρ' => W (.d .none) M', rt := W } := fun M hb => by
        refine db_cons <| ds_set 3 <| de_goJ 0 Gd hr <| da_cons <| nm 0 rfl <| da_cons <| de_int <| da_nil ⟨8, rfl, hb, by decide, by decide, fun z M3 hz0 hz1 hb3 => ⟨trivial, ?_⟩⟩
        refine db_cons <| ds_if <| dt_val <| de_isi bt_tuple g_is g_tu <| nm 1 rfl ⟨_, _, rfl, kTup _ _, _, rfl, waysT rfl ?_⟩
        refine db_cons <| ds_ret <| de_ix ix_seq <| de_freeze <| de_lstC <| da_cons <| de_op op_catA <| nm 1 rfl <| de_slice sl_tupA <| nm 1 rfl <| do_none <| do_some <| de_int ⟨_, rfl, rs_tup <| r2_catT (by have := hc none (some 1); omega) <| da_cons <| de_slice sl_tupA <| nm 1 rfl <| do_some <| de_int ⟨_, rfl, do_none <| rs_tup <| da_cons <| de_revT <| nm 1 rfl ⟨ds, rfl, do_some <| de_unop un_neg <| de_int <| r1_U (fun _ => .int _) ⟨_, rfl, rfl, da_cons <| de_op op_catA <| nm 1 rfl <| de_tup <| da_cons <| de_int <| da_nil ⟨[.int 0], rfl, z1, r2_catT (by show _ + 1 ≤ _; omega) <| da_cons <| de_op op_catA <| de_slice sl_tupA <| nm 1 rfl <| do_none <| do_some <| de_int ⟨_, rfl, rs_tup <| nm 1 rfl <| r2_catT (by have := hc none (some 1); omega) <| da_cons <| de_slice sl_tupA <| nm 1 rfl <| do_none <| do_some <| de_unop un_neg <| de_int <| r1_U (fun _ => .int _) ⟨_, rfl, rs_tup <| da_cons <| de_non <| da_cons <| de_slice sl_tupA <| nm 1 rfl <| do_none <| do_some <| de_int ⟨_, rfl, rs_tup <| da_nil ?_⟩⟩⟩⟩⟩⟩⟩⟩
        refine ⟨[.tuple (ds ++ DL.cutD ds none (some 1)), .tuple (DL.cutD ds (some 1) none), .tuple ds.reverse, .tuple (ds ++ [.int 0]), .tuple (DL.cutD ds none (some 1) ++ ds), .tuple (DL.cutD ds none (some (-1))), .none, .tuple (DL.cutD ds none (some 1))], rfl, by show 8 ≤ _; decide, fun q => ⟨q, _, _, rfl, rfl, ?_⟩⟩
        have h1 := hc none (some 1)
        obtain ⟨e, he, hx⟩ := eight (ds := [.tuple (ds ++ DL.cutD ds none (some 1)), .tuple (DL.cutD ds (some 1) none), .tuple ds.reverse, .tuple (ds ++ [.int 0]), .tuple (DL.cutD ds none (some 1) ++ ds), .tuple (DL.cutD ds none (some (-1))), .none, .tuple (DL.cutD ds none (some 1))]) hz0 hz1 rfl (by
          intro d hd
          simp only [List.mem_cons, List.not_mem_nil, or_false] at hd
          rcases hd with rfl | rfl | rfl | rfl | rfl | rfl | rfl | rfl
          · exact gx_tup (by rw [List.length_append]; omega) fun d h => (List.mem_append.mp h).elim (hg d) fun h => hg d (mem_cut h)
          · exact hcg _ _
          · exact gx_tup (by rw [List.length_reverse]; omega) fun d h => hg d (List.mem_reverse.mp h)
          · exact gx_tup (by rw [List.length_append]; show _ + 1 ≤ _; omega) fun d h => (List.mem_append.mp h).elim (hg d) fun h => by rw [List.mem_singleton.mp h]; exact gx_int 0
          · exact gx_tup (by rw [List.length_append]; omega) fun d h => (List.mem_append.mp h).elim (fun h => hg d (mem_cut h)) (hg d)
          · exact hcg _ _
          · exact gx_none
          · exact hcg _ _)
        exact nm 3 rfl <| r2_ix (.lst _) he (hW e _ hx hb3)
      refine db_cons <| ds_if <| dt_w <| dw_and <| dt_val <| de_isi bt_tuple g_is g_tu <| nm 1 rfl ⟨_, _, rfl, kTup _ _, _, rfl, waysT rfl <| dw_and <| dt_cmp op_gt <| de_len g_le <| nm 1 rfl ⟨ds, .tup _, de_int <| r2_t (waysD (fun hp => ?_) (fun _ => waysF rfl <| db_nil <| rest _ hb))⟩⟩
      refine dw_and1 <| dt_cmp op_gt <| de_goJ 0 Gd hr <| da_cons <| nm 0 rfl <| da_cons <| de_int <| da_nil ⟨5, rfl, hb, by decide, by decide, fun z M3 hz0 hz1 hb3 => ⟨trivial, de_int <| r2_t (waysD (fun _ => ?_) (fun _ => db_nil <| rest _ hb3))⟩⟩
      refine db_cons <| ds_set 2 <| de_goJ 0 Gd hr <| da_cons <| nm 0 rfl <| da_cons <| de_len g_le <| nm 1 rfl ⟨ds, .tup _, da_nil ⟨_, rfl, hb3, by omega, small200 (by omega), fun z M4 hz0 hz1 hb4 => ⟨trivial, ?_⟩⟩⟩
      obtain ⟨i, rfl⟩ := Int.eq_ofNat_of_zero_le hz0
      have hi : i < ds.length := by omega
      refine db_cons <| ds_ret <| de_op op_catA <| de_op op_catA <| de_slice sl_tupA <| nm 1 rfl <| do_none <| do_some <| nm 2 rfl ⟨_, rfl, rs_tup <| de_tup <| da_cons <| de_goJ 0 (G m' rfl) hr <| da_cons <| nm 0 rfl <| da_cons <| de_ix ix_seq <| nm 1 rfl <| nm 2 rfl <| r2_ix (.tup _) (d := ds[i]) (atI_at (by omega) (List.getElem?_eq_getElem hi)) <| da_nil ⟨ds[i], rfl, hb4, hds _ (List.getElem_mem hi), fun d' M5 hd' hb5 => ⟨trivial, da_nil ⟨[d'], rfl, z1, r2_catT (by have := hc none (some (i : Int)); show _ + 1 ≤ _; omega) <| de_slice sl_tupA <| nm 1 rfl <| do_some <| de_op op_add <| nm 2 rfl <| de_int <| r2_i ⟨_, rfl, do_none <| rs_tup <| r2_catT (by have h1 := hc none (some (i : Int)); have h2 := hc (some ((i : Int) + 1)) none; rw [List.length_append]; show _ + 1 + _ ≤ _; omega) <| hW _ _ ?_ hb5⟩⟩⟩⟩⟩
      have h1 := hc none (some (i : Int))
      have h2 := hc (some ((i : Int) + 1)) none
      refine gx_tup (by rw [List.length_append, List.length_append]; show _ + 1 + _ ≤ _; omega) fun d h => ?_
      rcases List.mem_append.mp h with h | h
      · rcases List.mem_append.mp h with h | h
        · exact hg d (mem_cut h)
        · rw [List.mem_singleton.mp h]; exact hd'
      · exact hg d (mem_cut h)
    | int i =>
      have hi : -1000 ≤ i ∧ i ≤ 1000 := by cases m <;> exact hd
      refine db_cons <| ds_if <| dt_w <| dw_and <| dt_val <| de_isi bt_tuple g_is g_tu <| nm 1 rfl ⟨_, _, rfl, kTup _ _, _, rfl, waysF rfl <| waysF rfl <| db_nil ?_⟩
      refine db_cons <| ds_set 3 <| de_goJ 0 Gd hr <| da_cons <| nm 0 rfl <| da_cons <| de_int <| da_nil ⟨8, rfl, hb, by decide, by decide, fun z M3 hz0 hz1 hb3 => ⟨trivial, ?_⟩⟩
      refine db_cons <| ds_if <| dt_val <| de_isi bt_tuple g_is g_tu <| nm 1 rfl ⟨_, _, rfl, kTup _ _, _, rfl, waysF rfl <| db_nil ?_⟩
      refine db_cons <| ds_if <| dt_w <| dw_and <| dt_val <| de_isi bt_int g_is g_in <| nm 1 rfl ⟨_, _, rfl, kInt _ _, _, rfl, waysT rfl <| dw_and1 <| dt_not <| dt_val <| de_isi bt_bool g_is g_bo <| nm 1 rfl ⟨_, _, rfl, kBool _ _, _, rfl, waysT rfl ?_⟩⟩
      refine db_cons <| ds_ret <| de_ix ix_seq <| de_freeze <| de_lstC <| da_cons <| de_op op_add <| nm 1 rfl <| de_int <| r2_i <| da_cons <| de_op op_sub <| nm 1 rfl <| de_int <| r2_i <| da_cons <| de_unop un_neg <| nm 1 rfl <| r1_U (fun _ => .int _) <| da_cons <| de_cmp op_eq <| nm 1 rfl <| de_int <| r2_eqI <| da_cons <| de_non <| da_cons <| de_strI g_st <| nm 1 rfl ⟨i, rfl, log_small hi, da_cons <| de_tup <| da_cons <| nm 1 rfl <| da_nil ⟨[.int i], rfl, z1, da_cons <| de_op op_add <| nm 1 rfl <| de_int <| r2_i <| da_nil ?_⟩⟩
      refine ⟨[.int (i + 1), .int (i - 1), .int (-i), .bool (decide (i = 1)), .none, .str (toString i), .tuple [.int i], .int (i + 1001)], rfl, by show 8 ≤ _; decide, fun q => ⟨q, _, _, rfl, rfl, ?_⟩⟩
      obtain ⟨e, he, hx⟩ := eight (ds := [.int (i + 1), .int (i - 1), .int (-i), .bool (decide (i = 1)), .none, .str (toString i), .tuple [.int i], .int (i + 1001)]) hz0 hz1 rfl (by
        intro d hd
        simp only [List.mem_cons, List.not_mem_nil, or_false] at hd
        rcases hd with rfl | rfl | rfl | rfl | rfl | rfl | rfl | rfl
        · exact gx_int _
        · exact gx_int _
        · exact gx_int _
        · exact gx_bool _
        · exact gx_none
        · exact gx_str _
        · exact gx_tup (by show 1 ≤ 1000; decide) fun d h => by rw [List.mem_singleton.mp h]; exact gx_int i
        · exact gx_int _)
      exact nm 3 rfl <| r2_ix (.lst _) he (hW e _ hx hb3)
    | none => cases m <;> exact hd.elim
    | bool _ => cases m <;> exact hd.elim
    | str _ => cases m <;> exact hd.elim
    | list _ => cases m <;> exact hd.elim
    | dict _ => cases m <;> exact hd.elim
end
end H72
set_option maxHeartbeats 2000000
namespace H72
open PySem PySem.Spec PyProof.Rows L2 DL PK
structure Wy (n : Nat) (L : Ed) : Prop where
  nd : L.Nodup
  up : ∀ e ∈ L, e.1 < e.2 ∧ e.2 < n
theorem Wy.len {n : Nat} {L : Ed} (h : Wy n L) (hn : n ≤ 12) : L.length ≤ 144 := by
  have h1 := nodup_le h.nd (m := (List.range n).flatMap fun i => (List.range n).map fun j => (i, j)) fun e he => List.mem_flatMap.mpr ⟨e.1, List.mem_range.mpr (by have := h.up e he; omega), List.mem_map.mpr ⟨e.2, List.mem_range.mpr (h.up e he).2, rfl⟩⟩
  have h2 := flat_len (L := List.range n) (r := fun i => (List.range n).map fun j => (i, j)) (n := n) fun x _ => by rw [List.length_map, List.length_range]; exact Nat.le_refl _
  rw [List.length_range] at h2
  have h3 : n * n ≤ 12 * 12 := Nat.mul_le_mul hn hn
  omega
theorem Wy.add {n : Nat} {L : Ed} (h : Wy n L) {a b : Nat} (h1 : a < b) (h2 : b < n) (no : (a, b) ∉ L) : Wy n (L ++ [(a, b)]) := by
  refine ⟨List.nodup_append.mpr ⟨h.nd, by simp, fun x hx y hy e => ?_⟩, fun e he => ?_⟩
  · rw [List.mem_singleton.mp hy] at e
    subst e
    exact no hx
  · rcases List.mem_append.mp he with he | he
    · exact h.up e he
    · rw [List.mem_singleton.mp he]; exact ⟨h1, h2⟩
def R_lpark (bx cs : Addr) : List Sl → Cs → (Sl → Cs → Prop) → Prop := fun κ M W => ∃ most : Nat, κ = [.v (.ref bx), .d (.int (most : Nat))] ∧ Box bx cs M ∧ 1 ≤ most ∧ most ≤ 12 ∧ ∀ g M', PkOk g → Box bx cs M' → W (.d (grD g)) M'
theorem edL_snoc (L : Ed) (e : Nat × Nat) : edL (L ++ [e]) = edL L ++ [epD e] := List.map_append
section
variable {P : Program} {w : World} {K : PySem.W.Frag} {mg : Str → Option Value} {base : Heap} {f : Addr} {fd : FuncData}
theorem sc_lpark : FnScope ["box", "most", "n", "ways", "place", "step", "i", "j"] ["box", "most"] (defScope s__law_park) := ⟨rfl, rfl, rfl, by decide +kernel, rfl, by decide +kernel, by decide +kernel⟩
theorem ok_lpark {k : Nat} {bx cs : Addr} (Fn : FnP K "_law_park" s__law_park f fd) (Gd : Go P w K mg base "_law_draw" k ["box", "many"] (R_draw bx cs)) (g_ra : mg "range" = none) (g_mi : mg "min" = none) (g_ma : mg "max" = none) (g_tu : mg "tuple" = none) (g_so : mg "sorted" = none) : FnOk P w K mg base CX0 (k + 1) f fd ["box", "most"] (SpG K (R_lpark bx cs)) := by
  refine fn_okD Fn sc_lpark (fun κ M W h => ?_) fun cdv A outer s H E hr nd B0 F0 κ M W hR => ?_
  · obtain ⟨ns, rfl, _⟩ := h
    rfl
  · obtain ⟨most, rfl, hb, hm1, hm2, hW⟩ := hR
    refine db_cons <| ds_par 2 3 <| da_cons <| de_op op_add <| de_int <| de_goJ 0 Gd hr <| da_cons <| nm 0 rfl <| da_cons <| nm 1 rfl <| da_nil ⟨(most : Int), rfl, hb, by omega, small200 (by omega), fun z M1 hz0 hz1 hb1 => ⟨trivial, r2_i <| da_cons <| de_lstC <| da_nil ⟨[], rfl, z0, fun l => da_nil ⟨_, _, rfl, ?_⟩⟩⟩⟩
    obtain ⟨n', rfl⟩ := Int.eq_ofNat_of_zero_le hz0
    obtain ⟨n, hn⟩ : ∃ n, n = 1 + n' := ⟨_, rfl⟩
    have hn1 : 1 ≤ n := by omega
    have hn2 : n ≤ 12 := by omega
    rw [show (1 : Int) + (n' : Int) = (n : Int) by omega]
    clear hn hz0 hz1 hb
    refine db_cons <| ds_for <| di_range2 g_ra <| da_cons <| de_int <| da_cons <| nm 2 rfl <| da_nil ⟨_, _, rfl, by omega, fun i M' ρ' => ∃ L M2 s4, M' = (l, MC.lst (edL L)) :: M2 ∧ Box bx cs M2 ∧ Wy n L ∧ (∀ e ∈ L, e.2 < 1 + i) ∧ ρ' = [.v (.ref bx), .d (.int (most : Nat)), .d (.int (n : Nat)), .v (.ref l), s4, .un, .un, .un], ⟨[], _, _, rfl, hb1, ⟨List.nodup_nil, fun e he => by cases he⟩, (fun e he => by cases he), rfl⟩, fun _ _ _ _ => trivial, ?_, ?_⟩
    · rintro i d M' ρ' hd ⟨L, M2, s4, rfl, hb2, hL, hlt, rfl⟩
      obtain ⟨hi, rfl⟩ := rngD_get hd
      have hi : 1 + i < n := by omega
      have hLl := hL.len hn2
      rw [show (1 : Int) + (i : Int) = ((1 + i : Nat) : Int) by omega]
      refine dg_name 4 <| db_cons <| ds_if <| dt_cmp op_gt <| de_goJ 1 Gd hr <| da_cons <| nm 0 rfl <| da_cons <| de_int <| da_nil ⟨8, rfl, hb2, by decide, by decide, fun z M3 hz0 hz1 hb3 => ⟨trivial, de_int <| r2_t (waysD (fun _ => ?_) (fun _ => db_nil <| db_nil ⟨L, M3, _, rfl, hb3, hL, (fun e he => by have := hlt e he; omega), rfl⟩))⟩⟩
      refine db_cons <| ds_expr <| de_append 0 <| nm 3 rfl ⟨l, _, rfl, List.mem_cons_self, de_tup <| da_cons <| de_goJ 1 Gd hr <| da_cons <| nm 0 rfl <| da_cons <| nm 4 rfl <| da_nil ⟨((1 + i : Nat) : Int), rfl, hb3, by omega, small200 (by omega), fun y M4 hy0 hy1 hb4 => ⟨trivial, da_cons <| nm 4 rfl <| da_nil ⟨[_, _], rfl, z2, _, _, rfl, rfl, by rw [List.length_map]; omega, ?_⟩⟩⟩⟩
      obtain ⟨a, rfl⟩ := Int.eq_ofNat_of_zero_le hy0
      have no : (a, 1 + i) ∉ L := fun z => by
        have := hlt _ z
        simp at this
      exact db_nil <| db_nil ⟨L ++ [(a, 1 + i)], M4, _, by rw [edL_snoc]; rfl, hb4, hL.add (by omega) hi no, (fun e he => by
        rcases List.mem_append.mp he with he | he
        · have := hlt e he; omega
        · rw [List.mem_singleton.mp he]; show 1 + i < _; omega), rfl⟩
    · rintro M' ρ' ⟨L, M2, s4, rfl, hb2, hL, hlt, rfl⟩
      refine db_cons <| ds_for <| di_range1 g_ra <| da_cons <| de_goJ 1 Gd hr <| da_cons <| nm 0 rfl <| da_cons <| de_op op_add <| nm 2 rfl <| de_int <| r2_i <| da_nil ⟨_, rfl, hb2, by omega, small200 (by omega), fun z M3 hz0 hz1 hb3 => ⟨trivial, da_nil ⟨_, rfl, by omega, by omega, fun i M' ρ' => ∃ L M2 s4 s5 s6 s7, M' = (l, MC.lst (edL L)) :: M2 ∧ Box bx cs M2 ∧ Wy n L ∧ ρ' = [.v (.ref bx), .d (.int (most : Nat)), .d (.int (n : Nat)), .v (.ref l), s4, s5, s6, s7], ⟨L, M3, _, _, _, _, rfl, hb3, hL, rfl⟩, fun _ _ _ _ => trivial, ?_, ?_⟩⟩⟩
      · rintro step d M' ρ' hd ⟨L, M2, s4, s5, s6, s7, rfl, hb2, hL, rfl⟩
        obtain ⟨hi, rfl⟩ := rngD_get hd
        have hLl := hL.len hn2
        refine dg_name 5 <| db_cons <| ds_par 6 7 <| da_cons <| de_goJ 1 Gd hr <| da_cons <| nm 0 rfl <| da_cons <| nm 2 rfl <| da_nil ⟨_, rfl, hb2, by omega, small200 (by omega), fun z M3 hz0 hz1 hb3 => ⟨trivial, da_cons <| de_goJ 1 Gd hr <| da_cons <| nm 0 rfl <| da_cons <| nm 2 rfl <| da_nil ⟨_, rfl, hb3, by omega, small200 (by omega), fun y M4 hy0 hy1 hb4 => ⟨trivial, da_nil ⟨_, _, rfl, ?_⟩⟩⟩⟩⟩
        obtain ⟨i, rfl⟩ := Int.eq_ofNat_of_zero_le hz0
        obtain ⟨j, rfl⟩ := Int.eq_ofNat_of_zero_le hy0
        have skip : ∀ s4 s5 s6 s7, ∃ L M2 s4' s5' s6' s7', (l, MC.lst (edL L)) :: M4 = (l, MC.lst (edL L)) :: M2 ∧ Box bx cs M2 ∧ Wy n L ∧ ([.v (.ref bx), .d (.int (most : Nat)), .d (.int (n : Nat)), .v (.ref l), s4, s5, s6, s7] : List Sl) = [.v (.ref bx), .d (.int (most : Nat)), .d (.int (n : Nat)), .v (.ref l), s4', s5', s6', s7'] := fun s4 s5 s6 s7 => ⟨L, M4, _, _, _, _, rfl, hb4, hL, rfl⟩
        refine db_cons <| ds_if <| dt_w <| dw_and <| dt_cmp op_ne <| nm 6 rfl <| nm 7 rfl <| r2_tneN (waysN (fun h1 => ?_) (fun h1 => waysF rfl <| db_nil <| db_nil ⟨L, M4, _, _, _, _, rfl, hb4, hL, rfl⟩))
        refine dw_and1 <| dt_cmp (op_notInD (PySem.units65 hr)) <| de_tup <| da_cons <| de_callB (call_min2 rfl) g_mi bt_min <| da_cons <| nm 6 rfl <| da_cons <| nm 7 rfl <| da_nil <| rn_min2 <| da_cons <| de_callB (call_max2 rfl) g_ma bt_max <| da_cons <| nm 6 rfl <| da_cons <| nm 7 rfl <| da_nil <| rn_max2 <| da_nil ⟨[_, _], rfl, z2, ?_⟩
        rw [min_nat, max_nat]
        refine nm 3 rfl <| r2_niPL (e := (min i j, max i j)) (.cell List.mem_cons_self) ⟨_, rfl, waysN (fun h2 => ?_) (fun h2 => db_nil <| db_nil ⟨L, M4, _, _, _, _, rfl, hb4, hL, rfl⟩)⟩
        refine db_cons <| ds_expr <| de_append 0 <| nm 3 rfl ⟨l, _, rfl, List.mem_cons_self, de_tup <| da_cons <| de_callB (call_min2 rfl) g_mi bt_min <| da_cons <| nm 6 rfl <| da_cons <| nm 7 rfl <| da_nil <| rn_min2 <| da_cons <| de_callB (call_max2 rfl) g_ma bt_max <| da_cons <| nm 6 rfl <| da_cons <| nm 7 rfl <| da_nil <| rn_max2 <| da_nil ⟨[_, _], rfl, z2, _, _, rfl, rfl, by rw [List.length_map]; omega, ?_⟩⟩
        rw [min_nat, max_nat]
        exact db_nil <| db_nil ⟨L ++ [(min i j, max i j)], M4, _, _, _, _, by rw [edL_snoc]; rfl, hb4, hL.add (by omega) (by omega) h2, rfl⟩
      · rintro M' ρ' ⟨L, M2, s4, s5, s6, s7, rfl, hb2, hL, rfl⟩
        have hLl := hL.len hn2
        obtain ⟨T, e1, e2, _⟩ := sort_pr L
        have e1 : sortD (edL L) = edL T := e1
        refine db_cons <| ds_retM 2 <| de_tup <| da_cons <| nm 2 rfl <| da_cons <| de_tupleOf g_tu <| de_sorted hr.units g_so <| nm 3 rfl ⟨edL L, .cell List.mem_cons_self, alike_pr, sortable_pr, by rw [List.length_map]; omega, depth_pr, fun l2 => ⟨_, .cell List.mem_cons_self, da_nil ⟨[_, _], rfl, z2, ?_⟩⟩⟩
        rw [e1]
        exact hW (n, T) _ ⟨hn1, hn2, by rw [e2.length_eq]; show L.length ≤ 200; omega, fun e he => hL.up e (e2.mem_iff.mp he), e2.nodup_iff.mpr hL.nd⟩ hb2
end
end H72
set_option maxHeartbeats 2000000
namespace H72
open PySem PySem.Spec PyProof.Rows L2 DL PK
structure Env72 (P : Program) (w : World) (K : PySem.W.Frag) (mg : Str → Option Value) (base : Heap) (k : Nat) : Prop where
  draw : ∀ bx cs, Go P w K mg base "_law_draw" k ["box", "many"] (R_draw bx cs)
  same : Go P w K mg base "_law_same" k ["a", "b"] (R_same 3)
  near : Go P w K mg base "near" k ["park"] R_near
  lnear : Go P w K mg base "_law_near" k ["park"] R_lnear
  wins : Go P w K mg base "_law_wins" k ["park"] R_wins
  ta : Go P w K mg base "take_apart" k ["park"] R_ta
  lap : ∀ bx cs, Go P w K mg base "_law_apart" k ["box", "park"] (R_lap bx cs)
  ll : Go P w K mg base "_law_left" k ["park", "value"] R_lb
  co : Go P w K mg base "corners" k ["park", "left"] R_co
  lco : Go P w K mg base "_law_corners" k ["rows", "left"] R_lco
  sf : Go P w K mg base "steps_from" k ["park", "place"] R_sf
  far : Go P w K mg base "_law_far" k ["rows", "place"] R_far
  bent : ∀ bx cs, Go P w K mg base "_law_bent" k ["box", "value"] (R_bent bx cs 3)
  ia : Go P w K mg base "is_apart" k ["park", "value"] (R_ia apartB)
  is : Go P w K mg base "is_stuck" k ["park", "value"] (R_ia stuckB)
  isp : Go P w K mg base "is_park" k ["value"] R_isp
  lisp : Go P w K mg base "_law_is_park" k ["value"] R_isp
  ra : mg "range" = none
  tu : mg "tuple" = none
  le : mg "len" = none
  isi : mg "isinstance" = none
abbrev NF : List Str := ["box", "park", "rows", "wins", "told", "pairs", "came_out", "left", "place", "some", "row", "pair", "values", "turn", "value", "remains", "due"]
theorem iv_int (m : Nat) {i : Int} (h : -1000 ≤ i ∧ i ≤ 1000) : IV m (.int i) := by cases m <;> exact h
theorem iv_edL {g : Nat × Ed} {ps : Ed} (m : Nat) (hg : g.1 ≤ 12) (hl : ps.length ≤ 400) (h : ∀ e ∈ ps, e.1 < g.1 ∧ e.2 < g.1) : IV (m + 2) (.tuple (edL ps)) := ⟨by rw [List.length_map]; exact hl, fun d hd => by
  obtain ⟨e, he, rfl⟩ := List.mem_map.mp hd
  have := h e he
  refine ⟨by show 2 ≤ 400; decide, fun x hx => ?_⟩
  simp only [List.mem_cons, List.not_mem_nil, or_false] at hx
  rcases hx with rfl | rfl
  · exact iv_int m (by omega)
  · exact iv_int m (by omega)⟩
theorem iv_park {g : Nat × Ed} (hg : PkOk g) : IV 3 (grD g) := ⟨by show 2 ≤ 400; decide, fun x hx => by
  have hn := hg.n
  have he := hg.e
  simp only [List.mem_cons, List.not_mem_nil, or_false] at hx
  rcases hx with rfl | rfl
  · exact iv_int 2 (by omega)
  · exact iv_edL 0 hn (by omega) fun e he => by have := hg.up e he; omega⟩
theorem gx_edL {g : Nat × Ed} {ps : Ed} (hg : g.1 ≤ 12) (hl : ps.length ≤ 400) (h : ∀ e ∈ ps, e.1 < g.1 ∧ e.2 < g.1) : ∀ d ∈ edL ps, GX d := fun d hd => iv_gx ((iv_edL 0 hg hl h).2 d hd)
section
variable {P : Program} {w : World} {K : PySem.W.Frag} {mg : Str → Option Value} {base : Heap} {f : Addr} {fd : FuncData}
theorem sc_fine : FnScope NF ["box", "park"] (defScope s__law_fine) := ⟨rfl, rfl, rfl, by decide +kernel, rfl, by decide +kernel, by decide +kernel⟩
abbrev FX (P : Program) (w : World) (K : PySem.W.Frag) (mg : Str → Option Value) (base : Heap) (f : Addr) (cdv : Value) (A : Around) (outer : List Env) (s : Shared) (H : Hp) (E : XK) : Cx := (cxOf CX0 P w K mg base NF "_law_fine" (defScope s__law_fine) f cdv A outer s H E).nox
variable {cdv : Value} {A : Around} {outer : List Env} {s : Shared} {H : Hp} {E : XK} {k : Nat} {B0 F0 : Hp} {bx cs : Addr}
theorem f_four (V : Env72 P w K mg base k) (hr : Room k (FX P w K mg base f cdv A outer s H E).A) (nd : NF.Nodup) {M : Cs} {kk : KK} {g : Nat × Ed} {s3 s4 s5 s6 s7 s8 s9 s12 s14 s15 s16 : Sl} (hg : PkOk g) (hb : Box bx cs M) (hk : ∀ M', Box bx cs M' → kk.rt (.d (.bool true)) M') :
    DB (FX P w K mg base f cdv A outer s H E) B0 F0 M [.v (.ref bx), .d (grD g), .d (rowsL g), s3, s4, s5, s6, s7, s8, s9, .un, .un, s12, .un, s14, s15, s16] [] ((defBody s__law_fine).drop 12) kk := by
  have hgn := hg.n
  have hge := hg.e
  have hU : ∀ e ∈ g.2, e.1 < g.1 ∧ e.2 < g.1 := fun e he => by have := hg.up e he; omega
  have hE : ∀ d ∈ edL g.2, GX d := gx_edL hgn (by omega) hU
  have hEl : (edL g.2).length = g.2.length := List.length_map _
  have hT : GX (.tuple (edL g.2)) := gx_tup (by omega) hE
  have two : ∀ (a b : PyData), GX a → GX b → GX (.tuple [a, b]) := fun a b ha hb => gx_tup (by show 2 ≤ 1000; decide) fun d hd => by
    simp only [List.mem_cons, List.not_mem_nil, or_false] at hd
    rcases hd with rfl | rfl
    · exact ha
    · exact hb
  refine db_cons <| ds_set 12 <| de_freeze <| de_lstC <| da_cons <| nm 1 rfl <| da_cons <| de_revT <| nm 1 rfl ⟨_, rfl, do_some <| de_unop un_neg <| de_int <| r1_U (fun _ => .int _) ⟨_, rfl, rfl, da_cons <| de_tup <| da_cons <| de_op op_add <| de_ix ix_seq <| nm 1 rfl <| de_int <| r2_ix (.tup _) (d := .int (g.1 : Nat)) rfl <| de_int <| r2_i <| da_cons <| de_ix ix_seq <| nm 1 rfl <| de_int <| r2_ix (.tup _) (d := .tuple (edL g.2)) rfl <| da_nil ⟨[_, _], rfl, z2, da_cons <| de_tup <| da_cons <| de_op op_sub <| de_ix ix_seq <| nm 1 rfl <| de_int <| r2_ix (.tup _) (d := .int (g.1 : Nat)) rfl <| de_int <| r2_i <| da_cons <| de_ix ix_seq <| nm 1 rfl <| de_int <| r2_ix (.tup _) (d := .tuple (edL g.2)) rfl <| da_nil ⟨[_, _], rfl, z2, da_cons <| de_tup <| da_cons <| de_int <| da_cons <| de_ix ix_seq <| nm 1 rfl <| de_int <| r2_ix (.tup _) (d := .tuple (edL g.2)) rfl <| da_nil ⟨[_, _], rfl, z2, da_cons <| de_tup <| da_cons <| de_int <| da_cons <| de_ix ix_seq <| nm 1 rfl <| de_int <| r2_ix (.tup _) (d := .tuple (edL g.2)) rfl <| da_nil ⟨[_, _], rfl, z2, ?_⟩⟩⟩⟩⟩⟩
  refine da_cons <| de_tup <| da_cons <| de_ix ix_seq <| nm 1 rfl <| de_int <| r2_ix (.tup _) (d := .int (g.1 : Nat)) rfl <| da_cons <| de_revT <| de_ix ix_seq <| nm 1 rfl <| de_int <| r2_ix (.tup _) (d := .tuple (edL g.2)) rfl ⟨_, rfl, do_some <| de_unop un_neg <| de_int <| r1_U (fun _ => .int _) ⟨_, rfl, rfl, da_nil ⟨[_, _], rfl, z2, da_cons <| de_slice sl_tupA <| nm 1 rfl <| do_none <| do_some <| de_int ⟨_, rfl, rs_tup <| da_cons <| de_non <| da_cons <| de_tup <| da_cons <| de_int <| da_cons <| de_tup <| da_nil ⟨[], rfl, z0, da_nil ⟨[_, _], rfl, z2, da_cons <| de_tup <| da_cons <| de_int <| da_cons <| de_tup <| da_nil ⟨[], rfl, z0, da_nil ⟨[_, _], rfl, z2, da_nil ?_⟩⟩⟩⟩⟩⟩⟩⟩
  obtain ⟨vals, hv⟩ : ∃ vals : List PyData, vals = [grD g, .tuple [.int (g.1 : Nat), .tuple (edL g.2)].reverse, .tuple [.int ((g.1 : Int) + 1), .tuple (edL g.2)], .tuple [.int ((g.1 : Int) - 1), .tuple (edL g.2)], .tuple [.int 12, .tuple (edL g.2)], .tuple [.int 13, .tuple (edL g.2)], .tuple [.int (g.1 : Nat), .tuple (edL g.2).reverse], .tuple (DL.cutD [.int (g.1 : Nat), .tuple (edL g.2)] none (some 1)), .none, .tuple [.int 0, .tuple []], .tuple [.int 1, .tuple []]] := ⟨_, rfl⟩
  have hvl : vals.length = 11 := by rw [hv]; rfl
  have hvg : ∀ d ∈ vals, GX d := by
    intro d hd
    rw [hv] at hd
    simp only [List.mem_cons, List.not_mem_nil, or_false] at hd
    rcases hd with rfl | rfl | rfl | rfl | rfl | rfl | rfl | rfl | rfl | rfl | rfl
    · exact two _ _ (gx_int _) hT
    · exact two _ _ hT (gx_int _)
    · exact two _ _ (gx_int _) hT
    · exact two _ _ (gx_int _) hT
    · exact two _ _ (gx_int _) hT
    · exact two _ _ (gx_int _) hT
    · exact two _ _ (gx_int _) (gx_tup (by rw [List.length_reverse]; omega) fun d h => hE d (List.mem_reverse.mp h))
    · refine gx_tup (Nat.le_trans (cut_len _ _ _) (by show 2 ≤ 1000; decide)) fun d h => ?_
      have h := mem_cut h
      simp only [List.mem_cons, List.not_mem_nil, or_false] at h
      rcases h with rfl | rfl
      · exact gx_int _
      · exact hT
    · exact gx_none
    · exact two _ _ (gx_int _) (gx_tup (by show 0 ≤ 1000; decide) fun d h => by cases h)
    · exact two _ _ (gx_int _) (gx_tup (by show 0 ≤ 1000; decide) fun d h => by cases h)
  refine ⟨vals, by rw [hv]; rfl, by rw [hvl]; decide, fun q => ⟨q, _, _, rfl, rfl, ?_⟩⟩
  clear hv
  refine db_cons <| ds_for <| di_list <| de_freeze <| de_op op_cat <| nm 12 rfl <| de_freeze <| de_lcC 13 <| di_range1 V.ra <| da_cons <| de_int <| da_nil ⟨6, rfl, by decide, by decide, fun D => ⟨fun i acc M' => Box bx cs M' ∧ acc.length = i ∧ ∀ d ∈ acc, GX d, ⟨hb, rfl, fun d h => by cases h⟩, fun _ _ _ _ => trivial, ?_, ?_⟩⟩
  · rintro i d acc M' hd ⟨hb', hl, ha⟩ b
    obtain ⟨hi, rfl⟩ := rngD_get hd
    refine de_goJ 1 (V.bent bx cs) hr <| da_cons <| nm 0 rfl <| da_cons <| nm 1 rfl <| da_nil ⟨_, rfl, hb', iv_park hg, fun d' M2 hd' hb2 => ⟨trivial, _, M2, rfl, rfl, by omega, hb2, by rw [List.length_append, hl]; rfl, fun d h => ?_⟩⟩
    rcases List.mem_append.mp h with h | h
    · exact ha d h
    · rw [List.mem_singleton.mp h]; exact hd'
  · rintro acc M' ⟨hb', hl, ha⟩
    rw [rngD_len] at hl
    refine ⟨D, _, _, rfl, rfl, r2_catC (.lst _) (.lst _) (by rw [hvl, hl]; decide) fun l => ⟨l, _, _, rfl, rfl, _, rfl, fun i M' ρ' => Box bx cs M' ∧ ∃ s14, ρ' = [.v (.ref bx), .d (grD g), .d (rowsL g), s3, s4, s5, s6, s7, s8, s9, .un, .un, .d (.list vals), .un, s14, s15, s16], ⟨hb', _, rfl⟩, fun _ _ _ _ => trivial, ?_, ?_⟩⟩
    · rintro i d M' ρ' hd ⟨hb2, s14, rfl⟩
      have hx : GX d := (List.mem_append.mp (List.mem_of_getElem? hd)).elim (hvg d) (ha d)
      exact dg_name 14 <| db_cons <| ds_if <| dt_not <| dt_val <| de_pu V.same hr <| da_cons <| de_pu V.isp hr <| da_cons <| nm 14 rfl <| da_nil <| da_pu d rfl hx <| da_cons <| de_pu V.lisp hr <| da_cons <| nm 14 rfl <| da_nil <| da_pu d rfl hx <| da_nil <| da_pu (.bool (isPark d)) rfl (same_bool 3 _) ⟨true, rfl, waysF rfl <| db_nil <| db_nil ⟨hb2, _, rfl⟩⟩
    · rintro M' ρ' ⟨hb2, s14, rfl⟩
      exact db_cons <| ds_ret <| de_bl <| hk _ hb2
end
end H72
set_option maxHeartbeats 2000000
namespace H72
open PySem PySem.Spec PyProof.Rows L2 DL PK
def revD : PyData → PyData
  | .tuple ds => .tuple ds.reverse
  | d => d
theorem apart_wins {g : Nat × Ed} (hg : PkOk g) {d : PyData} (h : apartB g d = true) : winsB g.1 g.2 = true := by
  unfold apartB at h
  cases hl : leftD g d with
  | none => rw [hl] at h; cases h
  | some L =>
    rw [hl] at h
    exact winsB_iff.mpr ((left_ok hg hl).apart (of_decide_eq_true h))
theorem stuck_wins {g : Nat × Ed} (hg : PkOk g) {d : PyData} (h : stuckB g d = true) : winsB g.1 g.2 = false := by
  unfold stuckB at h
  cases hl : leftD g d with
  | none => rw [hl] at h; cases h
  | some L =>
    rw [hl] at h
    have h := Bool.and_eq_true_iff.mp h
    rw [Bool.eq_false_iff]
    intro hw
    exact (left_ok hg hl).stuck (of_decide_eq_true h.1) (of_decide_eq_true h.2) (winsB_iff.mp hw)
theorem eq_nil_ep (cs : Ed) : PyData.eqv (.list (edL cs)) (.list []) = decide (cs = []) := by
  cases cs with
  | nil => rfl
  | cons a b => rfl
theorem same_two (m : Nat) (a b : Bool) : SameOk (m + 1) (.tuple [.bool a, .bool b]) := ⟨z2, fun d hd => by
  rcases List.mem_cons.mp hd with rfl | hd
  · exact same_bool m _
  · rw [List.mem_singleton.mp hd]; exact same_bool m _⟩
section
variable {P : Program} {w : World} {K : PySem.W.Frag} {mg : Str → Option Value} {base : Heap} {f : Addr} {fd : FuncData}
variable {cdv : Value} {A : Around} {outer : List Env} {s : Shared} {H : Hp} {E : XK} {k : Nat} {B0 F0 : Hp} {bx cs : Addr}
theorem f_three (V : Env72 P w K mg base k) (hr : Room k (FX P w K mg base f cdv A outer s H E).A) (nd : NF.Nodup) {M : Cs} {kk : KK} {g : Nat × Ed} {ps qs : Ed} {t : PyData} {s6 s7 s8 s9 s12 s14 s15 s16 : Sl} (hg : PkOk g) (hp : ps.length ≤ 12 ∧ ∀ e ∈ ps, e.1 < g.1 ∧ e.2 < g.1) (hq : qs.length ≤ 12 ∧ ∀ e ∈ qs, e.1 < g.1 ∧ e.2 < g.1) (hb : Box bx cs M) (hk : ∀ M', Box bx cs M' → kk.rt (.d (.bool true)) M') :
    DB (FX P w K mg base f cdv A outer s H E) B0 F0 M [.v (.ref bx), .d (grD g), .d (rowsL g), .d (.bool (winsB g.1 g.2)), .d (.tuple [t, .tuple (edL qs)]), .d (.tuple (edL ps)), s6, s7, s8, s9, .un, .un, s12, .un, s14, s15, s16] [] ((defBody s__law_fine).drop 10) kk := by
  have hgn := hg.n
  have hE : ∀ d ∈ edL ps, GX d := gx_edL hgn (by omega) hp.2
  have hEl : (edL ps).length = ps.length := List.length_map _
  have hQ : ∀ d ∈ edL qs, GX d := gx_edL hgn (by omega) hq.2
  have hQl : (edL qs).length = qs.length := List.length_map _
  have hc := cut_len (edL ps)
  have hcg : ∀ l u, GX (.tuple (DL.cutD (edL ps) l u)) := fun l u => gx_tup (by have := hc l u; omega) fun d h => hE d (mem_cut h)
  have h1 := hc none (some 1)
  have hI : IV 3 (.tuple (edL ps)) := iv_edL 1 hgn (by omega) hp.2
  have one : ∀ d, GX d → GX (.tuple [d]) := fun d h => gx_tup (by show 1 ≤ 1000; decide) fun x hx => by rw [List.mem_singleton.mp hx]; exact h
  have two : ∀ (a b : PyData), GX a → GX b → GX (.tuple [a, b]) := fun a b ha hb => gx_tup (by show 2 ≤ 1000; decide) fun d hd => by
    simp only [List.mem_cons, List.not_mem_nil, or_false] at hd
    rcases hd with rfl | rfl
    · exact ha
    · exact hb
  refine db_cons <| ds_set 12 <| de_freeze <| de_lstC <| da_cons <| de_ix ix_seq <| nm 4 rfl <| de_int <| r2_ix (.tup _) (d := .tuple (edL qs)) rfl <| da_cons <| nm 5 rfl <| da_cons <| de_slice sl_tupA <| nm 5 rfl <| do_some <| de_int ⟨_, rfl, do_none <| rs_tup <| da_cons <| de_slice sl_tupA <| nm 5 rfl <| do_none <| do_some <| de_unop un_neg <| de_int <| r1_U (fun _ => .int _) ⟨_, rfl, rs_tup <| da_cons <| de_revT <| nm 5 rfl ⟨_, rfl, do_some <| de_unop un_neg <| de_int <| r1_U (fun _ => .int _) ⟨_, rfl, rfl, da_cons <| de_op op_catA <| nm 5 rfl <| de_slice sl_tupA <| nm 5 rfl <| do_none <| do_some <| de_int ⟨_, rfl, rs_tup <| r2_catT (by omega) <| da_cons <| de_tup <| da_nil ⟨[], rfl, z0, da_cons <| de_non <| da_cons <| de_ix ix_seq <| nm 1 rfl <| de_int <| r2_ix (.tup _) (d := .int (g.1 : Nat)) rfl <| da_cons <| de_str ?_⟩⟩⟩⟩⟩⟩
  refine da_cons <| de_tup <| da_cons <| de_tup <| da_cons <| de_int <| da_cons <| de_int <| da_nil ⟨[_, _], rfl, z2, da_nil ⟨[_], rfl, z1, da_cons <| de_tup <| da_cons <| de_tup <| da_cons <| de_int <| da_cons <| de_int <| da_nil ⟨[_, _], rfl, z2, da_nil ⟨[_], rfl, z1, da_cons <| de_tupleOf V.tu <| de_freeze <| de_lcF 11 revD <| di_tup <| nm 5 rfl ⟨_, rfl, by omega, fun _ _ _ => trivial, ?_, fun D => ⟨D, _, _, rfl, rfl, _, .lst _, da_nil ?_⟩⟩⟩⟩⟩⟩
  · intro d D acc hd b
    obtain ⟨e, he, rfl⟩ := List.mem_map.mp hd
    exact de_revT <| nm 11 rfl ⟨_, rfl, do_some <| de_unop un_neg <| de_int <| r1_U (fun _ => .int _) ⟨_, rfl, rfl, rfl, rfl⟩⟩
  obtain ⟨vals, hv⟩ : ∃ vals : List PyData, vals = [.tuple (edL qs), .tuple (edL ps), .tuple (DL.cutD (edL ps) (some 1) none), .tuple (DL.cutD (edL ps) none (some (-1))), .tuple (edL ps).reverse, .tuple (edL ps ++ DL.cutD (edL ps) none (some 1)), .tuple [], .none, .int (g.1 : Nat), .str "apart", .tuple [.tuple [.int 0, .int 0]], .tuple [.tuple [.int 0, .int 1]], .tuple ((edL ps).map revD)] := ⟨_, rfl⟩
  have hvl : vals.length = 13 := by rw [hv]; rfl
  have hvg : ∀ d ∈ vals, GX d := by
    intro d hd
    rw [hv] at hd
    simp only [List.mem_cons, List.not_mem_nil, or_false] at hd
    rcases hd with rfl | rfl | rfl | rfl | rfl | rfl | rfl | rfl | rfl | rfl | rfl | rfl | rfl
    · exact gx_tup (by omega) hQ
    · exact gx_tup (by omega) hE
    · exact hcg _ _
    · exact hcg _ _
    · exact gx_tup (by rw [List.length_reverse]; omega) fun d h => hE d (List.mem_reverse.mp h)
    · exact gx_tup (by rw [List.length_append]; omega) fun d h => (List.mem_append.mp h).elim (hE d) fun h => hE d (mem_cut h)
    · exact gx_tup (by show 0 ≤ 1000; decide) fun d h => by cases h
    · exact gx_none
    · exact gx_int _
    · exact gx_str _
    · exact one _ (two _ _ (gx_int _) (gx_int _))
    · exact one _ (two _ _ (gx_int _) (gx_int _))
    · refine gx_tup (by rw [List.length_map]; omega) fun d h => ?_
      obtain ⟨x, hx, rfl⟩ := List.mem_map.mp h
      obtain ⟨e, he, rfl⟩ := List.mem_map.mp hx
      exact two _ _ (gx_int _) (gx_int _)
  refine ⟨vals, by rw [hv]; rfl, by rw [hvl]; decide, fun q => ⟨q, _, _, rfl, rfl, ?_⟩⟩
  clear hv
  refine db_cons <| ds_for <| di_list <| de_freeze <| de_op op_cat <| nm 12 rfl <| de_freeze <| de_lcC 13 <| di_range1 V.ra <| da_cons <| de_int <| da_nil ⟨8, rfl, by decide, by decide, fun D => ⟨fun i acc M' => Box bx cs M' ∧ acc.length = i ∧ ∀ d ∈ acc, GX d, ⟨hb, rfl, fun d h => by cases h⟩, fun _ _ _ _ => trivial, ?_, ?_⟩⟩
  · rintro i d acc M' hd ⟨hb', hl, ha⟩ b
    obtain ⟨hi, rfl⟩ := rngD_get hd
    refine de_goJ 1 (V.bent bx cs) hr <| da_cons <| nm 0 rfl <| da_cons <| nm 5 rfl <| da_nil ⟨_, rfl, hb', hI, fun d' M2 hd' hb2 => ⟨trivial, _, M2, rfl, rfl, by omega, hb2, by rw [List.length_append, hl]; rfl, fun d h => ?_⟩⟩
    rcases List.mem_append.mp h with h | h
    · exact ha d h
    · rw [List.mem_singleton.mp h]; exact hd'
  · rintro acc M' ⟨hb', hl, ha⟩
    rw [rngD_len] at hl
    refine ⟨D, _, _, rfl, rfl, r2_catC (.lst _) (.lst _) (by rw [hvl, hl]; decide) fun l => ⟨l, _, _, rfl, rfl, _, rfl, fun i M' ρ' => Box bx cs M' ∧ ∃ s14 s15 s16, ρ' = [.v (.ref bx), .d (grD g), .d (rowsL g), .d (.bool (winsB g.1 g.2)), .d (.tuple [t, .tuple (edL qs)]), .d (.tuple (edL ps)), s6, s7, s8, s9, .un, .un, .d (.list vals), .un, s14, s15, s16], ⟨hb', _, _, _, rfl⟩, fun _ _ _ _ => trivial, ?_, ?_⟩⟩
    · rintro i d M' ρ' hd ⟨hb2, s14, s15, s16, rfl⟩
      have hx : GX d := (List.mem_append.mp (List.mem_of_getElem? hd)).elim (hvg d) (ha d)
      refine dg_name 14 <| db_cons <| ds_set 15 <| de_pu V.ll hr <| da_cons <| nm 1 rfl <| da_cons <| nm 14 rfl <| da_nil <| da_pu (g, d) rfl ⟨hg, hx⟩ ?_
      refine db_cons <| ds_set 16 <| DE.mono2 (P := fun r M1 => r = .d (.tuple [.bool (apartB g d), .bool (stuckB g d)]) ∧ M1 = M') ?_ fun r M1 ⟨e1, e2⟩ => ?_
      · show DE _ _ _ _ [_, _, _, _, _, _, _, _, _, _, _, _, _, _, _, .d (optD (leftD g d)), _] _ _ _
        unfold apartB stuckB
        cases hl : leftD g d with
        | none =>
          exact de_tup <| da_cons <| de_and <| de_cmp op_notN <| nm 15 rfl <| de_non <| r2_notN ⟨_, rfl, (fun h => by cases h), fun _ => da_cons <| de_and <| de_cmp op_notN <| nm 15 rfl <| de_non <| r2_notN ⟨_, rfl, (fun h => by cases h), fun _ => da_nil ⟨[_, _], rfl, z2, rfl, rfl⟩⟩⟩
        | some L =>
          have hL := (left_ok hg hl).ok
          have hLl := lok_len hL
          refine de_tup <| da_cons <| de_and <| de_cmp op_notN <| nm 15 rfl <| de_non <| r2_notN ⟨_, rfl, fun _ => de_one <| de_cmp op_eq <| de_len V.le <| nm 15 rfl ⟨natL L, .lst _, de_int <| r2_eqI ?_⟩, fun h => by cases h⟩
          rw [natL_len, show decide ((L.length : Int) = 1) = decide (L.length = 1) from decide_eq_decide.mpr (by omega)]
          refine da_cons <| de_and <| de_cmp op_notN <| nm 15 rfl <| de_non <| r2_notN ⟨_, rfl, fun _ => de_and <| de_cmp op_gt <| de_len V.le <| nm 15 rfl ⟨natL L, .lst _, de_int <| r2_b ⟨_, rfl, fun h1 => ?_, fun h1 => ?_⟩⟩, fun h => by cases h⟩
          · rw [natL_len] at h1
            have h1 : 1 < L.length := by simp at h1; omega
            refine de_one <| de_cmp (op_eqD hr.units) <| de_go V.lco hr <| da_cons <| nm 2 rfl <| da_cons <| nm 15 rfl <| da_nil ⟨_, Views.refl _, g, _, L, rfl, .lst _, hg, by omega, hL, fun _ => ⟨_, rfl, de_lst <| da_nil ⟨[], rfl, z0, r2_eqD (shaped_lst _) rfl ?_⟩⟩⟩
            rw [eq_nil_ep]
            exact da_nil ⟨[_, _], rfl, z2, by show _ = Sl.d (.tuple [.bool (decide (L.length = 1)), .bool (decide (1 < L.length) && decide (cornersL g.1 g.2 L = []))]); rw [decide_eq_true h1, Bool.true_and], rfl⟩
          · rw [natL_len] at h1
            have h1 : ¬ 1 < L.length := by simp at h1; omega
            exact da_nil ⟨[_, _], rfl, z2, by show _ = Sl.d (.tuple [.bool (decide (L.length = 1)), .bool (decide (1 < L.length) && decide (cornersL g.1 g.2 L = []))]); rw [decide_eq_false h1, Bool.false_and], rfl⟩
      · subst e1 e2
        refine db_cons <| ds_if <| dt_w <| dw_or <| dt_not <| dt_val <| de_pu V.same hr <| da_cons <| de_tup <| da_cons <| de_pu V.ia hr <| da_cons <| nm 1 rfl <| da_cons <| nm 14 rfl <| da_nil <| da_pu (g, d) rfl ⟨hg, hx⟩ <| da_cons <| de_pu V.is hr <| da_cons <| nm 1 rfl <| da_cons <| nm 14 rfl <| da_nil <| da_pu (g, d) rfl ⟨hg, hx⟩ <| da_nil ⟨[_, _], rfl, z2, da_cons <| nm 16 rfl <| da_nil <| da_pu (.tuple [.bool (apartB g d), .bool (stuckB g d)]) rfl (same_two 2 _ _) ⟨true, rfl, orF rfl ?_⟩⟩
        refine dw_or <| dt_w <| dw_andP <| dt_val <| de_ix ix_seq <| nm 16 rfl <| de_int <| r2_ix (.tup _) (d := .bool (apartB g d)) rfl ⟨_, rfl, !winsB g.1 g.2, fun _ => dw_and1 <| dt_not <| dt_val <| nm 3 rfl ⟨_, rfl, rfl, rfl⟩, orF ?_ ?_⟩
        · cases h : apartB g d with
          | false => rfl
          | true => rw [apart_wins hg h]; rfl
        refine dw_or1 <| dt_w <| dw_andP <| dt_val <| de_ix ix_seq <| nm 16 rfl <| de_int <| r2_ix (.tup _) (d := .bool (stuckB g d)) rfl ⟨_, rfl, winsB g.1 g.2, fun _ => dw_and1 <| dt_val <| nm 3 rfl ⟨_, rfl, rfl, rfl⟩, waysF ?_ ?_⟩
        · cases h : stuckB g d with
          | false => rfl
          | true => rw [stuck_wins hg h]; rfl
        exact db_nil <| db_nil ⟨hb2, _, _, _, rfl⟩
    · rintro M' ρ' ⟨hb2, s14, s15, s16, rfl⟩
      exact f_four V hr nd hg hb2 hk
end
end H72
set_option maxHeartbeats 2000000
namespace H72
open PySem PySem.Spec PyProof.Rows L2 DL PK
def tag : Bool → Str
  | true => "apart"
  | false => "stuck"
theorem out_wins {g : Nat × Ed} {L : List Nat} (h : Left g.1 g.2 L) (hor : L.length = 1 ∨ 1 < L.length ∧ cornersL g.1 g.2 L = []) : decide (L.length = 1) = winsB g.1 g.2 := by
  rcases hor with h1 | ⟨h1, h2⟩
  · rw [decide_eq_true h1, winsB_iff.mpr (h.apart h1)]
  · rw [decide_eq_false (by omega)]
    exact (Bool.eq_false_iff.mpr fun hw => h.stuck h1 h2 (winsB_iff.mp hw)).symm
theorem told_is {g : Nat × Ed} {y : PyData} (h : Told g y) : ∃ qs L, Taken g qs L ∧ y = .tuple [.str (tag (winsB g.1 g.2)), .tuple (edL qs)] ∧ (L.length = 1 ∨ 1 < L.length ∧ cornersL g.1 g.2 L = []) := by
  obtain ⟨qs, L, hT, h⟩ := h
  rcases h with ⟨rfl, h1⟩ | ⟨rfl, h1, h2⟩
  · refine ⟨qs, L, hT, ?_, .inl h1⟩
    rw [← out_wins hT.left (.inl h1), decide_eq_true h1]
    rfl
  · refine ⟨qs, L, hT, ?_, .inr ⟨h1, h2⟩⟩
    rw [← out_wins hT.left (.inr ⟨h1, h2⟩), decide_eq_false (by omega)]
    rfl
theorem same_edL (m : Nat) {es : Ed} (h : es.length ≤ 100000) : SameOk (m + 2) (.tuple (edL es)) := ⟨by rw [List.length_map]; exact h, fun d hd => by
  obtain ⟨e, _, rfl⟩ := List.mem_map.mp hd
  refine ⟨z2, fun d hd => ?_⟩
  rcases List.mem_cons.mp hd with rfl | hd
  · exact same_int m _
  · rw [List.mem_singleton.mp hd]; exact same_int m _⟩
theorem same_rowsT (m : Nat) {g : Nat × Ed} (h : g.1 ≤ 12) : SameOk (m + 2) (rowsT g) := ⟨by rw [List.length_map, List.length_range]; omega, fun d hd => by
  obtain ⟨p, _, rfl⟩ := List.mem_map.mp hd
  exact same_natL m (by have := nearL_len g.1 g.2 p; omega)⟩
theorem same_dist (m : Nat) {g : Nat × Ed} {p : Nat} (h : g.1 ≤ 12) : SameOk (m + 1) (distT g p) := ⟨by rw [List.length_map, List.length_range]; omega, fun d hd => by
  obtain ⟨q, _, rfl⟩ := List.mem_map.mp hd
  cases distO g.1 g.2 p q with
  | none => exact same_none m
  | some k => exact same_int m _⟩
def tupD : PyData → PyData
  | .list ds => .tuple ds
  | d => d
theorem cor_len {g : Nat × Ed} {L : List Nat} (h : L.length ≤ 20) : (cornersL g.1 g.2 L).length ≤ 400 := by
  have : (cornersL g.1 g.2 L).length ≤ L.length * 20 := by
    unfold cornersL
    refine flat_len fun x _ => ?_
    rw [List.length_map]
    exact Nat.le_trans (List.length_filter_le _ _) (by omega)
  omega
section
variable {P : Program} {w : World} {K : PySem.W.Frag} {mg : Str → Option Value} {base : Heap} {f : Addr} {fd : FuncData}
variable {cdv : Value} {A : Around} {outer : List Env} {s : Shared} {H : Hp} {E : XK} {k : Nat} {B0 F0 : Hp} {bx cs : Addr}
theorem f_two (V : Env72 P w K mg base k) (hr : Room k (FX P w K mg base f cdv A outer s H E).A) (nd : NF.Nodup) {M : Cs} {kk : KK} {g : Nat × Ed} {ps qs : Ed} {t : PyData} {s6 s7 s8 s9 s12 s14 s15 s16 : Sl} (hg : PkOk g) (hp : ps.length ≤ 12 ∧ ∀ e ∈ ps, e.1 < g.1 ∧ e.2 < g.1) (hq : qs.length ≤ 12 ∧ ∀ e ∈ qs, e.1 < g.1 ∧ e.2 < g.1) (hb : Box bx cs M) (hk : ∀ M', Box bx cs M' → kk.rt (.d (.bool true)) M') :
    DB (FX P w K mg base f cdv A outer s H E) B0 F0 M [.v (.ref bx), .d (grD g), .d (rowsL g), .d (.bool (winsB g.1 g.2)), .d (.tuple [t, .tuple (edL qs)]), .d (.tuple (edL ps)), s6, s7, s8, s9, .un, .un, s12, .un, s14, s15, s16] [] ((defBody s__law_fine).drop 6) kk := by
  have hgn := hg.n
  have hg0 := hg.n0
  refine db_cons <| ds_cmp 9 <| du_freeze <| gu_lcIfC 8 <| di_range1 V.ra <| da_cons <| de_ix ix_seq <| nm 1 rfl <| de_int <| r2_ix (.tup _) (d := .int (g.1 : Nat)) rfl <| da_nil ⟨_, rfl, by omega, by omega, fun D => ⟨fun i acc M' => Box bx cs M' ∧ ∃ S : List Nat, acc = natL S ∧ S.Pairwise (· < ·) ∧ (∀ x ∈ S, x < i) ∧ S.length ≤ i, ⟨hb, [], rfl, .nil, (fun x h => by cases h), Nat.le_refl _⟩, fun _ _ _ _ => trivial, ?_, ?_⟩⟩
  · rintro i d acc M' hd ⟨hb', S, rfl, hS, hlt, hl⟩ b
    obtain ⟨hi, rfl⟩ := rngD_get hd
    rw [Int.zero_add]
    refine dt_cmp op_gt <| de_goJ 1 (V.draw bx cs) hr <| da_cons <| nm 0 rfl <| da_cons <| de_int <| da_nil ⟨3, rfl, hb', by decide, by decide, fun z M2 hz0 hz1 hb2 => ⟨trivial, de_int <| r2_t (waysD (fun _ b => nm 8 rfl ⟨_, M2, rfl, rfl, by rw [natL_len]; omega, hb2, S ++ [i], by rw [natL_app]; rfl, ?_, ?_, by rw [List.length_append, List.length_singleton]; omega⟩) (fun _ => ⟨M2, rfl, hb2, S, rfl, hS, (fun x hx => by have := hlt x hx; omega), by omega⟩))⟩⟩
    · exact List.pairwise_append.mpr ⟨hS, List.pairwise_singleton _ _, fun a ha b hb => by rw [List.mem_singleton.mp hb]; exact hlt a ha⟩
    · intro x hx
      rcases List.mem_append.mp hx with hx | hx
      · have := hlt x hx; omega
      · rw [List.mem_singleton.mp hx]; omega
  · rintro acc M' ⟨hb', S, rfl, hS, hlt, hl⟩
    rw [rngD_len, Int.toNat_natCast] at hlt hl
    have hok : LOk g.1 S := ⟨hS.imp fun h => by omega, hlt⟩
    have hcl := cor_len (g := g) (L := S) (by omega)
    refine ⟨D, _, _, rfl, rfl, ?_⟩
    refine db_cons <| ds_if <| dt_w <| dw_or <| dt_not <| dt_val <| de_pu V.same hr <| da_cons <| de_go V.co hr <| da_cons <| nm 1 rfl <| da_cons <| de_tupleOf V.tu <| nm 9 rfl ⟨_, .lst _, da_nil ⟨_, Views.refl _, g, _, S, rfl, .tup _, hg, by omega, hlt, fun _ => ⟨_, rfl, da_cons <| de_tupleOf V.tu <| de_go V.lco hr <| da_cons <| nm 2 rfl <| da_cons <| nm 9 rfl <| da_nil ⟨_, Views.refl _, g, _, S, rfl, .lst _, hg, by omega, hok, fun _ => ⟨_, rfl, _, .lst _, da_nil <| da_pu (.tuple (edL (cornersL g.1 g.2 S))) rfl (same_edL 1 (by omega)) ⟨true, rfl, orF rfl ?_⟩⟩⟩⟩⟩⟩
    refine dw_or1 <| dt_not <| dt_val <| de_pu V.same hr <| da_cons <| de_pu V.near hr <| da_cons <| nm 1 rfl <| da_nil <| da_pu g rfl hg <| da_cons <| de_tupleOf V.tu <| de_freeze <| de_lcF 10 tupD <| di_list <| nm 2 rfl ⟨_, rfl, by rw [List.length_map, List.length_range]; omega, fun _ _ _ => trivial, ?_, fun D => ⟨D, _, _, rfl, rfl, _, .lst _, da_nil <| da_pu (rowsT g) ?_ (same_rowsT 1 hgn) ⟨true, rfl, waysF rfl <| db_nil ?_⟩⟩⟩
    · intro d D acc hd b
      obtain ⟨p, hp, rfl⟩ := List.mem_map.mp hd
      exact de_tupleOf V.tu <| nm 10 rfl ⟨_, .lst _, rfl, rfl⟩
    · show [_, Sl.d (.tuple (List.map _ (List.map _ _)))] = _
      rw [List.map_map]
      rfl
    refine db_cons <| ds_set 8 <| de_goJ 0 (V.draw bx cs) hr <| da_cons <| nm 0 rfl <| da_cons <| de_ix ix_seq <| nm 1 rfl <| de_int <| r2_ix (.tup _) (d := .int (g.1 : Nat)) rfl <| da_nil ⟨_, rfl, hb', by omega, small200 (by omega), fun z M2 hz0 hz1 hb2 => ⟨trivial, ?_⟩⟩
    obtain ⟨p, rfl⟩ := Int.eq_ofNat_of_zero_le hz0
    have hpn : p < g.1 := by omega
    refine db_cons <| ds_if <| dt_not <| dt_val <| de_pu V.same hr <| da_cons <| de_pu V.sf hr <| da_cons <| nm 1 rfl <| da_cons <| nm 8 rfl <| da_nil <| da_pu (g, p) rfl ⟨hg, hpn⟩ <| da_cons <| de_pu V.far hr <| da_cons <| nm 2 rfl <| da_cons <| nm 8 rfl <| da_nil <| da_pu (g, p) rfl ⟨hg, hpn⟩ <| da_nil <| da_pu (distT g p) rfl (same_dist 2 hgn) ⟨true, rfl, waysF rfl <| db_nil ?_⟩
    exact f_three V hr nd hg hp hq hb2 hk
def R_fine (bx cs : Addr) : List Sl → Cs → (Sl → Cs → Prop) → Prop := fun κ M W => ∃ g : Nat × Ed, κ = [.v (.ref bx), .d (grD g)] ∧ Box bx cs M ∧ PkOk g ∧ ∀ M', Box bx cs M' → W (.d (.bool true)) M'
theorem ok_fine {k : Nat} {bx cs : Addr} (Fn : FnP K "_law_fine" s__law_fine f fd) (V : Env72 P w K mg base k) : FnOk P w K mg base CX0 (k + 1) f fd ["box", "park"] (SpG K (R_fine bx cs)) := by
  refine fn_okD Fn sc_fine (fun κ M W h => ?_) fun cdv A outer s H E hr nd B0 F0 κ M W hR => ?_
  · obtain ⟨g, rfl, _⟩ := h
    rfl
  · obtain ⟨g, rfl, hb, hg, hW⟩ := hR
    have hgn := hg.n
    refine db_cons <| ds_set 2 <| de_pu V.lnear hr <| da_cons <| nm 1 rfl <| da_nil <| da_pu g rfl hg ?_
    refine db_cons <| ds_par 3 4 <| da_cons <| de_pu V.wins hr <| da_cons <| nm 1 rfl <| da_nil <| da_pu g rfl hg <| da_cons <| de_pur V.ta hr <| da_cons <| nm 1 rfl <| da_nil ⟨g, rfl, hg, fun y hy => ?_⟩
    obtain ⟨qs, L0, hT, rfl, hor⟩ := told_is hy
    have hL0 := hT.left
    have hLl := lok_len hL0.ok
    have hql := hT.len
    have hqI : IV 2 (.tuple (edL qs)) := iv_edL 0 hgn (by omega) hT.lt
    refine da_nil ⟨_, _, rfl, ?_⟩
    refine db_cons <| ds_asg <| de_goJ 0 (V.lap bx cs) hr <| da_cons <| nm 0 rfl <| da_cons <| nm 1 rfl <| da_nil ⟨g, rfl, hb, hg, fun ps L M2 hT2 hor2 hb2 => ⟨trivial, dg_tup rfl <| dgs_cons <| dg_name 5 <| dgs_cons <| dg_name 6 <| dgs_nil ?_⟩⟩
    have hpl := hT2.len
    rw [out_wins hT2.left hor2]
    refine db_cons <| ds_if <| dt_w <| dw_or <| dt_not <| dt_val <| de_isi bt_tuple V.isi V.tu <| nm 4 rfl ⟨_, _, rfl, kTup _ _, _, rfl, orF rfl <| dw_or <| dt_cmp op_ne <| de_len V.le <| nm 4 rfl ⟨_, .tup _, de_int <| r2_tne <| orF rfl <| dw_or <| dt_not <| dt_val <| de_pu V.same hr <| da_cons <| de_ix ix_seq <| nm 4 rfl <| de_int <| r2_ix (.tup _) (d := .str (tag (winsB g.1 g.2))) rfl <| da_cons <| DE.mono2 (P := fun r M1 => r = .d (.str (tag (winsB g.1 g.2))) ∧ M1 = M2) ?_ fun r M1 ⟨e1, e2⟩ => ?_⟩⟩
    · exact de_ifexp <| dt_val <| nm 3 rfl ⟨_, rfl, ways (fun h => de_str ⟨by rw [h]; rfl, rfl⟩) (fun h => de_str ⟨by rw [h]; rfl, rfl⟩)⟩
    · subst e1 e2
      refine da_nil <| da_pu (.str _) rfl (same_str 3 _) ⟨true, rfl, orF rfl <| dw_or1 <| dt_cmp op_ne <| nm 6 rfl <| nm 3 rfl <| r2_ne rfl rfl rfl ⟨_, rfl, waysF (by simp) <| db_nil ?_⟩⟩
      refine db_cons <| ds_set 7 <| de_pu V.ll hr <| da_cons <| nm 1 rfl <| da_cons <| de_ix ix_seq <| nm 4 rfl <| de_int <| r2_ix (.tup _) (d := .tuple (edL qs)) rfl <| da_nil <| da_pu (g, .tuple (edL qs)) rfl ⟨hg, iv_gx hqI⟩ ?_
      show DB _ _ _ _ [_, _, _, _, _, _, _, .d (optD (leftL g (edL qs) (List.range g.1))), _, _, _, _, _, _, _, _, _] _ _ _
      rw [hT.run]
      have ho := out_wins hL0 hor
      refine db_cons <| ds_if <| dt_w <| dw_or <| dt_cmp op_isN <| nm 7 rfl <| de_non <| r2_isN ⟨_, rfl, orF rfl <| dw_or <| dt_cmp op_ne <| de_cmp op_eq <| de_len V.le <| nm 7 rfl ⟨natL L0, .lst _, de_int <| r2_eqI <| nm 3 rfl <| r2_ne rfl rfl rfl ⟨_, rfl, orF ?_ <| dw_or1 <| dt_w <| dw_andP <| dt_not <| dt_val <| nm 3 rfl ⟨_, rfl, false, fun hk => ?_, waysF (Bool.and_false _) <| db_nil ?_⟩⟩⟩⟩
      · rw [natL_len, show decide ((L0.length : Int) = 1) = decide (L0.length = 1) from decide_eq_decide.mpr (by omega), ho]
        simp
      · have hk : winsB g.1 g.2 = false := by simpa using hk
        have hc : cornersL g.1 g.2 L0 = [] := by
          rcases hor with h1 | h1
          · rw [← ho, decide_eq_true h1] at hk
            cases hk
          · exact h1.2
        refine dw_and1 <| dt_cmp (op_neD hr.units) <| de_go V.lco hr <| da_cons <| nm 2 rfl <| da_cons <| nm 7 rfl <| da_nil ⟨_, Views.refl _, g, _, L0, rfl, .lst _, hg, by omega, hL0.ok, fun _ => ⟨_, rfl, de_lst <| da_nil ⟨[], rfl, z0, r2_neD (shaped_lst _) rfl ⟨_, rfl, ?_, rfl⟩⟩⟩⟩
        rw [ne_nil_ep, hc]
        rfl
      · exact f_two V hr nd hg ⟨by omega, hT2.lt⟩ ⟨by omega, hT.lt⟩ hb2 hW
end
end H72
set_option maxHeartbeats 2000000
namespace H72
open PySem PySem.Spec PyProof.Rows L2 DL PK
/-- what take_apart tells, step by step -/
def takeL (g : Nat × Ed) : Nat → List Nat → Ed → PyData
  | 0, _, _ => .none
  | k + 1, L, ps => if 1 < L.length then match cornersL g.1 g.2 L with
      | [] => .tuple [.str "stuck", .tuple (edL ps)]
      | e :: _ => takeL g k (L.erase e.1) (ps ++ [e])
    else .tuple [.str "apart", .tuple (edL ps)]
def takeF (g : Nat × Ed) : PyData := takeL g (g.1 + 1) (List.range g.1) []
def R_law : List Sl → Cs → (Sl → Cs → Prop) → Prop := fun κ M W => ∃ ns : List Int, ns.length ≤ 100000 ∧ κ = [.rd (iL ns)] ∧ M = [] ∧ ∀ M', W (.d (.bool true)) M'
def g3 : Nat × Ed := (3, [(0, 1), (1, 2)])
def g4 : Nat × Ed := (4, [(0, 1), (0, 3), (1, 2), (2, 3)])
def g1 : Nat × Ed := (1, [])
theorem ok3 : PkOk g3 := ⟨by decide, by decide, by decide, by decide, by decide⟩
theorem ok4 : PkOk g4 := ⟨by decide, by decide, by decide, by decide, by decide⟩
theorem ok1 : PkOk g1 := ⟨by decide, by decide, by decide, by decide, by decide⟩
theorem take3 : takeF g3 = .tuple [.str "apart", .tuple (edL [(0, 1), (1, 2)])] := by kernel_rfl
theorem most_at {i : Nat} (h : i < 4) : ∃ m : Nat, atI [PyData.int 3, .int 5, .int 7, .int 7] (i : Int) = some (.int (m : Nat)) ∧ 1 ≤ m ∧ m ≤ 12 := by
  match i, h with
  | 0, _ => exact ⟨3, rfl, by decide, by decide⟩
  | 1, _ => exact ⟨5, rfl, by decide, by decide⟩
  | 2, _ => exact ⟨7, rfl, by decide, by decide⟩
  | 3, _ => exact ⟨7, rfl, by decide, by decide⟩
theorem same_told (m : Nat) (t : Str) {es : Ed} (h : es.length ≤ 100000) : SameOk (m + 3) (.tuple [.str t, .tuple (edL es)]) := ⟨z2, fun d hd => by
  rcases List.mem_cons.mp hd with rfl | hd
  · exact same_str _ _
  · rw [List.mem_singleton.mp hd]; exact same_edL m h⟩
section
variable {P : Program} {w : World} {K : PySem.W.Frag} {mg : Str → Option Value} {base : Heap} {f : Addr} {fd : FuncData}
abbrev R_taF := Pu (fun g : Nat × Ed => [.d (grD g)]) PkOk takeF
theorem ok_taF {k : Nat} (Fn : FnP K "take_apart" s_take_apart f fd) (Gc : Go P w K mg base "corners" k ["park", "left"] R_co) (g_le : mg "len" = none) (g_li : mg "list" = none) (g_ra : mg "range" = none) (g_tu : mg "tuple" = none) : FnOk P w K mg base CX0 (k + 1) f fd ["park"] (SpG K R_taF) := by
  refine fn_okD Fn sc_ta (fun κ M W h => ?_) fun cdv A outer s H E hr nd B0 F0 κ M W hR => ?_
  · obtain ⟨ns, rfl, _⟩ := h
    rfl
  · obtain ⟨g, hκ, hg, hW⟩ := hR
    have hκ : κ = [.d (grD g)] := hκ
    subst hκ
    have hg : PkOk g := hg
    have hgn := hg.n
    have hW : ∀ M', W (.d (takeF g)) M' := hW
    refine db_cons <| ds_par 1 2 <| da_cons <| de_lstRg1 g_li g_ra <| de_ix ix_seq <| nm 0 rfl <| de_int <| r2_ix (.tup _) (d := .int (g.1 : Nat)) rfl ⟨_, rfl, ⟨by omega, by omega, by omega, by omega, by omega⟩, fun l => da_cons <| de_lstC <| da_nil ⟨[], rfl, z0, fun q => da_nil ⟨_, _, rfl, ?_⟩⟩⟩
    rw [Int.toNat_natCast, rng0]
    refine db_cons <| ds_while (fun m M' ρ' => ∃ L ps s3, M' = (q, MC.lst (edL ps)) :: (l, MC.lst (natL L)) :: M ∧ Taken g ps L ∧ L.length = m ∧ takeL g (m + 1) L ps = takeF g ∧ ρ' = [.d (grD g), .v (.ref l), .v (.ref q), s3]) (List.range g.1).length ⟨List.range g.1, [], _, rfl, .start hg, rfl, by rw [List.length_range]; rfl, rfl⟩ ?_
    rintro m M' ρ' ⟨L, ps, s3, rfl, hT, hm, hF, rfl⟩
    have hlen := hT.len
    have hF : (if 1 < L.length then match cornersL g.1 g.2 L with
      | [] => PyData.tuple [.str "stuck", .tuple (edL ps)]
      | e :: _ => takeL g m (L.erase e.1) (ps ++ [e])
      else .tuple [.str "apart", .tuple (edL ps)]) = takeF g := hF
    refine dt_cmp op_gt <| de_len g_le <| nm 1 rfl ⟨natL L, .cell (List.mem_cons_of_mem _ List.mem_cons_self), de_int <| r2_t (waysD (fun h => ?_) (fun h => ?_))⟩
    · rw [natL_len] at h
      have h : 1 < L.length := by omega
      rw [if_pos h] at hF
      refine db_cons <| ds_set 3 <| de_go Gc hr <| da_cons <| nm 0 rfl <| da_cons <| nm 1 rfl <| da_nil ⟨_, .same (.rd (List.mem_cons_of_mem _ List.mem_cons_self) (Views.refl _)), g, _, L, rfl, .rd _, hg, by omega, hT.left.ok.lt, fun _ => ⟨_, rfl, ?_⟩⟩
      refine db_cons <| ds_if <| dt_not <| dt_truth <| nm 3 rfl ⟨_, rfl, (fun x h => nomatch h), ?_⟩
      cases hc : cornersL g.1 g.2 L with
      | nil =>
        rw [hc] at hF
        have hF : PyData.tuple [.str "stuck", .tuple (edL ps)] = takeF g := hF
        rw [← hF] at hW
        exact waysT rfl <| db_cons <| ds_ret <| de_tup <| da_cons <| de_str <| da_cons <| de_tupleOf g_tu <| nm 2 rfl ⟨_, .cell List.mem_cons_self, da_nil ⟨[_, _], rfl, z2, hW _⟩⟩
      | cons e cs =>
        obtain ⟨u, v⟩ := e
        rw [hc] at hF
        have hF : takeL g m (L.erase u) (ps ++ [(u, v)]) = takeF g := hF
        obtain ⟨hT2, hu, hlt⟩ := hT.next (u := u) (v := v) (by rw [hc]; exact List.mem_cons_self)
        have he := List.length_erase_of_mem hu
        refine waysF rfl <| db_nil ?_
        refine db_cons <| ds_expr <| de_append 0 <| nm 2 rfl ⟨q, _, rfl, List.mem_cons_self, de_ix ix_seq <| nm 3 rfl <| de_int <| r2_ix (.tup _) (d := epD (u, v)) (atI_at (by decide) rfl) ⟨_, _, rfl, rfl, by rw [List.length_map]; omega, ?_⟩⟩
        exact db_cons <| ds_expr <| de_remove 1 <| nm 1 rfl ⟨l, _, rfl, List.mem_cons_of_mem _ List.mem_cons_self, de_ix ix_seq <| de_ix ix_seq <| nm 3 rfl <| de_int <| r2_ix (.tup _) (d := epD (u, v)) (atI_at (by decide) rfl) <| de_int <| r2_ix (.tup _) (d := .int (u : Nat)) rfl ⟨L, u, rfl, rfl, hu, db_nil ⟨(L.erase u).length, by omega, L.erase u, ps ++ [(u, v)], _, by rw [show edL (ps ++ [(u, v)]) = edL ps ++ [epD (u, v)] from List.map_append]; rfl, hT2, rfl, by rw [show (L.erase u).length + 1 = m by omega]; exact hF, rfl⟩⟩⟩
    · rw [natL_len] at h
      have h : ¬ 1 < L.length := by omega
      rw [if_neg h] at hF
      rw [← hF] at hW
      exact db_cons <| ds_ret <| de_tup <| da_cons <| de_str <| da_cons <| de_tupleOf g_tu <| nm 2 rfl ⟨_, .cell List.mem_cons_self, da_nil ⟨[_, _], rfl, z2, hW _⟩⟩
structure EnvL (P : Program) (w : World) (K : PySem.W.Frag) (mg : Str → Option Value) (base : Heap) (k : Nat) : Prop where
  box : Go P w K mg base "_law_box" k ["script"] R_box
  park : ∀ bx cs, Go P w K mg base "_law_park" k ["box", "most"] (R_lpark bx cs)
  fine : ∀ bx cs, Go P w K mg base "_law_fine" k ["box", "park"] (R_fine bx cs)
  same : Go P w K mg base "_law_same" k ["a", "b"] (R_same 3)
  ta : Go P w K mg base "take_apart" k ["park"] R_taF
  mp : ∃ t, mg "MAX_PARK" = some (.int 12 t)
  ra : mg "range" = none
theorem sc_law : FnScope ["script", "box", "turn"] ["script"] (defScope s_law) := ⟨rfl, rfl, rfl, by decide +kernel, rfl, by decide +kernel, by decide +kernel⟩
theorem ok_law {k : Nat} (Fn : FnP K "law" s_law f fd) (V : EnvL P w K mg base k) : FnOk P w K mg base CX0 (k + 1) f fd ["script"] (SpG K R_law) := by
  refine fn_okD Fn sc_law (fun κ M W h => ?_) fun cdv A outer s H E hr nd B0 F0 κ M W hR => ?_
  · obtain ⟨ns, _, rfl, _⟩ := h
    rfl
  · obtain ⟨ns, hl, rfl, rfl, hW⟩ := hR
    obtain ⟨t, hmp⟩ := V.mp
    refine db_cons <| ds_set 1 <| de_goJ 0 V.box hr <| da_cons <| nm 0 rfl <| da_nil ⟨ns, hl, rfl, rfl, fun bx cs M1 hb => ⟨trivial, ?_⟩⟩
    refine db_cons <| ds_if <| dt_cmp op_ne <| de_glob (v := .int 12) hmp ⟨_, rfl⟩ (fun _ => .int 12) <| de_int <| r2_tne <| waysF rfl <| db_nil ?_
    refine db_cons <| ds_for <| di_range1 V.ra <| da_cons <| de_int <| da_nil ⟨4, rfl, by decide, by decide, fun i M' ρ' => Box bx cs M' ∧ ∃ s2, ρ' = [.rd (iL ns), .v (.ref bx), s2], ⟨hb, _, rfl⟩, fun _ _ _ _ => trivial, ?_, ?_⟩
    · rintro i d M' ρ' hd ⟨hb', s2, rfl⟩
      obtain ⟨hi, rfl⟩ := rngD_get hd
      rw [Int.zero_add]
      obtain ⟨most, hat, hm1, hm2⟩ := most_at (show i < 4 from hi)
      exact dg_name 2 <| db_cons <| ds_if <| dt_not <| dt_val <| de_goJ 0 (V.fine bx cs) hr <| da_cons <| nm 1 rfl <| da_cons <| de_goJ 0 (V.park bx cs) hr <| da_cons <| nm 1 rfl <| da_cons <| de_ix ix_seq <| de_freeze <| de_lstC <| da_cons <| de_int <| da_cons <| de_int <| da_cons <| de_int <| da_cons <| de_int <| da_nil ⟨[.int 3, .int 5, .int 7, .int 7], rfl, by show 4 ≤ 100000; decide, fun q => ⟨q, _, _, rfl, rfl, nm 2 rfl <| r2_ix (.lst _) hat <| da_nil ⟨most, rfl, hb', hm1, hm2, fun g M2 hg hb2 => ⟨trivial, da_nil ⟨g, rfl, hb2, hg, fun M3 hb3 => ⟨trivial, true, rfl, waysF rfl <| db_nil <| db_nil ⟨hb3, _, rfl⟩⟩⟩⟩⟩⟩⟩
    · rintro M' ρ' ⟨hb', s2, rfl⟩
      refine db_cons <| ds_ret <| de_and <| de_goJ 0 (V.fine bx cs) hr <| da_cons <| nm 1 rfl <| ?_
      refine da_cons ?_
      refine de_tup ?_
      refine da_cons ?_
      refine de_int ?_
      refine da_cons ?_
      refine de_tup ?_
      refine da_cons ?_
      refine de_tup ?_
      refine da_cons ?_
      refine de_int ?_
      refine da_cons ?_
      refine de_int ?_
      refine da_nil ⟨[_, _], rfl, z2, ?_⟩
      refine da_cons ?_
      refine de_tup ?_
      refine da_cons ?_
      refine de_int ?_
      refine da_cons ?_
      refine de_int ?_
      refine da_nil ⟨[_, _], rfl, z2, ?_⟩
      refine da_cons ?_
      refine de_tup ?_
      refine da_cons ?_
      refine de_int ?_
      refine da_cons ?_
      refine de_int ?_
      refine da_nil ⟨[_, _], rfl, z2, ?_⟩
      refine da_cons ?_
      refine de_tup ?_
      refine da_cons ?_
      refine de_int ?_
      refine da_cons ?_
      refine de_int ?_
      refine da_nil ⟨[_, _], rfl, z2, ?_⟩
      refine da_nil ⟨[_, _, _, _], rfl, by show 4 ≤ 100000; decide, ?_⟩
      refine da_nil ⟨[_, _], rfl, z2, ?_⟩
      refine da_nil ⟨g4, rfl, hb', ok4, fun M2 hb2 => ⟨trivial, true, rfl, waysT rfl ?_⟩⟩
      refine de_and <| de_goJ 0 (V.fine bx cs) hr <| da_cons <| nm 1 rfl <| ?_
      refine da_cons ?_
      refine de_tup ?_
      refine da_cons ?_
      refine de_int ?_
      refine da_cons ?_
      refine de_tup ?_
      refine da_nil ⟨[], rfl, z0, ?_⟩
      refine da_nil ⟨[_, _], rfl, z2, ?_⟩
      refine da_nil ⟨g1, rfl, hb2, ok1, fun M3 hb3 => ⟨trivial, true, rfl, waysT rfl ?_⟩⟩
      refine de_one <| de_pu V.same hr <| da_cons <| de_pu V.ta hr <| ?_
      refine da_cons ?_
      refine de_tup ?_
      refine da_cons ?_
      refine de_int ?_
      refine da_cons ?_
      refine de_tup ?_
      refine da_cons ?_
      refine de_tup ?_
      refine da_cons ?_
      refine de_int ?_
      refine da_cons ?_
      refine de_int ?_
      refine da_nil ⟨[_, _], rfl, z2, ?_⟩
      refine da_cons ?_
      refine de_tup ?_
      refine da_cons ?_
      refine de_int ?_
      refine da_cons ?_
      refine de_int ?_
      refine da_nil ⟨[_, _], rfl, z2, ?_⟩
      refine da_nil ⟨[_, _], rfl, z2, ?_⟩
      refine da_nil ⟨[_, _], rfl, z2, ?_⟩
      refine da_nil <| da_pu g3 rfl ok3 ?_
      rw [take3]
      refine da_cons ?_
      refine de_tup ?_
      refine da_cons ?_
      refine de_str ?_
      refine da_cons ?_
      refine de_tup ?_
      refine da_cons ?_
      refine de_tup ?_
      refine da_cons ?_
      refine de_int ?_
      refine da_cons ?_
      refine de_int ?_
      refine da_nil ⟨[_, _], rfl, z2, ?_⟩
      refine da_cons ?_
      refine de_tup ?_
      refine da_cons ?_
      refine de_int ?_
      refine da_cons ?_
      refine de_int ?_
      refine da_nil ⟨[_, _], rfl, z2, ?_⟩
      refine da_nil ⟨[_, _], rfl, z2, ?_⟩
      refine da_nil ⟨[_, _], rfl, z2, ?_⟩
      exact da_nil <| da_pu (.tuple [.str "apart", .tuple (edL [(0, 1), (1, 2)])]) rfl (same_told 0 _ (by decide)) (hW _)
theorem go_bent {bx cs : Addr} (k : Nat) (Fn : FnP K "_law_bent" s__law_bent f fd) (gm : mg "_law_bent" = some (.ref f)) (Gd : ∀ j, Go P w K mg base "_law_draw" (j + 2) ["box", "many"] (R_draw bx cs)) (g_is : mg "isinstance" = none) (g_tu : mg "tuple" = none) (g_in : mg "int" = none) (g_bo : mg "bool" = none) (g_st : mg "str" = none) (g_le : mg "len" = none) :
    ∀ m, Go P w K mg base "_law_bent" (k + 3 + m) ["box", "value"] (R_bent bx cs m) := by
  have one : ∀ (j m : Nat), (∀ m', m = m' + 1 → Go P w K mg base "_law_bent" (j + 2) ["box", "value"] (R_bent bx cs m')) → Go P w K mg base "_law_bent" (j + 3) ["box", "value"] (R_bent bx cs m) := fun j m h => go_of Fn gm (fun _ _ _ _ _ _ us hl => match us, hl with | [_, _], _ => rfl) (ok_bent Fn h (Gd j) g_is g_tu g_in g_bo g_st g_le)
  intro m
  induction m with
  | zero => exact one k 0 fun m' h => by omega
  | succ m ih =>
    have e : k + 3 + (m + 1) = (k + 1 + m) + 3 := by omega
    rw [e]
    refine one (k + 1 + m) (m + 1) fun m' h => ?_
    have : m = m' := by omega
    subst this
    have e : k + 1 + m + 2 = k + 3 + m := by omega
    rw [e]
    exact ih
end
end H72
set_option maxHeartbeats 0
namespace H72
open PySem PySem.Spec PyProof.Rows L2
def d_is_number : He.DefD := ⟨("is_number", none), "is_number", "is_number", defArgs s_is_number, defBody s_is_number, defScope s_is_number, [], []⟩
def d_is_ascending : He.DefD := ⟨("is_ascending", none), "is_ascending", "is_ascending", defArgs s_is_ascending, defBody s_is_ascending, defScope s_is_ascending, [], []⟩
def d_is_way : He.DefD := ⟨("is_way", none), "is_way", "is_way", defArgs s_is_way, defBody s_is_way, defScope s_is_way, [], []⟩
def d_is_park : He.DefD := ⟨("is_park", none), "is_park", "is_park", defArgs s_is_park, defBody s_is_park, defScope s_is_park, [], []⟩
def d_near : He.DefD := ⟨("near", none), "near", "near", defArgs s_near, defBody s_near, defScope s_near, [], []⟩
def d_steps_from : He.DefD := ⟨("steps_from", none), "steps_from", "steps_from", defArgs s_steps_from, defBody s_steps_from, defScope s_steps_from, [], []⟩
def d_is_corner : He.DefD := ⟨("is_corner", none), "is_corner", "is_corner", defArgs s_is_corner, defBody s_is_corner, defScope s_is_corner, [], []⟩
def d_corners : He.DefD := ⟨("corners", none), "corners", "corners", defArgs s_corners, defBody s_corners, defScope s_corners, [], []⟩
def d_take_apart : He.DefD := ⟨("take_apart", none), "take_apart", "take_apart", defArgs s_take_apart, defBody s_take_apart, defScope s_take_apart, [], []⟩
def d_left_behind : He.DefD := ⟨("left_behind", none), "left_behind", "left_behind", defArgs s_left_behind, defBody s_left_behind, defScope s_left_behind, [], []⟩
def d_is_apart : He.DefD := ⟨("is_apart", none), "is_apart", "is_apart", defArgs s_is_apart, defBody s_is_apart, defScope s_is_apart, [], []⟩
def d_is_stuck : He.DefD := ⟨("is_stuck", none), "is_stuck", "is_stuck", defArgs s_is_stuck, defBody s_is_stuck, defScope s_is_stuck, [], []⟩
def d__law_flat : He.DefD := ⟨("_law_flat", none), "_law_flat", "_law_flat", defArgs s__law_flat, defBody s__law_flat, defScope s__law_flat, [], []⟩
def d__law_box : He.DefD := ⟨("_law_box", none), "_law_box", "_law_box", defArgs s__law_box, defBody s__law_box, defScope s__law_box, [], []⟩
def d__law_load : He.DefD := ⟨("_law_load", none), "_law_load", "_law_load", defArgs s__law_load, defBody s__law_load, defScope s__law_load, [], []⟩
def d__law_draw : He.DefD := ⟨("_law_draw", none), "_law_draw", "_law_draw", defArgs s__law_draw, defBody s__law_draw, defScope s__law_draw, [], []⟩
def d__law_same : He.DefD := ⟨("_law_same", none), "_law_same", "_law_same", defArgs s__law_same, defBody s__law_same, defScope s__law_same, [], []⟩
def d__law_bent : He.DefD := ⟨("_law_bent", none), "_law_bent", "_law_bent", defArgs s__law_bent, defBody s__law_bent, defScope s__law_bent, [], []⟩
def d__law_park : He.DefD := ⟨("_law_park", none), "_law_park", "_law_park", defArgs s__law_park, defBody s__law_park, defScope s__law_park, [], []⟩
def d__law_near : He.DefD := ⟨("_law_near", none), "_law_near", "_law_near", defArgs s__law_near, defBody s__law_near, defScope s__law_near, [], []⟩
def d__law_is_corner : He.DefD := ⟨("_law_is_corner", none), "_law_is_corner", "_law_is_corner", defArgs s__law_is_corner, defBody s__law_is_corner, defScope s__law_is_corner, [], []⟩
def d__law_corners : He.DefD := ⟨("_law_corners", none), "_law_corners", "_law_corners", defArgs s__law_corners, defBody s__law_corners, defScope s__law_corners, [], []⟩
def d__law_left : He.DefD := ⟨("_law_left", none), "_law_left", "_law_left", defArgs s__law_left, defBody s__law_left, defScope s__law_left, [], []⟩
def d__law_apart : He.DefD := ⟨("_law_apart", none), "_law_apart", "_law_apart", defArgs s__law_apart, defBody s__law_apart, defScope s__law_apart, [], []⟩
def d__law_is_park : He.DefD := ⟨("_law_is_park", none), "_law_is_park", "_law_is_park", defArgs s__law_is_park, defBody s__law_is_park, defScope s__law_is_park, [], []⟩
def d__law_wins : He.DefD := ⟨("_law_wins", none), "_law_wins", "_law_wins", defArgs s__law_wins, defBody s__law_wins, defScope s__law_wins, [], []⟩
def d__law_far : He.DefD := ⟨("_law_far", none), "_law_far", "_law_far", defArgs s__law_far, defBody s__law_far, defScope s__law_far, [], []⟩
def d__law_fine : He.DefD := ⟨("_law_fine", none), "_law_fine", "_law_fine", defArgs s__law_fine, defBody s__law_fine, defScope s__law_fine, [], []⟩
def d_law : He.DefD := ⟨("law", none), "law", "law", defArgs s_law, defBody s_law, defScope s_law, [], []⟩
def fn : List He.DefD := [d_is_number, d_is_ascending, d_is_way, d_is_park, d_near, d_steps_from, d_is_corner, d_corners, d_take_apart, d_left_behind, d_is_apart, d_is_stuck, d__law_flat, d__law_box, d__law_load, d__law_draw, d__law_same, d__law_bent, d__law_park, d__law_near, d__law_is_corner, d__law_corners, d__law_left, d__law_apart, d__law_is_park, d__law_wins, d__law_far, d__law_fine, d_law]
def fa : List He.Fa := [.glo "is_number", .glo "is_ascending", .glo "is_way", .glo "is_park", .glo "near", .glo "steps_from", .glo "is_corner", .glo "corners", .glo "take_apart", .glo "left_behind", .glo "is_apart", .glo "is_stuck", .glo "_law_flat", .glo "_law_box", .glo "_law_load", .glo "_law_draw", .glo "_law_same", .glo "_law_bent", .glo "_law_park", .glo "_law_near", .glo "_law_is_corner", .glo "_law_corners", .glo "_law_left", .glo "_law_apart", .glo "_law_is_park", .glo "_law_wins", .glo "_law_far", .glo "_law_fine", .glo "law", .free "all", .free "any", .free "bool", .free "int", .free "isinstance", .free "len", .free "list", .free "max", .free "min", .free "range", .free "set", .free "sorted", .free "str", .free "tuple", .int "MAX_PARK" 12]
def ex (K : PySem.W.Frag) : Bool := true
abbrev R : PySem.W.OpenRow := PySem.W.OpenLaw.row PySem.Challenge.rw_cantmove_k72_whole_parks_taken_apart
abbrev hk : PySem.W.Hook := DLHook.hookX 4 fa fn ex
def ob (s : PySem.W.SharedT) : DLHook.AlX := DLHook.obsX 4 fa fn ex (HandSHeadRun.getT s)
theorem ob_eq (s : PySem.W.SharedT) : ob s = hk.obs s.abs := DLHook.obsX_eq (HandSHeadRun.getT_eq s)
def loose : List PySem.Str := ["_law_apart", "_law_bent", "_law_box", "_law_corners", "_law_draw", "_law_far", "_law_fine", "_law_flat", "_law_is_corner", "_law_is_park", "_law_left", "_law_load", "_law_near", "_law_park", "_law_same", "_law_wins", "corners", "is_apart", "is_ascending", "is_corner", "is_number", "is_park", "is_stuck", "is_way", "left_behind", "near", "steps_from", "take_apart", "MAX_PARK"]
theorem run (w : World) : HandSHeadRun.RunEq R (PySem.W.view R.prog [32]) hk ob 4000 loose w := by
  intro os
  kernel_rfl
section
variable {K : PySem.W.Frag} {h : Heap} {mg : Str → Option Value}
theorem f_is_number (c : He.SaysD fa fn K) : ∃ fd, DL.FnP K "is_number" s_is_number (He.fAd K ("is_number", none)) fd := c.def_ 0 (d := d_is_number) rfl
theorem f_is_ascending (c : He.SaysD fa fn K) : ∃ fd, DL.FnP K "is_ascending" s_is_ascending (He.fAd K ("is_ascending", none)) fd := c.def_ 1 (d := d_is_ascending) rfl
theorem f_is_way (c : He.SaysD fa fn K) : ∃ fd, DL.FnP K "is_way" s_is_way (He.fAd K ("is_way", none)) fd := c.def_ 2 (d := d_is_way) rfl
theorem f_is_park (c : He.SaysD fa fn K) : ∃ fd, DL.FnP K "is_park" s_is_park (He.fAd K ("is_park", none)) fd := c.def_ 3 (d := d_is_park) rfl
theorem f_near (c : He.SaysD fa fn K) : ∃ fd, DL.FnP K "near" s_near (He.fAd K ("near", none)) fd := c.def_ 4 (d := d_near) rfl
theorem f_steps_from (c : He.SaysD fa fn K) : ∃ fd, DL.FnP K "steps_from" s_steps_from (He.fAd K ("steps_from", none)) fd := c.def_ 5 (d := d_steps_from) rfl
theorem f_is_corner (c : He.SaysD fa fn K) : ∃ fd, DL.FnP K "is_corner" s_is_corner (He.fAd K ("is_corner", none)) fd := c.def_ 6 (d := d_is_corner) rfl
theorem f_corners (c : He.SaysD fa fn K) : ∃ fd, DL.FnP K "corners" s_corners (He.fAd K ("corners", none)) fd := c.def_ 7 (d := d_corners) rfl
theorem f_take_apart (c : He.SaysD fa fn K) : ∃ fd, DL.FnP K "take_apart" s_take_apart (He.fAd K ("take_apart", none)) fd := c.def_ 8 (d := d_take_apart) rfl
theorem f_left_behind (c : He.SaysD fa fn K) : ∃ fd, DL.FnP K "left_behind" s_left_behind (He.fAd K ("left_behind", none)) fd := c.def_ 9 (d := d_left_behind) rfl
theorem f_is_apart (c : He.SaysD fa fn K) : ∃ fd, DL.FnP K "is_apart" s_is_apart (He.fAd K ("is_apart", none)) fd := c.def_ 10 (d := d_is_apart) rfl
theorem f_is_stuck (c : He.SaysD fa fn K) : ∃ fd, DL.FnP K "is_stuck" s_is_stuck (He.fAd K ("is_stuck", none)) fd := c.def_ 11 (d := d_is_stuck) rfl
theorem f__law_flat (c : He.SaysD fa fn K) : ∃ fd, DL.FnP K "_law_flat" s__law_flat (He.fAd K ("_law_flat", none)) fd := c.def_ 12 (d := d__law_flat) rfl
theorem f__law_box (c : He.SaysD fa fn K) : ∃ fd, DL.FnP K "_law_box" s__law_box (He.fAd K ("_law_box", none)) fd := c.def_ 13 (d := d__law_box) rfl
theorem f__law_load (c : He.SaysD fa fn K) : ∃ fd, DL.FnP K "_law_load" s__law_load (He.fAd K ("_law_load", none)) fd := c.def_ 14 (d := d__law_load) rfl
theorem f__law_draw (c : He.SaysD fa fn K) : ∃ fd, DL.FnP K "_law_draw" s__law_draw (He.fAd K ("_law_draw", none)) fd := c.def_ 15 (d := d__law_draw) rfl
theorem f__law_same (c : He.SaysD fa fn K) : ∃ fd, DL.FnP K "_law_same" s__law_same (He.fAd K ("_law_same", none)) fd := c.def_ 16 (d := d__law_same) rfl
theorem f__law_bent (c : He.SaysD fa fn K) : ∃ fd, DL.FnP K "_law_bent" s__law_bent (He.fAd K ("_law_bent", none)) fd := c.def_ 17 (d := d__law_bent) rfl
theorem f__law_park (c : He.SaysD fa fn K) : ∃ fd, DL.FnP K "_law_park" s__law_park (He.fAd K ("_law_park", none)) fd := c.def_ 18 (d := d__law_park) rfl
theorem f__law_near (c : He.SaysD fa fn K) : ∃ fd, DL.FnP K "_law_near" s__law_near (He.fAd K ("_law_near", none)) fd := c.def_ 19 (d := d__law_near) rfl
theorem f__law_is_corner (c : He.SaysD fa fn K) : ∃ fd, DL.FnP K "_law_is_corner" s__law_is_corner (He.fAd K ("_law_is_corner", none)) fd := c.def_ 20 (d := d__law_is_corner) rfl
theorem f__law_corners (c : He.SaysD fa fn K) : ∃ fd, DL.FnP K "_law_corners" s__law_corners (He.fAd K ("_law_corners", none)) fd := c.def_ 21 (d := d__law_corners) rfl
theorem f__law_left (c : He.SaysD fa fn K) : ∃ fd, DL.FnP K "_law_left" s__law_left (He.fAd K ("_law_left", none)) fd := c.def_ 22 (d := d__law_left) rfl
theorem f__law_apart (c : He.SaysD fa fn K) : ∃ fd, DL.FnP K "_law_apart" s__law_apart (He.fAd K ("_law_apart", none)) fd := c.def_ 23 (d := d__law_apart) rfl
theorem f__law_is_park (c : He.SaysD fa fn K) : ∃ fd, DL.FnP K "_law_is_park" s__law_is_park (He.fAd K ("_law_is_park", none)) fd := c.def_ 24 (d := d__law_is_park) rfl
theorem f__law_wins (c : He.SaysD fa fn K) : ∃ fd, DL.FnP K "_law_wins" s__law_wins (He.fAd K ("_law_wins", none)) fd := c.def_ 25 (d := d__law_wins) rfl
theorem f__law_far (c : He.SaysD fa fn K) : ∃ fd, DL.FnP K "_law_far" s__law_far (He.fAd K ("_law_far", none)) fd := c.def_ 26 (d := d__law_far) rfl
theorem f__law_fine (c : He.SaysD fa fn K) : ∃ fd, DL.FnP K "_law_fine" s__law_fine (He.fAd K ("_law_fine", none)) fd := c.def_ 27 (d := d__law_fine) rfl
theorem f_law (c : He.SaysD fa fn K) : ∃ fd, DL.FnP K "law" s_law (He.fAd K ("law", none)) fd := c.def_ 28 (d := d_law) rfl
theorem int_MAX_PARK (X : K.In h) (G : h.Ns mainGlobals mg) (c : He.SaysD fa fn K) : ∃ t, mg "MAX_PARK" = some (.int 12 t) := He.int_ok X G (c.fact 43 (f := .int "MAX_PARK" 12) rfl)
theorem g_is_number (X : K.In h) (G : h.Ns mainGlobals mg) (c : He.SaysD fa fn K) : mg "is_number" = some (.ref (He.ga K "is_number")) := He.glo_ok X G (c.fact 0 (f := .glo "is_number") rfl)
theorem g_is_ascending (X : K.In h) (G : h.Ns mainGlobals mg) (c : He.SaysD fa fn K) : mg "is_ascending" = some (.ref (He.ga K "is_ascending")) := He.glo_ok X G (c.fact 1 (f := .glo "is_ascending") rfl)
theorem g_is_way (X : K.In h) (G : h.Ns mainGlobals mg) (c : He.SaysD fa fn K) : mg "is_way" = some (.ref (He.ga K "is_way")) := He.glo_ok X G (c.fact 2 (f := .glo "is_way") rfl)
theorem g_is_park (X : K.In h) (G : h.Ns mainGlobals mg) (c : He.SaysD fa fn K) : mg "is_park" = some (.ref (He.ga K "is_park")) := He.glo_ok X G (c.fact 3 (f := .glo "is_park") rfl)
theorem g_near (X : K.In h) (G : h.Ns mainGlobals mg) (c : He.SaysD fa fn K) : mg "near" = some (.ref (He.ga K "near")) := He.glo_ok X G (c.fact 4 (f := .glo "near") rfl)
theorem g_steps_from (X : K.In h) (G : h.Ns mainGlobals mg) (c : He.SaysD fa fn K) : mg "steps_from" = some (.ref (He.ga K "steps_from")) := He.glo_ok X G (c.fact 5 (f := .glo "steps_from") rfl)
theorem g_is_corner (X : K.In h) (G : h.Ns mainGlobals mg) (c : He.SaysD fa fn K) : mg "is_corner" = some (.ref (He.ga K "is_corner")) := He.glo_ok X G (c.fact 6 (f := .glo "is_corner") rfl)
theorem g_corners (X : K.In h) (G : h.Ns mainGlobals mg) (c : He.SaysD fa fn K) : mg "corners" = some (.ref (He.ga K "corners")) := He.glo_ok X G (c.fact 7 (f := .glo "corners") rfl)
theorem g_take_apart (X : K.In h) (G : h.Ns mainGlobals mg) (c : He.SaysD fa fn K) : mg "take_apart" = some (.ref (He.ga K "take_apart")) := He.glo_ok X G (c.fact 8 (f := .glo "take_apart") rfl)
theorem g_left_behind (X : K.In h) (G : h.Ns mainGlobals mg) (c : He.SaysD fa fn K) : mg "left_behind" = some (.ref (He.ga K "left_behind")) := He.glo_ok X G (c.fact 9 (f := .glo "left_behind") rfl)
theorem g_is_apart (X : K.In h) (G : h.Ns mainGlobals mg) (c : He.SaysD fa fn K) : mg "is_apart" = some (.ref (He.ga K "is_apart")) := He.glo_ok X G (c.fact 10 (f := .glo "is_apart") rfl)
theorem g_is_stuck (X : K.In h) (G : h.Ns mainGlobals mg) (c : He.SaysD fa fn K) : mg "is_stuck" = some (.ref (He.ga K "is_stuck")) := He.glo_ok X G (c.fact 11 (f := .glo "is_stuck") rfl)
theorem g__law_flat (X : K.In h) (G : h.Ns mainGlobals mg) (c : He.SaysD fa fn K) : mg "_law_flat" = some (.ref (He.ga K "_law_flat")) := He.glo_ok X G (c.fact 12 (f := .glo "_law_flat") rfl)
theorem g__law_box (X : K.In h) (G : h.Ns mainGlobals mg) (c : He.SaysD fa fn K) : mg "_law_box" = some (.ref (He.ga K "_law_box")) := He.glo_ok X G (c.fact 13 (f := .glo "_law_box") rfl)
theorem g__law_load (X : K.In h) (G : h.Ns mainGlobals mg) (c : He.SaysD fa fn K) : mg "_law_load" = some (.ref (He.ga K "_law_load")) := He.glo_ok X G (c.fact 14 (f := .glo "_law_load") rfl)
theorem g__law_draw (X : K.In h) (G : h.Ns mainGlobals mg) (c : He.SaysD fa fn K) : mg "_law_draw" = some (.ref (He.ga K "_law_draw")) := He.glo_ok X G (c.fact 15 (f := .glo "_law_draw") rfl)
theorem g__law_same (X : K.In h) (G : h.Ns mainGlobals mg) (c : He.SaysD fa fn K) : mg "_law_same" = some (.ref (He.ga K "_law_same")) := He.glo_ok X G (c.fact 16 (f := .glo "_law_same") rfl)
theorem g__law_bent (X : K.In h) (G : h.Ns mainGlobals mg) (c : He.SaysD fa fn K) : mg "_law_bent" = some (.ref (He.ga K "_law_bent")) := He.glo_ok X G (c.fact 17 (f := .glo "_law_bent") rfl)
theorem g__law_park (X : K.In h) (G : h.Ns mainGlobals mg) (c : He.SaysD fa fn K) : mg "_law_park" = some (.ref (He.ga K "_law_park")) := He.glo_ok X G (c.fact 18 (f := .glo "_law_park") rfl)
theorem g__law_near (X : K.In h) (G : h.Ns mainGlobals mg) (c : He.SaysD fa fn K) : mg "_law_near" = some (.ref (He.ga K "_law_near")) := He.glo_ok X G (c.fact 19 (f := .glo "_law_near") rfl)
theorem g__law_is_corner (X : K.In h) (G : h.Ns mainGlobals mg) (c : He.SaysD fa fn K) : mg "_law_is_corner" = some (.ref (He.ga K "_law_is_corner")) := He.glo_ok X G (c.fact 20 (f := .glo "_law_is_corner") rfl)
theorem g__law_corners (X : K.In h) (G : h.Ns mainGlobals mg) (c : He.SaysD fa fn K) : mg "_law_corners" = some (.ref (He.ga K "_law_corners")) := He.glo_ok X G (c.fact 21 (f := .glo "_law_corners") rfl)
theorem g__law_left (X : K.In h) (G : h.Ns mainGlobals mg) (c : He.SaysD fa fn K) : mg "_law_left" = some (.ref (He.ga K "_law_left")) := He.glo_ok X G (c.fact 22 (f := .glo "_law_left") rfl)
theorem g__law_apart (X : K.In h) (G : h.Ns mainGlobals mg) (c : He.SaysD fa fn K) : mg "_law_apart" = some (.ref (He.ga K "_law_apart")) := He.glo_ok X G (c.fact 23 (f := .glo "_law_apart") rfl)
theorem g__law_is_park (X : K.In h) (G : h.Ns mainGlobals mg) (c : He.SaysD fa fn K) : mg "_law_is_park" = some (.ref (He.ga K "_law_is_park")) := He.glo_ok X G (c.fact 24 (f := .glo "_law_is_park") rfl)
theorem g__law_wins (X : K.In h) (G : h.Ns mainGlobals mg) (c : He.SaysD fa fn K) : mg "_law_wins" = some (.ref (He.ga K "_law_wins")) := He.glo_ok X G (c.fact 25 (f := .glo "_law_wins") rfl)
theorem g__law_far (X : K.In h) (G : h.Ns mainGlobals mg) (c : He.SaysD fa fn K) : mg "_law_far" = some (.ref (He.ga K "_law_far")) := He.glo_ok X G (c.fact 26 (f := .glo "_law_far") rfl)
theorem g__law_fine (X : K.In h) (G : h.Ns mainGlobals mg) (c : He.SaysD fa fn K) : mg "_law_fine" = some (.ref (He.ga K "_law_fine")) := He.glo_ok X G (c.fact 27 (f := .glo "_law_fine") rfl)
theorem g_law (X : K.In h) (G : h.Ns mainGlobals mg) (c : He.SaysD fa fn K) : mg "law" = some (.ref (He.ga K "law")) := He.glo_ok X G (c.fact 28 (f := .glo "law") rfl)
theorem b_all (X : K.In h) (G : h.Ns mainGlobals mg) (c : He.SaysD fa fn K) : mg "all" = none := He.free_ok X G (c.fact 29 (f := .free "all") rfl)
theorem b_any (X : K.In h) (G : h.Ns mainGlobals mg) (c : He.SaysD fa fn K) : mg "any" = none := He.free_ok X G (c.fact 30 (f := .free "any") rfl)
theorem b_bool (X : K.In h) (G : h.Ns mainGlobals mg) (c : He.SaysD fa fn K) : mg "bool" = none := He.free_ok X G (c.fact 31 (f := .free "bool") rfl)
theorem b_int (X : K.In h) (G : h.Ns mainGlobals mg) (c : He.SaysD fa fn K) : mg "int" = none := He.free_ok X G (c.fact 32 (f := .free "int") rfl)
theorem b_isinstance (X : K.In h) (G : h.Ns mainGlobals mg) (c : He.SaysD fa fn K) : mg "isinstance" = none := He.free_ok X G (c.fact 33 (f := .free "isinstance") rfl)
theorem b_len (X : K.In h) (G : h.Ns mainGlobals mg) (c : He.SaysD fa fn K) : mg "len" = none := He.free_ok X G (c.fact 34 (f := .free "len") rfl)
theorem b_list (X : K.In h) (G : h.Ns mainGlobals mg) (c : He.SaysD fa fn K) : mg "list" = none := He.free_ok X G (c.fact 35 (f := .free "list") rfl)
theorem b_max (X : K.In h) (G : h.Ns mainGlobals mg) (c : He.SaysD fa fn K) : mg "max" = none := He.free_ok X G (c.fact 36 (f := .free "max") rfl)
theorem b_min (X : K.In h) (G : h.Ns mainGlobals mg) (c : He.SaysD fa fn K) : mg "min" = none := He.free_ok X G (c.fact 37 (f := .free "min") rfl)
theorem b_range (X : K.In h) (G : h.Ns mainGlobals mg) (c : He.SaysD fa fn K) : mg "range" = none := He.free_ok X G (c.fact 38 (f := .free "range") rfl)
theorem b_set (X : K.In h) (G : h.Ns mainGlobals mg) (c : He.SaysD fa fn K) : mg "set" = none := He.free_ok X G (c.fact 39 (f := .free "set") rfl)
theorem b_sorted (X : K.In h) (G : h.Ns mainGlobals mg) (c : He.SaysD fa fn K) : mg "sorted" = none := He.free_ok X G (c.fact 40 (f := .free "sorted") rfl)
theorem b_str (X : K.In h) (G : h.Ns mainGlobals mg) (c : He.SaysD fa fn K) : mg "str" = none := He.free_ok X G (c.fact 41 (f := .free "str") rfl)
theorem b_tuple (X : K.In h) (G : h.Ns mainGlobals mg) (c : He.SaysD fa fn K) : mg "tuple" = none := He.free_ok X G (c.fact 42 (f := .free "tuple") rfl)
end
end H72
set_option maxHeartbeats 8000000
namespace H72
open PySem PySem.Spec PyProof.Rows L2 DL PK
section
variable {P : Program} {w : World} {K : PySem.W.Frag} {mg : Str → Option Value} {base : Heap} {h : Heap}
theorem facts {f : Addr} (X : K.In h) (G : h.Ns mainGlobals mg) (hfa : mg ("law" : Str) = some (.ref f)) (c : He.SaysD fa fn K) (hx : ex K = true) :
    ∃ fd : FuncData, (∀ (s : Shared) (v : Value), BindsTo s fd ⟨[v], []⟩ [("script", v)]) ∧ ∀ base : Heap, K.In base → base.Ns mainGlobals mg → FnOk P w K mg base CX0 18 f fd ["script"] (SpG K R_law) := by
  have e := hfa.symm.trans (g_law X G c)
  cases e
  obtain ⟨fd, F⟩ := f_law c
  have b := FunD.bindsA (ps := ["script"]) F fun _ _ _ _ _ _ us hl => match us, hl with | [_], _ => rfl
  refine ⟨fd, fun s v => b s [v] rfl, fun base _ _ => ok_law F ?_⟩
  obtain ⟨_, F_is_number⟩ := f_is_number c
  obtain ⟨_, F_is_ascending⟩ := f_is_ascending c
  obtain ⟨_, F_is_way⟩ := f_is_way c
  obtain ⟨_, F_is_park⟩ := f_is_park c
  obtain ⟨_, F_near⟩ := f_near c
  obtain ⟨_, F_steps_from⟩ := f_steps_from c
  obtain ⟨_, F_is_corner⟩ := f_is_corner c
  obtain ⟨_, F_corners⟩ := f_corners c
  obtain ⟨_, F_take_apart⟩ := f_take_apart c
  obtain ⟨_, F_left_behind⟩ := f_left_behind c
  obtain ⟨_, F_is_apart⟩ := f_is_apart c
  obtain ⟨_, F_is_stuck⟩ := f_is_stuck c
  obtain ⟨_, F__law_flat⟩ := f__law_flat c
  obtain ⟨_, F__law_box⟩ := f__law_box c
  obtain ⟨_, F__law_load⟩ := f__law_load c
  obtain ⟨_, F__law_draw⟩ := f__law_draw c
  obtain ⟨_, F__law_same⟩ := f__law_same c
  obtain ⟨_, F__law_bent⟩ := f__law_bent c
  obtain ⟨_, F__law_park⟩ := f__law_park c
  obtain ⟨_, F__law_near⟩ := f__law_near c
  obtain ⟨_, F__law_is_corner⟩ := f__law_is_corner c
  obtain ⟨_, F__law_corners⟩ := f__law_corners c
  obtain ⟨_, F__law_left⟩ := f__law_left c
  obtain ⟨_, F__law_apart⟩ := f__law_apart c
  obtain ⟨_, F__law_is_park⟩ := f__law_is_park c
  obtain ⟨_, F__law_wins⟩ := f__law_wins c
  obtain ⟨_, F__law_far⟩ := f__law_far c
  obtain ⟨_, F__law_fine⟩ := f__law_fine c
  have ra := b_range X G c
  have tu := b_tuple X G c
  have so := b_sorted X G c
  have se := b_set X G c
  have le := b_len X G c
  have al := b_all X G c
  have an := b_any X G c
  have li := b_list X G c
  have it := b_int X G c
  have isi := b_isinstance X G c
  have bo := b_bool X G c
  have sr := b_str X G c
  have mi := b_min X G c
  have ma := b_max X G c
  obtain ⟨mpt, mp⟩ := int_MAX_PARK X G c
  have num : ∀ k, Go P w K mg base "is_number" (k + 1) ["value", "least", "most"] R_num := fun k => go_of F_is_number (g_is_number X G c) (fun _ _ _ _ _ _ us hl => match us, hl with | [_, _, _], _ => rfl) (ok_num F_is_number isi it bo)
  have asc : ∀ k, Go P w K mg base "is_ascending" (k + 1) ["rows"] R_asc := fun k => go_of F_is_ascending (g_is_ascending X G c) (fun _ _ _ _ _ _ us hl => match us, hl with | [_], _ => rfl) (ok_asc F_is_ascending al ra le)
  have way : ∀ k, Go P w K mg base "is_way" (k + 2) ["n", "value"] R_way := fun k => go_of F_is_way (g_is_way X G c) (fun _ _ _ _ _ _ us hl => match us, hl with | [_, _], _ => rfl) (ok_way F_is_way (num k) isi tu al le)
  have isp : ∀ k, Go P w K mg base "is_park" (k + 3) ["value"] R_isp := fun k => go_of F_is_park (g_is_park X G c) (fun _ _ _ _ _ _ us hl => match us, hl with | [_], _ => rfl) (ok_isp F_is_park (num (k + 1)) (way k) (asc (k + 1)) mp isi tu al le)
  have nr : ∀ k, Go P w K mg base "near" (k + 1) ["park"] R_near := fun k => go_of F_near (g_near X G c) (fun _ _ _ _ _ _ us hl => match us, hl with | [_], _ => rfl) (ok_near F_near ra tu so)
  have sf : ∀ k, Go P w K mg base "steps_from" (k + 2) ["park", "place"] R_sf := fun k => go_of F_steps_from (g_steps_from X G c) (fun _ _ _ _ _ _ us hl => match us, hl with | [_, _], _ => rfl) (ok_sf F_steps_from (nr k) ra tu)
  have ic : ∀ k, Go P w K mg base "is_corner" (k + 1) ["rows", "left", "u", "v"] (R_ic rowsT cornerB) := fun k => go_of F_is_corner (g_is_corner X G c) (fun _ _ _ _ _ _ us hl => match us, hl with | [_, _, _, _], _ => rfl) (ok_ic F_is_corner al)
  have co : ∀ k, Go P w K mg base "corners" (k + 2) ["park", "left"] R_co := fun k => go_of F_corners (g_corners X G c) (fun _ _ _ _ _ _ us hl => match us, hl with | [_, _], _ => rfl) (ok_co F_corners (nr k) (ic k) tu)
  have ta : ∀ k, Go P w K mg base "take_apart" (k + 3) ["park"] R_ta := fun k => go_of F_take_apart (g_take_apart X G c) (fun _ _ _ _ _ _ us hl => match us, hl with | [_], _ => rfl) (ok_ta F_take_apart (co k) le li ra tu)
  have taF : ∀ k, Go P w K mg base "take_apart" (k + 3) ["park"] R_taF := fun k => go_of F_take_apart (g_take_apart X G c) (fun _ _ _ _ _ _ us hl => match us, hl with | [_], _ => rfl) (ok_taF F_take_apart (co k) le li ra tu)
  have lb : ∀ k, Go P w K mg base "left_behind" (k + 2) ["park", "value"] R_lb := fun k => go_of F_left_behind (g_left_behind X G c) (fun _ _ _ _ _ _ us hl => match us, hl with | [_, _], _ => rfl) (ok_lb F_left_behind (nr k) (ic k) (num k) isi tu al le li ra)
  have ia : ∀ k, Go P w K mg base "is_apart" (k + 3) ["park", "value"] (R_ia apartB) := fun k => go_of F_is_apart (g_is_apart X G c) (fun _ _ _ _ _ _ us hl => match us, hl with | [_, _], _ => rfl) (ok_ia F_is_apart (lb k) le)
  have is : ∀ k, Go P w K mg base "is_stuck" (k + 3) ["park", "value"] (R_ia stuckB) := fun k => go_of F_is_stuck (g_is_stuck X G c) (fun _ _ _ _ _ _ us hl => match us, hl with | [_, _], _ => rfl) (ok_is F_is_stuck (lb k) (co k) le)
  have flat : ∀ k, Go P w K mg base "_law_flat" (k + 1) ["rows"] R_flat := fun k => go_of F__law_flat (g__law_flat X G c) (fun _ _ _ _ _ _ us hl => match us, hl with | [_], _ => rfl) (ok_flat F__law_flat)
  have flatC : ∀ k, Go P w K mg base "_law_flat" (k + 1) ["rows"] R_flatC := fun k => go_of F__law_flat (g__law_flat X G c) (fun _ _ _ _ _ _ us hl => match us, hl with | [_], _ => rfl) (ok_flatC F__law_flat)
  have box : ∀ k, Go P w K mg base "_law_box" (k + 1) ["script"] R_box := fun k => go_of F__law_box (g__law_box X G c) (fun _ _ _ _ _ _ us hl => match us, hl with | [_], _ => rfl) (ok_box F__law_box le li)
  have load : ∀ bx cs k, Go P w K mg base "_law_load" (k + 1) ["box"] (R_load bx cs) := fun bx cs k => go_of F__law_load (g__law_load X G c) (fun _ _ _ _ _ _ us hl => match us, hl with | [_], _ => rfl) (ok_load F__law_load le it)
  have draw : ∀ bx cs k, Go P w K mg base "_law_draw" (k + 2) ["box", "many"] (R_draw bx cs) := fun bx cs k => go_of F__law_draw (g__law_draw X G c) (fun _ _ _ _ _ _ us hl => match us, hl with | [_, _], _ => rfl) (ok_draw F__law_draw (load bx cs k) it)
  have park : ∀ bx cs k, Go P w K mg base "_law_park" (k + 3) ["box", "most"] (R_lpark bx cs) := fun bx cs k => go_of F__law_park (g__law_park X G c) (fun _ _ _ _ _ _ us hl => match us, hl with | [_, _], _ => rfl) (ok_lpark F__law_park (draw bx cs k) ra mi ma tu so)
  have lnr : ∀ k, Go P w K mg base "_law_near" (k + 1) ["park"] R_lnear := fun k => go_of F__law_near (g__law_near X G c) (fun _ _ _ _ _ _ us hl => match us, hl with | [_], _ => rfl) (ok_lnear F__law_near ra mi ma)
  have lic : ∀ k, Go P w K mg base "_law_is_corner" (k + 1) ["rows", "left", "u", "v"] (R_ic rowsL cornerC) := fun k => go_of F__law_is_corner (g__law_is_corner X G c) (fun _ _ _ _ _ _ us hl => match us, hl with | [_, _, _, _], _ => rfl) (ok_lic F__law_is_corner al)
  have lco : ∀ k, Go P w K mg base "_law_corners" (k + 2) ["rows", "left"] R_lco := fun k => go_of F__law_corners (g__law_corners X G c) (fun _ _ _ _ _ _ us hl => match us, hl with | [_, _], _ => rfl) (ok_lco F__law_corners (flat k) (lic k))
  have ll : ∀ k, Go P w K mg base "_law_left" (k + 2) ["park", "value"] R_lb := fun k => go_of F__law_left (g__law_left X G c) (fun _ _ _ _ _ _ us hl => match us, hl with | [_, _], _ => rfl) (ok_ll F__law_left (lnr k) (lic k) isi tu it bo al le li ra)
  have lap : ∀ bx cs k, Go P w K mg base "_law_apart" (k + 3) ["box", "park"] (R_lap bx cs) := fun bx cs k => go_of F__law_apart (g__law_apart X G c) (fun _ _ _ _ _ _ us hl => match us, hl with | [_, _], _ => rfl) (ok_lap F__law_apart (lnr (k + 1)) (lco k) (draw bx cs k) le li ra tu)
  have lip : ∀ k, Go P w K mg base "_law_is_park" (k + 1) ["value"] R_isp := fun k => go_of F__law_is_park (g__law_is_park X G c) (fun _ _ _ _ _ _ us hl => match us, hl with | [_], _ => rfl) (ok_lip F__law_is_park isi tu it bo al le ra)
  have wi : ∀ k, Go P w K mg base "_law_wins" (k + 2) ["park"] R_wins := fun k => go_of F__law_wins (g__law_wins X G c) (fun _ _ _ _ _ _ us hl => match us, hl with | [_], _ => rfl) (ok_wins F__law_wins (lnr k) (flatC k) ra le al an)
  have far : ∀ k, Go P w K mg base "_law_far" (k + 2) ["rows", "place"] R_far := fun k => go_of F__law_far (g__law_far X G c) (fun _ _ _ _ _ _ us hl => match us, hl with | [_, _], _ => rfl) (ok_far F__law_far (flat k) ra tu so se le)
  have same : ∀ k, Go P w K mg base "_law_same" (k + 1 + 3) ["a", "b"] (R_same 3) := fun k => go_same k F__law_same (g__law_same X G c) isi tu li bo it sr le al ra 3
  have bent : ∀ bx cs, Go P w K mg base "_law_bent" 16 ["box", "value"] (R_bent bx cs 3) := fun bx cs => go_bent 10 F__law_bent (g__law_bent X G c) (draw bx cs) isi tu it bo sr le 3
  have V : Env72 P w K mg base 16 := ⟨fun bx cs => draw bx cs 14, same 12, nr 15, lnr 15, wi 14, ta 13, fun bx cs => lap bx cs 13, ll 14, co 14, lco 14, sf 14, far 14, bent, ia 13, is 13, isp 13, lip 15, ra, tu, le, isi⟩
  have fine : ∀ bx cs, Go P w K mg base "_law_fine" 17 ["box", "park"] (R_fine bx cs) := fun bx cs => go_of F__law_fine (g__law_fine X G c) (fun _ _ _ _ _ _ us hl => match us, hl with | [_, _], _ => rfl) (ok_fine F__law_fine V)
  exact ⟨box 16, fun bx cs => park bx cs 14, fine, same 13, taF 14, ⟨mpt, mp⟩, ra⟩
theorem law_start {H : Hp} {a : Addr} {ns : List Int} {E : XK} (hl : ns.length ≤ 100000) (hS : SqL K H a (ns.map V.int)) : SpG K R_law [.ref a] H (fun v _ => v = .bl true) E := by
  refine ⟨fun _ => none, H, [], [.rd (iL ns)], fun r _ => r = .d (.bool true), ⟨fun _ => none, ?_⟩, fun r M h => by rw [h]; trivial, ⟨ns, hl, rfl, rfl, fun _ => rfl⟩, fun v H' r M' g e => ?_⟩
  · exact ⟨fun _ _ h => (nomatch h), fun _ _ h => (nomatch h), fun _ _ h => h, fun _ h => absurd rfl h, fun _ h => (by cases h), List.nodup_nil, .nil, .cons ⟨a, ns.map V.int, rfl, hS, RpA.of_ints⟩ .nil⟩
  · subst e
    exact g.bl
end
end H72
open PySem PySem.W PySem.Calls PyProof.Rows
theorem PySem.Challenge.cw_cantmove_k72_whole_parks_taken_apart_holds : PySem.Challenge.rw_cantmove_k72_whole_parks_taken_apart.Holds := by
  w_on; o_law
  refine HandSHeadRun.head_any (r := OpenLaw.row PySem.Challenge.rw_cantmove_k72_whole_parks_taken_apart) (q := view (OpenLaw.row PySem.Challenge.rw_cantmove_k72_whole_parks_taken_apart).prog [32]) (H := H72.hk) (ob := H72.ob) (M := 4000) (loose := H72.loose) (d := HandSHeadRun.topDef (OpenLaw.row PySem.Challenge.rw_cantmove_k72_whole_parks_taken_apart).prog 32) (kwd := []) H72.ob_eq
    (by kernel_rfl) (fun s => by kernel_rfl) H72.run (by kernel_rfl) (by kernel_rfl) (by kernel_rfl) (by rfl) (by first | assumption | decide +kernel) (by decide +kernel) ⟨rfl, rfl, rfl, rfl, rfl, by decide +kernel⟩ ?hw ?hc
  case hw => w_witness2
  case hc =>
    refine L2.walk_ofE (l := PySem.Challenge.rw_cantmove_k72_whole_parks_taken_apart) (n := 63) (k := 18) (x := "script") (CX := L2.CX0) rfl (by decide) (by kernel_rfl) ⟨rfl, by decide, by decide⟩ ?F (fun _ _ _ _ z => z)
    intro w mg fa h Y G hmg0
    obtain ⟨K, KX, c, hx⟩ := Y
    have hmg : mg ("law" : PySem.Str) = some (.ref fa) := by
      have e : (HandSHeadRun.topDef (OpenLaw.row PySem.Challenge.rw_cantmove_k72_whole_parks_taken_apart).prog 32).name = ("law" : PySem.Str) := by kernel_rfl
      rw [← e]
      exact hmg0
    obtain ⟨fd, hb, hF⟩ := H72.facts (P := (PySem.Challenge.rw_cantmove_k72_whole_parks_taken_apart).prog) (w := w) KX G hmg c hx
    exact ⟨K, fd, DL.SpG K H72.R_law, KX, hb, fun H a ns hl _ hS => H72.law_start (Nat.le_trans hl (by decide)) hS, hF⟩
