import PyProof.Rows.All
import Wide.All
import OpenK.AllK
import Wide.FinOn
import KE.KDictKeyed
import KE.KeyNested
import HandS.ForMost
import HandS.Walk
import HandS.SortInts
import HandS.IsInst
import HandS.Style
import HandS.Wide
import HandS.Conv
import HandS.More
import KE.SortData
import HandS.TupAny
import HandS.DictComp
import HandS.Strs
import HandS.Defaults
import HandS.Small
import HandS.Sort
import HandS.Deep
import KE.GoesMore
import KE.GoesEnum
import HandS.SetFor
import HandS.Text
import HandS.Head0
import HandS.Head1
import HandS.Head2
import HandS.HeadEnd
import HandS.HeadHook1
import HandS.HeadHook2
import KE.KDictPairs
import HandS.Codes
import PySem.Challenge.RW_cantmove_k78_whole_kayles
set_option Elab.async false
set_option linter.all false
set_option maxRecDepth 100000
set_option maxHeartbeats 2000000
/-! DL: a data layer over the hand layer: slots hold plain data, cells hold what may change. -/
namespace DL
open PySem PySem.Spec PyProof.Rows L2

abbrev Fg := PySem.W.Frag

/-! ### what represents a datum -/
mutual
inductive Rp (K : Fg) (H : Hp) : V → PyData → Prop
  | non : Rp K H .non .none
  | bl (b : Bool) : Rp K H (.bl b) (.bool b)
  | int (i : Int) : Rp K H (.int i) (.int i)
  | str (x : Str) : Rp K H (.str x) (.str x)
  | lst {a : Addr} {xs : List V} {ds : List PyData} : H a = some (.lst xs) → RpA K H xs ds → Rp K H (.ref a) (.list ds)
  | tup {a : Addr} {xs : List V} {ds : List PyData} : SqT K H a xs → RpA K H xs ds → Rp K H (.ref a) (.tuple ds)
inductive RpA (K : Fg) (H : Hp) : List V → List PyData → Prop
  | nil : RpA K H [] []
  | cons {v : V} {vs : List V} {d : PyData} {ds : List PyData} : Rp K H v d → RpA K H vs ds → RpA K H (v :: vs) (d :: ds)
end
theorem same_t {K : Fg} {H H' : Hp} {a : Addr} {xs : List V} (e : Same H H') (h : SqT K H a xs) : SqT K H' a xs := by
  rcases h with (h | ⟨o, h⟩) | h
  · exact .inl (.inl (e _ _ h))
  · exact .inl (.inr ⟨o, e _ _ h⟩)
  · exact .inr h
mutual
theorem Rp.ext {K : Fg} {H H' : Hp} (e : Same H H') : ∀ {v : V} {d : PyData}, Rp K H v d → Rp K H' v d
  | _, _, .non => .non
  | _, _, .bl b => .bl b
  | _, _, .int i => .int i
  | _, _, .str x => .str x
  | _, _, .lst h hs => .lst (e _ _ h) (RpA.ext e hs)
  | _, _, .tup h hs => .tup (same_t e h) (RpA.ext e hs)
theorem RpA.ext {K : Fg} {H H' : Hp} (e : Same H H') : ∀ {vs : List V} {ds : List PyData}, RpA K H vs ds → RpA K H' vs ds
  | _, _, .nil => .nil
  | _, _, .cons h hs => .cons (Rp.ext e h) (RpA.ext e hs)
end
mutual
theorem Rp.dp {K : Fg} {H : Hp} : ∀ {v : V} {d : PyData}, Rp K H v d → Dp K H v d
  | _, _, .non => .non
  | _, _, .bl b => .bl b
  | _, _, .int i => .int i
  | _, _, .str x => .str x
  | _, _, .lst h hs => .lst (SqL.of h) (RpA.dp hs)
  | _, _, .tup h hs => .tup h (RpA.dp hs)
theorem RpA.dp {K : Fg} {H : Hp} : ∀ {vs : List V} {ds : List PyData}, RpA K H vs ds → DpAll K H vs ds
  | _, _, .nil => .nil
  | _, _, .cons h hs => .cons (Rp.dp h) (RpA.dp hs)
end
section
variable {K : Fg} {H : Hp}
theorem Rp.non_inv {v : V} (h : Rp K H v .none) : v = .non := by cases h; rfl
theorem Rp.bl_inv {v : V} {b : Bool} (h : Rp K H v (.bool b)) : v = .bl b := by cases h; rfl
theorem Rp.int_inv {v : V} {i : Int} (h : Rp K H v (.int i)) : v = .int i := by cases h; rfl
theorem Rp.str_inv {v : V} {x : Str} (h : Rp K H v (.str x)) : v = .str x := by cases h; rfl
theorem Rp.lst_inv {v : V} {ds : List PyData} (h : Rp K H v (.list ds)) : ∃ a xs, v = .ref a ∧ H a = some (.lst xs) ∧ RpA K H xs ds := by cases h with | lst h hs => exact ⟨_, _, rfl, h, hs⟩
theorem Rp.tup_inv {v : V} {ds : List PyData} (h : Rp K H v (.tuple ds)) : ∃ a xs, v = .ref a ∧ SqT K H a xs ∧ RpA K H xs ds := by cases h with | tup h hs => exact ⟨_, _, rfl, h, hs⟩
theorem RpA.len : ∀ {vs : List V} {ds : List PyData}, RpA K H vs ds → vs.length = ds.length
  | _, _, .nil => rfl
  | _, _, .cons _ hs => by simp [RpA.len hs]
theorem RpA.get : ∀ {vs : List V} {ds : List PyData} {i : Nat} {d : PyData}, RpA K H vs ds → ds[i]? = some d → ∃ v, vs[i]? = some v ∧ Rp K H v d
  | _, _, _, _, .nil, e => by simp at e
  | _, _, 0, _, .cons h _, e => by simp at e; subst e; exact ⟨_, rfl, h⟩
  | _, _, i + 1, d, .cons _ t, e => by
    obtain ⟨u, h1, h2⟩ := RpA.get (i := i) (d := d) t (by simpa using e)
    exact ⟨u, by simpa using h1, h2⟩
theorem RpA.getV : ∀ {vs : List V} {ds : List PyData} {i : Nat} {v : V}, RpA K H vs ds → vs[i]? = some v → ∃ d, ds[i]? = some d ∧ Rp K H v d
  | _, _, _, _, .nil, e => by simp at e
  | _, _, 0, _, .cons h _, e => by simp at e; subst e; exact ⟨_, rfl, h⟩
  | _, _, i + 1, d, .cons _ t, e => by
    obtain ⟨u, h1, h2⟩ := RpA.getV (i := i) (v := d) t (by simpa using e)
    exact ⟨u, by simpa using h1, h2⟩
theorem RpA.app : ∀ {vs ws : List V} {ds es : List PyData}, RpA K H vs ds → RpA K H ws es → RpA K H (vs ++ ws) (ds ++ es)
  | _, _, _, _, .nil, s => s
  | _, _, _, _, .cons r t, s => .cons r (RpA.app t s)
theorem RpA.take : ∀ {vs : List V} {ds : List PyData} (n : Nat), RpA K H vs ds → RpA K H (vs.take n) (ds.take n)
  | _, _, 0, _ => .nil
  | _, _, _ + 1, .nil => .nil
  | _, _, n + 1, .cons r t => .cons r (RpA.take n t)
theorem RpA.drop : ∀ {vs : List V} {ds : List PyData} (n : Nat), RpA K H vs ds → RpA K H (vs.drop n) (ds.drop n)
  | _, _, 0, r => r
  | _, _, _ + 1, .nil => .nil
  | _, _, n + 1, .cons _ t => RpA.drop n t
theorem RpA.rev : ∀ {vs : List V} {ds : List PyData}, RpA K H vs ds → RpA K H vs.reverse ds.reverse
  | _, _, .nil => .nil
  | _, _, .cons r t => by
    rw [List.reverse_cons, List.reverse_cons]
    exact RpA.app (RpA.rev t) (.cons r .nil)
theorem RpA.set {v : V} {d : PyData} (r : Rp K H v d) : ∀ {vs : List V} {ds : List PyData} (i : Nat), RpA K H vs ds → RpA K H (vs.set i v) (ds.set i d)
  | _, _, _, .nil => .nil
  | _, _, 0, .cons _ t => .cons r t
  | _, _, i + 1, .cons q t => .cons q (RpA.set r i t)
theorem RpA.ints : ∀ {vs : List V} {ns : List Int}, RpA K H vs (ns.map PyData.int) → vs = ns.map V.int
  | _, [], h => by cases h; rfl
  | _, n :: ns, h => by
    cases h with
    | cons h t => rw [Rp.int_inv h, RpA.ints t]; rfl
theorem RpA.of_ints : ∀ {ns : List Int}, RpA K H (ns.map V.int) (ns.map PyData.int)
  | [] => .nil
  | n :: ns => .cons (.int n) RpA.of_ints
theorem RpA.bls : ∀ {vs : List V} {ns : List Bool}, RpA K H vs (ns.map PyData.bool) → vs = ns.map V.bl
  | _, [], h => by cases h; rfl
  | _, n :: ns, h => by
    cases h with
    | cons h t => rw [Rp.bl_inv h, RpA.bls t]; rfl
theorem RpA.strs : ∀ {vs : List V} {ns : List Str}, RpA K H vs (ns.map PyData.str) → vs = ns.map V.str
  | _, [], h => by cases h; rfl
  | _, n :: ns, h => by
    cases h with
    | cons h t => rw [Rp.str_inv h, RpA.strs t]; rfl
end

/-! ### slots, cells -/
inductive Sl where
  | un | d (x : PyData) | rd (xs : List PyData) | v (x : V)
inductive MC where
  | lst (xs : List PyData) | dic (kvs : List (Key × PyData)) | raw (o : HO) | dn (mk : List (NestedKey × Addr × Value) → HO) (es : List (NestedKey × PyData)) | ins (C : Addr) (fs : List (Str × Sl))
abbrev Cs := List (Addr × MC)

def VOk (K : Fg) (F B : Hp) (x : V) : Sl → Prop
  | .un => True
  | .d y => Rp K B x y
  | .rd ys => ∃ a xs, x = .ref a ∧ SqL K F a xs ∧ RpA K B xs ys
  | .v y => x = y
def OOk (K : Fg) (F B : Hp) (o : Option V) : Sl → Prop
  | .un => True
  | s => ∃ x, o = some x ∧ VOk K F B x s
abbrev SOk (K : Fg) (F B : Hp) : List (Option V) → List Sl → Prop := Paired (OOk K F B)
abbrev KOk (K : Fg) (F B : Hp) : List V → List Sl → Prop := Paired (VOk K F B)
/-- an attribute: data or this very value -/
def FOk (K : Fg) (B : Hp) (x : V) : Sl → Prop
  | .d y => Rp K B x y
  | .v y => x = y
  | _ => False
def MOk (K : Fg) (B : Hp) (o : HO) : MC → Prop
  | .raw u => o = u
  | .lst xs => ∃ vs, o = .lst vs ∧ RpA K B vs xs
  | .dic es => ∃ kvs, o = .dK kvs ∧ Paired (fun (p : Key × V) (q : Key × PyData) => p.1 = q.1 ∧ Rp K B p.2 q.2) kvs es
  | .dn mk es => ∃ xs, o = mk xs ∧ Paired (fun (x : NestedKey × Addr × Value) (e : NestedKey × PyData) => x.1 = e.1 ∧ e.1.depth ≤ 8 ∧ Rp K B (.ref x.2.1) e.1.data ∧ ∃ v, RelV v x.2.2 ∧ Rp K B v e.2) xs es
  | .ins C fs => ∃ dx vs, o = .ins C dx vs ∧ Paired (fun (p : Str × V) (q : Str × Sl) => p.1 = q.1 ∧ FOk K B p.2 q.2) vs fs
structure CellOk (K : Fg) (F B H : Hp) (c : Addr × MC) : Prop where
  b : B c.1 = none
  f : F c.1 = none
  o : ∃ o, H c.1 = some o ∧ MOk K B o c.2
structure GoodB (K : Fg) (B0 F : Hp) (M : Cs) (ρ κ : List Sl) (σ : List (Option V)) (vs : List V) (H B : Hp) : Prop where
  b0 : Same B0 B
  bh : Same B H
  fh : Same F H
  new : ∀ a, B a ≠ none → B0 a ≠ none ∨ F a = none
  cells : ∀ c, c ∈ M → CellOk K F B H c
  nd : (M.map (·.1)).Nodup
  sl : SOk K F B σ ρ
  st : KOk K F B vs κ
def Good (K : Fg) (B0 F : Hp) (M : Cs) (ρ κ : List Sl) (σ : List (Option V)) (vs : List V) (H : Hp) : Prop := ∃ B, GoodB K B0 F M ρ κ σ vs H B

section
variable {K : Fg} {B0 F B B' H H' : Hp} {M : Cs} {ρ κ : List Sl} {σ : List (Option V)} {vs : List V}
theorem VOk.ext {x : V} {s : Sl} (e : Same B B') (h : VOk K F B x s) : VOk K F B' x s := by
  cases s with
  | un => trivial
  | d y => exact Rp.ext e h
  | rd ys => obtain ⟨a, xs, h1, h2, h3⟩ := h; exact ⟨a, xs, h1, h2, h3.ext e⟩
  | v y => exact h
theorem OOk.ext {x : Option V} {s : Sl} (e : Same B B') (h : OOk K F B x s) : OOk K F B' x s := by
  cases s with
  | un => trivial
  | d y => obtain ⟨x, h1, h2⟩ := h; exact ⟨x, h1, h2.ext e⟩
  | rd ys => obtain ⟨x, h1, h2⟩ := h; exact ⟨x, h1, h2.ext e⟩
  | v y => obtain ⟨x, h1, h2⟩ := h; exact ⟨x, h1, h2.ext e⟩
theorem OOk.of {x : V} {s : Sl} (h : VOk K F B x s) : OOk K F B (some x) s := by
  cases s with
  | un => trivial
  | d y => exact ⟨x, rfl, h⟩
  | rd ys => exact ⟨x, rfl, h⟩
  | v y => exact ⟨x, rfl, h⟩
theorem OOk.v {o : Option V} {s : Sl} (hs : s ≠ .un) (h : OOk K F B o s) : ∃ x, o = some x ∧ VOk K F B x s := by
  cases s with
  | un => exact absurd rfl hs
  | d y => exact h
  | rd ys => exact h
  | v y => exact h
theorem FOk.ext {x : V} {s : Sl} (e : Same B B') (h : FOk K B x s) : FOk K B' x s := by
  cases s with
  | d y => exact Rp.ext e h
  | v y => exact h
  | un => exact h
  | rd ys => exact h
theorem MOk.ext {o : HO} {c : MC} (e : Same B B') (h : MOk K B o c) : MOk K B' o c := by
  cases c with
  | raw u => exact h
  | lst xs => obtain ⟨vs, h1, h2⟩ := h; exact ⟨vs, h1, h2.ext e⟩
  | dic es => obtain ⟨kvs, h1, h2⟩ := h; exact ⟨kvs, h1, Paired.mapP h2 fun _ _ z => ⟨z.1, z.2.ext e⟩⟩
  | ins C fs => obtain ⟨dx, vs, h1, h2⟩ := h; exact ⟨dx, vs, h1, Paired.mapP h2 fun _ _ z => ⟨z.1, z.2.ext e⟩⟩
  | dn mk es => obtain ⟨xs, h1, h2⟩ := h; exact ⟨xs, h1, Paired.mapP h2 fun _ _ ⟨z1, z2, z3, v, z4, z5⟩ => ⟨z1, z2, z3.ext e, v, z4, z5.ext e⟩⟩
theorem Paired.get? {α β : Type} {R : α → β → Prop} : ∀ {l : List α} {m : List β} {i : Nat} {b : β}, Paired R l m → m[i]? = some b → ∃ a, l[i]? = some a ∧ R a b
  | _, _, _, _, .nil, e => by simp at e
  | _, _, 0, _, .cons h _, e => by simp at e; subst e; exact ⟨_, rfl, h⟩
  | _, _, i + 1, d, .cons _ t, e => by
    obtain ⟨u, h1, h2⟩ := Paired.get? (i := i) (b := d) t (by simpa using e)
    exact ⟨u, by simpa using h1, h2⟩
theorem Paired.set {α β : Type} {R : α → β → Prop} {a : α} {b : β} (r : R a b) : ∀ {l : List α} {m : List β} (i : Nat), Paired R l m → Paired R (l.set i a) (m.set i b)
  | _, _, _, .nil => .nil
  | _, _, 0, .cons _ t => .cons r t
  | _, _, i + 1, .cons q t => .cons q (Paired.set r i t)
theorem Paired.app {α β : Type} {R : α → β → Prop} : ∀ {l l' : List α} {m m' : List β}, Paired R l m → Paired R l' m' → Paired R (l ++ l') (m ++ m')
  | _, _, _, _, .nil, s => s
  | _, _, _, _, .cons r t, s => .cons r (Paired.app t s)

/-- an object that never changes is laid -/
theorem GoodB.laid {p : Addr} {o : HO} (g : GoodB K B0 F M ρ κ σ vs H B) (hp : H p = none) : GoodB K B0 F M ρ κ σ vs (upd H p o) (upd B p o) := by
  have bp : B p = none := g.bh.free hp
  have e : Same B (upd B p o) := fun a u z => by rw [upd_ne (ne_of_none z bp)]; exact z
  refine ⟨g.b0.trans e, fun a u z => ?_, fun a u z => ?_, fun a ha => ?_, fun c hc => ?_, g.nd, Paired.mapP g.sl fun _ _ z => z.ext e, Paired.mapP g.st fun _ _ z => z.ext e⟩
  · by_cases q : a = p
    · subst q; rw [upd_same] at z ⊢; exact z
    · rw [upd_ne q] at z ⊢; exact g.bh a u z
  · rw [upd_ne (ne_of_none (g.fh a u z) hp)]; exact g.fh a u z
  · by_cases q : a = p
    · subst q; exact .inr (g.fh.free hp)
    · rw [upd_ne q] at ha; exact g.new a ha
  · obtain ⟨h1, h2, u, h3, h4⟩ := g.cells c hc
    have q : c.1 ≠ p := ne_of_none h3 hp
    exact ⟨by rw [upd_ne q]; exact h1, h2, u, by rw [upd_ne q]; exact h3, h4.ext e⟩
/-- a cell is laid -/
theorem GoodB.cell {p : Addr} {o : HO} {c : MC} (g : GoodB K B0 F M ρ κ σ vs H B) (hp : H p = none) (hc : MOk K B o c) : GoodB K B0 F ((p, c) :: M) ρ κ σ vs (upd H p o) B := by
  have bp : B p = none := g.bh.free hp
  have fp : F p = none := g.fh.free hp
  refine ⟨g.b0, fun a u z => ?_, fun a u z => ?_, g.new, fun d hd => ?_, ?_, g.sl, g.st⟩
  · rw [upd_ne (ne_of_none z bp)]; exact g.bh a u z
  · rw [upd_ne (ne_of_none z fp)]; exact g.fh a u z
  · rcases List.mem_cons.mp hd with e | hd
    · subst e; exact ⟨bp, fp, o, upd_same, hc⟩
    · obtain ⟨h1, h2, u, h3, h4⟩ := g.cells d hd
      exact ⟨h1, h2, u, by rw [upd_ne (ne_of_none h3 hp)]; exact h3, h4⟩
  · rw [List.map_cons, List.nodup_cons]
    refine ⟨fun z => ?_, g.nd⟩
    obtain ⟨d, hd, e⟩ := List.mem_map.mp z
    obtain ⟨_, _, u, h3, _⟩ := g.cells d hd
    exact ne_of_none h3 hp e
theorem nodup_at {M : Cs} (h : (M.map (·.1)).Nodup) {i j : Nat} {c d : Addr × MC} (hi : M[i]? = some c) (hj : M[j]? = some d) (e : c.1 = d.1) : i = j := by
  have a : (M.map (·.1))[i]? = some c.1 := by rw [List.getElem?_map, hi]; rfl
  have b : (M.map (·.1))[j]? = some c.1 := by rw [List.getElem?_map, hj, e]; rfl
  obtain ⟨h1, e1⟩ := List.getElem?_eq_some_iff.mp a
  obtain ⟨h2, e2⟩ := List.getElem?_eq_some_iff.mp b
  exact (List.getElem_inj h).mp (e1.trans e2.symm)
/-- a cell is written -/
theorem GoodB.write {j : Nat} {p : Addr} {c c' : MC} {o : HO} (g : GoodB K B0 F M ρ κ σ vs H B) (hj : M[j]? = some (p, c)) (hc : MOk K B o c') : GoodB K B0 F (M.set j (p, c')) ρ κ σ vs (upd H p o) B := by
  obtain ⟨bp, fp, _⟩ := g.cells (p, c) (List.mem_of_getElem? hj)
  refine ⟨g.b0, fun a u z => ?_, fun a u z => ?_, g.new, fun d hd => ?_, ?_, g.sl, g.st⟩
  · rw [upd_ne (ne_of_none z bp)]; exact g.bh a u z
  · rw [upd_ne (ne_of_none z fp)]; exact g.fh a u z
  · obtain ⟨i, hi⟩ := List.mem_iff_getElem?.mp hd
    by_cases hij : j = i
    · subst hij
      have hl : j < M.length := (List.getElem?_eq_some_iff.mp hj).1
      rw [List.getElem?_set_self hl] at hi
      cases hi
      exact ⟨bp, fp, o, upd_same, hc⟩
    · rw [List.getElem?_set_ne hij] at hi
      obtain ⟨h1, h2, u, h3, h4⟩ := g.cells d (List.mem_of_getElem? hi)
      refine ⟨h1, h2, u, ?_, h4⟩
      rw [upd_ne (fun e => hij (nodup_at g.nd hj hi e.symm))]
      exact h3
  · have : (M.set j (p, c')).map (·.1) = M.map (·.1) := by
      rw [List.map_set]
      show (M.map (·.1)).set j p = M.map (·.1)
      refine List.ext_getElem? fun i => ?_
      by_cases hij : j = i
      · subst hij
        rw [List.getElem?_set, List.getElem?_map, hj]
        simp
        exact (List.getElem?_eq_some_iff.mp hj).1
      · rw [List.getElem?_set_ne hij]
    rw [this]
    exact g.nd
/-- a list cell becomes data: v the value of the stack's top -/
theorem GoodB.freeze {p : Addr} {xs : List PyData} (g : GoodB K B0 F ((p, .lst xs) :: M) ρ κ σ vs H B) : ∃ B', GoodB K B0 F M ρ (.d (.list xs) :: κ) σ (.ref p :: vs) H B' := by
  obtain ⟨bp, fp, o, ho, ws, rfl, hw⟩ := g.cells _ List.mem_cons_self
  have e : Same B (upd B p (.lst ws)) := fun a u z => by rw [upd_ne (ne_of_none z bp)]; exact z
  have nd := g.nd
  rw [List.map_cons, List.nodup_cons] at nd
  refine ⟨upd B p (.lst ws), g.b0.trans e, fun a u z => ?_, g.fh, fun a ha => ?_, fun c hc => ?_, nd.2, Paired.mapP g.sl fun _ _ z => z.ext e, .cons ?_ (Paired.mapP g.st fun _ _ z => z.ext e)⟩
  · by_cases q : a = p
    · subst q; rw [upd_same] at z; rw [← z]; exact ho
    · rw [upd_ne q] at z; exact g.bh a u z
  · by_cases q : a = p
    · subst q; exact .inr fp
    · rw [upd_ne q] at ha; exact g.new a ha
  · obtain ⟨h1, h2, u, h3, h4⟩ := g.cells c (List.mem_cons_of_mem _ hc)
    have q : c.1 ≠ p := fun q => nd.1 (List.mem_map.mpr ⟨c, hc, q⟩)
    exact ⟨by rw [upd_ne q]; exact h1, h2, u, h3, h4.ext e⟩
  · exact .lst upd_same (hw.ext e)
theorem GoodB.stk {κ' : List Sl} {vs' : List V} (g : GoodB K B0 F M ρ κ σ vs H B) (h : KOk K F B vs' κ') : GoodB K B0 F M ρ κ' σ vs' H B := ⟨g.b0, g.bh, g.fh, g.new, g.cells, g.nd, g.sl, h⟩
theorem GoodB.slt {ρ' : List Sl} {σ' : List (Option V)} (g : GoodB K B0 F M ρ κ σ vs H B) (h : SOk K F B σ' ρ') : GoodB K B0 F M ρ' κ σ' vs H B := ⟨g.b0, g.bh, g.fh, g.new, g.cells, g.nd, h, g.st⟩
theorem GoodB.fst {r : Sl} {v : V} (g : GoodB K B0 F M ρ (r :: κ) σ (v :: vs) H B) : VOk K F B v r := by cases g.st; assumption
theorem GoodB.pop {r : Sl} {v : V} (g : GoodB K B0 F M ρ (r :: κ) σ (v :: vs) H B) : GoodB K B0 F M ρ κ σ vs H B := g.stk (by cases g.st; assumption)
theorem GoodB.push {r : Sl} {v : V} (g : GoodB K B0 F M ρ κ σ vs H B) (h : VOk K F B v r) : GoodB K B0 F M ρ (r :: κ) σ (v :: vs) H B := g.stk (.cons h g.st)
theorem Good.push {r : Sl} {v : V} (g : Good K B0 F M ρ κ σ vs H) (h : ∀ B, GoodB K B0 F M ρ κ σ vs H B → VOk K F B v r) : Good K B0 F M ρ (r :: κ) σ (v :: vs) H := by
  obtain ⟨B, g⟩ := g; exact ⟨B, g.push (h B g)⟩
theorem Good.pop {r : Sl} {v : V} (g : Good K B0 F M ρ (r :: κ) σ (v :: vs) H) : Good K B0 F M ρ κ σ vs H := by
  obtain ⟨B, g⟩ := g; exact ⟨B, g.pop⟩
/-- the stack's top is int i -/
theorem Good.int {i : Int} {v : V} (g : Good K B0 F M ρ (.d (.int i) :: κ) σ (v :: vs) H) : v = .int i := by
  obtain ⟨B, g⟩ := g; exact Rp.int_inv g.fst
theorem Good.bl {i : Bool} {v : V} (g : Good K B0 F M ρ (.d (.bool i) :: κ) σ (v :: vs) H) : v = .bl i := by
  obtain ⟨B, g⟩ := g; exact Rp.bl_inv g.fst
theorem Good.str {i : Str} {v : V} (g : Good K B0 F M ρ (.d (.str i) :: κ) σ (v :: vs) H) : v = .str i := by
  obtain ⟨B, g⟩ := g; exact Rp.str_inv g.fst
theorem Good.ref {i : V} {v : V} (g : Good K B0 F M ρ (.v i :: κ) σ (v :: vs) H) : v = i := by
  obtain ⟨B, g⟩ := g; exact g.fst
end
end DL
set_option maxHeartbeats 2000000
namespace DL
open PySem PySem.Spec PyProof.Rows L2

section
variable {K : Fg} {B0 F B B' H H' : Hp} {M : Cs} {ρ κ : List Sl} {σ : List (Option V)} {vs : List V}
theorem Good.pushD {d : PyData} {v : V} (g : Good K B0 F M ρ κ σ vs H) (h : ∀ B, GoodB K B0 F M ρ κ σ vs H B → Rp K B v d) : Good K B0 F M ρ (.d d :: κ) σ (v :: vs) H := g.push h
theorem Good.pushV {v : V} (g : Good K B0 F M ρ κ σ vs H) : Good K B0 F M ρ (.v v :: κ) σ (v :: vs) H := g.push fun _ _ => rfl
theorem GoodB.pushD {d : PyData} {v : V} (g : GoodB K B0 F M ρ κ σ vs H B) (h : Rp K B v d) : GoodB K B0 F M ρ (.d d :: κ) σ (v :: vs) H B := g.push h
theorem GoodB.pushV {v : V} (g : GoodB K B0 F M ρ κ σ vs H B) : GoodB K B0 F M ρ (.v v :: κ) σ (v :: vs) H B := g.push rfl
end

/-! ### every piece of syntax reads itself -/
section
variable (X : Cx)
def tOf (e : Expr) : TE := fun σ H Q => ∀ pins s, Inv X pins σ H s → wpAny (model X.prog X.w) X.A (eval e X.env) (EP X pins σ Q) X.xe s
def tOfT (e : Expr) : TT := fun σ H Q => ∀ pins s, Inv X pins σ H s → wpAny (model X.prog X.w) X.A (isTrue e X.env (eval e X.env)) (TP X pins σ Q) X.xe s
def tOfW (e : Expr) : TT := fun σ H Q => ∀ whole pins s, Inv X pins σ H s → wpAny (model X.prog X.w) X.A (isTrue e X.env whole) (TP X pins σ Q) X.xe s
def tOfA (es : List Expr) : TA := fun σ H Q => ∀ pos pins s, Inv X pins σ H s → wpAny (model X.prog X.w) X.A (spliced (backTo pos (starEach es X.env))) (AP X pins σ Q) X.xe s
def tOfS (st : Stmt) : TS := fun D σ H => ∀ pins s, Inv X pins σ H s → wpAny (model X.prog X.w) X.A (exec st X.env) (SP X pins D) X.xe s
def tOfB (st : List Stmt) : TS := fun D σ H => ∀ pins s, Inv X pins σ H s → wpAny (model X.prog X.w) X.A (execs st X.env) (SP X pins D) X.xe s
def tOfG (tg : Expr) : TG := fun v σ H Q => ∀ pins s u, Inv X pins σ H s → RelV v u → wpAny (model X.prog X.w) X.A (assign tg X.env u) (fun _ s' => ∃ σ' H', Inv X pins σ' H' s' ∧ Q σ' H') X.xe s
def tOfGs (ts : List Expr) : TGs := fun vs σ H Q => ∀ pins s us, Inv X pins σ H s → Vals vs us → wpAny (model X.prog X.w) X.A (assignInOrder ((assignEach ts X.env).map (·.2)) us) (fun _ s' => ∃ σ' H', Inv X pins σ' H' s' ∧ Q σ' H') X.xe s
def tOfI (tg iter : Expr) : TI := fun σ H R => ∀ pins s, Inv X pins σ H s → wpAny (model X.prog X.w) X.A (eval iter X.env) (fun v s1 => wpAny (model X.prog X.w) X.A (pyIter v) (PIE X pins σ tg R) X.xe s1) X.xe s
def tOfO (e : Option Expr) : TO := fun σ H Q => ∀ t, PO X e t → t σ H Q
variable {X} {e : Expr} {es : List Expr} {st : Stmt} {sts : List Stmt} {tg iter : Expr}
theorem pe_self : PE X e (tOf X e) := ⟨fun pins s _ _ _ I h => h pins s I⟩
theorem pt_self : PT X e (tOfT X e) := ⟨fun pins s _ _ _ I h => h pins s I⟩
theorem pw_self : PW X e (tOfW X e) := ⟨fun wh pins s _ _ _ I h => h wh pins s I⟩
theorem pa_self : PA X es (tOfA X es) := ⟨fun pos pins s _ _ _ I h => h pos pins s I⟩
theorem ps_self : PS X st (tOfS X st) := ⟨fun pins s _ _ _ I h => h pins s I⟩
theorem pb_self : PSs X sts (tOfB X sts) := ⟨fun pins s _ _ _ I h => h pins s I⟩
theorem pg_self : PG X tg (tOfG X tg) := ⟨fun pins s _ _ _ u _ I r h => h pins s u I r⟩
theorem pgs_self {ts : List Expr} : PGs X ts (tOfGs X ts) := ⟨fun pins s _ _ _ us _ I r h => h pins s us I r⟩
theorem pi_self : PI X tg iter (tOfI X tg iter) := ⟨fun pins s _ _ _ I h => h pins s I⟩
theorem tOf_of {t : TE} (h : PE X e t) {σ : L2.St} {H : Hp} {Q : VK} (q : t σ H Q) : tOf X e σ H Q := fun pins s I => h.run pins s σ H Q I q
theorem tOfT_of {t : TT} (h : PT X e t) {σ : L2.St} {H : Hp} {Q : Bool → Hp → Prop} (q : t σ H Q) : tOfT X e σ H Q := fun pins s I => h.run pins s σ H Q I q
theorem tOfW_of {t : TT} (h : PW X e t) {σ : L2.St} {H : Hp} {Q : Bool → Hp → Prop} (q : t σ H Q) : tOfW X e σ H Q := fun wh pins s I => h.run wh pins s σ H Q I q
theorem tOfA_of {t : TA} (h : PA X es t) {σ : L2.St} {H : Hp} {Q : List V → Hp → Prop} (q : t σ H Q) : tOfA X es σ H Q := fun pos pins s I => h.run pos pins s σ H Q I q
theorem tOfS_of {t : TS} (h : PS X st t) {σ : L2.St} {H : Hp} {D : Ends} (q : t D σ H) : tOfS X st D σ H := fun pins s I => h.run pins s σ H D I q
theorem tOfB_of {t : TS} (h : PSs X sts t) {σ : L2.St} {H : Hp} {D : Ends} (q : t D σ H) : tOfB X sts D σ H := fun pins s I => h.run pins s σ H D I q
theorem tOfG_of {t : TG} (h : PG X tg t) {v : V} {σ : L2.St} {H : Hp} {Q : L2.St → Hp → Prop} (q : t v σ H Q) : tOfG X tg v σ H Q := fun pins s u I r => h.run pins s σ H v u Q I r q
theorem tOfGs_of {ts : List Expr} {t : TGs} (h : PGs X ts t) {vs : List V} {σ : L2.St} {H : Hp} {Q : L2.St → Hp → Prop} (q : t vs σ H Q) : tOfGs X ts vs σ H Q := fun pins s us I r => h.run pins s σ H vs us Q I r q
theorem tOfI_of {t : TI} (h : PI X tg iter t) {σ : L2.St} {H : Hp} {R : It → Hp → Prop} (q : t σ H R) : tOfI X tg iter σ H R := fun pins s I => h.run pins s σ H R I q
end

/-! ### judgements over data -/
section
variable (X : Cx) (B0 F : Hp) (M : Cs) (ρ κ : List Sl)
def DE (e : Expr) (P : Sl → Cs → Prop) : Prop := ∀ σ vs H Q, Good X.K B0 F M ρ κ σ vs H → (∀ v H' r M', Good X.K B0 F M' ρ (r :: κ) σ (v :: vs) H' → P r M' → Q v H') → tOf X e σ H Q
def DT (e : Expr) (P : Bool → Cs → Prop) : Prop := ∀ σ vs H Q, Good X.K B0 F M ρ κ σ vs H → (∀ b H' M', Good X.K B0 F M' ρ κ σ vs H' → P b M' → Q b H') → tOfT X e σ H Q
def DW (e : Expr) (P : Bool → Cs → Prop) : Prop := ∀ σ vs H Q, Good X.K B0 F M ρ κ σ vs H → (∀ b H' M', Good X.K B0 F M' ρ κ σ vs H' → P b M' → Q b H') → tOfW X e σ H Q
def DA (es : List Expr) (P : List Sl → Cs → Prop) : Prop := ∀ σ vs H Q, Good X.K B0 F M ρ κ σ vs H → (∀ ws H' rs M', ws.length = rs.length → Good X.K B0 F M' ρ (rs ++ κ) σ (ws ++ vs) H' → P rs M' → Q ws H') → tOfA X es σ H Q
structure KK where
  nx : Cs → List Sl → Prop
  rt : Sl → Cs → Prop
  bk : Cs → List Sl → Prop := fun _ _ => False
  ct : Cs → List Sl → Prop := fun _ _ => False
structure Conn (K : Fg) (vs : List V) (k : KK) (D : Ends) : Prop where
  nx : ∀ σ' H' M' ρ', Good K B0 F M' ρ' κ σ' vs H' → k.nx M' ρ' → D.nx σ' H'
  rt : ∀ v H' r M', Good K B0 F M' [] [r] [] [v] H' → k.rt r M' → D.rt v H'
  bk : ∀ σ' H' M' ρ', Good K B0 F M' ρ' κ σ' vs H' → k.bk M' ρ' → D.bk σ' H'
  ct : ∀ σ' H' M' ρ', Good K B0 F M' ρ' κ σ' vs H' → k.ct M' ρ' → D.ct σ' H'
def DS (s : Stmt) (k : KK) : Prop := ∀ σ vs H D, Good X.K B0 F M ρ κ σ vs H → Conn B0 F κ X.K vs k D → tOfS X s D σ H
def DB (s : List Stmt) (k : KK) : Prop := ∀ σ vs H D, Good X.K B0 F M ρ κ σ vs H → Conn B0 F κ X.K vs k D → tOfB X s D σ H
/-- a target takes what r says -/
def DG (r : Sl) (tg : Expr) (P : Cs → List Sl → Prop) : Prop := ∀ σ vs H x Q, Good X.K B0 F M ρ (r :: κ) σ (x :: vs) H → (∀ σ' H' M' ρ', Good X.K B0 F M' ρ' κ σ' vs H' → P M' ρ' → Q σ' H') → tOfG X tg x σ H Q
def DGs (rs : List Sl) (ts : List Expr) (P : Cs → List Sl → Prop) : Prop := ∀ σ vs H xs Q, xs.length = rs.length → Good X.K B0 F M ρ (rs ++ κ) σ (xs ++ vs) H → (∀ σ' H' M' ρ', Good X.K B0 F M' ρ' κ σ' vs H' → P M' ρ' → Q σ' H') → tOfGs X ts xs σ H Q
end
/-- an operation on two values, by their slots -/
def R2D (K : Fg) (B0 F : Hp) (ρ κ : List Sl) (r : R2) (r1 r2 : Sl) (M : Cs) (P : Sl → Cs → Prop) : Prop := ∀ σ vs H x y Q, Good K B0 F M ρ (r2 :: r1 :: κ) σ (y :: x :: vs) H → (∀ v H' r' M', Good K B0 F M' ρ (r' :: κ) σ (v :: vs) H' → P r' M' → Q v H') → r x y H Q
def R1D (K : Fg) (B0 F : Hp) (ρ κ : List Sl) (r : V → Hp → VK → Prop) (r1 : Sl) (M : Cs) (P : Sl → Cs → Prop) : Prop := ∀ σ vs H x Q, Good K B0 F M ρ (r1 :: κ) σ (x :: vs) H → (∀ v H' r' M', Good K B0 F M' ρ (r' :: κ) σ (v :: vs) H' → P r' M' → Q v H') → r x H Q
def RnD (K : Fg) (B0 F : Hp) (ρ κ : List Sl) (r : List V → Hp → VK → Prop) (rs : List Sl) (M : Cs) (P : Sl → Cs → Prop) : Prop := ∀ σ vs H xs Q, xs.length = rs.length → Good K B0 F M ρ (rs ++ κ) σ (xs ++ vs) H → (∀ v H' r' M', Good K B0 F M' ρ (r' :: κ) σ (v :: vs) H' → P r' M' → Q v H') → r xs H Q

section
variable {X : Cx} {B0 F : Hp} {M : Cs} {ρ κ : List Sl} {P : Sl → Cs → Prop} {a b c e : Expr} {pos : Pos}

/-! ### names, constants -/
theorem de_name (i : Nat) {x : Str} {pos : Pos} {r : Sl} (hr : ρ[i]? = some r) (hu : r ≠ .un) (h : P r M) (hN : X.N[i]? = some x := by rfl) (hv : Vis X.env.scope x := by first | exact Or.inl rfl | exact Or.inr (Or.inl rfl) | exact Or.inr (Or.inr rfl)) (hd : (x == ("__debug__" : Str)) = false := by decide)
    (hcd : (x == ("__classdict__" : Str)) = false := by decide) : DE X B0 F M ρ κ (.Name x pos) P := fun σ vs H Q g q => by
  obtain ⟨B, g⟩ := g
  obtain ⟨o, ho, hok⟩ := Paired.get? g.sl hr
  obtain ⟨v, rfl, hv'⟩ := OOk.v hu hok
  exact tOf_of (pe_var hN hv hd hcd) ⟨v, ho, q v H r M ⟨B, g.push hv'⟩ h⟩
theorem de_int {i j pos} (h : P (.d (.int i)) M) : DE X B0 F M ρ κ (.Constant (.int i) j pos) P := fun σ vs H Q g q => tOf_of pe_int (q _ H _ M (g.pushD fun _ _ => Rp.int i) h)
theorem de_bl {i j pos} (h : P (.d (.bool i)) M) : DE X B0 F M ρ κ (.Constant (.bool i) j pos) P := fun σ vs H Q g q => tOf_of pe_bl (q _ H _ M (g.pushD fun _ _ => Rp.bl i) h)
theorem de_non {j pos} (h : P (.d .none) M) : DE X B0 F M ρ κ (.Constant .none j pos) P := fun σ vs H Q g q => tOf_of pe_non (q _ H _ M (g.pushD fun _ _ => Rp.non) h)
theorem de_str {i j pos} (h : P (.d (.str i)) M) : DE X B0 F M ρ κ (.Constant (.str i) j pos) P := fun σ vs H Q g q => tOf_of pe_str (q _ H _ M (g.pushD fun _ _ => Rp.str i) h)
/-- a module's constant, by what stands in the written part -/
theorem de_glob {x : Str} {v : V} {d : PyData} {u : Value} {pos : Pos} (hm : X.mg x = some u) (r : RelV v u) (hd : ∀ H, Rp X.K H v d) (h : P (.d d) M) (hg : Gl X x := by rfl) (hdb : (x == ("__debug__" : Str)) = false := by decide) : DE X B0 F M ρ κ (.Name x pos) P :=
  fun σ vs H Q g q => tOf_of (pe_glob hg hm r hdb) (q _ H _ M (g.pushD fun B _ => hd B) h)
/-- a built-in class as a value -/
theorem de_ty {x : Str} {T : String} {pos : Pos} (hm : X.mg x = none) (hv : bootBuiltins x = some (.type T)) (h : P (.v (.ty T)) M) (hg : Gl X x := by rfl) (hn : x ≠ "__name__" := by decide) (hdb : (x == ("__debug__" : Str)) = false := by decide) : DE X B0 F M ρ κ (.Name x pos) P :=
  fun σ vs H Q g q => tOf_of (pe_bltn (v := .ty T) hg hm hv rfl hn hdb) (q _ H _ M g.pushV h)
/-- weaker wishes -/
theorem DE.mono {P' : Sl → Cs → Prop} (h : DE X B0 F M ρ κ e P) (w : ∀ r M, P r M → P' r M) : DE X B0 F M ρ κ e P' := fun σ vs H Q g q => h σ vs H Q g fun v H' r M' g' p => q v H' r M' g' (w r M' p)
/-- a list cell just made becomes data -/
theorem de_freeze (h : DE X B0 F M ρ κ e fun r M1 => ∃ p xs M2, r = .v (.ref p) ∧ M1 = (p, .lst xs) :: M2 ∧ P (.d (.list xs)) M2) : DE X B0 F M ρ κ e P := fun σ vs H Q g q => h σ vs H Q g fun v H' r M' g' p => by
  obtain ⟨p, xs, M2, rfl, rfl, hp⟩ := p
  have e := g'.ref
  subst e
  obtain ⟨B, g'⟩ := g'
  exact q _ H' _ M2 g'.pop.freeze hp

/-! ### operators -/
theorem de_op {op : Operator} {r : R2} (ho : OpR X (binaryOp op) r) (h : DE X B0 F M ρ κ a fun r1 M1 => DE X B0 F M1 ρ (r1 :: κ) b fun r2 M2 => R2D X.K B0 F ρ κ r r1 r2 M2 P) : DE X B0 F M ρ κ (.BinOp a op b pos) P :=
  fun σ vs H Q g q => tOf_of (pe_op ho pe_self pe_self) (h σ vs H _ g fun x H1 r1 M1 g1 h1 => h1 σ (x :: vs) H1 _ g1 fun y H2 r2 M2 g2 h2 => h2 σ vs H2 x y Q g2 q)
theorem de_unop {op : UnaryOp} {r : V → Hp → VK → Prop} (ho : UnR X (unaryOp op) r) (h : DE X B0 F M ρ κ a fun r1 M1 => R1D X.K B0 F ρ κ r r1 M1 P) : DE X B0 F M ρ κ (.UnaryOp op a pos) P :=
  fun σ vs H Q g q => tOf_of (pe_un ho pe_self) (h σ vs H _ g fun x H1 r1 M1 g1 h1 => h1 σ vs H1 x Q g1 q)
theorem de_cmp {op : CmpOp} {r : R2} (ho : OpR X (compareOp op) r) (h : DE X B0 F M ρ κ a fun r1 M1 => DE X B0 F M1 ρ (r1 :: κ) b fun r2 M2 => R2D X.K B0 F ρ κ r r1 r2 M2 P) (hm : behindInMarks op b = false := by first | rfl | exact nomark _) : DE X B0 F M ρ κ (.Compare a [op] [b] pos) P :=
  fun σ vs H Q g q => tOf_of (pe_cmpR ho pe_self pe_self hm) (h σ vs H _ g fun x H1 r1 M1 g1 h1 => h1 σ (x :: vs) H1 _ g1 fun y H2 r2 M2 g2 h2 => h2 σ vs H2 x y Q g2 q)
theorem dt_cmp {op : CmpOp} {r : R2} {P : Bool → Cs → Prop} (ho : OpR X (compareOp op) r) (h : DE X B0 F M ρ κ a fun r1 M1 => DE X B0 F M1 ρ (r1 :: κ) b fun r2 M2 => R2D X.K B0 F ρ κ r r1 r2 M2 fun r' M' => ∃ k, r' = .d (.bool k) ∧ P k M') (hm : behindInMarks op b = false := by first | rfl | exact nomark _) : DT X B0 F M ρ κ (.Compare a [op] [b] pos) P :=
  fun σ vs H Q g q => tOfT_of (pt_cmpR ho pe_self pe_self hm) (h σ vs H _ g fun x H1 r1 M1 g1 h1 => h1 σ (x :: vs) H1 _ g1 fun y H2 r2 M2 g2 h2 => h2 σ vs H2 x y _ g2 fun v H' r' M' g' p => by
    obtain ⟨k, rfl, p⟩ := p
    have e := g'.bl
    subst e
    exact ⟨k, rfl, q k H' M' g'.pop p⟩)
/-- a chain a < b < c -/
theorem de_chain {op op' : CmpOp} {r r' : R2} (ho : OpR X (compareOp op) r) (ho' : OpR X (compareOp op') r')
    (h : DE X B0 F M ρ κ a fun r1 M1 => DE X B0 F M1 ρ (r1 :: κ) b fun r2 M2 => R2D X.K B0 F ρ (r2 :: r1 :: κ) r r1 r2 M2 fun z M3 => ∃ k, z = .d (.bool k) ∧
      (k = true → DE X B0 F M3 ρ (r2 :: r1 :: κ) c fun r3 M4 => R2D X.K B0 F ρ κ r' r2 r3 M4 P) ∧ (k = false → P (.d (.bool false)) M3))
    (pe : PE X (.Compare a [op, op'] [b, c] pos) (tChain r r' (tOf X a) (tOf X b) (tOf X c)) := by first | exact pe_chain ho ho' pe_self pe_self pe_self (nomark _) (nomark _) | exact pe_chain ho ho' pe_self pe_self pe_self) : DE X B0 F M ρ κ (.Compare a [op, op'] [b, c] pos) P := fun σ vs H Q g q => by
  refine tOf_of pe ?_
  refine h σ vs H _ g fun x H1 r1 M1 g1 h1 => h1 σ (x :: vs) H1 _ g1 fun y H2 r2 M2 g2 h2 => ?_
  have g2' : Good X.K B0 F M2 ρ (r2 :: r1 :: r2 :: r1 :: κ) σ (y :: x :: y :: x :: vs) H2 := by
    obtain ⟨B, g2⟩ := g2
    cases g2.st with
    | cons s1 s2 =>
      cases s2 with
      | cons s2 s3 => exact ⟨B, g2.stk (.cons s1 (.cons s2 (.cons s1 (.cons s2 s3))))⟩
  refine h2 σ (y :: x :: vs) H2 x y _ g2' fun v H' r' M' g' p => ?_
  obtain ⟨k, rfl, p1, p2⟩ := p
  have e := g'.bl
  subst e
  refine ⟨k, rfl, ?_⟩
  cases k with
  | true =>
    refine p1 rfl σ (y :: x :: vs) H' _ g'.pop fun z H4 r3 M4 g4 h4 => ?_
    refine h4 σ vs H4 y z Q ?_ q
    obtain ⟨B, g4⟩ := g4
    cases g4.st with
    | cons s1 s2 =>
      cases s2 with
      | cons s2 s3 =>
        cases s3 with
        | cons s3 s4 => exact ⟨B, g4.stk (.cons s1 (.cons s2 s4))⟩
  | false =>
    refine q _ H' _ M' ?_ (p2 rfl)
    obtain ⟨B, g'⟩ := g'
    cases g'.st with
    | cons s1 s2 =>
      cases s2 with
      | cons s2 s3 =>
        cases s3 with
        | cons s3 s4 => exact ⟨B, g'.stk (.cons s1 s4)⟩

section
variable {K : Fg}
theorem r2_I0 {f : Int → Int → V} {i j : Int} {d : PyData} (hd : ∀ H, Rp K H (f i j) d) (h : P (.d d) M) : R2D K B0 F ρ κ (rI0 f) (.d (.int i)) (.d (.int j)) M P := fun σ vs H x y Q g q => by
  have e := g.int
  subst e
  have e := g.pop.int
  subst e
  exact ⟨i, j, rfl, rfl, q _ H _ M (g.pop.pop.pushD fun B _ => hd B) h⟩
theorem r2_I {C : Int → Int → Prop} {f : Int → Int → V} {i j : Int} {d : PyData} (hd : ∀ H, Rp K H (f i j) d) (hc : C i j) (h : P (.d d) M) : R2D K B0 F ρ κ (rI C f) (.d (.int i)) (.d (.int j)) M P := fun σ vs H x y Q g q => by
  have e := g.int
  subst e
  have e := g.pop.int
  subst e
  exact ⟨i, j, rfl, rfl, hc, q _ H _ M (g.pop.pop.pushD fun B _ => hd B) h⟩
theorem r1_U {f : Int → V} {i : Int} {d : PyData} (hd : ∀ H, Rp K H (f i) d) (h : P (.d d) M) : R1D K B0 F ρ κ (rU f) (.d (.int i)) M P := fun σ vs H x Q g q => by
  have e := g.int
  subst e
  exact ⟨i, rfl, q _ H _ M (g.pop.pushD fun B _ => hd B) h⟩
/-- == of two flat values -/
def flatD : PyData → Option V
  | .none => some .non
  | .bool b => some (.bl b)
  | .int i => some (.int i)
  | .str x => some (.str x)
  | _ => none
theorem Rp.flat {H : Hp} {v w : V} {d : PyData} (h : Rp K H v d) (f : flatD d = some w) : v = w := by
  cases h <;> first | exact Option.some.inj f | cases f
theorem Rp.of_flat {H : Hp} {w : V} {d : PyData} (f : flatD d = some w) : Rp K H w d := by
  cases d <;> first | (cases Option.some.inj f; constructor) | cases f
theorem Good.flat {i : PyData} {σ vs H} {v w : V} (g : Good K B0 F M ρ (.d i :: κ) σ (v :: vs) H) (f : flatD i = some w) : v = w := by
  obtain ⟨B, g⟩ := g; exact Rp.flat g.fst f
theorem r2_eq {x y : PyData} {v w : V} (hx : flatD x = some v) (hy : flatD y = some w) (hs : scal v w = true) (h : P (.d (.bool (decide (v = w)))) M) : R2D K B0 F ρ κ rEq (.d x) (.d y) M P := fun σ vs H x y Q g q => by
  have e := g.flat hy
  subst e
  have e := g.pop.flat hx
  subst e
  exact ⟨hs, q _ H _ M (g.pop.pop.pushD fun B _ => Rp.bl _) h⟩
theorem r2_ne {x y : PyData} {v w : V} (hx : flatD x = some v) (hy : flatD y = some w) (hs : scal v w = true) (h : P (.d (.bool (!decide (v = w)))) M) : R2D K B0 F ρ κ rNe (.d x) (.d y) M P := fun σ vs H x y Q g q => by
  have e := g.flat hy
  subst e
  have e := g.pop.flat hx
  subst e
  exact ⟨hs, q _ H _ M (g.pop.pop.pushD fun B _ => Rp.bl _) h⟩
theorem decV {i j : Int} : decide (V.int i = V.int j) = decide (i = j) := by
  by_cases h : i = j
  · subst h; simp
  · rw [decide_eq_false h, decide_eq_false (fun e => h (V.int.inj e))]
theorem r2_eqI {i j : Int} (h : P (.d (.bool (decide (i = j)))) M) : R2D K B0 F ρ κ rEq (.d (.int i)) (.d (.int j)) M P := r2_eq rfl rfl rfl (by rw [decV]; exact h)
theorem r2_neI {i j : Int} (h : P (.d (.bool (!decide (i = j)))) M) : R2D K B0 F ρ κ rNe (.d (.int i)) (.d (.int j)) M P := r2_ne rfl rfl rfl (by rw [decV]; exact h)
/-- is None, is not None -/
theorem r2_isN {x : PyData} (h : P (.d (.bool (match x with | .none => true | _ => false))) M) : R2D K B0 F ρ κ (fun x y H Q => y = .non ∧ Q (.bl (decide (x = .non))) H) (.d x) (.d .none) M P := fun σ vs H v y Q g q => by
  have e : y = .non := by obtain ⟨B, g⟩ := g; exact Rp.non_inv g.fst
  subst e
  refine ⟨rfl, q _ H _ M (g.pop.pop.pushD fun B _ => ?_) h⟩
  obtain ⟨B, g⟩ := g
  have := g.pop.fst
  cases (show Rp K B v x from this) <;> exact Rp.bl _
/-- data of any depth, ==, != -/
theorem r2_eqD {x y : PyData} (hx : SeqAt.shaped x = true) (hy : SeqAt.shaped y = true) (h : P (.d (.bool (PyData.eqv x y))) M) : R2D K B0 F ρ κ (rEqD K) (.d x) (.d y) M P := fun σ vs H v w Q g q => by
  refine ⟨x, y, ?_, ?_, hx, hy, q _ H _ M (g.pop.pop.pushD fun B _ => Rp.bl _) h⟩
  · obtain ⟨B, g⟩ := g
    have r : Rp K B v x := g.pop.fst
    exact (r.ext g.bh).dp
  · obtain ⟨B, g⟩ := g
    have r : Rp K B w y := g.fst
    exact (r.ext g.bh).dp
theorem r2_neD {x y : PyData} (hx : SeqAt.shaped x = true) (hy : SeqAt.shaped y = true) (h : P (.d (.bool (!PyData.eqv x y))) M) : R2D K B0 F ρ κ (rNeD K) (.d x) (.d y) M P := fun σ vs H v w Q g q => by
  refine ⟨x, y, ?_, ?_, hx, hy, q _ H _ M (g.pop.pop.pushD fun B _ => Rp.bl _) h⟩
  · obtain ⟨B, g⟩ := g
    have r : Rp K B v x := g.pop.fst
    exact (r.ext g.bh).dp
  · obtain ⟨B, g⟩ := g
    have r : Rp K B w y := g.fst
    exact (r.ext g.bh).dp
end

/-! ### and, or, not, if .. else as values and tests -/
variable {rest : List Expr}
theorem de_one {op} (h : DE X B0 F M ρ κ a P) : DE X B0 F M ρ κ (.BoolOp op [a] pos) P := fun σ vs H Q g q => tOf_of (pe_one pe_self) (h σ vs H Q g q)
theorem de_and (h : DE X B0 F M ρ κ a fun r M1 => ∃ k, r = .d (.bool k) ∧ (k = true → DE X B0 F M1 ρ κ (.BoolOp .And (b :: rest) pos) P) ∧ (k = false → P (.d (.bool false)) M1)) : DE X B0 F M ρ κ (.BoolOp .And (a :: b :: rest) pos) P :=
  fun σ vs H Q g q => tOf_of (pe_and pe_self pe_self) (h σ vs H _ g fun x H1 r1 M1 g1 h1 => by
    obtain ⟨k, rfl, p1, p2⟩ := h1
    have e := g1.bl
    subst e
    refine ⟨k, rfl, ?_⟩
    cases k with
    | true => exact p1 rfl σ vs H1 Q g1.pop q
    | false => exact q _ H1 _ M1 g1 (p2 rfl))
theorem de_or (h : DE X B0 F M ρ κ a fun r M1 => ∃ k, r = .d (.bool k) ∧ (k = false → DE X B0 F M1 ρ κ (.BoolOp .Or (b :: rest) pos) P) ∧ (k = true → P (.d (.bool true)) M1)) : DE X B0 F M ρ κ (.BoolOp .Or (a :: b :: rest) pos) P :=
  fun σ vs H Q g q => tOf_of (pe_or pe_self pe_self) (h σ vs H _ g fun x H1 r1 M1 g1 h1 => by
    obtain ⟨k, rfl, p1, p2⟩ := h1
    have e := g1.bl
    subst e
    refine ⟨k, rfl, ?_⟩
    cases k with
    | false => exact p1 rfl σ vs H1 Q g1.pop q
    | true => exact q _ H1 _ M1 g1 (p2 rfl))
theorem de_not (h : DE X B0 F M ρ κ a fun r M1 => ∃ k, r = .d (.bool k) ∧ P (.d (.bool (!k))) M1) : DE X B0 F M ρ κ (.UnaryOp .Not a pos) P :=
  fun σ vs H Q g q => tOf_of (pe_not pe_self) (h σ vs H _ g fun x H1 r1 M1 g1 h1 => by
    obtain ⟨k, rfl, p⟩ := h1
    have e := g1.bl
    subst e
    exact ⟨k, rfl, q _ H1 _ M1 (g1.pop.pushD fun _ _ => Rp.bl _) p⟩)
/-- the second operand's value is told ahead: no two ways -/
theorem de_andP (h : DE X B0 F M ρ κ a fun r M1 => ∃ k k2, r = .d (.bool k) ∧ (k = true → DE X B0 F M1 ρ κ (.BoolOp .And (b :: rest) pos) fun r' M2 => r' = .d (.bool k2) ∧ M2 = M1) ∧ P (.d (.bool (k && k2))) M1) : DE X B0 F M ρ κ (.BoolOp .And (a :: b :: rest) pos) P :=
  de_and (h.mono fun r M1 ⟨k, k2, e, p1, p2⟩ => ⟨k, e, fun hk => (p1 hk).mono fun r' M2 ⟨e1, e2⟩ => by subst e1 e2 hk; exact p2, fun hk => by subst hk; exact p2⟩)
theorem de_orP (h : DE X B0 F M ρ κ a fun r M1 => ∃ k k2, r = .d (.bool k) ∧ (k = false → DE X B0 F M1 ρ κ (.BoolOp .Or (b :: rest) pos) fun r' M2 => r' = .d (.bool k2) ∧ M2 = M1) ∧ P (.d (.bool (k || k2))) M1) : DE X B0 F M ρ κ (.BoolOp .Or (a :: b :: rest) pos) P :=
  de_or (h.mono fun r M1 ⟨k, k2, e, p1, p2⟩ => ⟨k, e, fun hk => (p1 hk).mono fun r' M2 ⟨e1, e2⟩ => by subst e1 e2 hk; exact p2, fun hk => by subst hk; exact p2⟩)
variable {PT : Bool → Cs → Prop}
theorem DT.mono {P P' : Bool → Cs → Prop} (h : DT X B0 F M ρ κ e P) (w : ∀ r M, P r M → P' r M) : DT X B0 F M ρ κ e P' := fun σ vs H Q g q => h σ vs H Q g fun v H' M' g' p => q v H' M' g' (w v M' p)
theorem DW.mono {P P' : Bool → Cs → Prop} (h : DW X B0 F M ρ κ e P) (w : ∀ r M, P r M → P' r M) : DW X B0 F M ρ κ e P' := fun σ vs H Q g q => h σ vs H Q g fun v H' M' g' p => q v H' M' g' (w v M' p)
theorem dt_w (h : DW X B0 F M ρ κ e PT) : DT X B0 F M ρ κ e PT := fun σ vs H Q g q => tOfT_of pw_self.pt (h σ vs H Q g q)
theorem dw_and1 (h : DT X B0 F M ρ κ a PT) : DW X B0 F M ρ κ (.BoolOp .And [a] pos) PT := fun σ vs H Q g q => tOfW_of (pw_and1 pt_self) (h σ vs H Q g q)
theorem dw_or1 (h : DT X B0 F M ρ κ a PT) : DW X B0 F M ρ κ (.BoolOp .Or [a] pos) PT := fun σ vs H Q g q => tOfW_of (pw_or1 pt_self) (h σ vs H Q g q)
theorem dw_and (h : DT X B0 F M ρ κ a fun k M1 => (k = true → DW X B0 F M1 ρ κ (.BoolOp .And (b :: rest) pos) PT) ∧ (k = false → PT false M1)) : DW X B0 F M ρ κ (.BoolOp .And (a :: b :: rest) pos) PT :=
  fun σ vs H Q g q => tOfW_of (pw_and pt_self pw_self) (h σ vs H _ g fun k H1 M1 g1 h1 => by
    cases k with
    | true => exact h1.1 rfl σ vs H1 Q g1 q
    | false => exact q _ H1 M1 g1 (h1.2 rfl))
theorem dw_or (h : DT X B0 F M ρ κ a fun k M1 => (k = false → DW X B0 F M1 ρ κ (.BoolOp .Or (b :: rest) pos) PT) ∧ (k = true → PT true M1)) : DW X B0 F M ρ κ (.BoolOp .Or (a :: b :: rest) pos) PT :=
  fun σ vs H Q g q => tOfW_of (pw_or pt_self pw_self) (h σ vs H _ g fun k H1 M1 g1 h1 => by
    cases k with
    | false => exact h1.1 rfl σ vs H1 Q g1 q
    | true => exact q _ H1 M1 g1 (h1.2 rfl))
theorem dw_andP (h : DT X B0 F M ρ κ a fun k M1 => ∃ k2, (k = true → DW X B0 F M1 ρ κ (.BoolOp .And (b :: rest) pos) fun k' M2 => k' = k2 ∧ M2 = M1) ∧ PT (k && k2) M1) : DW X B0 F M ρ κ (.BoolOp .And (a :: b :: rest) pos) PT :=
  dw_and (h.mono fun k M1 ⟨k2, p1, p2⟩ => ⟨fun hk => (p1 hk).mono fun r' M2 ⟨e1, e2⟩ => by subst e1 e2 hk; exact p2, fun hk => by subst hk; exact p2⟩)
theorem dw_orP (h : DT X B0 F M ρ κ a fun k M1 => ∃ k2, (k = false → DW X B0 F M1 ρ κ (.BoolOp .Or (b :: rest) pos) fun k' M2 => k' = k2 ∧ M2 = M1) ∧ PT (k || k2) M1) : DW X B0 F M ρ κ (.BoolOp .Or (a :: b :: rest) pos) PT :=
  dw_or (h.mono fun k M1 ⟨k2, p1, p2⟩ => ⟨fun hk => (p1 hk).mono fun r' M2 ⟨e1, e2⟩ => by subst e1 e2 hk; exact p2, fun hk => by subst hk; exact p2⟩)
theorem dt_not (h : DT X B0 F M ρ κ a fun k M1 => PT (!k) M1) : DT X B0 F M ρ κ (.UnaryOp .Not a pos) PT :=
  fun σ vs H Q g q => tOfT_of (pt_not pt_self) (h σ vs H _ g fun k H1 M1 g1 h1 => q _ H1 M1 g1 h1)
/-- an expression whose value is a bool -/
theorem dt_val (h : DE X B0 F M ρ κ e fun r M1 => ∃ k, r = .d (.bool k) ∧ PT k M1) (he : ∀ whole, isTrue e X.env whole = (do let v ← whole; standAt e.pos; holding [v] (truthy v)) := by intro _; rfl) : DT X B0 F M ρ κ e PT :=
  fun σ vs H Q g q => tOfT_of (pt_val pe_self he) (h σ vs H _ g fun x H1 r1 M1 g1 h1 => by
    obtain ⟨k, rfl, p⟩ := h1
    have e := g1.bl
    subst e
    exact ⟨k, rfl, q _ H1 M1 g1.pop p⟩)
/-- truth of a datum -/
def truD : PyData → Bool
  | .none => false
  | .bool b => b
  | .int i => i != 0
  | .str x => (x.length : Int) != 0
  | .list xs => !xs.isEmpty
  | .tuple xs => !xs.isEmpty
  | _ => false
theorem isEmpty_rp {K : Fg} {H : Hp} {vs : List V} {ds : List PyData} (h : RpA K H vs ds) : (!vs.isEmpty) = !ds.isEmpty := by cases h <;> rfl
theorem tru_of {K : Fg} {H : Hp} {v : V} {d : PyData} (h : Rp K H v d) (hs : ∀ x, d = .str x → x.length ≤ sizeLine) : TruV K v H (truD d) := by
  cases h with
  | non => rfl
  | bl b => rfl
  | int i => rfl
  | str x => exact ⟨hs x rfl, rfl⟩
  | lst h h2 => exact .inl ⟨_, SqL.of h, (isEmpty_rp h2).symm⟩
  | tup h h2 => exact .inr (.inl ⟨_, h, (isEmpty_rp h2).symm⟩)
theorem dt_truth (h : DE X B0 F M ρ κ e fun r M1 => ∃ d, r = .d d ∧ (∀ x, d = .str x → x.length ≤ sizeLine) ∧ PT (truD d) M1) (he : ∀ whole, isTrue e X.env whole = (do let v ← whole; standAt e.pos; holding [v] (truthy v)) := by intro _; rfl) : DT X B0 F M ρ κ e PT :=
  fun σ vs H Q g q => tOfT_of (pt_truth pe_self he) (h σ vs H _ g fun x H1 r1 M1 g1 h1 => by
    obtain ⟨d, rfl, hs, p⟩ := h1
    refine ⟨truD d, ?_, q _ H1 M1 g1.pop p⟩
    obtain ⟨B, g1⟩ := g1
    exact tru_of (Rp.ext g1.bh g1.fst) hs)
/-- truth of a cell's list -/
theorem dt_truthC (h : DE X B0 F M ρ κ e fun r M1 => ∃ p xs, r = .v (.ref p) ∧ (p, .lst xs) ∈ M1 ∧ PT (!xs.isEmpty) M1) (he : ∀ whole, isTrue e X.env whole = (do let v ← whole; standAt e.pos; holding [v] (truthy v)) := by intro _; rfl) : DT X B0 F M ρ κ e PT :=
  fun σ vs H Q g q => tOfT_of (pt_truth pe_self he) (h σ vs H _ g fun x H1 r1 M1 g1 h1 => by
    obtain ⟨p, xs, rfl, hm, hp⟩ := h1
    have e := g1.ref
    subst e
    refine ⟨!xs.isEmpty, ?_, q _ H1 M1 g1.pop hp⟩
    obtain ⟨B, g1⟩ := g1
    obtain ⟨_, _, o, ho, ws, rfl, hw⟩ := g1.cells _ hm
    exact .inl ⟨ws, SqL.of ho, (isEmpty_rp hw).symm⟩)
theorem de_ifexp (h : DT X B0 F M ρ κ c fun k M1 => (k = true → DE X B0 F M1 ρ κ a P) ∧ (k = false → DE X B0 F M1 ρ κ b P)) : DE X B0 F M ρ κ (.IfExp c a b pos) P :=
  fun σ vs H Q g q => tOf_of (pe_ifExp pt_self pe_self pe_self) (h σ vs H _ g fun k H1 M1 g1 h1 => by
    cases k with
    | true => exact h1.1 rfl σ vs H1 Q g1 q
    | false => exact h1.2 rfl σ vs H1 Q g1 q)

/-! ### arguments, displays -/
variable {es : List Expr} {PA : List Sl → Cs → Prop}
theorem da_nil (h : PA [] M) : DA X B0 F M ρ κ [] PA := fun σ vs H Q g q => tOfA_of pa_nil (q [] H [] M rfl g h)
theorem stk_swap {K : Fg} {F B : Hp} {r : Sl} {v : V} : ∀ {ws : List V} {rs : List Sl} {κ : List Sl} {vs : List V}, ws.length = rs.length → KOk K F B (ws ++ v :: vs) (rs ++ r :: κ) → KOk K F B (v :: (ws ++ vs)) (r :: (rs ++ κ))
  | [], [], _, _, _, h => h
  | w :: ws, x :: rs, κ, vs, hl, h => by
    cases h with
    | cons h1 h2 =>
      have := stk_swap (ws := ws) (rs := rs) (by simpa using hl) h2
      cases this with
      | cons h3 h4 => exact .cons h3 (.cons h1 h4)
theorem da_cons (h : DE X B0 F M ρ κ e fun r M1 => DA X B0 F M1 ρ (r :: κ) es fun rs M2 => PA (r :: rs) M2) (hs : starEach (e :: es) X.env = (false, eval e X.env) :: starEach es X.env := by rfl) : DA X B0 F M ρ κ (e :: es) PA :=
  fun σ vs H Q g q => tOfA_of (pa_cons pe_self pa_self hs) (h σ vs H _ g fun x H1 r1 M1 g1 h1 => h1 σ (x :: vs) H1 _ g1 fun ws H2 rs M2 hl g2 h2 => q (x :: ws) H2 (r1 :: rs) M2 (by simp [hl]) (by
    obtain ⟨B, g2⟩ := g2
    exact ⟨B, g2.stk (stk_swap hl g2.st)⟩) h2)
theorem kok_split {K : Fg} {F B : Hp} : ∀ {ws : List V} {rs : List Sl} {κ : List Sl} {vs : List V}, ws.length = rs.length → KOk K F B (ws ++ vs) (rs ++ κ) → KOk K F B ws rs ∧ KOk K F B vs κ
  | [], [], _, _, _, h => ⟨.nil, h⟩
  | w :: ws, x :: rs, κ, vs, hl, h => by
    cases h with
    | cons h1 h2 =>
      obtain ⟨h3, h4⟩ := kok_split (ws := ws) (rs := rs) (by simpa using hl) h2
      exact ⟨.cons h1 h3, h4⟩
theorem rpa_of {K : Fg} {F B : Hp} : ∀ {ws : List V} {ds : List PyData}, KOk K F B ws (ds.map Sl.d) → RpA K B ws ds
  | _, [], h => by cases h; exact .nil
  | _, d :: ds, h => by
    cases h with
    | cons h1 h2 => exact .cons h1 (rpa_of h2)
/-- (a, b, ..) -/
theorem de_tup {x1} (h : DA X B0 F M ρ κ es fun rs M1 => ∃ ds, rs = ds.map Sl.d ∧ ds.length ≤ 100000 ∧ P (.d (.tuple ds)) M1) : DE X B0 F M ρ κ (.Tuple es x1 pos) P :=
  fun σ vs H Q g q => tOf_of (pe_tup pa_self) (h σ vs H _ g fun ws H1 rs M1 hl g1 h1 => by
    obtain ⟨ds, rfl, hz, p⟩ := h1
    have hl' : ws.length = ds.length := by simpa using hl
    refine ⟨by rw [hl']; exact Nat.le_trans hz (by decide), fun a ha => q _ _ _ M1 ?_ p⟩
    obtain ⟨B, g1⟩ := g1
    obtain ⟨h3, h4⟩ := kok_split hl g1.st
    have g2 := (g1.stk h4).laid (o := .tup ws) ha
    have bp : B a = none := g1.bh.free ha
    exact ⟨_, g2.pushD (Rp.tup (SqT.of upd_same) ((rpa_of h3).ext fun b u z => by rw [upd_ne (ne_of_none z bp)]; exact z))⟩)
/-- [a, b, ..]: a cell -/
theorem de_lstC (h : DA X B0 F M ρ κ es fun rs M1 => ∃ ds, rs = ds.map Sl.d ∧ ds.length ≤ 100000 ∧ ∀ p, P (.v (.ref p)) ((p, .lst ds) :: M1)) : DE X B0 F M ρ κ (.List es pos) P :=
  fun σ vs H Q g q => tOf_of (pe_lst pa_self) (h σ vs H _ g fun ws H1 rs M1 hl g1 h1 => by
    obtain ⟨ds, rfl, hz, p⟩ := h1
    have hl' : ws.length = ds.length := by simpa using hl
    refine ⟨by rw [hl']; exact Nat.le_trans hz (by decide), fun a ha => q _ _ _ _ ?_ (p a)⟩
    obtain ⟨B, g1⟩ := g1
    obtain ⟨h3, h4⟩ := kok_split hl g1.st
    exact ⟨_, ((g1.stk h4).cell (c := .lst ds) ha ⟨ws, rfl, rpa_of h3⟩).pushV⟩)
theorem de_lst (h : DA X B0 F M ρ κ es fun rs M1 => ∃ ds, rs = ds.map Sl.d ∧ ds.length ≤ 100000 ∧ P (.d (.list ds)) M1) : DE X B0 F M ρ κ (.List es pos) P :=
  de_freeze (de_lstC (fun σ vs H Q g q => h σ vs H Q g fun ws H' rs M' hl g' ⟨ds, e, hz, p⟩ => q ws H' rs M' hl g' ⟨ds, e, hz, fun a => ⟨a, ds, M', rfl, rfl, p⟩⟩))
/-- a list of values of any kind (cells among them): a raw cell -/
theorem vs_of {K : Fg} {F B : Hp} : ∀ {ws xs : List V}, KOk K F B ws (xs.map Sl.v) → ws = xs
  | _, [], h => by cases h; rfl
  | _, d :: ds, h => by
    cases h with
    | cons h1 h2 => rw [show _ = d from h1, vs_of h2]

/-! ### calls of built-ins -/
variable {x : Str} {p : Pos} {id T : String} {r : List V → Hp → VK → Prop}
theorem de_callB (hc : CallR X (.builtin id) r) (hm : X.mg x = none) (hv : bootBuiltins x = some (.builtin id)) (h : DA X B0 F M ρ κ (e :: es) fun rs M1 => RnD X.K B0 F ρ κ r rs M1 P) (hg : Gl X x := by rfl) (hn : x ≠ "__name__" := by decide) (hdb : (x == ("__debug__" : Str)) = false := by decide)
    (he : starEach (e :: es) X.env = (false, eval e X.env) :: starEach es X.env := by rfl) (hpl : (backTo pos (starEach es X.env)).any (·.1) = false := by rfl) : DE X B0 F M ρ κ (.Call (.Name x p) (e :: es) [] pos) P :=
  fun σ vs H Q g q => tOf_of (pe_callB hc hg hm hv pa_self hn hdb he hpl) (h σ vs H _ g fun ws H1 rs M1 hl g1 h1 => h1 σ vs H1 ws Q hl g1 q)
theorem de_callTy (hc : CallR X (.type T) r) (hm : X.mg x = none) (hv : bootBuiltins x = some (.type T)) (h : DA X B0 F M ρ κ (e :: es) fun rs M1 => RnD X.K B0 F ρ κ r rs M1 P) (hg : Gl X x := by rfl) (hn : x ≠ "__name__" := by decide) (hdb : (x == ("__debug__" : Str)) = false := by decide)
    (he : starEach (e :: es) X.env = (false, eval e X.env) :: starEach es X.env := by rfl) (hpl : (backTo pos (starEach es X.env)).any (·.1) = false := by rfl) : DE X B0 F M ρ κ (.Call (.Name x p) (e :: es) [] pos) P :=
  fun σ vs H Q g q => tOf_of (pe_callTy hc hg hm hv pa_self hn hdb he hpl) (h σ vs H _ g fun ws H1 rs M1 hl g1 h1 => h1 σ vs H1 ws Q hl g1 q)

/-! ### blocks, statements -/
variable {k : KK} {s : Stmt} {ss : List Stmt}
theorem db_nil (h : k.nx M ρ) : DB X B0 F M ρ κ [] k := fun σ vs H D g c => tOfB_of pss_nil (c.nx σ H M ρ g h)
theorem db_cons (h : DS X B0 F M ρ κ s { k with nx := fun M' ρ' => DB X B0 F M' ρ' κ ss k }) : DB X B0 F M ρ κ (s :: ss) k :=
  fun σ vs H D g c => tOfB_of (pss_cons ps_self pb_self) (h σ vs H { D with nx := tOfB X ss D } g ⟨fun σ' H' M' ρ' g' n => n σ' vs H' D g' c, c.rt, c.bk, c.ct⟩)
theorem ds_pass (h : k.nx M ρ) : DS X B0 F M ρ κ (.Pass pos) k := fun σ vs H D g c => tOfS_of ps_pass (c.nx σ H M ρ g h)
theorem ds_break (h : k.bk M ρ) : DS X B0 F M ρ κ (.Break pos) k := fun σ vs H D g c => tOfS_of ps_break (c.bk σ H M ρ g h)
theorem ds_cont (h : k.ct M ρ) : DS X B0 F M ρ κ (.Continue pos) k := fun σ vs H D g c => tOfS_of ps_continue (c.ct σ H M ρ g h)
theorem ds_expr (h : DE X B0 F M ρ κ e fun _ M1 => k.nx M1 ρ) (hs : swapsWith e none pos.line X.env = pure false := by rfl) : DS X B0 F M ρ κ (.Expr e pos) k :=
  fun σ vs H D g c => tOfS_of (ps_expr pe_self hs) (h σ vs H _ g fun v H1 r M1 g1 n => c.nx σ H1 M1 ρ g1.pop n)
theorem Good.ret {K : Fg} {σ : L2.St} {vs : List V} {H : Hp} {r : Sl} {v : V} (g : Good K B0 F M ρ (r :: κ) σ (v :: vs) H) : Good K B0 F M [] [r] [] [v] H := by
  obtain ⟨B, g⟩ := g
  exact ⟨B, (g.stk (.cons g.fst .nil)).slt .nil⟩
theorem Good.dropM {K : Fg} {σ : L2.St} {vs : List V} {H : Hp} (j : Nat) (g : Good K B0 F M ρ κ σ vs H) : Good K B0 F (M.drop j) ρ κ σ vs H := by
  obtain ⟨B, g⟩ := g
  exact ⟨B, g.b0, g.bh, g.fh, g.new, fun c hc => g.cells c (List.mem_of_mem_drop hc), (by rw [List.map_drop]; exact g.nd.sublist (List.drop_sublist _ _)), g.sl, g.st⟩
theorem ds_ret (h : DE X B0 F M ρ κ e fun r M1 => k.rt r M1) : DS X B0 F M ρ κ (.Return (some e) pos) k :=
  fun σ vs H D g c => tOfS_of (ps_ret pe_self) (h σ vs H _ g fun v H1 r M1 g1 n => c.rt v H1 r M1 g1.ret n)
/-- the first j cells are forgotten -/
theorem ds_retM (j : Nat) (h : DE X B0 F M ρ κ e fun r M1 => k.rt r (M1.drop j)) : DS X B0 F M ρ κ (.Return (some e) pos) k :=
  fun σ vs H D g c => tOfS_of (ps_ret pe_self) (h σ vs H _ g fun v H1 r M1 g1 n => c.rt v H1 r (M1.drop j) (g1.ret.dropM j) n)
theorem ds_set (i : Nat) {x : Str} {pos' : Pos} (h : DE X B0 F M ρ κ e fun r M1 => k.nx M1 (ρ.set i r)) (hN : X.N.Nodup := by exact (by assumption)) (hi : X.N[i]? = some x := by rfl) (hx : Loc X.env.scope x := by first | exact Or.inl rfl | exact Or.inr rfl)
    (hs : swapsWith e (some (.Name x pos')) pos.line X.env = pure false := by rfl) (hf : X.fn x = true ∨ X.env.scope.names.lookup x = some .local := by first | exact .inl rfl | exact .inr rfl) :
    DS X B0 F M ρ κ (.Assign [.Name x pos'] e pos) k :=
  fun σ vs H D g c => tOfS_of (ps_set hN hi hx pe_self hs hf) (h σ vs H _ g fun v H1 r M1 g1 n => c.nx _ H1 M1 _ (by
    obtain ⟨B, g1⟩ := g1
    exact ⟨B, g1.pop.slt (Paired.set (OOk.of g1.fst) i g1.sl)⟩) n)
theorem dg_name (i : Nat) {r : Sl} {x : Str} {P : Cs → List Sl → Prop} (h : P M (ρ.set i r)) (hN : X.N.Nodup := by exact (by assumption)) (hi : X.N[i]? = some x := by rfl) (hx : Loc X.env.scope x := by first | exact Or.inl rfl | exact Or.inr rfl)
    (hf : X.fn x = true ∨ X.env.scope.names.lookup x = some .local := by first | exact .inl rfl | exact .inr rfl) : DG X B0 F M ρ κ r (.Name x pos) P :=
  fun σ vs H v Q g q => tOfG_of (pg_name hN hi hx hf) (q _ H M _ (by
    obtain ⟨B, g1⟩ := g
    exact ⟨B, g1.pop.slt (Paired.set (OOk.of g1.fst) i g1.sl)⟩) h)
theorem dgs_nil {P : Cs → List Sl → Prop} (h : P M ρ) : DGs X B0 F M ρ κ [] [] P := fun σ vs H xs Q hl g q => tOfGs_of pgs_nil (by
  have : xs = [] := List.length_eq_zero_iff.mp hl
  subst this
  exact ⟨rfl, q σ H M ρ g h⟩)
theorem dgs_cons {P : Cs → List Sl → Prop} {r : Sl} {rs : List Sl} {t : Expr} {ts : List Expr} (h : DG X B0 F M ρ (rs ++ κ) r t fun M1 ρ1 => DGs X B0 F M1 ρ1 κ rs ts P) (hs : (assignEach (t :: ts) X.env).map (·.2) = assign t X.env :: (assignEach ts X.env).map (·.2) := by rfl) : DGs X B0 F M ρ κ (r :: rs) (t :: ts) P :=
  fun σ vs H xs Q hl g q => tOfGs_of (pgs_cons pg_self pgs_self hs) (by
    cases xs with
    | nil => cases hl
    | cons x xs =>
      exact ⟨x, xs, rfl, h σ (xs ++ vs) H x _ g fun σ1 H1 M1 ρ1 g1 h1 => h1 σ1 vs H1 xs Q (by simpa using hl) g1 q⟩)
theorem kok_of {K : Fg} {F B : Hp} : ∀ {ws : List V} {ds : List PyData}, RpA K B ws ds → KOk K F B ws (ds.map Sl.d)
  | _, _, .nil => .nil
  | _, _, .cons h t => .cons h (kok_of t)
theorem dg_tup {P : Cs → List Sl → Prop} {ds : List PyData} {ts : List Expr} {j : Nat} {n : Nat} (hn : ds.length = n) (h : DGs X B0 F M ρ κ (ds.map Sl.d) ts P) (hc : X.calm = true := by rfl) (hn' : (assignEach ts X.env).length = n := by rfl) (hst : (assignEach ts X.env).findIdx? (·.1) = none := by rfl) : DG X B0 F M ρ κ (.d (.tuple ds)) (.Tuple ts j pos) P :=
  fun σ vs H v Q g q => tOfG_of (pg_tup (n := n) hc pgs_self hn' hst) (by
    obtain ⟨B, g⟩ := g
    obtain ⟨a, xs, rfl, hq, hr⟩ := Rp.tup_inv g.fst
    refine ⟨a, xs, rfl, same_t g.bh hq, by rw [hr.len, hn], h σ vs H xs Q (by simp [hr.len]) ⟨B, g.pop.stk (Paired.app (kok_of hr) g.pop.st)⟩ q⟩)
theorem ds_asg {tg : Expr} (h : DE X B0 F M ρ κ e fun r M1 => DG X B0 F M1 ρ κ r tg fun M2 ρ2 => k.nx M2 ρ2) (hs : swapsWithSole [tg] e pos.line X.env = pure false := by rfl) (hw : swappedStores [tg] e X.env = pure none := by rfl)
    (h1 : (assignEach [tg] X.env).map (·.2) = [assign tg X.env] := by rfl) : DS X B0 F M ρ κ (.Assign [tg] e pos) k :=
  fun σ vs H D g c => tOfS_of (ps_asg pe_self pg_self hs hw h1) (h σ vs H _ g fun v H1 r M1 g1 n => n σ vs H1 v D.nx g1 fun σ' H' M' ρ' g' n' => c.nx σ' H' M' ρ' g' n')
theorem ds_if {s1 s2 : List Stmt} (h : DT X B0 F M ρ κ c fun b M1 => (b = true → DB X B0 F M1 ρ κ s1 k) ∧ (b = false → DB X B0 F M1 ρ κ s2 k)) : DS X B0 F M ρ κ (.If c s1 s2 pos) k :=
  fun σ vs H D g cn => tOfS_of (ps_if pt_self pb_self pb_self) (h σ vs H _ g fun b H1 M1 g1 n => by
    cases b with
    | true => exact n.1 rfl σ vs H1 D g1 cn
    | false => exact n.2 rfl σ vs H1 D g1 cn)
theorem ds_aug (i : Nat) {x : Str} {op : Operator} {t : R2} {pos' : Pos} {r : Sl} (ho : OpR X (inplaceOp op) t) (hr : ρ[i]? = some r) (hu : r ≠ .un) (h : DE X B0 F M ρ (r :: κ) e fun r2 M1 => R2D X.K B0 F ρ κ t r r2 M1 fun r3 M2 => k.nx M2 (ρ.set i r3)) (hN : X.N.Nodup := by exact (by assumption)) (hi : X.N[i]? = some x := by rfl)
    (hx : Loc X.env.scope x := by first | exact Or.inl rfl | exact Or.inr rfl) (hf : X.fn x = true ∨ X.env.scope.names.lookup x = some .local := by first | exact .inl rfl | exact .inr rfl) : DS X B0 F M ρ κ (.AugAssign (.Name x pos') op e pos) k :=
  fun σ vs H D g c => tOfS_of (ps_aug (ti := t) hN hi hx pe_self (fun pins s σ H x y v u Q I rx ry q => ho pins s σ H x y v u Q I rx ry q) hf) (by
    obtain ⟨B, g0⟩ := g
    obtain ⟨o, ho, hok⟩ := Paired.get? g0.sl hr
    obtain ⟨v, rfl, hv'⟩ := OOk.v hu hok
    refine ⟨v, ho, h σ (v :: vs) H _ ⟨B, g0.push hv'⟩ fun y H1 r2 M1 g1 h1 => h1 σ vs H1 v y _ g1 fun z H2 r3 M2 g2 n => c.nx _ H2 M2 _ (by
      obtain ⟨B, g2⟩ := g2
      exact ⟨B, g2.pop.slt (Paired.set (OOk.of g2.fst) i g2.sl)⟩) n⟩)
end
end DL
set_option maxHeartbeats 2000000
namespace DL
open PySem PySem.Spec PyProof.Rows L2

/-! ### what is walked -/
structure DWalk (K : Fg) (B0 F : Hp) (J : It) (ds : List PyData) (s : Sl) (v : V) (Src : Cs → Prop) : Prop where
  go : ∀ i M ρ κ σ vs H, Src M → Good K B0 F M ρ (s :: κ) σ (v :: vs) H → i < ds.length → J.go i H
  stop : ∀ M ρ κ σ vs H, Src M → Good K B0 F M ρ (s :: κ) σ (v :: vs) H → J.stop ds.length H
  yld : ∀ i M ρ κ σ vs H x H' d, Src M → Good K B0 F M ρ (s :: κ) σ (v :: vs) H → ds[i]? = some d → J.yld i H x H' → Good K B0 F M ρ (.d d :: s :: κ) σ (x :: v :: vs) H'
def DI (X : Cx) (B0 F : Hp) (M : Cs) (ρ κ : List Sl) (tg iter : Expr) (R : List PyData → Sl → (Cs → Prop) → Cs → Prop) : Prop :=
  ∀ σ vs H Q, Good X.K B0 F M ρ κ σ vs H → (∀ J H' M' ds s v Src, Good X.K B0 F M' ρ (s :: κ) σ (v :: vs) H' → DWalk X.K B0 F J ds s v Src → Src M' → R ds s Src M' → Q J H') → tOfI X tg iter σ H Q

section
variable {X : Cx} {B0 F : Hp} {M : Cs} {ρ κ : List Sl} {tg iter e a b : Expr} {pos p : Pos} {R : List PyData → Sl → (Cs → Prop) → Cs → Prop} {k : KK}
theorem walk_seqL {K : Fg} {a : Addr} {xs : List V} {ds : List PyData} {s : Sl} {Src : Cs → Prop} (hq : ∀ M ρ κ σ vs H, Src M → Good K B0 F M ρ (s :: κ) σ (.ref a :: vs) H → SqL K H a xs ∧ ∃ B, GoodB K B0 F M ρ (s :: κ) σ (.ref a :: vs) H B ∧ RpA K B xs ds) (hl : xs.length = ds.length) :
    DWalk K B0 F (Itl K a) ds s (.ref a) Src where
  go := fun i M ρ κ σ vs H h g hi => ⟨xs, xs[i]'(by omega), (hq M ρ κ σ vs H h g).1, by simp [show i < xs.length by omega]⟩
  stop := fun M ρ κ σ vs H h g => ⟨xs, (hq M ρ κ σ vs H h g).1, by omega⟩
  yld := fun i M ρ κ σ vs H x H' d h g hd y => by
    obtain ⟨rfl, y⟩ := y
    obtain ⟨h1, B, g', hr⟩ := hq M ρ κ σ vs _ h g
    obtain ⟨v, hv, hvd⟩ := hr.get hd
    have e : x = v := Option.some.inj ((y xs h1).symm.trans hv)
    subst e
    exact ⟨B, g'.pushD hvd⟩
theorem walk_seqT {K : Fg} {a : Addr} {xs : List V} {ds : List PyData} {s : Sl} {Src : Cs → Prop} (hq : ∀ M ρ κ σ vs H, Src M → Good K B0 F M ρ (s :: κ) σ (.ref a :: vs) H → SqT K H a xs ∧ ∃ B, GoodB K B0 F M ρ (s :: κ) σ (.ref a :: vs) H B ∧ RpA K B xs ds) (hl : xs.length = ds.length) :
    DWalk K B0 F (Itt K a) ds s (.ref a) Src where
  go := fun i M ρ κ σ vs H h g hi => ⟨xs, xs[i]'(by omega), (hq M ρ κ σ vs H h g).1, by simp [show i < xs.length by omega]⟩
  stop := fun M ρ κ σ vs H h g => ⟨xs, (hq M ρ κ σ vs H h g).1, by omega⟩
  yld := fun i M ρ κ σ vs H x H' d h g hd y => by
    obtain ⟨rfl, y⟩ := y
    obtain ⟨h1, B, g', hr⟩ := hq M ρ κ σ vs _ h g
    obtain ⟨v, hv, hvd⟩ := hr.get hd
    have e : x = v := Option.some.inj ((y xs h1).symm.trans hv)
    subst e
    exact ⟨B, g'.pushD hvd⟩
end
/-- a value known by its slot through all states: the walk's own facts are told of every later state -/
theorem rpa_inj {K : Fg} {H : Hp} : ∀ {vs : List V} {ds es : List PyData}, RpA K H vs ds → RpA K H vs es → True := fun _ _ => trivial
section
variable {X : Cx} {B0 F : Hp} {M : Cs} {ρ κ : List Sl} {tg iter e a b : Expr} {pos p : Pos} {R : List PyData → Sl → (Cs → Prop) → Cs → Prop} {k : KK}
/-- over a list that is data: the list at a is the same in every state, as B holds it from the start on -/
theorem di_list (h : DE X B0 F M ρ κ iter fun r M1 => ∃ ds, r = .d (.list ds) ∧ R ds r (fun _ => True) M1) : DI X B0 F M ρ κ tg iter R := fun σ vs H Q g q => by
  refine tOfI_of (pi_list pe_self) (h σ vs H _ g fun v H1 r M1 g1 hr => ?_)
  obtain ⟨ds, rfl, hr⟩ := hr
  obtain ⟨B, g1b⟩ := id g1
  obtain ⟨a, xs, rfl, ha, hx⟩ := Rp.lst_inv g1b.fst
  refine ⟨a, rfl, ⟨xs, SqL.of (g1b.bh _ _ ha)⟩, q (Itl X.K a) H1 M1 ds _ (.ref a) (fun _ => True) g1 ⟨?_, ?_, ?_⟩ trivial hr⟩
  · intro i M ρ κ σ vs H _ g hi
    obtain ⟨B, g⟩ := g
    obtain ⟨a', ys, e, ha', hy⟩ := Rp.lst_inv g.fst
    cases e
    have hl := hy.len
    exact ⟨ys, ys[i]'(by omega), SqL.of (g.bh _ _ ha'), by simp [show i < ys.length by omega]⟩
  · intro M ρ κ σ vs H _ g
    obtain ⟨B, g⟩ := g
    obtain ⟨a', ys, e, ha', hy⟩ := Rp.lst_inv g.fst
    cases e
    have hl := hy.len
    exact ⟨ys, SqL.of (g.bh _ _ ha'), by omega⟩
  · intro i M ρ κ σ vs H x H' d _ g hd y
    obtain ⟨rfl, y⟩ := y
    obtain ⟨B, g⟩ := g
    obtain ⟨a', ys, e, ha', hy⟩ := Rp.lst_inv g.fst
    cases e
    obtain ⟨v, hv, hvd⟩ := hy.get hd
    have e : x = v := Option.some.inj ((y ys (SqL.of (g.bh _ _ ha'))).symm.trans hv)
    subst e
    exact ⟨B, g.pushD hvd⟩
/-- over a list that is handed in, frozen -/
theorem di_rd (h : DE X B0 F M ρ κ iter fun r M1 => ∃ ds, r = .rd ds ∧ R ds r (fun _ => True) M1) : DI X B0 F M ρ κ tg iter R := fun σ vs H Q g q => by
  refine tOfI_of (pi_list pe_self) (h σ vs H _ g fun v H1 r M1 g1 hr => ?_)
  obtain ⟨ds, rfl, hr⟩ := hr
  obtain ⟨B, g1b⟩ := id g1
  obtain ⟨a, xs, rfl, ha, hx⟩ : ∃ a xs, v = .ref a ∧ SqL X.K F a xs ∧ RpA X.K B xs ds := g1b.fst
  refine ⟨a, rfl, ⟨xs, g1b.fh.seq ha⟩, q (Itl X.K a) H1 M1 ds _ (.ref a) (fun _ => True) g1 ⟨?_, ?_, ?_⟩ trivial hr⟩
  · intro i M ρ κ σ vs H _ g hi
    obtain ⟨B, g⟩ := g
    obtain ⟨a', ys, e, ha', hy⟩ : ∃ a' ys, V.ref a = .ref a' ∧ SqL X.K F a' ys ∧ RpA X.K B ys ds := g.fst
    cases e
    have hl := hy.len
    exact ⟨ys, ys[i]'(by omega), g.fh.seq ha', by simp [show i < ys.length by omega]⟩
  · intro M ρ κ σ vs H _ g
    obtain ⟨B, g⟩ := g
    obtain ⟨a', ys, e, ha', hy⟩ : ∃ a' ys, V.ref a = .ref a' ∧ SqL X.K F a' ys ∧ RpA X.K B ys ds := g.fst
    cases e
    have hl := hy.len
    exact ⟨ys, g.fh.seq ha', by omega⟩
  · intro i M ρ κ σ vs H x H' d _ g hd y
    obtain ⟨rfl, y⟩ := y
    obtain ⟨B, g⟩ := g
    obtain ⟨a', ys, e, ha', hy⟩ : ∃ a' ys, V.ref a = .ref a' ∧ SqL X.K F a' ys ∧ RpA X.K B ys ds := g.fst
    cases e
    obtain ⟨v, hv, hvd⟩ := hy.get hd
    have e : x = v := Option.some.inj ((y ys (g.fh.seq ha')).symm.trans hv)
    subst e
    exact ⟨B, g.pushD hvd⟩
/-- over a cell's list, which the loop leaves as it is -/
theorem di_cell (h : DE X B0 F M ρ κ iter fun r M1 => ∃ a ds, r = .v (.ref a) ∧ (a, .lst ds) ∈ M1 ∧ R ds r (fun M => (a, .lst ds) ∈ M) M1) : DI X B0 F M ρ κ tg iter R := fun σ vs H Q g q => by
  refine tOfI_of (pi_list pe_self) (h σ vs H _ g fun v H1 r M1 g1 hr => ?_)
  obtain ⟨a, ds, rfl, hm, hr⟩ := hr
  obtain ⟨B, g1b⟩ := id g1
  have e := g1.ref
  subst e
  obtain ⟨_, _, o, ho, xs, rfl, hx⟩ := g1b.cells _ hm
  refine ⟨a, rfl, ⟨xs, SqL.of ho⟩, q (Itl X.K a) H1 M1 ds _ (.ref a) (fun M => (a, .lst ds) ∈ M) g1 ⟨?_, ?_, ?_⟩ hm hr⟩
  · intro i M ρ κ σ vs H hm g hi
    obtain ⟨B, g⟩ := g
    obtain ⟨_, _, o, ho, ys, rfl, hy⟩ := g.cells _ hm
    have hl := hy.len
    exact ⟨ys, ys[i]'(by omega), SqL.of ho, by simp [show i < ys.length by omega]⟩
  · intro M ρ κ σ vs H hm g
    obtain ⟨B, g⟩ := g
    obtain ⟨_, _, o, ho, ys, rfl, hy⟩ := g.cells _ hm
    have hl := hy.len
    exact ⟨ys, SqL.of ho, by omega⟩
  · intro i M ρ κ σ vs H x H' d hm g hd y
    obtain ⟨rfl, y⟩ := y
    obtain ⟨B, g⟩ := g
    obtain ⟨_, _, o, ho, ys, rfl, hy⟩ := g.cells _ hm
    obtain ⟨v, hv, hvd⟩ := hy.get hd
    have e : x = v := Option.some.inj ((y ys (SqL.of ho)).symm.trans hv)
    subst e
    exact ⟨B, g.pushD hvd⟩
theorem di_tup (h : DE X B0 F M ρ κ iter fun r M1 => ∃ ds, r = .d (.tuple ds) ∧ R ds r (fun _ => True) M1) : DI X B0 F M ρ κ tg iter R := fun σ vs H Q g q => by
  refine tOfI_of (pi_tup pe_self) (h σ vs H _ g fun v H1 r M1 g1 hr => ?_)
  obtain ⟨ds, rfl, hr⟩ := hr
  obtain ⟨B, g1b⟩ := id g1
  obtain ⟨a, xs, rfl, ha, hx⟩ := Rp.tup_inv g1b.fst
  refine ⟨a, rfl, ⟨xs, same_t g1b.bh ha⟩, q (Itt X.K a) H1 M1 ds _ (.ref a) (fun _ => True) g1 ⟨?_, ?_, ?_⟩ trivial hr⟩
  · intro i M ρ κ σ vs H _ g hi
    obtain ⟨B, g⟩ := g
    obtain ⟨a', ys, e, ha', hy⟩ := Rp.tup_inv g.fst
    cases e
    have hl := hy.len
    exact ⟨ys, ys[i]'(by omega), same_t g.bh ha', by simp [show i < ys.length by omega]⟩
  · intro M ρ κ σ vs H _ g
    obtain ⟨B, g⟩ := g
    obtain ⟨a', ys, e, ha', hy⟩ := Rp.tup_inv g.fst
    cases e
    have hl := hy.len
    exact ⟨ys, same_t g.bh ha', by omega⟩
  · intro i M ρ κ σ vs H x H' d _ g hd y
    obtain ⟨rfl, y⟩ := y
    obtain ⟨B, g⟩ := g
    obtain ⟨a', ys, e, ha', hy⟩ := Rp.tup_inv g.fst
    cases e
    obtain ⟨v, hv, hvd⟩ := hy.get hd
    have e : x = v := Option.some.inj ((y ys (same_t g.bh ha')).symm.trans hv)
    subst e
    exact ⟨B, g.pushD hvd⟩
/-- lo, lo + 1, .. -/
def rngD (lo : Int) (n : Nat) : List PyData := (List.range n).map fun i => .int (lo + (i : Nat))
theorem rngD_len (lo : Int) (n : Nat) : (rngD lo n).length = n := by simp [rngD]
theorem rngD_get {lo : Int} {n i : Nat} {d : PyData} (h : (rngD lo n)[i]? = some d) : i < n ∧ d = .int (lo + (i : Nat)) := by
  have hi : i < n := by
    have := (List.getElem?_eq_some_iff.mp h).1
    rwa [rngD_len] at this
  refine ⟨hi, ?_⟩
  unfold rngD at h
  rw [List.getElem?_map, List.getElem?_range hi] at h
  exact (Option.some.inj h).symm
theorem walk_rng {K : Fg} {lo : Int} {n : Nat} {v : V} : DWalk K B0 F (Itr lo n) (rngD lo n) .un v (fun _ => True) where
  go := fun i M ρ κ σ vs H _ g hi => by rw [rngD_len] at hi; exact hi
  stop := fun M ρ κ σ vs H _ g => by rw [rngD_len]; exact Nat.le_refl _
  yld := fun i M ρ κ σ vs H x H' d _ g hd y => by
    obtain ⟨rfl, rfl⟩ := y
    obtain ⟨hi, rfl⟩ := rngD_get hd
    exact g.pushD fun _ _ => Rp.int _
theorem di_range1 (hm : X.mg "range" = none) (h : DA X B0 F M ρ κ [a] fun rs M1 => ∃ j : Int, rs = [.d (.int j)] ∧ -(2 ^ 62) ≤ j ∧ j < 2 ^ 62 ∧ R (rngD 0 j.toNat) .un (fun _ => True) M1) (hg : Gl X "range" := by rfl) (hs : starEach [a] X.env = [(false, eval a X.env)] := by rfl) : DI X B0 F M ρ κ tg (.Call (.Name "range" p) [a] [] pos) R := fun σ vs H Q g q => by
  refine tOfI_of (pi_range1 hg hm pa_self hs) (h σ vs H _ g fun ws H1 rs M1 hl g1 h1 => ?_)
  obtain ⟨j, rfl, h2, h3, hr⟩ := h1
  match ws, hl, g1 with
  | [w], _, g1 =>
    have e := g1.int
    subst e
    exact ⟨j, rfl, h2, h3, q _ H1 M1 _ .un .non _ (g1.pop.push fun _ _ => trivial) walk_rng trivial hr⟩
theorem di_range2 (hm : X.mg "range" = none) (h : DA X B0 F M ρ κ [a, b] fun rs M1 => ∃ i j : Int, rs = [.d (.int i), .d (.int j)] ∧ (-(2 ^ 62) ≤ i ∧ i < 2 ^ 62 ∧ -(2 ^ 62) ≤ j ∧ j < 2 ^ 62) ∧ R (rngD i (j - i).toNat) .un (fun _ => True) M1) (hg : Gl X "range" := by rfl)
    (hs : starEach [a, b] X.env = [(false, eval a X.env), (false, eval b X.env)] := by rfl) (hs2 : starEach [b] X.env = [(false, eval b X.env)] := by rfl) : DI X B0 F M ρ κ tg (.Call (.Name "range" p) [a, b] [] pos) R := fun σ vs H Q g q => by
  refine tOfI_of (pi_range2 hg hm pa_self hs hs2) (h σ vs H _ g fun ws H1 rs M1 hl g1 h1 => ?_)
  obtain ⟨i, j, rfl, h2, hr⟩ := h1
  match ws, hl, g1 with
  | [w, w'], _, g1 =>
    have g2 : Good X.K B0 F M1 ρ (.d (.int j) :: κ) σ (w' :: vs) H1 := g1.pop
    have e := g1.int
    subst e
    have e := g2.int
    subst e
    exact ⟨i, j, rfl, h2, q _ H1 M1 _ .un .non _ (g2.pop.push fun _ _ => trivial) walk_rng trivial hr⟩

/-! ### loops -/
variable {body : List Stmt}
theorem ds_for (h : DI X B0 F M ρ κ tg iter fun ds s Src M1 => ∃ Iv : Nat → Cs → List Sl → Prop, Iv 0 M1 ρ ∧ (∀ i M ρ', Iv i M ρ' → Src M) ∧
      (∀ i d M ρ', ds[i]? = some d → Iv i M ρ' → DG X B0 F M ρ' (s :: κ) (.d d) tg fun M2 ρ2 => DB X B0 F M2 ρ2 (s :: κ) body { nx := Iv (i + 1), ct := Iv (i + 1), bk := k.nx, rt := k.rt }) ∧ (∀ M ρ', Iv ds.length M ρ' → k.nx M ρ'))
    (hp : PassesOwn (model X.prog X.w) X.A X.env X.xe := by exact PassesOwn.never) (hc : X.calm = true := by rfl) (hs : ∀ x, foldedSetIterable iter X.env x = pure x := by intro _; rfl) : DS X B0 F M ρ κ (.For tg iter body [] pos) k :=
  fun σ vs H D g c => tOfS_of (ps_for hp hc pi_self pg_self pb_self hs) (h σ vs H _ g fun J H1 M1 ds s v Src g1 dw hsrc hr => by
    obtain ⟨Iv, h0, hsr, hst, hd⟩ := hr
    refine ⟨fun i m σ' H' => m = ds.length - i ∧ i ≤ ds.length ∧ ∃ M' ρ', Good X.K B0 F M' ρ' (s :: κ) σ' (v :: vs) H' ∧ Iv i M' ρ', ⟨ds.length, by simp, Nat.zero_le _, M1, ρ, g1, h0⟩, ?_⟩
    rintro i m σ' H' ⟨rfl, hi, M', ρ', g', hI⟩
    by_cases hlt : i < ds.length
    · obtain ⟨d, hdd⟩ : ∃ d, ds[i]? = some d := ⟨ds[i], by simp [hlt]⟩
      refine .inr ⟨dw.go i M' ρ' κ σ' vs H' (hsr i M' ρ' hI) g' hlt, fun σ2 H2 => ∃ M2 ρ2, Good X.K B0 F M2 ρ2 (s :: κ) σ2 (v :: vs) H2 ∧ Iv (i + 1) M2 ρ2, fun σ2 H2 ⟨M2, ρ2, g2, h2⟩ => ⟨ds.length - (i + 1), by omega, rfl, hlt, M2, ρ2, g2, h2⟩, fun x H2 y => ?_⟩
      have g2 := dw.yld i M' ρ' κ σ' vs H' x H2 d (hsr i M' ρ' hI) g' hdd y
      refine hst i d M' ρ' hdd hI σ' (v :: vs) H2 x _ g2 fun σ3 H3 M3 ρ3 g3 h3 => h3 σ3 (v :: vs) H3 _ g3 ⟨fun σ4 H4 M4 ρ4 g4 h4 => ⟨M4, ρ4, g4, h4⟩, c.rt, fun σ4 H4 M4 ρ4 g4 h4 => ?_, fun σ4 H4 M4 ρ4 g4 h4 => ⟨M4, ρ4, g4, h4⟩⟩
      exact c.nx σ4 H4 M4 ρ4 g4.pop h4
    · have e : i = ds.length := by omega
      subst e
      exact .inl ⟨dw.stop M' ρ' κ σ' vs H' (hsr _ M' ρ' hI) g', c.nx σ' H' M' ρ' g'.pop (hd M' ρ' hI)⟩)
theorem ds_while {c : Expr} (Iv : Nat → Cs → List Sl → Prop) (m0 : Nat) (h0 : Iv m0 M ρ) (h : ∀ m M ρ', Iv m M ρ' → DT X B0 F M ρ' κ c fun b M1 =>
      (b = true → DB X B0 F M1 ρ' κ body { nx := fun M ρ => ∃ m', m' < m ∧ Iv m' M ρ, ct := fun M ρ => ∃ m', m' < m ∧ Iv m' M ρ, bk := k.nx, rt := k.rt }) ∧ (b = false → k.nx M1 ρ'))
    (hp : PassesOwn (model X.prog X.w) X.A X.env X.xe := by exact PassesOwn.never) : DS X B0 F M ρ κ (.While c body [] pos) k :=
  fun σ vs H D g cn => tOfS_of (ps_while hp pt_self pb_self) ⟨fun m σ' H' => ∃ M' ρ', Good X.K B0 F M' ρ' κ σ' vs H' ∧ Iv m M' ρ', ⟨m0, M, ρ, g, h0⟩, fun m σ' H' ⟨M', ρ', g', hI⟩ => h m M' ρ' hI σ' vs H' _ g' fun b H1 M1 g1 h1 => by
    cases b with
    | true =>
      refine ⟨fun σ2 H2 => ∃ M2 ρ2, Good X.K B0 F M2 ρ2 κ σ2 vs H2 ∧ ∃ m', m' < m ∧ Iv m' M2 ρ2, fun σ2 H2 ⟨M2, ρ2, g2, m', hm, h2⟩ => ⟨m', hm, M2, ρ2, g2, h2⟩, ?_⟩
      exact h1.1 rfl σ' vs H1 _ g1 ⟨fun σ4 H4 M4 ρ4 g4 h4 => ⟨M4, ρ4, g4, h4⟩, cn.rt, cn.nx, fun σ4 H4 M4 ρ4 g4 h4 => ⟨M4, ρ4, g4, h4⟩⟩
    | false => exact cn.nx σ' H1 M1 ρ' g1 (h1.2 rfl)⟩
/-- slots may be forgotten -/
theorem Good.weak {K : Fg} {ρ' : List Sl} {σ : L2.St} {vs : List V} {H : Hp} (g : Good K B0 F M ρ κ σ vs H) (w : Paired (fun s s' => s' = s ∨ s' = Sl.un) ρ ρ') : Good K B0 F M ρ' κ σ vs H := by
  obtain ⟨B, g⟩ := g
  refine ⟨B, g.slt ?_⟩
  have : ∀ {σ : List (Option V)} {ρ ρ' : List Sl}, SOk K F B σ ρ → Paired (fun s s' => s' = s ∨ s' = Sl.un) ρ ρ' → SOk K F B σ ρ' := by
    intro σ ρ ρ' h
    induction h generalizing ρ' with
    | nil => intro w; cases w; exact .nil
    | cons h t ih =>
      intro w
      cases w with
      | cons w1 w2 =>
        refine .cons ?_ (ih w2)
        rcases w1 with e | e
        · rw [e]; exact h
        · rw [e]; trivial
  exact this g.sl w
end

/-! ### comprehensions -/
structure BA where
  st : Shared
  H : Hp
  C : Addr
  cl : List (Str × Addr)
  fp : List Addr
abbrev bk (X : Cx) (scope : Scope) (b : BA) : Cx := X.blk b.st b.H scope (compEnvC scope b.cl b.C X.env) b.fp
def wipeS (ρ : List Sl) : List Nat → List Sl
  | [] => ρ
  | v :: vs => (wipeS ρ vs).set v .un
/-! ### what becomes of a comprehension's value: it is used, or it is stored on its own line -/
abbrev Use := Option (Nat × Str × Pos × Pos)
section
variable (X : Cx)
def tSet (i : Nat) (y : Str) (py spos : Pos) (e : Expr) : TE := fun σ H Q => ∀ D : Ends, Q = (fun x H1 => gName i x σ H1 D.nx) → tOfS X (.Assign [.Name y py] e spos) D σ H
def tUse : Use → Expr → TE
  | none, e => tOf X e
  | some (i, y, py, spos), e => tSet X i y py spos e
def UseOk : Use → Expr → Prop
  | none, _ => True
  | some (i, y, py, spos), e => X.N[i]? = some y ∧ X.env.scope.names.lookup y = some .local ∧ swapsWith e (some (.Name y py)) spos.line X.env = pure true
def DEu (B0 F : Hp) (M : Cs) (ρ κ : List Sl) (u : Use) (e : Expr) (P : Sl → Cs → Prop) : Prop := ∀ σ vs H Q, Good X.K B0 F M ρ κ σ vs H → (∀ v H' r M', Good X.K B0 F M' ρ (r :: κ) σ (v :: vs) H' → P r M' → Q v H') → tUse X u e σ H Q
end
section
variable {X : Cx} {B0 F : Hp} {M : Cs} {ρ κ : List Sl} {e : Expr} {P : Sl → Cs → Prop} {k : KK}
theorem ds_cmp (i : Nat) {y : Str} {py spos : Pos} (h : DEu X B0 F M ρ κ (some (i, y, py, spos)) e fun r M1 => k.nx M1 (ρ.set i r)) : DS X B0 F M ρ κ (.Assign [.Name y py] e spos) k := fun σ vs H D g c =>
  h σ vs H _ g (fun v H1 r M1 g1 n => c.nx (σ.set i (some v)) H1 M1 _ (by
    obtain ⟨B, g1⟩ := g1
    exact ⟨B, g1.pop.slt (Paired.set (OOk.of g1.fst) i g1.sl)⟩) n) D rfl
theorem use_lc {u : Use} {σ : L2.St} {H : Hp} {Q : VK} {elt tg iter : Expr} {ifs : List Expr} {scope : Scope} {own : List (Str × Nat)} {pos : Pos} {wi : TI} {g : TG} {tt : TT} {te : TE} (hc : X.calm = true) (hN : X.N.Nodup) (hi : PI X tg iter wi) (ok : BlkOk X.N X.env.scope scope own)
    (hg : ∀ (s : Shared) (H : Hp) (C : Addr) (cl : List (Str × Addr)) (fp : List Addr), PG (X.blk s H scope (compEnvC scope cl C X.env) fp) tg g) (ht : ∀ (s : Shared) (H : Hp) (C : Addr) (cl : List (Str × Addr)) (fp : List Addr), PTs (X.blk s H scope (compEnvC scope cl C X.env) fp) ifs tt)
    (he : ∀ (s : Shared) (H : Hp) (C : Addr) (cl : List (Str × Addr)) (fp : List Addr), PE (X.blk s H scope (compEnvC scope cl C X.env) fp) elt te) (hs : ∀ x, foldedSetIterable iter X.env x = pure x)
    (hu : UseOk X u (.ListComp elt [⟨tg, iter, ifs, 0⟩] scope pos)) (h : tLc wi g tt te (own.map (·.2)) σ H Q) : tUse X u (.ListComp elt [⟨tg, iter, ifs, 0⟩] scope pos) σ H Q := by
  cases u with
  | none => exact tOf_of (pe_lc hc hN hi ok hg ht he hs) h
  | some q =>
    obtain ⟨i, y, py, spos⟩ := q
    obtain ⟨h1, h2, h3⟩ := hu
    intro D e
    subst e
    exact tOfS_of (ps_setLc hc hN h1 h2 h3 hi ok hg ht he hs) h
end
section
variable {X : Cx} {B0 F : Hp} {M : Cs} {ρ κ : List Sl} {K : Fg}
theorem sok_wipe {F B : Hp} {σ : L2.St} {ρ : List Sl} (h : SOk K F B σ ρ) : ∀ vs : List Nat, SOk K F B (wipe σ vs) (wipeS ρ vs)
  | [] => h
  | v :: vs => Paired.set (show OOk K F B none .un from trivial) v (sok_wipe h vs)
/-- the slots' values as a part of the stack -/
def valsOf (σ : L2.St) : List V := σ.map fun o => o.getD .non
def Shape (σ : L2.St) (ρ : List Sl) : Prop := Paired (fun (o : Option V) (s : Sl) => s = .un ∨ ∃ x, o = some x) σ ρ
theorem shape_of {F B : Hp} {σ : L2.St} {ρ : List Sl} (h : SOk K F B σ ρ) : Shape σ ρ := Paired.mapP h fun o s z => by
  by_cases e : s = .un
  · exact .inl e
  · obtain ⟨x, e, _⟩ := OOk.v e z; exact .inr ⟨x, e⟩
theorem kok_slots {F B : Hp} : ∀ {σ : L2.St} {ρ : List Sl}, SOk K F B σ ρ → KOk K F B (valsOf σ) ρ
  | _, _, .nil => .nil
  | o :: σ, s :: ρ, .cons h t => by
    refine .cons ?_ (kok_slots t)
    by_cases e : s = .un
    · subst e; trivial
    · obtain ⟨x, rfl, hx⟩ := OOk.v e h; exact hx
theorem sok_back {F B : Hp} : ∀ {σ : L2.St} {ρ : List Sl}, Shape σ ρ → KOk K F B (valsOf σ) ρ → SOk K F B σ ρ
  | _, _, .nil, _ => .nil
  | o :: σ, s :: ρ, .cons h t, k => by
    cases k with
    | cons k1 k2 =>
      refine .cons ?_ (sok_back t k2)
      rcases h with e | ⟨x, rfl⟩
      · subst e; trivial
      · exact OOk.of k1
theorem kok_split2 {F B : Hp} : ∀ {ws : List V} {rs : List Sl} {κ : List Sl} {vs : List V}, ws.length = rs.length → KOk K F B (ws ++ vs) (rs ++ κ) → KOk K F B ws rs ∧ KOk K F B vs κ := kok_split
theorem wipe_set {σ : L2.St} {o : Option V} {i : Nat} : ∀ {vs : List Nat}, i ∈ vs → wipe (σ.set i o) vs = wipe σ vs
  | [], h => by cases h
  | v :: vs, h => by
    unfold wipe
    by_cases e : i = v
    · subst e
      have : ∀ vs : List Nat, (wipe (σ.set i o) vs).set i none = (wipe σ vs).set i none := by
        intro vs
        induction vs with
        | nil => unfold wipe; rw [List.set_set]
        | cons v vs ih =>
          unfold wipe
          by_cases e : v = i
          · subst e; rw [List.set_set, List.set_set]; exact ih
          · rw [List.set_comm _ _ e, List.set_comm _ _ e, ih]
      exact this vs
    · have h' : i ∈ vs := by
        rcases List.mem_cons.mp h with h | h
        · exact absurd h e
        · exact h
      rw [wipe_set h']
/-- a turn's end: the element is appended -/
theorem lc_push {D : Addr} {acc : List PyData} {y' : PyData} {M' : Cs} {ρ' κ' : List Sl} {σ : L2.St} {y : V} {vs : List V} {H : Hp} (g : Good K B0 F ((D, .lst acc) :: M') ρ' (.d y' :: κ') σ (y :: vs) H) (hl : acc.length < 100000) {Q : Hp → Prop}
    (q : ∀ H', Good K B0 F ((D, .lst (acc ++ [y'])) :: M') ρ' κ' σ vs H' → Q H') : ∃ ac, H D = some (.lst ac) ∧ ac.length < sizeLine ∧ Q (upd H D (.lst (ac ++ [y]))) := by
  obtain ⟨B, g⟩ := g
  obtain ⟨_, _, o, ho, ws, rfl, hw⟩ := g.cells _ List.mem_cons_self
  have hl2 := hw.len
  have hz : (100000 : Nat) ≤ sizeLine := by decide
  refine ⟨ws, ho, by omega, q _ ⟨B, ?_⟩⟩
  exact (g.pop).write (j := 0) (c := .lst acc) (c' := .lst (acc ++ [y'])) rfl ⟨_, rfl, hw.app (.cons g.fst .nil)⟩
/-- a comprehension: g the target's reading (names alone), tt the tests', own its own names with their places -/
theorem lc_mainU {u : Use} {elt tg iter : Expr} {ifs : List Expr} {scope : Scope} {own : List (Str × Nat)} {pos : Pos} {g : TG} {tt : TT} {P : Sl → Cs → Prop} (hc : X.calm = true) (hN : X.N.Nodup) (ok : BlkOk X.N X.env.scope scope own)
    (hg : ∀ b : BA, PG (bk X scope b) tg g) (ht : ∀ b : BA, PTs (bk X scope b) ifs tt) (hs : ∀ x, foldedSetIterable iter X.env x = pure x)
    (h : DI X B0 F M ρ κ tg iter fun ds s Src M1 => ∀ D, ∃ Iv : Nat → List PyData → Cs → Prop, Iv 0 [] M1 ∧ (∀ i acc M, Iv i acc M → Src ((D, .lst acc) :: M)) ∧
      (∀ i d acc M σ vs H x (Q : Hp → Prop), ds[i]? = some d → Iv i acc M → Good X.K B0 F ((D, .lst acc) :: M) (wipeS ρ (own.map (·.2))) (.d d :: s :: (ρ ++ κ)) σ (x :: vs) H →
        (∀ acc' M' ρ' σ' H', Good X.K B0 F ((D, .lst acc') :: M') ρ' (s :: (ρ ++ κ)) σ' vs H' → Iv (i + 1) acc' M' → Q H') →
        g x σ H fun σ2 H2 => wipe σ2 (own.map (·.2)) = wipe σ (own.map (·.2)) ∧ tt σ2 H2 fun b H3 =>
          if b = true then (∀ b : BA, tOf (bk X scope b) elt σ2 H3 fun y H4 => ∃ ac, H4 D = some (.lst ac) ∧ ac.length < sizeLine ∧ Q (upd H4 D (.lst (ac ++ [y])))) else Q H3) ∧
      ∀ acc M, Iv ds.length acc M → P (.v (.ref D)) ((D, .lst acc) :: M))  (hu : UseOk X u (.ListComp elt [⟨tg, iter, ifs, 0⟩] scope pos)) : DEu X B0 F M ρ κ u (.ListComp elt [⟨tg, iter, ifs, 0⟩] scope pos) P := fun σ vs H Q g0 q => by
  refine use_lc (te := fun σ H Q => ∀ b : BA, tOf (bk X scope b) elt σ H Q) hc hN pi_self ok (fun s H C cl fp => hg ⟨s, H, C, cl, fp⟩) (fun s H C cl fp => ht ⟨s, H, C, cl, fp⟩)
    (fun s H C cl fp => ⟨fun pins s' σ' H' Q' I z => z ⟨s, H, C, cl, fp⟩ pins s' I⟩) hs hu ?_
  have hsh : Shape σ ρ := by obtain ⟨B, g0⟩ := g0; exact shape_of g0.sl
  refine h σ vs H _ g0 fun J H1 M1 ds s v Src g1 dw hsrc hr D hD => ?_
  obtain ⟨Iv, h0, hsr, hst, hd⟩ := hr D
  -- all outer slots on the stack as well
  have up : ∀ {M' H'}, Good X.K B0 F M' ρ (s :: κ) σ (v :: vs) H' → Good X.K B0 F M' ρ (s :: (ρ ++ κ)) σ (v :: (valsOf σ ++ vs)) H' := fun {M' H'} ⟨B, g⟩ => by
    refine ⟨B, g.stk ?_⟩
    cases g.st with
    | cons k1 k2 => exact .cons k1 (Paired.app (kok_slots g.sl) k2)
  have hlen : (valsOf σ).length = ρ.length := by
    have := Paired.length hsh
    simp [valsOf, this]
  have down : ∀ {M' H' ρ' σ'}, Good X.K B0 F M' ρ' (s :: (ρ ++ κ)) σ' (v :: (valsOf σ ++ vs)) H' → Good X.K B0 F M' ρ (s :: κ) σ (v :: vs) H' := fun {M' H' ρ' σ'} ⟨B, g⟩ => by
    cases g.st with
    | cons k1 k2 =>
      obtain ⟨k3, k4⟩ := kok_split hlen k2
      exact ⟨B, (g.slt (sok_back hsh k3)).stk (.cons k1 k4)⟩
  refine ⟨fun i m H' => m = ds.length - i ∧ i ≤ ds.length ∧ ∃ acc M', Good X.K B0 F ((D, .lst acc) :: M') ρ (s :: κ) σ (v :: vs) H' ∧ Iv i acc M', ⟨ds.length, by simp, Nat.zero_le _, [], M1, ?_, h0⟩, ?_⟩
  · obtain ⟨B, g1⟩ := g1
    exact ⟨B, g1.cell (c := .lst []) hD ⟨[], rfl, .nil⟩⟩
  rintro i m H' ⟨rfl, hi, acc, M', g', hI⟩
  by_cases hlt : i < ds.length
  · obtain ⟨d, hdd⟩ : ∃ d, ds[i]? = some d := ⟨ds[i], by simp [hlt]⟩
    refine .inr ⟨dw.go i _ ρ κ σ vs H' (hsr i acc M' hI) g' hlt, fun H2 => ∃ acc2 M2, Good X.K B0 F ((D, .lst acc2) :: M2) ρ (s :: κ) σ (v :: vs) H2 ∧ Iv (i + 1) acc2 M2, fun H2 ⟨acc2, M2, g2, h2⟩ => ⟨ds.length - (i + 1), by omega, rfl, hlt, acc2, M2, g2, h2⟩, fun x H2 y => ?_⟩
    have g2 := dw.yld i _ ρ (ρ ++ κ) σ (valsOf σ ++ vs) H' x H2 d (hsr i acc M' hI) (up g') hdd y
    have g3 : Good X.K B0 F ((D, .lst acc) :: M') (wipeS ρ (own.map (·.2))) (.d d :: s :: (ρ ++ κ)) (wipe σ (own.map (·.2))) (x :: v :: (valsOf σ ++ vs)) H2 := by
      obtain ⟨B, g2⟩ := g2
      exact ⟨B, g2.slt (sok_wipe g2.sl _)⟩
    have z := hst i d acc M' _ _ H2 x (fun H2 => ∃ acc2 M2, Good X.K B0 F ((D, .lst acc2) :: M2) ρ (s :: κ) σ (v :: vs) H2 ∧ Iv (i + 1) acc2 M2) hdd hI g3 fun acc' M'' ρ' σ' H'' gg hh => ⟨acc', M'', down gg, hh⟩
    have eqw : wipe (wipe σ (own.map (·.2))) (own.map (·.2)) = wipe σ (own.map (·.2)) := by
      have : ∀ (ws us : List Nat), (∀ w ∈ us, w ∈ ws) → wipe (wipe σ us) ws = wipe σ ws := by
        intro ws us
        induction us with
        | nil => intro _; rfl
        | cons u us ih =>
          intro hu
          show wipe ((wipe σ us).set u none) ws = _
          rw [wipe_set (hu u List.mem_cons_self)]
          exact ih fun w hw => hu w (List.mem_cons_of_mem _ hw)
      exact this _ _ fun w hw => hw
    rw [eqw] at z
    exact z
  · have e : i = ds.length := by omega
    subst e
    exact .inl ⟨dw.stop _ ρ κ σ vs H' (hsr _ acc M' hI) g', q _ H' _ _ (by
      obtain ⟨B, g'⟩ := g'
      exact ⟨B, g'.pop.pushV⟩) (hd acc M' hI)⟩

/-! the forms one uses -/
variable {elt tg iter c e : Expr} {scope : Scope} {pos : Pos} {P : Sl → Cs → Prop}
/-- [elt for x in iter]: x in slot i -/
theorem gu_lcC {u : Use} (i : Nat) {x : Str} {px : Pos} (h : DI X B0 F M ρ κ (.Name x px) iter fun ds s Src M1 => ∀ D, ∃ Iv : Nat → List PyData → Cs → Prop, Iv 0 [] M1 ∧ (∀ i acc M, Iv i acc M → Src ((D, .lst acc) :: M)) ∧
      (∀ j d acc M, ds[j]? = some d → Iv j acc M → ∀ b : BA, DE (bk X scope b) B0 F ((D, .lst acc) :: M) ((ρ.set i .un).set i (.d d)) (s :: (ρ ++ κ)) elt fun r M2 => ∃ y M', r = .d y ∧ M2 = (D, .lst acc) :: M' ∧ acc.length < 100000 ∧ Iv (j + 1) (acc ++ [y]) M') ∧
      ∀ acc M, Iv ds.length acc M → P (.v (.ref D)) ((D, .lst acc) :: M)) (hN : X.N.Nodup := by exact (by assumption)) (ok : BlkOk X.N X.env.scope scope [(x, i)] := by exact blkOk_by (by kernel_rfl)) (hg : ∀ b : BA, PG (bk X scope b) (.Name x px) (gName i) := by exact fun b => pg_name (by assumption) rfl (by first | exact Or.inl rfl | exact Or.inr rfl))
      (hc : X.calm = true := by rfl) (hs : ∀ x, foldedSetIterable iter X.env x = pure x := by intro _; rfl)  (hu : UseOk X u (.ListComp elt [⟨.Name x px, iter, [], 0⟩] scope pos) := by first | exact trivial | exact ⟨rfl, rfl, (by first | rfl | kernel_rfl)⟩) : DEu X B0 F M ρ κ u (.ListComp elt [⟨.Name x px, iter, [], 0⟩] scope pos) P :=
  lc_mainU (hu := hu) (own := [(x, i)]) (g := gName i) (tt := tYes) hc hN ok hg (fun _ => pts_nil) hs fun σ vs H Q g0 q => h σ vs H Q g0 fun J H1 M1 ds s v Src g1 dw hsrc hr => q J H1 M1 ds s v Src g1 dw hsrc fun D => by
    obtain ⟨Iv, h0, hsr, hst, hd⟩ := hr D
    refine ⟨Iv, h0, hsr, fun j d acc M σ vs H x Q hdd hI g hq => ⟨wipe_set (by simp), ?_⟩, hd⟩
    have fin : ∀ b : BA, tOf (bk X scope b) elt (σ.set i (some x)) H fun y H4 => ∃ ac, H4 D = some (.lst ac) ∧ ac.length < sizeLine ∧ Q (upd H4 D (.lst (ac ++ [y]))) := ?_
    · unfold tYes
      dsimp only
      rw [if_pos rfl]
      exact fin
    intro b
    have g2 : Good X.K B0 F ((D, .lst acc) :: M) ((ρ.set i .un).set i (.d d)) (s :: (ρ ++ κ)) (σ.set i (some x)) vs H := by
      obtain ⟨B, g⟩ := g
      exact ⟨B, g.pop.slt (Paired.set (OOk.of g.fst) i g.sl)⟩
    refine hst j d acc M hdd hI b (σ.set i (some x)) vs H _ g2 fun y H4 r M2 g4 h4 => ?_
    obtain ⟨y', M', rfl, rfl, hl, hI'⟩ := h4
    exact lc_push g4 hl fun H' g5 => hq _ _ _ _ _ g5 hI'
theorem de_lcC (i : Nat) {x : Str} {px : Pos} (h : DI X B0 F M ρ κ (.Name x px) iter fun ds s Src M1 => ∀ D, ∃ Iv : Nat → List PyData → Cs → Prop, Iv 0 [] M1 ∧ (∀ i acc M, Iv i acc M → Src ((D, .lst acc) :: M)) ∧
      (∀ j d acc M, ds[j]? = some d → Iv j acc M → ∀ b : BA, DE (bk X scope b) B0 F ((D, .lst acc) :: M) ((ρ.set i .un).set i (.d d)) (s :: (ρ ++ κ)) elt fun r M2 => ∃ y M', r = .d y ∧ M2 = (D, .lst acc) :: M' ∧ acc.length < 100000 ∧ Iv (j + 1) (acc ++ [y]) M') ∧
      ∀ acc M, Iv ds.length acc M → P (.v (.ref D)) ((D, .lst acc) :: M)) (hN : X.N.Nodup := by exact (by assumption)) (ok : BlkOk X.N X.env.scope scope [(x, i)] := by exact blkOk_by (by kernel_rfl)) (hg : ∀ b : BA, PG (bk X scope b) (.Name x px) (gName i) := by exact fun b => pg_name (by assumption) rfl (by first | exact Or.inl rfl | exact Or.inr rfl))
      (hc : X.calm = true := by rfl) (hs : ∀ x, foldedSetIterable iter X.env x = pure x := by intro _; rfl) : DE X B0 F M ρ κ (.ListComp elt [⟨.Name x px, iter, [], 0⟩] scope pos) P :=
  gu_lcC (u := none) i h hN ok hg hc hs trivial
/-- [elt for x in iter if c] -/
theorem gu_lcIfC {u : Use} (i : Nat) {x : Str} {px : Pos} (h : DI X B0 F M ρ κ (.Name x px) iter fun ds s Src M1 => ∀ D, ∃ Iv : Nat → List PyData → Cs → Prop, Iv 0 [] M1 ∧ (∀ i acc M, Iv i acc M → Src ((D, .lst acc) :: M)) ∧
      (∀ j d acc M, ds[j]? = some d → Iv j acc M → ∀ b : BA, DT (bk X scope b) B0 F ((D, .lst acc) :: M) ((ρ.set i .un).set i (.d d)) (s :: (ρ ++ κ)) c fun k M2 =>
        (k = true → ∀ b : BA, DE (bk X scope b) B0 F M2 ((ρ.set i .un).set i (.d d)) (s :: (ρ ++ κ)) elt fun r M3 => ∃ y M', r = .d y ∧ M3 = (D, .lst acc) :: M' ∧ acc.length < 100000 ∧ Iv (j + 1) (acc ++ [y]) M') ∧
        (k = false → ∃ M', M2 = (D, .lst acc) :: M' ∧ Iv (j + 1) acc M')) ∧
      ∀ acc M, Iv ds.length acc M → P (.v (.ref D)) ((D, .lst acc) :: M)) (hN : X.N.Nodup := by exact (by assumption)) (ok : BlkOk X.N X.env.scope scope [(x, i)] := by exact blkOk_by (by kernel_rfl)) (hg : ∀ b : BA, PG (bk X scope b) (.Name x px) (gName i) := by exact fun b => pg_name (by assumption) rfl (by first | exact Or.inl rfl | exact Or.inr rfl))
      (hc : X.calm = true := by rfl) (hs : ∀ x, foldedSetIterable iter X.env x = pure x := by intro _; rfl)  (hu : UseOk X u (.ListComp elt [⟨.Name x px, iter, [c], 0⟩] scope pos) := by first | exact trivial | exact ⟨rfl, rfl, (by first | rfl | kernel_rfl)⟩) : DEu X B0 F M ρ κ u (.ListComp elt [⟨.Name x px, iter, [c], 0⟩] scope pos) P :=
  lc_mainU (hu := hu) (own := [(x, i)]) (g := gName i) (tt := fun σ H Q => ∀ b : BA, tOfT (bk X scope b) c σ H Q) hc hN ok hg (fun b => ⟨fun pins s σ H Q I z => (pts_one pt_self).run pins s σ H Q I (z b)⟩) hs fun σ vs H Q g0 q => h σ vs H Q g0 fun J H1 M1 ds s v Src g1 dw hsrc hr => q J H1 M1 ds s v Src g1 dw hsrc fun D => by
    obtain ⟨Iv, h0, hsr, hst, hd⟩ := hr D
    refine ⟨Iv, h0, hsr, fun j d acc M σ vs H x Q hdd hI g hq => ⟨wipe_set (by simp), ?_⟩, hd⟩
    intro b
    have g2 : Good X.K B0 F ((D, .lst acc) :: M) ((ρ.set i .un).set i (.d d)) (s :: (ρ ++ κ)) (σ.set i (some x)) vs H := by
      obtain ⟨B, g⟩ := g
      exact ⟨B, g.pop.slt (Paired.set (OOk.of g.fst) i g.sl)⟩
    refine hst j d acc M hdd hI b (σ.set i (some x)) vs H _ g2 fun k H3 M2 g3 h3 => ?_
    cases k with
    | true =>
      rw [if_pos rfl]
      intro b2
      refine h3.1 rfl b2 (σ.set i (some x)) vs H3 _ g3 fun y H4 r M2 g4 h4 => ?_
      obtain ⟨y', M', rfl, rfl, hl, hI'⟩ := h4
      exact lc_push g4 hl fun H' g5 => hq _ _ _ _ _ g5 hI'
    | false =>
      rw [if_neg Bool.false_ne_true]
      obtain ⟨M', rfl, hI'⟩ := h3.2 rfl
      exact hq _ _ _ _ _ g3 hI'
theorem de_lcIfC (i : Nat) {x : Str} {px : Pos} (h : DI X B0 F M ρ κ (.Name x px) iter fun ds s Src M1 => ∀ D, ∃ Iv : Nat → List PyData → Cs → Prop, Iv 0 [] M1 ∧ (∀ i acc M, Iv i acc M → Src ((D, .lst acc) :: M)) ∧
      (∀ j d acc M, ds[j]? = some d → Iv j acc M → ∀ b : BA, DT (bk X scope b) B0 F ((D, .lst acc) :: M) ((ρ.set i .un).set i (.d d)) (s :: (ρ ++ κ)) c fun k M2 =>
        (k = true → ∀ b : BA, DE (bk X scope b) B0 F M2 ((ρ.set i .un).set i (.d d)) (s :: (ρ ++ κ)) elt fun r M3 => ∃ y M', r = .d y ∧ M3 = (D, .lst acc) :: M' ∧ acc.length < 100000 ∧ Iv (j + 1) (acc ++ [y]) M') ∧
        (k = false → ∃ M', M2 = (D, .lst acc) :: M' ∧ Iv (j + 1) acc M')) ∧
      ∀ acc M, Iv ds.length acc M → P (.v (.ref D)) ((D, .lst acc) :: M)) (hN : X.N.Nodup := by exact (by assumption)) (ok : BlkOk X.N X.env.scope scope [(x, i)] := by exact blkOk_by (by kernel_rfl)) (hg : ∀ b : BA, PG (bk X scope b) (.Name x px) (gName i) := by exact fun b => pg_name (by assumption) rfl (by first | exact Or.inl rfl | exact Or.inr rfl))
      (hc : X.calm = true := by rfl) (hs : ∀ x, foldedSetIterable iter X.env x = pure x := by intro _; rfl) : DE X B0 F M ρ κ (.ListComp elt [⟨.Name x px, iter, [c], 0⟩] scope pos) P :=
  gu_lcIfC (u := none) i h hN ok hg hc hs trivial
end
end DL
set_option maxHeartbeats 2000000
namespace DL
open PySem PySem.Spec PyProof.Rows L2

/-! ### defs -/
def NoRd : Sl → Prop
  | .rd _ => False
  | _ => True
/-- a promise over data: R takes the arguments' slots, the cells handed over and what is wanted -/
def SpG (K : Fg) (R : List Sl → Cs → (Sl → Cs → Prop) → Prop) : Sp := fun vs H Q _ => ∃ B0 F M κ W, Good K B0 F M [] κ [] vs H ∧ (∀ r M, W r M → NoRd r) ∧ R κ M W ∧ ∀ v H' r M', Good K B0 F M' [] [r] [] [v] H' → W r M' → Q v H'
section
variable {P : Program} {w : World} {K : Fg} {mg : Str → Option Value} {base : Heap}
theorem start_sok {F B : Hp} {n : Nat} : ∀ {vs : List V} {κ : List Sl}, KOk K F B vs κ → SOk K F B (vs.map some ++ List.replicate n none) (κ ++ List.replicate n .un)
  | _, _, .nil => by
    have : ∀ n : Nat, SOk K F B (List.replicate n none) (List.replicate n .un) := by
      intro n
      induction n with
      | zero => exact .nil
      | succ n ih => exact .cons trivial ih
    exact this n
  | _, _, .cons h t => .cons (OOk.of h) (start_sok t)
theorem fn_ok {x qual : Str} {st : Stmt} {f : Addr} {fd : FuncData} {N ps : List Str} {k : Nat} {R : List Sl → Cs → (Sl → Cs → Prop) → Prop} (Fu : Fun K x qual st f fd) (S : FnScope N ps (defScope st)) (len : ∀ κ M W, R κ M W → κ.length = ps.length)
    (body : ∀ (cdv : Value) (A : Around) (outer : List Env) (s : Shared) (H : Hp) (E : XK), Room k (A.deeper (envOfC qual (defScope st) s.heap.objs.size f cdv)) → N.Nodup → ∀ (B0 F : Hp) (κ : List Sl) (M : Cs) (W : Sl → Cs → Prop), R κ M W →
      DB (cxOf CX0 P w K mg base N qual (defScope st) f cdv A outer s H E).nox B0 F M (κ ++ List.replicate (N.length - ps.length) .un) [] (defBody st) { nx := fun M' _ => W (.d .none) M', rt := W }) : FnOk P w K mg base CX0 (k + 1) f fd ps (SpG K R) := by
  refine Fu.ok S (fun vs H Q E h => ?_) (fun cdv A outer s H vs Q E hr h => ?_)
  · obtain ⟨B0, F, M, κ, W, ⟨B, g⟩, _, hR, _⟩ := h
    rw [Paired.length g.st]
    exact len κ M W hR
  · obtain ⟨B0, F, M, κ, W, ⟨B, g⟩, hn, hR, q⟩ := h
    refine ⟨tOfB _ (defBody st), pb_self, ?_⟩
    have hl := Paired.length g.st
    have hk := len κ M W hR
    refine body cdv A outer s H E hr S.nd B0 F κ M W hR (L2.start N vs) [] H _ ⟨B, (g.stk .nil).slt ?_⟩ ⟨fun σ' H' M' ρ' g' n => ?_, fun v H' r M' g' n => q v H' r M' g' n, fun _ _ _ _ _ n => n.elim, fun _ _ _ _ _ n => n.elim⟩
    · unfold L2.start
      rw [hl, hk]
      exact start_sok g.st
    · refine q .non H' (.d .none) M' ?_ n
      obtain ⟨B', g'⟩ := g'
      exact ⟨B', (g'.stk .nil |>.slt .nil).pushD .non⟩
end

/-- how the arguments are seen by the callee: a cell's list as a frozen one -/
inductive Views (M : Cs) : List Sl → List Sl → Prop
  | nil : Views M [] []
  | same {r : Sl} {rs κ : List Sl} : Views M rs κ → Views M (r :: rs) (r :: κ)
  | rd {a : Addr} {ds : List PyData} {rs κ : List Sl} : (a, .lst ds) ∈ M → Views M rs κ → Views M (.v (.ref a) :: rs) (.rd ds :: κ)
section
variable {X : Cx} {B0 F : Hp} {M : Cs} {ρ κ : List Sl} {P : Sl → Cs → Prop} {e : Expr} {es : List Expr} {p pos : Pos} {x : Str}
theorem kok_views {K : Fg} {F B H : Hp} (fh : Same F H) (hc : ∀ c, c ∈ M → CellOk K F B H c) : ∀ {rs κ' : List Sl} {ws : List V}, Views M rs κ' → KOk K F B ws rs → KOk K H B ws κ'
  | _, _, _, .nil, h => by cases h; exact .nil
  | _, _, _, .same v, h => by
    cases h with
    | cons h1 h2 =>
      refine .cons ?_ (kok_views fh hc v h2)
      rename_i r rs κ a ws
      cases r with
      | un => trivial
      | d y => exact h1
      | rd ys => obtain ⟨a, xs, h1, h2, h3⟩ := h1; exact ⟨a, xs, h1, fh.seq h2, h3⟩
      | v y => exact h1
  | _, _, _, .rd hm v, h => by
    cases h with
    | cons h1 h2 =>
      refine .cons ?_ (kok_views fh hc v h2)
      obtain ⟨_, _, o, ho, ws, rfl, hw⟩ := hc _ hm
      exact ⟨_, ws, h1, SqL.of ho, hw⟩
/-- behind a pure call -/
theorem good_after {K : Fg} {σ : L2.St} {vs : List V} {H1 H' B : Hp} {M' : Cs} {x : PyData} {v : V} (g : GoodB K B0 F M ρ κ σ vs H1 B) (g' : Good K B H1 M' [] [.d x] [] [v] H') : Good K B0 F M ρ (.d x :: κ) σ (v :: vs) H' := by
  obtain ⟨B', g'⟩ := g'
  refine ⟨B', g.b0.trans g'.b0, g'.bh, g.fh.trans g'.fh, fun a ha => ?_, fun c hc => ?_, g.nd, Paired.mapP g.sl fun _ _ z => z.ext g'.b0, .cons g'.fst (Paired.mapP g.st fun _ _ z => z.ext g'.b0)⟩
  · rcases g'.new a ha with h | h
    · exact g.new a h
    · exact .inr (g.fh.free h)
  · obtain ⟨h1, h2, u, h3, h4⟩ := g.cells c hc
    refine ⟨?_, h2, u, g'.fh _ _ h3, h4.ext g'.b0⟩
    cases e : B' c.1 with
    | none => rfl
    | some o =>
      rcases g'.new c.1 (by rw [e]; exact fun z => nomatch z) with h | h
      · exact absurd h1 h
      · rw [h3] at h; cases h
variable {f : Addr} {fd : FuncData} {ps : List Str} {j : Nat} {R : List Sl → Cs → (Sl → Cs → Prop) → Prop}
/-- f(e, ..): a def that leaves all as it was -/
theorem de_call (Fo : FnOk X.prog X.w X.K X.mg X.base CX0 j f fd ps (SpG X.K R)) (hr : Room j X.A) (hm : X.mg x = some (.ref f)) (hk : PySem.W.keepIn X.K (.ref f) = true) (hb : Binds X.K fd ps [])
    (h : DA X B0 F M ρ κ (e :: es) fun rs M1 => ∃ κ', Views M1 rs κ' ∧ R κ' [] fun r _ => ∃ y, r = .d y ∧ P (.d y) M1) (hg : Gl X x := by rfl) (hdb : (x == ("__debug__" : Str)) = false := by decide)
    (he : starEach (e :: es) X.env = (false, eval e X.env) :: starEach es X.env := by rfl) (hpl : (backTo pos (starEach es X.env)).any (·.1) = false := by rfl) : DE X B0 F M ρ κ (.Call (.Name x p) (e :: es) [] pos) P := fun σ vs H Q g q => by
  refine tOf_of (pe_call (E := E0) Fo hr hg hm hk hb .nil pass0 pa_self hdb he hpl) (h σ vs H _ g fun ws H1 rs M1 hl g1 h1 => ?_)
  obtain ⟨κ', hv, hR⟩ := h1
  rw [List.append_nil]
  obtain ⟨B, g1⟩ := g1
  obtain ⟨k1, k2⟩ := kok_split hl g1.st
  refine ⟨B, H1, [], κ', _, ⟨B, Same.refl _, g1.bh, Same.refl _, fun a ha => .inl ha, fun c hc => absurd hc List.not_mem_nil, .nil, .nil, kok_views g1.fh g1.cells hv k1⟩, ?_, hR, fun v H' r M' g' hW => ?_⟩
  · rintro r M ⟨y, rfl, _⟩
    trivial
  · obtain ⟨y, rfl, hP⟩ := hW
    exact q v H' _ M1 (good_after (g1.stk k2) g') hP
/-- f(): no argument -/
theorem de_call0 (Fo : FnOk X.prog X.w X.K X.mg X.base CX0 j f fd ps (SpG X.K R)) (hr : Room j X.A) (hm : X.mg x = some (.ref f)) (hk : PySem.W.keepIn X.K (.ref f) = true) (hb : Binds X.K fd ps [])
    (h : R [] [] fun r _ => ∃ y, r = .d y ∧ P (.d y) M) (hg : Gl X x := by rfl) (hdb : (x == ("__debug__" : Str)) = false := by decide) : DE X B0 F M ρ κ (.Call (.Name x p) [] [] pos) P := fun σ vs H Q g q => by
  refine tOf_of (pe_call0 (E := E0) Fo hr hg hm hk hb .nil pass0 hdb) ?_
  obtain ⟨B, g1⟩ := g
  refine ⟨B, H, [], [], _, ⟨B, Same.refl _, g1.bh, Same.refl _, fun a ha => .inl ha, fun c hc => absurd hc List.not_mem_nil, .nil, .nil, .nil⟩, ?_, h, fun v H' r M' g' hW => ?_⟩
  · rintro r M ⟨y, rfl, _⟩
    trivial
  · obtain ⟨y, rfl, hP⟩ := hW
    exact q v H' _ M (good_after g1 g') hP
open Classical in
/-- a heap without some addresses -/
noncomputable def without (H : Hp) (as : List Addr) : Hp := fun a => if a ∈ as then none else H a
theorem without_in {H : Hp} {as : List Addr} {a : Addr} (h : a ∈ as) : without H as a = none := by unfold without; rw [if_pos h]
theorem without_out {H : Hp} {as : List Addr} {a : Addr} (h : a ∉ as) : without H as a = H a := by unfold without; rw [if_neg h]
theorem without_some {H : Hp} {as : List Addr} {a : Addr} {o : HO} (h : without H as a = some o) : a ∉ as ∧ H a = some o := by
  by_cases q : a ∈ as
  · rw [without_in q] at h; cases h
  · rw [without_out q] at h; exact ⟨q, h⟩
theorem VOk.extF {K : Fg} {F F' B : Hp} {x : V} {s : Sl} (e : Same F F') (h : VOk K F B x s) : VOk K F' B x s := by
  cases s with
  | un => trivial
  | d y => exact h
  | rd ys => obtain ⟨a, xs, h1, h2, h3⟩ := h; exact ⟨a, xs, h1, e.seq h2, h3⟩
  | v y => exact h
/-- behind a call that may change the first cells -/
theorem good_afterM {K : Fg} {σ : L2.St} {vs : List V} {H1 H' B : Hp} {Mp Mr M' : Cs} {r : Sl} {v : V} (g : GoodB K B0 F (Mp ++ Mr) ρ κ σ vs H1 B) (hn : NoRd r) (g' : Good K B (without H1 (Mp.map (·.1))) M' [] [r] [] [v] H') : Good K B0 F (M' ++ Mr) ρ (r :: κ) σ (v :: vs) H' := by
  obtain ⟨B', g'⟩ := g'
  have nd := g.nd
  rw [List.map_append] at nd
  have sF : Same F (without H1 (Mp.map (·.1))) := fun a o e => by
    rw [without_out]
    · exact g.fh a o e
    · intro z
      obtain ⟨c, hc, rfl⟩ := List.mem_map.mp z
      rw [(g.cells c (List.mem_append_left _ hc)).f] at e
      cases e
  have rest : ∀ c ∈ Mr, without H1 (Mp.map (·.1)) c.1 = H1 c.1 := fun c hc => without_out fun z => (List.nodup_append.mp nd).2.2 _ z _ (List.mem_map.mpr ⟨c, hc, rfl⟩) rfl
  have hr' : VOk K F B' v r := by
    have h1 := g'.fst
    cases r with
    | un => trivial
    | d y => exact h1
    | rd ys => exact hn.elim
    | v y => exact h1
  refine ⟨B', g.b0.trans g'.b0, g'.bh, sF.trans g'.fh, fun a ha => ?_, fun c hc => ?_, ?_, Paired.mapP g.sl fun _ _ z => z.ext g'.b0, .cons hr' (Paired.mapP g.st fun _ _ z => z.ext g'.b0)⟩
  · rcases g'.new a ha with h | h
    · exact g.new a h
    · exact .inr (sF.free h)
  · rcases List.mem_append.mp hc with hc | hc
    · obtain ⟨h1, h2, u, h3, h4⟩ := g'.cells c hc
      exact ⟨h1, sF.free h2, u, h3, h4⟩
    · obtain ⟨h1, h2, u, h3, h4⟩ := g.cells c (List.mem_append_right _ hc)
      have h5 := rest c hc
      refine ⟨?_, h2, u, g'.fh _ _ (by rw [h5]; exact h3), h4.ext g'.b0⟩
      cases e : B' c.1 with
      | none => rfl
      | some o =>
        rcases g'.new c.1 (by rw [e]; exact fun z => nomatch z) with h | h
        · exact absurd h1 h
        · rw [h5, h3] at h; cases h
  · rw [List.map_append, List.nodup_append]
    refine ⟨g'.nd, (List.nodup_append.mp nd).2.1, fun a ha b hb e => ?_⟩
    subst e
    obtain ⟨c, hc, e1⟩ := List.mem_map.mp ha
    obtain ⟨c2, hc2, e2⟩ := List.mem_map.mp hb
    have h1 := (g'.cells c hc).f
    obtain ⟨_, _, u, h3, _⟩ := g.cells c2 (List.mem_append_right _ hc2)
    rw [e1, ← e2, rest c2 hc2, h3] at h1
    cases h1
/-- f(e, ..): a def that may change the first n cells -/
theorem de_callM (n : Nat) (Fo : FnOk X.prog X.w X.K X.mg X.base CX0 j f fd ps (SpG X.K R)) (hr : Room j X.A) (hm : X.mg x = some (.ref f)) (hk : PySem.W.keepIn X.K (.ref f) = true) (hb : Binds X.K fd ps [])
    (h : DA X B0 F M ρ κ (e :: es) fun rs M1 => R rs (M1.take n) fun r M2 => NoRd r ∧ P r (M2 ++ M1.drop n)) (hg : Gl X x := by rfl) (hdb : (x == ("__debug__" : Str)) = false := by decide)
    (he : starEach (e :: es) X.env = (false, eval e X.env) :: starEach es X.env := by rfl) (hpl : (backTo pos (starEach es X.env)).any (·.1) = false := by rfl) : DE X B0 F M ρ κ (.Call (.Name x p) (e :: es) [] pos) P := fun σ vs H Q g q => by
  refine tOf_of (pe_call (E := E0) Fo hr hg hm hk hb .nil pass0 pa_self hdb he hpl) (h σ vs H _ g fun ws H1 rs M1 hl g1 hR => ?_)
  rw [List.append_nil]
  obtain ⟨B, g1⟩ := g1
  obtain ⟨k1, k2⟩ := kok_split hl g1.st
  have g2 : GoodB X.K B0 F (M1.take n ++ M1.drop n) ρ κ σ vs H1 B := by rw [List.take_append_drop]; exact g1.stk k2
  have sF : Same F (without H1 ((M1.take n).map (·.1))) := fun a o e => by
    rw [without_out]
    · exact g1.fh a o e
    · intro z
      obtain ⟨c, hc, rfl⟩ := List.mem_map.mp z
      rw [(g1.cells c (List.mem_of_mem_take hc)).f] at e
      cases e
  refine ⟨B, without H1 ((M1.take n).map (·.1)), M1.take n, rs, _, ⟨B, Same.refl _, g1.bh, fun a o e => (without_some e).2, fun a ha => .inl ha, fun c hc => ?_, ?_, .nil, Paired.mapP k1 fun _ _ z => z.extF sF⟩, ?_, hR, fun v H' r M' g' hW => ?_⟩
  · obtain ⟨h1, h2, u, h3, h4⟩ := g1.cells c (List.mem_of_mem_take hc)
    exact ⟨h1, without_in (List.mem_map.mpr ⟨c, hc, rfl⟩), u, h3, h4⟩
  · rw [List.map_take]
    exact g1.nd.sublist (List.take_sublist _ _)
  · rintro r M ⟨hn, _⟩
    exact hn
  · exact q v H' r _ (good_afterM g2 hW.1 g') hW.2
end

/-! ### built-ins by their slots -/
section
variable {X : Cx} {K : Fg} {B0 F : Hp} {M : Cs} {ρ κ : List Sl} {P : Sl → Cs → Prop} {a b e : Expr} {pos : Pos}
/-- what may be read as a list, a tuple of data -/
inductive Seq (M : Cs) : Sl → List PyData → Prop
  | lst (ds : List PyData) : Seq M (.d (.list ds)) ds
  | tup (ds : List PyData) : Seq M (.d (.tuple ds)) ds
  | rd (ds : List PyData) : Seq M (.rd ds) ds
  | cell {a : Addr} {ds : List PyData} : (a, .lst ds) ∈ M → Seq M (.v (.ref a)) ds
/-- .. and what may be read as a list -/
inductive SeqLs (M : Cs) : Sl → List PyData → Prop
  | lst (ds : List PyData) : SeqLs M (.d (.list ds)) ds
  | rd (ds : List PyData) : SeqLs M (.rd ds) ds
  | cell {a : Addr} {ds : List PyData} : (a, .lst ds) ∈ M → SeqLs M (.v (.ref a)) ds
theorem SeqLs.at {σ : L2.St} {vs : List V} {H B : Hp} {s : Sl} {ds : List PyData} {v : V} (q : SeqLs M s ds) (g : GoodB K B0 F M ρ κ σ vs H B) (hv : VOk K F B v s) : ∃ a xs, v = .ref a ∧ SqL K H a xs ∧ RpA K B xs ds := by
  cases q with
  | lst ds => obtain ⟨a, xs, rfl, h1, h2⟩ := Rp.lst_inv hv; exact ⟨a, xs, rfl, SqL.of (g.bh _ _ h1), h2⟩
  | rd ds => obtain ⟨a, xs, rfl, h1, h2⟩ : ∃ a xs, v = .ref a ∧ SqL K F a xs ∧ RpA K B xs ds := hv; exact ⟨a, xs, rfl, g.fh.seq h1, h2⟩
  | @cell a ds hm =>
    have e : v = .ref a := hv
    subst e
    obtain ⟨_, _, o, ho, ws, rfl, hw⟩ := g.cells _ hm
    exact ⟨a, ws, rfl, SqL.of ho, hw⟩
theorem Seq.at {σ : L2.St} {vs : List V} {H B : Hp} {s : Sl} {ds : List PyData} {v : V} (q : Seq M s ds) (g : GoodB K B0 F M ρ κ σ vs H B) (hv : VOk K F B v s) : ∃ a xs, v = .ref a ∧ (SqL K H a xs ∨ SqT K H a xs) ∧ RpA K B xs ds := by
  cases q with
  | lst ds => obtain ⟨a, xs, h1, h2, h3⟩ := SeqLs.at (.lst ds) g hv; exact ⟨a, xs, h1, .inl h2, h3⟩
  | tup ds => obtain ⟨a, xs, rfl, h1, h2⟩ := Rp.tup_inv hv; exact ⟨a, xs, rfl, .inr (same_t g.bh h1), h2⟩
  | rd ds => obtain ⟨a, xs, h1, h2, h3⟩ := SeqLs.at (.rd ds) g hv; exact ⟨a, xs, h1, .inl h2, h3⟩
  | cell hm => obtain ⟨a, xs, h1, h2, h3⟩ := SeqLs.at (.cell hm) g hv; exact ⟨a, xs, h1, .inl h2, h3⟩
theorem one_arg {α : Type} {xs : List α} {n : Nat} (h : xs.length = n) (e : n = 1) : ∃ x, xs = [x] := List.length_eq_one_iff.mp (h.trans e)
/-- len(x) -/
theorem rn_len {s : Sl} {ds : List PyData} (q : Seq M s ds) (h : P (.d (.int ds.length)) M) : RnD K B0 F ρ κ (fun xs H Q => ∃ p ys, xs = [.ref p] ∧ (SqL K H p ys ∨ SqT K H p ys) ∧ Q (.int ys.length) H) [s] M P := fun σ vs H xs Q hl g qq => by
  obtain ⟨x, rfl⟩ := one_arg hl rfl
  obtain ⟨B, g⟩ := g
  obtain ⟨a, ys, rfl, h1, h2⟩ := q.at g g.fst
  exact ⟨a, ys, rfl, h1, qq _ H _ M ⟨B, g.pop.pushD (by rw [h2.len]; exact .int _)⟩ h⟩
/-- tuple(x) -/
theorem rn_tuple {s : Sl} {ds : List PyData} (q : Seq M s ds) (h : P (.d (.tuple ds)) M) : RnD K B0 F ρ κ (fun xs H Q => ∃ p ys, xs = [.ref p] ∧ ((SqL K H p ys ∧ ∀ l, H l = none → Q (.ref l) (upd H l (.tup ys))) ∨ (SqT K H p ys ∧ Q (.ref p) H))) [s] M P := fun σ vs H xs Q hl g qq => by
  obtain ⟨x, rfl⟩ := one_arg hl rfl
  obtain ⟨B, g⟩ := g
  cases q with
  | tup ds =>
    have hv : Rp K B x (.tuple ds) := g.fst
    obtain ⟨a, ys, e, h1, h2⟩ := Rp.tup_inv hv
    subst e
    exact ⟨a, ys, rfl, .inr ⟨same_t g.bh h1, qq _ H _ M ⟨B, g.pop.pushD (.tup h1 h2)⟩ h⟩⟩
  | lst ds =>
    obtain ⟨a, ys, rfl, h1, h2⟩ := SeqLs.at (.lst ds) g g.fst
    refine ⟨a, ys, rfl, .inl ⟨h1, fun l hl => qq _ _ _ M ?_ h⟩⟩
    have bp : B l = none := g.bh.free hl
    exact ⟨_, (g.pop.laid (o := .tup ys) hl).pushD (.tup (SqT.of upd_same) (h2.ext fun b u z => by rw [upd_ne (ne_of_none z bp)]; exact z))⟩
  | rd ds =>
    obtain ⟨a, ys, rfl, h1, h2⟩ := SeqLs.at (.rd ds) g g.fst
    refine ⟨a, ys, rfl, .inl ⟨h1, fun l hl => qq _ _ _ M ?_ h⟩⟩
    have bp : B l = none := g.bh.free hl
    exact ⟨_, (g.pop.laid (o := .tup ys) hl).pushD (.tup (SqT.of upd_same) (h2.ext fun b u z => by rw [upd_ne (ne_of_none z bp)]; exact z))⟩
  | cell hm =>
    obtain ⟨a, ys, rfl, h1, h2⟩ := SeqLs.at (.cell hm) g g.fst
    refine ⟨a, ys, rfl, .inl ⟨h1, fun l hl => qq _ _ _ M ?_ h⟩⟩
    have bp : B l = none := g.bh.free hl
    exact ⟨_, (g.pop.laid (o := .tup ys) hl).pushD (.tup (SqT.of upd_same) (h2.ext fun b u z => by rw [upd_ne (ne_of_none z bp)]; exact z))⟩
/-- a new list of these values: as a cell -/
theorem cell_new {σ : L2.St} {vs : List V} {H B : Hp} {ys : List V} {ds : List PyData} {l : Addr} (g : GoodB K B0 F M ρ κ σ vs H B) (hl : H l = none) (h : RpA K B ys ds) : Good K B0 F ((l, .lst ds) :: M) ρ (.v (.ref l) :: κ) σ (.ref l :: vs) (upd H l (.lst ys)) := ⟨B, (g.cell (c := .lst ds) hl ⟨ys, rfl, h⟩).pushV⟩
/-- list(x): a cell -/
theorem rn_listC {s : Sl} {ds : List PyData} (q : Seq M s ds) (h : ∀ l, P (.v (.ref l)) ((l, .lst ds) :: M)) : RnD K B0 F ρ κ (fun xs H Q => ∃ p ys, xs = [.ref p] ∧ (SqL K H p ys ∨ SqT K H p ys) ∧ ∀ l, H l = none → Q (.ref l) (upd H l (.lst ys))) [s] M P := fun σ vs H xs Q hl g qq => by
  obtain ⟨x, rfl⟩ := one_arg hl rfl
  obtain ⟨B, g⟩ := g
  obtain ⟨a, ys, rfl, h1, h2⟩ := q.at g g.fst
  exact ⟨a, ys, rfl, h1, fun l hl => qq _ _ _ _ (cell_new g.pop hl h2) (h l)⟩
theorem rn_sum {s : Sl} {ns : List Int} (q : SeqLs M s (ns.map PyData.int)) (h : P (.d (.int ns.sum)) M) : RnD K B0 F ρ κ (rSum K) [s] M P := fun σ vs H xs Q hl g qq => by
  obtain ⟨x, rfl⟩ := one_arg hl rfl
  obtain ⟨B, g⟩ := g
  obtain ⟨a, ys, rfl, h1, h2⟩ := q.at g g.fst
  have e := h2.ints
  subst e
  exact ⟨a, ns, rfl, h1, qq _ H _ M ⟨B, g.pop.pushD (.int _)⟩ h⟩
theorem rn_all {s : Sl} {ns : List Bool} (q : SeqLs M s (ns.map PyData.bool)) (h : P (.d (.bool (ns.all id))) M) : RnD K B0 F ρ κ (rAll K) [s] M P := fun σ vs H xs Q hl g qq => by
  obtain ⟨x, rfl⟩ := one_arg hl rfl
  obtain ⟨B, g⟩ := g
  obtain ⟨a, ys, rfl, h1, h2⟩ := q.at g g.fst
  have e := h2.bls
  subst e
  exact ⟨a, ns, rfl, h1, qq _ H _ M ⟨B, g.pop.pushD (.bl _)⟩ h⟩
theorem rn_any {s : Sl} {ns : List Bool} (q : SeqLs M s (ns.map PyData.bool)) (h : P (.d (.bool (ns.any id))) M) : RnD K B0 F ρ κ (rAny K) [s] M P := fun σ vs H xs Q hl g qq => by
  obtain ⟨x, rfl⟩ := one_arg hl rfl
  obtain ⟨B, g⟩ := g
  obtain ⟨a, ys, rfl, h1, h2⟩ := q.at g g.fst
  have e := h2.bls
  subst e
  exact ⟨a, ns, rfl, h1, qq _ H _ M ⟨B, g.pop.pushD (.bl _)⟩ h⟩
theorem two_args {α : Type} {xs : List α} {n : Nat} (h : xs.length = n) (e : n = 2) : ∃ x y, xs = [x, y] := by
  match xs, h.trans e with
  | [x, y], _ => exact ⟨x, y, rfl⟩
theorem rn_max2 {i j : Int} (h : P (.d (.int (if j > i then j else i))) M) : RnD K B0 F ρ κ (fun xs H Q => ∃ i j, xs = [.int i, .int j] ∧ Q (.int (if j > i then j else i)) H) [.d (.int i), .d (.int j)] M P := fun σ vs H xs Q hl g qq => by
  obtain ⟨x, y, rfl⟩ := two_args hl rfl
  have g2 : Good K B0 F M ρ (.d (.int j) :: κ) σ (y :: vs) H := Good.pop g
  have e := Good.int g
  subst e
  have e := g2.int
  subst e
  exact ⟨i, j, rfl, qq _ H _ M (g2.pop.pushD fun _ _ => Rp.int _) h⟩
theorem rn_min2 {i j : Int} (h : P (.d (.int (if j < i then j else i))) M) : RnD K B0 F ρ κ (fun xs H Q => ∃ i j, xs = [.int i, .int j] ∧ Q (.int (if j < i then j else i)) H) [.d (.int i), .d (.int j)] M P := fun σ vs H xs Q hl g qq => by
  obtain ⟨x, y, rfl⟩ := two_args hl rfl
  have g2 : Good K B0 F M ρ (.d (.int j) :: κ) σ (y :: vs) H := Good.pop g
  have e := Good.int g
  subst e
  have e := g2.int
  subst e
  exact ⟨i, j, rfl, qq _ H _ M (g2.pop.pushD fun _ _ => Rp.int _) h⟩
theorem rn_abs {i : Int} (h : P (.d (.int (if i < 0 then -i else i))) M) : RnD K B0 F ρ κ (fun xs H Q => ∃ i, xs = [.int i] ∧ Q (.int (if i < 0 then -i else i)) H) [.d (.int i)] M P := fun σ vs H xs Q hl g qq => by
  obtain ⟨x, rfl⟩ := one_arg hl rfl
  have e := Good.int g
  subst e
  exact ⟨i, rfl, qq _ H _ M (Good.pushD (Good.pop g) fun _ _ => Rp.int _) h⟩
theorem rn_int {i : Int} (h : P (.d (.int i)) M) : RnD K B0 F ρ κ (fun xs H Q => (∃ i, xs = [.int i] ∧ Q (.int i) H) ∨ ∃ k, xs = [.bl k] ∧ Q (.int (if k then 1 else 0)) H) [.d (.int i)] M P := fun σ vs H xs Q hl g qq => by
  obtain ⟨x, rfl⟩ := one_arg hl rfl
  have e := Good.int g
  subst e
  exact .inl ⟨i, rfl, qq _ H _ M (Good.pushD (Good.pop g) fun _ _ => Rp.int _) h⟩

/-! ### subscripts, slices -/
theorem de_ix {r : R2} (hr : IxR X r) (h : DE X B0 F M ρ κ a fun r1 M1 => DE X B0 F M1 ρ (r1 :: κ) b fun r2 M2 => R2D X.K B0 F ρ κ r r1 r2 M2 P) (hs : PlainIx b := by exact fun _ _ => rfl) : DE X B0 F M ρ κ (.Subscript a b pos) P :=
  fun σ vs H Q g q => tOf_of (pe_ix hr pe_self pe_self hs) (h σ vs H _ g fun x H1 r1 M1 g1 h1 => h1 σ (x :: vs) H1 _ g1 fun y H2 r2 M2 g2 h2 => h2 σ vs H2 x y Q g2 q)
theorem atI_rp {H : Hp} {xs : List V} {ds : List PyData} {i : Int} {d : PyData} (h : RpA K H xs ds) (e : atI ds i = some d) : ∃ v, atI xs i = some v ∧ Rp K H v d := by
  unfold atI at e ⊢
  rw [h.len]
  cases q : ixN ds.length i with
  | none => rw [q] at e; cases e
  | some j =>
    rw [q] at e
    obtain ⟨v, h1, h2⟩ := h.get (i := j) (d := d) e
    exact ⟨v, h1, h2⟩
/-- xs[i], xs a list or a tuple -/
theorem r2_ix {s : Sl} {ds : List PyData} {i : Int} {d : PyData} (q : Seq M s ds) (e : atI ds i = some d) (h : P (.d d) M) : R2D K B0 F ρ κ (rIx K) s (.d (.int i)) M P := fun σ vs H x y Q g qq => by
  have ey := g.int
  subst ey
  obtain ⟨B, g⟩ := g.pop
  obtain ⟨a, ys, rfl, h1, h2⟩ := q.at g g.fst
  obtain ⟨v, hv, hd⟩ := atI_rp h2 e
  rcases h1 with h1 | h1
  · exact .inl ⟨a, ys, i, v, rfl, rfl, h1, hv, qq _ H _ M ⟨B, g.pop.pushD hd⟩ h⟩
  · exact .inr (.inl ⟨a, ys, i, v, rfl, rfl, h1, hv, qq _ H _ M ⟨B, g.pop.pushD hd⟩ h⟩)
/-- a part of a slice -/
def tOfP (X : Cx) : Option Expr → TO
  | none => tNoPart
  | some e => tPart (tOf X e)
theorem po_self {o : Option Expr} : PO X o (tOfP X o) := by
  cases o with
  | none => exact po_none
  | some e => exact po_some pe_self
def DO (X : Cx) (B0 F : Hp) (M : Cs) (ρ κ : List Sl) (o : Option Expr) (P : Option Int → Cs → Prop) : Prop := ∀ σ vs H Q, Good X.K B0 F M ρ κ σ vs H → (∀ i H' M', Good X.K B0 F M' ρ κ σ vs H' → P i M' → Q i H') → tOfP X o σ H Q
theorem do_none {P : Option Int → Cs → Prop} (h : P none M) : DO X B0 F M ρ κ none P := fun σ vs H Q g q => q none H M g h
theorem do_some {P : Option Int → Cs → Prop} (h : DE X B0 F M ρ κ e fun r M1 => ∃ i, r = .d (.int i) ∧ P (some i) M1) : DO X B0 F M ρ κ (some e) P := fun σ vs H Q g q => h σ vs H _ g fun v H' r M' g' h' => by
  obtain ⟨i, rfl, h'⟩ := h'
  have e := g'.int
  subst e
  exact ⟨i, rfl, q _ H' M' g'.pop h'⟩
/-- cut of data, as cutV of values -/
def cutD (xs : List PyData) (lo hi : Option Int) : List PyData := (xs.drop (HT.sIx xs.length 0 lo)).take (HT.sIx xs.length xs.length hi - HT.sIx xs.length 0 lo)
theorem cut_rp {H : Hp} {xs : List V} {ds : List PyData} (h : RpA K H xs ds) (lo hi : Option Int) : RpA K H (cutV xs lo hi) (cutD ds lo hi) := by
  unfold cutV cutD
  rw [h.len]
  exact (h.drop _).take _
theorem cutD_all {ds : List PyData} {lo hi : Option Int} (h : HT.sIx ds.length 0 lo = 0 ∧ HT.sIx ds.length ds.length hi = ds.length) : cutD ds lo hi = ds := by
  unfold cutD
  rw [h.1, h.2, List.drop_zero, Nat.sub_zero, List.take_length]
/-- the slice of an operand that stands: the parts are written (no calls) -/
def RsD (K : Fg) (B0 F : Hp) (ρ κ : List Sl) (r : V → Option Int → Option Int → Hp → VK → Prop) (s : Sl) (lo hi : Option Int) (M : Cs) (P : Sl → Cs → Prop) : Prop := ∀ σ vs H x Q, Good K B0 F M ρ (s :: κ) σ (x :: vs) H → (∀ v H' r' M', Good K B0 F M' ρ (r' :: κ) σ (v :: vs) H' → P r' M' → Q v H') → r x lo hi H Q
theorem de_slice {lo hi : Option Expr} {p2 : Pos} {r : V → Option Int → Option Int → Hp → VK → Prop} (hr : SlR X r) (h : DE X B0 F M ρ κ e fun r1 M1 => DO X B0 F M1 ρ (r1 :: κ) lo fun l M2 => DO X B0 F M2 ρ (r1 :: κ) hi fun u M3 => RsD X.K B0 F ρ κ r r1 l u M3 P) :
    DE X B0 F M ρ κ (.Subscript e (.Slice lo hi none p2) pos) P := fun σ vs H Q g q => tOf_of (pe_slice hr pe_self po_self po_self) (h σ vs H _ g fun x H1 r1 M1 g1 h1 => h1 σ (x :: vs) H1 _ g1 fun l H2 M2 g2 h2 => h2 σ (x :: vs) H2 _ g2 fun u H3 M3 g3 h3 => h3 σ vs H3 x Q g3 q)
/-- xs[l:u]: a new list, a cell -/
theorem rs_listC {s : Sl} {ds : List PyData} {l u : Option Int} (q : SeqLs M s ds) (h : ∀ p, P (.v (.ref p)) ((p, .lst (cutD ds l u)) :: M)) : RsD K B0 F ρ κ (rSlL K) s l u M P := fun σ vs H x Q g qq => by
  obtain ⟨B, g⟩ := g
  obtain ⟨a, ys, rfl, h1, h2⟩ := q.at g g.fst
  exact ⟨a, ys, rfl, h1, fun p hp => qq _ _ _ _ (cell_new g.pop hp (cut_rp h2 l u)) (h p)⟩
end
end DL
set_option maxHeartbeats 2000000
namespace DL
open PySem PySem.Spec PyProof.Rows L2

section
variable {X : Cx} {K : Fg} {B0 F : Hp} {M : Cs} {ρ κ : List Sl} {P : Sl → Cs → Prop} {a b e : Expr} {pos : Pos}
/-- sorted(xs) of data, any number of items -/
def sortD (ds : List PyData) : List PyData := ds.mergeSort (PySem.W.dataLe false id)
def rSortedD (K : Fg) : List V → Hp → VK → Prop := fun vs H Q => ∃ (a : Addr) (xs : List V) (ds : List PyData) (G : Hp), vs = [.ref a] ∧ SqL K H a xs ∧ Same G H ∧ RpA K G xs ds ∧ PySem.W.AllAlike ds ∧ PySem.W.Sortable ds ∧ ds.length ≤ sizeLine ∧ (∀ d ∈ ds, d.depth ≤ 50) ∧
  ∀ p ws, H p = none → RpA K G ws (sortD ds) → Q (.ref p) (upd H p (.lst ws))
theorem each_of {K : Fg} {G : Hp} : ∀ {xs : List V} {ds : List PyData} {us : List Value}, RpA K G xs ds → Vals xs us → PySem.W.EachIs (fun u d => ∃ v, RelV v u ∧ Rp K G v d) us ds
  | _, _, _, .nil, .nil => .nil
  | _, _, _, .cons h t, .cons r q => .cons ⟨_, r, h⟩ (each_of t q)
theorem each_reads {X : Cx} {pins : List (Addr × Obj)} {σ : L2.St} {H : Hp} {s : Shared} (I : Inv X pins σ H s) : ∀ {xs : List V} {ds : List PyData} {us : List Value}, RpA X.K H xs ds → Vals xs us → PySem.W.EachIs (fun u d => ∃ as, Reads s.heap u (id d) as) us ds
  | _, _, _, .nil, .nil => .nil
  | _, _, _, .cons h t, .cons r q => .cons (Dp.reads I _ _ _ h.dp r) (each_reads I t q)
theorem each_back {K : Fg} {H : Hp} : ∀ {us : List Value} {ds : List PyData}, PySem.W.EachIs (fun u d => ∃ v, RelV v u ∧ Rp K H v d) us ds → ∃ ws, Vals ws us ∧ RpA K H ws ds
  | _, _, .nil => ⟨[], .nil, .nil⟩
  | _, _, .cons ⟨v, h1, h2⟩ t => by
    obtain ⟨ws, h3, h4⟩ := each_back t
    exact ⟨v :: ws, .cons h1 h3, .cons h2 h4⟩
theorem cr_sortedD (hu : X.A.units + 64 < cLine) : CallR X (.builtin "sorted") (rSortedD X.K) := by
  intro pins s σ H vs us Q I r h
  obtain ⟨a, xs, ds, G, rfl, hs, hG, hr, hal, hk, hz, hdp, q⟩ := h
  obtain ⟨its, rv, hl, hz2⟩ := I.list hs
  rw [Vals.ref1 r]
  refine PySem.W.sorted_data (bs := ds) (enc := id) hl.isList (each_of hr rv) (each_reads I (hr.ext hG) rv) (by rw [List.map_id]; exact hal) (by rw [List.map_id]; exact hk) hz (fun d hd => ?_) fun out ho eo => ?_
  · have := hdp d hd
    show X.A.units + 2 + d.depth < cLine
    omega
  · obtain ⟨ws, h1, h2⟩ := each_back eo
    obtain ⟨ep, he'⟩ := PyProof.Rows.sortedAll_at s.heap its out.toArray
    have hlen : ws.length ≤ sizeLine := by rw [h1.length, ho]; exact hz
    exact ⟨.ref _, upd H (s.heap.objs.size + 1) (.lst ws), I.laid (t' := s.toks) (fun _ _ => PyProof.Rows.sortedAll_old) (Nat.le_succ _) (show ObjOk X.prog X.w _ _ _ (.lst ws) from ⟨hlen, out, ep, h1, he'⟩), rfl, q _ _ (I.hok.fresh (Nat.le_succ _)) h2⟩
theorem rn_sortedC {s : Sl} {ds : List PyData} (q : SeqLs M s ds) (hal : PySem.W.AllAlike ds) (hk : PySem.W.Sortable ds) (hz : ds.length ≤ 100000) (hd : ∀ d ∈ ds, d.depth ≤ 50) (h : ∀ l, P (.v (.ref l)) ((l, .lst (sortD ds)) :: M)) : RnD K B0 F ρ κ (rSortedD K) [s] M P := fun σ vs H xs Q hl g qq => by
  obtain ⟨x, rfl⟩ := one_arg hl rfl
  obtain ⟨B, g⟩ := g
  obtain ⟨a, ys, rfl, h1, h2⟩ := q.at g g.fst
  exact ⟨a, ys, ds, B, rfl, h1, g.bh, h2, hal, hk, Nat.le_trans hz (by decide), hd, fun p ws hp hw => qq _ _ _ _ (cell_new g.pop hp hw) (h p)⟩

/-! ### in -/
theorem rpa_flat {H : Hp} : ∀ {ws : List V} {ds : List PyData} {vs : List V}, RpA K H ws ds → ds.map flatD = vs.map some → ws = vs
  | _, [], [], h, _ => by cases h; rfl
  | _, d :: ds, v :: vs, h, e => by
    cases h with
    | cons h1 h2 =>
      rw [List.map_cons, List.map_cons, List.cons.injEq] at e
      rw [Rp.flat h1 e.1, rpa_flat h2 e.2]
  | _, _ :: _, [], _, e => by cases e
  | _, [], _ :: _, _, e => by cases e
theorem flatV_of {d : PyData} {v : V} (h : flatD d = some v) : flatV v = true := by
  cases d <;> first | (cases Option.some.inj h; rfl) | cases h
theorem flatVs_of : ∀ {ds : List PyData} {vs : List V}, ds.map flatD = vs.map some → vs.all flatV = true
  | [], [], _ => rfl
  | d :: ds, v :: vs, e => by
    rw [List.map_cons, List.map_cons, List.cons.injEq] at e
    rw [List.all_cons, flatV_of e.1, flatVs_of e.2] <;> rfl
  | _ :: _, [], e => by cases e
  | [], _ :: _, e => by cases e
theorem r2_in {s : Sl} {ds : List PyData} {d : PyData} {v : V} {vs : List V} {neg : Bool} (q : Seq M s ds) (hd : flatD d = some v) (hs : ds.map flatD = vs.map some) (h : P (.d (.bool (if neg then !inV v vs else inV v vs))) M) : R2D K B0 F ρ κ (rIn K neg) (.d d) s M P := fun σ vs' H x y Q g qq => by
  obtain ⟨B, g⟩ := g
  obtain ⟨a, ys, rfl, h1, h2⟩ := q.at g g.fst
  have e := Rp.flat g.pop.fst hd
  subst e
  have e := rpa_flat h2 hs
  subst e
  exact ⟨a, _, rfl, h1, flatV_of hd, flatVs_of hs, qq _ H _ M ⟨B, g.pop.pop.pushD (Rp.bl _)⟩ h⟩
/-- ints in ints -/
theorem inV_ints {i : Int} : ∀ {ns : List Int}, inV (.int i) (ns.map V.int) = decide (i ∈ ns)
  | [] => by simp [inV]
  | n :: ns => by
    have ih := inV_ints (i := i) (ns := ns)
    unfold inV at ih ⊢
    rw [List.map_cons, List.any_cons, ih]
    show (n == i || decide (i ∈ ns)) = _
    by_cases e : n = i
    · subst e; simp
    · have e' : ¬ i = n := fun z => e z.symm
      simp [e, e']
theorem flat_ints : ∀ ns : List Int, (ns.map PyData.int).map flatD = (ns.map V.int).map some
  | [] => rfl
  | n :: ns => by rw [List.map_cons, List.map_cons, List.map_cons, List.map_cons, flat_ints ns] <;> rfl
theorem r2_inI {s : Sl} {ns : List Int} {i : Int} (q : Seq M s (ns.map PyData.int)) (h : P (.d (.bool (decide (i ∈ ns)))) M) : R2D K B0 F ρ κ (rIn K false) (.d (.int i)) s M P := r2_in q rfl (flat_ints ns) (by rw [inV_ints]; exact h)
theorem r2_niI {s : Sl} {ns : List Int} {i : Int} (q : Seq M s (ns.map PyData.int)) (h : P (.d (.bool (!decide (i ∈ ns)))) M) : R2D K B0 F ρ κ (rIn K true) (.d (.int i)) s M P := r2_in q rfl (flat_ints ns) (by rw [inV_ints]; exact h)

/-! ### isinstance -/
def tyD : PyData → Value
  | .none => .type "NoneType"
  | .bool _ => .type "bool"
  | .int _ => .type "int"
  | .str _ => .type "str"
  | .list _ => .type "list"
  | .tuple _ => .type "tuple"
  | .dict _ => .type "dict"
theorem tyX_of {H : Hp} {v : V} {d : PyData} (h : Rp K H v d) : TyX K H v (tyD d) := by
  cases h with
  | non => exact .base .non
  | bl b => exact .base (.bl b)
  | int i => exact .base (.int i)
  | str x => exact .base (.str x)
  | lst h hs => exact .base (.lst h)
  | tup h hs =>
    rcases h with (h | ⟨o, h⟩) | ⟨o, its, n, h, hc, _⟩
    · exact .base (.tup h)
    · exact .fTuple h
    · exact .kTuple h hc
theorem rn_isi {d : PyData} {T : String} {b : Bool} (hb : PySem.W.kitOne K (tyD d) (.type T) = some b) (h : P (.d (.bool b)) M) : RnD K B0 F ρ κ (rIsi K) [.d d, .v (.ty T)] M P := fun σ vs H xs Q hl g qq => by
  obtain ⟨x, y, rfl⟩ := two_args hl rfl
  obtain ⟨B, g⟩ := g
  have e : y = .ty T := g.pop.fst
  subst e
  have r : Rp K B x d := g.fst
  exact ⟨x, .ty T, tyD d, .type T, b, rfl, .ty T, tyX_of (r.ext g.bh), hb, qq _ H _ M ⟨B, g.pop.pop.pushD (Rp.bl _)⟩ h⟩

/-! ### tuples: +, slices -/
theorem r2_catT {xs ys : List PyData} (hz : xs.length + ys.length ≤ 100000) (h : P (.d (.tuple (xs ++ ys))) M) : R2D K B0 F ρ κ (rCatA K) (.d (.tuple xs)) (.d (.tuple ys)) M P := fun σ vs H x y Q g qq => by
  obtain ⟨B, g⟩ := g
  obtain ⟨b, vb, rfl, hb, rb⟩ := Rp.tup_inv g.fst
  obtain ⟨a, va, e, ha, ra⟩ := Rp.tup_inv g.pop.fst
  subst e
  refine ⟨a, b, va, vb, rfl, rfl, same_t g.bh ha, same_t g.bh hb, by rw [ra.len, rb.len]; exact Nat.le_trans hz (by decide), fun e => ?_, fun _ e => ?_, fun _ _ p hp => ?_⟩
  · subst e
    cases ra
    exact qq _ H _ M ⟨B, g.pop.pop.pushD (.tup hb rb)⟩ h
  · subst e
    cases rb
    rw [List.append_nil] at h
    exact qq _ H _ M ⟨B, g.pop.pop.pushD (.tup ha ra)⟩ h
  · have bp : B p = none := g.bh.free hp
    exact qq _ _ _ M ⟨_, (g.pop.pop.laid (o := .tup (va ++ vb)) hp).pushD (.tup (SqT.of upd_same) ((ra.app rb).ext fun b u z => by rw [upd_ne (ne_of_none z bp)]; exact z))⟩ h
theorem rs_tup {ds : List PyData} {l u : Option Int} (h : P (.d (.tuple (cutD ds l u))) M) : RsD K B0 F ρ κ (rSlA K) (.d (.tuple ds)) l u M P := fun σ vs H x Q g qq => by
  obtain ⟨B, g⟩ := g
  obtain ⟨a, va, rfl, ha, ra⟩ := Rp.tup_inv g.fst
  refine ⟨a, va, rfl, same_t g.bh ha, fun e => ?_, fun _ p hp => ?_⟩
  · rw [ra.len] at e
    rw [cutD_all e] at h
    exact qq _ H _ M ⟨B, g.pop.pushD (.tup ha ra)⟩ h
  · have bp : B p = none := g.bh.free hp
    exact qq _ _ _ M ⟨_, (g.pop.laid (o := .tup (cutV va l u)) hp).pushD (.tup (SqT.of upd_same) ((cut_rp ra l u).ext fun b u z => by rw [upd_ne (ne_of_none z bp)]; exact z))⟩ h

/-! ### lists: +, append, +=, stores -/
theorem cell_at {σ : L2.St} {vs : List V} {H B : Hp} {n : Nat} {a : Addr} {ds : List PyData} (g : GoodB K B0 F M ρ κ σ vs H B) (h : M[n]? = some (a, .lst ds)) : ∃ ws, H a = some (.lst ws) ∧ RpA K B ws ds := by
  obtain ⟨_, _, o, ho, ws, rfl, hw⟩ := g.cells _ (List.mem_of_getElem? h)
  exact ⟨ws, ho, hw⟩
/-- xs + ys, both tracked lists: a cell -/
inductive SeqCl (M : Cs) : Sl → List PyData → Prop
  | lst (ds : List PyData) : SeqCl M (.d (.list ds)) ds
  | cell {a : Addr} {ds : List PyData} : (a, .lst ds) ∈ M → SeqCl M (.v (.ref a)) ds
theorem SeqCl.at {σ : L2.St} {vs : List V} {H B : Hp} {s : Sl} {ds : List PyData} {v : V} (q : SeqCl M s ds) (g : GoodB K B0 F M ρ κ σ vs H B) (hv : VOk K F B v s) : ∃ a xs, v = .ref a ∧ H a = some (.lst xs) ∧ RpA K B xs ds := by
  cases q with
  | lst ds => obtain ⟨a, xs, rfl, h1, h2⟩ := Rp.lst_inv hv; exact ⟨a, xs, rfl, g.bh _ _ h1, h2⟩
  | @cell a ds hm =>
    have e : v = .ref a := hv
    subst e
    obtain ⟨_, _, o, ho, ws, rfl, hw⟩ := g.cells _ hm
    exact ⟨a, ws, rfl, ho, hw⟩
theorem r2_catC {s t : Sl} {xs ys : List PyData} (q1 : SeqCl M s xs) (q2 : SeqCl M t ys) (hz : xs.length + ys.length ≤ 100000) (h : ∀ l, P (.v (.ref l)) ((l, .lst (xs ++ ys)) :: M)) : R2D K B0 F ρ κ rCat s t M P := fun σ vs H x y Q g qq => by
  obtain ⟨B, g⟩ := g
  obtain ⟨b, vb, rfl, hb, rb⟩ := q2.at g g.fst
  obtain ⟨a, va, e, ha, ra⟩ := q1.at g g.pop.fst
  subst e
  exact ⟨a, b, va, vb, rfl, rfl, ha, hb, by rw [ra.len, rb.len]; exact Nat.le_trans hz (by decide), fun p hp => qq _ _ _ _ (cell_new g.pop.pop hp (ra.app rb)) (h p)⟩
/-- xs += ys: the cell at place n grows -/
theorem r2_ext (n : Nat) {a : Addr} {t : Sl} {xs ys : List PyData} (hn : M[n]? = some (a, .lst xs)) (q2 : SeqCl M t ys) (hz : xs.length + ys.length ≤ 100000) (h : P (.v (.ref a)) (M.set n (a, .lst (xs ++ ys)))) : R2D K B0 F ρ κ rExt2 (.v (.ref a)) t M P := fun σ vs H x y Q g qq => by
  obtain ⟨B, g⟩ := g
  obtain ⟨b, vb, rfl, hb, rb⟩ := q2.at g g.fst
  have e : x = .ref a := g.pop.fst
  subst e
  obtain ⟨va, ha, ra⟩ := cell_at g hn
  exact ⟨a, b, va, vb, rfl, rfl, ha, hb, by rw [ra.len, rb.len]; exact Nat.le_trans hz (by decide), qq _ _ _ _ ⟨B, (g.pop.pop.write (c' := .lst (xs ++ ys)) hn ⟨_, rfl, ra.app rb⟩).pushV⟩ h⟩
variable {o : Expr} {apos cpos : Pos} {k : KK}
/-- o.append(e): o a cell at place n -/
theorem de_append (n : Nat) (h : DE X B0 F M ρ κ o fun r1 M1 => ∃ a ds', r1 = .v (.ref a) ∧ (a, MC.lst ds') ∈ M1 ∧ DE X B0 F M1 ρ (r1 :: κ) e fun r2 M2 => ∃ ds y, r2 = .d y ∧ M2[n]? = some (a, .lst ds) ∧ ds.length < 100000 ∧ P (.d .none) (M2.set n (a, .lst (ds ++ [y]))))
    (hbase : attributeBase o "append" X.env (eval o X.env) = eval o X.env := by rfl)
    (hfew : ((backTo cpos (starEach (e :: []) X.env)).all (fun x => !x.1) && (backToKw cpos (keywordEach [] X.env)).all (fun x => x.1.isSome)
      && decide ((e :: ([] : List Expr)).length + ([] : List Keyword).length + (if ([] : List Keyword).isEmpty then 0 else 1) < 30)) = true := by rfl)
    (hline : (apos.endLine == cpos.line) = true := by rfl) (hs : starEach (e :: []) X.env = (false, eval e X.env) :: starEach [] X.env := by rfl) (hplain : (backTo cpos (starEach [] X.env)).any (·.1) = false := by rfl) :
    DE X B0 F M ρ κ (.Call (.Attribute o "append" apos) [e] [] cpos) P := fun σ vs H Q g q => by
  refine tOf_of (pe_bm PySem.F.plainAttrs_list PySem.F.slot_list_append PySem.F.type_list_append (X := X) mt_append pe_self (pa_cons pe_self pa_nil hs) hbase hfew hline hs hplain) ?_
  refine h σ vs H _ g fun x H1 r1 M1 g1 h1 => ?_
  obtain ⟨a, ds', rfl, hm, h1⟩ := h1
  have e := g1.ref
  subst e
  refine ⟨?_, h1 σ (.ref a :: vs) H1 _ g1 fun y H2 r2 M2 g2 h2 => ?_⟩
  · obtain ⟨B, g1⟩ := g1
    obtain ⟨_, _, u, ho, ws, rfl, hw⟩ := g1.cells _ hm
    exact .inl ⟨rfl, ws, SqL.of ho⟩
  · obtain ⟨ds, yd, rfl, hn, hl, hp⟩ := h2
    obtain ⟨B, g2⟩ := g2
    obtain ⟨ws, ho, hw⟩ := cell_at g2 hn
    have hz : (100000 : Nat) ≤ sizeLine := by decide
    exact ⟨a, ws, y, rfl, rfl, ho, by rw [hw.len]; omega, q _ _ _ _ ⟨B, (g2.pop.pop.write (c' := .lst (ds ++ [yd])) hn ⟨_, rfl, hw.app (.cons g2.fst .nil)⟩).pushD .non⟩ hp⟩
/-- xs.index(y), ints: the first place -/
theorem de_index (h : DE X B0 F M ρ κ o fun r1 M1 => ∃ ns : List Int, SeqLs M1 r1 (ns.map PyData.int) ∧ DE X B0 F M1 ρ (r1 :: κ) e fun r2 M2 => ∃ (i : Int) (j : Nat), M2 = M1 ∧ r2 = .d (.int i) ∧ ns[j]? = some i ∧ (∀ m, m < j → ns[m]? ≠ some i) ∧ P (.d (.int (j : Nat))) M2)
    (hbase : attributeBase o "index" X.env (eval o X.env) = eval o X.env := by rfl)
    (hfew : ((backTo cpos (starEach (e :: []) X.env)).all (fun x => !x.1) && (backToKw cpos (keywordEach [] X.env)).all (fun x => x.1.isSome)
      && decide ((e :: ([] : List Expr)).length + ([] : List Keyword).length + (if ([] : List Keyword).isEmpty then 0 else 1) < 30)) = true := by rfl)
    (hline : (apos.endLine == cpos.line) = true := by rfl) (hs : starEach (e :: []) X.env = (false, eval e X.env) :: starEach [] X.env := by rfl) (hplain : (backTo cpos (starEach [] X.env)).any (·.1) = false := by rfl) :
    DE X B0 F M ρ κ (.Call (.Attribute o "index" apos) [e] [] cpos) P := fun σ vs H Q g q => by
  refine tOf_of (pe_bm PySem.F.plainAttrs_list PySem.F.slot_list_index PySem.F.type_list_index (X := X) mt_index pe_self (pa_cons pe_self pa_nil hs) hbase hfew hline hs hplain) ?_
  refine h σ vs H _ g fun x H1 r1 M1 g1 h1 => ?_
  obtain ⟨ns, hq, h1⟩ := h1
  obtain ⟨B, g1b⟩ := id g1
  obtain ⟨a, ys, rfl, hs1, hr1⟩ := hq.at g1b g1b.fst
  refine ⟨.inl ⟨rfl, ys, hs1⟩, h1 σ (.ref a :: vs) H1 _ g1 fun y H2 r2 M2 g2 h2 => ?_⟩
  obtain ⟨i, j, rfl, rfl, hj, hm, hp⟩ := h2
  have e := g2.int
  subst e
  obtain ⟨B, g2⟩ := g2
  obtain ⟨a', ys', e, hs2, hr2⟩ := hq.at g2 g2.pop.fst
  cases e
  have e := hr2.ints
  subst e
  have hmap : ∀ {m : Nat} {z : V}, (ns.map V.int)[m]? = some z → ∃ k, ns[m]? = some k ∧ z = .int k := fun {m z} e => by
    rw [List.getElem?_map] at e
    cases q : ns[m]? with
    | none => rw [q] at e; cases e
    | some k => rw [q] at e; exact ⟨k, rfl, (Option.some.inj e).symm⟩
  refine ⟨a, ns.map V.int, .int i, j, .int i, rfl, rfl, hs2, rfl, List.all_eq_true.mpr fun z hz => ?_, by rw [List.getElem?_map, hj]; rfl, by show (i == i) = true; simp, fun m z hm' hz => ?_, q _ H2 _ _ ⟨B, g2.pop.pop.pushD (.int _)⟩ hp⟩
  · obtain ⟨k, _, rfl⟩ := List.mem_map.mp hz
    rfl
  · obtain ⟨k, hk, rfl⟩ := hmap hz
    show (k == i) = false
    have : k ≠ i := fun e => hm m hm' (by rw [hk, e])
    simpa using this
/-- o[i] = .. : o a cell at place n -/
theorem dg_sub (n : Nat) {r : Sl} {Pg : Cs → List Sl → Prop} (h : DE X B0 F M ρ (r :: κ) o fun r1 M1 => DE X B0 F M1 ρ (r1 :: r :: κ) e fun r2 M2 => ∃ a ds y i j, r1 = .v (.ref a) ∧ r2 = .d (.int i) ∧ r = .d y ∧ M2[n]? = some (a, .lst ds) ∧ ixN ds.length i = some j ∧ Pg (M2.set n (a, .lst (ds.set j y))) ρ)
    (ha : ∀ v, assign (.Subscript o e pos) X.env v = (do
      let ov ← holding [v] (eval o X.env)
      let iv ← holding [v, ov] (eval e X.env)
      standAt pos
      holding [v, ov, iv] (setItem ov iv v)
      release [v, ov, iv] []) := by intro _; rfl) : DG X B0 F M ρ κ r (.Subscript o e pos) Pg := fun σ vs H x Q g q => by
  refine tOfG_of (pg_sub pe_self pe_self set_list ha) ?_
  refine h σ (x :: vs) H _ g fun v1 H1 r1 M1 g1 h1 => h1 σ (v1 :: x :: vs) H1 _ g1 fun v2 H2 r2 M2 g2 h2 => ?_
  obtain ⟨a, ds, y, i, j, rfl, rfl, rfl, hn, hi, hp⟩ := h2
  have e := g2.int
  subst e
  have e := g2.pop.ref
  subst e
  obtain ⟨B, g2⟩ := g2
  obtain ⟨ws, ho, hw⟩ := cell_at g2 hn
  exact ⟨a, ws, i, j, rfl, rfl, ho, by rw [hw.len]; exact hi, q _ _ _ _ ⟨B, g2.pop.pop.pop.write (c' := .lst (ds.set j y)) hn ⟨_, rfl, hw.set g2.pop.pop.fst j⟩⟩ hp⟩

/-! ### raw lists: a cell whose values are told one by one -/
def slV : V → Sl
  | .int i => .d (.int i)
  | .bl b => .d (.bool b)
  | .str x => .d (.str x)
  | .non => .d .none
  | v => .v v
theorem slV_ok {F B : Hp} (v : V) : VOk K F B v (slV v) := by
  cases v <;> first | exact (rfl : _ = _) | exact Rp.int _ | exact Rp.bl _ | exact Rp.str _ | exact Rp.non
theorem raw_at {σ : L2.St} {vs : List V} {H B : Hp} {a : Addr} {o : HO} (g : GoodB K B0 F M ρ κ σ vs H B) (h : (a, .raw o) ∈ M) : H a = some o := by
  obtain ⟨_, _, u, ho, e⟩ := g.cells _ h
  have e : u = o := e
  subst e
  exact ho
theorem r2_ixRaw {a : Addr} {ws : List V} {i : Int} {v : V} (hm : (a, .raw (.lst ws)) ∈ M) (e : atI ws i = some v) (h : P (slV v) M) : R2D K B0 F ρ κ (rIxL K) (.v (.ref a)) (.d (.int i)) M P := fun σ vs H x y Q g qq => by
  have ey := g.int
  subst ey
  have ex := g.pop.ref
  subst ex
  obtain ⟨B, g⟩ := g
  exact ⟨a, ws, i, v, rfl, rfl, SqL.of (raw_at g hm), e, qq _ H _ M ⟨B, g.pop.pop.push (slV_ok v)⟩ h⟩
theorem dg_subRaw (n : Nat) {r : PyData} {Pg : Cs → List Sl → Prop} (h : DE X B0 F M ρ (.d r :: κ) o fun r1 M1 => DE X B0 F M1 ρ (r1 :: .d r :: κ) e fun r2 M2 => ∃ a ws v i j, r1 = .v (.ref a) ∧ r2 = .d (.int i) ∧ flatD r = some v ∧ M2[n]? = some (a, .raw (.lst ws)) ∧ ixN ws.length i = some j ∧ Pg (M2.set n (a, .raw (.lst (ws.set j v)))) ρ)
    (ha : ∀ v, assign (.Subscript o e pos) X.env v = (do
      let ov ← holding [v] (eval o X.env)
      let iv ← holding [v, ov] (eval e X.env)
      standAt pos
      holding [v, ov, iv] (setItem ov iv v)
      release [v, ov, iv] []) := by intro _; rfl) : DG X B0 F M ρ κ (.d r) (.Subscript o e pos) Pg := fun σ vs H x Q g q => by
  refine tOfG_of (pg_sub pe_self pe_self set_list ha) ?_
  refine h σ (x :: vs) H _ g fun v1 H1 r1 M1 g1 h1 => h1 σ (v1 :: x :: vs) H1 _ g1 fun v2 H2 r2 M2 g2 h2 => ?_
  obtain ⟨a, ws, v, i, j, rfl, rfl, hv, hn, hi, hp⟩ := h2
  have e := g2.int
  subst e
  have e := g2.pop.ref
  subst e
  have e := g2.pop.pop.flat hv
  subst e
  obtain ⟨B, g2⟩ := g2
  have ho := raw_at g2 (List.mem_of_getElem? hn)
  exact ⟨a, ws, i, j, rfl, rfl, ho, hi, q _ _ _ _ ⟨B, g2.pop.pop.pop.write (c' := .raw (.lst (ws.set j _))) hn rfl⟩ hp⟩
end
end DL
set_option maxHeartbeats 2000000
namespace DL
open PySem PySem.Spec PyProof.Rows L2

/-! ### a def by its data in a head -/
section
variable {P : Program} {w : World} {K : Fg} {mg : Str → Option Value} {base : Heap}
theorem fn_okD {x qual : Str} {st : Stmt} {f : Addr} {fd : FuncData} {N ps : List Str} {k : Nat} {R : List Sl → Cs → (Sl → Cs → Prop) → Prop} (Fu : FunD K x qual (defArgs st) (defBody st) (defScope st) [] [] f fd) (S : FnScope N ps (defScope st)) (len : ∀ κ M W, R κ M W → κ.length = ps.length)
    (body : ∀ (cdv : Value) (A : Around) (outer : List Env) (s : Shared) (H : Hp) (E : XK), Room k (A.deeper (envOfC qual (defScope st) s.heap.objs.size f cdv)) → N.Nodup → ∀ (B0 F : Hp) (κ : List Sl) (M : Cs) (W : Sl → Cs → Prop), R κ M W →
      DB (cxOf CX0 P w K mg base N qual (defScope st) f cdv A outer s H E).nox B0 F M (κ ++ List.replicate (N.length - ps.length) .un) [] (defBody st) { nx := fun M' _ => W (.d .none) M', rt := W }) : FnOk P w K mg base CX0 (k + 1) f fd ps (SpG K R) := by
  refine Fu.ok S (fun vs H Q E h => ?_) (fun cdv A outer s H vs Q E hr h => ?_)
  · obtain ⟨B0, F, M, κ, W, ⟨B, g⟩, _, hR, _⟩ := h
    rw [Paired.length g.st]
    exact len κ M W hR
  · obtain ⟨B0, F, M, κ, W, ⟨B, g⟩, hn, hR, q⟩ := h
    refine ⟨tOfB _ (defBody st), PSs.nox pb_self, ?_⟩
    have hl := Paired.length g.st
    have hk := len κ M W hR
    refine body cdv A outer s H E hr S.nd B0 F κ M W hR (L2.start N vs) [] H _ ⟨B, (g.stk .nil).slt ?_⟩ ⟨fun σ' H' M' ρ' g' n => ?_, fun v H' r M' g' n => q v H' r M' g' n, fun _ _ _ _ _ n => n.elim, fun _ _ _ _ _ n => n.elim⟩
    · unfold L2.start
      rw [hl, hk]
      exact start_sok g.st
    · refine q .non H' (.d .none) M' ?_ n
      obtain ⟨B', g'⟩ := g'
      exact ⟨B', (g'.stk .nil |>.slt .nil).pushD .non⟩
end

/-! ### dicts whose keys are ints and texts -/
def valD (kvs : List (Key × PyData)) (k : Key) : Option PyData := (kvs.find? fun kv => decide (kv.1 = k)).map (·.2)
def putD (kvs : List (Key × PyData)) (k : Key) (v : PyData) : List (Key × PyData) := if (kvs.any fun kv => decide (kv.1 = k)) = true then kvs.map (fun kv => if kv.1 = k then (kv.1, v) else kv) else kvs ++ [(k, v)]
abbrev EntsOk (K : Fg) (B : Hp) : List (Key × V) → List (Key × PyData) → Prop := Paired (fun (p : Key × V) (q : Key × PyData) => p.1 = q.1 ∧ Rp K B p.2 q.2)
section
variable {X : Cx} {K : Fg} {B0 F : Hp} {M : Cs} {ρ κ : List Sl} {P : Sl → Cs → Prop} {a b e o i : Expr} {pos : Pos} {k : KK}
theorem ents_val {B : Hp} {ky : Key} : ∀ {kvs : List (Key × V)} {es : List (Key × PyData)}, EntsOk K B kvs es → (∀ d, valD es ky = some d → ∃ v, valV kvs ky = some v ∧ Rp K B v d) ∧ (valD es ky = none → valV kvs ky = none)
  | _, _, .nil => ⟨(fun d h => nomatch h), fun _ => rfl⟩
  | p :: kvs, q :: es, .cons h t => by
    obtain ⟨ih1, ih2⟩ := ents_val (ky := ky) t
    obtain ⟨pk, pv⟩ := p
    obtain ⟨qk, qv⟩ := q
    obtain ⟨h1, h2⟩ := h
    have h1 : pk = qk := h1
    subst h1
    unfold valD valV at *
    rw [List.find?_cons, List.find?_cons]
    by_cases c : pk = ky
    · rw [show decide ((pk, qv).1 = ky) = true from decide_eq_true c]
      exact ⟨fun d h => ⟨pv, rfl, by cases Option.some.inj h; exact h2⟩, fun h => by cases h⟩
    · rw [show decide ((pk, qv).1 = ky) = false from decide_eq_false c]
      exact ⟨ih1, ih2⟩
theorem ents_any {B : Hp} {ky : Key} : ∀ {kvs : List (Key × V)} {es : List (Key × PyData)}, EntsOk K B kvs es → (kvs.any fun kv => decide (kv.1 = ky)) = (es.any fun kv => decide (kv.1 = ky))
  | _, _, .nil => rfl
  | p :: kvs, q :: es, .cons h t => by rw [List.any_cons, List.any_cons, ents_any t, h.1]
theorem ents_put {B : Hp} {ky : Key} {v : V} {d : PyData} (r : Rp K B v d) {kvs : List (Key × V)} {es : List (Key × PyData)} (h : EntsOk K B kvs es) : EntsOk K B (putK kvs ky v) (putD es ky d) := by
  unfold putK putD
  rw [ents_any h]
  by_cases c : (es.any fun kv => decide (kv.1 = ky)) = true
  · rw [if_pos c, if_pos c]
    clear c
    induction h with
    | nil => exact .nil
    | @cons p q ps qs h t ih =>
      rw [List.map_cons, List.map_cons]
      refine .cons ?_ ih
      obtain ⟨h1, h2⟩ := h
      by_cases c : p.1 = ky
      · rw [if_pos c, if_pos (h1 ▸ c)]; exact ⟨h1, r⟩
      · rw [if_neg c, if_neg (h1 ▸ c)]; exact ⟨h1, h2⟩
  · rw [if_neg c, if_neg c]
    exact Paired.app h (.cons ⟨rfl, r⟩ .nil)
theorem putD_len (kvs : List (Key × PyData)) (ky : Key) (v : PyData) : (putD kvs ky v).length ≤ kvs.length + 1 := by
  unfold putD
  split
  · rw [List.length_map]; omega
  · rw [List.length_append, List.length_cons, List.length_nil]; omega
theorem dic_at {σ : L2.St} {vs : List V} {H B : Hp} {a : Addr} {es : List (Key × PyData)} (g : GoodB K B0 F M ρ κ σ vs H B) (h : (a, .dic es) ∈ M) : ∃ kvs, H a = some (.dK kvs) ∧ EntsOk K B kvs es := by
  obtain ⟨_, _, u, ho, kvs, rfl, e⟩ := g.cells _ h
  exact ⟨kvs, ho, e⟩
/-- the key that a slot says -/
inductive KeyIs : Sl → Key → Prop
  | int (i : Int) : KeyIs (.d (.int i)) (.inl i)
  | str (x : Str) : KeyIs (.d (.str x)) (.inr x)
theorem KeyIs.v {σ : L2.St} {vs : List V} {H : Hp} {r : Sl} {ky : Key} {v : V} (q : KeyIs r ky) (g : Good K B0 F M ρ (r :: κ) σ (v :: vs) H) : v = kV ky := by
  cases q with
  | int i => exact g.int
  | str x => exact g.str
theorem de_dnew (h : ∀ p, P (.v (.ref p)) ((p, .dic []) :: M)) : DE X B0 F M ρ κ (.Dict [] [] pos) P := fun σ vs H Q g q => tOf_of pe_dnewK fun p hp => by
  obtain ⟨B, g⟩ := g
  exact q _ _ _ _ ⟨B, (g.cell (c := .dic []) hp ⟨[], rfl, .nil⟩).pushV⟩ (h p)
theorem de_dget (hu : X.A.units + 1 < cLine) (h : DE X B0 F M ρ κ o fun r1 M1 => DE X B0 F M1 ρ (r1 :: κ) i fun r2 M2 => ∃ a es ky d, r1 = .v (.ref a) ∧ (a, .dic es) ∈ M2 ∧ KeyIs r2 ky ∧ valD es ky = some d ∧ P (.d d) M2) (hs : NoSl i := by exact fun _ _ => rfl) : DE X B0 F M ρ κ (.Subscript o i pos) P :=
  fun σ vs H Q g q => tOf_of (pe_dget hu pe_self pe_self hs) (h σ vs H _ g fun x H1 r1 M1 g1 h1 => h1 σ (x :: vs) H1 _ g1 fun y H2 r2 M2 g2 h2 => by
    obtain ⟨a, es, ky, d, rfl, hm, hk, hd, hp⟩ := h2
    have e := g2.pop.ref
    subst e
    have e := hk.v g2
    subst e
    obtain ⟨B, g2⟩ := g2
    obtain ⟨kvs, ho, he⟩ := dic_at g2 hm
    obtain ⟨v, hv, hr⟩ := (ents_val he).1 d hd
    exact ⟨a, v, rfl, by rw [← hv]; exact DGet.k ho, q _ H2 _ M2 ⟨B, g2.pop.pop.pushD hr⟩ hp⟩)
theorem val_some {B : Hp} {ky : Key} {kvs : List (Key × V)} {es : List (Key × PyData)} (h : EntsOk K B kvs es) : (valV kvs ky).isSome = (valD es ky).isSome := by
  cases q : valD es ky with
  | none => rw [(ents_val h).2 q] <;> rfl
  | some d => obtain ⟨v, hv, _⟩ := (ents_val h).1 d q; rw [hv]; rfl
theorem de_din (hu : X.A.units + 1 < cLine) (h : DE X B0 F M ρ κ i fun r1 M1 => DE X B0 F M1 ρ (r1 :: κ) o fun r2 M2 => ∃ a es ky, r2 = .v (.ref a) ∧ (a, .dic es) ∈ M2 ∧ KeyIs r1 ky ∧ P (.d (.bool (valD es ky).isSome)) M2) (hb : behindInMarks .In o = false := by rfl) : DE X B0 F M ρ κ (.Compare i [.In] [o] pos) P :=
  fun σ vs H Q g q => tOf_of (pe_cmp (pc_din hu pe_self pe_self) hb) (h σ vs H _ g fun x H1 r1 M1 g1 h1 => h1 σ (x :: vs) H1 _ g1 fun y H2 r2 M2 g2 h2 => by
    obtain ⟨a, es, ky, rfl, hm, hk, hp⟩ := h2
    have e := g2.ref
    subst e
    have e := hk.v g2.pop
    subst e
    obtain ⟨B, g2⟩ := g2
    obtain ⟨kvs, ho, he⟩ := dic_at g2 hm
    exact ⟨a, _, rfl, DGet.k ho, q _ H2 _ M2 ⟨B, g2.pop.pop.pushD (by rw [val_some he]; exact .bl _)⟩ hp⟩)
theorem de_dnotin (hu : X.A.units + 1 < cLine) (h : DE X B0 F M ρ κ i fun r1 M1 => DE X B0 F M1 ρ (r1 :: κ) o fun r2 M2 => ∃ a es ky, r2 = .v (.ref a) ∧ (a, .dic es) ∈ M2 ∧ KeyIs r1 ky ∧ P (.d (.bool (!(valD es ky).isSome))) M2) (hb : behindInMarks .NotIn o = false := by rfl) : DE X B0 F M ρ κ (.Compare i [.NotIn] [o] pos) P :=
  fun σ vs H Q g q => tOf_of (pe_cmp (pc_dnotin hu pe_self pe_self) hb) (h σ vs H _ g fun x H1 r1 M1 g1 h1 => h1 σ (x :: vs) H1 _ g1 fun y H2 r2 M2 g2 h2 => by
    obtain ⟨a, es, ky, rfl, hm, hk, hp⟩ := h2
    have e := g2.ref
    subst e
    have e := hk.v g2.pop
    subst e
    obtain ⟨B, g2⟩ := g2
    obtain ⟨kvs, ho, he⟩ := dic_at g2 hm
    exact ⟨a, _, rfl, DGet.k ho, q _ H2 _ M2 ⟨B, g2.pop.pop.pushD (by rw [val_some he]; exact .bl _)⟩ hp⟩)
theorem dt_din {PT : Bool → Cs → Prop} (hu : X.A.units + 1 < cLine) (h : DE X B0 F M ρ κ i fun r1 M1 => DE X B0 F M1 ρ (r1 :: κ) o fun r2 M2 => ∃ a es ky, r2 = .v (.ref a) ∧ (a, .dic es) ∈ M2 ∧ KeyIs r1 ky ∧ PT (valD es ky).isSome M2) (hb : behindInMarks .In o = false := by rfl) : DT X B0 F M ρ κ (.Compare i [.In] [o] pos) PT :=
  fun σ vs H Q g q => tOfT_of (pt_cmp (pc_din hu pe_self pe_self) hb) (h σ vs H _ g fun x H1 r1 M1 g1 h1 => h1 σ (x :: vs) H1 _ g1 fun y H2 r2 M2 g2 h2 => by
    obtain ⟨a, es, ky, rfl, hm, hk, hp⟩ := h2
    have e := g2.ref
    subst e
    have e := hk.v g2.pop
    subst e
    obtain ⟨B, g2⟩ := g2
    obtain ⟨kvs, ho, he⟩ := dic_at g2 hm
    exact ⟨a, _, rfl, DGet.k ho, _, rfl, by rw [val_some he]; exact q _ H2 M2 ⟨B, g2.pop.pop⟩ hp⟩)
theorem dt_dnotin {PT : Bool → Cs → Prop} (hu : X.A.units + 1 < cLine) (h : DE X B0 F M ρ κ i fun r1 M1 => DE X B0 F M1 ρ (r1 :: κ) o fun r2 M2 => ∃ a es ky, r2 = .v (.ref a) ∧ (a, .dic es) ∈ M2 ∧ KeyIs r1 ky ∧ PT (!(valD es ky).isSome) M2) (hb : behindInMarks .NotIn o = false := by rfl) : DT X B0 F M ρ κ (.Compare i [.NotIn] [o] pos) PT :=
  fun σ vs H Q g q => tOfT_of (pt_cmp (pc_dnotin hu pe_self pe_self) hb) (h σ vs H _ g fun x H1 r1 M1 g1 h1 => h1 σ (x :: vs) H1 _ g1 fun y H2 r2 M2 g2 h2 => by
    obtain ⟨a, es, ky, rfl, hm, hk, hp⟩ := h2
    have e := g2.ref
    subst e
    have e := hk.v g2.pop
    subst e
    obtain ⟨B, g2⟩ := g2
    obtain ⟨kvs, ho, he⟩ := dic_at g2 hm
    exact ⟨a, _, rfl, DGet.k ho, _, rfl, by rw [val_some he]; exact q _ H2 M2 ⟨B, g2.pop.pop⟩ hp⟩)
/-- d[k] = .. : d a cell at place n -/
theorem dg_subD (n : Nat) (hu : X.A.units + 1 < cLine) {r : Sl} {Pg : Cs → List Sl → Prop} (h : DE X B0 F M ρ (r :: κ) o fun r1 M1 => DE X B0 F M1 ρ (r1 :: r :: κ) e fun r2 M2 => ∃ a es y ky, r1 = .v (.ref a) ∧ KeyIs r2 ky ∧ r = .d y ∧ M2[n]? = some (a, .dic es) ∧ es.length < 100000 ∧ Pg (M2.set n (a, .dic (putD es ky y))) ρ)
    (ha : ∀ v, assign (.Subscript o e pos) X.env v = (do
      let ov ← holding [v] (eval o X.env)
      let iv ← holding [v, ov] (eval e X.env)
      standAt pos
      holding [v, ov, iv] (setItem ov iv v)
      release [v, ov, iv] []) := by intro _; rfl) : DG X B0 F M ρ κ r (.Subscript o e pos) Pg := fun σ vs H x Q g q => by
  refine tOfG_of (pg_sub pe_self pe_self (set_dict hu) ha) ?_
  refine h σ (x :: vs) H _ g fun v1 H1 r1 M1 g1 h1 => h1 σ (v1 :: x :: vs) H1 _ g1 fun v2 H2 r2 M2 g2 h2 => ?_
  obtain ⟨a, es, y, ky, rfl, hk, rfl, hn, hl, hp⟩ := h2
  have e := g2.pop.ref
  subst e
  have e := hk.v g2
  subst e
  obtain ⟨B, g2⟩ := g2
  obtain ⟨kvs, ho, he⟩ := dic_at g2 (List.mem_of_getElem? hn)
  have hz : (100000 : Nat) ≤ sizeLine := by decide
  exact ⟨a, _, rfl, DPut.k ho (by rw [Paired.length he]; omega), q _ _ _ _ ⟨B, g2.pop.pop.pop.write (c' := .dic (putD es ky y)) hn ⟨_, rfl, ents_put g2.pop.pop.fst he⟩⟩ hp⟩
/-- the statement d[k] = e -/
theorem ds_dput (n : Nat) (hu : X.A.units + 1 < cLine) {v : Expr} {pos' : Pos} (h : DE X B0 F M ρ κ v fun r M0 => DE X B0 F M0 ρ (r :: κ) o fun r1 M1 => DE X B0 F M1 ρ (r1 :: r :: κ) e fun r2 M2 => ∃ a es y ky, r1 = .v (.ref a) ∧ KeyIs r2 ky ∧ r = .d y ∧ M2[n]? = some (a, .dic es) ∧ es.length < 100000 ∧ k.nx (M2.set n (a, .dic (putD es ky y))) ρ)
    (hs : swapsWith v (some (.Subscript o e pos')) pos.line X.env = pure false := by rfl) : DS X B0 F M ρ κ (.Assign [.Subscript o e pos'] v pos) k := fun σ vs H D g c => tOfS_of (ps_dput hu pe_self pe_self pe_self hs) (by
    refine h σ vs H _ g fun v0 H0 r0 M0 g0 h0 => h0 σ (v0 :: vs) H0 _ g0 fun v1 H1 r1 M1 g1 h1 => h1 σ (v1 :: v0 :: vs) H1 _ g1 fun v2 H2 r2 M2 g2 h2 => ?_
    obtain ⟨a, es, y, ky, rfl, hk, rfl, hn, hl, hp⟩ := h2
    have e := g2.pop.ref
    subst e
    have e := hk.v g2
    subst e
    obtain ⟨B, g2⟩ := g2
    obtain ⟨kvs, ho, he⟩ := dic_at g2 (List.mem_of_getElem? hn)
    have hz : (100000 : Nat) ≤ sizeLine := by decide
    exact ⟨a, _, rfl, DPut.k ho (by rw [Paired.length he]; omega), c.nx _ _ _ _ ⟨B, g2.pop.pop.pop.write (c' := .dic (putD es ky y)) hn ⟨_, rfl, ents_put g2.pop.pop.fst he⟩⟩ hp⟩)
/-- {k: v}: one entry -/
theorem de_disp1 {ke ve : Expr} (h : ∀ p, DE X B0 F ((p, .dic []) :: M) ρ κ ke fun r1 M1 => DE X B0 F M1 ρ (r1 :: κ) ve fun r2 M2 => ∃ ky d M3, KeyIs r1 ky ∧ r2 = .d d ∧ M2 = (p, .dic []) :: M3 ∧ P (.v (.ref p)) ((p, .dic [(ky, d)]) :: M3)) : DE X B0 F M ρ κ (.Dict [some ke] [ve] pos) P := fun σ vs H Q g q => tOf_of (pe_disp (pps_cons pe_self pe_self pps_nil) (by rfl) (by rfl) (fun z => by cases z) (by decide : 1 ≤ 15)) fun p hp => by
  obtain ⟨B, g⟩ := g
  have g0 := g.cell (c := .dic []) hp ⟨[], rfl, .nil⟩
  refine h p σ vs _ _ ⟨B, g0⟩ fun x H1 r1 M1 g1 h1 => h1 σ (x :: vs) H1 _ g1 fun y H2 r2 M2 g2 h2 => ?_
  obtain ⟨ky, d, M3, hk, rfl, rfl, hP⟩ := h2
  have e := hk.v g2.pop
  subst e
  obtain ⟨B, g2⟩ := g2
  obtain ⟨kvs, ho, he⟩ := dic_at g2 List.mem_cons_self
  cases he
  exact ⟨ho, [(ky, y)], rfl, (by show 1 ≤ 15; decide), q _ _ _ _ ⟨B, ((g2.pop.pop).write (j := 0) (c := .dic []) (c' := .dic [(ky, d)]) rfl ⟨[(ky, y)], rfl, .cons ⟨rfl, (show Rp X.K B y d from g2.fst)⟩ .nil⟩).pushV⟩ hP⟩
end

/-! ### two and three plain names at once -/
section
variable {X : Cx} {B0 F : Hp} {M : Cs} {ρ κ : List Sl} {a b c : Expr} {pos px py pz pt pt2 : Pos} {k : KK} {x y z : Str} {kt k2 : Nat}
theorem ds_par (i j : Nat) (h : DA X B0 F M ρ κ [a, b] fun rs M1 => ∃ r1 r2, rs = [r1, r2] ∧ k.nx M1 ((ρ.set i r1).set j r2)) (hij : i ≠ j := by decide) (hN : X.N.Nodup := by exact (by assumption)) (hi : X.N[i]? = some x := by rfl) (hj : X.N[j]? = some y := by rfl)
    (hx : X.env.scope.names.lookup x = some .local := by rfl) (hy : X.env.scope.names.lookup y = some .local := by rfl) (hc : X.calm = true := by rfl)
    (hw : swappedStores [.Tuple [.Name x px, .Name y py] kt pt] (.Tuple [a, b] k2 pt2) X.env = pure (some [x, y]) := by rfl)
    (hs : swapsWithSole [.Tuple [.Name x px, .Name y py] kt pt] (.Tuple [a, b] k2 pt2) pos.line X.env = pure false := by rfl) : DS X B0 F M ρ κ (.Assign [.Tuple [.Name x px, .Name y py] kt pt] (.Tuple [a, b] k2 pt2) pos) k :=
  fun σ vs H D g cn => tOfS_of (ps_par hc hN hi hj hij hx hy pa_self hw hs) (h σ vs H _ g fun ws H1 rs M1 hl g1 h1 => by
    obtain ⟨r1, r2, rfl, hk⟩ := h1
    obtain ⟨v1, v2, rfl⟩ := two_args hl rfl
    refine ⟨v1, v2, rfl, cn.nx _ H1 M1 _ ?_ hk⟩
    obtain ⟨B, g1⟩ := g1
    have g2 : GoodB X.K B0 F M1 ρ (r1 :: r2 :: κ) σ (v1 :: v2 :: vs) H1 B := g1
    exact ⟨B, g2.pop.pop.slt (Paired.set (OOk.of g2.pop.fst) j (Paired.set (OOk.of g2.fst) i g2.sl))⟩)
theorem ds_par3 (i j l : Nat) (h : DA X B0 F M ρ κ [a, b, c] fun rs M1 => ∃ r1 r2 r3, rs = [r1, r2, r3] ∧ k.nx M1 (((ρ.set i r1).set j r2).set l r3)) (hij : i ≠ j := by decide) (hil : i ≠ l := by decide) (hjl : j ≠ l := by decide) (hN : X.N.Nodup := by exact (by assumption)) (hi : X.N[i]? = some x := by rfl) (hj : X.N[j]? = some y := by rfl) (hl : X.N[l]? = some z := by rfl)
    (hx : X.env.scope.names.lookup x = some .local := by rfl) (hy : X.env.scope.names.lookup y = some .local := by rfl) (hz : X.env.scope.names.lookup z = some .local := by rfl) (hc : X.calm = true := by rfl)
    (hw : swappedStores [.Tuple [.Name x px, .Name y py, .Name z pz] kt pt] (.Tuple [a, b, c] k2 pt2) X.env = pure (some [x, y, z]) := by rfl)
    (hs : swapsWithSole [.Tuple [.Name x px, .Name y py, .Name z pz] kt pt] (.Tuple [a, b, c] k2 pt2) pos.line X.env = pure false := by rfl) : DS X B0 F M ρ κ (.Assign [.Tuple [.Name x px, .Name y py, .Name z pz] kt pt] (.Tuple [a, b, c] k2 pt2) pos) k :=
  fun σ vs H D g cn => tOfS_of (L2.ps_par3 hc hN hi hj hl hij hil hjl hx hy hz pa_self hw hs) (h σ vs H _ g fun ws H1 rs M1 hlen g1 h1 => by
    obtain ⟨r1, r2, r3, rfl, hk⟩ := h1
    match ws, hlen, g1 with
    | [v1, v2, v3], _, g1 =>
      refine ⟨v1, v2, v3, rfl, cn.nx _ H1 M1 _ ?_ hk⟩
      obtain ⟨B, g1⟩ := g1
      have g2 : GoodB X.K B0 F M1 ρ (r1 :: r2 :: r3 :: κ) σ (v1 :: v2 :: v3 :: vs) H1 B := g1
      exact ⟨B, g2.pop.pop.pop.slt (Paired.set (OOk.of g2.pop.pop.fst) l (Paired.set (OOk.of g2.pop.fst) j (Paired.set (OOk.of g2.fst) i g2.sl)))⟩)
end

/-! ### ranges as values -/
section
variable {X : Cx} {K : Fg} {B0 F : Hp} {M : Cs} {ρ κ : List Sl} {P : Sl → Cs → Prop} {tg iter a b e : Expr} {pos p : Pos} {R : List PyData → Sl → (Cs → Prop) → Cs → Prop}
theorem rngV_rp {H : Hp} (a b : Int) : RpA K H (rgV a b) (rngD a (b - a).toNat) := by
  unfold rgV rngD
  have : ∀ (l : List Nat), RpA K H (l.map fun i => V.int (a + (i : Nat))) (l.map fun i => PyData.int (a + (i : Nat))) := by
    intro l
    induction l with
    | nil => exact .nil
    | cons x l ih => exact .cons (.int _) ih
  exact this _
/-- tuple(range(a, b)) | tuple(range(b)), list likewise -/
theorem de_tupRg1 {p2 : Pos} (hm : X.mg "tuple" = none) (hm2 : X.mg "range" = none) (h : DE X B0 F M ρ κ a fun r M1 => ∃ n, r = .d (.int n) ∧ RgOk 0 n ∧ P (.d (.tuple (rngD 0 n.toNat))) M1) (hc : X.calm = true := by rfl) (hg : Gl X "tuple" := by rfl) (hg2 : Gl X "range" := by rfl)
    (pe : PE X (.Call (.Name "tuple" p) [.Call (.Name "range" p2) [a] [] pos] [] pos) (tTupRg (tRg1 (tOf X a))) := by exact pe_tupRg rfl rfl (by assumption) (prg_1 rfl (by assumption) pe_self)) : DE X B0 F M ρ κ (.Call (.Name "tuple" p) [.Call (.Name "range" p2) [a] [] pos] [] pos) P := fun σ vs H Q g q => tOf_of pe (h σ vs H _ g fun v H1 r M1 g1 h1 => by
    obtain ⟨n, rfl, ok, hp⟩ := h1
    have e := g1.int
    subst e
    refine ⟨n, rfl, ok, fun l hl => q _ _ _ M1 ?_ hp⟩
    obtain ⟨B, g1⟩ := g1
    have e : (n - 0).toNat = n.toNat := by omega
    exact ⟨_, (g1.pop.laid (o := .tup (rgV 0 n)) hl).pushD (.tup (SqT.of upd_same) (by rw [← e]; exact rngV_rp 0 n))⟩)
end
end DL
set_option maxHeartbeats 2000000
namespace DL
open PySem PySem.Spec PyProof.Rows L2

section
variable {X : Cx} {K : Fg} {B0 F : Hp} {M : Cs} {ρ κ : List Sl} {P : Sl → Cs → Prop} {a b c e o elt tg iter : Expr} {pos p : Pos} {k : KK} {R : List PyData → Sl → (Cs → Prop) → Cs → Prop}
/-! ### shorter words -/
theorem nm (i : Nat) {x : Str} {pos : Pos} {r : Sl} (hr : ρ[i]? = some r) (h : P r M) (hu : r ≠ .un := by intro h; cases h) (hN : X.N[i]? = some x := by rfl) (hv : Vis X.env.scope x := by first | exact Or.inl rfl | exact Or.inr (Or.inl rfl) | exact Or.inr (Or.inr rfl)) (hd : (x == ("__debug__" : Str)) = false := by decide)
    (hcd : (x == ("__classdict__" : Str)) = false := by decide) : DE X B0 F M ρ κ (.Name x pos) P := de_name i hr hu h hN hv hd hcd
theorem r2_i {f : Int → Int → Int} {i j : Int} (h : P (.d (.int (f i j))) M) : R2D K B0 F ρ κ (rI0 fun i j => .int (f i j)) (.d (.int i)) (.d (.int j)) M P := r2_I0 (fun _ => .int _) h
theorem r2_b {f : Int → Int → Bool} {i j : Int} (h : P (.d (.bool (f i j))) M) : R2D K B0 F ρ κ (rI0 fun i j => .bl (f i j)) (.d (.int i)) (.d (.int j)) M P := r2_I0 (fun _ => .bl _) h
theorem r2_c {C : Int → Int → Prop} {f : Int → Int → Int} {i j : Int} (hc : C i j) (h : P (.d (.int (f i j))) M) : R2D K B0 F ρ κ (rI C fun i j => .int (f i j)) (.d (.int i)) (.d (.int j)) M P := r2_I (fun _ => .int _) hc h
/-- .. as tests -/
theorem r2_t {f : Int → Int → Bool} {PT : Bool → Cs → Prop} {i j : Int} (h : PT (f i j) M) : R2D K B0 F ρ κ (rI0 fun i j => .bl (f i j)) (.d (.int i)) (.d (.int j)) M fun r' M' => ∃ k, r' = .d (.bool k) ∧ PT k M' := r2_b ⟨_, rfl, h⟩
theorem r2_teq {PT : Bool → Cs → Prop} {i j : Int} (h : PT (decide (i = j)) M) : R2D K B0 F ρ κ rEq (.d (.int i)) (.d (.int j)) M fun r' M' => ∃ k, r' = .d (.bool k) ∧ PT k M' := r2_eqI ⟨_, rfl, h⟩
theorem r2_tne {PT : Bool → Cs → Prop} {i j : Int} (h : PT (!decide (i = j)) M) : R2D K B0 F ρ κ rNe (.d (.int i)) (.d (.int j)) M fun r' M' => ∃ k, r' = .d (.bool k) ∧ PT k M' := r2_neI ⟨_, rfl, h⟩
theorem decS {i j : Str} : decide (V.str i = V.str j) = decide (i = j) := by
  by_cases h : i = j
  · subst h; simp
  · rw [decide_eq_false h, decide_eq_false (fun e => h (V.str.inj e))]
theorem r2_tseq {PT : Bool → Cs → Prop} {i j : Str} (h : PT (decide (i = j)) M) : R2D K B0 F ρ κ rEq (.d (.str i)) (.d (.str j)) M fun r' M' => ∃ k, r' = .d (.bool k) ∧ PT k M' := r2_eq rfl rfl rfl (by rw [decS]; exact ⟨_, rfl, h⟩)
/-- a test, both ways, by what it decides -/
theorem ways {A B : Prop} {b : Bool} (h1 : b = true → A) (h2 : b = false → B) : (b = true → A) ∧ (b = false → B) := ⟨h1, h2⟩
theorem waysD {A B C : Prop} [Decidable C] (h1 : C → A) (h2 : ¬ C → B) : (decide C = true → A) ∧ (decide C = false → B) := ⟨fun h => h1 (of_decide_eq_true h), fun h => h2 (of_decide_eq_false h)⟩
theorem waysN {A B C : Prop} [Decidable C] (h1 : ¬ C → A) (h2 : C → B) : ((!decide C) = true → A) ∧ ((!decide C) = false → B) := by
  by_cases z : C
  · rw [decide_eq_true z]; exact ⟨(fun h => by cases h), fun _ => h2 z⟩
  · rw [decide_eq_false z]; exact ⟨fun _ => h1 z, fun h => by cases h⟩
theorem waysT {A B : Prop} {b : Bool} (e : b = true) (h : A) : (b = true → A) ∧ (b = false → B) := ⟨fun _ => h, fun z => by rw [e] at z; cases z⟩
theorem waysF {A B : Prop} {b : Bool} (e : b = false) (h : B) : (b = true → A) ∧ (b = false → B) := ⟨(fun z => by rw [e] at z; cases z), fun _ => h⟩
theorem map_get {α β : Type} {f : α → β} {l : List α} {i : Nat} {d : β} (h : (l.map f)[i]? = some d) : ∃ z, l[i]? = some z ∧ d = f z := by
  rw [List.getElem?_map] at h
  cases q : l[i]? with
  | none => rw [q] at h; cases h
  | some z => rw [q] at h; exact ⟨z, rfl, (Option.some.inj h).symm⟩
theorem take_get {α : Type} {l : List α} {i : Nat} {x : α} (h : l[i]? = some x) : l.take (i + 1) = l.take i ++ [x] := by rw [List.take_add_one, h]; rfl
theorem atI_at {α : Type} {xs : List α} {i : Int} {x : α} (h0 : 0 ≤ i) (h : xs[i.toNat]? = some x) : atI xs i = some x := by
  have e : i = ((i.toNat : Nat) : Int) := by omega
  rw [e]
  exact atI_nat (by simpa using h)

/-! ### comprehensions whose turns leave all as it was -/
/-- [elt for x in iter]: f of each item -/
theorem gu_lcF {u : Use} (i : Nat) (f : PyData → PyData) {x : Str} {px : Pos} {scope : Scope} (h : DI X B0 F M ρ κ (.Name x px) iter fun ds s Src M1 => ds.length ≤ 100000 ∧ (∀ D acc, Src M1 → Src ((D, .lst acc) :: M1)) ∧
      (∀ d D acc, d ∈ ds → ∀ b : BA, DE (bk X scope b) B0 F ((D, .lst acc) :: M1) ((ρ.set i .un).set i (.d d)) (s :: (ρ ++ κ)) elt fun r M2 => r = .d (f d) ∧ M2 = (D, .lst acc) :: M1) ∧ ∀ D, P (.v (.ref D)) ((D, .lst (ds.map f)) :: M1))
      (hN : X.N.Nodup := by exact (by assumption)) (ok : BlkOk X.N X.env.scope scope [(x, i)] := by exact blkOk_by (by kernel_rfl)) (hg : ∀ b : BA, PG (bk X scope b) (.Name x px) (gName i) := by exact fun b => pg_name (by assumption) rfl (by first | exact Or.inl rfl | exact Or.inr rfl))
      (hc : X.calm = true := by rfl) (hs : ∀ x, foldedSetIterable iter X.env x = pure x := by intro _; rfl)  (hu : UseOk X u (.ListComp elt [⟨.Name x px, iter, [], 0⟩] scope pos) := by first | exact trivial | exact ⟨rfl, rfl, (by first | rfl | kernel_rfl)⟩) : DEu X B0 F M ρ κ u (.ListComp elt [⟨.Name x px, iter, [], 0⟩] scope pos) P := by
  refine gu_lcC (hu := hu) i (fun σ vs H Q g q => h σ vs H Q g fun J H1 M1 ds s v Src g1 dw hsrc hr => q J H1 M1 ds s v Src g1 dw hsrc fun D => ?_) hN ok hg hc hs
  obtain ⟨hz, hs', hst, hd⟩ := hr
  refine ⟨fun j acc M => M = M1 ∧ j ≤ ds.length ∧ acc = (ds.take j).map f, ⟨rfl, Nat.zero_le _, rfl⟩, ?_, ?_, ?_⟩
  · rintro j acc M ⟨rfl, _, rfl⟩
    exact hs' D _ hsrc
  · rintro j d acc M hdd ⟨rfl, hj, rfl⟩ b
    refine (hst d D _ (List.mem_of_getElem? hdd) b).mono ?_
    rintro r M2 ⟨rfl, rfl⟩
    refine ⟨f d, _, rfl, rfl, ?_, rfl, (List.getElem?_eq_some_iff.mp hdd).1, by rw [take_get hdd, List.map_append]; rfl⟩
    have hj2 := (List.getElem?_eq_some_iff.mp hdd).1
    rw [List.length_map, List.length_take]
    omega
  · rintro acc M ⟨rfl, _, rfl⟩
    rw [List.take_length]
    exact hd D
theorem de_lcF (i : Nat) (f : PyData → PyData) {x : Str} {px : Pos} {scope : Scope} (h : DI X B0 F M ρ κ (.Name x px) iter fun ds s Src M1 => ds.length ≤ 100000 ∧ (∀ D acc, Src M1 → Src ((D, .lst acc) :: M1)) ∧
      (∀ d D acc, d ∈ ds → ∀ b : BA, DE (bk X scope b) B0 F ((D, .lst acc) :: M1) ((ρ.set i .un).set i (.d d)) (s :: (ρ ++ κ)) elt fun r M2 => r = .d (f d) ∧ M2 = (D, .lst acc) :: M1) ∧ ∀ D, P (.v (.ref D)) ((D, .lst (ds.map f)) :: M1))
      (hN : X.N.Nodup := by exact (by assumption)) (ok : BlkOk X.N X.env.scope scope [(x, i)] := by exact blkOk_by (by kernel_rfl)) (hg : ∀ b : BA, PG (bk X scope b) (.Name x px) (gName i) := by exact fun b => pg_name (by assumption) rfl (by first | exact Or.inl rfl | exact Or.inr rfl))
      (hc : X.calm = true := by rfl) (hs : ∀ x, foldedSetIterable iter X.env x = pure x := by intro _; rfl) : DE X B0 F M ρ κ (.ListComp elt [⟨.Name x px, iter, [], 0⟩] scope pos) P :=
  gu_lcF (u := none) i f h hN ok hg hc hs trivial
/-- [elt for x in iter if c] -/
theorem gu_lcIfF {u : Use} (i : Nat) (t : PyData → Bool) (f : PyData → PyData) {x : Str} {px : Pos} {scope : Scope} (h : DI X B0 F M ρ κ (.Name x px) iter fun ds s Src M1 => ds.length ≤ 100000 ∧ (∀ D acc, Src M1 → Src ((D, .lst acc) :: M1)) ∧
      (∀ d D acc, d ∈ ds → ∀ b : BA, DT (bk X scope b) B0 F ((D, .lst acc) :: M1) ((ρ.set i .un).set i (.d d)) (s :: (ρ ++ κ)) c fun k M2 => k = t d ∧ M2 = (D, .lst acc) :: M1) ∧
      (∀ d D acc, d ∈ ds → t d = true → ∀ b : BA, DE (bk X scope b) B0 F ((D, .lst acc) :: M1) ((ρ.set i .un).set i (.d d)) (s :: (ρ ++ κ)) elt fun r M2 => r = .d (f d) ∧ M2 = (D, .lst acc) :: M1) ∧ ∀ D, P (.v (.ref D)) ((D, .lst ((ds.filter t).map f)) :: M1))
      (hN : X.N.Nodup := by exact (by assumption)) (ok : BlkOk X.N X.env.scope scope [(x, i)] := by exact blkOk_by (by kernel_rfl)) (hg : ∀ b : BA, PG (bk X scope b) (.Name x px) (gName i) := by exact fun b => pg_name (by assumption) rfl (by first | exact Or.inl rfl | exact Or.inr rfl))
      (hc : X.calm = true := by rfl) (hs : ∀ x, foldedSetIterable iter X.env x = pure x := by intro _; rfl)  (hu : UseOk X u (.ListComp elt [⟨.Name x px, iter, [c], 0⟩] scope pos) := by first | exact trivial | exact ⟨rfl, rfl, (by first | rfl | kernel_rfl)⟩) : DEu X B0 F M ρ κ u (.ListComp elt [⟨.Name x px, iter, [c], 0⟩] scope pos) P := by
  refine gu_lcIfC (hu := hu) i (fun σ vs H Q g q => h σ vs H Q g fun J H1 M1 ds s v Src g1 dw hsrc hr => q J H1 M1 ds s v Src g1 dw hsrc fun D => ?_) hN ok hg hc hs
  obtain ⟨hz, hs', ht, hst, hd⟩ := hr
  refine ⟨fun j acc M => M = M1 ∧ j ≤ ds.length ∧ acc = ((ds.take j).filter t).map f, ⟨rfl, Nat.zero_le _, rfl⟩, ?_, ?_, ?_⟩
  · rintro j acc M ⟨rfl, _, rfl⟩
    exact hs' D _ hsrc
  · rintro j d acc M hdd ⟨rfl, hj, rfl⟩ b
    have hj2 := (List.getElem?_eq_some_iff.mp hdd).1
    refine (ht d D _ (List.mem_of_getElem? hdd) b).mono ?_
    rintro k M2 ⟨rfl, rfl⟩
    refine ⟨fun htd b2 => (hst d D _ (List.mem_of_getElem? hdd) htd b2).mono ?_, fun htd => ⟨_, rfl, rfl, hj2, ?_⟩⟩
    · rintro r M2 ⟨rfl, rfl⟩
      refine ⟨f d, _, rfl, rfl, ?_, rfl, hj2, ?_⟩
      · rw [List.length_map]
        have := List.length_filter_le t (ds.take j)
        rw [List.length_take] at this
        omega
      · rw [take_get hdd, List.filter_append, List.filter_cons, if_pos htd, List.map_append]; rfl
    · rw [take_get hdd, List.filter_append, List.filter_cons, if_neg (by rw [htd]; decide), List.filter_nil, List.append_nil]
  · rintro acc M ⟨rfl, _, rfl⟩
    rw [List.take_length]
    exact hd D
theorem de_lcIfF (i : Nat) (t : PyData → Bool) (f : PyData → PyData) {x : Str} {px : Pos} {scope : Scope} (h : DI X B0 F M ρ κ (.Name x px) iter fun ds s Src M1 => ds.length ≤ 100000 ∧ (∀ D acc, Src M1 → Src ((D, .lst acc) :: M1)) ∧
      (∀ d D acc, d ∈ ds → ∀ b : BA, DT (bk X scope b) B0 F ((D, .lst acc) :: M1) ((ρ.set i .un).set i (.d d)) (s :: (ρ ++ κ)) c fun k M2 => k = t d ∧ M2 = (D, .lst acc) :: M1) ∧
      (∀ d D acc, d ∈ ds → t d = true → ∀ b : BA, DE (bk X scope b) B0 F ((D, .lst acc) :: M1) ((ρ.set i .un).set i (.d d)) (s :: (ρ ++ κ)) elt fun r M2 => r = .d (f d) ∧ M2 = (D, .lst acc) :: M1) ∧ ∀ D, P (.v (.ref D)) ((D, .lst ((ds.filter t).map f)) :: M1))
      (hN : X.N.Nodup := by exact (by assumption)) (ok : BlkOk X.N X.env.scope scope [(x, i)] := by exact blkOk_by (by kernel_rfl)) (hg : ∀ b : BA, PG (bk X scope b) (.Name x px) (gName i) := by exact fun b => pg_name (by assumption) rfl (by first | exact Or.inl rfl | exact Or.inr rfl))
      (hc : X.calm = true := by rfl) (hs : ∀ x, foldedSetIterable iter X.env x = pure x := by intro _; rfl) : DE X B0 F M ρ κ (.ListComp elt [⟨.Name x px, iter, [c], 0⟩] scope pos) P :=
  gu_lcIfF (u := none) i t f h hN ok hg hc hs trivial
/-- [elt for x, y in iter]: x, y in slots i, j -/
theorem gu_lc2C {u : Use} (i j : Nat) (hij : i ≠ j) {x y : Str} {px py pt : Pos} {kt : Nat} {scope : Scope} (h : DI X B0 F M ρ κ (.Tuple [.Name x px, .Name y py] kt pt) iter fun ds s Src M1 => ∀ D, ∃ Iv : Nat → List PyData → Cs → Prop, Iv 0 [] M1 ∧ (∀ i acc M, Iv i acc M → Src ((D, .lst acc) :: M)) ∧
      (∀ n d acc M, ds[n]? = some d → Iv n acc M → ∃ d1 d2, d = .tuple [d1, d2] ∧ ∀ b : BA, DE (bk X scope b) B0 F ((D, .lst acc) :: M) ((((ρ.set j .un).set i .un).set i (.d d1)).set j (.d d2)) (s :: (ρ ++ κ)) elt fun r M2 => ∃ y M', r = .d y ∧ M2 = (D, .lst acc) :: M' ∧ acc.length < 100000 ∧ Iv (n + 1) (acc ++ [y]) M') ∧
      ∀ acc M, Iv ds.length acc M → P (.v (.ref D)) ((D, .lst acc) :: M)) (hN : X.N.Nodup := by exact (by assumption)) (ok : BlkOk X.N X.env.scope scope [(x, i), (y, j)] := by exact blkOk_by (by kernel_rfl))
      (hg : ∀ b : BA, PG (bk X scope b) (.Tuple [.Name x px, .Name y py] kt pt) (gTup X.K 2 (gCons (gName i) (gCons (gName j) gNil))) := by exact fun b => pg_tup rfl (pgs_cons (pg_name (by assumption) rfl (by first | exact Or.inl rfl | exact Or.inr rfl)) (pgs_cons (pg_name (by assumption) rfl (by first | exact Or.inl rfl | exact Or.inr rfl)) pgs_nil)))
      (hc : X.calm = true := by rfl) (hs : ∀ x, foldedSetIterable iter X.env x = pure x := by intro _; rfl)  (hu : UseOk X u (.ListComp elt [⟨.Tuple [.Name x px, .Name y py] kt pt, iter, [], 0⟩] scope pos) := by first | exact trivial | exact ⟨rfl, rfl, (by first | rfl | kernel_rfl)⟩) : DEu X B0 F M ρ κ u (.ListComp elt [⟨.Tuple [.Name x px, .Name y py] kt pt, iter, [], 0⟩] scope pos) P :=
  lc_mainU (hu := hu) (own := [(x, i), (y, j)]) (g := gTup X.K 2 (gCons (gName i) (gCons (gName j) gNil))) (tt := tYes) hc hN ok hg (fun _ => pts_nil) hs fun σ vs H Q g0 q => h σ vs H Q g0 fun J H1 M1 ds s v Src g1 dw hsrc hr => q J H1 M1 ds s v Src g1 dw hsrc fun D => by
    obtain ⟨Iv, h0, hsr, hst, hd⟩ := hr D
    refine ⟨Iv, h0, hsr, fun n d acc M σ vs H x Q hdd hI g hq => ?_, hd⟩
    obtain ⟨d1, d2, rfl, hst⟩ := hst n d acc M hdd hI
    obtain ⟨B, g⟩ := g
    obtain ⟨ad, xs, rfl, hx, hr⟩ := Rp.tup_inv g.fst
    cases hr with
    | cons hr1 hr2 =>
      cases hr2 with
      | cons hr2 hr3 =>
        cases hr3
        rename_i v1 v2
        refine ⟨ad, _, rfl, same_t g.bh hx, rfl, v1, _, rfl, v2, _, rfl, rfl, ?_, ?_⟩
        · rw [wipe_set (by simp), wipe_set (by simp)]
        · have fin : ∀ b : BA, tOf (bk X scope b) elt ((σ.set i (some v1)).set j (some v2)) H fun y H4 => ∃ ac, H4 D = some (.lst ac) ∧ ac.length < sizeLine ∧ Q (upd H4 D (.lst (ac ++ [y]))) := ?_
          · unfold tYes
            dsimp only
            rw [if_pos rfl]
            exact fin
          intro b
          have g2 : Good X.K B0 F ((D, .lst acc) :: M) ((((ρ.set j .un).set i .un).set i (.d d1)).set j (.d d2)) (s :: (ρ ++ κ)) ((σ.set i (some v1)).set j (some v2)) vs H :=
            ⟨B, g.pop.slt (Paired.set (OOk.of (s := .d d2) hr2) j (Paired.set (OOk.of (s := .d d1) hr1) i g.sl))⟩
          refine hst b _ vs H _ g2 fun y H4 r M2 g4 h4 => ?_
          obtain ⟨y', M', rfl, rfl, hl, hI'⟩ := h4
          exact lc_push g4 hl fun H' g5 => hq _ _ _ _ _ g5 hI'
theorem de_lc2C (i j : Nat) (hij : i ≠ j) {x y : Str} {px py pt : Pos} {kt : Nat} {scope : Scope} (h : DI X B0 F M ρ κ (.Tuple [.Name x px, .Name y py] kt pt) iter fun ds s Src M1 => ∀ D, ∃ Iv : Nat → List PyData → Cs → Prop, Iv 0 [] M1 ∧ (∀ i acc M, Iv i acc M → Src ((D, .lst acc) :: M)) ∧
      (∀ n d acc M, ds[n]? = some d → Iv n acc M → ∃ d1 d2, d = .tuple [d1, d2] ∧ ∀ b : BA, DE (bk X scope b) B0 F ((D, .lst acc) :: M) ((((ρ.set j .un).set i .un).set i (.d d1)).set j (.d d2)) (s :: (ρ ++ κ)) elt fun r M2 => ∃ y M', r = .d y ∧ M2 = (D, .lst acc) :: M' ∧ acc.length < 100000 ∧ Iv (n + 1) (acc ++ [y]) M') ∧
      ∀ acc M, Iv ds.length acc M → P (.v (.ref D)) ((D, .lst acc) :: M)) (hN : X.N.Nodup := by exact (by assumption)) (ok : BlkOk X.N X.env.scope scope [(x, i), (y, j)] := by exact blkOk_by (by kernel_rfl))
      (hg : ∀ b : BA, PG (bk X scope b) (.Tuple [.Name x px, .Name y py] kt pt) (gTup X.K 2 (gCons (gName i) (gCons (gName j) gNil))) := by exact fun b => pg_tup rfl (pgs_cons (pg_name (by assumption) rfl (by first | exact Or.inl rfl | exact Or.inr rfl)) (pgs_cons (pg_name (by assumption) rfl (by first | exact Or.inl rfl | exact Or.inr rfl)) pgs_nil)))
      (hc : X.calm = true := by rfl) (hs : ∀ x, foldedSetIterable iter X.env x = pure x := by intro _; rfl) : DE X B0 F M ρ κ (.ListComp elt [⟨.Tuple [.Name x px, .Name y py] kt pt, iter, [], 0⟩] scope pos) P :=
  gu_lc2C (u := none) i j hij h hN ok hg hc hs trivial
/-- [elt for x, y in iter if c] -/
theorem gu_lc2IfC {u : Use} (i j : Nat) (hij : i ≠ j) {x y : Str} {px py pt : Pos} {kt : Nat} {scope : Scope} (h : DI X B0 F M ρ κ (.Tuple [.Name x px, .Name y py] kt pt) iter fun ds s Src M1 => ∀ D, ∃ Iv : Nat → List PyData → Cs → Prop, Iv 0 [] M1 ∧ (∀ i acc M, Iv i acc M → Src ((D, .lst acc) :: M)) ∧
      (∀ n d acc M, ds[n]? = some d → Iv n acc M → ∃ d1 d2, d = .tuple [d1, d2] ∧ ∀ b : BA, DT (bk X scope b) B0 F ((D, .lst acc) :: M) ((((ρ.set j .un).set i .un).set i (.d d1)).set j (.d d2)) (s :: (ρ ++ κ)) c fun k M2 =>
        (k = true → ∀ b : BA, DE (bk X scope b) B0 F M2 ((((ρ.set j .un).set i .un).set i (.d d1)).set j (.d d2)) (s :: (ρ ++ κ)) elt fun r M2 => ∃ y M', r = .d y ∧ M2 = (D, .lst acc) :: M' ∧ acc.length < 100000 ∧ Iv (n + 1) (acc ++ [y]) M') ∧
        (k = false → ∃ M', M2 = (D, .lst acc) :: M' ∧ Iv (n + 1) acc M')) ∧
      ∀ acc M, Iv ds.length acc M → P (.v (.ref D)) ((D, .lst acc) :: M)) (hN : X.N.Nodup := by exact (by assumption)) (ok : BlkOk X.N X.env.scope scope [(x, i), (y, j)] := by exact blkOk_by (by kernel_rfl))
      (hg : ∀ b : BA, PG (bk X scope b) (.Tuple [.Name x px, .Name y py] kt pt) (gTup X.K 2 (gCons (gName i) (gCons (gName j) gNil))) := by exact fun b => pg_tup rfl (pgs_cons (pg_name (by assumption) rfl (by first | exact Or.inl rfl | exact Or.inr rfl)) (pgs_cons (pg_name (by assumption) rfl (by first | exact Or.inl rfl | exact Or.inr rfl)) pgs_nil)))
      (hc : X.calm = true := by rfl) (hs : ∀ x, foldedSetIterable iter X.env x = pure x := by intro _; rfl)  (hu : UseOk X u (.ListComp elt [⟨.Tuple [.Name x px, .Name y py] kt pt, iter, [c], 0⟩] scope pos) := by first | exact trivial | exact ⟨rfl, rfl, (by first | rfl | kernel_rfl)⟩) : DEu X B0 F M ρ κ u (.ListComp elt [⟨.Tuple [.Name x px, .Name y py] kt pt, iter, [c], 0⟩] scope pos) P :=
  lc_mainU (hu := hu) (own := [(x, i), (y, j)]) (g := gTup X.K 2 (gCons (gName i) (gCons (gName j) gNil))) (tt := fun σ H Q => ∀ b : BA, tOfT (bk X scope b) c σ H Q) hc hN ok hg (fun b => ⟨fun pins s σ H Q I z => (pts_one pt_self).run pins s σ H Q I (z b)⟩) hs fun σ vs H Q g0 q => h σ vs H Q g0 fun J H1 M1 ds s v Src g1 dw hsrc hr => q J H1 M1 ds s v Src g1 dw hsrc fun D => by
    obtain ⟨Iv, h0, hsr, hst, hd⟩ := hr D
    refine ⟨Iv, h0, hsr, fun n d acc M σ vs H x Q hdd hI g hq => ?_, hd⟩
    obtain ⟨d1, d2, rfl, hst⟩ := hst n d acc M hdd hI
    obtain ⟨B, g⟩ := g
    obtain ⟨ad, xs, rfl, hx, hr⟩ := Rp.tup_inv g.fst
    cases hr with
    | cons hr1 hr2 =>
      cases hr2 with
      | cons hr2 hr3 =>
        cases hr3
        rename_i v1 v2
        refine ⟨ad, _, rfl, same_t g.bh hx, rfl, v1, _, rfl, v2, _, rfl, rfl, ?_, ?_⟩
        · rw [wipe_set (by simp), wipe_set (by simp)]
        · intro b
          have g2 : Good X.K B0 F ((D, .lst acc) :: M) ((((ρ.set j .un).set i .un).set i (.d d1)).set j (.d d2)) (s :: (ρ ++ κ)) ((σ.set i (some v1)).set j (some v2)) vs H :=
            ⟨B, g.pop.slt (Paired.set (OOk.of (s := .d d2) hr2) j (Paired.set (OOk.of (s := .d d1) hr1) i g.sl))⟩
          refine hst b _ vs H _ g2 fun k H3 M2 g3 h3 => ?_
          cases k with
          | true =>
            rw [if_pos rfl]
            intro b2
            refine h3.1 rfl b2 _ vs H3 _ g3 fun y H4 r M2 g4 h4 => ?_
            obtain ⟨y', M', rfl, rfl, hl, hI'⟩ := h4
            exact lc_push g4 hl fun H' g5 => hq _ _ _ _ _ g5 hI'
          | false =>
            rw [if_neg Bool.false_ne_true]
            obtain ⟨M', rfl, hI'⟩ := h3.2 rfl
            exact hq _ _ _ _ _ g3 hI'
theorem de_lc2IfC (i j : Nat) (hij : i ≠ j) {x y : Str} {px py pt : Pos} {kt : Nat} {scope : Scope} (h : DI X B0 F M ρ κ (.Tuple [.Name x px, .Name y py] kt pt) iter fun ds s Src M1 => ∀ D, ∃ Iv : Nat → List PyData → Cs → Prop, Iv 0 [] M1 ∧ (∀ i acc M, Iv i acc M → Src ((D, .lst acc) :: M)) ∧
      (∀ n d acc M, ds[n]? = some d → Iv n acc M → ∃ d1 d2, d = .tuple [d1, d2] ∧ ∀ b : BA, DT (bk X scope b) B0 F ((D, .lst acc) :: M) ((((ρ.set j .un).set i .un).set i (.d d1)).set j (.d d2)) (s :: (ρ ++ κ)) c fun k M2 =>
        (k = true → ∀ b : BA, DE (bk X scope b) B0 F M2 ((((ρ.set j .un).set i .un).set i (.d d1)).set j (.d d2)) (s :: (ρ ++ κ)) elt fun r M2 => ∃ y M', r = .d y ∧ M2 = (D, .lst acc) :: M' ∧ acc.length < 100000 ∧ Iv (n + 1) (acc ++ [y]) M') ∧
        (k = false → ∃ M', M2 = (D, .lst acc) :: M' ∧ Iv (n + 1) acc M')) ∧
      ∀ acc M, Iv ds.length acc M → P (.v (.ref D)) ((D, .lst acc) :: M)) (hN : X.N.Nodup := by exact (by assumption)) (ok : BlkOk X.N X.env.scope scope [(x, i), (y, j)] := by exact blkOk_by (by kernel_rfl))
      (hg : ∀ b : BA, PG (bk X scope b) (.Tuple [.Name x px, .Name y py] kt pt) (gTup X.K 2 (gCons (gName i) (gCons (gName j) gNil))) := by exact fun b => pg_tup rfl (pgs_cons (pg_name (by assumption) rfl (by first | exact Or.inl rfl | exact Or.inr rfl)) (pgs_cons (pg_name (by assumption) rfl (by first | exact Or.inl rfl | exact Or.inr rfl)) pgs_nil)))
      (hc : X.calm = true := by rfl) (hs : ∀ x, foldedSetIterable iter X.env x = pure x := by intro _; rfl) : DE X B0 F M ρ κ (.ListComp elt [⟨.Tuple [.Name x px, .Name y py] kt pt, iter, [c], 0⟩] scope pos) P :=
  gu_lc2IfC (u := none) i j hij h hN ok hg hc hs trivial
end
end DL
set_option maxHeartbeats 2000000
namespace DL
open PySem PySem.Spec PyProof.Rows L2

/-- name = {..} on one line, the name a local -/
theorem ps_setDc {X : Cx} {i : Nat} {y : Str} {py : Pos} {kx vx tg iter : Expr} {ifs : List Expr} {scope : Scope} {own : List (Str × Nat)} {pos spos : Pos} {wi : TI} {g : TG} {tt : TT} {tk tv : TE} (hc : X.calm = true) (hN : X.N.Nodup) (hy : X.N[i]? = some y) (hyl : X.env.scope.names.lookup y = some .local)
    (hsw : swapsWith (.DictComp kx vx [⟨tg, iter, ifs, 0⟩] scope pos) (some (.Name y py)) spos.line X.env = pure true) (hi : PI X tg iter wi) (ok : BlkOk X.N X.env.scope scope own)
    (hg : ∀ (s : Shared) (H : Hp) (C : Addr) (cl : List (Str × Addr)) (fp : List Addr), PG (X.blk s H scope (compEnvC scope cl C X.env) fp) tg g) (ht : ∀ (s : Shared) (H : Hp) (C : Addr) (cl : List (Str × Addr)) (fp : List Addr), PTs (X.blk s H scope (compEnvC scope cl C X.env) fp) ifs tt)
    (hk : ∀ (s : Shared) (H : Hp) (C : Addr) (cl : List (Str × Addr)) (fp : List Addr), PE (X.blk s H scope (compEnvC scope cl C X.env) fp) kx tk)
    (he : ∀ (s : Shared) (H : Hp) (C : Addr) (cl : List (Str × Addr)) (fp : List Addr), PE (X.blk s H scope (compEnvC scope cl C X.env) fp) vx tv) (hs : ∀ x, foldedSetIterable iter X.env x = pure x) :
    PS X (.Assign [.Name y py] (.DictComp kx vx [⟨tg, iter, ifs, 0⟩] scope pos) spos) (tAsg (tDc wi g tt tk tv (own.map (·.2))) (gName i)) := by
  refine ⟨fun pins s σ H D I h => ?_⟩
  rw [exec_Assign_Name_used _ _ _ _ hsw]
  refine wpAny_bind (wpAny_standAt (wpAny_bind ?_))
  show wpAny _ X.A (do let _ ← comprehension (.DictComp kx vx [⟨tg, iter, ifs, 0⟩] scope pos) scope X.env (firstIterPos [⟨tg, iter, ifs, 0⟩] pos) newDict false (eval iter X.env) (some (assign (.Name y py) X.env))) _ _ s
  have h : tDc wi g tt tk tv (own.map (·.2)) σ H (fun x H1 => gName i x σ H1 D.nx) := h
  refine wpAny_bind (thn (dc_core (Qf := fun _ s' => SP X pins D .next s') hc hN I hi ok hg ht hk he hs h fun L C s' m H' I' q hn f => ?_) fun _ s' hq => wpAny_pure (wpAny_pure hq))
  show wpAny _ _ (assign (.Name y py) X.env (.ref L)) _ _ _
  refine wpAny_assign_Name (store_ok2 (v := V.ref L) I' hN hy (.inl hyl) rfl (fun s2 I2 ⟨a, sb, ha⟩ => ?_) (.inr hyl))
  obtain ⟨f0, f1, f2, f3, f4, f5⟩ := f
  have haC : C ≠ a := by
    rcases ha with z | z
    · rw [z]; exact f1
    · exact fun e => f4 y a z e.symm
  refine ⟨m, hn.sameBut sb haC, fun h3 sb3 => ?_⟩
  exact ⟨_, H', I2.turned (t' := s2.toks) (fun b o hb e => (sb3.2 b hb).trans e) f0 f1 f3 f4 f5, q⟩
theorem use_dc {X : Cx} {u : Use} {σ : L2.St} {H : Hp} {Q : VK} {kx vx tg iter : Expr} {ifs : List Expr} {scope : Scope} {own : List (Str × Nat)} {pos : Pos} {wi : TI} {g : TG} {tt : TT} {tk tv : TE} (hc : X.calm = true) (hN : X.N.Nodup) (hi : PI X tg iter wi) (ok : BlkOk X.N X.env.scope scope own)
    (hg : ∀ (s : Shared) (H : Hp) (C : Addr) (cl : List (Str × Addr)) (fp : List Addr), PG (X.blk s H scope (compEnvC scope cl C X.env) fp) tg g) (ht : ∀ (s : Shared) (H : Hp) (C : Addr) (cl : List (Str × Addr)) (fp : List Addr), PTs (X.blk s H scope (compEnvC scope cl C X.env) fp) ifs tt)
    (hk : ∀ (s : Shared) (H : Hp) (C : Addr) (cl : List (Str × Addr)) (fp : List Addr), PE (X.blk s H scope (compEnvC scope cl C X.env) fp) kx tk)
    (he : ∀ (s : Shared) (H : Hp) (C : Addr) (cl : List (Str × Addr)) (fp : List Addr), PE (X.blk s H scope (compEnvC scope cl C X.env) fp) vx tv) (hs : ∀ x, foldedSetIterable iter X.env x = pure x)
    (hu : UseOk X u (.DictComp kx vx [⟨tg, iter, ifs, 0⟩] scope pos)) (h : tDc wi g tt tk tv (own.map (·.2)) σ H Q) : tUse X u (.DictComp kx vx [⟨tg, iter, ifs, 0⟩] scope pos) σ H Q := by
  cases u with
  | none => exact tOf_of (pe_dc hc hN hi ok hg ht hk he hs) h
  | some q =>
    obtain ⟨i, y, py, spos⟩ := q
    obtain ⟨h1, h2, h3⟩ := hu
    intro D e
    subst e
    exact tOfS_of (ps_setDc hc hN h1 h2 h3 hi ok hg ht hk he hs) h
section
variable {X : Cx} {K : Fg} {B0 F : Hp} {M : Cs} {ρ κ : List Sl} {P : Sl → Cs → Prop} {a b c e o elt tg iter : Expr} {pos p : Pos} {k : KK} {R : List PyData → Sl → (Cs → Prop) → Cs → Prop}
/-! ### dict comprehensions -/
theorem dc_push {D : Addr} {acc : List (Key × PyData)} {ky : Key} {y' : PyData} {M' : Cs} {ρ' κ' : List Sl} {σ : L2.St} {r : Sl} {x y : V} {vs : List V} {H : Hp} (g : Good K B0 F ((D, .dic acc) :: M') ρ' (.d y' :: r :: κ') σ (y :: x :: vs) H) (hk : KeyIs r ky) (hl : acc.length < 100000) {Q : Hp → Prop}
    (q : ∀ H', Good K B0 F ((D, .dic (putD acc ky y')) :: M') ρ' κ' σ vs H' → Q H') : ∃ kvs k, x = kV k ∧ H D = some (.dK kvs) ∧ kvs.length < sizeLine ∧ Q (upd H D (.dK (putK kvs k y))) := by
  have e := hk.v g.pop
  subst e
  obtain ⟨B, g⟩ := g
  obtain ⟨_, _, o, ho, kvs, rfl, hw⟩ := g.cells _ List.mem_cons_self
  have hz : (100000 : Nat) ≤ sizeLine := by decide
  refine ⟨kvs, ky, rfl, ho, by rw [Paired.length hw]; omega, q _ ⟨B, ?_⟩⟩
  exact (g.pop.pop).write (j := 0) (c := .dic acc) (c' := .dic (putD acc ky y')) rfl ⟨_, rfl, ents_put g.fst hw⟩
theorem dc_mainU {u : Use} {kx vx tg iter : Expr} {ifs : List Expr} {scope : Scope} {own : List (Str × Nat)} {pos : Pos} {g : TG} {tt : TT} {P : Sl → Cs → Prop} (hc : X.calm = true) (hN : X.N.Nodup) (ok : BlkOk X.N X.env.scope scope own)
    (hg : ∀ b : BA, PG (bk X scope b) tg g) (ht : ∀ b : BA, PTs (bk X scope b) ifs tt) (hs : ∀ x, foldedSetIterable iter X.env x = pure x)
    (h : DI X B0 F M ρ κ tg iter fun ds s Src M1 => ∀ D, ∃ Iv : Nat → List (Key × PyData) → Cs → Prop, Iv 0 [] M1 ∧ (∀ i acc M, Iv i acc M → Src ((D, .dic acc) :: M)) ∧
      (∀ i d acc M σ vs H x (Q : Hp → Prop), ds[i]? = some d → Iv i acc M → Good X.K B0 F ((D, .dic acc) :: M) (wipeS ρ (own.map (·.2))) (.d d :: s :: (ρ ++ κ)) σ (x :: vs) H →
        (∀ acc' M' ρ' σ' H', Good X.K B0 F ((D, .dic acc') :: M') ρ' (s :: (ρ ++ κ)) σ' vs H' → Iv (i + 1) acc' M' → Q H') →
        g x σ H fun σ2 H2 => wipe σ2 (own.map (·.2)) = wipe σ (own.map (·.2)) ∧ tt σ2 H2 fun b H3 =>
          if b = true then (∀ b : BA, tOf (bk X scope b) kx σ2 H3 fun y H4 => ∀ b2 : BA, tOf (bk X scope b2) vx σ2 H4 fun z H5 => ∃ kvs k, y = kV k ∧ H5 D = some (.dK kvs) ∧ kvs.length < sizeLine ∧ Q (upd H5 D (.dK (putK kvs k z)))) else Q H3) ∧
      ∀ acc M, Iv ds.length acc M → P (.v (.ref D)) ((D, .dic acc) :: M))  (hu : UseOk X u (.DictComp kx vx [⟨tg, iter, ifs, 0⟩] scope pos)) : DEu X B0 F M ρ κ u (.DictComp kx vx [⟨tg, iter, ifs, 0⟩] scope pos) P := fun σ vs H Q g0 q => by
  refine use_dc (tk := fun σ H Q => ∀ b : BA, tOf (bk X scope b) kx σ H Q) (tv := fun σ H Q => ∀ b : BA, tOf (bk X scope b) vx σ H Q) hc hN pi_self ok (fun s H C cl fp => hg ⟨s, H, C, cl, fp⟩) (fun s H C cl fp => ht ⟨s, H, C, cl, fp⟩)
    (fun s H C cl fp => ⟨fun pins s' σ' H' Q' I z => z ⟨s, H, C, cl, fp⟩ pins s' I⟩) (fun s H C cl fp => ⟨fun pins s' σ' H' Q' I z => z ⟨s, H, C, cl, fp⟩ pins s' I⟩) hs hu ?_
  have hsh : Shape σ ρ := by obtain ⟨B, g0⟩ := g0; exact shape_of g0.sl
  refine h σ vs H _ g0 fun J H1 M1 ds s v Src g1 dw hsrc hr D hD => ?_
  obtain ⟨Iv, h0, hsr, hst, hd⟩ := hr D
  have up : ∀ {M' H'}, Good X.K B0 F M' ρ (s :: κ) σ (v :: vs) H' → Good X.K B0 F M' ρ (s :: (ρ ++ κ)) σ (v :: (valsOf σ ++ vs)) H' := fun {M' H'} ⟨B, g⟩ => by
    refine ⟨B, g.stk ?_⟩
    cases g.st with
    | cons k1 k2 => exact .cons k1 (Paired.app (kok_slots g.sl) k2)
  have hlen : (valsOf σ).length = ρ.length := by
    have := Paired.length hsh
    simp [valsOf, this]
  have down : ∀ {M' H' ρ' σ'}, Good X.K B0 F M' ρ' (s :: (ρ ++ κ)) σ' (v :: (valsOf σ ++ vs)) H' → Good X.K B0 F M' ρ (s :: κ) σ (v :: vs) H' := fun {M' H' ρ' σ'} ⟨B, g⟩ => by
    cases g.st with
    | cons k1 k2 =>
      obtain ⟨k3, k4⟩ := kok_split hlen k2
      exact ⟨B, (g.slt (sok_back hsh k3)).stk (.cons k1 k4)⟩
  refine ⟨fun i m H' => m = ds.length - i ∧ i ≤ ds.length ∧ ∃ acc M', Good X.K B0 F ((D, .dic acc) :: M') ρ (s :: κ) σ (v :: vs) H' ∧ Iv i acc M', ⟨ds.length, by simp, Nat.zero_le _, [], M1, ?_, h0⟩, ?_⟩
  · obtain ⟨B, g1⟩ := g1
    exact ⟨B, g1.cell (c := .dic []) hD ⟨[], rfl, .nil⟩⟩
  rintro i m H' ⟨rfl, hi, acc, M', g', hI⟩
  by_cases hlt : i < ds.length
  · obtain ⟨d, hdd⟩ : ∃ d, ds[i]? = some d := ⟨ds[i], by simp [hlt]⟩
    refine .inr ⟨dw.go i _ ρ κ σ vs H' (hsr i acc M' hI) g' hlt, fun H2 => ∃ acc2 M2, Good X.K B0 F ((D, .dic acc2) :: M2) ρ (s :: κ) σ (v :: vs) H2 ∧ Iv (i + 1) acc2 M2, fun H2 ⟨acc2, M2, g2, h2⟩ => ⟨ds.length - (i + 1), by omega, rfl, hlt, acc2, M2, g2, h2⟩, fun x H2 y => ?_⟩
    have g2 := dw.yld i _ ρ (ρ ++ κ) σ (valsOf σ ++ vs) H' x H2 d (hsr i acc M' hI) (up g') hdd y
    have g3 : Good X.K B0 F ((D, .dic acc) :: M') (wipeS ρ (own.map (·.2))) (.d d :: s :: (ρ ++ κ)) (wipe σ (own.map (·.2))) (x :: v :: (valsOf σ ++ vs)) H2 := by
      obtain ⟨B, g2⟩ := g2
      exact ⟨B, g2.slt (sok_wipe g2.sl _)⟩
    have z := hst i d acc M' _ _ H2 x (fun H2 => ∃ acc2 M2, Good X.K B0 F ((D, .dic acc2) :: M2) ρ (s :: κ) σ (v :: vs) H2 ∧ Iv (i + 1) acc2 M2) hdd hI g3 fun acc' M'' ρ' σ' H'' gg hh => ⟨acc', M'', down gg, hh⟩
    have eqw : wipe (wipe σ (own.map (·.2))) (own.map (·.2)) = wipe σ (own.map (·.2)) := by
      have : ∀ (ws us : List Nat), (∀ w ∈ us, w ∈ ws) → wipe (wipe σ us) ws = wipe σ ws := by
        intro ws us
        induction us with
        | nil => intro _; rfl
        | cons u us ih =>
          intro hu
          show wipe ((wipe σ us).set u none) ws = _
          rw [wipe_set (hu u List.mem_cons_self)]
          exact ih fun w hw => hu w (List.mem_cons_of_mem _ hw)
      exact this _ _ fun w hw => hw
    rw [eqw] at z
    exact z
  · have e : i = ds.length := by omega
    subst e
    exact .inl ⟨dw.stop _ ρ κ σ vs H' (hsr _ acc M' hI) g', q _ H' _ _ (by
      obtain ⟨B, g'⟩ := g'
      exact ⟨B, g'.pop.pushV⟩) (hd acc M' hI)⟩
/-- {kx: vx for x in iter} -/
theorem gu_dcC {u : Use} (i : Nat) {kx vx : Expr} {x : Str} {px : Pos} {scope : Scope} (h : DI X B0 F M ρ κ (.Name x px) iter fun ds s Src M1 => ∀ D, ∃ Iv : Nat → List (Key × PyData) → Cs → Prop, Iv 0 [] M1 ∧ (∀ i acc M, Iv i acc M → Src ((D, .dic acc) :: M)) ∧
      (∀ j d acc M, ds[j]? = some d → Iv j acc M → ∀ b : BA, DE (bk X scope b) B0 F ((D, .dic acc) :: M) ((ρ.set i .un).set i (.d d)) (s :: (ρ ++ κ)) kx fun r1 M1 => ∀ b : BA, DE (bk X scope b) B0 F M1 ((ρ.set i .un).set i (.d d)) (r1 :: s :: (ρ ++ κ)) vx fun r M2 => ∃ ky y M', KeyIs r1 ky ∧ r = .d y ∧ M2 = (D, .dic acc) :: M' ∧ acc.length < 100000 ∧ Iv (j + 1) (putD acc ky y) M') ∧
      ∀ acc M, Iv ds.length acc M → P (.v (.ref D)) ((D, .dic acc) :: M)) (hN : X.N.Nodup := by exact (by assumption)) (ok : BlkOk X.N X.env.scope scope [(x, i)] := by exact blkOk_by (by kernel_rfl)) (hg : ∀ b : BA, PG (bk X scope b) (.Name x px) (gName i) := by exact fun b => pg_name (by assumption) rfl (by first | exact Or.inl rfl | exact Or.inr rfl))
      (hc : X.calm = true := by rfl) (hs : ∀ x, foldedSetIterable iter X.env x = pure x := by intro _; rfl)  (hu : UseOk X u (.DictComp kx vx [⟨.Name x px, iter, [], 0⟩] scope pos) := by first | exact trivial | exact ⟨rfl, rfl, (by first | rfl | kernel_rfl)⟩) : DEu X B0 F M ρ κ u (.DictComp kx vx [⟨.Name x px, iter, [], 0⟩] scope pos) P :=
  dc_mainU (hu := hu) (own := [(x, i)]) (g := gName i) (tt := tYes) hc hN ok hg (fun _ => pts_nil) hs fun σ vs H Q g0 q => h σ vs H Q g0 fun J H1 M1 ds s v Src g1 dw hsrc hr => q J H1 M1 ds s v Src g1 dw hsrc fun D => by
    obtain ⟨Iv, h0, hsr, hst, hd⟩ := hr D
    refine ⟨Iv, h0, hsr, fun j d acc M σ vs H x Q hdd hI g hq => ⟨wipe_set (by simp), ?_⟩, hd⟩
    have fin : ∀ b : BA, tOf (bk X scope b) kx (σ.set i (some x)) H fun y H4 => ∀ b2 : BA, tOf (bk X scope b2) vx (σ.set i (some x)) H4 fun z H5 => ∃ kvs k, y = kV k ∧ H5 D = some (.dK kvs) ∧ kvs.length < sizeLine ∧ Q (upd H5 D (.dK (putK kvs k z))) := ?_
    · unfold tYes
      dsimp only
      rw [if_pos rfl]
      exact fin
    intro b
    have g2 : Good X.K B0 F ((D, .dic acc) :: M) ((ρ.set i .un).set i (.d d)) (s :: (ρ ++ κ)) (σ.set i (some x)) vs H := by
      obtain ⟨B, g⟩ := g
      exact ⟨B, g.pop.slt (Paired.set (OOk.of g.fst) i g.sl)⟩
    refine hst j d acc M hdd hI b (σ.set i (some x)) vs H _ g2 fun y H4 r1 M4 g4 h4 b2 => h4 b2 (σ.set i (some x)) (y :: vs) H4 _ g4 fun z H5 r M2 g5 h5 => ?_
    obtain ⟨ky, y', M', hk, rfl, rfl, hl, hI'⟩ := h5
    exact dc_push g5 hk hl fun H' g6 => hq _ _ _ _ _ g6 hI'
theorem de_dcC (i : Nat) {kx vx : Expr} {x : Str} {px : Pos} {scope : Scope} (h : DI X B0 F M ρ κ (.Name x px) iter fun ds s Src M1 => ∀ D, ∃ Iv : Nat → List (Key × PyData) → Cs → Prop, Iv 0 [] M1 ∧ (∀ i acc M, Iv i acc M → Src ((D, .dic acc) :: M)) ∧
      (∀ j d acc M, ds[j]? = some d → Iv j acc M → ∀ b : BA, DE (bk X scope b) B0 F ((D, .dic acc) :: M) ((ρ.set i .un).set i (.d d)) (s :: (ρ ++ κ)) kx fun r1 M1 => ∀ b : BA, DE (bk X scope b) B0 F M1 ((ρ.set i .un).set i (.d d)) (r1 :: s :: (ρ ++ κ)) vx fun r M2 => ∃ ky y M', KeyIs r1 ky ∧ r = .d y ∧ M2 = (D, .dic acc) :: M' ∧ acc.length < 100000 ∧ Iv (j + 1) (putD acc ky y) M') ∧
      ∀ acc M, Iv ds.length acc M → P (.v (.ref D)) ((D, .dic acc) :: M)) (hN : X.N.Nodup := by exact (by assumption)) (ok : BlkOk X.N X.env.scope scope [(x, i)] := by exact blkOk_by (by kernel_rfl)) (hg : ∀ b : BA, PG (bk X scope b) (.Name x px) (gName i) := by exact fun b => pg_name (by assumption) rfl (by first | exact Or.inl rfl | exact Or.inr rfl))
      (hc : X.calm = true := by rfl) (hs : ∀ x, foldedSetIterable iter X.env x = pure x := by intro _; rfl) : DE X B0 F M ρ κ (.DictComp kx vx [⟨.Name x px, iter, [], 0⟩] scope pos) P :=
  gu_dcC (u := none) i h hN ok hg hc hs trivial
/-- {kx: vx for x, y in iter} -/
theorem gu_dc2C {u : Use} (i j : Nat) (hij : i ≠ j) {kx vx : Expr} {x y : Str} {px py pt : Pos} {kt : Nat} {scope : Scope} (h : DI X B0 F M ρ κ (.Tuple [.Name x px, .Name y py] kt pt) iter fun ds s Src M1 => ∀ D, ∃ Iv : Nat → List (Key × PyData) → Cs → Prop, Iv 0 [] M1 ∧ (∀ i acc M, Iv i acc M → Src ((D, .dic acc) :: M)) ∧
      (∀ n d acc M, ds[n]? = some d → Iv n acc M → ∃ d1 d2, d = .tuple [d1, d2] ∧ ∀ b : BA, DE (bk X scope b) B0 F ((D, .dic acc) :: M) ((((ρ.set j .un).set i .un).set i (.d d1)).set j (.d d2)) (s :: (ρ ++ κ)) kx fun r1 M1 => ∀ b : BA, DE (bk X scope b) B0 F M1 ((((ρ.set j .un).set i .un).set i (.d d1)).set j (.d d2)) (r1 :: s :: (ρ ++ κ)) vx fun r M2 => ∃ ky y M', KeyIs r1 ky ∧ r = .d y ∧ M2 = (D, .dic acc) :: M' ∧ acc.length < 100000 ∧ Iv (n + 1) (putD acc ky y) M') ∧
      ∀ acc M, Iv ds.length acc M → P (.v (.ref D)) ((D, .dic acc) :: M)) (hN : X.N.Nodup := by exact (by assumption)) (ok : BlkOk X.N X.env.scope scope [(x, i), (y, j)] := by exact blkOk_by (by kernel_rfl))
      (hg : ∀ b : BA, PG (bk X scope b) (.Tuple [.Name x px, .Name y py] kt pt) (gTup X.K 2 (gCons (gName i) (gCons (gName j) gNil))) := by exact fun b => pg_tup rfl (pgs_cons (pg_name (by assumption) rfl (by first | exact Or.inl rfl | exact Or.inr rfl)) (pgs_cons (pg_name (by assumption) rfl (by first | exact Or.inl rfl | exact Or.inr rfl)) pgs_nil)))
      (hc : X.calm = true := by rfl) (hs : ∀ x, foldedSetIterable iter X.env x = pure x := by intro _; rfl)  (hu : UseOk X u (.DictComp kx vx [⟨.Tuple [.Name x px, .Name y py] kt pt, iter, [], 0⟩] scope pos) := by first | exact trivial | exact ⟨rfl, rfl, (by first | rfl | kernel_rfl)⟩) : DEu X B0 F M ρ κ u (.DictComp kx vx [⟨.Tuple [.Name x px, .Name y py] kt pt, iter, [], 0⟩] scope pos) P :=
  dc_mainU (hu := hu) (own := [(x, i), (y, j)]) (g := gTup X.K 2 (gCons (gName i) (gCons (gName j) gNil))) (tt := tYes) hc hN ok hg (fun _ => pts_nil) hs fun σ vs H Q g0 q => h σ vs H Q g0 fun J H1 M1 ds s v Src g1 dw hsrc hr => q J H1 M1 ds s v Src g1 dw hsrc fun D => by
    obtain ⟨Iv, h0, hsr, hst, hd⟩ := hr D
    refine ⟨Iv, h0, hsr, fun n d acc M σ vs H x Q hdd hI g hq => ?_, hd⟩
    obtain ⟨d1, d2, rfl, hst⟩ := hst n d acc M hdd hI
    obtain ⟨B, g⟩ := g
    obtain ⟨ad, xs, rfl, hx, hr⟩ := Rp.tup_inv g.fst
    cases hr with
    | cons hr1 hr2 =>
      cases hr2 with
      | cons hr2 hr3 =>
        cases hr3
        rename_i v1 v2
        refine ⟨ad, _, rfl, same_t g.bh hx, rfl, v1, _, rfl, v2, _, rfl, rfl, ?_, ?_⟩
        · rw [wipe_set (by simp), wipe_set (by simp)]
        · have fin : ∀ b : BA, tOf (bk X scope b) kx ((σ.set i (some v1)).set j (some v2)) H fun y H4 => ∀ b2 : BA, tOf (bk X scope b2) vx ((σ.set i (some v1)).set j (some v2)) H4 fun z H5 => ∃ kvs k, y = kV k ∧ H5 D = some (.dK kvs) ∧ kvs.length < sizeLine ∧ Q (upd H5 D (.dK (putK kvs k z))) := ?_
          · unfold tYes
            dsimp only
            rw [if_pos rfl]
            exact fin
          intro b
          have g2 : Good X.K B0 F ((D, .dic acc) :: M) ((((ρ.set j .un).set i .un).set i (.d d1)).set j (.d d2)) (s :: (ρ ++ κ)) ((σ.set i (some v1)).set j (some v2)) vs H :=
            ⟨B, g.pop.slt (Paired.set (OOk.of (s := .d d2) hr2) j (Paired.set (OOk.of (s := .d d1) hr1) i g.sl))⟩
          refine hst b _ vs H _ g2 fun y H4 r1 M4 g4 h4 b2 => h4 b2 _ (y :: vs) H4 _ g4 fun z H5 r M2 g5 h5 => ?_
          obtain ⟨ky, y', M', hk, rfl, rfl, hl, hI'⟩ := h5
          exact dc_push g5 hk hl fun H' g6 => hq _ _ _ _ _ g6 hI'

/-! ### enumerate -/
theorem de_dc2C (i j : Nat) (hij : i ≠ j) {kx vx : Expr} {x y : Str} {px py pt : Pos} {kt : Nat} {scope : Scope} (h : DI X B0 F M ρ κ (.Tuple [.Name x px, .Name y py] kt pt) iter fun ds s Src M1 => ∀ D, ∃ Iv : Nat → List (Key × PyData) → Cs → Prop, Iv 0 [] M1 ∧ (∀ i acc M, Iv i acc M → Src ((D, .dic acc) :: M)) ∧
      (∀ n d acc M, ds[n]? = some d → Iv n acc M → ∃ d1 d2, d = .tuple [d1, d2] ∧ ∀ b : BA, DE (bk X scope b) B0 F ((D, .dic acc) :: M) ((((ρ.set j .un).set i .un).set i (.d d1)).set j (.d d2)) (s :: (ρ ++ κ)) kx fun r1 M1 => ∀ b : BA, DE (bk X scope b) B0 F M1 ((((ρ.set j .un).set i .un).set i (.d d1)).set j (.d d2)) (r1 :: s :: (ρ ++ κ)) vx fun r M2 => ∃ ky y M', KeyIs r1 ky ∧ r = .d y ∧ M2 = (D, .dic acc) :: M' ∧ acc.length < 100000 ∧ Iv (n + 1) (putD acc ky y) M') ∧
      ∀ acc M, Iv ds.length acc M → P (.v (.ref D)) ((D, .dic acc) :: M)) (hN : X.N.Nodup := by exact (by assumption)) (ok : BlkOk X.N X.env.scope scope [(x, i), (y, j)] := by exact blkOk_by (by kernel_rfl))
      (hg : ∀ b : BA, PG (bk X scope b) (.Tuple [.Name x px, .Name y py] kt pt) (gTup X.K 2 (gCons (gName i) (gCons (gName j) gNil))) := by exact fun b => pg_tup rfl (pgs_cons (pg_name (by assumption) rfl (by first | exact Or.inl rfl | exact Or.inr rfl)) (pgs_cons (pg_name (by assumption) rfl (by first | exact Or.inl rfl | exact Or.inr rfl)) pgs_nil)))
      (hc : X.calm = true := by rfl) (hs : ∀ x, foldedSetIterable iter X.env x = pure x := by intro _; rfl) : DE X B0 F M ρ κ (.DictComp kx vx [⟨.Tuple [.Name x px, .Name y py] kt pt, iter, [], 0⟩] scope pos) P :=
  gu_dc2C (u := none) i j hij h hN ok hg hc hs trivial
def enumD (ds : List PyData) : List PyData := ds.mapIdx fun i d => .tuple [.int (i : Nat), d]
theorem enumD_len (ds : List PyData) : (enumD ds).length = ds.length := by simp [enumD]
theorem enumD_get {ds : List PyData} {i : Nat} {d : PyData} (h : (enumD ds)[i]? = some d) : ∃ z, ds[i]? = some z ∧ d = .tuple [.int (i : Nat), z] := by
  unfold enumD at h
  rw [List.getElem?_mapIdx] at h
  cases q : ds[i]? with
  | none => rw [q] at h; cases h
  | some z => rw [q] at h; exact ⟨z, rfl, (Option.some.inj h).symm⟩
theorem enum_yld {i : Nat} {σ : L2.St} {vs : List V} {H H' : Hp} {d : PyData} {s : Sl} {v : V} {T : Addr} {x : V} (g : Good K B0 F M ρ (s :: κ) σ (v :: vs) H) (hT : H T = none) (e : H' = upd H T (.tup [.int (i : Nat), x])) (hx : ∀ B, GoodB K B0 F M ρ (s :: κ) σ (v :: vs) H B → Rp K B x d) : Good K B0 F M ρ (.d (.tuple [.int (i : Nat), d]) :: s :: κ) σ (.ref T :: v :: vs) H' := by
  obtain ⟨B, g⟩ := g
  subst e
  have bp : B T = none := g.bh.free hT
  exact ⟨_, (g.laid (o := .tup [.int (i : Nat), x]) hT).pushD (.tup (SqT.of upd_same) (.cons (.int _) (.cons ((hx B g).ext fun b u z => by rw [upd_ne (ne_of_none z bp)]; exact z) .nil)))⟩
/-- enumerate(a list) -/
theorem di_enum {elts : List Expr} {kk : Nat} {tpos : Pos} (hm : X.mg "enumerate" = none) (h : DE X B0 F M ρ κ e fun r M1 => ∃ ds, r = .d (.list ds) ∧ R (enumD ds) r (fun _ => True) M1) (hg : Gl X "enumerate" := by rfl) (hs : starEach [e] X.env = (false, eval e X.env) :: starEach [] X.env := by rfl) (hs2 : starEach [e] X.env = [(false, eval e X.env)] := by rfl) :
    DI X B0 F M ρ κ (.Tuple elts kk tpos) (.Call (.Name "enumerate" p) [e] [] pos) R := fun σ vs H Q g q => by
  refine tOfI_of (pi_enum hg hm (pa_cons pe_self pa_nil hs) hs2) (h σ vs H _ g fun v H1 r M1 g1 hr => ?_)
  obtain ⟨ds, rfl, hr⟩ := hr
  obtain ⟨B, g1b⟩ := id g1
  obtain ⟨a, xs, rfl, ha, hx⟩ := Rp.lst_inv g1b.fst
  refine ⟨a, xs, rfl, SqL.of (g1b.bh _ _ ha), q (Ite X.K a) H1 M1 _ _ (.ref a) (fun _ => True) g1 ⟨?_, ?_, ?_⟩ trivial hr⟩
  · intro i M ρ κ σ vs H _ g hi
    rw [enumD_len] at hi
    obtain ⟨B, g⟩ := g
    obtain ⟨a', ys, e, ha', hy⟩ := Rp.lst_inv g.fst
    cases e
    have hl := hy.len
    exact ⟨ys, ys[i]'(by omega), SqL.of (g.bh _ _ ha'), by simp [show i < ys.length by omega]⟩
  · intro M ρ κ σ vs H _ g
    rw [enumD_len]
    obtain ⟨B, g⟩ := g
    obtain ⟨a', ys, e, ha', hy⟩ := Rp.lst_inv g.fst
    cases e
    have hl := hy.len
    exact ⟨ys, SqL.of (g.bh _ _ ha'), by omega⟩
  · intro i M ρ κ σ vs H x H' d _ g hd y
    obtain ⟨T, x', rfl, hT, eH, y⟩ := y
    obtain ⟨z, hz, rfl⟩ := enumD_get hd
    refine enum_yld g hT eH fun B g => ?_
    obtain ⟨a', ys, e, ha', hy⟩ := Rp.lst_inv g.fst
    cases e
    obtain ⟨v, hv, hvd⟩ := hy.get hz
    have e : x' = v := Option.some.inj ((y ys (SqL.of (g.bh _ _ ha'))).symm.trans hv)
    subst e
    exact hvd
/-- enumerate(a cell's list) -/
theorem di_enumC {elts : List Expr} {kk : Nat} {tpos : Pos} (hm : X.mg "enumerate" = none) (h : DE X B0 F M ρ κ e fun r M1 => ∃ a ds, r = .v (.ref a) ∧ (a, .lst ds) ∈ M1 ∧ R (enumD ds) r (fun M => (a, .lst ds) ∈ M) M1) (hg : Gl X "enumerate" := by rfl) (hs : starEach [e] X.env = (false, eval e X.env) :: starEach [] X.env := by rfl) (hs2 : starEach [e] X.env = [(false, eval e X.env)] := by rfl) :
    DI X B0 F M ρ κ (.Tuple elts kk tpos) (.Call (.Name "enumerate" p) [e] [] pos) R := fun σ vs H Q g q => by
  refine tOfI_of (pi_enum hg hm (pa_cons pe_self pa_nil hs) hs2) (h σ vs H _ g fun v H1 r M1 g1 hr => ?_)
  obtain ⟨a, ds, rfl, hmem, hr⟩ := hr
  have e := g1.ref
  subst e
  obtain ⟨B, g1b⟩ := id g1
  obtain ⟨_, _, o, ho, xs, rfl, hx⟩ := g1b.cells _ hmem
  refine ⟨a, xs, rfl, SqL.of ho, q (Ite X.K a) H1 M1 _ _ (.ref a) (fun M => (a, .lst ds) ∈ M) g1 ⟨?_, ?_, ?_⟩ hmem hr⟩
  · intro i M ρ κ σ vs H hm g hi
    rw [enumD_len] at hi
    obtain ⟨B, g⟩ := g
    obtain ⟨_, _, o, ho, ys, rfl, hy⟩ := g.cells _ hm
    have hl := hy.len
    exact ⟨ys, ys[i]'(by omega), SqL.of ho, by simp [show i < ys.length by omega]⟩
  · intro M ρ κ σ vs H hm g
    rw [enumD_len]
    obtain ⟨B, g⟩ := g
    obtain ⟨_, _, o, ho, ys, rfl, hy⟩ := g.cells _ hm
    have hl := hy.len
    exact ⟨ys, SqL.of ho, by omega⟩
  · intro i M ρ κ σ vs H x H' d hm g hd y
    obtain ⟨T, x', rfl, hT, eH, y⟩ := y
    obtain ⟨z, hz, rfl⟩ := enumD_get hd
    refine enum_yld g hT eH fun B g => ?_
    obtain ⟨_, _, o, ho, ys, rfl, hy⟩ := g.cells _ hm
    obtain ⟨v, hv, hvd⟩ := hy.get hz
    have e : x' = v := Option.some.inj ((y ys (SqL.of ho)).symm.trans hv)
    subst e
    exact hvd
end
end DL
set_option maxHeartbeats 4000000
/-! enumerate(t), t a tuple -/
namespace DLE
open PySem PySem.Spec PyProof.Rows
open Sem (wp)
theorem meets_enum1 {v : Value} {o : Obj} {H : Heap → Prop} (B : Begins v o H) :
    Meets (Builtin.«enumerate.__new__» ⟨[.type "enumerate", v], []⟩) (fun _ R s => H s.heap ∧
      R (.ok (.ret (.ref (s.heap.push o).objs.size))) { s with heap := (s.heap.push o).push { cls := .type "enumerate", data := .fields #[.none, .bool false, .ref s.heap.objs.size, rawInt 0, .none, .none] } }) :=
  .of_wp fun prog w A R s h => by
    obtain ⟨hp, g, d, tk, os⟩ := s
    obtain ⟨h1, h⟩ := h
    have hsub := sub_enumerate
    have q1 : ∀ {A' : Around} {E : Value → Shared → Prop} {Q : Value → Shared → Prop}, Q (.ref hp.objs.size) ⟨hp.push o, g, d, tk, os⟩ → wpAny (model prog w) A' (pyIter v) Q E ⟨hp, g, d, tk, os⟩ :=
      fun q => B.iter prog w _ _ ⟨hp, g, d, tk, os⟩ _ h1 q
    wp_walk using q1
    refine wpAny_stack_any fun st => wpAny_pure ?_
    split
    · rename_i c _ _ _ _ _
      cases (c == Value.type "enumerate") <;> (wp_walk using q1; exact ⟨_, rfl, h⟩)
    · wp_walk using q1
      exact ⟨_, rfl, h⟩
theorem call_enum1 {prog : Program} {w : World} {A : Around} {E : Value → Shared → Prop} {s : Shared} {v : Value} {o : Obj} {H : Heap → Prop} {Q : Value → Shared → Prop} (B : Begins v o H) (h1 : H s.heap)
    (h : ∀ h', IsEnum h' (s.heap.objs.size + 1) s.heap.objs.size 0 .none → h'.get? s.heap.objs.size = some o → h'.objs.size = s.heap.objs.size + 2 → (∀ b o, s.heap.get? b = some o → h'.get? b = some o) → Q (.ref (s.heap.objs.size + 1)) { s with heap := h' }) :
    wpAny (model prog w) A (call (.type "enumerate") [v]) Q E s := by
  refine callType_new F.called_enumerate (by decide) (F.typeCall_enumerate_1 _) (F.newCall_enumerate_1 _) (fun obj => F.args_object_init_2 obj _) F.entry_enumerate_new (meets_enum1 B) ⟨h1, ?_⟩
  have hz : (s.heap.push o).objs.size = s.heap.objs.size + 1 := Heap.size_push ..
  show _ ∧ _
  rw [hz]
  have he : IsEnum ((s.heap.push o).push { cls := .type "enumerate", data := .fields #[.none, .bool false, .ref s.heap.objs.size, rawInt 0, .none, .none] }) (s.heap.objs.size + 1) s.heap.objs.size 0 .none := by
    have z := Heap.get?_push_size (s.heap.push o) (o := { cls := .type "enumerate", data := .fields #[.none, .bool false, .ref s.heap.objs.size, rawInt 0, .none, .none] }) rfl
    rw [hz] at z
    exact z
  exact ⟨⟨_, he, rfl⟩, h _ he (Heap.get?_push_of_some _ (Heap.get?_push_size _ B.free)) (by rw [Heap.size_push, hz]) fun b o x => Heap.get?_push_of_some _ (Heap.get?_push_of_some _ x)⟩
end DLE
namespace DL
open PySem PySem.Spec PyProof.Rows L2
def IteT (K : Fg) (a : Addr) : It :=
  ⟨fun i H => ∃ (xs : List V) (x : V), SqT K H a xs ∧ xs[i]? = some x, fun i H v H' => ∃ T x, v = .ref T ∧ H T = none ∧ H' = upd H T (.tup [.int (i : Nat), x]) ∧ ∀ xs, SqT K H a xs → xs[i]? = some x, fun i H => ∃ xs : List V, SqT K H a xs ∧ xs.length ≤ i⟩
theorem turn_enumT {P : Program} {w : World} {K : Fg} {elts : List Expr} {kk : Nat} {tpos : Pos} (a e it : Addr) :
    Turn P w K (.Tuple elts kk tpos) (IteT K a) [e, it] e (fun i h => (∃ old, IsEnum h e it ((i : Nat) : Int) old) ∧ h.IsTupleIter it a i ∧ e ≠ it ∧ a ≠ it ∧ a ≠ e) where
  mem := by simp
  obj := fun i h st b hb => by
    obtain ⟨⟨old, he⟩, ⟨o, ho, hc, hd⟩, _⟩ := st
    rcases List.mem_cons.mp hb with z | z
    · rw [z]; exact ⟨_, he, fun v q => nomatch q⟩
    · rw [List.mem_singleton.mp z]; exact ⟨o, ho, fun v q => by rw [hd] at q; cases q⟩
  keep := fun i h h' ⟨⟨old, he⟩, hi, hne⟩ k => ⟨⟨old, k e List.mem_cons_self _ he⟩, hi.at fun o q => k it (by simp) o q, hne⟩
  item := by
    intro X hP hw hK hc i pins s σ H E I hf st hg
    subst hP hw hK
    obtain ⟨⟨old, he⟩, hit, hne, hai, hae⟩ := st
    obtain ⟨xs, x, hq, hx⟩ := hg
    obtain ⟨its, rv, p, hz⟩ := I.tuple hq
    obtain ⟨u, hu, ru⟩ := rv.get hx
    have hel : e < s.heap.objs.size := Heap.lt_size he
    have hil : it < s.heap.objs.size := by obtain ⟨_, q, _⟩ := hit; exact Heap.lt_size q
    have hlen : its.toArray.size = xs.length := by rw [List.size_toArray]; exact rv.length.symm
    have D := Draws.tuple (prog := X.prog) (w := X.w) (A := X.A.in1) (by simpa using I.ok.hd hc) it a hai its.toArray
    refine wpAny_pyNext_enum_itemD D he ⟨hit, p⟩ (by rw [hlen]; exact (List.getElem?_eq_some_iff.mp hx).1) hne (by simp [hne, Ne.symm hae]) fun x1 h' tk hP1 ho st' hT hsz hk => ?_
    have e1 : x1 = u := by
      have q := hP1.symm.trans (show its.toArray[i]? = some u by simpa using hu)
      exact Option.some.inj q
    subst e1
    refine ⟨_, rfl, wpAny_letOwnedTupleGo_enum (s := { s with heap := h', toks := tk + 1 }) ho fun h'' he' sb => ?_⟩
    have hT2 := (sb.2 _ (Nat.ne_of_gt hel)).trans hT
    have new : ObjOk X.prog X.w (upd H s.heap.objs.size (.tup [.int (i : Nat), x])) h'' s.heap.objs.size (.tup [.int (i : Nat), x]) :=
      ⟨by show 2 ≤ sizeLine; decide, [.int i tk, x1], .cons ⟨_, rfl⟩ (.cons ru .nil), ⟨_, hT2, rfl, _, rfl⟩⟩
    have I1 : Inv X pins σ (upd H s.heap.objs.size (.tup [.int (i : Nat), x])) { s with heap := h'', toks := tk + 1 } :=
      I.turnedNew (ch := [e, it]) (fun b ob hb q => (sb.2 b (fun z => hb (by simp [z]))).trans (hk b ob (fun z => hb (by simp [z])) (fun z => hb (by simp [z])) q)) hf (Nat.le_refl _) new
    refine ⟨.ref s.heap.objs.size, _, I1, rfl, ⟨_, x, rfl, I.hok.fresh (Nat.le_refl _), rfl, fun ys hy => by rw [I.tuple_inj hy hq]; exact hx⟩, ⟨⟨x1, ?_⟩, st'.1.at fun o q => (sb.2 it (Ne.symm hne)).trans q, hne, hai, hae⟩, fun b hb => ?_⟩
    · have e1 : ((i + 1 : Nat) : Int) = (i : Int) + 1 := by omega
      rw [e1]; exact he'
    · have hb' : b < s.heap.objs.size := by
        rcases List.mem_cons.mp hb with z | z
        · rw [z]; exact hel
        · rw [List.mem_singleton.mp z]; exact hil
      rw [upd_ne (Nat.ne_of_lt hb')]
      exact (hf b hb).1
  done := by
    intro X hP hw hK hc i pins s σ H E I hf st hg
    subst hP hw hK
    obtain ⟨⟨old, he⟩, hit, hne, hai, hae⟩ := st
    obtain ⟨xs, hq, hx⟩ := hg
    obtain ⟨its, rv, p, hz⟩ := I.tuple hq
    have hlen : its.toArray.size = xs.length := by rw [List.size_toArray]; exact rv.length.symm
    obtain ⟨f0, f1, f2, f3, f4, f5⟩ := hf it (by simp)
    have hi : i = its.toArray.size ∨ its.toArray.size < i := by omega
    have D := Draws.tuple (prog := X.prog) (w := X.w) (A := X.A.in1) (by simpa using I.ok.hd hc) it a hai its.toArray
    have hT : s.TypeIs (.ref e) "enumerate" := ⟨_, he, rfl⟩
    unfold pyNext
    refine wpAny_bind (wpAny_attempt (wpAny_callSpecial?_slot (name := Str.ofString "__next__") hT F.slot_enumerate_next
      (wpAny_call_entry F.slot_enumerate_next hT F.entry_enumerate_next ?_ (F.args_enumerate_next_1 _))))
    show wpAny _ _ (field (.ref e) 2 >>= _) _ _ _
    refine wpAny_bind (wpAny_field he rfl (x := .ref it) rfl ?_)
    refine wpAny_bind (wpAny_nextOf_tuple_end (by simpa using I.ok.hd hc) hit p (by have z := rv.length; simp only [List.size_toArray] at *; simp; omega) fun h' x he' hx' => ?_)
    obtain ⟨o, ho, hcx⟩ := hx'
    refine wpAny_bind (wpAny_isInstance (T := "StopIteration") (b := true) ⟨o, ho, hcx⟩ isSubtype_stop ?_)
    exact wpAny_pure ⟨rfl, I.turned (t' := s.toks) (fun b o hb q => he' b o hb q) f0 f1 f3 f4 f5⟩
  self := fun A i s Q E st h => let ⟨⟨_, he⟩, _⟩ := st; wpAny_pyIter_enum he h
def iEnumT (K : Fg) (ta : TA) : TI := fun σ H R => ta σ H fun vs H1 => ∃ a xs, vs = [.ref a] ∧ SqT K H1 a xs ∧ R (IteT K a) H1
theorem pi_enumT {X : Cx} {e : Expr} {ta : TA} {p pos tpos : Pos} {elts : List Expr} {kk : Nat} (hg : Gl X "enumerate") (hm : X.mg "enumerate" = none) (ha : PA X [e] ta) (hs : starEach [e] X.env = [(false, eval e X.env)] := by rfl) :
    PI X (.Tuple elts kk tpos) (.Call (.Name "enumerate" p) [e] [] pos) (iEnumT X.K ta) := by
  refine ⟨fun pins s σ H R I h => ?_⟩
  refine Call_ (ld_blt I hg hm boot_enumerate (PyProof.Rows.callWith_type1 (thn (ha.run pos pins s σ H _ I h) fun us s1 ⟨vs, H1, I1, r1, q1⟩ => ?_) hs rfl))
  obtain ⟨a, xs, ex, hq, q⟩ := q1
  subst ex
  obtain rfl := Vals.ref1 r1
  obtain ⟨its, rv, p', hz⟩ := I1.tuple hq
  have hal : a < s1.heap.objs.size := p'.lt
  refine DLE.call_enum1 (begins_tuple a its.toArray) (show s1.heap.IsTuple a its.toArray from p') fun h' he hit hsz hk => wpAny_pyIter_enum he ?_
  have I2 : Inv X pins σ H1 { s1 with heap := h' } := I1.kept (t' := s1.toks) hk
  refine ⟨s1.heap.objs.size + 1, [s1.heap.objs.size + 1, s1.heap.objs.size], _, _, H1, rfl, I2, turn_enumT a (s1.heap.objs.size + 1) s1.heap.objs.size, ⟨⟨.none, he⟩, ⟨_, hit, rfl, rfl⟩, Nat.succ_ne_self _, Nat.ne_of_lt hal, Nat.ne_of_lt (Nat.lt_succ_of_lt hal)⟩, fun b hb => ?_, q⟩
  have hle : s1.heap.objs.size ≤ b := by
    rcases List.mem_cons.mp hb with z | z
    · rw [z]; exact Nat.le_succ _
    · rw [List.mem_singleton.mp z]; exact Nat.le_refl _
  exact I1.fpOk hle (I1.hok.fresh hle)
section
variable {X : Cx} {K : Fg} {B0 F : Hp} {M : Cs} {ρ κ : List Sl} {e : Expr} {pos p : Pos} {R : List PyData → Sl → (Cs → Prop) → Cs → Prop}
theorem di_enumT {elts : List Expr} {kk : Nat} {tpos : Pos} (hm : X.mg "enumerate" = none) (h : DE X B0 F M ρ κ e fun r M1 => ∃ ds, r = .d (.tuple ds) ∧ R (enumD ds) r (fun _ => True) M1) (hg : Gl X "enumerate" := by rfl) (hs : starEach [e] X.env = (false, eval e X.env) :: starEach [] X.env := by rfl) (hs2 : starEach [e] X.env = [(false, eval e X.env)] := by rfl) :
    DI X B0 F M ρ κ (.Tuple elts kk tpos) (.Call (.Name "enumerate" p) [e] [] pos) R := fun σ vs H Q g q => by
  refine tOfI_of (pi_enumT hg hm (pa_cons pe_self pa_nil hs) hs2) (h σ vs H _ g fun v H1 r M1 g1 hr => ?_)
  obtain ⟨ds, rfl, hr⟩ := hr
  obtain ⟨B, g1b⟩ := id g1
  obtain ⟨a, xs, rfl, ha, hx⟩ := Rp.tup_inv g1b.fst
  refine ⟨a, xs, rfl, same_t g1b.bh ha, q (IteT X.K a) H1 M1 _ _ (.ref a) (fun _ => True) g1 ⟨?_, ?_, ?_⟩ trivial hr⟩
  · intro i M ρ κ σ vs H _ g hi
    rw [enumD_len] at hi
    obtain ⟨B, g⟩ := g
    obtain ⟨a', ys, e, ha', hy⟩ := Rp.tup_inv g.fst
    cases e
    have hl := hy.len
    exact ⟨ys, ys[i]'(by omega), same_t g.bh ha', by simp [show i < ys.length by omega]⟩
  · intro M ρ κ σ vs H _ g
    rw [enumD_len]
    obtain ⟨B, g⟩ := g
    obtain ⟨a', ys, e, ha', hy⟩ := Rp.tup_inv g.fst
    cases e
    have hl := hy.len
    exact ⟨ys, same_t g.bh ha', by omega⟩
  · intro i M ρ κ σ vs H x H' d _ g hd y
    obtain ⟨T, x', rfl, hT, eH, y⟩ := y
    obtain ⟨z, hz, rfl⟩ := enumD_get hd
    refine enum_yld g hT eH fun B g => ?_
    obtain ⟨a', ys, e, ha', hy⟩ := Rp.tup_inv g.fst
    cases e
    obtain ⟨v, hv, hvd⟩ := hy.get hz
    have e : x' = v := Option.some.inj ((y ys (same_t g.bh ha')).symm.trans hv)
    subst e
    exact hvd
end
end DL
set_option maxHeartbeats 4000000
namespace DL
open PySem PySem.Spec PyProof.Rows L2

section
variable {X : Cx} {K : Fg} {B0 F : Hp} {M : Cs} {ρ κ : List Sl} {P : Sl → Cs → Prop} {a b c e o : Expr} {es : List Expr} {pos p : Pos} {x : Str} {R : List PyData → Sl → (Cs → Prop) → Cs → Prop}
theorem Good.perm {M' : Cs} {σ : L2.St} {vs : List V} {H : Hp} (g : Good K B0 F M ρ κ σ vs H) (h : M.Perm M') : Good K B0 F M' ρ κ σ vs H := by
  obtain ⟨B, g⟩ := g
  exact ⟨B, g.b0, g.bh, g.fh, g.new, fun c hc => g.cells c (h.mem_iff.mpr hc), (h.map _).nodup_iff.mp g.nd, g.sl, g.st⟩
/-- f(e, ..): a def that may change all cells behind the first j -/
theorem de_callJ {f : Addr} {fd : FuncData} {ps : List Str} {lv : Nat} {Rf : List Sl → Cs → (Sl → Cs → Prop) → Prop} (j : Nat) (Fo : FnOk X.prog X.w X.K X.mg X.base CX0 lv f fd ps (SpG X.K Rf)) (hr : Room lv X.A) (hm : X.mg x = some (.ref f)) (hk : PySem.W.keepIn X.K (.ref f) = true) (hb : Binds X.K fd ps [])
    (h : DA X B0 F M ρ κ (e :: es) fun rs M1 => Rf rs (M1.drop j) fun r M2 => NoRd r ∧ P r (M1.take j ++ M2)) (hg : Gl X x := by rfl) (hdb : (x == ("__debug__" : Str)) = false := by decide)
    (he : starEach (e :: es) X.env = (false, eval e X.env) :: starEach es X.env := by rfl) (hpl : (backTo pos (starEach es X.env)).any (·.1) = false := by rfl) : DE X B0 F M ρ κ (.Call (.Name x p) (e :: es) [] pos) P := fun σ vs H Q g q => by
  refine tOf_of (pe_call (E := E0) Fo hr hg hm hk hb .nil pass0 pa_self hdb he hpl) (h σ vs H _ g fun ws H1 rs M1 hl g1 hR => ?_)
  rw [List.append_nil]
  have pm : M1.Perm (M1.drop j ++ M1.take j) := by
    have h1 : M1 = M1.take j ++ M1.drop j := (List.take_append_drop j M1).symm
    exact (List.Perm.of_eq h1).trans List.perm_append_comm
  obtain ⟨B, g1⟩ := g1.perm pm
  obtain ⟨k1, k2⟩ := kok_split hl g1.st
  have g2 := g1.stk k2
  have sF : Same F (without H1 ((M1.drop j).map (·.1))) := fun a o e => by
    rw [without_out]
    · exact g1.fh a o e
    · intro z
      obtain ⟨c, hc, rfl⟩ := List.mem_map.mp z
      rw [(g1.cells c (List.mem_append_left _ hc)).f] at e
      cases e
  have nd := g1.nd
  rw [List.map_append] at nd
  refine ⟨B, without H1 ((M1.drop j).map (·.1)), M1.drop j, rs, _, ⟨B, Same.refl _, g1.bh, fun a o e => (without_some e).2, fun a ha => .inl ha, fun c hc => ?_, (List.nodup_append.mp nd).1, .nil, Paired.mapP k1 fun _ _ z => z.extF sF⟩, ?_, hR, fun v H' r M' g' hW => ?_⟩
  · obtain ⟨h1, h2, u, h3, h4⟩ := g1.cells c (List.mem_append_left _ hc)
    exact ⟨h1, without_in (List.mem_map.mpr ⟨c, hc, rfl⟩), u, h3, h4⟩
  · rintro r M ⟨hn, _⟩
    exact hn
  · exact q v H' r _ ((good_afterM g2 hW.1 g').perm List.perm_append_comm) hW.2

/-! ### a raw list made, an item popped -/
theorem vok_slV {F B : Hp} {v w : V} (h : VOk K F B v (slV w)) : v = w := by
  cases w with
  | int i => exact Rp.int_inv h
  | bl b => exact Rp.bl_inv h
  | str x => exact Rp.str_inv h
  | non => exact Rp.non_inv h
  | byt b => exact h
  | flt b => exact h
  | ref a => exact h
  | ty n => exact h
theorem koks_slV {F B : Hp} : ∀ {ws vs : List V}, KOk K F B ws (vs.map slV) → ws = vs
  | _, [], h => by cases h; rfl
  | _, v :: vs, h => by
    cases h with
    | cons h1 h2 => rw [vok_slV h1, koks_slV h2]
theorem de_lstRaw (h : DA X B0 F M ρ κ es fun rs M1 => ∃ ws : List V, rs = ws.map slV ∧ ws.length ≤ 100000 ∧ ∀ p, P (.v (.ref p)) ((p, .raw (.lst ws)) :: M1)) : DE X B0 F M ρ κ (.List es pos) P :=
  fun σ vs H Q g q => tOf_of (pe_lst pa_self) (h σ vs H _ g fun ws H1 rs M1 hl g1 h1 => by
    obtain ⟨us, rfl, hz, p⟩ := h1
    obtain ⟨B, g1⟩ := g1
    obtain ⟨h3, h4⟩ := kok_split hl g1.st
    have e := koks_slV h3
    subst e
    exact ⟨Nat.le_trans hz (by decide), fun a ha => q _ _ _ _ ⟨B, ((g1.stk h4).cell (c := .raw (.lst ws)) ha rfl).pushV⟩ (p a)⟩)
variable {apos cpos : Pos}
/-- xs.pop(i): xs a cell at place n -/
theorem de_popAt (n : Nat) (h : DE X B0 F M ρ κ o fun r1 M1 => ∃ a ds', r1 = .v (.ref a) ∧ (a, MC.lst ds') ∈ M1 ∧ DE X B0 F M1 ρ (r1 :: κ) e fun r2 M2 => ∃ ds i k d, r2 = .d (.int i) ∧ M2[n]? = some (a, .lst ds) ∧ -(2 ^ 63) ≤ i ∧ i < 2 ^ 63 ∧ seqIndex? i ds.length = some k ∧ ds[k]? = some d ∧ P (.d d) (M2.set n (a, .lst (ds.eraseIdx k))))
    (hbase : attributeBase o "pop" X.env (eval o X.env) = eval o X.env := by rfl)
    (hfew : ((backTo cpos (starEach (e :: []) X.env)).all (fun x => !x.1) && (backToKw cpos (keywordEach [] X.env)).all (fun x => x.1.isSome)
      && decide ((e :: ([] : List Expr)).length + ([] : List Keyword).length + (if ([] : List Keyword).isEmpty then 0 else 1) < 30)) = true := by rfl)
    (hline : (apos.endLine == cpos.line) = true := by rfl) (hs : starEach (e :: []) X.env = (false, eval e X.env) :: starEach [] X.env := by rfl) (hplain : (backTo cpos (starEach [] X.env)).any (·.1) = false := by rfl) :
    DE X B0 F M ρ κ (.Call (.Attribute o "pop" apos) [e] [] cpos) P := fun σ vs H Q g q => by
  refine tOf_of (pe_bm PySem.F.plainAttrs_list PySem.F.slot_list_pop PySem.F.type_list_pop (X := X) mt_popAt pe_self (pa_cons pe_self pa_nil hs) hbase hfew hline hs hplain) ?_
  refine h σ vs H _ g fun x H1 r1 M1 g1 h1 => ?_
  obtain ⟨a, ds', rfl, hm, h1⟩ := h1
  have e := g1.ref
  subst e
  refine ⟨?_, h1 σ (.ref a :: vs) H1 _ g1 fun y H2 r2 M2 g2 h2 => ?_⟩
  · obtain ⟨B, g1⟩ := g1
    obtain ⟨_, _, u, ho, ws, rfl, hw⟩ := g1.cells _ hm
    exact .inl ⟨rfl, ws, SqL.of ho⟩
  · obtain ⟨ds, i, k, d, rfl, hn, hi1, hi2, hk, hd, hp⟩ := h2
    have e := g2.int
    subst e
    obtain ⟨B, g2⟩ := g2
    obtain ⟨ws, ho, hw⟩ := cell_at g2 hn
    obtain ⟨v, hv, hr⟩ := hw.get hd
    have er : ∀ {ws : List V} {ds : List PyData} (k : Nat), RpA X.K B ws ds → RpA X.K B (ws.eraseIdx k) (ds.eraseIdx k) := by
      intro ws ds k h
      induction ws generalizing ds k with
      | nil => cases h; exact .nil
      | cons w ws ih =>
        cases h with
        | cons h1 h2 =>
          cases k with
          | zero => exact h2
          | succ k => exact .cons h1 (ih k h2)
    exact ⟨a, ws, i, k, v, rfl, rfl, ho, hi1, hi2, by rw [hw.len]; exact hk, hv, q _ _ _ _ ⟨B, (g2.pop.pop.write (c' := .lst (ds.eraseIdx k)) hn ⟨_, rfl, er k hw⟩).pushD hr⟩ hp⟩

/-! ### in, of data at any depth -/
theorem SeqLs.dp {σ : L2.St} {vs : List V} {H B : Hp} {s : Sl} {ds : List PyData} {v : V} (q : SeqLs M s ds) (g : GoodB K B0 F M ρ κ σ vs H B) (hv : VOk K F B v s) : Dp K H v (.list ds) := by
  obtain ⟨a, xs, rfl, h1, h2⟩ := q.at g hv
  exact .lst h1 (h2.ext g.bh).dp
theorem r2_inD {s : Sl} {ds : List PyData} {d : PyData} (q : SeqLs M s ds) (hd : SeqAt.shaped d = true) (hs : SeqAt.shaped (.list ds) = true) (h : P (.d (.bool (ds.any fun z => PyData.eqv z d))) M) : R2D K B0 F ρ κ (rInD K) (.d d) s M P := fun σ vs H x y Q g qq => by
  obtain ⟨B, g⟩ := g
  have r : Rp K B x d := g.pop.fst
  exact ⟨d, ds, (r.ext g.bh).dp, q.dp g g.fst, hd, hs, qq _ H _ M ⟨B, g.pop.pop.pushD (Rp.bl _)⟩ h⟩
theorem r2_niD {s : Sl} {ds : List PyData} {d : PyData} (q : SeqLs M s ds) (hd : SeqAt.shaped d = true) (hs : SeqAt.shaped (.list ds) = true) (h : P (.d (.bool (!ds.any fun z => PyData.eqv z d))) M) : R2D K B0 F ρ κ (rNotInD K) (.d d) s M P := fun σ vs H x y Q g qq => by
  obtain ⟨B, g⟩ := g
  have r : Rp K B x d := g.pop.fst
  exact ⟨d, ds, (r.ext g.bh).dp, q.dp g g.fst, hd, hs, qq _ H _ M ⟨B, g.pop.pop.pushD (Rp.bl _)⟩ h⟩

/-! ### ranges as values -/
/-- range(i, j): a cell -/
theorem rn_range2 {i j : Int} (h : ∀ p, P (.v (.ref p)) ((p, .raw (.rng i j)) :: M)) : RnD K B0 F ρ κ (fun vs H Q => ∃ i j, vs = [V.int i, V.int j] ∧ ∀ p, H p = none → Q (.ref p) (upd H p (.rng i j))) [.d (.int i), .d (.int j)] M P := fun σ vs H xs Q hl g qq => by
  obtain ⟨x, y, rfl⟩ := two_args hl rfl
  have g2 : Good K B0 F M ρ (.d (.int j) :: κ) σ (y :: vs) H := Good.pop g
  have e := Good.int g
  subst e
  have e := g2.int
  subst e
  obtain ⟨B, g2⟩ := g2
  exact ⟨i, j, rfl, fun p hp => qq _ _ _ _ ⟨B, (g2.pop.cell (c := .raw (.rng i j)) hp rfl).pushV⟩ (h p)⟩
/-- a range object that stands, walked -/
def iRngV (te : TE) : TI := fun σ H R => te σ H fun x H1 => ∃ p lo hi, x = .ref p ∧ H1 p = some (.rng lo hi) ∧ (-(2 ^ 62) ≤ lo ∧ lo < 2 ^ 62 ∧ -(2 ^ 62) ≤ hi ∧ hi < 2 ^ 62) ∧ R (Itr lo (hi - lo).toNat) H1
theorem pi_rngV {tg e : Expr} {te : TE} (he : PE X e te) : PI X tg e (iRngV te) := by
  refine ⟨fun pins s σ H R I h => ?_⟩
  refine thn (he.run pins s σ H _ I h) fun v s1 ⟨x, H1, I1, r1, q1⟩ => ?_
  obtain ⟨p, lo, hi, rfl, hp, ⟨h1, h2, h3, h4⟩, q⟩ := q1
  obtain rfl : v = Value.ref p := r1
  obtain ⟨t, u, w, ho⟩ : ObjOk X.prog X.w H1 s1.heap p (.rng lo hi) := I1.hok p _ hp
  refine wpAny_pyIter_range (show IsRange s1.heap p lo hi 1 t u w from ho) (small_one h1 h2 h3 h4) ?_
  refine ⟨s1.heap.objs.size, [s1.heap.objs.size], _, _, H1, rfl, I1.kept (t' := s1.toks) fun b o e => Heap.get?_push_of_some _ e, turn_range _ lo (hi - lo).toNat, ?_, fun b hb => ?_, q⟩
  · have e1 : lo + ((0 : Nat) : Int) * 1 = lo := by simp
    have e2 : (((hi - lo).toNat : Nat) : Int) - ((0 : Nat) : Int) = Builtin.Range.rangeSize lo hi 1 := by rw [rangeSize_one]; split <;> omega
    show IsRangeIter _ _ (lo + ((0 : Nat) : Int) * 1) ((((hi - lo).toNat : Nat) : Int) - ((0 : Nat) : Int)) 1
    rw [e1, e2]
    exact Heap.get?_push_size _ rfl
  · obtain rfl := List.mem_singleton.mp hb
    exact I1.fpOk (Nat.le_refl _) (I1.hok.fresh (Nat.le_refl _))
theorem di_rngV {tg : Expr} (h : DE X B0 F M ρ κ e fun r M1 => ∃ p lo hi, r = .v (.ref p) ∧ (p, .raw (.rng lo hi)) ∈ M1 ∧ (-(2 ^ 62) ≤ lo ∧ lo < 2 ^ 62 ∧ -(2 ^ 62) ≤ hi ∧ hi < 2 ^ 62) ∧ R (rngD lo (hi - lo).toNat) .un (fun _ => True) M1) : DI X B0 F M ρ κ tg e R := fun σ vs H Q g q => by
  refine tOfI_of (pi_rngV pe_self) (h σ vs H _ g fun v H1 r M1 g1 hr => ?_)
  obtain ⟨p, lo, hi, rfl, hm, hb, hr⟩ := hr
  have e := g1.ref
  subst e
  obtain ⟨B, g1b⟩ := id g1
  exact ⟨p, lo, hi, rfl, raw_at g1b hm, hb, q _ H1 M1 _ .un .non _ (g1.pop.push fun _ _ => trivial) walk_rng trivial hr⟩
/-- tuple(range(a, b)), list(range(a)) -/
theorem de_tupRg2 {p2 p3 : Pos} (hm : X.mg "tuple" = none) (hm2 : X.mg "range" = none) (h : DE X B0 F M ρ κ a fun r M1 => DE X B0 F M1 ρ (r :: κ) b fun r2 M2 => ∃ m n, r = .d (.int m) ∧ r2 = .d (.int n) ∧ RgOk m n ∧ P (.d (.tuple (rngD m (n - m).toNat))) M2)
    (pe : PE X (.Call (.Name "tuple" p) [.Call (.Name "range" p2) [a, b] [] p3] [] pos) (tTupRg (tRg2 (tOf X a) (tOf X b))) := by exact pe_tupRg rfl rfl (by assumption) (prg_2 rfl (by assumption) pe_self pe_self)) : DE X B0 F M ρ κ (.Call (.Name "tuple" p) [.Call (.Name "range" p2) [a, b] [] p3] [] pos) P := fun σ vs H Q g q => tOf_of pe (h σ vs H _ g fun v H1 r M1 g1 h1 => h1 σ (v :: vs) H1 _ g1 fun v2 H2 r2 M2 g2 h2 => by
    obtain ⟨m, n, rfl, rfl, ok, hp⟩ := h2
    have e := g2.int
    subst e
    have e := g2.pop.int
    subst e
    refine ⟨m, n, rfl, rfl, ok, fun l hl => q _ _ _ M2 ?_ hp⟩
    obtain ⟨B, g2⟩ := g2
    exact ⟨_, (g2.pop.pop.laid (o := .tup (rgV m n)) hl).pushD (.tup (SqT.of upd_same) (rngV_rp m n))⟩)
theorem de_lstRg1 {p2 p3 : Pos} (hm : X.mg "list" = none) (hm2 : X.mg "range" = none) (h : DE X B0 F M ρ κ a fun r M1 => ∃ n, r = .d (.int n) ∧ RgOk 0 n ∧ ∀ l, P (.v (.ref l)) ((l, .lst (rngD 0 n.toNat)) :: M1))
    (pe : PE X (.Call (.Name "list" p) [.Call (.Name "range" p2) [a] [] p3] [] pos) (tLstRg (tRg1 (tOf X a))) := by exact pe_listRg rfl rfl (by assumption) (prg_1 rfl (by assumption) pe_self)) : DE X B0 F M ρ κ (.Call (.Name "list" p) [.Call (.Name "range" p2) [a] [] p3] [] pos) P := fun σ vs H Q g q => tOf_of pe (h σ vs H _ g fun v H1 r M1 g1 h1 => by
    obtain ⟨n, rfl, ok, hp⟩ := h1
    have e := g1.int
    subst e
    refine ⟨n, rfl, ok, fun l hl => q _ _ _ _ ?_ (hp l)⟩
    obtain ⟨B, g1⟩ := g1
    have e : (n - 0).toNat = n.toNat := by omega
    exact cell_new g1.pop hl (by rw [← e]; exact rngV_rp 0 n))

/-! ### dict(pairs), sorted(d) -/
def mergeD (kvs more : List (Key × PyData)) : List (Key × PyData) := more.foldl (fun acc kv => putD acc kv.1 kv.2) kvs
theorem ents_merge {B : Hp} : ∀ {kvs acc : List (Key × V)} {es acc' : List (Key × PyData)}, EntsOk K B kvs es → EntsOk K B acc acc' → EntsOk K B (mergeK acc kvs) (mergeD acc' es)
  | _, _, _, _, .nil, h => h
  | p :: kvs, acc, q :: es, acc', .cons h t, g => by
    show EntsOk K B (mergeK (putK acc p.1 p.2) kvs) (mergeD (putD acc' q.1 q.2) es)
    rw [h.1]
    exact ents_merge t (ents_put h.2 g)
def keyData : Key → PyData
  | .inl i => .int i
  | .inr x => .str x
theorem key_v {H : Hp} {v : V} {ky : Key} (h : Rp K H v (keyData ky)) : v = kV ky := by
  cases ky with
  | inl i => exact Rp.int_inv h
  | inr x => exact Rp.str_inv h
/-- dict(xs): xs a list of pairs (key, value): a cell -/
theorem rn_dict {s : Sl} {es : List (Key × PyData)} (q : SeqLs M s (es.map fun e => .tuple [keyData e.1, e.2])) (h : ∀ p, P (.v (.ref p)) ((p, .dic (mergeD [] es)) :: M)) : RnD K B0 F ρ κ (fun xs H Q => ∃ (a : Addr) (ps : List Addr) (kvs : List (Key × V)), xs = [.ref a] ∧ SqL K H a (ps.map V.ref) ∧ Paired (fun p kv => SqT K H p [kV kv.1, kv.2]) ps kvs ∧
    ∀ p, H p = none → Q (.ref p) (upd H p (.dK (mergeK [] kvs)))) [s] M P := fun σ vs H xs Q hl g qq => by
  obtain ⟨x, rfl⟩ := one_arg hl rfl
  obtain ⟨B, g⟩ := g
  obtain ⟨a, ys, rfl, h1, h2⟩ := q.at g g.fst
  have : ∀ {ys : List V} {es : List (Key × PyData)}, RpA K B ys (es.map fun e => .tuple [keyData e.1, e.2]) → ∃ (ps : List Addr) (kvs : List (Key × V)), ys = ps.map V.ref ∧ Paired (fun p kv => SqT K H p [kV kv.1, kv.2]) ps kvs ∧ EntsOk K B kvs es := by
    intro ys es
    induction es generalizing ys with
    | nil => intro h; cases h; exact ⟨[], [], rfl, .nil, .nil⟩
    | cons e es ih =>
      intro h
      cases h with
      | cons h1 h2 =>
        obtain ⟨ps, kvs, e1, e2, e3⟩ := ih h2
        obtain ⟨t, ws, rfl, ht, hw⟩ := Rp.tup_inv h1
        cases hw with
        | cons w1 w2 =>
          cases w2 with
          | cons w2 w3 =>
            cases w3
            have ek := key_v w1
            subst ek
            rename_i v2
            exact ⟨t :: ps, (e.1, v2) :: kvs, by rw [e1]; rfl, .cons (same_t g.bh ht) e2, .cons ⟨rfl, w2⟩ e3⟩
  obtain ⟨ps, kvs, rfl, e2, e3⟩ := this h2
  exact ⟨a, ps, kvs, rfl, h1, e2, fun p hp => qq _ _ _ _ ⟨B, (g.pop.cell (c := .dic (mergeD [] es)) hp ⟨_, rfl, ents_merge e3 .nil⟩).pushV⟩ (h p)⟩
/-- sorted(d): d a cell with int keys, fewer than 64 -/
theorem rn_sortedDI {a : Addr} {es : List (Key × PyData)} {ks : List Int} (hm : (a, .dic es) ∈ M) (hk : es.map (·.1) = ks.map Sum.inl) (hl : ks.length < 64) (h : ∀ ys : List Int, ys.Perm ks → ys.Pairwise (· ≤ ·) → ∀ l, P (.v (.ref l)) ((l, .lst (ys.map .int)) :: M)) : RnD K B0 F ρ κ (fun xs H Q => ∃ (a : Addr) (kvs : List (Key × V)) (ks : List Int), xs = [.ref a] ∧ Rd H a (.dK kvs) ∧ kvs.map (·.1) = ks.map Sum.inl ∧ ks.length < 64 ∧
    ∀ (ys : List Int) (p : Addr), ys.Perm ks → ys.Pairwise (· ≤ ·) → H p = none → Q (.ref p) (upd H p (.lst (ys.map V.int)))) [.v (.ref a)] M P := fun σ vs H xs Q hl' g qq => by
  obtain ⟨x, rfl⟩ := one_arg hl' rfl
  have e := Good.ref g
  subst e
  obtain ⟨B, g⟩ := g
  obtain ⟨kvs, ho, he⟩ := dic_at g hm
  have ek : ∀ {kvs : List (Key × V)} {es : List (Key × PyData)}, EntsOk K B kvs es → kvs.map (·.1) = es.map (·.1) := by
    intro kvs es h
    induction h with
    | nil => rfl
    | cons h t ih => rw [List.map_cons, List.map_cons, ih, h.1]
  exact ⟨a, kvs, ks, rfl, .inl ho, (ek he).trans hk, hl, fun ys p h1 h2 hp => qq _ _ _ _ (cell_new g.pop hp RpA.of_ints) (h ys h1 h2 p)⟩
end
end DL
set_option maxHeartbeats 4000000
/-! sorted(set(xs)), xs a list or a tuple of ints -/
namespace DLS
open PySem PySem.Spec PyProof.Rows L2
variable {P : Program} {w : World} {A : Around} {E : Value → Shared → Prop} {s : Shared}
/-- the set just made -/
abbrev fresh0 (w : World) : Obj := { cls := .type "set", dict := none, data := .set #[] 0 (.fresh 0 0 (!w.params.followText "set-order")) }
theorem set_of_list {l : Addr} {items : Array Value} (ns : List Int) {Q : Value → Shared → Prop} (hh : A.handled = none) (hl : s.heap.IsList l items) (hit : IntsAre items.toList ns) (hb : ns.length + 1 < scanBound)
    (h : ∀ (h' : Heap) (tk c : Nat), SetR w h' s.heap.objs.size (fun j => decide (j ∈ ns)) c → c ≤ ns.length → (∀ b o, s.heap.get? b = some o → h'.get? b = some o) → Q (.ref s.heap.objs.size) { s with heap := h', toks := tk }) :
    wpAny (model P w) A (call (.type "set") [.ref l]) Q E s := by
  have len : items.size = ns.length := by rw [← Array.length_toList]; exact IntsAre.length hit
  obtain ⟨c, tl, hmro⟩ := F.called_set.mro
  have a1 := F.called_set.made
  have a2 := F.called_set.sub
  have a3 := F.called_set.notType
  have a4 := F.called_set.canCreate
  have a5 := F.typeCall_set_1 (.ref l)
  refine wpAny_call (codeAny_of_tree ?_)
  show wpAny _ _ (callAny (.type "set") _) _ _ _
  refine wpAny_pure ⟨Code.quiet_builtin _ (by decide +kernel), codeAny_builtin F.entry_type_call ?_⟩
  rw [Around.under_plain (weight_type_call_type "set" [.ref l] []) rfl]
  repeat (any_goals (first | assumption | wp_step))
  refine codeAny_mono (code_set_led1 (.ref l) (E := E) (Q₁ := fun ob s1 => ob = .ref s.heap.objs.size ∧ s1 = { s with heap := s.heap.push (fresh0 w) }) ⟨rfl, rfl⟩) fun r s1 hr => ?_
  match r, hr with
  | .error e, hr => exact hr
  | .ok .next, hr => exact hr.elim
  | .ok .brk, hr => exact hr.elim
  | .ok .cont, hr => exact hr.elim
  | .ok (.ret ob), hr =>
    obtain ⟨rfl, rfl⟩ := hr
    have hS : (s.heap.push (fresh0 w)).get? s.heap.objs.size = some (fresh0 w) := Heap.get?_push_size _ rfl
    have hT : Shared.TypeIs { s with heap := s.heap.push (fresh0 w) } (.ref s.heap.objs.size) "set" := ⟨_, hS, rfl⟩
    have b1 := F.called_set.init.lookup
    have b2 := F.called_set.init.bind (.ref s.heap.objs.size)
    repeat (any_goals (first | assumption | wp_step))
    refine codeAny_mono (codeAny_call_builtin (R := wants (fun r s2 => r = .none ∧ ∃ h' tk c, s2 = { s with heap := h', toks := tk } ∧ SetR w h' s.heap.objs.size (fun j => decide (j ∈ ns)) c ∧ c ≤ ns.length ∧
        (∀ b o, s.heap.get? b = some o → h'.get? b = some o)) E) F.called_set.init.plain F.entry_set_init (check_set_init_1 hT ?_)) fun r2 s2 hr2 => ?_
    · obtain ⟨⟨oc, od, ot, os⟩, hol, hcl, nl, hdl⟩ := hl
      simp only at hcl hdl
      subst hcl hdl
      have hol' : (s.heap.push (fresh0 w)).get? l = some { cls := .type "list", dict := od, data := .seq items nl, slots := os } := Heap.get?_push_of_some _ hol
      have c1 := F.sub_list_set
      have c2 := F.sub_list_frozenset
      have c3 : (Value.type "list" == Value.type "dict") = false := by decide
      have hl1 : (s.heap.push (fresh0 w)).IsList l items := ⟨_, hol', rfl, nl, rfl⟩
      unfold Builtin.«set.__init__» noKeywords Builtin.Frozenset.updateFrom
      generalize hPI : pyIter = PI
      wp_walk
      subst hPI
      refine wpAny_pyIter_list hl1 (wpAny_bind (wpAny_runValue ?_))
      have lt : l < s.heap.objs.size := Heap.lt_size hol
      have sz : (s.heap.push (fresh0 w)).objs.size = s.heap.objs.size + 1 := Heap.size_push ..
      have neI : l ≠ (s.heap.push (fresh0 w)).objs.size := by rw [sz]; exact Nat.ne_of_lt (Nat.lt_succ_of_lt lt)
      have out : s.heap.objs.size ∉ [(s.heap.push (fresh0 w)).objs.size, l] := by
        rw [sz]
        intro z
        rcases List.mem_cons.mp z with z | z
        · exact absurd z (Nat.ne_of_lt (Nat.lt_succ_self _))
        · exact absurd (List.mem_singleton.mp z) (Nat.ne_of_gt lt)
      have val : ∀ (i : Nat) (v : Value), items[i]? = some v → ∃ k t, ns[i]? = some k ∧ v = .int k t := fun i v hv => by
        have hi : i < ns.length := by rw [← len]; exact (Array.getElem?_eq_some_iff.mp hv).1
        obtain ⟨t, e⟩ := PyProof.Rows.IntsAre.int_at hit i v (by rw [Array.getElem?_toList]; exact hv)
        exact ⟨ns[i], t, List.getElem?_eq_getElem hi, by rw [e, List.getD_eq_getElem?_getD, List.getElem?_eq_getElem hi] <;> rfl⟩
      refine set_update_ints ((Walks.list (by simp [hh]) _ l neI items).toS) s.heap.objs.size out ns len hb val (items.size - 0) 0 _ (by omega) (Nat.zero_le _) ⟨⟨_, Heap.get?_push_size _ rfl, rfl, rfl⟩, (hl1.push _)⟩
        ⟨0, Nat.le_refl 0, setR_new_at (Heap.get?_push_of_some _ hS)⟩ fun s' c' hm hc' hS' => ?_
      obtain ⟨h', g2, d', tk', os'⟩ := s'
      obtain rfl : g2 = s.gens := hm.gens
      obtain rfl : d' = s.drawn := hm.drawn
      obtain rfl : os' = s.os := hm.os
      rw [len] at hc'
      show wpAny _ _ _ _ _ _
      refine wpAny_pure ?_
      show wpAny _ _ (ret Value.none) _ _ _
      refine wpAny_pure ⟨rfl, h', tk', c', rfl, hS', hc', fun b o e => hm.heap b o (fun z => ?_) (Heap.get?_push_of_some _ (Heap.get?_push_of_some _ e))⟩
      have hb0 : b < s.heap.objs.size := Heap.lt_size e
      rcases List.mem_cons.mp z with z | z
      · exact absurd z (Nat.ne_of_lt hb0)
      · rw [List.mem_singleton.mp z, sz] at hb0
        exact absurd hb0 (Nat.not_lt_of_le (Nat.le_succ _))
    · match r2, hr2 with
      | .error e, hr2 => exact hr2
      | .ok .next, hr2 => exact hr2.elim
      | .ok .brk, hr2 => exact hr2.elim
      | .ok .cont, hr2 => exact hr2.elim
      | .ok (.ret r), hr2 =>
        obtain ⟨rfl, h', tk, c', rfl, hS', hc', hk'⟩ := hr2
        repeat (any_goals (first | assumption | wp_step))
        exact h _ _ _ hS' hc' hk'
end DLS
namespace DL
open PySem PySem.Spec PyProof.Rows L2
section
variable {X : Cx} {K : Fg} {B0 F : Hp} {M : Cs} {ρ κ : List Sl} {P : Sl → Cs → Prop} {e : Expr} {pos p : Pos}
/-- set(xs) of ints -/
def rSetI (K : Fg) (w : World) : List V → Hp → VK → Prop := fun xs H Q => ∃ (a : Addr) (ns : List Int), xs = [.ref a] ∧ (SqL K H a (ns.map V.int) ∨ SqT K H a (ns.map V.int)) ∧ ns.length ≤ 1000 ∧ ∀ p n, H p = none → n ≤ ns.length → Q (.ref p) (upd H p (SetO w p (fun j => decide (j ∈ ns)) n))
theorem cr_setI (hc : X.calm = true) : CallR X (.type "set") (rSetI X.K X.w) := by
  intro pins s σ H xs us Q I r h
  obtain ⟨a, ns, rfl, hs, hn, q⟩ := h
  obtain rfl := Vals.ref1 r
  have hb : ns.length + 1 < scanBound := by unfold scanBound; omega
  have fin : ∀ (h' : Heap) (tk c : Nat), SetR X.w h' s.heap.objs.size (fun j => decide (j ∈ ns)) c → c ≤ ns.length → (∀ b o, s.heap.get? b = some o → h'.get? b = some o) → EP X pins σ Q (.ref s.heap.objs.size) { s with heap := h', toks := tk } := fun h' tk c hS hc' hk =>
    ⟨.ref _, _, I.laid (t' := tk) hk (Nat.le_refl _) (setO_new hS), rfl, q _ c (I.hok.fresh (Nat.le_refl _)) hc'⟩
  rcases hs with hs | hs
  · obtain ⟨its, rv, pl, hz⟩ := I.list hs
    exact DLS.set_of_list ns (I.ok.hd hc) pl.isList (by simpa using rv.ints) hb fin
  · obtain ⟨its, rv, pl, hz⟩ := I.tuple hs
    exact call_set_tupI ns (I.ok.hd hc) pl (by simpa using rv.ints) hb fin
/-- set(xs): a cell -/
theorem rn_setI {s : Sl} {ns : List Int} {w : World} (q : Seq M s (ns.map PyData.int)) (hn : ns.length ≤ 1000) (h : ∀ p n, n ≤ ns.length → P (.v (.ref p)) ((p, .raw (SetO w p (fun j => decide (j ∈ ns)) n)) :: M)) : RnD K B0 F ρ κ (rSetI K w) [s] M P := fun σ vs H xs Q hl g qq => by
  obtain ⟨x, rfl⟩ := one_arg hl rfl
  obtain ⟨B, g⟩ := g
  obtain ⟨a, ys, rfl, h1, h2⟩ := q.at g g.fst
  have e := h2.ints
  subst e
  exact ⟨a, ns, rfl, h1, hn, fun p n hp hn' => qq _ _ _ _ ⟨B, (g.pop.cell (c := .raw (SetO w p (fun j => decide (j ∈ ns)) n)) hp rfl).pushV⟩ (h p n hn')⟩
/-- sorted(a set of ints) -/
theorem rn_sortedSet {w : World} {a : Addr} {S : Int → Bool} {n : Nat} (hm : (a, .raw (SetO w a S n)) ∈ M) (hn : n < 64) (h : ∀ ns : List Int, ns.Pairwise (· < ·) → (∀ k : Int, k ∈ ns ↔ S k = true) → ∀ l, P (.v (.ref l)) ((l, .lst (ns.map .int)) :: M)) : RnD K B0 F ρ κ (rSortedSet w) [.v (.ref a)] M P := fun σ vs H xs Q hl g qq => by
  obtain ⟨x, rfl⟩ := one_arg hl rfl
  have e := Good.ref g
  subst e
  obtain ⟨B, g⟩ := g
  exact ⟨a, S, n, rfl, raw_at g hm, hn, fun ns p h1 h2 _ hp => qq _ _ _ _ (cell_new g.pop hp RpA.of_ints) (h ns h1 h2 p)⟩
end
end DL
set_option maxHeartbeats 4000000
namespace DL
open PySem PySem.Spec PyProof.Rows L2
abbrev FnP (K : PySem.W.Frag) (x : Str) (st : Stmt) (f : Addr) (fd : FuncData) : Prop := FunD K x x (defArgs st) (defBody st) (defScope st) [] [] f fd
/-- a def that keeps a promise, known by its name -/
abbrev Go (P : Program) (w : World) (K : Fg) (mg : Str → Option Value) (base : Heap) (x : Str) (lv : Nat) (ps : List Str) (R : List Sl → Cs → (Sl → Cs → Prop) → Prop) : Prop :=
  ∃ f fd, mg x = some (.ref f) ∧ PySem.W.keepIn K (.ref f) = true ∧ Binds K fd ps [] ∧ FnOk P w K mg base CX0 lv f fd ps (SpG K R)
/-- a pure promise -/
def Pu {α : Type} (A : α → List Sl) (C : α → Prop) (f : α → PyData) : List Sl → Cs → (Sl → Cs → Prop) → Prop := fun κ _ W => ∃ a, κ = A a ∧ C a ∧ ∀ M', W (.d (f a)) M'
theorem Views.refl {M : Cs} : ∀ rs : List Sl, Views M rs rs
  | [] => .nil
  | _ :: rs => .same (Views.refl rs)
section
variable {X : Cx} {B0 F : Hp} {M : Cs} {ρ κ : List Sl} {P : Sl → Cs → Prop} {e : Expr} {es : List Expr} {p pos : Pos} {x : Str} {lv : Nat} {ps : List Str}
theorem de_go {R : List Sl → Cs → (Sl → Cs → Prop) → Prop} (G : Go X.prog X.w X.K X.mg X.base x lv ps R) (hr : Room lv X.A)
    (h : DA X B0 F M ρ κ (e :: es) fun rs M1 => ∃ κ', Views M1 rs κ' ∧ R κ' [] fun r _ => ∃ y, r = .d y ∧ P (.d y) M1) (hg : Gl X x := by rfl) (hdb : (x == ("__debug__" : Str)) = false := by decide)
    (he : starEach (e :: es) X.env = (false, eval e X.env) :: starEach es X.env := by rfl) (hpl : (backTo pos (starEach es X.env)).any (·.1) = false := by rfl) : DE X B0 F M ρ κ (.Call (.Name x p) (e :: es) [] pos) P := by
  obtain ⟨f, fd, hm, hk, hb, Fo⟩ := G
  exact de_call Fo hr hm hk hb h hg hdb he hpl
/-- a pure def called, no cell among the arguments -/
theorem de_pu {α : Type} {A : α → List Sl} {C : α → Prop} {f : α → PyData} (G : Go X.prog X.w X.K X.mg X.base x lv ps (Pu A C f)) (hr : Room lv X.A)
    (h : DA X B0 F M ρ κ (e :: es) fun rs M1 => ∃ a, rs = A a ∧ C a ∧ P (.d (f a)) M1) (hg : Gl X x := by rfl) (hdb : (x == ("__debug__" : Str)) = false := by decide)
    (he : starEach (e :: es) X.env = (false, eval e X.env) :: starEach es X.env := by rfl) (hpl : (backTo pos (starEach es X.env)).any (·.1) = false := by rfl) : DE X B0 F M ρ κ (.Call (.Name x p) (e :: es) [] pos) P := by
  refine de_go G hr (fun σ vs H Q g q => h σ vs H Q g fun ws H' rs M' hl g' hp => q ws H' rs M' hl g' ?_) hg hdb he hpl
  obtain ⟨a, rfl, hc, hp⟩ := hp
  exact ⟨_, Views.refl _, a, rfl, hc, fun _ => ⟨_, rfl, hp⟩⟩
theorem da_pu {α : Type} {A : α → List Sl} {C : α → Prop} {Pf : α → Prop} {rs : List Sl} (a : α) (h : rs = A a) (hc : C a) (hp : Pf a) : ∃ a, rs = A a ∧ C a ∧ Pf a := ⟨a, h, hc, hp⟩
theorem go_of {P : Program} {w : World} {K : Fg} {mg : Str → Option Value} {base : Heap} {st : Stmt} {f : Addr} {fd : FuncData} {ps : List Str} {lv : Nat} {R : List Sl → Cs → (Sl → Cs → Prop) → Prop} (Fn : FnP K x st f fd) (gm : mg x = some (.ref f))
    (hb : ∀ (kV doc pm : Value) (an : Option Addr) (cdv ct : Value) (us : List Value), us.length = ps.length → bindArgs (PySem.W.fnOf x x (defArgs st) (defBody st) (defScope st) .none kV doc pm an cdv ct) ⟨us, []⟩ = pure (ps.zip us)) (ok : FnOk P w K mg base CX0 lv f fd ps (SpG K R)) : Go P w K mg base x lv ps R :=
  ⟨f, fd, gm, Fn.kp, Fn.bindsN hb, ok⟩
end

/-! ### built-ins by name -/
section
variable {X : Cx} {B0 F : Hp} {M : Cs} {ρ κ : List Sl} {P : Sl → Cs → Prop} {e e2 : Expr} {p pos : Pos}
theorem bt_tuple : bootBuiltins "tuple" = some (.type "tuple") := by decide +kernel
theorem bt_list : bootBuiltins "list" = some (.type "list") := by decide +kernel
theorem bt_sum : bootBuiltins "sum" = some (.builtin "sum") := by decide +kernel
theorem bt_all : bootBuiltins "all" = some (.builtin "all") := by decide +kernel
theorem bt_any : bootBuiltins "any" = some (.builtin "any") := by decide +kernel
theorem bt_sorted : bootBuiltins "sorted" = some (.builtin "sorted") := by decide +kernel
theorem bt_int : bootBuiltins "int" = some (.type "int") := by decide +kernel
theorem bt_min : bootBuiltins "min" = some (.builtin "min") := by decide +kernel
theorem bt_max : bootBuiltins "max" = some (.builtin "max") := by decide +kernel
theorem bt_isi : bootBuiltins "isinstance" = some (.builtin "isinstance") := by decide +kernel
theorem bt_set : bootBuiltins "set" = some (.type "set") := by decide +kernel
theorem bt_dict : bootBuiltins "dict" = some (.type "dict") := by decide +kernel
theorem de_len (gm : X.mg "len" = none) (h : DE X B0 F M ρ κ e fun r M1 => ∃ ds, Seq M1 r ds ∧ P (.d (.int ds.length)) M1) (hg : Gl X "len" := by rfl) (hs : starEach [e] X.env = (false, eval e X.env) :: starEach [] X.env := by rfl) : DE X B0 F M ρ κ (.Call (.Name "len" p) [e] [] pos) P :=
  de_callB call_len_seq gm boot_len (da_cons (fun σ vs H Q g q => h σ vs H Q g fun v H' r M' g' ⟨ds, hq, hp⟩ => q v H' r M' g' (da_nil (rn_len hq hp))) hs) hg (he := hs)
theorem de_tupleOf (gm : X.mg "tuple" = none) (h : DE X B0 F M ρ κ e fun r M1 => ∃ ds, Seq M1 r ds ∧ P (.d (.tuple ds)) M1) (hg : Gl X "tuple" := by rfl) (hs : starEach [e] X.env = (false, eval e X.env) :: starEach [] X.env := by rfl) : DE X B0 F M ρ κ (.Call (.Name "tuple" p) [e] [] pos) P :=
  de_callTy call_tuple_of gm bt_tuple (da_cons (fun σ vs H Q g q => h σ vs H Q g fun v H' r M' g' ⟨ds, hq, hp⟩ => q v H' r M' g' (da_nil (rn_tuple hq hp))) hs) hg (he := hs)
theorem de_listOf (gm : X.mg "list" = none) (h : DE X B0 F M ρ κ e fun r M1 => ∃ ds, Seq M1 r ds ∧ ∀ l, P (.v (.ref l)) ((l, .lst ds) :: M1)) (hg : Gl X "list" := by rfl) (hs : starEach [e] X.env = (false, eval e X.env) :: starEach [] X.env := by rfl) : DE X B0 F M ρ κ (.Call (.Name "list" p) [e] [] pos) P :=
  de_callTy call_list_of gm bt_list (da_cons (fun σ vs H Q g q => h σ vs H Q g fun v H' r M' g' ⟨ds, hq, hp⟩ => q v H' r M' g' (da_nil (rn_listC hq hp))) hs) hg (he := hs)
theorem de_sum (gm : X.mg "sum" = none) (h : DE X B0 F M ρ κ e fun r M1 => ∃ ns : List Int, SeqLs M1 r (ns.map PyData.int) ∧ P (.d (.int ns.sum)) M1) (hc : X.calm = true := by rfl) (hg : Gl X "sum" := by rfl) (hs : starEach [e] X.env = (false, eval e X.env) :: starEach [] X.env := by rfl) : DE X B0 F M ρ κ (.Call (.Name "sum" p) [e] [] pos) P :=
  de_callB (cr_sum hc) gm bt_sum (da_cons (fun σ vs H Q g q => h σ vs H Q g fun v H' r M' g' ⟨ds, hq, hp⟩ => q v H' r M' g' (da_nil (rn_sum hq hp))) hs) hg (he := hs)
theorem de_all (gm : X.mg "all" = none) (h : DE X B0 F M ρ κ e fun r M1 => ∃ ns : List Bool, SeqLs M1 r (ns.map PyData.bool) ∧ P (.d (.bool (ns.all id))) M1) (hc : X.calm = true := by rfl) (hg : Gl X "all" := by rfl) (hs : starEach [e] X.env = (false, eval e X.env) :: starEach [] X.env := by rfl) : DE X B0 F M ρ κ (.Call (.Name "all" p) [e] [] pos) P :=
  de_callB (cr_all hc) gm bt_all (da_cons (fun σ vs H Q g q => h σ vs H Q g fun v H' r M' g' ⟨ds, hq, hp⟩ => q v H' r M' g' (da_nil (rn_all hq hp))) hs) hg (he := hs)
theorem de_any (gm : X.mg "any" = none) (h : DE X B0 F M ρ κ e fun r M1 => ∃ ns : List Bool, SeqLs M1 r (ns.map PyData.bool) ∧ P (.d (.bool (ns.any id))) M1) (hc : X.calm = true := by rfl) (hg : Gl X "any" := by rfl) (hs : starEach [e] X.env = (false, eval e X.env) :: starEach [] X.env := by rfl) : DE X B0 F M ρ κ (.Call (.Name "any" p) [e] [] pos) P :=
  de_callB (cr_any hc) gm bt_any (da_cons (fun σ vs H Q g q => h σ vs H Q g fun v H' r M' g' ⟨ds, hq, hp⟩ => q v H' r M' g' (da_nil (rn_any hq hp))) hs) hg (he := hs)
theorem de_int1 (gm : X.mg "int" = none) (h : DE X B0 F M ρ κ e fun r M1 => ∃ i, r = .d (.int i) ∧ P (.d (.int i)) M1) (hg : Gl X "int" := by rfl) (hs : starEach [e] X.env = (false, eval e X.env) :: starEach [] X.env := by rfl) : DE X B0 F M ρ κ (.Call (.Name "int" p) [e] [] pos) P :=
  de_callTy call_int1 gm bt_int (da_cons (fun σ vs H Q g q => h σ vs H Q g fun v H' r M' g' ⟨i, hq, hp⟩ => q v H' r M' g' (hq ▸ da_nil (rn_int hp))) hs) hg (he := hs)
theorem de_sorted (hu : X.A.units + 64 < cLine) (gm : X.mg "sorted" = none) (h : DE X B0 F M ρ κ e fun r M1 => ∃ ds, SeqLs M1 r ds ∧ PySem.W.AllAlike ds ∧ PySem.W.Sortable ds ∧ ds.length ≤ 100000 ∧ (∀ d ∈ ds, d.depth ≤ 50) ∧ ∀ l, P (.v (.ref l)) ((l, .lst (sortD ds)) :: M1)) (hg : Gl X "sorted" := by rfl) (hs : starEach [e] X.env = (false, eval e X.env) :: starEach [] X.env := by rfl) : DE X B0 F M ρ κ (.Call (.Name "sorted" p) [e] [] pos) P :=
  de_callB (cr_sortedD hu) gm bt_sorted (da_cons (fun σ vs H Q g q => h σ vs H Q g fun v H' r M' g' ⟨ds, hq, h1, h2, h3, h4, hp⟩ => q v H' r M' g' (da_nil (rn_sortedC hq h1 h2 h3 h4 hp))) hs) hg (he := hs)
end

theorem z0 {α : Type} : ([] : List α).length ≤ 100000 := (by decide : 0 ≤ 100000)
theorem z1 {α : Type} {a : α} : [a].length ≤ 100000 := (by decide : 1 ≤ 100000)
theorem z2 {α : Type} {a b : α} : [a, b].length ≤ 100000 := (by decide : 2 ≤ 100000)
theorem z3 {α : Type} {a b c : α} : [a, b, c].length ≤ 100000 := (by decide : 3 ≤ 100000)
/-! ### numbers without a sign -/
theorem xor_nat (a b : Nat) : Builtin.bitXor (a : Int) (b : Int) = ((a ^^^ b : Nat) : Int) := Bits.bitXor_pp (Int.natCast_nonneg a) (Int.natCast_nonneg b)
end DL
set_option maxHeartbeats 4000000
/-! ### the Hook with one thing more, tables of texts -/
namespace DLHook
open PySem PySem.Spec PyProof.Rows L2 He
abbrev AlX : Type := AlD × Bool
def obsX (n : Nat) (fa : List Fa) (fn : List DefD) (ex : PySem.W.Frag → Bool) (g : Addr → Option Obj) : AlX := (obsDG n fa fn g, ex (frG g (asD g n)))
def hookX (n : Nat) (fa : List Fa) (fn : List DefD) (ex : PySem.W.Frag → Bool) : PySem.W.Hook where
  α := AlX
  obs := fun s => obsX n fa fn ex s.heap.get?
  val := fun _ => (valD fn, true)
  says := fun _ h => ∃ K : PySem.W.Frag, K.In h ∧ SaysD fa fn K ∧ ex K = true
  of := fun _ _ e => ⟨_, frG_in, congrArg (fun z : AlX => z.1) e, congrArg (fun z : AlX => z.2) e⟩
  keeps := fun _ _ _ ⟨K, hK, c⟩ k => ⟨K, PySem.W.Frag.In.keeps hK k, c⟩
theorem obsX_eq {n : Nat} {fa : List Fa} {fn : List DefD} {ex : PySem.W.Frag → Bool} {g : Addr → Option Obj} {s : Shared} (h : ∀ a, g a = s.heap.get? a) : obsX n fa fn ex g = (hookX n fa fn ex).obs s := by
  have e : g = s.heap.get? := funext h
  rw [e] <;> rfl
/-- the module's name x is a tuple of these texts -/
def tupN (K : PySem.W.Frag) (x : Str) (vs : List Str) : Bool := (match K.lookup (ga K x) with
  | some ⟨.type c, none, _, _⟩ => decide (c = "tuple")
  | _ => false) && tupB K x (vs.map Dv.str)
end DLHook
namespace DL
open PySem PySem.Spec PyProof.Rows L2
structure TupS (K : Fg) (a : Addr) (ys : List Str) : Prop where
  ty : ∃ o, K.lookup a = some o ∧ o.cls = .type "tuple" ∧ o.dict = none
  sq : ∀ H, SqT K H a (ys.map V.str)
theorem tupN_ok {K : Fg} {x : Str} {vs : List Str} (h : DLHook.tupN K x vs = true) : TupS K (He.ga K x) vs := by
  obtain ⟨h1, h2⟩ := He.ba h
  refine ⟨?_, fun H => ?_⟩
  · cases q : K.lookup (He.ga K x) with
    | none => rw [q] at h1; cases h1
    | some o =>
      obtain ⟨oc, od, dt, osl⟩ := o
      rw [q] at h1
      cases oc with
      | type c =>
        cases od with
        | none => exact ⟨_, rfl, congrArg Value.type (of_decide_eq_true h1), rfl⟩
        | some a => cases h1
      | _ => cases od <;> cases h1
  · have e := He.tupB_ok h2 H
    rw [List.map_map] at e
    exact e
section
variable {X : Cx} {B0 F : Hp} {M : Cs} {ρ κ : List Sl} {P : Sl → Cs → Prop} {e o : Expr} {apos cpos : Pos}
theorem de_globR {x : Str} {a : Addr} {pos : Pos} (hm : X.mg x = some (.ref a)) (h : P (.v (.ref a)) M) (hg : Gl X x := by rfl) (hdb : (x == ("__debug__" : Str)) = false := by decide) : DE X B0 F M ρ κ (.Name x pos) P :=
  fun σ vs H Q g q => tOf_of (pe_glob hg hm (show RelV (.ref a) (.ref a) from rfl) hdb) (q (.ref a) H _ M g.pushV h)
/-- T.index(z), T a table of texts -/
theorem de_idxTupS (h : DE X B0 F M ρ κ o fun r1 M1 => ∃ a ys, r1 = .v (.ref a) ∧ TupS X.K a ys ∧ DE X B0 F M1 ρ (r1 :: κ) e fun r2 M2 => ∃ (z : Str) (j : Nat), r2 = .d (.str z) ∧ ys[j]? = some z ∧ (∀ m, m < j → ys[m]? ≠ some z) ∧ P (.d (.int (j : Nat))) M2)
    (hbase : attributeBase o "index" X.env (eval o X.env) = eval o X.env := by rfl)
    (hfew : ((backTo cpos (starEach (e :: []) X.env)).all (fun x => !x.1) && (backToKw cpos (keywordEach [] X.env)).all (fun x => x.1.isSome)
      && decide ((e :: ([] : List Expr)).length + ([] : List Keyword).length + (if ([] : List Keyword).isEmpty then 0 else 1) < 30)) = true := by rfl)
    (hline : (apos.endLine == cpos.line) = true := by rfl) (hs : starEach (e :: []) X.env = (false, eval e X.env) :: starEach [] X.env := by rfl) (hplain : (backTo cpos (starEach [] X.env)).any (·.1) = false := by rfl) :
    DE X B0 F M ρ κ (.Call (.Attribute o "index" apos) [e] [] cpos) P := fun σ vs H Q g q => by
  refine tOf_of (pe_bm PySem.F.plainAttrs_tuple PySem.F.slot_tuple_index PySem.F.type_tuple_index (X := X) mt_tup_index pe_self (pa_cons pe_self pa_nil hs) hbase hfew hline hs hplain) ?_
  refine h σ vs H _ g fun x H1 r1 M1 g1 h1 => ?_
  obtain ⟨a, ys, rfl, ht, h1⟩ := h1
  have e := g1.ref
  subst e
  refine ⟨.inr (.inl ⟨rfl, ht.ty⟩), h1 σ (.ref a :: vs) H1 _ g1 fun y H2 r2 M2 g2 h2 => ?_⟩
  obtain ⟨z, j, rfl, hj, hm, hp⟩ := h2
  have e := g2.str
  subst e
  obtain ⟨B, g2⟩ := g2
  exact ⟨a, ys, z, j, rfl, rfl, ht.sq H2, hj, hm, q _ H2 _ _ ⟨B, g2.pop.pop.pushD (.int _)⟩ hp⟩
end
section
variable {X : Cx} {B0 F : Hp} {M : Cs} {ρ κ : List Sl} {pos pt pt2 : Pos} {k : KK} {ts es : List Expr} {kt k2 : Nat}
/-- x, .. = e, ..: where the model makes the tuple -/
theorem ds_parT (n : Nat) (h : DA X B0 F M ρ κ es fun rs M1 => rs.length = n ∧ DGs X B0 F M1 ρ κ rs ts fun M2 ρ2 => k.nx M2 ρ2) (hz : n ≤ 100 := by decide) (hc : X.calm = true := by rfl)
    (hn' : (assignEach ts X.env).length = n := by first | kernel_rfl | rfl) (hst : (assignEach ts X.env).findIdx? (·.1) = none := by first | kernel_rfl | rfl)
    (hs : swapsWithSole [.Tuple ts kt pt] (.Tuple es k2 pt2) pos.line X.env = pure false := by first | kernel_rfl | rfl) (hw : swappedStores [.Tuple ts kt pt] (.Tuple es k2 pt2) X.env = pure none := by first | kernel_rfl | rfl)
    (h1 : (assignEach [.Tuple ts kt pt] X.env).map (·.2) = [assign (.Tuple ts kt pt) X.env] := by first | kernel_rfl | rfl) : DS X B0 F M ρ κ (.Assign [.Tuple ts kt pt] (.Tuple es k2 pt2) pos) k :=
  fun σ vs H D g c => tOfS_of (ps_asg (pe_tup pa_self) (pg_tup (n := n) hc pgs_self hn' hst) hs hw h1) (h σ vs H _ g fun ws H1 rs M1 hl g1 h1 => by
    obtain ⟨hr, hd⟩ := h1
    have hb : n ≤ sizeLine := Nat.le_trans hz (by decide)
    refine ⟨by rw [hl, hr]; exact hb, fun a ha => ?_⟩
    obtain ⟨B, g1⟩ := g1
    exact ⟨a, ws, rfl, SqT.of upd_same, by rw [hl, hr], hd σ vs _ ws _ hl ⟨_, g1.laid (o := .tup ws) ha⟩ fun σ' H' M' ρ' g' n' => c.nx σ' H' M' ρ' g' n'⟩)
end
end DL
set_option maxHeartbeats 4000000
/-! dicts whose keys are tuples of tuples (to depth 8) -/
namespace DL
open PySem PySem.Spec PyProof.Rows L2
/-- the dict at a: its keys, where they stand, its values -/
def NDic (P : Program) (w : World) (a : Addr) (xs : List (NestedKey × Addr × Value)) : HO := .ext fun h => (a == sysModules) = false ∧ xs.length ≤ 100001 ∧
  ∃ o es ep, h.get? a = some o ∧ o.ExactDict ∧ o.data = .dict es ep ∧ es.toList = xs.map (entryOfKey (nestedKind P w)) ∧ (xs.map (·.1)).Nodup
mutual
theorem nest_of {h : Heap} : ∀ (k : NestedKey) {u : Value} {as : List Addr}, Reads h u k.data as → NestedIs h k u
  | .none, _, _, r => by cases r; exact .none
  | .num i, _, _, r => by cases r; exact .int _ _
  | .text x, _, _, r => by cases r; exact .text _ _
  | .tup ks, _, _, r => by
    cases r with
    | tuple h1 h2 h3 h4 => exact .tup h1 h2 h3 (nest_all ks h4)
theorem nest_all {h : Heap} : ∀ (ks : List NestedKey) {us : List Value} {as : List Addr}, ReadsAll h us (NestedKey.datas ks) as → NestedAll h ks us
  | [], _, _, r => by cases r; exact .nil
  | k :: ks, _, _, r => by
    cases r with
    | cons r1 r2 => exact .cons (nest_of k r1) (nest_all ks r2)
end
section
variable {X : Cx} {pins : List (Addr × Obj)} {σ : L2.St} {H : Hp} {s : Shared} {a : Addr} {xs : List (NestedKey × Addr × Value)}
theorem nd_key (I : Inv X pins σ H s) {k : NestedKey} {v : V} {p : Addr} (hd : k.depth ≤ 8) (hk : Dp X.K H v k.data) (r : RelV v (.ref p)) : (nestedKind X.prog X.w).is s.heap k p := by
  obtain ⟨as, h⟩ := Dp.reads I _ _ _ hk r
  exact ⟨nest_of k h, hd⟩
/-- all keys stand -/
def NKeys (K : Fg) (H : Hp) (xs : List (NestedKey × Addr × Value)) : Prop := ∀ x ∈ xs, x.1.depth ≤ 8 ∧ Dp K H (.ref x.2.1) x.1.data
theorem nd_at (I : Inv X pins σ H s) (e : H a = some (NDic X.prog X.w a xs)) (hk : NKeys X.K H xs) : (a == sysModules) = false ∧ xs.length ≤ 100001 ∧ s.heap.DictOfH (nestedKind X.prog X.w) a xs := by
  obtain ⟨⟨h1, h2, o, es, ep, h3, h4, h5, h6, h7⟩, -⟩ := (show ObjOk X.prog X.w H s.heap a (NDic X.prog X.w a xs) from I.hok a _ e)
  exact ⟨h1, h2, o, es, ep, h3, h4, h5, h6, fun x hx => nd_key I (hk x hx).1 (hk x hx).2 rfl, h7⟩
theorem nd_ok {P : Program} {w : World} {H' : Hp} {h' : Heap} (h1 : (a == sysModules) = false) (h2 : xs.length ≤ 100001) (hd : h'.DictOfH (nestedKind P w) a xs) : ObjOk P w H' h' a (NDic P w a xs) := by
  obtain ⟨o, es, ep, h3, h4, h5, h6, _, h7⟩ := hd
  refine ⟨⟨h1, h2, o, es, ep, h3, h4, h5, h6, h7⟩, ⟨o, h3⟩, fun g1 g2 ⟨a1, a2, o, es, ep, a3, a4⟩ q => ⟨a1, a2, o, es, ep, q o a3, a4⟩⟩
end
/-! ### rules of the hand layer -/
section
variable {X : Cx} {o i e : Expr} {td ty tv : TE} {pos : Pos}
/-- what stands at the key -/
def NAt (X : Cx) (H : Hp) (a : Addr) (y : V) (xs : List (NestedKey × Addr × Value)) (k : NestedKey) : Prop := H a = some (NDic X.prog X.w a xs) ∧ NKeys X.K H xs ∧ k.depth ≤ 8 ∧ (∃ p, y = .ref p) ∧ Dp X.K H y k.data
theorem nd_room {A : Around} (hu : A.units + 64 < cLine) {P : Program} {w : World} : (nestedKind P w).room A.in1 := by show A.units + 1 + 8 < cLine; omega
theorem pe_ndget (hu : X.A.units + 64 < cLine) (ho : PE X o td) (hi : PE X i ty) (hs : NoSl i) : PE X (.Subscript o i pos) (fun σ H Q => td σ H fun x H1 => ty σ H1 fun y H2 => ∃ a xs k p v, x = .ref a ∧ NAt X H2 a y xs k ∧ atKey xs k = some p ∧ RelV v p.2 ∧ Q v H2) := by
  refine ⟨fun pins s σ H Q I h => ?_⟩
  refine subD_of PySem.F.slot_dict_getitem.lookup hs (thn (ho.run pins s σ H _ I h) fun u s1 ⟨x, H1, I1, rx, q1⟩ => thn (hi.run pins s1 σ H1 _ I1 q1) fun iv s2 ⟨y, H2, I2, ry, a, xs, k, p, v, ex, g, hp, rv, q2⟩ => ?_)
  subst ex
  obtain rfl : u = Value.ref a := rx
  obtain ⟨g1, g2, g3, ⟨b, rfl⟩, g4⟩ := g
  obtain rfl : iv = Value.ref b := ry
  obtain ⟨h1, h2, h3⟩ := nd_at I2 g1 g2
  exact ⟨h3.typeIs, wpAny_getItem_heap (nd_room hu) (nd_key I2 g3 g4 rfl) h3 hp ⟨v, H2, I2.tok _, rv, q2⟩⟩
theorem pc_ndin (hu : X.A.units + 64 < cLine) (hi : PE X i ty) (ho : PE X o td) : PC X .In i o (fun σ H Q => ty σ H fun y H1 => td σ H1 fun x H2 => ∃ a xs k, x = .ref a ∧ NAt X H2 a y xs k ∧ Q (.bl (atKey xs k).isSome) H2) := by
  refine ⟨fun pins s σ H Q I h => ?_⟩
  refine thn (hi.run pins s σ H _ I h) fun iv s1 ⟨y, H1, I1, ry, q1⟩ => thn (ho.run pins s1 σ H1 _ I1 q1) fun u s2 ⟨x, H2, I2, rx, a, xs, k, ex, g, q2⟩ => ?_
  subst ex
  obtain rfl : u = Value.ref a := rx
  obtain ⟨g1, g2, g3, ⟨b, rfl⟩, g4⟩ := g
  obtain rfl : iv = Value.ref b := ry
  obtain ⟨h1, h2, h3⟩ := nd_at I2 g1 g2
  exact wpAny_in_heap (nd_room hu) (nd_key I2 g3 g4 rfl) h1 h3 ⟨.bl _, H2, I2.tok _, rfl, q2⟩
theorem pc_ndnin (hu : X.A.units + 64 < cLine) (hi : PE X i ty) (ho : PE X o td) : PC X .NotIn i o (fun σ H Q => ty σ H fun y H1 => td σ H1 fun x H2 => ∃ a xs k, x = .ref a ∧ NAt X H2 a y xs k ∧ Q (.bl (!(atKey xs k).isSome)) H2) := by
  refine ⟨fun pins s σ H Q I h => ?_⟩
  refine thn (hi.run pins s σ H _ I h) fun iv s1 ⟨y, H1, I1, ry, q1⟩ => thn (ho.run pins s1 σ H1 _ I1 q1) fun u s2 ⟨x, H2, I2, rx, a, xs, k, ex, g, q2⟩ => ?_
  subst ex
  obtain rfl : u = Value.ref a := rx
  obtain ⟨g1, g2, g3, ⟨b, rfl⟩, g4⟩ := g
  obtain rfl : iv = Value.ref b := ry
  obtain ⟨h1, h2, h3⟩ := nd_at I2 g1 g2
  exact wpAny_notIn_heap (nd_room hu) (nd_key I2 g3 g4 rfl) h1 h3 ⟨.bl _, H2, I2.tok _, rfl, q2⟩
theorem ps_ndput {value : Expr} {pos' : Pos} (hu : X.A.units + 64 < cLine) (ho : PE X o td) (hi : PE X i ty) (hv : PE X value tv) (hs : swapsWith value (some (.Subscript o i pos')) pos.line X.env = pure false) :
    PS X (.Assign [.Subscript o i pos'] value pos) (fun D σ H => tv σ H fun v H1 => td σ H1 fun x H2 => ty σ H2 fun y H3 => ∃ a xs k, x = .ref a ∧ NAt X H3 a y xs k ∧ xs.length ≤ 100000 ∧ ∀ p u, y = .ref p → RelV v u → D.nx σ (upd H3 a (NDic X.prog X.w a (storedH xs k p u)))) := by
  refine ⟨fun pins s σ H D I h => ?_⟩
  refine wpAny_Assign_Subscript (thn (hv.run pins s σ H _ I h) fun r s1 ⟨v, H1, I1, rv, q1⟩ => thn (ho.run pins s1 σ H1 _ I1 q1) fun u s2 ⟨x, H2, I2, rx, q2⟩ => thn (hi.run pins s2 σ H2 _ I2 q2) fun iv s3 ⟨y, H3, I3, ry, a, xs, k, ex, g, hl, q3⟩ => ?_) hs
  subst ex
  obtain rfl : u = Value.ref a := rx
  obtain ⟨g1, g2, g3, ⟨b, rfl⟩, g4⟩ := g
  obtain rfl : iv = Value.ref b := ry
  obtain ⟨h1, h2, h3⟩ := nd_at I3 g1 g2
  have hz : (100001 : Nat) ≤ sizeLine := by decide
  refine wpAny_setItem_heap (hsz := by omega) (nd_room hu) (nd_key I3 g3 g4 rfl) h3 fun h' dd' hs' => ⟨σ, _, d_write I3 (by rw [g1]; exact True.intro) hs' ?_ (nd_ok h1 ?_ dd'), q3 b r rfl rv⟩
  · obtain ⟨q, _, _, hq, _⟩ := dd'
    exact ⟨q, hq⟩
  · unfold storedH
    split
    · rw [List.length_map]; omega
    · rw [List.length_append]; show _ + 1 ≤ _; omega
theorem pe_ndnew : PE X (.Dict [] [] pos) (fun _ H Q => ∀ p, H p = none → Q (.ref p) (upd H p (NDic X.prog X.w p []))) := ⟨fun pins s σ H Q I h =>
  wpAny_Dict_empty ⟨.ref s.heap.objs.size, _, I.laid (a := s.heap.objs.size) (o := NDic X.prog X.w s.heap.objs.size []) (t' := s.toks) (fun _ _ q => Heap.get?_push_of_some _ q) (Nat.le_refl _)
    (nd_ok (beq_eq_false_iff_ne.mpr (Ne.symm (Nat.ne_of_lt I.big))) (Nat.zero_le _) (Heap.DictOfH.new s.heap)), rfl, h _ (I.hok.fresh (Nat.le_refl _))⟩⟩
end
end DL
set_option maxHeartbeats 4000000
namespace DL
open PySem PySem.Spec PyProof.Rows L2
def valN (es : List (NestedKey × PyData)) (k : NestedKey) : Option PyData := (es.find? fun e => decide (e.1 = k)).map (·.2)
def putN (es : List (NestedKey × PyData)) (k : NestedKey) (d : PyData) : List (NestedKey × PyData) := if (valN es k).isSome then es.map (fun e => if e.1 = k then (e.1, d) else e) else es ++ [(k, d)]
def NRel (K : Fg) (B : Hp) (x : NestedKey × Addr × Value) (e : NestedKey × PyData) : Prop := x.1 = e.1 ∧ e.1.depth ≤ 8 ∧ Rp K B (.ref x.2.1) e.1.data ∧ ∃ v, RelV v x.2.2 ∧ Rp K B v e.2
section
variable {K : Fg} {B : Hp}
theorem nr_val {k : NestedKey} : ∀ {xs : List (NestedKey × Addr × Value)} {es : List (NestedKey × PyData)}, Paired (NRel K B) xs es → (∀ d, valN es k = some d → ∃ p, atKey xs k = some p ∧ ∃ v, RelV v p.2 ∧ Rp K B v d) ∧ (valN es k = none → atKey xs k = none)
  | _, _, .nil => ⟨(fun d h => by cases h), fun _ => rfl⟩
  | x :: xs, e :: es, .cons h t => by
    obtain ⟨ih1, ih2⟩ := nr_val (k := k) t
    obtain ⟨h1, h2, h3, v, h4, h5⟩ := h
    unfold valN atKey at *
    rw [List.find?_cons, List.find?_cons]
    by_cases c : e.1 = k
    · rw [decide_eq_true c, decide_eq_true (h1.trans c)]
      exact ⟨(fun d hd => ⟨x.2, rfl, v, h4, by cases Option.some.inj hd; exact h5⟩), fun h => by cases h⟩
    · rw [decide_eq_false c, decide_eq_false (fun z => c (h1 ▸ z))]
      exact ⟨ih1, ih2⟩
theorem nr_some {k : NestedKey} {xs : List (NestedKey × Addr × Value)} {es : List (NestedKey × PyData)} (h : Paired (NRel K B) xs es) : (atKey xs k).isSome = (valN es k).isSome := by
  cases q : valN es k with
  | none => rw [(nr_val h).2 q]; rfl
  | some d => obtain ⟨p, hp, _⟩ := (nr_val h).1 d q; rw [hp]; rfl
theorem nr_keys {F H : Hp} (e : Same B H) : ∀ {xs : List (NestedKey × Addr × Value)} {es : List (NestedKey × PyData)}, Paired (NRel K B) xs es → NKeys K H xs
  | _, _, .nil => fun x hx => by cases hx
  | x :: xs, f :: es, .cons h t => fun y hy => by
    rcases List.mem_cons.mp hy with rfl | hy
    · obtain ⟨h1, h2, h3, _⟩ := h
      rw [h1]
      exact ⟨h2, (h3.ext e).dp⟩
    · exact nr_keys (F := F) e t y hy
theorem nr_put {k : NestedKey} {p : Addr} {u : Value} {v : V} {d : PyData} (hk : k.depth ≤ 8) (hp : Rp K B (.ref p) k.data) (hv : RelV v u) (hd : Rp K B v d) {xs : List (NestedKey × Addr × Value)} {es : List (NestedKey × PyData)} (h : Paired (NRel K B) xs es) : Paired (NRel K B) (storedH xs k p u) (putN es k d) := by
  unfold storedH putN
  rw [nr_some h]
  by_cases c : (valN es k).isSome = true
  · rw [if_pos c, if_pos c]
    clear c
    induction h with
    | nil => exact .nil
    | @cons x e xs es h t ih =>
      rw [List.map_cons, List.map_cons]
      refine .cons ?_ ih
      obtain ⟨h1, h2, h3, w, h4, h5⟩ := h
      unfold putAt
      by_cases c : e.1 = k
      · rw [if_pos c, if_pos (h1.trans c)]
        exact ⟨h1, h2, h3, v, hv, hd⟩
      · rw [if_neg c, if_neg (fun z => c (h1 ▸ z))]
        exact ⟨h1, h2, h3, w, h4, h5⟩
  · rw [if_neg c, if_neg c]
    exact Paired.app h (.cons ⟨rfl, hk, hp, v, hv, hd⟩ .nil)
theorem nr_len {xs : List (NestedKey × Addr × Value)} {es : List (NestedKey × PyData)} (h : Paired (NRel K B) xs es) : xs.length = es.length := Paired.length h
theorem putN_len (es : List (NestedKey × PyData)) (k : NestedKey) (d : PyData) : (putN es k d).length ≤ es.length + 1 := by
  unfold putN
  split
  · rw [List.length_map]; omega
  · simp
theorem valN_app (es fs : List (NestedKey × PyData)) (k : NestedKey) : valN (es ++ fs) k = (valN es k).or (valN fs k) := by
  unfold valN
  rw [List.find?_append]
  cases es.find? fun kv => decide (kv.1 = k) <;> rfl
/-- what is found behind a store -/
theorem valN_put (es : List (NestedKey × PyData)) (k k' : NestedKey) (d : PyData) : valN (putN es k d) k' = if k' = k then some d else valN es k' := by
  unfold putN
  by_cases c : (valN es k).isSome = true
  · rw [if_pos c]
    induction es with
    | nil => cases c
    | cons e es ih =>
      obtain ⟨ek, ev⟩ := e
      have um : ∀ (l : List (NestedKey × PyData)), ¬ (valN l ek).isSome = true → l.map (fun e => if e.1 = ek then (e.1, d) else e) = l := fun l hl => by
        refine (List.map_congr_left fun kv hkv => ?_).trans (List.map_id l)
        rw [if_neg fun h => hl (by
          unfold valN
          rw [Option.isSome_map, List.find?_isSome]
          exact ⟨kv, hkv, decide_eq_true h⟩)]
        rfl
      rw [List.map_cons]
      by_cases a : ek = k
      · subst a
        rw [if_pos rfl]
        by_cases b : k' = ek
        · subst b
          rw [if_pos rfl]
          unfold valN
          rw [List.find?_cons, decide_eq_true rfl]
          rfl
        · have b2 : ¬ ek = k' := fun h => b h.symm
          rw [if_neg b]
          by_cases c2 : (valN es ek).isSome = true
          · have := ih c2
            rw [if_neg b] at this
            unfold valN at this ⊢
            rw [List.find?_cons, List.find?_cons]
            simp only [decide_eq_false b2]
            exact this
          · rw [um es c2]
            unfold valN
            rw [List.find?_cons, List.find?_cons]
            simp only [decide_eq_false b2]
      · rw [if_neg a]
        have c2 : (valN es k).isSome = true := by
          unfold valN at c ⊢
          rw [List.find?_cons, decide_eq_false a] at c
          exact c
        have := ih c2
        by_cases b : k' = ek
        · subst b
          rw [if_neg a]
          unfold valN
          rw [List.find?_cons, List.find?_cons, decide_eq_true rfl]
        · have b2 : ¬ ek = k' := fun h => b h.symm
          unfold valN at this ⊢
          rw [List.find?_cons, List.find?_cons]
          simp only [decide_eq_false b2]
          exact this
  · rw [if_neg c, valN_app]
    have o : ∀ k', valN [(k, d)] k' = if k' = k then some d else none := fun k' => by
      unfold valN
      by_cases b : k' = k
      · subst b; simp
      · rw [if_neg b, List.find?_cons, decide_eq_false (fun h => b h.symm)]
        rfl
    rw [o]
    by_cases b : k' = k
    · subst b
      rw [if_pos rfl, if_pos rfl]
      cases q : valN es k' with
      | none => rfl
      | some y => rw [q] at c; exact absurd rfl c
    · rw [if_neg b, if_neg b]
      cases valN es k' <;> rfl
end
section
variable {X : Cx} {B0 F : Hp} {M : Cs} {ρ κ : List Sl} {P : Sl → Cs → Prop} {o i e : Expr} {pos : Pos} {k : KK}
theorem ndic_at {K : Fg} {Pg : Program} {w : World} {σ : L2.St} {vs : List V} {H B : Hp} {a : Addr} {es : List (NestedKey × PyData)} (g : GoodB K B0 F M ρ κ σ vs H B) (h : (a, .dn (NDic Pg w a) es) ∈ M) : ∃ xs, H a = some (NDic Pg w a xs) ∧ Paired (NRel K B) xs es := by
  obtain ⟨_, _, o, ho, xs, rfl, hx⟩ := g.cells _ h
  exact ⟨xs, ho, hx⟩
theorem de_ndnew (h : ∀ p, P (.v (.ref p)) ((p, .dn (NDic X.prog X.w p) []) :: M)) : DE X B0 F M ρ κ (.Dict [] [] pos) P := fun σ vs H Q g q => tOf_of pe_ndnew fun p hp => by
  obtain ⟨B, g⟩ := g
  exact q _ _ _ _ ⟨B, (g.cell (c := .dn (NDic X.prog X.w p) []) hp ⟨[], rfl, .nil⟩).pushV⟩ (h p)
theorem nat_of {σ : L2.St} {vs : List V} {H B : Hp} {a : Addr} {es : List (NestedKey × PyData)} {xs : List (NestedKey × Addr × Value)} {y : V} {ks : List NestedKey} (g : GoodB X.K B0 F M ρ κ σ vs H B) (ho : H a = some (NDic X.prog X.w a xs)) (hx : Paired (NRel X.K B) xs es) (hd : (NestedKey.tup ks).depth ≤ 8) (hy : Rp X.K B y (NestedKey.tup ks).data) : NAt X H a y xs (.tup ks) := by
  refine ⟨ho, nr_keys (F := F) g.bh hx, hd, ?_, (hy.ext g.bh).dp⟩
  rw [NestedKey.data] at hy
  obtain ⟨p, _, rfl, _⟩ := Rp.tup_inv hy
  exact ⟨p, rfl⟩
theorem de_ndget (hu : X.A.units + 64 < cLine) (h : DE X B0 F M ρ κ o fun r1 M1 => DE X B0 F M1 ρ (r1 :: κ) i fun r2 M2 => ∃ a es ks d, r1 = .v (.ref a) ∧ (a, .dn (NDic X.prog X.w a) es) ∈ M2 ∧ r2 = .d (NestedKey.tup ks).data ∧ (NestedKey.tup ks).depth ≤ 8 ∧ valN es (.tup ks) = some d ∧ P (.d d) M2) (hs : NoSl i := by exact fun _ _ => rfl) : DE X B0 F M ρ κ (.Subscript o i pos) P :=
  fun σ vs H Q g q => tOf_of (pe_ndget hu pe_self pe_self hs) (h σ vs H _ g fun x H1 r1 M1 g1 h1 => h1 σ (x :: vs) H1 _ g1 fun y H2 r2 M2 g2 h2 => by
    obtain ⟨a, es, ks, d, rfl, hm, rfl, hd, hv, hp⟩ := h2
    have e := g2.pop.ref
    subst e
    obtain ⟨B, g2⟩ := g2
    obtain ⟨xs, ho, hx⟩ := ndic_at g2 hm
    obtain ⟨p, hp1, v, hp2, hp3⟩ := (nr_val hx).1 d hv
    exact ⟨a, xs, .tup ks, p, v, rfl, nat_of g2 ho hx hd g2.fst, hp1, hp2, q _ H2 _ M2 ⟨B, g2.pop.pop.pushD hp3⟩ hp⟩)
theorem de_ndin (hu : X.A.units + 64 < cLine) (h : DE X B0 F M ρ κ i fun r1 M1 => DE X B0 F M1 ρ (r1 :: κ) o fun r2 M2 => ∃ a es ks, r2 = .v (.ref a) ∧ (a, .dn (NDic X.prog X.w a) es) ∈ M2 ∧ r1 = .d (NestedKey.tup ks).data ∧ (NestedKey.tup ks).depth ≤ 8 ∧ P (.d (.bool (valN es (.tup ks)).isSome)) M2) (hb : behindInMarks .In o = false := by rfl) : DE X B0 F M ρ κ (.Compare i [.In] [o] pos) P :=
  fun σ vs H Q g q => tOf_of (pe_cmp (pc_ndin hu pe_self pe_self) hb) (h σ vs H _ g fun x H1 r1 M1 g1 h1 => h1 σ (x :: vs) H1 _ g1 fun y H2 r2 M2 g2 h2 => by
    obtain ⟨a, es, ks, rfl, hm, rfl, hd, hp⟩ := h2
    have e := g2.ref
    subst e
    obtain ⟨B, g2⟩ := g2
    obtain ⟨xs, ho, hx⟩ := ndic_at g2 hm
    exact ⟨a, xs, .tup ks, rfl, nat_of g2 ho hx hd g2.pop.fst, q _ H2 _ M2 ⟨B, g2.pop.pop.pushD (by rw [nr_some hx]; exact .bl _)⟩ hp⟩)
theorem dt_ndnin {PT : Bool → Cs → Prop} (hu : X.A.units + 64 < cLine) (h : DE X B0 F M ρ κ i fun r1 M1 => DE X B0 F M1 ρ (r1 :: κ) o fun r2 M2 => ∃ a es ks, r2 = .v (.ref a) ∧ (a, .dn (NDic X.prog X.w a) es) ∈ M2 ∧ r1 = .d (NestedKey.tup ks).data ∧ (NestedKey.tup ks).depth ≤ 8 ∧ PT (!(valN es (.tup ks)).isSome) M2) (hb : behindInMarks .NotIn o = false := by rfl) : DT X B0 F M ρ κ (.Compare i [.NotIn] [o] pos) PT :=
  fun σ vs H Q g q => tOfT_of (pt_cmp (pc_ndnin hu pe_self pe_self) hb) (h σ vs H _ g fun x H1 r1 M1 g1 h1 => h1 σ (x :: vs) H1 _ g1 fun y H2 r2 M2 g2 h2 => by
    obtain ⟨a, es, ks, rfl, hm, rfl, hd, hp⟩ := h2
    have e := g2.ref
    subst e
    obtain ⟨B, g2⟩ := g2
    obtain ⟨xs, ho, hx⟩ := ndic_at g2 hm
    exact ⟨a, xs, .tup ks, rfl, nat_of g2 ho hx hd g2.pop.fst, _, rfl, by rw [nr_some hx]; exact q _ H2 M2 ⟨B, g2.pop.pop⟩ hp⟩)
theorem dt_ndin {PT : Bool → Cs → Prop} (hu : X.A.units + 64 < cLine) (h : DE X B0 F M ρ κ i fun r1 M1 => DE X B0 F M1 ρ (r1 :: κ) o fun r2 M2 => ∃ a es ks, r2 = .v (.ref a) ∧ (a, .dn (NDic X.prog X.w a) es) ∈ M2 ∧ r1 = .d (NestedKey.tup ks).data ∧ (NestedKey.tup ks).depth ≤ 8 ∧ PT (valN es (.tup ks)).isSome M2) (hb : behindInMarks .In o = false := by rfl) : DT X B0 F M ρ κ (.Compare i [.In] [o] pos) PT :=
  fun σ vs H Q g q => tOfT_of (pt_cmp (pc_ndin hu pe_self pe_self) hb) (h σ vs H _ g fun x H1 r1 M1 g1 h1 => h1 σ (x :: vs) H1 _ g1 fun y H2 r2 M2 g2 h2 => by
    obtain ⟨a, es, ks, rfl, hm, rfl, hd, hp⟩ := h2
    have e := g2.ref
    subst e
    obtain ⟨B, g2⟩ := g2
    obtain ⟨xs, ho, hx⟩ := ndic_at g2 hm
    exact ⟨a, xs, .tup ks, rfl, nat_of g2 ho hx hd g2.pop.fst, _, rfl, by rw [nr_some hx]; exact q _ H2 M2 ⟨B, g2.pop.pop⟩ hp⟩)
/-- the statement d[k] = e -/
theorem ds_ndput (n : Nat) (hu : X.A.units + 64 < cLine) {v : Expr} {pos' : Pos} (h : DE X B0 F M ρ κ v fun r M0 => DE X B0 F M0 ρ (r :: κ) o fun r1 M1 => DE X B0 F M1 ρ (r1 :: r :: κ) i fun r2 M2 => ∃ a es y ks, r1 = .v (.ref a) ∧ r2 = .d (NestedKey.tup ks).data ∧ (NestedKey.tup ks).depth ≤ 8 ∧ r = .d y ∧ M2[n]? = some (a, .dn (NDic X.prog X.w a) es) ∧ es.length ≤ 100000 ∧ k.nx (M2.set n (a, .dn (NDic X.prog X.w a) (putN es (.tup ks) y))) ρ)
    (hs : swapsWith v (some (.Subscript o i pos')) pos.line X.env = pure false := by rfl) : DS X B0 F M ρ κ (.Assign [.Subscript o i pos'] v pos) k := fun σ vs H D g c => tOfS_of (ps_ndput hu pe_self pe_self pe_self hs) (by
    refine h σ vs H _ g fun v0 H0 r0 M0 g0 h0 => h0 σ (v0 :: vs) H0 _ g0 fun v1 H1 r1 M1 g1 h1 => h1 σ (v1 :: v0 :: vs) H1 _ g1 fun v2 H2 r2 M2 g2 h2 => ?_
    obtain ⟨a, es, y, ks, rfl, rfl, hd, rfl, hn, hl, hp⟩ := h2
    have e := g2.pop.ref
    subst e
    obtain ⟨B, g2⟩ := g2
    obtain ⟨xs, ho, hx⟩ := ndic_at g2 (List.mem_of_getElem? hn)
    refine ⟨a, xs, .tup ks, rfl, nat_of g2 ho hx hd g2.fst, by rw [nr_len hx]; exact hl, fun p u ep ru => c.nx _ _ _ _ ⟨B, g2.pop.pop.pop.write (c' := .dn (NDic X.prog X.w a) (putN es (.tup ks) y)) hn ⟨_, rfl, nr_put hd ?_ ru g2.pop.pop.fst hx⟩⟩ hp⟩
    rw [← ep]
    exact g2.fst)
end
end DL
set_option maxHeartbeats 4000000
/-! instances -/
namespace DL
open PySem PySem.Spec PyProof.Rows L2
section
variable {X : Cx} {B0 F B H1 : Hp} {M M1 : Cs} {ρ κ rs : List Sl} {σ : L2.St} {vs ws : List V} {P : Sl → Cs → Prop} {Q : VK} {E : XK} {Rf : List Sl → Cs → (Sl → Cs → Prop) → Prop}
/-- a def's promise asked for: it may change the first n cells -/
theorem sp_M (g2 : GoodB X.K B0 F M1 ρ κ σ vs H1 B) (k1 : KOk X.K F B ws rs) (n : Nat) (hR : Rf rs (M1.take n) fun r M2 => NoRd r ∧ P r (M2 ++ M1.drop n))
    (q : ∀ v H' r M', Good X.K B0 F M' ρ (r :: κ) σ (v :: vs) H' → P r M' → Q v H') : SpG X.K Rf ws H1 Q E := by
  have g1 := g2
  have g2 : GoodB X.K B0 F (M1.take n ++ M1.drop n) ρ κ σ vs H1 B := by rw [List.take_append_drop]; exact g2
  have sF : Same F (without H1 ((M1.take n).map (·.1))) := fun a o e => by
    rw [without_out]
    · exact g1.fh a o e
    · intro z
      obtain ⟨c, hc, rfl⟩ := List.mem_map.mp z
      rw [(g1.cells c (List.mem_of_mem_take hc)).f] at e
      cases e
  refine ⟨B, without H1 ((M1.take n).map (·.1)), M1.take n, rs, _, ⟨B, Same.refl _, g1.bh, fun a o e => (without_some e).2, fun a ha => .inl ha, fun c hc => ?_, ?_, .nil, Paired.mapP k1 fun _ _ z => z.extF sF⟩, ?_, hR, fun v H' r M' g' hW => ?_⟩
  · obtain ⟨h1, h2, u, h3, h4⟩ := g1.cells c (List.mem_of_mem_take hc)
    exact ⟨h1, without_in (List.mem_map.mpr ⟨c, hc, rfl⟩), u, h3, h4⟩
  · rw [List.map_take]
    exact g1.nd.sublist (List.take_sublist _ _)
  · rintro r M ⟨hn, _⟩
    exact hn
  · exact q v H' r _ (good_afterM g2 hW.1 g') hW.2
/-- .. all cells behind the first j -/
theorem sp_J (g2 : GoodB X.K B0 F M1 ρ κ σ vs H1 B) (k1 : KOk X.K F B ws rs) (j : Nat) (hR : Rf rs (M1.drop j) fun r M2 => NoRd r ∧ P r (M1.take j ++ M2))
    (q : ∀ v H' r M', Good X.K B0 F M' ρ (r :: κ) σ (v :: vs) H' → P r M' → Q v H') : SpG X.K Rf ws H1 Q E := by
  have pm : M1.Perm (M1.drop j ++ M1.take j) := by
    have h1 : M1 = M1.take j ++ M1.drop j := (List.take_append_drop j M1).symm
    exact (List.Perm.of_eq h1).trans List.perm_append_comm
  have g3 : GoodB X.K B0 F (M1.drop j ++ M1.take j) ρ κ σ vs H1 B := ⟨g2.b0, g2.bh, g2.fh, g2.new, fun c hc => g2.cells c (pm.mem_iff.mpr hc), (pm.map _).nodup_iff.mp g2.nd, g2.sl, g2.st⟩
  have e1 : (M1.drop j ++ M1.take j).take (M1.drop j).length = M1.drop j := List.take_left' rfl
  have e2 : (M1.drop j ++ M1.take j).drop (M1.drop j).length = M1.take j := List.drop_left' rfl
  refine sp_M (P := fun r M' => ∃ M2, M' = M2 ++ M1.take j ∧ P r (M1.take j ++ M2)) g3 k1 (M1.drop j).length ?_ ?_
  · rw [e1, e2]
    have mono : ∀ r M2, (NoRd r ∧ P r (M1.take j ++ M2)) = (NoRd r ∧ ∃ M3, M2 ++ M1.take j = M3 ++ M1.take j ∧ P r (M1.take j ++ M3)) := fun r M2 => propext ⟨fun ⟨h1, h2⟩ => ⟨h1, M2, rfl, h2⟩, fun ⟨h1, M3, h2, h3⟩ => ⟨h1, by rw [List.append_cancel_right h2]; exact h3⟩⟩
    have e3 : (fun r M2 => NoRd r ∧ P r (M1.take j ++ M2)) = fun r M2 => NoRd r ∧ ∃ M3, M2 ++ M1.take j = M3 ++ M1.take j ∧ P r (M1.take j ++ M3) := funext fun r => funext fun M2 => mono r M2
    rw [← e3]
    exact hR
  · rintro v H' r M' g' ⟨M2, rfl, hp⟩
    exact q v H' r _ (g'.perm List.perm_append_comm) hp
end
section
variable {X : Cx} {B0 F : Hp} {M : Cs} {ρ κ : List Sl} {P : Sl → Cs → Prop} {o e value : Expr} {es : List Expr} {p pos pos' apos : Pos} {x m f : Str} {lv : Nat} {ps : List Str} {k : KK}
theorem ins_at {K : Fg} {σ : L2.St} {vs : List V} {H B : Hp} {a C : Addr} {fs : List (Str × Sl)} (g : GoodB K B0 F M ρ κ σ vs H B) (h : (a, .ins C fs) ∈ M) : ∃ dx us, H a = some (.ins C dx us) ∧ Paired (fun (p : Str × V) (q : Str × Sl) => p.1 = q.1 ∧ FOk K B p.2 q.2) us fs := by
  obtain ⟨_, _, o, ho, dx, us, rfl, hx⟩ := g.cells _ h
  exact ⟨dx, us, ho, hx⟩
theorem fs_lookup {K : Fg} {B : Hp} {f : Str} : ∀ {us : List (Str × V)} {fs : List (Str × Sl)}, Paired (fun (p : Str × V) (q : Str × Sl) => p.1 = q.1 ∧ FOk K B p.2 q.2) us fs → (∀ s, fs.lookup f = some s → ∃ v, us.lookup f = some v ∧ FOk K B v s) ∧ (fs.lookup f = none → us.lookup f = none)
  | _, _, .nil => ⟨(fun s h => by cases h), fun _ => rfl⟩
  | (u, v) :: us, (g, s) :: fs, .cons h t => by
    obtain ⟨ih1, ih2⟩ := fs_lookup (f := f) t
    obtain ⟨h1, h2⟩ := h
    have h1 : u = g := h1
    subst h1
    rw [List.lookup_cons, List.lookup_cons]
    cases f == u with
    | true => exact ⟨(fun s' hs => ⟨v, rfl, by cases Option.some.inj hs; exact h2⟩), fun h => by cases h⟩
    | false => exact ⟨ih1, ih2⟩
def putS (f : Str) (s : Sl) : List (Str × Sl) → List (Str × Sl)
  | [] => [(f, s)]
  | (g, x) :: r => if g = f then (g, s) :: r else (g, x) :: putS f s r
theorem fs_put {K : Fg} {B : Hp} {f : Str} {v : V} {s : Sl} (hv : FOk K B v s) : ∀ {us : List (Str × V)} {fs : List (Str × Sl)}, Paired (fun (p : Str × V) (q : Str × Sl) => p.1 = q.1 ∧ FOk K B p.2 q.2) us fs → Paired (fun (p : Str × V) (q : Str × Sl) => p.1 = q.1 ∧ FOk K B p.2 q.2) (putF f v us) (putS f s fs)
  | _, _, .nil => .cons ⟨rfl, hv⟩ .nil
  | (u, w) :: us, (g, t) :: fs, .cons h r => by
    have h1 : u = g := h.1
    subst h1
    unfold putF putS
    by_cases c : u = f
    · rw [if_pos c, if_pos c]; exact .cons ⟨rfl, hv⟩ r
    · rw [if_neg c, if_neg c]; exact .cons h (fs_put hv r)
/-- e.f -/
theorem de_fld (h : DE X B0 F M ρ κ e fun r M1 => ∃ a C fs s, r = .v (.ref a) ∧ (a, .ins C fs) ∈ M1 ∧ Cls X.K C ∧ NoAttr X.K C f ∧ fs.lookup f = some s ∧ P s M1) (hb : attributeBase e f X.env (eval e X.env) = eval e X.env := by rfl) : DE X B0 F M ρ κ (.Attribute e f pos) P := fun σ vs H Q g q =>
  tOf_of (pe_fld pe_self hb) (h σ vs H _ g fun v H1 r M1 g1 h1 => by
    obtain ⟨a, C, fs, s, rfl, hm, hc, hn, hs, hp⟩ := h1
    have e := g1.ref
    subst e
    obtain ⟨B, g1⟩ := g1
    obtain ⟨dx, us, ho, hu⟩ := ins_at g1 hm
    obtain ⟨v, hv, hf⟩ := (fs_lookup hu).1 s hs
    refine ⟨a, C, dx, us, v, rfl, ho, hc, hn, hv, q v H1 s M1 ⟨B, ?_⟩ hp⟩
    cases s with
    | d y => exact g1.pop.push hf
    | v y => exact g1.pop.push hf
    | un => exact hf.elim
    | rd ys => exact hf.elim)
/-- o.f = value, o at place n -/
theorem ds_fld (n : Nat) (h : DE X B0 F M ρ κ value fun r M1 => DE X B0 F M1 ρ (r :: κ) o fun r1 M2 => ∃ a C fs, r1 = .v (.ref a) ∧ M2[n]? = some (a, .ins C fs) ∧ Cls X.K C ∧ NoAttr X.K C f ∧ fs.length < 1000 ∧ (∃ y, r = .d y ∨ ∃ w, r = .v w) ∧ k.nx (M2.set n (a, .ins C (putS f r fs))) ρ)
    (hs : swapsWith value (some (.Attribute o f pos')) pos.line X.env = pure false := by rfl) : DS X B0 F M ρ κ (.Assign [.Attribute o f pos'] value pos) k := fun σ vs H D g c =>
  tOfS_of (ps_fld pe_self pe_self hs) (h σ vs H _ g fun v H1 r M1 g1 h1 => h1 σ (v :: vs) H1 _ g1 fun v2 H2 r1 M2 g2 h2 => by
    obtain ⟨a, C, fs, rfl, hn, hc, hno, hl, hr, hp⟩ := h2
    have e := g2.ref
    subst e
    obtain ⟨B, g2⟩ := g2
    obtain ⟨dx, us, ho, hu⟩ := ins_at g2 (List.mem_of_getElem? hn)
    have hv : FOk X.K B v r := by
      have := g2.pop.fst
      obtain ⟨y, rfl | ⟨w, rfl⟩⟩ := hr
      · exact this
      · exact this
    exact ⟨a, C, dx, us, rfl, ho, hc, hno, by rw [Paired.length hu]; exact hl, c.nx _ _ _ _ ⟨B, g2.pop.pop.write (c' := .ins C (putS f r fs)) hn ⟨dx, _, rfl, fs_put hv hu⟩⟩ hp⟩)
/-- o.m(e, ..): a method that may change all cells behind the first j -/
theorem de_methJ (j : Nat) {C f : Addr} {fd : FuncData} {Rf : List Sl → Cs → (Sl → Cs → Prop) → Prop} {pl : Sem Bool} (c : Cls X.K C) (hm : Meth X.K C m f) (Fo : FnOk X.prog X.w X.K X.mg X.base CX0 lv f fd ps (SpG X.K Rf)) (hr : Room lv X.A) (hb : Binds X.K fd ps [])
    (h : DE X B0 F M ρ κ o fun r1 M1 => ∃ a fs, r1 = .v (.ref a) ∧ (a, .ins C fs) ∈ M1 ∧ fs.lookup m = none ∧ DA X B0 F M1 ρ (r1 :: κ) (e :: es) fun rs M2 => Rf (r1 :: rs) (M2.drop j) fun r M3 => NoRd r ∧ P r (M2.take j ++ M3))
    (hst : starEach (e :: es) X.env = (false, eval e X.env) :: starEach es X.env := by rfl) (hpl : (backTo pos (starEach es X.env)).any (·.1) = false := by rfl)
    (ht : eval (.Call (.Attribute o m apos) (e :: es) [] pos) X.env = (do
      let ov ← eval o X.env
      standAt apos.atName
      let (f, first) ← holding [ov] (getMethod ov m pl)
      callWith pos f first (backTo pos (starEach (e :: es) X.env)) (backToKw pos (keywordEach [] X.env))) := by rfl) : DE X B0 F M ρ κ (.Call (.Attribute o m apos) (e :: es) [] pos) P := fun σ vs H Q g q => by
  refine tOf_of (pe_meth (E := E0) pe_self c hm Fo hr hb .nil pass0 pa_self hst hpl ht) (h σ vs H _ g fun v H1 r1 M1 g1 h1 => ?_)
  obtain ⟨a, fs, rfl, hma, hlk, h1⟩ := h1
  have ev := g1.ref
  subst ev
  obtain ⟨B, g1b⟩ := id g1
  obtain ⟨dx, us, ho, hu⟩ := ins_at g1b hma
  refine ⟨a, dx, us, rfl, ho, (fs_lookup hu).2 hlk, h1 σ (.ref a :: vs) H1 _ g1 fun ws H2 rs M2 hl g2 hR => ?_⟩
  rw [List.append_nil]
  obtain ⟨B2, g2⟩ := g2
  obtain ⟨k1, k2⟩ := kok_split hl g2.st
  have g3 := g2.stk k2
  exact sp_J g3.pop (.cons g3.fst k1) j hR q
/-- C(e, ..): a new instance; __init__ may change it and the first n cells -/
theorem de_makeM (n : Nat) {C f : Addr} {fd : FuncData} {Rf : List Sl → Cs → (Sl → Cs → Prop) → Prop} (Mk0 : Mk X.K C f) (Fo : FnOk X.prog X.w X.K X.mg X.base CX0 lv f fd ps (SpG X.K Rf)) (hr : Room (lv + 1) X.A) (hm : X.mg x = some (.ref C)) (hb : Binds X.K fd ps [])
    (h : DA X B0 F M ρ κ (e :: es) fun rs M1 => ∀ a, Rf (.v (.ref a) :: rs) ((a, .ins C []) :: M1.take n) fun r M2 => r = .d .none ∧ P (.v (.ref a)) (M2 ++ M1.drop n)) (hg : Gl X x := by rfl)
    (hdb : (x == ("__debug__" : Str)) = false := by decide) (he : starEach (e :: es) X.env = (false, eval e X.env) :: starEach es X.env := by rfl) (hpl : (backTo pos (starEach es X.env)).any (·.1) = false := by rfl) : DE X B0 F M ρ κ (.Call (.Name x p) (e :: es) [] pos) P := fun σ vs H Q g q => by
  refine tOf_of (pe_make (E := E0) Mk0 Fo hr hg hm hb .nil pass0 pa_self hdb he hpl) (h σ vs H _ g fun ws H1 rs M1 hl g1 hR => fun a dx ha hdx hne => ?_)
  rw [List.append_nil]
  obtain ⟨B, g1⟩ := g1
  have g2 := g1.cell (p := dx) (o := .own a) (c := .raw (.own a)) hdx rfl
  have hx : upd H1 dx (.own a) a = none := by rw [upd_ne (fun e => hne e.symm)]; exact ha
  have g3 : GoodB X.K B0 F M1 ρ (rs ++ κ) σ (ws ++ vs) (upd H1 dx (.own a)) B := ⟨g2.b0, g2.bh, g2.fh, g2.new, fun c hc => g2.cells c (List.mem_cons_of_mem _ hc), (List.nodup_cons.mp g2.nd).2, g2.sl, g2.st⟩
  have g4 := g3.cell (p := a) (o := .ins C dx []) (c := .ins C []) hx ⟨dx, [], rfl, .nil⟩
  obtain ⟨k1, k2⟩ := kok_split hl g4.st
  have k0 : KOk X.K F B (.ref a :: ws) (.v (.ref a) :: rs) := .cons (show VOk X.K F B (.ref a) (.v (.ref a)) from rfl) k1
  refine sp_M (P := fun r M' => r = .d .none ∧ P (.v (.ref a)) M') (g4.stk k2) k0 (n + 1) ?_ ?_
  · have e1 : (fun r M2 => r = Sl.d .none ∧ P (.v (.ref a)) (M2 ++ M1.drop n)) = fun r M2 => NoRd r ∧ r = Sl.d .none ∧ P (.v (.ref a)) (M2 ++ ((a, MC.ins C []) :: M1).drop (n + 1)) := funext fun r => funext fun M2 => propext ⟨fun ⟨h1, h2⟩ => ⟨by rw [h1]; trivial, h1, h2⟩, fun ⟨_, h1, h2⟩ => ⟨h1, h2⟩⟩
    show Rf _ ((a, MC.ins C []) :: M1.take n) _
    rw [← e1]
    exact hR a
  · rintro v H' r M' g' ⟨rfl, hp⟩
    obtain ⟨B', g'⟩ := g'
    have hv : v = .non := by
      have := g'.fst
      cases this
      rfl
    exact ⟨hv, q (.ref a) H' _ M' ⟨B', g'.pop.pushV⟩ hp⟩
end
end DL
set_option maxHeartbeats 4000000
namespace DL
open PySem PySem.Spec PyProof.Rows L2
/-! ### the kinds of data -/
def isTup : PyData → Bool
  | .tuple _ => true
  | _ => false
def isLst : PyData → Bool
  | .list _ => true
  | _ => false
def isBool : PyData → Bool
  | .bool _ => true
  | _ => false
def isInt : PyData → Bool
  | .bool _ => true
  | .int _ => true
  | _ => false
def isStr : PyData → Bool
  | .str _ => true
  | _ => false
theorem kTup (K : Fg) (d : PyData) : PySem.W.kitOne K (tyD d) (.type "tuple") = some (isTup d) := by cases d <;> kernel_rfl
theorem kLst (K : Fg) (d : PyData) : PySem.W.kitOne K (tyD d) (.type "list") = some (isLst d) := by cases d <;> kernel_rfl
theorem kBool (K : Fg) (d : PyData) : PySem.W.kitOne K (tyD d) (.type "bool") = some (isBool d) := by cases d <;> kernel_rfl
theorem kInt (K : Fg) (d : PyData) : PySem.W.kitOne K (tyD d) (.type "int") = some (isInt d) := by cases d <;> kernel_rfl
theorem kStr (K : Fg) (d : PyData) : PySem.W.kitOne K (tyD d) (.type "str") = some (isStr d) := by cases d <;> kernel_rfl
theorem bt_bool : bootBuiltins "bool" = some (.type "bool") := by decide +kernel
theorem bt_str : bootBuiltins "str" = some (.type "str") := by decide +kernel
section
variable {X : Cx} {B0 F : Hp} {M : Cs} {ρ κ : List Sl} {P : Sl → Cs → Prop} {e : Expr} {p p2 pos : Pos}
theorem de_isi {T : String} {x : Str} (hv : bootBuiltins x = some (.type T)) (gi : X.mg "isinstance" = none) (gx : X.mg x = none) (h : DE X B0 F M ρ κ e fun r M1 => ∃ d b, r = .d d ∧ PySem.W.kitOne X.K (tyD d) (.type T) = some b ∧ P (.d (.bool b)) M1)
    (hg : Gl X "isinstance" := by rfl) (hg2 : Gl X x := by rfl) (hn : x ≠ "__name__" := by decide) (hdb : (x == ("__debug__" : Str)) = false := by decide)
    (hs : starEach [e, .Name x p2] X.env = (false, eval e X.env) :: starEach [.Name x p2] X.env := by rfl) (hs2 : starEach [.Name x p2] X.env = (false, eval (.Name x p2) X.env) :: starEach [] X.env := by rfl) (hpl : (backTo pos (starEach [.Name x p2] X.env)).any (·.1) = false := by rfl) : DE X B0 F M ρ κ (.Call (.Name "isinstance" p) [e, .Name x p2] [] pos) P :=
  de_callB call_isi gi bt_isi (da_cons (fun σ vs H Q g q => h σ vs H Q g fun v H' r M' g' ⟨d, b, hr, hk, hp⟩ => q v H' r M' g' (hr ▸ da_cons (de_ty gx hv (da_nil (rn_isi hk hp)) hg2 hn hdb) hs2)) hs) hg (he := hs) (hpl := hpl)
end
end DL
namespace DL
open PySem PySem.Spec PyProof.Rows L2
section
variable {X : Cx} {B0 F : Hp} {M : Cs} {ρ κ : List Sl} {P : Sl → Cs → Prop} {e : Expr} {es : List Expr} {p pos : Pos} {x : Str} {lv : Nat} {ps : List Str}
/-- a def called that may change all cells behind the first j -/
theorem de_goJ (j : Nat) {R : List Sl → Cs → (Sl → Cs → Prop) → Prop} (G : Go X.prog X.w X.K X.mg X.base x lv ps R) (hr : Room lv X.A)
    (h : DA X B0 F M ρ κ (e :: es) fun rs M1 => R rs (M1.drop j) fun r M2 => NoRd r ∧ P r (M1.take j ++ M2)) (hg : Gl X x := by rfl) (hdb : (x == ("__debug__" : Str)) = false := by decide)
    (he : starEach (e :: es) X.env = (false, eval e X.env) :: starEach es X.env := by rfl) (hpl : (backTo pos (starEach es X.env)).any (·.1) = false := by rfl) : DE X B0 F M ρ κ (.Call (.Name x p) (e :: es) [] pos) P := by
  obtain ⟨f, fd, hm, hk, hb, Fo⟩ := G
  exact de_callJ j Fo hr hm hk hb h hg hdb he hpl
end
end DL
namespace DL
open PySem PySem.Spec PyProof.Rows L2
theorem valD_app (es fs : List (Key × PyData)) (k : Key) : valD (es ++ fs) k = (valD es k).or (valD fs k) := by
  unfold valD
  rw [List.find?_append]
  cases es.find? fun kv => decide (kv.1 = k) <;> rfl
theorem valD_one (k k' : Key) (v : PyData) : valD [(k, v)] k' = if k' = k then some v else none := by
  unfold valD
  by_cases c : k' = k
  · subst c; simp
  · rw [if_neg c]
    have : ¬ k = k' := fun h => c h.symm
    simp [this]
theorem valD_none {es : List (Key × PyData)} {k : Key} (h : ¬ (es.any fun kv => decide (kv.1 = k)) = true) : valD es k = none := by
  unfold valD
  rw [List.find?_eq_none.mpr fun kv hkv => ?_]
  · rfl
  · intro hc
    exact h (List.any_eq_true.mpr ⟨kv, hkv, hc⟩)
theorem valD_put (es : List (Key × PyData)) (k k' : Key) (v : PyData) : valD (putD es k v) k' = if k' = k then some v else valD es k' := by
  unfold putD
  by_cases c : (es.any fun kv => decide (kv.1 = k)) = true
  · rw [if_pos c]
    induction es with
    | nil => cases c
    | cons e es ih =>
      obtain ⟨ek, ev⟩ := e
      unfold valD at ih ⊢
      rw [List.map_cons, List.find?_cons, List.find?_cons]
      by_cases a : ek = k
      · subst a
        rw [if_pos rfl]
        by_cases b : k' = ek
        · subst b; simp
        · have b2 : ¬ ek = k' := fun h => b h.symm
          rw [if_neg b]
          simp only [decide_eq_false b2]
          by_cases c2 : (es.any fun kv => decide (kv.1 = ek)) = true
          · rw [ih c2, if_neg b]
          · congr 2
            refine (List.map_congr_left fun kv hkv => ?_).trans (List.map_id _)
            rw [if_neg fun h => c2 (List.any_eq_true.mpr ⟨kv, hkv, decide_eq_true h⟩)]
            rfl
      · rw [if_neg a]
        have c2 : (es.any fun kv => decide (kv.1 = k)) = true := by
          rw [List.any_cons, decide_eq_false a, Bool.false_or] at c
          exact c
        by_cases b : k' = ek
        · subst b
          rw [if_neg (fun h => a h)]
          simp
        · have b2 : ¬ ek = k' := fun h => b h.symm
          simp only [decide_eq_false b2]
          exact ih c2
  · rw [if_neg c, valD_app, valD_one]
    by_cases b : k' = k
    · subst b
      rw [valD_none c, if_pos rfl]
      rfl
    · rw [if_neg b, if_neg b]
      cases valD es k' <;> rfl
end DL
namespace DL
open PySem PySem.Spec PyProof.Rows L2
section
variable {X : Cx} {B0 F : Hp} {M : Cs} {ρ κ : List Sl} {a b c : Expr} {pos : Pos}
/-- the chain a < b < c, as a test -/
theorem dt_chain {op op' : CmpOp} {r r' : R2} {PT : Bool → Cs → Prop} (ho : OpR X (compareOp op) r) (ho' : OpR X (compareOp op') r')
    (h : DE X B0 F M ρ κ a fun r1 M1 => DE X B0 F M1 ρ (r1 :: κ) b fun r2 M2 => R2D X.K B0 F ρ (r2 :: r1 :: κ) r r1 r2 M2 fun z M3 => ∃ k, z = .d (.bool k) ∧
      (k = true → DE X B0 F M3 ρ (r2 :: r1 :: κ) c fun r3 M4 => R2D X.K B0 F ρ κ r' r2 r3 M4 fun z M5 => ∃ k, z = .d (.bool k) ∧ PT k M5) ∧ (k = false → PT false M3))
    (hm : lastMarks [op, op'] [b, c] = false := by with_unfolding_all rfl) : DT X B0 F M ρ κ (.Compare a [op, op'] [b, c] pos) PT := fun σ vs H Q g q => by
  refine tOfT_of (pt_chain ho ho' pe_self pe_self pe_self hm) ?_
  refine h σ vs H _ g fun x H1 r1 M1 g1 h1 => h1 σ (x :: vs) H1 _ g1 fun y H2 r2 M2 g2 h2 => ?_
  have g2' : Good X.K B0 F M2 ρ (r2 :: r1 :: r2 :: r1 :: κ) σ (y :: x :: y :: x :: vs) H2 := by
    obtain ⟨B, g2⟩ := g2
    cases g2.st with
    | cons s1 s2 =>
      cases s2 with
      | cons s2 s3 => exact ⟨B, g2.stk (.cons s1 (.cons s2 (.cons s1 (.cons s2 s3))))⟩
  refine h2 σ (y :: x :: vs) H2 x y _ g2' fun v H' r' M' g' p => ?_
  obtain ⟨k, rfl, p1, p2⟩ := p
  have e := g'.bl
  subst e
  refine ⟨k, rfl, ?_⟩
  cases k with
  | true =>
    refine p1 rfl σ (y :: x :: vs) H' _ g'.pop fun z H4 r3 M4 g4 h4 => ?_
    refine h4 σ vs H4 y z _ ?_ fun v5 H5 r5 M5 g5 p5 => ?_
    · obtain ⟨B, g4⟩ := g4
      cases g4.st with
      | cons s1 s2 =>
        cases s2 with
        | cons s2 s3 =>
          cases s3 with
          | cons s3 s4 => exact ⟨B, g4.stk (.cons s1 (.cons s2 s4))⟩
    · obtain ⟨k, rfl, hp⟩ := p5
      have e := g5.bl
      subst e
      exact ⟨k, rfl, q k H5 M5 g5.pop hp⟩
  | false =>
    exact ⟨false, rfl, q false H' M' g'.pop.pop.pop (p2 rfl)⟩
end
end DL
namespace DL
open PySem PySem.Spec PyProof.Rows L2
section
variable {X : Cx} {B0 F : Hp} {M : Cs} {ρ κ : List Sl} {ss : List Stmt} {k : KK}
/-- cells that nobody asks for any more -/
theorem db_drop (j : Nat) (h : DB X B0 F (M.drop j) ρ κ ss k) : DB X B0 F M ρ κ ss k := fun σ vs H D g c => h σ vs H D (g.dropM j) c
end
end DL
namespace DL
open PySem PySem.Spec PyProof.Rows L2
abbrev iL (ns : List Int) : List PyData := ns.map PyData.int
def natL (ns : List Nat) : List PyData := ns.map fun i => .int (i : Nat)
theorem rngD_mem {lo : Int} {n : Nat} {d : PyData} (h : d ∈ rngD lo n) : ∃ i : Nat, i < n ∧ d = .int (lo + (i : Nat)) := by
  obtain ⟨i, hi, rfl⟩ := List.mem_map.mp h
  exact ⟨i, List.mem_range.mp hi, rfl⟩
theorem rng0 (n : Nat) : rngD 0 n = natL (List.range n) := by
  unfold rngD natL
  exact List.map_congr_left fun i _ => by rw [Int.zero_add]
theorem natL_iL (ns : List Nat) : natL ns = iL (ns.map fun i : Nat => (i : Int)) := by
  unfold natL
  rw [show iL (ns.map fun i : Nat => (i : Int)) = (ns.map fun i : Nat => (i : Int)).map PyData.int from rfl, List.map_map]
  rfl
theorem natL_len (ns : List Nat) : (natL ns).length = ns.length := by unfold natL; rw [List.length_map]
theorem natL_app (a b : List Nat) : natL (a ++ b) = natL a ++ natL b := List.map_append
theorem nat_at {ls : List Nat} {i l : Nat} (h : ls[i]? = some l) : atI (natL ls) (i : Int) = some (.int (l : Nat)) := atI_at (by omega) (by
  unfold natL
  rw [Int.toNat_natCast, List.getElem?_map, h]
  rfl)
theorem getD_lt {α : Type} {l : List α} {i : Nat} {d : α} (h : i < l.length) : l.getD i d = l[i] := by
  rw [List.getD_eq_getElem?_getD, List.getElem?_eq_getElem h]
  rfl
end DL
set_option maxHeartbeats 4000000
/-! comprehensions whose items are values (new cells), lists of lists frozen -/
namespace DL
open PySem PySem.Spec PyProof.Rows L2
section
variable {X : Cx} {B0 F : Hp} {M : Cs} {ρ κ : List Sl} {K : Fg}
theorem lc_rawU {u : Use} {elt tg iter : Expr} {ifs : List Expr} {scope : Scope} {own : List (Str × Nat)} {pos : Pos} {g : TG} {tt : TT} {P : Sl → Cs → Prop} (hc : X.calm = true) (hN : X.N.Nodup) (ok : BlkOk X.N X.env.scope scope own)
    (hg : ∀ b : BA, PG (bk X scope b) tg g) (ht : ∀ b : BA, PTs (bk X scope b) ifs tt) (hs : ∀ x, foldedSetIterable iter X.env x = pure x)
    (h : DI X B0 F M ρ κ tg iter fun ds s Src M1 => ∀ D, ∃ Iv : Nat → Cs → Prop, Iv 0 ((D, .raw (.lst [])) :: M1) ∧ (∀ i M, Iv i M → Src M) ∧
      (∀ i d M σ vs H x (Q : Hp → Prop), ds[i]? = some d → Iv i M → Good X.K B0 F M (wipeS ρ (own.map (·.2))) (.d d :: s :: (ρ ++ κ)) σ (x :: vs) H →
        (∀ M' ρ' σ' H', Good X.K B0 F M' ρ' (s :: (ρ ++ κ)) σ' vs H' → Iv (i + 1) M' → Q H') →
        g x σ H fun σ2 H2 => wipe σ2 (own.map (·.2)) = wipe σ (own.map (·.2)) ∧ tt σ2 H2 fun b H3 =>
          if b = true then (∀ b : BA, tOf (bk X scope b) elt σ2 H3 fun y H4 => ∃ ac, H4 D = some (.lst ac) ∧ ac.length < sizeLine ∧ Q (upd H4 D (.lst (ac ++ [y])))) else Q H3) ∧
      ∀ M, Iv ds.length M → P (.v (.ref D)) M)  (hu : UseOk X u (.ListComp elt [⟨tg, iter, ifs, 0⟩] scope pos)) : DEu X B0 F M ρ κ u (.ListComp elt [⟨tg, iter, ifs, 0⟩] scope pos) P := fun σ vs H Q g0 q => by
  refine use_lc (te := fun σ H Q => ∀ b : BA, tOf (bk X scope b) elt σ H Q) hc hN pi_self ok (fun s H C cl fp => hg ⟨s, H, C, cl, fp⟩) (fun s H C cl fp => ht ⟨s, H, C, cl, fp⟩)
    (fun s H C cl fp => ⟨fun pins s' σ' H' Q' I z => z ⟨s, H, C, cl, fp⟩ pins s' I⟩) hs hu ?_
  have hsh : Shape σ ρ := by obtain ⟨B, g0⟩ := g0; exact shape_of g0.sl
  refine h σ vs H _ g0 fun J H1 M1 ds s v Src g1 dw hsrc hr D hD => ?_
  obtain ⟨Iv, h0, hsr, hst, hd⟩ := hr D
  -- all outer slots on the stack as well
  have up : ∀ {M' H'}, Good X.K B0 F M' ρ (s :: κ) σ (v :: vs) H' → Good X.K B0 F M' ρ (s :: (ρ ++ κ)) σ (v :: (valsOf σ ++ vs)) H' := fun {M' H'} ⟨B, g⟩ => by
    refine ⟨B, g.stk ?_⟩
    cases g.st with
    | cons k1 k2 => exact .cons k1 (Paired.app (kok_slots g.sl) k2)
  have hlen : (valsOf σ).length = ρ.length := by
    have := Paired.length hsh
    simp [valsOf, this]
  have down : ∀ {M' H' ρ' σ'}, Good X.K B0 F M' ρ' (s :: (ρ ++ κ)) σ' (v :: (valsOf σ ++ vs)) H' → Good X.K B0 F M' ρ (s :: κ) σ (v :: vs) H' := fun {M' H' ρ' σ'} ⟨B, g⟩ => by
    cases g.st with
    | cons k1 k2 =>
      obtain ⟨k3, k4⟩ := kok_split hlen k2
      exact ⟨B, (g.slt (sok_back hsh k3)).stk (.cons k1 k4)⟩
  refine ⟨fun i m H' => m = ds.length - i ∧ i ≤ ds.length ∧ ∃ M', Good X.K B0 F M' ρ (s :: κ) σ (v :: vs) H' ∧ Iv i M', ⟨ds.length, by simp, Nat.zero_le _, _, ?_, h0⟩, ?_⟩
  · obtain ⟨B, g1⟩ := g1
    exact ⟨B, g1.cell (c := .raw (.lst [])) hD rfl⟩
  rintro i m H' ⟨rfl, hi, M', g', hI⟩
  by_cases hlt : i < ds.length
  · obtain ⟨d, hdd⟩ : ∃ d, ds[i]? = some d := ⟨ds[i], by simp [hlt]⟩
    refine .inr ⟨dw.go i _ ρ κ σ vs H' (hsr i M' hI) g' hlt, fun H2 => ∃ M2, Good X.K B0 F M2 ρ (s :: κ) σ (v :: vs) H2 ∧ Iv (i + 1) M2, fun H2 ⟨M2, g2, h2⟩ => ⟨ds.length - (i + 1), by omega, rfl, hlt, M2, g2, h2⟩, fun x H2 y => ?_⟩
    have g2 := dw.yld i _ ρ (ρ ++ κ) σ (valsOf σ ++ vs) H' x H2 d (hsr i M' hI) (up g') hdd y
    have g3 : Good X.K B0 F M' (wipeS ρ (own.map (·.2))) (.d d :: s :: (ρ ++ κ)) (wipe σ (own.map (·.2))) (x :: v :: (valsOf σ ++ vs)) H2 := by
      obtain ⟨B, g2⟩ := g2
      exact ⟨B, g2.slt (sok_wipe g2.sl _)⟩
    have z := hst i d M' _ _ H2 x (fun H2 => ∃ M2, Good X.K B0 F M2 ρ (s :: κ) σ (v :: vs) H2 ∧ Iv (i + 1) M2) hdd hI g3 fun M'' ρ' σ' H'' gg hh => ⟨M'', down gg, hh⟩
    have eqw : wipe (wipe σ (own.map (·.2))) (own.map (·.2)) = wipe σ (own.map (·.2)) := by
      have : ∀ (ws us : List Nat), (∀ w ∈ us, w ∈ ws) → wipe (wipe σ us) ws = wipe σ ws := by
        intro ws us
        induction us with
        | nil => intro _; rfl
        | cons u us ih =>
          intro hu
          show wipe ((wipe σ us).set u none) ws = _
          rw [wipe_set (hu u List.mem_cons_self)]
          exact ih fun w hw => hu w (List.mem_cons_of_mem _ hw)
      exact this _ _ fun w hw => hw
    rw [eqw] at z
    exact z
  · have e : i = ds.length := by omega
    subst e
    exact .inl ⟨dw.stop _ ρ κ σ vs H' (hsr _ M' hI) g', q _ H' _ _ (by
      obtain ⟨B, g'⟩ := g'
      exact ⟨B, g'.pop.pushV⟩) (hd M' hI)⟩


variable {elt tg iter c e : Expr} {scope : Scope} {pos : Pos} {P : Sl → Cs → Prop}
/-- [elt for x in iter], elt a value: x in slot i; the new list stands among the cells as a raw one -/
theorem gu_lcRaw {u : Use} (i : Nat) {x : Str} {px : Pos} (h : DI X B0 F M ρ κ (.Name x px) iter fun ds s Src M1 => ∀ D, ∃ Iv : Nat → Cs → Prop, Iv 0 ((D, .raw (.lst [])) :: M1) ∧ (∀ i M, Iv i M → Src M) ∧
      (∀ j d M, ds[j]? = some d → Iv j M → ∀ b : BA, DE (bk X scope b) B0 F M ((ρ.set i .un).set i (.d d)) (s :: (ρ ++ κ)) elt fun r M2 => ∃ m acc y, r = .v y ∧ M2[m]? = some (D, .raw (.lst acc)) ∧ acc.length < 100000 ∧ Iv (j + 1) (M2.set m (D, .raw (.lst (acc ++ [y]))))) ∧
      ∀ M, Iv ds.length M → P (.v (.ref D)) M) (hN : X.N.Nodup := by exact (by assumption)) (ok : BlkOk X.N X.env.scope scope [(x, i)] := by exact blkOk_by (by kernel_rfl)) (hg : ∀ b : BA, PG (bk X scope b) (.Name x px) (gName i) := by exact fun b => pg_name (by assumption) rfl (by first | exact Or.inl rfl | exact Or.inr rfl))
      (hc : X.calm = true := by rfl) (hs : ∀ x, foldedSetIterable iter X.env x = pure x := by intro _; rfl) (hu : UseOk X u (.ListComp elt [⟨.Name x px, iter, [], 0⟩] scope pos) := by first | exact trivial | exact ⟨rfl, rfl, (by first | rfl | kernel_rfl)⟩) : DEu X B0 F M ρ κ u (.ListComp elt [⟨.Name x px, iter, [], 0⟩] scope pos) P :=
  lc_rawU (hu := hu) (own := [(x, i)]) (g := gName i) (tt := tYes) hc hN ok hg (fun _ => pts_nil) hs fun σ vs H Q g0 q => h σ vs H Q g0 fun J H1 M1 ds s v Src g1 dw hsrc hr => q J H1 M1 ds s v Src g1 dw hsrc fun D => by
    obtain ⟨Iv, h0, hsr, hst, hd⟩ := hr D
    refine ⟨Iv, h0, hsr, fun j d M σ vs H x Q hdd hI g hq => ⟨wipe_set (by simp), ?_⟩, hd⟩
    have fin : ∀ b : BA, tOf (bk X scope b) elt (σ.set i (some x)) H fun y H4 => ∃ ac, H4 D = some (.lst ac) ∧ ac.length < sizeLine ∧ Q (upd H4 D (.lst (ac ++ [y]))) := ?_
    · unfold tYes
      dsimp only
      rw [if_pos rfl]
      exact fin
    intro b
    have g2 : Good X.K B0 F M ((ρ.set i .un).set i (.d d)) (s :: (ρ ++ κ)) (σ.set i (some x)) vs H := by
      obtain ⟨B, g⟩ := g
      exact ⟨B, g.pop.slt (Paired.set (OOk.of g.fst) i g.sl)⟩
    refine hst j d M hdd hI b (σ.set i (some x)) vs H _ g2 fun y H4 r M2 g4 h4 => ?_
    obtain ⟨m, acc, y', rfl, hm, hl, hI'⟩ := h4
    have ey := g4.ref
    subst ey
    obtain ⟨B, g4⟩ := g4
    obtain ⟨_, _, o, ho, ho2⟩ := g4.cells _ (List.mem_of_getElem? hm)
    have ho2 : o = .lst acc := ho2
    subst ho2
    have hz : (100000 : Nat) ≤ sizeLine := by decide
    exact ⟨acc, ho, by omega, hq _ _ _ _ ⟨B, g4.pop.write (c' := .raw (.lst (acc ++ [y]))) hm rfl⟩ hI'⟩
end
end DL
set_option maxHeartbeats 4000000
namespace DL
open PySem PySem.Spec PyProof.Rows L2
section
variable {K : Fg} {B0 F B H : Hp} {M : Cs} {ρ κ : List Sl} {σ : L2.St} {vs : List V}
theorem GoodB.freezeR {p : Addr} {ws : List V} {ds : List PyData} (g : GoodB K B0 F ((p, .raw (.lst ws)) :: M) ρ κ σ vs H B) (hw : RpA K B ws ds) : ∃ B', GoodB K B0 F M ρ (.d (.list ds) :: κ) σ (.ref p :: vs) H B' := by
  obtain ⟨bp, fp, o, ho, ho2⟩ := g.cells _ List.mem_cons_self
  have ho2 : o = .lst ws := ho2
  subst ho2
  have e : Same B (upd B p (.lst ws)) := fun a u z => by rw [upd_ne (ne_of_none z bp)]; exact z
  have nd := g.nd
  rw [List.map_cons, List.nodup_cons] at nd
  refine ⟨upd B p (.lst ws), g.b0.trans e, fun a u z => ?_, g.fh, fun a ha => ?_, fun c hc => ?_, nd.2, Paired.mapP g.sl fun _ _ z => z.ext e, .cons ?_ (Paired.mapP g.st fun _ _ z => z.ext e)⟩
  · by_cases q : a = p
    · subst q; rw [upd_same] at z; rw [← z]; exact ho
    · rw [upd_ne q] at z; exact g.bh a u z
  · by_cases q : a = p
    · subst q; exact .inr fp
    · rw [upd_ne q] at ha; exact g.new a ha
  · obtain ⟨h1, h2, u, h3, h4⟩ := g.cells c (List.mem_cons_of_mem _ hc)
    have q : c.1 ≠ p := fun q => nd.1 (List.mem_map.mpr ⟨c, hc, q⟩)
    exact ⟨by rw [upd_ne q]; exact h1, h2, u, h3, h4.ext e⟩
  · exact .lst upd_same (hw.ext e)
theorem GoodB.freezeL : ∀ (L : List (Addr × List PyData)) {κ : List Sl} {vs : List V} {B : Hp}, GoodB K B0 F ((L.map fun c => (c.1, MC.lst c.2)) ++ M) ρ κ σ vs H B →
    ∃ B', GoodB K B0 F M ρ ((L.map fun c => Sl.d (.list c.2)).reverse ++ κ) σ ((L.map fun c => V.ref c.1).reverse ++ vs) H B'
  | [], _, _, B, g => ⟨B, g⟩
  | c :: L, κ, vs, B, g => by
    obtain ⟨B1, g1⟩ := GoodB.freeze g
    obtain ⟨B2, g2⟩ := GoodB.freezeL L g1
    refine ⟨B2, ?_⟩
    rw [List.map_cons, List.map_cons, List.reverse_cons, List.reverse_cons, List.append_assoc, List.append_assoc]
    exact g2
theorem rpa_kok {F : Hp} : ∀ {cs : List (Addr × List PyData)}, KOk K F B (cs.map fun c => V.ref c.1) (cs.map fun c => Sl.d (.list c.2)) → RpA K B (cs.map fun c => V.ref c.1) (cs.map fun c => .list c.2)
  | [], _ => .nil
  | c :: cs, h => by
    cases h with
    | cons h1 h2 => exact .cons h1 (rpa_kok h2)
end
/-- a list of new lists that nobody changes any more: data -/
theorem de_freezeLL {X : Cx} {B0 F : Hp} {M : Cs} {ρ κ : List Sl} {e : Expr} {P : Sl → Cs → Prop} (h : DE X B0 F M ρ κ e fun r M1 => ∃ (D : Addr) (cs : List (Addr × List PyData)) (M2 : Cs), r = .v (.ref D) ∧ M1 = (cs.reverse.map fun c => (c.1, MC.lst c.2)) ++ (D, .raw (.lst (cs.map fun c => V.ref c.1))) :: M2 ∧ P (.d (.list (cs.map fun c => .list c.2))) M2) : DE X B0 F M ρ κ e P := fun σ vs H Q g q => h σ vs H Q g fun v H' r M' g' p => by
  obtain ⟨D, cs, M2, rfl, rfl, hp⟩ := p
  have e := g'.ref
  subst e
  obtain ⟨B, g'⟩ := g'
  obtain ⟨B1, g1⟩ := GoodB.freezeL cs.reverse g'.pop
  rw [← List.map_reverse, ← List.map_reverse, List.reverse_reverse] at g1
  obtain ⟨k1, k2⟩ := kok_split (by rw [List.length_map, List.length_map]) g1.st
  obtain ⟨B2, g2⟩ := GoodB.freezeR (g1.stk k2) (rpa_kok k1)
  exact q _ H' _ M2 ⟨B2, g2⟩ hp
end DL
set_option maxHeartbeats 2000000
/-! rows of whole numbers from 0 on: told as natL -/
namespace DL
open PySem PySem.Spec PyProof.Rows L2
theorem mem_natI {ns : List Nat} {k : Nat} : decide ((k : Int) ∈ ns.map fun i : Nat => (i : Int)) = decide (k ∈ ns) := decide_eq_decide.mpr ⟨fun h => by
  obtain ⟨x, hx, e⟩ := List.mem_map.mp h
  have : x = k := by omega
  exact this ▸ hx, fun h => List.mem_map.mpr ⟨k, h, rfl⟩⟩
section
variable {X : Cx} {K : Fg} {B0 F : Hp} {M : Cs} {ρ κ : List Sl} {P : Sl → Cs → Prop} {a b c e o elt tg iter : Expr} {pos p : Pos} {k : KK} {R : List PyData → Sl → (Cs → Prop) → Cs → Prop}
theorem seq_nat {s : Sl} {S : List Nat} (h : Seq M s (natL S)) : Seq M s ((S.map fun i : Nat => (i : Int)).map PyData.int) := by
  have e : natL S = (S.map fun i : Nat => (i : Int)).map PyData.int := natL_iL S
  rw [← e]
  exact h
theorem seqls_nat {s : Sl} {S : List Nat} (h : SeqLs M s (natL S)) : SeqLs M s ((S.map fun i : Nat => (i : Int)).map PyData.int) := by
  have e : natL S = (S.map fun i : Nat => (i : Int)).map PyData.int := natL_iL S
  rw [← e]
  exact h
theorem r2_inN {s : Sl} {S : List Nat} {q : Nat} (h1 : Seq M s (natL S)) (h : P (.d (.bool (decide (q ∈ S)))) M) : R2D K B0 F ρ κ (rIn K false) (.d (.int (q : Nat))) s M P := r2_inI (seq_nat h1) (by rw [mem_natI]; exact h)
theorem r2_niN {s : Sl} {S : List Nat} {q : Nat} (h1 : Seq M s (natL S)) (h : P (.d (.bool (!decide (q ∈ S)))) M) : R2D K B0 F ρ κ (rIn K true) (.d (.int (q : Nat))) s M P := r2_niI (seq_nat h1) (by rw [mem_natI]; exact h)
theorem r2_tin {s : Sl} {S : List Nat} {q : Nat} {PT : Bool → Cs → Prop} (h1 : Seq M s (natL S)) (h : PT (decide (q ∈ S)) M) : R2D K B0 F ρ κ (rIn K false) (.d (.int (q : Nat))) s M fun r' M' => ∃ k, r' = .d (.bool k) ∧ PT k M' := r2_inN h1 ⟨_, rfl, h⟩
theorem r2_tni {s : Sl} {S : List Nat} {q : Nat} {PT : Bool → Cs → Prop} (h1 : Seq M s (natL S)) (h : PT (!decide (q ∈ S)) M) : R2D K B0 F ρ κ (rIn K true) (.d (.int (q : Nat))) s M fun r' M' => ∃ k, r' = .d (.bool k) ∧ PT k M' := r2_niN h1 ⟨_, rfl, h⟩
theorem dec_nat {i j : Nat} : decide ((i : Int) = (j : Int)) = decide (i = j) := decide_eq_decide.mpr (by omega)
theorem r2_teqN {PT : Bool → Cs → Prop} {i j : Nat} (h : PT (decide (i = j)) M) : R2D K B0 F ρ κ rEq (.d (.int (i : Nat))) (.d (.int (j : Nat))) M fun r' M' => ∃ k, r' = .d (.bool k) ∧ PT k M' := r2_teq (by rw [dec_nat]; exact h)
theorem r2_tneN {PT : Bool → Cs → Prop} {i j : Nat} (h : PT (!decide (i = j)) M) : R2D K B0 F ρ κ rNe (.d (.int (i : Nat))) (.d (.int (j : Nat))) M fun r' M' => ∃ k, r' = .d (.bool k) ∧ PT k M' := r2_tne (by rw [dec_nat]; exact h)
theorem nat_get {S : List Nat} {i : Nat} {d : PyData} (h : (natL S)[i]? = some d) : ∃ q, S[i]? = some q ∧ d = .int (q : Nat) := map_get h
theorem nat_mem {S : List Nat} {d : PyData} (h : d ∈ natL S) : ∃ q, q ∈ S ∧ d = .int (q : Nat) := by
  obtain ⟨q, h1, h2⟩ := List.mem_map.mp h
  exact ⟨q, h1, h2.symm⟩
theorem natL_filter {S : List Nat} {f : PyData → Bool} {t : Nat → Bool} (h : ∀ q ∈ S, f (.int (q : Nat)) = t q) : (natL S).filter f = natL (S.filter t) := by
  unfold natL
  rw [List.filter_map]
  exact congrArg _ (List.filter_congr h)
def natOf : PyData → Nat
  | .int i => i.toNat
  | _ => 0
/-- [x for x in natL S if c] -/
theorem gu_filN {u : Use} (i : Nat) (t : Nat → Bool) {x : Str} {px p2 : Pos} {scope : Scope} (h : DI X B0 F M ρ κ (.Name x px) iter fun ds s Src M1 => ∃ S : List Nat, ds = natL S ∧ S.length ≤ 100000 ∧ (∀ D acc, Src M1 → Src ((D, .lst acc) :: M1)) ∧
      (∀ q D acc, q ∈ S → ∀ b : BA, DT (bk X scope b) B0 F ((D, .lst acc) :: M1) ((ρ.set i .un).set i (.d (.int (q : Nat)))) (s :: (ρ ++ κ)) c fun k M2 => k = t q ∧ M2 = (D, .lst acc) :: M1) ∧ ∀ D, P (.v (.ref D)) ((D, .lst (natL (S.filter t))) :: M1))
      (hN : X.N.Nodup := by exact (by assumption)) (ok : BlkOk X.N X.env.scope scope [(x, i)] := by exact blkOk_by (by kernel_rfl)) (hg : ∀ b : BA, PG (bk X scope b) (.Name x px) (gName i) := by exact fun b => pg_name (by assumption) rfl (by first | exact Or.inl rfl | exact Or.inr rfl))
      (hel : ∀ (b : BA) (M2 : Cs) (ρ2 κ2 : List Sl) (d : PyData) (P2 : Sl → Cs → Prop), ρ2[i]? = some (.d d) → P2 (.d d) M2 → DE (bk X scope b) B0 F M2 ρ2 κ2 (.Name x p2) P2 := by exact fun b M2 ρ2 κ2 d P2 hr hp => nm _ hr hp) (hi : i < ρ.length := by first | decide | simp)
      (hc : X.calm = true := by rfl) (hs : ∀ x, foldedSetIterable iter X.env x = pure x := by intro _; rfl) (hu : UseOk X u (.ListComp (.Name x p2) [⟨.Name x px, iter, [c], 0⟩] scope pos) := by first | exact trivial | exact ⟨rfl, rfl, (by first | rfl | kernel_rfl)⟩) : DEu X B0 F M ρ κ u (.ListComp (.Name x p2) [⟨.Name x px, iter, [c], 0⟩] scope pos) P := by
  refine gu_lcIfF (u := u) i (fun d => t (natOf d)) id (fun σ vs H Q g q => h σ vs H Q g fun J H1 M1 ds s v Src g1 dw hsrc hr => q J H1 M1 ds s v Src g1 dw hsrc ?_) hN ok hg hc hs hu
  obtain ⟨S, rfl, hl, h1, h2, h3⟩ := hr
  refine ⟨by rw [natL_len]; exact hl, h1, ?_, ?_, fun D => ?_⟩
  · intro d D acc hd b
    obtain ⟨q, hq, rfl⟩ := nat_mem hd
    exact h2 q D acc hq b
  · intro d D acc hd _ b
    exact hel b _ _ _ d _ (by rw [List.set_set, List.getElem?_set_self hi]) ⟨rfl, rfl⟩
  · rw [List.map_id, natL_filter (t := t) fun q _ => rfl]
    exact h3 D
theorem de_filN (i : Nat) (t : Nat → Bool) {x : Str} {px p2 : Pos} {scope : Scope} (h : DI X B0 F M ρ κ (.Name x px) iter fun ds s Src M1 => ∃ S : List Nat, ds = natL S ∧ S.length ≤ 100000 ∧ (∀ D acc, Src M1 → Src ((D, .lst acc) :: M1)) ∧
      (∀ q D acc, q ∈ S → ∀ b : BA, DT (bk X scope b) B0 F ((D, .lst acc) :: M1) ((ρ.set i .un).set i (.d (.int (q : Nat)))) (s :: (ρ ++ κ)) c fun k M2 => k = t q ∧ M2 = (D, .lst acc) :: M1) ∧ ∀ D, P (.v (.ref D)) ((D, .lst (natL (S.filter t))) :: M1))
      (hN : X.N.Nodup := by exact (by assumption)) (ok : BlkOk X.N X.env.scope scope [(x, i)] := by exact blkOk_by (by kernel_rfl)) (hg : ∀ b : BA, PG (bk X scope b) (.Name x px) (gName i) := by exact fun b => pg_name (by assumption) rfl (by first | exact Or.inl rfl | exact Or.inr rfl))
      (hel : ∀ (b : BA) (M2 : Cs) (ρ2 κ2 : List Sl) (d : PyData) (P2 : Sl → Cs → Prop), ρ2[i]? = some (.d d) → P2 (.d d) M2 → DE (bk X scope b) B0 F M2 ρ2 κ2 (.Name x p2) P2 := by exact fun b M2 ρ2 κ2 d P2 hr hp => nm _ hr hp) (hi : i < ρ.length := by first | decide | simp)
      (hc : X.calm = true := by rfl) (hs : ∀ x, foldedSetIterable iter X.env x = pure x := by intro _; rfl) : DE X B0 F M ρ κ (.ListComp (.Name x p2) [⟨.Name x px, iter, [c], 0⟩] scope pos) P :=
  gu_filN (u := none) i t h hN ok hg hel hi hc hs trivial
theorem alike_nat {S : List Nat} : PySem.W.AllAlike (natL S) := fun d hd d' hd' => by
  obtain ⟨x, _, rfl⟩ := nat_mem hd
  obtain ⟨y, _, rfl⟩ := nat_mem hd'
  rw [PySem.W.alike]
theorem sortable_nat {S : List Nat} : PySem.W.Sortable (natL S) := .inr fun d hd => by
  obtain ⟨x, _, rfl⟩ := nat_mem hd
  exact ⟨(fun h => nomatch h), (fun xs h => nomatch h)⟩
theorem depth_nat {S : List Nat} : ∀ d ∈ natL S, d.depth ≤ 50 := fun d hd => by
  obtain ⟨x, _, rfl⟩ := nat_mem hd
  rw [PyData.depth]
  decide
theorem leN_data (a b : Nat) : PySem.W.dataLe false id (.int (a : Nat)) (.int (b : Nat)) = decide (a ≤ b) := by
  show (!PySem.W.dataLt (.int (b : Nat)) (.int (a : Nat))) = _
  rw [PySem.W.dataLt_int, Bool.eq_iff_iff]
  simp
theorem sort_nat (S : List Nat) : ∃ T : List Nat, sortD (natL S) = natL T ∧ T.Perm S ∧ T.Pairwise (· ≤ ·) := by
  refine ⟨S.mergeSort fun a b => decide (a ≤ b), ?_, List.mergeSort_perm _ _, ?_⟩
  · unfold sortD natL
    rw [List.map_mergeSort]
    intro a _ b _
    exact (leN_data a b).symm
  · exact (List.pairwise_mergeSort (fun a b c => by simpa using Nat.le_trans) (fun a b => by simpa using Nat.le_total a b) S).imp fun h => by simpa using h
theorem sort_up {T S : List Nat} (p : T.Perm S) (h1 : T.Pairwise (· ≤ ·)) (h2 : S.Pairwise (· ≤ ·)) : T = S := List.Perm.eq_of_pairwise (fun a b _ _ h h' => Nat.le_antisymm h h') h1 h2 p
/-- sorted(natL S) -/
theorem de_sortedN (hu : X.A.units + 64 < cLine) (gm : X.mg "sorted" = none) (h : DE X B0 F M ρ κ e fun r M1 => ∃ S : List Nat, SeqLs M1 r (natL S) ∧ S.length ≤ 100000 ∧ ∀ T, T.Perm S → T.Pairwise (· ≤ ·) → ∀ l, P (.v (.ref l)) ((l, .lst (natL T)) :: M1)) (hg : Gl X "sorted" := by rfl) (hst : starEach [e] X.env = (false, eval e X.env) :: starEach [] X.env := by rfl) : DE X B0 F M ρ κ (.Call (.Name "sorted" p) [e] [] pos) P := by
  refine de_sorted hu gm (hg := hg) (hs := hst) (h.mono fun r M1 ⟨S, hq, hl, hT⟩ => ⟨natL S, hq, alike_nat, sortable_nat, by rw [natL_len]; exact hl, depth_nat, fun l => ?_⟩)
  obtain ⟨T, e1, e2, e3⟩ := sort_nat S
  rw [e1]
  exact hT T e2 e3 l
end
end DL
namespace DL
open PySem PySem.Spec PyProof.Rows L2
section
variable {X : Cx} {B0 F : Hp} {M : Cs} {ρ κ : List Sl} {P : Sl → Cs → Prop} {e : Expr} {es : List Expr} {p pos : Pos} {x : Str} {lv : Nat} {ps : List Str}
/-- a pure promise that leaves open which datum comes back -/
def PuR {α : Type} (A : α → List Sl) (C : α → Prop) (Rl : α → PyData → Prop) : List Sl → Cs → (Sl → Cs → Prop) → Prop := fun κ _ W => ∃ a, κ = A a ∧ C a ∧ ∀ y M', Rl a y → W (.d y) M'
theorem de_pur {α : Type} {A : α → List Sl} {C : α → Prop} {Rl : α → PyData → Prop} (G : Go X.prog X.w X.K X.mg X.base x lv ps (PuR A C Rl)) (hr : Room lv X.A)
    (h : DA X B0 F M ρ κ (e :: es) fun rs M1 => ∃ a, rs = A a ∧ C a ∧ ∀ y, Rl a y → P (.d y) M1) (hg : Gl X x := by rfl) (hdb : (x == ("__debug__" : Str)) = false := by decide)
    (he : starEach (e :: es) X.env = (false, eval e X.env) :: starEach es X.env := by rfl) (hpl : (backTo pos (starEach es X.env)).any (·.1) = false := by rfl) : DE X B0 F M ρ κ (.Call (.Name x p) (e :: es) [] pos) P := by
  refine de_go G hr (fun σ vs H Q g q => h σ vs H Q g fun ws H' rs M' hl g' hp => q ws H' rs M' hl g' ?_) hg hdb he hpl
  obtain ⟨a, rfl, hc, hp⟩ := hp
  exact ⟨_, Views.refl _, a, rfl, hc, fun y _ hy => ⟨_, rfl, hp y hy⟩⟩
end
end DL
set_option maxHeartbeats 2000000
/-! methods known by what they promise -/
namespace DL
open PySem PySem.Spec PyProof.Rows L2
abbrev GoM (P : Program) (w : World) (K : Fg) (mg : Str → Option Value) (base : Heap) (C : Addr) (m : Str) (lv : Nat) (ps : List Str) (R : List Sl → Cs → (Sl → Cs → Prop) → Prop) : Prop :=
  ∃ f fd, Meth K C m f ∧ Binds K fd ps [] ∧ FnOk P w K mg base CX0 lv f fd ps (SpG K R)
abbrev GoN (P : Program) (w : World) (K : Fg) (mg : Str → Option Value) (base : Heap) (C : Addr) (lv : Nat) (ps : List Str) (R : List Sl → Cs → (Sl → Cs → Prop) → Prop) : Prop :=
  ∃ f fd, Mk K C f ∧ Binds K fd ps [] ∧ FnOk P w K mg base CX0 lv f fd ps (SpG K R)
abbrev FnM (K : PySem.W.Frag) (m : Str) (q : Str) (st : Stmt) (f : Addr) (fd : FuncData) : Prop := FunD K m q (defArgs st) (defBody st) (defScope st) [] [] f fd
section
variable {X : Cx} {K : Fg} {B0 F : Hp} {M : Cs} {ρ κ : List Sl} {P : Sl → Cs → Prop} {e o : Expr} {es : List Expr} {p pos apos : Pos} {x m q : Str} {lv : Nat} {ps : List Str}
theorem de_goM (j : Nat) {C : Addr} {Rf : List Sl → Cs → (Sl → Cs → Prop) → Prop} {pl : Sem Bool} (c : Cls X.K C) (G : GoM X.prog X.w X.K X.mg X.base C m lv ps Rf) (hr : Room lv X.A)
    (h : DE X B0 F M ρ κ o fun r1 M1 => ∃ a fs, r1 = .v (.ref a) ∧ (a, .ins C fs) ∈ M1 ∧ fs.lookup m = none ∧ DA X B0 F M1 ρ (r1 :: κ) (e :: es) fun rs M2 => Rf (r1 :: rs) (M2.drop j) fun r M3 => NoRd r ∧ P r (M2.take j ++ M3))
    (hst : starEach (e :: es) X.env = (false, eval e X.env) :: starEach es X.env := by rfl) (hpl : (backTo pos (starEach es X.env)).any (·.1) = false := by rfl)
    (ht : eval (.Call (.Attribute o m apos) (e :: es) [] pos) X.env = (do
      let ov ← eval o X.env
      standAt apos.atName
      let (f, first) ← holding [ov] (getMethod ov m pl)
      callWith pos f first (backTo pos (starEach (e :: es) X.env)) (backToKw pos (keywordEach [] X.env))) := by rfl) : DE X B0 F M ρ κ (.Call (.Attribute o m apos) (e :: es) [] pos) P := by
  obtain ⟨f, fd, hm, hb, Fo⟩ := G
  exact de_methJ j c hm Fo hr hb h hst hpl ht
theorem de_goN (n : Nat) {C : Addr} {Rf : List Sl → Cs → (Sl → Cs → Prop) → Prop} (G : GoN X.prog X.w X.K X.mg X.base C lv ps Rf) (hr : Room (lv + 1) X.A) (hm : X.mg x = some (.ref C))
    (h : DA X B0 F M ρ κ (e :: es) fun rs M1 => ∀ a, Rf (.v (.ref a) :: rs) ((a, .ins C []) :: M1.take n) fun r M2 => r = .d .none ∧ P (.v (.ref a)) (M2 ++ M1.drop n)) (hg : Gl X x := by rfl)
    (hdb : (x == ("__debug__" : Str)) = false := by decide) (he : starEach (e :: es) X.env = (false, eval e X.env) :: starEach es X.env := by rfl) (hpl : (backTo pos (starEach es X.env)).any (·.1) = false := by rfl) : DE X B0 F M ρ κ (.Call (.Name x p) (e :: es) [] pos) P := by
  obtain ⟨f, fd, hk, hb, Fo⟩ := G
  exact de_makeM n hk Fo hr hm hb h hg hdb he hpl
theorem gom_of {P : Program} {w : World} {mg : Str → Option Value} {base : Heap} {st : Stmt} {f C : Addr} {fd : FuncData} {R : List Sl → Cs → (Sl → Cs → Prop) → Prop} (Fn : FnM K m q st f fd) (Hm : Meth K C m f)
    (hb : ∀ (kV doc pm : Value) (an : Option Addr) (cdv ct : Value) (us : List Value), us.length = ps.length → bindArgs (PySem.W.fnOf m q (defArgs st) (defBody st) (defScope st) .none kV doc pm an cdv ct) ⟨us, []⟩ = pure (ps.zip us)) (ok : FnOk P w K mg base CX0 lv f fd ps (SpG K R)) : GoM P w K mg base C m lv ps R :=
  ⟨f, fd, Hm, Fn.bindsN hb, ok⟩
theorem gon_of {P : Program} {w : World} {mg : Str → Option Value} {base : Heap} {st : Stmt} {f C : Addr} {fd : FuncData} {R : List Sl → Cs → (Sl → Cs → Prop) → Prop} (Fn : FnM K "__init__" q st f fd) (Hm : Mk K C f)
    (hb : ∀ (kV doc pm : Value) (an : Option Addr) (cdv ct : Value) (us : List Value), us.length = ps.length → bindArgs (PySem.W.fnOf "__init__" q (defArgs st) (defBody st) (defScope st) .none kV doc pm an cdv ct) ⟨us, []⟩ = pure (ps.zip us)) (ok : FnOk P w K mg base CX0 lv f fd ps (SpG K R)) : GoN P w K mg base C lv ps R :=
  ⟨f, fd, Hm, Fn.bindsN hb, ok⟩
end
end DL
set_option maxHeartbeats 2000000
/-! calls that may change the n cells behind the first j -/
namespace DL
open PySem PySem.Spec PyProof.Rows L2
section
variable {X : Cx} {B0 F B H1 : Hp} {M M1 : Cs} {ρ κ rs : List Sl} {σ : L2.St} {vs ws : List V} {P : Sl → Cs → Prop} {Q : VK} {E : XK} {Rf : List Sl → Cs → (Sl → Cs → Prop) → Prop}
theorem sp_X (g2 : GoodB X.K B0 F M1 ρ κ σ vs H1 B) (k1 : KOk X.K F B ws rs) (j n : Nat) (hR : Rf rs ((M1.drop j).take n) fun r M2 => NoRd r ∧ P r (M1.take j ++ (M2 ++ (M1.drop j).drop n)))
    (q : ∀ v H' r M', Good X.K B0 F M' ρ (r :: κ) σ (v :: vs) H' → P r M' → Q v H') : SpG X.K Rf ws H1 Q E := by
  have e0 : M1.take j ++ ((M1.drop j).take n ++ (M1.drop j).drop n) = M1 := by rw [List.take_append_drop, List.take_append_drop]
  generalize ht : M1.take j = T at *
  generalize hm : (M1.drop j).take n = N at *
  generalize hd : (M1.drop j).drop n = D at *
  have pm : M1.Perm (N ++ (T ++ D)) := by
    rw [← e0, ← List.append_assoc, ← List.append_assoc]
    exact List.Perm.append_right _ List.perm_append_comm
  have g3 : GoodB X.K B0 F (N ++ (T ++ D)) ρ κ σ vs H1 B := ⟨g2.b0, g2.bh, g2.fh, g2.new, fun c hc => g2.cells c (pm.mem_iff.mpr hc), (pm.map _).nodup_iff.mp g2.nd, g2.sl, g2.st⟩
  have e1 : (N ++ (T ++ D)).take N.length = N := List.take_left' rfl
  have e2 : (N ++ (T ++ D)).drop N.length = T ++ D := List.drop_left' rfl
  refine sp_M (P := fun r M' => ∃ M2, M' = M2 ++ (T ++ D) ∧ P r (T ++ (M2 ++ D))) g3 k1 N.length ?_ ?_
  · rw [e1, e2]
    have mono : ∀ r M2, (NoRd r ∧ P r (T ++ (M2 ++ D))) = (NoRd r ∧ ∃ M3, M2 ++ (T ++ D) = M3 ++ (T ++ D) ∧ P r (T ++ (M3 ++ D))) := fun r M2 => propext ⟨fun ⟨h1, h2⟩ => ⟨h1, M2, rfl, h2⟩, fun ⟨h1, M3, h2, h3⟩ => ⟨h1, by rw [List.append_cancel_right h2]; exact h3⟩⟩
    have e3 : (fun r M2 => NoRd r ∧ P r (T ++ (M2 ++ D))) = fun r M2 => NoRd r ∧ ∃ M3, M2 ++ (T ++ D) = M3 ++ (T ++ D) ∧ P r (T ++ (M3 ++ D)) := funext fun r => funext fun M2 => mono r M2
    rw [← e3]
    exact hR
  · rintro v H' r M' g' ⟨M2, rfl, hp⟩
    refine q v H' r _ (g'.perm ?_) hp
    rw [← List.append_assoc, ← List.append_assoc]
    exact List.Perm.append_right _ List.perm_append_comm
end
section
variable {X : Cx} {K : Fg} {B0 F : Hp} {M M' : Cs} {ρ κ : List Sl} {P : Sl → Cs → Prop} {e o : Expr} {es : List Expr} {p pos apos : Pos} {x m q : Str} {lv : Nat} {ps : List Str}
theorem de_perm (pm : M.Perm M') (h : DE X B0 F M' ρ κ e P) : DE X B0 F M ρ κ e P := fun σ vs H Q g q => h σ vs H Q (g.perm pm) q
theorem de_permR (h : DE X B0 F M ρ κ e fun r M1 => ∃ M2, M1.Perm M2 ∧ P r M2) : DE X B0 F M ρ κ e P := fun σ vs H Q g q => h σ vs H Q g fun v H' r M1 g1 ⟨M2, pm, hp⟩ => q v H' r M2 (g1.perm pm) hp
theorem de_goX (j n : Nat) {R : List Sl → Cs → (Sl → Cs → Prop) → Prop} (G : Go X.prog X.w X.K X.mg X.base x lv ps R) (hr : Room lv X.A)
    (h : DA X B0 F M ρ κ (e :: es) fun rs M1 => R rs ((M1.drop j).take n) fun r M2 => NoRd r ∧ P r (M1.take j ++ (M2 ++ (M1.drop j).drop n))) (hg : Gl X x := by rfl) (hdb : (x == ("__debug__" : Str)) = false := by decide)
    (he : starEach (e :: es) X.env = (false, eval e X.env) :: starEach es X.env := by rfl) (hpl : (backTo pos (starEach es X.env)).any (·.1) = false := by rfl) : DE X B0 F M ρ κ (.Call (.Name x p) (e :: es) [] pos) P := fun σ vs H Q g q => by
  obtain ⟨f, fd, hm, hk, hb, Fo⟩ := G
  refine tOf_of (pe_call (E := E0) Fo hr hg hm hk hb .nil pass0 pa_self hdb he hpl) (h σ vs H _ g fun ws H1 rs M1 hl g1 hR => ?_)
  rw [List.append_nil]
  obtain ⟨B, g1⟩ := g1
  obtain ⟨k1, k2⟩ := kok_split hl g1.st
  exact sp_X (g1.stk k2) k1 j n hR q
theorem de_goMX (j n : Nat) {C : Addr} {Rf : List Sl → Cs → (Sl → Cs → Prop) → Prop} {pl : Sem Bool} (c : Cls X.K C) (G : GoM X.prog X.w X.K X.mg X.base C m lv ps Rf) (hr : Room lv X.A)
    (h : DE X B0 F M ρ κ o fun r1 M1 => ∃ a fs, r1 = .v (.ref a) ∧ (a, .ins C fs) ∈ M1 ∧ fs.lookup m = none ∧ DA X B0 F M1 ρ (r1 :: κ) (e :: es) fun rs M2 => Rf (r1 :: rs) ((M2.drop j).take n) fun r M3 => NoRd r ∧ P r (M2.take j ++ (M3 ++ (M2.drop j).drop n)))
    (hst : starEach (e :: es) X.env = (false, eval e X.env) :: starEach es X.env := by rfl) (hpl : (backTo pos (starEach es X.env)).any (·.1) = false := by rfl)
    (ht : eval (.Call (.Attribute o m apos) (e :: es) [] pos) X.env = (do
      let ov ← eval o X.env
      standAt apos.atName
      let (f, first) ← holding [ov] (getMethod ov m pl)
      callWith pos f first (backTo pos (starEach (e :: es) X.env)) (backToKw pos (keywordEach [] X.env))) := by rfl) : DE X B0 F M ρ κ (.Call (.Attribute o m apos) (e :: es) [] pos) P := fun σ vs H Q g q => by
  obtain ⟨f, fd, hm, hb, Fo⟩ := G
  refine tOf_of (pe_meth (E := E0) pe_self c hm Fo hr hb .nil pass0 pa_self hst hpl ht) (h σ vs H _ g fun v H1 r1 M1 g1 h1 => ?_)
  obtain ⟨a, fs, rfl, hma, hlk, h1⟩ := h1
  have ev := g1.ref
  subst ev
  obtain ⟨B, g1b⟩ := id g1
  obtain ⟨dx, us, ho, hu⟩ := ins_at g1b hma
  refine ⟨a, dx, us, rfl, ho, (fs_lookup hu).2 hlk, h1 σ (.ref a :: vs) H1 _ g1 fun ws H2 rs M2 hl g2 hR => ?_⟩
  rw [List.append_nil]
  obtain ⟨B2, g2⟩ := g2
  obtain ⟨k1, k2⟩ := kok_split hl g2.st
  have g3 := g2.stk k2
  exact sp_X g3.pop (.cons g3.fst k1) j n hR q
end
end DL
namespace DL
open PySem PySem.Spec PyProof.Rows L2
section
variable {X : Cx} {B0 F : Hp} {M : Cs} {ρ κ : List Sl} {s : Stmt} {ss : List Stmt} {k : KK}
/-- what holds behind a statement, whichever way it went -/
theorem ds_join (J : Cs → List Sl → Prop) (h : DS X B0 F M ρ κ s { k with nx := J }) (h2 : ∀ M ρ, J M ρ → k.nx M ρ) : DS X B0 F M ρ κ s k :=
  fun σ vs H D g c => h σ vs H D g ⟨fun σ' H' M' ρ' g' hj => c.nx σ' H' M' ρ' g' (h2 M' ρ' hj), c.rt, c.bk, c.ct⟩
theorem db_join (J : Cs → List Sl → Prop) (h : DB X B0 F M ρ κ ss { k with nx := J }) (h2 : ∀ M ρ, J M ρ → k.nx M ρ) : DB X B0 F M ρ κ ss k :=
  fun σ vs H D g c => h σ vs H D g ⟨fun σ' H' M' ρ' g' hj => c.nx σ' H' M' ρ' g' (h2 M' ρ' hj), c.rt, c.bk, c.ct⟩
end
end DL
set_option maxHeartbeats 1000000
/-! dict(pairs), sorted(dict), list(dict): keys are tuples -/
namespace DL
open PySem PySem.Spec PyProof.Rows L2
section
variable {X : Cx} {pins : List (Addr × Obj)} {σ : L2.St} {H : Hp} {s : Shared}
abbrev PRel (x : NestedKey × Addr × Value) (q : NestedKey × Addr × V) : Prop := x.1 = q.1 ∧ x.2.1 = q.2.1 ∧ RelV q.2.2 x.2.2
abbrev PSrc (K : Fg) (H : Hp) (t : Addr) (q : NestedKey × Addr × V) : Prop := SqT K H t [.ref q.2.1, q.2.2] ∧ q.1.depth ≤ 8 ∧ Dp K H (.ref q.2.1) q.1.data
theorem pairsN_of (I : Inv X pins σ H s) : ∀ {ts : List Addr} {qs : List (NestedKey × Addr × V)}, Paired (PSrc X.K H) ts qs →
    ∃ prs : List (NestedKey × Addr × Value), Paired PRel prs qs ∧ prs.length = ts.length ∧ ∀ (j : Nat) (x : NestedKey × Addr × Value), prs[j]? = some x → ∃ b : Addr, ts[j]? = some b ∧ IsTup s.heap b #[.ref x.2.1, x.2.2] ∧ (nestedKind X.prog X.w).is s.heap x.1 x.2.1
  | _, _, .nil => ⟨[], .nil, rfl, fun j q e => by simp at e⟩
  | _, _, .cons (a := t) (b := q) h r => by
    obtain ⟨prs, rl, hl, hp⟩ := pairsN_of I r
    obtain ⟨its, rv, ht, _⟩ := I.tuple h.1
    obtain ⟨u, y, ei, ru, ry⟩ := vals2 rv
    subst ei
    obtain rfl : u = Value.ref q.2.1 := ru
    refine ⟨(q.1, q.2.1, y) :: prs, .cons ⟨rfl, rfl, ry⟩ rl, by rw [List.length_cons, List.length_cons, hl], fun j x e => ?_⟩
    cases j with
    | zero =>
      have e' : (q.1, q.2.1, y) = x := Option.some.inj e
      subst e'
      exact ⟨t, rfl, ht, nd_key I h.2.1 h.2.2 rfl⟩
    | succ j =>
      obtain ⟨b, e1, e2, e3⟩ := hp j x (by simpa using e)
      exact ⟨b, by simpa using e1, e2, e3⟩
def rDictN (X : Cx) : List V → Hp → VK → Prop := fun vs H Q => ∃ (a : Addr) (ts : List Addr) (qs : List (NestedKey × Addr × V)), vs = [.ref a] ∧ SqL X.K H a (ts.map V.ref) ∧ Paired (PSrc X.K H) ts qs ∧ ts.length ≤ 100000 ∧
  ∀ p xs, H p = none → Paired PRel xs qs → Q (.ref p) (upd H p (NDic X.prog X.w p (storedAllH [] xs)))
theorem nested_keep {h h' : Heap} {k : NestedKey} {v : Value} (x : NestedIs h k v) (e : ∀ b o, h.get? b = some o → h'.get? b = some o) : NestedIs h' k v := NestedIs.at (fun a o vs n h1 _ => e a o h1) k v x
theorem cr_dictN (hc : X.calm = true) (hu : X.A.units + 64 < cLine) : CallR X (.type "dict") (rDictN X) := by
  intro pins s σ H vs us Q I r h
  obtain ⟨a, ts, qs, rfl, hq, hp, hz0, q⟩ := h
  obtain ⟨u, eu, rx⟩ := vals1 r
  subst eu
  cases rx
  obtain ⟨its, rv, pl, hz⟩ := I.list hq
  have ei := refs_at rv
  subst ei
  obtain ⟨prs, rel, hl, hpr⟩ := pairsN_of I hp
  obtain ⟨o, n, ho, hcl, hd, hdat⟩ := pl
  have hn : prs.length ≤ sizeLine := by rw [hl]; exact Nat.le_trans hz0 (by decide)
  have hat : ∀ j : Nat, ∀ b, ts[j]? = some b → ts.getD j 0 = b := fun j b e => by rw [List.getD_eq_getElem?_getD, e]; rfl
  have hitems : PairItems s.heap ((ts.map Value.ref).toArray) (fun j => ts.getD j 0) (prs.map fun x => (Value.ref x.2.1, x.2.2)) := by
    refine ⟨by simp [hl], fun j k v e => ?_⟩
    rw [List.getElem?_map] at e
    obtain ⟨x, hx, e2⟩ := Option.map_eq_some_iff.mp e
    obtain ⟨b, e3, e4, _⟩ := hpr j x hx
    cases e2
    show _ ∧ PairAt s.heap (ts.getD j 0) _ _
    rw [hat j b e3]
    exact ⟨by simp [e3, hat j b e3], .inl e4⟩
  have hhave : PairsHaveH (nestedKind X.prog X.w) (prs.map fun x => (Value.ref x.2.1, x.2.2)).length (PairRel (prs.map fun x => (Value.ref x.2.1, x.2.2))) prs := by
    refine ⟨by simp, fun i key v e => ?_⟩
    have e : (prs.map fun x => (Value.ref x.2.1, x.2.2))[i]? = some (key, v) := e
    rw [List.getElem?_map] at e
    obtain ⟨x, hx, e2⟩ := Option.map_eq_some_iff.mp e
    cases e2
    exact ⟨x.1, x.2.1, hx, rfl⟩
  have hstay : KeysStay (nestedKind X.prog X.w) s.heap s.heap.objs.size [] prs := by
    intro h' hk x hx
    obtain ⟨j, hj⟩ := List.mem_iff_getElem?.mp hx
    obtain ⟨b, _, _, e5, e6⟩ := hpr j x hj
    exact ⟨nested_keep e5 fun b o e => hk b o (Nat.ne_of_lt (Heap.lt_size e)) (fun z => nomatch z) e, e6⟩
  refine call_dict_pairsH (PairArg.list a ((ts.map Value.ref).toArray) (fun j => ts.getD j 0) (prs.map fun x => (Value.ref x.2.1, x.2.2))) (I.ok.hd hc) (show X.A.units + 1 + 1 + 8 < cLine by omega) ⟨⟨o, n, ho, hcl, hd, hdat⟩, hitems⟩ hhave hstay (by rw [List.length_map]; exact hn) fun h' tk hd' hk => ?_
  have hlen : (storedAllH [] prs).length ≤ 100001 := by
    have := storedAllH_length prs []
    simp only [List.length_nil, Nat.zero_add] at this
    omega
  exact ⟨.ref s.heap.objs.size, upd H s.heap.objs.size (NDic X.prog X.w s.heap.objs.size (storedAllH [] prs)), I.laid (t' := tk) (fun b o e => hk b o (fun z => nomatch z) e) (Nat.le_refl _) (nd_ok (beq_eq_false_iff_ne.mpr (Nat.ne_of_gt I.big)) hlen hd'), rfl, q _ _ (I.hok.fresh (Nat.le_refl _)) rel⟩
/-- sorted(dict) -/
def rSortedN (X : Cx) : List V → Hp → VK → Prop := fun vs H Q => ∃ (a : Addr) (xs : List (NestedKey × Addr × Value)) (ds : List PyData) (G : Hp), vs = [.ref a] ∧ H a = some (NDic X.prog X.w a xs) ∧ NKeys X.K H xs ∧ Same G H ∧ RpA X.K G (xs.map fun x => V.ref x.2.1) ds ∧ PySem.W.AllAlike ds ∧ PySem.W.Sortable ds ∧ (∀ d ∈ ds, d.depth ≤ 50) ∧
  ∀ p ws, H p = none → RpA X.K G ws (sortD ds) → Q (.ref p) (upd H p (.lst ws))
theorem cr_sortedN (hc : X.calm = true) (hu : X.A.units + 64 < cLine) : CallR X (.builtin "sorted") (rSortedN X) := by
  intro pins s σ H vs us Q I r h
  obtain ⟨a, xs, ds, G, rfl, hx, hkx, hG, hr, hal, hk, hdp, q⟩ := h
  obtain ⟨u, eu, rx⟩ := vals1 r
  subst eu
  cases rx
  obtain ⟨g1, g2, o, es, ep, g3, g4, g5, g6, g7, g8⟩ := nd_at I hx hkx
  have hsz : es.size = xs.length := by rw [← Array.length_toList, g6, List.length_map]
  have h100 : (100001 : Nat) ≤ sizeLine := by decide
  refine Calls.call_function_entry PyProof.Rows.kind_sorted PyProof.Rows.plain_sorted PyProof.Rows.entry_sorted (PyProof.Rows.args_sorted1 _) ?_
  unfold Builtin.«sorted»
  refine wpAny_bind (m := checkCount "sorted" 1 1 _) (wpAny_pure ?_)
  refine wpAny_bind (PySem.W.kdu_collect (A := X.A.in1) (kdl_raw g1 g4 g5) (I.ok.hd hc) g3 (by omega) fun h' tk acc kp it => ?_)
  have ea : acc.toList = xs.map fun x => Value.ref x.2.1 := by
    apply List.ext_getElem?
    intro j
    rw [List.getElem?_map]
    have hl : acc.toList.length = xs.length := by rw [Array.length_toList, it.1, hsz]
    cases hj : acc.toList[j]? with
    | none =>
      have h1 := List.getElem?_eq_none_iff.mp hj
      rw [List.getElem?_eq_none (by omega)]
      rfl
    | some v =>
      obtain ⟨en, hen, hv⟩ := it.2 j v (by rw [← Array.getElem?_toList]; exact hj)
      have qe : es.toList[j]? = some en := by rw [Array.getElem?_toList]; exact hen
      rw [g6, List.getElem?_map] at qe
      cases hb : xs[j]? with
      | none => rw [hb] at qe; cases qe
      | some b =>
        rw [hb] at qe
        have e2 : entryOfKey (nestedKind X.prog X.w) b = en := Option.some.inj qe
        rw [hv, ← e2]
        rfl
  have hvals : Vals (xs.map fun x => V.ref x.2.1) (xs.map fun x => Value.ref x.2.1) := by
    clear hx hkx hr g2 g6 g7 g8 hsz ea
    induction xs with
    | nil => exact .nil
    | cons x xs ih => exact .cons rfl ih
  generalize hus : acc.toList = us at ea
  have I1 : Inv X pins σ H { s with heap := h', toks := tk } := I.kept kp
  rw [← ea] at hvals
  have hlen : us.length ≤ sizeLine := by rw [ea, List.length_map]; omega
  refine wpAny_bind (wpAny_newList ?_ hlen)
  have hoL : (h'.push (seqObj "list" us.toArray 0)).get? h'.objs.size = some (seqObj "list" us.toArray 0) := Heap.get?_push_size _ rfl
  show wpAny _ _ _ _ _ { s with heap := h'.push (seqObj "list" us.toArray 0), toks := tk }
  have er := each_reads I1 (hr.ext hG) hvals
  have er' : PySem.W.EachIs (fun v d => ∃ as, Reads (PySem.W.sortingHeap (h'.push (seqObj "list" us.toArray 0)) h'.objs.size us) v d as) us ds := er.mono fun _ _ ⟨as, r⟩ => ⟨as, PyProof.Rows.Reads.keeps (fun b o e => PySem.W.sortingHeap_old (Nat.ne_of_lt (Heap.lt_size e)) (Heap.get?_push_of_some _ e)) r⟩
  refine wpAny_bind (wpAny_holding (wpAny_call_entry PyProof.Rows.slot_list_sort ⟨_, hoL, rfl⟩ PyProof.Rows.entry_list_sort
    (PySem.W.list_sort_vals (s := { s with heap := h'.push (seqObj "list" us.toArray 0), toks := tk }) hoL (PySem.W.SortsAt.data (s := { s with heap := PySem.W.sortingHeap (h'.push (seqObj "list" us.toArray 0)) h'.objs.size us, toks := tk }) er' hal hk (fun d hd => ?_)) hlen ⟨_, rfl, ?_⟩) (PyProof.Rows.args_list_sort _)))
  · have := hdp d hd
    show X.A.units + 2 + d.depth < cLine
    omega
  obtain ⟨ws, h1, h2⟩ := each_back (PySem.W.sortVals_data (enc := id) (h' := PySem.W.sortingHeap (h'.push (seqObj "list" us.toArray 0)) h'.objs.size us) false (each_of hr hvals) er' (by rw [List.map_id]; exact hal))
  rw [List.map_id] at h1
  obtain ⟨e', he'⟩ := PyProof.Rows.sortedHeap_at (vs := us) (out := (PySem.W.sortVals (PySem.W.dataKind (PySem.W.sortingHeap (h'.push (seqObj "list" us.toArray 0)) h'.objs.size us) ds) false us us).toArray) hoL
  have hlw : ws.length ≤ sizeLine := by
    have := h2.len
    unfold sortD at this
    rw [List.length_mergeSort] at this
    have h3 := hr.len
    rw [List.length_map] at h3
    have h4 : (List.mergeSort ds (PySem.W.dataLe false id)).length = ds.length := List.length_mergeSort _
    have := h2.len
    omega
  refine wpAny_pure ⟨_, rfl, .ref h'.objs.size, upd H h'.objs.size (.lst ws), I1.laid (t' := tk) (fun b u e => ?_) (Nat.le_refl _) (show ObjOk X.prog X.w _ _ _ (.lst ws) from ⟨hlw, _, e', h1, he'⟩), rfl, q _ ws (I1.hok.fresh (Nat.le_refl _)) h2⟩
  have hb : b < h'.objs.size := Heap.lt_size e
  rw [PyProof.Rows.sortedHeap_old (Nat.ne_of_lt hb) (by rw [size_push']; exact Nat.lt_succ_of_lt hb)]
  exact Heap.get?_push_of_some _ e
end
end DL
namespace DL
open PySem PySem.Spec PyProof.Rows L2
/-! ### the same on data -/
def mergeN (acc more : List (NestedKey × PyData)) : List (NestedKey × PyData) := more.foldl (fun acc e => putN acc e.1 e.2) acc
section
variable {X : Cx} {B0 F B : Hp} {M : Cs} {ρ κ : List Sl} {P : Sl → Cs → Prop} {K : Fg} {e : Expr} {p pos : Pos}
theorem nr_stored : ∀ {ps : List (NestedKey × Addr × Value)} {es : List (NestedKey × PyData)} {xs : List (NestedKey × Addr × Value)} {acc : List (NestedKey × PyData)}, Paired (NRel K B) ps es → Paired (NRel K B) xs acc → Paired (NRel K B) (storedAllH xs ps) (mergeN acc es)
  | _, _, _, _, .nil, h => h
  | _, _, xs, acc, .cons (a := p) (b := e) h t, hx => by
    obtain ⟨h1, h2, h3, v, h4, h5⟩ := h
    unfold storedAllH mergeN
    rw [List.foldl_cons, List.foldl_cons, h1]
    exact nr_stored t (nr_put h2 h3 h4 h5 hx)
theorem psrc_of {H : Hp} (sm : Same B H) : ∀ {xs : List V} {es : List (NestedKey × PyData)}, (∀ e ∈ es, e.1.depth ≤ 8 ∧ ∃ ks, e.1 = .tup ks) → RpA K B xs (es.map fun e => .tuple [e.1.data, e.2]) →
    ∃ (ts : List Addr) (qs : List (NestedKey × Addr × V)), xs = ts.map V.ref ∧ Paired (PSrc K H) ts qs ∧ Paired (fun (q : NestedKey × Addr × V) (e : NestedKey × PyData) => q.1 = e.1 ∧ e.1.depth ≤ 8 ∧ Rp K B (.ref q.2.1) e.1.data ∧ Rp K B q.2.2 e.2) qs es
  | _, [], _, h => by cases h; exact ⟨[], [], rfl, .nil, .nil⟩
  | _, e :: es, hk, h => by
    cases h with
    | cons h1 h2 =>
      obtain ⟨ts, qs, rfl, i1, i2⟩ := psrc_of sm (es := es) (fun e he => hk e (List.mem_cons_of_mem _ he)) h2
      obtain ⟨t, ys, rfl, j1, j2⟩ := Rp.tup_inv h1
      obtain ⟨hd, ks, hks⟩ := hk e List.mem_cons_self
      cases j2 with
      | cons k1 k2 =>
        cases k2 with
        | cons k2 k3 =>
          cases k3
          have k1' := k1
          rw [hks, NestedKey.data] at k1'
          obtain ⟨b, zs, rfl, _, _⟩ := Rp.tup_inv k1'
          exact ⟨t :: ts, (e.1, b, _) :: qs, rfl, .cons ⟨same_t sm j1, hd, (k1.ext sm).dp⟩ i1, .cons ⟨rfl, hd, k1, k2⟩ i2⟩
theorem prel_nrel : ∀ {xs : List (NestedKey × Addr × Value)} {qs : List (NestedKey × Addr × V)} {es : List (NestedKey × PyData)}, Paired PRel xs qs → Paired (fun (q : NestedKey × Addr × V) (e : NestedKey × PyData) => q.1 = e.1 ∧ e.1.depth ≤ 8 ∧ Rp K B (.ref q.2.1) e.1.data ∧ Rp K B q.2.2 e.2) qs es → Paired (NRel K B) xs es
  | _, _, _, .nil, .nil => .nil
  | _, _, _, .cons h t, .cons g u => .cons ⟨h.1.trans g.1, g.2.1, by rw [h.2.1]; exact g.2.2.1, _, h.2.2, g.2.2.2⟩ (prel_nrel t u)
theorem rn_dictN {s : Sl} {es : List (NestedKey × PyData)} (q : SeqLs M s (es.map fun e => .tuple [e.1.data, e.2])) (hk : ∀ e ∈ es, e.1.depth ≤ 8 ∧ ∃ ks, e.1 = .tup ks) (hz : es.length ≤ 100000) (h : ∀ p, P (.v (.ref p)) ((p, .dn (NDic X.prog X.w p) (mergeN [] es)) :: M)) : RnD X.K B0 F ρ κ (rDictN X) [s] M P := fun σ vs H xs Q hl g qq => by
  obtain ⟨x, rfl⟩ := one_arg hl rfl
  obtain ⟨B, g⟩ := g
  obtain ⟨a, ys, rfl, h3, h4⟩ := q.at g g.fst
  obtain ⟨ts, qs, rfl, i1, i2⟩ := psrc_of g.bh hk h4
  refine ⟨a, ts, qs, rfl, h3, i1, ?_, fun p xs hp hx => qq _ _ _ _ ⟨B, (g.pop.cell (c := .dn (NDic X.prog X.w p) (mergeN [] es)) hp ⟨_, rfl, nr_stored (prel_nrel hx i2) .nil⟩).pushV⟩ (h p)⟩
  have := h4.len
  rw [List.length_map, List.length_map] at this
  omega
theorem de_dictN (hu : X.A.units + 64 < cLine) (gm : X.mg "dict" = none) (h : DE X B0 F M ρ κ e fun r M1 => ∃ es : List (NestedKey × PyData), SeqLs M1 r (es.map fun e => .tuple [e.1.data, e.2]) ∧ (∀ e ∈ es, e.1.depth ≤ 8 ∧ ∃ ks, e.1 = .tup ks) ∧ es.length ≤ 100000 ∧ ∀ p, P (.v (.ref p)) ((p, .dn (NDic X.prog X.w p) (mergeN [] es)) :: M1)) (hc : X.calm = true := by rfl) (hg : Gl X "dict" := by rfl) (hs : starEach [e] X.env = (false, eval e X.env) :: starEach [] X.env := by rfl) : DE X B0 F M ρ κ (.Call (.Name "dict" p) [e] [] pos) P :=
  de_callTy (cr_dictN hc hu) gm bt_dict (da_cons (fun σ vs H Q g q => h σ vs H Q g fun v H' r M' g' ⟨es, h1, h2, h3, h4⟩ => q v H' r M' g' (da_nil (rn_dictN h1 h2 h3 h4))) hs) hg (he := hs)
theorem keys_rp : ∀ {xs : List (NestedKey × Addr × Value)} {es : List (NestedKey × PyData)}, Paired (NRel K B) xs es → RpA K B (xs.map fun x => V.ref x.2.1) (es.map fun e => e.1.data)
  | _, _, .nil => .nil
  | _, _, .cons h t => .cons h.2.2.1 (keys_rp t)
theorem rn_sortedN {a : Addr} {es : List (NestedKey × PyData)} (hm : (a, .dn (NDic X.prog X.w a) es) ∈ M) (hal : PySem.W.AllAlike (es.map fun e => e.1.data)) (hk : PySem.W.Sortable (es.map fun e => e.1.data)) (hd : ∀ e ∈ es, e.1.data.depth ≤ 50) (h : ∀ l, P (.v (.ref l)) ((l, .lst (sortD (es.map fun e => e.1.data))) :: M)) : RnD X.K B0 F ρ κ (rSortedN X) [.v (.ref a)] M P := fun σ vs H xs Q hl g qq => by
  obtain ⟨x, rfl⟩ := one_arg hl rfl
  have ev := (show Good X.K B0 F M ρ (.v (.ref a) :: κ) σ (x :: vs) H from g).ref
  subst ev
  obtain ⟨B, g⟩ := g
  obtain ⟨xs, ho, hx⟩ := ndic_at g hm
  refine ⟨a, xs, _, B, rfl, ho, nr_keys (F := F) g.bh hx, g.bh, keys_rp hx, hal, hk, fun d hd' => ?_, fun p ws hp hw => qq _ _ _ _ ⟨B, ?_⟩ (h p)⟩
  · obtain ⟨e, he, rfl⟩ := List.mem_map.mp hd'
    exact hd e he
  · exact (g.pop.cell (c := .lst _) hp ⟨ws, rfl, hw⟩).pushV
theorem de_sortedDN (hu : X.A.units + 64 < cLine) (gm : X.mg "sorted" = none) (h : DE X B0 F M ρ κ e fun r M1 => ∃ (a : Addr) (es : List (NestedKey × PyData)), r = .v (.ref a) ∧ (a, .dn (NDic X.prog X.w a) es) ∈ M1 ∧ PySem.W.AllAlike (es.map fun e => e.1.data) ∧ PySem.W.Sortable (es.map fun e => e.1.data) ∧ (∀ e ∈ es, e.1.data.depth ≤ 50) ∧ ∀ l, P (.v (.ref l)) ((l, .lst (sortD (es.map fun e => e.1.data))) :: M1)) (hc : X.calm = true := by rfl) (hg : Gl X "sorted" := by rfl) (hs : starEach [e] X.env = (false, eval e X.env) :: starEach [] X.env := by rfl) : DE X B0 F M ρ κ (.Call (.Name "sorted" p) [e] [] pos) P :=
  de_callB (cr_sortedN hc hu) gm bt_sorted (da_cons (fun σ vs H Q g q => h σ vs H Q g fun v H' r M' g' ⟨a, es, h0, h1, h2, h3, h4, h5⟩ => by
    subst h0
    exact q v H' _ M' g' (da_nil (rn_sortedN h1 h2 h3 h4 h5))) hs) hg (he := hs)
end
end DL
set_option maxHeartbeats 1000000
/-! sorted(tuple) -/
namespace DL
open PySem PySem.Spec PyProof.Rows L2
section
variable {prog : Program} {w : World} {A : Around} {E : Value → Shared → Prop} {s : Shared}
theorem collectT {t : Addr} {us : List Value} {R : List Value → Shared → Prop} (ht : s.heap.IsTuple t us.toArray) (hn : us.length ≤ sizeLine)
    (hR : R us { s with heap := (s.heap.push (seqObj "list" #[] 0)).update s.heap.objs.size (Obj.mapSeq (· ++ us.toArray)) }) : wpAny (model prog w) A (collect (.ref t)) R E s := by
  obtain ⟨ob, hob, hcls, m, hdt⟩ := id ht
  unfold collect
  refine wpAny_bind (wpAny_runValue (codeAny_builtin entry_proto_collect' ?_))
  show wpAny _ _ (newList [] >>= fun z => again (.builtin "list.__iadd__" ⟨[z, .ref t], []⟩)) _ _ s
  refine wpAny_bind (wpAny_newList (wpAny_pure ⟨Code.quiet_builtin _ (by decide +kernel), codeAny_builtin entry_list_iadd' ?_⟩))
  show wpAny _ _ (Builtin.List.listExtendWith (.ref s.heap.objs.size) (.ref t) (.ref s.heap.objs.size)) _ _ { s with heap := s.heap.push (seqObj "list" #[] 0) }
  unfold Builtin.List.listExtendWith
  have hob' : (s.heap.push (seqObj "list" #[] 0)).get? t = some ob := Heap.get?_push_of_some _ hob
  refine wpAny_bind (wpAny_typeOf (T := "tuple") ⟨ob, hob', hcls⟩ ?_)
  have hb : ((Value.type "tuple" == Value.type "list") || (Value.type "tuple" == Value.type "tuple")) = true := by rfl
  rw [if_pos (by first | exact hb | simp)]
  refine wpAny_bind (listItems_at hob' hdt ?_)
  refine wpAny_bind (listItems_at (xs := #[]) (n := 0) (Heap.get?_push_size _ rfl) rfl ?_)
  rw [if_neg (by simp)]
  refine wpAny_bind (listUpdate_at (xs := #[]) (n := 0) (Heap.get?_push_size _ rfl) rfl ?_ (Nat.zero_le _) (by
    show (#[] ++ us.toArray).size ≤ sizeLine + 1
    simp only [Array.size_append, List.size_toArray, List.length_nil]
    omega))
  refine wpAny_pure ?_
  show wpAny (model prog w) A (do
      let z ← load s.heap.objs.size
      match z.data with
      | .seq ys _ => pure ys.toList
      | _ => unsupported "internal:collect") R E { s with heap := (s.heap.push (seqObj "list" #[] 0)).update s.heap.objs.size (Obj.mapSeq (· ++ us.toArray)) }
  refine wpAny_bind (wpAny_load (get?_update_seq (Heap.get?_push_size _ rfl) _) ?_)
  show wpAny _ _ (pure ((#[] : Array Value) ++ us.toArray).toList) R E _
  rw [show ((#[] : Array Value) ++ us.toArray).toList = us by simp]
  exact wpAny_pure hR
end
section
variable {X : Cx} {pins : List (Addr × Obj)} {σ : L2.St} {H : Hp} {s : Shared}
def rSortedTu (K : Fg) : List V → Hp → VK → Prop := fun vs H Q => ∃ (a : Addr) (xs : List V) (ds : List PyData) (G : Hp), vs = [.ref a] ∧ SqT K H a xs ∧ Same G H ∧ RpA K G xs ds ∧ PySem.W.AllAlike ds ∧ PySem.W.Sortable ds ∧ ds.length ≤ 100000 ∧ (∀ d ∈ ds, d.depth ≤ 50) ∧
  ∀ p ws, H p = none → RpA K G ws (sortD ds) → Q (.ref p) (upd H p (.lst ws))
theorem cr_sortedTu (hu : X.A.units + 64 < cLine) : CallR X (.builtin "sorted") (rSortedTu X.K) := by
  intro pins s σ H vs us Q I r h
  obtain ⟨a, xs, ds, G, rfl, hx, hG, hr, hal, hk, hz, hdp, q⟩ := h
  obtain ⟨u, eu, rx⟩ := vals1 r
  subst eu
  cases rx
  obtain ⟨us, hvals, ht, hzz⟩ := I.tuple hx
  have hlen : us.length ≤ sizeLine := by
    have h1 := hvals.length
    have h2 := hr.len
    have h3 : (100000 : Nat) ≤ sizeLine := by decide
    omega
  refine Calls.call_function_entry PyProof.Rows.kind_sorted PyProof.Rows.plain_sorted PyProof.Rows.entry_sorted (PyProof.Rows.args_sorted1 _) ?_
  unfold Builtin.«sorted»
  refine wpAny_bind (m := checkCount "sorted" 1 1 _) (wpAny_pure ?_)
  refine wpAny_bind (collectT ht hlen ?_)
  generalize hh : (s.heap.push (seqObj "list" #[] 0)).update s.heap.objs.size (Obj.mapSeq (· ++ us.toArray)) = h'
  have kp : ∀ (b : Addr) (o : Obj), s.heap.get? b = some o → h'.get? b = some o := fun b o e => by
    have hne : b ≠ s.heap.objs.size := Nat.ne_of_lt (Heap.lt_size e)
    rw [← hh, Heap.get?_update_ne _ _ _ _ hne]
    exact Heap.get?_push_of_some _ e
  have hsz : s.heap.objs.size ≤ h'.objs.size := by
    rw [← hh, Heap.size_update, size_push']
    exact Nat.le_succ _
  have I1 : Inv X pins σ H { s with heap := h' } := I.kept (t' := s.toks) kp
  refine wpAny_bind (wpAny_newList ?_ hlen)
  have hoL : (h'.push (seqObj "list" us.toArray 0)).get? h'.objs.size = some (seqObj "list" us.toArray 0) := Heap.get?_push_size _ rfl
  show wpAny _ _ _ _ _ { s with heap := h'.push (seqObj "list" us.toArray 0) }
  have er := each_reads I1 (hr.ext hG) hvals
  have er' : PySem.W.EachIs (fun v d => ∃ as, Reads (PySem.W.sortingHeap (h'.push (seqObj "list" us.toArray 0)) h'.objs.size us) v d as) us ds := er.mono fun _ _ ⟨as, r⟩ => ⟨as, PyProof.Rows.Reads.keeps (fun b o e => PySem.W.sortingHeap_old (Nat.ne_of_lt (Heap.lt_size e)) (Heap.get?_push_of_some _ e)) r⟩
  refine wpAny_bind (wpAny_holding (wpAny_call_entry PyProof.Rows.slot_list_sort ⟨_, hoL, rfl⟩ PyProof.Rows.entry_list_sort
    (PySem.W.list_sort_vals (s := { s with heap := h'.push (seqObj "list" us.toArray 0) }) hoL (PySem.W.SortsAt.data (s := { s with heap := PySem.W.sortingHeap (h'.push (seqObj "list" us.toArray 0)) h'.objs.size us }) er' hal hk (fun d hd => ?_)) hlen ⟨_, rfl, ?_⟩) (PyProof.Rows.args_list_sort _)))
  · have := hdp d hd
    show X.A.units + 2 + d.depth < cLine
    omega
  obtain ⟨ws, h1, h2⟩ := each_back (PySem.W.sortVals_data (enc := id) (h' := PySem.W.sortingHeap (h'.push (seqObj "list" us.toArray 0)) h'.objs.size us) false (each_of hr hvals) er' (by rw [List.map_id]; exact hal))
  rw [List.map_id] at h1
  obtain ⟨e', he'⟩ := PyProof.Rows.sortedHeap_at (vs := us) (out := (PySem.W.sortVals (PySem.W.dataKind (PySem.W.sortingHeap (h'.push (seqObj "list" us.toArray 0)) h'.objs.size us) ds) false us us).toArray) hoL
  have hlw : ws.length ≤ sizeLine := by
    have h4 : (List.mergeSort ds (PySem.W.dataLe false id)).length = ds.length := List.length_mergeSort _
    have := h2.len
    have h3 : (100000 : Nat) ≤ sizeLine := by decide
    omega
  refine wpAny_pure ⟨_, rfl, .ref h'.objs.size, upd H h'.objs.size (.lst ws), I1.laid (t' := s.toks) (fun b u e => ?_) (Nat.le_refl _) (show ObjOk X.prog X.w _ _ _ (.lst ws) from ⟨hlw, _, e', h1, he'⟩), rfl, q _ ws (I1.hok.fresh (Nat.le_refl _)) h2⟩
  have hb : b < h'.objs.size := Heap.lt_size e
  rw [PyProof.Rows.sortedHeap_old (Nat.ne_of_lt hb) (by rw [size_push']; exact Nat.lt_succ_of_lt hb)]
  exact Heap.get?_push_of_some _ e
end
section
variable {X : Cx} {B0 F B : Hp} {M : Cs} {ρ κ : List Sl} {P : Sl → Cs → Prop} {K : Fg} {e : Expr} {p pos : Pos}
theorem rn_sortedTu {ds : List PyData} (hal : PySem.W.AllAlike ds) (hk : PySem.W.Sortable ds) (hz : ds.length ≤ 100000) (hd : ∀ d ∈ ds, d.depth ≤ 50) (h : ∀ l, P (.v (.ref l)) ((l, .lst (sortD ds)) :: M)) : RnD K B0 F ρ κ (rSortedTu K) [.d (.tuple ds)] M P := fun σ vs H xs Q hl g qq => by
  obtain ⟨x, rfl⟩ := one_arg hl rfl
  obtain ⟨B, g⟩ := g
  obtain ⟨a, ys, rfl, h3, h4⟩ := Rp.tup_inv (show Rp K B x (.tuple ds) from g.fst)
  exact ⟨a, ys, ds, B, rfl, same_t g.bh h3, g.bh, h4, hal, hk, hz, hd, fun p ws hp hw => qq _ _ _ _ ⟨B, (g.pop.cell (c := .lst _) hp ⟨ws, rfl, hw⟩).pushV⟩ (h p)⟩
theorem de_sortedTu (hu : X.A.units + 64 < cLine) (gm : X.mg "sorted" = none) (h : DE X B0 F M ρ κ e fun r M1 => ∃ ds : List PyData, r = .d (.tuple ds) ∧ PySem.W.AllAlike ds ∧ PySem.W.Sortable ds ∧ ds.length ≤ 100000 ∧ (∀ d ∈ ds, d.depth ≤ 50) ∧ ∀ l, P (.v (.ref l)) ((l, .lst (sortD ds)) :: M1)) (hg : Gl X "sorted" := by rfl) (hs : starEach [e] X.env = (false, eval e X.env) :: starEach [] X.env := by rfl) : DE X B0 F M ρ κ (.Call (.Name "sorted" p) [e] [] pos) P :=
  de_callB (cr_sortedTu hu) gm bt_sorted (da_cons (fun σ vs H Q g q => h σ vs H Q g fun v H' r M' g' ⟨ds, h0, h1, h2, h3, h4, h5⟩ => by
    subst h0
    exact q v H' _ M' g' (da_nil (rn_sortedTu h1 h2 h3 h4 h5))) hs) hg (he := hs)
/-! ### rows of pairs -/
abbrev Eds := List (Nat × Nat)
def epD (e : Nat × Nat) : PyData := .tuple [.int e.1, .int e.2]
theorem alike_pr {es : Eds} : PySem.W.AllAlike (es.map epD) := fun d hd d' hd' => by
  obtain ⟨x, _, rfl⟩ := List.mem_map.mp hd
  obtain ⟨y, _, rfl⟩ := List.mem_map.mp hd'
  simp [epD, PySem.W.alike, PySem.W.alikeAll]
theorem sortable_pr {es : Eds} : PySem.W.Sortable (es.map epD) := .inl fun d hd => by
  obtain ⟨x, _, rfl⟩ := List.mem_map.mp hd
  exact ⟨_, _, rfl⟩
theorem depth_pr {es : Eds} : ∀ d ∈ es.map epD, d.depth ≤ 50 := fun d hd => by
  obtain ⟨x, _, rfl⟩ := List.mem_map.mp hd
  simp [epD, PyData.depth, PyData.depthAll]
def lePr (a b : Nat × Nat) : Bool := decide (a.1 < b.1 ∨ (a.1 = b.1 ∧ a.2 ≤ b.2))
theorem lePr_data (a b : Nat × Nat) : PySem.W.dataLe false id (epD a) (epD b) = lePr a b := by
  show (!PySem.W.dataLt (.tuple [.int (b.1 : Nat), .int (b.2 : Nat)]) (.tuple [.int (a.1 : Nat), .int (a.2 : Nat)])) = _
  unfold lePr
  rw [PySem.W.dataLt_ii, Bool.eq_iff_iff]
  simp only [Bool.not_eq_true', decide_eq_false_iff_not, decide_eq_true_iff]
  omega
theorem sort_pr (es : Eds) : ∃ T : Eds, sortD (es.map epD) = T.map epD ∧ T.Perm es ∧ T.Pairwise fun a b => a.1 < b.1 ∨ (a.1 = b.1 ∧ a.2 ≤ b.2) := by
  refine ⟨es.mergeSort lePr, ?_, List.mergeSort_perm _ _, ?_⟩
  · unfold sortD
    rw [List.map_mergeSort]
    intro a _ b _
    exact (lePr_data a b).symm
  · refine (List.pairwise_mergeSort (fun a b c h1 h2 => ?_) (fun a b => ?_) es).imp fun h => ?_
    · unfold lePr at *
      simp only [decide_eq_true_iff] at *
      omega
    · unfold lePr
      simp only [Bool.or_eq_true, decide_eq_true_iff]
      omega
    · unfold lePr at h
      simpa using h
end
end DL
set_option maxHeartbeats 1000000
namespace DL
open PySem PySem.Spec PyProof.Rows L2
theorem valN_key {es : List (NestedKey × PyData)} {k : NestedKey} : (valN es k).isSome = true ↔ k ∈ es.map (·.1) := by
  unfold valN
  rw [Option.isSome_map, List.find?_isSome, List.mem_map]
  exact ⟨fun ⟨e, h, he⟩ => ⟨e, h, of_decide_eq_true he⟩, fun ⟨e, h, he⟩ => ⟨e, h, decide_eq_true he⟩⟩
theorem putN_keys (es : List (NestedKey × PyData)) (k : NestedKey) (d : PyData) : (putN es k d).map (·.1) = if k ∈ es.map (·.1) then es.map (·.1) else es.map (·.1) ++ [k] := by
  unfold putN
  by_cases c : (valN es k).isSome = true
  · rw [if_pos c, if_pos (valN_key.mp c), List.map_map]
    refine List.map_congr_left fun e _ => ?_
    show (if e.1 = k then (e.1, d) else e).1 = e.1
    split <;> rfl
  · rw [if_neg c, if_neg fun h => c (valN_key.mpr h), List.map_append]
    rfl
theorem mergeN_keys : ∀ (more acc : List (NestedKey × PyData)), (acc.map (·.1)).Nodup → ((mergeN acc more).map (·.1)).Nodup ∧ ∀ k, k ∈ (mergeN acc more).map (·.1) ↔ k ∈ acc.map (·.1) ∨ k ∈ more.map (·.1)
  | [], acc, h => ⟨h, fun k => by simp [mergeN]⟩
  | e :: more, acc, h => by
    have h1 : ((putN acc e.1 e.2).map (·.1)).Nodup := by
      rw [putN_keys]
      split
      · exact h
      · rename_i c
        exact List.nodup_append.mpr ⟨h, by simp, fun a ha b hb z => c (by rw [List.mem_singleton.mp hb] at z; exact z ▸ ha)⟩
    obtain ⟨h2, h3⟩ := mergeN_keys more (putN acc e.1 e.2) h1
    refine ⟨h2, fun k => (h3 k).trans ?_⟩
    rw [putN_keys, List.map_cons, List.mem_cons]
    split
    · rename_i c
      exact ⟨fun z => z.elim .inl fun z => .inr (.inr z), fun z => z.elim .inl fun z => z.elim (fun z => .inl (z ▸ c)) .inr⟩
    · rw [List.mem_append, List.mem_singleton]
      exact ⟨fun z => z.elim (fun z => z.elim .inl fun z => .inr (.inl z)) fun z => .inr (.inr z), fun z => z.elim (fun z => .inl (.inl z)) fun z => z.elim (fun z => .inl (.inr z)) .inr⟩
/-! pairs as keys -/
def keyP (e : Nat × Nat) : NestedKey := .tup [.num (e.1 : Int), .num (e.2 : Int)]
theorem keyP_inj {e f : Nat × Nat} (h : keyP e = keyP f) : e = f := by
  unfold keyP at h
  injection h with h
  rw [List.cons.injEq, List.cons.injEq] at h
  obtain ⟨h1, h2, _⟩ := h
  injection h1 with h1
  injection h2 with h2
  exact Prod.ext (by omega) (by omega)
theorem keyP_data (e : Nat × Nat) : (keyP e).data = epD e := by
  unfold keyP epD
  rw [NestedKey.data, NestedKey.datas, NestedKey.datas, NestedKey.datas, NestedKey.data, NestedKey.data]
theorem keyP_depth (e : Nat × Nat) : (keyP e).depth ≤ 8 := by
  unfold keyP
  rw [NestedKey.depth, NestedKey.depthAll, NestedKey.depthAll, NestedKey.depthAll, NestedKey.depth, NestedKey.depth]
  decide
/-- sorted(dict of pairs): each pair once, going up -/
theorem dict_pr (es : Eds) (d : PyData) : ∃ L T : Eds, (mergeN [] (es.map fun e => (keyP e, d))).map (fun e => e.1.data) = L.map epD ∧ sortD (L.map epD) = T.map epD ∧ T.Nodup ∧ (∀ e, e ∈ T ↔ e ∈ es) ∧ T.length ≤ es.length := by
  obtain ⟨h1, h2⟩ := mergeN_keys (es.map fun e => (keyP e, d)) [] List.nodup_nil
  have h3 : ∀ k, k ∈ (mergeN [] (es.map fun e => (keyP e, d))).map (·.1) → ∃ e ∈ es, k = keyP e := fun k hk => by
    rcases (h2 k).mp hk with h | h
    · cases h
    · rw [List.map_map] at h
      obtain ⟨e, he, rfl⟩ := List.mem_map.mp h
      exact ⟨e, he, rfl⟩
  have h4 : ∀ ks : List NestedKey, (∀ k ∈ ks, ∃ e ∈ es, k = keyP e) → ∃ L : Eds, ks = L.map keyP := fun ks => by
    induction ks with
    | nil => exact fun _ => ⟨[], rfl⟩
    | cons k ks ih =>
      intro h
      obtain ⟨L, rfl⟩ := ih fun k hk => h k (List.mem_cons_of_mem _ hk)
      obtain ⟨e, _, rfl⟩ := h k List.mem_cons_self
      exact ⟨e :: L, rfl⟩
  obtain ⟨L, hL⟩ := h4 _ h3
  obtain ⟨T, e1, e2, _⟩ := sort_pr L
  have hnd : L.Nodup := by
    rw [hL] at h1
    exact (List.pairwise_map.mp h1).imp fun h z => h (by rw [z])
  have hme : ∀ e, e ∈ L ↔ e ∈ es := fun e => by
    have := h2 (keyP e)
    rw [hL, List.mem_map, List.map_map] at this
    constructor
    · intro h
      rcases this.mp ⟨e, h, rfl⟩ with z | z
      · cases z
      · obtain ⟨f, hf, e3⟩ := List.mem_map.mp z
        exact keyP_inj (show keyP f = keyP e from e3) ▸ hf
    · intro h
      obtain ⟨f, hf, e3⟩ := this.mpr (.inr (List.mem_map.mpr ⟨e, h, rfl⟩))
      exact keyP_inj e3 ▸ hf
  refine ⟨L, T, ?_, e1, e2.nodup_iff.mpr hnd, fun e => e2.mem_iff.trans (hme e), ?_⟩
  · rw [show (fun e : NestedKey × PyData => e.1.data) = NestedKey.data ∘ (·.1) from rfl, ← List.map_map, hL, List.map_map]
    exact List.map_congr_left fun e _ => keyP_data e
  · rw [e2.length_eq]
    have : ∀ (a b : Eds), a.Nodup → (∀ x ∈ a, x ∈ b) → a.length ≤ b.length := fun a => by
      induction a with
      | nil => exact fun _ _ _ => Nat.zero_le _
      | cons x a ih =>
        intro b hn hs
        obtain ⟨n1, n2⟩ := List.nodup_cons.mp hn
        have hx := hs x List.mem_cons_self
        have h5 := ih (b.erase x) n2 fun y hy => (List.mem_erase_of_ne fun z => n1 (by rw [← z]; exact hy)).mpr (hs y (List.mem_cons_of_mem _ hy))
        rw [List.length_erase_of_mem hx] at h5
        have := List.length_pos_of_mem hx
        rw [List.length_cons]
        omega
    exact this L es hnd fun x hx => (hme x).mp hx
end DL
set_option maxHeartbeats 1000000
namespace DL
open PySem PySem.Spec PyProof.Rows L2
section
variable {X : Cx} {B0 F : Hp} {M : Cs} {ρ κ : List Sl} {P : Sl → Cs → Prop} {a : Expr} {p p2 p3 pos : Pos}
/-- tuple(range(a)) -/
theorem de_tupRgA (hm : X.mg "tuple" = none) (hm2 : X.mg "range" = none) (h : DE X B0 F M ρ κ a fun r M1 => ∃ n, r = .d (.int n) ∧ RgOk 0 n ∧ P (.d (.tuple (rngD 0 n.toNat))) M1) (hc : X.calm = true := by rfl) (hg : Gl X "tuple" := by rfl) (hg2 : Gl X "range" := by rfl)
    (n1 : starEach [.Call (.Name "range" p2) [a] [] p3] X.env = (false, eval (.Call (.Name "range" p2) [a] [] p3) X.env) :: starEach [] X.env := by rfl) (n2 : starEach [a] X.env = (false, eval a X.env) :: starEach [] X.env := by rfl) : DE X B0 F M ρ κ (.Call (.Name "tuple" p) [.Call (.Name "range" p2) [a] [] p3] [] pos) P := fun σ vs H Q g q => tOf_of (pe_tupRg hc hg hm (prg_1 hg2 hm2 pe_self n2) n1) (h σ vs H _ g fun v H1 r M1 g1 h1 => by
    obtain ⟨n, rfl, ok, hp⟩ := h1
    have e := g1.int
    subst e
    refine ⟨n, rfl, ok, fun l hl => q _ _ _ M1 ?_ hp⟩
    obtain ⟨B, g1⟩ := g1
    have e : (n - 0).toNat = n.toNat := by omega
    exact ⟨_, (g1.pop.laid (o := .tup (rgV 0 n)) hl).pushD (.tup (SqT.of upd_same) (by rw [← e]; exact rngV_rp 0 n))⟩)
end
end DL
set_option maxHeartbeats 0
namespace H78
open PySem PySem.Spec PyProof.Rows
def top (i : Nat) : Stmt := PySem.Challenge.pw_cantmove_k78_whole_kayles.main.body.getD i (.Pass ⟨0, 0, 0, 0⟩)
abbrev s_least_missing : Stmt := top 1
abbrev s_nexts_of : Stmt := top 3
abbrev s_pieces_of : Stmt := top 4
abbrev s_kayles_value : Stmt := top 7
abbrev s_edge_kayles_value : Stmt := top 8
abbrev s_kayles_moves : Stmt := top 9
abbrev s_edge_kayles_moves : Stmt := top 10
abbrev s_code_values : Stmt := top 12
abbrev s__law_flat : Stmt := top 14
abbrev s__law_box : Stmt := top 15
abbrev s__law_load : Stmt := top 16
abbrev s__law_draw : Stmt := top 17
abbrev s__law_same : Stmt := top 18
abbrev s__law_graph : Stmt := top 19
abbrev s__law_near : Stmt := top 20
abbrev s__law_missing : Stmt := top 21
abbrev s__law_rest : Stmt := top 22
abbrev s__law_value : Stmt := top 23
abbrev s__law_edge_value : Stmt := top 24
abbrev s__law_lines : Stmt := top 25
abbrev s__law_moved : Stmt := top 26
abbrev s_law : Stmt := top 27
abbrev s_Kayles___init__ : Stmt := (C8.clsBody (top 6)).getD 0 (.Pass ⟨0, 0, 0, 0⟩)
abbrev s_Kayles_behind : Stmt := (C8.clsBody (top 6)).getD 1 (.Pass ⟨0, 0, 0, 0⟩)
abbrev s_Kayles_value : Stmt := (C8.clsBody (top 6)).getD 2 (.Pass ⟨0, 0, 0, 0⟩)
end H78
set_option maxHeartbeats 4000000
namespace H78
open PySem PySem.Spec PyProof.Rows L2 DL
/-! ### _law_same of equal data -/
def SameOk : Nat → PyData → Prop
  | _, .none => True
  | _, .bool _ => True
  | _, .int _ => True
  | _, .str _ => True
  | m + 1, .tuple ds => ds.length ≤ 100000 ∧ ∀ d ∈ ds, SameOk m d
  | m + 1, .list ds => ds.length ≤ 100000 ∧ ∀ d ∈ ds, SameOk m d
  | _, _ => False
abbrev R_same (m : Nat) := Pu (fun d : PyData => [.d d, .d d]) (SameOk m) (fun _ => .bool true)
section
variable {P : Program} {w : World} {K : PySem.W.Frag} {mg : Str → Option Value} {base : Heap} {f : Addr} {fd : FuncData}
theorem sc_same : FnScope ["a", "b", "k"] ["a", "b"] (defScope s__law_same) := ⟨rfl, rfl, rfl, by decide +kernel, rfl, by decide +kernel, by decide +kernel⟩
theorem ok_same1 {k m : Nat} (Fn : FnP K "_law_same" s__law_same f fd) (G : ∀ m', m = m' + 1 → Go P w K mg base "_law_same" k ["a", "b"] (R_same m')) (g_is : mg "isinstance" = none) (g_tu : mg "tuple" = none) (g_li : mg "list" = none) (g_bo : mg "bool" = none) (g_in : mg "int" = none) (g_st : mg "str" = none) (g_le : mg "len" = none) (g_al : mg "all" = none) (g_ra : mg "range" = none) : FnOk P w K mg base CX0 (k + 1) f fd ["a", "b"] (SpG K (R_same m)) := by
  refine fn_okD Fn sc_same (fun κ M W h => ?_) fun cdv A outer s H E hr nd B0 F0 κ M W hR => ?_
  · obtain ⟨ns, rfl, _⟩ := h
    rfl
  · obtain ⟨d, hκ, hd, hW⟩ := hR
    have hκ : κ = [.d d, .d d] := hκ
    subst hκ
    have hW : ∀ M', W (.d (.bool true)) M' := hW
    have row : ∀ (ds : List PyData), (∀ M, Seq M (.d d) ds) → (ds.length ≤ 100000 ∧ ∃ m', m = m' + 1 ∧ ∀ y ∈ ds, SameOk m' y) → ∀ kk : KK, kk.rt = W → DB (cxOf CX0 P w K mg base ["a", "b", "k"] "_law_same" (defScope s__law_same) f cdv A outer s H E).nox B0 F0 M [.d d, .d d, .un] [] ((match defBody s__law_same with | .If _ b _ _ :: _ => b | _ => [])) kk := fun ds q ⟨hl, m', hm, hy⟩ kk hkk => by
      subst hkk
      have hl' : -(2 ^ 62) ≤ (ds.length : Int) ∧ (ds.length : Int) < 2 ^ 62 := by omega
      refine db_cons <| ds_ret <| de_and <| de_cmp op_eq <| de_len g_le <| nm 0 rfl ⟨ds, q _, de_len g_le <| nm 1 rfl ⟨ds, q _, r2_eqI ⟨_, rfl, waysT (decide_eq_true rfl) ?_⟩⟩⟩
      refine de_one <| de_all g_al <| de_lcF 2 (fun _ => .bool true) <| di_range1 g_ra <| da_cons <| de_len g_le <| nm 0 rfl ⟨ds, q _, da_nil ⟨_, rfl, hl'.1, hl'.2, ?_, fun _ _ _ => trivial, ?_, fun D => ⟨List.replicate ds.length true, ?_, ?_⟩⟩⟩
      · rw [rngD_len]; omega
      · intro y D acc hy' b
        obtain ⟨i, hi, rfl⟩ := rngD_mem hy'
        have hi : i < ds.length := by omega
        have e : atI ds (0 + (i : Int)) = some ds[i] := atI_at (by omega) (by rw [show ((0 : Int) + (i : Int)).toNat = i by omega]; exact List.getElem?_eq_getElem hi)
        exact de_pu (G m' hm) hr <| da_cons <| de_ix ix_seq <| nm 0 rfl <| nm 2 rfl <| r2_ix (q _) e <| da_cons <| de_ix ix_seq <| nm 1 rfl <| nm 2 rfl <| r2_ix (q _) e <| da_nil <| da_pu ds[i] rfl (hy _ (List.getElem_mem hi)) ⟨rfl, rfl⟩
      · rw [show ((rngD 0 ((ds.length : Nat) : Int).toNat).map fun _ => PyData.bool true) = (List.replicate ds.length true).map PyData.bool by
          rw [List.map_const', rngD_len, List.map_replicate, Int.toNat_natCast]]
        exact .cell List.mem_cons_self
      · rw [show (List.replicate ds.length true).all id = true by simp]
        exact hW _
    refine db_cons <| ds_if <| dt_w <| dw_orP <| dt_w <| dw_andP <| dt_val <| de_isi bt_tuple g_is g_tu <| nm 0 rfl ⟨d, _, rfl, kTup _ d, _, rfl, isTup d, fun _ => dw_and1 <| dt_val <| de_isi bt_tuple g_is g_tu <| nm 1 rfl ⟨d, _, rfl, kTup _ d, _, rfl, rfl, rfl⟩,
      isLst d && isLst d, fun _ => dw_or1 <| dt_w <| dw_andP <| dt_val <| de_isi bt_list g_is g_li <| nm 0 rfl ⟨d, _, rfl, kLst _ d, _, rfl, isLst d, fun _ => dw_and1 <| dt_val <| de_isi bt_list g_is g_li <| nm 1 rfl ⟨d, _, rfl, kLst _ d, _, rfl, rfl, rfl⟩, rfl, rfl⟩, ?_⟩
    have rest : isTup d = false → isLst d = false → DB (cxOf CX0 P w K mg base ["a", "b", "k"] "_law_same" (defScope s__law_same) f cdv A outer s H E).nox B0 F0 M [.d d, .d d, .un] [] ((defBody s__law_same).drop 1) { nx := fun M' ρ' => W (.d .none) M', rt := W } := fun h1 h2 => by
      refine db_cons <| ds_if <| dt_w <| dw_orP <| dt_val <| de_isi bt_bool g_is g_bo <| nm 0 rfl ⟨d, _, rfl, kBool _ d, _, rfl, isBool d, fun _ => dw_or1 <| dt_val <| de_isi bt_bool g_is g_bo <| nm 1 rfl ⟨d, _, rfl, kBool _ d, _, rfl, rfl, rfl⟩, ?_⟩
      cases d with
      | bool b =>
        refine waysT rfl <| db_cons <| ds_ret <| de_and <| de_isi bt_bool g_is g_bo <| nm 0 rfl ⟨_, _, rfl, kBool _ _, _, rfl, waysT rfl <| de_and <| de_isi bt_bool g_is g_bo <| nm 1 rfl ⟨_, _, rfl, kBool _ _, _, rfl, waysT rfl <| de_one <| de_cmp op_eq <| nm 0 rfl <| nm 1 rfl <| r2_eq rfl rfl rfl ?_⟩⟩
        cases b <;> exact hW _
      | tuple ds => cases h1
      | list ds => cases h2
      | dict _ => cases m <;> exact hd.elim
      | int i =>
        refine waysF rfl <| db_nil <| db_cons <| ds_if <| dt_w <| dw_orP <| dt_w <| dw_andP <| dt_val <| de_isi bt_int g_is g_in <| nm 0 rfl ⟨_, _, rfl, kInt _ _, _, rfl, true, fun _ => dw_and1 <| dt_val <| de_isi bt_int g_is g_in <| nm 1 rfl ⟨_, _, rfl, kInt _ _, _, rfl, rfl, rfl⟩, true, (fun h => by cases h), waysT rfl ?_⟩
        refine db_cons <| ds_ret <| de_cmp op_eq <| nm 0 rfl <| nm 1 rfl <| r2_eqI ?_
        rw [decide_eq_true rfl]
        exact hW _
      | str x =>
        refine waysF rfl <| db_nil <| db_cons <| ds_if <| dt_w <| dw_orP <| dt_w <| dw_andP <| dt_val <| de_isi bt_int g_is g_in <| nm 0 rfl ⟨_, _, rfl, kInt _ _, _, rfl, true, (fun h => by cases h), true, fun _ => dw_or1 <| dt_w <| dw_andP <| dt_val <| de_isi bt_str g_is g_st <| nm 0 rfl ⟨_, _, rfl, kStr _ _, _, rfl, true, fun _ => dw_and1 <| dt_val <| de_isi bt_str g_is g_st <| nm 1 rfl ⟨_, _, rfl, kStr _ _, _, rfl, rfl, rfl⟩, rfl, rfl⟩, waysT rfl ?_⟩
        refine db_cons <| ds_ret <| de_cmp op_eq <| nm 0 rfl <| nm 1 rfl <| r2_eq rfl rfl rfl ?_
        rw [decide_eq_true rfl]
        exact hW _
      | none =>
        refine waysF rfl <| db_nil <| db_cons <| ds_if <| dt_w <| dw_orP <| dt_w <| dw_andP <| dt_val <| de_isi bt_int g_is g_in <| nm 0 rfl ⟨_, _, rfl, kInt _ _, _, rfl, true, (fun h => by cases h), false, fun _ => dw_or1 <| dt_w <| dw_andP <| dt_val <| de_isi bt_str g_is g_st <| nm 0 rfl ⟨_, _, rfl, kStr _ _, _, rfl, true, (fun h => by cases h), rfl, rfl⟩, waysF rfl <| db_nil ?_⟩
        exact db_cons <| ds_ret <| de_and <| de_cmp op_isN <| nm 0 rfl <| de_non <| r2_isN ⟨_, rfl, waysT rfl <| de_one <| de_cmp op_isN <| nm 1 rfl <| de_non <| r2_isN (hW _)⟩
    cases h1 : isTup d with
    | true =>
      cases d with
      | tuple ds =>
        cases m with
        | zero => exact hd.elim
        | succ m => exact waysT rfl (row ds (fun _ => .tup ds) ⟨hd.1, m, rfl, hd.2⟩ _ rfl)
      | _ => cases h1
    | false =>
      cases h2 : isLst d with
      | true =>
        cases d with
        | list ds =>
          cases m with
          | zero => exact hd.elim
          | succ m => exact waysT rfl (row ds (fun _ => .lst ds) ⟨hd.1, m, rfl, hd.2⟩ _ rfl)
        | _ => cases h2
      | false => exact waysF rfl <| db_nil <| rest h1 h2
end
end H78
namespace H78
open PySem PySem.Spec PyProof.Rows L2 DL
section
variable {P : Program} {w : World} {K : PySem.W.Frag} {mg : Str → Option Value} {base : Heap} {f : Addr} {fd : FuncData}
theorem go_same (k : Nat) (Fn : FnP K "_law_same" s__law_same f fd) (gm : mg "_law_same" = some (.ref f)) (g_is : mg "isinstance" = none) (g_tu : mg "tuple" = none) (g_li : mg "list" = none) (g_bo : mg "bool" = none) (g_in : mg "int" = none) (g_st : mg "str" = none) (g_le : mg "len" = none) (g_al : mg "all" = none) (g_ra : mg "range" = none) :
    ∀ m, Go P w K mg base "_law_same" (k + 1 + m) ["a", "b"] (R_same m) := by
  have one : ∀ (j m : Nat), (∀ m', m = m' + 1 → Go P w K mg base "_law_same" j ["a", "b"] (R_same m')) → Go P w K mg base "_law_same" (j + 1) ["a", "b"] (R_same m) := fun j m h =>
    go_of Fn gm (fun _ _ _ _ _ _ us hl => match us, hl with | [_, _], _ => rfl) (ok_same1 Fn h g_is g_tu g_li g_bo g_in g_st g_le g_al g_ra)
  intro m
  induction m with
  | zero => exact one k 0 fun m' h => by omega
  | succ m ih =>
    refine one (k + 1 + m) (m + 1) fun m' h => ?_
    have : m = m' := by omega
    subst this
    exact ih
end
/-! ### the box -/
/-- the box stands at the end of the cells -/
inductive Box (bx cs : Addr) : Cs → Prop
  | mk (ns : List Int) (dg sd : Int) : Box bx cs [(bx, .raw (.lst [.ref cs, .int dg, .int sd])), (cs, .lst (ns.map .int))]
def R_load (bx cs : Addr) : List Sl → Cs → (Sl → Cs → Prop) → Prop := fun κ M W => κ = [.v (.ref bx)] ∧ Box bx cs M ∧ ∀ (i : Int) M', Box bx cs M' → W (.d (.int i)) M'
def R_draw (bx cs : Addr) : List Sl → Cs → (Sl → Cs → Prop) → Prop := fun κ M W => ∃ m : Int, κ = [.v (.ref bx), .d (.int m)] ∧ Box bx cs M ∧ 0 < m ∧ m < 2 ^ 200 ∧ ∀ (i : Int) M', 0 ≤ i → i < m → Box bx cs M' → W (.d (.int i)) M'
section
variable {P : Program} {w : World} {K : PySem.W.Frag} {mg : Str → Option Value} {base : Heap} {f : Addr} {fd : FuncData} {bx cs : Addr}
theorem sc_load : FnScope ["box", "cells", "cell", "size", "first", "second"] ["box"] (defScope s__law_load) := ⟨rfl, rfl, rfl, by decide +kernel, rfl, by decide +kernel, by decide +kernel⟩
theorem cmulL {i : Int} (c : Int) (h : -(2 ^ 64) < c ∧ c < 2 ^ 64) : CMul i c := .inr h
theorem cmulF {i : Int} (c : Int) (h : -(2 ^ 64) < c ∧ c < 2 ^ 64) : CMul c i := .inl h
theorem ok_load {k : Nat} (Fn : FnP K "_law_load" s__law_load f fd) (g_le : mg "len" = none) (g_in : mg "int" = none) : FnOk P w K mg base CX0 (k + 1) f fd ["box"] (SpG K (R_load bx cs)) := by
  refine fn_okD Fn sc_load (fun κ M W h => ?_) fun cdv A outer s H E hr nd B0 F0 κ M W hR => ?_
  · obtain ⟨rfl, _⟩ := h
    rfl
  · obtain ⟨rfl, hb, hW⟩ := hR
    obtain ⟨ns, dg, sd⟩ := hb
    have tail : ∀ (ns' : List Int) (sd' : Int) (s2 s3 : Sl), DB (cxOf CX0 P w K mg base ["box", "cells", "cell", "size", "first", "second"] "_law_load" (defScope s__law_load) f cdv A outer s H E).nox B0 F0 [(bx, .raw (.lst [.ref cs, .int dg, .int sd'])), (cs, .lst (ns'.map .int))] [.v (.ref bx), .v (.ref cs), s2, s3, .un, .un] [] ((defBody s__law_load).drop 2) { nx := fun M' ρ' => W (.d .none) M', rt := W } := by
      intro ns' sd' s2 s3
      refine db_cons <| ds_set 4 <| de_op op_mod <| de_callTy call_int1 g_in bt_int <| da_cons <| de_op op_add <| de_op op_mul <| de_ix ix_list <| nm 0 rfl <| de_int <| r2_ixRaw (ws := [.ref cs, .int dg, .int sd']) (v := .int sd') (by simp) rfl <| de_int <| r2_c (cmulL _ (by decide)) <| de_int <| r2_i <| da_nil <| rn_int <| de_int <| r2_c (by decide) ?_
      refine db_cons <| ds_set 5 <| de_op op_mod <| de_callTy call_int1 g_in bt_int <| da_cons <| de_op op_add <| de_op op_mul <| nm 4 rfl <| de_int <| r2_c (cmulL _ (by decide)) <| de_int <| r2_i <| da_nil <| rn_int <| de_int <| r2_c (by decide) ?_
      refine db_cons <| ds_asg <| de_op op_mod <| de_callTy call_int1 g_in bt_int <| da_cons <| de_op op_add <| de_op op_mul <| nm 5 rfl <| de_int <| r2_c (cmulL _ (by decide)) <| de_int <| r2_i <| da_nil <| rn_int <| de_int <| r2_c (by decide) <| dg_subRaw 0 <| nm 0 rfl <| de_int ⟨bx, [.ref cs, .int dg, .int sd'], .int _, 2, 2, rfl, rfl, rfl, rfl, rfl, ?_⟩
      refine db_cons <| ds_ret <| de_op op_add <| de_op op_add <| de_op op_mul <| nm 4 rfl <| de_int <| r2_c (cmulL _ (by decide)) <| de_op op_mul <| nm 5 rfl <| de_int <| r2_c (cmulL _ (by decide)) <| r2_i <| de_ix ix_list <| nm 0 rfl <| de_int <| r2_ixRaw (ws := [.ref cs, .int dg, .int _]) (v := .int _) (by simp; rfl) rfl <| r2_i ?_
      exact hW _ _ (.mk _ _ _)
    refine db_cons <| ds_set 1 <| de_ix ix_list <| nm 0 rfl <| de_int <| r2_ixRaw (ws := [.ref cs, .int dg, .int sd]) (v := .ref cs) (by simp) rfl ?_
    refine db_cons <| ds_if <| dt_cmp op_gt <| de_len g_le <| nm 1 rfl ⟨ns.map .int, .cell (by simp), de_int <| r2_t ?_⟩
    refine waysD (fun c => ?_) (fun c => db_nil (tail ns sd .un .un))
    cases ns with
    | nil => simp at c
    | cons n ns =>
      refine db_cons <| ds_set 2 <| de_callTy call_int1 g_in bt_int <| da_cons <| de_popAt 1 <| nm 1 rfl ⟨cs, _, rfl, by simp; rfl, de_int ⟨_, 0, 0, _, rfl, rfl, by decide, by decide, ?_, rfl, da_nil <| rn_int ?_⟩⟩
      · simp [seqIndex?]
      refine db_cons <| ds_set 3 <| de_ifexp <| dt_cmp op_ge <| nm 2 rfl <| de_int <| r2_t ?_
      have two : ∀ (z : Int), DB (cxOf CX0 P w K mg base ["box", "cells", "cell", "size", "first", "second"] "_law_load" (defScope s__law_load) f cdv A outer s H E).nox B0 F0 [(bx, .raw (.lst [.ref cs, .int dg, .int sd])), (cs, .lst (ns.map .int))] [.v (.ref bx), .v (.ref cs), .d (.int n), .d (.int z), .un, .un] [] ((match (defBody s__law_load).getD 1 (.Pass ⟨0, 0, 0, 0⟩) with | .If _ b _ _ => b.drop 2 | _ => [])) { nx := fun M' ρ' => DB (cxOf CX0 P w K mg base ["box", "cells", "cell", "size", "first", "second"] "_law_load" (defScope s__law_load) f cdv A outer s H E).nox B0 F0 M' ρ' [] ((defBody s__law_load).drop 2) { nx := fun M' ρ' => W (.d .none) M', rt := W }, rt := W } := by
        intro z
        refine db_cons <| ds_if <| dt_cmp op_ge <| nm 3 rfl <| de_int <| r2_t ?_
        refine waysD (fun c => db_cons <| ds_ret <| nm 3 rfl <| hW _ _ (.mk _ _ _)) (fun c => db_nil ?_)
        refine db_cons <| ds_asg <| de_op op_mod <| de_callTy call_int1 g_in bt_int <| da_cons <| de_op op_add <| de_op op_add <| de_op op_mul <| de_ix ix_list <| nm 0 rfl <| de_int <| r2_ixRaw (ws := [.ref cs, .int dg, .int sd]) (v := .int sd) (by simp) rfl <| de_int <| r2_c (cmulL _ (by decide)) <| de_op op_mul <| nm 3 rfl <| de_int <| r2_c (cmulL _ (by decide)) <| r2_i <| de_int <| r2_i <| da_nil <| rn_int <| de_int <| r2_c (by decide) <| dg_subRaw 0 <| nm 0 rfl <| de_int ⟨bx, [.ref cs, .int dg, .int sd], .int _, 2, 2, rfl, rfl, rfl, rfl, rfl, ?_⟩
        exact db_nil (tail ns _ _ _)
      refine waysD (fun c => ?_) (fun c => ?_)
      · exact de_op op_mul <| de_int <| nm 2 rfl <| r2_c (cmulF _ (by decide)) <| two _
      · exact de_op op_sub <| de_op op_mul <| de_unop un_neg <| de_int <| r1_U (fun _ => .int _) <| nm 2 rfl <| r2_c (cmulF _ (by decide)) <| de_int <| r2_i <| two _
end
end H78
namespace H78
open PySem PySem.Spec PyProof.Rows L2 DL
def R_box : List Sl → Cs → (Sl → Cs → Prop) → Prop := fun κ M W => ∃ ns : List Int, ns.length ≤ 100000 ∧ κ = [.rd (iL ns)] ∧ M = [] ∧ ∀ bx cs M', Box bx cs M' → W (.v (.ref bx)) M'
section
variable {P : Program} {w : World} {K : PySem.W.Frag} {mg : Str → Option Value} {base : Heap} {f : Addr} {fd : FuncData} {bx cs : Addr}
theorem sc_draw : FnScope ["box", "many", "digit"] ["box", "many"] (defScope s__law_draw) := ⟨rfl, rfl, rfl, by decide +kernel, rfl, by decide +kernel, by decide +kernel⟩
theorem log_200 {m : Int} (h0 : 0 < m) (h : m < 2 ^ 200) : m.natAbs.log2 < 9000 := by
  have h1 : m.natAbs < 2 ^ 200 := by
    have : ((m.natAbs : Nat) : Int) < ((2 ^ 200 : Nat) : Int) := by rw [Int.natAbs_of_nonneg (by omega)]; exact_mod_cast h
    exact Int.ofNat_lt.mp this
  exact Nat.lt_of_lt_of_le ((Nat.log2_lt (by omega)).mpr h1) (by decide)
theorem ok_draw {k : Nat} (Fn : FnP K "_law_draw" s__law_draw f fd) (G : Go P w K mg base "_law_load" k ["box"] (R_load bx cs)) (g_in : mg "int" = none) : FnOk P w K mg base CX0 (k + 1) f fd ["box", "many"] (SpG K (R_draw bx cs)) := by
  refine fn_okD Fn sc_draw (fun κ M W h => ?_) fun cdv A outer s H E hr nd B0 F0 κ M W hR => ?_
  · obtain ⟨m, rfl, _⟩ := h
    rfl
  · obtain ⟨m, rfl, hb, h0, hm, hW⟩ := hR
    have tail : ∀ M, Box bx cs M → DB (cxOf CX0 P w K mg base ["box", "many", "digit"] "_law_draw" (defScope s__law_draw) f cdv A outer s H E).nox B0 F0 M [.v (.ref bx), .d (.int m), .un] [] ((defBody s__law_draw).drop 1) { nx := fun M' ρ' => W (.d .none) M', rt := W } := by
      rintro M ⟨ns, dg, sd⟩
      refine db_cons <| ds_set 2 <| de_op op_mod <| de_callTy call_int1 g_in bt_int <| da_cons <| de_ix ix_list <| nm 0 rfl <| de_int <| r2_ixRaw (ws := [.ref cs, .int dg, .int sd]) (v := .int dg) (by simp) rfl <| da_nil <| rn_int <| nm 1 rfl <| r2_c h0 ?_
      refine db_cons <| ds_asg <| de_op op_fdivW <| de_ix ix_list <| nm 0 rfl <| de_int <| r2_ixRaw (ws := [.ref cs, .int dg, .int sd]) (v := .int dg) (by simp) rfl <| nm 1 rfl <| r2_c ⟨h0, log_200 h0 hm⟩ <| dg_subRaw 0 <| nm 0 rfl <| de_int ⟨bx, [.ref cs, .int dg, .int sd], .int _, 1, 1, rfl, rfl, rfl, rfl, rfl, ?_⟩
      exact db_cons <| ds_ret <| nm 2 rfl <| hW _ _ (Int.emod_nonneg _ (by omega)) (Int.emod_lt_of_pos _ h0) (.mk _ _ _)
    obtain ⟨ns, dg, sd⟩ := hb
    refine db_cons <| ds_if <| dt_cmp op_lt <| de_ix ix_list <| nm 0 rfl <| de_int <| r2_ixRaw (ws := [.ref cs, .int dg, .int sd]) (v := .int dg) (by simp) rfl <| nm 1 rfl <| r2_t ?_
    refine waysD (fun c => ?_) (fun c => db_nil (tail _ (.mk _ _ _)))
    refine db_cons <| ds_asg <| de_goJ 0 G hr <| da_cons <| nm 0 rfl <| da_nil ⟨rfl, .mk ns dg sd, fun i M' hb => ⟨trivial, ?_⟩⟩
    obtain ⟨ns', dg', sd'⟩ := hb
    exact dg_subRaw 0 <| nm 0 rfl <| de_int ⟨bx, [.ref cs, .int dg', .int sd'], .int i, 1, 1, rfl, rfl, rfl, rfl, rfl, db_nil (tail _ (.mk ns' i sd'))⟩
theorem cutI (ns : List Int) (l u : Option Int) : ∃ ms, DL.cutD (iL ns) l u = iL ms := by
  unfold DL.cutD
  rw [← List.map_drop, ← List.map_take]
  exact ⟨_, rfl⟩
theorem sc_box : FnScope ["script"] ["script"] (defScope s__law_box) := ⟨rfl, rfl, rfl, by decide +kernel, rfl, by decide +kernel, by decide +kernel⟩
theorem ok_box {k : Nat} (Fn : FnP K "_law_box" s__law_box f fd) (g_le : mg "len" = none) (g_li : mg "list" = none) : FnOk P w K mg base CX0 (k + 1) f fd ["script"] (SpG K R_box) := by
  refine fn_okD Fn sc_box (fun κ M W h => ?_) fun cdv A outer s H E hr nd B0 F0 κ M W hR => ?_
  · obtain ⟨m, _, rfl, _⟩ := h
    rfl
  · obtain ⟨ns, hl, rfl, rfl, hW⟩ := hR
    refine db_cons <| ds_ret <| de_lstRaw <| da_cons <| de_listOf g_li <| de_freeze <| de_slice sl_list <| nm 0 rfl <| do_none <| do_some <| de_int ⟨_, rfl, rs_listC (.rd _) fun p => ⟨p, _, _, rfl, rfl, _, .lst _, fun cs => da_cons <| de_int <| da_cons <| de_op op_add <| de_int <| de_len g_le <| nm 0 rfl ⟨_, .rd _, r2_i <| da_nil ⟨[.ref cs, .int 0, .int _], rfl, z3, fun bx => ?_⟩⟩⟩⟩
    obtain ⟨ms, hm⟩ := cutI ns none (some 63)
    rw [hm]
    exact hW bx cs _ (.mk _ _ _)
end
end H78
set_option maxHeartbeats 4000000
namespace KY
/-! ### the least missing number -/
def mexF (l : List Nat) : Nat → Nat → Nat
  | 0, k => k
  | f + 1, k => if k ∈ l then mexF l f (k + 1) else k
def mex (l : List Nat) : Nat := mexF l (l.sum + 1) 0
def IsMex (l : List Nat) (m : Nat) : Prop := m ∉ l ∧ ∀ k, k < m → k ∈ l
theorem mexF_spec (l : List Nat) : ∀ (f k : Nat), (∀ j, j < k → j ∈ l) → (∀ j, j < mexF l f k → j ∈ l) ∧ (mexF l f k ∉ l ∨ mexF l f k = k + f)
  | 0, k, h => ⟨h, .inr rfl⟩
  | f + 1, k, h => by
    unfold mexF
    by_cases c : k ∈ l
    · rw [if_pos c]
      obtain ⟨h1, h2⟩ := mexF_spec l f (k + 1) fun j hj => by
        by_cases e : j = k
        · rw [e]; exact c
        · exact h j (by omega)
      refine ⟨h1, h2.imp id fun e => by omega⟩
    · rw [if_neg c]
      exact ⟨h, .inl c⟩
theorem le_sum {l : List Nat} {x : Nat} (h : x ∈ l) : x ≤ l.sum := by
  induction l with
  | nil => cases h
  | cons y l ih =>
    rw [List.sum_cons]
    rcases List.mem_cons.mp h with rfl | h
    · omega
    · have := ih h; omega
theorem mex_spec (l : List Nat) : IsMex l (mex l) := by
  obtain ⟨h1, h2⟩ := mexF_spec l (l.sum + 1) 0 fun j hj => by omega
  refine ⟨?_, h1⟩
  rcases h2 with h | h
  · exact h
  · intro hm
    have := le_sum hm
    unfold mex at this
    omega
theorem IsMex.uniq {l m : List Nat} {x y : Nat} (e : ∀ k, k ∈ l ↔ k ∈ m) (h : IsMex l x) (h' : IsMex m y) : x = y := by
  rcases Nat.lt_trichotomy x y with c | c | c
  · exact absurd ((e x).mpr (h'.2 x c)) h.1
  · exact c
  · exact absurd ((e y).mp (h.2 y c)) h'.1
theorem mex_eq {l : List Nat} {x : Nat} (h : IsMex l x) : x = mex l := h.uniq (fun _ => Iff.rfl) (mex_spec l)
theorem mex_congr {l m : List Nat} (e : ∀ k, k ∈ l ↔ k ∈ m) : mex l = mex m := (mex_spec l).uniq e (mex_spec m)
/-! ### sums without carry -/
theorem lt_of_bit {x y k : Nat} (h1 : x.testBit k = false) (h2 : y.testBit k = true) (h3 : ∀ j, k < j → x.testBit j = y.testBit j) : x < y := by
  have hh : x / 2 ^ (k + 1) = y / 2 ^ (k + 1) := Nat.eq_of_testBit_eq fun i => by
    rw [Nat.testBit_div_two_pow, Nat.testBit_div_two_pow]
    exact h3 _ (by omega)
  rw [Nat.pow_succ, ← Nat.div_div_eq_div_mul, ← Nat.div_div_eq_div_mul] at hh
  rw [Nat.testBit_eq_decide_div_mod_eq] at h1 h2
  have h1 : ¬ x / 2 ^ k % 2 = 1 := of_decide_eq_false h1
  have h2 : y / 2 ^ k % 2 = 1 := of_decide_eq_true h2
  refine Classical.byContradiction fun c => ?_
  have := Nat.div_le_div_right (c := 2 ^ k) (show y ≤ x by omega)
  omega
theorem top_bit {x y : Nat} (h : x < y) : ∃ k, x.testBit k = false ∧ y.testBit k = true ∧ ∀ j, k < j → x.testBit j = y.testBit j := by
  have hne : x ^^^ y ≠ 0 := fun e => by
    have : x = y := by
      have h1 : (x ^^^ y) ^^^ y = y := by rw [e, Nat.zero_xor]
      rw [Nat.xor_assoc, Nat.xor_self, Nat.xor_zero] at h1
      exact h1
    omega
  have above : ∀ j, (x ^^^ y).log2 < j → x.testBit j = y.testBit j := fun j hj => by
    have h1 : (x ^^^ y).testBit j = false := Nat.testBit_lt_two_pow (Nat.lt_of_lt_of_le Nat.lt_log2_self (Nat.pow_le_pow_right (by decide) hj))
    rw [Nat.testBit_xor] at h1
    cases p : x.testBit j <;> cases q : y.testBit j <;> simp_all
  have at_ : (x ^^^ y).testBit (x ^^^ y).log2 = true := by
    have h1 : 2 ^ (x ^^^ y).log2 ≤ x ^^^ y := Nat.log2_self_le hne
    have h2 : x ^^^ y < 2 ^ ((x ^^^ y).log2 + 1) := Nat.lt_log2_self
    rw [Nat.testBit_eq_decide_div_mod_eq]
    have h3 : (x ^^^ y) / 2 ^ (x ^^^ y).log2 = 1 := by
      refine Nat.div_eq_of_lt_le (by omega) ?_
      rw [Nat.pow_succ] at h2
      omega
    rw [h3]
    rfl
  rw [Nat.testBit_xor] at at_
  refine ⟨(x ^^^ y).log2, ?_, ?_, above⟩
  · cases p : x.testBit (x ^^^ y).log2 with
    | false => rfl
    | true =>
      have q : y.testBit (x ^^^ y).log2 = false := by rw [p] at at_; simpa using at_
      have := lt_of_bit q p fun j hj => (above j hj).symm
      omega
  · cases q : y.testBit (x ^^^ y).log2 with
    | true => rfl
    | false =>
      have p : x.testBit (x ^^^ y).log2 = true := by rw [q] at at_; simpa using at_
      have := lt_of_bit q p fun j hj => (above j hj).symm
      omega
theorem lt_xor_cases {a b c : Nat} (h : c < a ^^^ b) : c ^^^ b < a ∨ a ^^^ c < b := by
  obtain ⟨k, h1, h2, h3⟩ := top_bit h
  rw [Nat.testBit_xor] at h2
  cases p : a.testBit k with
  | true =>
    refine .inl (lt_of_bit (k := k) ?_ p fun j hj => ?_)
    · rw [Nat.testBit_xor, h1]
      rw [p] at h2
      simpa using h2
    · rw [Nat.testBit_xor, h3 j hj, Nat.testBit_xor]
      cases a.testBit j <;> cases b.testBit j <;> rfl
  | false =>
    have q : b.testBit k = true := by rw [p] at h2; simpa using h2
    refine .inr (lt_of_bit (k := k) ?_ q fun j hj => ?_)
    · rw [Nat.testBit_xor, h1, p]; rfl
    · rw [Nat.testBit_xor, h3 j hj, Nat.testBit_xor]
      cases a.testBit j <;> cases b.testBit j <;> rfl
theorem xor_cancel (a b : Nat) : a ^^^ b ^^^ b = a := by rw [Nat.xor_assoc, Nat.xor_self, Nat.xor_zero]
theorem xor_inj {a b c : Nat} (h : a ^^^ c = b ^^^ c) : a = b := by rw [← xor_cancel a c, h, xor_cancel]
theorem xor_injL {a b c : Nat} (h : c ^^^ a = c ^^^ b) : a = b := xor_inj (c := c) (by rw [Nat.xor_comm a c, Nat.xor_comm b c]; exact h)
/-! ### games on rows of places -/
abbrev Mv := List Nat → List (List Nat)
def gv (mv : Mv) : Nat → List Nat → Nat
  | 0, _ => 0
  | f + 1, S => mex ((mv S).map (gv mv f))
structure Short (mv : Mv) : Prop where
  lt : ∀ S S', S' ∈ mv S → S'.length < S.length
theorem gv_stable {mv : Mv} (sh : Short mv) : ∀ (n f g : Nat) (S : List Nat), S.length ≤ n → S.length ≤ f → S.length ≤ g → gv mv f S = gv mv g S
  | n, f, g, S, hn, hf, hg => by
    have emp : S.length = 0 → mv S = [] := fun h => by
      cases q : mv S with
      | nil => rfl
      | cons a l => have := sh.lt S a (by rw [q]; exact List.mem_cons_self); omega
    have one : ∀ f, S.length = 0 → gv mv f S = mex [] := fun f h => by
      cases f with
      | zero => rfl
      | succ f => rw [gv, emp h]; rfl
    cases n with
    | zero => rw [one f (by omega), one g (by omega)]
    | succ n =>
      by_cases h0 : S.length = 0
      · rw [one f h0, one g h0]
      · cases f with
        | zero => omega
        | succ f =>
          cases g with
          | zero => omega
          | succ g =>
            rw [gv, gv]
            congr 1
            refine List.map_congr_left fun S' hS' => ?_
            have := sh.lt S S' hS'
            exact gv_stable sh n f g S' (by omega) (by omega) (by omega)
def val (mv : Mv) (S : List Nat) : Nat := gv mv S.length S
theorem val_eq {mv : Mv} (sh : Short mv) (S : List Nat) : val mv S = mex ((mv S).map (val mv)) := by
  unfold val
  rw [gv_stable sh (S.length + 1) S.length (S.length + 1) S (by omega) (by omega) (by omega), gv]
  congr 1
  refine List.map_congr_left fun S' hS' => ?_
  have := sh.lt S S' hS'
  exact gv_stable sh S.length S.length S'.length S' (by omega) (by omega) (by omega)
theorem val_mex {mv : Mv} (sh : Short mv) (S : List Nat) : IsMex ((mv S).map (val mv)) (val mv S) := by
  rw [val_eq sh]
  exact mex_spec _
/-- apart: no edge leads from one side to the other -/
def Apart (adj : Nat → Nat → Bool) (a : Nat → Bool) (S : List Nat) : Prop := ∀ p ∈ S, ∀ q ∈ S, a p ≠ a q → adj p q = false
structure Splits (mv : Mv) (adj : Nat → Nat → Bool) : Prop where
  sub : ∀ S S', S' ∈ mv S → S' ⊆ S
  one : ∀ a S S', Apart adj a S → S' ∈ mv S → (S'.filter a ∈ mv (S.filter a) ∧ S'.filter (fun q => !a q) = S.filter fun q => !a q) ∨ (S'.filter a = S.filter a ∧ S'.filter (fun q => !a q) ∈ mv (S.filter fun q => !a q))
  two : ∀ a S A', Apart adj a S → A' ∈ mv (S.filter a) → ∃ S' ∈ mv S, S'.filter a = A' ∧ S'.filter (fun q => !a q) = S.filter fun q => !a q
theorem Apart.not {adj : Nat → Nat → Bool} {a : Nat → Bool} {S : List Nat} (h : Apart adj a S) : Apart adj (fun q => !a q) S := fun p hp q hq e => h p hp q hq fun e2 => e (by show (!a p) = (!a q); rw [e2])
/-- side by side: the sum without carry -/
theorem val_split {mv : Mv} {adj : Nat → Nat → Bool} (sh : Short mv) (sp : Splits mv adj) (a : Nat → Bool) : ∀ (n : Nat) (S : List Nat), S.length ≤ n → Apart adj a S → val mv S = val mv (S.filter a) ^^^ val mv (S.filter fun q => !a q)
  | n, S, hn, hA => by
    have ih : ∀ S' ∈ mv S, val mv S' = val mv (S'.filter a) ^^^ val mv (S'.filter fun q => !a q) := fun S' hS' => by
      have hl := sh.lt S S' hS'
      cases n with
      | zero => omega
      | succ n => exact val_split sh sp a n S' (by omega) fun p hp q hq => hA p (sp.sub S S' hS' hp) q (sp.sub S S' hS' hq)
    refine (val_mex sh S).uniq (fun _ => Iff.rfl) ⟨fun hm => ?_, fun k hk => ?_⟩
    · obtain ⟨S', hS', e⟩ := List.mem_map.mp hm
      rw [ih S' hS'] at e
      rcases sp.one a S S' hA hS' with ⟨h1, h2⟩ | ⟨h1, h2⟩
      · rw [h2] at e
        exact (val_mex sh _).1 (List.mem_map.mpr ⟨_, h1, xor_inj e⟩)
      · rw [h1] at e
        exact (val_mex sh _).1 (List.mem_map.mpr ⟨_, h2, xor_injL e⟩)
    · rcases lt_xor_cases hk with h | h
      · obtain ⟨A', hA', e⟩ := List.mem_map.mp ((val_mex sh _).2 _ h)
        obtain ⟨S', hS', e1, e2⟩ := sp.two a S A' hA hA'
        refine List.mem_map.mpr ⟨S', hS', ?_⟩
        rw [ih S' hS', e1, e2, e, xor_cancel]
      · obtain ⟨A', hA', e⟩ := List.mem_map.mp ((val_mex sh _).2 _ h)
        obtain ⟨S', hS', e1, e2⟩ := sp.two (fun q => !a q) S A' hA.not hA'
        have e3 : S'.filter a = S.filter a := by
          have : ∀ l : List Nat, l.filter (fun q => !(fun q => !a q) q) = l.filter a := fun l => by simp
          rw [← this S', ← this S]
          exact e2
        refine List.mem_map.mpr ⟨S', hS', ?_⟩
        rw [ih S' hS', e3, e1, e, ← Nat.xor_assoc, Nat.xor_self, Nat.zero_xor]
/-! ### taking places, taking edges -/
def mvV (adj : Nat → Nat → Bool) : Mv := fun S => S.map fun p => S.filter fun q => q != p && !adj p q
def mvE (adj : Nat → Nat → Bool) : Mv := fun S => S.flatMap fun i => (S.filter fun j => adj i j).map fun j => S.filter fun q => q != i && q != j
theorem filter_lt {S : List Nat} {f : Nat → Bool} {p : Nat} (hp : p ∈ S) (hf : f p = false) : (S.filter f).length < S.length := by
  induction S with
  | nil => cases hp
  | cons x S ih =>
    rw [List.filter_cons]
    rcases List.mem_cons.mp hp with rfl | hp
    · rw [hf]
      exact Nat.lt_succ_of_le (List.length_filter_le _ _)
    · have := ih hp
      split
      · rw [List.length_cons, List.length_cons]; omega
      · rw [List.length_cons]; omega
theorem short_V (adj : Nat → Nat → Bool) : Short (mvV adj) := ⟨fun S S' h => by
  obtain ⟨p, hp, rfl⟩ := List.mem_map.mp h
  exact filter_lt hp (by simp)⟩
theorem short_E (adj : Nat → Nat → Bool) : Short (mvE adj) := ⟨fun S S' h => by
  obtain ⟨i, hi, h⟩ := List.mem_flatMap.mp h
  obtain ⟨j, hj, rfl⟩ := List.mem_map.mp h
  exact filter_lt hi (by simp)⟩
theorem filter_comm (f g : Nat → Bool) (S : List Nat) : (S.filter f).filter g = (S.filter g).filter f := by
  rw [List.filter_filter, List.filter_filter]
  exact List.filter_congr fun x _ => Bool.and_comm _ _
theorem filter_keep {f g : Nat → Bool} {S : List Nat} (h : ∀ q ∈ S, g q = true → f q = true) : (S.filter f).filter g = S.filter g := by
  rw [List.filter_filter]
  refine List.filter_congr fun q hq => ?_
  cases e : g q with
  | false => rfl
  | true => rw [h q hq e]; rfl
theorem splits_V (adj : Nat → Nat → Bool) : Splits (mvV adj) adj where
  sub := fun S S' h => by
    obtain ⟨p, hp, rfl⟩ := List.mem_map.mp h
    exact fun x hx => (List.mem_filter.mp hx).1
  one := fun a S S' hA h => by
    obtain ⟨p, hp, rfl⟩ := List.mem_map.mp h
    cases e : a p with
    | true =>
      refine .inl ⟨?_, filter_keep fun q hq hn => ?_⟩
      · rw [filter_comm]
        exact List.mem_map.mpr ⟨p, List.mem_filter.mpr ⟨hp, e⟩, rfl⟩
      · have hn : a q = false := by simpa using hn
        have h1 := hA p hp q hq (by rw [e, hn]; decide)
        have h2 : q ≠ p := fun z => by rw [z, e] at hn; cases hn
        simp [h1, h2]
    | false =>
      refine .inr ⟨filter_keep fun q hq hn => ?_, ?_⟩
      · have h1 := hA p hp q hq (by rw [e, hn]; decide)
        have h2 : q ≠ p := fun z => by rw [z, e] at hn; cases hn
        simp [h1, h2]
      · rw [filter_comm]
        exact List.mem_map.mpr ⟨p, List.mem_filter.mpr ⟨hp, by simp [e]⟩, rfl⟩
  two := fun a S A' hA h => by
    obtain ⟨p, hp, rfl⟩ := List.mem_map.mp h
    obtain ⟨hp, e⟩ := List.mem_filter.mp hp
    refine ⟨_, List.mem_map.mpr ⟨p, hp, rfl⟩, filter_comm _ _ _, filter_keep fun q hq hn => ?_⟩
    have hn : a q = false := by simpa using hn
    have h1 := hA p hp q hq (by rw [e, hn]; decide)
    have h2 : q ≠ p := fun z => by rw [z, e] at hn; cases hn
    simp [h1, h2]
theorem splits_E (adj : Nat → Nat → Bool) : Splits (mvE adj) adj where
  sub := fun S S' h => by
    obtain ⟨i, hi, h⟩ := List.mem_flatMap.mp h
    obtain ⟨j, hj, rfl⟩ := List.mem_map.mp h
    exact fun x hx => (List.mem_filter.mp hx).1
  one := fun a S S' hA h => by
    obtain ⟨i, hi, h⟩ := List.mem_flatMap.mp h
    obtain ⟨j, hj, rfl⟩ := List.mem_map.mp h
    obtain ⟨hj, hij⟩ := List.mem_filter.mp hj
    have same : a i = a j := Classical.byContradiction fun z => by rw [hA i hi j hj z] at hij; cases hij
    cases e : a i with
    | true =>
      refine .inl ⟨?_, filter_keep fun q hq hn => ?_⟩
      · rw [filter_comm]
        exact List.mem_flatMap.mpr ⟨i, List.mem_filter.mpr ⟨hi, e⟩, List.mem_map.mpr ⟨j, List.mem_filter.mpr ⟨List.mem_filter.mpr ⟨hj, by rw [← same, e]⟩, hij⟩, rfl⟩⟩
      · have hn : a q = false := by simpa using hn
        have h1 : q ≠ i := fun z => by rw [z, e] at hn; cases hn
        have h2 : q ≠ j := fun z => by rw [z, ← same, e] at hn; cases hn
        simp [h1, h2]
    | false =>
      refine .inr ⟨filter_keep fun q hq hn => ?_, ?_⟩
      · have h1 : q ≠ i := fun z => by rw [z, e] at hn; cases hn
        have h2 : q ≠ j := fun z => by rw [z, ← same, e] at hn; cases hn
        simp [h1, h2]
      · rw [filter_comm]
        exact List.mem_flatMap.mpr ⟨i, List.mem_filter.mpr ⟨hi, by simp [e]⟩, List.mem_map.mpr ⟨j, List.mem_filter.mpr ⟨List.mem_filter.mpr ⟨hj, by simp [← same, e]⟩, hij⟩, rfl⟩⟩
  two := fun a S A' hA h => by
    obtain ⟨i, hi, h⟩ := List.mem_flatMap.mp h
    obtain ⟨j, hj, rfl⟩ := List.mem_map.mp h
    obtain ⟨hj, hij⟩ := List.mem_filter.mp hj
    obtain ⟨hi, ei⟩ := List.mem_filter.mp hi
    obtain ⟨hj, ej⟩ := List.mem_filter.mp hj
    refine ⟨_, List.mem_flatMap.mpr ⟨i, hi, List.mem_map.mpr ⟨j, List.mem_filter.mpr ⟨hj, hij⟩, rfl⟩⟩, filter_comm _ _ _, filter_keep fun q hq hn => ?_⟩
    have hn : a q = false := by simpa using hn
    have h1 : q ≠ i := fun z => by rw [z, ei] at hn; cases hn
    have h2 : q ≠ j := fun z => by rw [z, ej] at hn; cases hn
    simp [h1, h2]
end KY
set_option maxHeartbeats 4000000
namespace KY
/-- two like halves that are not next to each other: 0 -/
theorem val_sym {adj : Nat → Nat → Bool} {τ : Nat → Nat} (h1 : ∀ p, τ (τ p) = p) (h2 : ∀ p, τ p ≠ p) (h3 : ∀ p, adj p (τ p) = false) (h4 : ∀ p q, adj (τ p) (τ q) = adj p q) : ∀ (n : Nat) (S : List Nat), S.length ≤ n → (∀ p ∈ S, τ p ∈ S) → val (mvV adj) S = 0
  | n, S, hn, hS => by
    refine (val_mex (short_V adj) S).uniq (fun _ => Iff.rfl) ⟨fun hm => ?_, fun k hk => by omega⟩
    obtain ⟨S', hS', e⟩ := List.mem_map.mp hm
    obtain ⟨p, hp, rfl⟩ := List.mem_map.mp hS'
    have hl : (S.filter fun q => q != p && !adj p q).length < S.length := filter_lt hp (by simp)
    have ht : τ p ∈ S.filter fun q => q != p && !adj p q := List.mem_filter.mpr ⟨hS p hp, by simp [h2 p, h3 p]⟩
    have hl2 : ((S.filter fun q => q != p && !adj p q).filter fun q => q != τ p && !adj (τ p) q).length < (S.filter fun q => q != p && !adj p q).length := filter_lt ht (by simp)
    cases n with
    | zero => omega
    | succ n =>
      have z : val (mvV adj) ((S.filter fun q => q != p && !adj p q).filter fun q => q != τ p && !adj (τ p) q) = 0 := by
        refine val_sym h1 h2 h3 h4 n _ (by omega) fun x hx => ?_
        obtain ⟨hx1, c1⟩ := List.mem_filter.mp hx
        obtain ⟨hx2, c2⟩ := List.mem_filter.mp hx1
        simp at c1 c2
        have e1 : adj p (τ x) = adj (τ p) x := by rw [← h4 p (τ x), h1]
        have e2 : adj (τ p) (τ x) = adj p x := h4 p x
        refine List.mem_filter.mpr ⟨List.mem_filter.mpr ⟨hS x hx2, ?_⟩, ?_⟩
        · have : τ x ≠ p := fun q => c1.1 (by rw [← q, h1])
          simp [this, e1, c1.2]
        · have : τ x ≠ τ p := fun q => c2.1 (by rw [← h1 x, q, h1])
          simp [this, e2, c2.2]
      refine (val_mex (short_V adj) (S.filter fun q => q != p && !adj p q)).1 ?_
      rw [e]
      exact List.mem_map.mpr ⟨_, List.mem_map.mpr ⟨τ p, ht, rfl⟩, z⟩
/-- the same game by other names -/
theorem val_map {adj adj' : Nat → Nat → Bool} {f : Nat → Nat} (inj : ∀ p q, f p = f q → p = q) (e : ∀ p q, adj' (f p) (f q) = adj p q) : ∀ (n : Nat) (S : List Nat), S.length ≤ n → val (mvV adj') (S.map f) = val (mvV adj) S
  | n, S, hn => by
    rw [val_eq (short_V _), val_eq (short_V _)]
    congr 1
    unfold mvV
    rw [List.map_map, List.map_map, List.map_map]
    refine List.map_congr_left fun p hp => ?_
    have hl : (S.filter fun q => q != p && !adj p q).length < S.length := filter_lt hp (by simp)
    have hm : ((S.map f).filter fun q => q != f p && !adj' (f p) q) = (S.filter fun q => q != p && !adj p q).map f := by
      rw [List.filter_map]
      refine congrArg _ (List.filter_congr fun q _ => ?_)
      show (f q != f p && !adj' (f p) (f q)) = _
      have hne : (f q != f p) = (q != p) := by
        rw [Bool.eq_iff_iff, bne_iff_ne, bne_iff_ne]
        exact ⟨fun h z => h (by rw [z]), fun h z => h (inj _ _ z)⟩
      rw [e, hne]
    show val (mvV adj') ((S.map f).filter fun q => q != f p && !adj' (f p) q) = val (mvV adj) (S.filter fun q => q != p && !adj p q)
    rw [hm]
    cases n with
    | zero => omega
    | succ n => exact val_map inj e n _ (by omega)
theorem val_mapE {adj adj' : Nat → Nat → Bool} {f : Nat → Nat} (inj : ∀ p q, f p = f q → p = q) (e : ∀ p q, adj' (f p) (f q) = adj p q) : ∀ (n : Nat) (S : List Nat), S.length ≤ n → val (mvE adj') (S.map f) = val (mvE adj) S
  | n, S, hn => by
    have hne : ∀ q p, (f q != f p) = (q != p) := fun q p => by
      rw [Bool.eq_iff_iff, bne_iff_ne, bne_iff_ne]
      exact ⟨fun h z => h (by rw [z]), fun h z => h (inj _ _ z)⟩
    have hm : ∀ i j, ((S.map f).filter fun q => q != f i && q != f j) = (S.filter fun q => q != i && q != j).map f := fun i j => by
      rw [List.filter_map]
      refine congrArg _ (List.filter_congr fun q _ => ?_)
      show (f q != f i && f q != f j) = _
      rw [hne, hne]
    have ih : ∀ i j, i ∈ S → val (mvE adj') ((S.map f).filter fun q => q != f i && q != f j) = val (mvE adj) (S.filter fun q => q != i && q != j) := fun i j hi => by
      have hl : (S.filter fun q => q != i && q != j).length < S.length := filter_lt hi (by simp)
      rw [hm]
      cases n with
      | zero => omega
      | succ n => exact val_mapE inj e n _ (by omega)
    rw [val_eq (short_E _), val_eq (short_E _)]
    refine mex_congr fun k => ?_
    rw [List.mem_map, List.mem_map]
    constructor
    · rintro ⟨S', hS', rfl⟩
      obtain ⟨i', hi', h⟩ := List.mem_flatMap.mp hS'
      obtain ⟨j', hj', rfl⟩ := List.mem_map.mp h
      obtain ⟨hj2, ha⟩ := List.mem_filter.mp hj'
      obtain ⟨i, hi, rfl⟩ := List.mem_map.mp hi'
      obtain ⟨j, hj, rfl⟩ := List.mem_map.mp hj2
      exact ⟨_, List.mem_flatMap.mpr ⟨i, hi, List.mem_map.mpr ⟨j, List.mem_filter.mpr ⟨hj, by rw [← e]; exact ha⟩, rfl⟩⟩, (ih i j hi).symm⟩
    · rintro ⟨S', hS', rfl⟩
      obtain ⟨i, hi, h⟩ := List.mem_flatMap.mp hS'
      obtain ⟨j, hj, rfl⟩ := List.mem_map.mp h
      obtain ⟨hj, ha⟩ := List.mem_filter.mp hj
      exact ⟨_, List.mem_flatMap.mpr ⟨f i, List.mem_map.mpr ⟨i, hi, rfl⟩, List.mem_map.mpr ⟨f j, List.mem_filter.mpr ⟨List.mem_map.mpr ⟨j, hj, rfl⟩, by rw [e]; exact ha⟩, rfl⟩⟩, ih i j hi⟩
end KY
set_option maxHeartbeats 4000000
namespace H78
open PySem PySem.Spec PyProof.Rows L2 DL KY
/-! ### how many rows of places there are -/
theorem nodup_len {α : Type} [DecidableEq α] : ∀ {l m : List α}, l.Nodup → (∀ x ∈ l, x ∈ m) → l.length ≤ m.length
  | [], _, _, _ => Nat.zero_le _
  | x :: l, m, h, s => by
    obtain ⟨h1, h2⟩ := List.nodup_cons.mp h
    have hx := s x List.mem_cons_self
    have := nodup_len (l := l) (m := m.erase x) h2 fun y hy => (List.mem_erase_of_ne fun e => h1 (by rw [← e]; exact hy)).mpr (s y (List.mem_cons_of_mem _ hy))
    rw [List.length_erase_of_mem hx] at this
    have : 0 < m.length := List.length_pos_of_mem hx
    rw [List.length_cons]
    omega
def subs : Nat → List (List Nat)
  | 0 => [[]]
  | n + 1 => subs n ++ (subs n).map (· ++ [n])
theorem subs_len : ∀ n, (subs n).length = 2 ^ n
  | 0 => rfl
  | n + 1 => by rw [subs, List.length_append, List.length_map, subs_len n, Nat.pow_succ]; omega
/-- a row of places below n, going up -/
def Up (n : Nat) (S : List Nat) : Prop := S.Pairwise (· < ·) ∧ ∀ x ∈ S, x < n
theorem Up.filter {n : Nat} {S : List Nat} (h : Up n S) (f : Nat → Bool) : Up n (S.filter f) := ⟨h.1.filter _, fun x hx => h.2 x (List.mem_filter.mp hx).1⟩
theorem Up.range (n : Nat) : Up n (List.range n) := ⟨List.pairwise_lt_range, fun x hx => List.mem_range.mp hx⟩
theorem Up.len {n : Nat} {S : List Nat} (h : Up n S) : S.length ≤ n := by
  have := nodup_len (l := S) (m := List.range n) (h.1.imp fun h => by omega) fun x hx => List.mem_range.mpr (h.2 x hx)
  rw [List.length_range] at this
  exact this
theorem mem_subs : ∀ (n : Nat) (S : List Nat), Up n S → S ∈ subs n
  | 0, S, h => by
    have : S = [] := by
      cases S with
      | nil => rfl
      | cons x S => have := h.2 x List.mem_cons_self; omega
    rw [this]
    exact List.mem_cons_self
  | n + 1, S, h => by
    rw [subs]
    by_cases c : n ∈ S
    · have e : S = S.filter (fun x => decide (x < n)) ++ [n] := by
        have hp := h.1
        have hb := h.2
        clear h
        induction S with
        | nil => cases c
        | cons x S ih =>
          obtain ⟨h1, h2⟩ := List.pairwise_cons.mp hp
          rcases List.mem_cons.mp c with e | c
          · have : S = [] := by
              cases S with
              | nil => rfl
              | cons y S => have := h1 y List.mem_cons_self; have := hb y (by simp); omega
            subst this e
            simp
          · have hx := h1 n c
            rw [List.filter_cons, if_pos (decide_eq_true hx), List.cons_append, ← ih c h2 fun y hy => hb y (List.mem_cons_of_mem _ hy)]
      refine List.mem_append_right _ (List.mem_map.mpr ⟨S.filter (fun x => decide (x < n)), mem_subs n _ ⟨h.1.filter _, fun x hx => of_decide_eq_true (List.mem_filter.mp hx).2⟩, e.symm⟩)
    · refine List.mem_append_left _ (mem_subs n S ⟨h.1, fun x hx => ?_⟩)
      have := h.2 x hx
      have : x ≠ n := fun e => c (e ▸ hx)
      omega
/-! ### what is known -/
def kl (S : List Nat) : List NestedKey := S.map fun i : Nat => .num (i : Int)
def keyOf (S : List Nat) : NestedKey := .tup (kl S)
theorem datas_kl : ∀ S : List Nat, NestedKey.datas (kl S) = natL S
  | [] => rfl
  | x :: S => by
    show NestedKey.datas (.num (x : Int) :: kl S) = .int (x : Int) :: natL S
    rw [NestedKey.datas, datas_kl S, NestedKey.data]
theorem key_data (S : List Nat) : (NestedKey.tup (kl S)).data = .tuple (natL S) := by rw [NestedKey.data, datas_kl]
theorem depth_kl : ∀ S : List Nat, NestedKey.depthAll (kl S) = 0
  | [] => rfl
  | x :: S => by
    show NestedKey.depthAll (.num (x : Int) :: kl S) = 0
    rw [NestedKey.depthAll, depth_kl S, NestedKey.depth]
    rfl
theorem key_depth (S : List Nat) : (NestedKey.tup (kl S)).depth ≤ 8 := by rw [NestedKey.depth, depth_kl]; decide
theorem kl_inj : ∀ {S T : List Nat}, kl S = kl T → S = T
  | [], [], _ => rfl
  | [], _ :: _, h => by cases h
  | _ :: _, [], h => by cases h
  | x :: S, y :: T, h => by
    have h : NestedKey.num (x : Int) :: kl S = .num (y : Int) :: kl T := h
    rw [List.cons.injEq] at h
    obtain ⟨h1, h2⟩ := h
    injection h1 with h1
    rw [kl_inj h2, show x = y by omega]
structure Known (mv : Mv) (n : Nat) (es : List (NestedKey × PyData)) : Prop where
  all : ∀ e ∈ es, ∃ S, e.1 = keyOf S ∧ Up n S ∧ e.2 = .int (val mv S : Nat)
  nd : (es.map (·.1)).Nodup
theorem Known.nil (mv : Mv) (n : Nat) : Known mv n [] := ⟨fun e h => (by cases h), List.nodup_nil⟩
theorem Known.len {mv : Mv} {n : Nat} {es : List (NestedKey × PyData)} (h : Known mv n es) : es.length ≤ 2 ^ n := by
  have := nodup_len (l := es.map (·.1)) (m := (subs n).map keyOf) h.nd fun x hx => by
    obtain ⟨e, he, rfl⟩ := List.mem_map.mp hx
    obtain ⟨S, h1, h2, _⟩ := h.all e he
    rw [h1]
    exact List.mem_map.mpr ⟨S, mem_subs n S h2, rfl⟩
  rw [List.length_map, List.length_map, subs_len] at this
  exact this
theorem Known.at {mv : Mv} {n : Nat} {es : List (NestedKey × PyData)} (h : Known mv n es) {S : List Nat} {d : PyData} (hv : valN es (keyOf S) = some d) : d = .int (val mv S : Nat) := by
  unfold valN at hv
  obtain ⟨e, he, rfl⟩ := Option.map_eq_some_iff.mp hv
  obtain ⟨T, h1, _, h3⟩ := h.all e (List.mem_of_find?_eq_some he)
  have h4 : e.1 = keyOf S := of_decide_eq_true (List.find?_some (p := fun e : NestedKey × PyData => decide (e.1 = keyOf S)) he)
  have : T = S := by
    rw [h1] at h4
    unfold keyOf at h4
    injection h4 with h4
    exact kl_inj h4
  rw [h3, this]
theorem Known.put {mv : Mv} {n : Nat} {es : List (NestedKey × PyData)} (h : Known mv n es) {S : List Nat} (hS : Up n S) : Known mv n (putN es (keyOf S) (.int (val mv S : Nat))) := by
  unfold putN
  by_cases c : (valN es (keyOf S)).isSome = true
  · rw [if_pos c]
    refine ⟨fun e he => ?_, ?_⟩
    · obtain ⟨e0, he0, rfl⟩ := List.mem_map.mp he
      by_cases q : e0.1 = keyOf S
      · rw [if_pos q]; exact ⟨S, q, hS, rfl⟩
      · rw [if_neg q]; exact h.all e0 he0
    · rw [List.map_map, List.map_congr_left (g := (·.1)) fun e _ => ?_]
      · exact h.nd
      · show (if e.1 = keyOf S then (e.1, _) else e).1 = e.1
        split <;> rfl
  · rw [if_neg c]
    refine ⟨fun e he => ?_, ?_⟩
    · rcases List.mem_append.mp he with he | he
      · exact h.all e he
      · rw [List.mem_singleton.mp he]; exact ⟨S, rfl, hS, rfl⟩
    · rw [List.map_append, List.nodup_append]
      refine ⟨h.nd, by simp, fun a ha b hb e => c ?_⟩
      subst e
      rw [List.mem_singleton.mp hb] at ha
      obtain ⟨e, he, e2⟩ := List.mem_map.mp ha
      unfold valN
      rw [Option.isSome_map, List.find?_isSome]
      exact ⟨e, he, decide_eq_true e2⟩
end H78
set_option maxHeartbeats 4000000
namespace H78
open PySem PySem.Spec PyProof.Rows L2 DL KY
abbrev Ed := List (Nat × Nat)
def edD (e : Nat × Nat) : PyData := .tuple [.int e.1, .int e.2]
abbrev edL (es : Ed) : List PyData := es.map edD
def grD (g : Nat × Ed) : PyData := .tuple [.int (g.1 : Nat), .tuple (edL g.2)]
section
variable {P : Program} {w : World} {K : PySem.W.Frag} {mg : Str → Option Value} {base : Heap} {f : Addr} {fd : FuncData}
/-! ### the least missing number, twice -/
theorem sc_lmi : FnScope ["worths", "found"] ["worths"] (defScope s__law_missing) := ⟨rfl, rfl, rfl, by decide +kernel, rfl, by decide +kernel, by decide +kernel⟩
abbrev R_lmi := Pu (fun ns : List Nat => [.d (.list (natL ns))]) (fun _ => True) (fun ns => .int (mex ns : Nat))
theorem mem_nat {ns : List Nat} {k : Nat} : decide ((k : Int) ∈ ns.map fun i : Nat => (i : Int)) = decide (k ∈ ns) := decide_eq_decide.mpr ⟨fun h => by
  obtain ⟨j, hj, e⟩ := List.mem_map.mp h
  have : j = k := by omega
  exact this ▸ hj, fun h => List.mem_map.mpr ⟨k, h, rfl⟩⟩
theorem ok_lmi {k : Nat} (Fn : FnP K "_law_missing" s__law_missing f fd) : FnOk P w K mg base CX0 (k + 1) f fd ["worths"] (SpG K R_lmi) := by
  refine fn_okD Fn sc_lmi (fun κ M W h => ?_) fun cdv A outer s H E hr nd B0 F0 κ M W hR => ?_
  · obtain ⟨ns, rfl, _⟩ := h
    rfl
  · obtain ⟨ns, rfl, -, hW⟩ := hR
    have hW : ∀ M', W (.d (.int (mex ns : Nat))) M' := hW
    refine db_cons <| ds_set 1 <| de_int ?_
    refine db_cons <| ds_while (fun m M' ρ' => ∃ k : Nat, M' = M ∧ ρ' = [.d (.list (natL ns)), .d (.int (k : Int))] ∧ (∀ j, j < k → j ∈ ns) ∧ m + k = ns.sum + 1) (ns.sum + 1) ⟨0, rfl, rfl, (fun j hj => by omega), rfl⟩ ?_
    rintro m M' ρ' ⟨k, rfl, rfl, hk, hm⟩
    refine dt_cmp op_in_seq <| nm 1 rfl <| nm 0 rfl <| r2_inI (ns := ns.map fun i : Nat => (i : Int)) (natL_iL ns ▸ .lst _) ⟨_, rfl, ?_⟩
    rw [mem_nat]
    refine waysD (fun c => ?_) (fun c => ?_)
    · have := le_sum c
      refine db_cons <| ds_set 1 <| de_op op_add <| nm 1 rfl <| de_int <| r2_i <| db_nil ⟨m - 1, by omega, k + 1, rfl, ?_, fun j hj => ?_, by omega⟩
      · rw [show ((k : Nat) : Int) + 1 = ((k + 1 : Nat) : Int) by omega]
        rfl
      · by_cases e : j = k
        · rw [e]; exact c
        · exact hk j (by omega)
    · have e : k = mex ns := mex_eq ⟨c, hk⟩
      rw [e]
      exact db_cons <| ds_ret <| nm 1 rfl <| hW _
theorem sc_lm : FnScope ["numbers", "known", "k", "number"] ["numbers"] (defScope s_least_missing) := ⟨rfl, rfl, rfl, by decide +kernel, rfl, by decide +kernel, by decide +kernel⟩
theorem take_mem {ns : List Nat} {i x : Nat} (h : ns[i]? = some x) (y : Nat) : decide (y ∈ ns.take (i + 1)) = (decide (y = x) || decide (y ∈ ns.take i)) := by
  rw [take_get h, Bool.eq_iff_iff]
  simp
  exact Or.comm
theorem ok_lm {k : Nat} (Fn : FnP K "least_missing" s_least_missing f fd) : FnOk P w K mg base CX0 (k + 1) f fd ["numbers"] (SpG K (Pu (fun ns : List Nat => [.d (.list (natL ns))]) (fun ns => ns.length ≤ 20000) (fun ns => .int (mex ns : Nat)))) := by
  refine fn_okD Fn sc_lm (fun κ M W h => ?_) fun cdv A outer s H E hr nd B0 F0 κ M W hR => ?_
  · obtain ⟨ns, rfl, _⟩ := h
    rfl
  · obtain ⟨ns, rfl, hn, hW⟩ := hR
    have hn : ns.length ≤ 20000 := hn
    have hW : ∀ M', W (.d (.int (mex ns : Nat))) M' := hW
    have hu := hu_of hr
    refine db_cons <| ds_cmp 1 <| gu_dcC 3 <| di_list <| nm 0 rfl ⟨natL ns, rfl, fun D => ⟨fun i acc M' => M' = M ∧ acc.length ≤ i ∧ ∀ y : Nat, (valD acc (.inl (y : Int))).isSome = decide (y ∈ ns.take i), ⟨rfl, Nat.le_refl _, fun y => rfl⟩, fun _ _ _ _ => trivial, ?_, ?_⟩⟩
    · rintro i d acc M' hd ⟨rfl, hl, hv⟩ b
      obtain ⟨x, hx, rfl⟩ := map_get hd
      have hi := (List.getElem?_eq_some_iff.mp hx).1
      refine nm 3 rfl fun b => de_bl ⟨_, _, M', .int _, rfl, rfl, by omega, rfl, ?_, fun y => ?_⟩
      · exact Nat.le_trans (putD_len _ _ _) (Nat.succ_le_succ hl)
      · rw [valD_put, take_mem hx]
        by_cases c : y = x
        · subst c; simp
        · have c1 : ¬ (Sum.inl (y : Int) : Key) = .inl (x : Int) := fun e => c (by have := Sum.inl.inj e; omega)
          rw [if_neg c1, hv, decide_eq_false c, Bool.false_or]
    · rintro acc M' ⟨rfl, hl, hv⟩
      rw [natL_len, List.take_length] at hv
      refine db_cons <| ds_set 2 <| de_int ?_
      refine db_cons <| ds_while (fun m M'' ρ' => ∃ k : Nat, M'' = (D, .dic acc) :: M' ∧ ρ' = [.d (.list (natL ns)), .v (.ref D), .d (.int (k : Int)), .un] ∧ (∀ j, j < k → j ∈ ns) ∧ m + k = ns.sum + 1) (ns.sum + 1) ⟨0, rfl, rfl, (fun j hj => by omega), rfl⟩ ?_
      rintro m M'' ρ' ⟨k, rfl, rfl, hk, hm⟩
      refine dt_din hu <| nm 2 rfl <| nm 1 rfl ⟨D, acc, .inl (k : Int), rfl, List.mem_cons_self, .int _, ?_⟩
      rw [hv]
      refine waysD (fun c => ?_) (fun c => ?_)
      · have := le_sum c
        refine db_cons <| ds_aug 2 iop_add rfl (by intro h; cases h) <| de_int <| r2_i <| db_nil ⟨m - 1, by omega, k + 1, rfl, ?_, fun j hj => ?_, by omega⟩
        · rw [show ((k : Nat) : Int) + 1 = ((k + 1 : Nat) : Int) by omega]
          rfl
        · by_cases e : j = k
          · rw [e]; exact c
          · exact hk j (by omega)
      · have e : k = mex ns := mex_eq ⟨c, hk⟩
        rw [e]
        exact db_cons <| ds_ret <| nm 2 rfl <| hW _
/-! ### the law's own neighbours -/
def nearN (es : Ed) (p : Nat) : List Nat := es.filterMap fun e => if p = e.1 ∨ p = e.2 then some (e.1 + e.2 - p) else none
theorem nearN_take {es : Ed} {i : Nat} {e : Nat × Nat} {p : Nat} (h : es[i]? = some e) : nearN (es.take (i + 1)) p = nearN (es.take i) p ++ (if p = e.1 ∨ p = e.2 then [e.1 + e.2 - p] else []) := by
  unfold nearN
  rw [take_get h, List.filterMap_append]
  congr 1
  by_cases c : p = e.1 ∨ p = e.2
  · rw [if_pos c]; simp [c]
  · rw [if_neg c]; simp [c]
theorem nearN_len (es : Ed) (p : Nat) : (nearN es p).length ≤ es.length := List.length_filterMap_le _ _
theorem sc_near : FnScope ["graph", "place", "i", "j"] ["graph", "place"] (defScope s__law_near) := ⟨rfl, rfl, rfl, by decide +kernel, rfl, by decide +kernel, by decide +kernel⟩
abbrev R_near := Pu (fun a : (Nat × Ed) × Nat => [.d (grD a.1), .d (.int (a.2 : Nat))]) (fun a => a.1.2.length ≤ 1000) (fun a => .list (natL (nearN a.1.2 a.2)))
theorem ok_near {k : Nat} (Fn : FnP K "_law_near" s__law_near f fd) : FnOk P w K mg base CX0 (k + 1) f fd ["graph", "place"] (SpG K R_near) := by
  refine fn_okD Fn sc_near (fun κ M W h => ?_) fun cdv A outer s H E hr nd B0 F0 κ M W hR => ?_
  · obtain ⟨ns, rfl, _⟩ := h
    rfl
  · obtain ⟨⟨⟨n, es⟩, p⟩, hκ, hn0, hW0⟩ := hR
    have hκ : κ = [.d (.tuple [.int (n : Nat), .tuple (edL es)]), .d (.int (p : Nat))] := hκ
    subst hκ
    have hn : es.length ≤ 1000 := hn0
    have hW : ∀ M', W (.d (.list (natL (nearN es p)))) M' := hW0
    refine db_cons <| ds_ret <| de_freeze <| de_lc2IfC 2 3 (by decide) <| di_tup <| de_ix ix_seq <| nm 0 rfl <| de_int <| r2_ix (.tup _) (d := .tuple (edL es)) rfl ⟨_, rfl, fun D => ⟨fun i acc M' => M' = M ∧ acc = natL (nearN (es.take i) p), ⟨rfl, rfl⟩, fun _ _ _ _ => trivial, ?_, ?_⟩⟩
    · rintro i d acc M' hd ⟨rfl, rfl⟩
      obtain ⟨⟨a, c⟩, he, rfl⟩ := map_get hd
      have hi := (List.getElem?_eq_some_iff.mp he).1
      have hnl := nearN_len (es.take i) p
      rw [List.length_take] at hnl
      refine ⟨_, _, rfl, fun b => dt_cmp op_in_seq <| nm 1 rfl <| de_tup <| da_cons <| nm 2 rfl <| da_cons <| nm 3 rfl <| da_nil ⟨[_, _], rfl, z2, r2_inI (ns := [(a : Int), (c : Int)]) (.tup _) ⟨_, rfl, waysD (fun hin => ?_) (fun hin => ?_)⟩⟩⟩
      · have hin : p = a ∨ p = c := by
          simp at hin
          omega
        refine fun b => de_op op_sub <| de_op op_add <| nm 2 rfl <| nm 3 rfl <| r2_i <| nm 1 rfl <| r2_i ⟨_, M', rfl, rfl, ?_, rfl, ?_⟩
        · rw [natL_len]; omega
        · rw [nearN_take he, if_pos hin, natL_app, show (a : Int) + (c : Int) - (p : Int) = ((a + c - p : Nat) : Int) by omega]
          rfl
      · have hin : ¬ (p = a ∨ p = c) := by
          simp at hin
          omega
        refine ⟨M', rfl, rfl, ?_⟩
        rw [nearN_take he, if_neg hin, List.append_nil]
    · rintro acc M' ⟨rfl, rfl⟩
      rw [List.length_map, List.take_length]
      exact ⟨D, _, _, rfl, rfl, hW _⟩
def adjN (es : Ed) (p q : Nat) : Bool := (nearN es p).contains q
theorem sc_rest : FnScope ["graph", "places_left", "place", "other"] ["graph", "places_left", "place"] (defScope s__law_rest) := ⟨rfl, rfl, rfl, by decide +kernel, rfl, by decide +kernel, by decide +kernel⟩
abbrev R_rest := Pu (fun a : ((Nat × Ed) × List Nat) × Nat => [.d (grD a.1.1), .d (.tuple (natL a.1.2)), .d (.int (a.2 : Nat))]) (fun a => a.1.1.2.length ≤ 1000 ∧ a.1.2.length ≤ 1000) (fun a => .tuple (natL (a.1.2.filter fun q => q != a.2 && !adjN a.1.1.2 a.2 q)))
theorem ok_rest {k : Nat} (Fn : FnP K "_law_rest" s__law_rest f fd) (G : Go P w K mg base "_law_near" k ["graph", "place"] R_near) (g_tu : mg "tuple" = none) : FnOk P w K mg base CX0 (k + 1) f fd ["graph", "places_left", "place"] (SpG K R_rest) := by
  refine fn_okD Fn sc_rest (fun κ M W h => ?_) fun cdv A outer s H E hr nd B0 F0 κ M W hR => ?_
  · obtain ⟨ns, rfl, _⟩ := h
    rfl
  · obtain ⟨⟨⟨⟨n, es⟩, S⟩, p⟩, hκ, ⟨hn0, hS0⟩, hW0⟩ := hR
    have hκ : κ = [.d (grD (n, es)), .d (.tuple (natL S)), .d (.int (p : Nat))] := hκ
    subst hκ
    have hn : es.length ≤ 1000 := hn0
    have hS : S.length ≤ 1000 := hS0
    have hW : ∀ M', W (.d (.tuple (natL (S.filter fun q => q != p && !adjN es p q)))) M' := hW0
    refine db_cons <| ds_ret <| de_tupleOf g_tu <| de_lcIfF 3 (fun d => match d with
      | .int q => decide (q ≠ (p : Int)) && !decide (q ∈ (nearN es p).map fun i : Nat => (i : Int))
      | _ => false) id <| di_tup <| nm 1 rfl ⟨_, rfl, ?_, fun _ _ _ => trivial, ?_, ?_, fun D => ⟨_, .cell List.mem_cons_self, ?_⟩⟩
    · rw [natL_len]; omega
    · intro d D acc hd b
      obtain ⟨q, hq, rfl⟩ := List.mem_map.mp hd
      refine dt_w <| dw_andP <| dt_cmp op_ne <| nm 3 rfl <| nm 2 rfl <| r2_tne ⟨!decide ((q : Int) ∈ (nearN es p).map fun i : Nat => (i : Int)), fun _ => dw_and1 <| dt_cmp op_notIn_seq <| nm 3 rfl <| de_pu G hr <| da_cons <| nm 0 rfl <| da_cons <| nm 2 rfl <| da_nil <| da_pu ((n, es), p) rfl hn <| r2_niI (ns := (nearN es p).map fun i : Nat => (i : Int)) (natL_iL (nearN es p) ▸ .lst _) ⟨_, rfl, rfl, rfl⟩, ?_, rfl⟩
      show (!decide ((q : Int) = (p : Int)) && _) = (decide ((q : Int) ≠ (p : Int)) && _)
      congr 1
      by_cases c : (q : Int) = (p : Int) <;> simp [c]
    · intro d D acc hd _ b
      exact nm 3 rfl ⟨rfl, rfl⟩
    · rw [List.map_id, show (natL S).filter _ = natL (S.filter fun q => q != p && !adjN es p q) by
        unfold natL
        rw [List.filter_map]
        refine congrArg _ (List.filter_congr fun q _ => ?_)
        show (decide ((q : Int) ≠ (p : Int)) && !decide ((q : Int) ∈ (nearN es p).map fun i : Nat => (i : Int))) = _
        rw [mem_nat]
        congr 1
        · by_cases c : q = p
          · subst c; simp
          · have : ¬ (q : Int) = (p : Int) := fun h => c (by omega)
            simp [c, this]
        · unfold adjN
          simp]
      exact hW _
end
end H78
set_option maxHeartbeats 4000000
namespace DL
open PySem PySem.Spec PyProof.Rows L2
theorem du_freeze {X : Cx} {B0 F : Hp} {M : Cs} {ρ κ : List Sl} {e : Expr} {P : Sl → Cs → Prop} {u : Use} (h : DEu X B0 F M ρ κ u e fun r M1 => ∃ p xs M2, r = .v (.ref p) ∧ M1 = (p, .lst xs) :: M2 ∧ P (.d (.list xs)) M2) : DEu X B0 F M ρ κ u e P := fun σ vs H Q g q => h σ vs H Q g fun v H' r M' g' p => by
  obtain ⟨p, xs, M2, rfl, rfl, hp⟩ := p
  have e := g'.ref
  subst e
  obtain ⟨B, g'⟩ := g'
  exact q _ H' _ M2 g'.pop.freeze hp
end DL
namespace H78
open PySem PySem.Spec PyProof.Rows L2 DL KY
/-- the law's own playing: mv by the edges; what is met stands in the dict at a -/
def R_mem (P : Program) (w : World) (mv : Ed → Mv) (L : Nat) : List Sl → Cs → (Sl → Cs → Prop) → Prop := fun κ M W => ∃ (n : Nat) (es : Ed) (S : List Nat) (a : Addr) (kn : List (NestedKey × PyData)),
  κ = [.d (grD (n, es)), .d (.tuple (natL S)), .v (.ref a)] ∧ M = [(a, .dn (NDic P w a) kn)] ∧ n ≤ 14 ∧ es.length ≤ 1000 ∧ Up n S ∧ S.length ≤ L ∧ Known (mv es) n kn ∧
  ∀ kn', Known (mv es) n kn' → W (.d (.int (val (mv es) S : Nat))) [(a, .dn (NDic P w a) kn')]
theorem val_V (es : Ed) (S : List Nat) : val (mvV (adjN es)) S = mex (S.map fun p => val (mvV (adjN es)) (S.filter fun q => q != p && !adjN es p q)) := by
  rw [val_eq (short_V _)]
  unfold mvV
  rw [List.map_map]
  rfl
theorem Known.le {mv : Mv} {n : Nat} {kn : List (NestedKey × PyData)} (h : Known mv n kn) (hn : n ≤ 14) : kn.length ≤ 100000 := by
  have h1 := h.len
  have h2 : 2 ^ n ≤ 2 ^ 14 := Nat.pow_le_pow_right (by decide) hn
  omega
section
variable {P : Program} {w : World} {K : PySem.W.Frag} {mg : Str → Option Value} {base : Heap} {f : Addr} {fd : FuncData}
theorem sc_lv : FnScope ["graph", "places_left", "met", "place"] ["graph", "places_left", "met"] (defScope s__law_value) := ⟨rfl, rfl, rfl, by decide +kernel, rfl, by decide +kernel, by decide +kernel⟩
theorem ok_lv1 {k L : Nat} (Fn : FnP K "_law_value" s__law_value f fd) (G : ∀ L', L = L' + 1 → Go P w K mg base "_law_value" k ["graph", "places_left", "met"] (R_mem P w (fun es => mvV (adjN es)) L')) (Gr : Go P w K mg base "_law_rest" k ["graph", "places_left", "place"] R_rest) (Gm : Go P w K mg base "_law_missing" k ["worths"] R_lmi) : FnOk P w K mg base CX0 (k + 1) f fd ["graph", "places_left", "met"] (SpG K (R_mem P w (fun es => mvV (adjN es)) L)) := by
  refine fn_okD Fn sc_lv (fun κ M W h => ?_) fun cdv A outer s H E hr nd B0 F0 κ M W hR => ?_
  · obtain ⟨n, es, S, a, kn, rfl, _⟩ := h
    rfl
  · obtain ⟨n, es, S, a, kn, rfl, rfl, hn, hes, hS, hL, hk, hW⟩ := hR
    have hSn := hS.len
    have fin : ∀ kn', Known (mvV (adjN es)) n kn' → valN kn' (keyOf S) = some (.int (val (mvV (adjN es)) S : Nat)) → ∀ s3, DB (cxOf CX0 P w K mg base ["graph", "places_left", "met", "place"] "_law_value" (defScope s__law_value) f cdv A outer s H E).nox B0 F0 [(a, .dn (NDic P w a) kn')] [.d (grD (n, es)), .d (.tuple (natL S)), .v (.ref a), s3] [] ((defBody s__law_value).drop 1) { nx := fun M' ρ' => W (.d .none) M', rt := W } := fun kn' hk' hv s3 =>
      db_cons <| ds_ret <| de_ndget hr.units <| nm 2 rfl <| nm 1 rfl ⟨a, kn', kl S, _, rfl, List.mem_cons_self, by rw [key_data], key_depth S, hv, hW kn' hk'⟩
    refine db_cons <| ds_if <| dt_ndnin hr.units <| nm 1 rfl <| nm 2 rfl ⟨a, kn, kl S, rfl, List.mem_cons_self, by rw [key_data], key_depth S, ?_⟩
    cases hv : valN kn (.tup (kl S)) with
    | some d => exact waysF rfl <| db_nil <| fin kn hk (by rw [show keyOf S = .tup (kl S) from rfl, hv, hk.at hv]) _
    | none =>
      refine waysT rfl <| db_cons <| ds_ndput 0 hr.units <| de_pu Gm hr <| da_cons <| de_freeze <| de_lcC 3 <| di_tup <| nm 1 rfl ⟨natL S, rfl, fun D => ⟨fun i acc M' => ∃ kn', M' = [(a, .dn (NDic P w a) kn')] ∧ Known (mvV (adjN es)) n kn' ∧ acc = natL ((S.take i).map fun p => val (mvV (adjN es)) (S.filter fun q => q != p && !adjN es p q)), ⟨kn, rfl, hk, rfl⟩, fun _ _ _ _ => trivial, ?_, ?_⟩⟩
      · rintro i d acc M' hd ⟨kn', rfl, hk', rfl⟩ b
        obtain ⟨p, hp, rfl⟩ := map_get hd
        have hi := (List.getElem?_eq_some_iff.mp hp).1
        have hlt : (S.filter fun q => q != p && !adjN es p q).length < S.length := filter_lt (List.mem_of_getElem? hp) (by simp)
        obtain ⟨L', rfl⟩ : ∃ L', L = L' + 1 := ⟨L - 1, by omega⟩
        have hS3 : S.length ≤ 1000 := by omega
        have hLL : (S.filter fun q => q != p && !adjN es p q).length ≤ L' := by omega
        refine de_goJ 1 (G L' rfl) hr <| da_cons <| nm 0 rfl <| da_cons <| de_pu Gr hr <| da_cons <| nm 0 rfl <| da_cons <| nm 1 rfl <| da_cons <| nm 3 rfl <| da_nil <| da_pu (((n, es), S), p) rfl ⟨hes, hS3⟩ <| da_cons <| nm 2 rfl <| da_nil ⟨n, es, _, a, kn', rfl, rfl, hn, hes, hS.filter _, hLL, hk', fun kn2 hk2 => ⟨trivial, _, _, rfl, rfl, ?_, kn2, rfl, hk2, ?_⟩⟩
        · rw [natL_len, List.length_map, List.length_take]; omega
        · rw [take_get hp, List.map_append, natL_app]
          rfl
      · rintro acc M' ⟨kn', rfl, hk', rfl⟩
        rw [natL_len, List.take_length]
        refine ⟨D, _, _, rfl, rfl, da_nil <| da_pu _ rfl trivial <| nm 2 rfl <| nm 1 rfl ⟨a, kn', _, kl S, rfl, by rw [key_data], key_depth S, rfl, rfl, hk'.le hn, db_nil ?_⟩⟩
        rw [← val_V]
        exact fin _ (hk'.put hS) (by rw [valN_put, if_pos rfl]) _
end
end H78
set_option maxHeartbeats 4000000
namespace H78
open PySem PySem.Spec PyProof.Rows L2 DL KY
theorem adjN_iff {es : Ed} {p q : Nat} : adjN es p q = true ↔ (p, q) ∈ es ∨ (q, p) ∈ es := by
  unfold adjN nearN
  rw [List.contains_iff_mem, List.mem_filterMap]
  constructor
  · rintro ⟨⟨a, b⟩, he, h⟩
    by_cases c : p = a ∨ p = b
    · rw [if_pos c] at h
      have h : a + b - p = q := Option.some.inj h
      rcases c with rfl | rfl
      · exact .inl (by rw [show q = b by omega]; exact he)
      · exact .inr (by rw [show q = a by omega]; exact he)
    · rw [if_neg c] at h; cases h
  · rintro (h | h)
    · exact ⟨_, h, by rw [if_pos (.inl rfl)]; show some (p + q - p) = _; rw [show p + q - p = q by omega]⟩
    · exact ⟨_, h, by rw [if_pos (.inr rfl)]; show some (q + p - p) = _; rw [show q + p - p = q by omega]⟩
def eRest (S : List Nat) (e : Nat × Nat) : List Nat := S.filter fun q => q != e.1 && q != e.2
def eVals (es : Ed) (S : List Nat) (l : Ed) : List Nat := l.filterMap fun e => if e.1 ∈ S ∧ e.2 ∈ S then some (val (mvE (adjN es)) (eRest S e)) else none
theorem val_E (es : Ed) (S : List Nat) : val (mvE (adjN es)) S = mex (eVals es S es) := by
  rw [val_eq (short_E _)]
  refine mex_congr fun k => ?_
  unfold eVals
  rw [List.mem_map, List.mem_filterMap]
  constructor
  · rintro ⟨S', hS', rfl⟩
    obtain ⟨i, hi, h⟩ := List.mem_flatMap.mp hS'
    obtain ⟨j, hj, rfl⟩ := List.mem_map.mp h
    obtain ⟨hj, ha⟩ := List.mem_filter.mp hj
    rcases adjN_iff.mp ha with h | h
    · exact ⟨_, h, by rw [if_pos ⟨hi, hj⟩]; rfl⟩
    · refine ⟨_, h, ?_⟩
      rw [if_pos ⟨hj, hi⟩]
      congr 2
      unfold eRest
      exact List.filter_congr fun q _ => Bool.and_comm _ _
  · rintro ⟨⟨i, j⟩, he, h⟩
    by_cases c : i ∈ S ∧ j ∈ S
    · have h : (if i ∈ S ∧ j ∈ S then some (val (mvE (adjN es)) (eRest S (i, j))) else none) = some k := h
      rw [if_pos c] at h
      exact ⟨_, List.mem_flatMap.mpr ⟨i, c.1, List.mem_map.mpr ⟨j, List.mem_filter.mpr ⟨c.2, adjN_iff.mpr (.inl he)⟩, rfl⟩⟩, Option.some.inj h⟩
    · have h : (if i ∈ S ∧ j ∈ S then some (val (mvE (adjN es)) (eRest S (i, j))) else none) = some k := h
      rw [if_neg c] at h
      cases h
theorem eVals_take {es l : Ed} {S : List Nat} {i : Nat} {e : Nat × Nat} (h : l[i]? = some e) : eVals es S (l.take (i + 1)) = eVals es S (l.take i) ++ (if e.1 ∈ S ∧ e.2 ∈ S then [val (mvE (adjN es)) (eRest S e)] else []) := by
  unfold eVals
  rw [take_get h, List.filterMap_append]
  congr 1
  by_cases c : e.1 ∈ S ∧ e.2 ∈ S
  · rw [if_pos c]; simp [c]
  · rw [if_neg c]; simp [c]
theorem eVals_len (es l : Ed) (S : List Nat) : (eVals es S l).length ≤ l.length := List.length_filterMap_le _ _
section
variable {P : Program} {w : World} {K : PySem.W.Frag} {mg : Str → Option Value} {base : Heap} {f : Addr} {fd : FuncData}
theorem sc_le : FnScope ["graph", "places_left", "met", "worths", "i", "j", "other"] ["graph", "places_left", "met"] (defScope s__law_edge_value) := ⟨rfl, rfl, rfl, by decide +kernel, rfl, by decide +kernel, by decide +kernel⟩
theorem ok_le1 {k L : Nat} (Fn : FnP K "_law_edge_value" s__law_edge_value f fd) (G : ∀ L', L = L' + 1 → Go P w K mg base "_law_edge_value" k ["graph", "places_left", "met"] (R_mem P w (fun es => mvE (adjN es)) L')) (Gm : Go P w K mg base "_law_missing" k ["worths"] R_lmi) (g_tu : mg "tuple" = none) : FnOk P w K mg base CX0 (k + 1) f fd ["graph", "places_left", "met"] (SpG K (R_mem P w (fun es => mvE (adjN es)) L)) := by
  refine fn_okD Fn sc_le (fun κ M W h => ?_) fun cdv A outer s H E hr nd B0 F0 κ M W hR => ?_
  · obtain ⟨n, es, S, a, kn, rfl, _⟩ := h
    rfl
  · obtain ⟨n, es, S, a, kn, rfl, rfl, hn, hes, hS, hL, hk, hW⟩ := hR
    have hSn := hS.len
    have fin : ∀ kn', Known (mvE (adjN es)) n kn' → valN kn' (keyOf S) = some (.int (val (mvE (adjN es)) S : Nat)) → ∀ s3 s4 s5, DB (cxOf CX0 P w K mg base ["graph", "places_left", "met", "worths", "i", "j", "other"] "_law_edge_value" (defScope s__law_edge_value) f cdv A outer s H E).nox B0 F0 [(a, .dn (NDic P w a) kn')] [.d (grD (n, es)), .d (.tuple (natL S)), .v (.ref a), s3, s4, s5, .un] [] ((defBody s__law_edge_value).drop 1) { nx := fun M' ρ' => W (.d .none) M', rt := W } := fun kn' hk' hv s3 s4 s5 =>
      db_cons <| ds_ret <| de_ndget hr.units <| nm 2 rfl <| nm 1 rfl ⟨a, kn', kl S, _, rfl, List.mem_cons_self, by rw [key_data], key_depth S, hv, hW kn' hk'⟩
    refine db_cons <| ds_if <| dt_ndnin hr.units <| nm 1 rfl <| nm 2 rfl ⟨a, kn, kl S, rfl, List.mem_cons_self, by rw [key_data], key_depth S, ?_⟩
    cases hv : valN kn (.tup (kl S)) with
    | some d => exact waysF rfl <| db_nil <| fin kn hk (by rw [show keyOf S = .tup (kl S) from rfl, hv, hk.at hv]) _ _ _
    | none =>
      refine waysT rfl <| db_cons <| ds_set 3 <| de_lstC <| da_nil ⟨[], rfl, z0, fun q => ?_⟩
      refine db_cons <| ds_for <| di_tup <| de_ix ix_seq <| nm 0 rfl <| de_int <| r2_ix (.tup _) (d := .tuple (edL es)) rfl ⟨_, rfl, fun m M' ρ' => ∃ kn' s4 s5, M' = [(q, .lst (natL (eVals es S (es.take m)))), (a, .dn (NDic P w a) kn')] ∧ Known (mvE (adjN es)) n kn' ∧ ρ' = [.d (grD (n, es)), .d (.tuple (natL S)), .v (.ref a), .v (.ref q), s4, s5, .un], ⟨kn, _, _, rfl, hk, rfl⟩, fun _ _ _ _ => trivial, ?_, ?_⟩
      · rintro m d M' ρ' hd ⟨kn', s4, s5, rfl, hk', rfl⟩
        obtain ⟨⟨i, j⟩, he, rfl⟩ := map_get hd
        have hm := (List.getElem?_eq_some_iff.mp he).1
        have hlen := eVals_len es (es.take m) S
        rw [List.length_take] at hlen
        refine dg_tup rfl <| dgs_cons <| dg_name 4 <| dgs_cons <| dg_name 5 <| dgs_nil ?_
        refine db_cons <| ds_if <| dt_w <| dw_andP <| dt_cmp op_in_seq <| nm 4 rfl <| nm 1 rfl <| r2_inI (ns := S.map fun i : Nat => (i : Int)) (natL_iL S ▸ .tup _) ⟨_, rfl, decide (j ∈ S), fun _ => dw_and1 <| dt_cmp op_in_seq <| nm 5 rfl <| nm 1 rfl <| r2_inI (ns := S.map fun i : Nat => (i : Int)) (natL_iL S ▸ .tup _) ⟨_, rfl, mem_nat, rfl⟩, ?_⟩
        rw [show decide (((i, j).1 : Int) ∈ S.map fun i : Nat => (i : Int)) = decide (i ∈ S) from mem_nat]
        by_cases c : i ∈ S ∧ j ∈ S
        · have hlt : (eRest S (i, j)).length < S.length := filter_lt c.1 (by simp)
          obtain ⟨L', rfl⟩ : ∃ L', L = L' + 1 := ⟨L - 1, by omega⟩
          have hLL : (eRest S (i, j)).length ≤ L' := by omega
          refine waysT (by simp [c]) ?_
          refine db_cons <| ds_expr <| de_append 1 <| nm 3 rfl ⟨q, _, rfl, List.mem_cons_self, de_goJ 2 (G L' rfl) hr <| da_cons <| nm 0 rfl <| da_cons <| de_tupleOf g_tu <| de_lcIfF 6 (fun d => match d with
            | .int x => !decide (x ∈ [(i : Int), (j : Int)])
            | _ => false) id <| di_tup <| nm 1 rfl ⟨_, rfl, ?_, fun _ _ _ => trivial, ?_, ?_, fun D => ⟨_, .cell List.mem_cons_self, da_cons <| nm 2 rfl <| da_nil ⟨n, es, eRest S (i, j), a, kn', ?_, rfl, hn, hes, hS.filter _, hLL, hk', fun kn2 hk2 => ⟨trivial, _, _, rfl, rfl, ?_, ?_⟩⟩⟩⟩⟩
          · rw [natL_len]; omega
          · intro d D acc hd b
            obtain ⟨x, hx, rfl⟩ := List.mem_map.mp hd
            exact dt_cmp op_notIn_seq <| nm 6 rfl <| de_tup <| da_cons <| nm 4 rfl <| da_cons <| nm 5 rfl <| da_nil ⟨[_, _], rfl, z2, r2_niI (ns := [(i : Int), (j : Int)]) (.tup _) ⟨_, rfl, rfl, rfl⟩⟩
          · intro d D acc hd _ b
            exact nm 6 rfl ⟨rfl, rfl⟩
          · rw [List.map_id, show (natL S).filter _ = natL (eRest S (i, j)) by
              unfold natL eRest
              rw [List.filter_map]
              refine congrArg _ (List.filter_congr fun x _ => ?_)
              show (!decide ((x : Int) ∈ [(i : Int), (j : Int)])) = _
              rw [Bool.eq_iff_iff]
              simp
              omega]
          · rw [natL_len]; omega
          · refine db_drop 1 <| db_nil <| db_nil ⟨kn2, .d (.int (i : Nat)), .d (.int (j : Nat)), ?_, hk2, rfl⟩
            rw [eVals_take he, if_pos c, natL_app]
            rfl
        · refine waysF (by simpa using c) <| db_nil <| db_nil ⟨kn', .d (.int (i : Nat)), .d (.int (j : Nat)), ?_, hk', rfl⟩
          rw [eVals_take he, if_neg c, List.append_nil]
      · rintro M' ρ' ⟨kn', s4, s5, rfl, hk', rfl⟩
        rw [List.length_map, List.take_length]
        refine db_cons <| ds_ndput 0 hr.units <| de_pu Gm hr <| da_cons <| de_freeze <| nm 3 rfl ⟨q, _, _, rfl, rfl, da_nil <| da_pu (eVals es S es) rfl trivial <| nm 2 rfl <| nm 1 rfl ⟨a, kn', _, kl S, rfl, by rw [key_data], key_depth S, rfl, rfl, hk'.le hn, db_nil ?_⟩⟩
        rw [← val_E]
        exact fin _ (hk'.put hS) (by rw [valN_put, if_pos rfl]) _ _ _
end
end H78
set_option maxHeartbeats 4000000
namespace DL
open PySem PySem.Spec PyProof.Rows L2
section
variable {X : Cx} {B0 F : Hp} {M : Cs} {ρ κ : List Sl} {P : Sl → Cs → Prop} {o e : Expr} {apos cpos : Pos}
/-- xs.extend(ys) -/
theorem de_extend (n : Nat) (h : DE X B0 F M ρ κ o fun r1 M1 => ∃ a ds', r1 = .v (.ref a) ∧ (a, MC.lst ds') ∈ M1 ∧ DE X B0 F M1 ρ (r1 :: κ) e fun r2 M2 => ∃ ds ys, SeqCl M2 r2 ys ∧ M2[n]? = some (a, .lst ds) ∧ ds.length + ys.length ≤ 100000 ∧ P (.d .none) (M2.set n (a, .lst (ds ++ ys))))
    (hbase : attributeBase o "extend" X.env (eval o X.env) = eval o X.env := by rfl)
    (hfew : ((backTo cpos (starEach (e :: []) X.env)).all (fun x => !x.1) && (backToKw cpos (keywordEach [] X.env)).all (fun x => x.1.isSome)
      && decide ((e :: ([] : List Expr)).length + ([] : List Keyword).length + (if ([] : List Keyword).isEmpty then 0 else 1) < 30)) = true := by rfl)
    (hline : (apos.endLine == cpos.line) = true := by rfl) (hs : starEach (e :: []) X.env = (false, eval e X.env) :: starEach [] X.env := by rfl) (hplain : (backTo cpos (starEach [] X.env)).any (·.1) = false := by rfl) :
    DE X B0 F M ρ κ (.Call (.Attribute o "extend" apos) [e] [] cpos) P := fun σ vs H Q g q => by
  refine tOf_of (pe_bm PySem.F.plainAttrs_list PySem.F.slot_list_extend PySem.F.type_list_extend (X := X) mt_extend pe_self (pa_cons pe_self pa_nil hs) hbase hfew hline hs hplain) ?_
  refine h σ vs H _ g fun x H1 r1 M1 g1 h1 => ?_
  obtain ⟨a, ds', rfl, hm, h1⟩ := h1
  have e := g1.ref
  subst e
  refine ⟨?_, h1 σ (.ref a :: vs) H1 _ g1 fun y H2 r2 M2 g2 h2 => ?_⟩
  · obtain ⟨B, g1⟩ := g1
    obtain ⟨_, _, u, ho, ws, rfl, hw⟩ := g1.cells _ hm
    exact .inl ⟨rfl, ws, SqL.of ho⟩
  · obtain ⟨ds, ys, hq, hn, hl, hp⟩ := h2
    obtain ⟨B, g2⟩ := g2
    obtain ⟨ws, ho, hw⟩ := cell_at g2 hn
    obtain ⟨b, vs2, rfl, h3, h4⟩ := hq.at g2 g2.fst
    have hz : (100000 : Nat) ≤ sizeLine := by decide
    exact ⟨a, b, ws, vs2, rfl, rfl, ho, h3, by rw [hw.len, h4.len]; omega, q _ _ _ _ ⟨B, (g2.pop.pop.write (c' := .lst (ds ++ ys)) hn ⟨_, rfl, hw.app h4⟩).pushD .non⟩ hp⟩
end
end DL
namespace H78
open PySem PySem.Spec PyProof.Rows L2 DL KY
section
variable {P : Program} {w : World} {K : PySem.W.Frag} {mg : Str → Option Value} {base : Heap} {f : Addr} {fd : FuncData}
theorem sc_flat : FnScope ["rows", "found", "row"] ["rows"] (defScope s__law_flat) := ⟨rfl, rfl, rfl, by decide +kernel, rfl, by decide +kernel, by decide +kernel⟩
abbrev R_flat := Pu (fun rows : List (List PyData) => [.d (.list (rows.map .list))]) (fun rows => rows.flatten.length ≤ 10000) (fun rows => .list rows.flatten)
theorem ok_flat {k : Nat} (Fn : FnP K "_law_flat" s__law_flat f fd) : FnOk P w K mg base CX0 (k + 1) f fd ["rows"] (SpG K R_flat) := by
  refine fn_okD Fn sc_flat (fun κ M W h => ?_) fun cdv A outer s H E hr nd B0 F0 κ M W hR => ?_
  · obtain ⟨ns, rfl, _⟩ := h
    rfl
  · obtain ⟨rows, rfl, hn, hW⟩ := hR
    have hn : rows.flatten.length ≤ 10000 := hn
    have hW : ∀ M', W (.d (.list rows.flatten)) M' := hW
    refine db_cons <| ds_set 1 <| de_lstC <| da_nil ⟨[], rfl, z0, fun p => ?_⟩
    refine db_cons <| ds_for <| di_list <| nm 0 rfl ⟨_, rfl, fun i M' ρ' => ∃ s2, M' = (p, .lst (rows.take i).flatten) :: M ∧ ρ' = [.d (.list (rows.map .list)), .v (.ref p), s2], ⟨_, rfl, rfl⟩, fun _ _ _ _ => trivial, ?_, ?_⟩
    · rintro i d M' ρ' hd ⟨s2, rfl, rfl⟩
      obtain ⟨r, hz, rfl⟩ := map_get hd
      have hlen : (rows.take (i + 1)).flatten.length ≤ rows.flatten.length := by
        have := congrArg List.length (congrArg List.flatten (List.take_append_drop (i + 1) rows))
        rw [List.flatten_append, List.length_append] at this
        omega
      rw [take_get hz, List.flatten_append, List.length_append] at hlen
      refine dg_name 2 <| db_cons <| ds_expr <| de_extend 0 <| nm 1 rfl ⟨p, _, rfl, List.mem_cons_self, nm 2 rfl ⟨_, r, .lst _, rfl, ?_, db_nil ⟨.d (.list r), ?_, rfl⟩⟩⟩
      · have e1 : ([r] : List (List PyData)).flatten.length = r.length := by simp
        omega
      · rw [take_get hz, List.flatten_append]
        simp
    · rintro M' ρ' ⟨s2, rfl, rfl⟩
      rw [List.length_map, List.take_length]
      exact db_cons <| ds_ret <| de_freeze <| nm 1 rfl ⟨p, _, _, rfl, rfl, hW _⟩
theorem sc_moved : FnScope ["graph", "step", "i", "j"] ["graph", "step"] (defScope s__law_moved) := ⟨rfl, rfl, rfl, by decide +kernel, rfl, by decide +kernel, by decide +kernel⟩
def shift (es : Ed) (t : Nat) : Ed := es.map fun e => (e.1 + t, e.2 + t)
abbrev R_moved := Pu (fun a : (Nat × Ed) × Nat => [.d (grD a.1), .d (.int (a.2 : Nat))]) (fun a => a.1.2.length ≤ 1000) (fun a => .tuple (edL (shift a.1.2 a.2)))
theorem ok_moved {k : Nat} (Fn : FnP K "_law_moved" s__law_moved f fd) (g_tu : mg "tuple" = none) : FnOk P w K mg base CX0 (k + 1) f fd ["graph", "step"] (SpG K R_moved) := by
  refine fn_okD Fn sc_moved (fun κ M W h => ?_) fun cdv A outer s H E hr nd B0 F0 κ M W hR => ?_
  · obtain ⟨ns, rfl, _⟩ := h
    rfl
  · obtain ⟨⟨⟨n, es⟩, t⟩, hκ, hn0, hW0⟩ := hR
    have hκ : κ = [.d (.tuple [.int (n : Nat), .tuple (edL es)]), .d (.int (t : Nat))] := hκ
    subst hκ
    have hn : es.length ≤ 1000 := hn0
    have hW : ∀ M', W (.d (.tuple (edL (shift es t)))) M' := hW0
    refine db_cons <| ds_ret <| de_tupleOf g_tu <| de_lc2C 2 3 (by decide) <| di_tup <| de_ix ix_seq <| nm 0 rfl <| de_int <| r2_ix (.tup _) (d := .tuple (edL es)) rfl ⟨_, rfl, fun D => ⟨fun i acc M' => M' = M ∧ acc = edL (shift (es.take i) t), ⟨rfl, rfl⟩, fun _ _ _ _ => trivial, ?_, ?_⟩⟩
    · rintro i d acc M' hd ⟨rfl, rfl⟩
      obtain ⟨⟨a, c⟩, he, rfl⟩ := map_get hd
      have hi := (List.getElem?_eq_some_iff.mp he).1
      refine ⟨_, _, rfl, fun b => de_tup <| da_cons <| de_op op_add <| nm 2 rfl <| nm 1 rfl <| r2_i <| da_cons <| de_op op_add <| nm 3 rfl <| nm 1 rfl <| r2_i <| da_nil ⟨[_, _], rfl, z2, _, M', rfl, rfl, ?_, rfl, ?_⟩⟩
      · unfold shift
        rw [List.length_map, List.length_map, List.length_take]; omega
      · unfold shift
        rw [take_get he, List.map_append, show edL _ = (_ : List PyData).append _ from List.map_append]
        rfl
    · rintro acc M' ⟨rfl, rfl⟩
      rw [List.length_map, List.take_length]
      exact ⟨_, .cell List.mem_cons_self, hW _⟩
/-- a graph as the law draws it: edges going up, within n -/
def GrOk (g : Nat × Ed) : Prop := ∀ e ∈ g.2, e.1 < e.2 ∧ e.2 < g.1
theorem sc_graph : FnScope ["box", "most", "part", "n", "i", "j"] ["box", "most", "part"] (defScope s__law_graph) := ⟨rfl, rfl, rfl, by decide +kernel, rfl, by decide +kernel, by decide +kernel⟩
def R_graph (bx cs : Addr) : List Sl → Cs → (Sl → Cs → Prop) → Prop := fun κ M W => ∃ (most part : Int), κ = [.v (.ref bx), .d (.int most), .d (.int part)] ∧ 0 < most ∧ most ≤ 12 ∧ Box bx cs M ∧
  ∀ (g : Nat × Ed) M', 1 ≤ g.1 → (g.1 : Int) ≤ most → GrOk g → g.2.Pairwise (fun p q => p.1 < q.1 ∨ (p.1 = q.1 ∧ p.2 < q.2)) → Box bx cs M' → W (.d (grD g)) M'
theorem ok_graph {k : Nat} {bx cs : Addr} (Fn : FnP K "_law_graph" s__law_graph f fd) (Gd : Go P w K mg base "_law_draw" k ["box", "many"] (R_draw bx cs)) (Gf : Go P w K mg base "_law_flat" k ["rows"] R_flat) (g_tu : mg "tuple" = none) (g_ra : mg "range" = none) : FnOk P w K mg base CX0 (k + 1) f fd ["box", "most", "part"] (SpG K (R_graph bx cs)) := by
  refine fn_okD Fn sc_graph (fun κ M W h => ?_) fun cdv A outer s H E hr nd B0 F0 κ M W hR => ?_
  · obtain ⟨m, p, rfl, _⟩ := h
    rfl
  · obtain ⟨most, part, rfl, h0, h12, hb, hW⟩ := hR
    refine db_cons <| ds_set 3 <| de_op op_add <| de_int <| de_goJ 0 Gd hr <| da_cons <| nm 0 rfl <| da_cons <| nm 1 rfl <| da_nil ⟨most, rfl, hb, h0, by omega, fun m M1 hm0 hm1 hb1 => ⟨trivial, r2_i ?_⟩⟩
    obtain ⟨n, hn⟩ : ∃ n : Nat, 1 + m = (n : Int) := ⟨(1 + m).toNat, by omega⟩
    rw [hn]
    have hn1 : 1 ≤ n ∧ n ≤ 12 ∧ (n : Int) ≤ most := by omega
    clear hn hm0 hm1
    refine db_cons <| ds_ret <| de_tup <| da_cons <| nm 3 rfl <| da_cons <| de_tupleOf g_tu <| de_pu Gf hr <| da_cons <| de_freeze <| de_lcC 4 <| di_range1 g_ra <| da_cons <| nm 3 rfl <| da_nil ⟨_, rfl, by omega, by omega, fun D => ⟨fun i acc M' => Box bx cs M' ∧ ∃ rows : List Ed, rows.length = i ∧ acc = rows.map (fun r => .list (edL r)) ∧ rows.flatten.length ≤ i * 12 ∧ (∀ e ∈ rows.flatten, e.1 < i ∧ e.1 < e.2 ∧ e.2 < n) ∧ rows.flatten.Pairwise (fun p q => p.1 < q.1 ∨ (p.1 = q.1 ∧ p.2 < q.2)), ⟨hb1, [], rfl, rfl, by simp, (fun e he => by cases he), .nil⟩, fun _ _ _ _ => trivial, ?_, ?_⟩⟩
    · rintro i d acc M' hd ⟨hb', rows, hl, rfl, hfl, hme, hpw⟩ b
      obtain ⟨hi, rfl⟩ := rngD_get hd
      rw [Int.toNat_natCast] at hi
      rw [Int.zero_add]
      refine de_freeze <| de_lcIfC 5 <| di_range2 g_ra <| da_cons <| de_op op_add <| nm 4 rfl <| de_int <| r2_i <| da_cons <| nm 3 rfl <| da_nil ⟨_, _, rfl, by omega, fun D2 => ⟨fun j acc2 M2 => ∃ M3, M2 = (D, .lst (rows.map (fun r => .list (edL r)))) :: M3 ∧ Box bx cs M3 ∧ ∃ r : Ed, acc2 = edL r ∧ r.length ≤ j ∧ (∀ e ∈ r, e.1 = i ∧ i < e.2 ∧ e.2 < i + 1 + j) ∧ r.Pairwise (fun p q => p.1 < q.1 ∨ (p.1 = q.1 ∧ p.2 < q.2)), ⟨M', rfl, hb', [], rfl, by simp, (fun e he => by cases he), .nil⟩, fun _ _ _ _ => trivial, ?_, ?_⟩⟩
      · rintro j d acc2 M2 hd2 ⟨M3, rfl, hb3, r, rfl, hrl, hre, hrp⟩ b2
        obtain ⟨hj, rfl⟩ := rngD_get hd2
        refine dt_cmp op_lt <| de_goJ 2 Gd hr <| da_cons <| nm 0 rfl <| da_cons <| de_int <| da_nil ⟨6, rfl, hb3, by decide, by decide, fun z M4 hz0 hz1 hb4 => ⟨trivial, nm 2 rfl <| r2_t ⟨fun _ b3 => ?_, fun _ => ⟨_, rfl, M4, rfl, hb4, r, rfl, by omega, fun e he => ?_, hrp⟩⟩⟩⟩
        · refine de_tup <| da_cons <| nm 4 rfl <| da_cons <| nm 5 rfl <| da_nil ⟨[_, _], rfl, z2, _, _, rfl, rfl, ?_, M4, rfl, hb4, r ++ [(i, i + 1 + j)], ?_, ?_, ?_, ?_⟩
          · rw [List.length_map]; omega
          · rw [show edL (r ++ [(i, i + 1 + j)]) = edL r ++ [edD (i, i + 1 + j)] from List.map_append]
            congr 3
          · simp; omega
          · intro e he
            rcases List.mem_append.mp he with he | he
            · obtain ⟨h1, h2, h3⟩ := hre e he; exact ⟨h1, h2, by omega⟩
            · rw [List.mem_singleton.mp he]; exact ⟨rfl, by show i < i + 1 + j; omega, by show i + 1 + j < i + 1 + (j + 1); omega⟩
          · refine List.pairwise_append.mpr ⟨hrp, by simp, fun a ha c hc => ?_⟩
            obtain ⟨h1, h2, h3⟩ := hre a ha
            rw [List.mem_singleton.mp hc]
            exact .inr ⟨h1, h3⟩
        · obtain ⟨h1, h2, h3⟩ := hre e he; exact ⟨h1, h2, by omega⟩
      · rintro acc2 M2 ⟨M3, rfl, hb3, r, rfl, hrl, hre, hrp⟩
        rw [rngD_len] at hrl hre
        refine ⟨D2, _, _, rfl, rfl, _, M3, rfl, rfl, ?_, hb3, rows ++ [r], by simp [hl], by simp, ?_, ?_, ?_⟩
        · rw [List.length_map]; omega
        · have e1 : ([r] : List Ed).flatten.length = r.length := by simp
          rw [List.flatten_append, List.length_append]
          omega
        · intro e he
          rw [List.flatten_append] at he
          rcases List.mem_append.mp he with he | he
          · obtain ⟨h1, h2, h3⟩ := hme e he; exact ⟨by omega, h2, h3⟩
          · simp at he
            obtain ⟨h1, h2, h3⟩ := hre e he
            exact ⟨by omega, by omega, by omega⟩
        · rw [List.flatten_append]
          refine List.pairwise_append.mpr ⟨hpw, by simpa using hrp, fun a ha c hc => ?_⟩
          simp at hc
          have h1 := (hme a ha).1
          have h2 := (hre c hc).1
          exact .inl (by omega)
    · rintro acc M' ⟨hb', rows, hl, rfl, hfl, hme, hpw⟩
      rw [rngD_len, Int.toNat_natCast] at hl hfl hme
      have hfe : (rows.map fun r => edL r).flatten = edL rows.flatten := List.map_flatten.symm
      refine ⟨D, _, _, rfl, rfl, da_nil <| da_pu (rows.map fun r => edL r) (by rw [List.map_map]; rfl) ?_ ⟨_, .lst _, da_nil ⟨[_, _], rfl, z2, ?_⟩⟩⟩
      · rw [hfe, List.length_map]; omega
      · rw [hfe]
        exact hW (n, rows.flatten) _ hn1.1 hn1.2.2 (fun e he => (hme e he).2) hpw hb'
end
end H78
set_option maxHeartbeats 4000000
namespace DL
open PySem PySem.Spec PyProof.Rows L2
theorem db_perm {X : Cx} {B0 F : Hp} {M M' : Cs} {ρ κ : List Sl} {ss : List Stmt} {k : KK} (p : M.Perm M') (h : DB X B0 F M' ρ κ ss k) : DB X B0 F M ρ κ ss k := fun σ vs H D g c => h σ vs H D (g.perm p) c
end DL
namespace H78
open PySem PySem.Spec PyProof.Rows L2 DL KY
/-- the cells of n new lists, in order -/
def fwd (ps : List Addr) (f : Nat → List PyData) : Cs := (List.range ps.length).map fun k => (ps.getD k 0, MC.lst (f k))
theorem fwd_len (ps : List Addr) (f : Nat → List PyData) : (fwd ps f).length = ps.length := by simp [fwd]
theorem fwd_at {ps : List Addr} {f : Nat → List PyData} {k : Nat} (h : k < ps.length) (M : Cs) : (fwd ps f ++ M)[k]? = some (ps[k], .lst (f k)) := by
  rw [List.getElem?_append_left (by rw [fwd_len]; exact h)]
  unfold fwd
  rw [List.getElem?_map, List.getElem?_range h]
  show some (ps.getD k 0, _) = _
  rw [getD_lt h]
theorem fwd_set {ps : List Addr} {f : Nat → List PyData} {k : Nat} (h : k < ps.length) (M : Cs) (r : List PyData) : (fwd ps f ++ M).set k (ps[k], .lst r) = fwd ps (fun j => if j = k then r else f j) ++ M := by
  rw [List.set_append_left _ _ (by rw [fwd_len]; exact h)]
  congr 1
  refine List.ext_getElem? fun j => ?_
  by_cases c : j < ps.length
  · by_cases e : k = j
    · subst e
      rw [List.getElem?_set_self (by rw [fwd_len]; exact h)]
      have := fwd_at (f := fun j => if j = k then r else f j) h []
      rw [List.append_nil, if_pos rfl] at this
      exact this.symm
    · rw [List.getElem?_set_ne e]
      have h1 := fwd_at (f := f) c []
      have h2 := fwd_at (f := fun j => if j = k then r else f j) c []
      rw [List.append_nil] at h1 h2
      rw [h1, h2, if_neg fun z => e z.symm]
  · rw [List.getElem?_eq_none (by rw [List.length_set, fwd_len]; omega), List.getElem?_eq_none (by rw [fwd_len]; omega)]
theorem perm_erase {α : Type} {a : α} : ∀ {l : List α} {m : Nat}, l[m]? = some a → l.Perm (a :: l.eraseIdx m)
  | [], m, h => by cases h
  | x :: l, 0, h => by cases Option.some.inj h; exact .refl _
  | x :: l, m + 1, h => ((perm_erase (l := l) (m := m) h).cons x).trans (.swap _ _ _)
theorem perm_set {α : Type} {a x : α} : ∀ {l : List α} {m : Nat}, l[m]? = some a → (l.set m x).Perm (x :: l.eraseIdx m)
  | [], m, h => by cases h
  | y :: l, 0, h => .refl _
  | y :: l, m + 1, h => ((perm_set (l := l) (m := m) h).cons y).trans (.swap _ _ _)
theorem fwd_snoc (ps : List Addr) (p : Addr) : fwd (ps ++ [p]) (fun _ => []) = fwd ps (fun _ => []) ++ [(p, MC.lst [])] := by
  unfold fwd
  rw [List.length_append, show ps.length + [p].length = ps.length + 1 from rfl, List.range_succ, List.map_append]
  congr 1
  · refine List.map_congr_left fun k hk => ?_
    have hk := List.mem_range.mp hk
    rw [getD_lt hk, getD_lt (by rw [List.length_append]; omega), List.getElem_append_left hk]
  · show [((ps ++ [p]).getD ps.length 0, _)] = _
    rw [getD_lt (by simp)]
    simp
theorem ref_fwd (ps : List Addr) (g : Nat → List PyData) : ((List.range ps.length).map fun k => (ps.getD k 0, g k)).map (fun c => V.ref c.1) = ps.map V.ref := by
  rw [List.map_map]
  refine List.ext_getElem? fun j => ?_
  rw [List.getElem?_map, List.getElem?_map]
  by_cases c : j < ps.length
  · rw [List.getElem?_range c, List.getElem?_eq_getElem c]
    show some (V.ref (ps.getD j 0)) = _
    rw [getD_lt c]
    rfl
  · rw [List.getElem?_eq_none (by rw [List.length_range]; omega), List.getElem?_eq_none (by omega)]
    rfl
section
variable {P : Program} {w : World} {K : PySem.W.Frag} {mg : Str → Option Value} {base : Heap} {f : Addr} {fd : FuncData}
theorem sc_nx : FnScope ["graph", "n", "edges", "found", "_", "i", "j"] ["graph"] (defScope s_nexts_of) := ⟨rfl, rfl, rfl, by decide +kernel, rfl, by decide +kernel, by decide +kernel⟩
def nextsD (g : Nat × Ed) : PyData := .list ((List.range g.1).map fun k => .list (natL (nearN g.2 k)))
abbrev R_nx := Pu (fun g : Nat × Ed => [.d (grD g)]) (fun g => g.1 ≤ 1000 ∧ g.2.length ≤ 1000 ∧ ∀ e ∈ g.2, e.1 < g.1 ∧ e.2 < g.1 ∧ e.1 ≠ e.2) nextsD
theorem ok_nx {k : Nat} (Fn : FnP K "nexts_of" s_nexts_of f fd) (g_ra : mg "range" = none) : FnOk P w K mg base CX0 (k + 1) f fd ["graph"] (SpG K R_nx) := by
  refine fn_okD Fn sc_nx (fun κ M W h => ?_) fun cdv A outer s H E hr nd B0 F0 κ M W hR => ?_
  · obtain ⟨ns, rfl, _⟩ := h
    rfl
  · obtain ⟨⟨n, es⟩, hκ, ⟨hn0, hes0, he0⟩, hW0⟩ := hR
    have hκ : κ = [.d (.tuple [.int (n : Nat), .tuple (edL es)])] := hκ
    subst hκ
    have hn : n ≤ 1000 := hn0
    have hes : es.length ≤ 1000 := hes0
    have heok : ∀ e ∈ es, e.1 < n ∧ e.2 < n ∧ e.1 ≠ e.2 := he0
    have hW : ∀ M', W (.d (nextsD (n, es))) M' := hW0
    refine db_cons <| ds_asg <| nm 0 rfl <| dg_tup rfl <| dgs_cons <| dg_name 1 <| dgs_cons <| dg_name 2 <| dgs_nil ?_
    refine db_cons <| ds_cmp 3 <| gu_lcRaw 4 <| di_range1 g_ra <| da_cons <| nm 1 rfl <| da_nil ⟨_, rfl, by omega, by omega, fun D => ⟨fun j M' => ∃ ps : List Addr, ps.length = j ∧ M'.Perm (fwd ps (fun _ => []) ++ (D, .raw (.lst (ps.map V.ref))) :: M) ∧ ∃ m : Nat, M'[m]? = some (D, .raw (.lst (ps.map V.ref))), ⟨[], rfl, List.Perm.refl _, 0, rfl⟩, fun _ _ _ => trivial, ?_, ?_⟩⟩
    · rintro j d M' hd ⟨ps, hl, hp, m, hm⟩ b
      obtain ⟨hj, -⟩ := rngD_get hd
      refine de_lstC <| da_nil ⟨[], rfl, z0, fun p => ⟨m + 1, ps.map V.ref, .ref p, rfl, hm, by rw [List.length_map]; omega, ps ++ [p], by simp [hl], ?_, m + 1, ?_⟩⟩
      · show ((p, MC.lst []) :: M'.set m (D, .raw (.lst (ps.map V.ref ++ [V.ref p])))).Perm _
        have h1 : ((D, MC.raw (.lst (ps.map V.ref))) :: M'.eraseIdx m).Perm ((D, .raw (.lst (ps.map V.ref))) :: (fwd ps (fun _ => []) ++ M)) := ((perm_erase hm).symm.trans hp).trans List.perm_middle
        have h2 : (M'.eraseIdx m).Perm (fwd ps (fun _ => []) ++ M) := (List.perm_cons _).mp h1
        rw [fwd_snoc, List.map_append, List.append_assoc]
        refine (((perm_set hm).trans (h2.cons _)).cons _).trans ?_
        show ((p, MC.lst []) :: (D, .raw (.lst (ps.map V.ref ++ [V.ref p]))) :: (fwd ps (fun _ => []) ++ M)).Perm (fwd ps (fun _ => []) ++ ((p, MC.lst []) :: (D, .raw (.lst (ps.map V.ref ++ [V.ref p]))) :: M))
        exact (List.perm_middle.symm.cons _).trans List.perm_middle.symm
      · show ((p, MC.lst []) :: M'.set m (D, .raw (.lst (ps.map V.ref ++ [V.ref p]))))[m + 1]? = _
        rw [List.map_append]
        show (M'.set m _)[m]? = _
        rw [List.getElem?_set_self (List.getElem?_eq_some_iff.mp hm).1]
        rfl
    · rintro M' ⟨ps, hl, hp, -⟩
      rw [rngD_len, Int.toNat_natCast] at hl
      refine db_perm hp ?_
      have ixp : ∀ {k : Nat} (hk : k < n), atI (ps.map V.ref) (k : Int) = some (.ref (ps[k]'(by omega))) := fun {k} hk => atI_at (by omega) (by
        rw [Int.toNat_natCast, List.getElem?_map, List.getElem?_eq_getElem (show k < ps.length by omega)]
        rfl)
      refine db_cons <| ds_for <| di_tup <| nm 2 rfl ⟨_, rfl, fun i M' ρ' => ∃ s5 s6, M' = fwd ps (fun k => natL (nearN (es.take i) k)) ++ (D, .raw (.lst (ps.map V.ref))) :: M ∧ ρ' = [.d (.tuple [.int (n : Nat), .tuple (edL es)]), .d (.int (n : Nat)), .d (.tuple (edL es)), .v (.ref D), .un, s5, s6], ⟨_, _, rfl, rfl⟩, fun _ _ _ _ => trivial, ?_, ?_⟩
      · rintro i d M' ρ' hd ⟨s5, s6, rfl, rfl⟩
        obtain ⟨⟨a, c⟩, he, rfl⟩ := map_get hd
        have hi := (List.getElem?_eq_some_iff.mp he).1
        obtain ⟨ha, hc, hac⟩ := heok _ (List.mem_of_getElem? he)
        have ha : a < n := ha
        have hc : c < n := hc
        have hac : a ≠ c := hac
        have lenb : ∀ k, (natL (nearN (es.take i) k)).length < 100000 := fun k => by
          have := nearN_len (es.take i) k
          rw [List.length_take] at this
          rw [natL_len]
          omega
        refine dg_tup rfl <| dgs_cons <| dg_name 5 <| dgs_cons <| dg_name 6 <| dgs_nil ?_
        refine db_cons <| ds_expr <| de_append a <| de_ix ix_list <| nm 3 rfl <| nm 5 rfl <| r2_ixRaw (ws := ps.map V.ref) (List.mem_append_right _ List.mem_cons_self) (ixp ha) ⟨_, _, rfl, List.mem_of_getElem? (fwd_at (show a < ps.length by omega) _), nm 6 rfl ⟨_, _, rfl, fwd_at (show a < ps.length by omega) _, lenb a, ?_⟩⟩
        rw [fwd_set (show a < ps.length by omega)]
        refine db_cons <| ds_expr <| de_append c <| de_ix ix_list <| nm 3 rfl <| nm 6 rfl <| r2_ixRaw (ws := ps.map V.ref) (List.mem_append_right _ List.mem_cons_self) (ixp hc) ⟨_, _, rfl, List.mem_of_getElem? (fwd_at (show c < ps.length by omega) _), nm 5 rfl ⟨_, _, rfl, fwd_at (show c < ps.length by omega) _, by rw [if_neg fun z => hac z.symm]; exact lenb c, ?_⟩⟩
        rw [fwd_set (show c < ps.length by omega)]
        refine db_nil ⟨.d (.int (a : Nat)), .d (.int (c : Nat)), ?_, rfl⟩
        congr 2
        funext k
        rw [nearN_take he]
        by_cases e1 : k = c
        · subst e1
          rw [if_pos rfl, if_neg fun z => hac z.symm, if_pos (.inr rfl), natL_app]
          show _ ++ [PyData.int (a : Int)] = _ ++ [PyData.int ((a + k - k : Nat) : Int)]
          rw [show a + k - k = a by omega]
        · rw [if_neg e1]
          by_cases e2 : k = a
          · subst e2
            rw [if_pos rfl, if_pos (.inl rfl), natL_app]
            show _ ++ [PyData.int (c : Int)] = _ ++ [PyData.int ((k + c - k : Nat) : Int)]
            rw [show k + c - k = c by omega]
          · rw [if_neg e2, if_neg (fun z => z.elim e2 e1), List.append_nil]
      · rintro M' ρ' ⟨s5, s6, rfl, rfl⟩
        rw [List.length_map, List.take_length]
        refine db_perm (M' := ((((List.range ps.length).map fun k => (ps.getD k 0, natL (nearN es k))).reverse.map fun c => (c.1, MC.lst c.2)) ++ (D, .raw (.lst (((List.range ps.length).map fun k => (ps.getD k 0, natL (nearN es k))).map fun c => V.ref c.1))) :: M)) ?_ ?_
        · rw [ref_fwd]
          refine List.Perm.append_right _ ?_
          rw [List.map_reverse, List.map_map]
          exact (List.reverse_perm _).symm
        · refine db_cons <| ds_ret <| de_freezeLL <| nm 3 rfl ⟨D, _, M, rfl, rfl, ?_⟩
          rw [List.map_map, hl]
          exact hW _
end
end H78
set_option maxHeartbeats 4000000
namespace H78
open PySem PySem.Spec PyProof.Rows L2 DL KY
/-- a game's attributes -/
def gameFs (g : Nat × Ed) (b : Bool) (kd : Addr) : List (Str × Sl) := [("nexts", .d (nextsD g)), ("by_edges", .d (.bool b)), ("known", .v (.ref kd))]
section
variable {P : Program} {w : World} {K : PySem.W.Frag} {mg : Str → Option Value} {base : Heap} {f : Addr} {fd : FuncData}
theorem sc_init : FnScope ["self", "graph", "by_edges"] ["self", "graph", "by_edges"] (defScope s_Kayles___init__) := ⟨rfl, rfl, rfl, by decide +kernel, rfl, by decide +kernel, by decide +kernel⟩
def R_init (P : Program) (w : World) (C : Addr) : List Sl → Cs → (Sl → Cs → Prop) → Prop := fun κ M W => ∃ (x : Addr) (g : Nat × Ed) (b : Bool), κ = [.v (.ref x), .d (grD g), .d (.bool b)] ∧ M = [(x, .ins C [])] ∧
  (g.1 ≤ 1000 ∧ g.2.length ≤ 1000 ∧ ∀ e ∈ g.2, e.1 < g.1 ∧ e.2 < g.1 ∧ e.1 ≠ e.2) ∧ ∀ kd, W (.d .none) [(kd, .dn (NDic P w kd) []), (x, .ins C (gameFs g b kd))]
theorem ok_init {k : Nat} {C : Addr} (Fn : FnM K "__init__" "Kayles.__init__" s_Kayles___init__ f fd) (c : Cls K C) (n1 : NoAttr K C "nexts") (n2 : NoAttr K C "by_edges") (n3 : NoAttr K C "known") (G : Go P w K mg base "nexts_of" k ["graph"] R_nx) : FnOk P w K mg base CX0 (k + 1) f fd ["self", "graph", "by_edges"] (SpG K (R_init P w C)) := by
  refine fn_okD Fn sc_init (fun κ M W h => ?_) fun cdv A outer s H E hr nd B0 F0 κ M W hR => ?_
  · obtain ⟨x, g, b, rfl, _⟩ := h
    rfl
  · obtain ⟨x, g, b, rfl, rfl, hg, hW⟩ := hR
    refine db_cons <| ds_fld 0 <| de_pu G hr <| da_cons <| nm 1 rfl <| da_nil <| da_pu g rfl hg <| nm 0 rfl ⟨x, C, _, rfl, rfl, c, n1, by decide, ⟨_, .inl rfl⟩, ?_⟩
    refine db_cons <| ds_fld 0 <| nm 2 rfl <| nm 0 rfl ⟨x, C, _, rfl, rfl, c, n2, (by decide : 1 < 1000), ⟨_, .inl rfl⟩, ?_⟩
    refine db_cons <| ds_fld 1 <| de_ndnew fun kd => nm 0 rfl ⟨x, C, _, rfl, rfl, c, n3, (by decide : 2 < 1000), ⟨.none, .inr ⟨_, rfl⟩⟩, ?_⟩
    exact db_nil (hW kd)
end
end H78
set_option maxHeartbeats 4000000
namespace H78
open PySem PySem.Spec PyProof.Rows L2 DL KY
/-! ### pieces -/
theorem val_nil {mv : Mv} (sh : KY.Short mv) : val mv [] = 0 := by
  refine (val_mex sh []).uniq (fun _ => Iff.rfl) ⟨fun h => ?_, fun k hk => by omega⟩
  obtain ⟨S', h1, _⟩ := List.mem_map.mp h
  have := sh.1 [] S' h1
  simp at this
def xorL (ns : List Nat) : Nat := ns.foldl (· ^^^ ·) 0
theorem xorL_app (a : List Nat) (x : Nat) : xorL (a ++ [x]) = xorL a ^^^ x := by unfold xorL; rw [List.foldl_append]; rfl
/-- a graph of the program: no pair twice, each going up -/
structure GOk (g : Nat × Ed) : Prop where
  n : g.1 ≤ 14
  e : g.2.length ≤ 1000
  up : ∀ e ∈ g.2, e.1 < e.2 ∧ e.2 < g.1
  nd : g.2.Nodup
theorem near_nd {es : Ed} (nd : es.Nodup) (up : ∀ e ∈ es, e.1 < e.2) (p : Nat) : (nearN es p).Nodup := by
  induction es with
  | nil => exact List.nodup_nil
  | cons e es ih =>
    obtain ⟨h1, h2⟩ := List.nodup_cons.mp nd
    have ih := ih h2 fun e he => up e (List.mem_cons_of_mem _ he)
    have he := up e List.mem_cons_self
    unfold nearN at ih ⊢
    rw [List.filterMap_cons]
    by_cases c : p = e.1 ∨ p = e.2
    · rw [if_pos c]
      refine List.nodup_cons.mpr ⟨fun h => ?_, ih⟩
      obtain ⟨e', he', h3⟩ := List.mem_filterMap.mp h
      have hu := up e' (List.mem_cons_of_mem _ he')
      by_cases c' : p = e'.1 ∨ p = e'.2
      · rw [if_pos c'] at h3
        have h4 : e'.1 + e'.2 - p = e.1 + e.2 - p := Option.some.inj h3
        refine h1 ?_
        have e1 : e.1 = e'.1 := by omega
        have e2 : e.2 = e'.2 := by omega
        rw [show e = e' from Prod.ext e1 e2]
        exact he'
      · rw [if_neg c'] at h3; cases h3
    · rw [if_neg c]; exact ih
theorem adj_symm (es : Ed) (p q : Nat) : adjN es p q = adjN es q p := by
  rw [Bool.eq_iff_iff, adjN_iff, adjN_iff]
  exact Or.comm
structure PInv (es : Ed) (L C : List Nat) (i : Nat) : Prop where
  nd : C.Nodup
  sub : ∀ x ∈ C, x ∈ L
  cl : ∀ j x, j < i → C[j]? = some x → ∀ y ∈ L, adjN es x y = true → y ∈ C
theorem PInv.step {es : Ed} {L C : List Nat} {i x : Nat} (h : PInv es L C i) (hx : C[i]? = some x) (nn : (nearN es x).Nodup) : PInv es L (C ++ (nearN es x).filter fun y => decide (y ∈ L) && !decide (y ∈ C)) (i + 1) := by
  refine ⟨List.nodup_append.mpr ⟨h.nd, nn.filter _, fun a ha b hb e => ?_⟩, fun y hy => ?_, fun j z hj hz y hy ha => ?_⟩
  · subst e
    have := (List.mem_filter.mp hb).2
    simp [ha] at this
  · rcases List.mem_append.mp hy with hy | hy
    · exact h.sub y hy
    · have := (List.mem_filter.mp hy).2
      simp at this
      exact this.1
  · have hi : i < C.length := (List.getElem?_eq_some_iff.mp hx).1
    by_cases c : y ∈ C
    · exact List.mem_append_left _ c
    · rw [List.getElem?_append_left (by omega)] at hz
      by_cases q : j < i
      · exact List.mem_append_left _ (h.cl j z q hz y hy ha)
      · have : j = i := by omega
        subst this
        rw [hx] at hz
        cases hz
        refine List.mem_append_right _ (List.mem_filter.mpr ⟨?_, by simp [hy, c]⟩)
        unfold adjN at ha
        simpa using ha
theorem PInv.apart {es : Ed} {L C : List Nat} (h : PInv es L C C.length) : Apart (adjN es) (fun q => decide (q ∈ C)) L := by
  have one : ∀ p q, q ∈ L → p ∈ C → q ∉ C → adjN es p q = false := fun p q hq hp hn => by
    obtain ⟨j, hj⟩ := List.mem_iff_getElem?.mp hp
    cases c : adjN es p q with
    | false => rfl
    | true => exact absurd (h.cl j p (List.getElem?_eq_some_iff.mp hj).1 hj q hq c) hn
  intro p hp q hq e
  by_cases c : p ∈ C
  · by_cases d : q ∈ C
    · exact absurd (by simp [c, d]) e
    · exact one p q hq c d
  · by_cases d : q ∈ C
    · rw [adj_symm]; exact one q p hp d c
    · exact absurd (by simp [c, d]) e
theorem PInv.len {es : Ed} {L C : List Nat} {i : Nat} (h : PInv es L C i) : C.length ≤ L.length := nodup_len h.nd h.sub
structure Pcs (g : Nat × Ed) (S : List Nat) (Ps : List (List Nat)) (L : List Nat) : Prop where
  up : Up g.1 L
  ups : ∀ C ∈ Ps, Up g.1 C ∧ C.length ≤ S.length
  len : Ps.length + L.length ≤ S.length
  vals : ∀ mv, KY.Short mv → Splits mv (adjN g.2) → val mv S = xorL (Ps.map (val mv)) ^^^ val mv L
theorem Pcs.start {g : Nat × Ed} {S : List Nat} (h : Up g.1 S) : Pcs g S [] S := ⟨h, fun C hC => (by cases hC), by simp, fun mv _ _ => by simp [xorL]⟩
theorem Pcs.step {g : Nat × Ed} {S L C T : List Nat} {Ps : List (List Nat)} (h : Pcs g S Ps L) (c : PInv g.2 L C C.length) (hC : C ≠ []) (p : T.Perm C) (s : T.Pairwise (· ≤ ·)) : T = L.filter (fun q => decide (q ∈ C)) ∧ Pcs g S (Ps ++ [T]) (L.filter fun q => !decide (q ∈ C)) := by
  have e : T = L.filter (fun q => decide (q ∈ C)) := by
    refine sort_up (p.trans ((List.perm_ext_iff_of_nodup c.nd ((h.up.1.imp fun h => by omega : L.Nodup).filter _)).mpr fun x => ?_)) s ((h.up.1.filter _).imp fun h => by omega)
    rw [List.mem_filter]
    simp
    exact fun hx => c.sub x hx
  refine ⟨e, h.up.filter _, fun D hD => ?_, ?_, fun mv sh sp => ?_⟩
  · rcases List.mem_append.mp hD with hD | hD
    · exact h.ups D hD
    · rw [List.mem_singleton.mp hD]
      refine ⟨e ▸ h.up.filter _, ?_⟩
      have h1 := p.length_eq
      have h2 := c.len
      have h3 := h.len
      omega
  · have h3 := h.len
    have h4 : (L.filter fun q => !decide (q ∈ C)).length < L.length := by
      cases C with
      | nil => exact absurd rfl hC
      | cons x C => exact filter_lt (p := x) (c.sub x List.mem_cons_self) (by simp)
    rw [List.length_append, List.length_singleton]
    omega
  · rw [h.vals mv sh sp, val_split sh sp (fun q => decide (q ∈ C)) L.length L (Nat.le_refl _) c.apart, List.map_append, List.map_singleton, xorL_app, e, Nat.xor_assoc]
def rowsD (Ps : List (List Nat)) : PyData := .list (Ps.map fun C => .list (natL C))
def R_pc : List Sl → Cs → (Sl → Cs → Prop) → Prop := PuR (fun a : (Nat × Ed) × List Nat => [.d (nextsD a.1), .d (.list (natL a.2))]) (fun a => GOk a.1 ∧ Up a.1.1 a.2) (fun a y => ∃ Ps, y = rowsD Ps ∧ Pcs a.1 a.2 Ps [])
section
variable {P : Program} {w : World} {K : PySem.W.Frag} {mg : Str → Option Value} {base : Heap} {f : Addr} {fd : FuncData}
theorem sc_pc : FnScope ["nexts", "places", "left", "found", "piece", "at", "other", "place"] ["nexts", "places"] (defScope s_pieces_of) := ⟨rfl, rfl, rfl, by decide +kernel, rfl, by decide +kernel, by decide +kernel⟩
theorem nexts_at {g : Nat × Ed} {p : Nat} (h : p < g.1) : atI ((List.range g.1).map fun k => PyData.list (natL (nearN g.2 k))) (p : Int) = some (.list (natL (nearN g.2 p))) := atI_at (by omega) (by
  rw [Int.toNat_natCast, List.getElem?_map, List.getElem?_range h]
  rfl)
theorem ok_pc {k : Nat} (Fn : FnP K "pieces_of" s_pieces_of f fd) (g_so : mg "sorted" = none) (g_le : mg "len" = none) : FnOk P w K mg base CX0 (k + 1) f fd ["nexts", "places"] (SpG K R_pc) := by
  refine fn_okD Fn sc_pc (fun κ M W h => ?_) fun cdv A outer s H E hr nd B0 F0 κ M W hR => ?_
  · obtain ⟨ns, rfl, _⟩ := h
    rfl
  · obtain ⟨⟨g, S⟩, rfl, ⟨hg, hS⟩, hW⟩ := hR
    have hg : GOk g := hg
    have hS : Up g.1 S := hS
    have hgn := hg.n
    have hSn := hS.len
    have hW : ∀ Ps M', Pcs g S Ps [] → W (.d (rowsD Ps)) M' := fun Ps M' h => hW _ _ ⟨Ps, rfl, h⟩
    refine db_cons <| ds_parT 2 <| da_cons <| de_freeze <| de_sortedN hr.units g_so <| nm 1 rfl ⟨S, .lst _, by omega, fun T hp hs l => ⟨l, _, _, rfl, rfl, da_cons <| de_lstC <| da_nil ⟨[], rfl, z0, fun q => da_nil ⟨rfl, dgs_cons <| dg_name 2 <| dgs_cons <| dg_name 3 <| dgs_nil ?_⟩⟩⟩⟩
    rw [sort_up hp hs (hS.1.imp fun h => by omega)]
    refine db_cons <| ds_while (fun m M' ρ' => ∃ L Ps s4 s5, M' = [(q, MC.lst (Ps.map fun C => .list (natL C)))] ++ M ∧ ρ' = [.d (nextsD g), .d (.list (natL S)), .d (.list (natL L)), .v (.ref q), s4, s5, .un, .un] ∧ L.length = m ∧ Pcs g S Ps L) S.length ⟨S, [], _, _, rfl, rfl, rfl, .start hS⟩ ?_
    rintro m M' ρ' ⟨L, Ps, s4, s5, rfl, rfl, hm, hp⟩
    have hlen := hp.len
    refine dt_truth <| nm 2 rfl ⟨_, rfl, (fun x h => nomatch h), ?_⟩
    cases L with
    | nil =>
      refine waysF rfl ?_
      exact db_cons <| ds_ret <| de_freeze <| nm 3 rfl ⟨q, _, M, rfl, rfl, hW _ _ hp⟩
    | cons x L =>
      refine waysT rfl ?_
      refine db_cons <| ds_parT 2 <| da_cons <| de_lstC <| da_cons <| de_ix ix_seq <| nm 2 rfl <| de_int <| r2_ix (.lst _) (d := .int (x : Nat)) (nat_at (i := 0) rfl) <| da_nil ⟨[.int (x : Nat)], rfl, z1, fun c => da_cons <| de_int <| da_nil ⟨rfl, dgs_cons <| dg_name 4 <| dgs_cons <| dg_name 5 <| dgs_nil ?_⟩⟩
      refine db_cons <| ds_while (fun m M' ρ' => ∃ C, ∃ i : Nat, M' = (c, MC.lst (natL C)) :: (q, MC.lst (Ps.map fun C => .list (natL C))) :: M ∧ ρ' = [.d (nextsD g), .d (.list (natL S)), .d (.list (natL (x :: L))), .v (.ref q), .v (.ref c), .d (.int (i : Nat)), .un, .un] ∧ (x :: L).length - i = m ∧ i ≤ C.length ∧ C ≠ [] ∧ PInv g.2 (x :: L) C i) ((x :: L).length - 0) ⟨[x], 0, rfl, rfl, rfl, by simp, by simp, ⟨by simp, by simp, fun j y hj => by omega⟩⟩ ?_
      rintro m' M' ρ' ⟨C, i, rfl, rfl, hm', hi, hC, hI⟩
      have hCl := hI.len
      refine dt_cmp op_lt <| nm 5 rfl <| de_len g_le <| nm 4 rfl ⟨natL C, .cell (by simp), r2_t (waysD (fun h => ?_) (fun h => ?_))⟩
      · rw [natL_len] at h
        have h : i < C.length := by omega
        obtain ⟨y, hy⟩ : ∃ y, C[i]? = some y := ⟨C[i], by simp [h]⟩
        have hyL := hI.sub y (List.mem_of_getElem? hy)
        have hyn : y < g.1 := hp.up.2 y hyL
        refine db_cons <| ds_aug 4 iop_ext rfl (by intro h; cases h) <| de_freeze <| de_filN 6 (fun z => decide (z ∈ x :: L) && !decide (z ∈ C)) <| di_list <| de_ix ix_seq <| nm 0 rfl <| de_ix ix_seq <| nm 4 rfl <| nm 5 rfl <| r2_ix (.cell (by simp)) (nat_at hy) <| r2_ix (.lst _) (nexts_at hyn) ⟨_, rfl, nearN g.2 y, rfl, ?_, fun _ _ _ => trivial, ?_, fun D => ⟨D, _, _, rfl, rfl, r2_ext 0 rfl (.lst _) ?_ ?_⟩⟩
        · have := nearN_len g.2 y
          have := hg.e
          omega
        · intro z D acc hz b
          exact dt_w <| dw_andP <| dt_cmp op_in_seq <| nm 6 rfl <| nm 2 rfl <| r2_tin (.lst _) ⟨!decide (z ∈ C), fun _ => dw_and1 <| dt_cmp op_notIn_seq <| nm 6 rfl <| nm 4 rfl <| r2_tni (.cell (by simp)) ⟨rfl, rfl⟩, rfl, rfl⟩
        · rw [natL_len, natL_len]
          have h1 := List.length_filter_le (fun z => decide (z ∈ x :: L) && !decide (z ∈ C)) (nearN g.2 y)
          have h2 := nearN_len g.2 y
          have h3 := hg.e
          omega
        · refine db_cons <| ds_aug 5 iop_add rfl (by intro h; cases h) <| de_int <| r2_i <| db_nil ⟨(x :: L).length - (i + 1), by omega, C ++ (nearN g.2 y).filter (fun z => decide (z ∈ x :: L) && !decide (z ∈ C)), i + 1, ?_, rfl, rfl, ?_, ?_, ?_⟩
          · rw [natL_app]; rfl
          · rw [List.length_append]; omega
          · intro h; exact hC (List.append_eq_nil_iff.mp h).1
          · exact hI.step hy (near_nd hg.nd (fun e he => (hg.up e he).1) y)
      · rw [natL_len] at h
        have h : i = C.length := by omega
        subst h
        refine db_cons <| ds_expr <| de_append 1 <| nm 3 rfl ⟨q, _, rfl, List.mem_cons_of_mem _ List.mem_cons_self, de_freeze <| de_sortedN hr.units g_so <| nm 4 rfl ⟨C, .cell (by simp), by omega, fun T hpT hsT l => ⟨l, _, _, rfl, rfl, Ps.map fun C => .list (natL C), .list (natL T), rfl, rfl, ?_, ?_⟩⟩⟩
        · rw [List.length_map]; omega
        · obtain ⟨-, hst⟩ := hp.step hI hC hpT hsT
          refine db_cons <| ds_set 2 <| de_freeze <| de_filN 7 (fun z => !decide (z ∈ C)) <| di_list <| nm 2 rfl ⟨_, rfl, x :: L, rfl, by omega, fun _ _ _ => trivial, ?_, fun D => ⟨D, _, _, rfl, rfl, db_drop 1 <| db_nil ⟨_, ?_, (x :: L).filter (fun z => !decide (z ∈ C)), Ps ++ [T], _, _, ?_, rfl, rfl, hst⟩⟩⟩
          · intro z D acc hz b
            exact dt_cmp op_notIn_seq <| nm 7 rfl <| nm 4 rfl <| r2_tni (.cell (by simp)) ⟨rfl, rfl⟩
          · have h4 : ((x :: L).filter fun q => !decide (q ∈ C)).length < (x :: L).length := by
              cases C with
              | nil => exact absurd rfl hC
              | cons y C => exact filter_lt (p := y) (hI.sub y List.mem_cons_self) (by simp)
            omega
          · rw [List.map_append]; rfl
end
end H78
set_option maxHeartbeats 1000000
namespace H78
open PySem PySem.Spec PyProof.Rows L2 DL KY
/-! ### the game's methods -/
def nearS (es : Ed) (S : List Nat) (p : Nat) : List Nat := (nearN es p).filter fun q => decide (q ∈ S)
def vRow (es : Ed) (S : List Nat) (p : Nat) : List Nat := S.filter fun q => !decide (q = p) && !decide (q ∈ nearS es S p)
def eRow (S : List Nat) (p j : Nat) : List Nat := S.filter fun q => !decide (q ∈ [p, j])
def eRows (S : List Nat) (p : Nat) (js : List Nat) : List (List Nat) := (js.filter fun j => decide (p < j)).map (eRow S p)
def rowsP (b : Bool) (es : Ed) (S : List Nat) (p : Nat) : List (List Nat) := if b then eRows S p (nearS es S p) else [vRow es S p]
def behindL (b : Bool) (es : Ed) (S ps : List Nat) : List (List Nat) := ps.flatMap (rowsP b es S)
theorem behind_take {b : Bool} {es : Ed} {S ps : List Nat} {i p : Nat} (h : ps[i]? = some p) : behindL b es S (ps.take (i + 1)) = behindL b es S (ps.take i) ++ rowsP b es S p := by
  unfold behindL
  rw [take_get h, List.flatMap_append]
  simp
theorem rowsP_len (b : Bool) (es : Ed) (S : List Nat) (p : Nat) : (rowsP b es S p).length ≤ es.length + 1 := by
  unfold rowsP
  split
  · unfold eRows
    rw [List.length_map]
    have h1 := List.length_filter_le (fun j => decide (p < j)) (nearS es S p)
    have h2 : (nearS es S p).length ≤ (nearN es p).length := List.length_filter_le _ _
    have h3 := nearN_len es p
    omega
  · simp
theorem behind_len {b : Bool} {es : Ed} {S : List Nat} : ∀ ps : List Nat, (behindL b es S ps).length ≤ ps.length * (es.length + 1)
  | [] => by simp [behindL]
  | p :: ps => by
    have h1 := behind_len (b := b) (es := es) (S := S) ps
    have h2 := rowsP_len b es S p
    unfold behindL at h1 ⊢
    rw [List.flatMap_cons, List.length_append, List.length_cons, Nat.succ_mul]
    omega
def mvB (b : Bool) (es : Ed) : Mv := if b then mvE (adjN es) else mvV (adjN es)
theorem short_B (b : Bool) (es : Ed) : KY.Short (mvB b es) := by
  unfold mvB
  split
  · exact short_E _
  · exact short_V _
theorem splits_B (b : Bool) (es : Ed) : Splits (mvB b es) (adjN es) := by
  unfold mvB
  split
  · exact splits_E _
  · exact splits_V _
theorem adj_near {es : Ed} {p q : Nat} : adjN es p q = true ↔ q ∈ nearN es p := by unfold adjN; simp
/-- the rows behind are the moves -/
theorem behind_mv {b : Bool} {es : Ed} (up : ∀ e ∈ es, e.1 < e.2) (S : List Nat) (T : List Nat) : T ∈ behindL b es S S ↔ T ∈ mvB b es S := by
  unfold behindL mvB
  cases b with
  | false =>
    show T ∈ S.flatMap (fun p => [vRow es S p]) ↔ T ∈ mvV (adjN es) S
    unfold mvV
    rw [List.mem_flatMap, List.mem_map]
    refine exists_congr fun p => and_congr_right fun hp => ?_
    rw [List.mem_singleton]
    have : vRow es S p = S.filter fun q => q != p && !adjN es p q := List.filter_congr fun q hq => by
      unfold nearS
      rw [Bool.eq_iff_iff]
      simp [hq]
      intro _
      rw [← adj_near]
      simp
    rw [this]
    exact eq_comm
  | true =>
    show T ∈ S.flatMap (fun p => eRows S p (nearS es S p)) ↔ T ∈ mvE (adjN es) S
    unfold mvE eRows nearS
    rw [List.mem_flatMap, List.mem_flatMap]
    have key : ∀ p j, eRow S p j = S.filter fun q => q != p && q != j := fun p j => List.filter_congr fun q hq => by
      rw [Bool.eq_iff_iff]
      simp
    have sw : ∀ p j, eRow S p j = eRow S j p := fun p j => by
      rw [key, key]
      exact List.filter_congr fun q _ => by rw [Bool.and_comm]
    have ne : ∀ p j, adjN es p j = true → p ≠ j := fun p j h e => by
      subst e
      rcases adjN_iff.mp h with h | h <;> exact absurd (up _ h) (by simp)
    constructor
    · rintro ⟨p, hp, h⟩
      obtain ⟨j, hj, rfl⟩ := List.mem_map.mp h
      obtain ⟨hj, _⟩ := List.mem_filter.mp hj
      obtain ⟨hj, hjS⟩ := List.mem_filter.mp hj
      exact ⟨p, hp, List.mem_map.mpr ⟨j, List.mem_filter.mpr ⟨of_decide_eq_true hjS, adj_near.mpr hj⟩, (key p j).symm⟩⟩
    · rintro ⟨p, hp, h⟩
      obtain ⟨j, hj, rfl⟩ := List.mem_map.mp h
      obtain ⟨hj, ha⟩ := List.mem_filter.mp hj
      by_cases c : p < j
      · exact ⟨p, hp, List.mem_map.mpr ⟨j, List.mem_filter.mpr ⟨List.mem_filter.mpr ⟨adj_near.mp ha, decide_eq_true hj⟩, decide_eq_true c⟩, key p j⟩⟩
      · have := ne p j ha
        refine ⟨j, hj, List.mem_map.mpr ⟨p, List.mem_filter.mpr ⟨List.mem_filter.mpr ⟨adj_near.mp (by rw [adj_symm]; exact ha), decide_eq_true hp⟩, decide_eq_true (by omega)⟩, ?_⟩⟩
        rw [sw]
        exact key p j
theorem behind_val {b : Bool} {es : Ed} (up : ∀ e ∈ es, e.1 < e.2) (S : List Nat) : mex ((behindL b es S S).map (val (mvB b es))) = val (mvB b es) S := by
  rw [val_eq (short_B b es)]
  refine mex_congr fun k => ?_
  rw [List.mem_map, List.mem_map]
  exact exists_congr fun T => and_congr_left fun _ => behind_mv up S T
def R_bh (C : Addr) : List Sl → Cs → (Sl → Cs → Prop) → Prop := fun κ M W => ∃ (x : Addr) (g : Nat × Ed) (b : Bool) (kd : Addr) (S : List Nat), κ = [.v (.ref x), .d (.list (natL S))] ∧ (x, .ins C (gameFs g b kd)) ∈ M ∧ GOk g ∧ Up g.1 S ∧
  W (.d (rowsD (behindL b g.2 S S))) M
theorem filLe {α : Type} (f : α → Bool) (l : List α) : (l.filter f).length ≤ l.length := List.length_filter_le f l
section
variable {P : Program} {w : World} {K : PySem.W.Frag} {mg : Str → Option Value} {base : Heap} {f : Addr} {fd : FuncData}
theorem sc_bh : FnScope ["self", "places", "found", "place", "near", "other", "mate"] ["self", "places"] (defScope s_Kayles_behind) := ⟨rfl, rfl, rfl, by decide +kernel, rfl, by decide +kernel, by decide +kernel⟩
theorem ok_bh {k : Nat} {C : Addr} (Fn : FnM K "behind" "Kayles.behind" s_Kayles_behind f fd) (c : Cls K C) (n1 : NoAttr K C "nexts") (n2 : NoAttr K C "by_edges") : FnOk P w K mg base CX0 (k + 1) f fd ["self", "places"] (SpG K (R_bh C)) := by
  refine fn_okD Fn sc_bh (fun κ M W h => ?_) fun cdv A outer s H E hr nd B0 F0 κ M W hR => ?_
  · obtain ⟨x, g, b, kd, S, rfl, _⟩ := h
    rfl
  · obtain ⟨x, g, b, kd, S, rfl, hx, hg, hS, hW⟩ := hR
    have hgn := hg.n
    have hge := hg.e
    have hSn := hS.len
    refine db_cons <| ds_set 2 <| de_lstC <| da_nil ⟨[], rfl, z0, fun q => ?_⟩
    refine db_cons <| ds_for <| di_list <| nm 1 rfl ⟨natL S, rfl, fun i M' ρ' => ∃ s3 s4 s6, M' = (q, MC.lst ((behindL b g.2 S (S.take i)).map fun C => .list (natL C))) :: M ∧ ρ' = [.v (.ref x), .d (.list (natL S)), .v (.ref q), s3, s4, .un, s6], ⟨_, _, _, rfl, rfl⟩, fun _ _ _ _ => trivial, ?_, ?_⟩
    · rintro i d M' ρ' hd ⟨s3, s4, s6, rfl, rfl⟩
      obtain ⟨p, hp, rfl⟩ := nat_get hd
      have hpS := List.mem_of_getElem? hp
      have hpn := hS.2 p hpS
      have hbl := behind_len (b := b) (es := g.2) (S := S) (S.take i)
      have hbl : (behindL b g.2 S (S.take i)).length ≤ 14 * 1001 := by
        rw [List.length_take] at hbl
        exact Nat.le_trans hbl (Nat.mul_le_mul (by omega) (by omega))
      refine dg_name 3 ?_
      refine db_cons <| ds_set 4 <| de_freeze <| de_filN 5 (fun z => decide (z ∈ S)) <| di_list <| de_ix ix_seq <| de_fld <| nm 0 rfl ⟨x, C, _, .d (nextsD g), rfl, List.mem_cons_of_mem _ hx, c, n1, rfl, nm 3 rfl <| r2_ix (.lst _) (nexts_at hpn) ⟨_, rfl, nearN g.2 p, rfl, ?_, fun _ _ _ => trivial, ?_, fun D => ⟨D, _, _, rfl, rfl, ?_⟩⟩⟩
      · have := nearN_len g.2 p
        omega
      · intro z D acc hz b
        exact dt_cmp op_in_seq <| nm 5 rfl <| nm 1 rfl <| r2_tin (.lst _) ⟨rfl, rfl⟩
      have hnl : (nearS g.2 S p).length ≤ 1000 := by
        have h1 : (nearS g.2 S p).length ≤ (nearN g.2 p).length := filLe _ _
        have := nearN_len g.2 p
        omega
      refine db_cons <| ds_if <| dt_not <| dt_val <| de_fld <| nm 0 rfl ⟨x, C, _, .d (.bool b), rfl, List.mem_cons_of_mem _ hx, c, n2, rfl, b, rfl, ?_⟩
      cases b with
      | false =>
        refine waysT rfl ?_
        refine db_cons <| ds_expr <| de_append 0 <| nm 2 rfl ⟨q, _, rfl, List.mem_cons_self, de_freeze <| de_filN 5 (fun z => !decide (z = p) && !decide (z ∈ nearS g.2 S p)) <| di_list <| nm 1 rfl ⟨_, rfl, S, rfl, by omega, fun _ _ _ => trivial, ?_, fun D => ⟨D, _, _, rfl, rfl, _, _, rfl, rfl, ?_, db_nil <| db_nil ⟨_, _, _, ?_, rfl⟩⟩⟩⟩
        · intro z D acc hz b
          exact dt_w <| dw_andP <| dt_cmp op_ne <| nm 5 rfl <| nm 3 rfl <| r2_tneN ⟨!decide (z ∈ nearS g.2 S p), fun _ => dw_and1 <| dt_cmp op_notIn_seq <| nm 5 rfl <| nm 4 rfl <| r2_tni (.lst _) ⟨rfl, rfl⟩, rfl, rfl⟩
        · rw [List.length_map]; omega
        · rw [behind_take hp, List.map_append]
          rfl
      | true =>
        refine waysF rfl ?_
        refine db_cons <| ds_for <| di_list <| nm 4 rfl ⟨natL (nearS g.2 S p), rfl, fun j M' ρ' => ∃ s6, M' = (q, MC.lst ((behindL true g.2 S (S.take i) ++ eRows S p ((nearS g.2 S p).take j)).map fun C => .list (natL C))) :: M ∧ ρ' = [.v (.ref x), .d (.list (natL S)), .v (.ref q), .d (.int (p : Nat)), .d (.list (natL (nearS g.2 S p))), .un, s6], ⟨_, by simp [eRows], rfl⟩, fun _ _ _ _ => trivial, ?_, ?_⟩
        · rintro j d M' ρ' hd ⟨s6, rfl, rfl⟩
          obtain ⟨m, hm, rfl⟩ := nat_get hd
          have hj := (List.getElem?_eq_some_iff.mp hm).1
          have e1 : eRows S p ((nearS g.2 S p).take (j + 1)) = eRows S p ((nearS g.2 S p).take j) ++ (if p < m then [eRow S p m] else []) := by
            unfold eRows
            rw [take_get hm, List.filter_append, List.map_append]
            congr 1
            by_cases z : p < m <;> simp [z]
          refine dg_name 6 <| db_cons <| ds_if <| dt_cmp op_gt <| nm 6 rfl <| nm 3 rfl <| r2_t (waysD (fun h => ?_) (fun h => ?_))
          · refine db_cons <| ds_expr <| de_append 0 <| nm 2 rfl ⟨q, _, rfl, List.mem_cons_self, de_freeze <| de_filN 5 (fun z => !decide (z ∈ [p, m])) <| di_list <| nm 1 rfl ⟨_, rfl, S, rfl, by omega, fun _ _ _ => trivial, ?_, fun D => ⟨D, _, _, rfl, rfl, _, _, rfl, rfl, ?_, db_nil <| db_nil ⟨_, ?_, rfl⟩⟩⟩⟩
            · intro z D acc hz b
              exact dt_cmp op_notIn_seq <| nm 5 rfl <| de_tup <| da_cons <| nm 3 rfl <| da_cons <| nm 6 rfl <| da_nil ⟨[_, _], rfl, z2, r2_tni (S := [p, m]) (.tup _) ⟨rfl, rfl⟩⟩
            · rw [List.length_map, List.length_append]
              have h1 : (eRows S p ((nearS g.2 S p).take j)).length ≤ j := by
                unfold eRows
                rw [List.length_map]
                refine Nat.le_trans (filLe _ _) ?_
                rw [List.length_take]
                omega
              omega
            · rw [e1, if_pos (by omega), ← List.append_assoc]
              simp only [List.map_append]
              rfl
          · refine db_nil <| db_nil ⟨_, ?_, rfl⟩
            rw [e1, if_neg (by omega), List.append_nil]
        · rintro M' ρ' ⟨s6, rfl, rfl⟩
          rw [natL_len, List.take_length]
          refine db_nil <| db_nil ⟨_, _, _, ?_, rfl⟩
          rw [behind_take hp]
          rfl
    · rintro M' ρ' ⟨s3, s4, s6, rfl, rfl⟩
      rw [natL_len, List.take_length]
      exact db_cons <| ds_ret <| de_freeze <| nm 2 rfl ⟨q, _, M, rfl, rfl, hW⟩
/-- the value of a part -/
def R_va (P : Program) (w : World) (C : Addr) (L : Nat) : List Sl → Cs → (Sl → Cs → Prop) → Prop := fun κ M W => ∃ (x : Addr) (g : Nat × Ed) (b : Bool) (kd : Addr) (S : List Nat) (kn : List (NestedKey × PyData)),
  κ = [.v (.ref x), .d (.list (natL S))] ∧ M = [(kd, .dn (NDic P w kd) kn), (x, .ins C (gameFs g b kd))] ∧ GOk g ∧ Up g.1 S ∧ S.length ≤ L ∧ Known (mvB b g.2) g.1 kn ∧
  ∀ kn', Known (mvB b g.2) g.1 kn' → W (.d (.int (val (mvB b g.2) S : Nat))) [(kd, .dn (NDic P w kd) kn'), (x, .ins C (gameFs g b kd))]
theorem sc_va : FnScope ["self", "places", "found", "piece", "key", "rest"] ["self", "places"] (defScope s_Kayles_value) := ⟨rfl, rfl, rfl, by decide +kernel, rfl, by decide +kernel, by decide +kernel⟩
theorem mv_up {b : Bool} {g : Nat × Ed} {S T : List Nat} (hS : Up g.1 S) (h : T ∈ behindL b g.2 S S) : Up g.1 T := by
  obtain ⟨p, _, h⟩ := List.mem_flatMap.mp h
  unfold rowsP at h
  split at h
  · unfold eRows at h
    obtain ⟨j, _, rfl⟩ := List.mem_map.mp h
    exact hS.filter _
  · rw [List.mem_singleton.mp h]
    exact hS.filter _
theorem ok_va1 {k L : Nat} {C : Addr} (Fn : FnM K "value" "Kayles.value" s_Kayles_value f fd) (c : Cls K C) (n1 : NoAttr K C "nexts") (n2 : NoAttr K C "known") (G : ∀ L', L = L' + 1 → GoM P w K mg base C "value" k ["self", "places"] (R_va P w C L')) (Gb : GoM P w K mg base C "behind" k ["self", "places"] (R_bh C)) (Gp : Go P w K mg base "pieces_of" k ["nexts", "places"] R_pc)
    (Gm : Go P w K mg base "least_missing" k ["numbers"] (Pu (fun ns : List Nat => [.d (.list (natL ns))]) (fun ns => ns.length ≤ 20000) (fun ns => .int (mex ns : Nat)))) (g_tu : mg "tuple" = none) : FnOk P w K mg base CX0 (k + 1) f fd ["self", "places"] (SpG K (R_va P w C L)) := by
  refine fn_okD Fn sc_va (fun κ M W h => ?_) fun cdv A outer s H E hr nd B0 F0 κ M W hR => ?_
  · obtain ⟨x, g, b, kd, S, kn, rfl, _⟩ := h
    rfl
  · obtain ⟨x, g, b, kd, S, kn, rfl, rfl, hg, hS, hL, hk, hW⟩ := hR
    have hgn := hg.n
    have hge := hg.e
    have hSn := hS.len
    refine db_cons <| ds_set 2 <| de_int ?_
    refine db_cons <| ds_for <| di_list <| de_pur Gp hr <| da_cons <| de_fld <| nm 0 rfl ⟨x, C, _, .d (nextsD g), rfl, List.mem_cons_of_mem _ List.mem_cons_self, c, n1, rfl, da_cons <| nm 1 rfl <| da_nil ⟨(g, S), rfl, ⟨hg, hS⟩, ?_⟩⟩
    rintro y ⟨Ps, rfl, hP⟩
    have hPl := hP.len
    have hPu : ∀ C ∈ Ps, Up g.1 C ∧ C.length ≤ S.length := hP.ups
    have hPl : Ps.length ≤ S.length := by simpa using hPl
    have hval : val (mvB b g.2) S = xorL (Ps.map (val (mvB b g.2))) := by
      rw [hP.vals _ (short_B b g.2) (splits_B b g.2), val_nil (short_B b g.2), Nat.xor_zero]
    refine ⟨_, rfl, fun i M' ρ' => ∃ kn' s3 s4, M' = [(kd, .dn (NDic P w kd) kn'), (x, .ins C (gameFs g b kd))] ∧ Known (mvB b g.2) g.1 kn' ∧ ρ' = [.v (.ref x), .d (.list (natL S)), .d (.int (xorL ((Ps.take i).map (val (mvB b g.2))) : Nat)), s3, s4, .un], ⟨kn, _, _, rfl, hk, rfl⟩, fun _ _ _ _ => trivial, ?_, ?_⟩
    · rintro i d M' ρ' hd ⟨kn', s3, s4, rfl, hk', rfl⟩
      obtain ⟨C1, hC1, rfl⟩ := map_get hd
      obtain ⟨hCu, hCl⟩ := hPu C1 (List.mem_of_getElem? hC1)
      have fin : ∀ kn2, Known (mvB b g.2) g.1 kn2 → valN kn2 (keyOf C1) = some (.int (val (mvB b g.2) C1 : Nat)) → ∀ (tail : List Stmt) (k2 : KK), (∀ M ρ, k2.nx M ρ ↔ ∃ kn' s3 s4, M = [(kd, .dn (NDic P w kd) kn'), (x, .ins C (gameFs g b kd))] ∧ Known (mvB b g.2) g.1 kn' ∧ ρ = [.v (.ref x), .d (.list (natL S)), .d (.int (xorL ((Ps.take (i + 1)).map (val (mvB b g.2))) : Nat)), s3, s4, .un]) →
          tail = (match (defBody s_Kayles_value).getD 1 (.Pass ⟨0, 0, 0, 0⟩) with | .For _ _ bd _ _ => bd.drop 2 | _ => []) → ∀ κ', DB (cxOf CX0 P w K mg base ["self", "places", "found", "piece", "key", "rest"] "Kayles.value" (defScope s_Kayles_value) f cdv A outer s H E).nox B0 F0 [(kd, .dn (NDic P w kd) kn2), (x, .ins C (gameFs g b kd))] [.v (.ref x), .d (.list (natL S)), .d (.int (xorL ((Ps.take i).map (val (mvB b g.2))) : Nat)), .d (.list (natL C1)), .d (.tuple (natL C1)), .un] κ' tail k2 := by
        intro kn2 hk2 hv tail k2 hnx ht κ'
        subst ht
        refine db_cons <| ds_aug 2 iop_xor rfl (by intro h; cases h) <| de_ndget hr.units <| de_fld <| nm 0 rfl ⟨x, C, _, .v (.ref kd), rfl, List.mem_cons_of_mem _ List.mem_cons_self, c, n2, rfl, nm 4 rfl ⟨kd, kn2, kl C1, _, rfl, List.mem_cons_self, by rw [key_data], key_depth C1, hv, r2_i <| db_nil ?_⟩⟩
        rw [hnx]
        refine ⟨kn2, .d (.list (natL C1)), .d (.tuple (natL C1)), rfl, hk2, ?_⟩
        rw [take_get hC1, List.map_append, List.map_singleton, xorL_app, xor_nat]
        rfl
      refine dg_name 3 ?_
      refine db_cons <| ds_set 4 <| de_tupleOf g_tu <| nm 3 rfl ⟨_, .lst _, ?_⟩
      refine db_cons <| ds_if <| dt_ndnin hr.units <| nm 4 rfl <| de_fld <| nm 0 rfl ⟨x, C, _, .v (.ref kd), rfl, List.mem_cons_of_mem _ List.mem_cons_self, c, n2, rfl, kd, kn', kl C1, rfl, List.mem_cons_self, by rw [key_data], key_depth C1, ?_⟩
      cases hv : valN kn' (.tup (kl C1)) with
      | some d => exact waysF rfl <| db_nil <| fin kn' hk' (by rw [show keyOf C1 = .tup (kl C1) from rfl, hv, hk'.at hv]) _ _ (fun _ _ => Iff.rfl) rfl _
      | none =>
        have hbl := behind_len (b := b) (es := g.2) (S := C1) C1
        have hbl : (behindL b g.2 C1 C1).length ≤ 14 * 1001 := Nat.le_trans hbl (Nat.mul_le_mul (by omega) (by omega))
        refine waysT rfl <| db_cons <| ds_ndput 0 hr.units <| de_pu Gm hr <| da_cons <| de_freeze <| de_lcC 5 <| di_list <| de_goM 0 c Gb hr <| nm 0 rfl ⟨x, _, rfl, List.mem_cons_of_mem _ List.mem_cons_self, rfl, da_cons <| nm 3 rfl <| da_nil ⟨x, g, b, kd, C1, rfl, by simp, hg, hCu, trivial, _, rfl, fun D => ⟨fun j acc M' => ∃ kn2, M' = [(kd, .dn (NDic P w kd) kn2), (x, .ins C (gameFs g b kd))] ∧ Known (mvB b g.2) g.1 kn2 ∧ acc = natL (((behindL b g.2 C1 C1).take j).map (val (mvB b g.2))), ⟨kn', rfl, hk', rfl⟩, fun _ _ _ _ => trivial, ?_, ?_⟩⟩⟩
        · rintro j d acc M' hd ⟨kn2, rfl, hk2, rfl⟩ b'
          obtain ⟨T, hT, rfl⟩ := map_get hd
          have hj := (List.getElem?_eq_some_iff.mp hT).1
          have hTm := List.mem_of_getElem? hT
          have hTl : T.length < C1.length := (short_B b g.2).1 C1 T ((behind_mv (fun e he => (hg.up e he).1) C1 T).mp hTm)
          obtain ⟨L', rfl⟩ : ∃ L', L = L' + 1 := ⟨L - 1, by omega⟩
          refine de_goM 1 c (G L' rfl) hr <| nm 0 rfl ⟨x, _, rfl, List.mem_cons_of_mem _ (List.mem_cons_of_mem _ List.mem_cons_self), rfl, da_cons <| nm 5 rfl <| da_nil ⟨x, g, b, kd, T, kn2, rfl, rfl, hg, mv_up hCu hTm, by omega, hk2, fun kn3 hk3 => ⟨trivial, _, _, rfl, rfl, ?_, kn3, rfl, hk3, ?_⟩⟩⟩
          · rw [natL_len, List.length_map, List.length_take]; omega
          · rw [take_get hT, List.map_append, natL_app]
            rfl
        · rintro acc M' ⟨kn2, rfl, hk2, rfl⟩
          rw [List.length_map, List.take_length]
          refine ⟨D, _, _, rfl, rfl, da_nil <| da_pu _ rfl ?_ <| de_fld <| nm 0 rfl ⟨x, C, _, .v (.ref kd), rfl, List.mem_cons_of_mem _ List.mem_cons_self, c, n2, rfl, nm 4 rfl ⟨kd, kn2, _, kl C1, rfl, by rw [key_data], key_depth C1, rfl, rfl, hk2.le hgn, db_nil ?_⟩⟩⟩
          · show (List.map _ _).length ≤ 20000
            rw [List.length_map]
            omega
          · rw [behind_val fun e he => (hg.up e he).1]
            exact fin _ (hk2.put hCu) (by rw [show keyOf C1 = .tup (kl C1) from rfl, valN_put, if_pos rfl]) _ _ (fun _ _ => Iff.rfl) rfl _
    · rintro M' ρ' ⟨kn', s3, s4, rfl, hk', rfl⟩
      rw [List.length_map, List.take_length, ← hval]
      exact db_cons <| ds_ret <| nm 2 rfl <| hW kn' hk'
theorem go_va (k : Nat) {C : Addr} (Fn : FnM K "value" "Kayles.value" s_Kayles_value f fd) (Hm : Meth K C "value" f) (c : Cls K C) (n1 : NoAttr K C "nexts") (n2 : NoAttr K C "known") (Gb : ∀ j, GoM P w K mg base C "behind" (j + 1) ["self", "places"] (R_bh C)) (Gp : ∀ j, Go P w K mg base "pieces_of" (j + 1) ["nexts", "places"] R_pc)
    (Gm : ∀ j, Go P w K mg base "least_missing" (j + 1) ["numbers"] (Pu (fun ns : List Nat => [.d (.list (natL ns))]) (fun ns => ns.length ≤ 20000) (fun ns => .int (mex ns : Nat)))) (g_tu : mg "tuple" = none) : ∀ L, GoM P w K mg base C "value" (k + 2 + L) ["self", "places"] (R_va P w C L) := by
  have one : ∀ (j L : Nat), (∀ L', L = L' + 1 → GoM P w K mg base C "value" (j + 1) ["self", "places"] (R_va P w C L')) → GoM P w K mg base C "value" (j + 2) ["self", "places"] (R_va P w C L) := fun j L h =>
    gom_of Fn Hm (fun _ _ _ _ _ _ us hl => match us, hl with | [_, _], _ => rfl) (ok_va1 Fn c n1 n2 h (Gb j) (Gp j) (Gm j) g_tu)
  intro L
  induction L with
  | zero => exact one k 0 fun m' h => by omega
  | succ L ih =>
    have e0 : k + 2 + (L + 1) = k + 1 + L + 2 := by omega
    rw [e0]
    refine one (k + 1 + L) (L + 1) fun m' h => ?_
    have : L = m' := by omega
    subst this
    have e : k + 1 + L + 1 = k + 2 + L := by omega
    rw [e]
    exact ih
end
end H78
set_option maxHeartbeats 1000000
namespace H78
open PySem PySem.Spec PyProof.Rows L2 DL KY
theorem GOk.init {g : Nat × Ed} (h : GOk g) : g.1 ≤ 1000 ∧ g.2.length ≤ 1000 ∧ ∀ e ∈ g.2, e.1 < g.1 ∧ e.2 < g.1 ∧ e.1 ≠ e.2 := ⟨by have := h.n; omega, h.e, fun e he => by
  have := h.up e he
  omega⟩
abbrev wholeV (b : Bool) (g : Nat × Ed) : Nat := val (mvB b g.2) (List.range g.1)
abbrev R_kv (b : Bool) : List Sl → Cs → (Sl → Cs → Prop) → Prop := Pu (fun g : Nat × Ed => [.d (grD g)]) GOk (fun g => .int (wholeV b g : Nat))
section
variable {P : Program} {w : World} {K : PySem.W.Frag} {mg : Str → Option Value} {base : Heap} {f : Addr} {fd : FuncData}
theorem sc_kv : FnScope ["graph"] ["graph"] (defScope s_kayles_value) := ⟨rfl, rfl, rfl, by decide +kernel, rfl, by decide +kernel, by decide +kernel⟩
theorem sc_ekv : FnScope ["graph"] ["graph"] (defScope s_edge_kayles_value) := ⟨rfl, rfl, rfl, by decide +kernel, rfl, by decide +kernel, by decide +kernel⟩
theorem ok_kv {k : Nat} {C : Addr} (Fn : FnP K "kayles_value" s_kayles_value f fd) (c : Cls K C) (g_ka : mg "Kayles" = some (.ref C)) (Gi : GoN P w K mg base C k ["self", "graph", "by_edges"] (R_init P w C)) (Gv : GoM P w K mg base C "value" (k + 1) ["self", "places"] (R_va P w C 14)) (g_li : mg "list" = none) (g_ra : mg "range" = none) : FnOk P w K mg base CX0 (k + 2) f fd ["graph"] (SpG K (R_kv false)) := by
  refine fn_okD Fn sc_kv (fun κ M W h => ?_) fun cdv A outer s H E hr nd B0 F0 κ M W hR => ?_
  · obtain ⟨g, rfl, _⟩ := h
    rfl
  · obtain ⟨g, rfl, hg, hW⟩ := hR
    have hgn := hg.n
    refine db_cons <| ds_ret <| de_goMX 0 2 c Gv hr <| de_goN 0 Gi hr g_ka <| da_cons <| nm 0 rfl <| da_cons <| de_bl <| da_nil fun a => ⟨a, g, false, rfl, rfl, hg.init, fun kd => ⟨rfl, a, _, rfl, List.mem_cons_of_mem _ List.mem_cons_self, rfl, da_cons <| de_freeze <| de_lstRg1 g_li g_ra <| de_ix ix_seq <| nm 0 rfl <| de_int <| r2_ix (.tup _) (d := .int (g.1 : Nat)) rfl ⟨_, rfl, ?_, fun l => ⟨l, _, _, rfl, rfl, ?_⟩⟩⟩⟩
    · exact ⟨by omega, by omega, by omega, by omega, by omega⟩
    · rw [Int.toNat_natCast, rng0]
      exact da_nil ⟨a, g, false, kd, List.range g.1, [], rfl, rfl, hg, .range _, by rw [List.length_range]; omega, .nil _ _, fun kn' _ => ⟨trivial, hW _⟩⟩
theorem ok_ekv {k : Nat} {C : Addr} (Fn : FnP K "edge_kayles_value" s_edge_kayles_value f fd) (c : Cls K C) (g_ka : mg "Kayles" = some (.ref C)) (Gi : GoN P w K mg base C k ["self", "graph", "by_edges"] (R_init P w C)) (Gv : GoM P w K mg base C "value" (k + 1) ["self", "places"] (R_va P w C 14)) (g_li : mg "list" = none) (g_ra : mg "range" = none) : FnOk P w K mg base CX0 (k + 2) f fd ["graph"] (SpG K (R_kv true)) := by
  refine fn_okD Fn sc_ekv (fun κ M W h => ?_) fun cdv A outer s H E hr nd B0 F0 κ M W hR => ?_
  · obtain ⟨g, rfl, _⟩ := h
    rfl
  · obtain ⟨g, rfl, hg, hW⟩ := hR
    have hgn := hg.n
    refine db_cons <| ds_ret <| de_goMX 0 2 c Gv hr <| de_goN 0 Gi hr g_ka <| da_cons <| nm 0 rfl <| da_cons <| de_bl <| da_nil fun a => ⟨a, g, true, rfl, rfl, hg.init, fun kd => ⟨rfl, a, _, rfl, List.mem_cons_of_mem _ List.mem_cons_self, rfl, da_cons <| de_freeze <| de_lstRg1 g_li g_ra <| de_ix ix_seq <| nm 0 rfl <| de_int <| r2_ix (.tup _) (d := .int (g.1 : Nat)) rfl ⟨_, rfl, ?_, fun l => ⟨l, _, _, rfl, rfl, ?_⟩⟩⟩⟩
    · exact ⟨by omega, by omega, by omega, by omega, by omega⟩
    · rw [Int.toNat_natCast, rng0]
      exact da_nil ⟨a, g, true, kd, List.range g.1, [], rfl, rfl, hg, .range _, by rw [List.length_range]; omega, .nil _ _, fun kn' _ => ⟨trivial, hW _⟩⟩
/-- the places whose taking leads to 0 -/
def kRest (g : Nat × Ed) (p : Nat) : List Nat := (List.range g.1).filter fun q => !decide (q = p) && !decide (q ∈ nearN g.2 p)
def kMoves (g : Nat × Ed) (ps : List Nat) : List Nat := ps.filter fun p => decide (val (mvB false g.2) (kRest g p) = 0)
def eRest' (g : Nat × Ed) (e : Nat × Nat) : List Nat := (List.range g.1).filter fun q => !decide (q ∈ [e.1, e.2])
def eMoves (g : Nat × Ed) (n : Nat) : List Nat := (List.range n).filter fun k => decide (val (mvB true g.2) (eRest' g (g.2.getD k (0, 0))) = 0)
theorem sc_km : FnScope ["graph", "game", "found", "place", "rest", "other"] ["graph"] (defScope s_kayles_moves) := ⟨rfl, rfl, rfl, by decide +kernel, rfl, by decide +kernel, by decide +kernel⟩
theorem ok_km {k : Nat} {C : Addr} (Fn : FnP K "kayles_moves" s_kayles_moves f fd) (c : Cls K C) (n1 : NoAttr K C "nexts") (g_ka : mg "Kayles" = some (.ref C)) (Gi : GoN P w K mg base C k ["self", "graph", "by_edges"] (R_init P w C)) (Gv : GoM P w K mg base C "value" (k + 1) ["self", "places"] (R_va P w C 14)) (g_tu : mg "tuple" = none) (g_ra : mg "range" = none) : FnOk P w K mg base CX0 (k + 2) f fd ["graph"] (SpG K (Pu (fun g : Nat × Ed => [.d (grD g)]) GOk (fun g => .tuple (natL (kMoves g (List.range g.1)))))) := by
  refine fn_okD Fn sc_km (fun κ M W h => ?_) fun cdv A outer s H E hr nd B0 F0 κ M W hR => ?_
  · obtain ⟨g, rfl, _⟩ := h
    rfl
  · obtain ⟨g, rfl, hg, hW⟩ := hR
    have hgn := hg.n
    have hge := hg.e
    have hW : ∀ M', W (.d (.tuple (natL (kMoves g (List.range g.1))))) M' := hW
    refine db_cons <| ds_parT 2 <| da_cons <| de_goN 0 Gi hr g_ka <| da_cons <| nm 0 rfl <| da_cons <| de_bl <| da_nil fun a => ⟨a, g, false, rfl, rfl, hg.init, fun kd => ⟨rfl, da_cons <| de_lstC <| da_nil ⟨[], rfl, z0, fun q => da_nil ⟨rfl, dgs_cons <| dg_name 1 <| dgs_cons <| dg_name 2 <| dgs_nil ?_⟩⟩⟩⟩
    refine db_cons <| ds_for <| di_range1 g_ra <| da_cons <| de_ix ix_seq <| nm 0 rfl <| de_int <| r2_ix (.tup _) (d := .int (g.1 : Nat)) rfl <| da_nil ⟨_, rfl, by omega, by omega, fun i M' ρ' => ∃ kn s3 s4, M' = (q, MC.lst (natL (kMoves g (List.range i)))) :: (kd, .dn (NDic P w kd) kn) :: (a, .ins C (gameFs g false kd)) :: M ∧ Known (mvB false g.2) g.1 kn ∧ ρ' = [.d (grD g), .v (.ref a), .v (.ref q), s3, s4, .un], ⟨[], _, _, rfl, .nil _ _, rfl⟩, fun _ _ _ _ => trivial, ?_, ?_⟩
    · rintro i d M' ρ' hd ⟨kn, s3, s4, rfl, hk, rfl⟩
      obtain ⟨hi, rfl⟩ := rngD_get hd
      rw [Int.toNat_natCast] at hi
      rw [Int.zero_add]
      have hml : (kMoves g (List.range i)).length ≤ i := by
        have := filLe (fun p => decide (val (mvB false g.2) (kRest g p) = 0)) (List.range i)
        rw [List.length_range] at this
        exact this
      have e1 : kMoves g (List.range (i + 1)) = kMoves g (List.range i) ++ if val (mvB false g.2) (kRest g i) = 0 then [i] else [] := by
        unfold kMoves
        rw [List.range_succ, List.filter_append]
        congr 1
        by_cases z : val (mvB false g.2) (kRest g i) = 0 <;> simp [z]
      refine dg_name 3 ?_
      refine db_cons <| ds_cmp 4 <| du_freeze <| gu_filN 5 (fun z => !decide (z = i) && !decide (z ∈ nearN g.2 i)) <| di_range1 g_ra <| da_cons <| de_ix ix_seq <| nm 0 rfl <| de_int <| r2_ix (.tup _) (d := .int (g.1 : Nat)) rfl <| da_nil ⟨_, rfl, by omega, by omega, List.range g.1, by rw [Int.toNat_natCast, rng0], by rw [List.length_range]; omega, fun _ _ _ => trivial, ?_, fun D => ⟨D, _, _, rfl, rfl, ?_⟩⟩
      · intro z D acc hz b
        exact dt_w <| dw_andP <| dt_cmp op_ne <| nm 5 rfl <| nm 3 rfl <| r2_tneN ⟨!decide (z ∈ nearN g.2 i), fun _ => dw_and1 <| dt_cmp op_notIn_seq <| nm 5 rfl <| de_ix ix_seq <| de_fld <| nm 1 rfl ⟨a, C, _, .d (nextsD g), rfl, List.mem_cons_of_mem _ (List.mem_cons_of_mem _ (List.mem_cons_of_mem _ List.mem_cons_self)), c, n1, rfl, nm 3 rfl <| r2_ix (.lst _) (nexts_at hi) <| r2_tni (.lst _) ⟨rfl, rfl⟩⟩, rfl, rfl⟩
      have hup : Up g.1 (kRest g i) := (Up.range _).filter _
      refine db_cons <| ds_if <| dt_cmp op_eq <| de_goMX 1 2 c Gv hr <| nm 1 rfl ⟨a, _, rfl, List.mem_cons_of_mem _ (List.mem_cons_of_mem _ List.mem_cons_self), rfl, da_cons <| nm 4 rfl <| da_nil ⟨a, g, false, kd, kRest g i, kn, rfl, rfl, hg, hup, Nat.le_trans hup.len hgn, hk, fun kn' hk' => ⟨trivial, de_int <| r2_teq (waysD (fun h => ?_) (fun h => ?_))⟩⟩⟩
      · refine db_cons <| ds_expr <| de_append 0 <| nm 2 rfl ⟨q, _, rfl, List.mem_cons_self, nm 3 rfl ⟨_, _, rfl, rfl, ?_, db_nil <| db_nil ⟨kn', .d (.int (i : Nat)), .d (.list (natL (kRest g i))), ?_, hk', rfl⟩⟩⟩
        · rw [natL_len]; omega
        · rw [e1, if_pos (by omega), natL_app]
          rfl
      · refine db_nil <| db_nil ⟨kn', .d (.int (i : Nat)), .d (.list (natL (kRest g i))), ?_, hk', rfl⟩
        rw [e1, if_neg (by omega), List.append_nil]
        rfl
    · rintro M' ρ' ⟨kn, s3, s4, rfl, hk, rfl⟩
      rw [rngD_len, Int.toNat_natCast]
      exact db_cons <| ds_ret <| de_tupleOf g_tu <| nm 2 rfl ⟨_, .cell List.mem_cons_self, hW _⟩
theorem sc_ekm : FnScope ["graph", "game", "found", "k", "edge", "other"] ["graph"] (defScope s_edge_kayles_moves) := ⟨rfl, rfl, rfl, by decide +kernel, rfl, by decide +kernel, by decide +kernel⟩
theorem ok_ekm {k : Nat} {C : Addr} (Fn : FnP K "edge_kayles_moves" s_edge_kayles_moves f fd) (c : Cls K C) (g_ka : mg "Kayles" = some (.ref C)) (Gi : GoN P w K mg base C k ["self", "graph", "by_edges"] (R_init P w C)) (Gv : GoM P w K mg base C "value" (k + 1) ["self", "places"] (R_va P w C 14)) (g_tu : mg "tuple" = none) (g_ra : mg "range" = none) (g_en : mg "enumerate" = none) : FnOk P w K mg base CX0 (k + 2) f fd ["graph"] (SpG K (Pu (fun g : Nat × Ed => [.d (grD g)]) GOk (fun g => .tuple (natL (eMoves g g.2.length))))) := by
  refine fn_okD Fn sc_ekm (fun κ M W h => ?_) fun cdv A outer s H E hr nd B0 F0 κ M W hR => ?_
  · obtain ⟨g, rfl, _⟩ := h
    rfl
  · obtain ⟨g, rfl, hg, hW⟩ := hR
    have hgn := hg.n
    have hge := hg.e
    have hW : ∀ M', W (.d (.tuple (natL (eMoves g g.2.length)))) M' := hW
    refine db_cons <| ds_par 1 2 <| da_cons <| de_goN 0 Gi hr g_ka <| da_cons <| nm 0 rfl <| da_cons <| de_bl <| da_nil fun a => ⟨a, g, true, rfl, rfl, hg.init, fun kd => ⟨rfl, da_cons <| de_lstC <| da_nil ⟨[], rfl, z0, fun q => da_nil ⟨_, _, rfl, ?_⟩⟩⟩⟩
    refine db_cons <| ds_for <| di_enumT g_en <| de_ix ix_seq <| nm 0 rfl <| de_int <| r2_ix (.tup _) (d := .tuple (edL g.2)) rfl ⟨_, rfl, fun i M' ρ' => ∃ kn s3 s4, M' = (q, MC.lst (natL (eMoves g i))) :: (kd, .dn (NDic P w kd) kn) :: (a, .ins C (gameFs g true kd)) :: M ∧ Known (mvB true g.2) g.1 kn ∧ ρ' = [.d (grD g), .v (.ref a), .v (.ref q), s3, s4, .un], ⟨[], _, _, rfl, .nil _ _, rfl⟩, fun _ _ _ _ => trivial, ?_, ?_⟩
    · rintro i d M' ρ' hd ⟨kn, s3, s4, rfl, hk, rfl⟩
      obtain ⟨z, hz, rfl⟩ := enumD_get hd
      obtain ⟨⟨x, y⟩, he, rfl⟩ := map_get hz
      have hi := (List.getElem?_eq_some_iff.mp he).1
      have hml : (eMoves g i).length ≤ i := by
        have := filLe (fun k => decide (val (mvB true g.2) (eRest' g (g.2.getD k (0, 0))) = 0)) (List.range i)
        rw [List.length_range] at this
        exact this
      have e1 : eMoves g (i + 1) = eMoves g i ++ if val (mvB true g.2) (eRest' g (x, y)) = 0 then [i] else [] := by
        have e2 : g.2.getD i (0, 0) = (x, y) := by rw [List.getD_eq_getElem?_getD, he]; rfl
        unfold eMoves
        rw [List.range_succ, List.filter_append]
        congr 1
        rw [List.filter_cons, e2]
        by_cases z : val (mvB true g.2) (eRest' g (x, y)) = 0 <;> simp [z]
      have hup : Up g.1 (eRest' g (x, y)) := (Up.range _).filter _
      refine dg_tup rfl <| dgs_cons <| dg_name 3 <| dgs_cons <| dg_name 4 <| dgs_nil ?_
      refine db_cons <| ds_if <| dt_cmp op_eq <| de_goMX 1 2 c Gv hr <| nm 1 rfl ⟨a, _, rfl, List.mem_cons_of_mem _ (List.mem_cons_of_mem _ List.mem_cons_self), rfl, da_cons <| de_freeze <| de_filN 5 (fun z => !decide (z ∈ [x, y])) <| di_range1 g_ra <| da_cons <| de_ix ix_seq <| nm 0 rfl <| de_int <| r2_ix (.tup _) (d := .int (g.1 : Nat)) rfl <| da_nil ⟨_, rfl, by omega, by omega, List.range g.1, by rw [Int.toNat_natCast, rng0], by rw [List.length_range]; omega, fun _ _ _ => trivial, ?_, fun D => ⟨D, _, _, rfl, rfl, da_nil ⟨a, g, true, kd, eRest' g (x, y), kn, rfl, rfl, hg, hup, Nat.le_trans hup.len hgn, hk, fun kn' hk' => ⟨trivial, de_int <| r2_teq (waysD (fun h => ?_) (fun h => ?_))⟩⟩⟩⟩⟩
      · intro z D acc hz b
        exact dt_cmp op_notIn_seq <| nm 5 rfl <| nm 4 rfl <| r2_tni (S := [x, y]) (.tup _) ⟨rfl, rfl⟩
      · refine db_cons <| ds_expr <| de_append 0 <| nm 2 rfl ⟨q, _, rfl, List.mem_cons_self, nm 3 rfl ⟨_, _, rfl, rfl, ?_, db_nil <| db_nil ⟨kn', .d (.int (i : Nat)), .d (edD (x, y)), ?_, hk', rfl⟩⟩⟩
        · rw [natL_len]; omega
        · rw [e1, if_pos (by omega), natL_app]
          rfl
      · refine db_nil <| db_nil ⟨kn', .d (.int (i : Nat)), .d (edD (x, y)), ?_, hk', rfl⟩
        rw [e1, if_neg (by omega), List.append_nil]
        rfl
    · rintro M' ρ' ⟨kn, s3, s4, rfl, hk, rfl⟩
      rw [enumD_len, List.length_map]
      exact db_cons <| ds_ret <| de_tupleOf g_tu <| nm 2 rfl ⟨_, .cell List.mem_cons_self, hW _⟩
end
end H78
set_option maxHeartbeats 1000000
namespace H78
open PySem PySem.Spec PyProof.Rows L2 DL KY
/-- the two rows of the lines -/
def at0 (a : List Nat) (n : Nat) : Nat := a.getD n 0
def lin1 (a : List Nat) (n : Nat) : List Nat := (List.range n).map fun k => at0 a (k - 1) ^^^ at0 a (n - k - 2)
def lin2 (b : List Nat) (n : Nat) : List Nat := (List.range (n - 1)).map fun k => at0 b k ^^^ at0 b (n - 2 - k)
def rowsTo : Nat → List Nat × List Nat
  | 0 => ([0], [0])
  | n + 1 => ((rowsTo n).1 ++ [mex (lin1 (rowsTo n).1 (n + 1))], (rowsTo n).2 ++ [mex (lin2 (rowsTo n).2 (n + 1))])
theorem rowsTo_len : ∀ n, (rowsTo n).1.length = n + 1 ∧ (rowsTo n).2.length = n + 1
  | 0 => ⟨rfl, rfl⟩
  | n + 1 => by
    obtain ⟨h1, h2⟩ := rowsTo_len n
    rw [rowsTo]
    simp [h1, h2]
theorem at0_at {a : List Nat} {n : Nat} (h : n < a.length) : atI (natL a) (n : Int) = some (.int (at0 a n : Nat)) := nat_at (by unfold at0; rw [List.getD_eq_getElem?_getD, List.getElem?_eq_getElem h]; rfl)
theorem max0 (i : Int) : (if i > 0 then i else 0) = ((i.toNat : Nat) : Int) := by split <;> omega
section
variable {P : Program} {w : World} {K : PySem.W.Frag} {mg : Str → Option Value} {base : Heap} {f : Addr} {fd : FuncData}
theorem sc_lines : FnScope ["most", "first", "second", "n", "k"] ["most"] (defScope s__law_lines) := ⟨rfl, rfl, rfl, by decide +kernel, rfl, by decide +kernel, by decide +kernel⟩
abbrev R_lines := Pu (fun n : Nat => [.d (.int (n : Nat))]) (fun n => n ≤ 100) (fun n => .tuple [.list (natL (rowsTo n).1), .list (natL (rowsTo n).2)])
theorem ok_lines {k : Nat} (Fn : FnP K "_law_lines" s__law_lines f fd) (Gm : Go P w K mg base "_law_missing" k ["worths"] R_lmi) (g_ra : mg "range" = none) (g_ma : mg "max" = none) : FnOk P w K mg base CX0 (k + 1) f fd ["most"] (SpG K R_lines) := by
  refine fn_okD Fn sc_lines (fun κ M W h => ?_) fun cdv A outer s H E hr nd B0 F0 κ M W hR => ?_
  · obtain ⟨g, rfl, _⟩ := h
    rfl
  · obtain ⟨m, rfl, hm, hW⟩ := hR
    have hm : m ≤ 100 := hm
    have hW : ∀ M', W (.d (.tuple [.list (natL (rowsTo m).1), .list (natL (rowsTo m).2)])) M' := hW
    refine db_cons <| ds_parT 2 <| da_cons <| de_lstC <| da_cons <| de_int <| da_nil ⟨[.int 0], rfl, z1, fun p1 => da_cons <| de_lstC <| da_cons <| de_int <| da_nil ⟨[.int 0], rfl, z1, fun p2 => da_nil ⟨rfl, dgs_cons <| dg_name 1 <| dgs_cons <| dg_name 2 <| dgs_nil ?_⟩⟩⟩
    refine db_cons <| ds_for <| di_range2 g_ra <| da_cons <| de_int <| da_cons <| de_op op_add <| nm 0 rfl <| de_int <| r2_i <| da_nil ⟨_, _, rfl, by omega, fun i M' ρ' => ∃ s3, M' = (p2, MC.lst (natL (rowsTo i).2)) :: (p1, MC.lst (natL (rowsTo i).1)) :: M ∧ ρ' = [.d (.int (m : Nat)), .v (.ref p1), .v (.ref p2), s3, .un], ⟨_, rfl, rfl⟩, fun _ _ _ _ => trivial, ?_, ?_⟩
    · rintro i d M' ρ' hd ⟨s3, rfl, rfl⟩
      obtain ⟨hi, rfl⟩ := rngD_get hd
      have hi : i < m := by omega
      obtain ⟨l1, l2⟩ := rowsTo_len i
      refine dg_name 3 ?_
      have e0 : (1 + (i : Int)) = ((i + 1 : Nat) : Int) := by omega
      rw [e0]
      refine db_cons <| ds_expr <| de_append 1 <| nm 1 rfl ⟨p1, _, rfl, List.mem_cons_of_mem _ List.mem_cons_self, de_pu Gm hr <| da_cons <| de_freeze <| de_lcC 4 <| di_range1 g_ra <| da_cons <| nm 3 rfl <| da_nil ⟨_, rfl, by omega, by omega, fun D => ⟨fun k acc M' => M' = (p2, MC.lst (natL (rowsTo i).2)) :: (p1, MC.lst (natL (rowsTo i).1)) :: M ∧ acc = natL ((List.range k).map fun k => at0 (rowsTo i).1 (k - 1) ^^^ at0 (rowsTo i).1 (i + 1 - k - 2)), ⟨rfl, rfl⟩, fun _ _ _ _ => trivial, ?_, ?_⟩⟩⟩
      · rintro k d acc M' hd ⟨rfl, rfl⟩ b
        obtain ⟨hk, rfl⟩ := rngD_get hd
        rw [Int.toNat_natCast] at hk
        rw [Int.zero_add]
        refine de_op op_xor <| de_ix ix_seq <| nm 1 rfl <| de_callB (call_max2 rfl) g_ma bt_max <| da_cons <| de_int <| da_cons <| de_op op_sub <| nm 4 rfl <| de_int <| r2_i <| da_nil <| rn_max2 ?_
        rw [max0, show ((k : Int) - 1).toNat = k - 1 by omega]
        refine r2_ix (.cell (List.mem_cons_of_mem _ (List.mem_cons_of_mem _ List.mem_cons_self))) (at0_at (by omega)) <| de_ix ix_seq <| nm 1 rfl <| de_callB (call_max2 rfl) g_ma bt_max <| da_cons <| de_int <| da_cons <| de_op op_sub <| de_op op_sub <| nm 3 rfl <| nm 4 rfl <| r2_i <| de_int <| r2_i <| da_nil <| rn_max2 ?_
        rw [max0, show (((i + 1 : Nat) : Int) - (k : Int) - 2).toNat = i + 1 - k - 2 by omega]
        refine r2_ix (.cell (List.mem_cons_of_mem _ (List.mem_cons_of_mem _ List.mem_cons_self))) (at0_at (by omega)) <| r2_i ⟨_, _, rfl, rfl, ?_, rfl, ?_⟩
        · rw [natL_len, List.length_map, List.length_range]; omega
        · rw [xor_nat, List.range_succ, List.map_append, natL_app]
          rfl
      · rintro acc M' ⟨rfl, rfl⟩
        rw [rngD_len, Int.toNat_natCast]
        refine ⟨D, _, _, rfl, rfl, da_nil <| da_pu (lin1 (rowsTo i).1 (i + 1)) rfl trivial ⟨_, _, rfl, rfl, ?_, ?_⟩⟩
        · rw [natL_len]; omega
        refine db_cons <| ds_expr <| de_append 0 <| nm 2 rfl ⟨p2, _, rfl, List.mem_cons_self, de_pu Gm hr <| da_cons <| de_freeze <| de_lcC 4 <| di_range1 g_ra <| da_cons <| de_op op_sub <| nm 3 rfl <| de_int <| r2_i <| da_nil ⟨_, rfl, by omega, by omega, fun D => ⟨fun k acc M' => M' = (p2, MC.lst (natL (rowsTo i).2)) :: (p1, MC.lst (natL ((rowsTo i).1 ++ [mex (lin1 (rowsTo i).1 (i + 1))]))) :: M ∧ acc = natL ((List.range k).map fun k => at0 (rowsTo i).2 k ^^^ at0 (rowsTo i).2 (i + 1 - 2 - k)), ⟨by rw [natL_app]; rfl, rfl⟩, fun _ _ _ _ => trivial, ?_, ?_⟩⟩⟩
        · rintro k d acc M' hd ⟨rfl, rfl⟩ b
          obtain ⟨hk, rfl⟩ := rngD_get hd
          have hk : k < i := by omega
          rw [Int.zero_add]
          refine de_op op_xor <| de_ix ix_seq <| nm 2 rfl <| nm 4 rfl <| r2_ix (.cell (List.mem_cons_of_mem _ List.mem_cons_self)) (at0_at (by omega)) <| de_ix ix_seq <| nm 2 rfl <| de_op op_sub <| de_op op_sub <| nm 3 rfl <| de_int <| r2_i <| nm 4 rfl <| r2_i ?_
          rw [show (((i + 1 : Nat) : Int) - 2 - (k : Int)) = ((i + 1 - 2 - k : Nat) : Int) by omega]
          refine r2_ix (.cell (List.mem_cons_of_mem _ List.mem_cons_self)) (at0_at (by omega)) <| r2_i ⟨_, _, rfl, rfl, ?_, rfl, ?_⟩
          · rw [natL_len, List.length_map, List.length_range]; omega
          · rw [xor_nat, List.range_succ, List.map_append, natL_app]
            rfl
        · rintro acc M' ⟨rfl, rfl⟩
          rw [rngD_len, show (((i + 1 : Nat) : Int) - 1).toNat = i + 1 - 1 by omega]
          refine ⟨D, _, _, rfl, rfl, da_nil <| da_pu (lin2 (rowsTo i).2 (i + 1)) rfl trivial ⟨_, _, rfl, rfl, ?_, db_nil ⟨_, ?_, rfl⟩⟩⟩
          · rw [natL_len]; omega
          · rw [rowsTo]
            simp only [natL_app]
            rfl
    · rintro M' ρ' ⟨s3, rfl, rfl⟩
      rw [rngD_len, show ((m : Int) + 1 - 1).toNat = m by omega]
      exact db_cons <| ds_ret <| de_tup <| da_cons <| de_perm (List.Perm.swap _ _ _) <| de_freeze <| nm 1 rfl ⟨p1, _, _, rfl, rfl, da_cons <| de_freeze <| nm 2 rfl ⟨p2, _, _, rfl, rfl, da_nil ⟨[_, _], rfl, z2, hW _⟩⟩⟩
/-! ### values by a code -/
def numsAt (found : List Nat) (size j digit : Nat) : List Nat :=
  (if size = j + 1 ∧ digit % 2 = 1 then [0] else []) ++ (if j + 2 ≤ size ∧ digit / 2 % 2 = 1 then [at0 found (size - j - 1)] else []) ++
  (if j + 3 ≤ size ∧ digit / 4 = 1 then (List.range ((size - j - 1) / 2)).map fun a => at0 found (1 + a) ^^^ at0 found (size - j - 1 - (1 + a)) else [])
def numsTo (code found : List Nat) (size : Nat) : Nat → List Nat
  | 0 => []
  | j + 1 => numsTo code found size j ++ numsAt found size j (at0 code j)
def codeTo (code : List Nat) : Nat → List Nat
  | 0 => []
  | n + 1 => codeTo code n ++ [mex (numsTo code (codeTo code n) n code.length)]
theorem codeTo_len (code : List Nat) : ∀ n, (codeTo code n).length = n
  | 0 => rfl
  | n + 1 => by
    rw [codeTo, List.length_append, codeTo_len code n]
    rfl
theorem numsAt_len (found : List Nat) (size j digit : Nat) : (numsAt found size j digit).length ≤ size + 2 := by
  unfold numsAt
  rw [List.length_append, List.length_append]
  have h1 : (if size = j + 1 ∧ digit % 2 = 1 then [0] else []).length ≤ 1 := by split <;> simp
  have h2 : (if j + 2 ≤ size ∧ digit / 2 % 2 = 1 then [at0 found (size - j - 1)] else []).length ≤ 1 := by split <;> simp
  have h3 : (if j + 3 ≤ size ∧ digit / 4 = 1 then (List.range ((size - j - 1) / 2)).map fun a => at0 found (1 + a) ^^^ at0 found (size - j - 1 - (1 + a)) else []).length ≤ size := by
    split
    · rw [List.length_map, List.length_range]; omega
    · simp
  omega
theorem numsTo_len (code found : List Nat) (size : Nat) : ∀ j, (numsTo code found size j).length ≤ j * (size + 2)
  | 0 => by simp [numsTo]
  | j + 1 => by
    have h1 := numsTo_len code found size j
    have h2 := numsAt_len found size j (at0 code j)
    rw [numsTo, List.length_append, Nat.succ_mul]
    omega
theorem sc_cvs : FnScope ["code", "n", "found", "size", "numbers", "j", "digit", "rest", "a"] ["code", "n"] (defScope s_code_values) := ⟨rfl, rfl, rfl, by decide +kernel, rfl, by decide +kernel, by decide +kernel⟩
abbrev R_cvs := Pu (fun a : List Nat × Nat => [.d (.tuple (natL a.1)), .d (.int (a.2 : Nat))]) (fun a => a.2 ≤ 100 ∧ a.1.length ≤ 8 ∧ ∀ d ∈ a.1, d ≤ 7) (fun a => .tuple (natL (codeTo a.1 (a.2 + 1))))
theorem ok_cvs {k : Nat} (Fn : FnP K "code_values" s_code_values f fd) (Gm : Go P w K mg base "least_missing" k ["numbers"] (Pu (fun ns : List Nat => [.d (.list (natL ns))]) (fun ns => ns.length ≤ 20000) (fun ns => .int (mex ns : Nat)))) (g_ra : mg "range" = none) (g_en : mg "enumerate" = none) (g_tu : mg "tuple" = none) : FnOk P w K mg base CX0 (k + 1) f fd ["code", "n"] (SpG K R_cvs) := by
  refine fn_okD Fn sc_cvs (fun κ M W h => ?_) fun cdv A outer s H E hr nd B0 F0 κ M W hR => ?_
  · obtain ⟨g, rfl, _⟩ := h
    rfl
  · obtain ⟨⟨code, n⟩, rfl, ⟨hn, hc, hd7⟩, hW⟩ := hR
    have hn : n ≤ 100 := hn
    have hc : code.length ≤ 8 := hc
    have hW : ∀ M', W (.d (.tuple (natL (codeTo code (n + 1))))) M' := hW
    refine db_cons <| ds_set 2 <| de_lstC <| da_nil ⟨[], rfl, z0, fun p => ?_⟩
    refine db_cons <| ds_for <| di_range1 g_ra <| da_cons <| de_op op_add <| nm 1 rfl <| de_int <| r2_i <| da_nil ⟨_, rfl, by omega, by omega, fun i M' ρ' => ∃ s3 s4 s5 s6 s7, M' = (p, MC.lst (natL (codeTo code i))) :: M ∧ ρ' = [.d (.tuple (natL code)), .d (.int (n : Nat)), .v (.ref p), s3, s4, s5, s6, s7, .un], ⟨_, _, _, _, _, rfl, rfl⟩, fun _ _ _ _ => trivial, ?_, ?_⟩
    · rintro i d M' ρ' hd ⟨s3, s4, s5, s6, s7, rfl, rfl⟩
      obtain ⟨hi, rfl⟩ := rngD_get hd
      have hi : i < n + 1 := by omega
      rw [Int.zero_add]
      have fl := codeTo_len code i
      generalize hfo : codeTo code i = fo at fl
      refine dg_name 3 ?_
      refine db_cons <| ds_set 4 <| de_lstC <| da_nil ⟨[], rfl, z0, fun q => ?_⟩
      refine db_cons <| ds_for <| di_enumT g_en <| nm 0 rfl ⟨_, rfl, fun j M' ρ' => ∃ s5 s6 s7, M' = (q, MC.lst (natL (numsTo code fo i j))) :: (p, MC.lst (natL fo)) :: M ∧ ρ' = [.d (.tuple (natL code)), .d (.int (n : Nat)), .v (.ref p), .d (.int (i : Nat)), .v (.ref q), s5, s6, s7, .un], ⟨_, _, _, rfl, rfl⟩, fun _ _ _ _ => trivial, ?_, ?_⟩
      · rintro j d M' ρ' hd ⟨s5, s6, s7, rfl, rfl⟩
        obtain ⟨z, hz, rfl⟩ := enumD_get hd
        obtain ⟨dg, hdg, rfl⟩ := nat_get hz
        have hj := (List.getElem?_eq_some_iff.mp hdg).1
        have hd7 : dg ≤ 7 := hd7 dg (List.mem_of_getElem? hdg)
        have hnl := numsTo_len code fo i j
        have hnl : (numsTo code fo i j).length ≤ 8 * 102 := Nat.le_trans hnl (Nat.mul_le_mul (by omega) (by omega))
        have e1 : numsTo code fo i (j + 1) = numsTo code fo i j ++ numsAt fo i j dg := by
          rw [numsTo]
          unfold at0
          rw [List.getD_eq_getElem?_getD, hdg]
          rfl
        unfold numsAt at e1
        generalize numsTo code fo i j = ns at e1 hnl
        refine dg_tup rfl <| dgs_cons <| dg_name 5 <| dgs_cons <| dg_name 6 <| dgs_nil ?_
        refine db_cons <| ds_set 7 <| de_op op_sub <| de_op op_sub <| nm 3 rfl <| nm 5 rfl <| r2_i <| de_int <| r2_i ?_
        have wk : ∀ x : Nat, (if x = x then 1 else 0) = 1 := fun x => by simp
        generalize hA : (if i = j + 1 ∧ dg % 2 = 1 then [0] else []) = A1 at e1
        generalize hB : (if j + 2 ≤ i ∧ dg / 2 % 2 = 1 then [at0 fo (i - j - 1)] else []) = A2 at e1
        generalize hC : (if j + 3 ≤ i ∧ dg / 4 = 1 then (List.range ((i - j - 1) / 2)).map fun a => at0 fo (1 + a) ^^^ at0 fo (i - j - 1 - (1 + a)) else []) = A3 at e1
        have lA : A1.length ≤ 1 := by rw [← hA]; split <;> simp
        have lB : A2.length ≤ 1 := by rw [← hB]; split <;> simp
        refine db_cons <| ds_join (fun M' ρ' => M' = (q, MC.lst (natL (ns ++ A1))) :: (p, MC.lst (natL fo)) :: M ∧ ρ' = [.d (.tuple (natL code)), .d (.int (n : Nat)), .v (.ref p), .d (.int (i : Nat)), .v (.ref q), .d (.int (j : Nat)), .d (.int (dg : Nat)), .d (.int ((i : Int) - (j : Int) - 1)), .un])
          (ds_if <| dt_w <| dw_andP <| dt_cmp op_eq <| nm 7 rfl <| de_int <| r2_teq ⟨_, fun _ => dw_and1 <| dt_cmp op_eq <| de_op op_mod <| nm 6 rfl <| de_int <| r2_c (by decide) <| de_int <| r2_teq ⟨rfl, rfl⟩, ways (fun h => ?_) (fun h => ?_)⟩) ?_
        · simp at h
          refine db_cons <| ds_expr <| de_append 0 <| nm 4 rfl ⟨q, _, rfl, List.mem_cons_self, de_int ⟨_, .int 0, rfl, rfl, ?_, db_nil ⟨?_, rfl⟩⟩⟩
          · rw [natL_len]; omega
          · rw [← hA, if_pos (by omega), natL_app]
            rfl
        · simp at h
          refine db_nil ⟨?_, rfl⟩
          rw [← hA, if_neg (by omega), List.append_nil]
        rintro M' ρ' ⟨rfl, rfl⟩
        refine db_cons <| ds_join (fun M' ρ' => M' = (q, MC.lst (natL (ns ++ A1 ++ A2))) :: (p, MC.lst (natL fo)) :: M ∧ ρ' = [.d (.tuple (natL code)), .d (.int (n : Nat)), .v (.ref p), .d (.int (i : Nat)), .v (.ref q), .d (.int (j : Nat)), .d (.int (dg : Nat)), .d (.int ((i : Int) - (j : Int) - 1)), .un])
          (ds_if <| dt_w <| dw_andP <| dt_cmp op_ge <| nm 7 rfl <| de_int <| r2_t ⟨_, fun _ => dw_and1 <| dt_cmp op_eq <| de_op op_mod <| de_op op_fdivW <| nm 6 rfl <| de_int <| r2_c ⟨by decide, by decide⟩ <| de_int <| r2_c (by decide) <| de_int <| r2_teq ⟨rfl, rfl⟩, ways (fun h => ?_) (fun h => ?_)⟩) ?_
        · simp at h
          have hr : (i : Int) - (j : Int) - 1 = ((i - j - 1 : Nat) : Int) := by omega
          refine db_cons <| ds_expr <| de_append 0 <| nm 4 rfl ⟨q, _, rfl, List.mem_cons_self, de_ix ix_seq <| nm 2 rfl <| nm 7 rfl <| r2_ix (.cell (List.mem_cons_of_mem _ List.mem_cons_self)) (by rw [hr]; exact at0_at (by omega)) ⟨_, _, rfl, rfl, ?_, db_nil ⟨?_, rfl⟩⟩⟩
          · rw [natL_len, List.length_append]; omega
          · rw [← hB, if_pos (by omega), natL_app (ns ++ A1)]
            rfl
        · simp at h
          refine db_nil ⟨?_, rfl⟩
          rw [← hB, if_neg (by omega), List.append_nil]
        rintro M' ρ' ⟨rfl, rfl⟩
        refine db_cons <| ds_join (fun M' ρ' => M' = (q, MC.lst (natL (ns ++ A1 ++ A2 ++ A3))) :: (p, MC.lst (natL fo)) :: M ∧ ρ' = [.d (.tuple (natL code)), .d (.int (n : Nat)), .v (.ref p), .d (.int (i : Nat)), .v (.ref q), .d (.int (j : Nat)), .d (.int (dg : Nat)), .d (.int ((i : Int) - (j : Int) - 1)), .un])
          (ds_if <| dt_w <| dw_andP <| dt_cmp op_ge <| nm 7 rfl <| de_int <| r2_t ⟨_, fun _ => dw_and1 <| dt_cmp op_eq <| de_op op_fdivW <| nm 6 rfl <| de_int <| r2_c ⟨by decide, by decide⟩ <| de_int <| r2_teq ⟨rfl, rfl⟩, ways (fun h => ?_) (fun h => ?_)⟩) ?_
        · simp at h
          have hr : (i : Int) - (j : Int) - 1 = ((i - j - 1 : Nat) : Int) := by omega
          rw [hr]
          generalize hz : i - j - 1 = z at hr hC
          have hzi : z < i ∧ z ≤ 100 := by omega
          rw [if_pos (by omega)] at hC
          refine db_cons <| ds_expr <| de_extend 1 <| nm 4 rfl ⟨q, _, rfl, List.mem_cons_self, de_lcC 8 <| di_range2 g_ra <| da_cons <| de_int <| da_cons <| de_op op_add <| de_op op_fdivW <| nm 7 rfl <| de_int <| r2_c ⟨by decide, by decide⟩ <| de_int <| r2_i <| da_nil ⟨_, _, rfl, by omega, fun D => ⟨fun a acc M' => M' = (q, MC.lst (natL (ns ++ A1 ++ A2))) :: (p, MC.lst (natL fo)) :: M ∧ acc = natL ((List.range a).map fun a => at0 fo (1 + a) ^^^ at0 fo (z - (1 + a))), ⟨rfl, rfl⟩, fun _ _ _ _ => trivial, ?_, ?_⟩⟩⟩
          · rintro a d acc M' hd ⟨rfl, rfl⟩ b
            obtain ⟨ha, rfl⟩ := rngD_get hd
            have ha : a < z / 2 := by omega
            rw [show (1 + (a : Int)) = ((1 + a : Nat) : Int) by omega]
            refine de_op op_xor <| de_ix ix_seq <| nm 2 rfl <| nm 8 rfl <| r2_ix (.cell (List.mem_cons_of_mem _ (List.mem_cons_of_mem _ List.mem_cons_self))) (at0_at (by omega)) <| de_ix ix_seq <| nm 2 rfl <| de_op op_sub <| nm 7 rfl <| nm 8 rfl <| r2_i ?_
            rw [show ((z : Int) - ((1 + a : Nat) : Int)) = ((z - (1 + a) : Nat) : Int) by omega]
            refine r2_ix (.cell (List.mem_cons_of_mem _ (List.mem_cons_of_mem _ List.mem_cons_self))) (at0_at (by omega)) <| r2_i ⟨_, _, rfl, rfl, ?_, rfl, ?_⟩
            · rw [natL_len, List.length_map, List.length_range]; omega
            · rw [xor_nat, List.range_succ, List.map_append, natL_app]
              rfl
          · rintro acc M' ⟨rfl, rfl⟩
            rw [rngD_len, show ((z : Int) / 2 + 1 - 1).toNat = z / 2 by omega, hC]
            have lC : A3.length ≤ 100 := by rw [← hC, List.length_map, List.length_range]; omega
            refine ⟨natL (ns ++ A1 ++ A2), natL A3, .cell List.mem_cons_self, rfl, ?_, db_drop 1 <| db_nil ⟨?_, rfl⟩⟩
            · rw [natL_len, natL_len, List.length_append, List.length_append]; omega
            · rw [natL_app (ns ++ A1 ++ A2)]
              rfl
        · simp at h
          refine db_nil ⟨?_, rfl⟩
          rw [← hC, if_neg (by omega), List.append_nil]
        rintro M' ρ' ⟨rfl, rfl⟩
        refine db_nil ⟨_, _, _, ?_, rfl⟩
        rw [e1, ← List.append_assoc, ← List.append_assoc]
      · rintro M' ρ' ⟨s5, s6, s7, rfl, rfl⟩
        rw [enumD_len, natL_len]
        have hnl := numsTo_len code fo i code.length
        have hnl : (numsTo code fo i code.length).length ≤ 8 * 102 := Nat.le_trans hnl (Nat.mul_le_mul (by omega) (by omega))
        refine db_cons <| ds_expr <| de_append 0 <| nm 2 rfl ⟨p, _, rfl, List.mem_cons_of_mem _ List.mem_cons_self, de_pu Gm hr <| da_cons <| de_freeze <| nm 4 rfl ⟨q, _, _, rfl, rfl, da_nil <| da_pu (numsTo code fo i code.length) rfl ?_ ⟨_, _, rfl, rfl, ?_, db_nil ⟨_, _, _, _, _, ?_, rfl⟩⟩⟩⟩
        · show _ ≤ 20000; omega
        · rw [natL_len]; omega
        · rw [codeTo, hfo, natL_app]; rfl
    · rintro M' ρ' ⟨s3, s4, s5, s6, s7, rfl, rfl⟩
      rw [rngD_len, show ((n : Int) + 1).toNat = n + 1 by omega]
      exact db_cons <| ds_ret <| de_tupleOf g_tu <| nm 2 rfl ⟨_, .cell List.mem_cons_self, hW _⟩
end
end H78
set_option maxHeartbeats 1000000
namespace H78
open PySem PySem.Spec PyProof.Rows L2 DL KY
/-! ### the plain law -/
theorem up_eq {a b : List Nat} (ha : a.Pairwise (· < ·)) (hb : b.Pairwise (· < ·)) (h : ∀ x, x ∈ a ↔ x ∈ b) : a = b :=
  sort_up ((List.perm_ext_iff_of_nodup (ha.imp fun h => by omega) (hb.imp fun h => by omega)).mpr h) (ha.imp fun h => by omega) (hb.imp fun h => by omega)
theorem up_map {a : List Nat} (t : Nat) (ha : a.Pairwise (· < ·)) : (a.map (· + t)).Pairwise (· < ·) := List.pairwise_map.mpr (ha.imp fun h => by omega)
theorem valV_adj {adj adj' : Nat → Nat → Bool} : ∀ (n : Nat) (S : List Nat), S.length ≤ n → (∀ p ∈ S, ∀ q ∈ S, adj p q = adj' p q) → val (mvV adj) S = val (mvV adj') S
  | n, S, hn, h => by
    rw [val_eq (short_V _), val_eq (short_V _)]
    congr 1
    unfold mvV
    rw [List.map_map, List.map_map]
    refine List.map_congr_left fun p hp => ?_
    have e : (S.filter fun q => q != p && !adj p q) = S.filter fun q => q != p && !adj' p q := List.filter_congr fun q hq => by rw [h p hp q hq]
    have hl : (S.filter fun q => q != p && !adj' p q).length < S.length := filter_lt hp (by simp)
    show val (mvV adj) (S.filter fun q => q != p && !adj p q) = val (mvV adj') (S.filter fun q => q != p && !adj' p q)
    rw [e]
    cases n with
    | zero => omega
    | succ n => exact valV_adj n _ (by omega) fun x hx y hy => h x (List.mem_filter.mp hx).1 y (List.mem_filter.mp hy).1
theorem valE_adj {adj adj' : Nat → Nat → Bool} : ∀ (n : Nat) (S : List Nat), S.length ≤ n → (∀ p ∈ S, ∀ q ∈ S, adj p q = adj' p q) → val (mvE adj) S = val (mvE adj') S
  | n, S, hn, h => by
    rw [val_eq (short_E _), val_eq (short_E _)]
    congr 1
    have e : mvE adj S = mvE adj' S := by
      unfold mvE
      rw [List.flatMap_def, List.flatMap_def]
      congr 1
      refine List.map_congr_left fun i hi => ?_
      congr 1
      exact List.filter_congr fun j hj => h i hi j hj
    rw [e]
    refine List.map_congr_left fun T hT => ?_
    have hl : T.length < S.length := (short_E adj').1 S T hT
    have hs : ∀ x ∈ T, x ∈ S := by
      obtain ⟨i, _, hT⟩ := List.mem_flatMap.mp hT
      obtain ⟨j, _, rfl⟩ := List.mem_map.mp hT
      exact fun x hx => (List.mem_filter.mp hx).1
    cases n with
    | zero => omega
    | succ n => exact valE_adj n _ (by omega) fun x hx y hy => h x (hs x hx) y (hs y hy)
theorem valB_adj {b : Bool} {es es' : Ed} {S : List Nat} (h : ∀ p ∈ S, ∀ q ∈ S, adjN es p q = adjN es' p q) : val (mvB b es) S = val (mvB b es') S := by
  cases b
  · exact valV_adj _ S (Nat.le_refl _) h
  · exact valE_adj _ S (Nat.le_refl _) h
theorem valB_map {b : Bool} {es es' : Ed} {S : List Nat} {f : Nat → Nat} (inj : ∀ p q, f p = f q → p = q) (h : ∀ p q, adjN es' (f p) (f q) = adjN es p q) : val (mvB b es') (S.map f) = val (mvB b es) S := by
  cases b
  · exact val_map inj h _ S (Nat.le_refl _)
  · exact val_mapE inj h _ S (Nat.le_refl _)
theorem range_lt (n m : Nat) : (List.range (n + m)).filter (fun q => decide (q < n)) = List.range n := up_eq (List.pairwise_lt_range.filter _) List.pairwise_lt_range fun x => by
  rw [List.mem_filter, List.mem_range, List.mem_range, decide_eq_true_iff]
  omega
theorem range_ge (n m : Nat) : (List.range (n + m)).filter (fun q => !decide (q < n)) = (List.range m).map (· + n) := up_eq (List.pairwise_lt_range.filter _) (up_map n List.pairwise_lt_range) fun x => by
  rw [List.mem_filter, List.mem_range, List.mem_map]
  simp only [Bool.not_eq_true', decide_eq_false_iff_not, List.mem_range]
  exact ⟨fun h => ⟨x - n, by omega, by omega⟩, fun ⟨y, h1, h2⟩ => by omega⟩
theorem mem_shift {es : Ed} {t : Nat} {p q : Nat} : (p, q) ∈ shift es t ↔ t ≤ p ∧ t ≤ q ∧ (p - t, q - t) ∈ es := by
  unfold shift
  rw [List.mem_map]
  constructor
  · rintro ⟨⟨a, b⟩, h, e⟩
    have e1 : a + t = p := congrArg Prod.fst e
    have e2 : b + t = q := congrArg Prod.snd e
    refine ⟨by omega, by omega, ?_⟩
    rw [show p - t = a by omega, show q - t = b by omega]
    exact h
  · rintro ⟨h1, h2, h⟩
    exact ⟨_, h, Prod.ext (show p - t + t = p by omega) (show q - t + t = q by omega)⟩
/-- two graphs side by side -/
theorem side_val {b : Bool} {n m : Nat} {es fs hs : Ed} (he : ∀ e ∈ es, e.1 < n ∧ e.2 < n) (hh : ∀ e, e ∈ hs ↔ e ∈ es ∨ e ∈ shift fs n) : wholeV b (n + m, hs) = wholeV b (n, es) ^^^ wholeV b (m, fs) := by
  have A : ∀ p q, adjN hs p q = true ↔ adjN es p q = true ∨ (n ≤ p ∧ n ≤ q ∧ adjN fs (p - n) (q - n) = true) := fun p q => by
    rw [adjN_iff, adjN_iff, adjN_iff, hh, hh, mem_shift, mem_shift]
    constructor
    · rintro ((h | ⟨h1, h2, h⟩) | (h | ⟨h1, h2, h⟩))
      · exact .inl (.inl h)
      · exact .inr ⟨h1, h2, .inl h⟩
      · exact .inl (.inr h)
      · exact .inr ⟨h2, h1, .inr h⟩
    · rintro ((h | h) | ⟨h1, h2, (h | h)⟩)
      · exact .inl (.inl h)
      · exact .inr (.inl h)
      · exact .inl (.inr ⟨h1, h2, h⟩)
      · exact .inr (.inr ⟨h2, h1, h⟩)
  have lo : ∀ p q, adjN es p q = true → p < n ∧ q < n := fun p q h => by
    rcases adjN_iff.mp h with h | h
    · exact he _ h
    · exact (he _ h).symm
  show val (mvB b hs) (List.range (n + m)) = _
  rw [val_split (short_B b hs) (splits_B b hs) (fun q => decide (q < n)) _ _ (Nat.le_refl _), range_lt, range_ge]
  · congr 1
    · refine valB_adj fun p hp q hq => ?_
      rw [Bool.eq_iff_iff, A]
      have := List.mem_range.mp hp
      exact ⟨fun h => h.elim id fun h => by omega, .inl⟩
    · refine valB_map (fun p q h => by simpa using h) fun p q => ?_
      rw [Bool.eq_iff_iff, A, Nat.add_sub_cancel, Nat.add_sub_cancel]
      exact ⟨fun h => h.elim (fun h => by have := lo _ _ h; omega) fun h => h.2.2, fun h => .inr ⟨by omega, by omega, h⟩⟩
  · intro p hp q hq hne
    cases c : adjN hs p q with
    | false => rfl
    | true =>
      refine absurd ?_ hne
      rcases (A p q).mp c with h | ⟨h1, h2, _⟩
      · have := lo _ _ h
        simp [this.1, this.2]
      · simp [Nat.not_lt.mpr h1, Nat.not_lt.mpr h2]
/-- the places joined by bridges -/
def brg (t n : Nat) (i j : Nat) : Bool := decide (i ≠ j) && decide ((min i j + 2 * max i j + t) / 3 * 3 = min i j + 2 * max i j + t)
def bridged (t n : Nat) : Ed := ((List.range n).map fun i => ((List.range n).filter fun j => brg t n i j).map fun j => (i, n + j)).flatten
theorem brg_symm (t n i j : Nat) : brg t n i j = brg t n j i := by
  unfold brg
  rw [Nat.min_comm, Nat.max_comm]
  congr 1
  exact decide_eq_decide.mpr ne_comm
theorem mem_bridged {t n p q : Nat} : (p, q) ∈ bridged t n ↔ p < n ∧ n ≤ q ∧ q < n + n ∧ brg t n p (q - n) = true := by
  unfold bridged
  rw [List.mem_flatten]
  constructor
  · rintro ⟨l, hl, h⟩
    obtain ⟨i, hi, rfl⟩ := List.mem_map.mp hl
    obtain ⟨j, hj, e⟩ := List.mem_map.mp h
    obtain ⟨hj, hb⟩ := List.mem_filter.mp hj
    have e1 : i = p := congrArg Prod.fst e
    have e2 : n + j = q := congrArg Prod.snd e
    subst e1 e2
    have := List.mem_range.mp hi
    have := List.mem_range.mp hj
    exact ⟨by omega, by omega, by omega, by rw [Nat.add_sub_cancel_left]; exact hb⟩
  · rintro ⟨h1, h2, h3, h4⟩
    exact ⟨_, List.mem_map.mpr ⟨p, List.mem_range.mpr h1, rfl⟩, List.mem_map.mpr ⟨q - n, List.mem_filter.mpr ⟨List.mem_range.mpr (by omega), h4⟩, Prod.ext rfl (show n + (q - n) = q by omega)⟩⟩
def tau (n p : Nat) : Nat := if p < n then p + n else if p < n + n then p - n else if p % 2 = 0 then p + 1 else p - 1
theorem half_val {n t : Nat} {es hs : Ed} (he : ∀ e ∈ es, e.1 < e.2 ∧ e.2 < n) (hh : ∀ e, e ∈ hs ↔ e ∈ es ∨ e ∈ shift es n ∨ e ∈ bridged t n) : wholeV false (n + n, hs) = 0 := by
  have he1 : ∀ p q, (p, q) ∈ es → p < q ∧ q < n := fun p q h => he _ h
  have M : ∀ p q, (p, q) ∈ hs ↔ (p, q) ∈ es ∨ (n ≤ p ∧ n ≤ q ∧ (p - n, q - n) ∈ es) ∨ (p < n ∧ n ≤ q ∧ q < n + n ∧ brg t n p (q - n) = true) := fun p q => by rw [hh, mem_shift, mem_bridged]
  have b0 : ∀ p, brg t n p p = false := fun p => by simp [brg]
  have T : ∀ p q, (p, q) ∈ hs → (tau n p, tau n q) ∈ hs ∨ (tau n q, tau n p) ∈ hs := fun p q h => by
    rcases (M p q).mp h with h | ⟨h1, h2, h⟩ | ⟨h1, h2, h3, h⟩
    · have := he1 p q h
      refine .inl ((M _ _).mpr (.inr (.inl ?_)))
      unfold tau
      rw [if_pos (by omega), if_pos (by omega), Nat.add_sub_cancel, Nat.add_sub_cancel]
      exact ⟨by omega, by omega, h⟩
    · have := he1 _ _ h
      refine .inl ((M _ _).mpr (.inl ?_))
      unfold tau
      rw [if_neg (by omega), if_pos (by omega), if_neg (by omega), if_pos (by omega)]
      exact h
    · refine .inr ((M _ _).mpr (.inr (.inr ?_)))
      unfold tau
      rw [if_pos h1, if_neg (by omega), if_pos h3, Nat.add_sub_cancel]
      exact ⟨by omega, by omega, by omega, by rw [brg_symm]; exact h⟩
  have t2 : ∀ p, tau n (tau n p) = p := fun p => by
    unfold tau
    by_cases c1 : p < n
    · rw [if_pos c1, if_neg (by omega), if_pos (by omega)]; omega
    · rw [if_neg c1]
      by_cases c2 : p < n + n
      · rw [if_pos c2, if_pos (by omega)]; omega
      · rw [if_neg c2]
        by_cases c3 : p % 2 = 0
        · rw [if_pos c3, if_neg (by omega), if_neg (by omega), if_neg (by omega)]; omega
        · rw [if_neg c3, if_neg (by omega), if_neg (by omega), if_pos (by omega)]; omega
  have A : ∀ p q, adjN hs p q = true → adjN hs (tau n p) (tau n q) = true := fun p q h => by
    rw [adjN_iff] at h ⊢
    rcases h with h | h
    · exact T p q h
    · exact (T q p h).symm
  refine val_sym (adj := adjN hs) t2 (fun p => ?_) (fun p => ?_) (fun p q => ?_) _ _ (Nat.le_refl _) fun p hp => ?_
  · unfold tau
    split
    · by_cases z : n = 0 <;> omega
    · split
      · omega
      · split <;> omega
  · cases c : adjN hs p (tau n p) with
    | false => rfl
    | true =>
      have no : ∀ p, (p, tau n p) ∉ hs := fun p h => by
        rcases (M _ _).mp h with h | ⟨h1, h2, h⟩ | ⟨h1, h2, h3, h⟩
        · have := he1 _ _ h
          unfold tau at this
          rw [if_pos (by omega)] at this
          omega
        · have := he1 _ _ h
          unfold tau at this h2
          rw [if_neg (by omega), if_pos (by omega)] at this h2
          omega
        · unfold tau at h
          rw [if_pos h1, Nat.add_sub_cancel, b0] at h
          cases h
      rcases adjN_iff.mp c with h | h
      · exact absurd h (no p)
      · have h2 := no (tau n p)
        rw [t2] at h2
        exact absurd h h2
  · rw [Bool.eq_iff_iff]
    exact ⟨fun h => by have := A _ _ h; rwa [t2, t2] at this, A p q⟩
  · have hp : p < n + n := List.mem_range.mp hp
    refine List.mem_range.mpr (show tau n p < n + n from ?_)
    unfold tau
    split
    · omega
    · omega
theorem kRest_eq (g : Nat × Ed) (p : Nat) : kRest g p = (List.range g.1).filter fun q => q != p && !adjN g.2 p q := List.filter_congr fun q _ => by
  rw [Bool.eq_iff_iff]
  simp
  intro _
  rw [← adj_near]
  simp
theorem half_moves {g : Nat × Ed} (h : wholeV false g = 0) : kMoves g (List.range g.1) = [] := by
  unfold kMoves
  rw [List.filter_eq_nil_iff]
  intro p hp
  simp only [decide_eq_true_iff]
  intro z
  have h2 : val (mvV (adjN g.2)) (List.range g.1) = 0 := h
  have m := val_mex (short_V (adjN g.2)) (List.range g.1)
  rw [h2] at m
  refine m.1 (List.mem_map.mpr ⟨_, List.mem_map.mpr ⟨p, hp, rfl⟩, ?_⟩)
  rw [kRest_eq] at z
  exact z
/-! ### lines -/
def la (p q : Nat) : Bool := decide (q = p + 1) || decide (p = q + 1)
def lineE (n : Nat) : Ed := (List.range (n - 1)).map fun k => (k, k + 1)
theorem line_adj {n p q : Nat} (hp : p < n) (hq : q < n) : adjN (lineE n) p q = la p q := by
  rw [Bool.eq_iff_iff, adjN_iff]
  unfold lineE la
  rw [List.mem_map, List.mem_map]
  simp only [Bool.or_eq_true, decide_eq_true_iff, List.mem_range]
  constructor
  · rintro (⟨k, h, e⟩ | ⟨k, h, e⟩)
    · have e1 : k = p := congrArg Prod.fst e
      have e2 : k + 1 = q := congrArg Prod.snd e
      omega
    · have e1 : k = q := congrArg Prod.fst e
      have e2 : k + 1 = p := congrArg Prod.snd e
      omega
  · rintro (h | h)
    · exact .inl ⟨p, by omega, by rw [h]⟩
    · exact .inr ⟨q, by omega, by rw [h]⟩
def lV (n : Nat) : Nat := val (mvV la) (List.range n)
def lE (n : Nat) : Nat := val (mvE la) (List.range n)
theorem line_V (n : Nat) : wholeV false (n, lineE n) = lV n := valV_adj _ _ (Nat.le_refl _) fun p hp q hq => line_adj (List.mem_range.mp hp) (List.mem_range.mp hq)
theorem line_E (n : Nat) : wholeV true (n, lineE n) = lE n := valE_adj _ _ (Nat.le_refl _) fun p hp q hq => line_adj (List.mem_range.mp hp) (List.mem_range.mp hq)
/-- two stretches with a gap -/
theorem gapV (sp : ∀ T, Apart la (fun q => decide (q < c)) T → val (mvV la) T = val (mvV la) (T.filter fun q => decide (q < c)) ^^^ val (mvV la) (T.filter fun q => !decide (q < c))) {T : List Nat} {a b d : Nat} (hT : T.Pairwise (· < ·)) (hm : ∀ x, x ∈ T ↔ x < a ∨ (d ≤ x ∧ x < d + b)) (h1 : a ≤ c) (h2 : c ≤ d) (h3 : a < d) : val (mvV la) T = lV a ^^^ lV b := by
  rw [sp T fun p hp q hq hne => by
    cases e : la p q with
    | false => rfl
    | true =>
      refine absurd ?_ hne
      have hp := (hm p).mp hp
      have hq := (hm q).mp hq
      unfold la at e
      simp at e
      show decide (p < c) = decide (q < c)
      exact decide_eq_decide.mpr (by omega)]
  congr 1
  · congr 1
    refine up_eq (hT.filter _) List.pairwise_lt_range fun x => ?_
    rw [List.mem_filter, hm, List.mem_range, decide_eq_true_iff]
    omega
  · rw [show (T.filter fun q => !decide (q < c)) = (List.range b).map (· + d) from up_eq (hT.filter _) (up_map d List.pairwise_lt_range) fun x => by
      rw [List.mem_filter, hm, List.mem_map]
      simp only [Bool.not_eq_true', decide_eq_false_iff_not, List.mem_range]
      exact ⟨fun h => ⟨x - d, by omega, by omega⟩, fun ⟨y, h1, h2⟩ => by omega⟩]
    exact val_map (fun p q h => by simpa using h) (fun p q => by unfold la; rw [Bool.eq_iff_iff]; simp; omega) _ _ (Nat.le_refl _)
theorem gapE (sp : ∀ T, Apart la (fun q => decide (q < c)) T → val (mvE la) T = val (mvE la) (T.filter fun q => decide (q < c)) ^^^ val (mvE la) (T.filter fun q => !decide (q < c))) {T : List Nat} {a b d : Nat} (hT : T.Pairwise (· < ·)) (hm : ∀ x, x ∈ T ↔ x < a ∨ (d ≤ x ∧ x < d + b)) (h1 : a ≤ c) (h2 : c ≤ d) (h3 : a < d) : val (mvE la) T = lE a ^^^ lE b := by
  rw [sp T fun p hp q hq hne => by
    cases e : la p q with
    | false => rfl
    | true =>
      refine absurd ?_ hne
      have hp := (hm p).mp hp
      have hq := (hm q).mp hq
      unfold la at e
      simp at e
      show decide (p < c) = decide (q < c)
      exact decide_eq_decide.mpr (by omega)]
  congr 1
  · congr 1
    refine up_eq (hT.filter _) List.pairwise_lt_range fun x => ?_
    rw [List.mem_filter, hm, List.mem_range, decide_eq_true_iff]
    omega
  · rw [show (T.filter fun q => !decide (q < c)) = (List.range b).map (· + d) from up_eq (hT.filter _) (up_map d List.pairwise_lt_range) fun x => by
      rw [List.mem_filter, hm, List.mem_map]
      simp only [Bool.not_eq_true', decide_eq_false_iff_not, List.mem_range]
      exact ⟨fun h => ⟨x - d, by omega, by omega⟩, fun ⟨y, h1, h2⟩ => by omega⟩]
    exact val_mapE (fun p q h => by simpa using h) (fun p q => by unfold la; rw [Bool.eq_iff_iff]; simp; omega) _ _ (Nat.le_refl _)
theorem lV_eq (n : Nat) : lV n = mex ((List.range n).map fun k => lV (k - 1) ^^^ lV (n - k - 2)) := by
  unfold lV
  rw [val_eq (short_V _)]
  unfold mvV
  rw [List.map_map]
  congr 1
  refine List.map_congr_left fun p hp => ?_
  have hp := List.mem_range.mp hp
  refine gapV (c := p) (d := p + 2) (a := p - 1) (b := n - p - 2) (fun T hT => val_split (short_V la) (splits_V la) _ _ T (Nat.le_refl _) hT) (List.pairwise_lt_range.filter _) (fun x => ?_) (by omega) (by omega) (by omega)
  rw [List.mem_filter, List.mem_range]
  unfold la
  simp
  omega
theorem lE_eq (n : Nat) : lE n = mex ((List.range (n - 1)).map fun k => lE k ^^^ lE (n - 2 - k)) := by
  have one : ∀ k, k < n - 1 → val (mvE la) ((List.range n).filter fun q => q != k && q != k + 1) = lE k ^^^ lE (n - 2 - k) := fun k hk => by
    refine gapE (c := k) (d := k + 2) (a := k) (b := n - 2 - k) (fun T hT => val_split (short_E la) (splits_E la) _ _ T (Nat.le_refl _) hT) (List.pairwise_lt_range.filter _) (fun x => ?_) (by omega) (by omega) (by omega)
    rw [List.mem_filter, List.mem_range]
    simp
    omega
  show val (mvE la) (List.range n) = _
  rw [val_eq (short_E _)]
  refine mex_congr fun v => ?_
  rw [List.mem_map, List.mem_map]
  constructor
  · rintro ⟨T, hT, rfl⟩
    obtain ⟨i, hi, hT⟩ := List.mem_flatMap.mp hT
    obtain ⟨j, hj, rfl⟩ := List.mem_map.mp hT
    obtain ⟨hj, ha⟩ := List.mem_filter.mp hj
    have hi := List.mem_range.mp hi
    have hj := List.mem_range.mp hj
    unfold la at ha
    simp at ha
    by_cases c : j = i + 1
    · subst c
      exact ⟨i, List.mem_range.mpr (by omega), (one i (by omega)).symm⟩
    · have c : i = j + 1 := by omega
      subst c
      refine ⟨j, List.mem_range.mpr (by omega), ?_⟩
      rw [← one j (by omega)]
      congr 1
      exact List.filter_congr fun q _ => Bool.and_comm _ _
  · rintro ⟨k, hk, rfl⟩
    have hk := List.mem_range.mp hk
    exact ⟨_, List.mem_flatMap.mpr ⟨k, List.mem_range.mpr (by omega), List.mem_map.mpr ⟨k + 1, List.mem_filter.mpr ⟨List.mem_range.mpr (by omega), by simp [la]⟩, rfl⟩⟩, one k hk⟩
theorem at0_map {f : Nat → Nat} {m j : Nat} (h : j < m) : at0 ((List.range m).map f) j = f j := by
  unfold at0
  rw [List.getD_eq_getElem?_getD, List.getElem?_map, List.getElem?_range h]
  rfl
theorem rows_eq : ∀ m, rowsTo m = ((List.range (m + 1)).map lV, (List.range (m + 1)).map lE)
  | 0 => by
    have h1 : lV 0 = 0 := by rw [lV_eq]; rfl
    have h2 : lE 0 = 0 := by rw [lE_eq]; rfl
    show ([0], [0]) = ([lV 0], [lE 0])
    rw [h1, h2]
  | m + 1 => by
    rw [rowsTo, rows_eq m, List.range_succ (n := m + 1), List.map_append, List.map_append]
    have h1 : mex (lin1 ((List.range (m + 1)).map lV) (m + 1)) = lV (m + 1) := by
      rw [lV_eq]
      congr 1
      refine List.map_congr_left fun k hk => ?_
      have := List.mem_range.mp hk
      rw [at0_map (by omega), at0_map (by omega)]
    have h2 : mex (lin2 ((List.range (m + 1)).map lE) (m + 1)) = lE (m + 1) := by
      rw [lE_eq]
      congr 1
      refine List.map_congr_left fun k hk => ?_
      have := List.mem_range.mp hk
      rw [at0_map (by omega), at0_map (by omega)]
    rw [h1, h2]
    rfl
theorem row_V {n : Nat} (h : n ≤ 12) : at0 (rowsTo 12).1 n = wholeV false (n, lineE n) := by rw [rows_eq, line_V]; exact at0_map (by omega)
theorem row_E {n : Nat} (h : n ≤ 12) : at0 (rowsTo 12).2 n = wholeV true (n, lineE n) := by rw [rows_eq, line_E]; exact at0_map (by omega)
theorem code_V : codeTo [1, 3, 7] 13 = (rowsTo 12).1 := by decide +kernel
theorem code_E : codeTo [0, 7] 13 = (rowsTo 12).2 := by decide +kernel
end H78
set_option maxHeartbeats 8000000
namespace H78
open PySem PySem.Spec PyProof.Rows L2 DL KY
theorem same_int (m : Nat) (i : Int) : SameOk m (.int i) := by cases m <;> trivial
theorem same_natL (m : Nat) {ns : List Nat} (h : ns.length ≤ 100000) : SameOk (m + 1) (.tuple (natL ns)) := ⟨by rw [natL_len]; exact h, fun d hd => by
  obtain ⟨n, _, rfl⟩ := nat_mem hd
  exact same_int m _⟩
theorem same_two (m : Nat) (i j : Int) : SameOk (m + 1) (.tuple [.int i, .int j]) := ⟨z2, fun d hd => by
  rcases List.mem_cons.mp hd with rfl | hd
  · exact same_int m _
  · rw [List.mem_singleton.mp hd]; exact same_int m _⟩
theorem pr_edL (es : Ed) : es.map epD = edL es := rfl
theorem box_len {n : Nat} {es : Ed} (nd : es.Nodup) (h : ∀ e ∈ es, e.1 < n ∧ e.2 < n) : es.length ≤ n * n := by
  have := nodup_len (l := es) (m := (List.range n).flatMap fun i => (List.range n).map fun j => (i, j)) nd fun e he => List.mem_flatMap.mpr ⟨e.1, List.mem_range.mpr (h e he).1, List.mem_map.mpr ⟨e.2, List.mem_range.mpr (h e he).2, rfl⟩⟩
  rw [List.length_flatMap] at this
  simp only [List.length_map, List.length_range] at this
  rw [List.map_const', List.length_range, List.sum_replicate_nat] at this
  exact this
theorem gok_nd {n : Nat} {es : Ed} (hn : n ≤ 14) (nd : es.Nodup) (h : ∀ e ∈ es, e.1 < e.2 ∧ e.2 < n) : GOk (n, es) := ⟨hn, by
  have h1 := box_len nd fun e he => ⟨by have := h e he; omega, (h e he).2⟩
  have h2 : n * n ≤ 14 * 14 := Nat.mul_le_mul hn hn
  show es.length ≤ 1000
  omega, h, nd⟩
theorem gok_of {g : Nat × Ed} (hn : g.1 ≤ 14) (h : GrOk g) (p : g.2.Pairwise (fun p q => p.1 < q.1 ∨ (p.1 = q.1 ∧ p.2 < q.2))) : GOk g := gok_nd hn (p.imp fun {a b} h e => by
  subst e
  omega) h
theorem gok_len {g : Nat × Ed} (h : GOk g) : g.2.length ≤ 196 := by
  have h1 := box_len h.nd (n := g.1) fun e he => ⟨by have := h.up e he; omega, (h.up e he).2⟩
  have h2 : g.1 * g.1 ≤ 14 * 14 := Nat.mul_le_mul h.n h.n
  omega
abbrev NL : List Str := ["script", "box", "turn", "graph", "whole", "met", "edge_met", "due", "place", "wins", "k", "rest", "one", "other", "side", "n", "bridged", "i", "j", "edge", "halves", "line", "first", "second"]
def R_law : List Sl → Cs → (Sl → Cs → Prop) → Prop := fun κ M W => ∃ ns : List Int, ns.length ≤ 100000 ∧ κ = [.rd (iL ns)] ∧ M = [] ∧ ∀ M', W (.d (.bool true)) M'
structure Env78 (P : Program) (w : World) (K : PySem.W.Frag) (mg : Str → Option Value) (base : Heap) (k : Nat) : Prop where
  box : Go P w K mg base "_law_box" k ["script"] R_box
  draw : ∀ bx cs, Go P w K mg base "_law_draw" k ["box", "many"] (R_draw bx cs)
  graph : ∀ bx cs, Go P w K mg base "_law_graph" k ["box", "most", "part"] (R_graph bx cs)
  same : Go P w K mg base "_law_same" k ["a", "b"] (R_same 3)
  lv : Go P w K mg base "_law_value" k ["graph", "places_left", "met"] (R_mem P w (fun es => mvV (adjN es)) 14)
  lev : Go P w K mg base "_law_edge_value" k ["graph", "places_left", "met"] (R_mem P w (fun es => mvE (adjN es)) 14)
  rest : Go P w K mg base "_law_rest" k ["graph", "places_left", "place"] R_rest
  flat : Go P w K mg base "_law_flat" k ["rows"] R_flat
  moved : Go P w K mg base "_law_moved" k ["graph", "step"] R_moved
  lines : Go P w K mg base "_law_lines" k ["most"] R_lines
  kv : Go P w K mg base "kayles_value" k ["graph"] (R_kv false)
  ekv : Go P w K mg base "edge_kayles_value" k ["graph"] (R_kv true)
  km : Go P w K mg base "kayles_moves" k ["graph"] (Pu (fun g : Nat × Ed => [.d (grD g)]) GOk (fun g => .tuple (natL (kMoves g (List.range g.1)))))
  ekm : Go P w K mg base "edge_kayles_moves" k ["graph"] (Pu (fun g : Nat × Ed => [.d (grD g)]) GOk (fun g => .tuple (natL (eMoves g g.2.length))))
  cvs : Go P w K mg base "code_values" k ["code", "n"] R_cvs
  ra : mg "range" = none
  tu : mg "tuple" = none
  so : mg "sorted" = none
  di : mg "dict" = none
  le : mg "len" = none
  li : mg "list" = none
  mi : mg "min" = none
  ma : mg "max" = none
section
variable {P : Program} {w : World} {K : PySem.W.Frag} {mg : Str → Option Value} {base : Heap} {f : Addr} {fd : FuncData}
theorem sc_law : FnScope NL ["script"] (defScope s_law) := ⟨rfl, rfl, rfl, by decide +kernel, rfl, by decide +kernel, by decide +kernel⟩
abbrev LX (P : Program) (w : World) (K : PySem.W.Frag) (mg : Str → Option Value) (base : Heap) (f : Addr) (cdv : Value) (A : Around) (outer : List Env) (s : Shared) (H : Hp) (E : XK) : Cx := (cxOf CX0 P w K mg base NL "law" (defScope s_law) f cdv A outer s H E).nox
variable {cdv : Value} {A : Around} {outer : List Env} {s : Shared} {H : Hp} {E : XK} {k : Nat} {B0 F0 : Hp} {bx cs : Addr}
abbrev loopBody : List Stmt := match (defBody s_law).getD 1 (.Pass ⟨0, 0, 0, 0⟩) with
  | .For _ _ b _ _ => b
  | _ => []
/-- one graph -/
theorem w_one (V : Env78 P w K mg base k) (hr : Room k (LX P w K mg base f cdv A outer s H E).A) (nd : NL.Nodup) {M : Cs} {κ : List Sl} {kk : KK} {ss : List Stmt} {s0 s2 s3 s4 s5 s6 s7 s8 s9 s10 s11 s12 s13 s14 s15 s16 s17 s18 s19 s20 s21 s22 s23 : Sl} (hb : Box bx cs M)
    (h : ∀ M' s3' s4' s5' s6' s7' s9' s10' s11', Box bx cs M' → DB (LX P w K mg base f cdv A outer s H E) B0 F0 M' [s0, .v (.ref bx), s2, s3', s4', s5', s6', s7', s8, s9', s10', s11', s12, s13, s14, s15, s16, s17, s18, s19, s20, s21, s22, s23] κ ss kk) :
    DB (LX P w K mg base f cdv A outer s H E) B0 F0 M [s0, .v (.ref bx), s2, s3, s4, s5, s6, s7, s8, s9, s10, s11, s12, s13, s14, s15, s16, s17, s18, s19, s20, s21, s22, s23] κ (loopBody.take 8 ++ ss) kk := by
  refine db_cons <| ds_set 3 <| de_goJ 0 (V.graph bx cs) hr <| da_cons <| nm 1 rfl <| da_cons <| de_int <| da_cons <| de_op op_add <| de_int <| de_goJ 0 (V.draw bx cs) hr <| da_cons <| nm 1 rfl <| da_cons <| de_int <| da_nil ⟨4, rfl, hb, by decide, by decide, fun m M1 hm0 hm1 hb1 => ⟨trivial, r2_i <| da_nil ⟨7, 1 + m, rfl, by decide, by decide, hb1, fun g M2 hg1 hg7 hgo hgp hb2 => ⟨trivial, ?_⟩⟩⟩⟩
  have hg : GOk g := gok_of (by omega) hgo hgp
  have hgn : g.1 ≤ 14 := hg.n
  have hge := gok_len hg
  have hge' := hg.e
  have hrl : (List.range g.1).length ≤ 14 := by rw [List.length_range]; exact hgn
  have g_tu := V.tu
  have g_ra := V.ra
  refine db_cons <| ds_parT 3 <| da_cons <| de_tupRgA V.tu V.ra <| de_ix ix_seq <| nm 3 rfl <| de_int <| r2_ix (.tup _) (d := .int (g.1 : Nat)) rfl ⟨_, rfl, ⟨by omega, by omega, by omega, by omega, by omega⟩, da_cons <| de_ndnew fun m => da_cons <| de_ndnew fun e => da_nil ⟨rfl, dgs_cons <| dg_name 4 <| dgs_cons <| dg_name 5 <| dgs_cons <| dg_name 6 <| dgs_nil ?_⟩⟩
  rw [Int.toNat_natCast, rng0]
  refine db_cons <| ds_if <| dt_not <| dt_val <| de_pu V.same hr <| da_cons <| de_tup <| da_cons <| de_pu V.kv hr <| da_cons <| nm 3 rfl <| da_nil <| da_pu g rfl hg <| da_cons <| de_pu V.ekv hr <| da_cons <| nm 3 rfl <| da_nil <| da_pu g rfl hg <| da_nil ⟨[_, _], rfl, z2, da_cons <| de_tup <| da_cons <| de_goX 1 1 V.lv hr <| da_cons <| nm 3 rfl <| da_cons <| nm 4 rfl <| da_cons <| nm 5 rfl <| da_nil ⟨g.1, g.2, List.range g.1, m, [], rfl, rfl, hgn, hge', .range _, hrl, .nil _ _, fun kn1 hk1 => ⟨trivial, da_cons <| de_goX 0 1 V.lev hr <| da_cons <| nm 3 rfl <| da_cons <| nm 4 rfl <| da_cons <| nm 6 rfl <| da_nil ⟨g.1, g.2, List.range g.1, e, [], rfl, rfl, hgn, hge', .range _, hrl, .nil _ _, fun kn2 hk2 => ⟨trivial, da_nil ⟨[_, _], rfl, z2, da_nil <| da_pu _ rfl (same_two 2 _ _) ⟨_, rfl, waysF rfl <| db_nil ?_⟩⟩⟩⟩⟩⟩⟩
  refine db_cons <| ds_set 7 <| de_tupleOf V.tu <| de_lcIfC 8 <| di_tup <| nm 4 rfl ⟨natL (List.range g.1), rfl, fun D => ⟨fun i acc M' => ∃ kn, M' = (e, .dn (NDic P w e) kn2) :: (m, .dn (NDic P w m) kn) :: M2 ∧ Known (mvV (adjN g.2)) g.1 kn ∧ acc = natL (kMoves g (List.range i)), ⟨kn1, rfl, hk1, rfl⟩, fun _ _ _ _ => trivial, ?_, ?_⟩⟩
  · rintro i d acc M' hd ⟨kn, rfl, hk, rfl⟩ b
    obtain ⟨q, hq, rfl⟩ := nat_get hd
    have hi : i < g.1 := by
      have := (List.getElem?_eq_some_iff.mp hq).1
      rwa [List.length_range] at this
    have hqi : q = i := by rw [List.getElem?_range hi] at hq; exact (Option.some.inj hq).symm
    subst hqi
    have hml : (kMoves g (List.range q)).length ≤ q := by
      have := filLe (fun p => decide (val (mvB false g.2) (kRest g p) = 0)) (List.range q)
      rw [List.length_range] at this
      exact this
    have e1 : kMoves g (List.range (q + 1)) = kMoves g (List.range q) ++ if val (mvB false g.2) (kRest g q) = 0 then [q] else [] := by
      unfold kMoves
      rw [List.range_succ, List.filter_append]
      congr 1
      by_cases z : val (mvB false g.2) (kRest g q) = 0 <;> simp [z]
    have hup : Up g.1 (kRest g q) := (Up.range _).filter _
    have hup2 := hup.len
    refine dt_cmp op_eq <| de_goX 2 1 V.lv hr <| da_cons <| nm 3 rfl <| da_cons <| de_pu V.rest hr <| da_cons <| nm 3 rfl <| da_cons <| nm 4 rfl <| da_cons <| nm 8 rfl <| da_nil <| da_pu ((g, List.range g.1), q) rfl ⟨hge', by show (List.range g.1).length ≤ 1000; omega⟩ <| da_cons <| nm 5 rfl <| da_nil ⟨g.1, g.2, kRest g q, m, kn, ?_, rfl, hgn, hge', hup, by omega, hk, fun kn3 hk3 => ⟨trivial, de_int <| r2_teq (waysD (fun ht => fun b => nm 8 rfl ⟨_, _, rfl, rfl, ?_, kn3, rfl, hk3, ?_⟩) (fun hf => ⟨_, rfl, kn3, rfl, hk3, ?_⟩))⟩⟩
    · rw [kRest_eq]
    · rw [natL_len]; omega
    · rw [e1, if_pos (show val (mvB false g.2) (kRest g q) = 0 from Int.ofNat_eq_zero.mp ht), natL_app]
      rfl
    · rw [e1, if_neg (show ¬ val (mvB false g.2) (kRest g q) = 0 from fun z => hf (Int.ofNat_eq_zero.mpr z)), List.append_nil]
  rintro acc M' ⟨kn, rfl, hk, rfl⟩
  rw [natL_len, List.length_range]
  have hml : (kMoves g (List.range g.1)).length ≤ 100000 := by
    have := filLe (fun p => decide (val (mvB false g.2) (kRest g p) = 0)) (List.range g.1)
    have h2 : (kMoves g (List.range g.1)).length ≤ (List.range g.1).length := this
    omega
  refine ⟨_, .cell List.mem_cons_self, ?_⟩
  refine db_drop 1 ?_
  refine db_cons <| ds_if <| dt_not <| dt_val <| de_pu V.same hr <| da_cons <| de_pu V.km hr <| da_cons <| nm 3 rfl <| da_nil <| da_pu g rfl hg <| da_cons <| nm 7 rfl <| da_nil <| da_pu _ rfl (same_natL 2 hml) ⟨_, rfl, waysF rfl <| db_nil ?_⟩
  refine db_cons <| ds_set 9 <| de_lstC <| da_nil ⟨[], rfl, z0, fun q => ?_⟩
  refine db_cons <| ds_for <| di_range1 V.ra <| da_cons <| de_len V.le <| de_ix ix_seq <| nm 3 rfl <| de_int <| r2_ix (.tup _) (d := .tuple (edL g.2)) rfl ⟨edL g.2, .tup _, da_nil ⟨_, rfl, by rw [List.length_map]; omega, by rw [List.length_map]; omega, fun i M' ρ' => ∃ kn3 s10' s11', M' = (q, MC.lst (natL (eMoves g i))) :: (e, .dn (NDic P w e) kn3) :: (m, .dn (NDic P w m) kn) :: M2 ∧ Known (mvE (adjN g.2)) g.1 kn3 ∧ ρ' = [s0, .v (.ref bx), s2, .d (grD g), .d (.tuple (natL (List.range g.1))), .v (.ref m), .v (.ref e), .d (.tuple (natL (kMoves g (List.range g.1)))), s8, .v (.ref q), s10', s11', s12, s13, s14, s15, s16, s17, s18, s19, s20, s21, s22, s23], ⟨kn2, _, _, rfl, hk2, rfl⟩, fun _ _ _ _ => trivial, ?_, ?_⟩⟩
  · rintro i d M' ρ' hd ⟨kn3, s10', s11', rfl, hk3, rfl⟩
    obtain ⟨hi, rfl⟩ := rngD_get hd
    rw [List.length_map, Int.toNat_natCast] at hi
    rw [Int.zero_add]
    obtain ⟨⟨x, y⟩, he⟩ : ∃ z, g.2[i]? = some z := ⟨g.2[i], by simp [hi]⟩
    have hat : atI (edL g.2) (i : Int) = some (edD (x, y)) := atI_at (by omega) (by rw [Int.toNat_natCast, List.getElem?_map, he]; rfl)
    have hml : (eMoves g i).length ≤ i := by
      have := filLe (fun k => decide (val (mvB true g.2) (eRest' g (g.2.getD k (0, 0))) = 0)) (List.range i)
      rw [List.length_range] at this
      exact this
    have e1 : eMoves g (i + 1) = eMoves g i ++ if val (mvB true g.2) (eRest' g (x, y)) = 0 then [i] else [] := by
      have e2 : g.2.getD i (0, 0) = (x, y) := by rw [List.getD_eq_getElem?_getD, he]; rfl
      unfold eMoves
      rw [List.range_succ, List.filter_append]
      congr 1
      rw [List.filter_cons, e2]
      by_cases z : val (mvB true g.2) (eRest' g (x, y)) = 0 <;> simp [z]
    have hup : Up g.1 (eRest' g (x, y)) := (Up.range _).filter _
    have hup2 := hup.len
    refine dg_name 10 ?_
    refine db_cons <| ds_set 11 <| de_tupleOf V.tu <| de_filN 8 (fun z => !decide (z ∈ [x, y])) <| di_tup <| nm 4 rfl ⟨_, rfl, List.range g.1, rfl, by omega, fun _ _ _ => trivial, ?_, fun D => ⟨_, .cell List.mem_cons_self, db_drop 1 ?_⟩⟩
    · intro z D acc hz b
      exact dt_cmp op_notIn_seq <| nm 8 rfl <| de_ix ix_seq <| de_ix ix_seq <| nm 3 rfl <| de_int <| r2_ix (.tup _) (d := .tuple (edL g.2)) rfl <| nm 10 rfl <| r2_ix (.tup _) hat <| r2_tni (S := [x, y]) (.tup _) ⟨rfl, rfl⟩
    refine db_cons <| ds_if <| dt_cmp op_eq <| de_goX 1 1 V.lev hr <| da_cons <| nm 3 rfl <| da_cons <| nm 11 rfl <| da_cons <| nm 6 rfl <| da_nil ⟨g.1, g.2, eRest' g (x, y), e, kn3, rfl, rfl, hgn, hge', hup, by omega, hk3, fun kn4 hk4 => ⟨trivial, de_int <| r2_teq (waysD (fun h => ?_) (fun h => ?_))⟩⟩
    · refine db_cons <| ds_expr <| de_append 0 <| nm 9 rfl ⟨q, _, rfl, List.mem_cons_self, nm 10 rfl ⟨_, _, rfl, rfl, ?_, db_nil <| db_nil ⟨kn4, .d (.int (i : Nat)), .d (.tuple (natL (eRest' g (x, y)))), ?_, hk4, rfl⟩⟩⟩
      · rw [natL_len]; omega
      · rw [e1, if_pos (show val (mvB true g.2) (eRest' g (x, y)) = 0 from Int.ofNat_eq_zero.mp h), natL_app]
        rfl
    · refine db_nil <| db_nil ⟨kn4, .d (.int (i : Nat)), .d (.tuple (natL (eRest' g (x, y)))), ?_, hk4, rfl⟩
      rw [e1, if_neg (show ¬ val (mvB true g.2) (eRest' g (x, y)) = 0 from fun z => h (Int.ofNat_eq_zero.mpr z)), List.append_nil]
      rfl
  rintro M' ρ' ⟨kn3, s10', s11', rfl, hk3, rfl⟩
  rw [rngD_len, Int.toNat_natCast, List.length_map]
  have hml2 : (eMoves g g.2.length).length ≤ 100000 := by
    have := filLe (fun k => decide (val (mvB true g.2) (eRest' g (g.2.getD k (0, 0))) = 0)) (List.range g.2.length)
    rw [List.length_range] at this
    have h2 : (eMoves g g.2.length).length ≤ g.2.length := this
    omega
  refine db_cons <| ds_if <| dt_not <| dt_val <| de_pu V.same hr <| da_cons <| de_pu V.ekm hr <| da_cons <| nm 3 rfl <| da_nil <| da_pu g rfl hg <| da_cons <| de_tupleOf V.tu <| nm 9 rfl ⟨_, .cell List.mem_cons_self, da_nil <| da_pu _ rfl (same_natL 2 hml2) ⟨_, rfl, waysF rfl <| db_nil ?_⟩⟩
  exact db_drop 3 <| h M2 _ _ _ _ _ _ _ _ hb2
end
end H78
set_option maxHeartbeats 4000000
namespace H78
open PySem PySem.Spec PyProof.Rows L2 DL KY
theorem pw_nd {es : Ed} (p : es.Pairwise (fun p q => p.1 < q.1 ∨ (p.1 = q.1 ∧ p.2 < q.2))) : es.Nodup := p.imp fun {a b} h e => by
  subst e
  omega
theorem shift_nd {es : Ed} (n : Nat) (h : es.Nodup) : (shift es n).Nodup := by
  unfold shift
  refine List.pairwise_map.mpr (h.imp fun {a b} h e => h ?_)
  have e1 := congrArg Prod.fst e
  have e2 := congrArg Prod.snd e
  simp at e1 e2
  exact Prod.ext e1 e2
theorem side_ok {g h : Nat × Ed} (hg : GOk g) (hh : GOk h) (hn : g.1 + h.1 ≤ 14) {T : Ed} (p : T.Perm (g.2 ++ shift h.2 g.1)) : GOk (g.1 + h.1, T) ∧ ∀ b, wholeV b (g.1 + h.1, T) = wholeV b g ^^^ wholeV b h := by
  have hm : ∀ e, e ∈ T ↔ e ∈ g.2 ∨ e ∈ shift h.2 g.1 := fun e => p.mem_iff.trans List.mem_append
  refine ⟨gok_nd hn (p.nodup_iff.mpr (List.nodup_append.mpr ⟨hg.nd, shift_nd _ hh.nd, fun a ha b hb e => ?_⟩)) fun e he => ?_, fun b => side_val (fun e he => ⟨by have := hg.up e he; omega, (hg.up e he).2⟩) hm⟩
  · subst e
    have h1 := hg.up a ha
    have h2 := (mem_shift (p := a.1) (q := a.2)).mp hb
    omega
  · rcases (hm e).mp he with he | he
    · have h1 := hg.up e he
      exact ⟨h1.1, by show e.2 < g.1 + h.1; omega⟩
    · obtain ⟨h1, h2, h3⟩ := (mem_shift (p := e.1) (q := e.2)).mp he
      have h4 := hh.up _ h3
      simp at h4
      exact ⟨by omega, by show e.2 < g.1 + h.1; omega⟩
theorem half_ok {g : Nat × Ed} (hg : GOk g) (hn : g.1 + g.1 ≤ 14) (t : Nat) {T : Ed} (nd : T.Nodup) (hm : ∀ e, e ∈ T ↔ e ∈ g.2 ++ shift g.2 g.1 ++ bridged t g.1) : GOk (g.1 + g.1, T) ∧ wholeV false (g.1 + g.1, T) = 0 := by
  have hm : ∀ e, e ∈ T ↔ e ∈ g.2 ∨ e ∈ shift g.2 g.1 ∨ e ∈ bridged t g.1 := fun e => (hm e).trans (by rw [List.mem_append, List.mem_append, or_assoc])
  refine ⟨gok_nd hn nd fun e he => ?_, half_val (t := t) hg.up hm⟩
  rcases (hm e).mp he with he | he | he
  · have h1 := hg.up e he
    exact ⟨h1.1, by show e.2 < g.1 + g.1; omega⟩
  · obtain ⟨h1, h2, h3⟩ := (mem_shift (p := e.1) (q := e.2)).mp he
    have h4 := hg.up _ h3
    simp at h4
    exact ⟨by omega, by show e.2 < g.1 + g.1; omega⟩
  · have h1 := (mem_bridged (p := e.1) (q := e.2)).mp he
    exact ⟨by omega, h1.2.2.1⟩
theorem bridged_len (t n : Nat) : (bridged t n).length ≤ n * n := by
  unfold bridged
  rw [List.length_flatten, List.map_map]
  have : ∀ l : List Nat, (l.map (List.length ∘ fun i => ((List.range n).filter fun j => brg t n i j).map fun j => (i, n + j))).sum ≤ l.length * n := fun l => by
    induction l with
    | nil => simp
    | cons i l ih =>
      rw [List.map_cons, List.sum_cons, List.length_cons, Nat.succ_mul]
      have h1 : (List.length ∘ fun i => ((List.range n).filter fun j => brg t n i j).map fun j => (i, n + j)) i ≤ n := by
        show (List.map _ _).length ≤ n
        rw [List.length_map]
        have := List.length_filter_le (fun j => brg t n i j) (List.range n)
        rwa [List.length_range] at this
      omega
  have := this (List.range n)
  rwa [List.length_range] at this
section
variable {P : Program} {w : World} {K : PySem.W.Frag} {mg : Str → Option Value} {base : Heap} {f : Addr} {fd : FuncData}
variable {cdv : Value} {A : Around} {outer : List Env} {s : Shared} {H : Hp} {E : XK} {k : Nat} {B0 F0 : Hp} {bx cs : Addr}
/-- two graphs side by side -/
theorem w_two (V : Env78 P w K mg base k) (hr : Room k (LX P w K mg base f cdv A outer s H E).A) (nd : NL.Nodup) {M : Cs} {κ : List Sl} {kk : KK} {ss : List Stmt} {s0 s2 s3 s4 s5 s6 s7 s8 s9 s10 s11 s12 s13 s14 s15 s16 s17 s18 s19 s20 s21 s22 s23 : Sl} (hb : Box bx cs M)
    (h : ∀ M' g s13' s14', GOk g → g.1 ≤ 5 → Box bx cs M' → DB (LX P w K mg base f cdv A outer s H E) B0 F0 M' [s0, .v (.ref bx), s2, s3, s4, s5, s6, s7, s8, s9, s10, s11, .d (grD g), s13', s14', s15, s16, s17, s18, s19, s20, s21, s22, s23] κ ss kk) :
    DB (LX P w K mg base f cdv A outer s H E) B0 F0 M [s0, .v (.ref bx), s2, s3, s4, s5, s6, s7, s8, s9, s10, s11, s12, s13, s14, s15, s16, s17, s18, s19, s20, s21, s22, s23] κ ((loopBody.drop 8).take 3 ++ ss) kk := by
  refine db_cons <| ds_par 12 13 <| da_cons <| de_goJ 0 (V.graph bx cs) hr <| da_cons <| nm 1 rfl <| da_cons <| de_int <| da_cons <| de_int <| da_nil ⟨5, 3, rfl, by decide, by decide, hb, fun g M1 hg1 hg5 hgo hgp hb1 => ⟨trivial, da_cons <| de_goJ 0 (V.graph bx cs) hr <| da_cons <| nm 1 rfl <| da_cons <| de_int <| da_cons <| de_int <| da_nil ⟨5, 3, rfl, by decide, by decide, hb1, fun h2 M2 hh1 hh5 hho hhp hb2 => ⟨trivial, da_nil ⟨_, _, rfl, ?_⟩⟩⟩⟩⟩
  have hg : GOk g := gok_of (by omega) hgo hgp
  have hh : GOk h2 := gok_of (by omega) hho hhp
  have hgl := gok_len hg
  have hhl := gok_len hh
  have hsl : (shift h2.2 g.1).length ≤ 196 := by unfold shift; rw [List.length_map]; exact hhl
  refine db_cons <| ds_set 14 <| de_tup <| da_cons <| de_op op_add <| de_ix ix_seq <| nm 12 rfl <| de_int <| r2_ix (.tup _) (d := .int (g.1 : Nat)) rfl <| de_ix ix_seq <| nm 13 rfl <| de_int <| r2_ix (.tup _) (d := .int (h2.1 : Nat)) rfl <| r2_i <| da_cons <| de_tupleOf V.tu <| de_sortedTu hr.units V.so <| de_op op_catA <| de_ix ix_seq <| nm 12 rfl <| de_int <| r2_ix (.tup _) (d := .tuple (edL g.2)) rfl <| de_pu V.moved hr <| da_cons <| nm 13 rfl <| da_cons <| de_ix ix_seq <| nm 12 rfl <| de_int <| r2_ix (.tup _) (d := .int (g.1 : Nat)) rfl <| da_nil <| da_pu (h2, g.1) rfl hh.e <| r2_catT ?_ ⟨edL (g.2 ++ shift h2.2 g.1), ?_, alike_pr, sortable_pr, ?_, depth_pr, fun l => ⟨_, .cell List.mem_cons_self, da_nil ⟨[_, _], rfl, z2, ?_⟩⟩⟩
  · rw [List.length_map, List.length_map]
    show g.2.length + (shift h2.2 g.1).length ≤ 100000
    omega
  · show Sl.d (.tuple (edL g.2 ++ edL (shift h2.2 g.1))) = _
    rw [show edL (g.2 ++ shift h2.2 g.1) = edL g.2 ++ edL (shift h2.2 g.1) from List.map_append]
  · rw [List.length_map, List.length_append]; omega
  obtain ⟨T, e1, e2, _⟩ := sort_pr (g.2 ++ shift h2.2 g.1)
  have e1 : sortD (edL (g.2 ++ shift h2.2 g.1)) = edL T := e1
  rw [e1, show ((g.1 : Int) + (h2.1 : Int)) = ((g.1 + h2.1 : Nat) : Int) by omega]
  obtain ⟨hT, hV⟩ := side_ok hg hh (by omega) e2
  have hV1 : ∀ b, Builtin.bitXor ((wholeV b g : Nat) : Int) ((wholeV b h2 : Nat) : Int) = ((wholeV b (g.1 + h2.1, T) : Nat) : Int) := fun b => by rw [xor_nat, hV]
  refine db_drop 1 ?_
  refine db_cons <| ds_if <| dt_w <| dw_orP <| dt_not <| dt_val <| de_pu V.same hr <| da_cons <| de_pu V.kv hr <| da_cons <| nm 14 rfl <| da_nil <| da_pu (g.1 + h2.1, T) rfl hT <| da_cons <| de_op op_xor <| de_pu V.kv hr <| da_cons <| nm 12 rfl <| da_nil <| da_pu g rfl hg <| de_pu V.kv hr <| da_cons <| nm 13 rfl <| da_nil <| da_pu h2 rfl hh <| r2_i <| da_nil <| da_pu (.int (wholeV false (g.1 + h2.1, T) : Nat)) (by rw [hV1]) (same_int 3 _) ⟨true, rfl, false, fun _ => dw_or1 <| dt_not <| dt_val <| de_pu V.same hr <| da_cons <| de_pu V.ekv hr <| da_cons <| nm 14 rfl <| da_nil <| da_pu (g.1 + h2.1, T) rfl hT <| da_cons <| de_op op_xor <| de_pu V.ekv hr <| da_cons <| nm 12 rfl <| da_nil <| da_pu g rfl hg <| de_pu V.ekv hr <| da_cons <| nm 13 rfl <| da_nil <| da_pu h2 rfl hh <| r2_i <| da_nil <| da_pu (.int (wholeV true (g.1 + h2.1, T) : Nat)) (by rw [hV1]) (same_int 3 _) ⟨true, rfl, rfl, rfl⟩, waysF rfl <| db_nil ?_⟩
  exact h M2 g _ _ hg (by omega) hb2
theorem min_nat (i j : Nat) : (if ((j : Nat) : Int) < ((i : Nat) : Int) then ((j : Nat) : Int) else ((i : Nat) : Int)) = ((min i j : Nat) : Int) := by split <;> omega
theorem max_nat (i j : Nat) : (if ((j : Nat) : Int) > ((i : Nat) : Int) then ((j : Nat) : Int) else ((i : Nat) : Int)) = ((max i j : Nat) : Int) := by split <;> omega
/-- two like halves -/
theorem w_three (V : Env78 P w K mg base k) (hr : Room k (LX P w K mg base f cdv A outer s H E).A) (nd : NL.Nodup) {M : Cs} {κ : List Sl} {kk : KK} {ss : List Stmt} {t : Nat} {g : Nat × Ed} {s0 s1 s3 s4 s5 s6 s7 s8 s9 s10 s11 s13 s14 s15 s16 s17 s18 s19 s20 s21 s22 s23 : Sl} (hg : GOk g) (hg5 : g.1 ≤ 5)
    (h : ∀ s15' s16' s20', DB (LX P w K mg base f cdv A outer s H E) B0 F0 M [s0, s1, .d (.int (t : Nat)), s3, s4, s5, s6, s7, s8, s9, s10, s11, .d (grD g), s13, s14, s15', s16', s17, s18, s19, s20', s21, s22, s23] κ ss kk) :
    DB (LX P w K mg base f cdv A outer s H E) B0 F0 M [s0, s1, .d (.int (t : Nat)), s3, s4, s5, s6, s7, s8, s9, s10, s11, .d (grD g), s13, s14, s15, s16, s17, s18, s19, s20, s21, s22, s23] κ (loopBody.drop 11 ++ ss) kk := by
  have hgl := gok_len hg
  obtain ⟨n, es⟩ := g
  have hgl : es.length ≤ 196 := hgl
  have hsl : (shift es n).length ≤ 196 := by unfold shift; rw [List.length_map]; exact hgl
  have hn5 : n ≤ 5 := hg5
  have hbl := bridged_len t n
  have hbl2 : n * n ≤ 5 * 5 := Nat.mul_le_mul hn5 hn5
  refine db_cons <| ds_set 15 <| de_ix ix_seq <| nm 12 rfl <| de_int <| r2_ix (.tup _) (d := .int (n : Nat)) rfl ?_
  refine db_cons <| ds_set 16 <| de_pu V.flat hr <| da_cons <| de_freeze <| de_lcF 17 (fun d => .list (edL (((List.range n).filter fun j => brg t n (natOf d) j).map fun j => (natOf d, n + j)))) <| di_range1 V.ra <| da_cons <| nm 15 rfl <| da_nil ⟨_, rfl, by omega, by omega, by rw [rngD_len]; omega, fun _ _ _ => trivial, ?_, fun D => ⟨D, _, _, rfl, rfl, da_nil <| da_pu ((List.range n).map fun i => edL (((List.range n).filter fun j => brg t n i j).map fun j => (i, n + j))) ?_ ?_ ?_⟩⟩
  · intro d D acc hd b
    obtain ⟨i, hi, rfl⟩ := rngD_mem hd
    have hi : i < n := by omega
    rw [Int.zero_add]
    refine de_freeze <| de_lcIfF 18 (fun d => brg t n i (natOf d)) (fun d => edD (i, n + natOf d)) <| di_range1 V.ra <| da_cons <| nm 15 rfl <| da_nil ⟨_, rfl, by omega, by omega, by rw [rngD_len]; omega, fun _ _ _ => trivial, ?_, ?_, fun D2 => ⟨D2, _, _, rfl, rfl, ?_, rfl⟩⟩
    · intro d D2 acc2 hd2 b2
      obtain ⟨j, hj, rfl⟩ := rngD_mem hd2
      have hj : j < n := by omega
      rw [Int.zero_add]
      refine dt_w <| dw_andP <| dt_cmp op_ne <| nm 17 rfl <| nm 18 rfl <| r2_tneN ⟨decide ((((min i j + 2 * max i j + t) / 3 * 3 : Nat) : Int) = ((min i j + 2 * max i j + t : Nat) : Int)), fun _ => dw_and1 <| dt_cmp op_eq <| de_op op_mul <| de_op op_fdivW <| de_op op_add <| de_op op_add <| de_callB (call_min2 rfl) V.mi bt_min <| da_cons <| nm 17 rfl <| da_cons <| nm 18 rfl <| da_nil <| rn_min2 <| de_op op_mul <| de_int <| de_callB (call_max2 rfl) V.ma bt_max <| da_cons <| nm 17 rfl <| da_cons <| nm 18 rfl <| da_nil <| rn_max2 <| r2_c (cmulF _ (by decide)) <| r2_i <| nm 2 rfl <| r2_i <| de_int <| r2_c ⟨by decide, by decide⟩ <| de_int <| r2_c (cmulL _ (by decide)) <| de_op op_add <| de_op op_add <| de_callB (call_min2 rfl) V.mi bt_min <| da_cons <| nm 17 rfl <| da_cons <| nm 18 rfl <| da_nil <| rn_min2 <| de_op op_mul <| de_int <| de_callB (call_max2 rfl) V.ma bt_max <| da_cons <| nm 17 rfl <| da_cons <| nm 18 rfl <| da_nil <| rn_max2 <| r2_c (cmulF _ (by decide)) <| r2_i <| nm 2 rfl <| r2_i <| r2_teq ⟨?_, rfl⟩, ?_, rfl⟩
      · rw [min_nat, max_nat]
        congr 1
      · show _ = brg t n i j
        unfold brg
        congr 1
        · rw [Bool.eq_iff_iff]; simp
        · exact decide_eq_decide.mpr (by omega)
    · intro d D2 acc2 hd2 _ b2
      obtain ⟨j, hj, rfl⟩ := rngD_mem hd2
      rw [Int.zero_add]
      exact de_tup <| da_cons <| nm 17 rfl <| da_cons <| de_op op_add <| nm 15 rfl <| nm 18 rfl <| r2_i <| da_nil ⟨[_, _], rfl, z2, rfl, rfl⟩
    · congr 2
      rw [Int.toNat_natCast, rng0, natL_filter (t := fun j => brg t n i j) fun q _ => rfl]
      show List.map _ (List.map _ _) = List.map _ (List.map _ _)
      rw [List.map_map, List.map_map]
      rfl
  · rw [Int.toNat_natCast, rng0]
    show [Sl.d (.list (List.map _ (List.map _ _)))] = [Sl.d (.list (List.map _ (List.map _ _)))]
    rw [List.map_map, List.map_map]
    rfl
  · rw [show ((List.range n).map fun i => edL (((List.range n).filter fun j => brg t n i j).map fun j => (i, n + j))).flatten = edL (bridged t n) by
      unfold bridged
      rw [show edL = List.map edD from rfl, List.map_flatten, List.map_map]
      rfl]
    rw [List.length_map]
    omega
  rw [show ((List.range n).map fun i => edL (((List.range n).filter fun j => brg t n i j).map fun j => (i, n + j))).flatten = edL (bridged t n) by
      unfold bridged
      rw [show edL = List.map edD from rfl, List.map_flatten, List.map_map]
      rfl]
  refine db_cons <| ds_set 20 <| de_tup <| da_cons <| de_op op_mul <| de_int <| nm 15 rfl <| r2_c (cmulF _ (by decide)) <| da_cons <| de_tupleOf V.tu <| de_sortedDN hr.units V.so <| de_dictN hr.units V.di <| de_lcF 19 (fun d => .tuple [d, .int 1]) <| di_list <| de_freeze <| de_op op_cat <| de_op op_cat <| de_listOf V.li <| de_ix ix_seq <| nm 12 rfl <| de_int <| r2_ix (.tup _) (d := .tuple (edL es)) rfl ⟨_, .tup _, fun l1 => de_listOf V.li <| de_pu V.moved hr <| da_cons <| nm 12 rfl <| da_cons <| nm 15 rfl <| da_nil <| da_pu ((n, es), n) rfl hg.e ⟨_, .tup _, fun l2 => r2_catC (.cell (List.mem_cons_of_mem _ List.mem_cons_self)) (.cell List.mem_cons_self) ?_ fun l3 => nm 16 rfl <| r2_catC (.cell List.mem_cons_self) (.lst _) ?_ fun l4 => ⟨l4, _, _, rfl, rfl, _, rfl, ?_, fun _ _ _ => trivial, ?_, fun D => ?_⟩⟩⟩
  · rw [List.length_map, List.length_map]
    show es.length + (shift es n).length ≤ 100000
    omega
  · rw [List.length_append, List.length_map, List.length_map, List.length_map]
    show es.length + (shift es n).length + _ ≤ 100000
    omega
  · rw [List.length_append, List.length_append, List.length_map, List.length_map, List.length_map]
    show es.length + (shift es n).length + _ ≤ 100000
    omega
  · intro d D acc hd b
    exact de_tup <| da_cons <| nm 19 rfl <| da_cons <| de_int <| da_nil ⟨[_, _], rfl, z2, rfl, rfl⟩
  obtain ⟨L, T, e1, e2, e3, e4, e5⟩ := dict_pr (es ++ shift es n ++ bridged t n) (.int 1)
  have e6 : (edL es ++ edL (shift es n) ++ edL (bridged t n)).map (fun d => PyData.tuple [d, .int 1]) = ((es ++ shift es n ++ bridged t n).map fun e => (keyP e, PyData.int 1)).map fun e => .tuple [e.1.data, e.2] := by
    rw [List.map_map, show edL es ++ edL (shift es n) ++ edL (bridged t n) = edL (es ++ shift es n ++ bridged t n) by simp [List.map_append], List.map_map]
    refine List.map_congr_left fun e _ => ?_
    show PyData.tuple [edD e, _] = .tuple [(keyP e).data, _]
    rw [keyP_data]
    rfl
  refine ⟨(es ++ shift es n ++ bridged t n).map fun e => (keyP e, PyData.int 1), ?_, fun e he => ?_, ?_, fun p => ⟨p, _, rfl, List.mem_cons_self, ?_, ?_, ?_, fun l => ⟨_, .cell List.mem_cons_self, da_nil ⟨[_, _], rfl, z2, ?_⟩⟩⟩⟩
  · rw [← e6]
    exact .cell List.mem_cons_self
  · obtain ⟨q, _, rfl⟩ := List.mem_map.mp he
    exact ⟨keyP_depth q, _, rfl⟩
  · rw [List.length_map, List.length_append, List.length_append]
    omega
  · rw [e1]; exact alike_pr
  · rw [e1]; exact sortable_pr
  · intro e he
    have : e.1.data ∈ L.map epD := by
      rw [← e1]
      exact List.mem_map.mpr ⟨e, he, rfl⟩
    exact depth_pr _ this
  rw [e1, e2, show ((2 : Int) * (n : Int)) = ((n + n : Nat) : Int) by omega]
  obtain ⟨hT, hV⟩ := half_ok hg (by show n + n ≤ 14; omega) t e3 e4
  have hV : wholeV false (n + n, T) = 0 := hV
  have hT : GOk (n + n, T) := hT
  have hM : kMoves (n + n, T) (List.range (n + n)) = [] := half_moves hV
  refine db_drop 6 ?_
  refine db_cons <| ds_if <| dt_w <| dw_orP <| dt_not <| dt_val <| de_pu V.same hr <| da_cons <| de_pu V.kv hr <| da_cons <| nm 20 rfl <| da_nil <| da_pu (n + n, T) rfl hT <| da_cons <| de_int <| da_nil <| da_pu (.int 0) (by rw [hV]; rfl) (same_int 3 _) ⟨true, rfl, false, fun _ => dw_or1 <| dt_cmp (op_neD hr.units) <| de_pu V.km hr <| da_cons <| nm 20 rfl <| da_nil <| da_pu (n + n, T) rfl hT <| de_tup <| da_nil ⟨[], rfl, z0, r2_neD ?_ ?_ ⟨_, rfl, ?_, rfl⟩⟩, waysF rfl <| db_nil ?_⟩
  · rw [hM]; rfl
  · rfl
  · rw [hM]; rfl
  · exact h _ _ _
end
end H78
set_option maxHeartbeats 4000000
namespace H78
open PySem PySem.Spec PyProof.Rows L2 DL KY
theorem line_ok {n : Nat} (h : n ≤ 12) : GOk (n, lineE n) := gok_nd (by omega) (by
    unfold lineE
    exact List.pairwise_map.mpr (List.pairwise_lt_range.imp fun h e => by have := congrArg Prod.fst e; simp at this; omega)) fun e he => by
  obtain ⟨k, hk, rfl⟩ := List.mem_map.mp he
  have := List.mem_range.mp hk
  exact ⟨by show k < k + 1; omega, by show k + 1 < n; omega⟩
section
variable {P : Program} {w : World} {K : PySem.W.Frag} {mg : Str → Option Value} {base : Heap} {f : Addr} {fd : FuncData}
theorem ok_law {k : Nat} (Fn : FnP K "law" s_law f fd) (V : Env78 P w K mg base k) : FnOk P w K mg base CX0 (k + 1) f fd ["script"] (SpG K R_law) := by
  refine fn_okD Fn sc_law (fun κ M W h => ?_) fun cdv A outer s H E hr nd B0 F0 κ M W hR => ?_
  · obtain ⟨ns, _, rfl, _⟩ := h
    rfl
  · obtain ⟨ns, hl, rfl, rfl, hW⟩ := hR
    refine db_cons <| ds_set 1 <| de_goJ 0 V.box hr <| da_cons <| nm 0 rfl <| da_nil ⟨ns, hl, rfl, rfl, fun bx cs M1 hb => ⟨trivial, ?_⟩⟩
    refine db_cons <| ds_for <| di_range1 V.ra <| da_cons <| de_int <| da_nil ⟨3, rfl, by decide, by decide, fun i M' ρ' => Box bx cs M' ∧ ∃ s2 s3 s4 s5 s6 s7 s9 s10 s11 s12 s13 s14 s15 s16 s20, ρ' = [.rd (iL ns), .v (.ref bx), s2, s3, s4, s5, s6, s7, .un, s9, s10, s11, s12, s13, s14, s15, s16, .un, .un, .un, s20, .un, .un, .un], ⟨hb, _, _, _, _, _, _, _, _, _, _, _, _, _, _, _, rfl⟩, fun _ _ _ _ => trivial, ?_, ?_⟩
    · rintro i d M' ρ' hd ⟨hb', s2, s3, s4, s5, s6, s7, s9, s10, s11, s12, s13, s14, s15, s16, s20, rfl⟩
      obtain ⟨hi, rfl⟩ := rngD_get hd
      rw [Int.zero_add]
      refine dg_name 2 ?_
      exact w_one (ss := loopBody.drop 8) V hr nd hb' fun M2 s3' s4' s5' s6' s7' s9' s10' s11' hb2 => w_two (ss := loopBody.drop 11) V hr nd hb2 fun M3 g s13' s14' hg hg5 hb3 => w_three (ss := []) V hr nd hg hg5 fun s15' s16' s20' => db_nil ⟨hb3, _, _, _, _, _, _, _, _, _, _, _, _, _, _, _, rfl⟩
    · rintro M' ρ' ⟨hb', s2, s3, s4, s5, s6, s7, s9, s10, s11, s12, s13, s14, s15, s16, s20, rfl⟩
      refine db_cons <| ds_set 15 <| de_op op_add <| de_int <| de_goJ 0 (V.draw bx cs) hr <| da_cons <| nm 1 rfl <| da_cons <| de_int <| da_nil ⟨12, rfl, hb', by decide, by decide, fun m M1 hm0 hm1 hb1 => ⟨trivial, r2_i ?_⟩⟩
      obtain ⟨n, hn⟩ : ∃ n : Nat, 1 + m = (n : Int) := ⟨(1 + m).toNat, by omega⟩
      rw [hn]
      have hn12 : n ≤ 12 ∧ 1 ≤ n := by omega
      clear hn hm0 hm1
      have hL := line_ok hn12.1
      obtain ⟨l1, l2⟩ := rowsTo_len 12
      refine db_cons <| ds_set 21 <| de_tup <| da_cons <| nm 15 rfl <| da_cons <| de_tupleOf V.tu <| de_lcF 10 (fun d => edD (natOf d, natOf d + 1)) <| di_range1 V.ra <| da_cons <| de_op op_sub <| nm 15 rfl <| de_int <| r2_i <| da_nil ⟨_, rfl, by omega, by omega, by rw [rngD_len]; omega, fun _ _ _ => trivial, ?_, fun D => ⟨_, .cell List.mem_cons_self, da_nil ⟨[_, _], rfl, z2, ?_⟩⟩⟩
      · intro d D acc hd b
        obtain ⟨i, hi, rfl⟩ := rngD_mem hd
        rw [Int.zero_add]
        exact de_tup <| da_cons <| nm 10 rfl <| da_cons <| de_op op_add <| nm 10 rfl <| de_int <| r2_i <| da_nil ⟨[_, _], rfl, z2, rfl, rfl⟩
      rw [show (rngD 0 ((n : Int) - 1).toNat).map (fun d => edD (natOf d, natOf d + 1)) = edL (lineE n) by
        rw [show ((n : Int) - 1).toNat = n - 1 by omega, rng0]
        unfold lineE natL
        rw [List.map_map]
        show _ = List.map edD (List.map _ _)
        rw [List.map_map]
        rfl]
      refine db_cons <| ds_asg <| de_pu V.lines hr <| da_cons <| de_int <| da_nil <| da_pu 12 rfl (by decide) <| dg_tup rfl <| dgs_cons <| dg_name 22 <| dgs_cons <| dg_name 23 <| dgs_nil ?_
      refine db_cons <| ds_if <| dt_not <| dt_val <| de_pu V.same hr <| da_cons <| de_tup <| da_cons <| de_pu V.kv hr <| da_cons <| nm 21 rfl <| da_nil <| da_pu (n, lineE n) rfl hL <| da_cons <| de_pu V.ekv hr <| da_cons <| nm 21 rfl <| da_nil <| da_pu (n, lineE n) rfl hL <| da_nil ⟨[_, _], rfl, z2, da_cons <| de_tup <| da_cons <| de_ix ix_seq <| nm 22 rfl <| nm 15 rfl <| r2_ix (.lst _) (at0_at (by omega)) <| da_cons <| de_ix ix_seq <| nm 23 rfl <| nm 15 rfl <| r2_ix (.lst _) (at0_at (by omega)) <| da_nil ⟨[_, _], rfl, z2, da_nil <| da_pu (.tuple [.int (wholeV false (n, lineE n) : Nat), .int (wholeV true (n, lineE n) : Nat)]) (by rw [row_V hn12.1, row_E hn12.1]) (same_two 2 _ _) ⟨_, rfl, waysF rfl <| db_nil ?_⟩⟩⟩
      refine db_cons <| ds_ret <| de_and <| de_pu V.same hr <| da_cons <| de_pu V.cvs hr <| da_cons <| de_tup <| da_cons <| de_int <| da_cons <| de_int <| da_cons <| de_int <| da_nil ⟨[_, _, _], rfl, z3, da_cons <| de_int <| da_nil <| da_pu ([1, 3, 7], 12) rfl ⟨by decide, by decide, by decide⟩ <| da_cons <| de_tupleOf V.tu <| nm 22 rfl ⟨_, .lst _, da_nil <| da_pu (.tuple (natL (rowsTo 12).1)) ?_ (same_natL 2 (by omega)) ⟨_, rfl, waysT rfl ?_⟩⟩⟩
      · show [Sl.d (.tuple (natL (codeTo [1, 3, 7] 13))), _] = _
        rw [code_V]
      refine de_one <| de_pu V.same hr <| da_cons <| de_pu V.cvs hr <| da_cons <| de_tup <| da_cons <| de_int <| da_cons <| de_int <| da_nil ⟨[_, _], rfl, z2, da_cons <| de_int <| da_nil <| da_pu ([0, 7], 12) rfl ⟨by decide, by decide, by decide⟩ <| da_cons <| de_tupleOf V.tu <| nm 23 rfl ⟨_, .lst _, da_nil <| da_pu (.tuple (natL (rowsTo 12).2)) ?_ (same_natL 2 (by omega)) ?_⟩⟩
      · show [Sl.d (.tuple (natL (codeTo [0, 7] 13))), _] = _
        rw [code_E]
      · exact hW _
theorem go_lv (Fn : FnP K "_law_value" s__law_value f fd) (gm : mg "_law_value" = some (.ref f)) (Gr : ∀ j, Go P w K mg base "_law_rest" (j + 2) ["graph", "places_left", "place"] R_rest) (Gm : ∀ j, Go P w K mg base "_law_missing" (j + 1) ["worths"] R_lmi) : ∀ L k : Nat, Go P w K mg base "_law_value" (k + 3 + L) ["graph", "places_left", "met"] (R_mem P w (fun es => mvV (adjN es)) L)
  | 0, k => go_of Fn gm (fun _ _ _ _ _ _ us hl => match us, hl with | [_, _, _], _ => rfl) (ok_lv1 (k := k + 2) Fn (fun L' h => by omega) (Gr k) (Gm (k + 1)))
  | L + 1, k => by
    have e0 : k + 3 + (L + 1) = k + 3 + L + 1 := by omega
    rw [e0]
    refine go_of Fn gm (fun _ _ _ _ _ _ us hl => match us, hl with | [_, _, _], _ => rfl) (ok_lv1 Fn (fun L' h => ?_) ?_ ?_)
    · have : L = L' := by omega
      subst this
      exact go_lv Fn gm Gr Gm L k
    · have := Gr (k + 1 + L)
      rwa [show k + 1 + L + 2 = k + 3 + L by omega] at this
    · have := Gm (k + 2 + L)
      rwa [show k + 2 + L + 1 = k + 3 + L by omega] at this
theorem go_lev (Fn : FnP K "_law_edge_value" s__law_edge_value f fd) (gm : mg "_law_edge_value" = some (.ref f)) (Gm : ∀ j, Go P w K mg base "_law_missing" (j + 1) ["worths"] R_lmi) (g_tu : mg "tuple" = none) : ∀ L k : Nat, Go P w K mg base "_law_edge_value" (k + 3 + L) ["graph", "places_left", "met"] (R_mem P w (fun es => mvE (adjN es)) L)
  | 0, k => go_of Fn gm (fun _ _ _ _ _ _ us hl => match us, hl with | [_, _, _], _ => rfl) (ok_le1 (k := k + 2) Fn (fun L' h => by omega) (Gm (k + 1)) g_tu)
  | L + 1, k => by
    have e0 : k + 3 + (L + 1) = k + 3 + L + 1 := by omega
    rw [e0]
    refine go_of Fn gm (fun _ _ _ _ _ _ us hl => match us, hl with | [_, _, _], _ => rfl) (ok_le1 Fn (fun L' h => ?_) ?_ g_tu)
    · have : L = L' := by omega
      subst this
      exact go_lev Fn gm Gm g_tu L k
    · have := Gm (k + 2 + L)
      rwa [show k + 2 + L + 1 = k + 3 + L by omega] at this
end
end H78
set_option maxHeartbeats 0
namespace H78
open PySem PySem.Spec PyProof.Rows L2
def d_least_missing : He.DefD := ⟨("least_missing", none), "least_missing", "least_missing", defArgs s_least_missing, defBody s_least_missing, defScope s_least_missing, [], []⟩
def d_nexts_of : He.DefD := ⟨("nexts_of", none), "nexts_of", "nexts_of", defArgs s_nexts_of, defBody s_nexts_of, defScope s_nexts_of, [], []⟩
def d_pieces_of : He.DefD := ⟨("pieces_of", none), "pieces_of", "pieces_of", defArgs s_pieces_of, defBody s_pieces_of, defScope s_pieces_of, [], []⟩
def d_kayles_value : He.DefD := ⟨("kayles_value", none), "kayles_value", "kayles_value", defArgs s_kayles_value, defBody s_kayles_value, defScope s_kayles_value, [], []⟩
def d_edge_kayles_value : He.DefD := ⟨("edge_kayles_value", none), "edge_kayles_value", "edge_kayles_value", defArgs s_edge_kayles_value, defBody s_edge_kayles_value, defScope s_edge_kayles_value, [], []⟩
def d_kayles_moves : He.DefD := ⟨("kayles_moves", none), "kayles_moves", "kayles_moves", defArgs s_kayles_moves, defBody s_kayles_moves, defScope s_kayles_moves, [], []⟩
def d_edge_kayles_moves : He.DefD := ⟨("edge_kayles_moves", none), "edge_kayles_moves", "edge_kayles_moves", defArgs s_edge_kayles_moves, defBody s_edge_kayles_moves, defScope s_edge_kayles_moves, [], []⟩
def d_code_values : He.DefD := ⟨("code_values", none), "code_values", "code_values", defArgs s_code_values, defBody s_code_values, defScope s_code_values, [], []⟩
def d__law_flat : He.DefD := ⟨("_law_flat", none), "_law_flat", "_law_flat", defArgs s__law_flat, defBody s__law_flat, defScope s__law_flat, [], []⟩
def d__law_box : He.DefD := ⟨("_law_box", none), "_law_box", "_law_box", defArgs s__law_box, defBody s__law_box, defScope s__law_box, [], []⟩
def d__law_load : He.DefD := ⟨("_law_load", none), "_law_load", "_law_load", defArgs s__law_load, defBody s__law_load, defScope s__law_load, [], []⟩
def d__law_draw : He.DefD := ⟨("_law_draw", none), "_law_draw", "_law_draw", defArgs s__law_draw, defBody s__law_draw, defScope s__law_draw, [], []⟩
def d__law_same : He.DefD := ⟨("_law_same", none), "_law_same", "_law_same", defArgs s__law_same, defBody s__law_same, defScope s__law_same, [], []⟩
def d__law_graph : He.DefD := ⟨("_law_graph", none), "_law_graph", "_law_graph", defArgs s__law_graph, defBody s__law_graph, defScope s__law_graph, [], []⟩
def d__law_near : He.DefD := ⟨("_law_near", none), "_law_near", "_law_near", defArgs s__law_near, defBody s__law_near, defScope s__law_near, [], []⟩
def d__law_missing : He.DefD := ⟨("_law_missing", none), "_law_missing", "_law_missing", defArgs s__law_missing, defBody s__law_missing, defScope s__law_missing, [], []⟩
def d__law_rest : He.DefD := ⟨("_law_rest", none), "_law_rest", "_law_rest", defArgs s__law_rest, defBody s__law_rest, defScope s__law_rest, [], []⟩
def d__law_value : He.DefD := ⟨("_law_value", none), "_law_value", "_law_value", defArgs s__law_value, defBody s__law_value, defScope s__law_value, [], []⟩
def d__law_edge_value : He.DefD := ⟨("_law_edge_value", none), "_law_edge_value", "_law_edge_value", defArgs s__law_edge_value, defBody s__law_edge_value, defScope s__law_edge_value, [], []⟩
def d__law_lines : He.DefD := ⟨("_law_lines", none), "_law_lines", "_law_lines", defArgs s__law_lines, defBody s__law_lines, defScope s__law_lines, [], []⟩
def d__law_moved : He.DefD := ⟨("_law_moved", none), "_law_moved", "_law_moved", defArgs s__law_moved, defBody s__law_moved, defScope s__law_moved, [], []⟩
def d_law : He.DefD := ⟨("law", none), "law", "law", defArgs s_law, defBody s_law, defScope s_law, [], []⟩
def d_Kayles___init__ : He.DefD := ⟨("Kayles", some "__init__"), "__init__", "Kayles.__init__", defArgs s_Kayles___init__, defBody s_Kayles___init__, defScope s_Kayles___init__, [], []⟩
def d_Kayles_behind : He.DefD := ⟨("Kayles", some "behind"), "behind", "Kayles.behind", defArgs s_Kayles_behind, defBody s_Kayles_behind, defScope s_Kayles_behind, [], []⟩
def d_Kayles_value : He.DefD := ⟨("Kayles", some "value"), "value", "Kayles.value", defArgs s_Kayles_value, defBody s_Kayles_value, defScope s_Kayles_value, [], []⟩
def fn : List He.DefD := [d_least_missing, d_nexts_of, d_pieces_of, d_kayles_value, d_edge_kayles_value, d_kayles_moves, d_edge_kayles_moves, d_code_values, d__law_flat, d__law_box, d__law_load, d__law_draw, d__law_same, d__law_graph, d__law_near, d__law_missing, d__law_rest, d__law_value, d__law_edge_value, d__law_lines, d__law_moved, d_law, d_Kayles___init__, d_Kayles_behind, d_Kayles_value]
def fa : List He.Fa := [.glo "least_missing", .glo "nexts_of", .glo "pieces_of", .glo "kayles_value", .glo "edge_kayles_value", .glo "kayles_moves", .glo "edge_kayles_moves", .glo "code_values", .glo "_law_flat", .glo "_law_box", .glo "_law_load", .glo "_law_draw", .glo "_law_same", .glo "_law_graph", .glo "_law_near", .glo "_law_missing", .glo "_law_rest", .glo "_law_value", .glo "_law_edge_value", .glo "_law_lines", .glo "_law_moved", .glo "law", .glo "Kayles", .free "all", .free "bool", .free "dict", .free "enumerate", .free "int", .free "isinstance", .free "len", .free "list", .free "max", .free "min", .free "range", .free "sorted", .free "str", .free "tuple", .cls "Kayles", .mkr "Kayles", .meth "Kayles" "behind", .meth "Kayles" "value", .noat "Kayles" "by_edges", .noat "Kayles" "known", .noat "Kayles" "nexts"]
def ex (K : PySem.W.Frag) : Bool := true
abbrev R : PySem.W.OpenRow := PySem.W.OpenLaw.row PySem.Challenge.rw_cantmove_k78_whole_kayles
abbrev hk : PySem.W.Hook := DLHook.hookX 6 fa fn ex
def ob (s : PySem.W.SharedT) : DLHook.AlX := DLHook.obsX 6 fa fn ex (HandSHeadRun.getT s)
theorem ob_eq (s : PySem.W.SharedT) : ob s = hk.obs s.abs := DLHook.obsX_eq (HandSHeadRun.getT_eq s)
def loose : List PySem.Str := ["Kayles", "_law_box", "_law_draw", "_law_edge_value", "_law_flat", "_law_graph", "_law_lines", "_law_load", "_law_missing", "_law_moved", "_law_near", "_law_rest", "_law_same", "_law_value", "code_values", "edge_kayles_moves", "edge_kayles_value", "kayles_moves", "kayles_value", "least_missing", "nexts_of", "pieces_of"]
theorem run (w : World) : HandSHeadRun.RunEq R (PySem.W.view R.prog [27]) hk ob 4000 loose w := by
  intro os
  kernel_rfl
section
variable {K : PySem.W.Frag} {h : Heap} {mg : Str → Option Value}
theorem f_least_missing (c : He.SaysD fa fn K) : ∃ fd, DL.FnP K "least_missing" s_least_missing (He.fAd K ("least_missing", none)) fd := c.def_ 0 (d := d_least_missing) rfl
theorem f_nexts_of (c : He.SaysD fa fn K) : ∃ fd, DL.FnP K "nexts_of" s_nexts_of (He.fAd K ("nexts_of", none)) fd := c.def_ 1 (d := d_nexts_of) rfl
theorem f_pieces_of (c : He.SaysD fa fn K) : ∃ fd, DL.FnP K "pieces_of" s_pieces_of (He.fAd K ("pieces_of", none)) fd := c.def_ 2 (d := d_pieces_of) rfl
theorem f_kayles_value (c : He.SaysD fa fn K) : ∃ fd, DL.FnP K "kayles_value" s_kayles_value (He.fAd K ("kayles_value", none)) fd := c.def_ 3 (d := d_kayles_value) rfl
theorem f_edge_kayles_value (c : He.SaysD fa fn K) : ∃ fd, DL.FnP K "edge_kayles_value" s_edge_kayles_value (He.fAd K ("edge_kayles_value", none)) fd := c.def_ 4 (d := d_edge_kayles_value) rfl
theorem f_kayles_moves (c : He.SaysD fa fn K) : ∃ fd, DL.FnP K "kayles_moves" s_kayles_moves (He.fAd K ("kayles_moves", none)) fd := c.def_ 5 (d := d_kayles_moves) rfl
theorem f_edge_kayles_moves (c : He.SaysD fa fn K) : ∃ fd, DL.FnP K "edge_kayles_moves" s_edge_kayles_moves (He.fAd K ("edge_kayles_moves", none)) fd := c.def_ 6 (d := d_edge_kayles_moves) rfl
theorem f_code_values (c : He.SaysD fa fn K) : ∃ fd, DL.FnP K "code_values" s_code_values (He.fAd K ("code_values", none)) fd := c.def_ 7 (d := d_code_values) rfl
theorem f__law_flat (c : He.SaysD fa fn K) : ∃ fd, DL.FnP K "_law_flat" s__law_flat (He.fAd K ("_law_flat", none)) fd := c.def_ 8 (d := d__law_flat) rfl
theorem f__law_box (c : He.SaysD fa fn K) : ∃ fd, DL.FnP K "_law_box" s__law_box (He.fAd K ("_law_box", none)) fd := c.def_ 9 (d := d__law_box) rfl
theorem f__law_load (c : He.SaysD fa fn K) : ∃ fd, DL.FnP K "_law_load" s__law_load (He.fAd K ("_law_load", none)) fd := c.def_ 10 (d := d__law_load) rfl
theorem f__law_draw (c : He.SaysD fa fn K) : ∃ fd, DL.FnP K "_law_draw" s__law_draw (He.fAd K ("_law_draw", none)) fd := c.def_ 11 (d := d__law_draw) rfl
theorem f__law_same (c : He.SaysD fa fn K) : ∃ fd, DL.FnP K "_law_same" s__law_same (He.fAd K ("_law_same", none)) fd := c.def_ 12 (d := d__law_same) rfl
theorem f__law_graph (c : He.SaysD fa fn K) : ∃ fd, DL.FnP K "_law_graph" s__law_graph (He.fAd K ("_law_graph", none)) fd := c.def_ 13 (d := d__law_graph) rfl
theorem f__law_near (c : He.SaysD fa fn K) : ∃ fd, DL.FnP K "_law_near" s__law_near (He.fAd K ("_law_near", none)) fd := c.def_ 14 (d := d__law_near) rfl
theorem f__law_missing (c : He.SaysD fa fn K) : ∃ fd, DL.FnP K "_law_missing" s__law_missing (He.fAd K ("_law_missing", none)) fd := c.def_ 15 (d := d__law_missing) rfl
theorem f__law_rest (c : He.SaysD fa fn K) : ∃ fd, DL.FnP K "_law_rest" s__law_rest (He.fAd K ("_law_rest", none)) fd := c.def_ 16 (d := d__law_rest) rfl
theorem f__law_value (c : He.SaysD fa fn K) : ∃ fd, DL.FnP K "_law_value" s__law_value (He.fAd K ("_law_value", none)) fd := c.def_ 17 (d := d__law_value) rfl
theorem f__law_edge_value (c : He.SaysD fa fn K) : ∃ fd, DL.FnP K "_law_edge_value" s__law_edge_value (He.fAd K ("_law_edge_value", none)) fd := c.def_ 18 (d := d__law_edge_value) rfl
theorem f__law_lines (c : He.SaysD fa fn K) : ∃ fd, DL.FnP K "_law_lines" s__law_lines (He.fAd K ("_law_lines", none)) fd := c.def_ 19 (d := d__law_lines) rfl
theorem f__law_moved (c : He.SaysD fa fn K) : ∃ fd, DL.FnP K "_law_moved" s__law_moved (He.fAd K ("_law_moved", none)) fd := c.def_ 20 (d := d__law_moved) rfl
theorem f_law (c : He.SaysD fa fn K) : ∃ fd, DL.FnP K "law" s_law (He.fAd K ("law", none)) fd := c.def_ 21 (d := d_law) rfl
theorem f_Kayles___init__ (c : He.SaysD fa fn K) : ∃ fd, FunD K "__init__" "Kayles.__init__" (defArgs s_Kayles___init__) (defBody s_Kayles___init__) (defScope s_Kayles___init__) [] [] (He.fAd K ("Kayles", some "__init__")) fd := c.def_ 22 (d := d_Kayles___init__) rfl
theorem f_Kayles_behind (c : He.SaysD fa fn K) : ∃ fd, FunD K "behind" "Kayles.behind" (defArgs s_Kayles_behind) (defBody s_Kayles_behind) (defScope s_Kayles_behind) [] [] (He.fAd K ("Kayles", some "behind")) fd := c.def_ 23 (d := d_Kayles_behind) rfl
theorem f_Kayles_value (c : He.SaysD fa fn K) : ∃ fd, FunD K "value" "Kayles.value" (defArgs s_Kayles_value) (defBody s_Kayles_value) (defScope s_Kayles_value) [] [] (He.fAd K ("Kayles", some "value")) fd := c.def_ 24 (d := d_Kayles_value) rfl
theorem cls_Kayles (c : He.SaysD fa fn K) : Cls K (He.ga K "Kayles") := He.cls_ok (c.fact 37 (f := .cls "Kayles") rfl)
theorem mk_Kayles (c : He.SaysD fa fn K) : Mk K (He.ga K "Kayles") (He.ma K (He.ga K "Kayles") "__init__") := He.mkr_ok (c.fact 38 (f := .mkr "Kayles") rfl)
theorem meth_Kayles_behind (c : He.SaysD fa fn K) : Meth K (He.ga K "Kayles") "behind" (He.ma K (He.ga K "Kayles") "behind") := He.meth_ok (c.fact 39 (f := .meth "Kayles" "behind") rfl)
theorem meth_Kayles_value (c : He.SaysD fa fn K) : Meth K (He.ga K "Kayles") "value" (He.ma K (He.ga K "Kayles") "value") := He.meth_ok (c.fact 40 (f := .meth "Kayles" "value") rfl)
theorem noat_Kayles_by_edges (c : He.SaysD fa fn K) : NoAttr K (He.ga K "Kayles") "by_edges" := He.noat_ok (c.fact 41 (f := .noat "Kayles" "by_edges") rfl)
theorem noat_Kayles_known (c : He.SaysD fa fn K) : NoAttr K (He.ga K "Kayles") "known" := He.noat_ok (c.fact 42 (f := .noat "Kayles" "known") rfl)
theorem noat_Kayles_nexts (c : He.SaysD fa fn K) : NoAttr K (He.ga K "Kayles") "nexts" := He.noat_ok (c.fact 43 (f := .noat "Kayles" "nexts") rfl)
theorem g_least_missing (X : K.In h) (G : h.Ns mainGlobals mg) (c : He.SaysD fa fn K) : mg "least_missing" = some (.ref (He.ga K "least_missing")) := He.glo_ok X G (c.fact 0 (f := .glo "least_missing") rfl)
theorem g_nexts_of (X : K.In h) (G : h.Ns mainGlobals mg) (c : He.SaysD fa fn K) : mg "nexts_of" = some (.ref (He.ga K "nexts_of")) := He.glo_ok X G (c.fact 1 (f := .glo "nexts_of") rfl)
theorem g_pieces_of (X : K.In h) (G : h.Ns mainGlobals mg) (c : He.SaysD fa fn K) : mg "pieces_of" = some (.ref (He.ga K "pieces_of")) := He.glo_ok X G (c.fact 2 (f := .glo "pieces_of") rfl)
theorem g_kayles_value (X : K.In h) (G : h.Ns mainGlobals mg) (c : He.SaysD fa fn K) : mg "kayles_value" = some (.ref (He.ga K "kayles_value")) := He.glo_ok X G (c.fact 3 (f := .glo "kayles_value") rfl)
theorem g_edge_kayles_value (X : K.In h) (G : h.Ns mainGlobals mg) (c : He.SaysD fa fn K) : mg "edge_kayles_value" = some (.ref (He.ga K "edge_kayles_value")) := He.glo_ok X G (c.fact 4 (f := .glo "edge_kayles_value") rfl)
theorem g_kayles_moves (X : K.In h) (G : h.Ns mainGlobals mg) (c : He.SaysD fa fn K) : mg "kayles_moves" = some (.ref (He.ga K "kayles_moves")) := He.glo_ok X G (c.fact 5 (f := .glo "kayles_moves") rfl)
theorem g_edge_kayles_moves (X : K.In h) (G : h.Ns mainGlobals mg) (c : He.SaysD fa fn K) : mg "edge_kayles_moves" = some (.ref (He.ga K "edge_kayles_moves")) := He.glo_ok X G (c.fact 6 (f := .glo "edge_kayles_moves") rfl)
theorem g_code_values (X : K.In h) (G : h.Ns mainGlobals mg) (c : He.SaysD fa fn K) : mg "code_values" = some (.ref (He.ga K "code_values")) := He.glo_ok X G (c.fact 7 (f := .glo "code_values") rfl)
theorem g__law_flat (X : K.In h) (G : h.Ns mainGlobals mg) (c : He.SaysD fa fn K) : mg "_law_flat" = some (.ref (He.ga K "_law_flat")) := He.glo_ok X G (c.fact 8 (f := .glo "_law_flat") rfl)
theorem g__law_box (X : K.In h) (G : h.Ns mainGlobals mg) (c : He.SaysD fa fn K) : mg "_law_box" = some (.ref (He.ga K "_law_box")) := He.glo_ok X G (c.fact 9 (f := .glo "_law_box") rfl)
theorem g__law_load (X : K.In h) (G : h.Ns mainGlobals mg) (c : He.SaysD fa fn K) : mg "_law_load" = some (.ref (He.ga K "_law_load")) := He.glo_ok X G (c.fact 10 (f := .glo "_law_load") rfl)
theorem g__law_draw (X : K.In h) (G : h.Ns mainGlobals mg) (c : He.SaysD fa fn K) : mg "_law_draw" = some (.ref (He.ga K "_law_draw")) := He.glo_ok X G (c.fact 11 (f := .glo "_law_draw") rfl)
theorem g__law_same (X : K.In h) (G : h.Ns mainGlobals mg) (c : He.SaysD fa fn K) : mg "_law_same" = some (.ref (He.ga K "_law_same")) := He.glo_ok X G (c.fact 12 (f := .glo "_law_same") rfl)
theorem g__law_graph (X : K.In h) (G : h.Ns mainGlobals mg) (c : He.SaysD fa fn K) : mg "_law_graph" = some (.ref (He.ga K "_law_graph")) := He.glo_ok X G (c.fact 13 (f := .glo "_law_graph") rfl)
theorem g__law_near (X : K.In h) (G : h.Ns mainGlobals mg) (c : He.SaysD fa fn K) : mg "_law_near" = some (.ref (He.ga K "_law_near")) := He.glo_ok X G (c.fact 14 (f := .glo "_law_near") rfl)
theorem g__law_missing (X : K.In h) (G : h.Ns mainGlobals mg) (c : He.SaysD fa fn K) : mg "_law_missing" = some (.ref (He.ga K "_law_missing")) := He.glo_ok X G (c.fact 15 (f := .glo "_law_missing") rfl)
theorem g__law_rest (X : K.In h) (G : h.Ns mainGlobals mg) (c : He.SaysD fa fn K) : mg "_law_rest" = some (.ref (He.ga K "_law_rest")) := He.glo_ok X G (c.fact 16 (f := .glo "_law_rest") rfl)
theorem g__law_value (X : K.In h) (G : h.Ns mainGlobals mg) (c : He.SaysD fa fn K) : mg "_law_value" = some (.ref (He.ga K "_law_value")) := He.glo_ok X G (c.fact 17 (f := .glo "_law_value") rfl)
theorem g__law_edge_value (X : K.In h) (G : h.Ns mainGlobals mg) (c : He.SaysD fa fn K) : mg "_law_edge_value" = some (.ref (He.ga K "_law_edge_value")) := He.glo_ok X G (c.fact 18 (f := .glo "_law_edge_value") rfl)
theorem g__law_lines (X : K.In h) (G : h.Ns mainGlobals mg) (c : He.SaysD fa fn K) : mg "_law_lines" = some (.ref (He.ga K "_law_lines")) := He.glo_ok X G (c.fact 19 (f := .glo "_law_lines") rfl)
theorem g__law_moved (X : K.In h) (G : h.Ns mainGlobals mg) (c : He.SaysD fa fn K) : mg "_law_moved" = some (.ref (He.ga K "_law_moved")) := He.glo_ok X G (c.fact 20 (f := .glo "_law_moved") rfl)
theorem g_law (X : K.In h) (G : h.Ns mainGlobals mg) (c : He.SaysD fa fn K) : mg "law" = some (.ref (He.ga K "law")) := He.glo_ok X G (c.fact 21 (f := .glo "law") rfl)
theorem g_Kayles (X : K.In h) (G : h.Ns mainGlobals mg) (c : He.SaysD fa fn K) : mg "Kayles" = some (.ref (He.ga K "Kayles")) := He.glo_ok X G (c.fact 22 (f := .glo "Kayles") rfl)
theorem b_all (X : K.In h) (G : h.Ns mainGlobals mg) (c : He.SaysD fa fn K) : mg "all" = none := He.free_ok X G (c.fact 23 (f := .free "all") rfl)
theorem b_bool (X : K.In h) (G : h.Ns mainGlobals mg) (c : He.SaysD fa fn K) : mg "bool" = none := He.free_ok X G (c.fact 24 (f := .free "bool") rfl)
theorem b_dict (X : K.In h) (G : h.Ns mainGlobals mg) (c : He.SaysD fa fn K) : mg "dict" = none := He.free_ok X G (c.fact 25 (f := .free "dict") rfl)
theorem b_enumerate (X : K.In h) (G : h.Ns mainGlobals mg) (c : He.SaysD fa fn K) : mg "enumerate" = none := He.free_ok X G (c.fact 26 (f := .free "enumerate") rfl)
theorem b_int (X : K.In h) (G : h.Ns mainGlobals mg) (c : He.SaysD fa fn K) : mg "int" = none := He.free_ok X G (c.fact 27 (f := .free "int") rfl)
theorem b_isinstance (X : K.In h) (G : h.Ns mainGlobals mg) (c : He.SaysD fa fn K) : mg "isinstance" = none := He.free_ok X G (c.fact 28 (f := .free "isinstance") rfl)
theorem b_len (X : K.In h) (G : h.Ns mainGlobals mg) (c : He.SaysD fa fn K) : mg "len" = none := He.free_ok X G (c.fact 29 (f := .free "len") rfl)
theorem b_list (X : K.In h) (G : h.Ns mainGlobals mg) (c : He.SaysD fa fn K) : mg "list" = none := He.free_ok X G (c.fact 30 (f := .free "list") rfl)
theorem b_max (X : K.In h) (G : h.Ns mainGlobals mg) (c : He.SaysD fa fn K) : mg "max" = none := He.free_ok X G (c.fact 31 (f := .free "max") rfl)
theorem b_min (X : K.In h) (G : h.Ns mainGlobals mg) (c : He.SaysD fa fn K) : mg "min" = none := He.free_ok X G (c.fact 32 (f := .free "min") rfl)
theorem b_range (X : K.In h) (G : h.Ns mainGlobals mg) (c : He.SaysD fa fn K) : mg "range" = none := He.free_ok X G (c.fact 33 (f := .free "range") rfl)
theorem b_sorted (X : K.In h) (G : h.Ns mainGlobals mg) (c : He.SaysD fa fn K) : mg "sorted" = none := He.free_ok X G (c.fact 34 (f := .free "sorted") rfl)
theorem b_str (X : K.In h) (G : h.Ns mainGlobals mg) (c : He.SaysD fa fn K) : mg "str" = none := He.free_ok X G (c.fact 35 (f := .free "str") rfl)
theorem b_tuple (X : K.In h) (G : h.Ns mainGlobals mg) (c : He.SaysD fa fn K) : mg "tuple" = none := He.free_ok X G (c.fact 36 (f := .free "tuple") rfl)
end
end H78
set_option maxHeartbeats 8000000
namespace H78
open PySem PySem.Spec PyProof.Rows L2 DL KY
section
variable {P : Program} {w : World} {K : PySem.W.Frag} {mg : Str → Option Value} {base : Heap} {h : Heap}
theorem facts {f : Addr} (X : K.In h) (G : h.Ns mainGlobals mg) (hfa : mg ("law" : Str) = some (.ref f)) (c : He.SaysD fa fn K) (hx : ex K = true) :
    ∃ fd : FuncData, (∀ (s : Shared) (v : Value), BindsTo s fd ⟨[v], []⟩ [("script", v)]) ∧ ∀ base : Heap, K.In base → base.Ns mainGlobals mg → FnOk P w K mg base CX0 18 f fd ["script"] (SpG K R_law) := by
  have e := hfa.symm.trans (g_law X G c)
  cases e
  obtain ⟨fd, F⟩ := f_law c
  have b := FunD.bindsA (ps := ["script"]) F fun _ _ _ _ _ _ us hl => match us, hl with | [_], _ => rfl
  refine ⟨fd, fun s v => b s [v] rfl, fun base _ _ => ok_law F ?_⟩
  obtain ⟨_, F_lm⟩ := f_least_missing c
  obtain ⟨_, F_nx⟩ := f_nexts_of c
  obtain ⟨_, F_pc⟩ := f_pieces_of c
  obtain ⟨_, F_kv⟩ := f_kayles_value c
  obtain ⟨_, F_ekv⟩ := f_edge_kayles_value c
  obtain ⟨_, F_km⟩ := f_kayles_moves c
  obtain ⟨_, F_ekm⟩ := f_edge_kayles_moves c
  obtain ⟨_, F_cvs⟩ := f_code_values c
  obtain ⟨_, F_flat⟩ := f__law_flat c
  obtain ⟨_, F_box⟩ := f__law_box c
  obtain ⟨_, F_load⟩ := f__law_load c
  obtain ⟨_, F_draw⟩ := f__law_draw c
  obtain ⟨_, F_same⟩ := f__law_same c
  obtain ⟨_, F_graph⟩ := f__law_graph c
  obtain ⟨_, F_near⟩ := f__law_near c
  obtain ⟨_, F_lmi⟩ := f__law_missing c
  obtain ⟨_, F_rest⟩ := f__law_rest c
  obtain ⟨_, F_lv⟩ := f__law_value c
  obtain ⟨_, F_lev⟩ := f__law_edge_value c
  obtain ⟨_, F_lines⟩ := f__law_lines c
  obtain ⟨_, F_moved⟩ := f__law_moved c
  obtain ⟨_, F_init⟩ := f_Kayles___init__ c
  obtain ⟨_, F_bh⟩ := f_Kayles_behind c
  obtain ⟨_, F_va⟩ := f_Kayles_value c
  have cK := cls_Kayles c
  have n1 := noat_Kayles_nexts c
  have n2 := noat_Kayles_by_edges c
  have n3 := noat_Kayles_known c
  have ra := b_range X G c
  have tu := b_tuple X G c
  have so := b_sorted X G c
  have di := b_dict X G c
  have le := b_len X G c
  have al := b_all X G c
  have li := b_list X G c
  have it := b_int X G c
  have isi := b_isinstance X G c
  have bo := b_bool X G c
  have sr := b_str X G c
  have en := b_enumerate X G c
  have mi := b_min X G c
  have ma := b_max X G c
  have lm : ∀ k, Go P w K mg base "least_missing" (k + 1) ["numbers"] (Pu (fun ns : List Nat => [.d (.list (natL ns))]) (fun ns => ns.length ≤ 20000) (fun ns => .int (mex ns : Nat))) := fun k => go_of F_lm (g_least_missing X G c) (fun _ _ _ _ _ _ us hl => match us, hl with | [_], _ => rfl) (ok_lm F_lm)
  have nx : ∀ k, Go P w K mg base "nexts_of" (k + 1) ["graph"] R_nx := fun k => go_of F_nx (g_nexts_of X G c) (fun _ _ _ _ _ _ us hl => match us, hl with | [_], _ => rfl) (ok_nx F_nx ra)
  have pc : ∀ k, Go P w K mg base "pieces_of" (k + 1) ["nexts", "places"] R_pc := fun k => go_of F_pc (g_pieces_of X G c) (fun _ _ _ _ _ _ us hl => match us, hl with | [_, _], _ => rfl) (ok_pc F_pc so le)
  have ini : ∀ k, GoN P w K mg base (He.ga K "Kayles") (k + 2) ["self", "graph", "by_edges"] (R_init P w (He.ga K "Kayles")) := fun k => gon_of F_init (mk_Kayles c) (fun _ _ _ _ _ _ us hl => match us, hl with | [_, _, _], _ => rfl) (ok_init F_init cK n1 n2 n3 (nx k))
  have bh : ∀ k, GoM P w K mg base (He.ga K "Kayles") "behind" (k + 1) ["self", "places"] (R_bh (He.ga K "Kayles")) := fun k => gom_of F_bh (meth_Kayles_behind c) (fun _ _ _ _ _ _ us hl => match us, hl with | [_, _], _ => rfl) (ok_bh F_bh cK n1 n2)
  have va : GoM P w K mg base (He.ga K "Kayles") "value" 16 ["self", "places"] (R_va P w (He.ga K "Kayles") 14) := go_va 0 F_va (meth_Kayles_value c) cK n1 n3 bh pc lm tu 14
  have gK := g_Kayles X G c
  have kv : Go P w K mg base "kayles_value" 17 ["graph"] (R_kv false) := go_of F_kv (g_kayles_value X G c) (fun _ _ _ _ _ _ us hl => match us, hl with | [_], _ => rfl) (ok_kv (k := 15) F_kv cK gK (ini 13) va li ra)
  have ekv : Go P w K mg base "edge_kayles_value" 17 ["graph"] (R_kv true) := go_of F_ekv (g_edge_kayles_value X G c) (fun _ _ _ _ _ _ us hl => match us, hl with | [_], _ => rfl) (ok_ekv (k := 15) F_ekv cK gK (ini 13) va li ra)
  have km := go_of (P := P) (w := w) (base := base) F_km (g_kayles_moves X G c) (fun _ _ _ _ _ _ us hl => match us, hl with | [_], _ => rfl) (ok_km (k := 15) F_km cK n1 gK (ini 13) va tu ra)
  have ekm := go_of (P := P) (w := w) (base := base) F_ekm (g_edge_kayles_moves X G c) (fun _ _ _ _ _ _ us hl => match us, hl with | [_], _ => rfl) (ok_ekm (k := 15) F_ekm cK gK (ini 13) va tu ra en)
  have cvs : Go P w K mg base "code_values" 17 ["code", "n"] R_cvs := go_of F_cvs (g_code_values X G c) (fun _ _ _ _ _ _ us hl => match us, hl with | [_, _], _ => rfl) (ok_cvs (k := 16) F_cvs (lm 15) ra en tu)
  have flat : ∀ k, Go P w K mg base "_law_flat" (k + 1) ["rows"] R_flat := fun k => go_of F_flat (g__law_flat X G c) (fun _ _ _ _ _ _ us hl => match us, hl with | [_], _ => rfl) (ok_flat F_flat)
  have box : Go P w K mg base "_law_box" 17 ["script"] R_box := go_of F_box (g__law_box X G c) (fun _ _ _ _ _ _ us hl => match us, hl with | [_], _ => rfl) (ok_box F_box le li)
  have load : ∀ bx cs k, Go P w K mg base "_law_load" (k + 1) ["box"] (R_load bx cs) := fun bx cs k => go_of F_load (g__law_load X G c) (fun _ _ _ _ _ _ us hl => match us, hl with | [_], _ => rfl) (ok_load F_load le it)
  have draw : ∀ bx cs k, Go P w K mg base "_law_draw" (k + 2) ["box", "many"] (R_draw bx cs) := fun bx cs k => go_of F_draw (g__law_draw X G c) (fun _ _ _ _ _ _ us hl => match us, hl with | [_, _], _ => rfl) (ok_draw F_draw (load bx cs k) it)
  have graph : ∀ bx cs, Go P w K mg base "_law_graph" 17 ["box", "most", "part"] (R_graph bx cs) := fun bx cs => go_of F_graph (g__law_graph X G c) (fun _ _ _ _ _ _ us hl => match us, hl with | [_, _, _], _ => rfl) (ok_graph F_graph (draw bx cs 14) (flat 15) tu ra)
  have near : ∀ k, Go P w K mg base "_law_near" (k + 1) ["graph", "place"] R_near := fun k => go_of F_near (g__law_near X G c) (fun _ _ _ _ _ _ us hl => match us, hl with | [_, _], _ => rfl) (ok_near F_near)
  have rest : ∀ k, Go P w K mg base "_law_rest" (k + 2) ["graph", "places_left", "place"] R_rest := fun k => go_of F_rest (g__law_rest X G c) (fun _ _ _ _ _ _ us hl => match us, hl with | [_, _, _], _ => rfl) (ok_rest F_rest (near k) tu)
  have lmi : ∀ k, Go P w K mg base "_law_missing" (k + 1) ["worths"] R_lmi := fun k => go_of F_lmi (g__law_missing X G c) (fun _ _ _ _ _ _ us hl => match us, hl with | [_], _ => rfl) (ok_lmi F_lmi)
  have moved : Go P w K mg base "_law_moved" 17 ["graph", "step"] R_moved := go_of F_moved (g__law_moved X G c) (fun _ _ _ _ _ _ us hl => match us, hl with | [_, _], _ => rfl) (ok_moved F_moved tu)
  have lines : Go P w K mg base "_law_lines" 17 ["most"] R_lines := go_of F_lines (g__law_lines X G c) (fun _ _ _ _ _ _ us hl => match us, hl with | [_], _ => rfl) (ok_lines (k := 16) F_lines (lmi 15) ra ma)
  exact ⟨box, fun bx cs => draw bx cs 15, graph, go_same 13 F_same (g__law_same X G c) isi tu li bo it sr le al ra 3, go_lv F_lv (g__law_value X G c) rest lmi 14 0, go_lev F_lev (g__law_edge_value X G c) lmi tu 14 0, rest 15, flat 16, moved, lines, kv, ekv, km, ekm, cvs, ra, tu, so, di, le, li, mi, ma⟩
theorem law_start {H : Hp} {a : Addr} {ns : List Int} {E : XK} (hl : ns.length ≤ 100000) (hS : SqL K H a (ns.map V.int)) : SpG K R_law [.ref a] H (fun v _ => v = .bl true) E := by
  refine ⟨fun _ => none, H, [], [.rd (iL ns)], fun r _ => r = .d (.bool true), ⟨fun _ => none, ?_⟩, fun r M h => by rw [h]; trivial, ⟨ns, hl, rfl, rfl, fun _ => rfl⟩, fun v H' r M' g e => ?_⟩
  · exact ⟨fun _ _ h => (nomatch h), fun _ _ h => (nomatch h), fun _ _ h => h, fun _ h => absurd rfl h, fun _ h => (by cases h), List.nodup_nil, .nil, .cons ⟨a, ns.map V.int, rfl, hS, RpA.of_ints⟩ .nil⟩
  · subst e
    exact g.bl
end
end H78
open PySem PySem.W PySem.Calls PyProof.Rows
theorem PySem.Challenge.cw_cantmove_k78_whole_kayles_holds : PySem.Challenge.rw_cantmove_k78_whole_kayles.Holds := by
  w_on; o_law
  refine HandSHeadRun.head_any (r := OpenLaw.row PySem.Challenge.rw_cantmove_k78_whole_kayles) (q := view (OpenLaw.row PySem.Challenge.rw_cantmove_k78_whole_kayles).prog [27]) (H := H78.hk) (ob := H78.ob) (M := 4000) (loose := H78.loose) (d := HandSHeadRun.topDef (OpenLaw.row PySem.Challenge.rw_cantmove_k78_whole_kayles).prog 27) (kwd := []) H78.ob_eq
    (by kernel_rfl) (fun s => by kernel_rfl) H78.run (by kernel_rfl) (by kernel_rfl) (by kernel_rfl) (by rfl) (by first | assumption | decide +kernel) (by decide +kernel) ⟨rfl, rfl, rfl, rfl, rfl, by decide +kernel⟩ ?hw ?hc
  case hw => w_witness2
  case hc =>
    refine L2.walk_ofE (l := PySem.Challenge.rw_cantmove_k78_whole_kayles) (n := 63) (k := 18) (x := "script") (CX := L2.CX0) rfl (by decide) (by kernel_rfl) ⟨rfl, by decide, by decide⟩ ?F (fun _ _ _ _ z => z)
    intro w mg fa h Y G hmg0
    obtain ⟨K, KX, c, hx⟩ := Y
    have hmg : mg ("law" : PySem.Str) = some (.ref fa) := by
      have e : (HandSHeadRun.topDef (OpenLaw.row PySem.Challenge.rw_cantmove_k78_whole_kayles).prog 27).name = ("law" : PySem.Str) := by kernel_rfl
      rw [← e]
      exact hmg0
    obtain ⟨fd, hb, hF⟩ := H78.facts (P := (PySem.Challenge.rw_cantmove_k78_whole_kayles).prog) (w := w) KX G hmg c hx
    exact ⟨K, fd, DL.SpG K H78.R_law, KX, hb, fun H a ns hl _ hS => H78.law_start (Nat.le_trans hl (by decide)) hS, hF⟩
