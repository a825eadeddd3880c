import PyProof.Rows.All
import Wide.All
import OpenK.AllK
import Wide.FinOn
import KE.KDictKeyed
import KE.KeyNested
import HandS.ForMost
import HandS.Walk
import HandS.SortInts
import HandS.IsInst
import HandS.Style
import HandS.Wide
import HandS.Conv
import HandS.More
import KE.SortData
import HandS.TupAny
import HandS.DictComp
import HandS.Strs
import HandS.Defaults
import HandS.Small
import HandS.Sort
import HandS.Deep
import KE.GoesMore
import KE.GoesEnum
import HandS.SetFor
import HandS.Text
import HandS.Head0
import HandS.Head1
import HandS.Head2
import HandS.HeadEnd
import HandS.HeadHook1
import HandS.HeadHook2
import KE.KIndexOf
import KE.KTupSum
import KE.KRevSl
import HandS.TupMul
import KE.KDictPairs
import HandS.Flow
import HandS.HeadHook3
import HandS.Codes
import PySem.Challenge.RW_cantmove_k83_whole_chains_and_loops
set_option Elab.async false
set_option linter.all false
set_option maxRecDepth 100000
set_option maxHeartbeats 2000000
/-! DL: a data layer over the hand layer: slots hold plain data, cells hold what may change. -/
namespace DL
open PySem PySem.Spec PyProof.Rows L2

abbrev Fg := PySem.W.Frag

/-! ### what represents a datum -/
mutual
inductive Rp (K : Fg) (H : Hp) : V → PyData → Prop
  | non : Rp K H .non .none
  | bl (b : Bool) : Rp K H (.bl b) (.bool b)
  | int (i : Int) : Rp K H (.int i) (.int i)
  | str (x : Str) : Rp K H (.str x) (.str x)
  | lst {a : Addr} {xs : List V} {ds : List PyData} : H a = some (.lst xs) → RpA K H xs ds → Rp K H (.ref a) (.list ds)
  | tup {a : Addr} {xs : List V} {ds : List PyData} : SqT K H a xs → RpA K H xs ds → Rp K H (.ref a) (.tuple ds)
inductive RpA (K : Fg) (H : Hp) : List V → List PyData → Prop
  | nil : RpA K H [] []
  | cons {v : V} {vs : List V} {d : PyData} {ds : List PyData} : Rp K H v d → RpA K H vs ds → RpA K H (v :: vs) (d :: ds)
end
theorem same_t {K : Fg} {H H' : Hp} {a : Addr} {xs : List V} (e : Same H H') (h : SqT K H a xs) : SqT K H' a xs := by
  rcases h with (h | ⟨o, h⟩) | h
  · exact .inl (.inl (e _ _ h))
  · exact .inl (.inr ⟨o, e _ _ h⟩)
  · exact .inr h
mutual
theorem Rp.ext {K : Fg} {H H' : Hp} (e : Same H H') : ∀ {v : V} {d : PyData}, Rp K H v d → Rp K H' v d
  | _, _, .non => .non
  | _, _, .bl b => .bl b
  | _, _, .int i => .int i
  | _, _, .str x => .str x
  | _, _, .lst h hs => .lst (e _ _ h) (RpA.ext e hs)
  | _, _, .tup h hs => .tup (same_t e h) (RpA.ext e hs)
theorem RpA.ext {K : Fg} {H H' : Hp} (e : Same H H') : ∀ {vs : List V} {ds : List PyData}, RpA K H vs ds → RpA K H' vs ds
  | _, _, .nil => .nil
  | _, _, .cons h hs => .cons (Rp.ext e h) (RpA.ext e hs)
end
mutual
theorem Rp.dp {K : Fg} {H : Hp} : ∀ {v : V} {d : PyData}, Rp K H v d → Dp K H v d
  | _, _, .non => .non
  | _, _, .bl b => .bl b
  | _, _, .int i => .int i
  | _, _, .str x => .str x
  | _, _, .lst h hs => .lst (SqL.of h) (RpA.dp hs)
  | _, _, .tup h hs => .tup h (RpA.dp hs)
theorem RpA.dp {K : Fg} {H : Hp} : ∀ {vs : List V} {ds : List PyData}, RpA K H vs ds → DpAll K H vs ds
  | _, _, .nil => .nil
  | _, _, .cons h hs => .cons (Rp.dp h) (RpA.dp hs)
end
section
variable {K : Fg} {H : Hp}
theorem Rp.non_inv {v : V} (h : Rp K H v .none) : v = .non := by cases h; rfl
theorem Rp.bl_inv {v : V} {b : Bool} (h : Rp K H v (.bool b)) : v = .bl b := by cases h; rfl
theorem Rp.int_inv {v : V} {i : Int} (h : Rp K H v (.int i)) : v = .int i := by cases h; rfl
theorem Rp.str_inv {v : V} {x : Str} (h : Rp K H v (.str x)) : v = .str x := by cases h; rfl
theorem Rp.lst_inv {v : V} {ds : List PyData} (h : Rp K H v (.list ds)) : ∃ a xs, v = .ref a ∧ H a = some (.lst xs) ∧ RpA K H xs ds := by cases h with | lst h hs => exact ⟨_, _, rfl, h, hs⟩
theorem Rp.tup_inv {v : V} {ds : List PyData} (h : Rp K H v (.tuple ds)) : ∃ a xs, v = .ref a ∧ SqT K H a xs ∧ RpA K H xs ds := by cases h with | tup h hs => exact ⟨_, _, rfl, h, hs⟩
theorem RpA.len : ∀ {vs : List V} {ds : List PyData}, RpA K H vs ds → vs.length = ds.length
  | _, _, .nil => rfl
  | _, _, .cons _ hs => by simp [RpA.len hs]
theorem RpA.get : ∀ {vs : List V} {ds : List PyData} {i : Nat} {d : PyData}, RpA K H vs ds → ds[i]? = some d → ∃ v, vs[i]? = some v ∧ Rp K H v d
  | _, _, _, _, .nil, e => by simp at e
  | _, _, 0, _, .cons h _, e => by simp at e; subst e; exact ⟨_, rfl, h⟩
  | _, _, i + 1, d, .cons _ t, e => by
    obtain ⟨u, h1, h2⟩ := RpA.get (i := i) (d := d) t (by simpa using e)
    exact ⟨u, by simpa using h1, h2⟩
theorem RpA.getV : ∀ {vs : List V} {ds : List PyData} {i : Nat} {v : V}, RpA K H vs ds → vs[i]? = some v → ∃ d, ds[i]? = some d ∧ Rp K H v d
  | _, _, _, _, .nil, e => by simp at e
  | _, _, 0, _, .cons h _, e => by simp at e; subst e; exact ⟨_, rfl, h⟩
  | _, _, i + 1, d, .cons _ t, e => by
    obtain ⟨u, h1, h2⟩ := RpA.getV (i := i) (v := d) t (by simpa using e)
    exact ⟨u, by simpa using h1, h2⟩
theorem RpA.app : ∀ {vs ws : List V} {ds es : List PyData}, RpA K H vs ds → RpA K H ws es → RpA K H (vs ++ ws) (ds ++ es)
  | _, _, _, _, .nil, s => s
  | _, _, _, _, .cons r t, s => .cons r (RpA.app t s)
theorem RpA.take : ∀ {vs : List V} {ds : List PyData} (n : Nat), RpA K H vs ds → RpA K H (vs.take n) (ds.take n)
  | _, _, 0, _ => .nil
  | _, _, _ + 1, .nil => .nil
  | _, _, n + 1, .cons r t => .cons r (RpA.take n t)
theorem RpA.drop : ∀ {vs : List V} {ds : List PyData} (n : Nat), RpA K H vs ds → RpA K H (vs.drop n) (ds.drop n)
  | _, _, 0, r => r
  | _, _, _ + 1, .nil => .nil
  | _, _, n + 1, .cons _ t => RpA.drop n t
theorem RpA.rev : ∀ {vs : List V} {ds : List PyData}, RpA K H vs ds → RpA K H vs.reverse ds.reverse
  | _, _, .nil => .nil
  | _, _, .cons r t => by
    rw [List.reverse_cons, List.reverse_cons]
    exact RpA.app (RpA.rev t) (.cons r .nil)
theorem RpA.set {v : V} {d : PyData} (r : Rp K H v d) : ∀ {vs : List V} {ds : List PyData} (i : Nat), RpA K H vs ds → RpA K H (vs.set i v) (ds.set i d)
  | _, _, _, .nil => .nil
  | _, _, 0, .cons _ t => .cons r t
  | _, _, i + 1, .cons q t => .cons q (RpA.set r i t)
theorem RpA.ints : ∀ {vs : List V} {ns : List Int}, RpA K H vs (ns.map PyData.int) → vs = ns.map V.int
  | _, [], h => by cases h; rfl
  | _, n :: ns, h => by
    cases h with
    | cons h t => rw [Rp.int_inv h, RpA.ints t]; rfl
theorem RpA.of_ints : ∀ {ns : List Int}, RpA K H (ns.map V.int) (ns.map PyData.int)
  | [] => .nil
  | n :: ns => .cons (.int n) RpA.of_ints
theorem RpA.bls : ∀ {vs : List V} {ns : List Bool}, RpA K H vs (ns.map PyData.bool) → vs = ns.map V.bl
  | _, [], h => by cases h; rfl
  | _, n :: ns, h => by
    cases h with
    | cons h t => rw [Rp.bl_inv h, RpA.bls t]; rfl
theorem RpA.strs : ∀ {vs : List V} {ns : List Str}, RpA K H vs (ns.map PyData.str) → vs = ns.map V.str
  | _, [], h => by cases h; rfl
  | _, n :: ns, h => by
    cases h with
    | cons h t => rw [Rp.str_inv h, RpA.strs t]; rfl
end

/-! ### data whose tuples are known to be plain objects -/
def SqN (K : Fg) (H : Hp) (a : Addr) (xs : List V) : Prop :=
  (∃ o : Obj, o.cls = .type "tuple" ∧ o.dict = none ∧ H a = some (.frz o (.tup xs))) ∨
  ∃ (o : Obj) (its : Array Value) (n : Nat), K.lookup a = some o ∧ o.cls = .type "tuple" ∧ o.dict = none ∧ o.data = .seq its n ∧ its.size ≤ sizeLine ∧ Vals xs its.toList
theorem SqN.t {K : Fg} {H : Hp} {a : Addr} {xs : List V} (h : SqN K H a xs) : SqT K H a xs := by
  rcases h with ⟨o, _, _, h⟩ | ⟨o, its, n, h1, h2, _, h3, h4, h5⟩
  · exact .inl (.inr ⟨o, h⟩)
  · exact .inr ⟨o, its, n, h1, h2, h3, h4, h5⟩
theorem SqN.ext {K : Fg} {H H' : Hp} {a : Addr} {xs : List V} (e : Same H H') (h : SqN K H a xs) : SqN K H' a xs := by
  rcases h with ⟨o, h1, h2, h⟩ | h
  · exact .inl ⟨o, h1, h2, e _ _ h⟩
  · exact .inr h
mutual
inductive Rq (K : Fg) (H : Hp) : V → PyData → Prop
  | non : Rq K H .non .none
  | bl (b : Bool) : Rq K H (.bl b) (.bool b)
  | int (i : Int) : Rq K H (.int i) (.int i)
  | str (x : Str) : Rq K H (.str x) (.str x)
  | tup {a : Addr} {xs : List V} {ds : List PyData} : SqN K H a xs → RqA K H xs ds → Rq K H (.ref a) (.tuple ds)
inductive RqA (K : Fg) (H : Hp) : List V → List PyData → Prop
  | nil : RqA K H [] []
  | cons {v : V} {vs : List V} {d : PyData} {ds : List PyData} : Rq K H v d → RqA K H vs ds → RqA K H (v :: vs) (d :: ds)
end
mutual
theorem Rq.ext {K : Fg} {H H' : Hp} (e : Same H H') : ∀ {v : V} {d : PyData}, Rq K H v d → Rq K H' v d
  | _, _, .non => .non
  | _, _, .bl b => .bl b
  | _, _, .int i => .int i
  | _, _, .str x => .str x
  | _, _, .tup h hs => .tup (h.ext e) (RqA.ext e hs)
theorem RqA.ext {K : Fg} {H H' : Hp} (e : Same H H') : ∀ {vs : List V} {ds : List PyData}, RqA K H vs ds → RqA K H' vs ds
  | _, _, .nil => .nil
  | _, _, .cons h hs => .cons (Rq.ext e h) (RqA.ext e hs)
end
mutual
theorem Rq.p {K : Fg} {H : Hp} : ∀ {v : V} {d : PyData}, Rq K H v d → Rp K H v d
  | _, _, .non => .non
  | _, _, .bl b => .bl b
  | _, _, .int i => .int i
  | _, _, .str x => .str x
  | _, _, .tup h hs => .tup h.t (RqA.p hs)
theorem RqA.p {K : Fg} {H : Hp} : ∀ {vs : List V} {ds : List PyData}, RqA K H vs ds → RpA K H vs ds
  | _, _, .nil => .nil
  | _, _, .cons h hs => .cons (Rq.p h) (RqA.p hs)
end
/-! ### slots, cells -/
inductive Sl where
  | un | d (x : PyData) | rd (xs : List PyData) | v (x : V) | n (x : PyData)
inductive MC where
  | lst (xs : List PyData) | dic (kvs : List (Key × PyData)) | raw (o : HO) | dn (mk : List (NestedKey × Addr × Value) → HO) (es : List (NestedKey × PyData)) | ins (C : Addr) (fs : List (Str × Sl))
abbrev Cs := List (Addr × MC)

def VOk (K : Fg) (F B : Hp) (x : V) : Sl → Prop
  | .un => True
  | .d y => Rp K B x y
  | .rd ys => ∃ a xs, x = .ref a ∧ SqL K F a xs ∧ RpA K B xs ys
  | .v y => x = y
  | .n y => Rq K B x y
def OOk (K : Fg) (F B : Hp) (o : Option V) : Sl → Prop
  | .un => True
  | s => ∃ x, o = some x ∧ VOk K F B x s
abbrev SOk (K : Fg) (F B : Hp) : List (Option V) → List Sl → Prop := Paired (OOk K F B)
abbrev KOk (K : Fg) (F B : Hp) : List V → List Sl → Prop := Paired (VOk K F B)
/-- an attribute: data or this very value -/
def FOk (K : Fg) (B : Hp) (x : V) : Sl → Prop
  | .d y => Rp K B x y
  | .v y => x = y
  | _ => False
def MOk (K : Fg) (B : Hp) (o : HO) : MC → Prop
  | .raw u => o = u
  | .lst xs => ∃ vs, o = .lst vs ∧ RpA K B vs xs
  | .dic es => ∃ kvs, o = .dK kvs ∧ Paired (fun (p : Key × V) (q : Key × PyData) => p.1 = q.1 ∧ Rp K B p.2 q.2) kvs es
  | .dn mk es => ∃ xs, o = mk xs ∧ Paired (fun (x : NestedKey × Addr × Value) (e : NestedKey × PyData) => x.1 = e.1 ∧ e.1.depth ≤ 8 ∧ Rp K B (.ref x.2.1) e.1.data ∧ ∃ v, RelV v x.2.2 ∧ Rp K B v e.2) xs es
  | .ins C fs => ∃ dx vs, o = .ins C dx vs ∧ Paired (fun (p : Str × V) (q : Str × Sl) => p.1 = q.1 ∧ FOk K B p.2 q.2) vs fs
structure CellOk (K : Fg) (F B H : Hp) (c : Addr × MC) : Prop where
  b : B c.1 = none
  f : F c.1 = none
  o : ∃ o, H c.1 = some o ∧ MOk K B o c.2
structure GoodB (K : Fg) (B0 F : Hp) (M : Cs) (ρ κ : List Sl) (σ : List (Option V)) (vs : List V) (H B : Hp) : Prop where
  b0 : Same B0 B
  bh : Same B H
  fh : Same F H
  new : ∀ a, B a ≠ none → B0 a ≠ none ∨ F a = none
  cells : ∀ c, c ∈ M → CellOk K F B H c
  nd : (M.map (·.1)).Nodup
  sl : SOk K F B σ ρ
  st : KOk K F B vs κ
def Good (K : Fg) (B0 F : Hp) (M : Cs) (ρ κ : List Sl) (σ : List (Option V)) (vs : List V) (H : Hp) : Prop := ∃ B, GoodB K B0 F M ρ κ σ vs H B

section
variable {K : Fg} {B0 F B B' H H' : Hp} {M : Cs} {ρ κ : List Sl} {σ : List (Option V)} {vs : List V}
theorem VOk.ext {x : V} {s : Sl} (e : Same B B') (h : VOk K F B x s) : VOk K F B' x s := by
  cases s with
  | un => trivial
  | d y => exact Rp.ext e h
  | rd ys => obtain ⟨a, xs, h1, h2, h3⟩ := h; exact ⟨a, xs, h1, h2, h3.ext e⟩
  | v y => exact h
  | n y => exact Rq.ext e h
theorem OOk.ext {x : Option V} {s : Sl} (e : Same B B') (h : OOk K F B x s) : OOk K F B' x s := by
  cases s with
  | un => trivial
  | d y => obtain ⟨x, h1, h2⟩ := h; exact ⟨x, h1, h2.ext e⟩
  | rd ys => obtain ⟨x, h1, h2⟩ := h; exact ⟨x, h1, h2.ext e⟩
  | v y => obtain ⟨x, h1, h2⟩ := h; exact ⟨x, h1, h2.ext e⟩
  | n y => obtain ⟨x, h1, h2⟩ := h; exact ⟨x, h1, h2.ext e⟩
theorem OOk.of {x : V} {s : Sl} (h : VOk K F B x s) : OOk K F B (some x) s := by
  cases s with
  | un => trivial
  | d y => exact ⟨x, rfl, h⟩
  | rd ys => exact ⟨x, rfl, h⟩
  | v y => exact ⟨x, rfl, h⟩
  | n y => exact ⟨x, rfl, h⟩
theorem OOk.v {o : Option V} {s : Sl} (hs : s ≠ .un) (h : OOk K F B o s) : ∃ x, o = some x ∧ VOk K F B x s := by
  cases s with
  | un => exact absurd rfl hs
  | d y => exact h
  | rd ys => exact h
  | v y => exact h
  | n y => exact h
theorem FOk.ext {x : V} {s : Sl} (e : Same B B') (h : FOk K B x s) : FOk K B' x s := by
  cases s with
  | d y => exact Rp.ext e h
  | v y => exact h
  | un => exact h
  | rd ys => exact h
  | n y => exact h
theorem MOk.ext {o : HO} {c : MC} (e : Same B B') (h : MOk K B o c) : MOk K B' o c := by
  cases c with
  | raw u => exact h
  | lst xs => obtain ⟨vs, h1, h2⟩ := h; exact ⟨vs, h1, h2.ext e⟩
  | dic es => obtain ⟨kvs, h1, h2⟩ := h; exact ⟨kvs, h1, Paired.mapP h2 fun _ _ z => ⟨z.1, z.2.ext e⟩⟩
  | ins C fs => obtain ⟨dx, vs, h1, h2⟩ := h; exact ⟨dx, vs, h1, Paired.mapP h2 fun _ _ z => ⟨z.1, z.2.ext e⟩⟩
  | dn mk es => obtain ⟨xs, h1, h2⟩ := h; exact ⟨xs, h1, Paired.mapP h2 fun _ _ ⟨z1, z2, z3, v, z4, z5⟩ => ⟨z1, z2, z3.ext e, v, z4, z5.ext e⟩⟩
theorem Paired.get? {α β : Type} {R : α → β → Prop} : ∀ {l : List α} {m : List β} {i : Nat} {b : β}, Paired R l m → m[i]? = some b → ∃ a, l[i]? = some a ∧ R a b
  | _, _, _, _, .nil, e => by simp at e
  | _, _, 0, _, .cons h _, e => by simp at e; subst e; exact ⟨_, rfl, h⟩
  | _, _, i + 1, d, .cons _ t, e => by
    obtain ⟨u, h1, h2⟩ := Paired.get? (i := i) (b := d) t (by simpa using e)
    exact ⟨u, by simpa using h1, h2⟩
theorem Paired.set {α β : Type} {R : α → β → Prop} {a : α} {b : β} (r : R a b) : ∀ {l : List α} {m : List β} (i : Nat), Paired R l m → Paired R (l.set i a) (m.set i b)
  | _, _, _, .nil => .nil
  | _, _, 0, .cons _ t => .cons r t
  | _, _, i + 1, .cons q t => .cons q (Paired.set r i t)
theorem Paired.app {α β : Type} {R : α → β → Prop} : ∀ {l l' : List α} {m m' : List β}, Paired R l m → Paired R l' m' → Paired R (l ++ l') (m ++ m')
  | _, _, _, _, .nil, s => s
  | _, _, _, _, .cons r t, s => .cons r (Paired.app t s)

/-- an object that never changes is laid -/
theorem GoodB.laid {p : Addr} {o : HO} (g : GoodB K B0 F M ρ κ σ vs H B) (hp : H p = none) : GoodB K B0 F M ρ κ σ vs (upd H p o) (upd B p o) := by
  have bp : B p = none := g.bh.free hp
  have e : Same B (upd B p o) := fun a u z => by rw [upd_ne (ne_of_none z bp)]; exact z
  refine ⟨g.b0.trans e, fun a u z => ?_, fun a u z => ?_, fun a ha => ?_, fun c hc => ?_, g.nd, Paired.mapP g.sl fun _ _ z => z.ext e, Paired.mapP g.st fun _ _ z => z.ext e⟩
  · by_cases q : a = p
    · subst q; rw [upd_same] at z ⊢; exact z
    · rw [upd_ne q] at z ⊢; exact g.bh a u z
  · rw [upd_ne (ne_of_none (g.fh a u z) hp)]; exact g.fh a u z
  · by_cases q : a = p
    · subst q; exact .inr (g.fh.free hp)
    · rw [upd_ne q] at ha; exact g.new a ha
  · obtain ⟨h1, h2, u, h3, h4⟩ := g.cells c hc
    have q : c.1 ≠ p := ne_of_none h3 hp
    exact ⟨by rw [upd_ne q]; exact h1, h2, u, by rw [upd_ne q]; exact h3, h4.ext e⟩
/-- a cell is laid -/
theorem GoodB.cell {p : Addr} {o : HO} {c : MC} (g : GoodB K B0 F M ρ κ σ vs H B) (hp : H p = none) (hc : MOk K B o c) : GoodB K B0 F ((p, c) :: M) ρ κ σ vs (upd H p o) B := by
  have bp : B p = none := g.bh.free hp
  have fp : F p = none := g.fh.free hp
  refine ⟨g.b0, fun a u z => ?_, fun a u z => ?_, g.new, fun d hd => ?_, ?_, g.sl, g.st⟩
  · rw [upd_ne (ne_of_none z bp)]; exact g.bh a u z
  · rw [upd_ne (ne_of_none z fp)]; exact g.fh a u z
  · rcases List.mem_cons.mp hd with e | hd
    · subst e; exact ⟨bp, fp, o, upd_same, hc⟩
    · obtain ⟨h1, h2, u, h3, h4⟩ := g.cells d hd
      exact ⟨h1, h2, u, by rw [upd_ne (ne_of_none h3 hp)]; exact h3, h4⟩
  · rw [List.map_cons, List.nodup_cons]
    refine ⟨fun z => ?_, g.nd⟩
    obtain ⟨d, hd, e⟩ := List.mem_map.mp z
    obtain ⟨_, _, u, h3, _⟩ := g.cells d hd
    exact ne_of_none h3 hp e
theorem nodup_at {M : Cs} (h : (M.map (·.1)).Nodup) {i j : Nat} {c d : Addr × MC} (hi : M[i]? = some c) (hj : M[j]? = some d) (e : c.1 = d.1) : i = j := by
  have a : (M.map (·.1))[i]? = some c.1 := by rw [List.getElem?_map, hi]; rfl
  have b : (M.map (·.1))[j]? = some c.1 := by rw [List.getElem?_map, hj, e]; rfl
  obtain ⟨h1, e1⟩ := List.getElem?_eq_some_iff.mp a
  obtain ⟨h2, e2⟩ := List.getElem?_eq_some_iff.mp b
  exact (List.getElem_inj h).mp (e1.trans e2.symm)
/-- a cell is written -/
theorem GoodB.write {j : Nat} {p : Addr} {c c' : MC} {o : HO} (g : GoodB K B0 F M ρ κ σ vs H B) (hj : M[j]? = some (p, c)) (hc : MOk K B o c') : GoodB K B0 F (M.set j (p, c')) ρ κ σ vs (upd H p o) B := by
  obtain ⟨bp, fp, _⟩ := g.cells (p, c) (List.mem_of_getElem? hj)
  refine ⟨g.b0, fun a u z => ?_, fun a u z => ?_, g.new, fun d hd => ?_, ?_, g.sl, g.st⟩
  · rw [upd_ne (ne_of_none z bp)]; exact g.bh a u z
  · rw [upd_ne (ne_of_none z fp)]; exact g.fh a u z
  · obtain ⟨i, hi⟩ := List.mem_iff_getElem?.mp hd
    by_cases hij : j = i
    · subst hij
      have hl : j < M.length := (List.getElem?_eq_some_iff.mp hj).1
      rw [List.getElem?_set_self hl] at hi
      cases hi
      exact ⟨bp, fp, o, upd_same, hc⟩
    · rw [List.getElem?_set_ne hij] at hi
      obtain ⟨h1, h2, u, h3, h4⟩ := g.cells d (List.mem_of_getElem? hi)
      refine ⟨h1, h2, u, ?_, h4⟩
      rw [upd_ne (fun e => hij (nodup_at g.nd hj hi e.symm))]
      exact h3
  · have : (M.set j (p, c')).map (·.1) = M.map (·.1) := by
      rw [List.map_set]
      show (M.map (·.1)).set j p = M.map (·.1)
      refine List.ext_getElem? fun i => ?_
      by_cases hij : j = i
      · subst hij
        rw [List.getElem?_set, List.getElem?_map, hj]
        simp
        exact (List.getElem?_eq_some_iff.mp hj).1
      · rw [List.getElem?_set_ne hij]
    rw [this]
    exact g.nd
/-- a list cell becomes data: v the value of the stack's top -/
theorem GoodB.freeze {p : Addr} {xs : List PyData} (g : GoodB K B0 F ((p, .lst xs) :: M) ρ κ σ vs H B) : ∃ B', GoodB K B0 F M ρ (.d (.list xs) :: κ) σ (.ref p :: vs) H B' := by
  obtain ⟨bp, fp, o, ho, ws, rfl, hw⟩ := g.cells _ List.mem_cons_self
  have e : Same B (upd B p (.lst ws)) := fun a u z => by rw [upd_ne (ne_of_none z bp)]; exact z
  have nd := g.nd
  rw [List.map_cons, List.nodup_cons] at nd
  refine ⟨upd B p (.lst ws), g.b0.trans e, fun a u z => ?_, g.fh, fun a ha => ?_, fun c hc => ?_, nd.2, Paired.mapP g.sl fun _ _ z => z.ext e, .cons ?_ (Paired.mapP g.st fun _ _ z => z.ext e)⟩
  · by_cases q : a = p
    · subst q; rw [upd_same] at z; rw [← z]; exact ho
    · rw [upd_ne q] at z; exact g.bh a u z
  · by_cases q : a = p
    · subst q; exact .inr fp
    · rw [upd_ne q] at ha; exact g.new a ha
  · obtain ⟨h1, h2, u, h3, h4⟩ := g.cells c (List.mem_cons_of_mem _ hc)
    have q : c.1 ≠ p := fun q => nd.1 (List.mem_map.mpr ⟨c, hc, q⟩)
    exact ⟨by rw [upd_ne q]; exact h1, h2, u, h3, h4.ext e⟩
  · exact .lst upd_same (hw.ext e)
theorem GoodB.stk {κ' : List Sl} {vs' : List V} (g : GoodB K B0 F M ρ κ σ vs H B) (h : KOk K F B vs' κ') : GoodB K B0 F M ρ κ' σ vs' H B := ⟨g.b0, g.bh, g.fh, g.new, g.cells, g.nd, g.sl, h⟩
theorem GoodB.slt {ρ' : List Sl} {σ' : List (Option V)} (g : GoodB K B0 F M ρ κ σ vs H B) (h : SOk K F B σ' ρ') : GoodB K B0 F M ρ' κ σ' vs H B := ⟨g.b0, g.bh, g.fh, g.new, g.cells, g.nd, h, g.st⟩
theorem GoodB.fst {r : Sl} {v : V} (g : GoodB K B0 F M ρ (r :: κ) σ (v :: vs) H B) : VOk K F B v r := by cases g.st; assumption
theorem GoodB.pop {r : Sl} {v : V} (g : GoodB K B0 F M ρ (r :: κ) σ (v :: vs) H B) : GoodB K B0 F M ρ κ σ vs H B := g.stk (by cases g.st; assumption)
theorem GoodB.push {r : Sl} {v : V} (g : GoodB K B0 F M ρ κ σ vs H B) (h : VOk K F B v r) : GoodB K B0 F M ρ (r :: κ) σ (v :: vs) H B := g.stk (.cons h g.st)
theorem Good.push {r : Sl} {v : V} (g : Good K B0 F M ρ κ σ vs H) (h : ∀ B, GoodB K B0 F M ρ κ σ vs H B → VOk K F B v r) : Good K B0 F M ρ (r :: κ) σ (v :: vs) H := by
  obtain ⟨B, g⟩ := g; exact ⟨B, g.push (h B g)⟩
theorem Good.pop {r : Sl} {v : V} (g : Good K B0 F M ρ (r :: κ) σ (v :: vs) H) : Good K B0 F M ρ κ σ vs H := by
  obtain ⟨B, g⟩ := g; exact ⟨B, g.pop⟩
/-- the stack's top is int i -/
theorem Good.int {i : Int} {v : V} (g : Good K B0 F M ρ (.d (.int i) :: κ) σ (v :: vs) H) : v = .int i := by
  obtain ⟨B, g⟩ := g; exact Rp.int_inv g.fst
theorem Good.bl {i : Bool} {v : V} (g : Good K B0 F M ρ (.d (.bool i) :: κ) σ (v :: vs) H) : v = .bl i := by
  obtain ⟨B, g⟩ := g; exact Rp.bl_inv g.fst
theorem Good.str {i : Str} {v : V} (g : Good K B0 F M ρ (.d (.str i) :: κ) σ (v :: vs) H) : v = .str i := by
  obtain ⟨B, g⟩ := g; exact Rp.str_inv g.fst
theorem Good.ref {i : V} {v : V} (g : Good K B0 F M ρ (.v i :: κ) σ (v :: vs) H) : v = i := by
  obtain ⟨B, g⟩ := g; exact g.fst
end
end DL
set_option maxHeartbeats 2000000
namespace DL
open PySem PySem.Spec PyProof.Rows L2

section
variable {K : Fg} {B0 F B B' H H' : Hp} {M : Cs} {ρ κ : List Sl} {σ : List (Option V)} {vs : List V}
theorem Good.pushD {d : PyData} {v : V} (g : Good K B0 F M ρ κ σ vs H) (h : ∀ B, GoodB K B0 F M ρ κ σ vs H B → Rp K B v d) : Good K B0 F M ρ (.d d :: κ) σ (v :: vs) H := g.push h
theorem Good.pushV {v : V} (g : Good K B0 F M ρ κ σ vs H) : Good K B0 F M ρ (.v v :: κ) σ (v :: vs) H := g.push fun _ _ => rfl
theorem GoodB.pushD {d : PyData} {v : V} (g : GoodB K B0 F M ρ κ σ vs H B) (h : Rp K B v d) : GoodB K B0 F M ρ (.d d :: κ) σ (v :: vs) H B := g.push h
theorem GoodB.pushV {v : V} (g : GoodB K B0 F M ρ κ σ vs H B) : GoodB K B0 F M ρ (.v v :: κ) σ (v :: vs) H B := g.push rfl
end

/-! ### every piece of syntax reads itself -/
section
variable (X : Cx)
def tOf (e : Expr) : TE := fun σ H Q => ∀ pins s, Inv X pins σ H s → wpAny (model X.prog X.w) X.A (eval e X.env) (EP X pins σ Q) X.xe s
def tOfT (e : Expr) : TT := fun σ H Q => ∀ pins s, Inv X pins σ H s → wpAny (model X.prog X.w) X.A (isTrue e X.env (eval e X.env)) (TP X pins σ Q) X.xe s
def tOfW (e : Expr) : TT := fun σ H Q => ∀ whole pins s, Inv X pins σ H s → wpAny (model X.prog X.w) X.A (isTrue e X.env whole) (TP X pins σ Q) X.xe s
def tOfA (es : List Expr) : TA := fun σ H Q => ∀ pos pins s, Inv X pins σ H s → wpAny (model X.prog X.w) X.A (spliced (backTo pos (starEach es X.env))) (AP X pins σ Q) X.xe s
def tOfS (st : Stmt) : TS := fun D σ H => ∀ pins s, Inv X pins σ H s → wpAny (model X.prog X.w) X.A (exec st X.env) (SP X pins D) X.xe s
def tOfB (st : List Stmt) : TS := fun D σ H => ∀ pins s, Inv X pins σ H s → wpAny (model X.prog X.w) X.A (execs st X.env) (SP X pins D) X.xe s
def tOfG (tg : Expr) : TG := fun v σ H Q => ∀ pins s u, Inv X pins σ H s → RelV v u → wpAny (model X.prog X.w) X.A (assign tg X.env u) (fun _ s' => ∃ σ' H', Inv X pins σ' H' s' ∧ Q σ' H') X.xe s
def tOfGs (ts : List Expr) : TGs := fun vs σ H Q => ∀ pins s us, Inv X pins σ H s → Vals vs us → wpAny (model X.prog X.w) X.A (assignInOrder ((assignEach ts X.env).map (·.2)) us) (fun _ s' => ∃ σ' H', Inv X pins σ' H' s' ∧ Q σ' H') X.xe s
def tOfI (tg iter : Expr) : TI := fun σ H R => ∀ pins s, Inv X pins σ H s → wpAny (model X.prog X.w) X.A (eval iter X.env) (fun v s1 => wpAny (model X.prog X.w) X.A (pyIter v) (PIE X pins σ tg R) X.xe s1) X.xe s
def tOfO (e : Option Expr) : TO := fun σ H Q => ∀ t, PO X e t → t σ H Q
variable {X} {e : Expr} {es : List Expr} {st : Stmt} {sts : List Stmt} {tg iter : Expr}
theorem pe_self : PE X e (tOf X e) := ⟨fun pins s _ _ _ I h => h pins s I⟩
theorem pt_self : PT X e (tOfT X e) := ⟨fun pins s _ _ _ I h => h pins s I⟩
theorem pw_self : PW X e (tOfW X e) := ⟨fun wh pins s _ _ _ I h => h wh pins s I⟩
theorem pa_self : PA X es (tOfA X es) := ⟨fun pos pins s _ _ _ I h => h pos pins s I⟩
theorem ps_self : PS X st (tOfS X st) := ⟨fun pins s _ _ _ I h => h pins s I⟩
theorem pb_self : PSs X sts (tOfB X sts) := ⟨fun pins s _ _ _ I h => h pins s I⟩
theorem pg_self : PG X tg (tOfG X tg) := ⟨fun pins s _ _ _ u _ I r h => h pins s u I r⟩
theorem pgs_self {ts : List Expr} : PGs X ts (tOfGs X ts) := ⟨fun pins s _ _ _ us _ I r h => h pins s us I r⟩
theorem pi_self : PI X tg iter (tOfI X tg iter) := ⟨fun pins s _ _ _ I h => h pins s I⟩
theorem tOf_of {t : TE} (h : PE X e t) {σ : L2.St} {H : Hp} {Q : VK} (q : t σ H Q) : tOf X e σ H Q := fun pins s I => h.run pins s σ H Q I q
theorem tOfT_of {t : TT} (h : PT X e t) {σ : L2.St} {H : Hp} {Q : Bool → Hp → Prop} (q : t σ H Q) : tOfT X e σ H Q := fun pins s I => h.run pins s σ H Q I q
theorem tOfW_of {t : TT} (h : PW X e t) {σ : L2.St} {H : Hp} {Q : Bool → Hp → Prop} (q : t σ H Q) : tOfW X e σ H Q := fun wh pins s I => h.run wh pins s σ H Q I q
theorem tOfA_of {t : TA} (h : PA X es t) {σ : L2.St} {H : Hp} {Q : List V → Hp → Prop} (q : t σ H Q) : tOfA X es σ H Q := fun pos pins s I => h.run pos pins s σ H Q I q
theorem tOfS_of {t : TS} (h : PS X st t) {σ : L2.St} {H : Hp} {D : Ends} (q : t D σ H) : tOfS X st D σ H := fun pins s I => h.run pins s σ H D I q
theorem tOfB_of {t : TS} (h : PSs X sts t) {σ : L2.St} {H : Hp} {D : Ends} (q : t D σ H) : tOfB X sts D σ H := fun pins s I => h.run pins s σ H D I q
theorem tOfG_of {t : TG} (h : PG X tg t) {v : V} {σ : L2.St} {H : Hp} {Q : L2.St → Hp → Prop} (q : t v σ H Q) : tOfG X tg v σ H Q := fun pins s u I r => h.run pins s σ H v u Q I r q
theorem tOfGs_of {ts : List Expr} {t : TGs} (h : PGs X ts t) {vs : List V} {σ : L2.St} {H : Hp} {Q : L2.St → Hp → Prop} (q : t vs σ H Q) : tOfGs X ts vs σ H Q := fun pins s us I r => h.run pins s σ H vs us Q I r q
theorem tOfI_of {t : TI} (h : PI X tg iter t) {σ : L2.St} {H : Hp} {R : It → Hp → Prop} (q : t σ H R) : tOfI X tg iter σ H R := fun pins s I => h.run pins s σ H R I q
end

/-! ### judgements over data -/
section
variable (X : Cx) (B0 F : Hp) (M : Cs) (ρ κ : List Sl)
def DE (e : Expr) (P : Sl → Cs → Prop) : Prop := ∀ σ vs H Q, Good X.K B0 F M ρ κ σ vs H → (∀ v H' r M', Good X.K B0 F M' ρ (r :: κ) σ (v :: vs) H' → P r M' → Q v H') → tOf X e σ H Q
def DT (e : Expr) (P : Bool → Cs → Prop) : Prop := ∀ σ vs H Q, Good X.K B0 F M ρ κ σ vs H → (∀ b H' M', Good X.K B0 F M' ρ κ σ vs H' → P b M' → Q b H') → tOfT X e σ H Q
def DW (e : Expr) (P : Bool → Cs → Prop) : Prop := ∀ σ vs H Q, Good X.K B0 F M ρ κ σ vs H → (∀ b H' M', Good X.K B0 F M' ρ κ σ vs H' → P b M' → Q b H') → tOfW X e σ H Q
def DA (es : List Expr) (P : List Sl → Cs → Prop) : Prop := ∀ σ vs H Q, Good X.K B0 F M ρ κ σ vs H → (∀ ws H' rs M', ws.length = rs.length → Good X.K B0 F M' ρ (rs ++ κ) σ (ws ++ vs) H' → P rs M' → Q ws H') → tOfA X es σ H Q
structure KK where
  nx : Cs → List Sl → Prop
  rt : Sl → Cs → Prop
  bk : Cs → List Sl → Prop := fun _ _ => False
  ct : Cs → List Sl → Prop := fun _ _ => False
structure Conn (K : Fg) (vs : List V) (k : KK) (D : Ends) : Prop where
  nx : ∀ σ' H' M' ρ', Good K B0 F M' ρ' κ σ' vs H' → k.nx M' ρ' → D.nx σ' H'
  rt : ∀ v H' r M', Good K B0 F M' [] [r] [] [v] H' → k.rt r M' → D.rt v H'
  bk : ∀ σ' H' M' ρ', Good K B0 F M' ρ' κ σ' vs H' → k.bk M' ρ' → D.bk σ' H'
  ct : ∀ σ' H' M' ρ', Good K B0 F M' ρ' κ σ' vs H' → k.ct M' ρ' → D.ct σ' H'
def DS (s : Stmt) (k : KK) : Prop := ∀ σ vs H D, Good X.K B0 F M ρ κ σ vs H → Conn B0 F κ X.K vs k D → tOfS X s D σ H
def DB (s : List Stmt) (k : KK) : Prop := ∀ σ vs H D, Good X.K B0 F M ρ κ σ vs H → Conn B0 F κ X.K vs k D → tOfB X s D σ H
/-- a target takes what r says -/
def DG (r : Sl) (tg : Expr) (P : Cs → List Sl → Prop) : Prop := ∀ σ vs H x Q, Good X.K B0 F M ρ (r :: κ) σ (x :: vs) H → (∀ σ' H' M' ρ', Good X.K B0 F M' ρ' κ σ' vs H' → P M' ρ' → Q σ' H') → tOfG X tg x σ H Q
def DGs (rs : List Sl) (ts : List Expr) (P : Cs → List Sl → Prop) : Prop := ∀ σ vs H xs Q, xs.length = rs.length → Good X.K B0 F M ρ (rs ++ κ) σ (xs ++ vs) H → (∀ σ' H' M' ρ', Good X.K B0 F M' ρ' κ σ' vs H' → P M' ρ' → Q σ' H') → tOfGs X ts xs σ H Q
end
/-- an operation on two values, by their slots -/
def R2D (K : Fg) (B0 F : Hp) (ρ κ : List Sl) (r : R2) (r1 r2 : Sl) (M : Cs) (P : Sl → Cs → Prop) : Prop := ∀ σ vs H x y Q, Good K B0 F M ρ (r2 :: r1 :: κ) σ (y :: x :: vs) H → (∀ v H' r' M', Good K B0 F M' ρ (r' :: κ) σ (v :: vs) H' → P r' M' → Q v H') → r x y H Q
def R1D (K : Fg) (B0 F : Hp) (ρ κ : List Sl) (r : V → Hp → VK → Prop) (r1 : Sl) (M : Cs) (P : Sl → Cs → Prop) : Prop := ∀ σ vs H x Q, Good K B0 F M ρ (r1 :: κ) σ (x :: vs) H → (∀ v H' r' M', Good K B0 F M' ρ (r' :: κ) σ (v :: vs) H' → P r' M' → Q v H') → r x H Q
def RnD (K : Fg) (B0 F : Hp) (ρ κ : List Sl) (r : List V → Hp → VK → Prop) (rs : List Sl) (M : Cs) (P : Sl → Cs → Prop) : Prop := ∀ σ vs H xs Q, xs.length = rs.length → Good K B0 F M ρ (rs ++ κ) σ (xs ++ vs) H → (∀ v H' r' M', Good K B0 F M' ρ (r' :: κ) σ (v :: vs) H' → P r' M' → Q v H') → r xs H Q

section
variable {X : Cx} {B0 F : Hp} {M : Cs} {ρ κ : List Sl} {P : Sl → Cs → Prop} {a b c e : Expr} {pos : Pos}

/-! ### names, constants -/
theorem de_name (i : Nat) {x : Str} {pos : Pos} {r : Sl} (hr : ρ[i]? = some r) (hu : r ≠ .un) (h : P r M) (hN : X.N[i]? = some x := by rfl) (hv : Vis X.env.scope x := by first | exact Or.inl rfl | exact Or.inr (Or.inl rfl) | exact Or.inr (Or.inr rfl)) (hd : (x == ("__debug__" : Str)) = false := by decide)
    (hcd : (x == ("__classdict__" : Str)) = false := by decide) : DE X B0 F M ρ κ (.Name x pos) P := fun σ vs H Q g q => by
  obtain ⟨B, g⟩ := g
  obtain ⟨o, ho, hok⟩ := Paired.get? g.sl hr
  obtain ⟨v, rfl, hv'⟩ := OOk.v hu hok
  exact tOf_of (pe_var hN hv hd hcd) ⟨v, ho, q v H r M ⟨B, g.push hv'⟩ h⟩
theorem de_int {i j pos} (h : P (.d (.int i)) M) : DE X B0 F M ρ κ (.Constant (.int i) j pos) P := fun σ vs H Q g q => tOf_of pe_int (q _ H _ M (g.pushD fun _ _ => Rp.int i) h)
theorem de_bl {i j pos} (h : P (.d (.bool i)) M) : DE X B0 F M ρ κ (.Constant (.bool i) j pos) P := fun σ vs H Q g q => tOf_of pe_bl (q _ H _ M (g.pushD fun _ _ => Rp.bl i) h)
theorem de_non {j pos} (h : P (.d .none) M) : DE X B0 F M ρ κ (.Constant .none j pos) P := fun σ vs H Q g q => tOf_of pe_non (q _ H _ M (g.pushD fun _ _ => Rp.non) h)
theorem de_str {i j pos} (h : P (.d (.str i)) M) : DE X B0 F M ρ κ (.Constant (.str i) j pos) P := fun σ vs H Q g q => tOf_of pe_str (q _ H _ M (g.pushD fun _ _ => Rp.str i) h)
/-- a module's constant, by what stands in the written part -/
theorem de_glob {x : Str} {v : V} {d : PyData} {u : Value} {pos : Pos} (hm : X.mg x = some u) (r : RelV v u) (hd : ∀ H, Rp X.K H v d) (h : P (.d d) M) (hg : Gl X x := by rfl) (hdb : (x == ("__debug__" : Str)) = false := by decide) : DE X B0 F M ρ κ (.Name x pos) P :=
  fun σ vs H Q g q => tOf_of (pe_glob hg hm r hdb) (q _ H _ M (g.pushD fun B _ => hd B) h)
/-- a built-in class as a value -/
theorem de_ty {x : Str} {T : String} {pos : Pos} (hm : X.mg x = none) (hv : bootBuiltins x = some (.type T)) (h : P (.v (.ty T)) M) (hg : Gl X x := by rfl) (hn : x ≠ "__name__" := by decide) (hdb : (x == ("__debug__" : Str)) = false := by decide) : DE X B0 F M ρ κ (.Name x pos) P :=
  fun σ vs H Q g q => tOf_of (pe_bltn (v := .ty T) hg hm hv rfl hn hdb) (q _ H _ M g.pushV h)
/-- weaker wishes -/
theorem DE.mono {P' : Sl → Cs → Prop} (h : DE X B0 F M ρ κ e P) (w : ∀ r M, P r M → P' r M) : DE X B0 F M ρ κ e P' := fun σ vs H Q g q => h σ vs H Q g fun v H' r M' g' p => q v H' r M' g' (w r M' p)
/-- a list cell just made becomes data -/
theorem de_freeze (h : DE X B0 F M ρ κ e fun r M1 => ∃ p xs M2, r = .v (.ref p) ∧ M1 = (p, .lst xs) :: M2 ∧ P (.d (.list xs)) M2) : DE X B0 F M ρ κ e P := fun σ vs H Q g q => h σ vs H Q g fun v H' r M' g' p => by
  obtain ⟨p, xs, M2, rfl, rfl, hp⟩ := p
  have e := g'.ref
  subst e
  obtain ⟨B, g'⟩ := g'
  exact q _ H' _ M2 g'.pop.freeze hp

/-! ### operators -/
theorem de_op {op : Operator} {r : R2} (ho : OpR X (binaryOp op) r) (h : DE X B0 F M ρ κ a fun r1 M1 => DE X B0 F M1 ρ (r1 :: κ) b fun r2 M2 => R2D X.K B0 F ρ κ r r1 r2 M2 P) : DE X B0 F M ρ κ (.BinOp a op b pos) P :=
  fun σ vs H Q g q => tOf_of (pe_op ho pe_self pe_self) (h σ vs H _ g fun x H1 r1 M1 g1 h1 => h1 σ (x :: vs) H1 _ g1 fun y H2 r2 M2 g2 h2 => h2 σ vs H2 x y Q g2 q)
theorem de_unop {op : UnaryOp} {r : V → Hp → VK → Prop} (ho : UnR X (unaryOp op) r) (h : DE X B0 F M ρ κ a fun r1 M1 => R1D X.K B0 F ρ κ r r1 M1 P) : DE X B0 F M ρ κ (.UnaryOp op a pos) P :=
  fun σ vs H Q g q => tOf_of (pe_un ho pe_self) (h σ vs H _ g fun x H1 r1 M1 g1 h1 => h1 σ vs H1 x Q g1 q)
theorem de_cmp {op : CmpOp} {r : R2} (ho : OpR X (compareOp op) r) (h : DE X B0 F M ρ κ a fun r1 M1 => DE X B0 F M1 ρ (r1 :: κ) b fun r2 M2 => R2D X.K B0 F ρ κ r r1 r2 M2 P) (hm : behindInMarks op b = false := by first | rfl | exact nomark _) : DE X B0 F M ρ κ (.Compare a [op] [b] pos) P :=
  fun σ vs H Q g q => tOf_of (pe_cmpR ho pe_self pe_self hm) (h σ vs H _ g fun x H1 r1 M1 g1 h1 => h1 σ (x :: vs) H1 _ g1 fun y H2 r2 M2 g2 h2 => h2 σ vs H2 x y Q g2 q)
theorem dt_cmp {op : CmpOp} {r : R2} {P : Bool → Cs → Prop} (ho : OpR X (compareOp op) r) (h : DE X B0 F M ρ κ a fun r1 M1 => DE X B0 F M1 ρ (r1 :: κ) b fun r2 M2 => R2D X.K B0 F ρ κ r r1 r2 M2 fun r' M' => ∃ k, r' = .d (.bool k) ∧ P k M') (hm : behindInMarks op b = false := by first | rfl | exact nomark _) : DT X B0 F M ρ κ (.Compare a [op] [b] pos) P :=
  fun σ vs H Q g q => tOfT_of (pt_cmpR ho pe_self pe_self hm) (h σ vs H _ g fun x H1 r1 M1 g1 h1 => h1 σ (x :: vs) H1 _ g1 fun y H2 r2 M2 g2 h2 => h2 σ vs H2 x y _ g2 fun v H' r' M' g' p => by
    obtain ⟨k, rfl, p⟩ := p
    have e := g'.bl
    subst e
    exact ⟨k, rfl, q k H' M' g'.pop p⟩)
/-- a chain a < b < c -/
theorem de_chain {op op' : CmpOp} {r r' : R2} (ho : OpR X (compareOp op) r) (ho' : OpR X (compareOp op') r')
    (h : DE X B0 F M ρ κ a fun r1 M1 => DE X B0 F M1 ρ (r1 :: κ) b fun r2 M2 => R2D X.K B0 F ρ (r2 :: r1 :: κ) r r1 r2 M2 fun z M3 => ∃ k, z = .d (.bool k) ∧
      (k = true → DE X B0 F M3 ρ (r2 :: r1 :: κ) c fun r3 M4 => R2D X.K B0 F ρ κ r' r2 r3 M4 P) ∧ (k = false → P (.d (.bool false)) M3))
    (pe : PE X (.Compare a [op, op'] [b, c] pos) (tChain r r' (tOf X a) (tOf X b) (tOf X c)) := by first | exact pe_chain ho ho' pe_self pe_self pe_self (nomark _) (nomark _) | exact pe_chain ho ho' pe_self pe_self pe_self) : DE X B0 F M ρ κ (.Compare a [op, op'] [b, c] pos) P := fun σ vs H Q g q => by
  refine tOf_of pe ?_
  refine h σ vs H _ g fun x H1 r1 M1 g1 h1 => h1 σ (x :: vs) H1 _ g1 fun y H2 r2 M2 g2 h2 => ?_
  have g2' : Good X.K B0 F M2 ρ (r2 :: r1 :: r2 :: r1 :: κ) σ (y :: x :: y :: x :: vs) H2 := by
    obtain ⟨B, g2⟩ := g2
    cases g2.st with
    | cons s1 s2 =>
      cases s2 with
      | cons s2 s3 => exact ⟨B, g2.stk (.cons s1 (.cons s2 (.cons s1 (.cons s2 s3))))⟩
  refine h2 σ (y :: x :: vs) H2 x y _ g2' fun v H' r' M' g' p => ?_
  obtain ⟨k, rfl, p1, p2⟩ := p
  have e := g'.bl
  subst e
  refine ⟨k, rfl, ?_⟩
  cases k with
  | true =>
    refine p1 rfl σ (y :: x :: vs) H' _ g'.pop fun z H4 r3 M4 g4 h4 => ?_
    refine h4 σ vs H4 y z Q ?_ q
    obtain ⟨B, g4⟩ := g4
    cases g4.st with
    | cons s1 s2 =>
      cases s2 with
      | cons s2 s3 =>
        cases s3 with
        | cons s3 s4 => exact ⟨B, g4.stk (.cons s1 (.cons s2 s4))⟩
  | false =>
    refine q _ H' _ M' ?_ (p2 rfl)
    obtain ⟨B, g'⟩ := g'
    cases g'.st with
    | cons s1 s2 =>
      cases s2 with
      | cons s2 s3 =>
        cases s3 with
        | cons s3 s4 => exact ⟨B, g'.stk (.cons s1 s4)⟩

section
variable {K : Fg}
theorem r2_I0 {f : Int → Int → V} {i j : Int} {d : PyData} (hd : ∀ H, Rp K H (f i j) d) (h : P (.d d) M) : R2D K B0 F ρ κ (rI0 f) (.d (.int i)) (.d (.int j)) M P := fun σ vs H x y Q g q => by
  have e := g.int
  subst e
  have e := g.pop.int
  subst e
  exact ⟨i, j, rfl, rfl, q _ H _ M (g.pop.pop.pushD fun B _ => hd B) h⟩
theorem r2_I {C : Int → Int → Prop} {f : Int → Int → V} {i j : Int} {d : PyData} (hd : ∀ H, Rp K H (f i j) d) (hc : C i j) (h : P (.d d) M) : R2D K B0 F ρ κ (rI C f) (.d (.int i)) (.d (.int j)) M P := fun σ vs H x y Q g q => by
  have e := g.int
  subst e
  have e := g.pop.int
  subst e
  exact ⟨i, j, rfl, rfl, hc, q _ H _ M (g.pop.pop.pushD fun B _ => hd B) h⟩
theorem r1_U {f : Int → V} {i : Int} {d : PyData} (hd : ∀ H, Rp K H (f i) d) (h : P (.d d) M) : R1D K B0 F ρ κ (rU f) (.d (.int i)) M P := fun σ vs H x Q g q => by
  have e := g.int
  subst e
  exact ⟨i, rfl, q _ H _ M (g.pop.pushD fun B _ => hd B) h⟩
/-- == of two flat values -/
def flatD : PyData → Option V
  | .none => some .non
  | .bool b => some (.bl b)
  | .int i => some (.int i)
  | .str x => some (.str x)
  | _ => none
theorem Rp.flat {H : Hp} {v w : V} {d : PyData} (h : Rp K H v d) (f : flatD d = some w) : v = w := by
  cases h <;> first | exact Option.some.inj f | cases f
theorem Rp.of_flat {H : Hp} {w : V} {d : PyData} (f : flatD d = some w) : Rp K H w d := by
  cases d <;> first | (cases Option.some.inj f; constructor) | cases f
theorem Good.flat {i : PyData} {σ vs H} {v w : V} (g : Good K B0 F M ρ (.d i :: κ) σ (v :: vs) H) (f : flatD i = some w) : v = w := by
  obtain ⟨B, g⟩ := g; exact Rp.flat g.fst f
theorem r2_eq {x y : PyData} {v w : V} (hx : flatD x = some v) (hy : flatD y = some w) (hs : scal v w = true) (h : P (.d (.bool (decide (v = w)))) M) : R2D K B0 F ρ κ rEq (.d x) (.d y) M P := fun σ vs H x y Q g q => by
  have e := g.flat hy
  subst e
  have e := g.pop.flat hx
  subst e
  exact ⟨hs, q _ H _ M (g.pop.pop.pushD fun B _ => Rp.bl _) h⟩
theorem r2_ne {x y : PyData} {v w : V} (hx : flatD x = some v) (hy : flatD y = some w) (hs : scal v w = true) (h : P (.d (.bool (!decide (v = w)))) M) : R2D K B0 F ρ κ rNe (.d x) (.d y) M P := fun σ vs H x y Q g q => by
  have e := g.flat hy
  subst e
  have e := g.pop.flat hx
  subst e
  exact ⟨hs, q _ H _ M (g.pop.pop.pushD fun B _ => Rp.bl _) h⟩
theorem decV {i j : Int} : decide (V.int i = V.int j) = decide (i = j) := by
  by_cases h : i = j
  · subst h; simp
  · rw [decide_eq_false h, decide_eq_false (fun e => h (V.int.inj e))]
theorem r2_eqI {i j : Int} (h : P (.d (.bool (decide (i = j)))) M) : R2D K B0 F ρ κ rEq (.d (.int i)) (.d (.int j)) M P := r2_eq rfl rfl rfl (by rw [decV]; exact h)
theorem r2_neI {i j : Int} (h : P (.d (.bool (!decide (i = j)))) M) : R2D K B0 F ρ κ rNe (.d (.int i)) (.d (.int j)) M P := r2_ne rfl rfl rfl (by rw [decV]; exact h)
/-- is None, is not None -/
theorem r2_isN {x : PyData} (h : P (.d (.bool (match x with | .none => true | _ => false))) M) : R2D K B0 F ρ κ (fun x y H Q => y = .non ∧ Q (.bl (decide (x = .non))) H) (.d x) (.d .none) M P := fun σ vs H v y Q g q => by
  have e : y = .non := by obtain ⟨B, g⟩ := g; exact Rp.non_inv g.fst
  subst e
  refine ⟨rfl, q _ H _ M (g.pop.pop.pushD fun B _ => ?_) h⟩
  obtain ⟨B, g⟩ := g
  have := g.pop.fst
  cases (show Rp K B v x from this) <;> exact Rp.bl _
/-- data of any depth, ==, != -/
theorem r2_eqD {x y : PyData} (hx : SeqAt.shaped x = true) (hy : SeqAt.shaped y = true) (h : P (.d (.bool (PyData.eqv x y))) M) : R2D K B0 F ρ κ (rEqD K) (.d x) (.d y) M P := fun σ vs H v w Q g q => by
  refine ⟨x, y, ?_, ?_, hx, hy, q _ H _ M (g.pop.pop.pushD fun B _ => Rp.bl _) h⟩
  · obtain ⟨B, g⟩ := g
    have r : Rp K B v x := g.pop.fst
    exact (r.ext g.bh).dp
  · obtain ⟨B, g⟩ := g
    have r : Rp K B w y := g.fst
    exact (r.ext g.bh).dp
theorem r2_neD {x y : PyData} (hx : SeqAt.shaped x = true) (hy : SeqAt.shaped y = true) (h : P (.d (.bool (!PyData.eqv x y))) M) : R2D K B0 F ρ κ (rNeD K) (.d x) (.d y) M P := fun σ vs H v w Q g q => by
  refine ⟨x, y, ?_, ?_, hx, hy, q _ H _ M (g.pop.pop.pushD fun B _ => Rp.bl _) h⟩
  · obtain ⟨B, g⟩ := g
    have r : Rp K B v x := g.pop.fst
    exact (r.ext g.bh).dp
  · obtain ⟨B, g⟩ := g
    have r : Rp K B w y := g.fst
    exact (r.ext g.bh).dp
end

/-! ### and, or, not, if .. else as values and tests -/
variable {rest : List Expr}
theorem de_one {op} (h : DE X B0 F M ρ κ a P) : DE X B0 F M ρ κ (.BoolOp op [a] pos) P := fun σ vs H Q g q => tOf_of (pe_one pe_self) (h σ vs H Q g q)
theorem de_and (h : DE X B0 F M ρ κ a fun r M1 => ∃ k, r = .d (.bool k) ∧ (k = true → DE X B0 F M1 ρ κ (.BoolOp .And (b :: rest) pos) P) ∧ (k = false → P (.d (.bool false)) M1)) : DE X B0 F M ρ κ (.BoolOp .And (a :: b :: rest) pos) P :=
  fun σ vs H Q g q => tOf_of (pe_and pe_self pe_self) (h σ vs H _ g fun x H1 r1 M1 g1 h1 => by
    obtain ⟨k, rfl, p1, p2⟩ := h1
    have e := g1.bl
    subst e
    refine ⟨k, rfl, ?_⟩
    cases k with
    | true => exact p1 rfl σ vs H1 Q g1.pop q
    | false => exact q _ H1 _ M1 g1 (p2 rfl))
theorem de_or (h : DE X B0 F M ρ κ a fun r M1 => ∃ k, r = .d (.bool k) ∧ (k = false → DE X B0 F M1 ρ κ (.BoolOp .Or (b :: rest) pos) P) ∧ (k = true → P (.d (.bool true)) M1)) : DE X B0 F M ρ κ (.BoolOp .Or (a :: b :: rest) pos) P :=
  fun σ vs H Q g q => tOf_of (pe_or pe_self pe_self) (h σ vs H _ g fun x H1 r1 M1 g1 h1 => by
    obtain ⟨k, rfl, p1, p2⟩ := h1
    have e := g1.bl
    subst e
    refine ⟨k, rfl, ?_⟩
    cases k with
    | false => exact p1 rfl σ vs H1 Q g1.pop q
    | true => exact q _ H1 _ M1 g1 (p2 rfl))
theorem de_not (h : DE X B0 F M ρ κ a fun r M1 => ∃ k, r = .d (.bool k) ∧ P (.d (.bool (!k))) M1) : DE X B0 F M ρ κ (.UnaryOp .Not a pos) P :=
  fun σ vs H Q g q => tOf_of (pe_not pe_self) (h σ vs H _ g fun x H1 r1 M1 g1 h1 => by
    obtain ⟨k, rfl, p⟩ := h1
    have e := g1.bl
    subst e
    exact ⟨k, rfl, q _ H1 _ M1 (g1.pop.pushD fun _ _ => Rp.bl _) p⟩)
/-- the second operand's value is told ahead: no two ways -/
theorem de_andP (h : DE X B0 F M ρ κ a fun r M1 => ∃ k k2, r = .d (.bool k) ∧ (k = true → DE X B0 F M1 ρ κ (.BoolOp .And (b :: rest) pos) fun r' M2 => r' = .d (.bool k2) ∧ M2 = M1) ∧ P (.d (.bool (k && k2))) M1) : DE X B0 F M ρ κ (.BoolOp .And (a :: b :: rest) pos) P :=
  de_and (h.mono fun r M1 ⟨k, k2, e, p1, p2⟩ => ⟨k, e, fun hk => (p1 hk).mono fun r' M2 ⟨e1, e2⟩ => by subst e1 e2 hk; exact p2, fun hk => by subst hk; exact p2⟩)
theorem de_orP (h : DE X B0 F M ρ κ a fun r M1 => ∃ k k2, r = .d (.bool k) ∧ (k = false → DE X B0 F M1 ρ κ (.BoolOp .Or (b :: rest) pos) fun r' M2 => r' = .d (.bool k2) ∧ M2 = M1) ∧ P (.d (.bool (k || k2))) M1) : DE X B0 F M ρ κ (.BoolOp .Or (a :: b :: rest) pos) P :=
  de_or (h.mono fun r M1 ⟨k, k2, e, p1, p2⟩ => ⟨k, e, fun hk => (p1 hk).mono fun r' M2 ⟨e1, e2⟩ => by subst e1 e2 hk; exact p2, fun hk => by subst hk; exact p2⟩)
variable {PT : Bool → Cs → Prop}
theorem DT.mono {P P' : Bool → Cs → Prop} (h : DT X B0 F M ρ κ e P) (w : ∀ r M, P r M → P' r M) : DT X B0 F M ρ κ e P' := fun σ vs H Q g q => h σ vs H Q g fun v H' M' g' p => q v H' M' g' (w v M' p)
theorem DW.mono {P P' : Bool → Cs → Prop} (h : DW X B0 F M ρ κ e P) (w : ∀ r M, P r M → P' r M) : DW X B0 F M ρ κ e P' := fun σ vs H Q g q => h σ vs H Q g fun v H' M' g' p => q v H' M' g' (w v M' p)
theorem dt_w (h : DW X B0 F M ρ κ e PT) : DT X B0 F M ρ κ e PT := fun σ vs H Q g q => tOfT_of pw_self.pt (h σ vs H Q g q)
theorem dw_and1 (h : DT X B0 F M ρ κ a PT) : DW X B0 F M ρ κ (.BoolOp .And [a] pos) PT := fun σ vs H Q g q => tOfW_of (pw_and1 pt_self) (h σ vs H Q g q)
theorem dw_or1 (h : DT X B0 F M ρ κ a PT) : DW X B0 F M ρ κ (.BoolOp .Or [a] pos) PT := fun σ vs H Q g q => tOfW_of (pw_or1 pt_self) (h σ vs H Q g q)
theorem dw_and (h : DT X B0 F M ρ κ a fun k M1 => (k = true → DW X B0 F M1 ρ κ (.BoolOp .And (b :: rest) pos) PT) ∧ (k = false → PT false M1)) : DW X B0 F M ρ κ (.BoolOp .And (a :: b :: rest) pos) PT :=
  fun σ vs H Q g q => tOfW_of (pw_and pt_self pw_self) (h σ vs H _ g fun k H1 M1 g1 h1 => by
    cases k with
    | true => exact h1.1 rfl σ vs H1 Q g1 q
    | false => exact q _ H1 M1 g1 (h1.2 rfl))
theorem dw_or (h : DT X B0 F M ρ κ a fun k M1 => (k = false → DW X B0 F M1 ρ κ (.BoolOp .Or (b :: rest) pos) PT) ∧ (k = true → PT true M1)) : DW X B0 F M ρ κ (.BoolOp .Or (a :: b :: rest) pos) PT :=
  fun σ vs H Q g q => tOfW_of (pw_or pt_self pw_self) (h σ vs H _ g fun k H1 M1 g1 h1 => by
    cases k with
    | false => exact h1.1 rfl σ vs H1 Q g1 q
    | true => exact q _ H1 M1 g1 (h1.2 rfl))
theorem dw_andP (h : DT X B0 F M ρ κ a fun k M1 => ∃ k2, (k = true → DW X B0 F M1 ρ κ (.BoolOp .And (b :: rest) pos) fun k' M2 => k' = k2 ∧ M2 = M1) ∧ PT (k && k2) M1) : DW X B0 F M ρ κ (.BoolOp .And (a :: b :: rest) pos) PT :=
  dw_and (h.mono fun k M1 ⟨k2, p1, p2⟩ => ⟨fun hk => (p1 hk).mono fun r' M2 ⟨e1, e2⟩ => by subst e1 e2 hk; exact p2, fun hk => by subst hk; exact p2⟩)
theorem dw_orP (h : DT X B0 F M ρ κ a fun k M1 => ∃ k2, (k = false → DW X B0 F M1 ρ κ (.BoolOp .Or (b :: rest) pos) fun k' M2 => k' = k2 ∧ M2 = M1) ∧ PT (k || k2) M1) : DW X B0 F M ρ κ (.BoolOp .Or (a :: b :: rest) pos) PT :=
  dw_or (h.mono fun k M1 ⟨k2, p1, p2⟩ => ⟨fun hk => (p1 hk).mono fun r' M2 ⟨e1, e2⟩ => by subst e1 e2 hk; exact p2, fun hk => by subst hk; exact p2⟩)
theorem dt_not (h : DT X B0 F M ρ κ a fun k M1 => PT (!k) M1) : DT X B0 F M ρ κ (.UnaryOp .Not a pos) PT :=
  fun σ vs H Q g q => tOfT_of (pt_not pt_self) (h σ vs H _ g fun k H1 M1 g1 h1 => q _ H1 M1 g1 h1)
/-- an expression whose value is a bool -/
theorem dt_val (h : DE X B0 F M ρ κ e fun r M1 => ∃ k, r = .d (.bool k) ∧ PT k M1) (he : ∀ whole, isTrue e X.env whole = (do let v ← whole; standAt e.pos; holding [v] (truthy v)) := by intro _; rfl) : DT X B0 F M ρ κ e PT :=
  fun σ vs H Q g q => tOfT_of (pt_val pe_self he) (h σ vs H _ g fun x H1 r1 M1 g1 h1 => by
    obtain ⟨k, rfl, p⟩ := h1
    have e := g1.bl
    subst e
    exact ⟨k, rfl, q _ H1 M1 g1.pop p⟩)
/-- truth of a datum -/
def truD : PyData → Bool
  | .none => false
  | .bool b => b
  | .int i => i != 0
  | .str x => (x.length : Int) != 0
  | .list xs => !xs.isEmpty
  | .tuple xs => !xs.isEmpty
  | _ => false
theorem isEmpty_rp {K : Fg} {H : Hp} {vs : List V} {ds : List PyData} (h : RpA K H vs ds) : (!vs.isEmpty) = !ds.isEmpty := by cases h <;> rfl
theorem tru_of {K : Fg} {H : Hp} {v : V} {d : PyData} (h : Rp K H v d) (hs : ∀ x, d = .str x → x.length ≤ sizeLine) : TruV K v H (truD d) := by
  cases h with
  | non => rfl
  | bl b => rfl
  | int i => rfl
  | str x => exact ⟨hs x rfl, rfl⟩
  | lst h h2 => exact .inl ⟨_, SqL.of h, (isEmpty_rp h2).symm⟩
  | tup h h2 => exact .inr (.inl ⟨_, h, (isEmpty_rp h2).symm⟩)
theorem dt_truth (h : DE X B0 F M ρ κ e fun r M1 => ∃ d, r = .d d ∧ (∀ x, d = .str x → x.length ≤ sizeLine) ∧ PT (truD d) M1) (he : ∀ whole, isTrue e X.env whole = (do let v ← whole; standAt e.pos; holding [v] (truthy v)) := by intro _; rfl) : DT X B0 F M ρ κ e PT :=
  fun σ vs H Q g q => tOfT_of (pt_truth pe_self he) (h σ vs H _ g fun x H1 r1 M1 g1 h1 => by
    obtain ⟨d, rfl, hs, p⟩ := h1
    refine ⟨truD d, ?_, q _ H1 M1 g1.pop p⟩
    obtain ⟨B, g1⟩ := g1
    exact tru_of (Rp.ext g1.bh g1.fst) hs)
/-- truth of a cell's list -/
theorem dt_truthC (h : DE X B0 F M ρ κ e fun r M1 => ∃ p xs, r = .v (.ref p) ∧ (p, .lst xs) ∈ M1 ∧ PT (!xs.isEmpty) M1) (he : ∀ whole, isTrue e X.env whole = (do let v ← whole; standAt e.pos; holding [v] (truthy v)) := by intro _; rfl) : DT X B0 F M ρ κ e PT :=
  fun σ vs H Q g q => tOfT_of (pt_truth pe_self he) (h σ vs H _ g fun x H1 r1 M1 g1 h1 => by
    obtain ⟨p, xs, rfl, hm, hp⟩ := h1
    have e := g1.ref
    subst e
    refine ⟨!xs.isEmpty, ?_, q _ H1 M1 g1.pop hp⟩
    obtain ⟨B, g1⟩ := g1
    obtain ⟨_, _, o, ho, ws, rfl, hw⟩ := g1.cells _ hm
    exact .inl ⟨ws, SqL.of ho, (isEmpty_rp hw).symm⟩)
theorem de_ifexp (h : DT X B0 F M ρ κ c fun k M1 => (k = true → DE X B0 F M1 ρ κ a P) ∧ (k = false → DE X B0 F M1 ρ κ b P)) : DE X B0 F M ρ κ (.IfExp c a b pos) P :=
  fun σ vs H Q g q => tOf_of (pe_ifExp pt_self pe_self pe_self) (h σ vs H _ g fun k H1 M1 g1 h1 => by
    cases k with
    | true => exact h1.1 rfl σ vs H1 Q g1 q
    | false => exact h1.2 rfl σ vs H1 Q g1 q)

/-! ### arguments, displays -/
variable {es : List Expr} {PA : List Sl → Cs → Prop}
theorem da_nil (h : PA [] M) : DA X B0 F M ρ κ [] PA := fun σ vs H Q g q => tOfA_of pa_nil (q [] H [] M rfl g h)
theorem stk_swap {K : Fg} {F B : Hp} {r : Sl} {v : V} : ∀ {ws : List V} {rs : List Sl} {κ : List Sl} {vs : List V}, ws.length = rs.length → KOk K F B (ws ++ v :: vs) (rs ++ r :: κ) → KOk K F B (v :: (ws ++ vs)) (r :: (rs ++ κ))
  | [], [], _, _, _, h => h
  | w :: ws, x :: rs, κ, vs, hl, h => by
    cases h with
    | cons h1 h2 =>
      have := stk_swap (ws := ws) (rs := rs) (by simpa using hl) h2
      cases this with
      | cons h3 h4 => exact .cons h3 (.cons h1 h4)
theorem da_cons (h : DE X B0 F M ρ κ e fun r M1 => DA X B0 F M1 ρ (r :: κ) es fun rs M2 => PA (r :: rs) M2) (hs : starEach (e :: es) X.env = (false, eval e X.env) :: starEach es X.env := by rfl) : DA X B0 F M ρ κ (e :: es) PA :=
  fun σ vs H Q g q => tOfA_of (pa_cons pe_self pa_self hs) (h σ vs H _ g fun x H1 r1 M1 g1 h1 => h1 σ (x :: vs) H1 _ g1 fun ws H2 rs M2 hl g2 h2 => q (x :: ws) H2 (r1 :: rs) M2 (by simp [hl]) (by
    obtain ⟨B, g2⟩ := g2
    exact ⟨B, g2.stk (stk_swap hl g2.st)⟩) h2)
theorem kok_split {K : Fg} {F B : Hp} : ∀ {ws : List V} {rs : List Sl} {κ : List Sl} {vs : List V}, ws.length = rs.length → KOk K F B (ws ++ vs) (rs ++ κ) → KOk K F B ws rs ∧ KOk K F B vs κ
  | [], [], _, _, _, h => ⟨.nil, h⟩
  | w :: ws, x :: rs, κ, vs, hl, h => by
    cases h with
    | cons h1 h2 =>
      obtain ⟨h3, h4⟩ := kok_split (ws := ws) (rs := rs) (by simpa using hl) h2
      exact ⟨.cons h1 h3, h4⟩
theorem rpa_of {K : Fg} {F B : Hp} : ∀ {ws : List V} {ds : List PyData}, KOk K F B ws (ds.map Sl.d) → RpA K B ws ds
  | _, [], h => by cases h; exact .nil
  | _, d :: ds, h => by
    cases h with
    | cons h1 h2 => exact .cons h1 (rpa_of h2)
/-- (a, b, ..) -/
theorem de_tup {x1} (h : DA X B0 F M ρ κ es fun rs M1 => ∃ ds, rs = ds.map Sl.d ∧ ds.length ≤ 100000 ∧ P (.d (.tuple ds)) M1) : DE X B0 F M ρ κ (.Tuple es x1 pos) P :=
  fun σ vs H Q g q => tOf_of (pe_tup pa_self) (h σ vs H _ g fun ws H1 rs M1 hl g1 h1 => by
    obtain ⟨ds, rfl, hz, p⟩ := h1
    have hl' : ws.length = ds.length := by simpa using hl
    refine ⟨by rw [hl']; exact Nat.le_trans hz (by decide), fun a ha => q _ _ _ M1 ?_ p⟩
    obtain ⟨B, g1⟩ := g1
    obtain ⟨h3, h4⟩ := kok_split hl g1.st
    have g2 := (g1.stk h4).laid (o := .tup ws) ha
    have bp : B a = none := g1.bh.free ha
    exact ⟨_, g2.pushD (Rp.tup (SqT.of upd_same) ((rpa_of h3).ext fun b u z => by rw [upd_ne (ne_of_none z bp)]; exact z))⟩)
/-- [a, b, ..]: a cell -/
theorem de_lstC (h : DA X B0 F M ρ κ es fun rs M1 => ∃ ds, rs = ds.map Sl.d ∧ ds.length ≤ 100000 ∧ ∀ p, P (.v (.ref p)) ((p, .lst ds) :: M1)) : DE X B0 F M ρ κ (.List es pos) P :=
  fun σ vs H Q g q => tOf_of (pe_lst pa_self) (h σ vs H _ g fun ws H1 rs M1 hl g1 h1 => by
    obtain ⟨ds, rfl, hz, p⟩ := h1
    have hl' : ws.length = ds.length := by simpa using hl
    refine ⟨by rw [hl']; exact Nat.le_trans hz (by decide), fun a ha => q _ _ _ _ ?_ (p a)⟩
    obtain ⟨B, g1⟩ := g1
    obtain ⟨h3, h4⟩ := kok_split hl g1.st
    exact ⟨_, ((g1.stk h4).cell (c := .lst ds) ha ⟨ws, rfl, rpa_of h3⟩).pushV⟩)
theorem de_lst (h : DA X B0 F M ρ κ es fun rs M1 => ∃ ds, rs = ds.map Sl.d ∧ ds.length ≤ 100000 ∧ P (.d (.list ds)) M1) : DE X B0 F M ρ κ (.List es pos) P :=
  de_freeze (de_lstC (fun σ vs H Q g q => h σ vs H Q g fun ws H' rs M' hl g' ⟨ds, e, hz, p⟩ => q ws H' rs M' hl g' ⟨ds, e, hz, fun a => ⟨a, ds, M', rfl, rfl, p⟩⟩))
/-- a list of values of any kind (cells among them): a raw cell -/
theorem vs_of {K : Fg} {F B : Hp} : ∀ {ws xs : List V}, KOk K F B ws (xs.map Sl.v) → ws = xs
  | _, [], h => by cases h; rfl
  | _, d :: ds, h => by
    cases h with
    | cons h1 h2 => rw [show _ = d from h1, vs_of h2]

/-! ### calls of built-ins -/
variable {x : Str} {p : Pos} {id T : String} {r : List V → Hp → VK → Prop}
theorem de_callB (hc : CallR X (.builtin id) r) (hm : X.mg x = none) (hv : bootBuiltins x = some (.builtin id)) (h : DA X B0 F M ρ κ (e :: es) fun rs M1 => RnD X.K B0 F ρ κ r rs M1 P) (hg : Gl X x := by rfl) (hn : x ≠ "__name__" := by decide) (hdb : (x == ("__debug__" : Str)) = false := by decide)
    (he : starEach (e :: es) X.env = (false, eval e X.env) :: starEach es X.env := by rfl) (hpl : (backTo pos (starEach es X.env)).any (·.1) = false := by rfl) : DE X B0 F M ρ κ (.Call (.Name x p) (e :: es) [] pos) P :=
  fun σ vs H Q g q => tOf_of (pe_callB hc hg hm hv pa_self hn hdb he hpl) (h σ vs H _ g fun ws H1 rs M1 hl g1 h1 => h1 σ vs H1 ws Q hl g1 q)
theorem de_callTy (hc : CallR X (.type T) r) (hm : X.mg x = none) (hv : bootBuiltins x = some (.type T)) (h : DA X B0 F M ρ κ (e :: es) fun rs M1 => RnD X.K B0 F ρ κ r rs M1 P) (hg : Gl X x := by rfl) (hn : x ≠ "__name__" := by decide) (hdb : (x == ("__debug__" : Str)) = false := by decide)
    (he : starEach (e :: es) X.env = (false, eval e X.env) :: starEach es X.env := by rfl) (hpl : (backTo pos (starEach es X.env)).any (·.1) = false := by rfl) : DE X B0 F M ρ κ (.Call (.Name x p) (e :: es) [] pos) P :=
  fun σ vs H Q g q => tOf_of (pe_callTy hc hg hm hv pa_self hn hdb he hpl) (h σ vs H _ g fun ws H1 rs M1 hl g1 h1 => h1 σ vs H1 ws Q hl g1 q)

/-! ### blocks, statements -/
variable {k : KK} {s : Stmt} {ss : List Stmt}
theorem db_nil (h : k.nx M ρ) : DB X B0 F M ρ κ [] k := fun σ vs H D g c => tOfB_of pss_nil (c.nx σ H M ρ g h)
theorem db_cons (h : DS X B0 F M ρ κ s { k with nx := fun M' ρ' => DB X B0 F M' ρ' κ ss k }) : DB X B0 F M ρ κ (s :: ss) k :=
  fun σ vs H D g c => tOfB_of (pss_cons ps_self pb_self) (h σ vs H { D with nx := tOfB X ss D } g ⟨fun σ' H' M' ρ' g' n => n σ' vs H' D g' c, c.rt, c.bk, c.ct⟩)
theorem ds_pass (h : k.nx M ρ) : DS X B0 F M ρ κ (.Pass pos) k := fun σ vs H D g c => tOfS_of ps_pass (c.nx σ H M ρ g h)
theorem ds_break (h : k.bk M ρ) : DS X B0 F M ρ κ (.Break pos) k := fun σ vs H D g c => tOfS_of ps_break (c.bk σ H M ρ g h)
theorem ds_cont (h : k.ct M ρ) : DS X B0 F M ρ κ (.Continue pos) k := fun σ vs H D g c => tOfS_of ps_continue (c.ct σ H M ρ g h)
theorem ds_expr (h : DE X B0 F M ρ κ e fun _ M1 => k.nx M1 ρ) (hs : swapsWith e none pos.line X.env = pure false := by rfl) : DS X B0 F M ρ κ (.Expr e pos) k :=
  fun σ vs H D g c => tOfS_of (ps_expr pe_self hs) (h σ vs H _ g fun v H1 r M1 g1 n => c.nx σ H1 M1 ρ g1.pop n)
theorem Good.ret {K : Fg} {σ : L2.St} {vs : List V} {H : Hp} {r : Sl} {v : V} (g : Good K B0 F M ρ (r :: κ) σ (v :: vs) H) : Good K B0 F M [] [r] [] [v] H := by
  obtain ⟨B, g⟩ := g
  exact ⟨B, (g.stk (.cons g.fst .nil)).slt .nil⟩
theorem Good.dropM {K : Fg} {σ : L2.St} {vs : List V} {H : Hp} (j : Nat) (g : Good K B0 F M ρ κ σ vs H) : Good K B0 F (M.drop j) ρ κ σ vs H := by
  obtain ⟨B, g⟩ := g
  exact ⟨B, g.b0, g.bh, g.fh, g.new, fun c hc => g.cells c (List.mem_of_mem_drop hc), (by rw [List.map_drop]; exact g.nd.sublist (List.drop_sublist _ _)), g.sl, g.st⟩
theorem ds_ret (h : DE X B0 F M ρ κ e fun r M1 => k.rt r M1) : DS X B0 F M ρ κ (.Return (some e) pos) k :=
  fun σ vs H D g c => tOfS_of (ps_ret pe_self) (h σ vs H _ g fun v H1 r M1 g1 n => c.rt v H1 r M1 g1.ret n)
/-- the first j cells are forgotten -/
theorem ds_retM (j : Nat) (h : DE X B0 F M ρ κ e fun r M1 => k.rt r (M1.drop j)) : DS X B0 F M ρ κ (.Return (some e) pos) k :=
  fun σ vs H D g c => tOfS_of (ps_ret pe_self) (h σ vs H _ g fun v H1 r M1 g1 n => c.rt v H1 r (M1.drop j) (g1.ret.dropM j) n)
theorem ds_set (i : Nat) {x : Str} {pos' : Pos} (h : DE X B0 F M ρ κ e fun r M1 => k.nx M1 (ρ.set i r)) (hN : X.N.Nodup := by exact (by assumption)) (hi : X.N[i]? = some x := by rfl) (hx : Loc X.env.scope x := by first | exact Or.inl rfl | exact Or.inr rfl)
    (hs : swapsWith e (some (.Name x pos')) pos.line X.env = pure false := by rfl) (hf : X.fn x = true ∨ X.env.scope.names.lookup x = some .local := by first | exact .inl rfl | exact .inr rfl) :
    DS X B0 F M ρ κ (.Assign [.Name x pos'] e pos) k :=
  fun σ vs H D g c => tOfS_of (ps_set hN hi hx pe_self hs hf) (h σ vs H _ g fun v H1 r M1 g1 n => c.nx _ H1 M1 _ (by
    obtain ⟨B, g1⟩ := g1
    exact ⟨B, g1.pop.slt (Paired.set (OOk.of g1.fst) i g1.sl)⟩) n)
theorem dg_name (i : Nat) {r : Sl} {x : Str} {P : Cs → List Sl → Prop} (h : P M (ρ.set i r)) (hN : X.N.Nodup := by exact (by assumption)) (hi : X.N[i]? = some x := by rfl) (hx : Loc X.env.scope x := by first | exact Or.inl rfl | exact Or.inr rfl)
    (hf : X.fn x = true ∨ X.env.scope.names.lookup x = some .local := by first | exact .inl rfl | exact .inr rfl) : DG X B0 F M ρ κ r (.Name x pos) P :=
  fun σ vs H v Q g q => tOfG_of (pg_name hN hi hx hf) (q _ H M _ (by
    obtain ⟨B, g1⟩ := g
    exact ⟨B, g1.pop.slt (Paired.set (OOk.of g1.fst) i g1.sl)⟩) h)
theorem dgs_nil {P : Cs → List Sl → Prop} (h : P M ρ) : DGs X B0 F M ρ κ [] [] P := fun σ vs H xs Q hl g q => tOfGs_of pgs_nil (by
  have : xs = [] := List.length_eq_zero_iff.mp hl
  subst this
  exact ⟨rfl, q σ H M ρ g h⟩)
theorem dgs_cons {P : Cs → List Sl → Prop} {r : Sl} {rs : List Sl} {t : Expr} {ts : List Expr} (h : DG X B0 F M ρ (rs ++ κ) r t fun M1 ρ1 => DGs X B0 F M1 ρ1 κ rs ts P) (hs : (assignEach (t :: ts) X.env).map (·.2) = assign t X.env :: (assignEach ts X.env).map (·.2) := by rfl) : DGs X B0 F M ρ κ (r :: rs) (t :: ts) P :=
  fun σ vs H xs Q hl g q => tOfGs_of (pgs_cons pg_self pgs_self hs) (by
    cases xs with
    | nil => cases hl
    | cons x xs =>
      exact ⟨x, xs, rfl, h σ (xs ++ vs) H x _ g fun σ1 H1 M1 ρ1 g1 h1 => h1 σ1 vs H1 xs Q (by simpa using hl) g1 q⟩)
theorem kok_of {K : Fg} {F B : Hp} : ∀ {ws : List V} {ds : List PyData}, RpA K B ws ds → KOk K F B ws (ds.map Sl.d)
  | _, _, .nil => .nil
  | _, _, .cons h t => .cons h (kok_of t)
theorem dg_tup {P : Cs → List Sl → Prop} {ds : List PyData} {ts : List Expr} {j : Nat} {n : Nat} (hn : ds.length = n) (h : DGs X B0 F M ρ κ (ds.map Sl.d) ts P) (hc : X.calm = true := by rfl) (hn' : (assignEach ts X.env).length = n := by rfl) (hst : (assignEach ts X.env).findIdx? (·.1) = none := by rfl) : DG X B0 F M ρ κ (.d (.tuple ds)) (.Tuple ts j pos) P :=
  fun σ vs H v Q g q => tOfG_of (pg_tup (n := n) hc pgs_self hn' hst) (by
    obtain ⟨B, g⟩ := g
    obtain ⟨a, xs, rfl, hq, hr⟩ := Rp.tup_inv g.fst
    refine ⟨a, xs, rfl, same_t g.bh hq, by rw [hr.len, hn], h σ vs H xs Q (by simp [hr.len]) ⟨B, g.pop.stk (Paired.app (kok_of hr) g.pop.st)⟩ q⟩)
theorem ds_asg {tg : Expr} (h : DE X B0 F M ρ κ e fun r M1 => DG X B0 F M1 ρ κ r tg fun M2 ρ2 => k.nx M2 ρ2) (hs : swapsWithSole [tg] e pos.line X.env = pure false := by rfl) (hw : swappedStores [tg] e X.env = pure none := by rfl)
    (h1 : (assignEach [tg] X.env).map (·.2) = [assign tg X.env] := by rfl) : DS X B0 F M ρ κ (.Assign [tg] e pos) k :=
  fun σ vs H D g c => tOfS_of (ps_asg pe_self pg_self hs hw h1) (h σ vs H _ g fun v H1 r M1 g1 n => n σ vs H1 v D.nx g1 fun σ' H' M' ρ' g' n' => c.nx σ' H' M' ρ' g' n')
theorem ds_if {s1 s2 : List Stmt} (h : DT X B0 F M ρ κ c fun b M1 => (b = true → DB X B0 F M1 ρ κ s1 k) ∧ (b = false → DB X B0 F M1 ρ κ s2 k)) : DS X B0 F M ρ κ (.If c s1 s2 pos) k :=
  fun σ vs H D g cn => tOfS_of (ps_if pt_self pb_self pb_self) (h σ vs H _ g fun b H1 M1 g1 n => by
    cases b with
    | true => exact n.1 rfl σ vs H1 D g1 cn
    | false => exact n.2 rfl σ vs H1 D g1 cn)
theorem ds_aug (i : Nat) {x : Str} {op : Operator} {t : R2} {pos' : Pos} {r : Sl} (ho : OpR X (inplaceOp op) t) (hr : ρ[i]? = some r) (hu : r ≠ .un) (h : DE X B0 F M ρ (r :: κ) e fun r2 M1 => R2D X.K B0 F ρ κ t r r2 M1 fun r3 M2 => k.nx M2 (ρ.set i r3)) (hN : X.N.Nodup := by exact (by assumption)) (hi : X.N[i]? = some x := by rfl)
    (hx : Loc X.env.scope x := by first | exact Or.inl rfl | exact Or.inr rfl) (hf : X.fn x = true ∨ X.env.scope.names.lookup x = some .local := by first | exact .inl rfl | exact .inr rfl) : DS X B0 F M ρ κ (.AugAssign (.Name x pos') op e pos) k :=
  fun σ vs H D g c => tOfS_of (ps_aug (ti := t) hN hi hx pe_self (fun pins s σ H x y v u Q I rx ry q => ho pins s σ H x y v u Q I rx ry q) hf) (by
    obtain ⟨B, g0⟩ := g
    obtain ⟨o, ho, hok⟩ := Paired.get? g0.sl hr
    obtain ⟨v, rfl, hv'⟩ := OOk.v hu hok
    refine ⟨v, ho, h σ (v :: vs) H _ ⟨B, g0.push hv'⟩ fun y H1 r2 M1 g1 h1 => h1 σ vs H1 v y _ g1 fun z H2 r3 M2 g2 n => c.nx _ H2 M2 _ (by
      obtain ⟨B, g2⟩ := g2
      exact ⟨B, g2.pop.slt (Paired.set (OOk.of g2.fst) i g2.sl)⟩) n⟩)
end
end DL
set_option maxHeartbeats 2000000
namespace DL
open PySem PySem.Spec PyProof.Rows L2

/-! ### what is walked -/
structure DWalk (K : Fg) (B0 F : Hp) (J : It) (ds : List PyData) (s : Sl) (v : V) (Src : Cs → Prop) : Prop where
  go : ∀ i M ρ κ σ vs H, Src M → Good K B0 F M ρ (s :: κ) σ (v :: vs) H → i < ds.length → J.go i H
  stop : ∀ M ρ κ σ vs H, Src M → Good K B0 F M ρ (s :: κ) σ (v :: vs) H → J.stop ds.length H
  yld : ∀ i M ρ κ σ vs H x H' d, Src M → Good K B0 F M ρ (s :: κ) σ (v :: vs) H → ds[i]? = some d → J.yld i H x H' → Good K B0 F M ρ (.d d :: s :: κ) σ (x :: v :: vs) H'
def DI (X : Cx) (B0 F : Hp) (M : Cs) (ρ κ : List Sl) (tg iter : Expr) (R : List PyData → Sl → (Cs → Prop) → Cs → Prop) : Prop :=
  ∀ σ vs H Q, Good X.K B0 F M ρ κ σ vs H → (∀ J H' M' ds s v Src, Good X.K B0 F M' ρ (s :: κ) σ (v :: vs) H' → DWalk X.K B0 F J ds s v Src → Src M' → R ds s Src M' → Q J H') → tOfI X tg iter σ H Q

section
variable {X : Cx} {B0 F : Hp} {M : Cs} {ρ κ : List Sl} {tg iter e a b : Expr} {pos p : Pos} {R : List PyData → Sl → (Cs → Prop) → Cs → Prop} {k : KK}
theorem walk_seqL {K : Fg} {a : Addr} {xs : List V} {ds : List PyData} {s : Sl} {Src : Cs → Prop} (hq : ∀ M ρ κ σ vs H, Src M → Good K B0 F M ρ (s :: κ) σ (.ref a :: vs) H → SqL K H a xs ∧ ∃ B, GoodB K B0 F M ρ (s :: κ) σ (.ref a :: vs) H B ∧ RpA K B xs ds) (hl : xs.length = ds.length) :
    DWalk K B0 F (Itl K a) ds s (.ref a) Src where
  go := fun i M ρ κ σ vs H h g hi => ⟨xs, xs[i]'(by omega), (hq M ρ κ σ vs H h g).1, by simp [show i < xs.length by omega]⟩
  stop := fun M ρ κ σ vs H h g => ⟨xs, (hq M ρ κ σ vs H h g).1, by omega⟩
  yld := fun i M ρ κ σ vs H x H' d h g hd y => by
    obtain ⟨rfl, y⟩ := y
    obtain ⟨h1, B, g', hr⟩ := hq M ρ κ σ vs _ h g
    obtain ⟨v, hv, hvd⟩ := hr.get hd
    have e : x = v := Option.some.inj ((y xs h1).symm.trans hv)
    subst e
    exact ⟨B, g'.pushD hvd⟩
theorem walk_seqT {K : Fg} {a : Addr} {xs : List V} {ds : List PyData} {s : Sl} {Src : Cs → Prop} (hq : ∀ M ρ κ σ vs H, Src M → Good K B0 F M ρ (s :: κ) σ (.ref a :: vs) H → SqT K H a xs ∧ ∃ B, GoodB K B0 F M ρ (s :: κ) σ (.ref a :: vs) H B ∧ RpA K B xs ds) (hl : xs.length = ds.length) :
    DWalk K B0 F (Itt K a) ds s (.ref a) Src where
  go := fun i M ρ κ σ vs H h g hi => ⟨xs, xs[i]'(by omega), (hq M ρ κ σ vs H h g).1, by simp [show i < xs.length by omega]⟩
  stop := fun M ρ κ σ vs H h g => ⟨xs, (hq M ρ κ σ vs H h g).1, by omega⟩
  yld := fun i M ρ κ σ vs H x H' d h g hd y => by
    obtain ⟨rfl, y⟩ := y
    obtain ⟨h1, B, g', hr⟩ := hq M ρ κ σ vs _ h g
    obtain ⟨v, hv, hvd⟩ := hr.get hd
    have e : x = v := Option.some.inj ((y xs h1).symm.trans hv)
    subst e
    exact ⟨B, g'.pushD hvd⟩
end
/-- a value known by its slot through all states: the walk's own facts are told of every later state -/
theorem rpa_inj {K : Fg} {H : Hp} : ∀ {vs : List V} {ds es : List PyData}, RpA K H vs ds → RpA K H vs es → True := fun _ _ => trivial
section
variable {X : Cx} {B0 F : Hp} {M : Cs} {ρ κ : List Sl} {tg iter e a b : Expr} {pos p : Pos} {R : List PyData → Sl → (Cs → Prop) → Cs → Prop} {k : KK}
/-- over a list that is data: the list at a is the same in every state, as B holds it from the start on -/
theorem di_list (h : DE X B0 F M ρ κ iter fun r M1 => ∃ ds, r = .d (.list ds) ∧ R ds r (fun _ => True) M1) : DI X B0 F M ρ κ tg iter R := fun σ vs H Q g q => by
  refine tOfI_of (pi_list pe_self) (h σ vs H _ g fun v H1 r M1 g1 hr => ?_)
  obtain ⟨ds, rfl, hr⟩ := hr
  obtain ⟨B, g1b⟩ := id g1
  obtain ⟨a, xs, rfl, ha, hx⟩ := Rp.lst_inv g1b.fst
  refine ⟨a, rfl, ⟨xs, SqL.of (g1b.bh _ _ ha)⟩, q (Itl X.K a) H1 M1 ds _ (.ref a) (fun _ => True) g1 ⟨?_, ?_, ?_⟩ trivial hr⟩
  · intro i M ρ κ σ vs H _ g hi
    obtain ⟨B, g⟩ := g
    obtain ⟨a', ys, e, ha', hy⟩ := Rp.lst_inv g.fst
    cases e
    have hl := hy.len
    exact ⟨ys, ys[i]'(by omega), SqL.of (g.bh _ _ ha'), by simp [show i < ys.length by omega]⟩
  · intro M ρ κ σ vs H _ g
    obtain ⟨B, g⟩ := g
    obtain ⟨a', ys, e, ha', hy⟩ := Rp.lst_inv g.fst
    cases e
    have hl := hy.len
    exact ⟨ys, SqL.of (g.bh _ _ ha'), by omega⟩
  · intro i M ρ κ σ vs H x H' d _ g hd y
    obtain ⟨rfl, y⟩ := y
    obtain ⟨B, g⟩ := g
    obtain ⟨a', ys, e, ha', hy⟩ := Rp.lst_inv g.fst
    cases e
    obtain ⟨v, hv, hvd⟩ := hy.get hd
    have e : x = v := Option.some.inj ((y ys (SqL.of (g.bh _ _ ha'))).symm.trans hv)
    subst e
    exact ⟨B, g.pushD hvd⟩
/-- over a list that is handed in, frozen -/
theorem di_rd (h : DE X B0 F M ρ κ iter fun r M1 => ∃ ds, r = .rd ds ∧ R ds r (fun _ => True) M1) : DI X B0 F M ρ κ tg iter R := fun σ vs H Q g q => by
  refine tOfI_of (pi_list pe_self) (h σ vs H _ g fun v H1 r M1 g1 hr => ?_)
  obtain ⟨ds, rfl, hr⟩ := hr
  obtain ⟨B, g1b⟩ := id g1
  obtain ⟨a, xs, rfl, ha, hx⟩ : ∃ a xs, v = .ref a ∧ SqL X.K F a xs ∧ RpA X.K B xs ds := g1b.fst
  refine ⟨a, rfl, ⟨xs, g1b.fh.seq ha⟩, q (Itl X.K a) H1 M1 ds _ (.ref a) (fun _ => True) g1 ⟨?_, ?_, ?_⟩ trivial hr⟩
  · intro i M ρ κ σ vs H _ g hi
    obtain ⟨B, g⟩ := g
    obtain ⟨a', ys, e, ha', hy⟩ : ∃ a' ys, V.ref a = .ref a' ∧ SqL X.K F a' ys ∧ RpA X.K B ys ds := g.fst
    cases e
    have hl := hy.len
    exact ⟨ys, ys[i]'(by omega), g.fh.seq ha', by simp [show i < ys.length by omega]⟩
  · intro M ρ κ σ vs H _ g
    obtain ⟨B, g⟩ := g
    obtain ⟨a', ys, e, ha', hy⟩ : ∃ a' ys, V.ref a = .ref a' ∧ SqL X.K F a' ys ∧ RpA X.K B ys ds := g.fst
    cases e
    have hl := hy.len
    exact ⟨ys, g.fh.seq ha', by omega⟩
  · intro i M ρ κ σ vs H x H' d _ g hd y
    obtain ⟨rfl, y⟩ := y
    obtain ⟨B, g⟩ := g
    obtain ⟨a', ys, e, ha', hy⟩ : ∃ a' ys, V.ref a = .ref a' ∧ SqL X.K F a' ys ∧ RpA X.K B ys ds := g.fst
    cases e
    obtain ⟨v, hv, hvd⟩ := hy.get hd
    have e : x = v := Option.some.inj ((y ys (g.fh.seq ha')).symm.trans hv)
    subst e
    exact ⟨B, g.pushD hvd⟩
/-- over a cell's list, which the loop leaves as it is -/
theorem di_cell (h : DE X B0 F M ρ κ iter fun r M1 => ∃ a ds, r = .v (.ref a) ∧ (a, .lst ds) ∈ M1 ∧ R ds r (fun M => (a, .lst ds) ∈ M) M1) : DI X B0 F M ρ κ tg iter R := fun σ vs H Q g q => by
  refine tOfI_of (pi_list pe_self) (h σ vs H _ g fun v H1 r M1 g1 hr => ?_)
  obtain ⟨a, ds, rfl, hm, hr⟩ := hr
  obtain ⟨B, g1b⟩ := id g1
  have e := g1.ref
  subst e
  obtain ⟨_, _, o, ho, xs, rfl, hx⟩ := g1b.cells _ hm
  refine ⟨a, rfl, ⟨xs, SqL.of ho⟩, q (Itl X.K a) H1 M1 ds _ (.ref a) (fun M => (a, .lst ds) ∈ M) g1 ⟨?_, ?_, ?_⟩ hm hr⟩
  · intro i M ρ κ σ vs H hm g hi
    obtain ⟨B, g⟩ := g
    obtain ⟨_, _, o, ho, ys, rfl, hy⟩ := g.cells _ hm
    have hl := hy.len
    exact ⟨ys, ys[i]'(by omega), SqL.of ho, by simp [show i < ys.length by omega]⟩
  · intro M ρ κ σ vs H hm g
    obtain ⟨B, g⟩ := g
    obtain ⟨_, _, o, ho, ys, rfl, hy⟩ := g.cells _ hm
    have hl := hy.len
    exact ⟨ys, SqL.of ho, by omega⟩
  · intro i M ρ κ σ vs H x H' d hm g hd y
    obtain ⟨rfl, y⟩ := y
    obtain ⟨B, g⟩ := g
    obtain ⟨_, _, o, ho, ys, rfl, hy⟩ := g.cells _ hm
    obtain ⟨v, hv, hvd⟩ := hy.get hd
    have e : x = v := Option.some.inj ((y ys (SqL.of ho)).symm.trans hv)
    subst e
    exact ⟨B, g.pushD hvd⟩
theorem di_tup (h : DE X B0 F M ρ κ iter fun r M1 => ∃ ds, r = .d (.tuple ds) ∧ R ds r (fun _ => True) M1) : DI X B0 F M ρ κ tg iter R := fun σ vs H Q g q => by
  refine tOfI_of (pi_tup pe_self) (h σ vs H _ g fun v H1 r M1 g1 hr => ?_)
  obtain ⟨ds, rfl, hr⟩ := hr
  obtain ⟨B, g1b⟩ := id g1
  obtain ⟨a, xs, rfl, ha, hx⟩ := Rp.tup_inv g1b.fst
  refine ⟨a, rfl, ⟨xs, same_t g1b.bh ha⟩, q (Itt X.K a) H1 M1 ds _ (.ref a) (fun _ => True) g1 ⟨?_, ?_, ?_⟩ trivial hr⟩
  · intro i M ρ κ σ vs H _ g hi
    obtain ⟨B, g⟩ := g
    obtain ⟨a', ys, e, ha', hy⟩ := Rp.tup_inv g.fst
    cases e
    have hl := hy.len
    exact ⟨ys, ys[i]'(by omega), same_t g.bh ha', by simp [show i < ys.length by omega]⟩
  · intro M ρ κ σ vs H _ g
    obtain ⟨B, g⟩ := g
    obtain ⟨a', ys, e, ha', hy⟩ := Rp.tup_inv g.fst
    cases e
    have hl := hy.len
    exact ⟨ys, same_t g.bh ha', by omega⟩
  · intro i M ρ κ σ vs H x H' d _ g hd y
    obtain ⟨rfl, y⟩ := y
    obtain ⟨B, g⟩ := g
    obtain ⟨a', ys, e, ha', hy⟩ := Rp.tup_inv g.fst
    cases e
    obtain ⟨v, hv, hvd⟩ := hy.get hd
    have e : x = v := Option.some.inj ((y ys (same_t g.bh ha')).symm.trans hv)
    subst e
    exact ⟨B, g.pushD hvd⟩
/-- lo, lo + 1, .. -/
def rngD (lo : Int) (n : Nat) : List PyData := (List.range n).map fun i => .int (lo + (i : Nat))
theorem rngD_len (lo : Int) (n : Nat) : (rngD lo n).length = n := by simp [rngD]
theorem rngD_get {lo : Int} {n i : Nat} {d : PyData} (h : (rngD lo n)[i]? = some d) : i < n ∧ d = .int (lo + (i : Nat)) := by
  have hi : i < n := by
    have := (List.getElem?_eq_some_iff.mp h).1
    rwa [rngD_len] at this
  refine ⟨hi, ?_⟩
  unfold rngD at h
  rw [List.getElem?_map, List.getElem?_range hi] at h
  exact (Option.some.inj h).symm
theorem walk_rng {K : Fg} {lo : Int} {n : Nat} {v : V} : DWalk K B0 F (Itr lo n) (rngD lo n) .un v (fun _ => True) where
  go := fun i M ρ κ σ vs H _ g hi => by rw [rngD_len] at hi; exact hi
  stop := fun M ρ κ σ vs H _ g => by rw [rngD_len]; exact Nat.le_refl _
  yld := fun i M ρ κ σ vs H x H' d _ g hd y => by
    obtain ⟨rfl, rfl⟩ := y
    obtain ⟨hi, rfl⟩ := rngD_get hd
    exact g.pushD fun _ _ => Rp.int _
theorem di_range1 (hm : X.mg "range" = none) (h : DA X B0 F M ρ κ [a] fun rs M1 => ∃ j : Int, rs = [.d (.int j)] ∧ -(2 ^ 62) ≤ j ∧ j < 2 ^ 62 ∧ R (rngD 0 j.toNat) .un (fun _ => True) M1) (hg : Gl X "range" := by rfl) (hs : starEach [a] X.env = [(false, eval a X.env)] := by rfl) : DI X B0 F M ρ κ tg (.Call (.Name "range" p) [a] [] pos) R := fun σ vs H Q g q => by
  refine tOfI_of (pi_range1 hg hm pa_self hs) (h σ vs H _ g fun ws H1 rs M1 hl g1 h1 => ?_)
  obtain ⟨j, rfl, h2, h3, hr⟩ := h1
  match ws, hl, g1 with
  | [w], _, g1 =>
    have e := g1.int
    subst e
    exact ⟨j, rfl, h2, h3, q _ H1 M1 _ .un .non _ (g1.pop.push fun _ _ => trivial) walk_rng trivial hr⟩
theorem di_range2 (hm : X.mg "range" = none) (h : DA X B0 F M ρ κ [a, b] fun rs M1 => ∃ i j : Int, rs = [.d (.int i), .d (.int j)] ∧ (-(2 ^ 62) ≤ i ∧ i < 2 ^ 62 ∧ -(2 ^ 62) ≤ j ∧ j < 2 ^ 62) ∧ R (rngD i (j - i).toNat) .un (fun _ => True) M1) (hg : Gl X "range" := by rfl)
    (hs : starEach [a, b] X.env = [(false, eval a X.env), (false, eval b X.env)] := by rfl) (hs2 : starEach [b] X.env = [(false, eval b X.env)] := by rfl) : DI X B0 F M ρ κ tg (.Call (.Name "range" p) [a, b] [] pos) R := fun σ vs H Q g q => by
  refine tOfI_of (pi_range2 hg hm pa_self hs hs2) (h σ vs H _ g fun ws H1 rs M1 hl g1 h1 => ?_)
  obtain ⟨i, j, rfl, h2, hr⟩ := h1
  match ws, hl, g1 with
  | [w, w'], _, g1 =>
    have g2 : Good X.K B0 F M1 ρ (.d (.int j) :: κ) σ (w' :: vs) H1 := g1.pop
    have e := g1.int
    subst e
    have e := g2.int
    subst e
    exact ⟨i, j, rfl, h2, q _ H1 M1 _ .un .non _ (g2.pop.push fun _ _ => trivial) walk_rng trivial hr⟩

/-! ### loops -/
variable {body : List Stmt}
theorem ds_for (h : DI X B0 F M ρ κ tg iter fun ds s Src M1 => ∃ Iv : Nat → Cs → List Sl → Prop, Iv 0 M1 ρ ∧ (∀ i M ρ', Iv i M ρ' → Src M) ∧
      (∀ i d M ρ', ds[i]? = some d → Iv i M ρ' → DG X B0 F M ρ' (s :: κ) (.d d) tg fun M2 ρ2 => DB X B0 F M2 ρ2 (s :: κ) body { nx := Iv (i + 1), ct := Iv (i + 1), bk := k.nx, rt := k.rt }) ∧ (∀ M ρ', Iv ds.length M ρ' → k.nx M ρ'))
    (hp : PassesOwn (model X.prog X.w) X.A X.env X.xe := by exact PassesOwn.never) (hc : X.calm = true := by rfl) (hs : ∀ x, foldedSetIterable iter X.env x = pure x := by intro _; rfl) : DS X B0 F M ρ κ (.For tg iter body [] pos) k :=
  fun σ vs H D g c => tOfS_of (ps_for hp hc pi_self pg_self pb_self hs) (h σ vs H _ g fun J H1 M1 ds s v Src g1 dw hsrc hr => by
    obtain ⟨Iv, h0, hsr, hst, hd⟩ := hr
    refine ⟨fun i m σ' H' => m = ds.length - i ∧ i ≤ ds.length ∧ ∃ M' ρ', Good X.K B0 F M' ρ' (s :: κ) σ' (v :: vs) H' ∧ Iv i M' ρ', ⟨ds.length, by simp, Nat.zero_le _, M1, ρ, g1, h0⟩, ?_⟩
    rintro i m σ' H' ⟨rfl, hi, M', ρ', g', hI⟩
    by_cases hlt : i < ds.length
    · obtain ⟨d, hdd⟩ : ∃ d, ds[i]? = some d := ⟨ds[i], by simp [hlt]⟩
      refine .inr ⟨dw.go i M' ρ' κ σ' vs H' (hsr i M' ρ' hI) g' hlt, fun σ2 H2 => ∃ M2 ρ2, Good X.K B0 F M2 ρ2 (s :: κ) σ2 (v :: vs) H2 ∧ Iv (i + 1) M2 ρ2, fun σ2 H2 ⟨M2, ρ2, g2, h2⟩ => ⟨ds.length - (i + 1), by omega, rfl, hlt, M2, ρ2, g2, h2⟩, fun x H2 y => ?_⟩
      have g2 := dw.yld i M' ρ' κ σ' vs H' x H2 d (hsr i M' ρ' hI) g' hdd y
      refine hst i d M' ρ' hdd hI σ' (v :: vs) H2 x _ g2 fun σ3 H3 M3 ρ3 g3 h3 => h3 σ3 (v :: vs) H3 _ g3 ⟨fun σ4 H4 M4 ρ4 g4 h4 => ⟨M4, ρ4, g4, h4⟩, c.rt, fun σ4 H4 M4 ρ4 g4 h4 => ?_, fun σ4 H4 M4 ρ4 g4 h4 => ⟨M4, ρ4, g4, h4⟩⟩
      exact c.nx σ4 H4 M4 ρ4 g4.pop h4
    · have e : i = ds.length := by omega
      subst e
      exact .inl ⟨dw.stop M' ρ' κ σ' vs H' (hsr _ M' ρ' hI) g', c.nx σ' H' M' ρ' g'.pop (hd M' ρ' hI)⟩)
theorem ds_while {c : Expr} (Iv : Nat → Cs → List Sl → Prop) (m0 : Nat) (h0 : Iv m0 M ρ) (h : ∀ m M ρ', Iv m M ρ' → DT X B0 F M ρ' κ c fun b M1 =>
      (b = true → DB X B0 F M1 ρ' κ body { nx := fun M ρ => ∃ m', m' < m ∧ Iv m' M ρ, ct := fun M ρ => ∃ m', m' < m ∧ Iv m' M ρ, bk := k.nx, rt := k.rt }) ∧ (b = false → k.nx M1 ρ'))
    (hp : PassesOwn (model X.prog X.w) X.A X.env X.xe := by exact PassesOwn.never) : DS X B0 F M ρ κ (.While c body [] pos) k :=
  fun σ vs H D g cn => tOfS_of (ps_while hp pt_self pb_self) ⟨fun m σ' H' => ∃ M' ρ', Good X.K B0 F M' ρ' κ σ' vs H' ∧ Iv m M' ρ', ⟨m0, M, ρ, g, h0⟩, fun m σ' H' ⟨M', ρ', g', hI⟩ => h m M' ρ' hI σ' vs H' _ g' fun b H1 M1 g1 h1 => by
    cases b with
    | true =>
      refine ⟨fun σ2 H2 => ∃ M2 ρ2, Good X.K B0 F M2 ρ2 κ σ2 vs H2 ∧ ∃ m', m' < m ∧ Iv m' M2 ρ2, fun σ2 H2 ⟨M2, ρ2, g2, m', hm, h2⟩ => ⟨m', hm, M2, ρ2, g2, h2⟩, ?_⟩
      exact h1.1 rfl σ' vs H1 _ g1 ⟨fun σ4 H4 M4 ρ4 g4 h4 => ⟨M4, ρ4, g4, h4⟩, cn.rt, cn.nx, fun σ4 H4 M4 ρ4 g4 h4 => ⟨M4, ρ4, g4, h4⟩⟩
    | false => exact cn.nx σ' H1 M1 ρ' g1 (h1.2 rfl)⟩
/-- slots may be forgotten -/
theorem Good.weak {K : Fg} {ρ' : List Sl} {σ : L2.St} {vs : List V} {H : Hp} (g : Good K B0 F M ρ κ σ vs H) (w : Paired (fun s s' => s' = s ∨ s' = Sl.un) ρ ρ') : Good K B0 F M ρ' κ σ vs H := by
  obtain ⟨B, g⟩ := g
  refine ⟨B, g.slt ?_⟩
  have : ∀ {σ : List (Option V)} {ρ ρ' : List Sl}, SOk K F B σ ρ → Paired (fun s s' => s' = s ∨ s' = Sl.un) ρ ρ' → SOk K F B σ ρ' := by
    intro σ ρ ρ' h
    induction h generalizing ρ' with
    | nil => intro w; cases w; exact .nil
    | cons h t ih =>
      intro w
      cases w with
      | cons w1 w2 =>
        refine .cons ?_ (ih w2)
        rcases w1 with e | e
        · rw [e]; exact h
        · rw [e]; trivial
  exact this g.sl w
end

/-! ### comprehensions -/
structure BA where
  st : Shared
  H : Hp
  C : Addr
  cl : List (Str × Addr)
  fp : List Addr
abbrev bk (X : Cx) (scope : Scope) (b : BA) : Cx := X.blk b.st b.H scope (compEnvC scope b.cl b.C X.env) b.fp
def wipeS (ρ : List Sl) : List Nat → List Sl
  | [] => ρ
  | v :: vs => (wipeS ρ vs).set v .un
/-! ### what becomes of a comprehension's value: it is used, or it is stored on its own line -/
abbrev Use := Option (Nat × Str × Pos × Pos)
section
variable (X : Cx)
def tSet (i : Nat) (y : Str) (py spos : Pos) (e : Expr) : TE := fun σ H Q => ∀ D : Ends, Q = (fun x H1 => gName i x σ H1 D.nx) → tOfS X (.Assign [.Name y py] e spos) D σ H
def tUse : Use → Expr → TE
  | none, e => tOf X e
  | some (i, y, py, spos), e => tSet X i y py spos e
def UseOk : Use → Expr → Prop
  | none, _ => True
  | some (i, y, py, spos), e => X.N[i]? = some y ∧ X.env.scope.names.lookup y = some .local ∧ swapsWith e (some (.Name y py)) spos.line X.env = pure true
def DEu (B0 F : Hp) (M : Cs) (ρ κ : List Sl) (u : Use) (e : Expr) (P : Sl → Cs → Prop) : Prop := ∀ σ vs H Q, Good X.K B0 F M ρ κ σ vs H → (∀ v H' r M', Good X.K B0 F M' ρ (r :: κ) σ (v :: vs) H' → P r M' → Q v H') → tUse X u e σ H Q
end
section
variable {X : Cx} {B0 F : Hp} {M : Cs} {ρ κ : List Sl} {e : Expr} {P : Sl → Cs → Prop} {k : KK}
theorem ds_cmp (i : Nat) {y : Str} {py spos : Pos} (h : DEu X B0 F M ρ κ (some (i, y, py, spos)) e fun r M1 => k.nx M1 (ρ.set i r)) : DS X B0 F M ρ κ (.Assign [.Name y py] e spos) k := fun σ vs H D g c =>
  h σ vs H _ g (fun v H1 r M1 g1 n => c.nx (σ.set i (some v)) H1 M1 _ (by
    obtain ⟨B, g1⟩ := g1
    exact ⟨B, g1.pop.slt (Paired.set (OOk.of g1.fst) i g1.sl)⟩) n) D rfl
theorem use_lc {u : Use} {σ : L2.St} {H : Hp} {Q : VK} {elt tg iter : Expr} {ifs : List Expr} {scope : Scope} {own : List (Str × Nat)} {pos : Pos} {wi : TI} {g : TG} {tt : TT} {te : TE} (hc : X.calm = true) (hN : X.N.Nodup) (hi : PI X tg iter wi) (ok : BlkOk X.N X.env.scope scope own)
    (hg : ∀ (s : Shared) (H : Hp) (C : Addr) (cl : List (Str × Addr)) (fp : List Addr), PG (X.blk s H scope (compEnvC scope cl C X.env) fp) tg g) (ht : ∀ (s : Shared) (H : Hp) (C : Addr) (cl : List (Str × Addr)) (fp : List Addr), PTs (X.blk s H scope (compEnvC scope cl C X.env) fp) ifs tt)
    (he : ∀ (s : Shared) (H : Hp) (C : Addr) (cl : List (Str × Addr)) (fp : List Addr), PE (X.blk s H scope (compEnvC scope cl C X.env) fp) elt te) (hs : ∀ x, foldedSetIterable iter X.env x = pure x)
    (hu : UseOk X u (.ListComp elt [⟨tg, iter, ifs, 0⟩] scope pos)) (h : tLc wi g tt te (own.map (·.2)) σ H Q) : tUse X u (.ListComp elt [⟨tg, iter, ifs, 0⟩] scope pos) σ H Q := by
  cases u with
  | none => exact tOf_of (pe_lc hc hN hi ok hg ht he hs) h
  | some q =>
    obtain ⟨i, y, py, spos⟩ := q
    obtain ⟨h1, h2, h3⟩ := hu
    intro D e
    subst e
    exact tOfS_of (ps_setLc hc hN h1 h2 h3 hi ok hg ht he hs) h
end
section
variable {X : Cx} {B0 F : Hp} {M : Cs} {ρ κ : List Sl} {K : Fg}
theorem sok_wipe {F B : Hp} {σ : L2.St} {ρ : List Sl} (h : SOk K F B σ ρ) : ∀ vs : List Nat, SOk K F B (wipe σ vs) (wipeS ρ vs)
  | [] => h
  | v :: vs => Paired.set (show OOk K F B none .un from trivial) v (sok_wipe h vs)
/-- the slots' values as a part of the stack -/
def valsOf (σ : L2.St) : List V := σ.map fun o => o.getD .non
def Shape (σ : L2.St) (ρ : List Sl) : Prop := Paired (fun (o : Option V) (s : Sl) => s = .un ∨ ∃ x, o = some x) σ ρ
theorem shape_of {F B : Hp} {σ : L2.St} {ρ : List Sl} (h : SOk K F B σ ρ) : Shape σ ρ := Paired.mapP h fun o s z => by
  by_cases e : s = .un
  · exact .inl e
  · obtain ⟨x, e, _⟩ := OOk.v e z; exact .inr ⟨x, e⟩
theorem kok_slots {F B : Hp} : ∀ {σ : L2.St} {ρ : List Sl}, SOk K F B σ ρ → KOk K F B (valsOf σ) ρ
  | _, _, .nil => .nil
  | o :: σ, s :: ρ, .cons h t => by
    refine .cons ?_ (kok_slots t)
    by_cases e : s = .un
    · subst e; trivial
    · obtain ⟨x, rfl, hx⟩ := OOk.v e h; exact hx
theorem sok_back {F B : Hp} : ∀ {σ : L2.St} {ρ : List Sl}, Shape σ ρ → KOk K F B (valsOf σ) ρ → SOk K F B σ ρ
  | _, _, .nil, _ => .nil
  | o :: σ, s :: ρ, .cons h t, k => by
    cases k with
    | cons k1 k2 =>
      refine .cons ?_ (sok_back t k2)
      rcases h with e | ⟨x, rfl⟩
      · subst e; trivial
      · exact OOk.of k1
theorem kok_split2 {F B : Hp} : ∀ {ws : List V} {rs : List Sl} {κ : List Sl} {vs : List V}, ws.length = rs.length → KOk K F B (ws ++ vs) (rs ++ κ) → KOk K F B ws rs ∧ KOk K F B vs κ := kok_split
theorem wipe_set {σ : L2.St} {o : Option V} {i : Nat} : ∀ {vs : List Nat}, i ∈ vs → wipe (σ.set i o) vs = wipe σ vs
  | [], h => by cases h
  | v :: vs, h => by
    unfold wipe
    by_cases e : i = v
    · subst e
      have : ∀ vs : List Nat, (wipe (σ.set i o) vs).set i none = (wipe σ vs).set i none := by
        intro vs
        induction vs with
        | nil => unfold wipe; rw [List.set_set]
        | cons v vs ih =>
          unfold wipe
          by_cases e : v = i
          · subst e; rw [List.set_set, List.set_set]; exact ih
          · rw [List.set_comm _ _ e, List.set_comm _ _ e, ih]
      exact this vs
    · have h' : i ∈ vs := by
        rcases List.mem_cons.mp h with h | h
        · exact absurd h e
        · exact h
      rw [wipe_set h']
/-- a turn's end: the element is appended -/
theorem lc_push {D : Addr} {acc : List PyData} {y' : PyData} {M' : Cs} {ρ' κ' : List Sl} {σ : L2.St} {y : V} {vs : List V} {H : Hp} (g : Good K B0 F ((D, .lst acc) :: M') ρ' (.d y' :: κ') σ (y :: vs) H) (hl : acc.length < 100000) {Q : Hp → Prop}
    (q : ∀ H', Good K B0 F ((D, .lst (acc ++ [y'])) :: M') ρ' κ' σ vs H' → Q H') : ∃ ac, H D = some (.lst ac) ∧ ac.length < sizeLine ∧ Q (upd H D (.lst (ac ++ [y]))) := by
  obtain ⟨B, g⟩ := g
  obtain ⟨_, _, o, ho, ws, rfl, hw⟩ := g.cells _ List.mem_cons_self
  have hl2 := hw.len
  have hz : (100000 : Nat) ≤ sizeLine := by decide
  refine ⟨ws, ho, by omega, q _ ⟨B, ?_⟩⟩
  exact (g.pop).write (j := 0) (c := .lst acc) (c' := .lst (acc ++ [y'])) rfl ⟨_, rfl, hw.app (.cons g.fst .nil)⟩
/-- a comprehension: g the target's reading (names alone), tt the tests', own its own names with their places -/
theorem lc_mainU {u : Use} {elt tg iter : Expr} {ifs : List Expr} {scope : Scope} {own : List (Str × Nat)} {pos : Pos} {g : TG} {tt : TT} {P : Sl → Cs → Prop} (hc : X.calm = true) (hN : X.N.Nodup) (ok : BlkOk X.N X.env.scope scope own)
    (hg : ∀ b : BA, PG (bk X scope b) tg g) (ht : ∀ b : BA, PTs (bk X scope b) ifs tt) (hs : ∀ x, foldedSetIterable iter X.env x = pure x)
    (h : DI X B0 F M ρ κ tg iter fun ds s Src M1 => ∀ D, ∃ Iv : Nat → List PyData → Cs → Prop, Iv 0 [] M1 ∧ (∀ i acc M, Iv i acc M → Src ((D, .lst acc) :: M)) ∧
      (∀ i d acc M σ vs H x (Q : Hp → Prop), ds[i]? = some d → Iv i acc M → Good X.K B0 F ((D, .lst acc) :: M) (wipeS ρ (own.map (·.2))) (.d d :: s :: (ρ ++ κ)) σ (x :: vs) H →
        (∀ acc' M' ρ' σ' H', Good X.K B0 F ((D, .lst acc') :: M') ρ' (s :: (ρ ++ κ)) σ' vs H' → Iv (i + 1) acc' M' → Q H') →
        g x σ H fun σ2 H2 => wipe σ2 (own.map (·.2)) = wipe σ (own.map (·.2)) ∧ tt σ2 H2 fun b H3 =>
          if b = true then (∀ b : BA, tOf (bk X scope b) elt σ2 H3 fun y H4 => ∃ ac, H4 D = some (.lst ac) ∧ ac.length < sizeLine ∧ Q (upd H4 D (.lst (ac ++ [y])))) else Q H3) ∧
      ∀ acc M, Iv ds.length acc M → P (.v (.ref D)) ((D, .lst acc) :: M))  (hu : UseOk X u (.ListComp elt [⟨tg, iter, ifs, 0⟩] scope pos)) : DEu X B0 F M ρ κ u (.ListComp elt [⟨tg, iter, ifs, 0⟩] scope pos) P := fun σ vs H Q g0 q => by
  refine use_lc (te := fun σ H Q => ∀ b : BA, tOf (bk X scope b) elt σ H Q) hc hN pi_self ok (fun s H C cl fp => hg ⟨s, H, C, cl, fp⟩) (fun s H C cl fp => ht ⟨s, H, C, cl, fp⟩)
    (fun s H C cl fp => ⟨fun pins s' σ' H' Q' I z => z ⟨s, H, C, cl, fp⟩ pins s' I⟩) hs hu ?_
  have hsh : Shape σ ρ := by obtain ⟨B, g0⟩ := g0; exact shape_of g0.sl
  refine h σ vs H _ g0 fun J H1 M1 ds s v Src g1 dw hsrc hr D hD => ?_
  obtain ⟨Iv, h0, hsr, hst, hd⟩ := hr D
  -- all outer slots on the stack as well
  have up : ∀ {M' H'}, Good X.K B0 F M' ρ (s :: κ) σ (v :: vs) H' → Good X.K B0 F M' ρ (s :: (ρ ++ κ)) σ (v :: (valsOf σ ++ vs)) H' := fun {M' H'} ⟨B, g⟩ => by
    refine ⟨B, g.stk ?_⟩
    cases g.st with
    | cons k1 k2 => exact .cons k1 (Paired.app (kok_slots g.sl) k2)
  have hlen : (valsOf σ).length = ρ.length := by
    have := Paired.length hsh
    simp [valsOf, this]
  have down : ∀ {M' H' ρ' σ'}, Good X.K B0 F M' ρ' (s :: (ρ ++ κ)) σ' (v :: (valsOf σ ++ vs)) H' → Good X.K B0 F M' ρ (s :: κ) σ (v :: vs) H' := fun {M' H' ρ' σ'} ⟨B, g⟩ => by
    cases g.st with
    | cons k1 k2 =>
      obtain ⟨k3, k4⟩ := kok_split hlen k2
      exact ⟨B, (g.slt (sok_back hsh k3)).stk (.cons k1 k4)⟩
  refine ⟨fun i m H' => m = ds.length - i ∧ i ≤ ds.length ∧ ∃ acc M', Good X.K B0 F ((D, .lst acc) :: M') ρ (s :: κ) σ (v :: vs) H' ∧ Iv i acc M', ⟨ds.length, by simp, Nat.zero_le _, [], M1, ?_, h0⟩, ?_⟩
  · obtain ⟨B, g1⟩ := g1
    exact ⟨B, g1.cell (c := .lst []) hD ⟨[], rfl, .nil⟩⟩
  rintro i m H' ⟨rfl, hi, acc, M', g', hI⟩
  by_cases hlt : i < ds.length
  · obtain ⟨d, hdd⟩ : ∃ d, ds[i]? = some d := ⟨ds[i], by simp [hlt]⟩
    refine .inr ⟨dw.go i _ ρ κ σ vs H' (hsr i acc M' hI) g' hlt, fun H2 => ∃ acc2 M2, Good X.K B0 F ((D, .lst acc2) :: M2) ρ (s :: κ) σ (v :: vs) H2 ∧ Iv (i + 1) acc2 M2, fun H2 ⟨acc2, M2, g2, h2⟩ => ⟨ds.length - (i + 1), by omega, rfl, hlt, acc2, M2, g2, h2⟩, fun x H2 y => ?_⟩
    have g2 := dw.yld i _ ρ (ρ ++ κ) σ (valsOf σ ++ vs) H' x H2 d (hsr i acc M' hI) (up g') hdd y
    have g3 : Good X.K B0 F ((D, .lst acc) :: M') (wipeS ρ (own.map (·.2))) (.d d :: s :: (ρ ++ κ)) (wipe σ (own.map (·.2))) (x :: v :: (valsOf σ ++ vs)) H2 := by
      obtain ⟨B, g2⟩ := g2
      exact ⟨B, g2.slt (sok_wipe g2.sl _)⟩
    have z := hst i d acc M' _ _ H2 x (fun H2 => ∃ acc2 M2, Good X.K B0 F ((D, .lst acc2) :: M2) ρ (s :: κ) σ (v :: vs) H2 ∧ Iv (i + 1) acc2 M2) hdd hI g3 fun acc' M'' ρ' σ' H'' gg hh => ⟨acc', M'', down gg, hh⟩
    have eqw : wipe (wipe σ (own.map (·.2))) (own.map (·.2)) = wipe σ (own.map (·.2)) := by
      have : ∀ (ws us : List Nat), (∀ w ∈ us, w ∈ ws) → wipe (wipe σ us) ws = wipe σ ws := by
        intro ws us
        induction us with
        | nil => intro _; rfl
        | cons u us ih =>
          intro hu
          show wipe ((wipe σ us).set u none) ws = _
          rw [wipe_set (hu u List.mem_cons_self)]
          exact ih fun w hw => hu w (List.mem_cons_of_mem _ hw)
      exact this _ _ fun w hw => hw
    rw [eqw] at z
    exact z
  · have e : i = ds.length := by omega
    subst e
    exact .inl ⟨dw.stop _ ρ κ σ vs H' (hsr _ acc M' hI) g', q _ H' _ _ (by
      obtain ⟨B, g'⟩ := g'
      exact ⟨B, g'.pop.pushV⟩) (hd acc M' hI)⟩

/-! the forms one uses -/
variable {elt tg iter c e : Expr} {scope : Scope} {pos : Pos} {P : Sl → Cs → Prop}
/-- [elt for x in iter]: x in slot i -/
theorem gu_lcC {u : Use} (i : Nat) {x : Str} {px : Pos} (h : DI X B0 F M ρ κ (.Name x px) iter fun ds s Src M1 => ∀ D, ∃ Iv : Nat → List PyData → Cs → Prop, Iv 0 [] M1 ∧ (∀ i acc M, Iv i acc M → Src ((D, .lst acc) :: M)) ∧
      (∀ j d acc M, ds[j]? = some d → Iv j acc M → ∀ b : BA, DE (bk X scope b) B0 F ((D, .lst acc) :: M) ((ρ.set i .un).set i (.d d)) (s :: (ρ ++ κ)) elt fun r M2 => ∃ y M', r = .d y ∧ M2 = (D, .lst acc) :: M' ∧ acc.length < 100000 ∧ Iv (j + 1) (acc ++ [y]) M') ∧
      ∀ acc M, Iv ds.length acc M → P (.v (.ref D)) ((D, .lst acc) :: M)) (hN : X.N.Nodup := by exact (by assumption)) (ok : BlkOk X.N X.env.scope scope [(x, i)] := by exact blkOk_by (by kernel_rfl)) (hg : ∀ b : BA, PG (bk X scope b) (.Name x px) (gName i) := by exact fun b => pg_name (by assumption) rfl (by first | exact Or.inl rfl | exact Or.inr rfl))
      (hc : X.calm = true := by rfl) (hs : ∀ x, foldedSetIterable iter X.env x = pure x := by intro _; rfl)  (hu : UseOk X u (.ListComp elt [⟨.Name x px, iter, [], 0⟩] scope pos) := by first | exact trivial | exact ⟨rfl, rfl, (by first | rfl | kernel_rfl)⟩) : DEu X B0 F M ρ κ u (.ListComp elt [⟨.Name x px, iter, [], 0⟩] scope pos) P :=
  lc_mainU (hu := hu) (own := [(x, i)]) (g := gName i) (tt := tYes) hc hN ok hg (fun _ => pts_nil) hs fun σ vs H Q g0 q => h σ vs H Q g0 fun J H1 M1 ds s v Src g1 dw hsrc hr => q J H1 M1 ds s v Src g1 dw hsrc fun D => by
    obtain ⟨Iv, h0, hsr, hst, hd⟩ := hr D
    refine ⟨Iv, h0, hsr, fun j d acc M σ vs H x Q hdd hI g hq => ⟨wipe_set (by simp), ?_⟩, hd⟩
    have fin : ∀ b : BA, tOf (bk X scope b) elt (σ.set i (some x)) H fun y H4 => ∃ ac, H4 D = some (.lst ac) ∧ ac.length < sizeLine ∧ Q (upd H4 D (.lst (ac ++ [y]))) := ?_
    · unfold tYes
      dsimp only
      rw [if_pos rfl]
      exact fin
    intro b
    have g2 : Good X.K B0 F ((D, .lst acc) :: M) ((ρ.set i .un).set i (.d d)) (s :: (ρ ++ κ)) (σ.set i (some x)) vs H := by
      obtain ⟨B, g⟩ := g
      exact ⟨B, g.pop.slt (Paired.set (OOk.of g.fst) i g.sl)⟩
    refine hst j d acc M hdd hI b (σ.set i (some x)) vs H _ g2 fun y H4 r M2 g4 h4 => ?_
    obtain ⟨y', M', rfl, rfl, hl, hI'⟩ := h4
    exact lc_push g4 hl fun H' g5 => hq _ _ _ _ _ g5 hI'
theorem de_lcC (i : Nat) {x : Str} {px : Pos} (h : DI X B0 F M ρ κ (.Name x px) iter fun ds s Src M1 => ∀ D, ∃ Iv : Nat → List PyData → Cs → Prop, Iv 0 [] M1 ∧ (∀ i acc M, Iv i acc M → Src ((D, .lst acc) :: M)) ∧
      (∀ j d acc M, ds[j]? = some d → Iv j acc M → ∀ b : BA, DE (bk X scope b) B0 F ((D, .lst acc) :: M) ((ρ.set i .un).set i (.d d)) (s :: (ρ ++ κ)) elt fun r M2 => ∃ y M', r = .d y ∧ M2 = (D, .lst acc) :: M' ∧ acc.length < 100000 ∧ Iv (j + 1) (acc ++ [y]) M') ∧
      ∀ acc M, Iv ds.length acc M → P (.v (.ref D)) ((D, .lst acc) :: M)) (hN : X.N.Nodup := by exact (by assumption)) (ok : BlkOk X.N X.env.scope scope [(x, i)] := by exact blkOk_by (by kernel_rfl)) (hg : ∀ b : BA, PG (bk X scope b) (.Name x px) (gName i) := by exact fun b => pg_name (by assumption) rfl (by first | exact Or.inl rfl | exact Or.inr rfl))
      (hc : X.calm = true := by rfl) (hs : ∀ x, foldedSetIterable iter X.env x = pure x := by intro _; rfl) : DE X B0 F M ρ κ (.ListComp elt [⟨.Name x px, iter, [], 0⟩] scope pos) P :=
  gu_lcC (u := none) i h hN ok hg hc hs trivial
/-- [elt for x in iter if c] -/
theorem gu_lcIfC {u : Use} (i : Nat) {x : Str} {px : Pos} (h : DI X B0 F M ρ κ (.Name x px) iter fun ds s Src M1 => ∀ D, ∃ Iv : Nat → List PyData → Cs → Prop, Iv 0 [] M1 ∧ (∀ i acc M, Iv i acc M → Src ((D, .lst acc) :: M)) ∧
      (∀ j d acc M, ds[j]? = some d → Iv j acc M → ∀ b : BA, DT (bk X scope b) B0 F ((D, .lst acc) :: M) ((ρ.set i .un).set i (.d d)) (s :: (ρ ++ κ)) c fun k M2 =>
        (k = true → ∀ b : BA, DE (bk X scope b) B0 F M2 ((ρ.set i .un).set i (.d d)) (s :: (ρ ++ κ)) elt fun r M3 => ∃ y M', r = .d y ∧ M3 = (D, .lst acc) :: M' ∧ acc.length < 100000 ∧ Iv (j + 1) (acc ++ [y]) M') ∧
        (k = false → ∃ M', M2 = (D, .lst acc) :: M' ∧ Iv (j + 1) acc M')) ∧
      ∀ acc M, Iv ds.length acc M → P (.v (.ref D)) ((D, .lst acc) :: M)) (hN : X.N.Nodup := by exact (by assumption)) (ok : BlkOk X.N X.env.scope scope [(x, i)] := by exact blkOk_by (by kernel_rfl)) (hg : ∀ b : BA, PG (bk X scope b) (.Name x px) (gName i) := by exact fun b => pg_name (by assumption) rfl (by first | exact Or.inl rfl | exact Or.inr rfl))
      (hc : X.calm = true := by rfl) (hs : ∀ x, foldedSetIterable iter X.env x = pure x := by intro _; rfl)  (hu : UseOk X u (.ListComp elt [⟨.Name x px, iter, [c], 0⟩] scope pos) := by first | exact trivial | exact ⟨rfl, rfl, (by first | rfl | kernel_rfl)⟩) : DEu X B0 F M ρ κ u (.ListComp elt [⟨.Name x px, iter, [c], 0⟩] scope pos) P :=
  lc_mainU (hu := hu) (own := [(x, i)]) (g := gName i) (tt := fun σ H Q => ∀ b : BA, tOfT (bk X scope b) c σ H Q) hc hN ok hg (fun b => ⟨fun pins s σ H Q I z => (pts_one pt_self).run pins s σ H Q I (z b)⟩) hs fun σ vs H Q g0 q => h σ vs H Q g0 fun J H1 M1 ds s v Src g1 dw hsrc hr => q J H1 M1 ds s v Src g1 dw hsrc fun D => by
    obtain ⟨Iv, h0, hsr, hst, hd⟩ := hr D
    refine ⟨Iv, h0, hsr, fun j d acc M σ vs H x Q hdd hI g hq => ⟨wipe_set (by simp), ?_⟩, hd⟩
    intro b
    have g2 : Good X.K B0 F ((D, .lst acc) :: M) ((ρ.set i .un).set i (.d d)) (s :: (ρ ++ κ)) (σ.set i (some x)) vs H := by
      obtain ⟨B, g⟩ := g
      exact ⟨B, g.pop.slt (Paired.set (OOk.of g.fst) i g.sl)⟩
    refine hst j d acc M hdd hI b (σ.set i (some x)) vs H _ g2 fun k H3 M2 g3 h3 => ?_
    cases k with
    | true =>
      rw [if_pos rfl]
      intro b2
      refine h3.1 rfl b2 (σ.set i (some x)) vs H3 _ g3 fun y H4 r M2 g4 h4 => ?_
      obtain ⟨y', M', rfl, rfl, hl, hI'⟩ := h4
      exact lc_push g4 hl fun H' g5 => hq _ _ _ _ _ g5 hI'
    | false =>
      rw [if_neg Bool.false_ne_true]
      obtain ⟨M', rfl, hI'⟩ := h3.2 rfl
      exact hq _ _ _ _ _ g3 hI'
theorem de_lcIfC (i : Nat) {x : Str} {px : Pos} (h : DI X B0 F M ρ κ (.Name x px) iter fun ds s Src M1 => ∀ D, ∃ Iv : Nat → List PyData → Cs → Prop, Iv 0 [] M1 ∧ (∀ i acc M, Iv i acc M → Src ((D, .lst acc) :: M)) ∧
      (∀ j d acc M, ds[j]? = some d → Iv j acc M → ∀ b : BA, DT (bk X scope b) B0 F ((D, .lst acc) :: M) ((ρ.set i .un).set i (.d d)) (s :: (ρ ++ κ)) c fun k M2 =>
        (k = true → ∀ b : BA, DE (bk X scope b) B0 F M2 ((ρ.set i .un).set i (.d d)) (s :: (ρ ++ κ)) elt fun r M3 => ∃ y M', r = .d y ∧ M3 = (D, .lst acc) :: M' ∧ acc.length < 100000 ∧ Iv (j + 1) (acc ++ [y]) M') ∧
        (k = false → ∃ M', M2 = (D, .lst acc) :: M' ∧ Iv (j + 1) acc M')) ∧
      ∀ acc M, Iv ds.length acc M → P (.v (.ref D)) ((D, .lst acc) :: M)) (hN : X.N.Nodup := by exact (by assumption)) (ok : BlkOk X.N X.env.scope scope [(x, i)] := by exact blkOk_by (by kernel_rfl)) (hg : ∀ b : BA, PG (bk X scope b) (.Name x px) (gName i) := by exact fun b => pg_name (by assumption) rfl (by first | exact Or.inl rfl | exact Or.inr rfl))
      (hc : X.calm = true := by rfl) (hs : ∀ x, foldedSetIterable iter X.env x = pure x := by intro _; rfl) : DE X B0 F M ρ κ (.ListComp elt [⟨.Name x px, iter, [c], 0⟩] scope pos) P :=
  gu_lcIfC (u := none) i h hN ok hg hc hs trivial
end
end DL
set_option maxHeartbeats 2000000
namespace DL
open PySem PySem.Spec PyProof.Rows L2

/-! ### defs -/
def NoRd : Sl → Prop
  | .rd _ => False
  | _ => True
/-- a promise over data: R takes the arguments' slots, the cells handed over and what is wanted -/
def SpG (K : Fg) (R : List Sl → Cs → (Sl → Cs → Prop) → Prop) : Sp := fun vs H Q _ => ∃ B0 F M κ W, Good K B0 F M [] κ [] vs H ∧ (∀ r M, W r M → NoRd r) ∧ R κ M W ∧ ∀ v H' r M', Good K B0 F M' [] [r] [] [v] H' → W r M' → Q v H'
section
variable {P : Program} {w : World} {K : Fg} {mg : Str → Option Value} {base : Heap}
theorem start_sok {F B : Hp} {n : Nat} : ∀ {vs : List V} {κ : List Sl}, KOk K F B vs κ → SOk K F B (vs.map some ++ List.replicate n none) (κ ++ List.replicate n .un)
  | _, _, .nil => by
    have : ∀ n : Nat, SOk K F B (List.replicate n none) (List.replicate n .un) := by
      intro n
      induction n with
      | zero => exact .nil
      | succ n ih => exact .cons trivial ih
    exact this n
  | _, _, .cons h t => .cons (OOk.of h) (start_sok t)
theorem fn_ok {x qual : Str} {st : Stmt} {f : Addr} {fd : FuncData} {N ps : List Str} {k : Nat} {R : List Sl → Cs → (Sl → Cs → Prop) → Prop} (Fu : Fun K x qual st f fd) (S : FnScope N ps (defScope st)) (len : ∀ κ M W, R κ M W → κ.length = ps.length)
    (body : ∀ (cdv : Value) (A : Around) (outer : List Env) (s : Shared) (H : Hp) (E : XK), Room k (A.deeper (envOfC qual (defScope st) s.heap.objs.size f cdv)) → N.Nodup → ∀ (B0 F : Hp) (κ : List Sl) (M : Cs) (W : Sl → Cs → Prop), R κ M W →
      DB (cxOf CX0 P w K mg base N qual (defScope st) f cdv A outer s H E).nox B0 F M (κ ++ List.replicate (N.length - ps.length) .un) [] (defBody st) { nx := fun M' _ => W (.d .none) M', rt := W }) : FnOk P w K mg base CX0 (k + 1) f fd ps (SpG K R) := by
  refine Fu.ok S (fun vs H Q E h => ?_) (fun cdv A outer s H vs Q E hr h => ?_)
  · obtain ⟨B0, F, M, κ, W, ⟨B, g⟩, _, hR, _⟩ := h
    rw [Paired.length g.st]
    exact len κ M W hR
  · obtain ⟨B0, F, M, κ, W, ⟨B, g⟩, hn, hR, q⟩ := h
    refine ⟨tOfB _ (defBody st), pb_self, ?_⟩
    have hl := Paired.length g.st
    have hk := len κ M W hR
    refine body cdv A outer s H E hr S.nd B0 F κ M W hR (L2.start N vs) [] H _ ⟨B, (g.stk .nil).slt ?_⟩ ⟨fun σ' H' M' ρ' g' n => ?_, fun v H' r M' g' n => q v H' r M' g' n, fun _ _ _ _ _ n => n.elim, fun _ _ _ _ _ n => n.elim⟩
    · unfold L2.start
      rw [hl, hk]
      exact start_sok g.st
    · refine q .non H' (.d .none) M' ?_ n
      obtain ⟨B', g'⟩ := g'
      exact ⟨B', (g'.stk .nil |>.slt .nil).pushD .non⟩
end

/-- how the arguments are seen by the callee: a cell's list as a frozen one -/
inductive Views (M : Cs) : List Sl → List Sl → Prop
  | nil : Views M [] []
  | same {r : Sl} {rs κ : List Sl} : Views M rs κ → Views M (r :: rs) (r :: κ)
  | rd {a : Addr} {ds : List PyData} {rs κ : List Sl} : (a, .lst ds) ∈ M → Views M rs κ → Views M (.v (.ref a) :: rs) (.rd ds :: κ)
section
variable {X : Cx} {B0 F : Hp} {M : Cs} {ρ κ : List Sl} {P : Sl → Cs → Prop} {e : Expr} {es : List Expr} {p pos : Pos} {x : Str}
theorem kok_views {K : Fg} {F B H : Hp} (fh : Same F H) (hc : ∀ c, c ∈ M → CellOk K F B H c) : ∀ {rs κ' : List Sl} {ws : List V}, Views M rs κ' → KOk K F B ws rs → KOk K H B ws κ'
  | _, _, _, .nil, h => by cases h; exact .nil
  | _, _, _, .same v, h => by
    cases h with
    | cons h1 h2 =>
      refine .cons ?_ (kok_views fh hc v h2)
      rename_i r rs κ a ws
      cases r with
      | un => trivial
      | d y => exact h1
      | rd ys => obtain ⟨a, xs, h1, h2, h3⟩ := h1; exact ⟨a, xs, h1, fh.seq h2, h3⟩
      | v y => exact h1
      | n y => exact h1
  | _, _, _, .rd hm v, h => by
    cases h with
    | cons h1 h2 =>
      refine .cons ?_ (kok_views fh hc v h2)
      obtain ⟨_, _, o, ho, ws, rfl, hw⟩ := hc _ hm
      exact ⟨_, ws, h1, SqL.of ho, hw⟩
/-- behind a pure call -/
theorem good_after {K : Fg} {σ : L2.St} {vs : List V} {H1 H' B : Hp} {M' : Cs} {x : PyData} {v : V} (g : GoodB K B0 F M ρ κ σ vs H1 B) (g' : Good K B H1 M' [] [.d x] [] [v] H') : Good K B0 F M ρ (.d x :: κ) σ (v :: vs) H' := by
  obtain ⟨B', g'⟩ := g'
  refine ⟨B', g.b0.trans g'.b0, g'.bh, g.fh.trans g'.fh, fun a ha => ?_, fun c hc => ?_, g.nd, Paired.mapP g.sl fun _ _ z => z.ext g'.b0, .cons g'.fst (Paired.mapP g.st fun _ _ z => z.ext g'.b0)⟩
  · rcases g'.new a ha with h | h
    · exact g.new a h
    · exact .inr (g.fh.free h)
  · obtain ⟨h1, h2, u, h3, h4⟩ := g.cells c hc
    refine ⟨?_, h2, u, g'.fh _ _ h3, h4.ext g'.b0⟩
    cases e : B' c.1 with
    | none => rfl
    | some o =>
      rcases g'.new c.1 (by rw [e]; exact fun z => nomatch z) with h | h
      · exact absurd h1 h
      · rw [h3] at h; cases h
variable {f : Addr} {fd : FuncData} {ps : List Str} {j : Nat} {R : List Sl → Cs → (Sl → Cs → Prop) → Prop}
/-- f(e, ..): a def that leaves all as it was -/
theorem de_call (Fo : FnOk X.prog X.w X.K X.mg X.base CX0 j f fd ps (SpG X.K R)) (hr : Room j X.A) (hm : X.mg x = some (.ref f)) (hk : PySem.W.keepIn X.K (.ref f) = true) (hb : Binds X.K fd ps [])
    (h : DA X B0 F M ρ κ (e :: es) fun rs M1 => ∃ κ', Views M1 rs κ' ∧ R κ' [] fun r _ => ∃ y, r = .d y ∧ P (.d y) M1) (hg : Gl X x := by rfl) (hdb : (x == ("__debug__" : Str)) = false := by decide)
    (he : starEach (e :: es) X.env = (false, eval e X.env) :: starEach es X.env := by rfl) (hpl : (backTo pos (starEach es X.env)).any (·.1) = false := by rfl) : DE X B0 F M ρ κ (.Call (.Name x p) (e :: es) [] pos) P := fun σ vs H Q g q => by
  refine tOf_of (pe_call (E := E0) Fo hr hg hm hk hb .nil pass0 pa_self hdb he hpl) (h σ vs H _ g fun ws H1 rs M1 hl g1 h1 => ?_)
  obtain ⟨κ', hv, hR⟩ := h1
  rw [List.append_nil]
  obtain ⟨B, g1⟩ := g1
  obtain ⟨k1, k2⟩ := kok_split hl g1.st
  refine ⟨B, H1, [], κ', _, ⟨B, Same.refl _, g1.bh, Same.refl _, fun a ha => .inl ha, fun c hc => absurd hc List.not_mem_nil, .nil, .nil, kok_views g1.fh g1.cells hv k1⟩, ?_, hR, fun v H' r M' g' hW => ?_⟩
  · rintro r M ⟨y, rfl, _⟩
    trivial
  · obtain ⟨y, rfl, hP⟩ := hW
    exact q v H' _ M1 (good_after (g1.stk k2) g') hP
/-- f(): no argument -/
theorem de_call0 (Fo : FnOk X.prog X.w X.K X.mg X.base CX0 j f fd ps (SpG X.K R)) (hr : Room j X.A) (hm : X.mg x = some (.ref f)) (hk : PySem.W.keepIn X.K (.ref f) = true) (hb : Binds X.K fd ps [])
    (h : R [] [] fun r _ => ∃ y, r = .d y ∧ P (.d y) M) (hg : Gl X x := by rfl) (hdb : (x == ("__debug__" : Str)) = false := by decide) : DE X B0 F M ρ κ (.Call (.Name x p) [] [] pos) P := fun σ vs H Q g q => by
  refine tOf_of (pe_call0 (E := E0) Fo hr hg hm hk hb .nil pass0 hdb) ?_
  obtain ⟨B, g1⟩ := g
  refine ⟨B, H, [], [], _, ⟨B, Same.refl _, g1.bh, Same.refl _, fun a ha => .inl ha, fun c hc => absurd hc List.not_mem_nil, .nil, .nil, .nil⟩, ?_, h, fun v H' r M' g' hW => ?_⟩
  · rintro r M ⟨y, rfl, _⟩
    trivial
  · obtain ⟨y, rfl, hP⟩ := hW
    exact q v H' _ M (good_after g1 g') hP
open Classical in
/-- a heap without some addresses -/
noncomputable def without (H : Hp) (as : List Addr) : Hp := fun a => if a ∈ as then none else H a
theorem without_in {H : Hp} {as : List Addr} {a : Addr} (h : a ∈ as) : without H as a = none := by unfold without; rw [if_pos h]
theorem without_out {H : Hp} {as : List Addr} {a : Addr} (h : a ∉ as) : without H as a = H a := by unfold without; rw [if_neg h]
theorem without_some {H : Hp} {as : List Addr} {a : Addr} {o : HO} (h : without H as a = some o) : a ∉ as ∧ H a = some o := by
  by_cases q : a ∈ as
  · rw [without_in q] at h; cases h
  · rw [without_out q] at h; exact ⟨q, h⟩
theorem VOk.extF {K : Fg} {F F' B : Hp} {x : V} {s : Sl} (e : Same F F') (h : VOk K F B x s) : VOk K F' B x s := by
  cases s with
  | un => trivial
  | d y => exact h
  | rd ys => obtain ⟨a, xs, h1, h2, h3⟩ := h; exact ⟨a, xs, h1, e.seq h2, h3⟩
  | v y => exact h
  | n y => exact h
/-- behind a call that may change the first cells -/
theorem good_afterM {K : Fg} {σ : L2.St} {vs : List V} {H1 H' B : Hp} {Mp Mr M' : Cs} {r : Sl} {v : V} (g : GoodB K B0 F (Mp ++ Mr) ρ κ σ vs H1 B) (hn : NoRd r) (g' : Good K B (without H1 (Mp.map (·.1))) M' [] [r] [] [v] H') : Good K B0 F (M' ++ Mr) ρ (r :: κ) σ (v :: vs) H' := by
  obtain ⟨B', g'⟩ := g'
  have nd := g.nd
  rw [List.map_append] at nd
  have sF : Same F (without H1 (Mp.map (·.1))) := fun a o e => by
    rw [without_out]
    · exact g.fh a o e
    · intro z
      obtain ⟨c, hc, rfl⟩ := List.mem_map.mp z
      rw [(g.cells c (List.mem_append_left _ hc)).f] at e
      cases e
  have rest : ∀ c ∈ Mr, without H1 (Mp.map (·.1)) c.1 = H1 c.1 := fun c hc => without_out fun z => (List.nodup_append.mp nd).2.2 _ z _ (List.mem_map.mpr ⟨c, hc, rfl⟩) rfl
  have hr' : VOk K F B' v r := by
    have h1 := g'.fst
    cases r with
    | un => trivial
    | d y => exact h1
    | rd ys => exact hn.elim
    | v y => exact h1
    | n y => exact h1
  refine ⟨B', g.b0.trans g'.b0, g'.bh, sF.trans g'.fh, fun a ha => ?_, fun c hc => ?_, ?_, Paired.mapP g.sl fun _ _ z => z.ext g'.b0, .cons hr' (Paired.mapP g.st fun _ _ z => z.ext g'.b0)⟩
  · rcases g'.new a ha with h | h
    · exact g.new a h
    · exact .inr (sF.free h)
  · rcases List.mem_append.mp hc with hc | hc
    · obtain ⟨h1, h2, u, h3, h4⟩ := g'.cells c hc
      exact ⟨h1, sF.free h2, u, h3, h4⟩
    · obtain ⟨h1, h2, u, h3, h4⟩ := g.cells c (List.mem_append_right _ hc)
      have h5 := rest c hc
      refine ⟨?_, h2, u, g'.fh _ _ (by rw [h5]; exact h3), h4.ext g'.b0⟩
      cases e : B' c.1 with
      | none => rfl
      | some o =>
        rcases g'.new c.1 (by rw [e]; exact fun z => nomatch z) with h | h
        · exact absurd h1 h
        · rw [h5, h3] at h; cases h
  · rw [List.map_append, List.nodup_append]
    refine ⟨g'.nd, (List.nodup_append.mp nd).2.1, fun a ha b hb e => ?_⟩
    subst e
    obtain ⟨c, hc, e1⟩ := List.mem_map.mp ha
    obtain ⟨c2, hc2, e2⟩ := List.mem_map.mp hb
    have h1 := (g'.cells c hc).f
    obtain ⟨_, _, u, h3, _⟩ := g.cells c2 (List.mem_append_right _ hc2)
    rw [e1, ← e2, rest c2 hc2, h3] at h1
    cases h1
/-- f(e, ..): a def that may change the first n cells -/
theorem de_callM (n : Nat) (Fo : FnOk X.prog X.w X.K X.mg X.base CX0 j f fd ps (SpG X.K R)) (hr : Room j X.A) (hm : X.mg x = some (.ref f)) (hk : PySem.W.keepIn X.K (.ref f) = true) (hb : Binds X.K fd ps [])
    (h : DA X B0 F M ρ κ (e :: es) fun rs M1 => R rs (M1.take n) fun r M2 => NoRd r ∧ P r (M2 ++ M1.drop n)) (hg : Gl X x := by rfl) (hdb : (x == ("__debug__" : Str)) = false := by decide)
    (he : starEach (e :: es) X.env = (false, eval e X.env) :: starEach es X.env := by rfl) (hpl : (backTo pos (starEach es X.env)).any (·.1) = false := by rfl) : DE X B0 F M ρ κ (.Call (.Name x p) (e :: es) [] pos) P := fun σ vs H Q g q => by
  refine tOf_of (pe_call (E := E0) Fo hr hg hm hk hb .nil pass0 pa_self hdb he hpl) (h σ vs H _ g fun ws H1 rs M1 hl g1 hR => ?_)
  rw [List.append_nil]
  obtain ⟨B, g1⟩ := g1
  obtain ⟨k1, k2⟩ := kok_split hl g1.st
  have g2 : GoodB X.K B0 F (M1.take n ++ M1.drop n) ρ κ σ vs H1 B := by rw [List.take_append_drop]; exact g1.stk k2
  have sF : Same F (without H1 ((M1.take n).map (·.1))) := fun a o e => by
    rw [without_out]
    · exact g1.fh a o e
    · intro z
      obtain ⟨c, hc, rfl⟩ := List.mem_map.mp z
      rw [(g1.cells c (List.mem_of_mem_take hc)).f] at e
      cases e
  refine ⟨B, without H1 ((M1.take n).map (·.1)), M1.take n, rs, _, ⟨B, Same.refl _, g1.bh, fun a o e => (without_some e).2, fun a ha => .inl ha, fun c hc => ?_, ?_, .nil, Paired.mapP k1 fun _ _ z => z.extF sF⟩, ?_, hR, fun v H' r M' g' hW => ?_⟩
  · obtain ⟨h1, h2, u, h3, h4⟩ := g1.cells c (List.mem_of_mem_take hc)
    exact ⟨h1, without_in (List.mem_map.mpr ⟨c, hc, rfl⟩), u, h3, h4⟩
  · rw [List.map_take]
    exact g1.nd.sublist (List.take_sublist _ _)
  · rintro r M ⟨hn, _⟩
    exact hn
  · exact q v H' r _ (good_afterM g2 hW.1 g') hW.2
end

/-! ### built-ins by their slots -/
section
variable {X : Cx} {K : Fg} {B0 F : Hp} {M : Cs} {ρ κ : List Sl} {P : Sl → Cs → Prop} {a b e : Expr} {pos : Pos}
/-- what may be read as a list, a tuple of data -/
inductive Seq (M : Cs) : Sl → List PyData → Prop
  | lst (ds : List PyData) : Seq M (.d (.list ds)) ds
  | tup (ds : List PyData) : Seq M (.d (.tuple ds)) ds
  | rd (ds : List PyData) : Seq M (.rd ds) ds
  | cell {a : Addr} {ds : List PyData} : (a, .lst ds) ∈ M → Seq M (.v (.ref a)) ds
/-- .. and what may be read as a list -/
inductive SeqLs (M : Cs) : Sl → List PyData → Prop
  | lst (ds : List PyData) : SeqLs M (.d (.list ds)) ds
  | rd (ds : List PyData) : SeqLs M (.rd ds) ds
  | cell {a : Addr} {ds : List PyData} : (a, .lst ds) ∈ M → SeqLs M (.v (.ref a)) ds
theorem SeqLs.at {σ : L2.St} {vs : List V} {H B : Hp} {s : Sl} {ds : List PyData} {v : V} (q : SeqLs M s ds) (g : GoodB K B0 F M ρ κ σ vs H B) (hv : VOk K F B v s) : ∃ a xs, v = .ref a ∧ SqL K H a xs ∧ RpA K B xs ds := by
  cases q with
  | lst ds => obtain ⟨a, xs, rfl, h1, h2⟩ := Rp.lst_inv hv; exact ⟨a, xs, rfl, SqL.of (g.bh _ _ h1), h2⟩
  | rd ds => obtain ⟨a, xs, rfl, h1, h2⟩ : ∃ a xs, v = .ref a ∧ SqL K F a xs ∧ RpA K B xs ds := hv; exact ⟨a, xs, rfl, g.fh.seq h1, h2⟩
  | @cell a ds hm =>
    have e : v = .ref a := hv
    subst e
    obtain ⟨_, _, o, ho, ws, rfl, hw⟩ := g.cells _ hm
    exact ⟨a, ws, rfl, SqL.of ho, hw⟩
theorem Seq.at {σ : L2.St} {vs : List V} {H B : Hp} {s : Sl} {ds : List PyData} {v : V} (q : Seq M s ds) (g : GoodB K B0 F M ρ κ σ vs H B) (hv : VOk K F B v s) : ∃ a xs, v = .ref a ∧ (SqL K H a xs ∨ SqT K H a xs) ∧ RpA K B xs ds := by
  cases q with
  | lst ds => obtain ⟨a, xs, h1, h2, h3⟩ := SeqLs.at (.lst ds) g hv; exact ⟨a, xs, h1, .inl h2, h3⟩
  | tup ds => obtain ⟨a, xs, rfl, h1, h2⟩ := Rp.tup_inv hv; exact ⟨a, xs, rfl, .inr (same_t g.bh h1), h2⟩
  | rd ds => obtain ⟨a, xs, h1, h2, h3⟩ := SeqLs.at (.rd ds) g hv; exact ⟨a, xs, h1, .inl h2, h3⟩
  | cell hm => obtain ⟨a, xs, h1, h2, h3⟩ := SeqLs.at (.cell hm) g hv; exact ⟨a, xs, h1, .inl h2, h3⟩
theorem one_arg {α : Type} {xs : List α} {n : Nat} (h : xs.length = n) (e : n = 1) : ∃ x, xs = [x] := List.length_eq_one_iff.mp (h.trans e)
/-- len(x) -/
theorem rn_len {s : Sl} {ds : List PyData} (q : Seq M s ds) (h : P (.d (.int ds.length)) M) : RnD K B0 F ρ κ (fun xs H Q => ∃ p ys, xs = [.ref p] ∧ (SqL K H p ys ∨ SqT K H p ys) ∧ Q (.int ys.length) H) [s] M P := fun σ vs H xs Q hl g qq => by
  obtain ⟨x, rfl⟩ := one_arg hl rfl
  obtain ⟨B, g⟩ := g
  obtain ⟨a, ys, rfl, h1, h2⟩ := q.at g g.fst
  exact ⟨a, ys, rfl, h1, qq _ H _ M ⟨B, g.pop.pushD (by rw [h2.len]; exact .int _)⟩ h⟩
/-- tuple(x) -/
theorem rn_tuple {s : Sl} {ds : List PyData} (q : Seq M s ds) (h : P (.d (.tuple ds)) M) : RnD K B0 F ρ κ (fun xs H Q => ∃ p ys, xs = [.ref p] ∧ ((SqL K H p ys ∧ ∀ l, H l = none → Q (.ref l) (upd H l (.tup ys))) ∨ (SqT K H p ys ∧ Q (.ref p) H))) [s] M P := fun σ vs H xs Q hl g qq => by
  obtain ⟨x, rfl⟩ := one_arg hl rfl
  obtain ⟨B, g⟩ := g
  cases q with
  | tup ds =>
    have hv : Rp K B x (.tuple ds) := g.fst
    obtain ⟨a, ys, e, h1, h2⟩ := Rp.tup_inv hv
    subst e
    exact ⟨a, ys, rfl, .inr ⟨same_t g.bh h1, qq _ H _ M ⟨B, g.pop.pushD (.tup h1 h2)⟩ h⟩⟩
  | lst ds =>
    obtain ⟨a, ys, rfl, h1, h2⟩ := SeqLs.at (.lst ds) g g.fst
    refine ⟨a, ys, rfl, .inl ⟨h1, fun l hl => qq _ _ _ M ?_ h⟩⟩
    have bp : B l = none := g.bh.free hl
    exact ⟨_, (g.pop.laid (o := .tup ys) hl).pushD (.tup (SqT.of upd_same) (h2.ext fun b u z => by rw [upd_ne (ne_of_none z bp)]; exact z))⟩
  | rd ds =>
    obtain ⟨a, ys, rfl, h1, h2⟩ := SeqLs.at (.rd ds) g g.fst
    refine ⟨a, ys, rfl, .inl ⟨h1, fun l hl => qq _ _ _ M ?_ h⟩⟩
    have bp : B l = none := g.bh.free hl
    exact ⟨_, (g.pop.laid (o := .tup ys) hl).pushD (.tup (SqT.of upd_same) (h2.ext fun b u z => by rw [upd_ne (ne_of_none z bp)]; exact z))⟩
  | cell hm =>
    obtain ⟨a, ys, rfl, h1, h2⟩ := SeqLs.at (.cell hm) g g.fst
    refine ⟨a, ys, rfl, .inl ⟨h1, fun l hl => qq _ _ _ M ?_ h⟩⟩
    have bp : B l = none := g.bh.free hl
    exact ⟨_, (g.pop.laid (o := .tup ys) hl).pushD (.tup (SqT.of upd_same) (h2.ext fun b u z => by rw [upd_ne (ne_of_none z bp)]; exact z))⟩
/-- a new list of these values: as a cell -/
theorem cell_new {σ : L2.St} {vs : List V} {H B : Hp} {ys : List V} {ds : List PyData} {l : Addr} (g : GoodB K B0 F M ρ κ σ vs H B) (hl : H l = none) (h : RpA K B ys ds) : Good K B0 F ((l, .lst ds) :: M) ρ (.v (.ref l) :: κ) σ (.ref l :: vs) (upd H l (.lst ys)) := ⟨B, (g.cell (c := .lst ds) hl ⟨ys, rfl, h⟩).pushV⟩
/-- list(x): a cell -/
theorem rn_listC {s : Sl} {ds : List PyData} (q : Seq M s ds) (h : ∀ l, P (.v (.ref l)) ((l, .lst ds) :: M)) : RnD K B0 F ρ κ (fun xs H Q => ∃ p ys, xs = [.ref p] ∧ (SqL K H p ys ∨ SqT K H p ys) ∧ ∀ l, H l = none → Q (.ref l) (upd H l (.lst ys))) [s] M P := fun σ vs H xs Q hl g qq => by
  obtain ⟨x, rfl⟩ := one_arg hl rfl
  obtain ⟨B, g⟩ := g
  obtain ⟨a, ys, rfl, h1, h2⟩ := q.at g g.fst
  exact ⟨a, ys, rfl, h1, fun l hl => qq _ _ _ _ (cell_new g.pop hl h2) (h l)⟩
theorem rn_sum {s : Sl} {ns : List Int} (q : SeqLs M s (ns.map PyData.int)) (h : P (.d (.int ns.sum)) M) : RnD K B0 F ρ κ (rSum K) [s] M P := fun σ vs H xs Q hl g qq => by
  obtain ⟨x, rfl⟩ := one_arg hl rfl
  obtain ⟨B, g⟩ := g
  obtain ⟨a, ys, rfl, h1, h2⟩ := q.at g g.fst
  have e := h2.ints
  subst e
  exact ⟨a, ns, rfl, h1, qq _ H _ M ⟨B, g.pop.pushD (.int _)⟩ h⟩
theorem rn_all {s : Sl} {ns : List Bool} (q : SeqLs M s (ns.map PyData.bool)) (h : P (.d (.bool (ns.all id))) M) : RnD K B0 F ρ κ (rAll K) [s] M P := fun σ vs H xs Q hl g qq => by
  obtain ⟨x, rfl⟩ := one_arg hl rfl
  obtain ⟨B, g⟩ := g
  obtain ⟨a, ys, rfl, h1, h2⟩ := q.at g g.fst
  have e := h2.bls
  subst e
  exact ⟨a, ns, rfl, h1, qq _ H _ M ⟨B, g.pop.pushD (.bl _)⟩ h⟩
theorem rn_any {s : Sl} {ns : List Bool} (q : SeqLs M s (ns.map PyData.bool)) (h : P (.d (.bool (ns.any id))) M) : RnD K B0 F ρ κ (rAny K) [s] M P := fun σ vs H xs Q hl g qq => by
  obtain ⟨x, rfl⟩ := one_arg hl rfl
  obtain ⟨B, g⟩ := g
  obtain ⟨a, ys, rfl, h1, h2⟩ := q.at g g.fst
  have e := h2.bls
  subst e
  exact ⟨a, ns, rfl, h1, qq _ H _ M ⟨B, g.pop.pushD (.bl _)⟩ h⟩
theorem two_args {α : Type} {xs : List α} {n : Nat} (h : xs.length = n) (e : n = 2) : ∃ x y, xs = [x, y] := by
  match xs, h.trans e with
  | [x, y], _ => exact ⟨x, y, rfl⟩
theorem rn_max2 {i j : Int} (h : P (.d (.int (if j > i then j else i))) M) : RnD K B0 F ρ κ (fun xs H Q => ∃ i j, xs = [.int i, .int j] ∧ Q (.int (if j > i then j else i)) H) [.d (.int i), .d (.int j)] M P := fun σ vs H xs Q hl g qq => by
  obtain ⟨x, y, rfl⟩ := two_args hl rfl
  have g2 : Good K B0 F M ρ (.d (.int j) :: κ) σ (y :: vs) H := Good.pop g
  have e := Good.int g
  subst e
  have e := g2.int
  subst e
  exact ⟨i, j, rfl, qq _ H _ M (g2.pop.pushD fun _ _ => Rp.int _) h⟩
theorem rn_min2 {i j : Int} (h : P (.d (.int (if j < i then j else i))) M) : RnD K B0 F ρ κ (fun xs H Q => ∃ i j, xs = [.int i, .int j] ∧ Q (.int (if j < i then j else i)) H) [.d (.int i), .d (.int j)] M P := fun σ vs H xs Q hl g qq => by
  obtain ⟨x, y, rfl⟩ := two_args hl rfl
  have g2 : Good K B0 F M ρ (.d (.int j) :: κ) σ (y :: vs) H := Good.pop g
  have e := Good.int g
  subst e
  have e := g2.int
  subst e
  exact ⟨i, j, rfl, qq _ H _ M (g2.pop.pushD fun _ _ => Rp.int _) h⟩
theorem rn_abs {i : Int} (h : P (.d (.int (if i < 0 then -i else i))) M) : RnD K B0 F ρ κ (fun xs H Q => ∃ i, xs = [.int i] ∧ Q (.int (if i < 0 then -i else i)) H) [.d (.int i)] M P := fun σ vs H xs Q hl g qq => by
  obtain ⟨x, rfl⟩ := one_arg hl rfl
  have e := Good.int g
  subst e
  exact ⟨i, rfl, qq _ H _ M (Good.pushD (Good.pop g) fun _ _ => Rp.int _) h⟩
theorem rn_int {i : Int} (h : P (.d (.int i)) M) : RnD K B0 F ρ κ (fun xs H Q => (∃ i, xs = [.int i] ∧ Q (.int i) H) ∨ ∃ k, xs = [.bl k] ∧ Q (.int (if k then 1 else 0)) H) [.d (.int i)] M P := fun σ vs H xs Q hl g qq => by
  obtain ⟨x, rfl⟩ := one_arg hl rfl
  have e := Good.int g
  subst e
  exact .inl ⟨i, rfl, qq _ H _ M (Good.pushD (Good.pop g) fun _ _ => Rp.int _) h⟩

/-! ### subscripts, slices -/
theorem de_ix {r : R2} (hr : IxR X r) (h : DE X B0 F M ρ κ a fun r1 M1 => DE X B0 F M1 ρ (r1 :: κ) b fun r2 M2 => R2D X.K B0 F ρ κ r r1 r2 M2 P) (hs : PlainIx b := by exact fun _ _ => rfl) : DE X B0 F M ρ κ (.Subscript a b pos) P :=
  fun σ vs H Q g q => tOf_of (pe_ix hr pe_self pe_self hs) (h σ vs H _ g fun x H1 r1 M1 g1 h1 => h1 σ (x :: vs) H1 _ g1 fun y H2 r2 M2 g2 h2 => h2 σ vs H2 x y Q g2 q)
theorem atI_rp {H : Hp} {xs : List V} {ds : List PyData} {i : Int} {d : PyData} (h : RpA K H xs ds) (e : atI ds i = some d) : ∃ v, atI xs i = some v ∧ Rp K H v d := by
  unfold atI at e ⊢
  rw [h.len]
  cases q : ixN ds.length i with
  | none => rw [q] at e; cases e
  | some j =>
    rw [q] at e
    obtain ⟨v, h1, h2⟩ := h.get (i := j) (d := d) e
    exact ⟨v, h1, h2⟩
/-- xs[i], xs a list or a tuple -/
theorem r2_ix {s : Sl} {ds : List PyData} {i : Int} {d : PyData} (q : Seq M s ds) (e : atI ds i = some d) (h : P (.d d) M) : R2D K B0 F ρ κ (rIx K) s (.d (.int i)) M P := fun σ vs H x y Q g qq => by
  have ey := g.int
  subst ey
  obtain ⟨B, g⟩ := g.pop
  obtain ⟨a, ys, rfl, h1, h2⟩ := q.at g g.fst
  obtain ⟨v, hv, hd⟩ := atI_rp h2 e
  rcases h1 with h1 | h1
  · exact .inl ⟨a, ys, i, v, rfl, rfl, h1, hv, qq _ H _ M ⟨B, g.pop.pushD hd⟩ h⟩
  · exact .inr (.inl ⟨a, ys, i, v, rfl, rfl, h1, hv, qq _ H _ M ⟨B, g.pop.pushD hd⟩ h⟩)
/-- a part of a slice -/
def tOfP (X : Cx) : Option Expr → TO
  | none => tNoPart
  | some e => tPart (tOf X e)
theorem po_self {o : Option Expr} : PO X o (tOfP X o) := by
  cases o with
  | none => exact po_none
  | some e => exact po_some pe_self
def DO (X : Cx) (B0 F : Hp) (M : Cs) (ρ κ : List Sl) (o : Option Expr) (P : Option Int → Cs → Prop) : Prop := ∀ σ vs H Q, Good X.K B0 F M ρ κ σ vs H → (∀ i H' M', Good X.K B0 F M' ρ κ σ vs H' → P i M' → Q i H') → tOfP X o σ H Q
theorem do_none {P : Option Int → Cs → Prop} (h : P none M) : DO X B0 F M ρ κ none P := fun σ vs H Q g q => q none H M g h
theorem do_some {P : Option Int → Cs → Prop} (h : DE X B0 F M ρ κ e fun r M1 => ∃ i, r = .d (.int i) ∧ P (some i) M1) : DO X B0 F M ρ κ (some e) P := fun σ vs H Q g q => h σ vs H _ g fun v H' r M' g' h' => by
  obtain ⟨i, rfl, h'⟩ := h'
  have e := g'.int
  subst e
  exact ⟨i, rfl, q _ H' M' g'.pop h'⟩
/-- cut of data, as cutV of values -/
def cutD (xs : List PyData) (lo hi : Option Int) : List PyData := (xs.drop (HT.sIx xs.length 0 lo)).take (HT.sIx xs.length xs.length hi - HT.sIx xs.length 0 lo)
theorem cut_rp {H : Hp} {xs : List V} {ds : List PyData} (h : RpA K H xs ds) (lo hi : Option Int) : RpA K H (cutV xs lo hi) (cutD ds lo hi) := by
  unfold cutV cutD
  rw [h.len]
  exact (h.drop _).take _
theorem cutD_all {ds : List PyData} {lo hi : Option Int} (h : HT.sIx ds.length 0 lo = 0 ∧ HT.sIx ds.length ds.length hi = ds.length) : cutD ds lo hi = ds := by
  unfold cutD
  rw [h.1, h.2, List.drop_zero, Nat.sub_zero, List.take_length]
/-- the slice of an operand that stands: the parts are written (no calls) -/
def RsD (K : Fg) (B0 F : Hp) (ρ κ : List Sl) (r : V → Option Int → Option Int → Hp → VK → Prop) (s : Sl) (lo hi : Option Int) (M : Cs) (P : Sl → Cs → Prop) : Prop := ∀ σ vs H x Q, Good K B0 F M ρ (s :: κ) σ (x :: vs) H → (∀ v H' r' M', Good K B0 F M' ρ (r' :: κ) σ (v :: vs) H' → P r' M' → Q v H') → r x lo hi H Q
theorem de_slice {lo hi : Option Expr} {p2 : Pos} {r : V → Option Int → Option Int → Hp → VK → Prop} (hr : SlR X r) (h : DE X B0 F M ρ κ e fun r1 M1 => DO X B0 F M1 ρ (r1 :: κ) lo fun l M2 => DO X B0 F M2 ρ (r1 :: κ) hi fun u M3 => RsD X.K B0 F ρ κ r r1 l u M3 P) :
    DE X B0 F M ρ κ (.Subscript e (.Slice lo hi none p2) pos) P := fun σ vs H Q g q => tOf_of (pe_slice hr pe_self po_self po_self) (h σ vs H _ g fun x H1 r1 M1 g1 h1 => h1 σ (x :: vs) H1 _ g1 fun l H2 M2 g2 h2 => h2 σ (x :: vs) H2 _ g2 fun u H3 M3 g3 h3 => h3 σ vs H3 x Q g3 q)
/-- xs[l:u]: a new list, a cell -/
theorem rs_listC {s : Sl} {ds : List PyData} {l u : Option Int} (q : SeqLs M s ds) (h : ∀ p, P (.v (.ref p)) ((p, .lst (cutD ds l u)) :: M)) : RsD K B0 F ρ κ (rSlL K) s l u M P := fun σ vs H x Q g qq => by
  obtain ⟨B, g⟩ := g
  obtain ⟨a, ys, rfl, h1, h2⟩ := q.at g g.fst
  exact ⟨a, ys, rfl, h1, fun p hp => qq _ _ _ _ (cell_new g.pop hp (cut_rp h2 l u)) (h p)⟩
end
end DL
set_option maxHeartbeats 2000000
namespace DL
open PySem PySem.Spec PyProof.Rows L2

section
variable {X : Cx} {K : Fg} {B0 F : Hp} {M : Cs} {ρ κ : List Sl} {P : Sl → Cs → Prop} {a b e : Expr} {pos : Pos}
/-- sorted(xs) of data, any number of items -/
def sortD (ds : List PyData) : List PyData := ds.mergeSort (PySem.W.dataLe false id)
def rSortedD (K : Fg) : List V → Hp → VK → Prop := fun vs H Q => ∃ (a : Addr) (xs : List V) (ds : List PyData) (G : Hp), vs = [.ref a] ∧ SqL K H a xs ∧ Same G H ∧ RpA K G xs ds ∧ PySem.W.AllAlike ds ∧ PySem.W.Sortable ds ∧ ds.length ≤ sizeLine ∧ (∀ d ∈ ds, d.depth ≤ 50) ∧
  ∀ p ws, H p = none → RpA K G ws (sortD ds) → Q (.ref p) (upd H p (.lst ws))
theorem each_of {K : Fg} {G : Hp} : ∀ {xs : List V} {ds : List PyData} {us : List Value}, RpA K G xs ds → Vals xs us → PySem.W.EachIs (fun u d => ∃ v, RelV v u ∧ Rp K G v d) us ds
  | _, _, _, .nil, .nil => .nil
  | _, _, _, .cons h t, .cons r q => .cons ⟨_, r, h⟩ (each_of t q)
theorem each_reads {X : Cx} {pins : List (Addr × Obj)} {σ : L2.St} {H : Hp} {s : Shared} (I : Inv X pins σ H s) : ∀ {xs : List V} {ds : List PyData} {us : List Value}, RpA X.K H xs ds → Vals xs us → PySem.W.EachIs (fun u d => ∃ as, Reads s.heap u (id d) as) us ds
  | _, _, _, .nil, .nil => .nil
  | _, _, _, .cons h t, .cons r q => .cons (Dp.reads I _ _ _ h.dp r) (each_reads I t q)
theorem each_back {K : Fg} {H : Hp} : ∀ {us : List Value} {ds : List PyData}, PySem.W.EachIs (fun u d => ∃ v, RelV v u ∧ Rp K H v d) us ds → ∃ ws, Vals ws us ∧ RpA K H ws ds
  | _, _, .nil => ⟨[], .nil, .nil⟩
  | _, _, .cons ⟨v, h1, h2⟩ t => by
    obtain ⟨ws, h3, h4⟩ := each_back t
    exact ⟨v :: ws, .cons h1 h3, .cons h2 h4⟩
theorem cr_sortedD (hu : X.A.units + 64 < cLine) : CallR X (.builtin "sorted") (rSortedD X.K) := by
  intro pins s σ H vs us Q I r h
  obtain ⟨a, xs, ds, G, rfl, hs, hG, hr, hal, hk, hz, hdp, q⟩ := h
  obtain ⟨its, rv, hl, hz2⟩ := I.list hs
  rw [Vals.ref1 r]
  refine PySem.W.sorted_data (bs := ds) (enc := id) hl.isList (each_of hr rv) (each_reads I (hr.ext hG) rv) (by rw [List.map_id]; exact hal) (by rw [List.map_id]; exact hk) hz (fun d hd => ?_) fun out ho eo => ?_
  · have := hdp d hd
    show X.A.units + 2 + d.depth < cLine
    omega
  · obtain ⟨ws, h1, h2⟩ := each_back eo
    obtain ⟨ep, he'⟩ := PyProof.Rows.sortedAll_at s.heap its out.toArray
    have hlen : ws.length ≤ sizeLine := by rw [h1.length, ho]; exact hz
    exact ⟨.ref _, upd H (s.heap.objs.size + 1) (.lst ws), I.laid (t' := s.toks) (fun _ _ => PyProof.Rows.sortedAll_old) (Nat.le_succ _) (show ObjOk X.prog X.w _ _ _ (.lst ws) from ⟨hlen, out, ep, h1, he'⟩), rfl, q _ _ (I.hok.fresh (Nat.le_succ _)) h2⟩
theorem rn_sortedC {s : Sl} {ds : List PyData} (q : SeqLs M s ds) (hal : PySem.W.AllAlike ds) (hk : PySem.W.Sortable ds) (hz : ds.length ≤ 100000) (hd : ∀ d ∈ ds, d.depth ≤ 50) (h : ∀ l, P (.v (.ref l)) ((l, .lst (sortD ds)) :: M)) : RnD K B0 F ρ κ (rSortedD K) [s] M P := fun σ vs H xs Q hl g qq => by
  obtain ⟨x, rfl⟩ := one_arg hl rfl
  obtain ⟨B, g⟩ := g
  obtain ⟨a, ys, rfl, h1, h2⟩ := q.at g g.fst
  exact ⟨a, ys, ds, B, rfl, h1, g.bh, h2, hal, hk, Nat.le_trans hz (by decide), hd, fun p ws hp hw => qq _ _ _ _ (cell_new g.pop hp hw) (h p)⟩

/-! ### in -/
theorem rpa_flat {H : Hp} : ∀ {ws : List V} {ds : List PyData} {vs : List V}, RpA K H ws ds → ds.map flatD = vs.map some → ws = vs
  | _, [], [], h, _ => by cases h; rfl
  | _, d :: ds, v :: vs, h, e => by
    cases h with
    | cons h1 h2 =>
      rw [List.map_cons, List.map_cons, List.cons.injEq] at e
      rw [Rp.flat h1 e.1, rpa_flat h2 e.2]
  | _, _ :: _, [], _, e => by cases e
  | _, [], _ :: _, _, e => by cases e
theorem flatV_of {d : PyData} {v : V} (h : flatD d = some v) : flatV v = true := by
  cases d <;> first | (cases Option.some.inj h; rfl) | cases h
theorem flatVs_of : ∀ {ds : List PyData} {vs : List V}, ds.map flatD = vs.map some → vs.all flatV = true
  | [], [], _ => rfl
  | d :: ds, v :: vs, e => by
    rw [List.map_cons, List.map_cons, List.cons.injEq] at e
    rw [List.all_cons, flatV_of e.1, flatVs_of e.2] <;> rfl
  | _ :: _, [], e => by cases e
  | [], _ :: _, e => by cases e
theorem r2_in {s : Sl} {ds : List PyData} {d : PyData} {v : V} {vs : List V} {neg : Bool} (q : Seq M s ds) (hd : flatD d = some v) (hs : ds.map flatD = vs.map some) (h : P (.d (.bool (if neg then !inV v vs else inV v vs))) M) : R2D K B0 F ρ κ (rIn K neg) (.d d) s M P := fun σ vs' H x y Q g qq => by
  obtain ⟨B, g⟩ := g
  obtain ⟨a, ys, rfl, h1, h2⟩ := q.at g g.fst
  have e := Rp.flat g.pop.fst hd
  subst e
  have e := rpa_flat h2 hs
  subst e
  exact ⟨a, _, rfl, h1, flatV_of hd, flatVs_of hs, qq _ H _ M ⟨B, g.pop.pop.pushD (Rp.bl _)⟩ h⟩
/-- ints in ints -/
theorem inV_ints {i : Int} : ∀ {ns : List Int}, inV (.int i) (ns.map V.int) = decide (i ∈ ns)
  | [] => by simp [inV]
  | n :: ns => by
    have ih := inV_ints (i := i) (ns := ns)
    unfold inV at ih ⊢
    rw [List.map_cons, List.any_cons, ih]
    show (n == i || decide (i ∈ ns)) = _
    by_cases e : n = i
    · subst e; simp
    · have e' : ¬ i = n := fun z => e z.symm
      simp [e, e']
theorem flat_ints : ∀ ns : List Int, (ns.map PyData.int).map flatD = (ns.map V.int).map some
  | [] => rfl
  | n :: ns => by rw [List.map_cons, List.map_cons, List.map_cons, List.map_cons, flat_ints ns] <;> rfl
theorem r2_inI {s : Sl} {ns : List Int} {i : Int} (q : Seq M s (ns.map PyData.int)) (h : P (.d (.bool (decide (i ∈ ns)))) M) : R2D K B0 F ρ κ (rIn K false) (.d (.int i)) s M P := r2_in q rfl (flat_ints ns) (by rw [inV_ints]; exact h)
theorem r2_niI {s : Sl} {ns : List Int} {i : Int} (q : Seq M s (ns.map PyData.int)) (h : P (.d (.bool (!decide (i ∈ ns)))) M) : R2D K B0 F ρ κ (rIn K true) (.d (.int i)) s M P := r2_in q rfl (flat_ints ns) (by rw [inV_ints]; exact h)

/-! ### isinstance -/
def tyD : PyData → Value
  | .none => .type "NoneType"
  | .bool _ => .type "bool"
  | .int _ => .type "int"
  | .str _ => .type "str"
  | .list _ => .type "list"
  | .tuple _ => .type "tuple"
  | .dict _ => .type "dict"
theorem tyX_of {H : Hp} {v : V} {d : PyData} (h : Rp K H v d) : TyX K H v (tyD d) := by
  cases h with
  | non => exact .base .non
  | bl b => exact .base (.bl b)
  | int i => exact .base (.int i)
  | str x => exact .base (.str x)
  | lst h hs => exact .base (.lst h)
  | tup h hs =>
    rcases h with (h | ⟨o, h⟩) | ⟨o, its, n, h, hc, _⟩
    · exact .base (.tup h)
    · exact .fTuple h
    · exact .kTuple h hc
theorem rn_isi {d : PyData} {T : String} {b : Bool} (hb : PySem.W.kitOne K (tyD d) (.type T) = some b) (h : P (.d (.bool b)) M) : RnD K B0 F ρ κ (rIsi K) [.d d, .v (.ty T)] M P := fun σ vs H xs Q hl g qq => by
  obtain ⟨x, y, rfl⟩ := two_args hl rfl
  obtain ⟨B, g⟩ := g
  have e : y = .ty T := g.pop.fst
  subst e
  have r : Rp K B x d := g.fst
  exact ⟨x, .ty T, tyD d, .type T, b, rfl, .ty T, tyX_of (r.ext g.bh), hb, qq _ H _ M ⟨B, g.pop.pop.pushD (Rp.bl _)⟩ h⟩

/-! ### tuples: +, slices -/
theorem r2_catT {xs ys : List PyData} (hz : xs.length + ys.length ≤ 100000) (h : P (.d (.tuple (xs ++ ys))) M) : R2D K B0 F ρ κ (rCatA K) (.d (.tuple xs)) (.d (.tuple ys)) M P := fun σ vs H x y Q g qq => by
  obtain ⟨B, g⟩ := g
  obtain ⟨b, vb, rfl, hb, rb⟩ := Rp.tup_inv g.fst
  obtain ⟨a, va, e, ha, ra⟩ := Rp.tup_inv g.pop.fst
  subst e
  refine ⟨a, b, va, vb, rfl, rfl, same_t g.bh ha, same_t g.bh hb, by rw [ra.len, rb.len]; exact Nat.le_trans hz (by decide), fun e => ?_, fun _ e => ?_, fun _ _ p hp => ?_⟩
  · subst e
    cases ra
    exact qq _ H _ M ⟨B, g.pop.pop.pushD (.tup hb rb)⟩ h
  · subst e
    cases rb
    rw [List.append_nil] at h
    exact qq _ H _ M ⟨B, g.pop.pop.pushD (.tup ha ra)⟩ h
  · have bp : B p = none := g.bh.free hp
    exact qq _ _ _ M ⟨_, (g.pop.pop.laid (o := .tup (va ++ vb)) hp).pushD (.tup (SqT.of upd_same) ((ra.app rb).ext fun b u z => by rw [upd_ne (ne_of_none z bp)]; exact z))⟩ h
theorem rs_tup {ds : List PyData} {l u : Option Int} (h : P (.d (.tuple (cutD ds l u))) M) : RsD K B0 F ρ κ (rSlA K) (.d (.tuple ds)) l u M P := fun σ vs H x Q g qq => by
  obtain ⟨B, g⟩ := g
  obtain ⟨a, va, rfl, ha, ra⟩ := Rp.tup_inv g.fst
  refine ⟨a, va, rfl, same_t g.bh ha, fun e => ?_, fun _ p hp => ?_⟩
  · rw [ra.len] at e
    rw [cutD_all e] at h
    exact qq _ H _ M ⟨B, g.pop.pushD (.tup ha ra)⟩ h
  · have bp : B p = none := g.bh.free hp
    exact qq _ _ _ M ⟨_, (g.pop.laid (o := .tup (cutV va l u)) hp).pushD (.tup (SqT.of upd_same) ((cut_rp ra l u).ext fun b u z => by rw [upd_ne (ne_of_none z bp)]; exact z))⟩ h

/-! ### lists: +, append, +=, stores -/
theorem cell_at {σ : L2.St} {vs : List V} {H B : Hp} {n : Nat} {a : Addr} {ds : List PyData} (g : GoodB K B0 F M ρ κ σ vs H B) (h : M[n]? = some (a, .lst ds)) : ∃ ws, H a = some (.lst ws) ∧ RpA K B ws ds := by
  obtain ⟨_, _, o, ho, ws, rfl, hw⟩ := g.cells _ (List.mem_of_getElem? h)
  exact ⟨ws, ho, hw⟩
/-- xs + ys, both tracked lists: a cell -/
inductive SeqCl (M : Cs) : Sl → List PyData → Prop
  | lst (ds : List PyData) : SeqCl M (.d (.list ds)) ds
  | cell {a : Addr} {ds : List PyData} : (a, .lst ds) ∈ M → SeqCl M (.v (.ref a)) ds
theorem SeqCl.at {σ : L2.St} {vs : List V} {H B : Hp} {s : Sl} {ds : List PyData} {v : V} (q : SeqCl M s ds) (g : GoodB K B0 F M ρ κ σ vs H B) (hv : VOk K F B v s) : ∃ a xs, v = .ref a ∧ H a = some (.lst xs) ∧ RpA K B xs ds := by
  cases q with
  | lst ds => obtain ⟨a, xs, rfl, h1, h2⟩ := Rp.lst_inv hv; exact ⟨a, xs, rfl, g.bh _ _ h1, h2⟩
  | @cell a ds hm =>
    have e : v = .ref a := hv
    subst e
    obtain ⟨_, _, o, ho, ws, rfl, hw⟩ := g.cells _ hm
    exact ⟨a, ws, rfl, ho, hw⟩
theorem r2_catC {s t : Sl} {xs ys : List PyData} (q1 : SeqCl M s xs) (q2 : SeqCl M t ys) (hz : xs.length + ys.length ≤ 100000) (h : ∀ l, P (.v (.ref l)) ((l, .lst (xs ++ ys)) :: M)) : R2D K B0 F ρ κ rCat s t M P := fun σ vs H x y Q g qq => by
  obtain ⟨B, g⟩ := g
  obtain ⟨b, vb, rfl, hb, rb⟩ := q2.at g g.fst
  obtain ⟨a, va, e, ha, ra⟩ := q1.at g g.pop.fst
  subst e
  exact ⟨a, b, va, vb, rfl, rfl, ha, hb, by rw [ra.len, rb.len]; exact Nat.le_trans hz (by decide), fun p hp => qq _ _ _ _ (cell_new g.pop.pop hp (ra.app rb)) (h p)⟩
/-- xs += ys: the cell at place n grows -/
theorem r2_ext (n : Nat) {a : Addr} {t : Sl} {xs ys : List PyData} (hn : M[n]? = some (a, .lst xs)) (q2 : SeqCl M t ys) (hz : xs.length + ys.length ≤ 100000) (h : P (.v (.ref a)) (M.set n (a, .lst (xs ++ ys)))) : R2D K B0 F ρ κ rExt2 (.v (.ref a)) t M P := fun σ vs H x y Q g qq => by
  obtain ⟨B, g⟩ := g
  obtain ⟨b, vb, rfl, hb, rb⟩ := q2.at g g.fst
  have e : x = .ref a := g.pop.fst
  subst e
  obtain ⟨va, ha, ra⟩ := cell_at g hn
  exact ⟨a, b, va, vb, rfl, rfl, ha, hb, by rw [ra.len, rb.len]; exact Nat.le_trans hz (by decide), qq _ _ _ _ ⟨B, (g.pop.pop.write (c' := .lst (xs ++ ys)) hn ⟨_, rfl, ra.app rb⟩).pushV⟩ h⟩
variable {o : Expr} {apos cpos : Pos} {k : KK}
/-- o.append(e): o a cell at place n -/
theorem de_append (n : Nat) (h : DE X B0 F M ρ κ o fun r1 M1 => ∃ a ds', r1 = .v (.ref a) ∧ (a, MC.lst ds') ∈ M1 ∧ DE X B0 F M1 ρ (r1 :: κ) e fun r2 M2 => ∃ ds y, r2 = .d y ∧ M2[n]? = some (a, .lst ds) ∧ ds.length < 100000 ∧ P (.d .none) (M2.set n (a, .lst (ds ++ [y]))))
    (hbase : attributeBase o "append" X.env (eval o X.env) = eval o X.env := by rfl)
    (hfew : ((backTo cpos (starEach (e :: []) X.env)).all (fun x => !x.1) && (backToKw cpos (keywordEach [] X.env)).all (fun x => x.1.isSome)
      && decide ((e :: ([] : List Expr)).length + ([] : List Keyword).length + (if ([] : List Keyword).isEmpty then 0 else 1) < 30)) = true := by rfl)
    (hline : (apos.endLine == cpos.line) = true := by rfl) (hs : starEach (e :: []) X.env = (false, eval e X.env) :: starEach [] X.env := by rfl) (hplain : (backTo cpos (starEach [] X.env)).any (·.1) = false := by rfl) :
    DE X B0 F M ρ κ (.Call (.Attribute o "append" apos) [e] [] cpos) P := fun σ vs H Q g q => by
  refine tOf_of (pe_bm PySem.F.plainAttrs_list PySem.F.slot_list_append PySem.F.type_list_append (X := X) mt_append pe_self (pa_cons pe_self pa_nil hs) hbase hfew hline hs hplain) ?_
  refine h σ vs H _ g fun x H1 r1 M1 g1 h1 => ?_
  obtain ⟨a, ds', rfl, hm, h1⟩ := h1
  have e := g1.ref
  subst e
  refine ⟨?_, h1 σ (.ref a :: vs) H1 _ g1 fun y H2 r2 M2 g2 h2 => ?_⟩
  · obtain ⟨B, g1⟩ := g1
    obtain ⟨_, _, u, ho, ws, rfl, hw⟩ := g1.cells _ hm
    exact .inl ⟨rfl, ws, SqL.of ho⟩
  · obtain ⟨ds, yd, rfl, hn, hl, hp⟩ := h2
    obtain ⟨B, g2⟩ := g2
    obtain ⟨ws, ho, hw⟩ := cell_at g2 hn
    have hz : (100000 : Nat) ≤ sizeLine := by decide
    exact ⟨a, ws, y, rfl, rfl, ho, by rw [hw.len]; omega, q _ _ _ _ ⟨B, (g2.pop.pop.write (c' := .lst (ds ++ [yd])) hn ⟨_, rfl, hw.app (.cons g2.fst .nil)⟩).pushD .non⟩ hp⟩
/-- xs.index(y), ints: the first place -/
theorem de_index (h : DE X B0 F M ρ κ o fun r1 M1 => ∃ ns : List Int, SeqLs M1 r1 (ns.map PyData.int) ∧ DE X B0 F M1 ρ (r1 :: κ) e fun r2 M2 => ∃ (i : Int) (j : Nat), M2 = M1 ∧ r2 = .d (.int i) ∧ ns[j]? = some i ∧ (∀ m, m < j → ns[m]? ≠ some i) ∧ P (.d (.int (j : Nat))) M2)
    (hbase : attributeBase o "index" X.env (eval o X.env) = eval o X.env := by rfl)
    (hfew : ((backTo cpos (starEach (e :: []) X.env)).all (fun x => !x.1) && (backToKw cpos (keywordEach [] X.env)).all (fun x => x.1.isSome)
      && decide ((e :: ([] : List Expr)).length + ([] : List Keyword).length + (if ([] : List Keyword).isEmpty then 0 else 1) < 30)) = true := by rfl)
    (hline : (apos.endLine == cpos.line) = true := by rfl) (hs : starEach (e :: []) X.env = (false, eval e X.env) :: starEach [] X.env := by rfl) (hplain : (backTo cpos (starEach [] X.env)).any (·.1) = false := by rfl) :
    DE X B0 F M ρ κ (.Call (.Attribute o "index" apos) [e] [] cpos) P := fun σ vs H Q g q => by
  refine tOf_of (pe_bm PySem.F.plainAttrs_list PySem.F.slot_list_index PySem.F.type_list_index (X := X) mt_index pe_self (pa_cons pe_self pa_nil hs) hbase hfew hline hs hplain) ?_
  refine h σ vs H _ g fun x H1 r1 M1 g1 h1 => ?_
  obtain ⟨ns, hq, h1⟩ := h1
  obtain ⟨B, g1b⟩ := id g1
  obtain ⟨a, ys, rfl, hs1, hr1⟩ := hq.at g1b g1b.fst
  refine ⟨.inl ⟨rfl, ys, hs1⟩, h1 σ (.ref a :: vs) H1 _ g1 fun y H2 r2 M2 g2 h2 => ?_⟩
  obtain ⟨i, j, rfl, rfl, hj, hm, hp⟩ := h2
  have e := g2.int
  subst e
  obtain ⟨B, g2⟩ := g2
  obtain ⟨a', ys', e, hs2, hr2⟩ := hq.at g2 g2.pop.fst
  cases e
  have e := hr2.ints
  subst e
  have hmap : ∀ {m : Nat} {z : V}, (ns.map V.int)[m]? = some z → ∃ k, ns[m]? = some k ∧ z = .int k := fun {m z} e => by
    rw [List.getElem?_map] at e
    cases q : ns[m]? with
    | none => rw [q] at e; cases e
    | some k => rw [q] at e; exact ⟨k, rfl, (Option.some.inj e).symm⟩
  refine ⟨a, ns.map V.int, .int i, j, .int i, rfl, rfl, hs2, rfl, List.all_eq_true.mpr fun z hz => ?_, by rw [List.getElem?_map, hj]; rfl, by show (i == i) = true; simp, fun m z hm' hz => ?_, q _ H2 _ _ ⟨B, g2.pop.pop.pushD (.int _)⟩ hp⟩
  · obtain ⟨k, _, rfl⟩ := List.mem_map.mp hz
    rfl
  · obtain ⟨k, hk, rfl⟩ := hmap hz
    show (k == i) = false
    have : k ≠ i := fun e => hm m hm' (by rw [hk, e])
    simpa using this
/-- o[i] = .. : o a cell at place n -/
theorem dg_sub (n : Nat) {r : Sl} {Pg : Cs → List Sl → Prop} (h : DE X B0 F M ρ (r :: κ) o fun r1 M1 => DE X B0 F M1 ρ (r1 :: r :: κ) e fun r2 M2 => ∃ a ds y i j, r1 = .v (.ref a) ∧ r2 = .d (.int i) ∧ r = .d y ∧ M2[n]? = some (a, .lst ds) ∧ ixN ds.length i = some j ∧ Pg (M2.set n (a, .lst (ds.set j y))) ρ)
    (ha : ∀ v, assign (.Subscript o e pos) X.env v = (do
      let ov ← holding [v] (eval o X.env)
      let iv ← holding [v, ov] (eval e X.env)
      standAt pos
      holding [v, ov, iv] (setItem ov iv v)
      release [v, ov, iv] []) := by intro _; rfl) : DG X B0 F M ρ κ r (.Subscript o e pos) Pg := fun σ vs H x Q g q => by
  refine tOfG_of (pg_sub pe_self pe_self set_list ha) ?_
  refine h σ (x :: vs) H _ g fun v1 H1 r1 M1 g1 h1 => h1 σ (v1 :: x :: vs) H1 _ g1 fun v2 H2 r2 M2 g2 h2 => ?_
  obtain ⟨a, ds, y, i, j, rfl, rfl, rfl, hn, hi, hp⟩ := h2
  have e := g2.int
  subst e
  have e := g2.pop.ref
  subst e
  obtain ⟨B, g2⟩ := g2
  obtain ⟨ws, ho, hw⟩ := cell_at g2 hn
  exact ⟨a, ws, i, j, rfl, rfl, ho, by rw [hw.len]; exact hi, q _ _ _ _ ⟨B, g2.pop.pop.pop.write (c' := .lst (ds.set j y)) hn ⟨_, rfl, hw.set g2.pop.pop.fst j⟩⟩ hp⟩

/-! ### raw lists: a cell whose values are told one by one -/
def slV : V → Sl
  | .int i => .d (.int i)
  | .bl b => .d (.bool b)
  | .str x => .d (.str x)
  | .non => .d .none
  | v => .v v
theorem slV_ok {F B : Hp} (v : V) : VOk K F B v (slV v) := by
  cases v <;> first | exact (rfl : _ = _) | exact Rp.int _ | exact Rp.bl _ | exact Rp.str _ | exact Rp.non
theorem raw_at {σ : L2.St} {vs : List V} {H B : Hp} {a : Addr} {o : HO} (g : GoodB K B0 F M ρ κ σ vs H B) (h : (a, .raw o) ∈ M) : H a = some o := by
  obtain ⟨_, _, u, ho, e⟩ := g.cells _ h
  have e : u = o := e
  subst e
  exact ho
theorem r2_ixRaw {a : Addr} {ws : List V} {i : Int} {v : V} (hm : (a, .raw (.lst ws)) ∈ M) (e : atI ws i = some v) (h : P (slV v) M) : R2D K B0 F ρ κ (rIxL K) (.v (.ref a)) (.d (.int i)) M P := fun σ vs H x y Q g qq => by
  have ey := g.int
  subst ey
  have ex := g.pop.ref
  subst ex
  obtain ⟨B, g⟩ := g
  exact ⟨a, ws, i, v, rfl, rfl, SqL.of (raw_at g hm), e, qq _ H _ M ⟨B, g.pop.pop.push (slV_ok v)⟩ h⟩
theorem dg_subRaw (n : Nat) {r : PyData} {Pg : Cs → List Sl → Prop} (h : DE X B0 F M ρ (.d r :: κ) o fun r1 M1 => DE X B0 F M1 ρ (r1 :: .d r :: κ) e fun r2 M2 => ∃ a ws v i j, r1 = .v (.ref a) ∧ r2 = .d (.int i) ∧ flatD r = some v ∧ M2[n]? = some (a, .raw (.lst ws)) ∧ ixN ws.length i = some j ∧ Pg (M2.set n (a, .raw (.lst (ws.set j v)))) ρ)
    (ha : ∀ v, assign (.Subscript o e pos) X.env v = (do
      let ov ← holding [v] (eval o X.env)
      let iv ← holding [v, ov] (eval e X.env)
      standAt pos
      holding [v, ov, iv] (setItem ov iv v)
      release [v, ov, iv] []) := by intro _; rfl) : DG X B0 F M ρ κ (.d r) (.Subscript o e pos) Pg := fun σ vs H x Q g q => by
  refine tOfG_of (pg_sub pe_self pe_self set_list ha) ?_
  refine h σ (x :: vs) H _ g fun v1 H1 r1 M1 g1 h1 => h1 σ (v1 :: x :: vs) H1 _ g1 fun v2 H2 r2 M2 g2 h2 => ?_
  obtain ⟨a, ws, v, i, j, rfl, rfl, hv, hn, hi, hp⟩ := h2
  have e := g2.int
  subst e
  have e := g2.pop.ref
  subst e
  have e := g2.pop.pop.flat hv
  subst e
  obtain ⟨B, g2⟩ := g2
  have ho := raw_at g2 (List.mem_of_getElem? hn)
  exact ⟨a, ws, i, j, rfl, rfl, ho, hi, q _ _ _ _ ⟨B, g2.pop.pop.pop.write (c' := .raw (.lst (ws.set j _))) hn rfl⟩ hp⟩
end
end DL
set_option maxHeartbeats 2000000
namespace DL
open PySem PySem.Spec PyProof.Rows L2

/-! ### a def by its data in a head -/
section
variable {P : Program} {w : World} {K : Fg} {mg : Str → Option Value} {base : Heap}
theorem fn_okD {x qual : Str} {st : Stmt} {f : Addr} {fd : FuncData} {N ps : List Str} {k : Nat} {R : List Sl → Cs → (Sl → Cs → Prop) → Prop} (Fu : FunD K x qual (defArgs st) (defBody st) (defScope st) [] [] f fd) (S : FnScope N ps (defScope st)) (len : ∀ κ M W, R κ M W → κ.length = ps.length)
    (body : ∀ (cdv : Value) (A : Around) (outer : List Env) (s : Shared) (H : Hp) (E : XK), Room k (A.deeper (envOfC qual (defScope st) s.heap.objs.size f cdv)) → N.Nodup → ∀ (B0 F : Hp) (κ : List Sl) (M : Cs) (W : Sl → Cs → Prop), R κ M W →
      DB (cxOf CX0 P w K mg base N qual (defScope st) f cdv A outer s H E).nox B0 F M (κ ++ List.replicate (N.length - ps.length) .un) [] (defBody st) { nx := fun M' _ => W (.d .none) M', rt := W }) : FnOk P w K mg base CX0 (k + 1) f fd ps (SpG K R) := by
  refine Fu.ok S (fun vs H Q E h => ?_) (fun cdv A outer s H vs Q E hr h => ?_)
  · obtain ⟨B0, F, M, κ, W, ⟨B, g⟩, _, hR, _⟩ := h
    rw [Paired.length g.st]
    exact len κ M W hR
  · obtain ⟨B0, F, M, κ, W, ⟨B, g⟩, hn, hR, q⟩ := h
    refine ⟨tOfB _ (defBody st), PSs.nox pb_self, ?_⟩
    have hl := Paired.length g.st
    have hk := len κ M W hR
    refine body cdv A outer s H E hr S.nd B0 F κ M W hR (L2.start N vs) [] H _ ⟨B, (g.stk .nil).slt ?_⟩ ⟨fun σ' H' M' ρ' g' n => ?_, fun v H' r M' g' n => q v H' r M' g' n, fun _ _ _ _ _ n => n.elim, fun _ _ _ _ _ n => n.elim⟩
    · unfold L2.start
      rw [hl, hk]
      exact start_sok g.st
    · refine q .non H' (.d .none) M' ?_ n
      obtain ⟨B', g'⟩ := g'
      exact ⟨B', (g'.stk .nil |>.slt .nil).pushD .non⟩
end

/-! ### dicts whose keys are ints and texts -/
def valD (kvs : List (Key × PyData)) (k : Key) : Option PyData := (kvs.find? fun kv => decide (kv.1 = k)).map (·.2)
def putD (kvs : List (Key × PyData)) (k : Key) (v : PyData) : List (Key × PyData) := if (kvs.any fun kv => decide (kv.1 = k)) = true then kvs.map (fun kv => if kv.1 = k then (kv.1, v) else kv) else kvs ++ [(k, v)]
abbrev EntsOk (K : Fg) (B : Hp) : List (Key × V) → List (Key × PyData) → Prop := Paired (fun (p : Key × V) (q : Key × PyData) => p.1 = q.1 ∧ Rp K B p.2 q.2)
section
variable {X : Cx} {K : Fg} {B0 F : Hp} {M : Cs} {ρ κ : List Sl} {P : Sl → Cs → Prop} {a b e o i : Expr} {pos : Pos} {k : KK}
theorem ents_val {B : Hp} {ky : Key} : ∀ {kvs : List (Key × V)} {es : List (Key × PyData)}, EntsOk K B kvs es → (∀ d, valD es ky = some d → ∃ v, valV kvs ky = some v ∧ Rp K B v d) ∧ (valD es ky = none → valV kvs ky = none)
  | _, _, .nil => ⟨(fun d h => nomatch h), fun _ => rfl⟩
  | p :: kvs, q :: es, .cons h t => by
    obtain ⟨ih1, ih2⟩ := ents_val (ky := ky) t
    obtain ⟨pk, pv⟩ := p
    obtain ⟨qk, qv⟩ := q
    obtain ⟨h1, h2⟩ := h
    have h1 : pk = qk := h1
    subst h1
    unfold valD valV at *
    rw [List.find?_cons, List.find?_cons]
    by_cases c : pk = ky
    · rw [show decide ((pk, qv).1 = ky) = true from decide_eq_true c]
      exact ⟨fun d h => ⟨pv, rfl, by cases Option.some.inj h; exact h2⟩, fun h => by cases h⟩
    · rw [show decide ((pk, qv).1 = ky) = false from decide_eq_false c]
      exact ⟨ih1, ih2⟩
theorem ents_any {B : Hp} {ky : Key} : ∀ {kvs : List (Key × V)} {es : List (Key × PyData)}, EntsOk K B kvs es → (kvs.any fun kv => decide (kv.1 = ky)) = (es.any fun kv => decide (kv.1 = ky))
  | _, _, .nil => rfl
  | p :: kvs, q :: es, .cons h t => by rw [List.any_cons, List.any_cons, ents_any t, h.1]
theorem ents_put {B : Hp} {ky : Key} {v : V} {d : PyData} (r : Rp K B v d) {kvs : List (Key × V)} {es : List (Key × PyData)} (h : EntsOk K B kvs es) : EntsOk K B (putK kvs ky v) (putD es ky d) := by
  unfold putK putD
  rw [ents_any h]
  by_cases c : (es.any fun kv => decide (kv.1 = ky)) = true
  · rw [if_pos c, if_pos c]
    clear c
    induction h with
    | nil => exact .nil
    | @cons p q ps qs h t ih =>
      rw [List.map_cons, List.map_cons]
      refine .cons ?_ ih
      obtain ⟨h1, h2⟩ := h
      by_cases c : p.1 = ky
      · rw [if_pos c, if_pos (h1 ▸ c)]; exact ⟨h1, r⟩
      · rw [if_neg c, if_neg (h1 ▸ c)]; exact ⟨h1, h2⟩
  · rw [if_neg c, if_neg c]
    exact Paired.app h (.cons ⟨rfl, r⟩ .nil)
theorem putD_len (kvs : List (Key × PyData)) (ky : Key) (v : PyData) : (putD kvs ky v).length ≤ kvs.length + 1 := by
  unfold putD
  split
  · rw [List.length_map]; omega
  · rw [List.length_append, List.length_cons, List.length_nil]; omega
theorem dic_at {σ : L2.St} {vs : List V} {H B : Hp} {a : Addr} {es : List (Key × PyData)} (g : GoodB K B0 F M ρ κ σ vs H B) (h : (a, .dic es) ∈ M) : ∃ kvs, H a = some (.dK kvs) ∧ EntsOk K B kvs es := by
  obtain ⟨_, _, u, ho, kvs, rfl, e⟩ := g.cells _ h
  exact ⟨kvs, ho, e⟩
/-- the key that a slot says -/
inductive KeyIs : Sl → Key → Prop
  | int (i : Int) : KeyIs (.d (.int i)) (.inl i)
  | str (x : Str) : KeyIs (.d (.str x)) (.inr x)
theorem KeyIs.v {σ : L2.St} {vs : List V} {H : Hp} {r : Sl} {ky : Key} {v : V} (q : KeyIs r ky) (g : Good K B0 F M ρ (r :: κ) σ (v :: vs) H) : v = kV ky := by
  cases q with
  | int i => exact g.int
  | str x => exact g.str
theorem de_dnew (h : ∀ p, P (.v (.ref p)) ((p, .dic []) :: M)) : DE X B0 F M ρ κ (.Dict [] [] pos) P := fun σ vs H Q g q => tOf_of pe_dnewK fun p hp => by
  obtain ⟨B, g⟩ := g
  exact q _ _ _ _ ⟨B, (g.cell (c := .dic []) hp ⟨[], rfl, .nil⟩).pushV⟩ (h p)
theorem de_dget (hu : X.A.units + 1 < cLine) (h : DE X B0 F M ρ κ o fun r1 M1 => DE X B0 F M1 ρ (r1 :: κ) i fun r2 M2 => ∃ a es ky d, r1 = .v (.ref a) ∧ (a, .dic es) ∈ M2 ∧ KeyIs r2 ky ∧ valD es ky = some d ∧ P (.d d) M2) (hs : NoSl i := by exact fun _ _ => rfl) : DE X B0 F M ρ κ (.Subscript o i pos) P :=
  fun σ vs H Q g q => tOf_of (pe_dget hu pe_self pe_self hs) (h σ vs H _ g fun x H1 r1 M1 g1 h1 => h1 σ (x :: vs) H1 _ g1 fun y H2 r2 M2 g2 h2 => by
    obtain ⟨a, es, ky, d, rfl, hm, hk, hd, hp⟩ := h2
    have e := g2.pop.ref
    subst e
    have e := hk.v g2
    subst e
    obtain ⟨B, g2⟩ := g2
    obtain ⟨kvs, ho, he⟩ := dic_at g2 hm
    obtain ⟨v, hv, hr⟩ := (ents_val he).1 d hd
    exact ⟨a, v, rfl, by rw [← hv]; exact DGet.k ho, q _ H2 _ M2 ⟨B, g2.pop.pop.pushD hr⟩ hp⟩)
theorem val_some {B : Hp} {ky : Key} {kvs : List (Key × V)} {es : List (Key × PyData)} (h : EntsOk K B kvs es) : (valV kvs ky).isSome = (valD es ky).isSome := by
  cases q : valD es ky with
  | none => rw [(ents_val h).2 q] <;> rfl
  | some d => obtain ⟨v, hv, _⟩ := (ents_val h).1 d q; rw [hv]; rfl
theorem de_din (hu : X.A.units + 1 < cLine) (h : DE X B0 F M ρ κ i fun r1 M1 => DE X B0 F M1 ρ (r1 :: κ) o fun r2 M2 => ∃ a es ky, r2 = .v (.ref a) ∧ (a, .dic es) ∈ M2 ∧ KeyIs r1 ky ∧ P (.d (.bool (valD es ky).isSome)) M2) (hb : behindInMarks .In o = false := by rfl) : DE X B0 F M ρ κ (.Compare i [.In] [o] pos) P :=
  fun σ vs H Q g q => tOf_of (pe_cmp (pc_din hu pe_self pe_self) hb) (h σ vs H _ g fun x H1 r1 M1 g1 h1 => h1 σ (x :: vs) H1 _ g1 fun y H2 r2 M2 g2 h2 => by
    obtain ⟨a, es, ky, rfl, hm, hk, hp⟩ := h2
    have e := g2.ref
    subst e
    have e := hk.v g2.pop
    subst e
    obtain ⟨B, g2⟩ := g2
    obtain ⟨kvs, ho, he⟩ := dic_at g2 hm
    exact ⟨a, _, rfl, DGet.k ho, q _ H2 _ M2 ⟨B, g2.pop.pop.pushD (by rw [val_some he]; exact .bl _)⟩ hp⟩)
theorem de_dnotin (hu : X.A.units + 1 < cLine) (h : DE X B0 F M ρ κ i fun r1 M1 => DE X B0 F M1 ρ (r1 :: κ) o fun r2 M2 => ∃ a es ky, r2 = .v (.ref a) ∧ (a, .dic es) ∈ M2 ∧ KeyIs r1 ky ∧ P (.d (.bool (!(valD es ky).isSome))) M2) (hb : behindInMarks .NotIn o = false := by rfl) : DE X B0 F M ρ κ (.Compare i [.NotIn] [o] pos) P :=
  fun σ vs H Q g q => tOf_of (pe_cmp (pc_dnotin hu pe_self pe_self) hb) (h σ vs H _ g fun x H1 r1 M1 g1 h1 => h1 σ (x :: vs) H1 _ g1 fun y H2 r2 M2 g2 h2 => by
    obtain ⟨a, es, ky, rfl, hm, hk, hp⟩ := h2
    have e := g2.ref
    subst e
    have e := hk.v g2.pop
    subst e
    obtain ⟨B, g2⟩ := g2
    obtain ⟨kvs, ho, he⟩ := dic_at g2 hm
    exact ⟨a, _, rfl, DGet.k ho, q _ H2 _ M2 ⟨B, g2.pop.pop.pushD (by rw [val_some he]; exact .bl _)⟩ hp⟩)
theorem dt_din {PT : Bool → Cs → Prop} (hu : X.A.units + 1 < cLine) (h : DE X B0 F M ρ κ i fun r1 M1 => DE X B0 F M1 ρ (r1 :: κ) o fun r2 M2 => ∃ a es ky, r2 = .v (.ref a) ∧ (a, .dic es) ∈ M2 ∧ KeyIs r1 ky ∧ PT (valD es ky).isSome M2) (hb : behindInMarks .In o = false := by rfl) : DT X B0 F M ρ κ (.Compare i [.In] [o] pos) PT :=
  fun σ vs H Q g q => tOfT_of (pt_cmp (pc_din hu pe_self pe_self) hb) (h σ vs H _ g fun x H1 r1 M1 g1 h1 => h1 σ (x :: vs) H1 _ g1 fun y H2 r2 M2 g2 h2 => by
    obtain ⟨a, es, ky, rfl, hm, hk, hp⟩ := h2
    have e := g2.ref
    subst e
    have e := hk.v g2.pop
    subst e
    obtain ⟨B, g2⟩ := g2
    obtain ⟨kvs, ho, he⟩ := dic_at g2 hm
    exact ⟨a, _, rfl, DGet.k ho, _, rfl, by rw [val_some he]; exact q _ H2 M2 ⟨B, g2.pop.pop⟩ hp⟩)
theorem dt_dnotin {PT : Bool → Cs → Prop} (hu : X.A.units + 1 < cLine) (h : DE X B0 F M ρ κ i fun r1 M1 => DE X B0 F M1 ρ (r1 :: κ) o fun r2 M2 => ∃ a es ky, r2 = .v (.ref a) ∧ (a, .dic es) ∈ M2 ∧ KeyIs r1 ky ∧ PT (!(valD es ky).isSome) M2) (hb : behindInMarks .NotIn o = false := by rfl) : DT X B0 F M ρ κ (.Compare i [.NotIn] [o] pos) PT :=
  fun σ vs H Q g q => tOfT_of (pt_cmp (pc_dnotin hu pe_self pe_self) hb) (h σ vs H _ g fun x H1 r1 M1 g1 h1 => h1 σ (x :: vs) H1 _ g1 fun y H2 r2 M2 g2 h2 => by
    obtain ⟨a, es, ky, rfl, hm, hk, hp⟩ := h2
    have e := g2.ref
    subst e
    have e := hk.v g2.pop
    subst e
    obtain ⟨B, g2⟩ := g2
    obtain ⟨kvs, ho, he⟩ := dic_at g2 hm
    exact ⟨a, _, rfl, DGet.k ho, _, rfl, by rw [val_some he]; exact q _ H2 M2 ⟨B, g2.pop.pop⟩ hp⟩)
/-- d[k] = .. : d a cell at place n -/
theorem dg_subD (n : Nat) (hu : X.A.units + 1 < cLine) {r : Sl} {Pg : Cs → List Sl → Prop} (h : DE X B0 F M ρ (r :: κ) o fun r1 M1 => DE X B0 F M1 ρ (r1 :: r :: κ) e fun r2 M2 => ∃ a es y ky, r1 = .v (.ref a) ∧ KeyIs r2 ky ∧ r = .d y ∧ M2[n]? = some (a, .dic es) ∧ es.length < 100000 ∧ Pg (M2.set n (a, .dic (putD es ky y))) ρ)
    (ha : ∀ v, assign (.Subscript o e pos) X.env v = (do
      let ov ← holding [v] (eval o X.env)
      let iv ← holding [v, ov] (eval e X.env)
      standAt pos
      holding [v, ov, iv] (setItem ov iv v)
      release [v, ov, iv] []) := by intro _; rfl) : DG X B0 F M ρ κ r (.Subscript o e pos) Pg := fun σ vs H x Q g q => by
  refine tOfG_of (pg_sub pe_self pe_self (set_dict hu) ha) ?_
  refine h σ (x :: vs) H _ g fun v1 H1 r1 M1 g1 h1 => h1 σ (v1 :: x :: vs) H1 _ g1 fun v2 H2 r2 M2 g2 h2 => ?_
  obtain ⟨a, es, y, ky, rfl, hk, rfl, hn, hl, hp⟩ := h2
  have e := g2.pop.ref
  subst e
  have e := hk.v g2
  subst e
  obtain ⟨B, g2⟩ := g2
  obtain ⟨kvs, ho, he⟩ := dic_at g2 (List.mem_of_getElem? hn)
  have hz : (100000 : Nat) ≤ sizeLine := by decide
  exact ⟨a, _, rfl, DPut.k ho (by rw [Paired.length he]; omega), q _ _ _ _ ⟨B, g2.pop.pop.pop.write (c' := .dic (putD es ky y)) hn ⟨_, rfl, ents_put g2.pop.pop.fst he⟩⟩ hp⟩
/-- the statement d[k] = e -/
theorem ds_dput (n : Nat) (hu : X.A.units + 1 < cLine) {v : Expr} {pos' : Pos} (h : DE X B0 F M ρ κ v fun r M0 => DE X B0 F M0 ρ (r :: κ) o fun r1 M1 => DE X B0 F M1 ρ (r1 :: r :: κ) e fun r2 M2 => ∃ a es y ky, r1 = .v (.ref a) ∧ KeyIs r2 ky ∧ r = .d y ∧ M2[n]? = some (a, .dic es) ∧ es.length < 100000 ∧ k.nx (M2.set n (a, .dic (putD es ky y))) ρ)
    (hs : swapsWith v (some (.Subscript o e pos')) pos.line X.env = pure false := by rfl) : DS X B0 F M ρ κ (.Assign [.Subscript o e pos'] v pos) k := fun σ vs H D g c => tOfS_of (ps_dput hu pe_self pe_self pe_self hs) (by
    refine h σ vs H _ g fun v0 H0 r0 M0 g0 h0 => h0 σ (v0 :: vs) H0 _ g0 fun v1 H1 r1 M1 g1 h1 => h1 σ (v1 :: v0 :: vs) H1 _ g1 fun v2 H2 r2 M2 g2 h2 => ?_
    obtain ⟨a, es, y, ky, rfl, hk, rfl, hn, hl, hp⟩ := h2
    have e := g2.pop.ref
    subst e
    have e := hk.v g2
    subst e
    obtain ⟨B, g2⟩ := g2
    obtain ⟨kvs, ho, he⟩ := dic_at g2 (List.mem_of_getElem? hn)
    have hz : (100000 : Nat) ≤ sizeLine := by decide
    exact ⟨a, _, rfl, DPut.k ho (by rw [Paired.length he]; omega), c.nx _ _ _ _ ⟨B, g2.pop.pop.pop.write (c' := .dic (putD es ky y)) hn ⟨_, rfl, ents_put g2.pop.pop.fst he⟩⟩ hp⟩)
/-- {k: v}: one entry -/
theorem de_disp1 {ke ve : Expr} (h : ∀ p, DE X B0 F ((p, .dic []) :: M) ρ κ ke fun r1 M1 => DE X B0 F M1 ρ (r1 :: κ) ve fun r2 M2 => ∃ ky d M3, KeyIs r1 ky ∧ r2 = .d d ∧ M2 = (p, .dic []) :: M3 ∧ P (.v (.ref p)) ((p, .dic [(ky, d)]) :: M3)) : DE X B0 F M ρ κ (.Dict [some ke] [ve] pos) P := fun σ vs H Q g q => tOf_of (pe_disp (pps_cons pe_self pe_self pps_nil) (by rfl) (by rfl) (fun z => by cases z) (by decide : 1 ≤ 15)) fun p hp => by
  obtain ⟨B, g⟩ := g
  have g0 := g.cell (c := .dic []) hp ⟨[], rfl, .nil⟩
  refine h p σ vs _ _ ⟨B, g0⟩ fun x H1 r1 M1 g1 h1 => h1 σ (x :: vs) H1 _ g1 fun y H2 r2 M2 g2 h2 => ?_
  obtain ⟨ky, d, M3, hk, rfl, rfl, hP⟩ := h2
  have e := hk.v g2.pop
  subst e
  obtain ⟨B, g2⟩ := g2
  obtain ⟨kvs, ho, he⟩ := dic_at g2 List.mem_cons_self
  cases he
  exact ⟨ho, [(ky, y)], rfl, (by show 1 ≤ 15; decide), q _ _ _ _ ⟨B, ((g2.pop.pop).write (j := 0) (c := .dic []) (c' := .dic [(ky, d)]) rfl ⟨[(ky, y)], rfl, .cons ⟨rfl, (show Rp X.K B y d from g2.fst)⟩ .nil⟩).pushV⟩ hP⟩
end

/-! ### two and three plain names at once -/
section
variable {X : Cx} {B0 F : Hp} {M : Cs} {ρ κ : List Sl} {a b c : Expr} {pos px py pz pt pt2 : Pos} {k : KK} {x y z : Str} {kt k2 : Nat}
theorem ds_par (i j : Nat) (h : DA X B0 F M ρ κ [a, b] fun rs M1 => ∃ r1 r2, rs = [r1, r2] ∧ k.nx M1 ((ρ.set i r1).set j r2)) (hij : i ≠ j := by decide) (hN : X.N.Nodup := by exact (by assumption)) (hi : X.N[i]? = some x := by rfl) (hj : X.N[j]? = some y := by rfl)
    (hx : X.env.scope.names.lookup x = some .local := by rfl) (hy : X.env.scope.names.lookup y = some .local := by rfl) (hc : X.calm = true := by rfl)
    (hw : swappedStores [.Tuple [.Name x px, .Name y py] kt pt] (.Tuple [a, b] k2 pt2) X.env = pure (some [x, y]) := by rfl)
    (hs : swapsWithSole [.Tuple [.Name x px, .Name y py] kt pt] (.Tuple [a, b] k2 pt2) pos.line X.env = pure false := by rfl) : DS X B0 F M ρ κ (.Assign [.Tuple [.Name x px, .Name y py] kt pt] (.Tuple [a, b] k2 pt2) pos) k :=
  fun σ vs H D g cn => tOfS_of (ps_par hc hN hi hj hij hx hy pa_self hw hs) (h σ vs H _ g fun ws H1 rs M1 hl g1 h1 => by
    obtain ⟨r1, r2, rfl, hk⟩ := h1
    obtain ⟨v1, v2, rfl⟩ := two_args hl rfl
    refine ⟨v1, v2, rfl, cn.nx _ H1 M1 _ ?_ hk⟩
    obtain ⟨B, g1⟩ := g1
    have g2 : GoodB X.K B0 F M1 ρ (r1 :: r2 :: κ) σ (v1 :: v2 :: vs) H1 B := g1
    exact ⟨B, g2.pop.pop.slt (Paired.set (OOk.of g2.pop.fst) j (Paired.set (OOk.of g2.fst) i g2.sl))⟩)
theorem ds_par3 (i j l : Nat) (h : DA X B0 F M ρ κ [a, b, c] fun rs M1 => ∃ r1 r2 r3, rs = [r1, r2, r3] ∧ k.nx M1 (((ρ.set i r1).set j r2).set l r3)) (hij : i ≠ j := by decide) (hil : i ≠ l := by decide) (hjl : j ≠ l := by decide) (hN : X.N.Nodup := by exact (by assumption)) (hi : X.N[i]? = some x := by rfl) (hj : X.N[j]? = some y := by rfl) (hl : X.N[l]? = some z := by rfl)
    (hx : X.env.scope.names.lookup x = some .local := by rfl) (hy : X.env.scope.names.lookup y = some .local := by rfl) (hz : X.env.scope.names.lookup z = some .local := by rfl) (hc : X.calm = true := by rfl)
    (hw : swappedStores [.Tuple [.Name x px, .Name y py, .Name z pz] kt pt] (.Tuple [a, b, c] k2 pt2) X.env = pure (some [x, y, z]) := by rfl)
    (hs : swapsWithSole [.Tuple [.Name x px, .Name y py, .Name z pz] kt pt] (.Tuple [a, b, c] k2 pt2) pos.line X.env = pure false := by rfl) : DS X B0 F M ρ κ (.Assign [.Tuple [.Name x px, .Name y py, .Name z pz] kt pt] (.Tuple [a, b, c] k2 pt2) pos) k :=
  fun σ vs H D g cn => tOfS_of (L2.ps_par3 hc hN hi hj hl hij hil hjl hx hy hz pa_self hw hs) (h σ vs H _ g fun ws H1 rs M1 hlen g1 h1 => by
    obtain ⟨r1, r2, r3, rfl, hk⟩ := h1
    match ws, hlen, g1 with
    | [v1, v2, v3], _, g1 =>
      refine ⟨v1, v2, v3, rfl, cn.nx _ H1 M1 _ ?_ hk⟩
      obtain ⟨B, g1⟩ := g1
      have g2 : GoodB X.K B0 F M1 ρ (r1 :: r2 :: r3 :: κ) σ (v1 :: v2 :: v3 :: vs) H1 B := g1
      exact ⟨B, g2.pop.pop.pop.slt (Paired.set (OOk.of g2.pop.pop.fst) l (Paired.set (OOk.of g2.pop.fst) j (Paired.set (OOk.of g2.fst) i g2.sl)))⟩)
end

/-! ### ranges as values -/
section
variable {X : Cx} {K : Fg} {B0 F : Hp} {M : Cs} {ρ κ : List Sl} {P : Sl → Cs → Prop} {tg iter a b e : Expr} {pos p : Pos} {R : List PyData → Sl → (Cs → Prop) → Cs → Prop}
theorem rngV_rp {H : Hp} (a b : Int) : RpA K H (rgV a b) (rngD a (b - a).toNat) := by
  unfold rgV rngD
  have : ∀ (l : List Nat), RpA K H (l.map fun i => V.int (a + (i : Nat))) (l.map fun i => PyData.int (a + (i : Nat))) := by
    intro l
    induction l with
    | nil => exact .nil
    | cons x l ih => exact .cons (.int _) ih
  exact this _
/-- tuple(range(a, b)) | tuple(range(b)), list likewise -/
theorem de_tupRg1 {p2 : Pos} (hm : X.mg "tuple" = none) (hm2 : X.mg "range" = none) (h : DE X B0 F M ρ κ a fun r M1 => ∃ n, r = .d (.int n) ∧ RgOk 0 n ∧ P (.d (.tuple (rngD 0 n.toNat))) M1) (hc : X.calm = true := by rfl) (hg : Gl X "tuple" := by rfl) (hg2 : Gl X "range" := by rfl)
    (pe : PE X (.Call (.Name "tuple" p) [.Call (.Name "range" p2) [a] [] pos] [] pos) (tTupRg (tRg1 (tOf X a))) := by exact pe_tupRg rfl rfl (by assumption) (prg_1 rfl (by assumption) pe_self)) : DE X B0 F M ρ κ (.Call (.Name "tuple" p) [.Call (.Name "range" p2) [a] [] pos] [] pos) P := fun σ vs H Q g q => tOf_of pe (h σ vs H _ g fun v H1 r M1 g1 h1 => by
    obtain ⟨n, rfl, ok, hp⟩ := h1
    have e := g1.int
    subst e
    refine ⟨n, rfl, ok, fun l hl => q _ _ _ M1 ?_ hp⟩
    obtain ⟨B, g1⟩ := g1
    have e : (n - 0).toNat = n.toNat := by omega
    exact ⟨_, (g1.pop.laid (o := .tup (rgV 0 n)) hl).pushD (.tup (SqT.of upd_same) (by rw [← e]; exact rngV_rp 0 n))⟩)
end
end DL
set_option maxHeartbeats 2000000
namespace DL
open PySem PySem.Spec PyProof.Rows L2

section
variable {X : Cx} {K : Fg} {B0 F : Hp} {M : Cs} {ρ κ : List Sl} {P : Sl → Cs → Prop} {a b c e o elt tg iter : Expr} {pos p : Pos} {k : KK} {R : List PyData → Sl → (Cs → Prop) → Cs → Prop}
/-! ### shorter words -/
theorem nm (i : Nat) {x : Str} {pos : Pos} {r : Sl} (hr : ρ[i]? = some r) (h : P r M) (hu : r ≠ .un := by intro h; cases h) (hN : X.N[i]? = some x := by rfl) (hv : Vis X.env.scope x := by first | exact Or.inl rfl | exact Or.inr (Or.inl rfl) | exact Or.inr (Or.inr rfl)) (hd : (x == ("__debug__" : Str)) = false := by decide)
    (hcd : (x == ("__classdict__" : Str)) = false := by decide) : DE X B0 F M ρ κ (.Name x pos) P := de_name i hr hu h hN hv hd hcd
theorem r2_i {f : Int → Int → Int} {i j : Int} (h : P (.d (.int (f i j))) M) : R2D K B0 F ρ κ (rI0 fun i j => .int (f i j)) (.d (.int i)) (.d (.int j)) M P := r2_I0 (fun _ => .int _) h
theorem r2_b {f : Int → Int → Bool} {i j : Int} (h : P (.d (.bool (f i j))) M) : R2D K B0 F ρ κ (rI0 fun i j => .bl (f i j)) (.d (.int i)) (.d (.int j)) M P := r2_I0 (fun _ => .bl _) h
theorem r2_c {C : Int → Int → Prop} {f : Int → Int → Int} {i j : Int} (hc : C i j) (h : P (.d (.int (f i j))) M) : R2D K B0 F ρ κ (rI C fun i j => .int (f i j)) (.d (.int i)) (.d (.int j)) M P := r2_I (fun _ => .int _) hc h
/-- .. as tests -/
theorem r2_t {f : Int → Int → Bool} {PT : Bool → Cs → Prop} {i j : Int} (h : PT (f i j) M) : R2D K B0 F ρ κ (rI0 fun i j => .bl (f i j)) (.d (.int i)) (.d (.int j)) M fun r' M' => ∃ k, r' = .d (.bool k) ∧ PT k M' := r2_b ⟨_, rfl, h⟩
theorem r2_teq {PT : Bool → Cs → Prop} {i j : Int} (h : PT (decide (i = j)) M) : R2D K B0 F ρ κ rEq (.d (.int i)) (.d (.int j)) M fun r' M' => ∃ k, r' = .d (.bool k) ∧ PT k M' := r2_eqI ⟨_, rfl, h⟩
theorem r2_tne {PT : Bool → Cs → Prop} {i j : Int} (h : PT (!decide (i = j)) M) : R2D K B0 F ρ κ rNe (.d (.int i)) (.d (.int j)) M fun r' M' => ∃ k, r' = .d (.bool k) ∧ PT k M' := r2_neI ⟨_, rfl, h⟩
theorem decS {i j : Str} : decide (V.str i = V.str j) = decide (i = j) := by
  by_cases h : i = j
  · subst h; simp
  · rw [decide_eq_false h, decide_eq_false (fun e => h (V.str.inj e))]
theorem r2_tseq {PT : Bool → Cs → Prop} {i j : Str} (h : PT (decide (i = j)) M) : R2D K B0 F ρ κ rEq (.d (.str i)) (.d (.str j)) M fun r' M' => ∃ k, r' = .d (.bool k) ∧ PT k M' := r2_eq rfl rfl rfl (by rw [decS]; exact ⟨_, rfl, h⟩)
/-- a test, both ways, by what it decides -/
theorem ways {A B : Prop} {b : Bool} (h1 : b = true → A) (h2 : b = false → B) : (b = true → A) ∧ (b = false → B) := ⟨h1, h2⟩
theorem waysD {A B C : Prop} [Decidable C] (h1 : C → A) (h2 : ¬ C → B) : (decide C = true → A) ∧ (decide C = false → B) := ⟨fun h => h1 (of_decide_eq_true h), fun h => h2 (of_decide_eq_false h)⟩
theorem waysN {A B C : Prop} [Decidable C] (h1 : ¬ C → A) (h2 : C → B) : ((!decide C) = true → A) ∧ ((!decide C) = false → B) := by
  by_cases z : C
  · rw [decide_eq_true z]; exact ⟨(fun h => by cases h), fun _ => h2 z⟩
  · rw [decide_eq_false z]; exact ⟨fun _ => h1 z, fun h => by cases h⟩
theorem waysT {A B : Prop} {b : Bool} (e : b = true) (h : A) : (b = true → A) ∧ (b = false → B) := ⟨fun _ => h, fun z => by rw [e] at z; cases z⟩
theorem waysF {A B : Prop} {b : Bool} (e : b = false) (h : B) : (b = true → A) ∧ (b = false → B) := ⟨(fun z => by rw [e] at z; cases z), fun _ => h⟩
theorem map_get {α β : Type} {f : α → β} {l : List α} {i : Nat} {d : β} (h : (l.map f)[i]? = some d) : ∃ z, l[i]? = some z ∧ d = f z := by
  rw [List.getElem?_map] at h
  cases q : l[i]? with
  | none => rw [q] at h; cases h
  | some z => rw [q] at h; exact ⟨z, rfl, (Option.some.inj h).symm⟩
theorem take_get {α : Type} {l : List α} {i : Nat} {x : α} (h : l[i]? = some x) : l.take (i + 1) = l.take i ++ [x] := by rw [List.take_add_one, h]; rfl
theorem atI_at {α : Type} {xs : List α} {i : Int} {x : α} (h0 : 0 ≤ i) (h : xs[i.toNat]? = some x) : atI xs i = some x := by
  have e : i = ((i.toNat : Nat) : Int) := by omega
  rw [e]
  exact atI_nat (by simpa using h)

/-! ### comprehensions whose turns leave all as it was -/
/-- [elt for x in iter]: f of each item -/
theorem gu_lcF {u : Use} (i : Nat) (f : PyData → PyData) {x : Str} {px : Pos} {scope : Scope} (h : DI X B0 F M ρ κ (.Name x px) iter fun ds s Src M1 => ds.length ≤ 100000 ∧ (∀ D acc, Src M1 → Src ((D, .lst acc) :: M1)) ∧
      (∀ d D acc, d ∈ ds → ∀ b : BA, DE (bk X scope b) B0 F ((D, .lst acc) :: M1) ((ρ.set i .un).set i (.d d)) (s :: (ρ ++ κ)) elt fun r M2 => r = .d (f d) ∧ M2 = (D, .lst acc) :: M1) ∧ ∀ D, P (.v (.ref D)) ((D, .lst (ds.map f)) :: M1))
      (hN : X.N.Nodup := by exact (by assumption)) (ok : BlkOk X.N X.env.scope scope [(x, i)] := by exact blkOk_by (by kernel_rfl)) (hg : ∀ b : BA, PG (bk X scope b) (.Name x px) (gName i) := by exact fun b => pg_name (by assumption) rfl (by first | exact Or.inl rfl | exact Or.inr rfl))
      (hc : X.calm = true := by rfl) (hs : ∀ x, foldedSetIterable iter X.env x = pure x := by intro _; rfl)  (hu : UseOk X u (.ListComp elt [⟨.Name x px, iter, [], 0⟩] scope pos) := by first | exact trivial | exact ⟨rfl, rfl, (by first | rfl | kernel_rfl)⟩) : DEu X B0 F M ρ κ u (.ListComp elt [⟨.Name x px, iter, [], 0⟩] scope pos) P := by
  refine gu_lcC (hu := hu) i (fun σ vs H Q g q => h σ vs H Q g fun J H1 M1 ds s v Src g1 dw hsrc hr => q J H1 M1 ds s v Src g1 dw hsrc fun D => ?_) hN ok hg hc hs
  obtain ⟨hz, hs', hst, hd⟩ := hr
  refine ⟨fun j acc M => M = M1 ∧ j ≤ ds.length ∧ acc = (ds.take j).map f, ⟨rfl, Nat.zero_le _, rfl⟩, ?_, ?_, ?_⟩
  · rintro j acc M ⟨rfl, _, rfl⟩
    exact hs' D _ hsrc
  · rintro j d acc M hdd ⟨rfl, hj, rfl⟩ b
    refine (hst d D _ (List.mem_of_getElem? hdd) b).mono ?_
    rintro r M2 ⟨rfl, rfl⟩
    refine ⟨f d, _, rfl, rfl, ?_, rfl, (List.getElem?_eq_some_iff.mp hdd).1, by rw [take_get hdd, List.map_append]; rfl⟩
    have hj2 := (List.getElem?_eq_some_iff.mp hdd).1
    rw [List.length_map, List.length_take]
    omega
  · rintro acc M ⟨rfl, _, rfl⟩
    rw [List.take_length]
    exact hd D
theorem de_lcF (i : Nat) (f : PyData → PyData) {x : Str} {px : Pos} {scope : Scope} (h : DI X B0 F M ρ κ (.Name x px) iter fun ds s Src M1 => ds.length ≤ 100000 ∧ (∀ D acc, Src M1 → Src ((D, .lst acc) :: M1)) ∧
      (∀ d D acc, d ∈ ds → ∀ b : BA, DE (bk X scope b) B0 F ((D, .lst acc) :: M1) ((ρ.set i .un).set i (.d d)) (s :: (ρ ++ κ)) elt fun r M2 => r = .d (f d) ∧ M2 = (D, .lst acc) :: M1) ∧ ∀ D, P (.v (.ref D)) ((D, .lst (ds.map f)) :: M1))
      (hN : X.N.Nodup := by exact (by assumption)) (ok : BlkOk X.N X.env.scope scope [(x, i)] := by exact blkOk_by (by kernel_rfl)) (hg : ∀ b : BA, PG (bk X scope b) (.Name x px) (gName i) := by exact fun b => pg_name (by assumption) rfl (by first | exact Or.inl rfl | exact Or.inr rfl))
      (hc : X.calm = true := by rfl) (hs : ∀ x, foldedSetIterable iter X.env x = pure x := by intro _; rfl) : DE X B0 F M ρ κ (.ListComp elt [⟨.Name x px, iter, [], 0⟩] scope pos) P :=
  gu_lcF (u := none) i f h hN ok hg hc hs trivial
/-- [elt for x in iter if c] -/
theorem gu_lcIfF {u : Use} (i : Nat) (t : PyData → Bool) (f : PyData → PyData) {x : Str} {px : Pos} {scope : Scope} (h : DI X B0 F M ρ κ (.Name x px) iter fun ds s Src M1 => ds.length ≤ 100000 ∧ (∀ D acc, Src M1 → Src ((D, .lst acc) :: M1)) ∧
      (∀ d D acc, d ∈ ds → ∀ b : BA, DT (bk X scope b) B0 F ((D, .lst acc) :: M1) ((ρ.set i .un).set i (.d d)) (s :: (ρ ++ κ)) c fun k M2 => k = t d ∧ M2 = (D, .lst acc) :: M1) ∧
      (∀ d D acc, d ∈ ds → t d = true → ∀ b : BA, DE (bk X scope b) B0 F ((D, .lst acc) :: M1) ((ρ.set i .un).set i (.d d)) (s :: (ρ ++ κ)) elt fun r M2 => r = .d (f d) ∧ M2 = (D, .lst acc) :: M1) ∧ ∀ D, P (.v (.ref D)) ((D, .lst ((ds.filter t).map f)) :: M1))
      (hN : X.N.Nodup := by exact (by assumption)) (ok : BlkOk X.N X.env.scope scope [(x, i)] := by exact blkOk_by (by kernel_rfl)) (hg : ∀ b : BA, PG (bk X scope b) (.Name x px) (gName i) := by exact fun b => pg_name (by assumption) rfl (by first | exact Or.inl rfl | exact Or.inr rfl))
      (hc : X.calm = true := by rfl) (hs : ∀ x, foldedSetIterable iter X.env x = pure x := by intro _; rfl)  (hu : UseOk X u (.ListComp elt [⟨.Name x px, iter, [c], 0⟩] scope pos) := by first | exact trivial | exact ⟨rfl, rfl, (by first | rfl | kernel_rfl)⟩) : DEu X B0 F M ρ κ u (.ListComp elt [⟨.Name x px, iter, [c], 0⟩] scope pos) P := by
  refine gu_lcIfC (hu := hu) i (fun σ vs H Q g q => h σ vs H Q g fun J H1 M1 ds s v Src g1 dw hsrc hr => q J H1 M1 ds s v Src g1 dw hsrc fun D => ?_) hN ok hg hc hs
  obtain ⟨hz, hs', ht, hst, hd⟩ := hr
  refine ⟨fun j acc M => M = M1 ∧ j ≤ ds.length ∧ acc = ((ds.take j).filter t).map f, ⟨rfl, Nat.zero_le _, rfl⟩, ?_, ?_, ?_⟩
  · rintro j acc M ⟨rfl, _, rfl⟩
    exact hs' D _ hsrc
  · rintro j d acc M hdd ⟨rfl, hj, rfl⟩ b
    have hj2 := (List.getElem?_eq_some_iff.mp hdd).1
    refine (ht d D _ (List.mem_of_getElem? hdd) b).mono ?_
    rintro k M2 ⟨rfl, rfl⟩
    refine ⟨fun htd b2 => (hst d D _ (List.mem_of_getElem? hdd) htd b2).mono ?_, fun htd => ⟨_, rfl, rfl, hj2, ?_⟩⟩
    · rintro r M2 ⟨rfl, rfl⟩
      refine ⟨f d, _, rfl, rfl, ?_, rfl, hj2, ?_⟩
      · rw [List.length_map]
        have := List.length_filter_le t (ds.take j)
        rw [List.length_take] at this
        omega
      · rw [take_get hdd, List.filter_append, List.filter_cons, if_pos htd, List.map_append]; rfl
    · rw [take_get hdd, List.filter_append, List.filter_cons, if_neg (by rw [htd]; decide), List.filter_nil, List.append_nil]
  · rintro acc M ⟨rfl, _, rfl⟩
    rw [List.take_length]
    exact hd D
theorem de_lcIfF (i : Nat) (t : PyData → Bool) (f : PyData → PyData) {x : Str} {px : Pos} {scope : Scope} (h : DI X B0 F M ρ κ (.Name x px) iter fun ds s Src M1 => ds.length ≤ 100000 ∧ (∀ D acc, Src M1 → Src ((D, .lst acc) :: M1)) ∧
      (∀ d D acc, d ∈ ds → ∀ b : BA, DT (bk X scope b) B0 F ((D, .lst acc) :: M1) ((ρ.set i .un).set i (.d d)) (s :: (ρ ++ κ)) c fun k M2 => k = t d ∧ M2 = (D, .lst acc) :: M1) ∧
      (∀ d D acc, d ∈ ds → t d = true → ∀ b : BA, DE (bk X scope b) B0 F ((D, .lst acc) :: M1) ((ρ.set i .un).set i (.d d)) (s :: (ρ ++ κ)) elt fun r M2 => r = .d (f d) ∧ M2 = (D, .lst acc) :: M1) ∧ ∀ D, P (.v (.ref D)) ((D, .lst ((ds.filter t).map f)) :: M1))
      (hN : X.N.Nodup := by exact (by assumption)) (ok : BlkOk X.N X.env.scope scope [(x, i)] := by exact blkOk_by (by kernel_rfl)) (hg : ∀ b : BA, PG (bk X scope b) (.Name x px) (gName i) := by exact fun b => pg_name (by assumption) rfl (by first | exact Or.inl rfl | exact Or.inr rfl))
      (hc : X.calm = true := by rfl) (hs : ∀ x, foldedSetIterable iter X.env x = pure x := by intro _; rfl) : DE X B0 F M ρ κ (.ListComp elt [⟨.Name x px, iter, [c], 0⟩] scope pos) P :=
  gu_lcIfF (u := none) i t f h hN ok hg hc hs trivial
/-- [elt for x, y in iter]: x, y in slots i, j -/
theorem gu_lc2C {u : Use} (i j : Nat) (hij : i ≠ j) {x y : Str} {px py pt : Pos} {kt : Nat} {scope : Scope} (h : DI X B0 F M ρ κ (.Tuple [.Name x px, .Name y py] kt pt) iter fun ds s Src M1 => ∀ D, ∃ Iv : Nat → List PyData → Cs → Prop, Iv 0 [] M1 ∧ (∀ i acc M, Iv i acc M → Src ((D, .lst acc) :: M)) ∧
      (∀ n d acc M, ds[n]? = some d → Iv n acc M → ∃ d1 d2, d = .tuple [d1, d2] ∧ ∀ b : BA, DE (bk X scope b) B0 F ((D, .lst acc) :: M) ((((ρ.set j .un).set i .un).set i (.d d1)).set j (.d d2)) (s :: (ρ ++ κ)) elt fun r M2 => ∃ y M', r = .d y ∧ M2 = (D, .lst acc) :: M' ∧ acc.length < 100000 ∧ Iv (n + 1) (acc ++ [y]) M') ∧
      ∀ acc M, Iv ds.length acc M → P (.v (.ref D)) ((D, .lst acc) :: M)) (hN : X.N.Nodup := by exact (by assumption)) (ok : BlkOk X.N X.env.scope scope [(x, i), (y, j)] := by exact blkOk_by (by kernel_rfl))
      (hg : ∀ b : BA, PG (bk X scope b) (.Tuple [.Name x px, .Name y py] kt pt) (gTup X.K 2 (gCons (gName i) (gCons (gName j) gNil))) := by exact fun b => pg_tup rfl (pgs_cons (pg_name (by assumption) rfl (by first | exact Or.inl rfl | exact Or.inr rfl)) (pgs_cons (pg_name (by assumption) rfl (by first | exact Or.inl rfl | exact Or.inr rfl)) pgs_nil)))
      (hc : X.calm = true := by rfl) (hs : ∀ x, foldedSetIterable iter X.env x = pure x := by intro _; rfl)  (hu : UseOk X u (.ListComp elt [⟨.Tuple [.Name x px, .Name y py] kt pt, iter, [], 0⟩] scope pos) := by first | exact trivial | exact ⟨rfl, rfl, (by first | rfl | kernel_rfl)⟩) : DEu X B0 F M ρ κ u (.ListComp elt [⟨.Tuple [.Name x px, .Name y py] kt pt, iter, [], 0⟩] scope pos) P :=
  lc_mainU (hu := hu) (own := [(x, i), (y, j)]) (g := gTup X.K 2 (gCons (gName i) (gCons (gName j) gNil))) (tt := tYes) hc hN ok hg (fun _ => pts_nil) hs fun σ vs H Q g0 q => h σ vs H Q g0 fun J H1 M1 ds s v Src g1 dw hsrc hr => q J H1 M1 ds s v Src g1 dw hsrc fun D => by
    obtain ⟨Iv, h0, hsr, hst, hd⟩ := hr D
    refine ⟨Iv, h0, hsr, fun n d acc M σ vs H x Q hdd hI g hq => ?_, hd⟩
    obtain ⟨d1, d2, rfl, hst⟩ := hst n d acc M hdd hI
    obtain ⟨B, g⟩ := g
    obtain ⟨ad, xs, rfl, hx, hr⟩ := Rp.tup_inv g.fst
    cases hr with
    | cons hr1 hr2 =>
      cases hr2 with
      | cons hr2 hr3 =>
        cases hr3
        rename_i v1 v2
        refine ⟨ad, _, rfl, same_t g.bh hx, rfl, v1, _, rfl, v2, _, rfl, rfl, ?_, ?_⟩
        · rw [wipe_set (by simp), wipe_set (by simp)]
        · have fin : ∀ b : BA, tOf (bk X scope b) elt ((σ.set i (some v1)).set j (some v2)) H fun y H4 => ∃ ac, H4 D = some (.lst ac) ∧ ac.length < sizeLine ∧ Q (upd H4 D (.lst (ac ++ [y]))) := ?_
          · unfold tYes
            dsimp only
            rw [if_pos rfl]
            exact fin
          intro b
          have g2 : Good X.K B0 F ((D, .lst acc) :: M) ((((ρ.set j .un).set i .un).set i (.d d1)).set j (.d d2)) (s :: (ρ ++ κ)) ((σ.set i (some v1)).set j (some v2)) vs H :=
            ⟨B, g.pop.slt (Paired.set (OOk.of (s := .d d2) hr2) j (Paired.set (OOk.of (s := .d d1) hr1) i g.sl))⟩
          refine hst b _ vs H _ g2 fun y H4 r M2 g4 h4 => ?_
          obtain ⟨y', M', rfl, rfl, hl, hI'⟩ := h4
          exact lc_push g4 hl fun H' g5 => hq _ _ _ _ _ g5 hI'
theorem de_lc2C (i j : Nat) (hij : i ≠ j) {x y : Str} {px py pt : Pos} {kt : Nat} {scope : Scope} (h : DI X B0 F M ρ κ (.Tuple [.Name x px, .Name y py] kt pt) iter fun ds s Src M1 => ∀ D, ∃ Iv : Nat → List PyData → Cs → Prop, Iv 0 [] M1 ∧ (∀ i acc M, Iv i acc M → Src ((D, .lst acc) :: M)) ∧
      (∀ n d acc M, ds[n]? = some d → Iv n acc M → ∃ d1 d2, d = .tuple [d1, d2] ∧ ∀ b : BA, DE (bk X scope b) B0 F ((D, .lst acc) :: M) ((((ρ.set j .un).set i .un).set i (.d d1)).set j (.d d2)) (s :: (ρ ++ κ)) elt fun r M2 => ∃ y M', r = .d y ∧ M2 = (D, .lst acc) :: M' ∧ acc.length < 100000 ∧ Iv (n + 1) (acc ++ [y]) M') ∧
      ∀ acc M, Iv ds.length acc M → P (.v (.ref D)) ((D, .lst acc) :: M)) (hN : X.N.Nodup := by exact (by assumption)) (ok : BlkOk X.N X.env.scope scope [(x, i), (y, j)] := by exact blkOk_by (by kernel_rfl))
      (hg : ∀ b : BA, PG (bk X scope b) (.Tuple [.Name x px, .Name y py] kt pt) (gTup X.K 2 (gCons (gName i) (gCons (gName j) gNil))) := by exact fun b => pg_tup rfl (pgs_cons (pg_name (by assumption) rfl (by first | exact Or.inl rfl | exact Or.inr rfl)) (pgs_cons (pg_name (by assumption) rfl (by first | exact Or.inl rfl | exact Or.inr rfl)) pgs_nil)))
      (hc : X.calm = true := by rfl) (hs : ∀ x, foldedSetIterable iter X.env x = pure x := by intro _; rfl) : DE X B0 F M ρ κ (.ListComp elt [⟨.Tuple [.Name x px, .Name y py] kt pt, iter, [], 0⟩] scope pos) P :=
  gu_lc2C (u := none) i j hij h hN ok hg hc hs trivial
/-- [elt for x, y in iter if c] -/
theorem gu_lc2IfC {u : Use} (i j : Nat) (hij : i ≠ j) {x y : Str} {px py pt : Pos} {kt : Nat} {scope : Scope} (h : DI X B0 F M ρ κ (.Tuple [.Name x px, .Name y py] kt pt) iter fun ds s Src M1 => ∀ D, ∃ Iv : Nat → List PyData → Cs → Prop, Iv 0 [] M1 ∧ (∀ i acc M, Iv i acc M → Src ((D, .lst acc) :: M)) ∧
      (∀ n d acc M, ds[n]? = some d → Iv n acc M → ∃ d1 d2, d = .tuple [d1, d2] ∧ ∀ b : BA, DT (bk X scope b) B0 F ((D, .lst acc) :: M) ((((ρ.set j .un).set i .un).set i (.d d1)).set j (.d d2)) (s :: (ρ ++ κ)) c fun k M2 =>
        (k = true → ∀ b : BA, DE (bk X scope b) B0 F M2 ((((ρ.set j .un).set i .un).set i (.d d1)).set j (.d d2)) (s :: (ρ ++ κ)) elt fun r M2 => ∃ y M', r = .d y ∧ M2 = (D, .lst acc) :: M' ∧ acc.length < 100000 ∧ Iv (n + 1) (acc ++ [y]) M') ∧
        (k = false → ∃ M', M2 = (D, .lst acc) :: M' ∧ Iv (n + 1) acc M')) ∧
      ∀ acc M, Iv ds.length acc M → P (.v (.ref D)) ((D, .lst acc) :: M)) (hN : X.N.Nodup := by exact (by assumption)) (ok : BlkOk X.N X.env.scope scope [(x, i), (y, j)] := by exact blkOk_by (by kernel_rfl))
      (hg : ∀ b : BA, PG (bk X scope b) (.Tuple [.Name x px, .Name y py] kt pt) (gTup X.K 2 (gCons (gName i) (gCons (gName j) gNil))) := by exact fun b => pg_tup rfl (pgs_cons (pg_name (by assumption) rfl (by first | exact Or.inl rfl | exact Or.inr rfl)) (pgs_cons (pg_name (by assumption) rfl (by first | exact Or.inl rfl | exact Or.inr rfl)) pgs_nil)))
      (hc : X.calm = true := by rfl) (hs : ∀ x, foldedSetIterable iter X.env x = pure x := by intro _; rfl)  (hu : UseOk X u (.ListComp elt [⟨.Tuple [.Name x px, .Name y py] kt pt, iter, [c], 0⟩] scope pos) := by first | exact trivial | exact ⟨rfl, rfl, (by first | rfl | kernel_rfl)⟩) : DEu X B0 F M ρ κ u (.ListComp elt [⟨.Tuple [.Name x px, .Name y py] kt pt, iter, [c], 0⟩] scope pos) P :=
  lc_mainU (hu := hu) (own := [(x, i), (y, j)]) (g := gTup X.K 2 (gCons (gName i) (gCons (gName j) gNil))) (tt := fun σ H Q => ∀ b : BA, tOfT (bk X scope b) c σ H Q) hc hN ok hg (fun b => ⟨fun pins s σ H Q I z => (pts_one pt_self).run pins s σ H Q I (z b)⟩) hs fun σ vs H Q g0 q => h σ vs H Q g0 fun J H1 M1 ds s v Src g1 dw hsrc hr => q J H1 M1 ds s v Src g1 dw hsrc fun D => by
    obtain ⟨Iv, h0, hsr, hst, hd⟩ := hr D
    refine ⟨Iv, h0, hsr, fun n d acc M σ vs H x Q hdd hI g hq => ?_, hd⟩
    obtain ⟨d1, d2, rfl, hst⟩ := hst n d acc M hdd hI
    obtain ⟨B, g⟩ := g
    obtain ⟨ad, xs, rfl, hx, hr⟩ := Rp.tup_inv g.fst
    cases hr with
    | cons hr1 hr2 =>
      cases hr2 with
      | cons hr2 hr3 =>
        cases hr3
        rename_i v1 v2
        refine ⟨ad, _, rfl, same_t g.bh hx, rfl, v1, _, rfl, v2, _, rfl, rfl, ?_, ?_⟩
        · rw [wipe_set (by simp), wipe_set (by simp)]
        · intro b
          have g2 : Good X.K B0 F ((D, .lst acc) :: M) ((((ρ.set j .un).set i .un).set i (.d d1)).set j (.d d2)) (s :: (ρ ++ κ)) ((σ.set i (some v1)).set j (some v2)) vs H :=
            ⟨B, g.pop.slt (Paired.set (OOk.of (s := .d d2) hr2) j (Paired.set (OOk.of (s := .d d1) hr1) i g.sl))⟩
          refine hst b _ vs H _ g2 fun k H3 M2 g3 h3 => ?_
          cases k with
          | true =>
            rw [if_pos rfl]
            intro b2
            refine h3.1 rfl b2 _ vs H3 _ g3 fun y H4 r M2 g4 h4 => ?_
            obtain ⟨y', M', rfl, rfl, hl, hI'⟩ := h4
            exact lc_push g4 hl fun H' g5 => hq _ _ _ _ _ g5 hI'
          | false =>
            rw [if_neg Bool.false_ne_true]
            obtain ⟨M', rfl, hI'⟩ := h3.2 rfl
            exact hq _ _ _ _ _ g3 hI'
theorem de_lc2IfC (i j : Nat) (hij : i ≠ j) {x y : Str} {px py pt : Pos} {kt : Nat} {scope : Scope} (h : DI X B0 F M ρ κ (.Tuple [.Name x px, .Name y py] kt pt) iter fun ds s Src M1 => ∀ D, ∃ Iv : Nat → List PyData → Cs → Prop, Iv 0 [] M1 ∧ (∀ i acc M, Iv i acc M → Src ((D, .lst acc) :: M)) ∧
      (∀ n d acc M, ds[n]? = some d → Iv n acc M → ∃ d1 d2, d = .tuple [d1, d2] ∧ ∀ b : BA, DT (bk X scope b) B0 F ((D, .lst acc) :: M) ((((ρ.set j .un).set i .un).set i (.d d1)).set j (.d d2)) (s :: (ρ ++ κ)) c fun k M2 =>
        (k = true → ∀ b : BA, DE (bk X scope b) B0 F M2 ((((ρ.set j .un).set i .un).set i (.d d1)).set j (.d d2)) (s :: (ρ ++ κ)) elt fun r M2 => ∃ y M', r = .d y ∧ M2 = (D, .lst acc) :: M' ∧ acc.length < 100000 ∧ Iv (n + 1) (acc ++ [y]) M') ∧
        (k = false → ∃ M', M2 = (D, .lst acc) :: M' ∧ Iv (n + 1) acc M')) ∧
      ∀ acc M, Iv ds.length acc M → P (.v (.ref D)) ((D, .lst acc) :: M)) (hN : X.N.Nodup := by exact (by assumption)) (ok : BlkOk X.N X.env.scope scope [(x, i), (y, j)] := by exact blkOk_by (by kernel_rfl))
      (hg : ∀ b : BA, PG (bk X scope b) (.Tuple [.Name x px, .Name y py] kt pt) (gTup X.K 2 (gCons (gName i) (gCons (gName j) gNil))) := by exact fun b => pg_tup rfl (pgs_cons (pg_name (by assumption) rfl (by first | exact Or.inl rfl | exact Or.inr rfl)) (pgs_cons (pg_name (by assumption) rfl (by first | exact Or.inl rfl | exact Or.inr rfl)) pgs_nil)))
      (hc : X.calm = true := by rfl) (hs : ∀ x, foldedSetIterable iter X.env x = pure x := by intro _; rfl) : DE X B0 F M ρ κ (.ListComp elt [⟨.Tuple [.Name x px, .Name y py] kt pt, iter, [c], 0⟩] scope pos) P :=
  gu_lc2IfC (u := none) i j hij h hN ok hg hc hs trivial
end
end DL
set_option maxHeartbeats 2000000
namespace DL
open PySem PySem.Spec PyProof.Rows L2

/-- name = {..} on one line, the name a local -/
theorem ps_setDc {X : Cx} {i : Nat} {y : Str} {py : Pos} {kx vx tg iter : Expr} {ifs : List Expr} {scope : Scope} {own : List (Str × Nat)} {pos spos : Pos} {wi : TI} {g : TG} {tt : TT} {tk tv : TE} (hc : X.calm = true) (hN : X.N.Nodup) (hy : X.N[i]? = some y) (hyl : X.env.scope.names.lookup y = some .local)
    (hsw : swapsWith (.DictComp kx vx [⟨tg, iter, ifs, 0⟩] scope pos) (some (.Name y py)) spos.line X.env = pure true) (hi : PI X tg iter wi) (ok : BlkOk X.N X.env.scope scope own)
    (hg : ∀ (s : Shared) (H : Hp) (C : Addr) (cl : List (Str × Addr)) (fp : List Addr), PG (X.blk s H scope (compEnvC scope cl C X.env) fp) tg g) (ht : ∀ (s : Shared) (H : Hp) (C : Addr) (cl : List (Str × Addr)) (fp : List Addr), PTs (X.blk s H scope (compEnvC scope cl C X.env) fp) ifs tt)
    (hk : ∀ (s : Shared) (H : Hp) (C : Addr) (cl : List (Str × Addr)) (fp : List Addr), PE (X.blk s H scope (compEnvC scope cl C X.env) fp) kx tk)
    (he : ∀ (s : Shared) (H : Hp) (C : Addr) (cl : List (Str × Addr)) (fp : List Addr), PE (X.blk s H scope (compEnvC scope cl C X.env) fp) vx tv) (hs : ∀ x, foldedSetIterable iter X.env x = pure x) :
    PS X (.Assign [.Name y py] (.DictComp kx vx [⟨tg, iter, ifs, 0⟩] scope pos) spos) (tAsg (tDc wi g tt tk tv (own.map (·.2))) (gName i)) := by
  refine ⟨fun pins s σ H D I h => ?_⟩
  rw [exec_Assign_Name_used _ _ _ _ hsw]
  refine wpAny_bind (wpAny_standAt (wpAny_bind ?_))
  show wpAny _ X.A (do let _ ← comprehension (.DictComp kx vx [⟨tg, iter, ifs, 0⟩] scope pos) scope X.env (firstIterPos [⟨tg, iter, ifs, 0⟩] pos) newDict false (eval iter X.env) (some (assign (.Name y py) X.env))) _ _ s
  have h : tDc wi g tt tk tv (own.map (·.2)) σ H (fun x H1 => gName i x σ H1 D.nx) := h
  refine wpAny_bind (thn (dc_core (Qf := fun _ s' => SP X pins D .next s') hc hN I hi ok hg ht hk he hs h fun L C s' m H' I' q hn f => ?_) fun _ s' hq => wpAny_pure (wpAny_pure hq))
  show wpAny _ _ (assign (.Name y py) X.env (.ref L)) _ _ _
  refine wpAny_assign_Name (store_ok2 (v := V.ref L) I' hN hy (.inl hyl) rfl (fun s2 I2 ⟨a, sb, ha⟩ => ?_) (.inr hyl))
  obtain ⟨f0, f1, f2, f3, f4, f5⟩ := f
  have haC : C ≠ a := by
    rcases ha with z | z
    · rw [z]; exact f1
    · exact fun e => f4 y a z e.symm
  refine ⟨m, hn.sameBut sb haC, fun h3 sb3 => ?_⟩
  exact ⟨_, H', I2.turned (t' := s2.toks) (fun b o hb e => (sb3.2 b hb).trans e) f0 f1 f3 f4 f5, q⟩
theorem use_dc {X : Cx} {u : Use} {σ : L2.St} {H : Hp} {Q : VK} {kx vx tg iter : Expr} {ifs : List Expr} {scope : Scope} {own : List (Str × Nat)} {pos : Pos} {wi : TI} {g : TG} {tt : TT} {tk tv : TE} (hc : X.calm = true) (hN : X.N.Nodup) (hi : PI X tg iter wi) (ok : BlkOk X.N X.env.scope scope own)
    (hg : ∀ (s : Shared) (H : Hp) (C : Addr) (cl : List (Str × Addr)) (fp : List Addr), PG (X.blk s H scope (compEnvC scope cl C X.env) fp) tg g) (ht : ∀ (s : Shared) (H : Hp) (C : Addr) (cl : List (Str × Addr)) (fp : List Addr), PTs (X.blk s H scope (compEnvC scope cl C X.env) fp) ifs tt)
    (hk : ∀ (s : Shared) (H : Hp) (C : Addr) (cl : List (Str × Addr)) (fp : List Addr), PE (X.blk s H scope (compEnvC scope cl C X.env) fp) kx tk)
    (he : ∀ (s : Shared) (H : Hp) (C : Addr) (cl : List (Str × Addr)) (fp : List Addr), PE (X.blk s H scope (compEnvC scope cl C X.env) fp) vx tv) (hs : ∀ x, foldedSetIterable iter X.env x = pure x)
    (hu : UseOk X u (.DictComp kx vx [⟨tg, iter, ifs, 0⟩] scope pos)) (h : tDc wi g tt tk tv (own.map (·.2)) σ H Q) : tUse X u (.DictComp kx vx [⟨tg, iter, ifs, 0⟩] scope pos) σ H Q := by
  cases u with
  | none => exact tOf_of (pe_dc hc hN hi ok hg ht hk he hs) h
  | some q =>
    obtain ⟨i, y, py, spos⟩ := q
    obtain ⟨h1, h2, h3⟩ := hu
    intro D e
    subst e
    exact tOfS_of (ps_setDc hc hN h1 h2 h3 hi ok hg ht hk he hs) h
section
variable {X : Cx} {K : Fg} {B0 F : Hp} {M : Cs} {ρ κ : List Sl} {P : Sl → Cs → Prop} {a b c e o elt tg iter : Expr} {pos p : Pos} {k : KK} {R : List PyData → Sl → (Cs → Prop) → Cs → Prop}
/-! ### dict comprehensions -/
theorem dc_push {D : Addr} {acc : List (Key × PyData)} {ky : Key} {y' : PyData} {M' : Cs} {ρ' κ' : List Sl} {σ : L2.St} {r : Sl} {x y : V} {vs : List V} {H : Hp} (g : Good K B0 F ((D, .dic acc) :: M') ρ' (.d y' :: r :: κ') σ (y :: x :: vs) H) (hk : KeyIs r ky) (hl : acc.length < 100000) {Q : Hp → Prop}
    (q : ∀ H', Good K B0 F ((D, .dic (putD acc ky y')) :: M') ρ' κ' σ vs H' → Q H') : ∃ kvs k, x = kV k ∧ H D = some (.dK kvs) ∧ kvs.length < sizeLine ∧ Q (upd H D (.dK (putK kvs k y))) := by
  have e := hk.v g.pop
  subst e
  obtain ⟨B, g⟩ := g
  obtain ⟨_, _, o, ho, kvs, rfl, hw⟩ := g.cells _ List.mem_cons_self
  have hz : (100000 : Nat) ≤ sizeLine := by decide
  refine ⟨kvs, ky, rfl, ho, by rw [Paired.length hw]; omega, q _ ⟨B, ?_⟩⟩
  exact (g.pop.pop).write (j := 0) (c := .dic acc) (c' := .dic (putD acc ky y')) rfl ⟨_, rfl, ents_put g.fst hw⟩
theorem dc_mainU {u : Use} {kx vx tg iter : Expr} {ifs : List Expr} {scope : Scope} {own : List (Str × Nat)} {pos : Pos} {g : TG} {tt : TT} {P : Sl → Cs → Prop} (hc : X.calm = true) (hN : X.N.Nodup) (ok : BlkOk X.N X.env.scope scope own)
    (hg : ∀ b : BA, PG (bk X scope b) tg g) (ht : ∀ b : BA, PTs (bk X scope b) ifs tt) (hs : ∀ x, foldedSetIterable iter X.env x = pure x)
    (h : DI X B0 F M ρ κ tg iter fun ds s Src M1 => ∀ D, ∃ Iv : Nat → List (Key × PyData) → Cs → Prop, Iv 0 [] M1 ∧ (∀ i acc M, Iv i acc M → Src ((D, .dic acc) :: M)) ∧
      (∀ i d acc M σ vs H x (Q : Hp → Prop), ds[i]? = some d → Iv i acc M → Good X.K B0 F ((D, .dic acc) :: M) (wipeS ρ (own.map (·.2))) (.d d :: s :: (ρ ++ κ)) σ (x :: vs) H →
        (∀ acc' M' ρ' σ' H', Good X.K B0 F ((D, .dic acc') :: M') ρ' (s :: (ρ ++ κ)) σ' vs H' → Iv (i + 1) acc' M' → Q H') →
        g x σ H fun σ2 H2 => wipe σ2 (own.map (·.2)) = wipe σ (own.map (·.2)) ∧ tt σ2 H2 fun b H3 =>
          if b = true then (∀ b : BA, tOf (bk X scope b) kx σ2 H3 fun y H4 => ∀ b2 : BA, tOf (bk X scope b2) vx σ2 H4 fun z H5 => ∃ kvs k, y = kV k ∧ H5 D = some (.dK kvs) ∧ kvs.length < sizeLine ∧ Q (upd H5 D (.dK (putK kvs k z)))) else Q H3) ∧
      ∀ acc M, Iv ds.length acc M → P (.v (.ref D)) ((D, .dic acc) :: M))  (hu : UseOk X u (.DictComp kx vx [⟨tg, iter, ifs, 0⟩] scope pos)) : DEu X B0 F M ρ κ u (.DictComp kx vx [⟨tg, iter, ifs, 0⟩] scope pos) P := fun σ vs H Q g0 q => by
  refine use_dc (tk := fun σ H Q => ∀ b : BA, tOf (bk X scope b) kx σ H Q) (tv := fun σ H Q => ∀ b : BA, tOf (bk X scope b) vx σ H Q) hc hN pi_self ok (fun s H C cl fp => hg ⟨s, H, C, cl, fp⟩) (fun s H C cl fp => ht ⟨s, H, C, cl, fp⟩)
    (fun s H C cl fp => ⟨fun pins s' σ' H' Q' I z => z ⟨s, H, C, cl, fp⟩ pins s' I⟩) (fun s H C cl fp => ⟨fun pins s' σ' H' Q' I z => z ⟨s, H, C, cl, fp⟩ pins s' I⟩) hs hu ?_
  have hsh : Shape σ ρ := by obtain ⟨B, g0⟩ := g0; exact shape_of g0.sl
  refine h σ vs H _ g0 fun J H1 M1 ds s v Src g1 dw hsrc hr D hD => ?_
  obtain ⟨Iv, h0, hsr, hst, hd⟩ := hr D
  have up : ∀ {M' H'}, Good X.K B0 F M' ρ (s :: κ) σ (v :: vs) H' → Good X.K B0 F M' ρ (s :: (ρ ++ κ)) σ (v :: (valsOf σ ++ vs)) H' := fun {M' H'} ⟨B, g⟩ => by
    refine ⟨B, g.stk ?_⟩
    cases g.st with
    | cons k1 k2 => exact .cons k1 (Paired.app (kok_slots g.sl) k2)
  have hlen : (valsOf σ).length = ρ.length := by
    have := Paired.length hsh
    simp [valsOf, this]
  have down : ∀ {M' H' ρ' σ'}, Good X.K B0 F M' ρ' (s :: (ρ ++ κ)) σ' (v :: (valsOf σ ++ vs)) H' → Good X.K B0 F M' ρ (s :: κ) σ (v :: vs) H' := fun {M' H' ρ' σ'} ⟨B, g⟩ => by
    cases g.st with
    | cons k1 k2 =>
      obtain ⟨k3, k4⟩ := kok_split hlen k2
      exact ⟨B, (g.slt (sok_back hsh k3)).stk (.cons k1 k4)⟩
  refine ⟨fun i m H' => m = ds.length - i ∧ i ≤ ds.length ∧ ∃ acc M', Good X.K B0 F ((D, .dic acc) :: M') ρ (s :: κ) σ (v :: vs) H' ∧ Iv i acc M', ⟨ds.length, by simp, Nat.zero_le _, [], M1, ?_, h0⟩, ?_⟩
  · obtain ⟨B, g1⟩ := g1
    exact ⟨B, g1.cell (c := .dic []) hD ⟨[], rfl, .nil⟩⟩
  rintro i m H' ⟨rfl, hi, acc, M', g', hI⟩
  by_cases hlt : i < ds.length
  · obtain ⟨d, hdd⟩ : ∃ d, ds[i]? = some d := ⟨ds[i], by simp [hlt]⟩
    refine .inr ⟨dw.go i _ ρ κ σ vs H' (hsr i acc M' hI) g' hlt, fun H2 => ∃ acc2 M2, Good X.K B0 F ((D, .dic acc2) :: M2) ρ (s :: κ) σ (v :: vs) H2 ∧ Iv (i + 1) acc2 M2, fun H2 ⟨acc2, M2, g2, h2⟩ => ⟨ds.length - (i + 1), by omega, rfl, hlt, acc2, M2, g2, h2⟩, fun x H2 y => ?_⟩
    have g2 := dw.yld i _ ρ (ρ ++ κ) σ (valsOf σ ++ vs) H' x H2 d (hsr i acc M' hI) (up g') hdd y
    have g3 : Good X.K B0 F ((D, .dic acc) :: M') (wipeS ρ (own.map (·.2))) (.d d :: s :: (ρ ++ κ)) (wipe σ (own.map (·.2))) (x :: v :: (valsOf σ ++ vs)) H2 := by
      obtain ⟨B, g2⟩ := g2
      exact ⟨B, g2.slt (sok_wipe g2.sl _)⟩
    have z := hst i d acc M' _ _ H2 x (fun H2 => ∃ acc2 M2, Good X.K B0 F ((D, .dic acc2) :: M2) ρ (s :: κ) σ (v :: vs) H2 ∧ Iv (i + 1) acc2 M2) hdd hI g3 fun acc' M'' ρ' σ' H'' gg hh => ⟨acc', M'', down gg, hh⟩
    have eqw : wipe (wipe σ (own.map (·.2))) (own.map (·.2)) = wipe σ (own.map (·.2)) := by
      have : ∀ (ws us : List Nat), (∀ w ∈ us, w ∈ ws) → wipe (wipe σ us) ws = wipe σ ws := by
        intro ws us
        induction us with
        | nil => intro _; rfl
        | cons u us ih =>
          intro hu
          show wipe ((wipe σ us).set u none) ws = _
          rw [wipe_set (hu u List.mem_cons_self)]
          exact ih fun w hw => hu w (List.mem_cons_of_mem _ hw)
      exact this _ _ fun w hw => hw
    rw [eqw] at z
    exact z
  · have e : i = ds.length := by omega
    subst e
    exact .inl ⟨dw.stop _ ρ κ σ vs H' (hsr _ acc M' hI) g', q _ H' _ _ (by
      obtain ⟨B, g'⟩ := g'
      exact ⟨B, g'.pop.pushV⟩) (hd acc M' hI)⟩
/-- {kx: vx for x in iter} -/
theorem gu_dcC {u : Use} (i : Nat) {kx vx : Expr} {x : Str} {px : Pos} {scope : Scope} (h : DI X B0 F M ρ κ (.Name x px) iter fun ds s Src M1 => ∀ D, ∃ Iv : Nat → List (Key × PyData) → Cs → Prop, Iv 0 [] M1 ∧ (∀ i acc M, Iv i acc M → Src ((D, .dic acc) :: M)) ∧
      (∀ j d acc M, ds[j]? = some d → Iv j acc M → ∀ b : BA, DE (bk X scope b) B0 F ((D, .dic acc) :: M) ((ρ.set i .un).set i (.d d)) (s :: (ρ ++ κ)) kx fun r1 M1 => ∀ b : BA, DE (bk X scope b) B0 F M1 ((ρ.set i .un).set i (.d d)) (r1 :: s :: (ρ ++ κ)) vx fun r M2 => ∃ ky y M', KeyIs r1 ky ∧ r = .d y ∧ M2 = (D, .dic acc) :: M' ∧ acc.length < 100000 ∧ Iv (j + 1) (putD acc ky y) M') ∧
      ∀ acc M, Iv ds.length acc M → P (.v (.ref D)) ((D, .dic acc) :: M)) (hN : X.N.Nodup := by exact (by assumption)) (ok : BlkOk X.N X.env.scope scope [(x, i)] := by exact blkOk_by (by kernel_rfl)) (hg : ∀ b : BA, PG (bk X scope b) (.Name x px) (gName i) := by exact fun b => pg_name (by assumption) rfl (by first | exact Or.inl rfl | exact Or.inr rfl))
      (hc : X.calm = true := by rfl) (hs : ∀ x, foldedSetIterable iter X.env x = pure x := by intro _; rfl)  (hu : UseOk X u (.DictComp kx vx [⟨.Name x px, iter, [], 0⟩] scope pos) := by first | exact trivial | exact ⟨rfl, rfl, (by first | rfl | kernel_rfl)⟩) : DEu X B0 F M ρ κ u (.DictComp kx vx [⟨.Name x px, iter, [], 0⟩] scope pos) P :=
  dc_mainU (hu := hu) (own := [(x, i)]) (g := gName i) (tt := tYes) hc hN ok hg (fun _ => pts_nil) hs fun σ vs H Q g0 q => h σ vs H Q g0 fun J H1 M1 ds s v Src g1 dw hsrc hr => q J H1 M1 ds s v Src g1 dw hsrc fun D => by
    obtain ⟨Iv, h0, hsr, hst, hd⟩ := hr D
    refine ⟨Iv, h0, hsr, fun j d acc M σ vs H x Q hdd hI g hq => ⟨wipe_set (by simp), ?_⟩, hd⟩
    have fin : ∀ b : BA, tOf (bk X scope b) kx (σ.set i (some x)) H fun y H4 => ∀ b2 : BA, tOf (bk X scope b2) vx (σ.set i (some x)) H4 fun z H5 => ∃ kvs k, y = kV k ∧ H5 D = some (.dK kvs) ∧ kvs.length < sizeLine ∧ Q (upd H5 D (.dK (putK kvs k z))) := ?_
    · unfold tYes
      dsimp only
      rw [if_pos rfl]
      exact fin
    intro b
    have g2 : Good X.K B0 F ((D, .dic acc) :: M) ((ρ.set i .un).set i (.d d)) (s :: (ρ ++ κ)) (σ.set i (some x)) vs H := by
      obtain ⟨B, g⟩ := g
      exact ⟨B, g.pop.slt (Paired.set (OOk.of g.fst) i g.sl)⟩
    refine hst j d acc M hdd hI b (σ.set i (some x)) vs H _ g2 fun y H4 r1 M4 g4 h4 b2 => h4 b2 (σ.set i (some x)) (y :: vs) H4 _ g4 fun z H5 r M2 g5 h5 => ?_
    obtain ⟨ky, y', M', hk, rfl, rfl, hl, hI'⟩ := h5
    exact dc_push g5 hk hl fun H' g6 => hq _ _ _ _ _ g6 hI'
theorem de_dcC (i : Nat) {kx vx : Expr} {x : Str} {px : Pos} {scope : Scope} (h : DI X B0 F M ρ κ (.Name x px) iter fun ds s Src M1 => ∀ D, ∃ Iv : Nat → List (Key × PyData) → Cs → Prop, Iv 0 [] M1 ∧ (∀ i acc M, Iv i acc M → Src ((D, .dic acc) :: M)) ∧
      (∀ j d acc M, ds[j]? = some d → Iv j acc M → ∀ b : BA, DE (bk X scope b) B0 F ((D, .dic acc) :: M) ((ρ.set i .un).set i (.d d)) (s :: (ρ ++ κ)) kx fun r1 M1 => ∀ b : BA, DE (bk X scope b) B0 F M1 ((ρ.set i .un).set i (.d d)) (r1 :: s :: (ρ ++ κ)) vx fun r M2 => ∃ ky y M', KeyIs r1 ky ∧ r = .d y ∧ M2 = (D, .dic acc) :: M' ∧ acc.length < 100000 ∧ Iv (j + 1) (putD acc ky y) M') ∧
      ∀ acc M, Iv ds.length acc M → P (.v (.ref D)) ((D, .dic acc) :: M)) (hN : X.N.Nodup := by exact (by assumption)) (ok : BlkOk X.N X.env.scope scope [(x, i)] := by exact blkOk_by (by kernel_rfl)) (hg : ∀ b : BA, PG (bk X scope b) (.Name x px) (gName i) := by exact fun b => pg_name (by assumption) rfl (by first | exact Or.inl rfl | exact Or.inr rfl))
      (hc : X.calm = true := by rfl) (hs : ∀ x, foldedSetIterable iter X.env x = pure x := by intro _; rfl) : DE X B0 F M ρ κ (.DictComp kx vx [⟨.Name x px, iter, [], 0⟩] scope pos) P :=
  gu_dcC (u := none) i h hN ok hg hc hs trivial
/-- {kx: vx for x, y in iter} -/
theorem gu_dc2C {u : Use} (i j : Nat) (hij : i ≠ j) {kx vx : Expr} {x y : Str} {px py pt : Pos} {kt : Nat} {scope : Scope} (h : DI X B0 F M ρ κ (.Tuple [.Name x px, .Name y py] kt pt) iter fun ds s Src M1 => ∀ D, ∃ Iv : Nat → List (Key × PyData) → Cs → Prop, Iv 0 [] M1 ∧ (∀ i acc M, Iv i acc M → Src ((D, .dic acc) :: M)) ∧
      (∀ n d acc M, ds[n]? = some d → Iv n acc M → ∃ d1 d2, d = .tuple [d1, d2] ∧ ∀ b : BA, DE (bk X scope b) B0 F ((D, .dic acc) :: M) ((((ρ.set j .un).set i .un).set i (.d d1)).set j (.d d2)) (s :: (ρ ++ κ)) kx fun r1 M1 => ∀ b : BA, DE (bk X scope b) B0 F M1 ((((ρ.set j .un).set i .un).set i (.d d1)).set j (.d d2)) (r1 :: s :: (ρ ++ κ)) vx fun r M2 => ∃ ky y M', KeyIs r1 ky ∧ r = .d y ∧ M2 = (D, .dic acc) :: M' ∧ acc.length < 100000 ∧ Iv (n + 1) (putD acc ky y) M') ∧
      ∀ acc M, Iv ds.length acc M → P (.v (.ref D)) ((D, .dic acc) :: M)) (hN : X.N.Nodup := by exact (by assumption)) (ok : BlkOk X.N X.env.scope scope [(x, i), (y, j)] := by exact blkOk_by (by kernel_rfl))
      (hg : ∀ b : BA, PG (bk X scope b) (.Tuple [.Name x px, .Name y py] kt pt) (gTup X.K 2 (gCons (gName i) (gCons (gName j) gNil))) := by exact fun b => pg_tup rfl (pgs_cons (pg_name (by assumption) rfl (by first | exact Or.inl rfl | exact Or.inr rfl)) (pgs_cons (pg_name (by assumption) rfl (by first | exact Or.inl rfl | exact Or.inr rfl)) pgs_nil)))
      (hc : X.calm = true := by rfl) (hs : ∀ x, foldedSetIterable iter X.env x = pure x := by intro _; rfl)  (hu : UseOk X u (.DictComp kx vx [⟨.Tuple [.Name x px, .Name y py] kt pt, iter, [], 0⟩] scope pos) := by first | exact trivial | exact ⟨rfl, rfl, (by first | rfl | kernel_rfl)⟩) : DEu X B0 F M ρ κ u (.DictComp kx vx [⟨.Tuple [.Name x px, .Name y py] kt pt, iter, [], 0⟩] scope pos) P :=
  dc_mainU (hu := hu) (own := [(x, i), (y, j)]) (g := gTup X.K 2 (gCons (gName i) (gCons (gName j) gNil))) (tt := tYes) hc hN ok hg (fun _ => pts_nil) hs fun σ vs H Q g0 q => h σ vs H Q g0 fun J H1 M1 ds s v Src g1 dw hsrc hr => q J H1 M1 ds s v Src g1 dw hsrc fun D => by
    obtain ⟨Iv, h0, hsr, hst, hd⟩ := hr D
    refine ⟨Iv, h0, hsr, fun n d acc M σ vs H x Q hdd hI g hq => ?_, hd⟩
    obtain ⟨d1, d2, rfl, hst⟩ := hst n d acc M hdd hI
    obtain ⟨B, g⟩ := g
    obtain ⟨ad, xs, rfl, hx, hr⟩ := Rp.tup_inv g.fst
    cases hr with
    | cons hr1 hr2 =>
      cases hr2 with
      | cons hr2 hr3 =>
        cases hr3
        rename_i v1 v2
        refine ⟨ad, _, rfl, same_t g.bh hx, rfl, v1, _, rfl, v2, _, rfl, rfl, ?_, ?_⟩
        · rw [wipe_set (by simp), wipe_set (by simp)]
        · have fin : ∀ b : BA, tOf (bk X scope b) kx ((σ.set i (some v1)).set j (some v2)) H fun y H4 => ∀ b2 : BA, tOf (bk X scope b2) vx ((σ.set i (some v1)).set j (some v2)) H4 fun z H5 => ∃ kvs k, y = kV k ∧ H5 D = some (.dK kvs) ∧ kvs.length < sizeLine ∧ Q (upd H5 D (.dK (putK kvs k z))) := ?_
          · unfold tYes
            dsimp only
            rw [if_pos rfl]
            exact fin
          intro b
          have g2 : Good X.K B0 F ((D, .dic acc) :: M) ((((ρ.set j .un).set i .un).set i (.d d1)).set j (.d d2)) (s :: (ρ ++ κ)) ((σ.set i (some v1)).set j (some v2)) vs H :=
            ⟨B, g.pop.slt (Paired.set (OOk.of (s := .d d2) hr2) j (Paired.set (OOk.of (s := .d d1) hr1) i g.sl))⟩
          refine hst b _ vs H _ g2 fun y H4 r1 M4 g4 h4 b2 => h4 b2 _ (y :: vs) H4 _ g4 fun z H5 r M2 g5 h5 => ?_
          obtain ⟨ky, y', M', hk, rfl, rfl, hl, hI'⟩ := h5
          exact dc_push g5 hk hl fun H' g6 => hq _ _ _ _ _ g6 hI'

/-! ### enumerate -/
theorem de_dc2C (i j : Nat) (hij : i ≠ j) {kx vx : Expr} {x y : Str} {px py pt : Pos} {kt : Nat} {scope : Scope} (h : DI X B0 F M ρ κ (.Tuple [.Name x px, .Name y py] kt pt) iter fun ds s Src M1 => ∀ D, ∃ Iv : Nat → List (Key × PyData) → Cs → Prop, Iv 0 [] M1 ∧ (∀ i acc M, Iv i acc M → Src ((D, .dic acc) :: M)) ∧
      (∀ n d acc M, ds[n]? = some d → Iv n acc M → ∃ d1 d2, d = .tuple [d1, d2] ∧ ∀ b : BA, DE (bk X scope b) B0 F ((D, .dic acc) :: M) ((((ρ.set j .un).set i .un).set i (.d d1)).set j (.d d2)) (s :: (ρ ++ κ)) kx fun r1 M1 => ∀ b : BA, DE (bk X scope b) B0 F M1 ((((ρ.set j .un).set i .un).set i (.d d1)).set j (.d d2)) (r1 :: s :: (ρ ++ κ)) vx fun r M2 => ∃ ky y M', KeyIs r1 ky ∧ r = .d y ∧ M2 = (D, .dic acc) :: M' ∧ acc.length < 100000 ∧ Iv (n + 1) (putD acc ky y) M') ∧
      ∀ acc M, Iv ds.length acc M → P (.v (.ref D)) ((D, .dic acc) :: M)) (hN : X.N.Nodup := by exact (by assumption)) (ok : BlkOk X.N X.env.scope scope [(x, i), (y, j)] := by exact blkOk_by (by kernel_rfl))
      (hg : ∀ b : BA, PG (bk X scope b) (.Tuple [.Name x px, .Name y py] kt pt) (gTup X.K 2 (gCons (gName i) (gCons (gName j) gNil))) := by exact fun b => pg_tup rfl (pgs_cons (pg_name (by assumption) rfl (by first | exact Or.inl rfl | exact Or.inr rfl)) (pgs_cons (pg_name (by assumption) rfl (by first | exact Or.inl rfl | exact Or.inr rfl)) pgs_nil)))
      (hc : X.calm = true := by rfl) (hs : ∀ x, foldedSetIterable iter X.env x = pure x := by intro _; rfl) : DE X B0 F M ρ κ (.DictComp kx vx [⟨.Tuple [.Name x px, .Name y py] kt pt, iter, [], 0⟩] scope pos) P :=
  gu_dc2C (u := none) i j hij h hN ok hg hc hs trivial
def enumD (ds : List PyData) : List PyData := ds.mapIdx fun i d => .tuple [.int (i : Nat), d]
theorem enumD_len (ds : List PyData) : (enumD ds).length = ds.length := by simp [enumD]
theorem enumD_get {ds : List PyData} {i : Nat} {d : PyData} (h : (enumD ds)[i]? = some d) : ∃ z, ds[i]? = some z ∧ d = .tuple [.int (i : Nat), z] := by
  unfold enumD at h
  rw [List.getElem?_mapIdx] at h
  cases q : ds[i]? with
  | none => rw [q] at h; cases h
  | some z => rw [q] at h; exact ⟨z, rfl, (Option.some.inj h).symm⟩
theorem enum_yld {i : Nat} {σ : L2.St} {vs : List V} {H H' : Hp} {d : PyData} {s : Sl} {v : V} {T : Addr} {x : V} (g : Good K B0 F M ρ (s :: κ) σ (v :: vs) H) (hT : H T = none) (e : H' = upd H T (.tup [.int (i : Nat), x])) (hx : ∀ B, GoodB K B0 F M ρ (s :: κ) σ (v :: vs) H B → Rp K B x d) : Good K B0 F M ρ (.d (.tuple [.int (i : Nat), d]) :: s :: κ) σ (.ref T :: v :: vs) H' := by
  obtain ⟨B, g⟩ := g
  subst e
  have bp : B T = none := g.bh.free hT
  exact ⟨_, (g.laid (o := .tup [.int (i : Nat), x]) hT).pushD (.tup (SqT.of upd_same) (.cons (.int _) (.cons ((hx B g).ext fun b u z => by rw [upd_ne (ne_of_none z bp)]; exact z) .nil)))⟩
/-- enumerate(a list) -/
theorem di_enum {elts : List Expr} {kk : Nat} {tpos : Pos} (hm : X.mg "enumerate" = none) (h : DE X B0 F M ρ κ e fun r M1 => ∃ ds, r = .d (.list ds) ∧ R (enumD ds) r (fun _ => True) M1) (hg : Gl X "enumerate" := by rfl) (hs : starEach [e] X.env = (false, eval e X.env) :: starEach [] X.env := by rfl) (hs2 : starEach [e] X.env = [(false, eval e X.env)] := by rfl) :
    DI X B0 F M ρ κ (.Tuple elts kk tpos) (.Call (.Name "enumerate" p) [e] [] pos) R := fun σ vs H Q g q => by
  refine tOfI_of (pi_enum hg hm (pa_cons pe_self pa_nil hs) hs2) (h σ vs H _ g fun v H1 r M1 g1 hr => ?_)
  obtain ⟨ds, rfl, hr⟩ := hr
  obtain ⟨B, g1b⟩ := id g1
  obtain ⟨a, xs, rfl, ha, hx⟩ := Rp.lst_inv g1b.fst
  refine ⟨a, xs, rfl, SqL.of (g1b.bh _ _ ha), q (Ite X.K a) H1 M1 _ _ (.ref a) (fun _ => True) g1 ⟨?_, ?_, ?_⟩ trivial hr⟩
  · intro i M ρ κ σ vs H _ g hi
    rw [enumD_len] at hi
    obtain ⟨B, g⟩ := g
    obtain ⟨a', ys, e, ha', hy⟩ := Rp.lst_inv g.fst
    cases e
    have hl := hy.len
    exact ⟨ys, ys[i]'(by omega), SqL.of (g.bh _ _ ha'), by simp [show i < ys.length by omega]⟩
  · intro M ρ κ σ vs H _ g
    rw [enumD_len]
    obtain ⟨B, g⟩ := g
    obtain ⟨a', ys, e, ha', hy⟩ := Rp.lst_inv g.fst
    cases e
    have hl := hy.len
    exact ⟨ys, SqL.of (g.bh _ _ ha'), by omega⟩
  · intro i M ρ κ σ vs H x H' d _ g hd y
    obtain ⟨T, x', rfl, hT, eH, y⟩ := y
    obtain ⟨z, hz, rfl⟩ := enumD_get hd
    refine enum_yld g hT eH fun B g => ?_
    obtain ⟨a', ys, e, ha', hy⟩ := Rp.lst_inv g.fst
    cases e
    obtain ⟨v, hv, hvd⟩ := hy.get hz
    have e : x' = v := Option.some.inj ((y ys (SqL.of (g.bh _ _ ha'))).symm.trans hv)
    subst e
    exact hvd
/-- enumerate(a cell's list) -/
theorem di_enumC {elts : List Expr} {kk : Nat} {tpos : Pos} (hm : X.mg "enumerate" = none) (h : DE X B0 F M ρ κ e fun r M1 => ∃ a ds, r = .v (.ref a) ∧ (a, .lst ds) ∈ M1 ∧ R (enumD ds) r (fun M => (a, .lst ds) ∈ M) M1) (hg : Gl X "enumerate" := by rfl) (hs : starEach [e] X.env = (false, eval e X.env) :: starEach [] X.env := by rfl) (hs2 : starEach [e] X.env = [(false, eval e X.env)] := by rfl) :
    DI X B0 F M ρ κ (.Tuple elts kk tpos) (.Call (.Name "enumerate" p) [e] [] pos) R := fun σ vs H Q g q => by
  refine tOfI_of (pi_enum hg hm (pa_cons pe_self pa_nil hs) hs2) (h σ vs H _ g fun v H1 r M1 g1 hr => ?_)
  obtain ⟨a, ds, rfl, hmem, hr⟩ := hr
  have e := g1.ref
  subst e
  obtain ⟨B, g1b⟩ := id g1
  obtain ⟨_, _, o, ho, xs, rfl, hx⟩ := g1b.cells _ hmem
  refine ⟨a, xs, rfl, SqL.of ho, q (Ite X.K a) H1 M1 _ _ (.ref a) (fun M => (a, .lst ds) ∈ M) g1 ⟨?_, ?_, ?_⟩ hmem hr⟩
  · intro i M ρ κ σ vs H hm g hi
    rw [enumD_len] at hi
    obtain ⟨B, g⟩ := g
    obtain ⟨_, _, o, ho, ys, rfl, hy⟩ := g.cells _ hm
    have hl := hy.len
    exact ⟨ys, ys[i]'(by omega), SqL.of ho, by simp [show i < ys.length by omega]⟩
  · intro M ρ κ σ vs H hm g
    rw [enumD_len]
    obtain ⟨B, g⟩ := g
    obtain ⟨_, _, o, ho, ys, rfl, hy⟩ := g.cells _ hm
    have hl := hy.len
    exact ⟨ys, SqL.of ho, by omega⟩
  · intro i M ρ κ σ vs H x H' d hm g hd y
    obtain ⟨T, x', rfl, hT, eH, y⟩ := y
    obtain ⟨z, hz, rfl⟩ := enumD_get hd
    refine enum_yld g hT eH fun B g => ?_
    obtain ⟨_, _, o, ho, ys, rfl, hy⟩ := g.cells _ hm
    obtain ⟨v, hv, hvd⟩ := hy.get hz
    have e : x' = v := Option.some.inj ((y ys (SqL.of ho)).symm.trans hv)
    subst e
    exact hvd
end
end DL
set_option maxHeartbeats 4000000
/-! enumerate(t), t a tuple -/
namespace DLE
open PySem PySem.Spec PyProof.Rows
open Sem (wp)
theorem meets_enum1 {v : Value} {o : Obj} {H : Heap → Prop} (B : Begins v o H) :
    Meets (Builtin.«enumerate.__new__» ⟨[.type "enumerate", v], []⟩) (fun _ R s => H s.heap ∧
      R (.ok (.ret (.ref (s.heap.push o).objs.size))) { s with heap := (s.heap.push o).push { cls := .type "enumerate", data := .fields #[.none, .bool false, .ref s.heap.objs.size, rawInt 0, .none, .none] } }) :=
  .of_wp fun prog w A R s h => by
    obtain ⟨hp, g, d, tk, os⟩ := s
    obtain ⟨h1, h⟩ := h
    have hsub := sub_enumerate
    have q1 : ∀ {A' : Around} {E : Value → Shared → Prop} {Q : Value → Shared → Prop}, Q (.ref hp.objs.size) ⟨hp.push o, g, d, tk, os⟩ → wpAny (model prog w) A' (pyIter v) Q E ⟨hp, g, d, tk, os⟩ :=
      fun q => B.iter prog w _ _ ⟨hp, g, d, tk, os⟩ _ h1 q
    wp_walk using q1
    refine wpAny_stack_any fun st => wpAny_pure ?_
    split
    · rename_i c _ _ _ _ _
      cases (c == Value.type "enumerate") <;> (wp_walk using q1; exact ⟨_, rfl, h⟩)
    · wp_walk using q1
      exact ⟨_, rfl, h⟩
theorem call_enum1 {prog : Program} {w : World} {A : Around} {E : Value → Shared → Prop} {s : Shared} {v : Value} {o : Obj} {H : Heap → Prop} {Q : Value → Shared → Prop} (B : Begins v o H) (h1 : H s.heap)
    (h : ∀ h', IsEnum h' (s.heap.objs.size + 1) s.heap.objs.size 0 .none → h'.get? s.heap.objs.size = some o → h'.objs.size = s.heap.objs.size + 2 → (∀ b o, s.heap.get? b = some o → h'.get? b = some o) → Q (.ref (s.heap.objs.size + 1)) { s with heap := h' }) :
    wpAny (model prog w) A (call (.type "enumerate") [v]) Q E s := by
  refine callType_new F.called_enumerate (by decide) (F.typeCall_enumerate_1 _) (F.newCall_enumerate_1 _) (fun obj => F.args_object_init_2 obj _) F.entry_enumerate_new (meets_enum1 B) ⟨h1, ?_⟩
  have hz : (s.heap.push o).objs.size = s.heap.objs.size + 1 := Heap.size_push ..
  show _ ∧ _
  rw [hz]
  have he : IsEnum ((s.heap.push o).push { cls := .type "enumerate", data := .fields #[.none, .bool false, .ref s.heap.objs.size, rawInt 0, .none, .none] }) (s.heap.objs.size + 1) s.heap.objs.size 0 .none := by
    have z := Heap.get?_push_size (s.heap.push o) (o := { cls := .type "enumerate", data := .fields #[.none, .bool false, .ref s.heap.objs.size, rawInt 0, .none, .none] }) rfl
    rw [hz] at z
    exact z
  exact ⟨⟨_, he, rfl⟩, h _ he (Heap.get?_push_of_some _ (Heap.get?_push_size _ B.free)) (by rw [Heap.size_push, hz]) fun b o x => Heap.get?_push_of_some _ (Heap.get?_push_of_some _ x)⟩
end DLE
namespace DL
open PySem PySem.Spec PyProof.Rows L2
def IteT (K : Fg) (a : Addr) : It :=
  ⟨fun i H => ∃ (xs : List V) (x : V), SqT K H a xs ∧ xs[i]? = some x, fun i H v H' => ∃ T x, v = .ref T ∧ H T = none ∧ H' = upd H T (.tup [.int (i : Nat), x]) ∧ ∀ xs, SqT K H a xs → xs[i]? = some x, fun i H => ∃ xs : List V, SqT K H a xs ∧ xs.length ≤ i⟩
theorem turn_enumT {P : Program} {w : World} {K : Fg} {elts : List Expr} {kk : Nat} {tpos : Pos} (a e it : Addr) :
    Turn P w K (.Tuple elts kk tpos) (IteT K a) [e, it] e (fun i h => (∃ old, IsEnum h e it ((i : Nat) : Int) old) ∧ h.IsTupleIter it a i ∧ e ≠ it ∧ a ≠ it ∧ a ≠ e) where
  mem := by simp
  obj := fun i h st b hb => by
    obtain ⟨⟨old, he⟩, ⟨o, ho, hc, hd⟩, _⟩ := st
    rcases List.mem_cons.mp hb with z | z
    · rw [z]; exact ⟨_, he, fun v q => nomatch q⟩
    · rw [List.mem_singleton.mp z]; exact ⟨o, ho, fun v q => by rw [hd] at q; cases q⟩
  keep := fun i h h' ⟨⟨old, he⟩, hi, hne⟩ k => ⟨⟨old, k e List.mem_cons_self _ he⟩, hi.at fun o q => k it (by simp) o q, hne⟩
  item := by
    intro X hP hw hK hc i pins s σ H E I hf st hg
    subst hP hw hK
    obtain ⟨⟨old, he⟩, hit, hne, hai, hae⟩ := st
    obtain ⟨xs, x, hq, hx⟩ := hg
    obtain ⟨its, rv, p, hz⟩ := I.tuple hq
    obtain ⟨u, hu, ru⟩ := rv.get hx
    have hel : e < s.heap.objs.size := Heap.lt_size he
    have hil : it < s.heap.objs.size := by obtain ⟨_, q, _⟩ := hit; exact Heap.lt_size q
    have hlen : its.toArray.size = xs.length := by rw [List.size_toArray]; exact rv.length.symm
    have D := Draws.tuple (prog := X.prog) (w := X.w) (A := X.A.in1) (by simpa using I.ok.hd hc) it a hai its.toArray
    refine wpAny_pyNext_enum_itemD D he ⟨hit, p⟩ (by rw [hlen]; exact (List.getElem?_eq_some_iff.mp hx).1) hne (by simp [hne, Ne.symm hae]) fun x1 h' tk hP1 ho st' hT hsz hk => ?_
    have e1 : x1 = u := by
      have q := hP1.symm.trans (show its.toArray[i]? = some u by simpa using hu)
      exact Option.some.inj q
    subst e1
    refine ⟨_, rfl, wpAny_letOwnedTupleGo_enum (s := { s with heap := h', toks := tk + 1 }) ho fun h'' he' sb => ?_⟩
    have hT2 := (sb.2 _ (Nat.ne_of_gt hel)).trans hT
    have new : ObjOk X.prog X.w (upd H s.heap.objs.size (.tup [.int (i : Nat), x])) h'' s.heap.objs.size (.tup [.int (i : Nat), x]) :=
      ⟨by show 2 ≤ sizeLine; decide, [.int i tk, x1], .cons ⟨_, rfl⟩ (.cons ru .nil), ⟨_, hT2, rfl, _, rfl⟩⟩
    have I1 : Inv X pins σ (upd H s.heap.objs.size (.tup [.int (i : Nat), x])) { s with heap := h'', toks := tk + 1 } :=
      I.turnedNew (ch := [e, it]) (fun b ob hb q => (sb.2 b (fun z => hb (by simp [z]))).trans (hk b ob (fun z => hb (by simp [z])) (fun z => hb (by simp [z])) q)) hf (Nat.le_refl _) new
    refine ⟨.ref s.heap.objs.size, _, I1, rfl, ⟨_, x, rfl, I.hok.fresh (Nat.le_refl _), rfl, fun ys hy => by rw [I.tuple_inj hy hq]; exact hx⟩, ⟨⟨x1, ?_⟩, st'.1.at fun o q => (sb.2 it (Ne.symm hne)).trans q, hne, hai, hae⟩, fun b hb => ?_⟩
    · have e1 : ((i + 1 : Nat) : Int) = (i : Int) + 1 := by omega
      rw [e1]; exact he'
    · have hb' : b < s.heap.objs.size := by
        rcases List.mem_cons.mp hb with z | z
        · rw [z]; exact hel
        · rw [List.mem_singleton.mp z]; exact hil
      rw [upd_ne (Nat.ne_of_lt hb')]
      exact (hf b hb).1
  done := by
    intro X hP hw hK hc i pins s σ H E I hf st hg
    subst hP hw hK
    obtain ⟨⟨old, he⟩, hit, hne, hai, hae⟩ := st
    obtain ⟨xs, hq, hx⟩ := hg
    obtain ⟨its, rv, p, hz⟩ := I.tuple hq
    have hlen : its.toArray.size = xs.length := by rw [List.size_toArray]; exact rv.length.symm
    obtain ⟨f0, f1, f2, f3, f4, f5⟩ := hf it (by simp)
    have hi : i = its.toArray.size ∨ its.toArray.size < i := by omega
    have D := Draws.tuple (prog := X.prog) (w := X.w) (A := X.A.in1) (by simpa using I.ok.hd hc) it a hai its.toArray
    have hT : s.TypeIs (.ref e) "enumerate" := ⟨_, he, rfl⟩
    unfold pyNext
    refine wpAny_bind (wpAny_attempt (wpAny_callSpecial?_slot (name := Str.ofString "__next__") hT F.slot_enumerate_next
      (wpAny_call_entry F.slot_enumerate_next hT F.entry_enumerate_next ?_ (F.args_enumerate_next_1 _))))
    show wpAny _ _ (field (.ref e) 2 >>= _) _ _ _
    refine wpAny_bind (wpAny_field he rfl (x := .ref it) rfl ?_)
    refine wpAny_bind (wpAny_nextOf_tuple_end (by simpa using I.ok.hd hc) hit p (by have z := rv.length; simp only [List.size_toArray] at *; simp; omega) fun h' x he' hx' => ?_)
    obtain ⟨o, ho, hcx⟩ := hx'
    refine wpAny_bind (wpAny_isInstance (T := "StopIteration") (b := true) ⟨o, ho, hcx⟩ isSubtype_stop ?_)
    exact wpAny_pure ⟨rfl, I.turned (t' := s.toks) (fun b o hb q => he' b o hb q) f0 f1 f3 f4 f5⟩
  self := fun A i s Q E st h => let ⟨⟨_, he⟩, _⟩ := st; wpAny_pyIter_enum he h
def iEnumT (K : Fg) (ta : TA) : TI := fun σ H R => ta σ H fun vs H1 => ∃ a xs, vs = [.ref a] ∧ SqT K H1 a xs ∧ R (IteT K a) H1
theorem pi_enumT {X : Cx} {e : Expr} {ta : TA} {p pos tpos : Pos} {elts : List Expr} {kk : Nat} (hg : Gl X "enumerate") (hm : X.mg "enumerate" = none) (ha : PA X [e] ta) (hs : starEach [e] X.env = [(false, eval e X.env)] := by rfl) :
    PI X (.Tuple elts kk tpos) (.Call (.Name "enumerate" p) [e] [] pos) (iEnumT X.K ta) := by
  refine ⟨fun pins s σ H R I h => ?_⟩
  refine Call_ (ld_blt I hg hm boot_enumerate (PyProof.Rows.callWith_type1 (thn (ha.run pos pins s σ H _ I h) fun us s1 ⟨vs, H1, I1, r1, q1⟩ => ?_) hs rfl))
  obtain ⟨a, xs, ex, hq, q⟩ := q1
  subst ex
  obtain rfl := Vals.ref1 r1
  obtain ⟨its, rv, p', hz⟩ := I1.tuple hq
  have hal : a < s1.heap.objs.size := p'.lt
  refine DLE.call_enum1 (begins_tuple a its.toArray) (show s1.heap.IsTuple a its.toArray from p') fun h' he hit hsz hk => wpAny_pyIter_enum he ?_
  have I2 : Inv X pins σ H1 { s1 with heap := h' } := I1.kept (t' := s1.toks) hk
  refine ⟨s1.heap.objs.size + 1, [s1.heap.objs.size + 1, s1.heap.objs.size], _, _, H1, rfl, I2, turn_enumT a (s1.heap.objs.size + 1) s1.heap.objs.size, ⟨⟨.none, he⟩, ⟨_, hit, rfl, rfl⟩, Nat.succ_ne_self _, Nat.ne_of_lt hal, Nat.ne_of_lt (Nat.lt_succ_of_lt hal)⟩, fun b hb => ?_, q⟩
  have hle : s1.heap.objs.size ≤ b := by
    rcases List.mem_cons.mp hb with z | z
    · rw [z]; exact Nat.le_succ _
    · rw [List.mem_singleton.mp z]; exact Nat.le_refl _
  exact I1.fpOk hle (I1.hok.fresh hle)
section
variable {X : Cx} {K : Fg} {B0 F : Hp} {M : Cs} {ρ κ : List Sl} {e : Expr} {pos p : Pos} {R : List PyData → Sl → (Cs → Prop) → Cs → Prop}
theorem di_enumT {elts : List Expr} {kk : Nat} {tpos : Pos} (hm : X.mg "enumerate" = none) (h : DE X B0 F M ρ κ e fun r M1 => ∃ ds, r = .d (.tuple ds) ∧ R (enumD ds) r (fun _ => True) M1) (hg : Gl X "enumerate" := by rfl) (hs : starEach [e] X.env = (false, eval e X.env) :: starEach [] X.env := by rfl) (hs2 : starEach [e] X.env = [(false, eval e X.env)] := by rfl) :
    DI X B0 F M ρ κ (.Tuple elts kk tpos) (.Call (.Name "enumerate" p) [e] [] pos) R := fun σ vs H Q g q => by
  refine tOfI_of (pi_enumT hg hm (pa_cons pe_self pa_nil hs) hs2) (h σ vs H _ g fun v H1 r M1 g1 hr => ?_)
  obtain ⟨ds, rfl, hr⟩ := hr
  obtain ⟨B, g1b⟩ := id g1
  obtain ⟨a, xs, rfl, ha, hx⟩ := Rp.tup_inv g1b.fst
  refine ⟨a, xs, rfl, same_t g1b.bh ha, q (IteT X.K a) H1 M1 _ _ (.ref a) (fun _ => True) g1 ⟨?_, ?_, ?_⟩ trivial hr⟩
  · intro i M ρ κ σ vs H _ g hi
    rw [enumD_len] at hi
    obtain ⟨B, g⟩ := g
    obtain ⟨a', ys, e, ha', hy⟩ := Rp.tup_inv g.fst
    cases e
    have hl := hy.len
    exact ⟨ys, ys[i]'(by omega), same_t g.bh ha', by simp [show i < ys.length by omega]⟩
  · intro M ρ κ σ vs H _ g
    rw [enumD_len]
    obtain ⟨B, g⟩ := g
    obtain ⟨a', ys, e, ha', hy⟩ := Rp.tup_inv g.fst
    cases e
    have hl := hy.len
    exact ⟨ys, same_t g.bh ha', by omega⟩
  · intro i M ρ κ σ vs H x H' d _ g hd y
    obtain ⟨T, x', rfl, hT, eH, y⟩ := y
    obtain ⟨z, hz, rfl⟩ := enumD_get hd
    refine enum_yld g hT eH fun B g => ?_
    obtain ⟨a', ys, e, ha', hy⟩ := Rp.tup_inv g.fst
    cases e
    obtain ⟨v, hv, hvd⟩ := hy.get hz
    have e : x' = v := Option.some.inj ((y ys (same_t g.bh ha')).symm.trans hv)
    subst e
    exact hvd
end
end DL
set_option maxHeartbeats 4000000
namespace DL
open PySem PySem.Spec PyProof.Rows L2

section
variable {X : Cx} {K : Fg} {B0 F : Hp} {M : Cs} {ρ κ : List Sl} {P : Sl → Cs → Prop} {a b c e o : Expr} {es : List Expr} {pos p : Pos} {x : Str} {R : List PyData → Sl → (Cs → Prop) → Cs → Prop}
theorem Good.perm {M' : Cs} {σ : L2.St} {vs : List V} {H : Hp} (g : Good K B0 F M ρ κ σ vs H) (h : M.Perm M') : Good K B0 F M' ρ κ σ vs H := by
  obtain ⟨B, g⟩ := g
  exact ⟨B, g.b0, g.bh, g.fh, g.new, fun c hc => g.cells c (h.mem_iff.mpr hc), (h.map _).nodup_iff.mp g.nd, g.sl, g.st⟩
/-- f(e, ..): a def that may change all cells behind the first j -/
theorem de_callJ {f : Addr} {fd : FuncData} {ps : List Str} {lv : Nat} {Rf : List Sl → Cs → (Sl → Cs → Prop) → Prop} (j : Nat) (Fo : FnOk X.prog X.w X.K X.mg X.base CX0 lv f fd ps (SpG X.K Rf)) (hr : Room lv X.A) (hm : X.mg x = some (.ref f)) (hk : PySem.W.keepIn X.K (.ref f) = true) (hb : Binds X.K fd ps [])
    (h : DA X B0 F M ρ κ (e :: es) fun rs M1 => Rf rs (M1.drop j) fun r M2 => NoRd r ∧ P r (M1.take j ++ M2)) (hg : Gl X x := by rfl) (hdb : (x == ("__debug__" : Str)) = false := by decide)
    (he : starEach (e :: es) X.env = (false, eval e X.env) :: starEach es X.env := by rfl) (hpl : (backTo pos (starEach es X.env)).any (·.1) = false := by rfl) : DE X B0 F M ρ κ (.Call (.Name x p) (e :: es) [] pos) P := fun σ vs H Q g q => by
  refine tOf_of (pe_call (E := E0) Fo hr hg hm hk hb .nil pass0 pa_self hdb he hpl) (h σ vs H _ g fun ws H1 rs M1 hl g1 hR => ?_)
  rw [List.append_nil]
  have pm : M1.Perm (M1.drop j ++ M1.take j) := by
    have h1 : M1 = M1.take j ++ M1.drop j := (List.take_append_drop j M1).symm
    exact (List.Perm.of_eq h1).trans List.perm_append_comm
  obtain ⟨B, g1⟩ := g1.perm pm
  obtain ⟨k1, k2⟩ := kok_split hl g1.st
  have g2 := g1.stk k2
  have sF : Same F (without H1 ((M1.drop j).map (·.1))) := fun a o e => by
    rw [without_out]
    · exact g1.fh a o e
    · intro z
      obtain ⟨c, hc, rfl⟩ := List.mem_map.mp z
      rw [(g1.cells c (List.mem_append_left _ hc)).f] at e
      cases e
  have nd := g1.nd
  rw [List.map_append] at nd
  refine ⟨B, without H1 ((M1.drop j).map (·.1)), M1.drop j, rs, _, ⟨B, Same.refl _, g1.bh, fun a o e => (without_some e).2, fun a ha => .inl ha, fun c hc => ?_, (List.nodup_append.mp nd).1, .nil, Paired.mapP k1 fun _ _ z => z.extF sF⟩, ?_, hR, fun v H' r M' g' hW => ?_⟩
  · obtain ⟨h1, h2, u, h3, h4⟩ := g1.cells c (List.mem_append_left _ hc)
    exact ⟨h1, without_in (List.mem_map.mpr ⟨c, hc, rfl⟩), u, h3, h4⟩
  · rintro r M ⟨hn, _⟩
    exact hn
  · exact q v H' r _ ((good_afterM g2 hW.1 g').perm List.perm_append_comm) hW.2

/-! ### a raw list made, an item popped -/
theorem vok_slV {F B : Hp} {v w : V} (h : VOk K F B v (slV w)) : v = w := by
  cases w with
  | int i => exact Rp.int_inv h
  | bl b => exact Rp.bl_inv h
  | str x => exact Rp.str_inv h
  | non => exact Rp.non_inv h
  | byt b => exact h
  | flt b => exact h
  | ref a => exact h
  | ty n => exact h
theorem koks_slV {F B : Hp} : ∀ {ws vs : List V}, KOk K F B ws (vs.map slV) → ws = vs
  | _, [], h => by cases h; rfl
  | _, v :: vs, h => by
    cases h with
    | cons h1 h2 => rw [vok_slV h1, koks_slV h2]
theorem de_lstRaw (h : DA X B0 F M ρ κ es fun rs M1 => ∃ ws : List V, rs = ws.map slV ∧ ws.length ≤ 100000 ∧ ∀ p, P (.v (.ref p)) ((p, .raw (.lst ws)) :: M1)) : DE X B0 F M ρ κ (.List es pos) P :=
  fun σ vs H Q g q => tOf_of (pe_lst pa_self) (h σ vs H _ g fun ws H1 rs M1 hl g1 h1 => by
    obtain ⟨us, rfl, hz, p⟩ := h1
    obtain ⟨B, g1⟩ := g1
    obtain ⟨h3, h4⟩ := kok_split hl g1.st
    have e := koks_slV h3
    subst e
    exact ⟨Nat.le_trans hz (by decide), fun a ha => q _ _ _ _ ⟨B, ((g1.stk h4).cell (c := .raw (.lst ws)) ha rfl).pushV⟩ (p a)⟩)
variable {apos cpos : Pos}
/-- xs.pop(i): xs a cell at place n -/
theorem de_popAt (n : Nat) (h : DE X B0 F M ρ κ o fun r1 M1 => ∃ a ds', r1 = .v (.ref a) ∧ (a, MC.lst ds') ∈ M1 ∧ DE X B0 F M1 ρ (r1 :: κ) e fun r2 M2 => ∃ ds i k d, r2 = .d (.int i) ∧ M2[n]? = some (a, .lst ds) ∧ -(2 ^ 63) ≤ i ∧ i < 2 ^ 63 ∧ seqIndex? i ds.length = some k ∧ ds[k]? = some d ∧ P (.d d) (M2.set n (a, .lst (ds.eraseIdx k))))
    (hbase : attributeBase o "pop" X.env (eval o X.env) = eval o X.env := by rfl)
    (hfew : ((backTo cpos (starEach (e :: []) X.env)).all (fun x => !x.1) && (backToKw cpos (keywordEach [] X.env)).all (fun x => x.1.isSome)
      && decide ((e :: ([] : List Expr)).length + ([] : List Keyword).length + (if ([] : List Keyword).isEmpty then 0 else 1) < 30)) = true := by rfl)
    (hline : (apos.endLine == cpos.line) = true := by rfl) (hs : starEach (e :: []) X.env = (false, eval e X.env) :: starEach [] X.env := by rfl) (hplain : (backTo cpos (starEach [] X.env)).any (·.1) = false := by rfl) :
    DE X B0 F M ρ κ (.Call (.Attribute o "pop" apos) [e] [] cpos) P := fun σ vs H Q g q => by
  refine tOf_of (pe_bm PySem.F.plainAttrs_list PySem.F.slot_list_pop PySem.F.type_list_pop (X := X) mt_popAt pe_self (pa_cons pe_self pa_nil hs) hbase hfew hline hs hplain) ?_
  refine h σ vs H _ g fun x H1 r1 M1 g1 h1 => ?_
  obtain ⟨a, ds', rfl, hm, h1⟩ := h1
  have e := g1.ref
  subst e
  refine ⟨?_, h1 σ (.ref a :: vs) H1 _ g1 fun y H2 r2 M2 g2 h2 => ?_⟩
  · obtain ⟨B, g1⟩ := g1
    obtain ⟨_, _, u, ho, ws, rfl, hw⟩ := g1.cells _ hm
    exact .inl ⟨rfl, ws, SqL.of ho⟩
  · obtain ⟨ds, i, k, d, rfl, hn, hi1, hi2, hk, hd, hp⟩ := h2
    have e := g2.int
    subst e
    obtain ⟨B, g2⟩ := g2
    obtain ⟨ws, ho, hw⟩ := cell_at g2 hn
    obtain ⟨v, hv, hr⟩ := hw.get hd
    have er : ∀ {ws : List V} {ds : List PyData} (k : Nat), RpA X.K B ws ds → RpA X.K B (ws.eraseIdx k) (ds.eraseIdx k) := by
      intro ws ds k h
      induction ws generalizing ds k with
      | nil => cases h; exact .nil
      | cons w ws ih =>
        cases h with
        | cons h1 h2 =>
          cases k with
          | zero => exact h2
          | succ k => exact .cons h1 (ih k h2)
    exact ⟨a, ws, i, k, v, rfl, rfl, ho, hi1, hi2, by rw [hw.len]; exact hk, hv, q _ _ _ _ ⟨B, (g2.pop.pop.write (c' := .lst (ds.eraseIdx k)) hn ⟨_, rfl, er k hw⟩).pushD hr⟩ hp⟩

/-! ### in, of data at any depth -/
theorem SeqLs.dp {σ : L2.St} {vs : List V} {H B : Hp} {s : Sl} {ds : List PyData} {v : V} (q : SeqLs M s ds) (g : GoodB K B0 F M ρ κ σ vs H B) (hv : VOk K F B v s) : Dp K H v (.list ds) := by
  obtain ⟨a, xs, rfl, h1, h2⟩ := q.at g hv
  exact .lst h1 (h2.ext g.bh).dp
theorem r2_inD {s : Sl} {ds : List PyData} {d : PyData} (q : SeqLs M s ds) (hd : SeqAt.shaped d = true) (hs : SeqAt.shaped (.list ds) = true) (h : P (.d (.bool (ds.any fun z => PyData.eqv z d))) M) : R2D K B0 F ρ κ (rInD K) (.d d) s M P := fun σ vs H x y Q g qq => by
  obtain ⟨B, g⟩ := g
  have r : Rp K B x d := g.pop.fst
  exact ⟨d, ds, (r.ext g.bh).dp, q.dp g g.fst, hd, hs, qq _ H _ M ⟨B, g.pop.pop.pushD (Rp.bl _)⟩ h⟩
theorem r2_niD {s : Sl} {ds : List PyData} {d : PyData} (q : SeqLs M s ds) (hd : SeqAt.shaped d = true) (hs : SeqAt.shaped (.list ds) = true) (h : P (.d (.bool (!ds.any fun z => PyData.eqv z d))) M) : R2D K B0 F ρ κ (rNotInD K) (.d d) s M P := fun σ vs H x y Q g qq => by
  obtain ⟨B, g⟩ := g
  have r : Rp K B x d := g.pop.fst
  exact ⟨d, ds, (r.ext g.bh).dp, q.dp g g.fst, hd, hs, qq _ H _ M ⟨B, g.pop.pop.pushD (Rp.bl _)⟩ h⟩

/-! ### ranges as values -/
/-- range(i, j): a cell -/
theorem rn_range2 {i j : Int} (h : ∀ p, P (.v (.ref p)) ((p, .raw (.rng i j)) :: M)) : RnD K B0 F ρ κ (fun vs H Q => ∃ i j, vs = [V.int i, V.int j] ∧ ∀ p, H p = none → Q (.ref p) (upd H p (.rng i j))) [.d (.int i), .d (.int j)] M P := fun σ vs H xs Q hl g qq => by
  obtain ⟨x, y, rfl⟩ := two_args hl rfl
  have g2 : Good K B0 F M ρ (.d (.int j) :: κ) σ (y :: vs) H := Good.pop g
  have e := Good.int g
  subst e
  have e := g2.int
  subst e
  obtain ⟨B, g2⟩ := g2
  exact ⟨i, j, rfl, fun p hp => qq _ _ _ _ ⟨B, (g2.pop.cell (c := .raw (.rng i j)) hp rfl).pushV⟩ (h p)⟩
/-- a range object that stands, walked -/
def iRngV (te : TE) : TI := fun σ H R => te σ H fun x H1 => ∃ p lo hi, x = .ref p ∧ H1 p = some (.rng lo hi) ∧ (-(2 ^ 62) ≤ lo ∧ lo < 2 ^ 62 ∧ -(2 ^ 62) ≤ hi ∧ hi < 2 ^ 62) ∧ R (Itr lo (hi - lo).toNat) H1
theorem pi_rngV {tg e : Expr} {te : TE} (he : PE X e te) : PI X tg e (iRngV te) := by
  refine ⟨fun pins s σ H R I h => ?_⟩
  refine thn (he.run pins s σ H _ I h) fun v s1 ⟨x, H1, I1, r1, q1⟩ => ?_
  obtain ⟨p, lo, hi, rfl, hp, ⟨h1, h2, h3, h4⟩, q⟩ := q1
  obtain rfl : v = Value.ref p := r1
  obtain ⟨t, u, w, ho⟩ : ObjOk X.prog X.w H1 s1.heap p (.rng lo hi) := I1.hok p _ hp
  refine wpAny_pyIter_range (show IsRange s1.heap p lo hi 1 t u w from ho) (small_one h1 h2 h3 h4) ?_
  refine ⟨s1.heap.objs.size, [s1.heap.objs.size], _, _, H1, rfl, I1.kept (t' := s1.toks) fun b o e => Heap.get?_push_of_some _ e, turn_range _ lo (hi - lo).toNat, ?_, fun b hb => ?_, q⟩
  · have e1 : lo + ((0 : Nat) : Int) * 1 = lo := by simp
    have e2 : (((hi - lo).toNat : Nat) : Int) - ((0 : Nat) : Int) = Builtin.Range.rangeSize lo hi 1 := by rw [rangeSize_one]; split <;> omega
    show IsRangeIter _ _ (lo + ((0 : Nat) : Int) * 1) ((((hi - lo).toNat : Nat) : Int) - ((0 : Nat) : Int)) 1
    rw [e1, e2]
    exact Heap.get?_push_size _ rfl
  · obtain rfl := List.mem_singleton.mp hb
    exact I1.fpOk (Nat.le_refl _) (I1.hok.fresh (Nat.le_refl _))
theorem di_rngV {tg : Expr} (h : DE X B0 F M ρ κ e fun r M1 => ∃ p lo hi, r = .v (.ref p) ∧ (p, .raw (.rng lo hi)) ∈ M1 ∧ (-(2 ^ 62) ≤ lo ∧ lo < 2 ^ 62 ∧ -(2 ^ 62) ≤ hi ∧ hi < 2 ^ 62) ∧ R (rngD lo (hi - lo).toNat) .un (fun _ => True) M1) : DI X B0 F M ρ κ tg e R := fun σ vs H Q g q => by
  refine tOfI_of (pi_rngV pe_self) (h σ vs H _ g fun v H1 r M1 g1 hr => ?_)
  obtain ⟨p, lo, hi, rfl, hm, hb, hr⟩ := hr
  have e := g1.ref
  subst e
  obtain ⟨B, g1b⟩ := id g1
  exact ⟨p, lo, hi, rfl, raw_at g1b hm, hb, q _ H1 M1 _ .un .non _ (g1.pop.push fun _ _ => trivial) walk_rng trivial hr⟩
/-- tuple(range(a, b)), list(range(a)) -/
theorem de_tupRg2 {p2 p3 : Pos} (hm : X.mg "tuple" = none) (hm2 : X.mg "range" = none) (h : DE X B0 F M ρ κ a fun r M1 => DE X B0 F M1 ρ (r :: κ) b fun r2 M2 => ∃ m n, r = .d (.int m) ∧ r2 = .d (.int n) ∧ RgOk m n ∧ P (.d (.tuple (rngD m (n - m).toNat))) M2)
    (pe : PE X (.Call (.Name "tuple" p) [.Call (.Name "range" p2) [a, b] [] p3] [] pos) (tTupRg (tRg2 (tOf X a) (tOf X b))) := by exact pe_tupRg rfl rfl (by assumption) (prg_2 rfl (by assumption) pe_self pe_self)) : DE X B0 F M ρ κ (.Call (.Name "tuple" p) [.Call (.Name "range" p2) [a, b] [] p3] [] pos) P := fun σ vs H Q g q => tOf_of pe (h σ vs H _ g fun v H1 r M1 g1 h1 => h1 σ (v :: vs) H1 _ g1 fun v2 H2 r2 M2 g2 h2 => by
    obtain ⟨m, n, rfl, rfl, ok, hp⟩ := h2
    have e := g2.int
    subst e
    have e := g2.pop.int
    subst e
    refine ⟨m, n, rfl, rfl, ok, fun l hl => q _ _ _ M2 ?_ hp⟩
    obtain ⟨B, g2⟩ := g2
    exact ⟨_, (g2.pop.pop.laid (o := .tup (rgV m n)) hl).pushD (.tup (SqT.of upd_same) (rngV_rp m n))⟩)
theorem de_lstRg1 {p2 p3 : Pos} (hm : X.mg "list" = none) (hm2 : X.mg "range" = none) (h : DE X B0 F M ρ κ a fun r M1 => ∃ n, r = .d (.int n) ∧ RgOk 0 n ∧ ∀ l, P (.v (.ref l)) ((l, .lst (rngD 0 n.toNat)) :: M1))
    (pe : PE X (.Call (.Name "list" p) [.Call (.Name "range" p2) [a] [] p3] [] pos) (tLstRg (tRg1 (tOf X a))) := by exact pe_listRg rfl rfl (by assumption) (prg_1 rfl (by assumption) pe_self)) : DE X B0 F M ρ κ (.Call (.Name "list" p) [.Call (.Name "range" p2) [a] [] p3] [] pos) P := fun σ vs H Q g q => tOf_of pe (h σ vs H _ g fun v H1 r M1 g1 h1 => by
    obtain ⟨n, rfl, ok, hp⟩ := h1
    have e := g1.int
    subst e
    refine ⟨n, rfl, ok, fun l hl => q _ _ _ _ ?_ (hp l)⟩
    obtain ⟨B, g1⟩ := g1
    have e : (n - 0).toNat = n.toNat := by omega
    exact cell_new g1.pop hl (by rw [← e]; exact rngV_rp 0 n))

/-! ### dict(pairs), sorted(d) -/
def mergeD (kvs more : List (Key × PyData)) : List (Key × PyData) := more.foldl (fun acc kv => putD acc kv.1 kv.2) kvs
theorem ents_merge {B : Hp} : ∀ {kvs acc : List (Key × V)} {es acc' : List (Key × PyData)}, EntsOk K B kvs es → EntsOk K B acc acc' → EntsOk K B (mergeK acc kvs) (mergeD acc' es)
  | _, _, _, _, .nil, h => h
  | p :: kvs, acc, q :: es, acc', .cons h t, g => by
    show EntsOk K B (mergeK (putK acc p.1 p.2) kvs) (mergeD (putD acc' q.1 q.2) es)
    rw [h.1]
    exact ents_merge t (ents_put h.2 g)
def keyData : Key → PyData
  | .inl i => .int i
  | .inr x => .str x
theorem key_v {H : Hp} {v : V} {ky : Key} (h : Rp K H v (keyData ky)) : v = kV ky := by
  cases ky with
  | inl i => exact Rp.int_inv h
  | inr x => exact Rp.str_inv h
/-- dict(xs): xs a list of pairs (key, value): a cell -/
theorem rn_dict {s : Sl} {es : List (Key × PyData)} (q : SeqLs M s (es.map fun e => .tuple [keyData e.1, e.2])) (h : ∀ p, P (.v (.ref p)) ((p, .dic (mergeD [] es)) :: M)) : RnD K B0 F ρ κ (fun xs H Q => ∃ (a : Addr) (ps : List Addr) (kvs : List (Key × V)), xs = [.ref a] ∧ SqL K H a (ps.map V.ref) ∧ Paired (fun p kv => SqT K H p [kV kv.1, kv.2]) ps kvs ∧
    ∀ p, H p = none → Q (.ref p) (upd H p (.dK (mergeK [] kvs)))) [s] M P := fun σ vs H xs Q hl g qq => by
  obtain ⟨x, rfl⟩ := one_arg hl rfl
  obtain ⟨B, g⟩ := g
  obtain ⟨a, ys, rfl, h1, h2⟩ := q.at g g.fst
  have : ∀ {ys : List V} {es : List (Key × PyData)}, RpA K B ys (es.map fun e => .tuple [keyData e.1, e.2]) → ∃ (ps : List Addr) (kvs : List (Key × V)), ys = ps.map V.ref ∧ Paired (fun p kv => SqT K H p [kV kv.1, kv.2]) ps kvs ∧ EntsOk K B kvs es := by
    intro ys es
    induction es generalizing ys with
    | nil => intro h; cases h; exact ⟨[], [], rfl, .nil, .nil⟩
    | cons e es ih =>
      intro h
      cases h with
      | cons h1 h2 =>
        obtain ⟨ps, kvs, e1, e2, e3⟩ := ih h2
        obtain ⟨t, ws, rfl, ht, hw⟩ := Rp.tup_inv h1
        cases hw with
        | cons w1 w2 =>
          cases w2 with
          | cons w2 w3 =>
            cases w3
            have ek := key_v w1
            subst ek
            rename_i v2
            exact ⟨t :: ps, (e.1, v2) :: kvs, by rw [e1]; rfl, .cons (same_t g.bh ht) e2, .cons ⟨rfl, w2⟩ e3⟩
  obtain ⟨ps, kvs, rfl, e2, e3⟩ := this h2
  exact ⟨a, ps, kvs, rfl, h1, e2, fun p hp => qq _ _ _ _ ⟨B, (g.pop.cell (c := .dic (mergeD [] es)) hp ⟨_, rfl, ents_merge e3 .nil⟩).pushV⟩ (h p)⟩
/-- sorted(d): d a cell with int keys, fewer than 64 -/
theorem rn_sortedDI {a : Addr} {es : List (Key × PyData)} {ks : List Int} (hm : (a, .dic es) ∈ M) (hk : es.map (·.1) = ks.map Sum.inl) (hl : ks.length < 64) (h : ∀ ys : List Int, ys.Perm ks → ys.Pairwise (· ≤ ·) → ∀ l, P (.v (.ref l)) ((l, .lst (ys.map .int)) :: M)) : RnD K B0 F ρ κ (fun xs H Q => ∃ (a : Addr) (kvs : List (Key × V)) (ks : List Int), xs = [.ref a] ∧ Rd H a (.dK kvs) ∧ kvs.map (·.1) = ks.map Sum.inl ∧ ks.length < 64 ∧
    ∀ (ys : List Int) (p : Addr), ys.Perm ks → ys.Pairwise (· ≤ ·) → H p = none → Q (.ref p) (upd H p (.lst (ys.map V.int)))) [.v (.ref a)] M P := fun σ vs H xs Q hl' g qq => by
  obtain ⟨x, rfl⟩ := one_arg hl' rfl
  have e := Good.ref g
  subst e
  obtain ⟨B, g⟩ := g
  obtain ⟨kvs, ho, he⟩ := dic_at g hm
  have ek : ∀ {kvs : List (Key × V)} {es : List (Key × PyData)}, EntsOk K B kvs es → kvs.map (·.1) = es.map (·.1) := by
    intro kvs es h
    induction h with
    | nil => rfl
    | cons h t ih => rw [List.map_cons, List.map_cons, ih, h.1]
  exact ⟨a, kvs, ks, rfl, .inl ho, (ek he).trans hk, hl, fun ys p h1 h2 hp => qq _ _ _ _ (cell_new g.pop hp RpA.of_ints) (h ys h1 h2 p)⟩
end
end DL
set_option maxHeartbeats 4000000
/-! sorted(set(xs)), xs a list or a tuple of ints -/
namespace DLS
open PySem PySem.Spec PyProof.Rows L2
variable {P : Program} {w : World} {A : Around} {E : Value → Shared → Prop} {s : Shared}
/-- the set just made -/
abbrev fresh0 (w : World) : Obj := { cls := .type "set", dict := none, data := .set #[] 0 (.fresh 0 0 (!w.params.followText "set-order")) }
theorem set_of_list {l : Addr} {items : Array Value} (ns : List Int) {Q : Value → Shared → Prop} (hh : A.handled = none) (hl : s.heap.IsList l items) (hit : IntsAre items.toList ns) (hb : ns.length + 1 < scanBound)
    (h : ∀ (h' : Heap) (tk c : Nat), SetR w h' s.heap.objs.size (fun j => decide (j ∈ ns)) c → c ≤ ns.length → (∀ b o, s.heap.get? b = some o → h'.get? b = some o) → Q (.ref s.heap.objs.size) { s with heap := h', toks := tk }) :
    wpAny (model P w) A (call (.type "set") [.ref l]) Q E s := by
  have len : items.size = ns.length := by rw [← Array.length_toList]; exact IntsAre.length hit
  obtain ⟨c, tl, hmro⟩ := F.called_set.mro
  have a1 := F.called_set.made
  have a2 := F.called_set.sub
  have a3 := F.called_set.notType
  have a4 := F.called_set.canCreate
  have a5 := F.typeCall_set_1 (.ref l)
  refine wpAny_call (codeAny_of_tree ?_)
  show wpAny _ _ (callAny (.type "set") _) _ _ _
  refine wpAny_pure ⟨Code.quiet_builtin _ (by decide +kernel), codeAny_builtin F.entry_type_call ?_⟩
  rw [Around.under_plain (weight_type_call_type "set" [.ref l] []) rfl]
  repeat (any_goals (first | assumption | wp_step))
  refine codeAny_mono (code_set_led1 (.ref l) (E := E) (Q₁ := fun ob s1 => ob = .ref s.heap.objs.size ∧ s1 = { s with heap := s.heap.push (fresh0 w) }) ⟨rfl, rfl⟩) fun r s1 hr => ?_
  match r, hr with
  | .error e, hr => exact hr
  | .ok .next, hr => exact hr.elim
  | .ok .brk, hr => exact hr.elim
  | .ok .cont, hr => exact hr.elim
  | .ok (.ret ob), hr =>
    obtain ⟨rfl, rfl⟩ := hr
    have hS : (s.heap.push (fresh0 w)).get? s.heap.objs.size = some (fresh0 w) := Heap.get?_push_size _ rfl
    have hT : Shared.TypeIs { s with heap := s.heap.push (fresh0 w) } (.ref s.heap.objs.size) "set" := ⟨_, hS, rfl⟩
    have b1 := F.called_set.init.lookup
    have b2 := F.called_set.init.bind (.ref s.heap.objs.size)
    repeat (any_goals (first | assumption | wp_step))
    refine codeAny_mono (codeAny_call_builtin (R := wants (fun r s2 => r = .none ∧ ∃ h' tk c, s2 = { s with heap := h', toks := tk } ∧ SetR w h' s.heap.objs.size (fun j => decide (j ∈ ns)) c ∧ c ≤ ns.length ∧
        (∀ b o, s.heap.get? b = some o → h'.get? b = some o)) E) F.called_set.init.plain F.entry_set_init (check_set_init_1 hT ?_)) fun r2 s2 hr2 => ?_
    · obtain ⟨⟨oc, od, ot, os⟩, hol, hcl, nl, hdl⟩ := hl
      simp only at hcl hdl
      subst hcl hdl
      have hol' : (s.heap.push (fresh0 w)).get? l = some { cls := .type "list", dict := od, data := .seq items nl, slots := os } := Heap.get?_push_of_some _ hol
      have c1 := F.sub_list_set
      have c2 := F.sub_list_frozenset
      have c3 : (Value.type "list" == Value.type "dict") = false := by decide
      have hl1 : (s.heap.push (fresh0 w)).IsList l items := ⟨_, hol', rfl, nl, rfl⟩
      unfold Builtin.«set.__init__» noKeywords Builtin.Frozenset.updateFrom
      generalize hPI : pyIter = PI
      wp_walk
      subst hPI
      refine wpAny_pyIter_list hl1 (wpAny_bind (wpAny_runValue ?_))
      have lt : l < s.heap.objs.size := Heap.lt_size hol
      have sz : (s.heap.push (fresh0 w)).objs.size = s.heap.objs.size + 1 := Heap.size_push ..
      have neI : l ≠ (s.heap.push (fresh0 w)).objs.size := by rw [sz]; exact Nat.ne_of_lt (Nat.lt_succ_of_lt lt)
      have out : s.heap.objs.size ∉ [(s.heap.push (fresh0 w)).objs.size, l] := by
        rw [sz]
        intro z
        rcases List.mem_cons.mp z with z | z
        · exact absurd z (Nat.ne_of_lt (Nat.lt_succ_self _))
        · exact absurd (List.mem_singleton.mp z) (Nat.ne_of_gt lt)
      have val : ∀ (i : Nat) (v : Value), items[i]? = some v → ∃ k t, ns[i]? = some k ∧ v = .int k t := fun i v hv => by
        have hi : i < ns.length := by rw [← len]; exact (Array.getElem?_eq_some_iff.mp hv).1
        obtain ⟨t, e⟩ := PyProof.Rows.IntsAre.int_at hit i v (by rw [Array.getElem?_toList]; exact hv)
        exact ⟨ns[i], t, List.getElem?_eq_getElem hi, by rw [e, List.getD_eq_getElem?_getD, List.getElem?_eq_getElem hi] <;> rfl⟩
      refine set_update_ints ((Walks.list (by simp [hh]) _ l neI items).toS) s.heap.objs.size out ns len hb val (items.size - 0) 0 _ (by omega) (Nat.zero_le _) ⟨⟨_, Heap.get?_push_size _ rfl, rfl, rfl⟩, (hl1.push _)⟩
        ⟨0, Nat.le_refl 0, setR_new_at (Heap.get?_push_of_some _ hS)⟩ fun s' c' hm hc' hS' => ?_
      obtain ⟨h', g2, d', tk', os'⟩ := s'
      obtain rfl : g2 = s.gens := hm.gens
      obtain rfl : d' = s.drawn := hm.drawn
      obtain rfl : os' = s.os := hm.os
      rw [len] at hc'
      show wpAny _ _ _ _ _ _
      refine wpAny_pure ?_
      show wpAny _ _ (ret Value.none) _ _ _
      refine wpAny_pure ⟨rfl, h', tk', c', rfl, hS', hc', fun b o e => hm.heap b o (fun z => ?_) (Heap.get?_push_of_some _ (Heap.get?_push_of_some _ e))⟩
      have hb0 : b < s.heap.objs.size := Heap.lt_size e
      rcases List.mem_cons.mp z with z | z
      · exact absurd z (Nat.ne_of_lt hb0)
      · rw [List.mem_singleton.mp z, sz] at hb0
        exact absurd hb0 (Nat.not_lt_of_le (Nat.le_succ _))
    · match r2, hr2 with
      | .error e, hr2 => exact hr2
      | .ok .next, hr2 => exact hr2.elim
      | .ok .brk, hr2 => exact hr2.elim
      | .ok .cont, hr2 => exact hr2.elim
      | .ok (.ret r), hr2 =>
        obtain ⟨rfl, h', tk, c', rfl, hS', hc', hk'⟩ := hr2
        repeat (any_goals (first | assumption | wp_step))
        exact h _ _ _ hS' hc' hk'
end DLS
namespace DL
open PySem PySem.Spec PyProof.Rows L2
section
variable {X : Cx} {K : Fg} {B0 F : Hp} {M : Cs} {ρ κ : List Sl} {P : Sl → Cs → Prop} {e : Expr} {pos p : Pos}
/-- set(xs) of ints -/
def rSetI (K : Fg) (w : World) : List V → Hp → VK → Prop := fun xs H Q => ∃ (a : Addr) (ns : List Int), xs = [.ref a] ∧ (SqL K H a (ns.map V.int) ∨ SqT K H a (ns.map V.int)) ∧ ns.length ≤ 1000 ∧ ∀ p n, H p = none → n ≤ ns.length → Q (.ref p) (upd H p (SetO w p (fun j => decide (j ∈ ns)) n))
theorem cr_setI (hc : X.calm = true) : CallR X (.type "set") (rSetI X.K X.w) := by
  intro pins s σ H xs us Q I r h
  obtain ⟨a, ns, rfl, hs, hn, q⟩ := h
  obtain rfl := Vals.ref1 r
  have hb : ns.length + 1 < scanBound := by unfold scanBound; omega
  have fin : ∀ (h' : Heap) (tk c : Nat), SetR X.w h' s.heap.objs.size (fun j => decide (j ∈ ns)) c → c ≤ ns.length → (∀ b o, s.heap.get? b = some o → h'.get? b = some o) → EP X pins σ Q (.ref s.heap.objs.size) { s with heap := h', toks := tk } := fun h' tk c hS hc' hk =>
    ⟨.ref _, _, I.laid (t' := tk) hk (Nat.le_refl _) (setO_new hS), rfl, q _ c (I.hok.fresh (Nat.le_refl _)) hc'⟩
  rcases hs with hs | hs
  · obtain ⟨its, rv, pl, hz⟩ := I.list hs
    exact DLS.set_of_list ns (I.ok.hd hc) pl.isList (by simpa using rv.ints) hb fin
  · obtain ⟨its, rv, pl, hz⟩ := I.tuple hs
    exact call_set_tupI ns (I.ok.hd hc) pl (by simpa using rv.ints) hb fin
/-- set(xs): a cell -/
theorem rn_setI {s : Sl} {ns : List Int} {w : World} (q : Seq M s (ns.map PyData.int)) (hn : ns.length ≤ 1000) (h : ∀ p n, n ≤ ns.length → P (.v (.ref p)) ((p, .raw (SetO w p (fun j => decide (j ∈ ns)) n)) :: M)) : RnD K B0 F ρ κ (rSetI K w) [s] M P := fun σ vs H xs Q hl g qq => by
  obtain ⟨x, rfl⟩ := one_arg hl rfl
  obtain ⟨B, g⟩ := g
  obtain ⟨a, ys, rfl, h1, h2⟩ := q.at g g.fst
  have e := h2.ints
  subst e
  exact ⟨a, ns, rfl, h1, hn, fun p n hp hn' => qq _ _ _ _ ⟨B, (g.pop.cell (c := .raw (SetO w p (fun j => decide (j ∈ ns)) n)) hp rfl).pushV⟩ (h p n hn')⟩
/-- sorted(a set of ints) -/
theorem rn_sortedSet {w : World} {a : Addr} {S : Int → Bool} {n : Nat} (hm : (a, .raw (SetO w a S n)) ∈ M) (hn : n < 64) (h : ∀ ns : List Int, ns.Pairwise (· < ·) → (∀ k : Int, k ∈ ns ↔ S k = true) → ∀ l, P (.v (.ref l)) ((l, .lst (ns.map .int)) :: M)) : RnD K B0 F ρ κ (rSortedSet w) [.v (.ref a)] M P := fun σ vs H xs Q hl g qq => by
  obtain ⟨x, rfl⟩ := one_arg hl rfl
  have e := Good.ref g
  subst e
  obtain ⟨B, g⟩ := g
  exact ⟨a, S, n, rfl, raw_at g hm, hn, fun ns p h1 h2 _ hp => qq _ _ _ _ (cell_new g.pop hp RpA.of_ints) (h ns h1 h2 p)⟩
end
end DL
set_option maxHeartbeats 4000000
namespace DL
open PySem PySem.Spec PyProof.Rows L2
abbrev FnP (K : PySem.W.Frag) (x : Str) (st : Stmt) (f : Addr) (fd : FuncData) : Prop := FunD K x x (defArgs st) (defBody st) (defScope st) [] [] f fd
/-- a def that keeps a promise, known by its name -/
abbrev Go (P : Program) (w : World) (K : Fg) (mg : Str → Option Value) (base : Heap) (x : Str) (lv : Nat) (ps : List Str) (R : List Sl → Cs → (Sl → Cs → Prop) → Prop) : Prop :=
  ∃ f fd, mg x = some (.ref f) ∧ PySem.W.keepIn K (.ref f) = true ∧ Binds K fd ps [] ∧ FnOk P w K mg base CX0 lv f fd ps (SpG K R)
/-- a pure promise -/
def Pu {α : Type} (A : α → List Sl) (C : α → Prop) (f : α → PyData) : List Sl → Cs → (Sl → Cs → Prop) → Prop := fun κ _ W => ∃ a, κ = A a ∧ C a ∧ ∀ M', W (.d (f a)) M'
theorem Views.refl {M : Cs} : ∀ rs : List Sl, Views M rs rs
  | [] => .nil
  | _ :: rs => .same (Views.refl rs)
section
variable {X : Cx} {B0 F : Hp} {M : Cs} {ρ κ : List Sl} {P : Sl → Cs → Prop} {e : Expr} {es : List Expr} {p pos : Pos} {x : Str} {lv : Nat} {ps : List Str}
theorem de_go {R : List Sl → Cs → (Sl → Cs → Prop) → Prop} (G : Go X.prog X.w X.K X.mg X.base x lv ps R) (hr : Room lv X.A)
    (h : DA X B0 F M ρ κ (e :: es) fun rs M1 => ∃ κ', Views M1 rs κ' ∧ R κ' [] fun r _ => ∃ y, r = .d y ∧ P (.d y) M1) (hg : Gl X x := by rfl) (hdb : (x == ("__debug__" : Str)) = false := by decide)
    (he : starEach (e :: es) X.env = (false, eval e X.env) :: starEach es X.env := by rfl) (hpl : (backTo pos (starEach es X.env)).any (·.1) = false := by rfl) : DE X B0 F M ρ κ (.Call (.Name x p) (e :: es) [] pos) P := by
  obtain ⟨f, fd, hm, hk, hb, Fo⟩ := G
  exact de_call Fo hr hm hk hb h hg hdb he hpl
/-- a pure def called, no cell among the arguments -/
theorem de_pu {α : Type} {A : α → List Sl} {C : α → Prop} {f : α → PyData} (G : Go X.prog X.w X.K X.mg X.base x lv ps (Pu A C f)) (hr : Room lv X.A)
    (h : DA X B0 F M ρ κ (e :: es) fun rs M1 => ∃ a, rs = A a ∧ C a ∧ P (.d (f a)) M1) (hg : Gl X x := by rfl) (hdb : (x == ("__debug__" : Str)) = false := by decide)
    (he : starEach (e :: es) X.env = (false, eval e X.env) :: starEach es X.env := by rfl) (hpl : (backTo pos (starEach es X.env)).any (·.1) = false := by rfl) : DE X B0 F M ρ κ (.Call (.Name x p) (e :: es) [] pos) P := by
  refine de_go G hr (fun σ vs H Q g q => h σ vs H Q g fun ws H' rs M' hl g' hp => q ws H' rs M' hl g' ?_) hg hdb he hpl
  obtain ⟨a, rfl, hc, hp⟩ := hp
  exact ⟨_, Views.refl _, a, rfl, hc, fun _ => ⟨_, rfl, hp⟩⟩
theorem da_pu {α : Type} {A : α → List Sl} {C : α → Prop} {Pf : α → Prop} {rs : List Sl} (a : α) (h : rs = A a) (hc : C a) (hp : Pf a) : ∃ a, rs = A a ∧ C a ∧ Pf a := ⟨a, h, hc, hp⟩
theorem go_of {P : Program} {w : World} {K : Fg} {mg : Str → Option Value} {base : Heap} {st : Stmt} {f : Addr} {fd : FuncData} {ps : List Str} {lv : Nat} {R : List Sl → Cs → (Sl → Cs → Prop) → Prop} (Fn : FnP K x st f fd) (gm : mg x = some (.ref f))
    (hb : ∀ (kV doc pm : Value) (an : Option Addr) (cdv ct : Value) (us : List Value), us.length = ps.length → bindArgs (PySem.W.fnOf x x (defArgs st) (defBody st) (defScope st) .none kV doc pm an cdv ct) ⟨us, []⟩ = pure (ps.zip us)) (ok : FnOk P w K mg base CX0 lv f fd ps (SpG K R)) : Go P w K mg base x lv ps R :=
  ⟨f, fd, gm, Fn.kp, Fn.bindsN hb, ok⟩
end

/-! ### built-ins by name -/
section
variable {X : Cx} {B0 F : Hp} {M : Cs} {ρ κ : List Sl} {P : Sl → Cs → Prop} {e e2 : Expr} {p pos : Pos}
theorem bt_tuple : bootBuiltins "tuple" = some (.type "tuple") := by decide +kernel
theorem bt_list : bootBuiltins "list" = some (.type "list") := by decide +kernel
theorem bt_sum : bootBuiltins "sum" = some (.builtin "sum") := by decide +kernel
theorem bt_all : bootBuiltins "all" = some (.builtin "all") := by decide +kernel
theorem bt_any : bootBuiltins "any" = some (.builtin "any") := by decide +kernel
theorem bt_sorted : bootBuiltins "sorted" = some (.builtin "sorted") := by decide +kernel
theorem bt_int : bootBuiltins "int" = some (.type "int") := by decide +kernel
theorem bt_min : bootBuiltins "min" = some (.builtin "min") := by decide +kernel
theorem bt_max : bootBuiltins "max" = some (.builtin "max") := by decide +kernel
theorem bt_isi : bootBuiltins "isinstance" = some (.builtin "isinstance") := by decide +kernel
theorem bt_set : bootBuiltins "set" = some (.type "set") := by decide +kernel
theorem bt_dict : bootBuiltins "dict" = some (.type "dict") := by decide +kernel
theorem de_len (gm : X.mg "len" = none) (h : DE X B0 F M ρ κ e fun r M1 => ∃ ds, Seq M1 r ds ∧ P (.d (.int ds.length)) M1) (hg : Gl X "len" := by rfl) (hs : starEach [e] X.env = (false, eval e X.env) :: starEach [] X.env := by rfl) : DE X B0 F M ρ κ (.Call (.Name "len" p) [e] [] pos) P :=
  de_callB call_len_seq gm boot_len (da_cons (fun σ vs H Q g q => h σ vs H Q g fun v H' r M' g' ⟨ds, hq, hp⟩ => q v H' r M' g' (da_nil (rn_len hq hp))) hs) hg (he := hs)
theorem de_tupleOf (gm : X.mg "tuple" = none) (h : DE X B0 F M ρ κ e fun r M1 => ∃ ds, Seq M1 r ds ∧ P (.d (.tuple ds)) M1) (hg : Gl X "tuple" := by rfl) (hs : starEach [e] X.env = (false, eval e X.env) :: starEach [] X.env := by rfl) : DE X B0 F M ρ κ (.Call (.Name "tuple" p) [e] [] pos) P :=
  de_callTy call_tuple_of gm bt_tuple (da_cons (fun σ vs H Q g q => h σ vs H Q g fun v H' r M' g' ⟨ds, hq, hp⟩ => q v H' r M' g' (da_nil (rn_tuple hq hp))) hs) hg (he := hs)
theorem de_listOf (gm : X.mg "list" = none) (h : DE X B0 F M ρ κ e fun r M1 => ∃ ds, Seq M1 r ds ∧ ∀ l, P (.v (.ref l)) ((l, .lst ds) :: M1)) (hg : Gl X "list" := by rfl) (hs : starEach [e] X.env = (false, eval e X.env) :: starEach [] X.env := by rfl) : DE X B0 F M ρ κ (.Call (.Name "list" p) [e] [] pos) P :=
  de_callTy call_list_of gm bt_list (da_cons (fun σ vs H Q g q => h σ vs H Q g fun v H' r M' g' ⟨ds, hq, hp⟩ => q v H' r M' g' (da_nil (rn_listC hq hp))) hs) hg (he := hs)
theorem de_sum (gm : X.mg "sum" = none) (h : DE X B0 F M ρ κ e fun r M1 => ∃ ns : List Int, SeqLs M1 r (ns.map PyData.int) ∧ P (.d (.int ns.sum)) M1) (hc : X.calm = true := by rfl) (hg : Gl X "sum" := by rfl) (hs : starEach [e] X.env = (false, eval e X.env) :: starEach [] X.env := by rfl) : DE X B0 F M ρ κ (.Call (.Name "sum" p) [e] [] pos) P :=
  de_callB (cr_sum hc) gm bt_sum (da_cons (fun σ vs H Q g q => h σ vs H Q g fun v H' r M' g' ⟨ds, hq, hp⟩ => q v H' r M' g' (da_nil (rn_sum hq hp))) hs) hg (he := hs)
theorem de_all (gm : X.mg "all" = none) (h : DE X B0 F M ρ κ e fun r M1 => ∃ ns : List Bool, SeqLs M1 r (ns.map PyData.bool) ∧ P (.d (.bool (ns.all id))) M1) (hc : X.calm = true := by rfl) (hg : Gl X "all" := by rfl) (hs : starEach [e] X.env = (false, eval e X.env) :: starEach [] X.env := by rfl) : DE X B0 F M ρ κ (.Call (.Name "all" p) [e] [] pos) P :=
  de_callB (cr_all hc) gm bt_all (da_cons (fun σ vs H Q g q => h σ vs H Q g fun v H' r M' g' ⟨ds, hq, hp⟩ => q v H' r M' g' (da_nil (rn_all hq hp))) hs) hg (he := hs)
theorem de_any (gm : X.mg "any" = none) (h : DE X B0 F M ρ κ e fun r M1 => ∃ ns : List Bool, SeqLs M1 r (ns.map PyData.bool) ∧ P (.d (.bool (ns.any id))) M1) (hc : X.calm = true := by rfl) (hg : Gl X "any" := by rfl) (hs : starEach [e] X.env = (false, eval e X.env) :: starEach [] X.env := by rfl) : DE X B0 F M ρ κ (.Call (.Name "any" p) [e] [] pos) P :=
  de_callB (cr_any hc) gm bt_any (da_cons (fun σ vs H Q g q => h σ vs H Q g fun v H' r M' g' ⟨ds, hq, hp⟩ => q v H' r M' g' (da_nil (rn_any hq hp))) hs) hg (he := hs)
theorem de_int1 (gm : X.mg "int" = none) (h : DE X B0 F M ρ κ e fun r M1 => ∃ i, r = .d (.int i) ∧ P (.d (.int i)) M1) (hg : Gl X "int" := by rfl) (hs : starEach [e] X.env = (false, eval e X.env) :: starEach [] X.env := by rfl) : DE X B0 F M ρ κ (.Call (.Name "int" p) [e] [] pos) P :=
  de_callTy call_int1 gm bt_int (da_cons (fun σ vs H Q g q => h σ vs H Q g fun v H' r M' g' ⟨i, hq, hp⟩ => q v H' r M' g' (hq ▸ da_nil (rn_int hp))) hs) hg (he := hs)
theorem de_sorted (hu : X.A.units + 64 < cLine) (gm : X.mg "sorted" = none) (h : DE X B0 F M ρ κ e fun r M1 => ∃ ds, SeqLs M1 r ds ∧ PySem.W.AllAlike ds ∧ PySem.W.Sortable ds ∧ ds.length ≤ 100000 ∧ (∀ d ∈ ds, d.depth ≤ 50) ∧ ∀ l, P (.v (.ref l)) ((l, .lst (sortD ds)) :: M1)) (hg : Gl X "sorted" := by rfl) (hs : starEach [e] X.env = (false, eval e X.env) :: starEach [] X.env := by rfl) : DE X B0 F M ρ κ (.Call (.Name "sorted" p) [e] [] pos) P :=
  de_callB (cr_sortedD hu) gm bt_sorted (da_cons (fun σ vs H Q g q => h σ vs H Q g fun v H' r M' g' ⟨ds, hq, h1, h2, h3, h4, hp⟩ => q v H' r M' g' (da_nil (rn_sortedC hq h1 h2 h3 h4 hp))) hs) hg (he := hs)
end

theorem z0 {α : Type} : ([] : List α).length ≤ 100000 := (by decide : 0 ≤ 100000)
theorem z1 {α : Type} {a : α} : [a].length ≤ 100000 := (by decide : 1 ≤ 100000)
theorem z2 {α : Type} {a b : α} : [a, b].length ≤ 100000 := (by decide : 2 ≤ 100000)
theorem z3 {α : Type} {a b c : α} : [a, b, c].length ≤ 100000 := (by decide : 3 ≤ 100000)
/-! ### numbers without a sign -/
theorem xor_nat (a b : Nat) : Builtin.bitXor (a : Int) (b : Int) = ((a ^^^ b : Nat) : Int) := Bits.bitXor_pp (Int.natCast_nonneg a) (Int.natCast_nonneg b)
end DL
set_option maxHeartbeats 4000000
/-! ### the Hook with one thing more, tables of texts -/
namespace DLHook
open PySem PySem.Spec PyProof.Rows L2 He
abbrev AlX : Type := AlD × Bool
def obsX (n : Nat) (fa : List Fa) (fn : List DefD) (ex : PySem.W.Frag → Bool) (g : Addr → Option Obj) : AlX := (obsDG n fa fn g, ex (frG g (asD g n)))
def hookX (n : Nat) (fa : List Fa) (fn : List DefD) (ex : PySem.W.Frag → Bool) : PySem.W.Hook where
  α := AlX
  obs := fun s => obsX n fa fn ex s.heap.get?
  val := fun _ => (valD fn, true)
  says := fun _ h => ∃ K : PySem.W.Frag, K.In h ∧ SaysD fa fn K ∧ ex K = true
  of := fun _ _ e => ⟨_, frG_in, congrArg (fun z : AlX => z.1) e, congrArg (fun z : AlX => z.2) e⟩
  keeps := fun _ _ _ ⟨K, hK, c⟩ k => ⟨K, PySem.W.Frag.In.keeps hK k, c⟩
theorem obsX_eq {n : Nat} {fa : List Fa} {fn : List DefD} {ex : PySem.W.Frag → Bool} {g : Addr → Option Obj} {s : Shared} (h : ∀ a, g a = s.heap.get? a) : obsX n fa fn ex g = (hookX n fa fn ex).obs s := by
  have e : g = s.heap.get? := funext h
  rw [e] <;> rfl
/-- the module's name x is a tuple of these texts -/
def tupN (K : PySem.W.Frag) (x : Str) (vs : List Str) : Bool := (match K.lookup (ga K x) with
  | some ⟨.type c, none, _, _⟩ => decide (c = "tuple")
  | _ => false) && tupB K x (vs.map Dv.str)
end DLHook
namespace DL
open PySem PySem.Spec PyProof.Rows L2
structure TupS (K : Fg) (a : Addr) (ys : List Str) : Prop where
  ty : ∃ o, K.lookup a = some o ∧ o.cls = .type "tuple" ∧ o.dict = none
  sq : ∀ H, SqT K H a (ys.map V.str)
theorem tupN_ok {K : Fg} {x : Str} {vs : List Str} (h : DLHook.tupN K x vs = true) : TupS K (He.ga K x) vs := by
  obtain ⟨h1, h2⟩ := He.ba h
  refine ⟨?_, fun H => ?_⟩
  · cases q : K.lookup (He.ga K x) with
    | none => rw [q] at h1; cases h1
    | some o =>
      obtain ⟨oc, od, dt, osl⟩ := o
      rw [q] at h1
      cases oc with
      | type c =>
        cases od with
        | none => exact ⟨_, rfl, congrArg Value.type (of_decide_eq_true h1), rfl⟩
        | some a => cases h1
      | _ => cases od <;> cases h1
  · have e := He.tupB_ok h2 H
    rw [List.map_map] at e
    exact e
section
variable {X : Cx} {B0 F : Hp} {M : Cs} {ρ κ : List Sl} {P : Sl → Cs → Prop} {e o : Expr} {apos cpos : Pos}
theorem de_globR {x : Str} {a : Addr} {pos : Pos} (hm : X.mg x = some (.ref a)) (h : P (.v (.ref a)) M) (hg : Gl X x := by rfl) (hdb : (x == ("__debug__" : Str)) = false := by decide) : DE X B0 F M ρ κ (.Name x pos) P :=
  fun σ vs H Q g q => tOf_of (pe_glob hg hm (show RelV (.ref a) (.ref a) from rfl) hdb) (q (.ref a) H _ M g.pushV h)
/-- T.index(z), T a table of texts -/
theorem de_idxTupS (h : DE X B0 F M ρ κ o fun r1 M1 => ∃ a ys, r1 = .v (.ref a) ∧ TupS X.K a ys ∧ DE X B0 F M1 ρ (r1 :: κ) e fun r2 M2 => ∃ (z : Str) (j : Nat), r2 = .d (.str z) ∧ ys[j]? = some z ∧ (∀ m, m < j → ys[m]? ≠ some z) ∧ P (.d (.int (j : Nat))) M2)
    (hbase : attributeBase o "index" X.env (eval o X.env) = eval o X.env := by rfl)
    (hfew : ((backTo cpos (starEach (e :: []) X.env)).all (fun x => !x.1) && (backToKw cpos (keywordEach [] X.env)).all (fun x => x.1.isSome)
      && decide ((e :: ([] : List Expr)).length + ([] : List Keyword).length + (if ([] : List Keyword).isEmpty then 0 else 1) < 30)) = true := by rfl)
    (hline : (apos.endLine == cpos.line) = true := by rfl) (hs : starEach (e :: []) X.env = (false, eval e X.env) :: starEach [] X.env := by rfl) (hplain : (backTo cpos (starEach [] X.env)).any (·.1) = false := by rfl) :
    DE X B0 F M ρ κ (.Call (.Attribute o "index" apos) [e] [] cpos) P := fun σ vs H Q g q => by
  refine tOf_of (pe_bm PySem.F.plainAttrs_tuple PySem.F.slot_tuple_index PySem.F.type_tuple_index (X := X) mt_tup_index pe_self (pa_cons pe_self pa_nil hs) hbase hfew hline hs hplain) ?_
  refine h σ vs H _ g fun x H1 r1 M1 g1 h1 => ?_
  obtain ⟨a, ys, rfl, ht, h1⟩ := h1
  have e := g1.ref
  subst e
  refine ⟨.inr (.inl ⟨rfl, ht.ty⟩), h1 σ (.ref a :: vs) H1 _ g1 fun y H2 r2 M2 g2 h2 => ?_⟩
  obtain ⟨z, j, rfl, hj, hm, hp⟩ := h2
  have e := g2.str
  subst e
  obtain ⟨B, g2⟩ := g2
  exact ⟨a, ys, z, j, rfl, rfl, ht.sq H2, hj, hm, q _ H2 _ _ ⟨B, g2.pop.pop.pushD (.int _)⟩ hp⟩
end
section
variable {X : Cx} {B0 F : Hp} {M : Cs} {ρ κ : List Sl} {pos pt pt2 : Pos} {k : KK} {ts es : List Expr} {kt k2 : Nat}
/-- x, .. = e, ..: where the model makes the tuple -/
theorem ds_parT (n : Nat) (h : DA X B0 F M ρ κ es fun rs M1 => rs.length = n ∧ DGs X B0 F M1 ρ κ rs ts fun M2 ρ2 => k.nx M2 ρ2) (hz : n ≤ 100 := by decide) (hc : X.calm = true := by rfl)
    (hn' : (assignEach ts X.env).length = n := by first | kernel_rfl | rfl) (hst : (assignEach ts X.env).findIdx? (·.1) = none := by first | kernel_rfl | rfl)
    (hs : swapsWithSole [.Tuple ts kt pt] (.Tuple es k2 pt2) pos.line X.env = pure false := by first | kernel_rfl | rfl) (hw : swappedStores [.Tuple ts kt pt] (.Tuple es k2 pt2) X.env = pure none := by first | kernel_rfl | rfl)
    (h1 : (assignEach [.Tuple ts kt pt] X.env).map (·.2) = [assign (.Tuple ts kt pt) X.env] := by first | kernel_rfl | rfl) : DS X B0 F M ρ κ (.Assign [.Tuple ts kt pt] (.Tuple es k2 pt2) pos) k :=
  fun σ vs H D g c => tOfS_of (ps_asg (pe_tup pa_self) (pg_tup (n := n) hc pgs_self hn' hst) hs hw h1) (h σ vs H _ g fun ws H1 rs M1 hl g1 h1 => by
    obtain ⟨hr, hd⟩ := h1
    have hb : n ≤ sizeLine := Nat.le_trans hz (by decide)
    refine ⟨by rw [hl, hr]; exact hb, fun a ha => ?_⟩
    obtain ⟨B, g1⟩ := g1
    exact ⟨a, ws, rfl, SqT.of upd_same, by rw [hl, hr], hd σ vs _ ws _ hl ⟨_, g1.laid (o := .tup ws) ha⟩ fun σ' H' M' ρ' g' n' => c.nx σ' H' M' ρ' g' n'⟩)
end
end DL
set_option maxHeartbeats 4000000
/-! dicts whose keys are tuples of tuples (to depth 8) -/
namespace DL
open PySem PySem.Spec PyProof.Rows L2
/-- the dict at a: its keys, where they stand, its values -/
def NDic (P : Program) (w : World) (a : Addr) (xs : List (NestedKey × Addr × Value)) : HO := .ext fun h => (a == sysModules) = false ∧ xs.length ≤ 100001 ∧
  ∃ o es ep, h.get? a = some o ∧ o.ExactDict ∧ o.data = .dict es ep ∧ es.toList = xs.map (entryOfKey (nestedKind P w)) ∧ (xs.map (·.1)).Nodup
mutual
theorem nest_of {h : Heap} : ∀ (k : NestedKey) {u : Value} {as : List Addr}, Reads h u k.data as → NestedIs h k u
  | .none, _, _, r => by cases r; exact .none
  | .num i, _, _, r => by cases r; exact .int _ _
  | .text x, _, _, r => by cases r; exact .text _ _
  | .tup ks, _, _, r => by
    cases r with
    | tuple h1 h2 h3 h4 => exact .tup h1 h2 h3 (nest_all ks h4)
theorem nest_all {h : Heap} : ∀ (ks : List NestedKey) {us : List Value} {as : List Addr}, ReadsAll h us (NestedKey.datas ks) as → NestedAll h ks us
  | [], _, _, r => by cases r; exact .nil
  | k :: ks, _, _, r => by
    cases r with
    | cons r1 r2 => exact .cons (nest_of k r1) (nest_all ks r2)
end
section
variable {X : Cx} {pins : List (Addr × Obj)} {σ : L2.St} {H : Hp} {s : Shared} {a : Addr} {xs : List (NestedKey × Addr × Value)}
theorem nd_key (I : Inv X pins σ H s) {k : NestedKey} {v : V} {p : Addr} (hd : k.depth ≤ 8) (hk : Dp X.K H v k.data) (r : RelV v (.ref p)) : (nestedKind X.prog X.w).is s.heap k p := by
  obtain ⟨as, h⟩ := Dp.reads I _ _ _ hk r
  exact ⟨nest_of k h, hd⟩
/-- all keys stand -/
def NKeys (K : Fg) (H : Hp) (xs : List (NestedKey × Addr × Value)) : Prop := ∀ x ∈ xs, x.1.depth ≤ 8 ∧ Dp K H (.ref x.2.1) x.1.data
theorem nd_at (I : Inv X pins σ H s) (e : H a = some (NDic X.prog X.w a xs)) (hk : NKeys X.K H xs) : (a == sysModules) = false ∧ xs.length ≤ 100001 ∧ s.heap.DictOfH (nestedKind X.prog X.w) a xs := by
  obtain ⟨⟨h1, h2, o, es, ep, h3, h4, h5, h6, h7⟩, -⟩ := (show ObjOk X.prog X.w H s.heap a (NDic X.prog X.w a xs) from I.hok a _ e)
  exact ⟨h1, h2, o, es, ep, h3, h4, h5, h6, fun x hx => nd_key I (hk x hx).1 (hk x hx).2 rfl, h7⟩
theorem nd_ok {P : Program} {w : World} {H' : Hp} {h' : Heap} (h1 : (a == sysModules) = false) (h2 : xs.length ≤ 100001) (hd : h'.DictOfH (nestedKind P w) a xs) : ObjOk P w H' h' a (NDic P w a xs) := by
  obtain ⟨o, es, ep, h3, h4, h5, h6, _, h7⟩ := hd
  refine ⟨⟨h1, h2, o, es, ep, h3, h4, h5, h6, h7⟩, ⟨o, h3⟩, fun g1 g2 ⟨a1, a2, o, es, ep, a3, a4⟩ q => ⟨a1, a2, o, es, ep, q o a3, a4⟩⟩
end
/-! ### rules of the hand layer -/
section
variable {X : Cx} {o i e : Expr} {td ty tv : TE} {pos : Pos}
/-- what stands at the key -/
def NAt (X : Cx) (H : Hp) (a : Addr) (y : V) (xs : List (NestedKey × Addr × Value)) (k : NestedKey) : Prop := H a = some (NDic X.prog X.w a xs) ∧ NKeys X.K H xs ∧ k.depth ≤ 8 ∧ (∃ p, y = .ref p) ∧ Dp X.K H y k.data
theorem nd_room {A : Around} (hu : A.units + 64 < cLine) {P : Program} {w : World} : (nestedKind P w).room A.in1 := by show A.units + 1 + 8 < cLine; omega
theorem pe_ndget (hu : X.A.units + 64 < cLine) (ho : PE X o td) (hi : PE X i ty) (hs : NoSl i) : PE X (.Subscript o i pos) (fun σ H Q => td σ H fun x H1 => ty σ H1 fun y H2 => ∃ a xs k p v, x = .ref a ∧ NAt X H2 a y xs k ∧ atKey xs k = some p ∧ RelV v p.2 ∧ Q v H2) := by
  refine ⟨fun pins s σ H Q I h => ?_⟩
  refine subD_of PySem.F.slot_dict_getitem.lookup hs (thn (ho.run pins s σ H _ I h) fun u s1 ⟨x, H1, I1, rx, q1⟩ => thn (hi.run pins s1 σ H1 _ I1 q1) fun iv s2 ⟨y, H2, I2, ry, a, xs, k, p, v, ex, g, hp, rv, q2⟩ => ?_)
  subst ex
  obtain rfl : u = Value.ref a := rx
  obtain ⟨g1, g2, g3, ⟨b, rfl⟩, g4⟩ := g
  obtain rfl : iv = Value.ref b := ry
  obtain ⟨h1, h2, h3⟩ := nd_at I2 g1 g2
  exact ⟨h3.typeIs, wpAny_getItem_heap (nd_room hu) (nd_key I2 g3 g4 rfl) h3 hp ⟨v, H2, I2.tok _, rv, q2⟩⟩
theorem pc_ndin (hu : X.A.units + 64 < cLine) (hi : PE X i ty) (ho : PE X o td) : PC X .In i o (fun σ H Q => ty σ H fun y H1 => td σ H1 fun x H2 => ∃ a xs k, x = .ref a ∧ NAt X H2 a y xs k ∧ Q (.bl (atKey xs k).isSome) H2) := by
  refine ⟨fun pins s σ H Q I h => ?_⟩
  refine thn (hi.run pins s σ H _ I h) fun iv s1 ⟨y, H1, I1, ry, q1⟩ => thn (ho.run pins s1 σ H1 _ I1 q1) fun u s2 ⟨x, H2, I2, rx, a, xs, k, ex, g, q2⟩ => ?_
  subst ex
  obtain rfl : u = Value.ref a := rx
  obtain ⟨g1, g2, g3, ⟨b, rfl⟩, g4⟩ := g
  obtain rfl : iv = Value.ref b := ry
  obtain ⟨h1, h2, h3⟩ := nd_at I2 g1 g2
  exact wpAny_in_heap (nd_room hu) (nd_key I2 g3 g4 rfl) h1 h3 ⟨.bl _, H2, I2.tok _, rfl, q2⟩
theorem pc_ndnin (hu : X.A.units + 64 < cLine) (hi : PE X i ty) (ho : PE X o td) : PC X .NotIn i o (fun σ H Q => ty σ H fun y H1 => td σ H1 fun x H2 => ∃ a xs k, x = .ref a ∧ NAt X H2 a y xs k ∧ Q (.bl (!(atKey xs k).isSome)) H2) := by
  refine ⟨fun pins s σ H Q I h => ?_⟩
  refine thn (hi.run pins s σ H _ I h) fun iv s1 ⟨y, H1, I1, ry, q1⟩ => thn (ho.run pins s1 σ H1 _ I1 q1) fun u s2 ⟨x, H2, I2, rx, a, xs, k, ex, g, q2⟩ => ?_
  subst ex
  obtain rfl : u = Value.ref a := rx
  obtain ⟨g1, g2, g3, ⟨b, rfl⟩, g4⟩ := g
  obtain rfl : iv = Value.ref b := ry
  obtain ⟨h1, h2, h3⟩ := nd_at I2 g1 g2
  exact wpAny_notIn_heap (nd_room hu) (nd_key I2 g3 g4 rfl) h1 h3 ⟨.bl _, H2, I2.tok _, rfl, q2⟩
theorem ps_ndput {value : Expr} {pos' : Pos} (hu : X.A.units + 64 < cLine) (ho : PE X o td) (hi : PE X i ty) (hv : PE X value tv) (hs : swapsWith value (some (.Subscript o i pos')) pos.line X.env = pure false) :
    PS X (.Assign [.Subscript o i pos'] value pos) (fun D σ H => tv σ H fun v H1 => td σ H1 fun x H2 => ty σ H2 fun y H3 => ∃ a xs k, x = .ref a ∧ NAt X H3 a y xs k ∧ xs.length ≤ 100000 ∧ ∀ p u, y = .ref p → RelV v u → D.nx σ (upd H3 a (NDic X.prog X.w a (storedH xs k p u)))) := by
  refine ⟨fun pins s σ H D I h => ?_⟩
  refine wpAny_Assign_Subscript (thn (hv.run pins s σ H _ I h) fun r s1 ⟨v, H1, I1, rv, q1⟩ => thn (ho.run pins s1 σ H1 _ I1 q1) fun u s2 ⟨x, H2, I2, rx, q2⟩ => thn (hi.run pins s2 σ H2 _ I2 q2) fun iv s3 ⟨y, H3, I3, ry, a, xs, k, ex, g, hl, q3⟩ => ?_) hs
  subst ex
  obtain rfl : u = Value.ref a := rx
  obtain ⟨g1, g2, g3, ⟨b, rfl⟩, g4⟩ := g
  obtain rfl : iv = Value.ref b := ry
  obtain ⟨h1, h2, h3⟩ := nd_at I3 g1 g2
  have hz : (100001 : Nat) ≤ sizeLine := by decide
  refine wpAny_setItem_heap (hsz := by omega) (nd_room hu) (nd_key I3 g3 g4 rfl) h3 fun h' dd' hs' => ⟨σ, _, d_write I3 (by rw [g1]; exact True.intro) hs' ?_ (nd_ok h1 ?_ dd'), q3 b r rfl rv⟩
  · obtain ⟨q, _, _, hq, _⟩ := dd'
    exact ⟨q, hq⟩
  · unfold storedH
    split
    · rw [List.length_map]; omega
    · rw [List.length_append]; show _ + 1 ≤ _; omega
theorem pe_ndnew : PE X (.Dict [] [] pos) (fun _ H Q => ∀ p, H p = none → Q (.ref p) (upd H p (NDic X.prog X.w p []))) := ⟨fun pins s σ H Q I h =>
  wpAny_Dict_empty ⟨.ref s.heap.objs.size, _, I.laid (a := s.heap.objs.size) (o := NDic X.prog X.w s.heap.objs.size []) (t' := s.toks) (fun _ _ q => Heap.get?_push_of_some _ q) (Nat.le_refl _)
    (nd_ok (beq_eq_false_iff_ne.mpr (Ne.symm (Nat.ne_of_lt I.big))) (Nat.zero_le _) (Heap.DictOfH.new s.heap)), rfl, h _ (I.hok.fresh (Nat.le_refl _))⟩⟩
end
end DL
set_option maxHeartbeats 4000000
namespace DL
open PySem PySem.Spec PyProof.Rows L2
def valN (es : List (NestedKey × PyData)) (k : NestedKey) : Option PyData := (es.find? fun e => decide (e.1 = k)).map (·.2)
def putN (es : List (NestedKey × PyData)) (k : NestedKey) (d : PyData) : List (NestedKey × PyData) := if (valN es k).isSome then es.map (fun e => if e.1 = k then (e.1, d) else e) else es ++ [(k, d)]
def NRel (K : Fg) (B : Hp) (x : NestedKey × Addr × Value) (e : NestedKey × PyData) : Prop := x.1 = e.1 ∧ e.1.depth ≤ 8 ∧ Rp K B (.ref x.2.1) e.1.data ∧ ∃ v, RelV v x.2.2 ∧ Rp K B v e.2
section
variable {K : Fg} {B : Hp}
theorem nr_val {k : NestedKey} : ∀ {xs : List (NestedKey × Addr × Value)} {es : List (NestedKey × PyData)}, Paired (NRel K B) xs es → (∀ d, valN es k = some d → ∃ p, atKey xs k = some p ∧ ∃ v, RelV v p.2 ∧ Rp K B v d) ∧ (valN es k = none → atKey xs k = none)
  | _, _, .nil => ⟨(fun d h => by cases h), fun _ => rfl⟩
  | x :: xs, e :: es, .cons h t => by
    obtain ⟨ih1, ih2⟩ := nr_val (k := k) t
    obtain ⟨h1, h2, h3, v, h4, h5⟩ := h
    unfold valN atKey at *
    rw [List.find?_cons, List.find?_cons]
    by_cases c : e.1 = k
    · rw [decide_eq_true c, decide_eq_true (h1.trans c)]
      exact ⟨(fun d hd => ⟨x.2, rfl, v, h4, by cases Option.some.inj hd; exact h5⟩), fun h => by cases h⟩
    · rw [decide_eq_false c, decide_eq_false (fun z => c (h1 ▸ z))]
      exact ⟨ih1, ih2⟩
theorem nr_some {k : NestedKey} {xs : List (NestedKey × Addr × Value)} {es : List (NestedKey × PyData)} (h : Paired (NRel K B) xs es) : (atKey xs k).isSome = (valN es k).isSome := by
  cases q : valN es k with
  | none => rw [(nr_val h).2 q]; rfl
  | some d => obtain ⟨p, hp, _⟩ := (nr_val h).1 d q; rw [hp]; rfl
theorem nr_keys {F H : Hp} (e : Same B H) : ∀ {xs : List (NestedKey × Addr × Value)} {es : List (NestedKey × PyData)}, Paired (NRel K B) xs es → NKeys K H xs
  | _, _, .nil => fun x hx => by cases hx
  | x :: xs, f :: es, .cons h t => fun y hy => by
    rcases List.mem_cons.mp hy with rfl | hy
    · obtain ⟨h1, h2, h3, _⟩ := h
      rw [h1]
      exact ⟨h2, (h3.ext e).dp⟩
    · exact nr_keys (F := F) e t y hy
theorem nr_put {k : NestedKey} {p : Addr} {u : Value} {v : V} {d : PyData} (hk : k.depth ≤ 8) (hp : Rp K B (.ref p) k.data) (hv : RelV v u) (hd : Rp K B v d) {xs : List (NestedKey × Addr × Value)} {es : List (NestedKey × PyData)} (h : Paired (NRel K B) xs es) : Paired (NRel K B) (storedH xs k p u) (putN es k d) := by
  unfold storedH putN
  rw [nr_some h]
  by_cases c : (valN es k).isSome = true
  · rw [if_pos c, if_pos c]
    clear c
    induction h with
    | nil => exact .nil
    | @cons x e xs es h t ih =>
      rw [List.map_cons, List.map_cons]
      refine .cons ?_ ih
      obtain ⟨h1, h2, h3, w, h4, h5⟩ := h
      unfold putAt
      by_cases c : e.1 = k
      · rw [if_pos c, if_pos (h1.trans c)]
        exact ⟨h1, h2, h3, v, hv, hd⟩
      · rw [if_neg c, if_neg (fun z => c (h1 ▸ z))]
        exact ⟨h1, h2, h3, w, h4, h5⟩
  · rw [if_neg c, if_neg c]
    exact Paired.app h (.cons ⟨rfl, hk, hp, v, hv, hd⟩ .nil)
theorem nr_len {xs : List (NestedKey × Addr × Value)} {es : List (NestedKey × PyData)} (h : Paired (NRel K B) xs es) : xs.length = es.length := Paired.length h
theorem putN_len (es : List (NestedKey × PyData)) (k : NestedKey) (d : PyData) : (putN es k d).length ≤ es.length + 1 := by
  unfold putN
  split
  · rw [List.length_map]; omega
  · simp
theorem valN_app (es fs : List (NestedKey × PyData)) (k : NestedKey) : valN (es ++ fs) k = (valN es k).or (valN fs k) := by
  unfold valN
  rw [List.find?_append]
  cases es.find? fun kv => decide (kv.1 = k) <;> rfl
/-- what is found behind a store -/
theorem valN_put (es : List (NestedKey × PyData)) (k k' : NestedKey) (d : PyData) : valN (putN es k d) k' = if k' = k then some d else valN es k' := by
  unfold putN
  by_cases c : (valN es k).isSome = true
  · rw [if_pos c]
    induction es with
    | nil => cases c
    | cons e es ih =>
      obtain ⟨ek, ev⟩ := e
      have um : ∀ (l : List (NestedKey × PyData)), ¬ (valN l ek).isSome = true → l.map (fun e => if e.1 = ek then (e.1, d) else e) = l := fun l hl => by
        refine (List.map_congr_left fun kv hkv => ?_).trans (List.map_id l)
        rw [if_neg fun h => hl (by
          unfold valN
          rw [Option.isSome_map, List.find?_isSome]
          exact ⟨kv, hkv, decide_eq_true h⟩)]
        rfl
      rw [List.map_cons]
      by_cases a : ek = k
      · subst a
        rw [if_pos rfl]
        by_cases b : k' = ek
        · subst b
          rw [if_pos rfl]
          unfold valN
          rw [List.find?_cons, decide_eq_true rfl]
          rfl
        · have b2 : ¬ ek = k' := fun h => b h.symm
          rw [if_neg b]
          by_cases c2 : (valN es ek).isSome = true
          · have := ih c2
            rw [if_neg b] at this
            unfold valN at this ⊢
            rw [List.find?_cons, List.find?_cons]
            simp only [decide_eq_false b2]
            exact this
          · rw [um es c2]
            unfold valN
            rw [List.find?_cons, List.find?_cons]
            simp only [decide_eq_false b2]
      · rw [if_neg a]
        have c2 : (valN es k).isSome = true := by
          unfold valN at c ⊢
          rw [List.find?_cons, decide_eq_false a] at c
          exact c
        have := ih c2
        by_cases b : k' = ek
        · subst b
          rw [if_neg a]
          unfold valN
          rw [List.find?_cons, List.find?_cons, decide_eq_true rfl]
        · have b2 : ¬ ek = k' := fun h => b h.symm
          unfold valN at this ⊢
          rw [List.find?_cons, List.find?_cons]
          simp only [decide_eq_false b2]
          exact this
  · rw [if_neg c, valN_app]
    have o : ∀ k', valN [(k, d)] k' = if k' = k then some d else none := fun k' => by
      unfold valN
      by_cases b : k' = k
      · subst b; simp
      · rw [if_neg b, List.find?_cons, decide_eq_false (fun h => b h.symm)]
        rfl
    rw [o]
    by_cases b : k' = k
    · subst b
      rw [if_pos rfl, if_pos rfl]
      cases q : valN es k' with
      | none => rfl
      | some y => rw [q] at c; exact absurd rfl c
    · rw [if_neg b, if_neg b]
      cases valN es k' <;> rfl
end
section
variable {X : Cx} {B0 F : Hp} {M : Cs} {ρ κ : List Sl} {P : Sl → Cs → Prop} {o i e : Expr} {pos : Pos} {k : KK}
theorem ndic_at {K : Fg} {Pg : Program} {w : World} {σ : L2.St} {vs : List V} {H B : Hp} {a : Addr} {es : List (NestedKey × PyData)} (g : GoodB K B0 F M ρ κ σ vs H B) (h : (a, .dn (NDic Pg w a) es) ∈ M) : ∃ xs, H a = some (NDic Pg w a xs) ∧ Paired (NRel K B) xs es := by
  obtain ⟨_, _, o, ho, xs, rfl, hx⟩ := g.cells _ h
  exact ⟨xs, ho, hx⟩
theorem de_ndnew (h : ∀ p, P (.v (.ref p)) ((p, .dn (NDic X.prog X.w p) []) :: M)) : DE X B0 F M ρ κ (.Dict [] [] pos) P := fun σ vs H Q g q => tOf_of pe_ndnew fun p hp => by
  obtain ⟨B, g⟩ := g
  exact q _ _ _ _ ⟨B, (g.cell (c := .dn (NDic X.prog X.w p) []) hp ⟨[], rfl, .nil⟩).pushV⟩ (h p)
theorem nat_of {σ : L2.St} {vs : List V} {H B : Hp} {a : Addr} {es : List (NestedKey × PyData)} {xs : List (NestedKey × Addr × Value)} {y : V} {ks : List NestedKey} (g : GoodB X.K B0 F M ρ κ σ vs H B) (ho : H a = some (NDic X.prog X.w a xs)) (hx : Paired (NRel X.K B) xs es) (hd : (NestedKey.tup ks).depth ≤ 8) (hy : Rp X.K B y (NestedKey.tup ks).data) : NAt X H a y xs (.tup ks) := by
  refine ⟨ho, nr_keys (F := F) g.bh hx, hd, ?_, (hy.ext g.bh).dp⟩
  rw [NestedKey.data] at hy
  obtain ⟨p, _, rfl, _⟩ := Rp.tup_inv hy
  exact ⟨p, rfl⟩
theorem de_ndget (hu : X.A.units + 64 < cLine) (h : DE X B0 F M ρ κ o fun r1 M1 => DE X B0 F M1 ρ (r1 :: κ) i fun r2 M2 => ∃ a es ks d, r1 = .v (.ref a) ∧ (a, .dn (NDic X.prog X.w a) es) ∈ M2 ∧ r2 = .d (NestedKey.tup ks).data ∧ (NestedKey.tup ks).depth ≤ 8 ∧ valN es (.tup ks) = some d ∧ P (.d d) M2) (hs : NoSl i := by exact fun _ _ => rfl) : DE X B0 F M ρ κ (.Subscript o i pos) P :=
  fun σ vs H Q g q => tOf_of (pe_ndget hu pe_self pe_self hs) (h σ vs H _ g fun x H1 r1 M1 g1 h1 => h1 σ (x :: vs) H1 _ g1 fun y H2 r2 M2 g2 h2 => by
    obtain ⟨a, es, ks, d, rfl, hm, rfl, hd, hv, hp⟩ := h2
    have e := g2.pop.ref
    subst e
    obtain ⟨B, g2⟩ := g2
    obtain ⟨xs, ho, hx⟩ := ndic_at g2 hm
    obtain ⟨p, hp1, v, hp2, hp3⟩ := (nr_val hx).1 d hv
    exact ⟨a, xs, .tup ks, p, v, rfl, nat_of g2 ho hx hd g2.fst, hp1, hp2, q _ H2 _ M2 ⟨B, g2.pop.pop.pushD hp3⟩ hp⟩)
theorem de_ndin (hu : X.A.units + 64 < cLine) (h : DE X B0 F M ρ κ i fun r1 M1 => DE X B0 F M1 ρ (r1 :: κ) o fun r2 M2 => ∃ a es ks, r2 = .v (.ref a) ∧ (a, .dn (NDic X.prog X.w a) es) ∈ M2 ∧ r1 = .d (NestedKey.tup ks).data ∧ (NestedKey.tup ks).depth ≤ 8 ∧ P (.d (.bool (valN es (.tup ks)).isSome)) M2) (hb : behindInMarks .In o = false := by rfl) : DE X B0 F M ρ κ (.Compare i [.In] [o] pos) P :=
  fun σ vs H Q g q => tOf_of (pe_cmp (pc_ndin hu pe_self pe_self) hb) (h σ vs H _ g fun x H1 r1 M1 g1 h1 => h1 σ (x :: vs) H1 _ g1 fun y H2 r2 M2 g2 h2 => by
    obtain ⟨a, es, ks, rfl, hm, rfl, hd, hp⟩ := h2
    have e := g2.ref
    subst e
    obtain ⟨B, g2⟩ := g2
    obtain ⟨xs, ho, hx⟩ := ndic_at g2 hm
    exact ⟨a, xs, .tup ks, rfl, nat_of g2 ho hx hd g2.pop.fst, q _ H2 _ M2 ⟨B, g2.pop.pop.pushD (by rw [nr_some hx]; exact .bl _)⟩ hp⟩)
theorem dt_ndnin {PT : Bool → Cs → Prop} (hu : X.A.units + 64 < cLine) (h : DE X B0 F M ρ κ i fun r1 M1 => DE X B0 F M1 ρ (r1 :: κ) o fun r2 M2 => ∃ a es ks, r2 = .v (.ref a) ∧ (a, .dn (NDic X.prog X.w a) es) ∈ M2 ∧ r1 = .d (NestedKey.tup ks).data ∧ (NestedKey.tup ks).depth ≤ 8 ∧ PT (!(valN es (.tup ks)).isSome) M2) (hb : behindInMarks .NotIn o = false := by rfl) : DT X B0 F M ρ κ (.Compare i [.NotIn] [o] pos) PT :=
  fun σ vs H Q g q => tOfT_of (pt_cmp (pc_ndnin hu pe_self pe_self) hb) (h σ vs H _ g fun x H1 r1 M1 g1 h1 => h1 σ (x :: vs) H1 _ g1 fun y H2 r2 M2 g2 h2 => by
    obtain ⟨a, es, ks, rfl, hm, rfl, hd, hp⟩ := h2
    have e := g2.ref
    subst e
    obtain ⟨B, g2⟩ := g2
    obtain ⟨xs, ho, hx⟩ := ndic_at g2 hm
    exact ⟨a, xs, .tup ks, rfl, nat_of g2 ho hx hd g2.pop.fst, _, rfl, by rw [nr_some hx]; exact q _ H2 M2 ⟨B, g2.pop.pop⟩ hp⟩)
theorem dt_ndin {PT : Bool → Cs → Prop} (hu : X.A.units + 64 < cLine) (h : DE X B0 F M ρ κ i fun r1 M1 => DE X B0 F M1 ρ (r1 :: κ) o fun r2 M2 => ∃ a es ks, r2 = .v (.ref a) ∧ (a, .dn (NDic X.prog X.w a) es) ∈ M2 ∧ r1 = .d (NestedKey.tup ks).data ∧ (NestedKey.tup ks).depth ≤ 8 ∧ PT (valN es (.tup ks)).isSome M2) (hb : behindInMarks .In o = false := by rfl) : DT X B0 F M ρ κ (.Compare i [.In] [o] pos) PT :=
  fun σ vs H Q g q => tOfT_of (pt_cmp (pc_ndin hu pe_self pe_self) hb) (h σ vs H _ g fun x H1 r1 M1 g1 h1 => h1 σ (x :: vs) H1 _ g1 fun y H2 r2 M2 g2 h2 => by
    obtain ⟨a, es, ks, rfl, hm, rfl, hd, hp⟩ := h2
    have e := g2.ref
    subst e
    obtain ⟨B, g2⟩ := g2
    obtain ⟨xs, ho, hx⟩ := ndic_at g2 hm
    exact ⟨a, xs, .tup ks, rfl, nat_of g2 ho hx hd g2.pop.fst, _, rfl, by rw [nr_some hx]; exact q _ H2 M2 ⟨B, g2.pop.pop⟩ hp⟩)
/-- the statement d[k] = e -/
theorem ds_ndput (n : Nat) (hu : X.A.units + 64 < cLine) {v : Expr} {pos' : Pos} (h : DE X B0 F M ρ κ v fun r M0 => DE X B0 F M0 ρ (r :: κ) o fun r1 M1 => DE X B0 F M1 ρ (r1 :: r :: κ) i fun r2 M2 => ∃ a es y ks, r1 = .v (.ref a) ∧ r2 = .d (NestedKey.tup ks).data ∧ (NestedKey.tup ks).depth ≤ 8 ∧ r = .d y ∧ M2[n]? = some (a, .dn (NDic X.prog X.w a) es) ∧ es.length ≤ 100000 ∧ k.nx (M2.set n (a, .dn (NDic X.prog X.w a) (putN es (.tup ks) y))) ρ)
    (hs : swapsWith v (some (.Subscript o i pos')) pos.line X.env = pure false := by rfl) : DS X B0 F M ρ κ (.Assign [.Subscript o i pos'] v pos) k := fun σ vs H D g c => tOfS_of (ps_ndput hu pe_self pe_self pe_self hs) (by
    refine h σ vs H _ g fun v0 H0 r0 M0 g0 h0 => h0 σ (v0 :: vs) H0 _ g0 fun v1 H1 r1 M1 g1 h1 => h1 σ (v1 :: v0 :: vs) H1 _ g1 fun v2 H2 r2 M2 g2 h2 => ?_
    obtain ⟨a, es, y, ks, rfl, rfl, hd, rfl, hn, hl, hp⟩ := h2
    have e := g2.pop.ref
    subst e
    obtain ⟨B, g2⟩ := g2
    obtain ⟨xs, ho, hx⟩ := ndic_at g2 (List.mem_of_getElem? hn)
    refine ⟨a, xs, .tup ks, rfl, nat_of g2 ho hx hd g2.fst, by rw [nr_len hx]; exact hl, fun p u ep ru => c.nx _ _ _ _ ⟨B, g2.pop.pop.pop.write (c' := .dn (NDic X.prog X.w a) (putN es (.tup ks) y)) hn ⟨_, rfl, nr_put hd ?_ ru g2.pop.pop.fst hx⟩⟩ hp⟩
    rw [← ep]
    exact g2.fst)
end
end DL
set_option maxHeartbeats 4000000
/-! t[::-1], t.index(i), sum(t), max(xs), min(xs), t * n -/
namespace DLV
open PySem PySem.Spec PyProof.Rows L2 HT
section
variable {prog : Program} {w : World} {A : Around} {E : Value → Shared → Prop} {s : Shared}
theorem applied_rev {sl : Addr} {t : Tok} {n : Nat} {Q : Int × Int × Nat → Shared → Prop} (hs : s.heap.IsSliceOf sl .none .none (.int (-1) t))
    (h : Q ((n : Int) - 1, -1, n) s) : wpAny (model prog w) A (Builtin.Slice.sliceApplied (.ref sl) (pure (n : Int))) Q E s := by
  obtain ⟨os, hos, hcs, hds⟩ := id hs
  unfold Builtin.Slice.sliceApplied Builtin.Slice.sliceFields
  refine wpAny_bind (wpAny_bind (wpAny_field hos hds (x := .none) rfl (wpAny_bind (wpAny_field hos hds (x := .none) rfl (wpAny_bind (wpAny_field hos hds (x := .int (-1) t) rfl (wpAny_pure ?_)))))))
  refine wpAny_bind (slicePart_int ?_)
  show wpAny _ _ (if ((-1 : Int) == 0) = true then _ else _) _ _ s
  rw [if_neg (by decide)]
  refine wpAny_bind (slicePart_none (wpAny_bind (slicePart_none (wpAny_bind (wpAny_pure ?_)))))
  show wpAny _ _ (pure ((n : Int) - 1, (-1 : Int), Builtin.Slice.slicePlaces ((n : Int) - 1) (-1) (-1))) _ _ s
  have e : Builtin.Slice.slicePlaces ((n : Int) - 1) (-1) (-1) = n := by
    unfold Builtin.Slice.slicePlaces
    have h1 : ¬ ((-1 : Int) > 0) := by omega
    simp only [h1, if_false, Int.neg_neg, Int.ediv_one]
    split <;> omega
  rw [e]
  exact wpAny_pure h
theorem fm_congr {α β : Type} {f g : α → Option β} : ∀ {l : List α}, (∀ x ∈ l, f x = g x) → l.filterMap f = l.filterMap g
  | [], _ => rfl
  | x :: l, h => by rw [List.filterMap_cons, List.filterMap_cons, h x List.mem_cons_self, fm_congr fun y hy => h y (List.mem_cons_of_mem _ hy)]
theorem paired_rev {α β : Type} {R : α → β → Prop} : ∀ {l : List α} {m : List β}, Paired R l m → Paired R l.reverse m.reverse
  | _, _, .nil => .nil
  | _, _, .cons h t => by
    rw [List.reverse_cons, List.reverse_cons]
    exact DL.Paired.app (paired_rev t) (.cons h .nil)
theorem pick_rev (xs : Array Value) : ((List.range xs.size).filterMap fun (m : Nat) => xs[(((xs.size : Int) - 1) + (m : Int) * -1).toNat]?).toArray = xs.toList.reverse.toArray := by
  have e : ((List.range xs.size).filterMap fun (m : Nat) => xs[(((xs.size : Int) - 1) + (m : Int) * -1).toNat]?) = ((List.range xs.size).map fun k => xs.size - 1 - k).filterMap (xs[·]?) := by
    rw [List.filterMap_map]
    refine fm_congr fun m hm => ?_
    have := List.mem_range.mp hm
    show _ = xs[xs.size - 1 - m]?
    rw [show (((xs.size : Int) - 1) + (m : Int) * -1).toNat = xs.size - 1 - m by omega]
  rw [e, PySem.W.krv_range, List.filterMap_reverse, PySem.W.krv_all]
theorem getItem_rev {t sl : Addr} {items : Array Value} {tk : Tok} {Q : Value → Shared → Prop} (ht : IsTup s.heap t items) (hs : s.heap.IsSliceOf sl .none .none (.int (-1) tk))
    (h : Q (.ref s.heap.objs.size) { s with heap := s.heap.push { cls := .type "tuple", data := .seq items.toList.reverse.toArray } }) (hsz : items.size ≤ sizeLine) : wpAny (model prog w) A (getItem (.ref t) (.ref sl)) Q E s := by
  have htake : sizeOk (.seq items.toList.reverse.toArray) := by
    show items.toList.reverse.toArray.size ≤ sizeLine
    rw [List.size_toArray, List.length_reverse, Array.length_toList]
    exact hsz
  obtain ⟨os, hos, hcs, hds⟩ := id hs
  have hTs : s.TypeIs (.ref sl) "slice" := ⟨os, hos, hcs⟩
  unfold getItem
  try with_reducible refine wpAny_holding ?_
  first | refine wpAny_bind (wpAny_pure ?_) | skip
  refine wpAny_bind (wpAny_sequenceKey ht.typeIs (by decide) ?_)
  refine wpAny_bind (wpAny_callSpecial?_slot (name := Str.ofString "__getitem__") ht.typeIs PyProof.Rows.slot_tuple_getitem
    (wpAny_call_entry PyProof.Rows.slot_tuple_getitem ht.typeIs entry_tuple_getitem ?_ (args_tuple_getitem _ _)))
  show wpAny _ _ (Builtin.Tuple.tupleItemsOf (.ref t) >>= _) _ _ s
  refine wpAny_bind (tupleItemsOf_ ht ?_)
  refine wpAny_bind (wpAny_typeOf hTs ?_)
  rw [if_pos (by decide)]
  refine wpAny_bind (applied_rev hs ?_)
  have hno : ¬ ((((items.size : Int) - 1) == 0 && (-1 : Int) == 1 && items.size == items.size) = true) := by simp
  show wpAny _ _ (if (((items.size : Int) - 1) == 0 && (-1 : Int) == 1 && items.size == items.size) = true then _ else _) _ _ s
  rw [if_neg hno, pick_rev]
  first
    | exact wpAny_bind (m := Builtin.Tuple.tupleExact _) (wpAny_newObj_type (wpAny_pure ⟨_, rfl, wpAny_pure h⟩) htake)
    | exact wpAny_bind (m := Builtin.Tuple.tupleExact _) (wpAny_newObj_type (wpAny_bind (wpAny_pure (wpAny_pure ⟨_, rfl, wpAny_pure h⟩))) htake)
    | exact wpAny_bind (wpAny_bind (m := Builtin.Tuple.tupleExact _) (wpAny_newObj_type (wpAny_pure (wpAny_pure ⟨_, rfl, wpAny_pure h⟩)) htake))
    | exact wpAny_bind (wpAny_bind (m := Builtin.Tuple.tupleExact _) (wpAny_newObj_type (wpAny_pure ⟨_, rfl, wpAny_pure h⟩) htake))
end
section
variable {X : Cx} {e st : Expr} {te : TE} {ts : TO} {p2 pos : Pos}
/-- t[::-1] -/
theorem pe_revT (he : PE X e te) (hst : PO X (some st) ts) : PE X (.Subscript e (.Slice none none (some st) p2) pos) (fun σ H Q => te σ H fun x H1 => ts σ H1 fun o H2 => o = some (-1) ∧ ∃ a xs, x = .ref a ∧ SqT X.K H2 a xs ∧ ∀ p, H2 p = none → Q (.ref p) (upd H2 p (.tup xs.reverse))) := by
  refine ⟨fun pins s σ H Q I h => ?_⟩
  refine Subscript_ (thn (he.run pins s σ H _ I h) fun v s1 ⟨x, H1, I1, r1, q1⟩ => ?_)
  refine wpAny_Slice ?_
  rw [evalPart_none]
  refine wpAny_pure (wpAny_pure (thn (hst.run pins s1 σ H1 _ I1 q1) fun vk s3 ⟨o, H3, I3, pk, ho, a, xs, ex, hx, q3⟩ => ?_))
  subst ho ex
  cases r1
  cases pk with
  | int _ t =>
    have I4 : Inv X pins σ H3 { s3 with heap := s3.heap.push { cls := .type "slice", data := .fields #[.none, .none, .int (-1) t] } } := I3.kept (t' := s3.toks) fun b ob q => Heap.get?_push_of_some _ q
    obtain ⟨its, r, ht, hz⟩ := I4.tuple hx
    show wpAny (model X.prog X.w) X.A (subscriptTail e (.Slice none none (some st) p2) (.ref a) (.ref s3.heap.objs.size)) (EP X pins σ Q) X.xe { s3 with heap := s3.heap.push { cls := .type "slice", data := .fields #[.none, .none, .int (-1) t] } }
    refine tail_any (ops := [.ref a, .ref s3.heap.objs.size]) ht.typeIs PyProof.Rows.slot_tuple_getitem.lookup ?_ (by with_unfolding_all rfl)
    refine getItem_rev (s := { s3 with heap := s3.heap.push { cls := .type "slice", data := .fields #[.none, .none, .int (-1) t] } }) ht (Heap.IsSliceOf.new ..) ?_ (by rw [List.size_toArray, ← r.length]; exact hz)
    refine ⟨.ref _, _, I4.laid (o := .tup xs.reverse) (fun b ob q => Heap.get?_push_of_some _ q) (Nat.le_refl _) ?_, rfl, q3 _ (I4.hok.fresh (Nat.le_refl _))⟩
    exact ⟨by rw [List.length_reverse]; exact hz, its.reverse, paired_rev r, IsTup.new _ _⟩
end
end DLV
set_option maxHeartbeats 4000000
/-! instances -/
namespace DL
open PySem PySem.Spec PyProof.Rows L2
section
variable {X : Cx} {B0 F B H1 : Hp} {M M1 : Cs} {ρ κ rs : List Sl} {σ : L2.St} {vs ws : List V} {P : Sl → Cs → Prop} {Q : VK} {E : XK} {Rf : List Sl → Cs → (Sl → Cs → Prop) → Prop}
/-- a def's promise asked for: it may change the first n cells -/
theorem sp_M (g2 : GoodB X.K B0 F M1 ρ κ σ vs H1 B) (k1 : KOk X.K F B ws rs) (n : Nat) (hR : Rf rs (M1.take n) fun r M2 => NoRd r ∧ P r (M2 ++ M1.drop n))
    (q : ∀ v H' r M', Good X.K B0 F M' ρ (r :: κ) σ (v :: vs) H' → P r M' → Q v H') : SpG X.K Rf ws H1 Q E := by
  have g1 := g2
  have g2 : GoodB X.K B0 F (M1.take n ++ M1.drop n) ρ κ σ vs H1 B := by rw [List.take_append_drop]; exact g2
  have sF : Same F (without H1 ((M1.take n).map (·.1))) := fun a o e => by
    rw [without_out]
    · exact g1.fh a o e
    · intro z
      obtain ⟨c, hc, rfl⟩ := List.mem_map.mp z
      rw [(g1.cells c (List.mem_of_mem_take hc)).f] at e
      cases e
  refine ⟨B, without H1 ((M1.take n).map (·.1)), M1.take n, rs, _, ⟨B, Same.refl _, g1.bh, fun a o e => (without_some e).2, fun a ha => .inl ha, fun c hc => ?_, ?_, .nil, Paired.mapP k1 fun _ _ z => z.extF sF⟩, ?_, hR, fun v H' r M' g' hW => ?_⟩
  · obtain ⟨h1, h2, u, h3, h4⟩ := g1.cells c (List.mem_of_mem_take hc)
    exact ⟨h1, without_in (List.mem_map.mpr ⟨c, hc, rfl⟩), u, h3, h4⟩
  · rw [List.map_take]
    exact g1.nd.sublist (List.take_sublist _ _)
  · rintro r M ⟨hn, _⟩
    exact hn
  · exact q v H' r _ (good_afterM g2 hW.1 g') hW.2
/-- .. all cells behind the first j -/
theorem sp_J (g2 : GoodB X.K B0 F M1 ρ κ σ vs H1 B) (k1 : KOk X.K F B ws rs) (j : Nat) (hR : Rf rs (M1.drop j) fun r M2 => NoRd r ∧ P r (M1.take j ++ M2))
    (q : ∀ v H' r M', Good X.K B0 F M' ρ (r :: κ) σ (v :: vs) H' → P r M' → Q v H') : SpG X.K Rf ws H1 Q E := by
  have pm : M1.Perm (M1.drop j ++ M1.take j) := by
    have h1 : M1 = M1.take j ++ M1.drop j := (List.take_append_drop j M1).symm
    exact (List.Perm.of_eq h1).trans List.perm_append_comm
  have g3 : GoodB X.K B0 F (M1.drop j ++ M1.take j) ρ κ σ vs H1 B := ⟨g2.b0, g2.bh, g2.fh, g2.new, fun c hc => g2.cells c (pm.mem_iff.mpr hc), (pm.map _).nodup_iff.mp g2.nd, g2.sl, g2.st⟩
  have e1 : (M1.drop j ++ M1.take j).take (M1.drop j).length = M1.drop j := List.take_left' rfl
  have e2 : (M1.drop j ++ M1.take j).drop (M1.drop j).length = M1.take j := List.drop_left' rfl
  refine sp_M (P := fun r M' => ∃ M2, M' = M2 ++ M1.take j ∧ P r (M1.take j ++ M2)) g3 k1 (M1.drop j).length ?_ ?_
  · rw [e1, e2]
    have mono : ∀ r M2, (NoRd r ∧ P r (M1.take j ++ M2)) = (NoRd r ∧ ∃ M3, M2 ++ M1.take j = M3 ++ M1.take j ∧ P r (M1.take j ++ M3)) := fun r M2 => propext ⟨fun ⟨h1, h2⟩ => ⟨h1, M2, rfl, h2⟩, fun ⟨h1, M3, h2, h3⟩ => ⟨h1, by rw [List.append_cancel_right h2]; exact h3⟩⟩
    have e3 : (fun r M2 => NoRd r ∧ P r (M1.take j ++ M2)) = fun r M2 => NoRd r ∧ ∃ M3, M2 ++ M1.take j = M3 ++ M1.take j ∧ P r (M1.take j ++ M3) := funext fun r => funext fun M2 => mono r M2
    rw [← e3]
    exact hR
  · rintro v H' r M' g' ⟨M2, rfl, hp⟩
    exact q v H' r _ (g'.perm List.perm_append_comm) hp
end
section
variable {X : Cx} {B0 F : Hp} {M : Cs} {ρ κ : List Sl} {P : Sl → Cs → Prop} {o e value : Expr} {es : List Expr} {p pos pos' apos : Pos} {x m f : Str} {lv : Nat} {ps : List Str} {k : KK}
theorem ins_at {K : Fg} {σ : L2.St} {vs : List V} {H B : Hp} {a C : Addr} {fs : List (Str × Sl)} (g : GoodB K B0 F M ρ κ σ vs H B) (h : (a, .ins C fs) ∈ M) : ∃ dx us, H a = some (.ins C dx us) ∧ Paired (fun (p : Str × V) (q : Str × Sl) => p.1 = q.1 ∧ FOk K B p.2 q.2) us fs := by
  obtain ⟨_, _, o, ho, dx, us, rfl, hx⟩ := g.cells _ h
  exact ⟨dx, us, ho, hx⟩
theorem fs_lookup {K : Fg} {B : Hp} {f : Str} : ∀ {us : List (Str × V)} {fs : List (Str × Sl)}, Paired (fun (p : Str × V) (q : Str × Sl) => p.1 = q.1 ∧ FOk K B p.2 q.2) us fs → (∀ s, fs.lookup f = some s → ∃ v, us.lookup f = some v ∧ FOk K B v s) ∧ (fs.lookup f = none → us.lookup f = none)
  | _, _, .nil => ⟨(fun s h => by cases h), fun _ => rfl⟩
  | (u, v) :: us, (g, s) :: fs, .cons h t => by
    obtain ⟨ih1, ih2⟩ := fs_lookup (f := f) t
    obtain ⟨h1, h2⟩ := h
    have h1 : u = g := h1
    subst h1
    rw [List.lookup_cons, List.lookup_cons]
    cases f == u with
    | true => exact ⟨(fun s' hs => ⟨v, rfl, by cases Option.some.inj hs; exact h2⟩), fun h => by cases h⟩
    | false => exact ⟨ih1, ih2⟩
def putS (f : Str) (s : Sl) : List (Str × Sl) → List (Str × Sl)
  | [] => [(f, s)]
  | (g, x) :: r => if g = f then (g, s) :: r else (g, x) :: putS f s r
theorem fs_put {K : Fg} {B : Hp} {f : Str} {v : V} {s : Sl} (hv : FOk K B v s) : ∀ {us : List (Str × V)} {fs : List (Str × Sl)}, Paired (fun (p : Str × V) (q : Str × Sl) => p.1 = q.1 ∧ FOk K B p.2 q.2) us fs → Paired (fun (p : Str × V) (q : Str × Sl) => p.1 = q.1 ∧ FOk K B p.2 q.2) (putF f v us) (putS f s fs)
  | _, _, .nil => .cons ⟨rfl, hv⟩ .nil
  | (u, w) :: us, (g, t) :: fs, .cons h r => by
    have h1 : u = g := h.1
    subst h1
    unfold putF putS
    by_cases c : u = f
    · rw [if_pos c, if_pos c]; exact .cons ⟨rfl, hv⟩ r
    · rw [if_neg c, if_neg c]; exact .cons h (fs_put hv r)
/-- e.f -/
theorem de_fld (h : DE X B0 F M ρ κ e fun r M1 => ∃ a C fs s, r = .v (.ref a) ∧ (a, .ins C fs) ∈ M1 ∧ Cls X.K C ∧ NoAttr X.K C f ∧ fs.lookup f = some s ∧ P s M1) (hb : attributeBase e f X.env (eval e X.env) = eval e X.env := by rfl) : DE X B0 F M ρ κ (.Attribute e f pos) P := fun σ vs H Q g q =>
  tOf_of (pe_fld pe_self hb) (h σ vs H _ g fun v H1 r M1 g1 h1 => by
    obtain ⟨a, C, fs, s, rfl, hm, hc, hn, hs, hp⟩ := h1
    have e := g1.ref
    subst e
    obtain ⟨B, g1⟩ := g1
    obtain ⟨dx, us, ho, hu⟩ := ins_at g1 hm
    obtain ⟨v, hv, hf⟩ := (fs_lookup hu).1 s hs
    refine ⟨a, C, dx, us, v, rfl, ho, hc, hn, hv, q v H1 s M1 ⟨B, ?_⟩ hp⟩
    cases s with
    | d y => exact g1.pop.push hf
    | v y => exact g1.pop.push hf
    | un => exact hf.elim
    | rd ys => exact hf.elim
    | n y => exact hf.elim)
/-- o.f = value, o at place n -/
theorem ds_fld (n : Nat) (h : DE X B0 F M ρ κ value fun r M1 => DE X B0 F M1 ρ (r :: κ) o fun r1 M2 => ∃ a C fs, r1 = .v (.ref a) ∧ M2[n]? = some (a, .ins C fs) ∧ Cls X.K C ∧ NoAttr X.K C f ∧ fs.length < 1000 ∧ (∃ y, r = .d y ∨ ∃ w, r = .v w) ∧ k.nx (M2.set n (a, .ins C (putS f r fs))) ρ)
    (hs : swapsWith value (some (.Attribute o f pos')) pos.line X.env = pure false := by rfl) : DS X B0 F M ρ κ (.Assign [.Attribute o f pos'] value pos) k := fun σ vs H D g c =>
  tOfS_of (ps_fld pe_self pe_self hs) (h σ vs H _ g fun v H1 r M1 g1 h1 => h1 σ (v :: vs) H1 _ g1 fun v2 H2 r1 M2 g2 h2 => by
    obtain ⟨a, C, fs, rfl, hn, hc, hno, hl, hr, hp⟩ := h2
    have e := g2.ref
    subst e
    obtain ⟨B, g2⟩ := g2
    obtain ⟨dx, us, ho, hu⟩ := ins_at g2 (List.mem_of_getElem? hn)
    have hv : FOk X.K B v r := by
      have := g2.pop.fst
      obtain ⟨y, rfl | ⟨w, rfl⟩⟩ := hr
      · exact this
      · exact this
    exact ⟨a, C, dx, us, rfl, ho, hc, hno, by rw [Paired.length hu]; exact hl, c.nx _ _ _ _ ⟨B, g2.pop.pop.write (c' := .ins C (putS f r fs)) hn ⟨dx, _, rfl, fs_put hv hu⟩⟩ hp⟩)
/-- o.m(e, ..): a method that may change all cells behind the first j -/
theorem de_methJ (j : Nat) {C f : Addr} {fd : FuncData} {Rf : List Sl → Cs → (Sl → Cs → Prop) → Prop} {pl : Sem Bool} (c : Cls X.K C) (hm : Meth X.K C m f) (Fo : FnOk X.prog X.w X.K X.mg X.base CX0 lv f fd ps (SpG X.K Rf)) (hr : Room lv X.A) (hb : Binds X.K fd ps [])
    (h : DE X B0 F M ρ κ o fun r1 M1 => ∃ a fs, r1 = .v (.ref a) ∧ (a, .ins C fs) ∈ M1 ∧ fs.lookup m = none ∧ DA X B0 F M1 ρ (r1 :: κ) (e :: es) fun rs M2 => Rf (r1 :: rs) (M2.drop j) fun r M3 => NoRd r ∧ P r (M2.take j ++ M3))
    (hst : starEach (e :: es) X.env = (false, eval e X.env) :: starEach es X.env := by rfl) (hpl : (backTo pos (starEach es X.env)).any (·.1) = false := by rfl)
    (ht : eval (.Call (.Attribute o m apos) (e :: es) [] pos) X.env = (do
      let ov ← eval o X.env
      standAt apos.atName
      let (f, first) ← holding [ov] (getMethod ov m pl)
      callWith pos f first (backTo pos (starEach (e :: es) X.env)) (backToKw pos (keywordEach [] X.env))) := by rfl) : DE X B0 F M ρ κ (.Call (.Attribute o m apos) (e :: es) [] pos) P := fun σ vs H Q g q => by
  refine tOf_of (pe_meth (E := E0) pe_self c hm Fo hr hb .nil pass0 pa_self hst hpl ht) (h σ vs H _ g fun v H1 r1 M1 g1 h1 => ?_)
  obtain ⟨a, fs, rfl, hma, hlk, h1⟩ := h1
  have ev := g1.ref
  subst ev
  obtain ⟨B, g1b⟩ := id g1
  obtain ⟨dx, us, ho, hu⟩ := ins_at g1b hma
  refine ⟨a, dx, us, rfl, ho, (fs_lookup hu).2 hlk, h1 σ (.ref a :: vs) H1 _ g1 fun ws H2 rs M2 hl g2 hR => ?_⟩
  rw [List.append_nil]
  obtain ⟨B2, g2⟩ := g2
  obtain ⟨k1, k2⟩ := kok_split hl g2.st
  have g3 := g2.stk k2
  exact sp_J g3.pop (.cons g3.fst k1) j hR q
/-- C(e, ..): a new instance; __init__ may change it and the first n cells -/
theorem de_makeM (n : Nat) {C f : Addr} {fd : FuncData} {Rf : List Sl → Cs → (Sl → Cs → Prop) → Prop} (Mk0 : Mk X.K C f) (Fo : FnOk X.prog X.w X.K X.mg X.base CX0 lv f fd ps (SpG X.K Rf)) (hr : Room (lv + 1) X.A) (hm : X.mg x = some (.ref C)) (hb : Binds X.K fd ps [])
    (h : DA X B0 F M ρ κ (e :: es) fun rs M1 => ∀ a, Rf (.v (.ref a) :: rs) ((a, .ins C []) :: M1.take n) fun r M2 => r = .d .none ∧ P (.v (.ref a)) (M2 ++ M1.drop n)) (hg : Gl X x := by rfl)
    (hdb : (x == ("__debug__" : Str)) = false := by decide) (he : starEach (e :: es) X.env = (false, eval e X.env) :: starEach es X.env := by rfl) (hpl : (backTo pos (starEach es X.env)).any (·.1) = false := by rfl) : DE X B0 F M ρ κ (.Call (.Name x p) (e :: es) [] pos) P := fun σ vs H Q g q => by
  refine tOf_of (pe_make (E := E0) Mk0 Fo hr hg hm hb .nil pass0 pa_self hdb he hpl) (h σ vs H _ g fun ws H1 rs M1 hl g1 hR => fun a dx ha hdx hne => ?_)
  rw [List.append_nil]
  obtain ⟨B, g1⟩ := g1
  have g2 := g1.cell (p := dx) (o := .own a) (c := .raw (.own a)) hdx rfl
  have hx : upd H1 dx (.own a) a = none := by rw [upd_ne (fun e => hne e.symm)]; exact ha
  have g3 : GoodB X.K B0 F M1 ρ (rs ++ κ) σ (ws ++ vs) (upd H1 dx (.own a)) B := ⟨g2.b0, g2.bh, g2.fh, g2.new, fun c hc => g2.cells c (List.mem_cons_of_mem _ hc), (List.nodup_cons.mp g2.nd).2, g2.sl, g2.st⟩
  have g4 := g3.cell (p := a) (o := .ins C dx []) (c := .ins C []) hx ⟨dx, [], rfl, .nil⟩
  obtain ⟨k1, k2⟩ := kok_split hl g4.st
  have k0 : KOk X.K F B (.ref a :: ws) (.v (.ref a) :: rs) := .cons (show VOk X.K F B (.ref a) (.v (.ref a)) from rfl) k1
  refine sp_M (P := fun r M' => r = .d .none ∧ P (.v (.ref a)) M') (g4.stk k2) k0 (n + 1) ?_ ?_
  · have e1 : (fun r M2 => r = Sl.d .none ∧ P (.v (.ref a)) (M2 ++ M1.drop n)) = fun r M2 => NoRd r ∧ r = Sl.d .none ∧ P (.v (.ref a)) (M2 ++ ((a, MC.ins C []) :: M1).drop (n + 1)) := funext fun r => funext fun M2 => propext ⟨fun ⟨h1, h2⟩ => ⟨by rw [h1]; trivial, h1, h2⟩, fun ⟨_, h1, h2⟩ => ⟨h1, h2⟩⟩
    show Rf _ ((a, MC.ins C []) :: M1.take n) _
    rw [← e1]
    exact hR a
  · rintro v H' r M' g' ⟨rfl, hp⟩
    obtain ⟨B', g'⟩ := g'
    have hv : v = .non := by
      have := g'.fst
      cases this
      rfl
    exact ⟨hv, q (.ref a) H' _ M' ⟨B', g'.pop.pushV⟩ hp⟩
end
end DL
set_option maxHeartbeats 4000000
namespace DL
open PySem PySem.Spec PyProof.Rows L2
/-! ### the kinds of data -/
def isTup : PyData → Bool
  | .tuple _ => true
  | _ => false
def isLst : PyData → Bool
  | .list _ => true
  | _ => false
def isBool : PyData → Bool
  | .bool _ => true
  | _ => false
def isInt : PyData → Bool
  | .bool _ => true
  | .int _ => true
  | _ => false
def isStr : PyData → Bool
  | .str _ => true
  | _ => false
theorem kTup (K : Fg) (d : PyData) : PySem.W.kitOne K (tyD d) (.type "tuple") = some (isTup d) := by cases d <;> kernel_rfl
theorem kLst (K : Fg) (d : PyData) : PySem.W.kitOne K (tyD d) (.type "list") = some (isLst d) := by cases d <;> kernel_rfl
theorem kBool (K : Fg) (d : PyData) : PySem.W.kitOne K (tyD d) (.type "bool") = some (isBool d) := by cases d <;> kernel_rfl
theorem kInt (K : Fg) (d : PyData) : PySem.W.kitOne K (tyD d) (.type "int") = some (isInt d) := by cases d <;> kernel_rfl
theorem kStr (K : Fg) (d : PyData) : PySem.W.kitOne K (tyD d) (.type "str") = some (isStr d) := by cases d <;> kernel_rfl
theorem bt_bool : bootBuiltins "bool" = some (.type "bool") := by decide +kernel
theorem bt_str : bootBuiltins "str" = some (.type "str") := by decide +kernel
section
variable {X : Cx} {B0 F : Hp} {M : Cs} {ρ κ : List Sl} {P : Sl → Cs → Prop} {e : Expr} {p p2 pos : Pos}
theorem de_isi {T : String} {x : Str} (hv : bootBuiltins x = some (.type T)) (gi : X.mg "isinstance" = none) (gx : X.mg x = none) (h : DE X B0 F M ρ κ e fun r M1 => ∃ d b, r = .d d ∧ PySem.W.kitOne X.K (tyD d) (.type T) = some b ∧ P (.d (.bool b)) M1)
    (hg : Gl X "isinstance" := by rfl) (hg2 : Gl X x := by rfl) (hn : x ≠ "__name__" := by decide) (hdb : (x == ("__debug__" : Str)) = false := by decide)
    (hs : starEach [e, .Name x p2] X.env = (false, eval e X.env) :: starEach [.Name x p2] X.env := by rfl) (hs2 : starEach [.Name x p2] X.env = (false, eval (.Name x p2) X.env) :: starEach [] X.env := by rfl) (hpl : (backTo pos (starEach [.Name x p2] X.env)).any (·.1) = false := by rfl) : DE X B0 F M ρ κ (.Call (.Name "isinstance" p) [e, .Name x p2] [] pos) P :=
  de_callB call_isi gi bt_isi (da_cons (fun σ vs H Q g q => h σ vs H Q g fun v H' r M' g' ⟨d, b, hr, hk, hp⟩ => q v H' r M' g' (hr ▸ da_cons (de_ty gx hv (da_nil (rn_isi hk hp)) hg2 hn hdb) hs2)) hs) hg (he := hs) (hpl := hpl)
end
end DL
namespace DL
open PySem PySem.Spec PyProof.Rows L2
section
variable {X : Cx} {B0 F : Hp} {M : Cs} {ρ κ : List Sl} {P : Sl → Cs → Prop} {e : Expr} {es : List Expr} {p pos : Pos} {x : Str} {lv : Nat} {ps : List Str}
/-- a def called that may change all cells behind the first j -/
theorem de_goJ (j : Nat) {R : List Sl → Cs → (Sl → Cs → Prop) → Prop} (G : Go X.prog X.w X.K X.mg X.base x lv ps R) (hr : Room lv X.A)
    (h : DA X B0 F M ρ κ (e :: es) fun rs M1 => R rs (M1.drop j) fun r M2 => NoRd r ∧ P r (M1.take j ++ M2)) (hg : Gl X x := by rfl) (hdb : (x == ("__debug__" : Str)) = false := by decide)
    (he : starEach (e :: es) X.env = (false, eval e X.env) :: starEach es X.env := by rfl) (hpl : (backTo pos (starEach es X.env)).any (·.1) = false := by rfl) : DE X B0 F M ρ κ (.Call (.Name x p) (e :: es) [] pos) P := by
  obtain ⟨f, fd, hm, hk, hb, Fo⟩ := G
  exact de_callJ j Fo hr hm hk hb h hg hdb he hpl
end
end DL
namespace DL
open PySem PySem.Spec PyProof.Rows L2
theorem valD_app (es fs : List (Key × PyData)) (k : Key) : valD (es ++ fs) k = (valD es k).or (valD fs k) := by
  unfold valD
  rw [List.find?_append]
  cases es.find? fun kv => decide (kv.1 = k) <;> rfl
theorem valD_one (k k' : Key) (v : PyData) : valD [(k, v)] k' = if k' = k then some v else none := by
  unfold valD
  by_cases c : k' = k
  · subst c; simp
  · rw [if_neg c]
    have : ¬ k = k' := fun h => c h.symm
    simp [this]
theorem valD_none {es : List (Key × PyData)} {k : Key} (h : ¬ (es.any fun kv => decide (kv.1 = k)) = true) : valD es k = none := by
  unfold valD
  rw [List.find?_eq_none.mpr fun kv hkv => ?_]
  · rfl
  · intro hc
    exact h (List.any_eq_true.mpr ⟨kv, hkv, hc⟩)
theorem valD_put (es : List (Key × PyData)) (k k' : Key) (v : PyData) : valD (putD es k v) k' = if k' = k then some v else valD es k' := by
  unfold putD
  by_cases c : (es.any fun kv => decide (kv.1 = k)) = true
  · rw [if_pos c]
    induction es with
    | nil => cases c
    | cons e es ih =>
      obtain ⟨ek, ev⟩ := e
      unfold valD at ih ⊢
      rw [List.map_cons, List.find?_cons, List.find?_cons]
      by_cases a : ek = k
      · subst a
        rw [if_pos rfl]
        by_cases b : k' = ek
        · subst b; simp
        · have b2 : ¬ ek = k' := fun h => b h.symm
          rw [if_neg b]
          simp only [decide_eq_false b2]
          by_cases c2 : (es.any fun kv => decide (kv.1 = ek)) = true
          · rw [ih c2, if_neg b]
          · congr 2
            refine (List.map_congr_left fun kv hkv => ?_).trans (List.map_id _)
            rw [if_neg fun h => c2 (List.any_eq_true.mpr ⟨kv, hkv, decide_eq_true h⟩)]
            rfl
      · rw [if_neg a]
        have c2 : (es.any fun kv => decide (kv.1 = k)) = true := by
          rw [List.any_cons, decide_eq_false a, Bool.false_or] at c
          exact c
        by_cases b : k' = ek
        · subst b
          rw [if_neg (fun h => a h)]
          simp
        · have b2 : ¬ ek = k' := fun h => b h.symm
          simp only [decide_eq_false b2]
          exact ih c2
  · rw [if_neg c, valD_app, valD_one]
    by_cases b : k' = k
    · subst b
      rw [valD_none c, if_pos rfl]
      rfl
    · rw [if_neg b, if_neg b]
      cases valD es k' <;> rfl
end DL
namespace DL
open PySem PySem.Spec PyProof.Rows L2
section
variable {X : Cx} {B0 F : Hp} {M : Cs} {ρ κ : List Sl} {a b c : Expr} {pos : Pos}
/-- the chain a < b < c, as a test -/
theorem dt_chain {op op' : CmpOp} {r r' : R2} {PT : Bool → Cs → Prop} (ho : OpR X (compareOp op) r) (ho' : OpR X (compareOp op') r')
    (h : DE X B0 F M ρ κ a fun r1 M1 => DE X B0 F M1 ρ (r1 :: κ) b fun r2 M2 => R2D X.K B0 F ρ (r2 :: r1 :: κ) r r1 r2 M2 fun z M3 => ∃ k, z = .d (.bool k) ∧
      (k = true → DE X B0 F M3 ρ (r2 :: r1 :: κ) c fun r3 M4 => R2D X.K B0 F ρ κ r' r2 r3 M4 fun z M5 => ∃ k, z = .d (.bool k) ∧ PT k M5) ∧ (k = false → PT false M3))
    (hm : lastMarks [op, op'] [b, c] = false := by with_unfolding_all rfl) : DT X B0 F M ρ κ (.Compare a [op, op'] [b, c] pos) PT := fun σ vs H Q g q => by
  refine tOfT_of (pt_chain ho ho' pe_self pe_self pe_self hm) ?_
  refine h σ vs H _ g fun x H1 r1 M1 g1 h1 => h1 σ (x :: vs) H1 _ g1 fun y H2 r2 M2 g2 h2 => ?_
  have g2' : Good X.K B0 F M2 ρ (r2 :: r1 :: r2 :: r1 :: κ) σ (y :: x :: y :: x :: vs) H2 := by
    obtain ⟨B, g2⟩ := g2
    cases g2.st with
    | cons s1 s2 =>
      cases s2 with
      | cons s2 s3 => exact ⟨B, g2.stk (.cons s1 (.cons s2 (.cons s1 (.cons s2 s3))))⟩
  refine h2 σ (y :: x :: vs) H2 x y _ g2' fun v H' r' M' g' p => ?_
  obtain ⟨k, rfl, p1, p2⟩ := p
  have e := g'.bl
  subst e
  refine ⟨k, rfl, ?_⟩
  cases k with
  | true =>
    refine p1 rfl σ (y :: x :: vs) H' _ g'.pop fun z H4 r3 M4 g4 h4 => ?_
    refine h4 σ vs H4 y z _ ?_ fun v5 H5 r5 M5 g5 p5 => ?_
    · obtain ⟨B, g4⟩ := g4
      cases g4.st with
      | cons s1 s2 =>
        cases s2 with
        | cons s2 s3 =>
          cases s3 with
          | cons s3 s4 => exact ⟨B, g4.stk (.cons s1 (.cons s2 s4))⟩
    · obtain ⟨k, rfl, hp⟩ := p5
      have e := g5.bl
      subst e
      exact ⟨k, rfl, q k H5 M5 g5.pop hp⟩
  | false =>
    exact ⟨false, rfl, q false H' M' g'.pop.pop.pop (p2 rfl)⟩
end
end DL
namespace DL
open PySem PySem.Spec PyProof.Rows L2
section
variable {X : Cx} {B0 F : Hp} {M : Cs} {ρ κ : List Sl} {ss : List Stmt} {k : KK}
/-- cells that nobody asks for any more -/
theorem db_drop (j : Nat) (h : DB X B0 F (M.drop j) ρ κ ss k) : DB X B0 F M ρ κ ss k := fun σ vs H D g c => h σ vs H D (g.dropM j) c
end
end DL
namespace DL
open PySem PySem.Spec PyProof.Rows L2
abbrev iL (ns : List Int) : List PyData := ns.map PyData.int
def natL (ns : List Nat) : List PyData := ns.map fun i => .int (i : Nat)
theorem rngD_mem {lo : Int} {n : Nat} {d : PyData} (h : d ∈ rngD lo n) : ∃ i : Nat, i < n ∧ d = .int (lo + (i : Nat)) := by
  obtain ⟨i, hi, rfl⟩ := List.mem_map.mp h
  exact ⟨i, List.mem_range.mp hi, rfl⟩
theorem rng0 (n : Nat) : rngD 0 n = natL (List.range n) := by
  unfold rngD natL
  exact List.map_congr_left fun i _ => by rw [Int.zero_add]
theorem natL_iL (ns : List Nat) : natL ns = iL (ns.map fun i : Nat => (i : Int)) := by
  unfold natL
  rw [show iL (ns.map fun i : Nat => (i : Int)) = (ns.map fun i : Nat => (i : Int)).map PyData.int from rfl, List.map_map]
  rfl
theorem natL_len (ns : List Nat) : (natL ns).length = ns.length := by unfold natL; rw [List.length_map]
theorem natL_app (a b : List Nat) : natL (a ++ b) = natL a ++ natL b := List.map_append
theorem nat_at {ls : List Nat} {i l : Nat} (h : ls[i]? = some l) : atI (natL ls) (i : Int) = some (.int (l : Nat)) := atI_at (by omega) (by
  unfold natL
  rw [Int.toNat_natCast, List.getElem?_map, h]
  rfl)
theorem getD_lt {α : Type} {l : List α} {i : Nat} {d : α} (h : i < l.length) : l.getD i d = l[i] := by
  rw [List.getD_eq_getElem?_getD, List.getElem?_eq_getElem h]
  rfl
end DL
set_option maxHeartbeats 4000000
/-! comprehensions whose items are values (new cells), lists of lists frozen -/
namespace DL
open PySem PySem.Spec PyProof.Rows L2
section
variable {X : Cx} {B0 F : Hp} {M : Cs} {ρ κ : List Sl} {K : Fg}
theorem lc_rawU {u : Use} {elt tg iter : Expr} {ifs : List Expr} {scope : Scope} {own : List (Str × Nat)} {pos : Pos} {g : TG} {tt : TT} {P : Sl → Cs → Prop} (hc : X.calm = true) (hN : X.N.Nodup) (ok : BlkOk X.N X.env.scope scope own)
    (hg : ∀ b : BA, PG (bk X scope b) tg g) (ht : ∀ b : BA, PTs (bk X scope b) ifs tt) (hs : ∀ x, foldedSetIterable iter X.env x = pure x)
    (h : DI X B0 F M ρ κ tg iter fun ds s Src M1 => ∀ D, ∃ Iv : Nat → Cs → Prop, Iv 0 ((D, .raw (.lst [])) :: M1) ∧ (∀ i M, Iv i M → Src M) ∧
      (∀ i d M σ vs H x (Q : Hp → Prop), ds[i]? = some d → Iv i M → Good X.K B0 F M (wipeS ρ (own.map (·.2))) (.d d :: s :: (ρ ++ κ)) σ (x :: vs) H →
        (∀ M' ρ' σ' H', Good X.K B0 F M' ρ' (s :: (ρ ++ κ)) σ' vs H' → Iv (i + 1) M' → Q H') →
        g x σ H fun σ2 H2 => wipe σ2 (own.map (·.2)) = wipe σ (own.map (·.2)) ∧ tt σ2 H2 fun b H3 =>
          if b = true then (∀ b : BA, tOf (bk X scope b) elt σ2 H3 fun y H4 => ∃ ac, H4 D = some (.lst ac) ∧ ac.length < sizeLine ∧ Q (upd H4 D (.lst (ac ++ [y])))) else Q H3) ∧
      ∀ M, Iv ds.length M → P (.v (.ref D)) M)  (hu : UseOk X u (.ListComp elt [⟨tg, iter, ifs, 0⟩] scope pos)) : DEu X B0 F M ρ κ u (.ListComp elt [⟨tg, iter, ifs, 0⟩] scope pos) P := fun σ vs H Q g0 q => by
  refine use_lc (te := fun σ H Q => ∀ b : BA, tOf (bk X scope b) elt σ H Q) hc hN pi_self ok (fun s H C cl fp => hg ⟨s, H, C, cl, fp⟩) (fun s H C cl fp => ht ⟨s, H, C, cl, fp⟩)
    (fun s H C cl fp => ⟨fun pins s' σ' H' Q' I z => z ⟨s, H, C, cl, fp⟩ pins s' I⟩) hs hu ?_
  have hsh : Shape σ ρ := by obtain ⟨B, g0⟩ := g0; exact shape_of g0.sl
  refine h σ vs H _ g0 fun J H1 M1 ds s v Src g1 dw hsrc hr D hD => ?_
  obtain ⟨Iv, h0, hsr, hst, hd⟩ := hr D
  -- all outer slots on the stack as well
  have up : ∀ {M' H'}, Good X.K B0 F M' ρ (s :: κ) σ (v :: vs) H' → Good X.K B0 F M' ρ (s :: (ρ ++ κ)) σ (v :: (valsOf σ ++ vs)) H' := fun {M' H'} ⟨B, g⟩ => by
    refine ⟨B, g.stk ?_⟩
    cases g.st with
    | cons k1 k2 => exact .cons k1 (Paired.app (kok_slots g.sl) k2)
  have hlen : (valsOf σ).length = ρ.length := by
    have := Paired.length hsh
    simp [valsOf, this]
  have down : ∀ {M' H' ρ' σ'}, Good X.K B0 F M' ρ' (s :: (ρ ++ κ)) σ' (v :: (valsOf σ ++ vs)) H' → Good X.K B0 F M' ρ (s :: κ) σ (v :: vs) H' := fun {M' H' ρ' σ'} ⟨B, g⟩ => by
    cases g.st with
    | cons k1 k2 =>
      obtain ⟨k3, k4⟩ := kok_split hlen k2
      exact ⟨B, (g.slt (sok_back hsh k3)).stk (.cons k1 k4)⟩
  refine ⟨fun i m H' => m = ds.length - i ∧ i ≤ ds.length ∧ ∃ M', Good X.K B0 F M' ρ (s :: κ) σ (v :: vs) H' ∧ Iv i M', ⟨ds.length, by simp, Nat.zero_le _, _, ?_, h0⟩, ?_⟩
  · obtain ⟨B, g1⟩ := g1
    exact ⟨B, g1.cell (c := .raw (.lst [])) hD rfl⟩
  rintro i m H' ⟨rfl, hi, M', g', hI⟩
  by_cases hlt : i < ds.length
  · obtain ⟨d, hdd⟩ : ∃ d, ds[i]? = some d := ⟨ds[i], by simp [hlt]⟩
    refine .inr ⟨dw.go i _ ρ κ σ vs H' (hsr i M' hI) g' hlt, fun H2 => ∃ M2, Good X.K B0 F M2 ρ (s :: κ) σ (v :: vs) H2 ∧ Iv (i + 1) M2, fun H2 ⟨M2, g2, h2⟩ => ⟨ds.length - (i + 1), by omega, rfl, hlt, M2, g2, h2⟩, fun x H2 y => ?_⟩
    have g2 := dw.yld i _ ρ (ρ ++ κ) σ (valsOf σ ++ vs) H' x H2 d (hsr i M' hI) (up g') hdd y
    have g3 : Good X.K B0 F M' (wipeS ρ (own.map (·.2))) (.d d :: s :: (ρ ++ κ)) (wipe σ (own.map (·.2))) (x :: v :: (valsOf σ ++ vs)) H2 := by
      obtain ⟨B, g2⟩ := g2
      exact ⟨B, g2.slt (sok_wipe g2.sl _)⟩
    have z := hst i d M' _ _ H2 x (fun H2 => ∃ M2, Good X.K B0 F M2 ρ (s :: κ) σ (v :: vs) H2 ∧ Iv (i + 1) M2) hdd hI g3 fun M'' ρ' σ' H'' gg hh => ⟨M'', down gg, hh⟩
    have eqw : wipe (wipe σ (own.map (·.2))) (own.map (·.2)) = wipe σ (own.map (·.2)) := by
      have : ∀ (ws us : List Nat), (∀ w ∈ us, w ∈ ws) → wipe (wipe σ us) ws = wipe σ ws := by
        intro ws us
        induction us with
        | nil => intro _; rfl
        | cons u us ih =>
          intro hu
          show wipe ((wipe σ us).set u none) ws = _
          rw [wipe_set (hu u List.mem_cons_self)]
          exact ih fun w hw => hu w (List.mem_cons_of_mem _ hw)
      exact this _ _ fun w hw => hw
    rw [eqw] at z
    exact z
  · have e : i = ds.length := by omega
    subst e
    exact .inl ⟨dw.stop _ ρ κ σ vs H' (hsr _ M' hI) g', q _ H' _ _ (by
      obtain ⟨B, g'⟩ := g'
      exact ⟨B, g'.pop.pushV⟩) (hd M' hI)⟩


variable {elt tg iter c e : Expr} {scope : Scope} {pos : Pos} {P : Sl → Cs → Prop}
/-- [elt for x in iter], elt a value: x in slot i; the new list stands among the cells as a raw one -/
theorem gu_lcRaw {u : Use} (i : Nat) {x : Str} {px : Pos} (h : DI X B0 F M ρ κ (.Name x px) iter fun ds s Src M1 => ∀ D, ∃ Iv : Nat → Cs → Prop, Iv 0 ((D, .raw (.lst [])) :: M1) ∧ (∀ i M, Iv i M → Src M) ∧
      (∀ j d M, ds[j]? = some d → Iv j M → ∀ b : BA, DE (bk X scope b) B0 F M ((ρ.set i .un).set i (.d d)) (s :: (ρ ++ κ)) elt fun r M2 => ∃ m acc y, r = .v y ∧ M2[m]? = some (D, .raw (.lst acc)) ∧ acc.length < 100000 ∧ Iv (j + 1) (M2.set m (D, .raw (.lst (acc ++ [y]))))) ∧
      ∀ M, Iv ds.length M → P (.v (.ref D)) M) (hN : X.N.Nodup := by exact (by assumption)) (ok : BlkOk X.N X.env.scope scope [(x, i)] := by exact blkOk_by (by kernel_rfl)) (hg : ∀ b : BA, PG (bk X scope b) (.Name x px) (gName i) := by exact fun b => pg_name (by assumption) rfl (by first | exact Or.inl rfl | exact Or.inr rfl))
      (hc : X.calm = true := by rfl) (hs : ∀ x, foldedSetIterable iter X.env x = pure x := by intro _; rfl) (hu : UseOk X u (.ListComp elt [⟨.Name x px, iter, [], 0⟩] scope pos) := by first | exact trivial | exact ⟨rfl, rfl, (by first | rfl | kernel_rfl)⟩) : DEu X B0 F M ρ κ u (.ListComp elt [⟨.Name x px, iter, [], 0⟩] scope pos) P :=
  lc_rawU (hu := hu) (own := [(x, i)]) (g := gName i) (tt := tYes) hc hN ok hg (fun _ => pts_nil) hs fun σ vs H Q g0 q => h σ vs H Q g0 fun J H1 M1 ds s v Src g1 dw hsrc hr => q J H1 M1 ds s v Src g1 dw hsrc fun D => by
    obtain ⟨Iv, h0, hsr, hst, hd⟩ := hr D
    refine ⟨Iv, h0, hsr, fun j d M σ vs H x Q hdd hI g hq => ⟨wipe_set (by simp), ?_⟩, hd⟩
    have fin : ∀ b : BA, tOf (bk X scope b) elt (σ.set i (some x)) H fun y H4 => ∃ ac, H4 D = some (.lst ac) ∧ ac.length < sizeLine ∧ Q (upd H4 D (.lst (ac ++ [y]))) := ?_
    · unfold tYes
      dsimp only
      rw [if_pos rfl]
      exact fin
    intro b
    have g2 : Good X.K B0 F M ((ρ.set i .un).set i (.d d)) (s :: (ρ ++ κ)) (σ.set i (some x)) vs H := by
      obtain ⟨B, g⟩ := g
      exact ⟨B, g.pop.slt (Paired.set (OOk.of g.fst) i g.sl)⟩
    refine hst j d M hdd hI b (σ.set i (some x)) vs H _ g2 fun y H4 r M2 g4 h4 => ?_
    obtain ⟨m, acc, y', rfl, hm, hl, hI'⟩ := h4
    have ey := g4.ref
    subst ey
    obtain ⟨B, g4⟩ := g4
    obtain ⟨_, _, o, ho, ho2⟩ := g4.cells _ (List.mem_of_getElem? hm)
    have ho2 : o = .lst acc := ho2
    subst ho2
    have hz : (100000 : Nat) ≤ sizeLine := by decide
    exact ⟨acc, ho, by omega, hq _ _ _ _ ⟨B, g4.pop.write (c' := .raw (.lst (acc ++ [y]))) hm rfl⟩ hI'⟩
end
end DL
set_option maxHeartbeats 4000000
namespace DL
open PySem PySem.Spec PyProof.Rows L2
section
variable {K : Fg} {B0 F B H : Hp} {M : Cs} {ρ κ : List Sl} {σ : L2.St} {vs : List V}
theorem GoodB.freezeR {p : Addr} {ws : List V} {ds : List PyData} (g : GoodB K B0 F ((p, .raw (.lst ws)) :: M) ρ κ σ vs H B) (hw : RpA K B ws ds) : ∃ B', GoodB K B0 F M ρ (.d (.list ds) :: κ) σ (.ref p :: vs) H B' := by
  obtain ⟨bp, fp, o, ho, ho2⟩ := g.cells _ List.mem_cons_self
  have ho2 : o = .lst ws := ho2
  subst ho2
  have e : Same B (upd B p (.lst ws)) := fun a u z => by rw [upd_ne (ne_of_none z bp)]; exact z
  have nd := g.nd
  rw [List.map_cons, List.nodup_cons] at nd
  refine ⟨upd B p (.lst ws), g.b0.trans e, fun a u z => ?_, g.fh, fun a ha => ?_, fun c hc => ?_, nd.2, Paired.mapP g.sl fun _ _ z => z.ext e, .cons ?_ (Paired.mapP g.st fun _ _ z => z.ext e)⟩
  · by_cases q : a = p
    · subst q; rw [upd_same] at z; rw [← z]; exact ho
    · rw [upd_ne q] at z; exact g.bh a u z
  · by_cases q : a = p
    · subst q; exact .inr fp
    · rw [upd_ne q] at ha; exact g.new a ha
  · obtain ⟨h1, h2, u, h3, h4⟩ := g.cells c (List.mem_cons_of_mem _ hc)
    have q : c.1 ≠ p := fun q => nd.1 (List.mem_map.mpr ⟨c, hc, q⟩)
    exact ⟨by rw [upd_ne q]; exact h1, h2, u, h3, h4.ext e⟩
  · exact .lst upd_same (hw.ext e)
theorem GoodB.freezeL : ∀ (L : List (Addr × List PyData)) {κ : List Sl} {vs : List V} {B : Hp}, GoodB K B0 F ((L.map fun c => (c.1, MC.lst c.2)) ++ M) ρ κ σ vs H B →
    ∃ B', GoodB K B0 F M ρ ((L.map fun c => Sl.d (.list c.2)).reverse ++ κ) σ ((L.map fun c => V.ref c.1).reverse ++ vs) H B'
  | [], _, _, B, g => ⟨B, g⟩
  | c :: L, κ, vs, B, g => by
    obtain ⟨B1, g1⟩ := GoodB.freeze g
    obtain ⟨B2, g2⟩ := GoodB.freezeL L g1
    refine ⟨B2, ?_⟩
    rw [List.map_cons, List.map_cons, List.reverse_cons, List.reverse_cons, List.append_assoc, List.append_assoc]
    exact g2
theorem rpa_kok {F : Hp} : ∀ {cs : List (Addr × List PyData)}, KOk K F B (cs.map fun c => V.ref c.1) (cs.map fun c => Sl.d (.list c.2)) → RpA K B (cs.map fun c => V.ref c.1) (cs.map fun c => .list c.2)
  | [], _ => .nil
  | c :: cs, h => by
    cases h with
    | cons h1 h2 => exact .cons h1 (rpa_kok h2)
end
/-- a list of new lists that nobody changes any more: data -/
theorem de_freezeLL {X : Cx} {B0 F : Hp} {M : Cs} {ρ κ : List Sl} {e : Expr} {P : Sl → Cs → Prop} (h : DE X B0 F M ρ κ e fun r M1 => ∃ (D : Addr) (cs : List (Addr × List PyData)) (M2 : Cs), r = .v (.ref D) ∧ M1 = (cs.reverse.map fun c => (c.1, MC.lst c.2)) ++ (D, .raw (.lst (cs.map fun c => V.ref c.1))) :: M2 ∧ P (.d (.list (cs.map fun c => .list c.2))) M2) : DE X B0 F M ρ κ e P := fun σ vs H Q g q => h σ vs H Q g fun v H' r M' g' p => by
  obtain ⟨D, cs, M2, rfl, rfl, hp⟩ := p
  have e := g'.ref
  subst e
  obtain ⟨B, g'⟩ := g'
  obtain ⟨B1, g1⟩ := GoodB.freezeL cs.reverse g'.pop
  rw [← List.map_reverse, ← List.map_reverse, List.reverse_reverse] at g1
  obtain ⟨k1, k2⟩ := kok_split (by rw [List.length_map, List.length_map]) g1.st
  obtain ⟨B2, g2⟩ := GoodB.freezeR (g1.stk k2) (rpa_kok k1)
  exact q _ H' _ M2 ⟨B2, g2⟩ hp
end DL
set_option maxHeartbeats 2000000
/-! rows of whole numbers from 0 on: told as natL -/
namespace DL
open PySem PySem.Spec PyProof.Rows L2
theorem mem_natI {ns : List Nat} {k : Nat} : decide ((k : Int) ∈ ns.map fun i : Nat => (i : Int)) = decide (k ∈ ns) := decide_eq_decide.mpr ⟨fun h => by
  obtain ⟨x, hx, e⟩ := List.mem_map.mp h
  have : x = k := by omega
  exact this ▸ hx, fun h => List.mem_map.mpr ⟨k, h, rfl⟩⟩
section
variable {X : Cx} {K : Fg} {B0 F : Hp} {M : Cs} {ρ κ : List Sl} {P : Sl → Cs → Prop} {a b c e o elt tg iter : Expr} {pos p : Pos} {k : KK} {R : List PyData → Sl → (Cs → Prop) → Cs → Prop}
theorem seq_nat {s : Sl} {S : List Nat} (h : Seq M s (natL S)) : Seq M s ((S.map fun i : Nat => (i : Int)).map PyData.int) := by
  have e : natL S = (S.map fun i : Nat => (i : Int)).map PyData.int := natL_iL S
  rw [← e]
  exact h
theorem seqls_nat {s : Sl} {S : List Nat} (h : SeqLs M s (natL S)) : SeqLs M s ((S.map fun i : Nat => (i : Int)).map PyData.int) := by
  have e : natL S = (S.map fun i : Nat => (i : Int)).map PyData.int := natL_iL S
  rw [← e]
  exact h
theorem r2_inN {s : Sl} {S : List Nat} {q : Nat} (h1 : Seq M s (natL S)) (h : P (.d (.bool (decide (q ∈ S)))) M) : R2D K B0 F ρ κ (rIn K false) (.d (.int (q : Nat))) s M P := r2_inI (seq_nat h1) (by rw [mem_natI]; exact h)
theorem r2_niN {s : Sl} {S : List Nat} {q : Nat} (h1 : Seq M s (natL S)) (h : P (.d (.bool (!decide (q ∈ S)))) M) : R2D K B0 F ρ κ (rIn K true) (.d (.int (q : Nat))) s M P := r2_niI (seq_nat h1) (by rw [mem_natI]; exact h)
theorem r2_tin {s : Sl} {S : List Nat} {q : Nat} {PT : Bool → Cs → Prop} (h1 : Seq M s (natL S)) (h : PT (decide (q ∈ S)) M) : R2D K B0 F ρ κ (rIn K false) (.d (.int (q : Nat))) s M fun r' M' => ∃ k, r' = .d (.bool k) ∧ PT k M' := r2_inN h1 ⟨_, rfl, h⟩
theorem r2_tni {s : Sl} {S : List Nat} {q : Nat} {PT : Bool → Cs → Prop} (h1 : Seq M s (natL S)) (h : PT (!decide (q ∈ S)) M) : R2D K B0 F ρ κ (rIn K true) (.d (.int (q : Nat))) s M fun r' M' => ∃ k, r' = .d (.bool k) ∧ PT k M' := r2_niN h1 ⟨_, rfl, h⟩
theorem dec_nat {i j : Nat} : decide ((i : Int) = (j : Int)) = decide (i = j) := decide_eq_decide.mpr (by omega)
theorem r2_teqN {PT : Bool → Cs → Prop} {i j : Nat} (h : PT (decide (i = j)) M) : R2D K B0 F ρ κ rEq (.d (.int (i : Nat))) (.d (.int (j : Nat))) M fun r' M' => ∃ k, r' = .d (.bool k) ∧ PT k M' := r2_teq (by rw [dec_nat]; exact h)
theorem r2_tneN {PT : Bool → Cs → Prop} {i j : Nat} (h : PT (!decide (i = j)) M) : R2D K B0 F ρ κ rNe (.d (.int (i : Nat))) (.d (.int (j : Nat))) M fun r' M' => ∃ k, r' = .d (.bool k) ∧ PT k M' := r2_tne (by rw [dec_nat]; exact h)
theorem nat_get {S : List Nat} {i : Nat} {d : PyData} (h : (natL S)[i]? = some d) : ∃ q, S[i]? = some q ∧ d = .int (q : Nat) := map_get h
theorem nat_mem {S : List Nat} {d : PyData} (h : d ∈ natL S) : ∃ q, q ∈ S ∧ d = .int (q : Nat) := by
  obtain ⟨q, h1, h2⟩ := List.mem_map.mp h
  exact ⟨q, h1, h2.symm⟩
theorem natL_filter {S : List Nat} {f : PyData → Bool} {t : Nat → Bool} (h : ∀ q ∈ S, f (.int (q : Nat)) = t q) : (natL S).filter f = natL (S.filter t) := by
  unfold natL
  rw [List.filter_map]
  exact congrArg _ (List.filter_congr h)
def natOf : PyData → Nat
  | .int i => i.toNat
  | _ => 0
/-- [x for x in natL S if c] -/
theorem gu_filN {u : Use} (i : Nat) (t : Nat → Bool) {x : Str} {px p2 : Pos} {scope : Scope} (h : DI X B0 F M ρ κ (.Name x px) iter fun ds s Src M1 => ∃ S : List Nat, ds = natL S ∧ S.length ≤ 100000 ∧ (∀ D acc, Src M1 → Src ((D, .lst acc) :: M1)) ∧
      (∀ q D acc, q ∈ S → ∀ b : BA, DT (bk X scope b) B0 F ((D, .lst acc) :: M1) ((ρ.set i .un).set i (.d (.int (q : Nat)))) (s :: (ρ ++ κ)) c fun k M2 => k = t q ∧ M2 = (D, .lst acc) :: M1) ∧ ∀ D, P (.v (.ref D)) ((D, .lst (natL (S.filter t))) :: M1))
      (hN : X.N.Nodup := by exact (by assumption)) (ok : BlkOk X.N X.env.scope scope [(x, i)] := by exact blkOk_by (by kernel_rfl)) (hg : ∀ b : BA, PG (bk X scope b) (.Name x px) (gName i) := by exact fun b => pg_name (by assumption) rfl (by first | exact Or.inl rfl | exact Or.inr rfl))
      (hel : ∀ (b : BA) (M2 : Cs) (ρ2 κ2 : List Sl) (d : PyData) (P2 : Sl → Cs → Prop), ρ2[i]? = some (.d d) → P2 (.d d) M2 → DE (bk X scope b) B0 F M2 ρ2 κ2 (.Name x p2) P2 := by exact fun b M2 ρ2 κ2 d P2 hr hp => nm _ hr hp) (hi : i < ρ.length := by first | decide | simp)
      (hc : X.calm = true := by rfl) (hs : ∀ x, foldedSetIterable iter X.env x = pure x := by intro _; rfl) (hu : UseOk X u (.ListComp (.Name x p2) [⟨.Name x px, iter, [c], 0⟩] scope pos) := by first | exact trivial | exact ⟨rfl, rfl, (by first | rfl | kernel_rfl)⟩) : DEu X B0 F M ρ κ u (.ListComp (.Name x p2) [⟨.Name x px, iter, [c], 0⟩] scope pos) P := by
  refine gu_lcIfF (u := u) i (fun d => t (natOf d)) id (fun σ vs H Q g q => h σ vs H Q g fun J H1 M1 ds s v Src g1 dw hsrc hr => q J H1 M1 ds s v Src g1 dw hsrc ?_) hN ok hg hc hs hu
  obtain ⟨S, rfl, hl, h1, h2, h3⟩ := hr
  refine ⟨by rw [natL_len]; exact hl, h1, ?_, ?_, fun D => ?_⟩
  · intro d D acc hd b
    obtain ⟨q, hq, rfl⟩ := nat_mem hd
    exact h2 q D acc hq b
  · intro d D acc hd _ b
    exact hel b _ _ _ d _ (by rw [List.set_set, List.getElem?_set_self hi]) ⟨rfl, rfl⟩
  · rw [List.map_id, natL_filter (t := t) fun q _ => rfl]
    exact h3 D
theorem de_filN (i : Nat) (t : Nat → Bool) {x : Str} {px p2 : Pos} {scope : Scope} (h : DI X B0 F M ρ κ (.Name x px) iter fun ds s Src M1 => ∃ S : List Nat, ds = natL S ∧ S.length ≤ 100000 ∧ (∀ D acc, Src M1 → Src ((D, .lst acc) :: M1)) ∧
      (∀ q D acc, q ∈ S → ∀ b : BA, DT (bk X scope b) B0 F ((D, .lst acc) :: M1) ((ρ.set i .un).set i (.d (.int (q : Nat)))) (s :: (ρ ++ κ)) c fun k M2 => k = t q ∧ M2 = (D, .lst acc) :: M1) ∧ ∀ D, P (.v (.ref D)) ((D, .lst (natL (S.filter t))) :: M1))
      (hN : X.N.Nodup := by exact (by assumption)) (ok : BlkOk X.N X.env.scope scope [(x, i)] := by exact blkOk_by (by kernel_rfl)) (hg : ∀ b : BA, PG (bk X scope b) (.Name x px) (gName i) := by exact fun b => pg_name (by assumption) rfl (by first | exact Or.inl rfl | exact Or.inr rfl))
      (hel : ∀ (b : BA) (M2 : Cs) (ρ2 κ2 : List Sl) (d : PyData) (P2 : Sl → Cs → Prop), ρ2[i]? = some (.d d) → P2 (.d d) M2 → DE (bk X scope b) B0 F M2 ρ2 κ2 (.Name x p2) P2 := by exact fun b M2 ρ2 κ2 d P2 hr hp => nm _ hr hp) (hi : i < ρ.length := by first | decide | simp)
      (hc : X.calm = true := by rfl) (hs : ∀ x, foldedSetIterable iter X.env x = pure x := by intro _; rfl) : DE X B0 F M ρ κ (.ListComp (.Name x p2) [⟨.Name x px, iter, [c], 0⟩] scope pos) P :=
  gu_filN (u := none) i t h hN ok hg hel hi hc hs trivial
theorem alike_nat {S : List Nat} : PySem.W.AllAlike (natL S) := fun d hd d' hd' => by
  obtain ⟨x, _, rfl⟩ := nat_mem hd
  obtain ⟨y, _, rfl⟩ := nat_mem hd'
  rw [PySem.W.alike]
theorem sortable_nat {S : List Nat} : PySem.W.Sortable (natL S) := .inr fun d hd => by
  obtain ⟨x, _, rfl⟩ := nat_mem hd
  exact ⟨(fun h => nomatch h), (fun xs h => nomatch h)⟩
theorem depth_nat {S : List Nat} : ∀ d ∈ natL S, d.depth ≤ 50 := fun d hd => by
  obtain ⟨x, _, rfl⟩ := nat_mem hd
  rw [PyData.depth]
  decide
theorem leN_data (a b : Nat) : PySem.W.dataLe false id (.int (a : Nat)) (.int (b : Nat)) = decide (a ≤ b) := by
  show (!PySem.W.dataLt (.int (b : Nat)) (.int (a : Nat))) = _
  rw [PySem.W.dataLt_int, Bool.eq_iff_iff]
  simp
theorem sort_nat (S : List Nat) : ∃ T : List Nat, sortD (natL S) = natL T ∧ T.Perm S ∧ T.Pairwise (· ≤ ·) := by
  refine ⟨S.mergeSort fun a b => decide (a ≤ b), ?_, List.mergeSort_perm _ _, ?_⟩
  · unfold sortD natL
    rw [List.map_mergeSort]
    intro a _ b _
    exact (leN_data a b).symm
  · exact (List.pairwise_mergeSort (fun a b c => by simpa using Nat.le_trans) (fun a b => by simpa using Nat.le_total a b) S).imp fun h => by simpa using h
theorem sort_up {T S : List Nat} (p : T.Perm S) (h1 : T.Pairwise (· ≤ ·)) (h2 : S.Pairwise (· ≤ ·)) : T = S := List.Perm.eq_of_pairwise (fun a b _ _ h h' => Nat.le_antisymm h h') h1 h2 p
/-- sorted(natL S) -/
theorem de_sortedN (hu : X.A.units + 64 < cLine) (gm : X.mg "sorted" = none) (h : DE X B0 F M ρ κ e fun r M1 => ∃ S : List Nat, SeqLs M1 r (natL S) ∧ S.length ≤ 100000 ∧ ∀ T, T.Perm S → T.Pairwise (· ≤ ·) → ∀ l, P (.v (.ref l)) ((l, .lst (natL T)) :: M1)) (hg : Gl X "sorted" := by rfl) (hst : starEach [e] X.env = (false, eval e X.env) :: starEach [] X.env := by rfl) : DE X B0 F M ρ κ (.Call (.Name "sorted" p) [e] [] pos) P := by
  refine de_sorted hu gm (hg := hg) (hs := hst) (h.mono fun r M1 ⟨S, hq, hl, hT⟩ => ⟨natL S, hq, alike_nat, sortable_nat, by rw [natL_len]; exact hl, depth_nat, fun l => ?_⟩)
  obtain ⟨T, e1, e2, e3⟩ := sort_nat S
  rw [e1]
  exact hT T e2 e3 l
end
end DL
namespace DL
open PySem PySem.Spec PyProof.Rows L2
section
variable {X : Cx} {B0 F : Hp} {M : Cs} {ρ κ : List Sl} {P : Sl → Cs → Prop} {e : Expr} {es : List Expr} {p pos : Pos} {x : Str} {lv : Nat} {ps : List Str}
/-- a pure promise that leaves open which datum comes back -/
def PuR {α : Type} (A : α → List Sl) (C : α → Prop) (Rl : α → PyData → Prop) : List Sl → Cs → (Sl → Cs → Prop) → Prop := fun κ _ W => ∃ a, κ = A a ∧ C a ∧ ∀ y M', Rl a y → W (.d y) M'
theorem de_pur {α : Type} {A : α → List Sl} {C : α → Prop} {Rl : α → PyData → Prop} (G : Go X.prog X.w X.K X.mg X.base x lv ps (PuR A C Rl)) (hr : Room lv X.A)
    (h : DA X B0 F M ρ κ (e :: es) fun rs M1 => ∃ a, rs = A a ∧ C a ∧ ∀ y, Rl a y → P (.d y) M1) (hg : Gl X x := by rfl) (hdb : (x == ("__debug__" : Str)) = false := by decide)
    (he : starEach (e :: es) X.env = (false, eval e X.env) :: starEach es X.env := by rfl) (hpl : (backTo pos (starEach es X.env)).any (·.1) = false := by rfl) : DE X B0 F M ρ κ (.Call (.Name x p) (e :: es) [] pos) P := by
  refine de_go G hr (fun σ vs H Q g q => h σ vs H Q g fun ws H' rs M' hl g' hp => q ws H' rs M' hl g' ?_) hg hdb he hpl
  obtain ⟨a, rfl, hc, hp⟩ := hp
  exact ⟨_, Views.refl _, a, rfl, hc, fun y _ hy => ⟨_, rfl, hp y hy⟩⟩
end
end DL
set_option maxHeartbeats 2000000
/-! methods known by what they promise -/
namespace DL
open PySem PySem.Spec PyProof.Rows L2
abbrev GoM (P : Program) (w : World) (K : Fg) (mg : Str → Option Value) (base : Heap) (C : Addr) (m : Str) (lv : Nat) (ps : List Str) (R : List Sl → Cs → (Sl → Cs → Prop) → Prop) : Prop :=
  ∃ f fd, Meth K C m f ∧ Binds K fd ps [] ∧ FnOk P w K mg base CX0 lv f fd ps (SpG K R)
abbrev GoN (P : Program) (w : World) (K : Fg) (mg : Str → Option Value) (base : Heap) (C : Addr) (lv : Nat) (ps : List Str) (R : List Sl → Cs → (Sl → Cs → Prop) → Prop) : Prop :=
  ∃ f fd, Mk K C f ∧ Binds K fd ps [] ∧ FnOk P w K mg base CX0 lv f fd ps (SpG K R)
abbrev FnM (K : PySem.W.Frag) (m : Str) (q : Str) (st : Stmt) (f : Addr) (fd : FuncData) : Prop := FunD K m q (defArgs st) (defBody st) (defScope st) [] [] f fd
section
variable {X : Cx} {K : Fg} {B0 F : Hp} {M : Cs} {ρ κ : List Sl} {P : Sl → Cs → Prop} {e o : Expr} {es : List Expr} {p pos apos : Pos} {x m q : Str} {lv : Nat} {ps : List Str}
theorem de_goM (j : Nat) {C : Addr} {Rf : List Sl → Cs → (Sl → Cs → Prop) → Prop} {pl : Sem Bool} (c : Cls X.K C) (G : GoM X.prog X.w X.K X.mg X.base C m lv ps Rf) (hr : Room lv X.A)
    (h : DE X B0 F M ρ κ o fun r1 M1 => ∃ a fs, r1 = .v (.ref a) ∧ (a, .ins C fs) ∈ M1 ∧ fs.lookup m = none ∧ DA X B0 F M1 ρ (r1 :: κ) (e :: es) fun rs M2 => Rf (r1 :: rs) (M2.drop j) fun r M3 => NoRd r ∧ P r (M2.take j ++ M3))
    (hst : starEach (e :: es) X.env = (false, eval e X.env) :: starEach es X.env := by rfl) (hpl : (backTo pos (starEach es X.env)).any (·.1) = false := by rfl)
    (ht : eval (.Call (.Attribute o m apos) (e :: es) [] pos) X.env = (do
      let ov ← eval o X.env
      standAt apos.atName
      let (f, first) ← holding [ov] (getMethod ov m pl)
      callWith pos f first (backTo pos (starEach (e :: es) X.env)) (backToKw pos (keywordEach [] X.env))) := by rfl) : DE X B0 F M ρ κ (.Call (.Attribute o m apos) (e :: es) [] pos) P := by
  obtain ⟨f, fd, hm, hb, Fo⟩ := G
  exact de_methJ j c hm Fo hr hb h hst hpl ht
theorem de_goN (n : Nat) {C : Addr} {Rf : List Sl → Cs → (Sl → Cs → Prop) → Prop} (G : GoN X.prog X.w X.K X.mg X.base C lv ps Rf) (hr : Room (lv + 1) X.A) (hm : X.mg x = some (.ref C))
    (h : DA X B0 F M ρ κ (e :: es) fun rs M1 => ∀ a, Rf (.v (.ref a) :: rs) ((a, .ins C []) :: M1.take n) fun r M2 => r = .d .none ∧ P (.v (.ref a)) (M2 ++ M1.drop n)) (hg : Gl X x := by rfl)
    (hdb : (x == ("__debug__" : Str)) = false := by decide) (he : starEach (e :: es) X.env = (false, eval e X.env) :: starEach es X.env := by rfl) (hpl : (backTo pos (starEach es X.env)).any (·.1) = false := by rfl) : DE X B0 F M ρ κ (.Call (.Name x p) (e :: es) [] pos) P := by
  obtain ⟨f, fd, hk, hb, Fo⟩ := G
  exact de_makeM n hk Fo hr hm hb h hg hdb he hpl
theorem gom_of {P : Program} {w : World} {mg : Str → Option Value} {base : Heap} {st : Stmt} {f C : Addr} {fd : FuncData} {R : List Sl → Cs → (Sl → Cs → Prop) → Prop} (Fn : FnM K m q st f fd) (Hm : Meth K C m f)
    (hb : ∀ (kV doc pm : Value) (an : Option Addr) (cdv ct : Value) (us : List Value), us.length = ps.length → bindArgs (PySem.W.fnOf m q (defArgs st) (defBody st) (defScope st) .none kV doc pm an cdv ct) ⟨us, []⟩ = pure (ps.zip us)) (ok : FnOk P w K mg base CX0 lv f fd ps (SpG K R)) : GoM P w K mg base C m lv ps R :=
  ⟨f, fd, Hm, Fn.bindsN hb, ok⟩
theorem gon_of {P : Program} {w : World} {mg : Str → Option Value} {base : Heap} {st : Stmt} {f C : Addr} {fd : FuncData} {R : List Sl → Cs → (Sl → Cs → Prop) → Prop} (Fn : FnM K "__init__" q st f fd) (Hm : Mk K C f)
    (hb : ∀ (kV doc pm : Value) (an : Option Addr) (cdv ct : Value) (us : List Value), us.length = ps.length → bindArgs (PySem.W.fnOf "__init__" q (defArgs st) (defBody st) (defScope st) .none kV doc pm an cdv ct) ⟨us, []⟩ = pure (ps.zip us)) (ok : FnOk P w K mg base CX0 lv f fd ps (SpG K R)) : GoN P w K mg base C lv ps R :=
  ⟨f, fd, Hm, Fn.bindsN hb, ok⟩
end
end DL
set_option maxHeartbeats 2000000
/-! calls that may change the n cells behind the first j -/
namespace DL
open PySem PySem.Spec PyProof.Rows L2
section
variable {X : Cx} {B0 F B H1 : Hp} {M M1 : Cs} {ρ κ rs : List Sl} {σ : L2.St} {vs ws : List V} {P : Sl → Cs → Prop} {Q : VK} {E : XK} {Rf : List Sl → Cs → (Sl → Cs → Prop) → Prop}
theorem sp_X (g2 : GoodB X.K B0 F M1 ρ κ σ vs H1 B) (k1 : KOk X.K F B ws rs) (j n : Nat) (hR : Rf rs ((M1.drop j).take n) fun r M2 => NoRd r ∧ P r (M1.take j ++ (M2 ++ (M1.drop j).drop n)))
    (q : ∀ v H' r M', Good X.K B0 F M' ρ (r :: κ) σ (v :: vs) H' → P r M' → Q v H') : SpG X.K Rf ws H1 Q E := by
  have e0 : M1.take j ++ ((M1.drop j).take n ++ (M1.drop j).drop n) = M1 := by rw [List.take_append_drop, List.take_append_drop]
  generalize ht : M1.take j = T at *
  generalize hm : (M1.drop j).take n = N at *
  generalize hd : (M1.drop j).drop n = D at *
  have pm : M1.Perm (N ++ (T ++ D)) := by
    rw [← e0, ← List.append_assoc, ← List.append_assoc]
    exact List.Perm.append_right _ List.perm_append_comm
  have g3 : GoodB X.K B0 F (N ++ (T ++ D)) ρ κ σ vs H1 B := ⟨g2.b0, g2.bh, g2.fh, g2.new, fun c hc => g2.cells c (pm.mem_iff.mpr hc), (pm.map _).nodup_iff.mp g2.nd, g2.sl, g2.st⟩
  have e1 : (N ++ (T ++ D)).take N.length = N := List.take_left' rfl
  have e2 : (N ++ (T ++ D)).drop N.length = T ++ D := List.drop_left' rfl
  refine sp_M (P := fun r M' => ∃ M2, M' = M2 ++ (T ++ D) ∧ P r (T ++ (M2 ++ D))) g3 k1 N.length ?_ ?_
  · rw [e1, e2]
    have mono : ∀ r M2, (NoRd r ∧ P r (T ++ (M2 ++ D))) = (NoRd r ∧ ∃ M3, M2 ++ (T ++ D) = M3 ++ (T ++ D) ∧ P r (T ++ (M3 ++ D))) := fun r M2 => propext ⟨fun ⟨h1, h2⟩ => ⟨h1, M2, rfl, h2⟩, fun ⟨h1, M3, h2, h3⟩ => ⟨h1, by rw [List.append_cancel_right h2]; exact h3⟩⟩
    have e3 : (fun r M2 => NoRd r ∧ P r (T ++ (M2 ++ D))) = fun r M2 => NoRd r ∧ ∃ M3, M2 ++ (T ++ D) = M3 ++ (T ++ D) ∧ P r (T ++ (M3 ++ D)) := funext fun r => funext fun M2 => mono r M2
    rw [← e3]
    exact hR
  · rintro v H' r M' g' ⟨M2, rfl, hp⟩
    refine q v H' r _ (g'.perm ?_) hp
    rw [← List.append_assoc, ← List.append_assoc]
    exact List.Perm.append_right _ List.perm_append_comm
end
section
variable {X : Cx} {K : Fg} {B0 F : Hp} {M M' : Cs} {ρ κ : List Sl} {P : Sl → Cs → Prop} {e o : Expr} {es : List Expr} {p pos apos : Pos} {x m q : Str} {lv : Nat} {ps : List Str}
theorem de_perm (pm : M.Perm M') (h : DE X B0 F M' ρ κ e P) : DE X B0 F M ρ κ e P := fun σ vs H Q g q => h σ vs H Q (g.perm pm) q
theorem de_permR (h : DE X B0 F M ρ κ e fun r M1 => ∃ M2, M1.Perm M2 ∧ P r M2) : DE X B0 F M ρ κ e P := fun σ vs H Q g q => h σ vs H Q g fun v H' r M1 g1 ⟨M2, pm, hp⟩ => q v H' r M2 (g1.perm pm) hp
theorem de_goX (j n : Nat) {R : List Sl → Cs → (Sl → Cs → Prop) → Prop} (G : Go X.prog X.w X.K X.mg X.base x lv ps R) (hr : Room lv X.A)
    (h : DA X B0 F M ρ κ (e :: es) fun rs M1 => R rs ((M1.drop j).take n) fun r M2 => NoRd r ∧ P r (M1.take j ++ (M2 ++ (M1.drop j).drop n))) (hg : Gl X x := by rfl) (hdb : (x == ("__debug__" : Str)) = false := by decide)
    (he : starEach (e :: es) X.env = (false, eval e X.env) :: starEach es X.env := by rfl) (hpl : (backTo pos (starEach es X.env)).any (·.1) = false := by rfl) : DE X B0 F M ρ κ (.Call (.Name x p) (e :: es) [] pos) P := fun σ vs H Q g q => by
  obtain ⟨f, fd, hm, hk, hb, Fo⟩ := G
  refine tOf_of (pe_call (E := E0) Fo hr hg hm hk hb .nil pass0 pa_self hdb he hpl) (h σ vs H _ g fun ws H1 rs M1 hl g1 hR => ?_)
  rw [List.append_nil]
  obtain ⟨B, g1⟩ := g1
  obtain ⟨k1, k2⟩ := kok_split hl g1.st
  exact sp_X (g1.stk k2) k1 j n hR q
theorem de_goMX (j n : Nat) {C : Addr} {Rf : List Sl → Cs → (Sl → Cs → Prop) → Prop} {pl : Sem Bool} (c : Cls X.K C) (G : GoM X.prog X.w X.K X.mg X.base C m lv ps Rf) (hr : Room lv X.A)
    (h : DE X B0 F M ρ κ o fun r1 M1 => ∃ a fs, r1 = .v (.ref a) ∧ (a, .ins C fs) ∈ M1 ∧ fs.lookup m = none ∧ DA X B0 F M1 ρ (r1 :: κ) (e :: es) fun rs M2 => Rf (r1 :: rs) ((M2.drop j).take n) fun r M3 => NoRd r ∧ P r (M2.take j ++ (M3 ++ (M2.drop j).drop n)))
    (hst : starEach (e :: es) X.env = (false, eval e X.env) :: starEach es X.env := by rfl) (hpl : (backTo pos (starEach es X.env)).any (·.1) = false := by rfl)
    (ht : eval (.Call (.Attribute o m apos) (e :: es) [] pos) X.env = (do
      let ov ← eval o X.env
      standAt apos.atName
      let (f, first) ← holding [ov] (getMethod ov m pl)
      callWith pos f first (backTo pos (starEach (e :: es) X.env)) (backToKw pos (keywordEach [] X.env))) := by rfl) : DE X B0 F M ρ κ (.Call (.Attribute o m apos) (e :: es) [] pos) P := fun σ vs H Q g q => by
  obtain ⟨f, fd, hm, hb, Fo⟩ := G
  refine tOf_of (pe_meth (E := E0) pe_self c hm Fo hr hb .nil pass0 pa_self hst hpl ht) (h σ vs H _ g fun v H1 r1 M1 g1 h1 => ?_)
  obtain ⟨a, fs, rfl, hma, hlk, h1⟩ := h1
  have ev := g1.ref
  subst ev
  obtain ⟨B, g1b⟩ := id g1
  obtain ⟨dx, us, ho, hu⟩ := ins_at g1b hma
  refine ⟨a, dx, us, rfl, ho, (fs_lookup hu).2 hlk, h1 σ (.ref a :: vs) H1 _ g1 fun ws H2 rs M2 hl g2 hR => ?_⟩
  rw [List.append_nil]
  obtain ⟨B2, g2⟩ := g2
  obtain ⟨k1, k2⟩ := kok_split hl g2.st
  have g3 := g2.stk k2
  exact sp_X g3.pop (.cons g3.fst k1) j n hR q
end
end DL
namespace DL
open PySem PySem.Spec PyProof.Rows L2
section
variable {X : Cx} {B0 F : Hp} {M : Cs} {ρ κ : List Sl} {s : Stmt} {ss : List Stmt} {k : KK}
/-- what holds behind a statement, whichever way it went -/
theorem ds_join (J : Cs → List Sl → Prop) (h : DS X B0 F M ρ κ s { k with nx := J }) (h2 : ∀ M ρ, J M ρ → k.nx M ρ) : DS X B0 F M ρ κ s k :=
  fun σ vs H D g c => h σ vs H D g ⟨fun σ' H' M' ρ' g' hj => c.nx σ' H' M' ρ' g' (h2 M' ρ' hj), c.rt, c.bk, c.ct⟩
theorem db_join (J : Cs → List Sl → Prop) (h : DB X B0 F M ρ κ ss { k with nx := J }) (h2 : ∀ M ρ, J M ρ → k.nx M ρ) : DB X B0 F M ρ κ ss k :=
  fun σ vs H D g c => h σ vs H D g ⟨fun σ' H' M' ρ' g' hj => c.nx σ' H' M' ρ' g' (h2 M' ρ' hj), c.rt, c.bk, c.ct⟩
end
end DL
set_option maxHeartbeats 1000000
/-! dict(pairs), sorted(dict), list(dict): keys are tuples -/
namespace DL
open PySem PySem.Spec PyProof.Rows L2
section
variable {X : Cx} {pins : List (Addr × Obj)} {σ : L2.St} {H : Hp} {s : Shared}
abbrev PRel (x : NestedKey × Addr × Value) (q : NestedKey × Addr × V) : Prop := x.1 = q.1 ∧ x.2.1 = q.2.1 ∧ RelV q.2.2 x.2.2
abbrev PSrc (K : Fg) (H : Hp) (t : Addr) (q : NestedKey × Addr × V) : Prop := SqT K H t [.ref q.2.1, q.2.2] ∧ q.1.depth ≤ 8 ∧ Dp K H (.ref q.2.1) q.1.data
theorem pairsN_of (I : Inv X pins σ H s) : ∀ {ts : List Addr} {qs : List (NestedKey × Addr × V)}, Paired (PSrc X.K H) ts qs →
    ∃ prs : List (NestedKey × Addr × Value), Paired PRel prs qs ∧ prs.length = ts.length ∧ ∀ (j : Nat) (x : NestedKey × Addr × Value), prs[j]? = some x → ∃ b : Addr, ts[j]? = some b ∧ IsTup s.heap b #[.ref x.2.1, x.2.2] ∧ (nestedKind X.prog X.w).is s.heap x.1 x.2.1
  | _, _, .nil => ⟨[], .nil, rfl, fun j q e => by simp at e⟩
  | _, _, .cons (a := t) (b := q) h r => by
    obtain ⟨prs, rl, hl, hp⟩ := pairsN_of I r
    obtain ⟨its, rv, ht, _⟩ := I.tuple h.1
    obtain ⟨u, y, ei, ru, ry⟩ := vals2 rv
    subst ei
    obtain rfl : u = Value.ref q.2.1 := ru
    refine ⟨(q.1, q.2.1, y) :: prs, .cons ⟨rfl, rfl, ry⟩ rl, by rw [List.length_cons, List.length_cons, hl], fun j x e => ?_⟩
    cases j with
    | zero =>
      have e' : (q.1, q.2.1, y) = x := Option.some.inj e
      subst e'
      exact ⟨t, rfl, ht, nd_key I h.2.1 h.2.2 rfl⟩
    | succ j =>
      obtain ⟨b, e1, e2, e3⟩ := hp j x (by simpa using e)
      exact ⟨b, by simpa using e1, e2, e3⟩
def rDictN (X : Cx) : List V → Hp → VK → Prop := fun vs H Q => ∃ (a : Addr) (ts : List Addr) (qs : List (NestedKey × Addr × V)), vs = [.ref a] ∧ SqL X.K H a (ts.map V.ref) ∧ Paired (PSrc X.K H) ts qs ∧ ts.length ≤ 100000 ∧
  ∀ p xs, H p = none → Paired PRel xs qs → Q (.ref p) (upd H p (NDic X.prog X.w p (storedAllH [] xs)))
theorem nested_keep {h h' : Heap} {k : NestedKey} {v : Value} (x : NestedIs h k v) (e : ∀ b o, h.get? b = some o → h'.get? b = some o) : NestedIs h' k v := NestedIs.at (fun a o vs n h1 _ => e a o h1) k v x
theorem cr_dictN (hc : X.calm = true) (hu : X.A.units + 64 < cLine) : CallR X (.type "dict") (rDictN X) := by
  intro pins s σ H vs us Q I r h
  obtain ⟨a, ts, qs, rfl, hq, hp, hz0, q⟩ := h
  obtain ⟨u, eu, rx⟩ := vals1 r
  subst eu
  cases rx
  obtain ⟨its, rv, pl, hz⟩ := I.list hq
  have ei := refs_at rv
  subst ei
  obtain ⟨prs, rel, hl, hpr⟩ := pairsN_of I hp
  obtain ⟨o, n, ho, hcl, hd, hdat⟩ := pl
  have hn : prs.length ≤ sizeLine := by rw [hl]; exact Nat.le_trans hz0 (by decide)
  have hat : ∀ j : Nat, ∀ b, ts[j]? = some b → ts.getD j 0 = b := fun j b e => by rw [List.getD_eq_getElem?_getD, e]; rfl
  have hitems : PairItems s.heap ((ts.map Value.ref).toArray) (fun j => ts.getD j 0) (prs.map fun x => (Value.ref x.2.1, x.2.2)) := by
    refine ⟨by simp [hl], fun j k v e => ?_⟩
    rw [List.getElem?_map] at e
    obtain ⟨x, hx, e2⟩ := Option.map_eq_some_iff.mp e
    obtain ⟨b, e3, e4, _⟩ := hpr j x hx
    cases e2
    show _ ∧ PairAt s.heap (ts.getD j 0) _ _
    rw [hat j b e3]
    exact ⟨by simp [e3, hat j b e3], .inl e4⟩
  have hhave : PairsHaveH (nestedKind X.prog X.w) (prs.map fun x => (Value.ref x.2.1, x.2.2)).length (PairRel (prs.map fun x => (Value.ref x.2.1, x.2.2))) prs := by
    refine ⟨by simp, fun i key v e => ?_⟩
    have e : (prs.map fun x => (Value.ref x.2.1, x.2.2))[i]? = some (key, v) := e
    rw [List.getElem?_map] at e
    obtain ⟨x, hx, e2⟩ := Option.map_eq_some_iff.mp e
    cases e2
    exact ⟨x.1, x.2.1, hx, rfl⟩
  have hstay : KeysStay (nestedKind X.prog X.w) s.heap s.heap.objs.size [] prs := by
    intro h' hk x hx
    obtain ⟨j, hj⟩ := List.mem_iff_getElem?.mp hx
    obtain ⟨b, _, _, e5, e6⟩ := hpr j x hj
    exact ⟨nested_keep e5 fun b o e => hk b o (Nat.ne_of_lt (Heap.lt_size e)) (fun z => nomatch z) e, e6⟩
  refine call_dict_pairsH (PairArg.list a ((ts.map Value.ref).toArray) (fun j => ts.getD j 0) (prs.map fun x => (Value.ref x.2.1, x.2.2))) (I.ok.hd hc) (show X.A.units + 1 + 1 + 8 < cLine by omega) ⟨⟨o, n, ho, hcl, hd, hdat⟩, hitems⟩ hhave hstay (by rw [List.length_map]; exact hn) fun h' tk hd' hk => ?_
  have hlen : (storedAllH [] prs).length ≤ 100001 := by
    have := storedAllH_length prs []
    simp only [List.length_nil, Nat.zero_add] at this
    omega
  exact ⟨.ref s.heap.objs.size, upd H s.heap.objs.size (NDic X.prog X.w s.heap.objs.size (storedAllH [] prs)), I.laid (t' := tk) (fun b o e => hk b o (fun z => nomatch z) e) (Nat.le_refl _) (nd_ok (beq_eq_false_iff_ne.mpr (Nat.ne_of_gt I.big)) hlen hd'), rfl, q _ _ (I.hok.fresh (Nat.le_refl _)) rel⟩
/-- sorted(dict) -/
def rSortedN (X : Cx) : List V → Hp → VK → Prop := fun vs H Q => ∃ (a : Addr) (xs : List (NestedKey × Addr × Value)) (ds : List PyData) (G : Hp), vs = [.ref a] ∧ H a = some (NDic X.prog X.w a xs) ∧ NKeys X.K H xs ∧ Same G H ∧ RpA X.K G (xs.map fun x => V.ref x.2.1) ds ∧ PySem.W.AllAlike ds ∧ PySem.W.Sortable ds ∧ (∀ d ∈ ds, d.depth ≤ 50) ∧
  ∀ p ws, H p = none → RpA X.K G ws (sortD ds) → Q (.ref p) (upd H p (.lst ws))
theorem cr_sortedN (hc : X.calm = true) (hu : X.A.units + 64 < cLine) : CallR X (.builtin "sorted") (rSortedN X) := by
  intro pins s σ H vs us Q I r h
  obtain ⟨a, xs, ds, G, rfl, hx, hkx, hG, hr, hal, hk, hdp, q⟩ := h
  obtain ⟨u, eu, rx⟩ := vals1 r
  subst eu
  cases rx
  obtain ⟨g1, g2, o, es, ep, g3, g4, g5, g6, g7, g8⟩ := nd_at I hx hkx
  have hsz : es.size = xs.length := by rw [← Array.length_toList, g6, List.length_map]
  have h100 : (100001 : Nat) ≤ sizeLine := by decide
  refine Calls.call_function_entry PyProof.Rows.kind_sorted PyProof.Rows.plain_sorted PyProof.Rows.entry_sorted (PyProof.Rows.args_sorted1 _) ?_
  unfold Builtin.«sorted»
  refine wpAny_bind (m := checkCount "sorted" 1 1 _) (wpAny_pure ?_)
  refine wpAny_bind (PySem.W.kdu_collect (A := X.A.in1) (kdl_raw g1 g4 g5) (I.ok.hd hc) g3 (by omega) fun h' tk acc kp it => ?_)
  have ea : acc.toList = xs.map fun x => Value.ref x.2.1 := by
    apply List.ext_getElem?
    intro j
    rw [List.getElem?_map]
    have hl : acc.toList.length = xs.length := by rw [Array.length_toList, it.1, hsz]
    cases hj : acc.toList[j]? with
    | none =>
      have h1 := List.getElem?_eq_none_iff.mp hj
      rw [List.getElem?_eq_none (by omega)]
      rfl
    | some v =>
      obtain ⟨en, hen, hv⟩ := it.2 j v (by rw [← Array.getElem?_toList]; exact hj)
      have qe : es.toList[j]? = some en := by rw [Array.getElem?_toList]; exact hen
      rw [g6, List.getElem?_map] at qe
      cases hb : xs[j]? with
      | none => rw [hb] at qe; cases qe
      | some b =>
        rw [hb] at qe
        have e2 : entryOfKey (nestedKind X.prog X.w) b = en := Option.some.inj qe
        rw [hv, ← e2]
        rfl
  have hvals : Vals (xs.map fun x => V.ref x.2.1) (xs.map fun x => Value.ref x.2.1) := by
    clear hx hkx hr g2 g6 g7 g8 hsz ea
    induction xs with
    | nil => exact .nil
    | cons x xs ih => exact .cons rfl ih
  generalize hus : acc.toList = us at ea
  have I1 : Inv X pins σ H { s with heap := h', toks := tk } := I.kept kp
  rw [← ea] at hvals
  have hlen : us.length ≤ sizeLine := by rw [ea, List.length_map]; omega
  refine wpAny_bind (wpAny_newList ?_ hlen)
  have hoL : (h'.push (seqObj "list" us.toArray 0)).get? h'.objs.size = some (seqObj "list" us.toArray 0) := Heap.get?_push_size _ rfl
  show wpAny _ _ _ _ _ { s with heap := h'.push (seqObj "list" us.toArray 0), toks := tk }
  have er := each_reads I1 (hr.ext hG) hvals
  have er' : PySem.W.EachIs (fun v d => ∃ as, Reads (PySem.W.sortingHeap (h'.push (seqObj "list" us.toArray 0)) h'.objs.size us) v d as) us ds := er.mono fun _ _ ⟨as, r⟩ => ⟨as, PyProof.Rows.Reads.keeps (fun b o e => PySem.W.sortingHeap_old (Nat.ne_of_lt (Heap.lt_size e)) (Heap.get?_push_of_some _ e)) r⟩
  refine wpAny_bind (wpAny_holding (wpAny_call_entry PyProof.Rows.slot_list_sort ⟨_, hoL, rfl⟩ PyProof.Rows.entry_list_sort
    (PySem.W.list_sort_vals (s := { s with heap := h'.push (seqObj "list" us.toArray 0), toks := tk }) hoL (PySem.W.SortsAt.data (s := { s with heap := PySem.W.sortingHeap (h'.push (seqObj "list" us.toArray 0)) h'.objs.size us, toks := tk }) er' hal hk (fun d hd => ?_)) hlen ⟨_, rfl, ?_⟩) (PyProof.Rows.args_list_sort _)))
  · have := hdp d hd
    show X.A.units + 2 + d.depth < cLine
    omega
  obtain ⟨ws, h1, h2⟩ := each_back (PySem.W.sortVals_data (enc := id) (h' := PySem.W.sortingHeap (h'.push (seqObj "list" us.toArray 0)) h'.objs.size us) false (each_of hr hvals) er' (by rw [List.map_id]; exact hal))
  rw [List.map_id] at h1
  obtain ⟨e', he'⟩ := PyProof.Rows.sortedHeap_at (vs := us) (out := (PySem.W.sortVals (PySem.W.dataKind (PySem.W.sortingHeap (h'.push (seqObj "list" us.toArray 0)) h'.objs.size us) ds) false us us).toArray) hoL
  have hlw : ws.length ≤ sizeLine := by
    have := h2.len
    unfold sortD at this
    rw [List.length_mergeSort] at this
    have h3 := hr.len
    rw [List.length_map] at h3
    have h4 : (List.mergeSort ds (PySem.W.dataLe false id)).length = ds.length := List.length_mergeSort _
    have := h2.len
    omega
  refine wpAny_pure ⟨_, rfl, .ref h'.objs.size, upd H h'.objs.size (.lst ws), I1.laid (t' := tk) (fun b u e => ?_) (Nat.le_refl _) (show ObjOk X.prog X.w _ _ _ (.lst ws) from ⟨hlw, _, e', h1, he'⟩), rfl, q _ ws (I1.hok.fresh (Nat.le_refl _)) h2⟩
  have hb : b < h'.objs.size := Heap.lt_size e
  rw [PyProof.Rows.sortedHeap_old (Nat.ne_of_lt hb) (by rw [size_push']; exact Nat.lt_succ_of_lt hb)]
  exact Heap.get?_push_of_some _ e
end
end DL
namespace DL
open PySem PySem.Spec PyProof.Rows L2
/-! ### the same on data -/
def mergeN (acc more : List (NestedKey × PyData)) : List (NestedKey × PyData) := more.foldl (fun acc e => putN acc e.1 e.2) acc
section
variable {X : Cx} {B0 F B : Hp} {M : Cs} {ρ κ : List Sl} {P : Sl → Cs → Prop} {K : Fg} {e : Expr} {p pos : Pos}
theorem nr_stored : ∀ {ps : List (NestedKey × Addr × Value)} {es : List (NestedKey × PyData)} {xs : List (NestedKey × Addr × Value)} {acc : List (NestedKey × PyData)}, Paired (NRel K B) ps es → Paired (NRel K B) xs acc → Paired (NRel K B) (storedAllH xs ps) (mergeN acc es)
  | _, _, _, _, .nil, h => h
  | _, _, xs, acc, .cons (a := p) (b := e) h t, hx => by
    obtain ⟨h1, h2, h3, v, h4, h5⟩ := h
    unfold storedAllH mergeN
    rw [List.foldl_cons, List.foldl_cons, h1]
    exact nr_stored t (nr_put h2 h3 h4 h5 hx)
theorem psrc_of {H : Hp} (sm : Same B H) : ∀ {xs : List V} {es : List (NestedKey × PyData)}, (∀ e ∈ es, e.1.depth ≤ 8 ∧ ∃ ks, e.1 = .tup ks) → RpA K B xs (es.map fun e => .tuple [e.1.data, e.2]) →
    ∃ (ts : List Addr) (qs : List (NestedKey × Addr × V)), xs = ts.map V.ref ∧ Paired (PSrc K H) ts qs ∧ Paired (fun (q : NestedKey × Addr × V) (e : NestedKey × PyData) => q.1 = e.1 ∧ e.1.depth ≤ 8 ∧ Rp K B (.ref q.2.1) e.1.data ∧ Rp K B q.2.2 e.2) qs es
  | _, [], _, h => by cases h; exact ⟨[], [], rfl, .nil, .nil⟩
  | _, e :: es, hk, h => by
    cases h with
    | cons h1 h2 =>
      obtain ⟨ts, qs, rfl, i1, i2⟩ := psrc_of sm (es := es) (fun e he => hk e (List.mem_cons_of_mem _ he)) h2
      obtain ⟨t, ys, rfl, j1, j2⟩ := Rp.tup_inv h1
      obtain ⟨hd, ks, hks⟩ := hk e List.mem_cons_self
      cases j2 with
      | cons k1 k2 =>
        cases k2 with
        | cons k2 k3 =>
          cases k3
          have k1' := k1
          rw [hks, NestedKey.data] at k1'
          obtain ⟨b, zs, rfl, _, _⟩ := Rp.tup_inv k1'
          exact ⟨t :: ts, (e.1, b, _) :: qs, rfl, .cons ⟨same_t sm j1, hd, (k1.ext sm).dp⟩ i1, .cons ⟨rfl, hd, k1, k2⟩ i2⟩
theorem prel_nrel : ∀ {xs : List (NestedKey × Addr × Value)} {qs : List (NestedKey × Addr × V)} {es : List (NestedKey × PyData)}, Paired PRel xs qs → Paired (fun (q : NestedKey × Addr × V) (e : NestedKey × PyData) => q.1 = e.1 ∧ e.1.depth ≤ 8 ∧ Rp K B (.ref q.2.1) e.1.data ∧ Rp K B q.2.2 e.2) qs es → Paired (NRel K B) xs es
  | _, _, _, .nil, .nil => .nil
  | _, _, _, .cons h t, .cons g u => .cons ⟨h.1.trans g.1, g.2.1, by rw [h.2.1]; exact g.2.2.1, _, h.2.2, g.2.2.2⟩ (prel_nrel t u)
theorem rn_dictN {s : Sl} {es : List (NestedKey × PyData)} (q : SeqLs M s (es.map fun e => .tuple [e.1.data, e.2])) (hk : ∀ e ∈ es, e.1.depth ≤ 8 ∧ ∃ ks, e.1 = .tup ks) (hz : es.length ≤ 100000) (h : ∀ p, P (.v (.ref p)) ((p, .dn (NDic X.prog X.w p) (mergeN [] es)) :: M)) : RnD X.K B0 F ρ κ (rDictN X) [s] M P := fun σ vs H xs Q hl g qq => by
  obtain ⟨x, rfl⟩ := one_arg hl rfl
  obtain ⟨B, g⟩ := g
  obtain ⟨a, ys, rfl, h3, h4⟩ := q.at g g.fst
  obtain ⟨ts, qs, rfl, i1, i2⟩ := psrc_of g.bh hk h4
  refine ⟨a, ts, qs, rfl, h3, i1, ?_, fun p xs hp hx => qq _ _ _ _ ⟨B, (g.pop.cell (c := .dn (NDic X.prog X.w p) (mergeN [] es)) hp ⟨_, rfl, nr_stored (prel_nrel hx i2) .nil⟩).pushV⟩ (h p)⟩
  have := h4.len
  rw [List.length_map, List.length_map] at this
  omega
theorem de_dictN (hu : X.A.units + 64 < cLine) (gm : X.mg "dict" = none) (h : DE X B0 F M ρ κ e fun r M1 => ∃ es : List (NestedKey × PyData), SeqLs M1 r (es.map fun e => .tuple [e.1.data, e.2]) ∧ (∀ e ∈ es, e.1.depth ≤ 8 ∧ ∃ ks, e.1 = .tup ks) ∧ es.length ≤ 100000 ∧ ∀ p, P (.v (.ref p)) ((p, .dn (NDic X.prog X.w p) (mergeN [] es)) :: M1)) (hc : X.calm = true := by rfl) (hg : Gl X "dict" := by rfl) (hs : starEach [e] X.env = (false, eval e X.env) :: starEach [] X.env := by rfl) : DE X B0 F M ρ κ (.Call (.Name "dict" p) [e] [] pos) P :=
  de_callTy (cr_dictN hc hu) gm bt_dict (da_cons (fun σ vs H Q g q => h σ vs H Q g fun v H' r M' g' ⟨es, h1, h2, h3, h4⟩ => q v H' r M' g' (da_nil (rn_dictN h1 h2 h3 h4))) hs) hg (he := hs)
theorem keys_rp : ∀ {xs : List (NestedKey × Addr × Value)} {es : List (NestedKey × PyData)}, Paired (NRel K B) xs es → RpA K B (xs.map fun x => V.ref x.2.1) (es.map fun e => e.1.data)
  | _, _, .nil => .nil
  | _, _, .cons h t => .cons h.2.2.1 (keys_rp t)
theorem rn_sortedN {a : Addr} {es : List (NestedKey × PyData)} (hm : (a, .dn (NDic X.prog X.w a) es) ∈ M) (hal : PySem.W.AllAlike (es.map fun e => e.1.data)) (hk : PySem.W.Sortable (es.map fun e => e.1.data)) (hd : ∀ e ∈ es, e.1.data.depth ≤ 50) (h : ∀ l, P (.v (.ref l)) ((l, .lst (sortD (es.map fun e => e.1.data))) :: M)) : RnD X.K B0 F ρ κ (rSortedN X) [.v (.ref a)] M P := fun σ vs H xs Q hl g qq => by
  obtain ⟨x, rfl⟩ := one_arg hl rfl
  have ev := (show Good X.K B0 F M ρ (.v (.ref a) :: κ) σ (x :: vs) H from g).ref
  subst ev
  obtain ⟨B, g⟩ := g
  obtain ⟨xs, ho, hx⟩ := ndic_at g hm
  refine ⟨a, xs, _, B, rfl, ho, nr_keys (F := F) g.bh hx, g.bh, keys_rp hx, hal, hk, fun d hd' => ?_, fun p ws hp hw => qq _ _ _ _ ⟨B, ?_⟩ (h p)⟩
  · obtain ⟨e, he, rfl⟩ := List.mem_map.mp hd'
    exact hd e he
  · exact (g.pop.cell (c := .lst _) hp ⟨ws, rfl, hw⟩).pushV
theorem de_sortedDN (hu : X.A.units + 64 < cLine) (gm : X.mg "sorted" = none) (h : DE X B0 F M ρ κ e fun r M1 => ∃ (a : Addr) (es : List (NestedKey × PyData)), r = .v (.ref a) ∧ (a, .dn (NDic X.prog X.w a) es) ∈ M1 ∧ PySem.W.AllAlike (es.map fun e => e.1.data) ∧ PySem.W.Sortable (es.map fun e => e.1.data) ∧ (∀ e ∈ es, e.1.data.depth ≤ 50) ∧ ∀ l, P (.v (.ref l)) ((l, .lst (sortD (es.map fun e => e.1.data))) :: M1)) (hc : X.calm = true := by rfl) (hg : Gl X "sorted" := by rfl) (hs : starEach [e] X.env = (false, eval e X.env) :: starEach [] X.env := by rfl) : DE X B0 F M ρ κ (.Call (.Name "sorted" p) [e] [] pos) P :=
  de_callB (cr_sortedN hc hu) gm bt_sorted (da_cons (fun σ vs H Q g q => h σ vs H Q g fun v H' r M' g' ⟨a, es, h0, h1, h2, h3, h4, h5⟩ => by
    subst h0
    exact q v H' _ M' g' (da_nil (rn_sortedN h1 h2 h3 h4 h5))) hs) hg (he := hs)
end
end DL
set_option maxHeartbeats 1000000
/-! sorted(tuple) -/
namespace DL
open PySem PySem.Spec PyProof.Rows L2
section
variable {prog : Program} {w : World} {A : Around} {E : Value → Shared → Prop} {s : Shared}
theorem collectT {t : Addr} {us : List Value} {R : List Value → Shared → Prop} (ht : s.heap.IsTuple t us.toArray) (hn : us.length ≤ sizeLine)
    (hR : R us { s with heap := (s.heap.push (seqObj "list" #[] 0)).update s.heap.objs.size (Obj.mapSeq (· ++ us.toArray)) }) : wpAny (model prog w) A (collect (.ref t)) R E s := by
  obtain ⟨ob, hob, hcls, m, hdt⟩ := id ht
  unfold collect
  refine wpAny_bind (wpAny_runValue (codeAny_builtin entry_proto_collect' ?_))
  show wpAny _ _ (newList [] >>= fun z => again (.builtin "list.__iadd__" ⟨[z, .ref t], []⟩)) _ _ s
  refine wpAny_bind (wpAny_newList (wpAny_pure ⟨Code.quiet_builtin _ (by decide +kernel), codeAny_builtin entry_list_iadd' ?_⟩))
  show wpAny _ _ (Builtin.List.listExtendWith (.ref s.heap.objs.size) (.ref t) (.ref s.heap.objs.size)) _ _ { s with heap := s.heap.push (seqObj "list" #[] 0) }
  unfold Builtin.List.listExtendWith
  have hob' : (s.heap.push (seqObj "list" #[] 0)).get? t = some ob := Heap.get?_push_of_some _ hob
  refine wpAny_bind (wpAny_typeOf (T := "tuple") ⟨ob, hob', hcls⟩ ?_)
  have hb : ((Value.type "tuple" == Value.type "list") || (Value.type "tuple" == Value.type "tuple")) = true := by rfl
  rw [if_pos (by first | exact hb | simp)]
  refine wpAny_bind (listItems_at hob' hdt ?_)
  refine wpAny_bind (listItems_at (xs := #[]) (n := 0) (Heap.get?_push_size _ rfl) rfl ?_)
  rw [if_neg (by simp)]
  refine wpAny_bind (listUpdate_at (xs := #[]) (n := 0) (Heap.get?_push_size _ rfl) rfl ?_ (Nat.zero_le _) (by
    show (#[] ++ us.toArray).size ≤ sizeLine + 1
    simp only [Array.size_append, List.size_toArray, List.length_nil]
    omega))
  refine wpAny_pure ?_
  show wpAny (model prog w) A (do
      let z ← load s.heap.objs.size
      match z.data with
      | .seq ys _ => pure ys.toList
      | _ => unsupported "internal:collect") R E { s with heap := (s.heap.push (seqObj "list" #[] 0)).update s.heap.objs.size (Obj.mapSeq (· ++ us.toArray)) }
  refine wpAny_bind (wpAny_load (get?_update_seq (Heap.get?_push_size _ rfl) _) ?_)
  show wpAny _ _ (pure ((#[] : Array Value) ++ us.toArray).toList) R E _
  rw [show ((#[] : Array Value) ++ us.toArray).toList = us by simp]
  exact wpAny_pure hR
end
section
variable {X : Cx} {pins : List (Addr × Obj)} {σ : L2.St} {H : Hp} {s : Shared}
def rSortedTu (K : Fg) : List V → Hp → VK → Prop := fun vs H Q => ∃ (a : Addr) (xs : List V) (ds : List PyData) (G : Hp), vs = [.ref a] ∧ SqT K H a xs ∧ Same G H ∧ RpA K G xs ds ∧ PySem.W.AllAlike ds ∧ PySem.W.Sortable ds ∧ ds.length ≤ 100000 ∧ (∀ d ∈ ds, d.depth ≤ 50) ∧
  ∀ p ws, H p = none → RpA K G ws (sortD ds) → Q (.ref p) (upd H p (.lst ws))
theorem cr_sortedTu (hu : X.A.units + 64 < cLine) : CallR X (.builtin "sorted") (rSortedTu X.K) := by
  intro pins s σ H vs us Q I r h
  obtain ⟨a, xs, ds, G, rfl, hx, hG, hr, hal, hk, hz, hdp, q⟩ := h
  obtain ⟨u, eu, rx⟩ := vals1 r
  subst eu
  cases rx
  obtain ⟨us, hvals, ht, hzz⟩ := I.tuple hx
  have hlen : us.length ≤ sizeLine := by
    have h1 := hvals.length
    have h2 := hr.len
    have h3 : (100000 : Nat) ≤ sizeLine := by decide
    omega
  refine Calls.call_function_entry PyProof.Rows.kind_sorted PyProof.Rows.plain_sorted PyProof.Rows.entry_sorted (PyProof.Rows.args_sorted1 _) ?_
  unfold Builtin.«sorted»
  refine wpAny_bind (m := checkCount "sorted" 1 1 _) (wpAny_pure ?_)
  refine wpAny_bind (collectT ht hlen ?_)
  generalize hh : (s.heap.push (seqObj "list" #[] 0)).update s.heap.objs.size (Obj.mapSeq (· ++ us.toArray)) = h'
  have kp : ∀ (b : Addr) (o : Obj), s.heap.get? b = some o → h'.get? b = some o := fun b o e => by
    have hne : b ≠ s.heap.objs.size := Nat.ne_of_lt (Heap.lt_size e)
    rw [← hh, Heap.get?_update_ne _ _ _ _ hne]
    exact Heap.get?_push_of_some _ e
  have hsz : s.heap.objs.size ≤ h'.objs.size := by
    rw [← hh, Heap.size_update, size_push']
    exact Nat.le_succ _
  have I1 : Inv X pins σ H { s with heap := h' } := I.kept (t' := s.toks) kp
  refine wpAny_bind (wpAny_newList ?_ hlen)
  have hoL : (h'.push (seqObj "list" us.toArray 0)).get? h'.objs.size = some (seqObj "list" us.toArray 0) := Heap.get?_push_size _ rfl
  show wpAny _ _ _ _ _ { s with heap := h'.push (seqObj "list" us.toArray 0) }
  have er := each_reads I1 (hr.ext hG) hvals
  have er' : PySem.W.EachIs (fun v d => ∃ as, Reads (PySem.W.sortingHeap (h'.push (seqObj "list" us.toArray 0)) h'.objs.size us) v d as) us ds := er.mono fun _ _ ⟨as, r⟩ => ⟨as, PyProof.Rows.Reads.keeps (fun b o e => PySem.W.sortingHeap_old (Nat.ne_of_lt (Heap.lt_size e)) (Heap.get?_push_of_some _ e)) r⟩
  refine wpAny_bind (wpAny_holding (wpAny_call_entry PyProof.Rows.slot_list_sort ⟨_, hoL, rfl⟩ PyProof.Rows.entry_list_sort
    (PySem.W.list_sort_vals (s := { s with heap := h'.push (seqObj "list" us.toArray 0) }) hoL (PySem.W.SortsAt.data (s := { s with heap := PySem.W.sortingHeap (h'.push (seqObj "list" us.toArray 0)) h'.objs.size us }) er' hal hk (fun d hd => ?_)) hlen ⟨_, rfl, ?_⟩) (PyProof.Rows.args_list_sort _)))
  · have := hdp d hd
    show X.A.units + 2 + d.depth < cLine
    omega
  obtain ⟨ws, h1, h2⟩ := each_back (PySem.W.sortVals_data (enc := id) (h' := PySem.W.sortingHeap (h'.push (seqObj "list" us.toArray 0)) h'.objs.size us) false (each_of hr hvals) er' (by rw [List.map_id]; exact hal))
  rw [List.map_id] at h1
  obtain ⟨e', he'⟩ := PyProof.Rows.sortedHeap_at (vs := us) (out := (PySem.W.sortVals (PySem.W.dataKind (PySem.W.sortingHeap (h'.push (seqObj "list" us.toArray 0)) h'.objs.size us) ds) false us us).toArray) hoL
  have hlw : ws.length ≤ sizeLine := by
    have h4 : (List.mergeSort ds (PySem.W.dataLe false id)).length = ds.length := List.length_mergeSort _
    have := h2.len
    have h3 : (100000 : Nat) ≤ sizeLine := by decide
    omega
  refine wpAny_pure ⟨_, rfl, .ref h'.objs.size, upd H h'.objs.size (.lst ws), I1.laid (t' := s.toks) (fun b u e => ?_) (Nat.le_refl _) (show ObjOk X.prog X.w _ _ _ (.lst ws) from ⟨hlw, _, e', h1, he'⟩), rfl, q _ ws (I1.hok.fresh (Nat.le_refl _)) h2⟩
  have hb : b < h'.objs.size := Heap.lt_size e
  rw [PyProof.Rows.sortedHeap_old (Nat.ne_of_lt hb) (by rw [size_push']; exact Nat.lt_succ_of_lt hb)]
  exact Heap.get?_push_of_some _ e
end
section
variable {X : Cx} {B0 F B : Hp} {M : Cs} {ρ κ : List Sl} {P : Sl → Cs → Prop} {K : Fg} {e : Expr} {p pos : Pos}
theorem rn_sortedTu {ds : List PyData} (hal : PySem.W.AllAlike ds) (hk : PySem.W.Sortable ds) (hz : ds.length ≤ 100000) (hd : ∀ d ∈ ds, d.depth ≤ 50) (h : ∀ l, P (.v (.ref l)) ((l, .lst (sortD ds)) :: M)) : RnD K B0 F ρ κ (rSortedTu K) [.d (.tuple ds)] M P := fun σ vs H xs Q hl g qq => by
  obtain ⟨x, rfl⟩ := one_arg hl rfl
  obtain ⟨B, g⟩ := g
  obtain ⟨a, ys, rfl, h3, h4⟩ := Rp.tup_inv (show Rp K B x (.tuple ds) from g.fst)
  exact ⟨a, ys, ds, B, rfl, same_t g.bh h3, g.bh, h4, hal, hk, hz, hd, fun p ws hp hw => qq _ _ _ _ ⟨B, (g.pop.cell (c := .lst _) hp ⟨ws, rfl, hw⟩).pushV⟩ (h p)⟩
theorem de_sortedTu (hu : X.A.units + 64 < cLine) (gm : X.mg "sorted" = none) (h : DE X B0 F M ρ κ e fun r M1 => ∃ ds : List PyData, r = .d (.tuple ds) ∧ PySem.W.AllAlike ds ∧ PySem.W.Sortable ds ∧ ds.length ≤ 100000 ∧ (∀ d ∈ ds, d.depth ≤ 50) ∧ ∀ l, P (.v (.ref l)) ((l, .lst (sortD ds)) :: M1)) (hg : Gl X "sorted" := by rfl) (hs : starEach [e] X.env = (false, eval e X.env) :: starEach [] X.env := by rfl) : DE X B0 F M ρ κ (.Call (.Name "sorted" p) [e] [] pos) P :=
  de_callB (cr_sortedTu hu) gm bt_sorted (da_cons (fun σ vs H Q g q => h σ vs H Q g fun v H' r M' g' ⟨ds, h0, h1, h2, h3, h4, h5⟩ => by
    subst h0
    exact q v H' _ M' g' (da_nil (rn_sortedTu h1 h2 h3 h4 h5))) hs) hg (he := hs)
/-! ### rows of pairs -/
abbrev Eds := List (Nat × Nat)
def epD (e : Nat × Nat) : PyData := .tuple [.int e.1, .int e.2]
theorem alike_pr {es : Eds} : PySem.W.AllAlike (es.map epD) := fun d hd d' hd' => by
  obtain ⟨x, _, rfl⟩ := List.mem_map.mp hd
  obtain ⟨y, _, rfl⟩ := List.mem_map.mp hd'
  simp [epD, PySem.W.alike, PySem.W.alikeAll]
theorem sortable_pr {es : Eds} : PySem.W.Sortable (es.map epD) := .inl fun d hd => by
  obtain ⟨x, _, rfl⟩ := List.mem_map.mp hd
  exact ⟨_, _, rfl⟩
theorem depth_pr {es : Eds} : ∀ d ∈ es.map epD, d.depth ≤ 50 := fun d hd => by
  obtain ⟨x, _, rfl⟩ := List.mem_map.mp hd
  simp [epD, PyData.depth, PyData.depthAll]
def lePr (a b : Nat × Nat) : Bool := decide (a.1 < b.1 ∨ (a.1 = b.1 ∧ a.2 ≤ b.2))
theorem lePr_data (a b : Nat × Nat) : PySem.W.dataLe false id (epD a) (epD b) = lePr a b := by
  show (!PySem.W.dataLt (.tuple [.int (b.1 : Nat), .int (b.2 : Nat)]) (.tuple [.int (a.1 : Nat), .int (a.2 : Nat)])) = _
  unfold lePr
  rw [PySem.W.dataLt_ii, Bool.eq_iff_iff]
  simp only [Bool.not_eq_true', decide_eq_false_iff_not, decide_eq_true_iff]
  omega
theorem sort_pr (es : Eds) : ∃ T : Eds, sortD (es.map epD) = T.map epD ∧ T.Perm es ∧ T.Pairwise fun a b => a.1 < b.1 ∨ (a.1 = b.1 ∧ a.2 ≤ b.2) := by
  refine ⟨es.mergeSort lePr, ?_, List.mergeSort_perm _ _, ?_⟩
  · unfold sortD
    rw [List.map_mergeSort]
    intro a _ b _
    exact (lePr_data a b).symm
  · refine (List.pairwise_mergeSort (fun a b c h1 h2 => ?_) (fun a b => ?_) es).imp fun h => ?_
    · unfold lePr at *
      simp only [decide_eq_true_iff] at *
      omega
    · unfold lePr
      simp only [Bool.or_eq_true, decide_eq_true_iff]
      omega
    · unfold lePr at h
      simpa using h
end
end DL
set_option maxHeartbeats 1000000
namespace DL
open PySem PySem.Spec PyProof.Rows L2
theorem valN_key {es : List (NestedKey × PyData)} {k : NestedKey} : (valN es k).isSome = true ↔ k ∈ es.map (·.1) := by
  unfold valN
  rw [Option.isSome_map, List.find?_isSome, List.mem_map]
  exact ⟨fun ⟨e, h, he⟩ => ⟨e, h, of_decide_eq_true he⟩, fun ⟨e, h, he⟩ => ⟨e, h, decide_eq_true he⟩⟩
theorem putN_keys (es : List (NestedKey × PyData)) (k : NestedKey) (d : PyData) : (putN es k d).map (·.1) = if k ∈ es.map (·.1) then es.map (·.1) else es.map (·.1) ++ [k] := by
  unfold putN
  by_cases c : (valN es k).isSome = true
  · rw [if_pos c, if_pos (valN_key.mp c), List.map_map]
    refine List.map_congr_left fun e _ => ?_
    show (if e.1 = k then (e.1, d) else e).1 = e.1
    split <;> rfl
  · rw [if_neg c, if_neg fun h => c (valN_key.mpr h), List.map_append]
    rfl
theorem mergeN_keys : ∀ (more acc : List (NestedKey × PyData)), (acc.map (·.1)).Nodup → ((mergeN acc more).map (·.1)).Nodup ∧ ∀ k, k ∈ (mergeN acc more).map (·.1) ↔ k ∈ acc.map (·.1) ∨ k ∈ more.map (·.1)
  | [], acc, h => ⟨h, fun k => by simp [mergeN]⟩
  | e :: more, acc, h => by
    have h1 : ((putN acc e.1 e.2).map (·.1)).Nodup := by
      rw [putN_keys]
      split
      · exact h
      · rename_i c
        exact List.nodup_append.mpr ⟨h, by simp, fun a ha b hb z => c (by rw [List.mem_singleton.mp hb] at z; exact z ▸ ha)⟩
    obtain ⟨h2, h3⟩ := mergeN_keys more (putN acc e.1 e.2) h1
    refine ⟨h2, fun k => (h3 k).trans ?_⟩
    rw [putN_keys, List.map_cons, List.mem_cons]
    split
    · rename_i c
      exact ⟨fun z => z.elim .inl fun z => .inr (.inr z), fun z => z.elim .inl fun z => z.elim (fun z => .inl (z ▸ c)) .inr⟩
    · rw [List.mem_append, List.mem_singleton]
      exact ⟨fun z => z.elim (fun z => z.elim .inl fun z => .inr (.inl z)) fun z => .inr (.inr z), fun z => z.elim (fun z => .inl (.inl z)) fun z => z.elim (fun z => .inl (.inr z)) .inr⟩
/-! pairs as keys -/
def keyP (e : Nat × Nat) : NestedKey := .tup [.num (e.1 : Int), .num (e.2 : Int)]
theorem keyP_inj {e f : Nat × Nat} (h : keyP e = keyP f) : e = f := by
  unfold keyP at h
  injection h with h
  rw [List.cons.injEq, List.cons.injEq] at h
  obtain ⟨h1, h2, _⟩ := h
  injection h1 with h1
  injection h2 with h2
  exact Prod.ext (by omega) (by omega)
theorem keyP_data (e : Nat × Nat) : (keyP e).data = epD e := by
  unfold keyP epD
  rw [NestedKey.data, NestedKey.datas, NestedKey.datas, NestedKey.datas, NestedKey.data, NestedKey.data]
theorem keyP_depth (e : Nat × Nat) : (keyP e).depth ≤ 8 := by
  unfold keyP
  rw [NestedKey.depth, NestedKey.depthAll, NestedKey.depthAll, NestedKey.depthAll, NestedKey.depth, NestedKey.depth]
  decide
/-- sorted(dict of pairs): each pair once, going up -/
theorem dict_pr (es : Eds) (d : PyData) : ∃ L T : Eds, (mergeN [] (es.map fun e => (keyP e, d))).map (fun e => e.1.data) = L.map epD ∧ sortD (L.map epD) = T.map epD ∧ T.Nodup ∧ (∀ e, e ∈ T ↔ e ∈ es) ∧ T.length ≤ es.length := by
  obtain ⟨h1, h2⟩ := mergeN_keys (es.map fun e => (keyP e, d)) [] List.nodup_nil
  have h3 : ∀ k, k ∈ (mergeN [] (es.map fun e => (keyP e, d))).map (·.1) → ∃ e ∈ es, k = keyP e := fun k hk => by
    rcases (h2 k).mp hk with h | h
    · cases h
    · rw [List.map_map] at h
      obtain ⟨e, he, rfl⟩ := List.mem_map.mp h
      exact ⟨e, he, rfl⟩
  have h4 : ∀ ks : List NestedKey, (∀ k ∈ ks, ∃ e ∈ es, k = keyP e) → ∃ L : Eds, ks = L.map keyP := fun ks => by
    induction ks with
    | nil => exact fun _ => ⟨[], rfl⟩
    | cons k ks ih =>
      intro h
      obtain ⟨L, rfl⟩ := ih fun k hk => h k (List.mem_cons_of_mem _ hk)
      obtain ⟨e, _, rfl⟩ := h k List.mem_cons_self
      exact ⟨e :: L, rfl⟩
  obtain ⟨L, hL⟩ := h4 _ h3
  obtain ⟨T, e1, e2, _⟩ := sort_pr L
  have hnd : L.Nodup := by
    rw [hL] at h1
    exact (List.pairwise_map.mp h1).imp fun h z => h (by rw [z])
  have hme : ∀ e, e ∈ L ↔ e ∈ es := fun e => by
    have := h2 (keyP e)
    rw [hL, List.mem_map, List.map_map] at this
    constructor
    · intro h
      rcases this.mp ⟨e, h, rfl⟩ with z | z
      · cases z
      · obtain ⟨f, hf, e3⟩ := List.mem_map.mp z
        exact keyP_inj (show keyP f = keyP e from e3) ▸ hf
    · intro h
      obtain ⟨f, hf, e3⟩ := this.mpr (.inr (List.mem_map.mpr ⟨e, h, rfl⟩))
      exact keyP_inj e3 ▸ hf
  refine ⟨L, T, ?_, e1, e2.nodup_iff.mpr hnd, fun e => e2.mem_iff.trans (hme e), ?_⟩
  · rw [show (fun e : NestedKey × PyData => e.1.data) = NestedKey.data ∘ (·.1) from rfl, ← List.map_map, hL, List.map_map]
    exact List.map_congr_left fun e _ => keyP_data e
  · rw [e2.length_eq]
    have : ∀ (a b : Eds), a.Nodup → (∀ x ∈ a, x ∈ b) → a.length ≤ b.length := fun a => by
      induction a with
      | nil => exact fun _ _ _ => Nat.zero_le _
      | cons x a ih =>
        intro b hn hs
        obtain ⟨n1, n2⟩ := List.nodup_cons.mp hn
        have hx := hs x List.mem_cons_self
        have h5 := ih (b.erase x) n2 fun y hy => (List.mem_erase_of_ne fun z => n1 (by rw [← z]; exact hy)).mpr (hs y (List.mem_cons_of_mem _ hy))
        rw [List.length_erase_of_mem hx] at h5
        have := List.length_pos_of_mem hx
        rw [List.length_cons]
        omega
    exact this L es hnd fun x hx => (hme x).mp hx
end DL
set_option maxHeartbeats 1000000
namespace DL
open PySem PySem.Spec PyProof.Rows L2
section
variable {X : Cx} {B0 F : Hp} {M : Cs} {ρ κ : List Sl} {P : Sl → Cs → Prop} {a : Expr} {p p2 p3 pos : Pos}
/-- tuple(range(a)) -/
theorem de_tupRgA (hm : X.mg "tuple" = none) (hm2 : X.mg "range" = none) (h : DE X B0 F M ρ κ a fun r M1 => ∃ n, r = .d (.int n) ∧ RgOk 0 n ∧ P (.d (.tuple (rngD 0 n.toNat))) M1) (hc : X.calm = true := by rfl) (hg : Gl X "tuple" := by rfl) (hg2 : Gl X "range" := by rfl)
    (n1 : starEach [.Call (.Name "range" p2) [a] [] p3] X.env = (false, eval (.Call (.Name "range" p2) [a] [] p3) X.env) :: starEach [] X.env := by rfl) (n2 : starEach [a] X.env = (false, eval a X.env) :: starEach [] X.env := by rfl) : DE X B0 F M ρ κ (.Call (.Name "tuple" p) [.Call (.Name "range" p2) [a] [] p3] [] pos) P := fun σ vs H Q g q => tOf_of (pe_tupRg hc hg hm (prg_1 hg2 hm2 pe_self n2) n1) (h σ vs H _ g fun v H1 r M1 g1 h1 => by
    obtain ⟨n, rfl, ok, hp⟩ := h1
    have e := g1.int
    subst e
    refine ⟨n, rfl, ok, fun l hl => q _ _ _ M1 ?_ hp⟩
    obtain ⟨B, g1⟩ := g1
    have e : (n - 0).toNat = n.toNat := by omega
    exact ⟨_, (g1.pop.laid (o := .tup (rgV 0 n)) hl).pushD (.tup (SqT.of upd_same) (by rw [← e]; exact rngV_rp 0 n))⟩)
end
end DL
set_option maxHeartbeats 1000000
/-! comprehensions of two walks -/
namespace DL
open PySem PySem.Spec PyProof.Rows L2
section
variable {X : Cx} {B0 F : Hp} {M : Cs} {ρ κ : List Sl} {elt iter iter1 c e : Expr} {scope : Scope} {pos : Pos} {P : Sl → Cs → Prop}
theorem up_slots {K : Fg} {M' : Cs} {ρ κ : List Sl} {s : Sl} {σ : L2.St} {v : V} {vs : List V} {H' : Hp} (g : Good K B0 F M' ρ (s :: κ) σ (v :: vs) H') : Good K B0 F M' ρ (s :: (ρ ++ κ)) σ (v :: (valsOf σ ++ vs)) H' := by
  obtain ⟨B, g⟩ := g
  refine ⟨B, g.stk ?_⟩
  cases g.st with
  | cons k1 k2 => exact .cons k1 (Paired.app (kok_slots g.sl) k2)
theorem down_slots {K : Fg} {M' : Cs} {ρ ρ' κ : List Sl} {s : Sl} {σ σ' : L2.St} {v : V} {vs : List V} {H' : Hp} (hsh : Shape σ ρ) (g : Good K B0 F M' ρ' (s :: (ρ ++ κ)) σ' (v :: (valsOf σ ++ vs)) H') : Good K B0 F M' ρ (s :: κ) σ (v :: vs) H' := by
  obtain ⟨B, g⟩ := g
  have hlen : (valsOf σ).length = ρ.length := by
    have := Paired.length hsh
    simp [valsOf, this]
  cases g.st with
  | cons k1 k2 =>
    obtain ⟨k3, k4⟩ := kok_split hlen k2
    exact ⟨B, (g.slt (sok_back hsh k3)).stk (.cons k1 k4)⟩
theorem good_shape {K : Fg} {M' : Cs} {ρ κ : List Sl} {σ : L2.St} {vs : List V} {H' : Hp} (g : Good K B0 F M' ρ κ σ vs H') : Shape σ ρ := by
  obtain ⟨B, g⟩ := g
  exact shape_of g.sl
theorem eq_take_of {α : Type} {l : List α} {i : Nat} {d : α} (h : l[i]? = some d) : l.take (i + 1) = l.take i ++ [d] := take_get h
/-- [elt for x in iter for y in iter1 if c]: nothing is changed on the way -/
theorem de_lcGG (i j : Nat) (hij : i ≠ j) (rows : PyData → List PyData) (t : PyData → PyData → Bool) (f : PyData → PyData → PyData) {x y : Str} {px py : Pos}
    (h : DI X B0 F M ρ κ (.Name x px) iter fun ds s Src M1 => (ds.flatMap rows).length ≤ 100000 ∧ (∀ D acc, Src ((D, .lst acc) :: M1)) ∧
      (∀ d D acc, d ∈ ds → ∀ b : BA, DI (bk X scope b) B0 F ((D, .lst acc) :: M1) (((ρ.set j .un).set i .un).set i (.d d)) (s :: (ρ ++ κ)) (.Name y py) iter1 fun es s1 Src1 M2 => es = rows d ∧ M2 = (D, .lst acc) :: M1 ∧ (∀ acc', Src1 ((D, .lst acc') :: M1)) ∧
        (∀ e acc', e ∈ es → ∀ b : BA, DT (bk X scope b) B0 F ((D, .lst acc') :: M1) (((((ρ.set j .un).set i .un).set i (.d d)).set j .un).set j (.d e)) (s1 :: ((((ρ.set j .un).set i .un).set i (.d d)) ++ (s :: (ρ ++ κ)))) c fun k M3 => k = t d e ∧ M3 = (D, .lst acc') :: M1) ∧
        (∀ e acc', e ∈ es → t d e = true → ∀ b : BA, DE (bk X scope b) B0 F ((D, .lst acc') :: M1) (((((ρ.set j .un).set i .un).set i (.d d)).set j .un).set j (.d e)) (s1 :: ((((ρ.set j .un).set i .un).set i (.d d)) ++ (s :: (ρ ++ κ)))) elt fun r M3 => r = .d (f d e) ∧ M3 = (D, .lst acc') :: M1)) ∧
      ∀ D, P (.v (.ref D)) ((D, .lst (ds.flatMap fun d => ((rows d).filter (t d)).map (f d))) :: M1))
    (hN : X.N.Nodup := by exact (by assumption)) (ok : BlkOk X.N X.env.scope scope [(x, i), (y, j)] := by exact blkOk_by (by kernel_rfl)) (hg : ∀ b : BA, PG (bk X scope b) (.Name x px) (gName i) := by exact fun b => pg_name (by assumption) rfl (by first | exact Or.inl rfl | exact Or.inr rfl))
    (hg1 : ∀ b : BA, PG (bk X scope b) (.Name y py) (gName j) := by exact fun b => pg_name (by assumption) rfl (by first | exact Or.inl rfl | exact Or.inr rfl))
    (hc : X.calm = true := by rfl) (hs : ∀ x, foldedSetIterable iter X.env x = pure x := by intro _; rfl) (hs1 : ∀ env x, foldedSetIterable iter1 env x = pure x := by intro _ _; rfl) : DE X B0 F M ρ κ (.ListComp elt [⟨.Name x px, iter, [], 0⟩, ⟨.Name y py, iter1, [c], 0⟩] scope pos) P := fun σ vs H Q g0 q => by
  refine tOf_of (pe_lc2 (own := [(x, i), (y, j)]) (vs1 := [j]) (g := gName i) (g1 := gName j) (tt := tYes) (tt1 := fun σ H Q => ∀ b : BA, tOfT (bk X scope b) c σ H Q) (te := fun σ H Q => ∀ b : BA, tOf (bk X scope b) elt σ H Q)
    (wi1 := fun σ H R => ∀ b : BA, tOfI (bk X scope b) (.Name y py) iter1 σ H R) hc hN pi_self ok (by simp) (fun s H C cl fp => hg ⟨s, H, C, cl, fp⟩) (fun _ _ _ _ _ => pts_nil)
    (fun s H C cl fp => ⟨fun pins s' σ' H' R I z => z ⟨s, H, C, cl, fp⟩ pins s' I⟩) (fun s H C cl fp => hg1 ⟨s, H, C, cl, fp⟩)
    (fun s H C cl fp => ⟨fun pins s' σ' H' Q' I z => (pts_one pt_self).run pins s' σ' H' Q' I (z ⟨s, H, C, cl, fp⟩)⟩) (fun s H C cl fp => ⟨fun pins s' σ' H' Q' I z => z ⟨s, H, C, cl, fp⟩ pins s' I⟩) hs hs1) ?_
  have hsh := good_shape g0
  refine h σ vs H _ g0 fun J H1 M1 ds s v Src g1 dw hsrc hr D hD => ?_
  obtain ⟨hlen, hsr, hst, hd⟩ := hr
  let app : PyData → List PyData := fun d => ((rows d).filter (t d)).map (f d)
  have lenT : ∀ k, ((ds.take k).flatMap app).length ≤ ((ds.take k).flatMap rows).length := fun k => by
    induction ds.take k with
    | nil => simp
    | cons d l ih =>
      rw [List.flatMap_cons, List.flatMap_cons, List.length_append, List.length_append]
      have : (app d).length ≤ (rows d).length := by
        show (List.map _ _).length ≤ _
        rw [List.length_map]
        exact List.length_filter_le _ _
      omega
  have lenU : ∀ k, ((ds.take k).flatMap rows).length ≤ 100000 := fun k => by
    have e := congrArg (fun l => (l.flatMap rows).length) (List.take_append_drop k ds)
    simp only [List.flatMap_append, List.length_append] at e
    omega
  refine ⟨fun n m H' => m = ds.length - n ∧ n ≤ ds.length ∧ Good X.K B0 F ((D, .lst ((ds.take n).flatMap app)) :: M1) ρ (s :: κ) σ (v :: vs) H', ⟨ds.length, by simp, Nat.zero_le _, ?_⟩, ?_⟩
  · obtain ⟨B, g1⟩ := g1
    exact ⟨B, g1.cell (c := .lst []) hD ⟨[], rfl, .nil⟩⟩
  rintro n m H' ⟨rfl, hn, g'⟩
  by_cases hlt : n < ds.length
  · obtain ⟨d, hdd⟩ : ∃ d, ds[n]? = some d := ⟨ds[n], by simp [hlt]⟩
    have hdm := List.mem_of_getElem? hdd
    have eT : (ds.take (n + 1)).flatMap app = (ds.take n).flatMap app ++ app d := by rw [take_get hdd, List.flatMap_append]; simp
    have eU : ((ds.take (n + 1)).flatMap rows).length = ((ds.take n).flatMap rows).length + (rows d).length := by rw [take_get hdd, List.flatMap_append]; simp
    refine .inr ⟨dw.go n _ ρ κ σ vs H' (hsr _ _) g' hlt, fun H2 => Good X.K B0 F ((D, .lst ((ds.take (n + 1)).flatMap app)) :: M1) ρ (s :: κ) σ (v :: vs) H2, fun H2 g2 => ⟨ds.length - (n + 1), by omega, rfl, hlt, g2⟩, fun z H2 yl => ⟨?_, ?_⟩⟩
    · show wipe ((wipe σ [i, j]).set i (some z)) [i, j] = wipe σ [i, j]
      rw [wipe_set (by simp)]
      show ((((σ.set j none).set i none).set j none).set i none) = (σ.set j none).set i none
      have e1 : ((σ.set j none).set i none).set j none = (σ.set j none).set i none := by rw [List.set_comm none none hij, List.set_set]
      rw [e1, List.set_set]
    unfold tYes
    dsimp only
    rw [if_pos rfl]
    intro b
    have g2 := dw.yld n _ ρ (ρ ++ κ) σ (valsOf σ ++ vs) H' z H2 d (hsr _ _) (up_slots g') hdd yl
    have g3 : Good X.K B0 F ((D, .lst ((ds.take n).flatMap app)) :: M1) (((ρ.set j .un).set i .un).set i (.d d)) (s :: (ρ ++ κ)) ((wipe σ [i, j]).set i (some z)) (v :: (valsOf σ ++ vs)) H2 := by
      obtain ⟨B, g2⟩ := g2
      exact ⟨B, (g2.pop.slt (Paired.set (OOk.of g2.fst) i (sok_wipe g2.sl [i, j])))⟩
    have hsh2 := good_shape g3
    refine hst d D ((ds.take n).flatMap app) hdm b _ _ H2 _ g3 fun J1 H4 M2 es s1 v1 Src1 g4 dw1 hsrc1 hr1 => ?_
    obtain ⟨hes, hM2, hsr1, ht1, he1⟩ := hr1
    subst hM2
    subst hes
    refine ⟨fun l k H' => k = (rows d).length - l ∧ l ≤ (rows d).length ∧ Good X.K B0 F ((D, .lst ((ds.take n).flatMap app ++ (((rows d).take l).filter (t d)).map (f d))) :: M1) (((ρ.set j .un).set i .un).set i (.d d)) (s1 :: s :: (ρ ++ κ)) ((wipe σ [i, j]).set i (some z)) (v1 :: v :: (valsOf σ ++ vs)) H', ⟨(rows d).length, by simp, Nat.zero_le _, by simpa using g4⟩, ?_⟩
    rintro l k H5 ⟨rfl, hl, g5⟩
    by_cases hlt1 : l < (rows d).length
    · obtain ⟨e, hee⟩ : ∃ e, (rows d)[l]? = some e := ⟨(rows d)[l], by simp [hlt1]⟩
      have hem := List.mem_of_getElem? hee
      refine .inr ⟨dw1.go l _ _ (s :: (ρ ++ κ)) _ _ H5 (hsr1 _) g5 hlt1, fun H6 => Good X.K B0 F ((D, .lst ((ds.take n).flatMap app ++ (((rows d).take (l + 1)).filter (t d)).map (f d))) :: M1) (((ρ.set j .un).set i .un).set i (.d d)) (s1 :: s :: (ρ ++ κ)) ((wipe σ [i, j]).set i (some z)) (v1 :: v :: (valsOf σ ++ vs)) H6, fun H6 g6 => ⟨(rows d).length - (l + 1), by omega, rfl, hlt1, g6⟩, fun z1 H6 yl1 => ⟨?_, ?_⟩⟩
      · show ((((wipe σ [i, j]).set i (some z)).set j none).set j (some z1)).set j none = ((wipe σ [i, j]).set i (some z)).set j none
        rw [List.set_set, List.set_set]
      intro b1
      have g6 := dw1.yld l _ _ _ _ _ H5 z1 H6 e (hsr1 _) (up_slots g5) hee yl1
      have g7 : Good X.K B0 F ((D, .lst ((ds.take n).flatMap app ++ (((rows d).take l).filter (t d)).map (f d))) :: M1) (((((ρ.set j .un).set i .un).set i (.d d)).set j .un).set j (.d e)) (s1 :: ((((ρ.set j .un).set i .un).set i (.d d)) ++ (s :: (ρ ++ κ)))) ((((wipe σ [i, j]).set i (some z)).set j none).set j (some z1)) (v1 :: (valsOf ((wipe σ [i, j]).set i (some z)) ++ (v :: (valsOf σ ++ vs)))) H6 := by
        obtain ⟨B, g6⟩ := g6
        exact ⟨B, (g6.pop.slt (Paired.set (OOk.of g6.fst) j (sok_wipe g6.sl [j])))⟩
      have eF : ((rows d).take (l + 1)).filter (t d) = ((rows d).take l).filter (t d) ++ if t d e = true then [e] else [] := by
        rw [take_get hee, List.filter_append]
        congr 1
        by_cases z : t d e = true <;> simp [z]
      refine ht1 e _ hem b1 _ _ H6 _ g7 fun kk H7 M3 g8 h8 => ?_
      obtain ⟨rfl, rfl⟩ := h8
      by_cases hk : t d e = true
      · rw [if_pos hk]
        intro b2
        refine he1 e _ hem hk b2 _ _ H7 _ g8 fun yv H8 r M4 g9 h9 => ?_
        obtain ⟨rfl, rfl⟩ := h9
        have hbnd : ((ds.take n).flatMap app ++ (((rows d).take l).filter (t d)).map (f d)).length < 100000 := by
          have h1 := lenT n
          have h2 := lenU (n + 1)
          have h3 : (((rows d).take l).filter (t d)).length ≤ l := Nat.le_trans (List.length_filter_le _ _) (by rw [List.length_take]; omega)
          rw [List.length_append, List.length_map]
          omega
        refine lc_push g9 hbnd fun H9 g10 => ?_
        have := down_slots hsh2 g10
        rw [eF, if_pos hk, List.map_append, ← List.append_assoc]
        exact this
      · rw [if_neg hk]
        have := down_slots hsh2 g8
        rw [eF, if_neg hk, List.append_nil]
        exact this
    · have el : l = (rows d).length := by omega
      subst el
      refine .inl ⟨dw1.stop _ _ (s :: (ρ ++ κ)) _ _ H5 (hsr1 _) g5, ?_⟩
      rw [List.take_length] at g5
      rw [eT]
      obtain ⟨B, g5⟩ := g5
      exact down_slots hsh ⟨B, g5.pop⟩
  · have e : n = ds.length := by omega
    subst e
    rw [List.take_length] at g'
    exact .inl ⟨dw.stop _ ρ κ σ vs H' (hsr _ _) g', q _ H' _ _ (by
      obtain ⟨B, g'⟩ := g'
      exact ⟨B, g'.pop.pushV⟩) (hd D)⟩
end
end DL
set_option maxHeartbeats 1000000
/-! list.remove, dict.get, dict.update(pairs), str(int), tuples of ints compared -/
namespace DL
open PySem PySem.Spec PyProof.Rows L2
section
variable {X : Cx} {pins : List (Addr × Obj)} {σ : L2.St} {H : Hp} {s : Shared}
theorem upairs_of (I : Inv X pins σ H s) : ∀ {ps : List Addr} {more : List (Key × V)}, Paired (fun p kv => SqT X.K H p [kV kv.1, kv.2]) ps more →
    ∃ qs : List (Value × Key × Value), qs.length = ps.length ∧ KV more (qs.map (·.2)) ∧ ∀ (j : Nat) (q : Value × Key × Value), qs[j]? = some q → ∃ b : Addr, ps[j]? = some b ∧ IsTup s.heap b #[q.1, q.2.2] ∧ (mixKind X.prog X.w).is q.2.1 q.1 = true
  | _, _, .nil => ⟨[], rfl, .nil, fun j q e => by simp at e⟩
  | _, _, .cons (a := p) (b := kv) h t => by
    obtain ⟨qs, hl, r, hp⟩ := upairs_of I t
    obtain ⟨its, rv, ht, _⟩ := I.tuple h
    obtain ⟨u, y, ei, ru, ry⟩ := vals2 rv
    subst ei
    refine ⟨(u, kv.1, y) :: qs, by rw [List.length_cons, List.length_cons, hl], .cons ⟨rfl, ry⟩ r, fun j q e => ?_⟩
    cases j with
    | zero =>
      have e' : (u, kv.1, y) = q := Option.some.inj e
      subst e'
      exact ⟨p, rfl, ht, kV_is (P := X.prog) (w := X.w) ru⟩
    | succ j =>
      obtain ⟨b, e1, e2, e3⟩ := hp j q (by simpa using e)
      exact ⟨b, by simpa using e1, e2, e3⟩
variable {o e : Expr} {td ty : TE} {apos cpos : Pos}
def tUpd (X : Cx) (td ty : TE) : TE := fun σ H Q => td σ H fun x H1 => ∃ d, x = .ref d ∧ IsD H1 d ∧ ty σ H1 fun y H2 => ∃ (kvs : List (Key × V)) (a : Addr) (ps : List Addr) (more : List (Key × V)), H2 d = some (.dK kvs) ∧ y = .ref a ∧ SqL X.K H2 a (ps.map V.ref) ∧ Paired (fun p kv => SqT X.K H2 p [kV kv.1, kv.2]) ps more ∧ kvs.length + more.length ≤ 100000 ∧ Q .non (upd H2 d (.dK (mergeK kvs more)))
theorem pe_dupd (hc : X.calm = true) (ho : PE X o td) (he : PE X e ty) (m : M1 X o "update" apos e cpos) : PE X (.Call (.Attribute o "update" apos) [e] [] cpos) (tUpd X td ty) := by
  refine ⟨fun pins s σ H Q I h => ?_⟩
  refine wpAny_Call_method m.base m.few m.line PySem.F.plainAttrs_dict PySem.F.slot_dict_update PySem.F.type_dict_update (thn (ho.run pins s σ H _ I h) fun u s1 ⟨x, H1, I1, rx, d, ex, isd, q1⟩ => ?_)
  subst ex
  obtain rfl : u = Value.ref d := rx
  obtain ⟨t1, t2, _⟩ := isD_at I1 isd
  refine ⟨t1, t2, ?_⟩
  rw [m.trees]
  refine Calls.callWith_builtin rfl (Calls.evalArgs_plain (Calls.spliced_cons (thn (he.run pins s1 σ H1 _ I1 q1) fun iv s2 ⟨y, H2, I2, ry, kvs, a, ps, more, hd, ey, hq, hp, hz, q2⟩ => Calls.spliced_nil ?_)))
  subst ey
  obtain rfl : iv = Value.ref a := ry
  obtain ⟨z, hds, vs, rel, dd⟩ := dk_rd I2.hok (.inl hd)
  obtain ⟨its, rv, pl, hz2⟩ := I2.list hq
  have ei := refs_at rv
  subst ei
  obtain ⟨qs, hl, rq, hqs⟩ := upairs_of I2 hp
  obtain ⟨ob, n, hob, hcl, hdi, hdat⟩ := pl
  have hat : ∀ j : Nat, ∀ b, ps[j]? = some b → ps.getD j 0 = b := fun j b e => by rw [List.getD_eq_getElem?_getD, e]; rfl
  have hitems : PairItems s2.heap ((ps.map Value.ref).toArray) (fun j => ps.getD j 0) (qs.map fun q => (q.1, q.2.2)) := by
    refine ⟨by simp [hl], fun j k v e => ?_⟩
    rw [List.getElem?_map] at e
    obtain ⟨q, hq1, e2⟩ := Option.map_eq_some_iff.mp e
    obtain ⟨b, e3, e4, _⟩ := hqs j q hq1
    cases e2
    show _ ∧ PairAt s2.heap (ps.getD j 0) _ _
    rw [hat j b e3]
    exact ⟨by simp [e3, hat j b e3], .inl e4⟩
  have hhave : PairsHave (mixKind X.prog X.w) (qs.map fun q => (q.1, q.2.2)).length (PairRel (qs.map fun q => (q.1, q.2.2))) (qs.map (·.2)) := by
    refine ⟨by simp, fun i key v e => ?_⟩
    have e : (qs.map fun q => (q.1, q.2.2))[i]? = some (key, v) := e
    rw [List.getElem?_map] at e
    obtain ⟨q, hq1, e2⟩ := Option.map_eq_some_iff.mp e
    obtain ⟨b, _, _, e5⟩ := hqs i q hq1
    cases e2
    exact ⟨q.2.1, by rw [List.getElem?_map, hq1]; rfl, e5⟩
  have hml : more.length = qs.length := by
    have := Paired.length rq
    rwa [List.length_map] at this
  have h100 : (100000 : Nat) ≤ sizeLine := by decide
  have hvl : vs.length = kvs.length := (rel.length).symm
  obtain ⟨od, _, _, hod, hex, _⟩ := id dd
  have hne : d ∉ a :: (List.range (qs.map fun q => (q.1, q.2.2)).length).map (fun j => ps.getD j 0) := by
    intro hm
    rcases List.mem_cons.mp hm with rfl | hm
    · rw [hob] at hod
      cases hod
      have := hex.1
      rw [hcl] at this
      exact absurd this (by decide)
    · obtain ⟨j, hj, rfl⟩ := List.mem_map.mp hm
      have hj := List.mem_range.mp hj
      rw [List.length_map] at hj
      obtain ⟨b, e3, ⟨ot, hot, hct, _⟩, _⟩ := hqs j qs[j] (by simp [hj])
      have e6 : ps.getD j 0 = b := hat j b e3
      rw [e6, hot] at hod
      cases hod
      have := hex.1
      rw [hct] at this
      exact absurd this (by decide)
  refine call_update_pairs (PairArg.list a ((ps.map Value.ref).toArray) (fun j => ps.getD j 0) (qs.map fun q => (q.1, q.2.2))) (I2.ok.hd hc) ⟨⟨ob, n, hob, hcl, hdi, hdat⟩, hitems⟩ hne hhave dd (by rw [List.length_map]; omega) fun h' tk hd' hk => ?_
  have hlen : (mergeK kvs more).length ≤ sizeLine := by
    have := length_mergeK more kvs
    omega
  refine ⟨.non, upd H2 d (.dK (mergeK kvs more)), I2.write (x := d) (e := d) (by rw [hd]; exact True.intro) (.inl rfl) (fun b u hb e => hk b u hb (fun z => nomatch z) e) ?_ (dk_new hlen hds (KV.merge rq rel) hd'), rfl, q2⟩
  obtain ⟨o', _, _, ho', _⟩ := hd'
  exact ⟨o', ho'⟩
end
section
variable {X : Cx} {B0 F : Hp} {M : Cs} {ρ κ : List Sl} {P : Sl → Cs → Prop} {o e : Expr} {apos cpos p pos : Pos} {K : Fg}
theorem mapErase {α β : Type} (f : α → β) : ∀ (l : List α) (j : Nat), (l.eraseIdx j).map f = (l.map f).eraseIdx j
  | [], _ => rfl
  | _ :: _, 0 => rfl
  | x :: l, j + 1 => by
    show f x :: (l.eraseIdx j).map f = f x :: (l.map f).eraseIdx j
    rw [mapErase f l j]
/-- d.get(k) -/
theorem de_dgetM (hu : X.A.units + 1 < cLine) (h : DE X B0 F M ρ κ o fun r1 M1 => ∃ a es0, r1 = .v (.ref a) ∧ (a, .dic es0) ∈ M1 ∧ DE X B0 F M1 ρ (r1 :: κ) e fun r2 M2 => ∃ es ky, (a, .dic es) ∈ M2 ∧ KeyIs r2 ky ∧ P (.d ((valD es ky).getD .none)) M2)
    (m : M1 X o "get" apos e cpos := by exact ⟨rfl, rfl, rfl, rfl⟩) : DE X B0 F M ρ κ (.Call (.Attribute o "get" apos) [e] [] cpos) P := fun σ vs H Q g q => by
  refine tOf_of (pe_dget1 hu pe_self pe_self m) (h σ vs H _ g fun x H1 r1 M1 g1 h1 => ?_)
  obtain ⟨a, es0, rfl, hm, h1⟩ := h1
  have ev := g1.ref
  subst ev
  refine ⟨a, rfl, ?_, h1 σ (.ref a :: vs) H1 _ g1 fun y H2 r2 M2 g2 h2 => ?_⟩
  · obtain ⟨B, g1⟩ := g1
    obtain ⟨kvs, ho, _⟩ := dic_at g1 hm
    exact .inl ⟨kvs, .inl ho⟩
  · obtain ⟨es, ky, hm2, hk, hp⟩ := h2
    have ey := hk.v g2
    obtain ⟨B, g2⟩ := g2
    obtain ⟨kvs, ho, he⟩ := dic_at g2 hm2
    refine ⟨valV kvs ky, .inl ⟨kvs, ky, .inl ho, ey, rfl⟩, q _ H2 _ M2 ⟨B, g2.pop.pop.pushD ?_⟩ hp⟩
    obtain ⟨i1, i2⟩ := ents_val (ky := ky) he
    cases c : valD es ky with
    | none => rw [i2 c]; exact .non
    | some d =>
      obtain ⟨v, hv, hr⟩ := i1 d c
      rw [hv]
      exact hr
/-- d.update([(k, v), ..]) -/
theorem de_dupd (n : Nat) (h : DE X B0 F M ρ κ o fun r1 M1 => ∃ a es0, r1 = .v (.ref a) ∧ (a, .dic es0) ∈ M1 ∧ DE X B0 F M1 ρ (r1 :: κ) e fun r2 M2 => ∃ es more, M2[n]? = some (a, .dic es) ∧ SeqLs M2 r2 (more.map fun kv : Key × PyData => .tuple [keyData kv.1, kv.2]) ∧ es.length + more.length ≤ 100000 ∧ P (.d .none) (M2.set n (a, .dic (mergeD es more))))
    (hc : X.calm = true := by rfl) (m : M1 X o "update" apos e cpos := by exact ⟨rfl, rfl, rfl, rfl⟩) : DE X B0 F M ρ κ (.Call (.Attribute o "update" apos) [e] [] cpos) P := fun σ vs H Q g q => by
  refine tOf_of (pe_dupd hc pe_self pe_self m) (h σ vs H _ g fun x H1 r1 M1 g1 h1 => ?_)
  obtain ⟨a, es0, rfl, hm, h1⟩ := h1
  have ev := g1.ref
  subst ev
  refine ⟨a, rfl, ?_, h1 σ (.ref a :: vs) H1 _ g1 fun y H2 r2 M2 g2 h2 => ?_⟩
  · obtain ⟨B, g1⟩ := g1
    obtain ⟨kvs, ho, _⟩ := dic_at g1 hm
    exact .inl ⟨kvs, .inl ho⟩
  · obtain ⟨es, more, hn, hq, hz, hp⟩ := h2
    obtain ⟨B, g2⟩ := g2
    obtain ⟨kvs, ho, he⟩ := dic_at g2 (List.mem_of_getElem? hn)
    obtain ⟨b, xs, rfl, h3, h4⟩ := hq.at g2 g2.fst
    have conv : ∀ {xs : List V} {more : List (Key × PyData)}, RpA X.K B xs (more.map fun kv : Key × PyData => .tuple [keyData kv.1, kv.2]) → ∃ (ps : List Addr) (mv : List (Key × V)), xs = ps.map V.ref ∧ Paired (fun p kv => SqT X.K H2 p [kV kv.1, kv.2]) ps mv ∧ EntsOk X.K B mv more := by
      intro xs more
      induction more generalizing xs with
      | nil => intro h; cases h; exact ⟨[], [], rfl, .nil, .nil⟩
      | cons kv more ih =>
        intro h
        cases h with
        | cons j1 j2 =>
          obtain ⟨ps, mv, rfl, k1, k2⟩ := ih j2
          obtain ⟨t, ys, rfl, l1, l2⟩ := Rp.tup_inv j1
          cases l2 with
          | cons m1 m2 =>
            cases m2 with
            | cons m2 m3 =>
              cases m3
              have e1 := key_v m1
              subst e1
              exact ⟨t :: ps, (kv.1, _) :: mv, rfl, .cons (same_t g2.bh l1) k1, .cons ⟨rfl, m2⟩ k2⟩
    obtain ⟨ps, mv, rfl, k1, k2⟩ := conv h4
    have l1 := Paired.length he
    have l2 := Paired.length k2
    refine ⟨kvs, b, ps, mv, ho, rfl, h3, k1, by omega, q _ _ _ _ ⟨B, (g2.pop.pop.write (c' := .dic (mergeD es more)) hn ⟨_, rfl, ents_merge k2 he⟩).pushD .non⟩ hp⟩
/-- xs.remove(i) -/
theorem de_remove (n : Nat) (h : DE X B0 F M ρ κ o fun r1 M1 => ∃ a ds', r1 = .v (.ref a) ∧ (a, MC.lst ds') ∈ M1 ∧ DE X B0 F M1 ρ (r1 :: κ) e fun r2 M2 => ∃ (ns : List Nat) (i : Nat), r2 = .d (.int (i : Nat)) ∧ M2[n]? = some (a, .lst (natL ns)) ∧ i ∈ ns ∧ P (.d .none) (M2.set n (a, .lst (natL (ns.erase i)))))
    (hbase : attributeBase o "remove" X.env (eval o X.env) = eval o X.env := by rfl)
    (hfew : ((backTo cpos (starEach (e :: []) X.env)).all (fun x => !x.1) && (backToKw cpos (keywordEach [] X.env)).all (fun x => x.1.isSome)
      && decide ((e :: ([] : List Expr)).length + ([] : List Keyword).length + (if ([] : List Keyword).isEmpty then 0 else 1) < 30)) = true := by rfl)
    (hline : (apos.endLine == cpos.line) = true := by rfl) (hs : starEach (e :: []) X.env = (false, eval e X.env) :: starEach [] X.env := by rfl) (hplain : (backTo cpos (starEach [] X.env)).any (·.1) = false := by rfl) :
    DE X B0 F M ρ κ (.Call (.Attribute o "remove" apos) [e] [] cpos) P := fun σ vs H Q g q => by
  refine tOf_of (pe_bm PySem.F.plainAttrs_list PySem.F.slot_list_remove PySem.F.type_list_remove (X := X) mt_remove pe_self (pa_cons pe_self pa_nil hs) hbase hfew hline hs hplain) ?_
  refine h σ vs H _ g fun x H1 r1 M1 g1 h1 => ?_
  obtain ⟨a, ds', rfl, hm, h1⟩ := h1
  have e := g1.ref
  subst e
  refine ⟨?_, h1 σ (.ref a :: vs) H1 _ g1 fun y H2 r2 M2 g2 h2 => ?_⟩
  · obtain ⟨B, g1⟩ := g1
    obtain ⟨_, _, u, ho, ws, rfl, hw⟩ := g1.cells _ hm
    exact .inl ⟨rfl, ws, SqL.of ho⟩
  · obtain ⟨ns, i, rfl, hn, hi, hp⟩ := h2
    have e := g2.int
    subst e
    obtain ⟨B, g2⟩ := g2
    obtain ⟨ws, ho, hw⟩ := cell_at g2 hn
    have hw2 : ws = (ns.map fun i : Nat => (i : Int)).map V.int := by
      rw [natL_iL] at hw
      exact hw.ints
    subst hw2
    have hlt := List.idxOf_lt_length_of_mem hi
    have hget : ns[ns.idxOf i]? = some i := by rw [List.getElem?_eq_getElem hlt, List.getElem_idxOf]
    refine ⟨a, ns.map fun i : Nat => (i : Int), (i : Int), ns.idxOf i, rfl, rfl, ho, by rw [List.getElem?_map, hget]; rfl, fun m hm z => ?_, q _ _ _ _ ⟨B, (g2.pop.pop.write (c' := .lst (natL (ns.erase i))) hn ⟨_, rfl, ?_⟩).pushD .non⟩ hp⟩
    · rw [List.getElem?_map] at z
      obtain ⟨y, hy, e⟩ := Option.map_eq_some_iff.mp z
      have e : y = i := by omega
      subst e
      have hml := (List.getElem?_eq_some_iff.mp hy)
      obtain ⟨hml, hy⟩ := hml
      have := List.not_of_lt_findIdx (p := fun x => x == y) (show m < ns.findIdx (fun x => x == y) from hm)
      rw [hy] at this
      simp at this
    · rw [List.erase_eq_eraseIdx_of_idxOf (i := ns.idxOf i) rfl, natL_iL, mapErase (fun i : Nat => (i : Int)) ns]
      exact RpA.of_ints
/-- str(i) -/
theorem de_strI (gm : X.mg "str" = none) (h : DE X B0 F M ρ κ e fun r M1 => ∃ i : Int, r = .d (.int i) ∧ i.natAbs.log2 < 1920 ∧ P (.d (.str (toString i))) M1) (hg : Gl X "str" := by rfl) (hs : starEach [e] X.env = (false, eval e X.env) :: starEach [] X.env := by rfl) : DE X B0 F M ρ κ (.Call (.Name "str" p) [e] [] pos) P :=
  de_callTy call_str_int gm bt_str (da_cons (fun σ vs H Q g q => h σ vs H Q g fun v H' r M' g' ⟨i, h0, h1, h2⟩ => by
    subst h0
    refine q v H' _ M' g' (da_nil fun σ vs H xs Q hl g qq => ?_)
    obtain ⟨x, rfl⟩ := one_arg hl rfl
    have e := (show Good X.K B0 F M' ρ (.d (.int i) :: κ) σ (x :: vs) H from g).int
    subst e
    obtain ⟨B, g⟩ := g
    exact ⟨i, rfl, h1, qq _ _ _ _ ⟨B, g.pop.pushD (.str _)⟩ h2⟩) hs) hg (he := hs)
theorem rp_ints {H : Hp} {v : V} {ns : List Int} (h : Rp K H v (.tuple (iL ns))) : ∃ a, v = .ref a ∧ SqT K H a (ns.map V.int) := by
  obtain ⟨a, xs, rfl, h1, h2⟩ := Rp.tup_inv h
  have := h2.ints
  subst this
  exact ⟨a, rfl, h1⟩
/-- tuples of ints, < -/
theorem r2_ltT {ns ms : List Int} (h : P (.d (.bool (HT.lexLt ns ms))) M) : R2D K B0 F ρ κ (rLtT K) (.d (.tuple (iL ns))) (.d (.tuple (iL ms))) M P := fun σ vs H x y Q g qq => by
  obtain ⟨B, g⟩ := g
  cases g.st with
  | cons h1 h2 =>
    cases h2 with
    | cons h2 h3 =>
      obtain ⟨b, rfl, hb⟩ := rp_ints (show Rp K B y _ from h1)
      obtain ⟨a, rfl, ha⟩ := rp_ints (show Rp K B x _ from h2)
      exact ⟨a, b, ns, ms, rfl, rfl, same_t g.bh ha, same_t g.bh hb, qq _ _ _ _ ⟨B, (g.stk h3).pushD (.bl _)⟩ h⟩
end
end DL
set_option maxHeartbeats 4000000
namespace DLV
open PySem PySem.Spec PyProof.Rows L2
section
variable {X : Cx}
def rSumT (K : PySem.W.Frag) : List V → Hp → VK → Prop := fun vs H Q => ∃ (a : Addr) (ns : List Int), vs = [V.ref a] ∧ SqT K H a (ns.map V.int) ∧ Q (.int ns.sum) H
/-- sum(t), t a tuple of ints -/
theorem cr_sumT (hc : X.calm = true) : CallR X (.builtin "sum") (rSumT X.K) := by
  intro pins s σ H vs us Q I r h
  obtain ⟨a, ns, rfl, hs, q⟩ := h
  obtain ⟨its, rv, hl, _⟩ := I.tuple hs
  rw [Vals.ref1 r]
  have hi : IntsAre its ns := rv.ints
  obtain ⟨xs, hx⟩ := hi.allInts.items
  have hn : numsOf its.toArray.toList = ns := by rw [show its.toArray.toList = its from rfl, hi.numsOf]
  have hl2 : s.heap.IsTuple a its.toArray := hl
  rw [hx] at hl2 hn
  rw [nums_intItems] at hn
  refine PySem.W.ktm_sumG (I.ok.hd hc) hl2 fun h' tk t' hk => ?_
  rw [preSum_eq, List.take_of_length_le (by simp), hn]
  exact ⟨.int _, H, I.kept hk, ⟨_, rfl⟩, q⟩
end
end DLV
namespace DL
open PySem PySem.Spec PyProof.Rows L2
section
variable {X : Cx} {K : Fg} {B0 F : Hp} {M : Cs} {ρ κ : List Sl} {P : Sl → Cs → Prop} {e o st : Expr} {p p2 pos apos cpos : Pos}
/-- t[::-1] -/
theorem de_revT (h : DE X B0 F M ρ κ e fun r1 M1 => ∃ ds, r1 = .d (.tuple ds) ∧ DO X B0 F M1 ρ (r1 :: κ) (some st) fun i M2 => i = some (-1) ∧ P (.d (.tuple ds.reverse)) M2) : DE X B0 F M ρ κ (.Subscript e (.Slice none none (some st) p2) pos) P := fun σ vs H Q g q =>
  tOf_of (DLV.pe_revT pe_self po_self) (h σ vs H _ g fun x H1 r1 M1 g1 h1 => by
    obtain ⟨ds, rfl, h1⟩ := h1
    refine h1 σ (x :: vs) H1 _ g1 fun i H2 M2 g2 h2 => ?_
    obtain ⟨rfl, hp⟩ := h2
    obtain ⟨B, g2⟩ := g2
    obtain ⟨a, va, rfl, ha, ra⟩ := Rp.tup_inv g2.fst
    refine ⟨rfl, a, va, rfl, same_t g2.bh ha, fun p hp' => ?_⟩
    have bp : B p = none := g2.bh.free hp'
    have rr : RpA X.K B va.reverse ds.reverse := by
      have : ∀ {vs : List V} {ds : List PyData}, RpA X.K B vs ds → RpA X.K B vs.reverse ds.reverse := by
        intro vs ds h
        induction vs generalizing ds with
        | nil => cases h; exact .nil
        | cons v vs ih =>
          cases h with
          | cons h1 h2 =>
            rw [List.reverse_cons, List.reverse_cons]
            exact (ih h2).app (.cons h1 .nil)
      exact this ra
    exact q _ _ _ M2 ⟨_, (g2.pop.laid (o := .tup va.reverse) hp').pushD (.tup (SqT.of upd_same) (rr.ext fun b u z => by rw [upd_ne (ne_of_none z bp)]; exact z))⟩ hp)
theorem rn_sumT {ns : List Int} (h : P (.d (.int ns.sum)) M) : RnD K B0 F ρ κ (DLV.rSumT K) [.d (.tuple (ns.map .int))] M P := fun σ vs H xs Q hl g qq => by
  obtain ⟨x, rfl⟩ := one_arg hl rfl
  obtain ⟨B, g⟩ := g
  obtain ⟨a, va, rfl, ha, ra⟩ := Rp.tup_inv g.fst
  have e := ra.ints
  subst e
  exact ⟨a, ns, rfl, same_t g.bh ha, qq _ H _ M ⟨B, g.pop.pushD (.int _)⟩ h⟩
theorem de_sumT (gm : X.mg "sum" = none) (h : DE X B0 F M ρ κ e fun r M1 => ∃ ns : List Int, r = .d (.tuple (ns.map PyData.int)) ∧ P (.d (.int ns.sum)) M1) (hc : X.calm = true := by rfl) (hg : Gl X "sum" := by rfl) (hs : starEach [e] X.env = (false, eval e X.env) :: starEach [] X.env := by rfl) : DE X B0 F M ρ κ (.Call (.Name "sum" p) [e] [] pos) P :=
  de_callB (DLV.cr_sumT hc) gm bt_sum (da_cons (fun σ vs H Q g q => h σ vs H Q g fun v H' r M' g' ⟨ds, hq, hp⟩ => q v H' r M' g' (hq ▸ da_nil (rn_sumT hp))) hs) hg (he := hs)
/-- the greatest, the least of a list of ints -/
theorem rn_maxL {s : Sl} {ns : List Int} (q : SeqLs M s (ns.map PyData.int)) (hn : 0 < ns.length) (h : ∀ m, m ∈ ns → (∀ y ∈ ns, y ≤ m) → P (.d (.int m)) M) : RnD K B0 F ρ κ (rMax K) [s] M P := fun σ vs H xs Q hl g qq => by
  obtain ⟨x, rfl⟩ := one_arg hl rfl
  obtain ⟨B, g⟩ := g
  obtain ⟨a, ys, rfl, h1, h2⟩ := q.at g g.fst
  have e := h2.ints
  subst e
  exact ⟨a, ns, rfl, h1, hn, fun m h3 h4 => qq _ H _ M ⟨B, g.pop.pushD (.int _)⟩ (h m h3 h4)⟩
theorem rn_minL {s : Sl} {ns : List Int} (q : SeqLs M s (ns.map PyData.int)) (hn : 0 < ns.length) (h : ∀ m, m ∈ ns → (∀ y ∈ ns, m ≤ y) → P (.d (.int m)) M) : RnD K B0 F ρ κ (rMin K) [s] M P := fun σ vs H xs Q hl g qq => by
  obtain ⟨x, rfl⟩ := one_arg hl rfl
  obtain ⟨B, g⟩ := g
  obtain ⟨a, ys, rfl, h1, h2⟩ := q.at g g.fst
  have e := h2.ints
  subst e
  exact ⟨a, ns, rfl, h1, hn, fun m h3 h4 => qq _ H _ M ⟨B, g.pop.pushD (.int _)⟩ (h m h3 h4)⟩
theorem de_maxL (gm : X.mg "max" = none) (h : DE X B0 F M ρ κ e fun r M1 => ∃ ns : List Int, SeqLs M1 r (ns.map PyData.int) ∧ 0 < ns.length ∧ ∀ m, m ∈ ns → (∀ y ∈ ns, y ≤ m) → P (.d (.int m)) M1) (hc : X.calm = true := by rfl) (hg : Gl X "max" := by rfl) (hs : starEach [e] X.env = (false, eval e X.env) :: starEach [] X.env := by rfl) : DE X B0 F M ρ κ (.Call (.Name "max" p) [e] [] pos) P :=
  de_callB (cr_max hc) gm bt_max (da_cons (fun σ vs H Q g q => h σ vs H Q g fun v H' r M' g' ⟨ds, hq, hn, hp⟩ => q v H' r M' g' (da_nil (rn_maxL hq hn hp))) hs) hg (he := hs)
theorem de_minL (gm : X.mg "min" = none) (h : DE X B0 F M ρ κ e fun r M1 => ∃ ns : List Int, SeqLs M1 r (ns.map PyData.int) ∧ 0 < ns.length ∧ ∀ m, m ∈ ns → (∀ y ∈ ns, m ≤ y) → P (.d (.int m)) M1) (hc : X.calm = true := by rfl) (hg : Gl X "min" := by rfl) (hs : starEach [e] X.env = (false, eval e X.env) :: starEach [] X.env := by rfl) : DE X B0 F M ρ κ (.Call (.Name "min" p) [e] [] pos) P :=
  de_callB (cr_min hc) gm bt_min (da_cons (fun σ vs H Q g q => h σ vs H Q g fun v H' r M' g' ⟨ds, hq, hn, hp⟩ => q v H' r M' g' (da_nil (rn_minL hq hn hp))) hs) hg (he := hs)
end
end DL
namespace DL
open PySem PySem.Spec PyProof.Rows L2
theorem allF {M : Cs} {D : Addr} {ds : List PyData} {g : PyData → Bool} : SeqLs ((D, .lst (ds.map fun d => .bool (g d))) :: M) (.v (.ref D)) ((ds.map g).map PyData.bool) := by
  rw [List.map_map]
  exact .cell List.mem_cons_self
theorem all_id {ds : List PyData} {g : PyData → Bool} : (ds.map g).all id = ds.all g := by rw [List.all_map]; rfl
theorem any_id {ds : List PyData} {g : PyData → Bool} : (ds.map g).any id = ds.any g := by rw [List.any_map]; rfl
theorem all_nat {S : List Nat} {g : PyData → Bool} {t : Nat → Bool} (h : ∀ q ∈ S, g (.int (q : Nat)) = t q) : (natL S).all g = S.all t := by
  unfold natL
  rw [List.all_map]
  induction S with
  | nil => rfl
  | cons x S ih =>
    rw [List.all_cons, List.all_cons, ih fun q hq => h q (List.mem_cons_of_mem _ hq)]
    show (g (.int (x : Nat)) && _) = _
    rw [h x List.mem_cons_self]
theorem any_nat {S : List Nat} {g : PyData → Bool} {t : Nat → Bool} (h : ∀ q ∈ S, g (.int (q : Nat)) = t q) : (natL S).any g = S.any t := by
  unfold natL
  rw [List.any_map]
  induction S with
  | nil => rfl
  | cons x S ih =>
    rw [List.any_cons, List.any_cons, ih fun q hq => h q (List.mem_cons_of_mem _ hq)]
    show (g (.int (x : Nat)) || _) = _
    rw [h x List.mem_cons_self]
end DL
set_option maxHeartbeats 1000000
/-! a pair in a row of pairs (list, cell or tuple); any data in a tuple -/
namespace DL
open PySem PySem.Spec PyProof.Rows L2
def rInT2 (K : PySem.W.Frag) (neg : Bool) : R2 := fun x y H Q => ∃ d ds, Dp K H x d ∧ Dp K H y (.tuple ds) ∧ SeqAt.shaped d = true ∧ SeqAt.shaped (.tuple ds) = true ∧ Q (.bl (if neg then !ds.any fun z => PyData.eqv z d else ds.any fun z => PyData.eqv z d)) H
section
variable {X : Cx}
theorem op_inT2 (hu : X.A.units + 64 < cLine) : OpR X (compareOp .In) (rInT2 X.K false) := by
  intro pins s σ H x y v u Q I rx ry h
  obtain ⟨d, ds, hd, he, sd, se, q⟩ := h
  obtain ⟨as, r1⟩ := Dp.reads I d x v hd rx
  obtain ⟨bs, r2⟩ := Dp.reads I (.tuple ds) y u he ry
  refine SeqAt.in_tuple_reads r2 r1 (SeqAt.canLay_of_shaped se) (SeqAt.canLay_of_shaped sd) ?_ ⟨.bl _, H, I, rfl, q⟩
  unfold SeqAt.shaped at sd se
  simp only [Bool.and_eq_true, decide_eq_true_iff] at sd se
  have : min (PyData.depthAll ds) d.depth ≤ 63 := by
    have h1 := se.2
    rw [PyData.depth] at h1
    omega
  omega
theorem op_notInT2 (hu : X.A.units + 64 < cLine) : OpR X (compareOp .NotIn) (rInT2 X.K true) := by
  intro pins s σ H x y v u Q I rx ry h
  obtain ⟨d, ds, hd, he, sd, se, q⟩ := h
  obtain ⟨as, r1⟩ := Dp.reads I d x v hd rx
  obtain ⟨bs, r2⟩ := Dp.reads I (.tuple ds) y u he ry
  refine SeqAt.notIn_tuple_reads r2 r1 (SeqAt.canLay_of_shaped se) (SeqAt.canLay_of_shaped sd) ?_ ⟨.bl _, H, I, rfl, q⟩
  unfold SeqAt.shaped at sd se
  simp only [Bool.and_eq_true, decide_eq_true_iff] at sd se
  have : min (PyData.depthAll ds) d.depth ≤ 63 := by
    have h1 := se.2
    rw [PyData.depth] at h1
    omega
  omega
end
theorem eqv_ep (e f : Nat × Nat) : PyData.eqv (epD e) (epD f) = decide (e = f) := by
  unfold epD
  rw [PyData.eqv, PyData.eqvAll, PyData.eqvAll, PyData.eqvAll, PyData.eqv, PyData.eqv, Bool.eq_iff_iff]
  simp only [Bool.and_eq_true, beq_iff_eq, decide_eq_true_iff, Bool.and_true]
  constructor
  · rintro ⟨h1, h2⟩
    exact Prod.ext (by omega) (by omega)
  · rintro rfl
    exact ⟨rfl, rfl⟩
theorem any_ep (S : Eds) (e : Nat × Nat) : ((S.map epD).any fun z => PyData.eqv z (epD e)) = decide (e ∈ S) := by
  rw [List.any_map, Bool.eq_iff_iff, List.any_eq_true, decide_eq_true_iff]
  constructor
  · rintro ⟨x, hx, h⟩
    have h : PyData.eqv (epD x) (epD e) = true := h
    rw [eqv_ep, decide_eq_true_iff] at h
    exact h ▸ hx
  · intro h
    exact ⟨e, h, by show PyData.eqv (epD e) (epD e) = true; rw [eqv_ep]; simp⟩
theorem lay_eps : ∀ S : Eds, PyData.canLayAll0 (S.map epD) = true
  | [] => by simp [PyData.canLayAll0]
  | e :: S => by
    rw [List.map_cons, PyData.canLayAll0, lay_eps S]
    simp [epD, PyData.canLay0, PyData.canLayAll0]
theorem depth_eps : ∀ S : Eds, PyData.depthAll (S.map epD) ≤ 1
  | [] => by simp [PyData.depthAll]
  | e :: S => by
    rw [List.map_cons, PyData.depthAll]
    have := depth_eps S
    have h2 : (epD e).depth ≤ 1 := by simp [epD, PyData.depth, PyData.depthAll]
    omega
theorem shaped_ep (e : Nat × Nat) : SeqAt.shaped (epD e) = true := by simp [SeqAt.shaped, epD, PyData.canLay0, PyData.canLayAll0, PyData.depth, PyData.depthAll]
theorem shaped_lst (S : Eds) : SeqAt.shaped (.list (S.map epD)) = true := by
  have := depth_eps S
  unfold SeqAt.shaped
  rw [Bool.and_eq_true, decide_eq_true_iff]
  exact ⟨by rw [PyData.canLay0]; exact lay_eps S, by rw [PyData.depth]; omega⟩
theorem shaped_tup (S : Eds) : SeqAt.shaped (.tuple (S.map epD)) = true := by
  have := depth_eps S
  unfold SeqAt.shaped
  rw [Bool.and_eq_true, decide_eq_true_iff]
  exact ⟨by rw [PyData.canLay0]; exact lay_eps S, by rw [PyData.depth]; omega⟩
section
variable {K : Fg} {B0 F : Hp} {M : Cs} {ρ κ : List Sl} {P : Sl → Cs → Prop}
theorem r2_inPT {neg : Bool} {S : Eds} {e : Nat × Nat} (h : P (.d (.bool (if neg then !decide (e ∈ S) else decide (e ∈ S)))) M) : R2D K B0 F ρ κ (rInT2 K neg) (.d (epD e)) (.d (.tuple (S.map epD))) M P := fun σ vs H x y Q g qq => by
  obtain ⟨B, g⟩ := g
  have r : Rp K B x (epD e) := g.pop.fst
  have r2 : Rp K B y (.tuple (S.map epD)) := g.fst
  refine ⟨epD e, S.map epD, (r.ext g.bh).dp, (r2.ext g.bh).dp, shaped_ep e, shaped_tup S, qq _ H _ M ⟨B, g.pop.pop.pushD (Rp.bl _)⟩ ?_⟩
  rw [any_ep]
  exact h
theorem r2_inPL {s : Sl} {S : Eds} {e : Nat × Nat} (q : SeqLs M s (S.map epD)) (h : P (.d (.bool (decide (e ∈ S)))) M) : R2D K B0 F ρ κ (rInD K) (.d (epD e)) s M P := r2_inD q (shaped_ep e) (shaped_lst S) (by rw [any_ep]; exact h)
theorem r2_niPL {s : Sl} {S : Eds} {e : Nat × Nat} (q : SeqLs M s (S.map epD)) (h : P (.d (.bool (!decide (e ∈ S)))) M) : R2D K B0 F ρ κ (rNotInD K) (.d (epD e)) s M P := r2_niD q (shaped_ep e) (shaped_lst S) (by rw [any_ep]; exact h)
theorem _root_.PySem.units65 {k : Nat} {A : Around} (r : Room k A) : A.units + 65 < cLine := by have := r.un; omega
end
end DL
set_option maxHeartbeats 1000000
/-! a row read only: list, tuple or frozen list -/
namespace DL
open PySem PySem.Spec PyProof.Rows L2
inductive SeqK : Sl → List PyData → Prop
  | lst (ds : List PyData) : SeqK (.d (.list ds)) ds
  | tup (ds : List PyData) : SeqK (.d (.tuple ds)) ds
  | rd (ds : List PyData) : SeqK (.rd ds) ds
theorem SeqK.seq {M : Cs} {s : Sl} {ds : List PyData} (h : SeqK s ds) : Seq M s ds := by
  cases h with
  | lst => exact .lst _
  | tup => exact .tup _
  | rd => exact .rd _
theorem SeqK.un {s : Sl} {ds : List PyData} (h : SeqK s ds) : s ≠ .un := by
  cases h <;> intro z <;> cases z
section
variable {X : Cx} {B0 F : Hp} {M : Cs} {ρ κ : List Sl} {tg iter : Expr} {R : List PyData → Sl → (Cs → Prop) → Cs → Prop}
theorem DE.mono2 {e : Expr} {P P' : Sl → Cs → Prop} (h : DE X B0 F M ρ κ e P) (w : ∀ r M, P r M → P' r M) : DE X B0 F M ρ κ e P' := DE.mono h w
theorem di_seqK {s : Sl} {ds : List PyData} (hs : SeqK s ds) (h : DE X B0 F M ρ κ iter fun r M1 => r = s ∧ R ds r (fun _ => True) M1) : DI X B0 F M ρ κ tg iter R := by
  cases hs with
  | lst => exact di_list (DE.mono h fun r M1 ⟨h1, h2⟩ => ⟨ds, h1, h2⟩)
  | tup => exact di_tup (DE.mono h fun r M1 ⟨h1, h2⟩ => ⟨ds, h1, h2⟩)
  | rd => exact di_rd (DE.mono h fun r M1 ⟨h1, h2⟩ => ⟨ds, h1, h2⟩)
end
theorem du_freeze {X : Cx} {B0 F : Hp} {M : Cs} {ρ κ : List Sl} {e : Expr} {P : Sl → Cs → Prop} {u : Use} (h : DEu X B0 F M ρ κ u e fun r M1 => ∃ p xs M2, r = .v (.ref p) ∧ M1 = (p, .lst xs) :: M2 ∧ P (.d (.list xs)) M2) : DEu X B0 F M ρ κ u e P := fun σ vs H Q g q => h σ vs H Q g fun v H' r M' g' p => by
  obtain ⟨p, xs, M2, rfl, rfl, hp⟩ := p
  have e := g'.ref
  subst e
  obtain ⟨B, g'⟩ := g'
  exact q _ H' _ M2 g'.pop.freeze hp
section
variable {X : Cx} {B0 F : Hp} {M : Cs} {ρ κ : List Sl} {P : Sl → Cs → Prop} {o e : Expr} {apos cpos : Pos}
/-- xs.extend(ys) -/
theorem de_extend (n : Nat) (h : DE X B0 F M ρ κ o fun r1 M1 => ∃ a ds', r1 = .v (.ref a) ∧ (a, MC.lst ds') ∈ M1 ∧ DE X B0 F M1 ρ (r1 :: κ) e fun r2 M2 => ∃ ds ys, SeqCl M2 r2 ys ∧ M2[n]? = some (a, .lst ds) ∧ ds.length + ys.length ≤ 100000 ∧ P (.d .none) (M2.set n (a, .lst (ds ++ ys))))
    (hbase : attributeBase o "extend" X.env (eval o X.env) = eval o X.env := by rfl)
    (hfew : ((backTo cpos (starEach (e :: []) X.env)).all (fun x => !x.1) && (backToKw cpos (keywordEach [] X.env)).all (fun x => x.1.isSome)
      && decide ((e :: ([] : List Expr)).length + ([] : List Keyword).length + (if ([] : List Keyword).isEmpty then 0 else 1) < 30)) = true := by rfl)
    (hline : (apos.endLine == cpos.line) = true := by rfl) (hs : starEach (e :: []) X.env = (false, eval e X.env) :: starEach [] X.env := by rfl) (hplain : (backTo cpos (starEach [] X.env)).any (·.1) = false := by rfl) :
    DE X B0 F M ρ κ (.Call (.Attribute o "extend" apos) [e] [] cpos) P := fun σ vs H Q g q => by
  refine tOf_of (pe_bm PySem.F.plainAttrs_list PySem.F.slot_list_extend PySem.F.type_list_extend (X := X) mt_extend pe_self (pa_cons pe_self pa_nil hs) hbase hfew hline hs hplain) ?_
  refine h σ vs H _ g fun x H1 r1 M1 g1 h1 => ?_
  obtain ⟨a, ds', rfl, hm, h1⟩ := h1
  have e := g1.ref
  subst e
  refine ⟨?_, h1 σ (.ref a :: vs) H1 _ g1 fun y H2 r2 M2 g2 h2 => ?_⟩
  · obtain ⟨B, g1⟩ := g1
    obtain ⟨_, _, u, ho, ws, rfl, hw⟩ := g1.cells _ hm
    exact .inl ⟨rfl, ws, SqL.of ho⟩
  · obtain ⟨ds, ys, hq, hn, hl, hp⟩ := h2
    obtain ⟨B, g2⟩ := g2
    obtain ⟨ws, ho, hw⟩ := cell_at g2 hn
    obtain ⟨b, vs2, rfl, h3, h4⟩ := hq.at g2 g2.fst
    have hz : (100000 : Nat) ≤ sizeLine := by decide
    exact ⟨a, b, ws, vs2, rfl, rfl, ho, h3, by rw [hw.len, h4.len]; omega, q _ _ _ _ ⟨B, (g2.pop.pop.write (c' := .lst (ds ++ ys)) hn ⟨_, rfl, hw.app h4⟩).pushD .non⟩ hp⟩
end
section
variable {X : Cx} {B0 F : Hp} {M : Cs} {ρ κ : List Sl} {P : Sl → Cs → Prop} {a : Expr} {pos : Pos}
/-- not x, x a datum -/
theorem de_notD (h : DE X B0 F M ρ κ a fun r M1 => ∃ d, r = .d d ∧ (∀ x, d = .str x → x.length ≤ sizeLine) ∧ P (.d (.bool (!truD d))) M1) : DE X B0 F M ρ κ (.UnaryOp .Not a pos) P :=
  fun σ vs H Q g q => tOf_of (pe_notT pe_self) (h σ vs H _ g fun x H1 r1 M1 g1 h1 => by
    obtain ⟨d, rfl, hs, hp⟩ := h1
    obtain ⟨B, g1⟩ := g1
    exact ⟨truD d, tru_of (Rp.ext g1.bh g1.fst) hs, q _ H1 _ M1 ⟨B, g1.pop.pushD (.bl _)⟩ hp⟩)
end
end DL
set_option maxHeartbeats 1000000
/-! sorted(set) of few small ints -/
namespace DL
open PySem PySem.Spec PyProof.Rows L2
theorem nodup_le {α : Type} [DecidableEq α] : ∀ {l m : List α}, l.Nodup → (∀ x ∈ l, x ∈ m) → l.length ≤ m.length
  | [], _, _, _ => Nat.zero_le _
  | x :: l, m, h, s => by
    obtain ⟨h1, h2⟩ := List.nodup_cons.mp h
    have hx := s x List.mem_cons_self
    have := nodup_le (l := l) (m := m.erase x) h2 fun y hy => (List.mem_erase_of_ne fun e => h1 (by rw [← e]; exact hy)).mpr (s y (List.mem_cons_of_mem _ hy))
    rw [List.length_erase_of_mem hx] at this
    have : 0 < m.length := List.length_pos_of_mem hx
    rw [List.length_cons]
    omega
def rSortedSetB (w : World) : List V → Hp → VK → Prop := fun vs H Q => ∃ (a : Addr) (S : Int → Bool) (n : Nat), vs = [V.ref a] ∧ H a = some (SetO w a S n) ∧ (∀ k, S k = true → 0 ≤ k ∧ k < 60) ∧
  ∀ (ns : List Int) (p : Addr), ns.Pairwise (· < ·) → (∀ k : Int, k ∈ ns ↔ S k = true) → ns.length = n → H p = none → Q (.ref p) (upd H p (.lst (ns.map V.int)))
section
variable {X : Cx}
theorem cr_sortedSetB (hc : X.calm = true) : CallR X (.builtin "sorted") (rSortedSetB X.w) := by
  intro pins s σ H vs us Q I r h
  obtain ⟨a, S, n, rfl, ha, hS, q⟩ := h
  have hn : n < 64 := by
    obtain ⟨o, es, ep, t, h1, h2, h3, h4, h5, h6, h7, h8, h9, _⟩ := setO_get I ha
    have h10 := nodup_le (l := es.toList.map keyOf) (m := (List.range 60).map fun i : Nat => (i : Int)) h5 fun x hx => by
      have h11 := hS x ((h6 x).mpr hx)
      exact List.mem_map.mpr ⟨x.toNat, List.mem_range.mpr (by omega), by omega⟩
    rw [List.length_map, List.length_map, List.length_range, Array.length_toList] at h10
    omega
  exact cr_sortedSet hc pins s σ H [V.ref a] us Q I r ⟨a, S, n, rfl, ha, hn, q⟩
end
section
variable {X : Cx} {K : Fg} {B0 F : Hp} {M : Cs} {ρ κ : List Sl} {P : Sl → Cs → Prop} {e : Expr} {pos p p2 pos2 : Pos}
theorem rn_sortedSetB {w : World} {a : Addr} {S : Int → Bool} {n : Nat} (hm : (a, .raw (SetO w a S n)) ∈ M) (hn : ∀ k, S k = true → 0 ≤ k ∧ k < 60) (h : ∀ ns : List Int, ns.Pairwise (· < ·) → (∀ k : Int, k ∈ ns ↔ S k = true) → ∀ l, P (.v (.ref l)) ((l, .lst (ns.map .int)) :: M)) : RnD K B0 F ρ κ (rSortedSetB w) [.v (.ref a)] M P := fun σ vs H xs Q hl g qq => by
  obtain ⟨x, rfl⟩ := one_arg hl rfl
  have e := Good.ref g
  subst e
  obtain ⟨B, g⟩ := g
  exact ⟨a, S, n, rfl, raw_at g hm, hn, fun ns p h1 h2 _ hp => qq _ _ _ _ (cell_new g.pop hp RpA.of_ints) (h ns h1 h2 p)⟩
/-- sorted(set(natL S)), all below 60 -/
theorem de_sortedSetN (gs : X.mg "sorted" = none) (gm : X.mg "set" = none) (h : DE X B0 F M ρ κ e fun r M1 => ∃ S : List Nat, Seq M1 r (natL S) ∧ S.length ≤ 1000 ∧ (∀ x ∈ S, x < 60) ∧ ∀ T : List Nat, T.Pairwise (· < ·) → (∀ x, x ∈ T ↔ x ∈ S) → ∀ a o l, P (.v (.ref l)) ((l, .lst (natL T)) :: (a, .raw o) :: M1))
    (hc : X.calm = true := by rfl) (hg : Gl X "sorted" := by rfl) (hg2 : Gl X "set" := by rfl) (hs : starEach [.Call (.Name "set" p2) [e] [] pos2] X.env = (false, eval (.Call (.Name "set" p2) [e] [] pos2) X.env) :: starEach [] X.env := by rfl) (hs2 : starEach [e] X.env = (false, eval e X.env) :: starEach [] X.env := by rfl) : DE X B0 F M ρ κ (.Call (.Name "sorted" p) [.Call (.Name "set" p2) [e] [] pos2] [] pos) P := by
  refine de_callB (cr_sortedSetB hc) gs bt_sorted (da_cons (de_callTy (cr_setI hc) gm bt_set (da_cons (fun σ vs H Q g q => h σ vs H Q g fun v H' r M' g' ⟨S, h1, h2, h3, h4⟩ => q v H' r M' g' (da_nil (rn_setI (seq_nat h1) (by rw [List.length_map]; exact h2) fun a n hn => ?_))) hs2) hg2 (he := hs2)) hs) hg (he := hs)
  refine da_nil (rn_sortedSetB List.mem_cons_self (fun k hk => ?_) fun ns p1 p2 l => ?_)
  · obtain ⟨x, hx, rfl⟩ := List.mem_map.mp (of_decide_eq_true hk)
    have := h3 x hx
    omega
  · have hns : ns = (ns.map Int.toNat).map fun i : Nat => (i : Int) := by
      rw [List.map_map]
      refine (List.map_id _).symm.trans (List.map_congr_left fun x hx => ?_)
      obtain ⟨y, hy, e⟩ := List.mem_map.mp (of_decide_eq_true ((p2 x).mp hx))
      show x = ((x.toNat : Nat) : Int)
      omega
    have hmem : ∀ x : Nat, x ∈ ns.map Int.toNat ↔ x ∈ S := fun x => by
      constructor
      · intro hx
        obtain ⟨y, hy, rfl⟩ := List.mem_map.mp hx
        obtain ⟨z, hz, rfl⟩ := List.mem_map.mp (of_decide_eq_true ((p2 y).mp hy))
        exact hz
      · intro hx
        exact List.mem_map.mpr ⟨(x : Int), (p2 x).mpr (decide_eq_true (List.mem_map.mpr ⟨x, hx, rfl⟩)), Int.toNat_natCast x⟩
    have hp : (ns.map Int.toNat).Pairwise (· < ·) := by
      rw [hns] at p1
      exact (List.pairwise_map.mp p1).imp fun h => by omega
    have e : natL (ns.map Int.toNat) = ns.map PyData.int := by
      rw [natL_iL]
      conv => rhs; rw [hns]
    exact e ▸ h4 _ hp hmem a _ l
end
end DL
set_option maxHeartbeats 4000000
/-! tuples that are known to be plain objects (no dict of their own): methods of tuples -/
namespace DLN
open PySem PySem.Spec PyProof.Rows L2
def ndT (o : Obj) : Prop := o.cls = .type "tuple" ∧ o.dict = none
section
variable {X : Cx} {es : List Expr} {pos : Pos}
def tTupN (t : TA) : TE := fun σ H Q => t σ H fun xs H1 => xs.length ≤ sizeLine ∧ ∀ p o, ndT o → H1 p = none → Q (.ref p) (upd H1 p (.frz o (.tup xs)))
theorem pe_tupN {t : TA} {x1} (h : PA X es t) : PE X (.Tuple es x1 pos) (tTupN t) := by
  refine ⟨fun pins s σ H Q I hq => ?_⟩
  refine wpAny_Tuple_spliced (thn (h.run pos pins s σ H _ I hq) fun us s1 ⟨xs, H1, I1, r, z, q⟩ => ⟨by rw [← r.length]; exact z, ?_⟩)
  have hf : H1 s1.heap.objs.size = none := I1.hok.fresh (Nat.le_refl _)
  refine ⟨.ref s1.heap.objs.size, upd H1 s1.heap.objs.size (.frz { cls := .type "tuple", data := .seq us.toArray } (.tup xs)), I1.laid (t' := s1.toks) (fun b u e => Heap.get?_push_of_some _ e) (Nat.le_refl _) ?_, rfl, q _ _ ⟨rfl, rfl⟩ hf⟩
  exact ⟨Heap.get?_push_size _ rfl, z, us, r, ⟨_, Heap.get?_push_size _ rfl, rfl, _, rfl⟩⟩
def rTupOfN (K : PySem.W.Frag) : List V → Hp → VK → Prop := fun xs H Q => ∃ p ys, xs = [V.ref p] ∧ SqL K H p ys ∧ ∀ l o, ndT o → H l = none → Q (.ref l) (upd H l (.frz o (.tup ys)))
theorem call_tuple_ofN : CallR X (.type "tuple") (rTupOfN X.K) := by
  intro pins s σ H xs us Q I r h
  obtain ⟨p, ys, rfl, hq, q⟩ := h
  obtain ⟨u, rfl, rx⟩ := vals1 r
  cases rx
  obtain ⟨its, r', pl, hz⟩ := I.list hq
  have hlen := r'.length
  refine call_tuple_list pl.isList (fun h' kp => ?_) (by simp only [List.size_toArray] <;> omega)
  have I1 : Inv X pins σ H { s with heap := h' } := I.kept (t' := s.toks) kp
  have I2 : Inv X pins σ (upd H h'.objs.size (.frz { cls := .type "tuple", data := .seq its.toArray } (.tup ys))) { s with heap := h'.push { cls := .type "tuple", data := .seq its.toArray } } :=
    I1.laid (t' := s.toks) (fun b o e => Heap.get?_push_of_some _ e) (Nat.le_refl _) ⟨Heap.get?_push_size _ rfl, hz, its, r', IsTup.new _ _⟩
  exact ⟨.ref h'.objs.size, _, I2, rfl, q _ _ ⟨rfl, rfl⟩ (I1.hok.fresh (Nat.le_refl _))⟩
def rCatN (K : PySem.W.Frag) : R2 := fun x y H Q => ∃ a b xs ys, x = .ref a ∧ y = .ref b ∧ SqT K H a xs ∧ SqT K H b ys ∧ xs.length + ys.length ≤ sizeLine ∧
  (xs = [] → Q (.ref b) H) ∧ (xs ≠ [] → ys = [] → Q (.ref a) H) ∧ (xs ≠ [] → ys ≠ [] → ∀ p o, ndT o → H p = none → Q (.ref p) (upd H p (.frz o (.tup (xs ++ ys)))))
theorem op_catN : OpR X (binaryOp .Add) (rCatN X.K) := by
  intro pins s σ H x y v u Q I rx ry h
  obtain ⟨a, b, xs, ys, rfl, rfl, ha, hb, hz, q0, q1, q2⟩ := h
  by_cases hx : xs = []
  · exact op_catA pins s σ H _ _ v u Q I rx ry ⟨a, b, xs, ys, rfl, rfl, ha, hb, hz, q0, fun z => absurd hx z, fun z => absurd hx z⟩
  · cases rx
    cases ry
    obtain ⟨its, r1, p1, _⟩ := I.tuple ha
    obtain ⟨its2, r2, p2, _⟩ := I.tuple hb
    refine HT.cat_tup p1 p2 (fun z => hx (r1.nil_iff.mp z)) (fun z => ⟨.ref a, H, I, rfl, q1 hx (r2.nil_iff.mp z)⟩) (fun z => ?_) (by rw [← r1.length, ← r2.length]; exact hz)
    refine ⟨.ref s.heap.objs.size, _, I.laid (t' := s.toks) (o := .frz { cls := .type "tuple", data := .seq (its ++ its2).toArray } (.tup (xs ++ ys))) (fun b ob q => Heap.get?_push_of_some _ q) (Nat.le_refl _) ?_, rfl, q2 hx (fun w => z (r2.nil_iff.mpr w)) _ _ ⟨rfl, rfl⟩ (I.hok.fresh (Nat.le_refl _))⟩
    exact ⟨Heap.get?_push_size _ rfl, by rw [List.length_append]; exact hz, _, r1.append r2, IsTup.new _ _⟩
def rSlN (K : PySem.W.Frag) : V → Option Int → Option Int → Hp → VK → Prop := fun x lo hi H Q => ∃ a xs, x = .ref a ∧ SqT K H a xs ∧
  (HT.sIx xs.length 0 lo = 0 ∧ HT.sIx xs.length xs.length hi = xs.length → Q (.ref a) H) ∧ (¬ (HT.sIx xs.length 0 lo = 0 ∧ HT.sIx xs.length xs.length hi = xs.length) → ∀ p o, ndT o → H p = none → Q (.ref p) (upd H p (.frz o (.tup (cutV xs lo hi)))))
theorem sl_tupN : SlR X (rSlN X.K) := by
  intro pins s σ H x v vl vu lo hi sl Q I rx hs pl pu h
  obtain ⟨a, xs, rfl, hx, q1, q2⟩ := h
  by_cases hw : HT.sIx xs.length 0 lo = 0 ∧ HT.sIx xs.length xs.length hi = xs.length
  · exact sl_tupA pins s σ H _ v vl vu lo hi sl Q I rx hs pl pu ⟨a, xs, rfl, hx, q1, fun z => absurd hw z⟩
  · cases rx
    obtain ⟨its, r, ht, hz⟩ := I.tuple hx
    have hlen : its.toArray.size = xs.length := by rw [List.size_toArray]; exact r.length.symm
    refine ⟨"tuple", _, PyProof.Rows.slot_tuple_getitem.lookup, ht.typeIs, ?_⟩
    refine HT.getItem_tuple_cut ht hs pl pu (by rw [hlen]; exact hw) ?_ (by rw [hlen]; exact hz)
    rw [hlen]
    refine ⟨.ref s.heap.objs.size, _, I.laid (t' := s.toks) (o := .frz { cls := .type "tuple", data := .seq ((its.drop (HT.sIx xs.length 0 lo)).take (HT.sIx xs.length xs.length hi - HT.sIx xs.length 0 lo)).toArray } (.tup (cutV xs lo hi))) (fun b ob q => Heap.get?_push_of_some _ q) (Nat.le_refl _) ?_, rfl, q2 hw _ _ ⟨rfl, rfl⟩ (I.hok.fresh (Nat.le_refl _))⟩
    exact ⟨Heap.get?_push_size _ rfl, Nat.le_trans (cutV_length xs lo hi) hz, _, (r.drop (HT.sIx xs.length 0 lo)).take (HT.sIx xs.length xs.length hi - HT.sIx xs.length 0 lo), IsTup.new _ _⟩
/-- t.m(e, ..), t a tuple without a dict of its own -/
theorem pe_bmN {o e : Expr} {rest : List Expr} {to : TE} {t : TA} {name : Str} {id : String} {apos cpos : Pos} {r : V → List V → Hp → VK → Prop} (slot : Slot "tuple" name id) (hty : typeOf (.builtin id) = pure (.type "method_descriptor")) (hm : MtR X id r) (ho : PE X o to) (ha : PA X (e :: rest) t)
    (hbase : attributeBase o name X.env (eval o X.env) = eval o X.env := by rfl)
    (hfew : ((backTo cpos (starEach (e :: rest) X.env)).all (fun x => !x.1) && (backToKw cpos (keywordEach [] X.env)).all (fun x => x.1.isSome)
      && decide ((e :: rest).length + ([] : List Keyword).length + (if ([] : List Keyword).isEmpty then 0 else 1) < 30)) = true := by rfl)
    (hline : (apos.endLine == cpos.line) = true := by rfl) (hs : starEach (e :: rest) X.env = (false, eval e X.env) :: starEach rest X.env := by rfl) (hplain : (backTo cpos (starEach rest X.env)).any (·.1) = false := by rfl) :
    PE X (.Call (.Attribute o name apos) (e :: rest) [] cpos) (fun σ H Q => to σ H fun x H1 => (∃ a xs, x = .ref a ∧ DL.SqN X.K H1 a xs) ∧ t σ H1 fun xs H2 => r x xs H2 Q) := by
  refine ⟨fun pins s σ H Q I h => ?_⟩
  refine wpAny_Call_method_late hbase hfew hline rfl (thn (ho.run pins s σ H _ I h) fun v s1 ⟨x, H1, I1, r1, ty, q1⟩ => ?_)
  have ty2 : s1.TypeIs v "tuple" ∧ ∀ a, v = .ref a → ∃ ob, s1.heap.get? a = some ob ∧ ob.dict = none := by
    obtain ⟨a, xs, rfl, hq⟩ := ty
    cases r1
    rcases hq with ⟨o, h1, h2, h3⟩ | ⟨o, its, n, hk, hc, hd, _⟩
    · obtain ⟨h4, _⟩ := I1.hok a _ h3
      exact ⟨⟨o, h4, h1⟩, fun b e => by cases e; exact ⟨o, h4, h2⟩⟩
    · have h4 := I1.kIn a o hk
      exact ⟨⟨o, h4, hc⟩, fun b e => by cases e; exact ⟨o, h4, hd⟩⟩
  obtain ⟨h1, h2⟩ := ty2
  refine ⟨"tuple", id, PySem.F.plainAttrs_tuple, slot, hty, h1, h2, ?_⟩
  have hA := ha.run cpos pins s1 σ H1 _ I1 q1
  rw [hs] at hA ⊢
  refine Calls.callWith_builtin (by show (false || (backTo cpos (starEach rest X.env)).any (·.1)) = false; rw [hplain] <;> rfl) (Calls.evalArgs_plain ?_)
  exact thn hA fun us s2 ⟨vs, H2, I2, r2, q2⟩ => hm pins s2 σ H2 x vs v us Q I2 r1 r2 q2
/-- t.index(i), t a tuple of ints -/
theorem mt_tup_indexI : MtR X "tuple.index" (fun x xs H Q => ∃ p, ∃ ns : List Int, ∃ i, x = .ref p ∧ xs = [.int i] ∧ SqT X.K H p (ns.map V.int) ∧ i ∈ ns ∧ Q (.int (ns.idxOf i : Nat)) H) := by
  intro pins s σ H x xs v us Q I rx rs h
  obtain ⟨p, ns, i, rfl, rfl, hq, hi, q⟩ := h
  cases rx
  obtain ⟨u, rfl, t, rfl⟩ := vals1 rs
  obtain ⟨its, r, pl, hz⟩ := I.tuple hq
  exact PySem.SeqAt.tuple_index_ints (vs := its) pl r.ints hi ⟨.int _, H, I.tok _, ⟨_, rfl⟩, q⟩
end
end DLN
set_option maxHeartbeats 4000000
/-! plain tuples among the data -/
namespace DL
open PySem PySem.Spec PyProof.Rows L2
section
variable {K : Fg} {H : Hp}
theorem RqA.len {vs : List V} {ds : List PyData} (h : RqA K H vs ds) : vs.length = ds.length := RpA.len h.p
theorem Rq.tup_inv {v : V} {ds : List PyData} (h : Rq K H v (.tuple ds)) : ∃ a xs, v = .ref a ∧ SqN K H a xs ∧ RqA K H xs ds := by cases h with | tup h1 h2 => exact ⟨_, _, rfl, h1, h2⟩
theorem RqA.get : ∀ {vs : List V} {ds : List PyData} {i : Nat} {d : PyData}, RqA K H vs ds → ds[i]? = some d → ∃ v, vs[i]? = some v ∧ Rq K H v d
  | _, _, _, _, .nil, e => by simp at e
  | _, _, 0, _, .cons h _, e => by simp at e; subst e; exact ⟨_, rfl, h⟩
  | _, _, i + 1, d, .cons _ t, e => by
    obtain ⟨u, h1, h2⟩ := RqA.get (i := i) t (by simpa using e)
    exact ⟨u, by simpa using h1, h2⟩
theorem RqA.app : ∀ {vs ws : List V} {ds es : List PyData}, RqA K H vs ds → RqA K H ws es → RqA K H (vs ++ ws) (ds ++ es)
  | _, _, _, _, .nil, s => s
  | _, _, _, _, .cons r t, s => .cons r (RqA.app t s)
theorem RqA.take : ∀ {vs : List V} {ds : List PyData} (n : Nat), RqA K H vs ds → RqA K H (vs.take n) (ds.take n)
  | _, _, 0, _ => .nil
  | _, _, _ + 1, .nil => .nil
  | _, _, n + 1, .cons r t => .cons r (RqA.take n t)
theorem RqA.drop : ∀ {vs : List V} {ds : List PyData} (n : Nat), RqA K H vs ds → RqA K H (vs.drop n) (ds.drop n)
  | _, _, 0, r => r
  | _, _, _ + 1, .nil => .nil
  | _, _, n + 1, .cons _ t => RqA.drop n t
theorem cut_rq {xs : List V} {ds : List PyData} (h : RqA K H xs ds) (lo hi : Option Int) : RqA K H (cutV xs lo hi) (cutD ds lo hi) := by
  unfold cutV cutD
  rw [h.len]
  exact RqA.take _ (RqA.drop _ h)
theorem atI_rq {xs : List V} {ds : List PyData} {i : Int} {d : PyData} (h : RqA K H xs ds) (e : atI ds i = some d) : ∃ v, atI xs i = some v ∧ Rq K H v d := by
  unfold atI at e ⊢
  rw [h.len]
  cases c : ixN ds.length i with
  | none => rw [c] at e; cases e
  | some j =>
    rw [c] at e
    exact h.get e
theorem Rp.flat_q {v w : V} {d : PyData} (h : Rp K H v d) (f : flatD d = some w) : Rq K H v d := by
  cases d with
  | none => cases h; exact .non
  | bool b => cases h; exact .bl b
  | int i => cases h; exact .int i
  | str x => cases h; exact .str x
  | _ => cases f
theorem RpA.flat_q : ∀ {vs : List V} {ds : List PyData}, RpA K H vs ds → (∀ d ∈ ds, ∃ w, flatD d = some w) → RqA K H vs ds
  | _, _, .nil, _ => .nil
  | _, _, .cons h t, f => by
    obtain ⟨w, hw⟩ := f _ List.mem_cons_self
    exact .cons (h.flat_q hw) (RpA.flat_q t fun d hd => f d (List.mem_cons_of_mem _ hd))
theorem rqa_of {F B : Hp} : ∀ {ws : List V} {ds : List PyData}, KOk K F B ws (ds.map Sl.n) → RqA K B ws ds
  | _, [], h => by cases h; exact .nil
  | _, d :: ds, h => by
    cases h with
    | cons h1 h2 => exact .cons h1 (rqa_of h2)
theorem sqn_upd {a : Addr} {o : Obj} {xs : List V} (ho : DLN.ndT o) : SqN K (upd H a (.frz o (.tup xs))) a xs := .inl ⟨o, ho.1, ho.2, upd_same⟩
end
section
variable {X : Cx} {K : Fg} {B0 F : Hp} {M : Cs} {ρ κ : List Sl} {P : Sl → Cs → Prop} {e o : Expr} {es : List Expr} {pos p apos cpos : Pos}
theorem GoodB.pushN {B H : Hp} {σ : L2.St} {vs : List V} {d : PyData} {v : V} (g : GoodB K B0 F M ρ κ σ vs H B) (h : Rq K B v d) : GoodB K B0 F M ρ (.n d :: κ) σ (v :: vs) H B := g.push h
/-- a plain tuple is a datum -/
theorem de_nd (h : DE X B0 F M ρ κ e fun r M1 => ∃ d, r = .n d ∧ P (.d d) M1) : DE X B0 F M ρ κ e P := fun σ vs H Q g q => h σ vs H Q g fun v H' r M' g' ⟨d, he, hp⟩ => q v H' (.d d) M' (by
  subst he
  obtain ⟨B, g'⟩ := g'
  exact ⟨B, g'.pop.pushD (Rq.p g'.fst)⟩) hp
theorem nmD (i : Nat) {x : Str} {pos : Pos} {d : PyData} (hr : ρ[i]? = some (.n d)) (h : P (.d d) M) (hN : X.N[i]? = some x := by rfl) (hv : Vis X.env.scope x := by first | exact Or.inl rfl | exact Or.inr (Or.inl rfl) | exact Or.inr (Or.inr rfl)) (hd : (x == ("__debug__" : Str)) = false := by decide)
    (hcd : (x == ("__classdict__" : Str)) = false := by decide) : DE X B0 F M ρ κ (.Name x pos) P := de_nd (nm i hr ⟨d, rfl, h⟩ (by intro h; cases h) hN hv hd hcd)
/-- flat data are plain -/
theorem de_dn (h : DE X B0 F M ρ κ e fun r M1 => ∃ d w, r = .d d ∧ flatD d = some w ∧ P (.n d) M1) : DE X B0 F M ρ κ e P := fun σ vs H Q g q => h σ vs H Q g fun v H' r M' g' ⟨d, w, he, hw, hp⟩ => q v H' (.n d) M' (by
  subst he
  obtain ⟨B, g'⟩ := g'
  exact ⟨B, g'.pop.pushN (Rp.flat_q g'.fst hw)⟩) hp
theorem de_tupN {x1} (h : DA X B0 F M ρ κ es fun rs M1 => ∃ ds, rs = ds.map Sl.n ∧ ds.length ≤ 100000 ∧ P (.n (.tuple ds)) M1) : DE X B0 F M ρ κ (.Tuple es x1 pos) P :=
  fun σ vs H Q g q => tOf_of (DLN.pe_tupN pa_self) (h σ vs H _ g fun ws H1 rs M1 hl g1 h1 => by
    obtain ⟨ds, rfl, hz, p⟩ := h1
    have hl' : ws.length = ds.length := by simpa using hl
    refine ⟨by rw [hl']; exact Nat.le_trans hz (by decide), fun a o ho ha => q _ _ _ M1 ?_ p⟩
    obtain ⟨B, g1⟩ := g1
    obtain ⟨h3, h4⟩ := kok_split hl g1.st
    have g2 := (g1.stk h4).laid (o := .frz o (.tup ws)) ha
    have bp : B a = none := g1.bh.free ha
    exact ⟨_, g2.pushN (Rq.tup (sqn_upd ho) ((rqa_of h3).ext fun b u z => by rw [upd_ne (ne_of_none z bp)]; exact z))⟩)
theorem rn_tupleN {s : Sl} {ds : List PyData} (q : SeqLs M s ds) (hf : ∀ d ∈ ds, ∃ w, flatD d = some w) (h : P (.n (.tuple ds)) M) : RnD K B0 F ρ κ (DLN.rTupOfN K) [s] M P := fun σ vs H xs Q hl g qq => by
  obtain ⟨x, rfl⟩ := one_arg hl rfl
  obtain ⟨B, g⟩ := g
  obtain ⟨a, ys, rfl, h1, h2⟩ := q.at g g.fst
  refine ⟨a, ys, rfl, h1, fun l o ho hl => qq _ _ _ M ?_ h⟩
  have bp : B l = none := g.bh.free hl
  exact ⟨_, (g.pop.laid (o := .frz o (.tup ys)) hl).pushN (Rq.tup (sqn_upd ho) ((h2.flat_q hf).ext fun b u z => by rw [upd_ne (ne_of_none z bp)]; exact z))⟩
/-- tuple(a list of flat data) -/
theorem de_tupleN (gm : X.mg "tuple" = none) (h : DE X B0 F M ρ κ e fun r M1 => ∃ ds, SeqLs M1 r ds ∧ (∀ d ∈ ds, ∃ w, flatD d = some w) ∧ P (.n (.tuple ds)) M1) (hg : Gl X "tuple" := by rfl) (hs : starEach [e] X.env = (false, eval e X.env) :: starEach [] X.env := by rfl) : DE X B0 F M ρ κ (.Call (.Name "tuple" p) [e] [] pos) P :=
  de_callTy DLN.call_tuple_ofN gm bt_tuple (da_cons (fun σ vs H Q g q => h σ vs H Q g fun v H' r M' g' ⟨ds, hq, hf, hp⟩ => q v H' r M' g' (da_nil (rn_tupleN hq hf hp))) hs) hg (he := hs)
theorem r2_catN {xs ys : List PyData} (hz : xs.length + ys.length ≤ 100000) (h : P (.n (.tuple (xs ++ ys))) M) : R2D K B0 F ρ κ (DLN.rCatN K) (.n (.tuple xs)) (.n (.tuple ys)) M P := fun σ vs H x y Q g qq => by
  obtain ⟨B, g⟩ := g
  obtain ⟨b, vb, rfl, hb, rb⟩ := Rq.tup_inv g.fst
  obtain ⟨a, va, e, ha, ra⟩ := Rq.tup_inv g.pop.fst
  subst e
  refine ⟨a, b, va, vb, rfl, rfl, same_t g.bh ha.t, same_t g.bh hb.t, by rw [ra.len, rb.len]; exact Nat.le_trans hz (by decide), fun e => ?_, fun _ e => ?_, fun _ _ p o ho hp => ?_⟩
  · subst e
    cases ra
    exact qq _ H _ M ⟨B, g.pop.pop.pushN (Rq.tup hb rb)⟩ h
  · subst e
    cases rb
    rw [List.append_nil] at h
    exact qq _ H _ M ⟨B, g.pop.pop.pushN (Rq.tup ha ra)⟩ h
  · have bp : B p = none := g.bh.free hp
    exact qq _ _ _ M ⟨_, (g.pop.pop.laid (o := .frz o (.tup (va ++ vb))) hp).pushN (Rq.tup (sqn_upd ho) ((ra.app rb).ext fun b u z => by rw [upd_ne (ne_of_none z bp)]; exact z))⟩ h
theorem rs_tupN {ds : List PyData} {l u : Option Int} (h : P (.n (.tuple (cutD ds l u))) M) : RsD K B0 F ρ κ (DLN.rSlN K) (.n (.tuple ds)) l u M P := fun σ vs H x Q g qq => by
  obtain ⟨B, g⟩ := g
  obtain ⟨a, va, rfl, ha, ra⟩ := Rq.tup_inv g.fst
  refine ⟨a, va, rfl, same_t g.bh ha.t, fun e => ?_, fun _ p o ho hp => ?_⟩
  · rw [ra.len] at e
    rw [cutD_all e] at h
    exact qq _ H _ M ⟨B, g.pop.pushN (Rq.tup ha ra)⟩ h
  · have bp : B p = none := g.bh.free hp
    exact qq _ _ _ M ⟨_, (g.pop.laid (o := .frz o (.tup (cutV va l u))) hp).pushN (Rq.tup (sqn_upd ho) ((cut_rq ra l u).ext fun b u z => by rw [upd_ne (ne_of_none z bp)]; exact z))⟩ h
theorem r2_ixN {ds : List PyData} {i : Int} {d : PyData} (e : atI ds i = some d) (h : P (.n d) M) : R2D K B0 F ρ κ (rIx K) (.n (.tuple ds)) (.d (.int i)) M P := fun σ vs H x y Q g qq => by
  have ey := g.int
  subst ey
  obtain ⟨B, g⟩ := g.pop
  obtain ⟨a, ys, rfl, h1, h2⟩ := Rq.tup_inv g.fst
  obtain ⟨v, hv, hd⟩ := atI_rq h2 e
  exact .inr (.inl ⟨a, ys, i, v, rfl, rfl, same_t g.bh h1.t, hv, qq _ H _ M ⟨B, g.pop.pushN hd⟩ h⟩)
theorem idx_cast (i : Nat) : ∀ ns : List Nat, (ns.map fun i : Nat => (i : Int)).idxOf (i : Int) = ns.idxOf i
  | [] => rfl
  | a :: ns => by
    rw [List.map_cons, List.idxOf_cons, List.idxOf_cons, idx_cast i ns]
    by_cases c : a = i
    · subst c; simp
    · have h1 : (a == i) = false := by simpa using c
      have h2 : ((a : Int) == (i : Int)) = false := by
        rw [beq_eq_false_iff_ne]
        omega
      rw [h1, h2]
/-- t.index(i) -/
theorem de_indexN (h : DE X B0 F M ρ κ o fun r1 M1 => ∃ ns : List Nat, r1 = .n (.tuple (natL ns)) ∧ DE X B0 F M1 ρ (r1 :: κ) e fun r2 M2 => ∃ i : Nat, r2 = .d (.int (i : Nat)) ∧ i ∈ ns ∧ P (.d (.int (ns.idxOf i : Nat))) M2)
    (hbase : attributeBase o "index" X.env (eval o X.env) = eval o X.env := by rfl)
    (hfew : ((backTo cpos (starEach (e :: []) X.env)).all (fun x => !x.1) && (backToKw cpos (keywordEach [] X.env)).all (fun x => x.1.isSome)
      && decide ((e :: ([] : List Expr)).length + ([] : List Keyword).length + (if ([] : List Keyword).isEmpty then 0 else 1) < 30)) = true := by rfl)
    (hline : (apos.endLine == cpos.line) = true := by rfl) (hs : starEach (e :: []) X.env = (false, eval e X.env) :: starEach [] X.env := by rfl) (hplain : (backTo cpos (starEach [] X.env)).any (·.1) = false := by rfl) :
    DE X B0 F M ρ κ (.Call (.Attribute o "index" apos) [e] [] cpos) P := fun σ vs H Q g q => by
  refine tOf_of (DLN.pe_bmN PySem.F.slot_tuple_index PySem.F.type_tuple_index (X := X) DLN.mt_tup_indexI pe_self (pa_cons pe_self pa_nil hs) hbase hfew hline hs hplain) ?_
  refine h σ vs H _ g fun x H1 r1 M1 g1 h1 => ?_
  obtain ⟨ns, rfl, h1⟩ := h1
  have g1' := g1
  obtain ⟨B, g1'⟩ := g1'
  obtain ⟨a, xs, rfl, ha, ra⟩ := Rq.tup_inv g1'.fst
  refine ⟨⟨a, xs, rfl, ha.ext g1'.bh⟩, h1 σ (.ref a :: vs) H1 _ g1 fun y H2 r2 M2 g2 h2 => ?_⟩
  obtain ⟨i, rfl, hi, hp⟩ := h2
  have e := g2.int
  subst e
  obtain ⟨B2, g2⟩ := g2
  obtain ⟨a2, xs2, e2, ha2, ra2⟩ := Rq.tup_inv g2.pop.fst
  cases e2
  have rp2 := ra2.p
  rw [natL_iL] at rp2
  have ex := RpA.ints rp2
  subst ex
  refine ⟨a, ns.map fun i : Nat => (i : Int), (i : Int), rfl, rfl, same_t g2.bh ha2.t, List.mem_map.mpr ⟨i, hi, rfl⟩, ?_⟩
  show Q (V.int (((ns.map fun i : Nat => (i : Int)).idxOf (i : Int) : Nat) : Int)) H2
  rw [idx_cast]
  exact q _ H2 _ _ ⟨B2, g2.pop.pop.pushD (.int _)⟩ hp
/-- a dict of the module with text keys, read -/
theorem r2_kd {d : Addr} {z : Str} {i : Int} (hk : KDct K w d z (.int i)) (h : P (.d (.int i)) M) : R2D K B0 F ρ κ (rIxD K w) (.v (.ref d)) (.d (.str z)) M P := fun σ vs H x y Q g qq => by
  have ey := g.str
  subst ey
  have ex := g.pop.ref
  subst ex
  obtain ⟨B, g⟩ := g
  exact ⟨d, z, .int i, rfl, rfl, hk, qq _ H _ M ⟨B, g.pop.pop.pushD (.int i)⟩ h⟩
/-- t * k -/
theorem r2_repT {xs : List PyData} {k : Int} (hx : xs ≠ []) (h2 : 2 ≤ k) (hk : k ≤ 1000) (hz : xs.length ≤ 1000) (h : P (.d (.tuple (List.replicate k.toNat xs).flatten)) M) : R2D K B0 F ρ κ (rRepT K) (.d (.tuple xs)) (.d (.int k)) M P := fun σ vs H x y Q g qq => by
  have ey := g.int
  subst ey
  obtain ⟨B, g⟩ := g.pop
  obtain ⟨a, va, rfl, ha, ra⟩ := Rp.tup_inv g.fst
  refine ⟨a, k, va, rfl, rfl, same_t g.bh ha, fun e => hx (by subst e; cases ra; rfl), h2, hk, by rw [ra.len]; exact hz, fun p hp => ?_⟩
  have bp : B p = none := g.bh.free hp
  refine qq _ _ _ M ⟨_, (g.pop.laid (o := .tup (List.replicate k.toNat va).flatten) hp).pushD (.tup (SqT.of upd_same) (RpA.ext (fun b u z => by rw [upd_ne (ne_of_none z bp)]; exact z) ?_))⟩ h
  have : ∀ m : Nat, RpA K B (List.replicate m va).flatten (List.replicate m xs).flatten := fun m => by
    induction m with
    | zero => exact .nil
    | succ m ih => rw [List.replicate_succ, List.replicate_succ, List.flatten_cons, List.flatten_cons]; exact ra.app ih
  exact this _
end
end DL
set_option maxHeartbeats 4000000
/-! ### the Hook with the module's dicts by text keys, and one thing more -/
namespace DLHook
open PySem PySem.Spec PyProof.Rows L2 He
abbrev AlY : Type := AlT × Bool
def obsY (n : Nat) (fa : List Fa) (fn : List DefD) (ts : List Tab) (ex : PySem.W.Frag → Bool) (g : Addr → Option Obj) : AlY := (obsTG n fa fn ts g, ex (frG g (asD g n)))
def hookY (n : Nat) (fa : List Fa) (fn : List DefD) (ts : List Tab) (ex : PySem.W.Frag → Bool) : PySem.W.Hook where
  α := AlY
  obs := fun s => obsY n fa fn ts ex s.heap.get?
  val := fun w => (valT fn ts w, true)
  says := fun w h => ∃ K : PySem.W.Frag, K.In h ∧ SaysT fa fn ts w K ∧ ex K = true
  of := fun _ _ e => ⟨_, frG_in, congrArg (fun z : AlY => z.1) e, congrArg (fun z : AlY => z.2) e⟩
  keeps := fun _ _ _ ⟨K, hK, c⟩ k => ⟨K, PySem.W.Frag.In.keeps hK k, c⟩
theorem obsY_eq {n : Nat} {fa : List Fa} {fn : List DefD} {ts : List Tab} {ex : PySem.W.Frag → Bool} {g : Addr → Option Obj} {s : Shared} (h : ∀ a, g a = s.heap.get? a) : obsY n fa fn ts ex g = (hookY n fa fn ts ex).obs s := by
  have e : g = s.heap.get? := funext h
  rw [e] <;> rfl
end DLHook
namespace DL
open PySem PySem.Spec PyProof.Rows L2
/-- an entry of the module's dict -/
theorem kdct_of {fa : List He.Fa} {fn : List He.DefD} {ts : List He.Tab} {w : World} {K : Fg} (c : He.SaysT fa fn ts w K) (i : Nat) {t : He.Tab} (h : ts[i]? = some t) {kvs : List (Str × He.Dv)} (hv : He.valsB K (t.1 K) kvs = true) {q : Str × He.Dv} (hq : q ∈ kvs) : KDct K w (t.1 K) q.1 (q.2.v K) := by
  obtain ⟨es, n, D⟩ := c.tab i h
  obtain ⟨u, h1, h2⟩ := He.valsB_ok hv hq
  exact ⟨es, n, u, D.at_, D.lit, h1, h2⟩
end DL
set_option maxHeartbeats 0
namespace H83
open PySem PySem.Spec PyProof.Rows
def top (i : Nat) : Stmt := PySem.Challenge.pw_cantmove_k83_whole_chains_and_loops.main.body.getD i (.Pass ⟨0, 0, 0, 0⟩)
abbrev s_is_number : Stmt := top 1
abbrev s_is_lengths : Stmt := top 6
abbrev s_are_strings : Stmt := top 7
abbrev s_openings : Stmt := top 8
abbrev s_without_string : Stmt := top 9
abbrev s_replies : Stmt := top 10
abbrev s_score_of_opener : Stmt := top 11
abbrev s_opener_score : Stmt := top 12
abbrev s_best_openings : Stmt := top 13
abbrev s_best_replies : Stmt := top 14
abbrev s__law_mix : Stmt := top 16
abbrev s__law_tape : Stmt := top 17
abbrev s__law_take : Stmt := top 18
abbrev s__law_same : Stmt := top 19
abbrev s__law_spoilt : Stmt := top 20
abbrev s__law_drawn : Stmt := top 21
abbrev s__law_unlike : Stmt := top 22
abbrev s__law_gone : Stmt := top 23
abbrev s__law_taker : Stmt := top 24
abbrev s__law_opener : Stmt := top 25
abbrev s__law_are : Stmt := top 26
abbrev s_law : Stmt := top 27
end H83
set_option maxHeartbeats 4000000
namespace H83
open PySem PySem.Spec PyProof.Rows L2 DL
/-! ### _law_same of equal data -/
def SameOk : Nat → PyData → Prop
  | _, .none => True
  | _, .bool _ => True
  | _, .int _ => True
  | _, .str _ => True
  | m + 1, .tuple ds => ds.length ≤ 100000 ∧ ∀ d ∈ ds, SameOk m d
  | m + 1, .list ds => ds.length ≤ 100000 ∧ ∀ d ∈ ds, SameOk m d
  | _, _ => False
abbrev R_same (m : Nat) := Pu (fun d : PyData => [.d d, .d d]) (SameOk m) (fun _ => .bool true)
section
variable {P : Program} {w : World} {K : PySem.W.Frag} {mg : Str → Option Value} {base : Heap} {f : Addr} {fd : FuncData}
theorem sc_same : FnScope ["a", "b", "k"] ["a", "b"] (defScope s__law_same) := ⟨rfl, rfl, rfl, by decide +kernel, rfl, by decide +kernel, by decide +kernel⟩
theorem ok_same1 {k m : Nat} (Fn : FnP K "_law_same" s__law_same f fd) (G : ∀ m', m = m' + 1 → Go P w K mg base "_law_same" k ["a", "b"] (R_same m')) (g_is : mg "isinstance" = none) (g_tu : mg "tuple" = none) (g_li : mg "list" = none) (g_bo : mg "bool" = none) (g_in : mg "int" = none) (g_st : mg "str" = none) (g_le : mg "len" = none) (g_al : mg "all" = none) (g_ra : mg "range" = none) : FnOk P w K mg base CX0 (k + 1) f fd ["a", "b"] (SpG K (R_same m)) := by
  refine fn_okD Fn sc_same (fun κ M W h => ?_) fun cdv A outer s H E hr nd B0 F0 κ M W hR => ?_
  · obtain ⟨ns, rfl, _⟩ := h
    rfl
  · obtain ⟨d, hκ, hd, hW⟩ := hR
    have hκ : κ = [.d d, .d d] := hκ
    subst hκ
    have hW : ∀ M', W (.d (.bool true)) M' := hW
    have row : ∀ (ds : List PyData), (∀ M, Seq M (.d d) ds) → (ds.length ≤ 100000 ∧ ∃ m', m = m' + 1 ∧ ∀ y ∈ ds, SameOk m' y) → ∀ kk : KK, kk.rt = W → DB (cxOf CX0 P w K mg base ["a", "b", "k"] "_law_same" (defScope s__law_same) f cdv A outer s H E).nox B0 F0 M [.d d, .d d, .un] [] ((match defBody s__law_same with | .If _ b _ _ :: _ => b | _ => [])) kk := fun ds q ⟨hl, m', hm, hy⟩ kk hkk => by
      subst hkk
      have hl' : -(2 ^ 62) ≤ (ds.length : Int) ∧ (ds.length : Int) < 2 ^ 62 := by omega
      refine db_cons <| ds_ret <| de_and <| de_cmp op_eq <| de_len g_le <| nm 0 rfl ⟨ds, q _, de_len g_le <| nm 1 rfl ⟨ds, q _, r2_eqI ⟨_, rfl, waysT (decide_eq_true rfl) ?_⟩⟩⟩
      refine de_one <| de_all g_al <| de_lcF 2 (fun _ => .bool true) <| di_range1 g_ra <| da_cons <| de_len g_le <| nm 0 rfl ⟨ds, q _, da_nil ⟨_, rfl, hl'.1, hl'.2, ?_, fun _ _ _ => trivial, ?_, fun D => ⟨List.replicate ds.length true, ?_, ?_⟩⟩⟩
      · rw [rngD_len]; omega
      · intro y D acc hy' b
        obtain ⟨i, hi, rfl⟩ := rngD_mem hy'
        have hi : i < ds.length := by omega
        have e : atI ds (0 + (i : Int)) = some ds[i] := atI_at (by omega) (by rw [show ((0 : Int) + (i : Int)).toNat = i by omega]; exact List.getElem?_eq_getElem hi)
        exact de_pu (G m' hm) hr <| da_cons <| de_ix ix_seq <| nm 0 rfl <| nm 2 rfl <| r2_ix (q _) e <| da_cons <| de_ix ix_seq <| nm 1 rfl <| nm 2 rfl <| r2_ix (q _) e <| da_nil <| da_pu ds[i] rfl (hy _ (List.getElem_mem hi)) ⟨rfl, rfl⟩
      · rw [show ((rngD 0 ((ds.length : Nat) : Int).toNat).map fun _ => PyData.bool true) = (List.replicate ds.length true).map PyData.bool by
          rw [List.map_const', rngD_len, List.map_replicate, Int.toNat_natCast]]
        exact .cell List.mem_cons_self
      · rw [show (List.replicate ds.length true).all id = true by simp]
        exact hW _
    refine db_cons <| ds_if <| dt_w <| dw_orP <| dt_w <| dw_andP <| dt_val <| de_isi bt_tuple g_is g_tu <| nm 0 rfl ⟨d, _, rfl, kTup _ d, _, rfl, isTup d, fun _ => dw_and1 <| dt_val <| de_isi bt_tuple g_is g_tu <| nm 1 rfl ⟨d, _, rfl, kTup _ d, _, rfl, rfl, rfl⟩,
      isLst d && isLst d, fun _ => dw_or1 <| dt_w <| dw_andP <| dt_val <| de_isi bt_list g_is g_li <| nm 0 rfl ⟨d, _, rfl, kLst _ d, _, rfl, isLst d, fun _ => dw_and1 <| dt_val <| de_isi bt_list g_is g_li <| nm 1 rfl ⟨d, _, rfl, kLst _ d, _, rfl, rfl, rfl⟩, rfl, rfl⟩, ?_⟩
    have rest : isTup d = false → isLst d = false → DB (cxOf CX0 P w K mg base ["a", "b", "k"] "_law_same" (defScope s__law_same) f cdv A outer s H E).nox B0 F0 M [.d d, .d d, .un] [] ((defBody s__law_same).drop 1) { nx := fun M' ρ' => W (.d .none) M', rt := W } := fun h1 h2 => by
      refine db_cons <| ds_if <| dt_w <| dw_orP <| dt_val <| de_isi bt_bool g_is g_bo <| nm 0 rfl ⟨d, _, rfl, kBool _ d, _, rfl, isBool d, fun _ => dw_or1 <| dt_val <| de_isi bt_bool g_is g_bo <| nm 1 rfl ⟨d, _, rfl, kBool _ d, _, rfl, rfl, rfl⟩, ?_⟩
      cases d with
      | bool b =>
        refine waysT rfl <| db_cons <| ds_ret <| de_and <| de_isi bt_bool g_is g_bo <| nm 0 rfl ⟨_, _, rfl, kBool _ _, _, rfl, waysT rfl <| de_and <| de_isi bt_bool g_is g_bo <| nm 1 rfl ⟨_, _, rfl, kBool _ _, _, rfl, waysT rfl <| de_one <| de_cmp op_eq <| nm 0 rfl <| nm 1 rfl <| r2_eq rfl rfl rfl ?_⟩⟩
        cases b <;> exact hW _
      | tuple ds => cases h1
      | list ds => cases h2
      | dict _ => cases m <;> exact hd.elim
      | int i =>
        refine waysF rfl <| db_nil <| db_cons <| ds_if <| dt_w <| dw_orP <| dt_w <| dw_andP <| dt_val <| de_isi bt_int g_is g_in <| nm 0 rfl ⟨_, _, rfl, kInt _ _, _, rfl, true, fun _ => dw_and1 <| dt_val <| de_isi bt_int g_is g_in <| nm 1 rfl ⟨_, _, rfl, kInt _ _, _, rfl, rfl, rfl⟩, true, (fun h => by cases h), waysT rfl ?_⟩
        refine db_cons <| ds_ret <| de_cmp op_eq <| nm 0 rfl <| nm 1 rfl <| r2_eqI ?_
        rw [decide_eq_true rfl]
        exact hW _
      | str x =>
        refine waysF rfl <| db_nil <| db_cons <| ds_if <| dt_w <| dw_orP <| dt_w <| dw_andP <| dt_val <| de_isi bt_int g_is g_in <| nm 0 rfl ⟨_, _, rfl, kInt _ _, _, rfl, true, (fun h => by cases h), true, fun _ => dw_or1 <| dt_w <| dw_andP <| dt_val <| de_isi bt_str g_is g_st <| nm 0 rfl ⟨_, _, rfl, kStr _ _, _, rfl, true, fun _ => dw_and1 <| dt_val <| de_isi bt_str g_is g_st <| nm 1 rfl ⟨_, _, rfl, kStr _ _, _, rfl, rfl, rfl⟩, rfl, rfl⟩, waysT rfl ?_⟩
        refine db_cons <| ds_ret <| de_cmp op_eq <| nm 0 rfl <| nm 1 rfl <| r2_eq rfl rfl rfl ?_
        rw [decide_eq_true rfl]
        exact hW _
      | none =>
        refine waysF rfl <| db_nil <| db_cons <| ds_if <| dt_w <| dw_orP <| dt_w <| dw_andP <| dt_val <| de_isi bt_int g_is g_in <| nm 0 rfl ⟨_, _, rfl, kInt _ _, _, rfl, true, (fun h => by cases h), false, fun _ => dw_or1 <| dt_w <| dw_andP <| dt_val <| de_isi bt_str g_is g_st <| nm 0 rfl ⟨_, _, rfl, kStr _ _, _, rfl, true, (fun h => by cases h), rfl, rfl⟩, waysF rfl <| db_nil ?_⟩
        exact db_cons <| ds_ret <| de_and <| de_cmp op_isN <| nm 0 rfl <| de_non <| r2_isN ⟨_, rfl, waysT rfl <| de_one <| de_cmp op_isN <| nm 1 rfl <| de_non <| r2_isN (hW _)⟩
    cases h1 : isTup d with
    | true =>
      cases d with
      | tuple ds =>
        cases m with
        | zero => exact hd.elim
        | succ m => exact waysT rfl (row ds (fun _ => .tup ds) ⟨hd.1, m, rfl, hd.2⟩ _ rfl)
      | _ => cases h1
    | false =>
      cases h2 : isLst d with
      | true =>
        cases d with
        | list ds =>
          cases m with
          | zero => exact hd.elim
          | succ m => exact waysT rfl (row ds (fun _ => .lst ds) ⟨hd.1, m, rfl, hd.2⟩ _ rfl)
        | _ => cases h2
      | false => exact waysF rfl <| db_nil <| rest h1 h2
end
end H83
namespace H83
open PySem PySem.Spec PyProof.Rows L2 DL
section
variable {P : Program} {w : World} {K : PySem.W.Frag} {mg : Str → Option Value} {base : Heap} {f : Addr} {fd : FuncData}
theorem go_same (k : Nat) (Fn : FnP K "_law_same" s__law_same f fd) (gm : mg "_law_same" = some (.ref f)) (g_is : mg "isinstance" = none) (g_tu : mg "tuple" = none) (g_li : mg "list" = none) (g_bo : mg "bool" = none) (g_in : mg "int" = none) (g_st : mg "str" = none) (g_le : mg "len" = none) (g_al : mg "all" = none) (g_ra : mg "range" = none) :
    ∀ m, Go P w K mg base "_law_same" (k + 1 + m) ["a", "b"] (R_same m) := by
  have one : ∀ (j m : Nat), (∀ m', m = m' + 1 → Go P w K mg base "_law_same" j ["a", "b"] (R_same m')) → Go P w K mg base "_law_same" (j + 1) ["a", "b"] (R_same m) := fun j m h =>
    go_of Fn gm (fun _ _ _ _ _ _ us hl => match us, hl with | [_, _], _ => rfl) (ok_same1 Fn h g_is g_tu g_li g_bo g_in g_st g_le g_al g_ra)
  intro m
  induction m with
  | zero => exact one k 0 fun m' h => by omega
  | succ m ih =>
    refine one (k + 1 + m) (m + 1) fun m' h => ?_
    have : m = m' := by omega
    subst this
    exact ih
end
end H83
set_option maxHeartbeats 1000000
/-! chains and loops: the score -/
namespace CL
/-! ### least, greatest -/
def mn : List Int → Int
  | [] => 0
  | [x] => x
  | x :: y :: l => min x (mn (y :: l))
def mx : List Int → Int
  | [] => 0
  | [x] => x
  | x :: y :: l => max x (mx (y :: l))
theorem mn_spec : ∀ {l : List Int}, l ≠ [] → mn l ∈ l ∧ ∀ y ∈ l, mn l ≤ y
  | [], h => absurd rfl h
  | [x], _ => ⟨List.mem_cons_self, fun y hy => by rw [List.mem_singleton.mp hy]; exact Int.le_refl _⟩
  | x :: y :: l, _ => by
    obtain ⟨h1, h2⟩ := mn_spec (l := y :: l) (by simp)
    show min x (mn (y :: l)) ∈ _ ∧ ∀ z ∈ _, min x (mn (y :: l)) ≤ z
    refine ⟨?_, fun z hz => ?_⟩
    · by_cases c : x ≤ mn (y :: l)
      · rw [Int.min_eq_left c]; exact List.mem_cons_self
      · rw [Int.min_eq_right (by omega)]; exact List.mem_cons_of_mem _ h1
    · rcases List.mem_cons.mp hz with rfl | hz
      · omega
      · have := h2 z hz; omega
theorem mx_spec : ∀ {l : List Int}, l ≠ [] → mx l ∈ l ∧ ∀ y ∈ l, y ≤ mx l
  | [], h => absurd rfl h
  | [x], _ => ⟨List.mem_cons_self, fun y hy => by rw [List.mem_singleton.mp hy]; exact Int.le_refl _⟩
  | x :: y :: l, _ => by
    obtain ⟨h1, h2⟩ := mx_spec (l := y :: l) (by simp)
    show max x (mx (y :: l)) ∈ _ ∧ ∀ z ∈ _, z ≤ max x (mx (y :: l))
    refine ⟨?_, fun z hz => ?_⟩
    · by_cases c : x ≤ mx (y :: l)
      · rw [Int.max_eq_right c]; exact List.mem_cons_of_mem _ h1
      · rw [Int.max_eq_left (by omega)]; exact List.mem_cons_self
    · rcases List.mem_cons.mp hz with rfl | hz
      · omega
      · have := h2 z hz; omega
theorem mn_eq {l : List Int} {m : Int} (h : m ∈ l) (h2 : ∀ y ∈ l, m ≤ y) : m = mn l := by
  obtain ⟨h3, h4⟩ := mn_spec (l := l) (fun e => by rw [e] at h; cases h)
  have := h2 _ h3
  have := h4 _ h
  omega
theorem mx_eq {l : List Int} {m : Int} (h : m ∈ l) (h2 : ∀ y ∈ l, y ≤ m) : m = mx l := by
  obtain ⟨h3, h4⟩ := mx_spec (l := l) (fun e => by rw [e] at h; cases h)
  have := h2 _ h3
  have := h4 _ h
  omega
/-! ### strings -/
abbrev St := List Nat × List Nat
def uq (a : List Nat) : List Nat := (List.range 60).filter fun x => decide (x ∈ a)
theorem uq_mem {a : List Nat} (h : ∀ x ∈ a, x < 60) {x : Nat} : x ∈ uq a ↔ x ∈ a := by
  unfold uq
  rw [List.mem_filter, List.mem_range, decide_eq_true_iff]
  exact ⟨fun z => z.2, fun z => ⟨h x z, z⟩⟩
theorem uq_up (a : List Nat) : (uq a).Pairwise (· < ·) := List.pairwise_lt_range.filter _
theorem uq_eq {a T : List Nat} (h : ∀ x ∈ a, x < 60) (up : T.Pairwise (· < ·)) (hm : ∀ x, x ∈ T ↔ x ∈ a) : T = uq a := by
  refine DL.sort_up ((List.perm_ext_iff_of_nodup (up.imp fun h => by omega) ((uq_up a).imp fun h => by omega)).mpr fun x => ?_) (up.imp fun h => by omega) ((uq_up a).imp fun h => by omega)
  rw [hm, uq_mem h]
abbrev Op := Bool × Nat
def ops (s : St) : List Op := (uq s.1).map (fun x => (true, x)) ++ (uq s.2).map (fun x => (false, x))
def gone (s : St) (o : Op) : St := if o.1 then (s.1.erase o.2, s.2) else (s.1, s.2.erase o.2)
def size (s : St) : Nat := s.1.length + s.2.length
structure Ok (s : St) : Prop where
  a : ∀ x ∈ s.1, 3 ≤ x ∧ x ≤ 40
  b : ∀ x ∈ s.2, 4 ≤ x ∧ x ≤ 40
  n : size s ≤ 12
def Has (s : St) (o : Op) : Prop := if o.1 then o.2 ∈ s.1 else o.2 ∈ s.2
theorem ops_has {s : St} (h : Ok s) {o : Op} : o ∈ ops s ↔ Has s o := by
  obtain ⟨w, L⟩ := o
  unfold ops Has
  rw [List.mem_append, List.mem_map, List.mem_map]
  cases w with
  | true =>
    simp only [Prod.mk.injEq, true_and, Bool.false_eq_true, false_and, and_false, exists_false, or_false, exists_eq_right, if_true]
    exact uq_mem fun x hx => by have := h.a x hx; omega
  | false =>
    simp only [Prod.mk.injEq, true_and, Bool.false_eq_true, false_and, and_false, exists_false, false_or, exists_eq_right, if_false, reduceCtorEq]
    exact uq_mem fun x hx => by have := h.b x hx; omega
theorem gone_size {s : St} {o : Op} (h : Has s o) : size (gone s o) + 1 = size s := by
  obtain ⟨w, L⟩ := o
  unfold Has at h
  unfold gone size
  cases w with
  | true =>
    have h : L ∈ s.1 := h
    have h1 := List.length_erase_of_mem h
    have h2 := List.length_pos_of_mem h
    show (s.1.erase L).length + s.2.length + 1 = _
    omega
  | false =>
    have h : L ∈ s.2 := h
    have h1 := List.length_erase_of_mem h
    have h2 := List.length_pos_of_mem h
    show s.1.length + (s.2.erase L).length + 1 = _
    omega
theorem gone_ok {s : St} {o : Op} (h : Ok s) : Ok (gone s o) := by
  have h1 : (gone s o).1.length ≤ s.1.length := by unfold gone; split; exact List.length_erase_le; exact Nat.le_refl _
  have h2 : (gone s o).2.length ≤ s.2.length := by unfold gone; split; exact Nat.le_refl _; exact List.length_erase_le
  refine ⟨fun x hx => h.a x ?_, fun x hx => h.b x ?_, ?_⟩
  · unfold gone at hx; split at hx
    · exact List.mem_of_mem_erase hx
    · exact hx
  · unfold gone at hx; split at hx
    · exact hx
    · exact List.mem_of_mem_erase hx
  · have := h.n
    unfold size at *
    omega
def over (w : Bool) : Int := if w then 2 else 4
/-- what the taker gets more: all, or some left over -/
def tk (o : Op) (rest : St) (v : Int) : List Int := ((o.2 : Int) + v) :: (if rest = ([], []) then [] else [(o.2 : Int) - 2 * over o.1 - v])
def val : Nat → St → Int
  | 0, _ => 0
  | f + 1, s => if s = ([], []) then 0 else -mn ((ops s).map fun o => mx (tk o (gone s o) (val f (gone s o))))
def V (s : St) : Int := val (size s) s
theorem size0 {s : St} (h : size s = 0) : s = ([], []) := by
  obtain ⟨a, b⟩ := s
  unfold size at h
  have h : a.length + b.length = 0 := h
  cases a with
  | nil => cases b with
    | nil => rfl
    | cons x b => simp at h
  | cons x a => simp at h
theorem val_fuel : ∀ (f : Nat) {s : St}, Ok s → size s ≤ f → val f s = V s
  | 0, s, _, h => by
    have : size s = 0 := by omega
    unfold V
    rw [this]
  | f + 1, s, hs, h => by
    by_cases c : s = ([], [])
    · subst c
      rfl
    · obtain ⟨n, hn⟩ : ∃ n, size s = n + 1 := ⟨size s - 1, by have : size s ≠ 0 := fun z => c (size0 z); omega⟩
      unfold V
      rw [hn]
      unfold val
      rw [if_neg c, if_neg c]
      congr 2
      refine List.map_congr_left fun o ho => ?_
      have hg := gone_size ((ops_has hs).mp ho)
      rw [val_fuel f (gone_ok hs) (by omega), val_fuel n (gone_ok hs) (by omega)]
theorem V_nil : V ([], []) = 0 := rfl
theorem V_eq {s : St} (hs : Ok s) (h : s ≠ ([], [])) : V s = -mn ((ops s).map fun o => mx (tk o (gone s o) (V (gone s o)))) := by
  obtain ⟨n, hn⟩ : ∃ n, size s = n + 1 := ⟨size s - 1, by have : size s ≠ 0 := fun z => h (size0 z); omega⟩
  have : V s = val (n + 1) s := by unfold V; rw [hn]
  rw [this]
  unfold val
  rw [if_neg h]
  congr 2
  refine List.map_congr_left fun o ho => ?_
  have hg := gone_size ((ops_has hs).mp ho)
  rw [val_fuel n (gone_ok hs) (by omega)]
theorem ops_ne {s : St} (hs : Ok s) (h : s ≠ ([], [])) : ops s ≠ [] := fun e => by
  obtain ⟨a, b⟩ := s
  cases a with
  | cons x a =>
    have := (ops_has hs (o := (true, x))).mpr (show x ∈ x :: a from List.mem_cons_self)
    rw [e] at this
    cases this
  | nil =>
    cases b with
    | nil => exact h rfl
    | cons x b =>
      have := (ops_has hs (o := (false, x))).mpr (show x ∈ x :: b from List.mem_cons_self)
      rw [e] at this
      cases this
def sm (s : St) : Nat := s.1.sum + s.2.sum
theorem sum_erase {l : List Nat} {x : Nat} (h : x ∈ l) : (l.erase x).sum + x = l.sum := by
  have := (List.perm_cons_erase h).sum_nat
  rw [List.sum_cons] at this
  omega
theorem gone_sm {s : St} {o : Op} (h : Has s o) : sm (gone s o) + o.2 = sm s := by
  obtain ⟨w, L⟩ := o
  unfold Has at h
  unfold gone sm
  cases w with
  | true =>
    have h1 := sum_erase (show L ∈ s.1 from h)
    show (s.1.erase L).sum + s.2.sum + L = _
    omega
  | false =>
    have h1 := sum_erase (show L ∈ s.2 from h)
    show s.1.sum + (s.2.erase L).sum + L = _
    omega
theorem tk_ne (o : Op) (r : St) (v : Int) : tk o r v ≠ [] := by unfold tk; simp
/-- not above 0; even or odd as all boxes are -/
theorem V_law : ∀ (n : Nat) {s : St}, size s = n → Ok s → V s ≤ 0 ∧ ((sm s : Int) - V s) % 2 = 0
  | 0, s, h, _ => by
    rw [size0 h]
    exact ⟨by decide, by decide⟩
  | n + 1, s, h, hs => by
    have hne : s ≠ ([], []) := fun e => by rw [e] at h; cases h
    rw [V_eq hs hne]
    have ne2 : ((ops s).map fun o => mx (tk o (gone s o) (V (gone s o)))) ≠ [] := by
      have := ops_ne hs hne
      simpa using this
    obtain ⟨h1, _⟩ := mn_spec ne2
    obtain ⟨o, ho, e⟩ := List.mem_map.mp h1
    rw [← e]
    have hh := (ops_has hs).mp ho
    have hg := gone_size hh
    obtain ⟨i1, i2⟩ := V_law n (s := gone s o) (by omega) (gone_ok hs)
    have hsm := gone_sm hh
    obtain ⟨m1, m2⟩ := mx_spec (tk_ne o (gone s o) (V (gone s o)))
    have hov : over o.1 = 2 ∨ over o.1 = 4 := by unfold over; split; exact .inl rfl; exact .inr rfl
    have hL : 2 * over o.1 ≤ (o.2 : Int) + 1 ∨ (2 * over o.1 ≤ 2 * (o.2 : Int)) := by
      obtain ⟨w, L⟩ := o
      unfold Has at hh
      cases w with
      | true => have := hs.a L hh; right; show 2 * 2 ≤ 2 * (L : Int); omega
      | false => have := hs.b L hh; right; show 2 * 4 ≤ 2 * (L : Int); omega
    have hL2 : over o.1 ≤ (o.2 : Int) := by
      obtain ⟨w, L⟩ := o
      unfold Has at hh
      cases w with
      | true => have := hs.a L hh; show (2 : Int) ≤ (L : Int); omega
      | false => have := hs.b L hh; show (4 : Int) ≤ (L : Int); omega
    have hv0 : gone s o = ([], []) → V (gone s o) = 0 := fun c => by rw [c]; rfl
    generalize V (gone s o) = v at *
    generalize mx (tk o (gone s o) v) = m at *
    have hm1 := m2 _ (show (o.2 : Int) + v ∈ tk o (gone s o) v from List.mem_cons_self)
    unfold tk at m1 m2
    by_cases c : gone s o = ([], [])
    · rw [if_pos c] at m1
      have m1 : m = (o.2 : Int) + v := List.mem_singleton.mp m1
      have hv := hv0 c
      rw [c] at hsm i2
      have : sm (([], []) : St) = 0 := rfl
      rw [this] at hsm i2
      constructor
      · rcases hov with q | q <;> omega
      · omega
    · rw [if_neg c] at m1 m2
      have hm2 := m2 ((o.2 : Int) - 2 * over o.1 - v) (by simp)
      refine ⟨by omega, ?_⟩
      rcases List.mem_cons.mp m1 with q | q
      · omega
      · have q := List.mem_singleton.mp q
        rcases hov with z | z <;> omega
end CL
set_option maxHeartbeats 1000000
/-! chains of four and more alone; one chain; the memo's room -/
namespace CL
theorem gone_true (a : List Nat) (L : Nat) : gone (a, []) (true, L) = (a.erase L, []) := rfl
theorem ops_chain (a : List Nat) : ops (a, []) = (uq a).map fun x => (true, x) := by
  unfold ops
  rw [show uq (([] : List Nat)) = [] from by unfold uq; simp]
  simp
theorem four_sum {a : List Nat} (h : ∀ x ∈ a, 4 ≤ x) : 4 * a.length ≤ a.sum := by
  induction a with
  | nil => exact Nat.le_refl 0
  | cons x a ih =>
    have h1 := h x List.mem_cons_self
    have h2 := ih fun y hy => h y (List.mem_cons_of_mem _ hy)
    rw [List.length_cons, List.sum_cons]
    omega
theorem long_V : ∀ (n : Nat) {a : List Nat}, a.length = n + 1 → (∀ x ∈ a, 4 ≤ x) → Ok (a, []) → V (a, []) = -(a.sum : Int) + 4 * (n : Int)
  | n, a, hl, h4, hs => by
    have hne : ((a, []) : St) ≠ ([], []) := fun e => by
      have : a = [] := congrArg Prod.fst e
      rw [this] at hl
      cases hl
    rw [V_eq hs hne, ops_chain, List.map_map]
    have key : ∀ L, L ∈ a → mx (tk (true, L) (gone (a, []) (true, L)) (V (gone (a, []) (true, L)))) = (a.sum : Int) - 4 * (n : Int) := fun L hL => by
      rw [gone_true]
      have hsum := sum_erase hL
      have hlen := List.length_erase_of_mem hL
      have h44 : ∀ x ∈ a.erase L, 4 ≤ x := fun x hx => h4 x (List.mem_of_mem_erase hx)
      have hfour := four_sum h44
      cases n with
      | zero =>
        have he : a.erase L = [] := List.length_eq_zero_iff.mp (by omega)
        rw [he]
        unfold tk
        rw [if_pos rfl]
        show (L : Int) + V ([], []) = _
        rw [V_nil]
        rw [he] at hsum
        simp at hsum
        omega
      | succ n =>
        have ih := long_V n (a := a.erase L) (by omega) h44 (gone_ok (o := (true, L)) hs)
        have he : ((a.erase L, []) : St) ≠ ([], []) := fun e => by
          have : a.erase L = [] := congrArg Prod.fst e
          rw [this] at hlen
          simp at hlen
          omega
        rw [ih]
        unfold tk
        rw [if_neg he]
        show max _ _ = _
        have e1 : over true = 2 := rfl
        show max ((L : Int) + (-((a.erase L).sum : Int) + 4 * (n : Int))) ((L : Int) - 2 * over true - (-((a.erase L).sum : Int) + 4 * (n : Int))) = _
        rw [e1]
        omega
    have ne2 : (uq a).map ((fun o => mx (tk o (gone (a, []) o) (V (gone (a, []) o)))) ∘ fun x => ((true, x) : Op)) ≠ [] := by
      intro e
      have := ops_ne hs hne
      rw [ops_chain] at this
      have e2 := List.map_eq_nil_iff.mp e
      rw [e2] at this
      exact this rfl
    obtain ⟨h1, _⟩ := mn_spec ne2
    obtain ⟨L, hL, e⟩ := List.mem_map.mp h1
    have hL : L ∈ a := (uq_mem fun x hx => by have := hs.a x hx; omega).mp hL
    rw [← e]
    show -mx (tk (true, L) (gone (a, []) (true, L)) (V (gone (a, []) (true, L)))) = _
    rw [key L hL]
    omega
theorem one_V {L : Nat} (h3 : 3 ≤ L) (h40 : L ≤ 40) : V ([L], []) = -(L : Int) := by
  have hs : Ok (([L], []) : St) := ⟨fun x hx => by rw [List.mem_singleton.mp hx]; exact ⟨h3, h40⟩, fun x hx => (by cases hx), by show 1 + 0 ≤ 12; decide⟩
  have hne : (([L], []) : St) ≠ ([], []) := fun e => by cases (congrArg Prod.fst e)
  rw [V_eq hs hne, ops_chain]
  have hu : uq [L] = [L] := (uq_eq (T := [L]) (fun x hx => by rw [List.mem_singleton.mp hx]; omega) (List.pairwise_singleton _ _) fun x => Iff.rfl).symm
  rw [hu]
  show -mx (tk (true, L) (gone ([L], []) (true, L)) (V (gone ([L], []) (true, L)))) = _
  rw [gone_true, show [L].erase L = [] by simp]
  unfold tk
  rw [if_pos rfl]
  show -((L : Int) + V ([], [])) = _
  rw [V_nil]
  omega
/-! ### parts of rows -/
def subs : List Nat → List (List Nat)
  | [] => [[]]
  | x :: xs => (subs xs).map (x :: ·) ++ subs xs
theorem subs_len : ∀ l : List Nat, (subs l).length = 2 ^ l.length
  | [] => rfl
  | x :: l => by
    show ((subs l).map (x :: ·) ++ subs l).length = _
    rw [List.length_append, List.length_map, subs_len l, List.length_cons, Nat.pow_succ]
    omega
theorem subs_mem {a b : List Nat} (h : a.Sublist b) : a ∈ subs b := by
  induction h with
  | slnil => exact List.mem_singleton.mpr rfl
  | cons x _ ih => exact List.mem_append_right _ ih
  | cons_cons x _ ih => exact List.mem_append_left _ (List.mem_map.mpr ⟨_, ih, rfl⟩)
structure Sub (s r : St) : Prop where
  a : s.1.Sublist r.1
  b : s.2.Sublist r.2
theorem Sub.refl (s : St) : Sub s s := ⟨List.Sublist.refl _, List.Sublist.refl _⟩
theorem Sub.gone {s r : St} (h : Sub s r) (o : Op) : Sub (gone s o) r := by
  obtain ⟨w, L⟩ := o
  unfold CL.gone
  cases w with
  | true => exact ⟨List.erase_sublist.trans h.a, h.b⟩
  | false => exact ⟨h.a, List.erase_sublist.trans h.b⟩
/-- opens that are best -/
def bestO (s : St) : List Op := (ops s).filter fun o => decide (-mx (tk o (gone s o) (V (gone s o))) = V s)
theorem single_rest (L : Nat) : gone ([L], []) (true, L) = ([], []) := by
  rw [gone_true, show [L].erase L = [] by simp]
end CL
set_option maxHeartbeats 4000000
namespace H83
open PySem PySem.Spec PyProof.Rows L2 DL
/-! ### the tape -/
inductive Tape (tp cs : Addr) : Cs → Prop
  | mk (ns : List Int) (i : Nat) (dg sd : Int) : Tape tp cs [(tp, .raw (.lst [.ref cs, .int (i : Nat), .int dg, .int sd])), (cs, .lst (ns.map .int))]
abbrev R_mix := PuR (fun i : Int => [.d (.int i)]) (fun _ => True) (fun _ y => ∃ z : Int, y = .int z)
def R_tape : List Sl → Cs → (Sl → Cs → Prop) → Prop := fun κ M W => ∃ ns : List Int, ns.length ≤ 100000 ∧ κ = [.rd (iL ns)] ∧ M = [] ∧ ∀ tp cs M', Tape tp cs M' → W (.v (.ref tp)) M'
def R_take (tp cs : Addr) : List Sl → Cs → (Sl → Cs → Prop) → Prop := fun κ M W => ∃ m : Int, κ = [.v (.ref tp), .d (.int m)] ∧ Tape tp cs M ∧ 0 < m ∧ m < 2 ^ 200 ∧ ∀ (i : Int) M', 0 ≤ i → i < m → Tape tp cs M' → W (.d (.int i)) M'
theorem cmulL {i : Int} (c : Int) (h : -(2 ^ 64) < c ∧ c < 2 ^ 64) : CMul i c := .inr h
theorem cmulF {i : Int} (c : Int) (h : -(2 ^ 64) < c ∧ c < 2 ^ 64) : CMul c i := .inl h
theorem log_200 {m : Int} (h0 : 0 < m) (h : m < 2 ^ 200) : m.natAbs.log2 < 9000 := by
  have h1 : m.natAbs < 2 ^ 200 := by
    have : ((m.natAbs : Nat) : Int) < ((2 ^ 200 : Nat) : Int) := by rw [Int.natAbs_of_nonneg (by omega)]; exact_mod_cast h
    exact Int.ofNat_lt.mp this
  exact Nat.lt_of_lt_of_le ((Nat.log2_lt (by omega)).mpr h1) (by decide)
theorem small200 {i : Int} (h : i ≤ 100000) : i < 2 ^ 200 := by
  have h2 : (2 : Int) ^ 200 > 100000 := by decide
  omega
theorem cutI (ns : List Int) (l u : Option Int) : ∃ ms, DL.cutD (iL ns) l u = iL ms := by
  unfold DL.cutD
  rw [← List.map_drop, ← List.map_take]
  exact ⟨_, rfl⟩
section
variable {P : Program} {w : World} {K : PySem.W.Frag} {mg : Str → Option Value} {base : Heap} {f : Addr} {fd : FuncData} {tp cs : Addr}
theorem sc_mix : FnScope ["number"] ["number"] (defScope s__law_mix) := ⟨rfl, rfl, rfl, by decide +kernel, rfl, by decide +kernel, by decide +kernel⟩
theorem ok_mix {k : Nat} (Fn : FnP K "_law_mix" s__law_mix f fd) (g_in : mg "int" = none) : FnOk P w K mg base CX0 (k + 1) f fd ["number"] (SpG K R_mix) := by
  refine fn_okD Fn sc_mix (fun κ M W h => ?_) fun cdv A outer s H E hr nd B0 F0 κ M W hR => ?_
  · obtain ⟨m, rfl, _⟩ := h
    rfl
  · obtain ⟨i, rfl, -, hW⟩ := hR
    refine db_cons <| ds_set 0 <| de_op op_mod <| de_callTy call_int1 g_in bt_int <| da_cons <| de_op op_add <| de_op op_mul <| nm 0 rfl <| de_int <| r2_c (cmulL _ (by decide)) <| de_int <| r2_i <| da_nil <| rn_int <| de_int <| r2_c (by decide) ?_
    have h0 : 0 ≤ (i * 6364136223846793005 + 1442695040888963407) % 18446744073709551616 := Int.emod_nonneg _ (by decide)
    have h1 : (i * 6364136223846793005 + 1442695040888963407) % 18446744073709551616 < 18446744073709551616 := Int.emod_lt_of_pos _ (by decide)
    generalize (i * 6364136223846793005 + 1442695040888963407) % 18446744073709551616 = j at h0 h1
    have hp : (2 : Int) ^ 64 = 18446744073709551616 := by decide
    exact db_cons <| ds_ret <| de_op op_mod <| de_callTy call_int1 g_in bt_int <| da_cons <| de_op op_add <| de_op op_fdivW <| de_op op_mul <| nm 0 rfl <| nm 0 rfl <| r2_c (.inl ⟨by omega, by omega⟩) <| de_int <| r2_c ⟨by decide, log_200 (by decide) (by decide)⟩ <| de_op op_mul <| nm 0 rfl <| de_int <| r2_c (cmulL _ (by decide)) <| r2_i <| da_nil <| rn_int <| de_int <| r2_c (by decide) (hW _ _ ⟨_, rfl⟩)
theorem sc_tape : FnScope ["script"] ["script"] (defScope s__law_tape) := ⟨rfl, rfl, rfl, by decide +kernel, rfl, by decide +kernel, by decide +kernel⟩
theorem ok_tape {k : Nat} (Fn : FnP K "_law_tape" s__law_tape f fd) (g_le : mg "len" = none) (g_li : mg "list" = none) : FnOk P w K mg base CX0 (k + 1) f fd ["script"] (SpG K R_tape) := by
  refine fn_okD Fn sc_tape (fun κ M W h => ?_) fun cdv A outer s H E hr nd B0 F0 κ M W hR => ?_
  · obtain ⟨m, _, rfl, _⟩ := h
    rfl
  · obtain ⟨ns, hl, rfl, rfl, hW⟩ := hR
    refine db_cons <| ds_ret <| de_lstRaw <| da_cons <| de_listOf g_li <| de_freeze <| de_slice sl_list <| nm 0 rfl <| do_none <| do_some <| de_int ⟨_, rfl, rs_listC (.rd _) fun p => ⟨p, _, _, rfl, rfl, _, .lst _, fun cs => da_cons <| de_int <| da_cons <| de_int <| da_cons <| de_op op_add <| de_int <| de_len g_le <| nm 0 rfl ⟨_, .rd _, r2_i <| da_nil ⟨[.ref cs, .int 0, .int 0, .int _], rfl, by show 4 ≤ 100000; decide, fun tp => ?_⟩⟩⟩⟩
    obtain ⟨ms, hm⟩ := cutI ns none (some 80)
    rw [hm]
    exact hW tp cs _ (.mk _ 0 _ _)
theorem sc_take : FnScope ["tape", "many", "cell", "digit"] ["tape", "many"] (defScope s__law_take) := ⟨rfl, rfl, rfl, by decide +kernel, rfl, by decide +kernel, by decide +kernel⟩
theorem ok_take {k : Nat} (Fn : FnP K "_law_take" s__law_take f fd) (G : Go P w K mg base "_law_mix" k ["number"] R_mix) (g_in : mg "int" = none) (g_le : mg "len" = none) : FnOk P w K mg base CX0 (k + 1) f fd ["tape", "many"] (SpG K (R_take tp cs)) := by
  refine fn_okD Fn sc_take (fun κ M W h => ?_) fun cdv A outer s H E hr nd B0 F0 κ M W hR => ?_
  · obtain ⟨m, rfl, _⟩ := h
    rfl
  · obtain ⟨m, rfl, hb, h0, hm, hW⟩ := hR
    have tail : ∀ M s2, Tape tp cs M → DB (cxOf CX0 P w K mg base ["tape", "many", "cell", "digit"] "_law_take" (defScope s__law_take) f cdv A outer s H E).nox B0 F0 M [.v (.ref tp), .d (.int m), s2, .un] [] ((defBody s__law_take).drop 1) { nx := fun M' ρ' => W (.d .none) M', rt := W } := by
      rintro M s2 ⟨ns, i, dg, sd⟩
      refine db_cons <| ds_set 3 <| de_op op_mod <| de_callTy call_int1 g_in bt_int <| da_cons <| de_ix ix_list <| nm 0 rfl <| de_int <| r2_ixRaw (ws := [.ref cs, .int (i : Nat), .int dg, .int sd]) (v := .int dg) (by simp) rfl <| da_nil <| rn_int <| nm 1 rfl <| r2_c h0 ?_
      refine db_cons <| ds_asg <| de_op op_fdivW <| de_ix ix_list <| nm 0 rfl <| de_int <| r2_ixRaw (ws := [.ref cs, .int (i : Nat), .int dg, .int sd]) (v := .int dg) (by simp) rfl <| nm 1 rfl <| r2_c ⟨h0, log_200 h0 hm⟩ <| dg_subRaw 0 <| nm 0 rfl <| de_int ⟨tp, [.ref cs, .int (i : Nat), .int dg, .int sd], .int _, 2, 2, rfl, rfl, rfl, rfl, rfl, ?_⟩
      exact db_cons <| ds_ret <| nm 3 rfl <| hW _ _ (Int.emod_nonneg _ (by omega)) (Int.emod_lt_of_pos _ h0) (.mk _ i _ _)
    obtain ⟨ns, i, dg, sd⟩ := hb
    refine db_cons <| ds_if <| dt_cmp op_lt <| de_ix ix_list <| nm 0 rfl <| de_int <| r2_ixRaw (ws := [.ref cs, .int (i : Nat), .int dg, .int sd]) (v := .int dg) (by simp) rfl <| nm 1 rfl <| r2_t ?_
    refine waysD (fun c => ?_) (fun c => db_nil (tail _ _ (.mk _ i _ _)))
    refine db_cons <| ds_if <| dt_cmp op_lt <| de_ix ix_list <| nm 0 rfl <| de_int <| r2_ixRaw (ws := [.ref cs, .int (i : Nat), .int dg, .int sd]) (v := .int (i : Nat)) (by simp) rfl <| de_len g_le <| de_ix ix_list <| nm 0 rfl <| de_int <| r2_ixRaw (ws := [.ref cs, .int (i : Nat), .int dg, .int sd]) (v := .ref cs) (by simp) rfl ⟨ns.map .int, .cell (by simp), r2_t (waysD (fun hlt => ?_) (fun _ => ?_))⟩
    · rw [List.length_map] at hlt
      have hlt : i < ns.length := by omega
      have hat : atI (ns.map PyData.int) (i : Int) = some (.int ns[i]) := atI_at (by omega) (by rw [Int.toNat_natCast, List.getElem?_map, List.getElem?_eq_getElem hlt]; rfl)
      refine db_cons <| ds_set 2 <| de_ix ix_seq <| de_ix ix_list <| nm 0 rfl <| de_int <| r2_ixRaw (ws := [.ref cs, .int (i : Nat), .int dg, .int sd]) (v := .ref cs) (by simp) rfl <| de_ix ix_list <| nm 0 rfl <| de_int <| r2_ixRaw (ws := [.ref cs, .int (i : Nat), .int dg, .int sd]) (v := .int (i : Nat)) (by simp) rfl <| r2_ix (.cell (by simp)) hat ?_
      have two : ∀ (z : Int) (kk : KK), (∀ M s2, Tape tp cs M → kk.nx M [.v (.ref tp), .d (.int m), s2, .un]) → DB (cxOf CX0 P w K mg base ["tape", "many", "cell", "digit"] "_law_take" (defScope s__law_take) f cdv A outer s H E).nox B0 F0 [(tp, .raw (.lst [.ref cs, .int (i : Nat), .int dg, .int sd])), (cs, .lst (ns.map .int))] [.v (.ref tp), .d (.int m), .d (.int z), .un] [] ((match (defBody s__law_take).getD 0 (.Pass ⟨0, 0, 0, 0⟩) with | .If _ (.If _ b _ _ :: _) _ _ => b.drop 2 | _ => [])) kk := by
        intro z kk hk
        refine db_cons <| ds_asg <| de_op op_add <| de_ix ix_list <| nm 0 rfl <| de_int <| r2_ixRaw (ws := [.ref cs, .int (i : Nat), .int dg, .int sd]) (v := .int (i : Nat)) (by simp) rfl <| de_int <| r2_i <| dg_subRaw 0 <| nm 0 rfl <| de_int ⟨tp, [.ref cs, .int (i : Nat), .int dg, .int sd], .int _, 1, 1, rfl, rfl, rfl, rfl, rfl, ?_⟩
        rw [show (i : Int) + 1 = ((i + 1 : Nat) : Int) by omega]
        refine db_cons <| ds_asg <| de_pur G hr <| da_cons <| de_op op_add <| de_ix ix_list <| nm 0 rfl <| de_int <| r2_ixRaw (ws := [.ref cs, .int ((i + 1 : Nat) : Int), .int dg, .int sd]) (v := .int sd) (by simp) rfl <| nm 2 rfl <| r2_i <| da_nil ⟨_, rfl, trivial, ?_⟩
        rintro y ⟨sd', rfl⟩
        refine dg_subRaw 0 <| nm 0 rfl <| de_int ⟨tp, [.ref cs, .int ((i + 1 : Nat) : Int), .int dg, .int sd], .int _, 3, 3, rfl, rfl, rfl, rfl, rfl, ?_⟩
        refine db_cons <| ds_asg <| de_ifexp <| dt_cmp op_ge <| nm 2 rfl <| de_op op_pow <| de_int <| de_int <| r2_c ⟨by decide, by decide, by decide⟩ <| r2_t (ways (fun _ => ?_) (fun _ => ?_))
        · refine nm 2 rfl <| dg_subRaw 0 <| nm 0 rfl <| de_int ⟨tp, [.ref cs, .int ((i + 1 : Nat) : Int), .int dg, .int sd'], .int _, 2, 2, rfl, rfl, rfl, rfl, rfl, ?_⟩
          exact db_nil <| hk _ _ (.mk _ (i + 1) _ _)
        · refine de_pur G hr <| da_cons <| de_op op_add <| de_pur G hr <| da_cons <| nm 2 rfl <| da_nil ⟨_, rfl, trivial, ?_⟩
          rintro y ⟨a, rfl⟩
          refine de_ix ix_list <| nm 0 rfl <| de_int <| r2_ixRaw (ws := [.ref cs, .int ((i + 1 : Nat) : Int), .int dg, .int sd']) (v := .int ((i + 1 : Nat) : Int)) (by simp) rfl <| r2_i <| da_nil ⟨_, rfl, trivial, ?_⟩
          rintro y ⟨b, rfl⟩
          refine dg_subRaw 0 <| nm 0 rfl <| de_int ⟨tp, [.ref cs, .int ((i + 1 : Nat) : Int), .int dg, .int sd'], .int _, 2, 2, rfl, rfl, rfl, rfl, rfl, ?_⟩
          exact db_nil <| hk _ _ (.mk _ (i + 1) _ _)
      refine db_cons <| ds_set 2 <| de_ifexp <| dt_cmp op_ge <| nm 2 rfl <| de_int <| r2_t (ways (fun _ => ?_) (fun _ => ?_))
      · exact de_op op_mul <| de_int <| nm 2 rfl <| r2_c (cmulF _ (by decide)) <| two _ _ fun M s2 h => db_nil (tail M s2 h)
      · exact de_op op_sub <| de_op op_mul <| de_unop un_neg <| de_int <| r1_U (fun _ => .int _) <| nm 2 rfl <| r2_c (cmulF _ (by decide)) <| de_int <| r2_i <| two _ _ fun M s2 h => db_nil (tail M s2 h)
    · refine db_cons <| ds_asg <| de_pur G hr <| da_cons <| de_op op_add <| de_ix ix_list <| nm 0 rfl <| de_int <| r2_ixRaw (ws := [.ref cs, .int (i : Nat), .int dg, .int sd]) (v := .int sd) (by simp) rfl <| de_int <| r2_i <| da_nil ⟨_, rfl, trivial, ?_⟩
      rintro y ⟨sd', rfl⟩
      refine dg_subRaw 0 <| nm 0 rfl <| de_int ⟨tp, [.ref cs, .int (i : Nat), .int dg, .int sd], .int _, 3, 3, rfl, rfl, rfl, rfl, rfl, ?_⟩
      refine db_cons <| ds_asg <| de_ix ix_list <| nm 0 rfl <| de_int <| r2_ixRaw (ws := [.ref cs, .int (i : Nat), .int dg, .int sd']) (v := .int sd') (by simp) rfl <| dg_subRaw 0 <| nm 0 rfl <| de_int ⟨tp, [.ref cs, .int (i : Nat), .int dg, .int sd'], .int _, 2, 2, rfl, rfl, rfl, rfl, rfl, ?_⟩
      exact db_nil <| db_nil <| tail _ _ (.mk _ i _ _)
end
end H83
set_option maxHeartbeats 4000000
namespace H83
open PySem PySem.Spec PyProof.Rows L2 DL
theorem same_int (m : Nat) (i : Int) : SameOk m (.int i) := by cases m <;> trivial
theorem same_bool (m : Nat) (i : Bool) : SameOk m (.bool i) := by cases m <;> trivial
theorem same_str (m : Nat) (i : Str) : SameOk m (.str i) := by cases m <;> trivial
theorem same_none (m : Nat) : SameOk m .none := by cases m <;> trivial
def isNum (lo hi : Int) : PyData → Bool
  | .int i => decide (lo ≤ i) && decide (i ≤ hi)
  | _ => false
/-- plain values: at most N parts, depth m -/
def GV (N : Nat) : Nat → PyData → Prop
  | _, .none => True
  | _, .bool _ => True
  | _, .int _ => True
  | _, .str _ => True
  | m + 1, .tuple ds => ds.length ≤ N ∧ ∀ d ∈ ds, GV N m d
  | _, _ => False
theorem GV.tup {N m : Nat} {ds : List PyData} (h : GV N m (.tuple ds)) : ds.length ≤ N ∧ ∃ m', m = m' + 1 ∧ ∀ d ∈ ds, GV N m' d := by
  cases m with
  | zero => exact h.elim
  | succ m => exact ⟨h.1, m, rfl, h.2⟩
/-- ints and tuples -/
def IV : Nat → PyData → Prop
  | _, .int i => -1000 ≤ i ∧ i ≤ 1000
  | m + 1, .tuple ds => ds.length ≤ 400 ∧ ∀ d ∈ ds, IV m d
  | _, _ => False
abbrev GX (d : PyData) : Prop := ∃ k, GV 1000 k d
theorem gv_up : ∀ {k l : Nat} {d : PyData}, GV 1000 k d → k ≤ l → GV 1000 l d
  | _, l, .none, _, _ => by cases l <;> trivial
  | _, l, .bool _, _, _ => by cases l <;> trivial
  | _, l, .int _, _, _ => by cases l <;> trivial
  | _, l, .str _, _, _ => by cases l <;> trivial
  | k + 1, 0, .tuple ds, _, hl => by omega
  | k + 1, l + 1, .tuple ds, h, hl => ⟨h.1, fun d hd => gv_up (h.2 d hd) (by omega)⟩
  | 0, _, .tuple _, h, _ => h.elim
  | 0, _, .list _, h, _ => h.elim
  | _ + 1, _, .list _, h, _ => h.elim
  | 0, _, .dict _, h, _ => h.elim
  | _ + 1, _, .dict _, h, _ => h.elim
theorem gx_tup {ds : List PyData} (hl : ds.length ≤ 1000) (h : ∀ d ∈ ds, GX d) : GX (.tuple ds) := by
  have : ∃ k, ∀ d ∈ ds, GV 1000 k d := by
    clear hl
    induction ds with
    | nil => exact ⟨0, fun d hd => by cases hd⟩
    | cons a ds ih =>
      obtain ⟨k, hk⟩ := h a List.mem_cons_self
      obtain ⟨l, hl⟩ := ih fun d hd => h d (List.mem_cons_of_mem _ hd)
      refine ⟨max k l, fun d hd => ?_⟩
      rcases List.mem_cons.mp hd with rfl | hd
      · exact gv_up hk (by omega)
      · exact gv_up (hl d hd) (by omega)
  obtain ⟨k, hk⟩ := this
  exact ⟨k + 1, hl, hk⟩
theorem gx_int (i : Int) : GX (.int i) := ⟨0, trivial⟩
theorem gx_bool (i : Bool) : GX (.bool i) := ⟨0, trivial⟩
theorem gx_str (i : Str) : GX (.str i) := ⟨0, trivial⟩
theorem gx_none : GX .none := ⟨0, trivial⟩
theorem iv_gx : ∀ {m : Nat} {d : PyData}, IV m d → GX d
  | _, .int i, _ => gx_int i
  | m + 1, .tuple ds, h => gx_tup (by have := h.1; omega) fun d hd => iv_gx (h.2 d hd)
  | 0, .tuple _, h => h.elim
  | 0, .none, h => h.elim
  | _ + 1, .none, h => h.elim
  | 0, .bool _, h => h.elim
  | _ + 1, .bool _, h => h.elim
  | 0, .str _, h => h.elim
  | _ + 1, .str _, h => h.elim
  | 0, .list _, h => h.elim
  | _ + 1, .list _, h => h.elim
  | 0, .dict _, h => h.elim
  | _ + 1, .dict _, h => h.elim
theorem mem_cut {ds : List PyData} {l u : Option Int} {x : PyData} (h : x ∈ DL.cutD ds l u) : x ∈ ds := List.mem_of_mem_drop (List.mem_of_mem_take h)
theorem cut_len (ds : List PyData) (l u : Option Int) : (DL.cutD ds l u).length ≤ ds.length := by
  unfold DL.cutD
  rw [List.length_take, List.length_drop]
  omega
theorem log_small {i : Int} (h : -1000 ≤ i ∧ i ≤ 1000) : i.natAbs.log2 < 1920 := by
  by_cases c : i.natAbs = 0
  · rw [c]; decide
  · have h1 : i.natAbs < 2 ^ 10 := by
      have : (2 : Nat) ^ 10 = 1024 := by decide
      omega
    have h2 := (Nat.log2_lt c).mpr h1
    omega
theorem lay_nat : ∀ S : List Nat, PyData.canLayAll0 (natL S) = true
  | [] => rfl
  | e :: S => by
    show PyData.canLayAll0 (PyData.int (e : Nat) :: natL S) = true
    rw [PyData.canLayAll0, lay_nat S]
    simp [PyData.canLay0]
theorem dep_nat : ∀ S : List Nat, PyData.depthAll (natL S) = 0
  | [] => rfl
  | e :: S => by
    show PyData.depthAll (PyData.int (e : Nat) :: natL S) = 0
    rw [PyData.depthAll, dep_nat S]
    simp [PyData.depth]
theorem shaped_nat (S : List Nat) : SeqAt.shaped (.tuple (natL S)) = true := by
  unfold SeqAt.shaped
  rw [Bool.and_eq_true, decide_eq_true_iff]
  exact ⟨by rw [PyData.canLay0]; exact lay_nat S, by rw [PyData.depth, dep_nat]; omega⟩
theorem gx_len {d : PyData} (h : GX d) : ∀ ds, d = .tuple ds → ds.length ≤ 1000 := fun ds e => by
  obtain ⟨k, h⟩ := h
  subst e
  exact h.tup.1
theorem shaped_natl (S : List Nat) : SeqAt.shaped (.list (natL S)) = true := by
  unfold SeqAt.shaped
  rw [Bool.and_eq_true, decide_eq_true_iff]
  exact ⟨by rw [PyData.canLay0]; exact lay_nat S, by rw [PyData.depth, dep_nat]; omega⟩
theorem allD {M : Cs} {ds : List PyData} {g : PyData → Bool} : SeqLs M (.d (.list (ds.map fun d => .bool (g d)))) ((ds.map g).map PyData.bool) := by
  rw [List.map_map]
  exact .lst _
def Sm (d : PyData) : Prop := ∀ ds, d = .tuple ds → ds.length ≤ 1000
theorem sm_tup {ds : List PyData} (h : ds.length ≤ 1000) : Sm (.tuple ds) := fun es e => by cases e; exact h
def intOf : PyData → Int
  | .int i => i
  | _ => 0
def lenB (lo st : Int) : PyData → Bool
  | .tuple ds => ds.all (isNum lo 40) && (ds.all (fun d => decide (intOf d % st = 0)) && PyData.eqv (.list ds) (.list (sortD ds)))
  | _ => false
def lenD : PyData → Nat
  | .tuple ds => ds.length
  | _ => 0
def areB : PyData → Bool
  | .tuple [x, y] => lenB 3 1 x && (lenB 4 2 y && decide (lenD x + lenD y ≤ 12))
  | _ => false
theorem nums_nat {lo hi : Int} (h0 : 0 ≤ lo) {ds : List PyData} (h : ds.all (isNum lo hi) = true) : ds = natL (ds.map natOf) := by
  unfold natL
  rw [List.map_map]
  refine (List.map_id _).symm.trans (List.map_congr_left fun d hd => ?_)
  have := List.all_eq_true.mp h d hd
  cases d with
  | int i =>
    simp [isNum] at this
    show PyData.int i = .int ((i.toNat : Nat) : Int)
    rw [show ((i.toNat : Nat) : Int) = i by omega]
  | _ => simp [isNum] at this
theorem lenB_tup {lo st : Int} {d : PyData} (h : lenB lo st d = true) : ∃ ds, d = .tuple ds := by
  cases d with
  | tuple ds => exact ⟨ds, rfl⟩
  | _ => cases h
section
variable {P : Program} {w : World} {K : PySem.W.Frag} {mg : Str → Option Value} {base : Heap} {f : Addr} {fd : FuncData}
theorem sc_num : FnScope ["value", "least", "most"] ["value", "least", "most"] (defScope s_is_number) := ⟨rfl, rfl, rfl, by decide +kernel, rfl, by decide +kernel, by decide +kernel⟩
abbrev R_num := Pu (fun a : PyData × Int × Int => [.d a.1, .d (.int a.2.1), .d (.int a.2.2)]) (fun _ => True) (fun a => .bool (isNum a.2.1 a.2.2 a.1))
theorem ok_num {k : Nat} (Fn : FnP K "is_number" s_is_number f fd) (g_is : mg "isinstance" = none) (g_in : mg "int" = none) (g_bo : mg "bool" = none) : FnOk P w K mg base CX0 (k + 1) f fd ["value", "least", "most"] (SpG K R_num) := by
  refine fn_okD Fn sc_num (fun κ M W h => ?_) fun cdv A outer s H E hr nd B0 F0 κ M W hR => ?_
  · obtain ⟨ns, rfl, _⟩ := h
    rfl
  · obtain ⟨⟨d, lo, hi⟩, hκ, -, hW⟩ := hR
    have hκ : κ = [.d d, .d (.int lo), .d (.int hi)] := hκ
    subst hκ
    have hW : ∀ M', W (.d (.bool (isNum lo hi d))) M' := hW
    refine db_cons <| ds_ret <| de_and <| de_isi bt_int g_is g_in <| nm 0 rfl ⟨d, _, rfl, kInt _ d, _, rfl, fun h1 => de_and <| de_not <| de_isi bt_bool g_is g_bo <| nm 0 rfl ⟨d, _, rfl, kBool _ d, _, rfl, _, rfl, fun h2 => ?_, fun h2 => ?_⟩, fun h1 => ?_⟩
    · cases d with
      | int i =>
        refine de_one <| de_chain op_le op_le (pe := pe_chain op_le op_le pe_self pe_self pe_self) <| nm 1 rfl <| nm 0 rfl <| r2_b ⟨_, rfl, fun h3 => nm 2 rfl <| r2_b ?_, fun h3 => ?_⟩
        · have := hW M
          rw [show isNum lo hi (.int i) = (decide (lo ≤ i) && decide (i ≤ hi)) from rfl, h3, Bool.true_and] at this
          exact this
        · have := hW M
          rw [show isNum lo hi (.int i) = (decide (lo ≤ i) && decide (i ≤ hi)) from rfl, h3, Bool.false_and] at this
          exact this
      | bool b => cases h2
      | _ => cases h1
    · cases d with
      | bool b => exact hW M
      | _ => cases h2
    · cases d with
      | int i => cases h1
      | bool b => cases h1
      | _ => exact hW M
theorem sc_len : FnScope ["value", "least", "step", "part"] ["value", "least", "step"] (defScope s_is_lengths) := ⟨rfl, rfl, rfl, by decide +kernel, rfl, by decide +kernel, by decide +kernel⟩
abbrev R_len := Pu (fun a : PyData × Int × Int => [.d a.1, .d (.int a.2.1), .d (.int a.2.2)]) (fun a => Sm a.1 ∧ 0 ≤ a.2.1 ∧ 0 < a.2.2) (fun a => .bool (lenB a.2.1 a.2.2 a.1))
theorem ok_len {k : Nat} (Fn : FnP K "is_lengths" s_is_lengths f fd) (Gn : Go P w K mg base "is_number" k ["value", "least", "most"] R_num) (ml : ∃ t, mg "MAX_LENGTH" = some (.int 40 t)) (g_is : mg "isinstance" = none) (g_tu : mg "tuple" = none) (g_al : mg "all" = none) (g_li : mg "list" = none) (g_so : mg "sorted" = none) : FnOk P w K mg base CX0 (k + 1) f fd ["value", "least", "step"] (SpG K R_len) := by
  obtain ⟨t40, ml⟩ := ml
  refine fn_okD Fn sc_len (fun κ M W h => ?_) fun cdv A outer s H E hr nd B0 F0 κ M W hR => ?_
  · obtain ⟨ns, rfl, _⟩ := h
    rfl
  · obtain ⟨⟨d, lo, st⟩, hκ, ⟨hd, hlo, hst⟩, hW⟩ := hR
    have hκ : κ = [.d d, .d (.int lo), .d (.int st)] := hκ
    subst hκ
    have hlo : 0 ≤ lo := hlo
    have hst : 0 < st := hst
    have hd : Sm d := hd
    have hW : ∀ M', W (.d (.bool (lenB lo st d))) M' := hW
    have none_ : isTup d = false → DB (cxOf CX0 P w K mg base ["value", "least", "step", "part"] "is_lengths" (defScope s_is_lengths) f cdv A outer s H E).nox B0 F0 M [.d d, .d (.int lo), .d (.int st), .un] [] (defBody s_is_lengths) { nx := fun M' ρ' => W (.d .none) M', rt := W } := fun h => by
      refine db_cons <| ds_if <| dt_w <| dw_or <| dt_not <| dt_val <| de_isi bt_tuple g_is g_tu <| nm 0 rfl ⟨_, _, rfl, kTup _ _, _, rfl, ?_⟩
      rw [h]
      refine ⟨fun z => (by cases z), fun _ => waysT rfl <| db_cons <| ds_ret <| de_bl ?_⟩
      have := hW M
      cases d <;> first | exact this | cases h
    cases d with
    | tuple ds =>
      have hd : ds.length ≤ 1000 := hd ds rfl
      have hW : ∀ M', W (.d (.bool (ds.all (isNum lo 40) && (ds.all (fun d => decide (intOf d % st = 0)) && PyData.eqv (.list ds) (.list (sortD ds)))))) M' := hW
      refine db_cons <| ds_if <| dt_w <| dw_or <| dt_not <| dt_val <| de_isi bt_tuple g_is g_tu <| nm 0 rfl ⟨_, _, rfl, kTup _ _, _, rfl, fun _ => ?_, fun z => (by cases z)⟩
      refine dw_or1 <| dt_not <| dt_val <| de_all g_al <| de_freeze <| de_lcF 3 (fun d => .bool (isNum lo 40 d)) <| di_tup <| nm 0 rfl ⟨ds, rfl, by omega, fun _ _ _ => trivial, fun d D acc hd b => ?_, fun D => ⟨D, _, _, rfl, rfl, _, allD, _, rfl, ?_⟩⟩
      · exact de_pu Gn hr <| da_cons <| nm 3 rfl <| da_cons <| nm 1 rfl <| da_cons <| de_glob (v := .int 40) ml ⟨_, rfl⟩ (fun _ => .int 40) <| da_nil <| da_pu (d, lo, 40) rfl trivial ⟨rfl, rfl⟩
      · rw [all_id]
        cases h3 : ds.all (isNum lo 40) with
        | false =>
          rw [h3, Bool.false_and] at hW
          exact waysT rfl <| db_cons <| ds_ret <| de_bl (hW _)
        | true =>
          rw [h3, Bool.true_and] at hW
          have hn := nums_nat hlo h3
          have hint : ∀ d ∈ ds, ∃ i, d = .int i := fun d hd => by
            have := List.all_eq_true.mp h3 d hd
            cases d <;> simp [isNum] at this
            exact ⟨_, rfl⟩
          refine waysF rfl <| db_nil <| db_cons <| ds_ret <| de_and <| de_all g_al <| de_freeze <| de_lcF 3 (fun d => .bool (decide (intOf d % st = 0))) <| di_tup <| nm 0 rfl ⟨ds, rfl, by omega, fun _ _ _ => trivial, fun d D acc hd b => ?_, fun D => ⟨D, _, _, rfl, rfl, _, allD, _, rfl, fun h4 => ?_, fun h4 => ?_⟩⟩
          · obtain ⟨i, rfl⟩ := hint d hd
            exact de_cmp op_eq <| de_op op_mod <| nm 3 rfl <| nm 2 rfl <| r2_c hst <| de_int <| r2_eqI ⟨rfl, rfl⟩
          · rw [all_id] at h4
            rw [h4, Bool.true_and] at hW
            generalize ds.map natOf = ns at hn
            subst hn
            rw [natL_len] at hd
            obtain ⟨T, e1, _, _⟩ := sort_nat ns
            refine de_one <| de_cmp (op_eqD hr.units) <| de_freeze <| de_listOf g_li <| nm 0 rfl ⟨_, .tup _, fun l => ⟨l, _, _, rfl, rfl, de_freeze <| de_sortedTu hr.units g_so <| nm 0 rfl ⟨_, rfl, alike_nat, sortable_nat, by rw [natL_len]; omega, depth_nat, fun l => ⟨l, _, _, rfl, rfl, r2_eqD (shaped_natl _) (by rw [e1]; exact shaped_natl _) (hW _)⟩⟩⟩⟩
          · rw [all_id] at h4
            rw [h4, Bool.false_and] at hW
            exact hW _
    | _ => exact none_ rfl
theorem sc_are : FnScope ["value"] ["value"] (defScope s_are_strings) := ⟨rfl, rfl, rfl, by decide +kernel, rfl, by decide +kernel, by decide +kernel⟩
/-- values whose parts are not too long -/
def Sm2 (d : PyData) : Prop := Sm d ∧ ∀ ds, d = .tuple ds → ∀ x ∈ ds, Sm x
abbrev R_are := Pu (fun d : PyData => [.d d]) Sm2 (fun d => .bool (areB d))
theorem are_len {ds : List PyData} (h : ds.length ≠ 2) : areB (.tuple ds) = false := by
  match ds, h with
  | [], _ => rfl
  | [_], _ => rfl
  | _ :: _ :: _ :: _, _ => rfl
  | [_, _], h => exact absurd rfl h
theorem ok_are {k : Nat} (Fn : FnP K "are_strings" s_are_strings f fd) (Gl : Go P w K mg base "is_lengths" k ["value", "least", "step"] R_len) (ms : ∃ t, mg "MAX_STRINGS" = some (.int 12 t)) (g_is : mg "isinstance" = none) (g_tu : mg "tuple" = none) (g_le : mg "len" = none) : FnOk P w K mg base CX0 (k + 1) f fd ["value"] (SpG K R_are) := by
  obtain ⟨t12, ms⟩ := ms
  refine fn_okD Fn sc_are (fun κ M W h => ?_) fun cdv A outer s H E hr nd B0 F0 κ M W hR => ?_
  · obtain ⟨ns, rfl, _⟩ := h
    rfl
  · obtain ⟨d, rfl, hd, hW⟩ := hR
    have hW : ∀ M', W (.d (.bool (areB d))) M' := hW
    have none_ : isTup d = false → DB (cxOf CX0 P w K mg base ["value"] "are_strings" (defScope s_are_strings) f cdv A outer s H E).nox B0 F0 M [.d d] [] (defBody s_are_strings) { nx := fun M' ρ' => W (.d .none) M', rt := W } := fun h => by
      refine db_cons <| ds_if <| dt_w <| dw_or <| dt_not <| dt_val <| de_isi bt_tuple g_is g_tu <| nm 0 rfl ⟨_, _, rfl, kTup _ _, _, rfl, ?_⟩
      rw [h]
      refine ⟨fun z => (by cases z), fun _ => waysT rfl <| db_cons <| ds_ret <| de_bl ?_⟩
      have := hW M
      cases d <;> first | exact this | cases h
    cases d with
    | tuple ds =>
      refine db_cons <| ds_if <| dt_w <| dw_or <| dt_not <| dt_val <| de_isi bt_tuple g_is g_tu <| nm 0 rfl ⟨_, _, rfl, kTup _ _, _, rfl, fun _ => ?_, fun z => (by cases z)⟩
      refine dw_or <| dt_cmp op_ne <| de_len g_le <| nm 0 rfl ⟨ds, .tup _, de_int <| r2_tne ?_⟩
      by_cases c : ds.length = 2
      · match ds, c with
        | [x, y], _ =>
          have hx : Sm x := hd.2 _ rfl x (by simp)
          have hy : Sm y := hd.2 _ rfl y (by simp)
          have hW : ∀ M', W (.d (.bool (lenB 3 1 x && (lenB 4 2 y && decide (lenD x + lenD y ≤ 12))))) M' := hW
          refine ⟨fun _ => ?_, fun z => (by simp at z)⟩
          refine dw_or1 <| dt_not <| dt_val <| de_pu Gl hr <| da_cons <| de_ix ix_seq <| nm 0 rfl <| de_int <| r2_ix (.tup _) (d := x) (atI_at (by decide) rfl) <| da_cons <| de_int <| da_cons <| de_int <| da_nil <| da_pu (x, 3, 1) rfl ⟨hx, by show (0 : Int) ≤ 3; decide, by show (0 : Int) < 1; decide⟩ ⟨_, rfl, ?_⟩
          show ((!lenB 3 1 x) = true → _) ∧ ((!lenB 3 1 x) = false → _)
          cases hx1 : lenB 3 1 x with
          | false =>
            rw [hx1, Bool.false_and] at hW
            exact waysT rfl <| db_cons <| ds_ret <| de_bl (hW _)
          | true =>
            rw [hx1, Bool.true_and] at hW
            obtain ⟨xs, rfl⟩ := lenB_tup hx1
            refine waysF rfl <| db_nil <| db_cons <| ds_ret <| de_and <| de_pu Gl hr <| da_cons <| de_ix ix_seq <| nm 0 rfl <| de_int <| r2_ix (.tup _) (d := y) (atI_at (by decide) rfl) <| da_cons <| de_int <| da_cons <| de_int <| da_nil <| da_pu (y, 4, 2) rfl ⟨hy, by show (0 : Int) ≤ 4; decide, by show (0 : Int) < 2; decide⟩ ⟨_, rfl, fun hy1 => ?_, fun hy1 => ?_⟩
            · have hy1 : lenB 4 2 y = true := hy1
              rw [hy1, Bool.true_and] at hW
              obtain ⟨ys, rfl⟩ := lenB_tup hy1
              refine de_one <| de_cmp op_le <| de_op op_add <| de_len g_le <| de_ix ix_seq <| nm 0 rfl <| de_int <| r2_ix (.tup _) (d := .tuple xs) (atI_at (by decide) rfl) ⟨xs, .tup _, de_len g_le <| de_ix ix_seq <| nm 0 rfl <| de_int <| r2_ix (.tup _) (d := .tuple ys) (atI_at (by decide) rfl) ⟨ys, .tup _, r2_i <| de_glob (v := .int 12) ms ⟨_, rfl⟩ (fun _ => .int 12) <| r2_b ?_⟩⟩
              have := hW M
              rw [show decide ((xs.length : Int) + (ys.length : Int) ≤ 12) = decide (xs.length + ys.length ≤ 12) by rw [decide_eq_decide]; omega]
              exact this
            · have hy1 : lenB 4 2 y = false := hy1
              rw [hy1, Bool.false_and] at hW
              exact hW _
      · rw [are_len c] at hW
        refine ⟨fun z => ?_, fun _ => waysT rfl <| db_cons <| ds_ret <| de_bl (hW _)⟩
        exfalso
        have z : decide ((ds.length : Int) = 2) = true := by simpa using z
        have := of_decide_eq_true z
        omega
    | _ => exact none_ rfl
end
end H83
set_option maxHeartbeats 4000000
namespace H83
open PySem PySem.Spec PyProof.Rows L2 DL
section
variable {P : Program} {w : World} {K : PySem.W.Frag} {mg : Str → Option Value} {base : Heap} {f : Addr} {fd : FuncData} {tp cs : Addr}
theorem sc_la : FnScope ["value", "side", "k"] ["value"] (defScope s__law_are) := ⟨rfl, rfl, rfl, by decide +kernel, rfl, by decide +kernel, by decide +kernel⟩
abbrev laX (P : Program) (w : World) (K : PySem.W.Frag) (mg : Str → Option Value) (base : Heap) (f : Addr) (cdv : Value) (A : Around) (outer : List Env) (s : Shared) (H : Hp) (E : XK) : Cx := (cxOf CX0 P w K mg base ["value", "side", "k"] "_law_are" (defScope s__law_are) f cdv A outer s H E).nox
abbrev laBody : List Stmt := match (defBody s__law_are).getD 1 (.Pass ⟨0, 0, 0, 0⟩) with
  | .For _ _ b _ _ => b
  | _ => []
theorem w_side {cdv : Value} {A : Around} {outer : List Env} {s : Shared} {H : Hp} {E : XK} {k : Nat} {B0 F0 : Hp} (hr : Room k (laX P w K mg base f cdv A outer s H E).A) (nd : (["value", "side", "k"] : List Str).Nodup) (g_is : mg "isinstance" = none) (g_tu : mg "tuple" = none) (g_al : mg "all" = none) (g_an : mg "any" = none) (g_in : mg "int" = none) (g_bo : mg "bool" = none) (g_li : mg "list" = none) (g_so : mg "sorted" = none)
    {M : Cs} {κ : List Sl} {kk : KK} {x y z : PyData} {sd : Nat} (hsd : sd = 0 ∨ sd = 1) (hz : atI [x, y] (sd : Int) = some z) (hsm : Sm z)
    (h1 : lenB (3 + (sd : Int)) (1 + (sd : Int)) z = true → ∀ M', kk.nx M' [.d (.tuple [x, y]), .d (.int (sd : Nat)), .un]) (h0 : lenB (3 + (sd : Int)) (1 + (sd : Int)) z = false → ∀ M', kk.rt (.d (.bool false)) M') :
    DB (laX P w K mg base f cdv A outer s H E) B0 F0 M [.d (.tuple [x, y]), .d (.int (sd : Nat)), .un] κ laBody kk := by
  have none_ : isTup z = false → DB (laX P w K mg base f cdv A outer s H E) B0 F0 M [.d (.tuple [x, y]), .d (.int (sd : Nat)), .un] κ laBody kk := fun h => by
    refine db_cons <| ds_if <| dt_w <| dw_or <| dt_not <| dt_val <| de_isi bt_tuple g_is g_tu <| de_ix ix_seq <| nm 0 rfl <| nm 1 rfl <| r2_ix (.tup _) hz ⟨_, _, rfl, kTup _ _, _, rfl, ?_⟩
    rw [h]
    refine ⟨fun z => (by cases z), fun _ => waysT rfl <| db_cons <| ds_ret <| de_bl (h0 ?_ _)⟩
    cases z <;> first | rfl | cases h
  cases z with
  | tuple ds =>
    have hd : ds.length ≤ 1000 := hsm ds rfl
    have hF : lenB (3 + (sd : Int)) (1 + (sd : Int)) (.tuple ds) = (ds.all (isNum (3 + (sd : Int)) 40) && (ds.all (fun d => decide (intOf d % (1 + (sd : Int)) = 0)) && PyData.eqv (.list ds) (.list (sortD ds)))) := rfl
    rw [hF] at h1 h0
    refine db_cons <| ds_if <| dt_w <| dw_or <| dt_not <| dt_val <| de_isi bt_tuple g_is g_tu <| de_ix ix_seq <| nm 0 rfl <| nm 1 rfl <| r2_ix (.tup _) hz ⟨_, _, rfl, kTup _ _, _, rfl, fun _ => ?_, fun z => (by cases z)⟩
    refine dw_or1 <| dt_not <| dt_val <| de_all g_al <| de_freeze <| de_lcF 2 (fun d => .bool (isNum (3 + (sd : Int)) 40 d)) <| di_tup <| de_ix ix_seq <| nm 0 rfl <| nm 1 rfl <| r2_ix (.tup _) hz ⟨ds, rfl, by omega, fun _ _ _ => trivial, fun d D acc hd b => ?_, fun D => ⟨D, _, _, rfl, rfl, _, allD, _, rfl, ?_⟩⟩
    · refine de_and <| de_isi bt_int g_is g_in <| nm 2 rfl ⟨d, _, rfl, kInt _ d, _, rfl, fun h1 => de_and <| de_not <| de_isi bt_bool g_is g_bo <| nm 2 rfl ⟨d, _, rfl, kBool _ d, _, rfl, _, rfl, fun h2 => ?_, fun h2 => ?_⟩, fun h1 => ?_⟩
      · cases d with
        | int i =>
          refine de_one <| de_chain op_le op_le (pe := pe_chain op_le op_le pe_self pe_self pe_self) <| de_op op_add <| de_int <| nm 1 rfl <| r2_i <| nm 2 rfl <| r2_b ⟨_, rfl, fun h3 => de_int <| r2_b ⟨?_, rfl⟩, fun h3 => ⟨?_, rfl⟩⟩
          · show _ = Sl.d (.bool (decide (3 + (sd : Int) ≤ i) && decide (i ≤ 40)))
            rw [h3, Bool.true_and]
          · show _ = Sl.d (.bool (decide (3 + (sd : Int) ≤ i) && decide (i ≤ 40)))
            rw [h3, Bool.false_and]
        | bool b => cases h2
        | _ => cases h1
      · cases d with
        | bool b => exact ⟨rfl, rfl⟩
        | _ => cases h2
      · cases d with
        | int i => cases h1
        | bool b => cases h1
        | _ => exact ⟨rfl, rfl⟩
    · rw [all_id]
      cases h3 : ds.all (isNum (3 + (sd : Int)) 40) with
      | false =>
        rw [h3, Bool.false_and] at h0
        exact waysT rfl <| db_cons <| ds_ret <| de_bl (h0 rfl _)
      | true =>
        rw [h3, Bool.true_and] at h1 h0
        have hn := nums_nat (by omega) h3
        have hint : ∀ d ∈ ds, ∃ i, d = .int i := fun d hd => by
          have := List.all_eq_true.mp h3 d hd
          cases d <;> simp [isNum] at this
          exact ⟨_, rfl⟩
        have hsh : SeqAt.shaped (.list ds) = true := by rw [hn]; exact shaped_natl _
        have hsh2 : SeqAt.shaped (.list (sortD ds)) = true := by
          rw [hn]
          obtain ⟨T, e1, _, _⟩ := sort_nat (ds.map natOf)
          rw [e1]
          exact shaped_natl _
        refine waysF rfl <| db_nil <| db_cons <| ds_if <| dt_w <| dw_or <| dt_cmp (op_neD hr.units) <| de_freeze <| de_listOf g_li <| de_ix ix_seq <| nm 0 rfl <| nm 1 rfl <| r2_ix (.tup _) hz ⟨_, .tup _, fun l => ⟨l, _, _, rfl, rfl, de_freeze <| de_sortedTu hr.units g_so <| de_ix ix_seq <| nm 0 rfl <| nm 1 rfl <| r2_ix (.tup _) hz ⟨ds, rfl, by rw [hn]; exact alike_nat, by rw [hn]; exact sortable_nat, by omega, by rw [hn]; exact depth_nat, fun l => ⟨l, _, _, rfl, rfl, r2_neD hsh hsh2 ⟨_, rfl, ?_⟩⟩⟩⟩⟩
        cases he : PyData.eqv (.list ds) (.list (sortD ds)) with
        | false =>
          rw [he, Bool.and_false] at h0
          exact ⟨fun z => (by cases z), fun _ => waysT rfl <| db_cons <| ds_ret <| de_bl (h0 rfl _)⟩
        | true =>
          rw [he, Bool.and_true] at h1 h0
          refine ⟨fun _ => ?_, fun z => (by cases z)⟩
          refine dw_or1 <| dt_w <| dw_and <| dt_cmp op_eq <| nm 1 rfl <| de_int <| r2_teq (waysD (fun c => ?_) (fun c => ?_))
          · have c : sd = 1 := by omega
            subst c
            refine dw_and1 <| dt_val <| de_any g_an <| de_freeze <| de_lcF 2 (fun d => .bool (!decide (intOf d % 2 = 0))) <| di_tup <| de_ix ix_seq <| nm 0 rfl <| nm 1 rfl <| r2_ix (.tup _) hz ⟨ds, rfl, by omega, fun _ _ _ => trivial, fun d D acc hd b => ?_, fun D => ⟨D, _, _, rfl, rfl, _, allD, _, rfl, ?_⟩⟩
            · obtain ⟨i, rfl⟩ := hint d hd
              refine de_cmp op_ne <| de_op op_mul <| de_op op_fdiv <| nm 2 rfl <| de_int <| r2_c ⟨by decide, by decide⟩ <| de_int <| r2_c (cmulL _ (by decide)) <| nm 2 rfl <| r2_neI ⟨?_, rfl⟩
              show Sl.d (.bool (!decide (i / 2 * 2 = i))) = Sl.d (.bool (!decide (i % 2 = 0)))
              congr 3
              rw [decide_eq_decide]
              omega
            · rw [any_id, show (ds.any fun d => !decide (intOf d % 2 = 0)) = !ds.all fun d => decide (intOf d % 2 = 0) by rw [List.all_eq_not_any_not, Bool.not_not]]
              have e2 : (1 + ((1 : Nat) : Int)) = 2 := rfl
              rw [e2] at h1 h0
              cases h5 : ds.all fun d => decide (intOf d % 2 = 0) with
              | true => exact waysF rfl <| db_nil <| db_nil <| h1 h5 _
              | false => exact waysT rfl <| db_cons <| ds_ret <| de_bl (h0 h5 _)
          · have c : sd = 0 := by omega
            subst c
            refine waysF rfl <| db_nil <| db_nil <| h1 ?_ _
            refine List.all_eq_true.mpr fun d _ => decide_eq_true ?_
            show intOf d % (1 + ((0 : Nat) : Int)) = 0
            omega
  | _ => exact none_ rfl
theorem ok_la {k : Nat} (Fn : FnP K "_law_are" s__law_are f fd) (g_is : mg "isinstance" = none) (g_tu : mg "tuple" = none) (g_le : mg "len" = none) (g_al : mg "all" = none) (g_an : mg "any" = none) (g_in : mg "int" = none) (g_bo : mg "bool" = none) (g_li : mg "list" = none) (g_so : mg "sorted" = none) : FnOk P w K mg base CX0 (k + 1) f fd ["value"] (SpG K R_are) := by
  refine fn_okD Fn sc_la (fun κ M W h => ?_) fun cdv A outer s H E hr nd B0 F0 κ M W hR => ?_
  · obtain ⟨ns, rfl, _⟩ := h
    rfl
  · obtain ⟨d, rfl, hd, hW⟩ := hR
    have hW : ∀ M', W (.d (.bool (areB d))) M' := hW
    have none_ : isTup d = false → DB (laX P w K mg base f cdv A outer s H E) B0 F0 M [.d d, .un, .un] [] (defBody s__law_are) { nx := fun M' ρ' => W (.d .none) M', rt := W } := fun h => by
      refine db_cons <| ds_if <| dt_w <| dw_or <| dt_not <| dt_val <| de_isi bt_tuple g_is g_tu <| nm 0 rfl ⟨_, _, rfl, kTup _ _, _, rfl, ?_⟩
      rw [h]
      refine ⟨fun z => (by cases z), fun _ => waysT rfl <| db_cons <| ds_ret <| de_bl ?_⟩
      have := hW M
      cases d <;> first | exact this | cases h
    cases d with
    | tuple ds =>
      refine db_cons <| ds_if <| dt_w <| dw_or <| dt_not <| dt_val <| de_isi bt_tuple g_is g_tu <| nm 0 rfl ⟨_, _, rfl, kTup _ _, _, rfl, fun _ => ?_, fun z => (by cases z)⟩
      refine dw_or1 <| dt_cmp op_ne <| de_len g_le <| nm 0 rfl ⟨ds, .tup _, de_int <| r2_tne ?_⟩
      by_cases c : ds.length = 2
      · match ds, c with
        | [x, y], _ =>
          have hx : Sm x := hd.2 _ rfl x (by simp)
          have hy : Sm y := hd.2 _ rfl y (by simp)
          have hW : ∀ M', W (.d (.bool (lenB 3 1 x && (lenB 4 2 y && decide (lenD x + lenD y ≤ 12))))) M' := hW
          refine ⟨fun z => (by simp at z), fun _ => db_nil ?_⟩
          refine db_cons <| ds_for <| di_tup <| de_tup ?_
          refine da_cons ?_
          refine de_int ?_
          refine da_cons ?_
          refine de_int ?_
          refine da_nil ⟨[_, _], rfl, z2, ?_⟩
          refine ⟨_, rfl, fun i M' ρ' => (1 ≤ i → lenB 3 1 x = true) ∧ (2 ≤ i → lenB 4 2 y = true) ∧ ∃ s1, ρ' = [.d (.tuple [x, y]), s1, .un], ⟨fun h => by omega, fun h => by omega, _, rfl⟩, fun _ _ _ _ => trivial, ?_, ?_⟩
          · rintro i d M' ρ' hdd ⟨h1, h2, s1, rfl⟩
            match i, hdd with
            | 0, hdd =>
              cases hdd
              refine dg_name 1 <| w_side (sd := 0) hr nd g_is g_tu g_al g_an g_in g_bo g_li g_so (.inl rfl) (z := x) (atI_at (by decide) rfl) hx (fun h M' => ⟨fun _ => h, fun z => by omega, _, rfl⟩) (fun h M' => ?_)
              have h : lenB 3 1 x = false := h
              have := hW M'
              rw [h, Bool.false_and] at this
              exact this
            | 1, hdd =>
              cases hdd
              refine dg_name 1 <| w_side (sd := 1) hr nd g_is g_tu g_al g_an g_in g_bo g_li g_so (.inr rfl) (z := y) (atI_at (by decide) rfl) hy (fun h M' => ⟨fun _ => h1 (by omega), fun z => h, _, rfl⟩) (fun h M' => ?_)
              have h : lenB 4 2 y = false := h
              have := hW M'
              rw [h, Bool.false_and, Bool.and_false] at this
              exact this
            | i + 2, hdd => simp at hdd
          · rintro M' ρ' ⟨h1, h2, s1, rfl⟩
            have h1 := h1 (by show 1 ≤ 2; decide)
            have h2 := h2 (by show 2 ≤ 2; decide)
            rw [h1, h2, Bool.true_and, Bool.true_and] at hW
            obtain ⟨xs, rfl⟩ := lenB_tup h1
            obtain ⟨ys, rfl⟩ := lenB_tup h2
            have hxl : xs.length ≤ 1000 := hx xs rfl
            have hyl : ys.length ≤ 1000 := hy ys rfl
            refine db_cons <| ds_ret <| de_cmp op_le <| de_len g_le <| de_op op_catA <| de_ix ix_seq <| nm 0 rfl <| de_int <| r2_ix (.tup _) (d := .tuple xs) (atI_at (by decide) rfl) <| de_ix ix_seq <| nm 0 rfl <| de_int <| r2_ix (.tup _) (d := .tuple ys) (atI_at (by decide) rfl) <| r2_catT (by omega) ⟨_, .tup _, de_int <| r2_b ?_⟩
            have := hW M'
            rw [show decide (((xs ++ ys).length : Int) ≤ 12) = decide (xs.length + ys.length ≤ 12) by rw [decide_eq_decide, List.length_append]; omega]
            exact this
      · rw [are_len c] at hW
        refine ⟨fun _ => db_cons <| ds_ret <| de_bl (hW _), fun z => ?_⟩
        exfalso
        have z : decide ((ds.length : Int) = 2) = true := by simpa using z
        have := of_decide_eq_true z
        omega
    | _ => exact none_ rfl
end
end H83
set_option maxHeartbeats 4000000
namespace H83
open PySem PySem.Spec PyProof.Rows L2 DL
def R_sp (tp cs : Addr) (m : Nat) : List Sl → Cs → (Sl → Cs → Prop) → Prop := fun κ M W => ∃ d, κ = [.v (.ref tp), .d d] ∧ Tape tp cs M ∧ IV m d ∧ ∀ d' M', GX d' → Tape tp cs M' → W (.d d') M'
theorem gx_at {ds : List PyData} {z : Int} (h0 : 0 ≤ z) (h1 : z < (ds.length : Int)) (h : ∀ d ∈ ds, GX d) : ∃ d, atI ds z = some d ∧ GX d := by
  obtain ⟨k, rfl⟩ := Int.eq_ofNat_of_zero_le h0
  have hk : k < ds.length := by omega
  exact ⟨ds[k], atI_at h0 (by rw [Int.toNat_natCast]; exact List.getElem?_eq_getElem hk), h _ (List.getElem_mem hk)⟩
def rows0 : List PyData := [.none, .tuple [], .int 0, .int 1, .bool true, .bool false, .str "a", .int (-1), .tuple [.int 0], .tuple [.tuple [.int 0, .int 0]]]
theorem gx_00 : GX (.tuple [.int 0, .int 0]) := gx_tup (by show 2 ≤ 1000; decide) fun d h => by
  rcases List.mem_cons.mp h with rfl | h
  · exact gx_int 0
  · rw [List.mem_singleton.mp h]; exact gx_int 0
theorem gx_rows0 : ∀ d ∈ rows0, GX d := by
  intro d hd
  unfold rows0 at hd
  simp only [List.mem_cons, List.not_mem_nil, or_false] at hd
  rcases hd with rfl | rfl | rfl | rfl | rfl | rfl | rfl | rfl | rfl | rfl
  · exact gx_none
  · exact gx_tup (by show 0 ≤ 1000; decide) fun d h => by cases h
  · exact gx_int _
  · exact gx_int _
  · exact gx_bool _
  · exact gx_bool _
  · exact gx_str _
  · exact gx_int _
  · exact gx_tup (by show 1 ≤ 1000; decide) fun d h => by rw [List.mem_singleton.mp h]; exact gx_int 0
  · exact gx_tup (by show 1 ≤ 1000; decide) fun d h => by rw [List.mem_singleton.mp h]; exact gx_00
section
variable {P : Program} {w : World} {K : PySem.W.Frag} {mg : Str → Option Value} {base : Heap} {f : Addr} {fd : FuncData} {tp cs : Addr}
theorem sc_sp : FnScope ["tape", "value", "at", "rows"] ["tape", "value"] (defScope s__law_spoilt) := ⟨rfl, rfl, rfl, by decide +kernel, rfl, by decide +kernel, by decide +kernel⟩
/-- the rows, at first -/
theorem w_rows0 {cdv : Value} {A : Around} {outer : List Env} {s : Shared} {H : Hp} {E : XK} {B0 F0 : Hp} (nd : (["tape", "value", "at", "rows"] : List Str).Nodup) {M : Cs} {κ : List Sl} {kk : KK} {s0 s1 s2 s3 : Sl}
    (h : DB (cxOf CX0 P w K mg base ["tape", "value", "at", "rows"] "_law_spoilt" (defScope s__law_spoilt) f cdv A outer s H E).nox B0 F0 M [s0, s1, s2, .d (.list rows0)] κ ((defBody s__law_spoilt).drop 2) kk) : DB (cxOf CX0 P w K mg base ["tape", "value", "at", "rows"] "_law_spoilt" (defScope s__law_spoilt) f cdv A outer s H E).nox B0 F0 M [s0, s1, s2, s3] κ ((defBody s__law_spoilt).drop 1) kk := by
  refine db_cons ?_
  refine ds_set 3 ?_
  refine de_lst ?_
  refine da_cons ?_
  refine de_non ?_
  refine da_cons ?_
  refine de_tup ?_
  refine da_nil ⟨[], rfl, z0, ?_⟩
  refine da_cons ?_
  refine de_int ?_
  refine da_cons ?_
  refine de_int ?_
  refine da_cons ?_
  refine de_bl ?_
  refine da_cons ?_
  refine de_bl ?_
  refine da_cons ?_
  refine de_str ?_
  refine da_cons ?_
  refine de_unop un_neg ?_
  refine de_int ?_
  refine r1_U (fun _ => .int _) ?_
  refine da_cons ?_
  refine de_tup ?_
  refine da_cons ?_
  refine de_int ?_
  refine da_nil ⟨[_], rfl, z1, ?_⟩
  refine da_cons ?_
  refine de_tup ?_
  refine da_cons ?_
  refine de_tup ?_
  refine da_cons ?_
  refine de_int ?_
  refine da_cons ?_
  refine de_int ?_
  refine da_nil ⟨[_, _], rfl, z2, ?_⟩
  refine da_nil ⟨[_], rfl, z1, ?_⟩
  refine da_nil ?_
  exact ⟨rows0, rfl, by show 10 ≤ 100000; decide, h⟩
theorem ok_sp {k m : Nat} (Fn : FnP K "_law_spoilt" s__law_spoilt f fd) (G : ∀ m', m = m' + 1 → Go P w K mg base "_law_spoilt" k ["tape", "value"] (R_sp tp cs m')) (Gd : Go P w K mg base "_law_take" k ["tape", "many"] (R_take tp cs)) (g_is : mg "isinstance" = none) (g_tu : mg "tuple" = none) (g_in : mg "int" = none) (g_le : mg "len" = none) : FnOk P w K mg base CX0 (k + 1) f fd ["tape", "value"] (SpG K (R_sp tp cs m)) := by
  refine fn_okD Fn sc_sp (fun κ M W h => ?_) fun cdv A outer s H E hr nd B0 F0 κ M W hR => ?_
  · obtain ⟨ns, rfl, _⟩ := h
    rfl
  · obtain ⟨d, rfl, hb, hd, hW⟩ := hR
    -- the end: one of the rows
    have fin : ∀ M s2 (ds : List PyData), Tape tp cs M → 0 < ds.length → ds.length ≤ 100 → (∀ d ∈ ds, GX d) → DB (cxOf CX0 P w K mg base ["tape", "value", "at", "rows"] "_law_spoilt" (defScope s__law_spoilt) f cdv A outer s H E).nox B0 F0 M [.v (.ref tp), .d d, s2, .d (.list ds)] [] ((defBody s__law_spoilt).drop 4) { nx := fun M' ρ' => W (.d .none) M', rt := W } := fun M s2 ds hb h0 h1 hg =>
      db_cons <| ds_ret <| de_ix ix_seq <| nm 3 rfl <| de_goJ 0 Gd hr <| da_cons <| nm 0 rfl <| da_cons <| de_len g_le <| nm 3 rfl ⟨ds, .lst _, da_nil ⟨_, rfl, hb, by omega, small200 (by omega), fun z M2 hz0 hz1 hb2 => ⟨trivial, by
        obtain ⟨e, he, hx⟩ := gx_at hz0 hz1 hg
        exact r2_ix (.lst _) he (hW e _ hx hb2)⟩⟩⟩
    cases d with
    | tuple ds =>
      obtain ⟨m', rfl, hl, hds⟩ : ∃ m', m = m' + 1 ∧ ds.length ≤ 400 ∧ ∀ d ∈ ds, IV m' d := by
        cases m with
        | zero => exact hd.elim
        | succ m => exact ⟨m, rfl, hd.1, hd.2⟩
      have hg : ∀ d ∈ ds, GX d := fun d h => iv_gx (hds d h)
      have hc := cut_len ds
      have hcg : ∀ l u, GX (.tuple (DL.cutD ds l u)) := fun l u => gx_tup (by have := hc l u; omega) fun d h => hg d (mem_cut h)
      have rest : ∀ M s2, Tape tp cs M → DB (cxOf CX0 P w K mg base ["tape", "value", "at", "rows"] "_law_spoilt" (defScope s__law_spoilt) f cdv A outer s H E).nox B0 F0 M [.v (.ref tp), .d (.tuple ds), s2, .un] [] ((defBody s__law_spoilt).drop 1) { nx := fun M' ρ' => W (.d .none) M', rt := W } := fun M s2 hb => by
        refine @w_rows0 P w K mg base f cdv A outer s H E B0 F0 nd M [] { nx := fun M' ρ' => W (.d .none) M', rt := W } (.v (.ref tp)) (.d (.tuple ds)) s2 .un ?_
        refine db_cons <| ds_if <| dt_val <| de_isi bt_int g_is g_in <| nm 1 rfl ⟨_, _, rfl, kInt _ _, _, rfl, waysF rfl <| db_nil ?_⟩
        refine db_cons <| ds_if <| dt_val <| de_isi bt_tuple g_is g_tu <| nm 1 rfl ⟨_, _, rfl, kTup _ _, _, rfl, waysT rfl ?_⟩
        obtain ⟨more, hm⟩ : ∃ more : List PyData, more = [.tuple (DL.cutD ds none (some (-1))), .tuple (ds ++ DL.cutD ds (some (-1)) none), .tuple ds.reverse, .tuple (ds ++ [.tuple [.int 0, .int 0]]), .tuple [.tuple ds], .tuple (DL.cutD ds (some 1) none)] := ⟨_, rfl⟩
        have hml : more.length = 6 := by rw [hm]; rfl
        have hmg : ∀ d ∈ more, GX d := by
          intro d hd
          rw [hm] at hd
          simp only [List.mem_cons, List.not_mem_nil, or_false] at hd
          rcases hd with rfl | rfl | rfl | rfl | rfl | rfl
          · exact hcg _ _
          · exact gx_tup (by rw [List.length_append]; have := hc (some (-1)) none; omega) fun d h => (List.mem_append.mp h).elim (hg d) fun h => hg d (mem_cut h)
          · exact gx_tup (by rw [List.length_reverse]; omega) fun d h => hg d (List.mem_reverse.mp h)
          · exact gx_tup (by rw [List.length_append]; show _ + 1 ≤ _; omega) fun d h => (List.mem_append.mp h).elim (hg d) fun h => by rw [List.mem_singleton.mp h]; exact gx_00
          · exact gx_tup (by show 1 ≤ 1000; decide) fun d h => by rw [List.mem_singleton.mp h]; exact gx_tup (by omega) hg
          · exact hcg _ _
        refine db_cons <| ds_set 3 <| de_freeze <| de_op op_cat <| nm 3 rfl <| de_lst <| da_cons <| de_slice sl_tupA <| nm 1 rfl <| do_none <| do_some <| de_unop un_neg <| de_int <| r1_U (fun _ => .int _) ⟨_, rfl, rs_tup ?_⟩
        refine da_cons <| de_op op_catA <| nm 1 rfl <| de_slice sl_tupA <| nm 1 rfl <| do_some <| de_unop un_neg <| de_int <| r1_U (fun _ => .int _) ⟨_, rfl, do_none <| rs_tup <| r2_catT (by have := hc (some (-1)) none; omega) ?_⟩
        refine da_cons <| de_revT <| nm 1 rfl ⟨ds, rfl, do_some <| de_unop un_neg <| de_int <| r1_U (fun _ => .int _) ⟨_, rfl, rfl, ?_⟩⟩
        refine da_cons ?_
        refine de_op op_catA ?_
        refine nm 1 rfl ?_
        refine de_tup ?_
        refine da_cons ?_
        refine de_tup ?_
        refine da_cons ?_
        refine de_int ?_
        refine da_cons ?_
        refine de_int ?_
        refine da_nil ⟨[_, _], rfl, z2, ?_⟩
        refine da_nil ⟨[_], rfl, z1, ?_⟩
        refine r2_catT (by show _ + 1 ≤ _; omega) ?_
        refine da_cons <| de_tup <| da_cons <| nm 1 rfl <| da_nil ⟨[_], rfl, z1, ?_⟩
        refine da_cons <| de_slice sl_tupA <| nm 1 rfl <| do_some <| de_int ⟨_, rfl, do_none <| rs_tup <| da_nil ?_⟩
        refine ⟨more, by rw [hm]; rfl, by rw [hml]; decide, r2_catC (.lst _) (.lst _) (by rw [hml]; show 10 + 6 ≤ _; decide) fun q => ⟨q, _, _, rfl, rfl, ?_⟩⟩
        exact db_nil <| @fin _ _ _ hb (by rw [List.length_append, hml]; omega) (by rw [List.length_append, hml]; show 10 + 6 ≤ 100; decide) fun d h => (List.mem_append.mp h).elim (gx_rows0 d) (hmg d)
      refine db_cons <| ds_if <| dt_w <| dw_and <| dt_val <| de_isi bt_tuple g_is g_tu <| nm 1 rfl ⟨_, _, rfl, kTup _ _, _, rfl, waysT rfl <| dw_and <| dt_cmp op_gt <| de_len g_le <| nm 1 rfl ⟨ds, .tup _, de_int <| r2_t (waysD (fun hp => ?_) (fun _ => waysF rfl <| db_nil <| @rest M .un hb))⟩⟩
      refine dw_and1 <| dt_cmp op_gt <| de_goJ 0 Gd hr <| da_cons <| nm 0 rfl <| da_cons <| de_int <| da_nil ⟨4, rfl, hb, by decide, by decide, fun z M3 hz0 hz1 hb3 => ⟨trivial, de_int <| r2_t (waysD (fun _ => ?_) (fun _ => db_nil <| @rest M3 .un hb3))⟩⟩
      refine db_cons <| ds_set 2 <| de_goJ 0 Gd hr <| da_cons <| nm 0 rfl <| da_cons <| de_len g_le <| nm 1 rfl ⟨ds, .tup _, da_nil ⟨_, rfl, hb3, by omega, small200 (by omega), fun z M4 hz0 hz1 hb4 => ⟨trivial, ?_⟩⟩⟩
      obtain ⟨i, rfl⟩ := Int.eq_ofNat_of_zero_le hz0
      have hi : i < ds.length := by omega
      have h1 := hc none (some (i : Int))
      have h2 := hc (some ((i : Int) + 1)) none
      refine db_cons <| ds_if <| dt_cmp op_eq <| de_goJ 0 Gd hr <| da_cons <| nm 0 rfl <| da_cons <| de_int <| da_nil ⟨8, rfl, hb4, by decide, by decide, fun y M5 hy0 hy1 hb5 => ⟨trivial, de_int <| r2_teq (waysD (fun _ => ?_) (fun _ => ?_))⟩⟩
      · refine db_cons <| ds_ret <| de_op op_catA <| de_slice sl_tupA <| nm 1 rfl <| do_none <| do_some <| nm 2 rfl ⟨_, rfl, rs_tup <| de_slice sl_tupA <| nm 1 rfl <| do_some <| de_op op_add <| nm 2 rfl <| de_int <| r2_i ⟨_, rfl, do_none <| rs_tup <| r2_catT (by omega) <| hW _ _ ?_ hb5⟩⟩
        refine gx_tup (by rw [List.length_append]; omega) fun d h => ?_
        rcases List.mem_append.mp h with h | h
        · exact hg d (mem_cut h)
        · exact hg d (mem_cut h)
      · refine db_nil <| db_cons <| ds_ret <| de_op op_catA <| de_op op_catA <| de_slice sl_tupA <| nm 1 rfl <| do_none <| do_some <| nm 2 rfl ⟨_, rfl, rs_tup <| de_tup <| da_cons <| de_goJ 0 (G m' rfl) hr <| da_cons <| nm 0 rfl <| da_cons <| de_ix ix_seq <| nm 1 rfl <| nm 2 rfl <| r2_ix (.tup _) (d := ds[i]) (atI_at (by omega) (List.getElem?_eq_getElem hi)) <| da_nil ⟨ds[i], rfl, hb5, hds _ (List.getElem_mem hi), fun d' M6 hd' hb6 => ⟨trivial, da_nil ⟨[d'], rfl, z1, r2_catT (by show _ + 1 ≤ _; omega) <| de_slice sl_tupA <| nm 1 rfl <| do_some <| de_op op_add <| nm 2 rfl <| de_int <| r2_i ⟨_, rfl, do_none <| rs_tup <| r2_catT (by rw [List.length_append]; show _ + 1 + _ ≤ _; omega) <| hW _ _ ?_ hb6⟩⟩⟩⟩⟩
        refine gx_tup (by rw [List.length_append, List.length_append]; show _ + 1 + _ ≤ _; omega) fun d h => ?_
        rcases List.mem_append.mp h with h | h
        · rcases List.mem_append.mp h with h | h
          · exact hg d (mem_cut h)
          · rw [List.mem_singleton.mp h]; exact hd'
        · exact hg d (mem_cut h)
    | int i =>
      refine db_cons <| ds_if <| dt_w <| dw_and <| dt_val <| de_isi bt_tuple g_is g_tu <| nm 1 rfl ⟨_, _, rfl, kTup _ _, _, rfl, waysF rfl <| waysF rfl <| db_nil ?_⟩
      refine @w_rows0 P w K mg base f cdv A outer s H E B0 F0 nd M [] { nx := fun M' ρ' => W (.d .none) M', rt := W } (.v (.ref tp)) (.d (.int i)) .un .un ?_
      refine db_cons <| ds_if <| dt_val <| de_isi bt_int g_is g_in <| nm 1 rfl ⟨_, _, rfl, kInt _ _, _, rfl, waysT rfl ?_⟩
      refine db_cons <| ds_set 3 <| de_freeze <| de_op op_cat <| nm 3 rfl <| de_lst <| da_cons <| de_op op_add <| nm 1 rfl <| de_int <| r2_i <| da_cons <| de_op op_sub <| nm 1 rfl <| de_int <| r2_i <| da_cons <| de_cmp op_eq <| nm 1 rfl <| de_int <| r2_eqI <| da_cons <| de_op op_add <| nm 1 rfl <| de_int <| r2_i <| da_nil ⟨[_, _, _, _], rfl, by show 4 ≤ 100000; decide, r2_catC (.lst _) (.lst _) (by show 10 + 4 ≤ _; decide) fun q => ⟨q, _, _, rfl, rfl, ?_⟩⟩
      refine db_nil <| db_cons <| ds_if <| dt_val <| de_isi bt_tuple g_is g_tu <| nm 1 rfl ⟨_, _, rfl, kTup _ _, _, rfl, waysF rfl <| db_nil ?_⟩
      refine @fin _ _ _ hb (by rw [List.length_append]; show 0 < 10 + 4; decide) (by rw [List.length_append]; show 10 + 4 ≤ 100; decide) fun d h => ?_
      rcases List.mem_append.mp h with h | h
      · exact gx_rows0 d h
      · simp only [List.mem_cons, List.not_mem_nil, or_false] at h
        rcases h with rfl | rfl | rfl | rfl
        · exact gx_int _
        · exact gx_int _
        · exact gx_bool _
        · exact gx_int _
    | none => cases m <;> exact hd.elim
    | bool _ => cases m <;> exact hd.elim
    | str _ => cases m <;> exact hd.elim
    | list _ => cases m <;> exact hd.elim
    | dict _ => cases m <;> exact hd.elim
theorem go_sp (k : Nat) (Fn : FnP K "_law_spoilt" s__law_spoilt f fd) (gm : mg "_law_spoilt" = some (.ref f)) (Gd : ∀ j, Go P w K mg base "_law_take" (j + 2) ["tape", "many"] (R_take tp cs)) (g_is : mg "isinstance" = none) (g_tu : mg "tuple" = none) (g_in : mg "int" = none) (g_le : mg "len" = none) :
    ∀ m, Go P w K mg base "_law_spoilt" (k + 3 + m) ["tape", "value"] (R_sp tp cs m) := by
  have one : ∀ (j m : Nat), (∀ m', m = m' + 1 → Go P w K mg base "_law_spoilt" (j + 2) ["tape", "value"] (R_sp tp cs m')) → Go P w K mg base "_law_spoilt" (j + 3) ["tape", "value"] (R_sp tp cs m) := fun j m h => go_of Fn gm (fun _ _ _ _ _ _ us hl => match us, hl with | [_, _], _ => rfl) (ok_sp Fn h (Gd j) g_is g_tu g_in g_le)
  intro m
  induction m with
  | zero => exact one k 0 fun m' h => by omega
  | succ m ih =>
    have e : k + 3 + (m + 1) = (k + 1 + m) + 3 := by omega
    rw [e]
    refine one (k + 1 + m) (m + 1) fun m' h => ?_
    have : m = m' := by omega
    subst this
    have e : k + 1 + m + 2 = k + 3 + m := by omega
    rw [e]
    exact ih
end
end H83
set_option maxHeartbeats 2000000
namespace H83
open PySem PySem.Spec PyProof.Rows L2 DL CL
def strD (s : CL.St) : PyData := .tuple [.tuple (natL s.1), .tuple (natL s.2)]
def wD (w : Bool) : Str := if w then "chain" else "loop"
def opD (o : Op) : PyData := .tuple [.str (wD o.1), .int (o.2 : Nat)]
theorem ops_data (s : CL.St) : (natL (uq s.1)).map (fun d => PyData.tuple [.str "chain", d]) ++ (natL (uq s.2)).map (fun d => PyData.tuple [.str "loop", d]) = (ops s).map opD := by
  unfold ops natL
  rw [List.map_append, List.map_map, List.map_map, List.map_map, List.map_map]
  rfl
theorem uq_len (a : List Nat) : (uq a).length ≤ 60 := by
  unfold uq
  refine Nat.le_trans (List.length_filter_le _ _) ?_
  rw [List.length_range]
  exact Nat.le_refl _
theorem ops_len (s : CL.St) : (ops s).length ≤ 120 := by
  unfold ops
  rw [List.length_append, List.length_map, List.length_map]
  have := uq_len s.1
  have := uq_len s.2
  omega
theorem at0 {s : CL.St} : atI [PyData.tuple (natL s.1), .tuple (natL s.2)] 0 = some (.tuple (natL s.1)) := atI_at (by decide) rfl
theorem at1 {s : CL.St} : atI [PyData.tuple (natL s.1), .tuple (natL s.2)] 1 = some (.tuple (natL s.2)) := atI_at (by decide) rfl
theorem cut_lo {ns : List Nat} {i : Nat} (h : i < ns.length) : DL.cutD (natL ns) none (some (i : Int)) = natL (ns.take i) := by
  unfold DL.cutD
  have e : HT.sIx (natL ns).length (natL ns).length (some (i : Int)) = i := by
    show (if (i : Int) < 0 then ((i : Int) + ((natL ns).length : Int)).toNat else min (i : Int).toNat (natL ns).length) = i
    rw [if_neg (by omega), natL_len]
    omega
  rw [e, show HT.sIx (natL ns).length 0 none = 0 from rfl, List.drop_zero, Nat.sub_zero]
  unfold natL
  rw [List.map_take]
theorem cut_hi {ns : List Nat} {i : Nat} (h : i < ns.length) : DL.cutD (natL ns) (some ((i : Int) + 1)) none = natL (ns.drop (i + 1)) := by
  unfold DL.cutD
  have e : HT.sIx (natL ns).length 0 (some ((i : Int) + 1)) = i + 1 := by
    show (if (i : Int) + 1 < 0 then ((i : Int) + 1 + ((natL ns).length : Int)).toNat else min ((i : Int) + 1).toNat (natL ns).length) = i + 1
    rw [if_neg (by omega), natL_len]
    omega
  rw [e, show HT.sIx (natL ns).length (natL ns).length none = (natL ns).length from rfl]
  unfold natL
  rw [← List.map_drop, List.take_of_length_le (by rw [List.length_map, List.length_drop, List.length_map]; exact Nat.le_refl _)]
theorem erase_idx (L : Nat) : ∀ ns : List Nat, ns.eraseIdx (ns.idxOf L) = ns.erase L
  | [] => rfl
  | a :: ns => by
    rw [List.idxOf_cons, List.erase_cons]
    by_cases c : a = L
    · subst c; simp
    · have h1 : (a == L) = false := by simpa using c
      rw [h1]
      show a :: ns.eraseIdx (ns.idxOf L) = _
      rw [erase_idx L ns]
      rfl
theorem wT (L : Nat) : decide (wD ((true, L) : Op).1 = "chain") = true := by show decide (("chain" : Str) = "chain") = true; decide
theorem wF (L : Nat) : decide (wD ((false, L) : Op).1 = "chain") = false := by show decide (("loop" : Str) = "chain") = false; decide
theorem cut_erase {ns : List Nat} {L : Nat} (h : L ∈ ns) : DL.cutD (natL ns) none (some ((ns.idxOf L : Nat) : Int)) ++ DL.cutD (natL ns) (some (((ns.idxOf L : Nat) : Int) + 1)) none = natL (ns.erase L) := by
  have hi := List.idxOf_lt_length_of_mem h
  rw [cut_lo hi, cut_hi hi, ← natL_app, ← List.eraseIdx_eq_take_drop_succ, erase_idx]
theorem eqv_l (A B : List Nat) : PyData.eqv (.tuple (natL A)) (.tuple (natL B)) = decide (A = B) := by
  have all : ∀ A B : List Nat, PyData.eqvAll (natL A) (natL B) = decide (A = B) := by
    intro A
    induction A with
    | nil =>
      intro B
      cases B with
      | nil => rw [show natL [] = [] from rfl, PyData.eqvAll]; rfl
      | cons b B =>
        show PyData.eqvAll [] (PyData.int (b : Nat) :: natL B) = _
        rw [PyData.eqvAll]
        · rfl
        all_goals simp
    | cons a A ih =>
      intro B
      cases B with
      | nil =>
        show PyData.eqvAll (PyData.int (a : Nat) :: natL A) [] = _
        rw [PyData.eqvAll]
        · rfl
        all_goals simp
      | cons b B =>
        show PyData.eqvAll (PyData.int (a : Nat) :: natL A) (PyData.int (b : Nat) :: natL B) = _
        rw [PyData.eqvAll, PyData.eqv, ih B, Bool.eq_iff_iff]
        simp only [Bool.and_eq_true, beq_iff_eq, decide_eq_true_iff, List.cons.injEq]
        constructor
        · rintro ⟨h1, h2⟩; exact ⟨by omega, h2⟩
        · rintro ⟨h1, h2⟩; exact ⟨by omega, h2⟩
  rw [PyData.eqv, all]
theorem eqv_str (s t : CL.St) : PyData.eqv (strD s) (strD t) = decide (s = t) := by
  obtain ⟨a, b⟩ := s
  obtain ⟨c, d⟩ := t
  unfold strD
  rw [PyData.eqv, PyData.eqvAll, PyData.eqvAll, PyData.eqvAll, eqv_l, eqv_l, Bool.and_true, Bool.eq_iff_iff]
  simp only [Bool.and_eq_true, decide_eq_true_iff, Prod.mk.injEq]
theorem shaped_str (s : CL.St) : SeqAt.shaped (strD s) = true := by
  unfold SeqAt.shaped
  rw [Bool.and_eq_true, decide_eq_true_iff]
  refine ⟨?_, ?_⟩
  · unfold strD
    rw [PyData.canLay0, PyData.canLayAll0, PyData.canLayAll0, PyData.canLayAll0, PyData.canLay0, PyData.canLay0, lay_nat, lay_nat]
    rfl
  · unfold strD
    rw [PyData.depth, PyData.depthAll, PyData.depthAll, PyData.depthAll, PyData.depth, PyData.depth, dep_nat, dep_nat]
    decide
section
variable {P : Program} {w : World} {K : PySem.W.Frag} {mg : Str → Option Value} {base : Heap} {f : Addr} {fd : FuncData}
abbrev R_op := Pu (fun s : CL.St => [.n (strD s)]) (fun s => CL.Ok s) (fun s => .list ((ops s).map opD))
theorem sc_op : FnScope ["strings", "found", "length"] ["strings"] (defScope s_openings) := ⟨rfl, rfl, rfl, by decide +kernel, rfl, by decide +kernel, by decide +kernel⟩
theorem ok_op {k : Nat} (Fn : FnP K "openings" s_openings f fd) (g_so : mg "sorted" = none) (g_se : mg "set" = none) : FnOk P w K mg base CX0 (k + 1) f fd ["strings"] (SpG K R_op) := by
  refine fn_okD Fn sc_op (fun κ M W h => ?_) fun cdv A outer s' H E hr nd B0 F0 κ M W hR => ?_
  · obtain ⟨_, rfl, _⟩ := h
    rfl
  · obtain ⟨s, rfl, hs, hW⟩ := hR
    have hs : CL.Ok s := hs
    have hn := hs.n
    unfold CL.size at hn
    have hW : ∀ M', W (.d (.list ((ops s).map opD))) M' := hW
    refine db_cons <| ds_cmp 1 <| du_freeze <| gu_lcF 2 (fun d => .tuple [.str "chain", d]) <| di_list <| de_freeze <| de_sortedSetN g_so g_se <| de_nd <| de_ix ix_seq <| nm 0 rfl <| de_int <| r2_ixN at0 ⟨_, rfl, s.1, .tup _, by omega, fun x hx => by have := hs.a x hx; omega, fun T t1 t2 a o l => ⟨l, _, _, rfl, rfl, _, rfl, ?_, fun _ _ _ => trivial, fun d D acc hd b => ?_, fun D => ⟨D, _, _, rfl, rfl, ?_⟩⟩⟩
    · rw [natL_len, uq_eq (fun x hx => by have := hs.a x hx; omega) t1 t2]
      have := uq_len s.1
      omega
    · obtain ⟨q, _, rfl⟩ := nat_mem hd
      exact de_tup <| da_cons <| de_str <| da_cons <| nm 2 rfl <| da_nil ⟨[_, _], rfl, z2, rfl, rfl⟩
    rw [uq_eq (fun x hx => by have := hs.a x hx; omega) t1 t2]
    refine db_cons <| ds_ret <| de_freeze <| de_op op_cat <| nm 1 rfl <| de_freeze <| de_lcF 2 (fun d => .tuple [.str "loop", d]) <| di_list <| de_freeze <| de_sortedSetN g_so g_se <| de_nd <| de_ix ix_seq <| nm 0 rfl <| de_int <| r2_ixN at1 ⟨_, rfl, s.2, .tup _, by omega, fun x hx => by have := hs.b x hx; omega, fun T t1 t2 a o l => ⟨l, _, _, rfl, rfl, _, rfl, ?_, fun _ _ _ => trivial, fun d D acc hd b => ?_, fun D => ⟨D, _, _, rfl, rfl, ?_⟩⟩⟩
    · rw [natL_len, uq_eq (fun x hx => by have := hs.b x hx; omega) t1 t2]
      have := uq_len s.2
      omega
    · obtain ⟨q, _, rfl⟩ := nat_mem hd
      exact de_tup <| da_cons <| de_str <| da_cons <| nm 2 rfl <| da_nil ⟨[_, _], rfl, z2, rfl, rfl⟩
    rw [uq_eq (fun x hx => by have := hs.b x hx; omega) t1 t2]
    refine r2_catC (.lst _) (.lst _) ?_ fun l => ⟨l, _, _, rfl, rfl, ?_⟩
    · rw [List.length_map, List.length_map, natL_len, natL_len]
      have := uq_len s.1
      have := uq_len s.2
      omega
    rw [ops_data]
    exact hW _
theorem sc_lu : FnScope ["strings", "rows", "length"] ["strings"] (defScope s__law_unlike) := ⟨rfl, rfl, rfl, by decide +kernel, rfl, by decide +kernel, by decide +kernel⟩
theorem ok_lu {k : Nat} (Fn : FnP K "_law_unlike" s__law_unlike f fd) (g_so : mg "sorted" = none) (g_se : mg "set" = none) : FnOk P w K mg base CX0 (k + 1) f fd ["strings"] (SpG K R_op) := by
  refine fn_okD Fn sc_lu (fun κ M W h => ?_) fun cdv A outer s' H E hr nd B0 F0 κ M W hR => ?_
  · obtain ⟨_, rfl, _⟩ := h
    rfl
  · obtain ⟨s, rfl, hs, hW⟩ := hR
    have hs : CL.Ok s := hs
    have hn := hs.n
    unfold CL.size at hn
    have hW : ∀ M', W (.d (.list ((ops s).map opD))) M' := hW
    refine db_cons <| ds_cmp 1 <| du_freeze <| gu_lcF 2 (fun d => .tuple [.str "chain", d]) <| di_list <| de_freeze <| de_sortedSetN g_so g_se <| de_nd <| de_ix ix_seq <| nm 0 rfl <| de_int <| r2_ixN at0 ⟨_, rfl, s.1, .tup _, by omega, fun x hx => by have := hs.a x hx; omega, fun T t1 t2 a o l => ⟨l, _, _, rfl, rfl, _, rfl, ?_, fun _ _ _ => trivial, fun d D acc hd b => ?_, fun D => ⟨D, _, _, rfl, rfl, ?_⟩⟩⟩
    · rw [natL_len, uq_eq (fun x hx => by have := hs.a x hx; omega) t1 t2]
      have := uq_len s.1
      omega
    · obtain ⟨q, _, rfl⟩ := nat_mem hd
      exact de_tup <| da_cons <| de_str <| da_cons <| nm 2 rfl <| da_nil ⟨[_, _], rfl, z2, rfl, rfl⟩
    rw [uq_eq (fun x hx => by have := hs.a x hx; omega) t1 t2]
    refine db_cons <| ds_ret <| de_freeze <| de_op op_cat <| nm 1 rfl <| de_freeze <| de_lcF 2 (fun d => .tuple [.str "loop", d]) <| di_list <| de_freeze <| de_sortedSetN g_so g_se <| de_nd <| de_ix ix_seq <| nm 0 rfl <| de_int <| r2_ixN at1 ⟨_, rfl, s.2, .tup _, by omega, fun x hx => by have := hs.b x hx; omega, fun T t1 t2 a o l => ⟨l, _, _, rfl, rfl, _, rfl, ?_, fun _ _ _ => trivial, fun d D acc hd b => ?_, fun D => ⟨D, _, _, rfl, rfl, ?_⟩⟩⟩
    · rw [natL_len, uq_eq (fun x hx => by have := hs.b x hx; omega) t1 t2]
      have := uq_len s.2
      omega
    · obtain ⟨q, _, rfl⟩ := nat_mem hd
      exact de_tup <| da_cons <| de_str <| da_cons <| nm 2 rfl <| da_nil ⟨[_, _], rfl, z2, rfl, rfl⟩
    rw [uq_eq (fun x hx => by have := hs.b x hx; omega) t1 t2]
    refine r2_catC (.lst _) (.lst _) ?_ fun l => ⟨l, _, _, rfl, rfl, ?_⟩
    · rw [List.length_map, List.length_map, natL_len, natL_len]
      have := uq_len s.1
      have := uq_len s.2
      omega
    rw [ops_data]
    exact hW _
def R_gone : List Sl → Cs → (Sl → Cs → Prop) → Prop := fun κ M W => ∃ (s : CL.St) (o : Op), κ = [.n (strD s), .d (.str (wD o.1)), .d (.int (o.2 : Nat))] ∧ M = [] ∧ CL.Ok s ∧ Has s o ∧ W (.n (strD (gone s o))) []
theorem sc_ws : FnScope ["strings", "word", "length", "k", "at", "rest"] ["strings", "word", "length"] (defScope s_without_string) := ⟨rfl, rfl, rfl, by decide +kernel, rfl, by decide +kernel, by decide +kernel⟩
theorem ok_ws {k : Nat} (Fn : FnP K "without_string" s_without_string f fd) : FnOk P w K mg base CX0 (k + 1) f fd ["strings", "word", "length"] (SpG K R_gone) := by
  refine fn_okD Fn sc_ws (fun κ M W h => ?_) fun cdv A outer s' H E hr nd B0 F0 κ M W hR => ?_
  · obtain ⟨_, _, rfl, _⟩ := h
    rfl
  · obtain ⟨⟨a, b⟩, ⟨w, L⟩, rfl, rfl, hs, hh, hW⟩ := hR
    have hn := hs.n
    unfold CL.size at hn
    have hn : a.length + b.length ≤ 12 := hn
    have c1 := cut_len (natL a)
    have c2 := cut_len (natL b)
    rw [natL_len] at c1 c2
    cases w with
    | true =>
      have hh : L ∈ a := hh
      have hW : W (.n (strD (a.erase L, b))) [] := hW
      refine db_cons <| ds_set 3 <| de_ifexp <| dt_cmp op_eq <| nm 1 rfl <| de_str <| r2_tseq <| waysT (wT L) <| de_int ?_
      refine db_cons <| ds_set 4 <| de_indexN <| de_ix ix_seq <| nm 0 rfl <| nm 3 rfl <| r2_ixN (at0 (s := (a, b))) ⟨a, rfl, nm 2 rfl ⟨L, rfl, hh, ?_⟩⟩
      refine db_cons <| ds_set 5 <| de_op DLN.op_catN <| de_slice DLN.sl_tupN <| de_ix ix_seq <| nm 0 rfl <| nm 3 rfl <| r2_ixN (at0 (s := (a, b))) <| do_none <| do_some <| nm 4 rfl ⟨_, rfl, rs_tupN <| de_slice DLN.sl_tupN <| de_ix ix_seq <| nm 0 rfl <| nm 3 rfl <| r2_ixN (at0 (s := (a, b))) <| do_some <| de_op op_add <| nm 4 rfl <| de_int <| r2_i ⟨_, rfl, do_none <| rs_tupN <| r2_catN (Nat.le_trans (Nat.add_le_add (c1 _ _) (c1 _ _)) (by omega)) ?_⟩⟩
      rw [cut_erase hh]
      exact db_cons <| ds_ret <| de_ifexp <| dt_cmp op_eq <| nm 3 rfl <| de_int <| r2_teq <| waysT (by decide) <| de_tupN <| da_cons <| nm 5 rfl <| da_cons <| de_ix ix_seq <| nm 0 rfl <| de_int <| r2_ixN (at1 (s := (a, b))) <| da_nil ⟨[_, _], rfl, z2, hW⟩
    | false =>
      have hh : L ∈ b := hh
      have hW : W (.n (strD (a, b.erase L))) [] := hW
      refine db_cons <| ds_set 3 <| de_ifexp <| dt_cmp op_eq <| nm 1 rfl <| de_str <| r2_tseq <| waysF (wF L) <| de_int ?_
      refine db_cons <| ds_set 4 <| de_indexN <| de_ix ix_seq <| nm 0 rfl <| nm 3 rfl <| r2_ixN (at1 (s := (a, b))) ⟨b, rfl, nm 2 rfl ⟨L, rfl, hh, ?_⟩⟩
      refine db_cons <| ds_set 5 <| de_op DLN.op_catN <| de_slice DLN.sl_tupN <| de_ix ix_seq <| nm 0 rfl <| nm 3 rfl <| r2_ixN (at1 (s := (a, b))) <| do_none <| do_some <| nm 4 rfl ⟨_, rfl, rs_tupN <| de_slice DLN.sl_tupN <| de_ix ix_seq <| nm 0 rfl <| nm 3 rfl <| r2_ixN (at1 (s := (a, b))) <| do_some <| de_op op_add <| nm 4 rfl <| de_int <| r2_i ⟨_, rfl, do_none <| rs_tupN <| r2_catN (Nat.le_trans (Nat.add_le_add (c2 _ _) (c2 _ _)) (by omega)) ?_⟩⟩
      rw [cut_erase hh]
      exact db_cons <| ds_ret <| de_ifexp <| dt_cmp op_eq <| nm 3 rfl <| de_int <| r2_teq <| waysF (by decide) <| de_tupN <| da_cons <| de_ix ix_seq <| nm 0 rfl <| de_int <| r2_ixN (at0 (s := (a, b))) <| da_cons <| nm 5 rfl <| da_nil ⟨[_, _], rfl, z2, hW⟩
theorem filter_head {t : Nat → Bool} {x : Nat} : ∀ {l : List Nat}, l.Pairwise (· < ·) → x ∈ l → t x = true → (∀ y ∈ l, y < x → t y = false) → ∃ r, l.filter t = x :: r
  | a :: l, hp, hx, ht, hl => by
    obtain ⟨p1, p2⟩ := List.pairwise_cons.mp hp
    rcases List.mem_cons.mp hx with rfl | hx
    · exact ⟨_, List.filter_cons_of_pos ht⟩
    · rw [List.filter_cons_of_neg (by rw [hl a List.mem_cons_self (p1 x hx)]; decide)]
      exact filter_head p2 hx ht fun y hy => hl y (List.mem_cons_of_mem _ hy)
theorem idx_first {L : Nat} : ∀ {ns : List Nat} {y : Nat}, y < ns.idxOf L → ∀ hy : y < ns.length, ns[y] = L → False
  | [], y, _, hy, _ => by cases hy
  | a :: ns, y, h, hy, e => by
    rw [List.idxOf_cons] at h
    by_cases c : a = L
    · subst c
      simp at h
    · have h1 : (a == L) = false := by simpa using c
      rw [h1] at h
      have h : y < ns.idxOf L + 1 := h
      cases y with
      | zero => exact c e
      | succ y => exact idx_first (ns := ns) (y := y) (Nat.lt_of_succ_lt_succ h) (by simpa using hy) (by simpa using e)
theorem idx_head {ns : List Nat} {L : Nat} (h : L ∈ ns) : ∃ r, (List.range ns.length).filter (fun i => decide (ns.getD i 0 = L)) = ns.idxOf L :: r := by
  have hi := List.idxOf_lt_length_of_mem h
  refine filter_head List.pairwise_lt_range (List.mem_range.mpr hi) (decide_eq_true ?_) fun y hy hlt => decide_eq_false fun e => ?_
  · rw [List.getD_eq_getElem?_getD, List.getElem?_eq_getElem hi]
    exact List.getElem_idxOf hi
  · have hy := List.mem_range.mp hy
    rw [List.getD_eq_getElem?_getD, List.getElem?_eq_getElem hy] at e
    have e : ns[y] = L := e
    exact idx_first hlt hy e
theorem sc_lg : FnScope ["strings", "word", "length", "k", "at", "rest", "i"] ["strings", "word", "length"] (defScope s__law_gone) := ⟨rfl, rfl, rfl, by decide +kernel, rfl, by decide +kernel, by decide +kernel⟩
theorem ok_lg {k : Nat} (Fn : FnP K "_law_gone" s__law_gone f fd) (g_ra : mg "range" = none) (g_le : mg "len" = none) : FnOk P w K mg base CX0 (k + 1) f fd ["strings", "word", "length"] (SpG K R_gone) := by
  refine fn_okD Fn sc_lg (fun κ M W h => ?_) fun cdv A outer s' H E hr nd B0 F0 κ M W hR => ?_
  · obtain ⟨_, _, rfl, _⟩ := h
    rfl
  · obtain ⟨⟨a, b⟩, ⟨w, L⟩, rfl, rfl, hs, hh, hW⟩ := hR
    have hn := hs.n
    unfold CL.size at hn
    have hn : a.length + b.length ≤ 12 := hn
    have c1 := cut_len (natL a)
    have c2 := cut_len (natL b)
    rw [natL_len] at c1 c2
    have nat_el : ∀ {ns : List Nat} {i : Nat}, i < ns.length → atI (natL ns) (i : Int) = some (.int (ns.getD i 0 : Nat)) := fun {ns i} h => nat_at (by rw [List.getD_eq_getElem?_getD, List.getElem?_eq_getElem h]; rfl)
    cases w with
    | true =>
      have hh : L ∈ a := hh
      have hW : W (.n (strD (a.erase L, b))) [] := hW
      obtain ⟨r, hr2⟩ := idx_head hh
      refine db_cons <| ds_set 3 <| de_ifexp <| dt_cmp op_eq <| nm 1 rfl <| de_str <| r2_tseq <| waysT (wT L) <| de_int ?_
      refine db_cons <| ds_set 4 <| de_ix ix_seq <| de_freeze <| de_filN 6 (fun i => decide (a.getD i 0 = L)) <| di_range1 g_ra <| da_cons <| de_len g_le <| de_nd <| de_ix ix_seq <| nm 0 rfl <| nm 3 rfl <| r2_ixN (at0 (s := (a, b))) ⟨_, rfl, _, .tup _, da_nil ⟨_, rfl, by rw [natL_len]; omega, by rw [natL_len]; omega, List.range a.length, by rw [natL_len]; exact rng0 _, by rw [List.length_range]; omega, fun _ _ _ => trivial, fun i D acc hi bb => ?_, fun D => ⟨D, _, _, rfl, rfl, ?_⟩⟩⟩
      · have hi := List.mem_range.mp hi
        refine dt_cmp op_eq <| de_nd <| de_ix ix_seq <| de_ix ix_seq <| nm 0 rfl <| nm 3 rfl <| r2_ixN (at0 (s := (a, b))) <| nm 6 rfl <| r2_ixN (nat_el hi) ⟨_, rfl, nm 2 rfl <| r2_teqN ⟨rfl, rfl⟩⟩
      rw [hr2]
      refine de_int <| r2_ix (.lst _) (d := .int (a.idxOf L : Nat)) (atI_at (by decide) rfl) ?_
      refine db_cons <| ds_set 5 <| de_op DLN.op_catN <| de_slice DLN.sl_tupN <| de_ix ix_seq <| nm 0 rfl <| nm 3 rfl <| r2_ixN (at0 (s := (a, b))) <| do_none <| do_some <| nm 4 rfl ⟨_, rfl, rs_tupN <| de_slice DLN.sl_tupN <| de_ix ix_seq <| nm 0 rfl <| nm 3 rfl <| r2_ixN (at0 (s := (a, b))) <| do_some <| de_op op_add <| nm 4 rfl <| de_int <| r2_i ⟨_, rfl, do_none <| rs_tupN <| r2_catN (Nat.le_trans (Nat.add_le_add (c1 _ _) (c1 _ _)) (by omega)) ?_⟩⟩
      rw [cut_erase hh]
      exact db_cons <| ds_ret <| de_ifexp <| dt_cmp op_eq <| nm 3 rfl <| de_int <| r2_teq <| waysT (by decide) <| de_tupN <| da_cons <| nm 5 rfl <| da_cons <| de_ix ix_seq <| nm 0 rfl <| de_int <| r2_ixN (at1 (s := (a, b))) <| da_nil ⟨[_, _], rfl, z2, hW⟩
    | false =>
      have hh : L ∈ b := hh
      have hW : W (.n (strD (a, b.erase L))) [] := hW
      obtain ⟨r, hr2⟩ := idx_head hh
      refine db_cons <| ds_set 3 <| de_ifexp <| dt_cmp op_eq <| nm 1 rfl <| de_str <| r2_tseq <| waysF (wF L) <| de_int ?_
      refine db_cons <| ds_set 4 <| de_ix ix_seq <| de_freeze <| de_filN 6 (fun i => decide (b.getD i 0 = L)) <| di_range1 g_ra <| da_cons <| de_len g_le <| de_nd <| de_ix ix_seq <| nm 0 rfl <| nm 3 rfl <| r2_ixN (at1 (s := (a, b))) ⟨_, rfl, _, .tup _, da_nil ⟨_, rfl, by rw [natL_len]; omega, by rw [natL_len]; omega, List.range b.length, by rw [natL_len]; exact rng0 _, by rw [List.length_range]; omega, fun _ _ _ => trivial, fun i D acc hi bb => ?_, fun D => ⟨D, _, _, rfl, rfl, ?_⟩⟩⟩
      · have hi := List.mem_range.mp hi
        refine dt_cmp op_eq <| de_nd <| de_ix ix_seq <| de_ix ix_seq <| nm 0 rfl <| nm 3 rfl <| r2_ixN (at1 (s := (a, _))) <| nm 6 rfl <| r2_ixN (nat_el hi) ⟨_, rfl, nm 2 rfl <| r2_teqN ⟨rfl, rfl⟩⟩
      rw [hr2]
      refine de_int <| r2_ix (.lst _) (d := .int (b.idxOf L : Nat)) (atI_at (by decide) rfl) ?_
      refine db_cons <| ds_set 5 <| de_op DLN.op_catN <| de_slice DLN.sl_tupN <| de_ix ix_seq <| nm 0 rfl <| nm 3 rfl <| r2_ixN (at1 (s := (a, b))) <| do_none <| do_some <| nm 4 rfl ⟨_, rfl, rs_tupN <| de_slice DLN.sl_tupN <| de_ix ix_seq <| nm 0 rfl <| nm 3 rfl <| r2_ixN (at1 (s := (a, b))) <| do_some <| de_op op_add <| nm 4 rfl <| de_int <| r2_i ⟨_, rfl, do_none <| rs_tupN <| r2_catN (Nat.le_trans (Nat.add_le_add (c2 _ _) (c2 _ _)) (by omega)) ?_⟩⟩
      rw [cut_erase hh]
      exact db_cons <| ds_ret <| de_ifexp <| dt_cmp op_eq <| nm 3 rfl <| de_int <| r2_teq <| waysF (by decide) <| de_tupN <| da_cons <| de_ix ix_seq <| nm 0 rfl <| de_int <| r2_ixN (at0 (s := (a, b))) <| da_cons <| nm 5 rfl <| da_nil ⟨[_, _], rfl, z2, hW⟩
end
end H83
set_option maxHeartbeats 2000000
namespace H83
open PySem PySem.Spec PyProof.Rows L2 DL CL
def kW (L : List Nat) : NestedKey := .tup (L.map fun n : Nat => .num (n : Int))
theorem datas_num : ∀ L : List Nat, NestedKey.datas (L.map fun n : Nat => .num (n : Int)) = natL L
  | [] => rfl
  | n :: L => by
    show NestedKey.data (.num (n : Int)) :: NestedKey.datas (L.map fun n : Nat => .num (n : Int)) = _
    rw [datas_num L]
    rfl
theorem kW_data (L : List Nat) : (kW L).data = .tuple (natL L) := by
  show PyData.tuple (NestedKey.datas _) = _
  rw [datas_num]
theorem kW_depth (L : List Nat) : (kW L).depth ≤ 8 := by
  have : ∀ L : List Nat, NestedKey.depthAll (L.map fun n : Nat => .num (n : Int)) = 0 := fun L => by
    induction L with
    | nil => rfl
    | cons n L ih =>
      show max (NestedKey.depth (.num (n : Int))) (NestedKey.depthAll (L.map fun n : Nat => .num (n : Int))) = 0
      rw [ih]
      rfl
  show NestedKey.depthAll _ + 1 ≤ 8
  rw [this]
  decide
theorem num_inj : ∀ {L L' : List Nat}, (L.map fun n : Nat => NestedKey.num (n : Int)) = (L'.map fun n : Nat => NestedKey.num (n : Int)) → L = L'
  | [], [], _ => rfl
  | [], _ :: _, h => by cases h
  | _ :: _, [], h => by cases h
  | a :: L, b :: L', h => by
    obtain ⟨h1, h2⟩ := List.cons.inj h
    have h1 := NestedKey.num.inj h1
    rw [num_inj h2, show a = b by omega]
theorem kW_inj {L L' : List Nat} (h : kW L = kW L') : L = L' := num_inj (NestedKey.tup.inj h)
/-! ### what is known -/
def kS (s : CL.St) : NestedKey := .tup [kW s.1, kW s.2]
theorem kS_data (s : CL.St) : (kS s).data = strD s := by
  show PyData.tuple [(kW s.1).data, (kW s.2).data] = _
  rw [kW_data, kW_data]
  rfl
theorem kS_depth (s : CL.St) : (kS s).depth ≤ 8 := by
  have one : ∀ L : List Nat, (kW L).depth ≤ 1 := fun L => by
    have : NestedKey.depthAll (L.map fun n : Nat => .num (n : Int)) = 0 := by
      induction L with
      | nil => rfl
      | cons n L ih =>
        show max (NestedKey.depth (.num (n : Int))) (NestedKey.depthAll (L.map fun n : Nat => .num (n : Int))) = 0
        rw [ih]
        rfl
    show NestedKey.depthAll _ + 1 ≤ 1
    rw [this]
    decide
  show max (kW s.1).depth (max (kW s.2).depth 0) + 1 ≤ 8
  have := one s.1
  have := one s.2
  omega
theorem kS_inj {s t : CL.St} (h : kS s = kS t) : s = t := by
  have h := NestedKey.tup.inj h
  obtain ⟨h1, h2⟩ := List.cons.inj h
  obtain ⟨h2, _⟩ := List.cons.inj h2
  exact Prod.ext (kW_inj h1) (kW_inj h2)
structure Kn (r : CL.St) (es : List (NestedKey × PyData)) : Prop where
  val : ∀ s d, valN es (kS s) = some d → d = .int (V s)
  sub : ∀ k ∈ es.map (·.1), ∃ s, k = kS s ∧ Sub s r
  nd : (es.map (·.1)).Nodup
theorem Kn.nil (r : CL.St) : Kn r [] := ⟨fun s d h => (by cases h), fun k h => (by cases h), List.nodup_nil⟩
theorem flat_len2 {α β : Type} (f : α → List β) (n : Nat) : ∀ l : List α, (∀ x ∈ l, (f x).length ≤ n) → (l.flatMap f).length ≤ l.length * n
  | [], _ => by simp
  | a :: l, h => by
    rw [List.flatMap_cons, List.length_append, List.length_cons, Nat.succ_mul]
    have h1 := h a List.mem_cons_self
    have h2 := flat_len2 f n l fun x hx => h x (List.mem_cons_of_mem _ hx)
    omega
theorem Kn.len {r : CL.St} {es : List (NestedKey × PyData)} (h : Kn r es) (hr : CL.Ok r) : es.length ≤ 100000 := by
  have h1 := nodup_le h.nd (m := (subs r.1).flatMap fun a => (subs r.2).map fun b => kS (a, b)) fun k hk => by
    obtain ⟨⟨a, b⟩, rfl, hs⟩ := h.sub k hk
    exact List.mem_flatMap.mpr ⟨a, subs_mem hs.a, List.mem_map.mpr ⟨b, subs_mem hs.b, rfl⟩⟩
  rw [List.length_map] at h1
  have h2 := flat_len2 (fun a => (subs r.2).map fun b => kS (a, b)) (2 ^ r.2.length) (subs r.1) fun x _ => by rw [List.length_map, subs_len]; exact Nat.le_refl _
  rw [subs_len, ← Nat.pow_add] at h2
  have h3 : 2 ^ (r.1.length + r.2.length) ≤ 2 ^ 12 := Nat.pow_le_pow_right (by decide) hr.n
  have h4 : (2 : Nat) ^ 12 = 4096 := by decide
  omega
theorem Kn.put {r s : CL.St} {es : List (NestedKey × PyData)} (h : Kn r es) (hs : Sub s r) : Kn r (putN es (kS s) (.int (V s))) := by
  refine ⟨fun s' d hd => ?_, fun k hk => ?_, ?_⟩
  · rw [valN_put] at hd
    by_cases e : kS s' = kS s
    · rw [if_pos e] at hd
      cases kS_inj e
      exact (Option.some.inj hd).symm
    · rw [if_neg e] at hd
      exact h.val s' d hd
  · rw [putN_keys] at hk
    split at hk
    · exact h.sub k hk
    · rcases List.mem_append.mp hk with hk | hk
      · exact h.sub k hk
      · exact ⟨s, List.mem_singleton.mp hk, hs⟩
  · rw [putN_keys]
    split
    · exact h.nd
    · rename_i c
      refine List.nodup_append.mpr ⟨h.nd, by simp, fun x hx y hy e => ?_⟩
      rw [List.mem_singleton.mp hy] at e
      subst e
      exact c hx
def R_sc (P : Program) (w : World) (m : Nat) : List Sl → Cs → (Sl → Cs → Prop) → Prop := fun κ M W => ∃ (s r : CL.St) (p : Addr) (es : List (NestedKey × PyData)), κ = [.n (strD s), .v (.ref p)] ∧ M = [(p, .dn (NDic P w p) es)] ∧ (CL.Ok s ∧ CL.Ok r ∧ Sub s r ∧ CL.size s ≤ m) ∧ Kn r es ∧ ∀ es', Kn r es' → W (.d (.int (V s))) [(p, .dn (NDic P w p) es')]
def repD (o : Op) (r : CL.St) (v : Int) : List PyData := .tuple [.str "all", .int ((o.2 : Int) + v)] :: (if r = ([], []) then [] else [.tuple [.str "leave", .int ((o.2 : Int) - 2 * over o.1 - v)]])
def R_rep (P : Program) (w : World) (m : Nat) : List Sl → Cs → (Sl → Cs → Prop) → Prop := fun κ M W => ∃ (s : CL.St) (o : Op) (r : CL.St) (p : Addr) (es : List (NestedKey × PyData)), κ = [.n (strD s), .d (.str (wD o.1)), .d (.int (o.2 : Nat)), .v (.ref p)] ∧ M = [(p, .dn (NDic P w p) es)] ∧ (CL.Ok s ∧ CL.Ok r ∧ Sub s r ∧ CL.size s ≤ m + 1 ∧ Has s o) ∧ Kn r es ∧ ∀ es', Kn r es' → W (.d (.list (repD o (gone s o) (V (gone s o))))) [(p, .dn (NDic P w p) es')]
theorem rep_at {o : Op} {r : CL.St} {v : Int} {n : Nat} {d : PyData} (h : (repD o r v)[n]? = some d) : ∃ nm x, d = .tuple [.str nm, .int x] ∧ (tk o r v)[n]? = some x := by
  unfold repD at h
  unfold tk
  cases n with
  | zero =>
    simp at h
    exact ⟨_, _, h.symm, rfl⟩
  | succ n =>
    rw [List.getElem?_cons_succ] at h ⊢
    split at h
    · simp at h
    · rename_i c
      rw [if_neg c]
      cases n with
      | zero => simp at h; exact ⟨_, _, h.symm, rfl⟩
      | succ n => simp at h
theorem rep_len (o : Op) (r : CL.St) (v : Int) : (repD o r v).length = (tk o r v).length ∧ (tk o r v).length ≤ 2 ∧ 1 ≤ (tk o r v).length := by
  unfold repD tk
  by_cases c : r = ([], [])
  · rw [if_pos c, if_pos c]; simp
  · rw [if_neg c, if_neg c]; simp
def mxV (s : CL.St) (o : Op) : Int := mx (tk o (gone s o) (V (gone s o)))
section
variable {P : Program} {w : World} {K : PySem.W.Frag} {mg : Str → Option Value} {base : Heap} {f : Addr} {fd : FuncData}
theorem sc_rep : FnScope ["strings", "word", "length", "known", "rest", "after", "found", "over"] ["strings", "word", "length", "known"] (defScope s_replies) := ⟨rfl, rfl, rfl, by decide +kernel, rfl, by decide +kernel, by decide +kernel⟩
theorem ok_rep {k m : Nat} (Fn : FnP K "replies" s_replies f fd) (Gw : Go P w K mg base "without_string" k ["strings", "word", "length"] R_gone) (Gs : Go P w K mg base "score_of_opener" k ["strings", "known"] (R_sc P w m)) (hl : mg "LEFT_OVER" = some (.ref (He.ga K "LEFT_OVER"))) (hk : ∀ b, KDct K w (He.ga K "LEFT_OVER") (wD b) (.int (over b))) : FnOk P w K mg base CX0 (k + 1) f fd ["strings", "word", "length", "known"] (SpG K (R_rep P w m)) := by
  refine fn_okD Fn sc_rep (fun κ M W h => ?_) fun cdv A outer s' H E hr nd B0 F0 κ M W hR => ?_
  · obtain ⟨_, _, _, _, _, rfl, _⟩ := h
    rfl
  · obtain ⟨s, o, r, p, es, rfl, rfl, ⟨hs, hrr, hsub, hsz, hh⟩, hK, hW⟩ := hR
    have hg := gone_size hh
    refine db_cons <| ds_set 4 <| de_goX 0 0 Gw hr <| da_cons <| nm 0 rfl <| da_cons <| nm 1 rfl <| da_cons <| nm 2 rfl <| da_nil ⟨s, o, rfl, rfl, hs, hh, trivial, ?_⟩
    refine db_cons <| ds_set 5 <| de_goX 0 1 Gs hr <| da_cons <| nm 4 rfl <| da_cons <| nm 3 rfl <| da_nil ⟨gone s o, r, p, es, rfl, rfl, ⟨gone_ok hs, hrr, hsub.gone o, by omega⟩, hK, fun es1 hK1 => ⟨trivial, ?_⟩⟩
    refine db_cons <| ds_set 6 <| de_lstC <| da_cons <| de_tup <| da_cons <| de_str <| da_cons <| de_op op_add <| nm 2 rfl <| nm 5 rfl <| r2_i <| da_nil ⟨[_, _], rfl, z2, da_nil ⟨[_], rfl, z1, fun l => ?_⟩⟩
    have hW := hW es1 hK1
    refine db_cons <| ds_if <| dt_cmp (op_neD hr.units) <| nmD 4 rfl ?_
    refine de_tup ?_
    refine da_cons ?_
    refine de_tup ?_
    refine da_nil ⟨[], rfl, z0, ?_⟩
    refine da_cons ?_
    refine de_tup ?_
    refine da_nil ⟨[], rfl, z0, ?_⟩
    refine da_nil ⟨[_, _], rfl, z2, ?_⟩
    refine r2_neD (shaped_str (gone s o)) (shaped_str ([], [])) ⟨_, rfl, ?_⟩
    rw [show PyData.eqv (strD (gone s o)) (.tuple [.tuple [], .tuple []]) = decide (gone s o = ([], [])) from eqv_str _ ([], [])]
    refine waysN (fun c => ?_) (fun c => ?_)
    · unfold repD at hW
      rw [if_neg c] at hW
      refine db_cons <| ds_set 7 <| de_ix ix_kdict <| de_globR hl <| nm 1 rfl <| r2_kd (hk o.1) ?_
      refine db_cons <| ds_expr <| de_append 0 <| nm 6 rfl ⟨l, _, rfl, List.mem_cons_self, de_tup <| da_cons <| de_str <| da_cons <| de_op op_sub <| de_op op_sub <| nm 2 rfl <| de_op op_mul <| de_int <| nm 7 rfl <| r2_c (cmulF _ (by decide)) <| r2_i <| nm 5 rfl <| r2_i <| da_nil ⟨[_, _], rfl, z2, _, _, rfl, rfl, by show 1 < 100000; decide, db_nil ?_⟩⟩
      exact db_cons <| ds_ret <| de_freeze <| nm 6 rfl ⟨l, _, _, rfl, rfl, hW⟩
    · unfold repD at hW
      rw [if_pos c] at hW
      exact db_nil <| db_cons <| ds_ret <| de_freeze <| nm 6 rfl ⟨l, _, _, rfl, rfl, hW⟩
theorem sc_sc : FnScope ["strings", "known", "scores", "word", "length", "_", "score"] ["strings", "known"] (defScope s_score_of_opener) := ⟨rfl, rfl, rfl, by decide +kernel, rfl, by decide +kernel, by decide +kernel⟩
theorem ok_sc {k m : Nat} (Fn : FnP K "score_of_opener" s_score_of_opener f fd) (Go_ : Go P w K mg base "openings" k ["strings"] R_op) (Gr : ∀ m', m = m' + 1 → Go P w K mg base "replies" k ["strings", "word", "length", "known"] (R_rep P w m')) (g_ma : mg "max" = none) (g_mi : mg "min" = none) : FnOk P w K mg base CX0 (k + 1) f fd ["strings", "known"] (SpG K (R_sc P w m)) := by
  refine fn_okD Fn sc_sc (fun κ M W h => ?_) fun cdv A outer s' H E hr nd B0 F0 κ M W hR => ?_
  · obtain ⟨_, _, _, _, rfl, _⟩ := h
    rfl
  · obtain ⟨s, r, p, es, rfl, rfl, ⟨hs, hrr, hsub, hsz⟩, hK, hW⟩ := hR
    refine db_cons <| ds_if <| dt_cmp (op_eqD hr.units) <| nmD 0 rfl ?_
    refine de_tup ?_
    refine da_cons ?_
    refine de_tup ?_
    refine da_nil ⟨[], rfl, z0, ?_⟩
    refine da_cons ?_
    refine de_tup ?_
    refine da_nil ⟨[], rfl, z0, ?_⟩
    refine da_nil ⟨[_, _], rfl, z2, ?_⟩
    refine r2_eqD (shaped_str s) (shaped_str ([], [])) ⟨_, rfl, ?_⟩
    rw [show PyData.eqv (strD s) (.tuple [.tuple [], .tuple []]) = decide (s = ([], [])) from eqv_str _ ([], [])]
    refine waysD (fun c => ?_) (fun c => ?_)
    · have := hW es hK
      rw [c] at this
      exact db_cons <| ds_ret <| de_int this
    have fin : ∀ es' s2 s3 s4, Kn r es' → valN es' (kS s) = some (.int (V s)) → DB (cxOf CX0 P w K mg base ["strings", "known", "scores", "word", "length", "_", "score"] "score_of_opener" (defScope s_score_of_opener) f cdv A outer s' H E).nox B0 F0 [(p, .dn (NDic P w p) es')] [.n (strD s), .v (.ref p), s2, s3, s4, .un, .un] [] ((defBody s_score_of_opener).drop 2) { nx := fun M' ρ' => W (.d .none) M', rt := W } := fun es' s2 s3 s4 hK' hv =>
      db_cons <| ds_ret <| de_ndget hr.units <| nm 1 rfl <| nmD 0 rfl ⟨p, es', [kW s.1, kW s.2], _, rfl, List.mem_cons_self, congrArg Sl.d (kS_data s).symm, kS_depth s, hv, hW es' hK'⟩
    refine db_nil <| db_cons <| ds_if <| dt_ndnin hr.units <| nmD 0 rfl <| nm 1 rfl ⟨p, es, [kW s.1, kW s.2], rfl, List.mem_cons_self, congrArg Sl.d (kS_data s).symm, kS_depth s, ?_⟩
    cases hv : valN es (.tup [kW s.1, kW s.2]) with
    | some d =>
      have hv : valN es (kS s) = some d := hv
      have := hK.val s d hv
      subst this
      exact waysF rfl <| db_nil <| @fin es _ _ _ hK hv
    | none =>
      obtain ⟨m', rfl⟩ : ∃ m', m = m' + 1 := ⟨m - 1, by have : CL.size s ≠ 0 := fun z => c (size0 z); omega⟩
      refine waysT rfl ?_
      refine db_cons <| ds_set 2 <| de_lstC <| da_nil ⟨[], rfl, z0, fun l => ?_⟩
      have hol := ops_len s
      refine db_cons <| ds_for <| di_list <| de_pu Go_ hr <| da_cons <| nm 0 rfl <| da_nil <| da_pu s rfl hs ⟨_, rfl, fun i M' ρ' => ∃ es' s3 s4, Kn r es' ∧ M' = [(l, .lst ((((ops s).take i).map (mxV s)).map PyData.int)), (p, .dn (NDic P w p) es')] ∧ ρ' = [.n (strD s), .v (.ref p), .v (.ref l), s3, s4, .un, .un], ⟨es, _, _, hK, rfl, rfl⟩, fun _ _ _ _ => trivial, ?_, ?_⟩
      · rintro i d M' ρ' hd ⟨es', s3, s4, hK', rfl, rfl⟩
        obtain ⟨o, ho, rfl⟩ := map_get hd
        have hi := (List.getElem?_eq_some_iff.mp ho).1
        have hh := (ops_has hs).mp (List.mem_of_getElem? ho)
        obtain ⟨r1, r2, r3⟩ := rep_len o (gone s o) (V (gone s o))
        refine dg_tup rfl <| dgs_cons <| dg_name 3 <| dgs_cons <| dg_name 4 <| dgs_nil ?_
        refine db_cons <| ds_expr <| de_append 0 <| nm 2 rfl ⟨l, _, rfl, List.mem_cons_self, de_maxL g_ma <| de_freeze <| de_lc2C 5 6 (by decide) <| di_list <| de_goX 1 1 (Gr m' rfl) hr <| da_cons <| nm 0 rfl <| da_cons <| nm 3 rfl <| da_cons <| nm 4 rfl <| da_cons <| nm 1 rfl <| da_nil ⟨s, o, r, p, es', rfl, rfl, ⟨hs, hrr, hsub, hsz, hh⟩, hK', fun es2 hK2 => ⟨trivial, _, rfl, fun D => ⟨fun n acc M => M = [(l, .lst ((((ops s).take i).map (mxV s)).map PyData.int)), (p, .dn (NDic P w p) es2)] ∧ acc = ((tk o (gone s o) (V (gone s o))).take n).map PyData.int, ⟨rfl, rfl⟩, fun _ _ _ _ => trivial, ?_, ?_⟩⟩⟩⟩
        · rintro n d acc M hd2 ⟨rfl, rfl⟩
          obtain ⟨nm_, x, rfl, hx⟩ := rep_at hd2
          refine ⟨_, _, rfl, fun b => nm 6 rfl ⟨_, _, rfl, rfl, ?_, rfl, ?_⟩⟩
          · rw [List.length_map, List.length_take]; omega
          · rw [take_get hx, List.map_append]; rfl
        · rintro acc M ⟨rfl, rfl⟩
          rw [r1, List.take_length]
          refine ⟨D, _, _, rfl, rfl, tk o (gone s o) (V (gone s o)), .lst _, by omega, fun mm h1 h2 => ⟨_, _, rfl, rfl, ?_, db_nil ⟨es2, _, _, hK2, ?_, rfl⟩⟩⟩
          · rw [List.length_map, List.length_map, List.length_take]; omega
          · rw [take_get ho, List.map_append, List.map_append, show mm = mxV s o from mx_eq h1 h2]
            rfl
      · rintro M' ρ' ⟨es', s3, s4, hK', rfl, rfl⟩
        rw [List.length_map, List.take_length]
        have hne := ops_ne hs c
        refine db_cons <| ds_ndput 1 hr.units <| de_unop un_neg <| de_minL g_mi <| nm 2 rfl ⟨(ops s).map (mxV s), .cell List.mem_cons_self, ?_, fun mm h1 h2 => r1_U (fun _ => .int _) <| nm 1 rfl <| nmD 0 rfl ⟨p, es', _, [kW s.1, kW s.2], rfl, congrArg Sl.d (kS_data s).symm, kS_depth s, rfl, rfl, hK'.len hrr, db_nil <| db_drop 1 ?_⟩⟩
        · rw [List.length_map]
          exact List.length_pos_iff.mpr hne
        · have e : -mm = V s := by rw [V_eq hs c, mn_eq h1 h2]; rfl
          rw [e]
          refine @fin _ _ _ _ (hK'.put hsub) ?_
          show valN (putN es' (kS s) _) (kS s) = _
          rw [valN_put, if_pos rfl]
theorem go_sc (k : Nat) {f2 : Addr} {fd2 : FuncData} (Fn : FnP K "score_of_opener" s_score_of_opener f fd) (gm : mg "score_of_opener" = some (.ref f)) (Fr : FnP K "replies" s_replies f2 fd2) (gr : mg "replies" = some (.ref f2)) (Gw : ∀ j, Go P w K mg base "without_string" (j + 1) ["strings", "word", "length"] R_gone) (Go_ : ∀ j, Go P w K mg base "openings" (j + 1) ["strings"] R_op) (hl : mg "LEFT_OVER" = some (.ref (He.ga K "LEFT_OVER"))) (hk : ∀ b, KDct K w (He.ga K "LEFT_OVER") (wD b) (.int (over b))) (g_ma : mg "max" = none) (g_mi : mg "min" = none) :
    ∀ m, Go P w K mg base "score_of_opener" (k + 2 + 2 * m) ["strings", "known"] (R_sc P w m) ∧ Go P w K mg base "replies" (k + 3 + 2 * m) ["strings", "word", "length", "known"] (R_rep P w m) := by
  have rep : ∀ (j m : Nat), Go P w K mg base "score_of_opener" (j + 1) ["strings", "known"] (R_sc P w m) → Go P w K mg base "replies" (j + 2) ["strings", "word", "length", "known"] (R_rep P w m) := fun j m h => go_of Fr gr (fun _ _ _ _ _ _ us hl => match us, hl with | [_, _, _, _], _ => rfl) (ok_rep Fr (Gw j) h hl hk)
  have sc : ∀ (j m : Nat), (∀ m', m = m' + 1 → Go P w K mg base "replies" (j + 1) ["strings", "word", "length", "known"] (R_rep P w m')) → Go P w K mg base "score_of_opener" (j + 2) ["strings", "known"] (R_sc P w m) := fun j m h => go_of Fn gm (fun _ _ _ _ _ _ us hl => match us, hl with | [_, _], _ => rfl) (ok_sc Fn (Go_ j) h g_ma g_mi)
  intro m
  induction m with
  | zero =>
    have h1 := sc k 0 fun m' h => by omega
    exact ⟨h1, rep (k + 1) 0 h1⟩
  | succ m ih =>
    have h1 : Go P w K mg base "score_of_opener" (k + 2 + 2 * m + 2) ["strings", "known"] (R_sc P w (m + 1)) := sc (k + 2 + 2 * m) (m + 1) fun m' h => by
      have : m = m' := by omega
      subst this
      have e : k + 2 + 2 * m + 1 = k + 3 + 2 * m := by omega
      rw [e]
      exact ih.2
    have e1 : k + 2 + 2 * (m + 1) = k + 2 + 2 * m + 2 := by omega
    have e2 : k + 3 + 2 * (m + 1) = k + 2 + 2 * m + 1 + 2 := by omega
    rw [e1, e2]
    exact ⟨h1, rep _ _ h1⟩
end
end H83
set_option maxHeartbeats 2000000
namespace H83
open PySem PySem.Spec PyProof.Rows L2 DL CL
def isNo : PyData → Bool
  | .none => true
  | _ => false
theorem r2_notN {K : PySem.W.Frag} {B0 F : Hp} {ρ κ : List Sl} {M : Cs} {P : Sl → Cs → Prop} {x : PyData} (h : P (.d (.bool (!isNo x))) M) : R2D K B0 F ρ κ (fun x y H Q => y = .non ∧ Q (.bl (!decide (x = .non))) H) (.d x) (.d .none) M P := fun σ vs H v y Q g qq => by
  obtain ⟨B, g⟩ := g
  have hy : y = .non := Rp.non_inv (show Rp K B y .none from g.fst)
  have r : Rp K B v x := g.pop.fst
  refine ⟨hy, qq _ H _ M ⟨B, g.pop.pop.pushD ?_⟩ h⟩
  have e : decide (v = V.non) = isNo x := by
    cases r <;> simp [isNo]
  rw [e]
  exact .bl _
def notN : PyData → Bool
  | .none => false
  | _ => true
/-- what the taker gets more: all, and with some left over -/
def tkP (o : Op) (r : CL.St) (v : Int) : List PyData := if r = ([], []) then [.int (o.2 : Nat), .none] else [.int ((o.2 : Int) + v), .int ((o.2 : Int) - 2 * over o.1 - v)]
theorem tkD_is (o : Op) (r : CL.St) (v : Int) (h0 : r = ([], []) → v = 0) : ∃ tds, tds = tkP o r v ∧ tds.length = 2 ∧ tds.filter notN = (tk o r v).map PyData.int ∧ ∀ d ∈ tds, d = .none ∨ ∃ i, d = .int i := by
  refine ⟨_, rfl, ?_, ?_, fun d hd => ?_⟩
  · unfold tkP; split <;> rfl
  · unfold tkP tk
    by_cases c : r = ([], [])
    · rw [if_pos c, if_pos c, h0 c]
      show [PyData.int (o.2 : Nat)] = [PyData.int ((o.2 : Int) + 0)]
      rw [Int.add_zero]
    · rw [if_neg c, if_neg c]; rfl
  · unfold tkP at hd
    split at hd
    · rcases List.mem_cons.mp hd with rfl | hd
      · exact .inr ⟨_, rfl⟩
      · rw [List.mem_singleton.mp hd]; exact .inl rfl
    · rcases List.mem_cons.mp hd with rfl | hd
      · exact .inr ⟨_, rfl⟩
      · rw [List.mem_singleton.mp hd]; exact .inr ⟨_, rfl⟩
def R_lt (P : Program) (w : World) (m : Nat) : List Sl → Cs → (Sl → Cs → Prop) → Prop := fun κ M W => ∃ (s : CL.St) (o : Op) (r : CL.St) (p : Addr) (es : List (NestedKey × PyData)), κ = [.n (strD s), .d (.str (wD o.1)), .d (.int (o.2 : Nat)), .v (.ref p)] ∧ M = [(p, .dn (NDic P w p) es)] ∧ (CL.Ok s ∧ CL.Ok r ∧ Sub s r ∧ CL.size s ≤ m + 1 ∧ Has s o) ∧ Kn r es ∧ ∀ es', Kn r es' → W (.d (.tuple (tkP o (gone s o) (V (gone s o))))) [(p, .dn (NDic P w p) es')]
section
variable {P : Program} {w : World} {K : PySem.W.Frag} {mg : Str → Option Value} {base : Heap} {f : Addr} {fd : FuncData}
theorem sc_lt : FnScope ["strings", "word", "length", "known", "rest", "lost"] ["strings", "word", "length", "known"] (defScope s__law_taker) := ⟨rfl, rfl, rfl, by decide +kernel, rfl, by decide +kernel, by decide +kernel⟩
theorem ok_lt {k m : Nat} (Fn : FnP K "_law_taker" s__law_taker f fd) (Gw : Go P w K mg base "_law_gone" k ["strings", "word", "length"] R_gone) (Gs : Go P w K mg base "_law_opener" k ["strings", "known"] (R_sc P w m)) : FnOk P w K mg base CX0 (k + 1) f fd ["strings", "word", "length", "known"] (SpG K (R_lt P w m)) := by
  refine fn_okD Fn sc_lt (fun κ M W h => ?_) fun cdv A outer s' H E hr nd B0 F0 κ M W hR => ?_
  · obtain ⟨_, _, _, _, _, rfl, _⟩ := h
    rfl
  · obtain ⟨s, ⟨wd, L⟩, r, p, es, rfl, rfl, ⟨hs, hrr, hsub, hsz, hh⟩, hK, hW⟩ := hR
    have hg := gone_size hh
    refine db_cons <| ds_set 4 <| de_goX 0 0 Gw hr <| da_cons <| nm 0 rfl <| da_cons <| nm 1 rfl <| da_cons <| nm 2 rfl <| da_nil ⟨s, (wd, L), rfl, rfl, hs, hh, trivial, ?_⟩
    refine db_cons <| ds_set 5 <| de_goX 0 1 Gs hr <| da_cons <| nm 4 rfl <| da_cons <| nm 3 rfl <| da_nil ⟨gone s (wd, L), r, p, es, rfl, rfl, ⟨gone_ok hs, hrr, hsub.gone (wd, L), by omega⟩, hK, fun es1 hK1 => ⟨trivial, ?_⟩⟩
    have hW := hW es1 hK1
    refine db_cons <| ds_if <| dt_cmp (op_eqD hr.units) <| nmD 4 rfl ?_
    refine de_tup ?_
    refine da_cons ?_
    refine de_tup ?_
    refine da_nil ⟨[], rfl, z0, ?_⟩
    refine da_cons ?_
    refine de_tup ?_
    refine da_nil ⟨[], rfl, z0, ?_⟩
    refine da_nil ⟨[_, _], rfl, z2, ?_⟩
    refine r2_eqD (shaped_str (gone s (wd, L))) (shaped_str ([], [])) ⟨_, rfl, ?_⟩
    rw [show PyData.eqv (strD (gone s (wd, L))) (.tuple [.tuple [], .tuple []]) = decide (gone s (wd, L) = ([], [])) from eqv_str _ ([], [])]
    refine waysD (fun c => ?_) (fun c => ?_)
    · unfold tkP at hW
      rw [if_pos c] at hW
      exact db_cons <| ds_ret <| de_tup <| da_cons <| nm 2 rfl <| da_cons <| de_non <| da_nil ⟨[_, _], rfl, z2, hW⟩
    · unfold tkP at hW
      rw [if_neg c] at hW
      cases wd with
      | true => exact db_nil <| db_cons <| ds_ret <| de_tup <| da_cons <| de_op op_add <| nm 2 rfl <| nm 5 rfl <| r2_i <| da_cons <| de_op op_sub <| de_op op_sub <| nm 2 rfl <| de_ifexp <| dt_cmp op_eq <| nm 1 rfl <| de_str <| r2_tseq <| waysT (wT L) <| de_int <| r2_i <| nm 5 rfl <| r2_i <| da_nil ⟨[_, _], rfl, z2, hW⟩
      | false => exact db_nil <| db_cons <| ds_ret <| de_tup <| da_cons <| de_op op_add <| nm 2 rfl <| nm 5 rfl <| r2_i <| da_cons <| de_op op_sub <| de_op op_sub <| nm 2 rfl <| de_ifexp <| dt_cmp op_eq <| nm 1 rfl <| de_str <| r2_tseq <| waysF (wF L) <| de_int <| r2_i <| nm 5 rfl <| r2_i <| da_nil ⟨[_, _], rfl, z2, hW⟩
theorem sc_lo : FnScope ["strings", "known", "rows", "word", "length", "score"] ["strings", "known"] (defScope s__law_opener) := ⟨rfl, rfl, rfl, by decide +kernel, rfl, by decide +kernel, by decide +kernel⟩
theorem ok_lo {k m : Nat} (Fn : FnP K "_law_opener" s__law_opener f fd) (Go_ : Go P w K mg base "_law_unlike" k ["strings"] R_op) (Gr : ∀ m', m = m' + 1 → Go P w K mg base "_law_taker" k ["strings", "word", "length", "known"] (R_lt P w m')) (g_ma : mg "max" = none) (g_mi : mg "min" = none) : FnOk P w K mg base CX0 (k + 1) f fd ["strings", "known"] (SpG K (R_sc P w m)) := by
  refine fn_okD Fn sc_lo (fun κ M W h => ?_) fun cdv A outer s' H E hr nd B0 F0 κ M W hR => ?_
  · obtain ⟨_, _, _, _, rfl, _⟩ := h
    rfl
  · obtain ⟨s, r, p, es, rfl, rfl, ⟨hs, hrr, hsub, hsz⟩, hK, hW⟩ := hR
    refine db_cons <| ds_if <| dt_cmp (op_eqD hr.units) <| nmD 0 rfl ?_
    refine de_tup ?_
    refine da_cons ?_
    refine de_tup ?_
    refine da_nil ⟨[], rfl, z0, ?_⟩
    refine da_cons ?_
    refine de_tup ?_
    refine da_nil ⟨[], rfl, z0, ?_⟩
    refine da_nil ⟨[_, _], rfl, z2, ?_⟩
    refine r2_eqD (shaped_str s) (shaped_str ([], [])) ⟨_, rfl, ?_⟩
    rw [show PyData.eqv (strD s) (.tuple [.tuple [], .tuple []]) = decide (s = ([], [])) from eqv_str _ ([], [])]
    refine waysD (fun c => ?_) (fun c => ?_)
    · have := hW es hK
      rw [c] at this
      exact db_cons <| ds_ret <| de_int this
    have fin : ∀ es' s2 s3 s4, Kn r es' → valN es' (kS s) = some (.int (V s)) → DB (cxOf CX0 P w K mg base ["strings", "known", "rows", "word", "length", "score"] "_law_opener" (defScope s__law_opener) f cdv A outer s' H E).nox B0 F0 [(p, .dn (NDic P w p) es')] [.n (strD s), .v (.ref p), s2, s3, s4, .un] [] ((defBody s__law_opener).drop 2) { nx := fun M' ρ' => W (.d .none) M', rt := W } := fun es' s2 s3 s4 hK' hv =>
      db_cons <| ds_ret <| de_ndget hr.units <| nm 1 rfl <| nmD 0 rfl ⟨p, es', [kW s.1, kW s.2], _, rfl, List.mem_cons_self, congrArg Sl.d (kS_data s).symm, kS_depth s, hv, hW es' hK'⟩
    refine db_nil <| db_cons <| ds_if <| dt_ndnin hr.units <| nmD 0 rfl <| nm 1 rfl ⟨p, es, [kW s.1, kW s.2], rfl, List.mem_cons_self, congrArg Sl.d (kS_data s).symm, kS_depth s, ?_⟩
    cases hv : valN es (.tup [kW s.1, kW s.2]) with
    | some d =>
      have hv : valN es (kS s) = some d := hv
      have := hK.val s d hv
      subst this
      exact waysF rfl <| db_nil <| @fin es _ _ _ hK hv
    | none =>
      obtain ⟨m', rfl⟩ : ∃ m', m = m' + 1 := ⟨m - 1, by have : CL.size s ≠ 0 := fun z => c (size0 z); omega⟩
      refine waysT rfl ?_
      refine db_cons <| ds_set 2 <| de_lstC <| da_nil ⟨[], rfl, z0, fun l => ?_⟩
      have hol := ops_len s
      refine db_cons <| ds_for <| di_list <| de_pu Go_ hr <| da_cons <| nm 0 rfl <| da_nil <| da_pu s rfl hs ⟨_, rfl, fun i M' ρ' => ∃ es' s3 s4, Kn r es' ∧ M' = [(l, .lst ((((ops s).take i).map (mxV s)).map PyData.int)), (p, .dn (NDic P w p) es')] ∧ ρ' = [.n (strD s), .v (.ref p), .v (.ref l), s3, s4, .un], ⟨es, _, _, hK, rfl, rfl⟩, fun _ _ _ _ => trivial, ?_, ?_⟩
      · rintro i d M' ρ' hd ⟨es', s3, s4, hK', rfl, rfl⟩
        obtain ⟨o, ho, rfl⟩ := map_get hd
        have hi := (List.getElem?_eq_some_iff.mp ho).1
        have hh := (ops_has hs).mp (List.mem_of_getElem? ho)
        obtain ⟨r1, r2, r3⟩ := rep_len o (gone s o) (V (gone s o))
        refine dg_tup rfl <| dgs_cons <| dg_name 3 <| dgs_cons <| dg_name 4 <| dgs_nil ?_
        obtain ⟨tds, htd, htl, htf, htm⟩ := tkD_is o (gone s o) (V (gone s o)) (fun c => by rw [c]; rfl)
        refine db_cons <| ds_expr <| de_append 0 <| nm 2 rfl ⟨l, _, rfl, List.mem_cons_self, de_maxL g_ma <| de_freeze <| de_lcIfF 5 notN id <| di_tup <| de_goX 1 1 (Gr m' rfl) hr <| da_cons <| nm 0 rfl <| da_cons <| nm 3 rfl <| da_cons <| nm 4 rfl <| da_cons <| nm 1 rfl <| da_nil ⟨s, o, r, p, es', rfl, rfl, ⟨hs, hrr, hsub, hsz, hh⟩, hK', fun es2 hK2 => ⟨trivial, tds, by rw [htd], by omega, fun _ _ _ => trivial, fun d D acc hd b => ?_, fun d D acc hd _ b => nm 5 rfl ⟨rfl, rfl⟩, fun D => ⟨D, _, _, rfl, rfl, tk o (gone s o) (V (gone s o)), ?_, by omega, fun mm h1 h2 => ⟨_, _, rfl, rfl, ?_, db_nil ⟨es2, _, _, hK2, ?_, rfl⟩⟩⟩⟩⟩⟩
        · rcases htm d hd with rfl | ⟨i, rfl⟩
          · exact dt_cmp op_notN <| nm 5 rfl <| de_non <| r2_notN ⟨_, rfl, rfl, rfl⟩
          · exact dt_cmp op_notN <| nm 5 rfl <| de_non <| r2_notN ⟨_, rfl, rfl, rfl⟩
        · rw [List.map_id, htf]
          exact .lst _
        · rw [List.length_map, List.length_map, List.length_take]; omega
        · rw [take_get ho, List.map_append, List.map_append, show mm = mxV s o from mx_eq h1 h2]
          rfl
      · rintro M' ρ' ⟨es', s3, s4, hK', rfl, rfl⟩
        rw [List.length_map, List.take_length]
        have hne := ops_ne hs c
        refine db_cons <| ds_ndput 1 hr.units <| de_op op_sub <| de_int <| de_minL g_mi <| nm 2 rfl ⟨(ops s).map (mxV s), .cell List.mem_cons_self, ?_, fun mm h1 h2 => r2_i <| nm 1 rfl <| nmD 0 rfl ⟨p, es', _, [kW s.1, kW s.2], rfl, congrArg Sl.d (kS_data s).symm, kS_depth s, rfl, rfl, hK'.len hrr, db_nil <| db_drop 1 ?_⟩⟩
        · rw [List.length_map]
          exact List.length_pos_iff.mpr hne
        · have e : 0 - mm = V s := by rw [V_eq hs c, mn_eq h1 h2, Int.zero_sub]; rfl
          rw [e]
          refine @fin _ _ _ _ (hK'.put hsub) ?_
          show valN (putN es' (kS s) _) (kS s) = _
          rw [valN_put, if_pos rfl]
theorem go_lo (k : Nat) {f2 : Addr} {fd2 : FuncData} (Fn : FnP K "_law_opener" s__law_opener f fd) (gm : mg "_law_opener" = some (.ref f)) (Fr : FnP K "_law_taker" s__law_taker f2 fd2) (gr : mg "_law_taker" = some (.ref f2)) (Gw : ∀ j, Go P w K mg base "_law_gone" (j + 1) ["strings", "word", "length"] R_gone) (Go_ : ∀ j, Go P w K mg base "_law_unlike" (j + 1) ["strings"] R_op) (g_ma : mg "max" = none) (g_mi : mg "min" = none) :
    ∀ m, Go P w K mg base "_law_opener" (k + 2 + 2 * m) ["strings", "known"] (R_sc P w m) ∧ Go P w K mg base "_law_taker" (k + 3 + 2 * m) ["strings", "word", "length", "known"] (R_lt P w m) := by
  have rep : ∀ (j m : Nat), Go P w K mg base "_law_opener" (j + 1) ["strings", "known"] (R_sc P w m) → Go P w K mg base "_law_taker" (j + 2) ["strings", "word", "length", "known"] (R_lt P w m) := fun j m h => go_of Fr gr (fun _ _ _ _ _ _ us hl => match us, hl with | [_, _, _, _], _ => rfl) (ok_lt Fr (Gw j) h)
  have sc : ∀ (j m : Nat), (∀ m', m = m' + 1 → Go P w K mg base "_law_taker" (j + 1) ["strings", "word", "length", "known"] (R_lt P w m')) → Go P w K mg base "_law_opener" (j + 2) ["strings", "known"] (R_sc P w m) := fun j m h => go_of Fn gm (fun _ _ _ _ _ _ us hl => match us, hl with | [_, _], _ => rfl) (ok_lo Fn (Go_ j) h g_ma g_mi)
  intro m
  induction m with
  | zero =>
    have h1 := sc k 0 fun m' h => by omega
    exact ⟨h1, rep (k + 1) 0 h1⟩
  | succ m ih =>
    have h1 : Go P w K mg base "_law_opener" (k + 2 + 2 * m + 2) ["strings", "known"] (R_sc P w (m + 1)) := sc (k + 2 + 2 * m) (m + 1) fun m' h => by
      have : m = m' := by omega
      subst this
      have e : k + 2 + 2 * m + 1 = k + 3 + 2 * m := by omega
      rw [e]
      exact ih.2
    have e1 : k + 2 + 2 * (m + 1) = k + 2 + 2 * m + 2 := by omega
    have e2 : k + 3 + 2 * (m + 1) = k + 2 + 2 * m + 1 + 2 := by omega
    rw [e1, e2]
    exact ⟨h1, rep _ _ h1⟩
end
end H83
set_option maxHeartbeats 2000000
namespace H83
open PySem PySem.Spec PyProof.Rows L2 DL CL
theorem two_at {a b z : Int} (h0 : 0 ≤ z) (h : z < 2) : ∃ y, atI [PyData.int a, .int b] z = some (.int y) ∧ (y = a ∨ y = b) := by
  obtain ⟨k, rfl⟩ := Int.eq_ofNat_of_zero_le h0
  match k, (show k < 2 by omega) with
  | 0, _ => exact ⟨a, rfl, .inl rfl⟩
  | 1, _ => exact ⟨b, rfl, .inr rfl⟩
theorem filter_one {α : Type} (t : α → Bool) (x : α) : [x].filter t = if t x = true then [x] else [] := by
  by_cases z : t x = true
  · rw [if_pos z, List.filter_cons_of_pos z]
    rfl
  · rw [if_neg z, List.filter_cons_of_neg z]
    rfl
def prs (o : Op) (r : CL.St) (v : Int) : List (Str × Int) := ("all", (o.2 : Int) + v) :: (if r = ([], []) then [] else [("leave", (o.2 : Int) - 2 * over o.1 - v)])
def prD (q : Str × Int) : PyData := .tuple [.str q.1, .int q.2]
theorem repD_eq (o : Op) (r : CL.St) (v : Int) : repD o r v = (prs o r v).map prD := by
  unfold repD prs
  by_cases c : r = ([], [])
  · rw [if_pos c, if_pos c]; rfl
  · rw [if_neg c, if_neg c]; rfl
theorem tk_eq (o : Op) (r : CL.St) (v : Int) : tk o r v = (prs o r v).map (·.2) := by
  unfold tk prs
  by_cases c : r = ([], [])
  · rw [if_pos c, if_pos c]; rfl
  · rw [if_neg c, if_neg c]; rfl
theorem prs_len (o : Op) (r : CL.St) (v : Int) : (prs o r v).length ≤ 2 := by
  unfold prs
  by_cases c : r = ([], [])
  · rw [if_pos c]; exact Nat.le_succ 1
  · rw [if_neg c]; exact Nat.le_refl 2
def bestR (s : CL.St) (o : Op) : List Str := ((prs o (gone s o) (V (gone s o))).filter fun q => decide (q.2 = mxV s o)).map (·.1)
section
variable {P : Program} {w : World} {K : PySem.W.Frag} {mg : Str → Option Value} {base : Heap} {f : Addr} {fd : FuncData} {tp cs : Addr}
abbrev R_os := Pu (fun s : CL.St => [.n (strD s)]) (fun s => CL.Ok s) (fun s => .int (V s))
theorem sc_os : FnScope ["strings"] ["strings"] (defScope s_opener_score) := ⟨rfl, rfl, rfl, by decide +kernel, rfl, by decide +kernel, by decide +kernel⟩
theorem ok_os {k : Nat} (Fn : FnP K "opener_score" s_opener_score f fd) (Gs : Go P w K mg base "score_of_opener" k ["strings", "known"] (R_sc P w 12)) : FnOk P w K mg base CX0 (k + 1) f fd ["strings"] (SpG K R_os) := by
  refine fn_okD Fn sc_os (fun κ M W h => ?_) fun cdv A outer s' H E hr nd B0 F0 κ M W hR => ?_
  · obtain ⟨_, rfl, _⟩ := h
    rfl
  · obtain ⟨s, rfl, hs, hW⟩ := hR
    have hs : CL.Ok s := hs
    exact db_cons <| ds_ret <| de_goX 0 1 Gs hr <| da_cons <| nm 0 rfl <| da_cons <| de_ndnew fun p => da_nil ⟨s, s, p, [], rfl, rfl, ⟨hs, hs, Sub.refl s, hs.n⟩, Kn.nil s, fun es' h => ⟨trivial, hW _⟩⟩
abbrev R_bo := Pu (fun s : CL.St => [.n (strD s)]) (fun s => CL.Ok s) (fun s => .tuple ((bestO s).map opD))
theorem sc_bo : FnScope ["strings", "known", "due", "found", "word", "length", "_", "score"] ["strings"] (defScope s_best_openings) := ⟨rfl, rfl, rfl, by decide +kernel, rfl, by decide +kernel, by decide +kernel⟩
theorem ok_bo {k : Nat} (Fn : FnP K "best_openings" s_best_openings f fd) (Gs : Go P w K mg base "score_of_opener" k ["strings", "known"] (R_sc P w 12)) (Gr : Go P w K mg base "replies" k ["strings", "word", "length", "known"] (R_rep P w 12)) (Go_ : Go P w K mg base "openings" k ["strings"] R_op) (g_ma : mg "max" = none) (g_tu : mg "tuple" = none) : FnOk P w K mg base CX0 (k + 1) f fd ["strings"] (SpG K R_bo) := by
  refine fn_okD Fn sc_bo (fun κ M W h => ?_) fun cdv A outer s' H E hr nd B0 F0 κ M W hR => ?_
  · obtain ⟨_, rfl, _⟩ := h
    rfl
  · obtain ⟨s, rfl, hs, hW⟩ := hR
    have hs : CL.Ok s := hs
    have hsn := hs.n
    have hW : ∀ M', W (.d (.tuple ((bestO s).map opD))) M' := hW
    have hol := ops_len s
    refine db_cons <| ds_set 1 <| de_ndnew fun p => ?_
    refine db_cons <| ds_set 2 <| de_goX 0 1 Gs hr <| da_cons <| nm 0 rfl <| da_cons <| nm 1 rfl <| da_nil ⟨s, s, p, [], rfl, rfl, ⟨hs, hs, Sub.refl s, hs.n⟩, Kn.nil s, fun es1 hK1 => ⟨trivial, ?_⟩⟩
    refine db_cons <| ds_set 3 <| de_lstC <| da_nil ⟨[], rfl, z0, fun l => ?_⟩
    refine db_cons <| ds_for <| di_list <| de_pu Go_ hr <| da_cons <| nm 0 rfl <| da_nil <| da_pu s rfl hs ⟨_, rfl, fun i M' ρ' => ∃ es' s4 s5, Kn s es' ∧ M' = (l, .lst ((((ops s).take i).filter fun o => decide (-mx (tk o (gone s o) (V (gone s o))) = V s)).map opD)) :: (p, .dn (NDic P w p) es') :: M ∧ ρ' = [.n (strD s), .v (.ref p), .d (.int (V s)), .v (.ref l), s4, s5, .un, .un], ⟨es1, _, _, hK1, rfl, rfl⟩, fun _ _ _ _ => trivial, ?_, ?_⟩
    · rintro i d M' ρ' hd ⟨es', s4, s5, hK', rfl, rfl⟩
      obtain ⟨o, ho, rfl⟩ := map_get hd
      have hi := (List.getElem?_eq_some_iff.mp ho).1
      have hh := (ops_has hs).mp (List.mem_of_getElem? ho)
      obtain ⟨r1, r2, r3⟩ := rep_len o (gone s o) (V (gone s o))
      have he : (((ops s).take (i + 1)).filter fun o => decide (-mx (tk o (gone s o) (V (gone s o))) = V s)) = (((ops s).take i).filter fun o => decide (-mx (tk o (gone s o) (V (gone s o))) = V s)) ++ (if decide (-mx (tk o (gone s o) (V (gone s o))) = V s) = true then [o] else []) := by
        rw [take_get ho, List.filter_append, filter_one]
      refine dg_tup rfl <| dgs_cons <| dg_name 4 <| dgs_cons <| dg_name 5 <| dgs_nil ?_
      refine db_cons <| ds_if <| dt_cmp op_eq <| de_unop un_neg <| de_maxL g_ma <| de_freeze <| de_lc2C 6 7 (by decide) <| di_list <| de_goX 1 1 Gr hr <| da_cons <| nm 0 rfl <| da_cons <| nm 4 rfl <| da_cons <| nm 5 rfl <| da_cons <| nm 1 rfl <| da_nil ⟨s, o, s, p, es', rfl, rfl, ⟨hs, hs, Sub.refl s, by omega, hh⟩, hK', fun es2 hK2 => ⟨trivial, _, rfl, fun D => ⟨fun n acc M1 => M1 = (l, .lst ((((ops s).take i).filter fun o => decide (-mx (tk o (gone s o) (V (gone s o))) = V s)).map opD)) :: (p, .dn (NDic P w p) es2) :: M ∧ acc = ((tk o (gone s o) (V (gone s o))).take n).map PyData.int, ⟨rfl, rfl⟩, fun _ _ _ _ => trivial, ?_, ?_⟩⟩⟩
      · rintro n d acc M hd2 ⟨rfl, rfl⟩
        obtain ⟨nm_, x, rfl, hx⟩ := rep_at hd2
        refine ⟨_, _, rfl, fun b => nm 7 rfl ⟨_, _, rfl, rfl, ?_, rfl, ?_⟩⟩
        · rw [List.length_map, List.length_take]; omega
        · rw [take_get hx, List.map_append]; rfl
      · rintro acc M1 ⟨rfl, rfl⟩
        rw [r1, List.take_length]
        refine ⟨D, _, _, rfl, rfl, tk o (gone s o) (V (gone s o)), .lst _, by omega, fun mm h1 h2 => r1_U (fun _ => .int _) <| nm 2 rfl <| r2_teq ?_⟩
        rw [show mm = mx (tk o (gone s o) (V (gone s o))) from mx_eq h1 h2]
        refine ways (fun z => ?_) (fun z => ?_)
        · rw [if_pos z] at he
          refine db_cons <| ds_expr <| de_append 0 <| nm 3 rfl ⟨l, _, rfl, List.mem_cons_self, de_tup <| da_cons <| nm 4 rfl <| da_cons <| nm 5 rfl <| da_nil ⟨[_, _], rfl, z2, _, _, rfl, rfl, ?_, db_nil <| db_nil ⟨es2, _, _, hK2, ?_, rfl⟩⟩⟩
          · rw [List.length_map]
            refine Nat.lt_of_le_of_lt (List.length_filter_le _ _) ?_
            rw [List.length_take]
            omega
          · rw [he, List.map_append]
            rfl
        · rw [if_neg (by rw [z]; decide), List.append_nil] at he
          exact db_nil <| db_nil ⟨es2, _, _, hK2, by rw [he], rfl⟩
    · rintro M' ρ' ⟨es', s4, s5, hK', rfl, rfl⟩
      rw [List.length_map, List.take_length]
      exact db_cons <| ds_ret <| de_tupleOf g_tu <| nm 3 rfl ⟨_, .cell List.mem_cons_self, hW _⟩
abbrev R_br := Pu (fun a : CL.St × Op => [.n (strD a.1), .d (.str (wD a.2.1)), .d (.int (a.2.2 : Nat))]) (fun a => CL.Ok a.1 ∧ Has a.1 a.2) (fun a => .tuple ((bestR a.1 a.2).map PyData.str))
theorem sc_br : FnScope ["strings", "word", "length", "pairs", "most", "_", "score", "name"] ["strings", "word", "length"] (defScope s_best_replies) := ⟨rfl, rfl, rfl, by decide +kernel, rfl, by decide +kernel, by decide +kernel⟩
theorem ok_br {k : Nat} (Fn : FnP K "best_replies" s_best_replies f fd) (Gr : Go P w K mg base "replies" k ["strings", "word", "length", "known"] (R_rep P w 12)) (g_ma : mg "max" = none) (g_tu : mg "tuple" = none) : FnOk P w K mg base CX0 (k + 1) f fd ["strings", "word", "length"] (SpG K R_br) := by
  refine fn_okD Fn sc_br (fun κ M W h => ?_) fun cdv A outer s' H E hr nd B0 F0 κ M W hR => ?_
  · obtain ⟨_, rfl, _⟩ := h
    rfl
  · obtain ⟨⟨s, o⟩, hκ, ⟨hs, hh⟩, hW⟩ := hR
    have hκ : κ = [.n (strD s), .d (.str (wD o.1)), .d (.int (o.2 : Nat))] := hκ
    subst hκ
    have hs : CL.Ok s := hs
    have hh : Has s o := hh
    have hsn := hs.n
    have hW : ∀ M', W (.d (.tuple ((bestR s o).map PyData.str))) M' := hW
    have hpl := prs_len o (gone s o) (V (gone s o))
    refine db_cons <| ds_set 3 <| de_goX 0 1 Gr hr <| da_cons <| nm 0 rfl <| da_cons <| nm 1 rfl <| da_cons <| nm 2 rfl <| da_cons <| de_ndnew fun p => da_nil ⟨s, o, s, p, [], rfl, rfl, ⟨hs, hs, Sub.refl s, by omega, hh⟩, Kn.nil s, fun es1 hK1 => ⟨trivial, ?_⟩⟩
    rw [repD_eq]
    generalize hM : ([(p, MC.dn (NDic P w p) es1)] ++ List.drop 1 (List.drop 0 ((p, MC.dn (NDic P w p) []) :: M)) : Cs) = M1
    refine db_cons <| ds_set 4 <| de_maxL g_ma <| de_freeze <| de_lc2C 5 6 (by decide) <| di_list <| nm 3 rfl ⟨_, rfl, fun D => ⟨fun n acc M2 => M2 = M1 ∧ acc = (((prs o (gone s o) (V (gone s o))).take n).map (·.2)).map PyData.int, ⟨by rw [← hM]; rfl, rfl⟩, fun _ _ _ _ => trivial, ?_, ?_⟩⟩
    · rintro n d acc M2 hd2 ⟨rfl, rfl⟩
      obtain ⟨q, hq, rfl⟩ := map_get hd2
      refine ⟨_, _, rfl, fun b => nm 6 rfl ⟨_, _, rfl, rfl, ?_, rfl, ?_⟩⟩
      · rw [List.length_map, List.length_map, List.length_take]; omega
      · rw [take_get hq, List.map_append, List.map_append]; rfl
    · rintro acc M2 ⟨rfl, rfl⟩
      rw [List.length_map, List.take_length, ← tk_eq]
      refine ⟨D, _, _, rfl, rfl, tk o (gone s o) (V (gone s o)), .lst _, (rep_len o (gone s o) (V (gone s o))).2.2, fun mm h1 h2 => ?_⟩
      rw [show mm = mxV s o from mx_eq h1 h2]
      refine db_cons <| ds_ret <| de_tupleOf g_tu <| de_lc2IfC 7 6 (by decide) <| di_list <| nm 3 rfl ⟨_, rfl, fun D => ⟨fun n acc M3 => M3 = M2 ∧ acc = (((prs o (gone s o) (V (gone s o))).take n).filter fun q => decide (q.2 = mxV s o)).map fun q => PyData.str q.1, ⟨rfl, rfl⟩, fun _ _ _ _ => trivial, ?_, ?_⟩⟩
      · rintro n d acc M3 hd2 ⟨rfl, rfl⟩
        obtain ⟨q, hq, rfl⟩ := map_get hd2
        have he : (((prs o (gone s o) (V (gone s o))).take (n + 1)).filter fun q => decide (q.2 = mxV s o)) = (((prs o (gone s o) (V (gone s o))).take n).filter fun q => decide (q.2 = mxV s o)) ++ (if decide (q.2 = mxV s o) = true then [q] else []) := by
          rw [take_get hq, List.filter_append, filter_one]
        refine ⟨_, _, rfl, fun b => dt_cmp op_eq <| nm 6 rfl <| nm 4 rfl <| r2_teq ⟨fun z b => nm 7 rfl ⟨_, _, rfl, rfl, ?_, rfl, ?_⟩, fun z => ⟨_, rfl, rfl, ?_⟩⟩⟩
        · rw [List.length_map]
          refine Nat.lt_of_le_of_lt (List.length_filter_le _ _) ?_
          rw [List.length_take]
          omega
        · rw [he, if_pos z, List.map_append]; rfl
        · rw [he, if_neg (by rw [z]; decide), List.append_nil]
      · rintro acc M3 ⟨rfl, rfl⟩
        rw [List.length_map, List.take_length]
        refine ⟨_, .cell List.mem_cons_self, ?_⟩
        have := hW ((D, .lst (((prs o (gone s o) (V (gone s o))).filter fun q => decide (q.2 = mxV s o)).map fun q => PyData.str q.1)) :: M3)
        unfold bestR at this
        rw [List.map_map] at this
        exact this
/-! ### drawn strings -/
def R_dr (tp cs : Addr) : List Sl → Cs → (Sl → Cs → Prop) → Prop := fun κ M W => ∃ many : Nat, κ = [.v (.ref tp), .d (.int (many : Nat)), .d (.int 3)] ∧ Tape tp cs M ∧ many ≤ 8 ∧ ∀ s M', CL.Ok s → Tape tp cs M' → W (.n (strD s)) M'
theorem sc_dr : FnScope ["tape", "many", "least", "chains", "loops", "k"] ["tape", "many", "least"] (defScope s__law_drawn) := ⟨rfl, rfl, rfl, by decide +kernel, rfl, by decide +kernel, by decide +kernel⟩
theorem nat_flat {T : List Nat} : ∀ d ∈ natL T, ∃ w, flatD d = some w := fun d hd => by
  obtain ⟨q, _, rfl⟩ := nat_mem hd
  exact ⟨_, rfl⟩
theorem ok_dr {k : Nat} (Fn : FnP K "_law_drawn" s__law_drawn f fd) (Gd : Go P w K mg base "_law_take" k ["tape", "many"] (R_take tp cs)) (g_ra : mg "range" = none) (g_le : mg "len" = none) (g_tu : mg "tuple" = none) (g_so : mg "sorted" = none) : FnOk P w K mg base CX0 (k + 1) f fd ["tape", "many", "least"] (SpG K (R_dr tp cs)) := by
  refine fn_okD Fn sc_dr (fun κ M W h => ?_) fun cdv A outer s' H E hr nd B0 F0 κ M W hR => ?_
  · obtain ⟨_, rfl, _⟩ := h
    rfl
  · obtain ⟨many, rfl, hb, hm, hW⟩ := hR
    refine db_cons <| ds_cmp 3 <| gu_lcC 5 <| di_range1 g_ra <| da_cons <| de_goJ 0 Gd hr <| da_cons <| nm 0 rfl <| da_cons <| de_op op_add <| nm 1 rfl <| de_int <| r2_i <| da_nil ⟨_, rfl, hb, by omega, small200 (by omega), fun z M1 hz0 hz1 hb1 => ⟨trivial, da_nil ⟨_, rfl, by omega, by omega, fun D => ⟨fun i acc M' => Tape tp cs M' ∧ ∃ ns : List Nat, ns.length = i ∧ (∀ x ∈ ns, 3 ≤ x ∧ x ≤ 40) ∧ acc = natL ns, ⟨hb1, [], rfl, (fun x hx => by cases hx), rfl⟩, fun _ _ _ _ => trivial, ?_, ?_⟩⟩⟩⟩
    · rintro i d acc M' hd ⟨hb', ns, hnl, hns, rfl⟩ b
      obtain ⟨hi, rfl⟩ := rngD_get hd
      refine de_op op_add <| nm 2 rfl <| de_goJ 1 Gd hr <| da_cons <| nm 0 rfl <| da_cons <| de_ix ix_seq <| de_lst <| da_cons <| de_int <| da_cons <| de_op op_sub <| de_int <| nm 2 rfl <| r2_i <| da_nil ⟨[_, _], rfl, z2, de_goJ 1 Gd hr <| da_cons <| nm 0 rfl <| da_cons <| de_int <| da_nil ⟨2, rfl, hb', by decide, by decide, fun y M2 hy0 hy1 hb2 => ⟨trivial, ?_⟩⟩⟩
      obtain ⟨t, hat, ht⟩ := two_at (a := 5) (b := 41 - 3) hy0 hy1
      refine r2_ix (.lst _) hat <| da_nil ⟨t, rfl, hb2, by omega, small200 (by omega), fun x M3 hx0 hx1 hb3 => ⟨trivial, r2_i ⟨_, M3, rfl, rfl, ?_, hb3, ns ++ [(3 + x).toNat], ?_, fun v hv => ?_, ?_⟩⟩⟩
      · rw [natL_len]; omega
      · rw [List.length_append, hnl]; rfl
      · rcases List.mem_append.mp hv with hv | hv
        · exact hns v hv
        · rw [List.mem_singleton.mp hv]; omega
      · rw [natL_app]
        show natL ns ++ [PyData.int (3 + x)] = natL ns ++ [.int (((3 + x).toNat : Nat) : Int)]
        rw [show (((3 + x).toNat : Nat) : Int) = 3 + x by omega]
    · rintro acc M' ⟨hb', ns, hnl, hns, rfl⟩
      rw [rngD_len] at hnl
      have hnm : ns.length ≤ many := by omega
      refine db_cons <| ds_cmp 4 <| gu_lcC 5 <| di_range1 g_ra <| da_cons <| de_goJ 1 Gd hr <| da_cons <| nm 0 rfl <| da_cons <| de_op op_sub <| de_op op_add <| nm 1 rfl <| de_int <| r2_i <| de_len g_le <| nm 3 rfl ⟨_, .cell List.mem_cons_self, r2_i <| da_nil ⟨_, rfl, hb', by rw [natL_len]; omega, small200 (by rw [natL_len]; omega), fun z2_ M2 hz20 hz21 hb2 => ⟨trivial, da_nil ⟨_, rfl, by omega, by rw [natL_len] at hz21; omega, fun D2 => ⟨fun i acc M' => ∃ Mt, Tape tp cs Mt ∧ M' = (D, .lst (natL ns)) :: Mt ∧ ∃ ms : List Nat, ms.length = i ∧ (∀ x ∈ ms, 4 ≤ x ∧ x ≤ 40) ∧ acc = natL ms, ⟨M2, hb2, rfl, [], rfl, (fun x hx => by cases hx), rfl⟩, fun _ _ _ _ => trivial, ?_, ?_⟩⟩⟩⟩⟩
      · rintro i d acc M' hd ⟨Mt, hbt, rfl, ms, hml, hms, rfl⟩ b
        obtain ⟨hi, rfl⟩ := rngD_get hd
        rw [natL_len] at hz21
        refine de_op op_add <| de_int <| de_op op_mul <| de_int <| de_goJ 2 Gd hr <| da_cons <| nm 0 rfl <| da_cons <| de_ix ix_seq <| de_lst <| da_cons <| de_int <| da_cons <| de_int <| da_nil ⟨[_, _], rfl, z2, de_goJ 2 Gd hr <| da_cons <| nm 0 rfl <| da_cons <| de_int <| da_nil ⟨2, rfl, hbt, by decide, by decide, fun y M3 hy0 hy1 hb3 => ⟨trivial, ?_⟩⟩⟩
        obtain ⟨t, hat, ht⟩ := two_at (a := 3) (b := 19) hy0 hy1
        refine r2_ix (.lst _) hat <| da_nil ⟨t, rfl, hb3, by omega, small200 (by omega), fun x M4 hx0 hx1 hb4 => ⟨trivial, r2_c (cmulF _ (by decide)) <| r2_i ⟨_, (D, .lst (natL ns)) :: M4, rfl, rfl, ?_, M4, hb4, rfl, ms ++ [(4 + 2 * x).toNat], ?_, fun v hv => ?_, ?_⟩⟩⟩
        · rw [natL_len]; omega
        · rw [List.length_append, hml]; rfl
        · rcases List.mem_append.mp hv with hv | hv
          · exact hms v hv
          · rw [List.mem_singleton.mp hv]; omega
        · rw [natL_app]
          show natL ms ++ [PyData.int (4 + 2 * x)] = natL ms ++ [.int (((4 + 2 * x).toNat : Nat) : Int)]
          rw [show (((4 + 2 * x).toNat : Nat) : Int) = 4 + 2 * x by omega]
      · rintro acc M' ⟨Mt, hbt, rfl, ms, hml, hms, rfl⟩
        rw [rngD_len] at hml
        rw [natL_len] at hz21
        refine db_cons <| ds_retM 4 <| de_tupN <| da_cons <| de_tupleN g_tu <| de_sortedN hr.units g_so <| nm 3 rfl ⟨ns, .cell (List.mem_cons_of_mem _ List.mem_cons_self), by omega, fun T hp hs l => ⟨natL T, .cell List.mem_cons_self, nat_flat, da_cons <| de_tupleN g_tu <| de_sortedN hr.units g_so <| nm 4 rfl ⟨ms, .cell (List.mem_cons_of_mem _ List.mem_cons_self), by omega, fun T2 hp2 hs2 l2 => ⟨natL T2, .cell List.mem_cons_self, nat_flat, da_nil ⟨[_, _], rfl, z2, ?_⟩⟩⟩⟩⟩
        refine hW (T, T2) Mt ⟨fun x hx => hns x (hp.mem_iff.mp hx), fun x hx => hms x (hp2.mem_iff.mp hx), ?_⟩ hbt
        show T.length + T2.length ≤ 12
        rw [hp.length_eq, hp2.length_eq]
        omega
end
end H83
set_option maxHeartbeats 2000000
namespace H83
open PySem PySem.Spec PyProof.Rows L2 DL CL
abbrev NLw : List Str := ["script", "tape", "turn", "strings", "values", "value", "known", "due", "rows", "word", "length", "whole", "left_over", "most", "words", "long_ones", "count", "k"]
structure EnvL (P : Program) (w : World) (K : PySem.W.Frag) (mg : Str → Option Value) (base : Heap) (k : Nat) : Prop where
  tape : Go P w K mg base "_law_tape" k ["script"] R_tape
  take : ∀ tp cs, Go P w K mg base "_law_take" k ["tape", "many"] (R_take tp cs)
  sp : ∀ tp cs, Go P w K mg base "_law_spoilt" k ["tape", "value"] (R_sp tp cs 2)
  dr : ∀ tp cs, Go P w K mg base "_law_drawn" k ["tape", "many", "least"] (R_dr tp cs)
  same : Go P w K mg base "_law_same" k ["a", "b"] (R_same 3)
  are : Go P w K mg base "are_strings" k ["value"] R_are
  la : Go P w K mg base "_law_are" k ["value"] R_are
  os : Go P w K mg base "opener_score" k ["strings"] R_os
  bo : Go P w K mg base "best_openings" k ["strings"] R_bo
  br : Go P w K mg base "best_replies" k ["strings", "word", "length"] R_br
  lo : Go P w K mg base "_law_opener" k ["strings", "known"] (R_sc P w 12)
  lt : Go P w K mg base "_law_taker" k ["strings", "word", "length", "known"] (R_lt P w 12)
  lu : Go P w K mg base "_law_unlike" k ["strings"] R_op
  ra : mg "range" = none
  tu : mg "tuple" = none
  le : mg "len" = none
  su : mg "sum" = none
  ma : mg "max" = none
  so : mg "sorted" = none
theorem sm2_none : Sm2 .none := ⟨fun _ e => (by cases e), fun _ e => (by cases e)⟩
theorem sm2_one {a : List PyData} (ha : a.length ≤ 1000) : Sm2 (.tuple [.tuple a]) := ⟨sm_tup (by show 1 ≤ 1000; decide), fun ds e x hx => by
  cases e
  rw [List.mem_singleton.mp hx]
  exact sm_tup ha⟩
theorem sm2_two {a b : List PyData} (ha : a.length ≤ 1000) (hb : b.length ≤ 1000) : Sm2 (.tuple [.tuple a, .tuple b]) := ⟨sm_tup (by show 2 ≤ 1000; decide), fun ds e x hx => by
  cases e
  rcases List.mem_cons.mp hx with rfl | hx
  · exact sm_tup ha
  · rw [List.mem_singleton.mp hx]
    exact sm_tup hb⟩
theorem gx_sm2 {d : PyData} (h : GX d) : Sm2 d := ⟨gx_len h, fun ds e x hx => by
  subst e
  obtain ⟨k, h⟩ := h
  obtain ⟨_, m', _, h2⟩ := h.tup
  exact gx_len ⟨m', h2 x hx⟩⟩
theorem iv_str {s : CL.St} (h : CL.Ok s) : IV 2 (strD s) := by
  have hn := h.n
  unfold CL.size at hn
  have one : ∀ ns : List Nat, ns.length ≤ 400 → (∀ x ∈ ns, x ≤ 40) → IV 1 (.tuple (natL ns)) := fun ns h1 h2 => ⟨by rw [natL_len]; exact h1, fun d hd => by
    obtain ⟨q, hq, rfl⟩ := nat_mem hd
    have := h2 q hq
    show -1000 ≤ (q : Int) ∧ (q : Int) ≤ 1000
    omega⟩
  refine ⟨by show 2 ≤ 400; decide, fun d hd => ?_⟩
  rcases List.mem_cons.mp hd with rfl | hd
  · exact one _ (by omega) fun x hx => (h.a x hx).2
  · rw [List.mem_singleton.mp hd]
    exact one _ (by omega) fun x hx => (h.b x hx).2
section
variable {P : Program} {w : World} {K : PySem.W.Frag} {mg : Str → Option Value} {base : Heap} {f : Addr} {fd : FuncData}
theorem sc_law : FnScope NLw ["script"] (defScope s_law) := ⟨rfl, rfl, rfl, by decide +kernel, rfl, by decide +kernel, by decide +kernel⟩
abbrev LX (P : Program) (w : World) (K : PySem.W.Frag) (mg : Str → Option Value) (base : Heap) (f : Addr) (cdv : Value) (A : Around) (outer : List Env) (s : Shared) (H : Hp) (E : XK) : Cx := (cxOf CX0 P w K mg base NLw "law" (defScope s_law) f cdv A outer s H E).nox
variable {cdv : Value} {A : Around} {outer : List Env} {sh : Shared} {H : Hp} {E : XK} {k : Nat} {B0 F0 : Hp} {tp cs p : Addr}
abbrev loopBody : List Stmt := match (defBody s_law).getD 1 (.Pass ⟨0, 0, 0, 0⟩) with
  | .For _ _ b _ _ => b
  | _ => []
def vals (s : CL.St) : List PyData := [strD s, .tuple [.tuple (natL s.2), .tuple (natL s.1)], .tuple [.tuple (natL s.1)], .tuple [.tuple (List.replicate 12 [PyData.int 3]).flatten, .tuple []], .tuple [.tuple (List.replicate 12 [PyData.int 3]).flatten, .tuple [.int 4]], .tuple [.tuple [.int 2], .tuple []], .tuple [.tuple [], .tuple [.int 5]], .tuple [.tuple [.int 41], .tuple []], .tuple [.tuple [.int 5, .int 4], .tuple []], .tuple [.tuple [.int 3, .bool true], .tuple []], .none]
theorem vals_sm {s : CL.St} (hs : CL.Ok s) : ∀ d ∈ vals s, Sm2 d := fun d hd => by
  have hn := hs.n
  unfold CL.size at hn
  have h1 : (natL s.1).length ≤ 1000 := by rw [natL_len]; omega
  have h2 : (natL s.2).length ≤ 1000 := by rw [natL_len]; omega
  unfold vals at hd
  simp only [List.mem_cons, List.not_mem_nil, or_false] at hd
  rcases hd with rfl | rfl | rfl | rfl | rfl | rfl | rfl | rfl | rfl | rfl | rfl
  · exact sm2_two h1 h2
  · exact sm2_two h2 h1
  · exact sm2_one h1
  · exact sm2_two (by decide) (by decide)
  · exact sm2_two (by decide) (by decide)
  · exact sm2_two (by decide) (by decide)
  · exact sm2_two (by decide) (by decide)
  · exact sm2_two (by decide) (by decide)
  · exact sm2_two (by decide) (by decide)
  · exact sm2_two (by decide) (by decide)
  · exact sm2_none
/-- the strings, the values -/
theorem w_vals (V : EnvL P w K mg base k) (hr : Room k (LX P w K mg base f cdv A outer sh H E).A) (nd : NLw.Nodup) {M : Cs} {κ : List Sl} {kk : KK} {ss : List Stmt} {s0 s2 s3 s4 s5 s6 s7 s8 s9 s10 s11 s12 s13 s14 s15 s16 : Sl} (hb : Tape tp cs M)
    (h : ∀ s M', CL.Ok s → Tape tp cs M' → DB (LX P w K mg base f cdv A outer sh H E) B0 F0 M' [s0, .v (.ref tp), s2, .n (strD s), .d (.list (vals s)), s5, s6, s7, s8, s9, s10, s11, s12, s13, s14, s15, s16, .un] κ ss kk) :
    DB (LX P w K mg base f cdv A outer sh H E) B0 F0 M [s0, .v (.ref tp), s2, s3, s4, s5, s6, s7, s8, s9, s10, s11, s12, s13, s14, s15, s16, .un] κ ((loopBody.drop 0).take 2 ++ ss) kk := by
  refine db_cons <| ds_set 3 <| de_goJ 0 (V.dr tp cs) hr <| da_cons <| nm 1 rfl <| da_cons <| de_ix ix_seq <| de_lst <| da_cons <| de_int <| da_cons <| de_int <| da_nil ⟨[_, _], rfl, z2, de_goJ 0 (V.take tp cs) hr <| da_cons <| nm 1 rfl <| da_cons <| de_int <| da_nil ⟨2, rfl, hb, by decide, by decide, fun z M1 hz0 hz1 hb1 => ⟨trivial, ?_⟩⟩⟩
  obtain ⟨t, hat, ht⟩ := two_at (a := 4) (b := 8) hz0 hz1
  obtain ⟨m, rfl, hm⟩ : ∃ m : Nat, t = (m : Int) ∧ m ≤ 8 := ⟨t.toNat, by omega, by omega⟩
  refine r2_ix (.lst _) hat <| da_cons <| de_int <| da_nil ⟨m, rfl, hb1, hm, fun s M2 hs hb2 => ⟨trivial, ?_⟩⟩
  have := h s M2 hs hb2
  obtain ⟨vs, hv⟩ : ∃ vs, vs = vals s := ⟨_, rfl⟩
  rw [← hv] at this
  refine db_cons ?_
  refine ds_set 4 ?_
  refine de_lst ?_
  refine da_cons ?_
  refine nmD 3 rfl ?_
  refine da_cons ?_
  refine de_revT ?_
  refine nmD 3 rfl ?_
  refine ⟨[.tuple (natL s.1), .tuple (natL s.2)], rfl, ?_⟩
  refine do_some ?_
  refine de_unop un_neg ?_
  refine de_int ?_
  refine r1_U (fun _ => .int _) ⟨_, rfl, rfl, ?_⟩
  refine da_cons ?_
  refine de_tup ?_
  refine da_cons ?_
  refine de_ix ix_seq ?_
  refine nmD 3 rfl ?_
  refine de_int ?_
  refine r2_ix (.tup _) at0 ?_
  refine da_nil ⟨[_], rfl, z1, ?_⟩
  refine da_cons ?_
  refine de_tup ?_
  refine da_cons ?_
  refine de_op op_repT ?_
  refine de_tup ?_
  refine da_cons ?_
  refine de_int ?_
  refine da_nil ⟨[_], rfl, z1, ?_⟩
  refine de_int ?_
  refine r2_repT (by simp) (by decide) (by decide) (by decide) ?_
  refine da_cons ?_
  refine de_tup ?_
  refine da_nil ⟨[], rfl, z0, ?_⟩
  refine da_nil ⟨[_, _], rfl, z2, ?_⟩
  refine da_cons ?_
  refine de_tup ?_
  refine da_cons ?_
  refine de_op op_repT ?_
  refine de_tup ?_
  refine da_cons ?_
  refine de_int ?_
  refine da_nil ⟨[_], rfl, z1, ?_⟩
  refine de_int ?_
  refine r2_repT (by simp) (by decide) (by decide) (by decide) ?_
  refine da_cons ?_
  refine de_tup ?_
  refine da_cons ?_
  refine de_int ?_
  refine da_nil ⟨[_], rfl, z1, ?_⟩
  refine da_nil ⟨[_, _], rfl, z2, ?_⟩
  refine da_cons ?_
  refine de_tup ?_
  refine da_cons ?_
  refine de_tup ?_
  refine da_cons ?_
  refine de_int ?_
  refine da_nil ⟨[_], rfl, z1, ?_⟩
  refine da_cons ?_
  refine de_tup ?_
  refine da_nil ⟨[], rfl, z0, ?_⟩
  refine da_nil ⟨[_, _], rfl, z2, ?_⟩
  refine da_cons ?_
  refine de_tup ?_
  refine da_cons ?_
  refine de_tup ?_
  refine da_nil ⟨[], rfl, z0, ?_⟩
  refine da_cons ?_
  refine de_tup ?_
  refine da_cons ?_
  refine de_int ?_
  refine da_nil ⟨[_], rfl, z1, ?_⟩
  refine da_nil ⟨[_, _], rfl, z2, ?_⟩
  refine da_cons ?_
  refine de_tup ?_
  refine da_cons ?_
  refine de_tup ?_
  refine da_cons ?_
  refine de_int ?_
  refine da_nil ⟨[_], rfl, z1, ?_⟩
  refine da_cons ?_
  refine de_tup ?_
  refine da_nil ⟨[], rfl, z0, ?_⟩
  refine da_nil ⟨[_, _], rfl, z2, ?_⟩
  refine da_cons ?_
  refine de_tup ?_
  refine da_cons ?_
  refine de_tup ?_
  refine da_cons ?_
  refine de_int ?_
  refine da_cons ?_
  refine de_int ?_
  refine da_nil ⟨[_, _], rfl, z2, ?_⟩
  refine da_cons ?_
  refine de_tup ?_
  refine da_nil ⟨[], rfl, z0, ?_⟩
  refine da_nil ⟨[_, _], rfl, z2, ?_⟩
  refine da_cons ?_
  refine de_tup ?_
  refine da_cons ?_
  refine de_tup ?_
  refine da_cons ?_
  refine de_int ?_
  refine da_cons ?_
  refine de_bl ?_
  refine da_nil ⟨[_, _], rfl, z2, ?_⟩
  refine da_cons ?_
  refine de_tup ?_
  refine da_nil ⟨[], rfl, z0, ?_⟩
  refine da_nil ⟨[_, _], rfl, z2, ?_⟩
  refine da_cons ?_
  refine de_non ?_
  refine da_nil ?_
  exact ⟨vs, by rw [hv]; rfl, by rw [hv]; show 11 ≤ 100000; decide, this⟩
end
end H83
set_option maxHeartbeats 2000000
namespace H83
open PySem PySem.Spec PyProof.Rows L2 DL CL
section
variable {P : Program} {w : World} {K : PySem.W.Frag} {mg : Str → Option Value} {base : Heap} {f : Addr} {fd : FuncData}
variable {cdv : Value} {A : Around} {outer : List Env} {sh : Shared} {H : Hp} {E : XK} {k : Nat} {B0 F0 : Hp} {tp cs p : Addr}
/-- what is a value, what is none -/
theorem w_are (V : EnvL P w K mg base k) (hr : Room k (LX P w K mg base f cdv A outer sh H E).A) (nd : NLw.Nodup) {M : Cs} {κ : List Sl} {kk : KK} {ss : List Stmt} {s : CL.St} {s0 s2 s5 s6 s7 s8 s9 s10 s11 s12 s13 s14 s15 s16 : Sl} (hs : CL.Ok s) (hb : Tape tp cs M)
    (h : ∀ s5 M', Tape tp cs M' → DB (LX P w K mg base f cdv A outer sh H E) B0 F0 M' [s0, .v (.ref tp), s2, .n (strD s), .d (.list (vals s)), s5, s6, s7, s8, s9, s10, s11, s12, s13, s14, s15, s16, .un] κ ss kk) :
    DB (LX P w K mg base f cdv A outer sh H E) B0 F0 M [s0, .v (.ref tp), s2, .n (strD s), .d (.list (vals s)), s5, s6, s7, s8, s9, s10, s11, s12, s13, s14, s15, s16, .un] κ ((loopBody.drop 2).take 1 ++ ss) kk := by
  have hiv := iv_str hs
  have hvs := vals_sm hs
  have hvl : (vals s).length = 11 := rfl
  generalize vals s = vs at *
  refine db_cons <| ds_for <| di_list <| de_freeze <| de_op op_cat <| nm 4 rfl <| de_freeze <| de_lcC 17 <| di_range1 V.ra <| da_cons <| de_int <| da_nil ⟨4, rfl, by decide, by decide, fun D => ⟨fun i acc M' => Tape tp cs M' ∧ acc.length = i ∧ ∀ d ∈ acc, GX d, ⟨hb, rfl, fun d h => (by cases h)⟩, fun _ _ _ _ => trivial, ?_, ?_⟩⟩
  · rintro i d acc M' hd ⟨hb', hl, ha⟩ b
    obtain ⟨hi, rfl⟩ := rngD_get hd
    refine de_goJ 1 (V.sp tp cs) hr <| da_cons <| nm 1 rfl <| da_cons <| nmD 3 rfl <| da_nil ⟨_, rfl, hb', hiv, fun d' M2 hd' hb2 => ⟨trivial, _, M2, rfl, rfl, by omega, hb2, by rw [List.length_append, hl]; rfl, fun d h => ?_⟩⟩
    rcases List.mem_append.mp h with h | h
    · exact ha d h
    · rw [List.mem_singleton.mp h]; exact hd'
  · rintro acc M' ⟨hb', hl, ha⟩
    rw [rngD_len] at hl
    refine ⟨D, _, _, rfl, rfl, r2_catC (.lst _) (.lst _) (by rw [hvl, hl]; decide) fun l => ⟨l, _, _, rfl, rfl, _, rfl, fun i M1 ρ' => ∃ s5, M1 = M' ∧ ρ' = [s0, .v (.ref tp), s2, .n (strD s), .d (.list vs), s5, s6, s7, s8, s9, s10, s11, s12, s13, s14, s15, s16, .un], ⟨_, rfl, rfl⟩, fun _ _ _ _ => trivial, ?_, ?_⟩⟩
    · rintro i d M1 ρ' hd ⟨s5, rfl, rfl⟩
      have hd := List.mem_of_getElem? hd
      have hx : Sm2 d := (List.mem_append.mp hd).elim (hvs d) fun h => gx_sm2 (ha d h)
      exact dg_name 5 <| db_cons <| ds_if <| dt_not <| dt_val <| de_pu V.same hr <| da_cons <| de_pu V.are hr <| da_cons <| nm 5 rfl <| da_nil <| da_pu d rfl hx <| da_cons <| de_pu V.la hr <| da_cons <| nm 5 rfl <| da_nil <| da_pu d rfl hx <| da_nil <| da_pu (.bool (areB d)) rfl (same_bool 3 _) ⟨true, rfl, waysF rfl <| db_nil <| db_nil ⟨_, rfl, rfl⟩⟩
    · rintro M1 ρ' ⟨s5, rfl, rfl⟩
      exact h _ _ hb'
/-- the score -/
theorem w_due (V : EnvL P w K mg base k) (hr : Room k (LX P w K mg base f cdv A outer sh H E).A) (nd : NLw.Nodup) {M : Cs} {κ : List Sl} {kk : KK} {ss : List Stmt} {s : CL.St} {s0 s2 s4 s5 s6 s7 s8 s9 s10 s11 s12 s13 s14 s15 s16 : Sl} (hs : CL.Ok s)
    (h : ∀ p es, Kn s es → DB (LX P w K mg base f cdv A outer sh H E) B0 F0 ((p, .dn (NDic P w p) es) :: M) [s0, .v (.ref tp), s2, .n (strD s), s4, s5, .v (.ref p), .d (.int (CL.V s)), s8, s9, s10, s11, s12, s13, s14, s15, s16, .un] κ ss kk) :
    DB (LX P w K mg base f cdv A outer sh H E) B0 F0 M [s0, .v (.ref tp), s2, .n (strD s), s4, s5, s6, s7, s8, s9, s10, s11, s12, s13, s14, s15, s16, .un] κ ((loopBody.drop 3).take 3 ++ ss) kk := by
  have hn := hs.n
  have hsz := hn
  unfold CL.size at hsz
  obtain ⟨l1, l2⟩ := V_law _ (s := s) rfl hs
  refine db_cons <| ds_set 6 <| de_ndnew fun p => ?_
  refine db_cons <| ds_set 7 <| de_goX 0 1 V.lo hr <| da_cons <| nm 3 rfl <| da_cons <| nm 6 rfl <| da_nil ⟨s, s, p, [], rfl, rfl, ⟨hs, hs, Sub.refl s, hs.n⟩, Kn.nil s, fun es1 hK1 => ⟨trivial, ?_⟩⟩
  have h := h p es1 hK1
  have sumOk : natL s.1 ++ natL s.2 = ((s.1 ++ s.2).map fun i : Nat => (i : Int)).map PyData.int := by
    rw [← natL_app]
    exact natL_iL _
  have sumE : (((s.1 ++ s.2).map fun i : Nat => (i : Int)).sum : Int) = (CL.sm s : Int) := by
    unfold CL.sm
    rw [List.map_append, List.sum_append]
    have one : ∀ l : List Nat, (l.map fun i : Nat => (i : Int)).sum = ((l.sum : Nat) : Int) := fun l => by
      induction l with
      | nil => rfl
      | cons a l ih => rw [List.map_cons, List.sum_cons, ih, List.sum_cons]; omega
    rw [one, one]
    omega
  refine db_cons <| ds_if <| dt_w <| dw_or <| dt_not <| dt_val <| de_pu V.same hr <| da_cons <| de_pu V.os hr <| da_cons <| nm 3 rfl <| da_nil <| da_pu s rfl hs <| da_cons <| nm 7 rfl <| da_nil <| da_pu (.int (CL.V s)) rfl (same_int 3 _) ⟨true, rfl, fun _ => ?_, fun z => (by cases z)⟩
  refine dw_or <| dt_cmp op_gt <| nm 7 rfl <| de_int <| r2_t ?_
  rw [show decide (CL.V s > 0) = false from decide_eq_false (by omega)]
  refine ⟨fun _ => ?_, fun z => (by cases z)⟩
  refine dw_or1 <| dt_cmp op_ne <| de_op op_mul <| de_op op_fdiv <| de_op op_sub <| de_sumT V.su <| de_op op_catA <| de_ix ix_seq <| nmD 3 rfl <| de_int <| r2_ix (.tup _) at0 <| de_ix ix_seq <| nmD 3 rfl <| de_int <| r2_ix (.tup _) at1 <| r2_catT (by rw [natL_len, natL_len]; omega) ⟨_, congrArg (fun x => Sl.d (.tuple x)) sumOk, ?_⟩
  rw [sumE]
  refine nm 7 rfl <| r2_i <| de_int <| r2_c ⟨by decide, by decide⟩ <| de_int <| r2_c (cmulL _ (by decide)) <| de_op op_sub <| de_sumT V.su <| de_op op_catA <| de_ix ix_seq <| nmD 3 rfl <| de_int <| r2_ix (.tup _) at0 <| de_ix ix_seq <| nmD 3 rfl <| de_int <| r2_ix (.tup _) at1 <| r2_catT (by rw [natL_len, natL_len]; omega) ⟨_, congrArg (fun x => Sl.d (.tuple x)) sumOk, ?_⟩
  rw [sumE]
  refine nm 7 rfl <| r2_i <| r2_tne ?_
  rw [show ((CL.sm s : Int) - CL.V s) / 2 * 2 = (CL.sm s : Int) - CL.V s by omega, decide_eq_true rfl]
  exact waysF rfl <| db_nil h
end
end H83
set_option maxHeartbeats 2000000
namespace H83
open PySem PySem.Spec PyProof.Rows L2 DL CL
theorem bestR_one {s : CL.St} {o : Op} (c : gone s o = ([], [])) : mxV s o = (o.2 : Int) ∧ bestR s o = [("all" : Str)] := by
  have h0 : CL.V (gone s o) = 0 := by rw [c]; rfl
  have h1 : mxV s o = (o.2 : Int) := by
    unfold mxV tk
    rw [if_pos c, h0, Int.add_zero]
    rfl
  refine ⟨h1, ?_⟩
  unfold bestR prs
  rw [if_pos c, h0, Int.add_zero, filter_one, h1, decide_eq_true rfl]
  rfl
theorem bestR_two {s : CL.St} {o : Op} (c : ¬ gone s o = ([], [])) : mxV s o = (if (o.2 : Int) - 2 * over o.1 - CL.V (gone s o) > (o.2 : Int) + CL.V (gone s o) then (o.2 : Int) - 2 * over o.1 - CL.V (gone s o) else (o.2 : Int) + CL.V (gone s o)) ∧ bestR s o = (if decide ((o.2 : Int) + CL.V (gone s o) = mxV s o) = true then [("all" : Str)] else []) ++ (if decide ((o.2 : Int) - 2 * over o.1 - CL.V (gone s o) = mxV s o) = true then [("leave" : Str)] else []) := by
  constructor
  · unfold mxV tk
    rw [if_neg c]
    show max ((o.2 : Int) + CL.V (gone s o)) ((o.2 : Int) - 2 * over o.1 - CL.V (gone s o)) = _
    split <;> omega
  · unfold bestR prs
    rw [if_neg c]
    show (List.filter (fun q : Str × Int => decide (q.2 = mxV s o)) [(("all" : Str), (o.2 : Int) + CL.V (gone s o)), (("leave" : Str), (o.2 : Int) - 2 * over o.1 - CL.V (gone s o))]).map (·.1) = _
    have f1 : ∀ (x : Str) (y : Int) (l : List (Str × Int)), List.filter (fun q : Str × Int => decide (q.2 = mxV s o)) ((x, y) :: l) = (if decide (y = mxV s o) = true then [(x, y)] else []) ++ List.filter (fun q : Str × Int => decide (q.2 = mxV s o)) l := fun x y l => by
      rw [List.filter_cons]
      split <;> rfl
    rw [f1, f1, List.filter_nil, List.append_nil, List.map_append]
    by_cases z1 : decide ((o.2 : Int) + CL.V (gone s o) = mxV s o) = true
    · by_cases z2 : decide ((o.2 : Int) - 2 * over o.1 - CL.V (gone s o) = mxV s o) = true
      · rw [if_pos z1, if_pos z2, if_pos z1, if_pos z2]; rfl
      · rw [if_pos z1, if_neg z2, if_pos z1, if_neg z2]; rfl
    · by_cases z2 : decide ((o.2 : Int) - 2 * over o.1 - CL.V (gone s o) = mxV s o) = true
      · rw [if_neg z1, if_pos z2, if_neg z1, if_pos z2]; rfl
      · rw [if_neg z1, if_neg z2, if_neg z1, if_neg z2]; rfl
theorem bestR_len (s : CL.St) (o : Op) : (bestR s o).length ≤ 2 := by
  unfold bestR
  rw [List.length_map]
  exact Nat.le_trans (List.length_filter_le _ _) (prs_len _ _ _)
theorem same_strs {ws : List Str} (h : ws.length ≤ 2) : SameOk 3 (.tuple (ws.map PyData.str)) := ⟨by rw [List.length_map]; omega, fun d hd => by
  obtain ⟨q, _, rfl⟩ := List.mem_map.mp hd
  exact same_str _ _⟩
theorem same_ops {os : List Op} (h : os.length ≤ 120) : SameOk 3 (.tuple (os.map opD)) := ⟨by rw [List.length_map]; omega, fun d hd => by
  obtain ⟨q, _, rfl⟩ := List.mem_map.mp hd
  refine ⟨by show 2 ≤ 100000; decide, fun x hx => ?_⟩
  rcases List.mem_cons.mp hx with rfl | hx
  · exact same_str _ _
  · rw [List.mem_singleton.mp hx]; exact same_int _ _⟩
abbrev best1 (s : CL.St) (o : Op) : Bool := decide (-mx (tk o (gone s o) (CL.V (gone s o))) = CL.V s)
section
variable {P : Program} {w : World} {K : PySem.W.Frag} {mg : Str → Option Value} {base : Heap} {f : Addr} {fd : FuncData}
variable {cdv : Value} {A : Around} {outer : List Env} {sh : Shared} {H : Hp} {E : XK} {k : Nat} {B0 F0 : Hp} {tp cs p l : Addr}
abbrev wordBody : List Stmt := match loopBody.getD 7 (.Pass ⟨0, 0, 0, 0⟩) with
  | .For _ _ b _ _ => b
  | _ => []
/-- rows: a best opening -/
theorem w_row (nd : NLw.Nodup) {M : Cs} {κ : List Sl} {kk : KK} {ss : List Stmt} {s : CL.St} {o : Op} {F : List Op} {mv : Int} {s0 s1 s2 s4 s5 s6 s11 s12 s14 s15 s16 : Sl} (hF : F.length ≤ 120) (hm : mv = mxV s o)
    (h : DB (LX P w K mg base f cdv A outer sh H E) B0 F0 ((l, .lst ((F ++ (if best1 s o = true then [o] else [])).map opD)) :: M) [s0, s1, s2, .n (strD s), s4, s5, s6, .d (.int (CL.V s)), .v (.ref l), .d (.str (wD o.1)), .d (.int (o.2 : Nat)), s11, s12, .d (.int mv), s14, s15, s16, .un] κ ss kk) :
    DB (LX P w K mg base f cdv A outer sh H E) B0 F0 ((l, .lst (F.map opD)) :: M) [s0, s1, s2, .n (strD s), s4, s5, s6, .d (.int (CL.V s)), .v (.ref l), .d (.str (wD o.1)), .d (.int (o.2 : Nat)), s11, s12, .d (.int mv), s14, s15, s16, .un] κ ((wordBody.drop 2).take 1 ++ ss) kk := by
  refine db_cons <| ds_if <| dt_cmp op_eq <| de_op op_sub <| de_int <| nm 13 rfl <| r2_i <| nm 7 rfl <| r2_teq ?_
  rw [Int.zero_sub, show decide (-mv = CL.V s) = best1 s o by rw [hm]; rfl]
  refine ways (fun z => ?_) (fun z => ?_)
  · rw [if_pos (show best1 s o = true from z)] at h
    refine db_cons <| ds_expr <| de_append 0 <| nm 8 rfl ⟨l, _, rfl, List.mem_cons_self, de_tup <| da_cons <| nm 9 rfl <| da_cons <| nm 10 rfl <| da_nil ⟨[_, _], rfl, z2, _, _, rfl, rfl, ?_, db_nil ?_⟩⟩
    · rw [List.length_map]; omega
    · rw [List.map_append] at h
      exact h
  · rw [if_neg (by rw [show best1 s o = false from z]; decide), List.append_nil] at h
    exact db_nil h
/-- one opening: what the taker does -/
theorem w_word (V : EnvL P w K mg base k) (hr : Room k (LX P w K mg base f cdv A outer sh H E).A) (nd : NLw.Nodup) {M : Cs} {κ : List Sl} {kk : KK} {s : CL.St} {o : Op} {F : List Op} {es : List (NestedKey × PyData)} {s0 s1 s2 s4 s5 s11 s12 s13 s14 s15 s16 : Sl} (hs : CL.Ok s) (hh : Has s o) (hF : F.length ≤ 120) (hK : Kn s es)
    (h : ∀ es' s11 s12 s13 s14, Kn s es' → kk.nx ((l, .lst ((F ++ (if best1 s o = true then [o] else [])).map opD)) :: (p, .dn (NDic P w p) es') :: M) [s0, s1, s2, .n (strD s), s4, s5, .v (.ref p), .d (.int (CL.V s)), .v (.ref l), .d (.str (wD o.1)), .d (.int (o.2 : Nat)), s11, s12, s13, s14, s15, s16, .un]) :
    DB (LX P w K mg base f cdv A outer sh H E) B0 F0 ((l, .lst (F.map opD)) :: (p, .dn (NDic P w p) es) :: M) [s0, s1, s2, .n (strD s), s4, s5, .v (.ref p), .d (.int (CL.V s)), .v (.ref l), .d (.str (wD o.1)), .d (.int (o.2 : Nat)), s11, s12, s13, s14, s15, s16, .un] κ wordBody kk := by
  have hn := hs.n
  have fin : ∀ es' s11 s12 s13, Kn s es' → DB (LX P w K mg base f cdv A outer sh H E) B0 F0 ((l, .lst ((F ++ (if best1 s o = true then [o] else [])).map opD)) :: (p, .dn (NDic P w p) es') :: M) [s0, s1, s2, .n (strD s), s4, s5, .v (.ref p), .d (.int (CL.V s)), .v (.ref l), .d (.str (wD o.1)), .d (.int (o.2 : Nat)), s11, s12, s13, .d (.list ((bestR s o).map PyData.str)), s15, s16, .un] κ (wordBody.drop 4) kk := fun es' s11 s12 s13 hK' =>
    db_cons <| ds_if <| dt_not <| dt_val <| de_pu V.same hr <| da_cons <| de_pu V.br hr <| da_cons <| nm 3 rfl <| da_cons <| nm 9 rfl <| da_cons <| nm 10 rfl <| da_nil <| da_pu (s, o) rfl ⟨hs, hh⟩ <| da_cons <| de_tupleOf V.tu <| nm 14 rfl ⟨_, .lst _, da_nil <| da_pu (.tuple ((bestR s o).map PyData.str)) rfl (same_strs (bestR_len s o)) ⟨true, rfl, waysF rfl <| db_nil <| db_nil <| h _ _ _ _ _ hK'⟩⟩
  refine db_cons <| ds_asg <| de_goX 1 1 V.lt hr <| da_cons <| nm 3 rfl <| da_cons <| nm 9 rfl <| da_cons <| nm 10 rfl <| da_cons <| nm 6 rfl <| da_nil ⟨s, o, s, p, es, rfl, rfl, ⟨hs, hs, Sub.refl s, by omega, hh⟩, hK, fun es2 hK2 => ⟨trivial, ?_⟩⟩
  by_cases c : gone s o = ([], [])
  · obtain ⟨h1, h2⟩ := bestR_one c
    rw [show tkP o (gone s o) (CL.V (gone s o)) = [.int (o.2 : Nat), .none] by unfold tkP; rw [if_pos c]]
    refine dg_tup rfl <| dgs_cons <| dg_name 11 <| dgs_cons <| dg_name 12 <| dgs_nil ?_
    refine db_cons <| ds_set 13 <| de_ifexp <| dt_cmp op_isN <| nm 12 rfl <| de_non <| r2_isN ⟨_, rfl, waysT rfl <| nm 11 rfl ?_⟩
    refine w_row (ss := wordBody.drop 3) nd hF h1.symm ?_
    rw [h2] at fin
    refine db_cons <| ds_set 14 <| de_freeze <| de_op op_cat <| de_ifexp <| dt_cmp op_eq <| nm 11 rfl <| nm 13 rfl <| r2_teq <| waysT (decide_eq_true rfl) <| de_lst <| da_cons <| de_str <| da_nil ⟨[_], rfl, z1, ?_⟩
    refine de_ifexp <| dt_cmp (op_eqD hr.units) <| nm 12 rfl <| nm 13 rfl <| r2_eqD rfl rfl ⟨_, rfl, waysF rfl ?_⟩
    refine de_lst ?_
    refine da_nil ⟨[], rfl, z0, ?_⟩
    refine r2_catC (.lst _) (.lst _) (by decide) fun q => ⟨q, _, _, rfl, rfl, ?_⟩
    exact @fin _ _ _ _ hK2
  · obtain ⟨h1, h2⟩ := bestR_two c
    rw [show tkP o (gone s o) (CL.V (gone s o)) = [.int ((o.2 : Int) + CL.V (gone s o)), .int ((o.2 : Int) - 2 * over o.1 - CL.V (gone s o))] by unfold tkP; rw [if_neg c]]
    refine dg_tup rfl <| dgs_cons <| dg_name 11 <| dgs_cons <| dg_name 12 <| dgs_nil ?_
    refine db_cons <| ds_set 13 <| de_ifexp <| dt_cmp op_isN <| nm 12 rfl <| de_non <| r2_isN ⟨_, rfl, waysF rfl <| de_callB (call_max2 rfl) V.ma bt_max <| da_cons <| nm 11 rfl <| da_cons <| nm 12 rfl <| da_nil <| rn_max2 ?_⟩
    generalize (if (o.2 : Int) - 2 * over o.1 - CL.V (gone s o) > (o.2 : Int) + CL.V (gone s o) then (o.2 : Int) - 2 * over o.1 - CL.V (gone s o) else (o.2 : Int) + CL.V (gone s o)) = mv at *
    refine w_row (ss := wordBody.drop 3) nd hF h1.symm ?_
    rw [h1] at h2
    have two : ∀ Wa Wb : List Str, Wa ++ Wb = bestR s o → DB (LX P w K mg base f cdv A outer sh H E) B0 F0 ((l, .lst ((F ++ (if best1 s o = true then [o] else [])).map opD)) :: (p, .dn (NDic P w p) es2) :: M) [s0, s1, s2, .n (strD s), s4, s5, .v (.ref p), .d (.int (CL.V s)), .v (.ref l), .d (.str (wD o.1)), .d (.int (o.2 : Nat)), .d (.int ((o.2 : Int) + CL.V (gone s o))), .d (.int ((o.2 : Int) - 2 * over o.1 - CL.V (gone s o))), .d (.int mv), .d (.list (Wa.map PyData.str ++ Wb.map PyData.str)), s15, s16, .un] κ (wordBody.drop 4) kk := fun Wa Wb e => by
      have := @fin es2 (.d (.int ((o.2 : Int) + CL.V (gone s o)))) (.d (.int ((o.2 : Int) - 2 * over o.1 - CL.V (gone s o)))) (.d (.int mv)) hK2
      rw [← e, show (Wa ++ Wb).map PyData.str = Wa.map PyData.str ++ Wb.map PyData.str from List.map_append] at this
      exact this
    refine db_cons <| ds_set 14 <| de_freeze <| de_op op_cat <| de_ifexp <| dt_cmp op_eq <| nm 11 rfl <| nm 13 rfl <| r2_teq <| ways (fun z1 => ?_) (fun z1 => ?_)
    · rw [if_pos z1] at h2
      refine de_lst <| da_cons <| de_str <| da_nil ⟨[_], rfl, DL.z1, ?_⟩
      refine de_ifexp <| dt_cmp op_eq <| nm 12 rfl <| nm 13 rfl <| r2_teq <| ways (fun z2 => ?_) (fun z2 => ?_)
      · rw [if_pos z2] at h2
        exact de_lst <| da_cons <| de_str <| da_nil ⟨[_], rfl, DL.z1, r2_catC (.lst _) (.lst _) (by decide) fun q => ⟨q, _, _, rfl, rfl, @two _ _ h2.symm⟩⟩
      · rw [if_neg (by rw [z2]; decide)] at h2
        refine de_lst ?_
        refine da_nil ⟨[], rfl, z0, ?_⟩
        exact r2_catC (.lst _) (.lst _) (by decide) fun q => ⟨q, _, _, rfl, rfl, @two _ [] h2.symm⟩
    · rw [if_neg (by rw [z1]; decide)] at h2
      refine de_lst ?_
      refine da_nil ⟨[], rfl, z0, ?_⟩
      refine de_ifexp <| dt_cmp op_eq <| nm 12 rfl <| nm 13 rfl <| r2_teq <| ways (fun z2 => ?_) (fun z2 => ?_)
      · rw [if_pos z2] at h2
        exact de_lst <| da_cons <| de_str <| da_nil ⟨[_], rfl, DL.z1, r2_catC (.lst _) (.lst _) (by decide) fun q => ⟨q, _, _, rfl, rfl, @two [] _ h2.symm⟩⟩
      · rw [if_neg (by rw [z2]; decide)] at h2
        refine de_lst ?_
        refine da_nil ⟨[], rfl, z0, ?_⟩
        exact r2_catC (.lst _) (.lst _) (by decide) fun q => ⟨q, _, _, rfl, rfl, @two [] [] h2.symm⟩
end
end H83
set_option maxHeartbeats 2000000
namespace H83
open PySem PySem.Spec PyProof.Rows L2 DL CL
section
variable {P : Program} {w : World} {K : PySem.W.Frag} {mg : Str → Option Value} {base : Heap} {f : Addr} {fd : FuncData}
variable {cdv : Value} {A : Around} {outer : List Env} {sh : Shared} {H : Hp} {E : XK} {k : Nat} {B0 F0 : Hp} {tp cs p l : Addr}
/-- all openings -/
theorem w_reps (V : EnvL P w K mg base k) (hr : Room k (LX P w K mg base f cdv A outer sh H E).A) (nd : NLw.Nodup) {M : Cs} {κ : List Sl} {kk : KK} {ss : List Stmt} {s : CL.St} {es : List (NestedKey × PyData)} {s0 s1 s2 s4 s5 s8 s9 s10 s11 s12 s13 s14 s15 s16 : Sl} (hs : CL.Ok s) (hK : Kn s es)
    (h : ∀ s8 s9 s10 s11 s12 s13 s14, DB (LX P w K mg base f cdv A outer sh H E) B0 F0 M [s0, s1, s2, .n (strD s), s4, s5, .v (.ref p), .d (.int (CL.V s)), s8, s9, s10, s11, s12, s13, s14, s15, s16, .un] κ ss kk) :
    DB (LX P w K mg base f cdv A outer sh H E) B0 F0 ((p, .dn (NDic P w p) es) :: M) [s0, s1, s2, .n (strD s), s4, s5, .v (.ref p), .d (.int (CL.V s)), s8, s9, s10, s11, s12, s13, s14, s15, s16, .un] κ ((loopBody.drop 6).take 3 ++ ss) kk := by
  have hol := ops_len s
  refine db_cons <| ds_set 8 <| de_lstC <| da_nil ⟨[], rfl, z0, fun l => ?_⟩
  refine db_cons <| ds_for <| di_list <| de_pu V.lu hr <| da_cons <| nm 3 rfl <| da_nil <| da_pu s rfl hs ⟨_, rfl, fun i M' ρ' => ∃ es' s9 s10 s11 s12 s13 s14, Kn s es' ∧ M' = (l, .lst ((((ops s).take i).filter (best1 s)).map opD)) :: (p, .dn (NDic P w p) es') :: M ∧ ρ' = [s0, s1, s2, .n (strD s), s4, s5, .v (.ref p), .d (.int (CL.V s)), .v (.ref l), s9, s10, s11, s12, s13, s14, s15, s16, .un], ⟨es, _, _, _, _, _, _, hK, rfl, rfl⟩, fun _ _ _ _ => trivial, ?_, ?_⟩
  · rintro i d M' ρ' hd ⟨es', s9, s10, s11, s12, s13, s14, hK', rfl, rfl⟩
    obtain ⟨o, ho, rfl⟩ := map_get hd
    have hi := (List.getElem?_eq_some_iff.mp ho).1
    have hh := (ops_has hs).mp (List.mem_of_getElem? ho)
    refine dg_tup rfl <| dgs_cons <| dg_name 9 <| dgs_cons <| dg_name 10 <| dgs_nil ?_
    refine w_word V hr nd hs hh ?_ hK' fun es2 s11 s12 s13 s14 hK2 => ⟨es2, _, _, s11, s12, s13, s14, hK2, ?_, rfl⟩
    · refine Nat.le_trans (List.length_filter_le _ _) ?_
      rw [List.length_take]
      omega
    · rw [take_get ho, List.filter_append, filter_one]
  · rintro M' ρ' ⟨es', s9, s10, s11, s12, s13, s14, hK', rfl, rfl⟩
    rw [List.length_map, List.take_length]
    have hb : (bestO s).length ≤ 120 := Nat.le_trans (List.length_filter_le _ _) hol
    exact db_cons <| ds_if <| dt_not <| dt_val <| de_pu V.same hr <| da_cons <| de_pu V.bo hr <| da_cons <| nm 3 rfl <| da_nil <| da_pu s rfl hs <| da_cons <| de_tupleOf V.tu <| nm 8 rfl ⟨_, .cell List.mem_cons_self, da_nil <| da_pu (.tuple ((bestO s).map opD)) rfl (same_ops hb) ⟨true, rfl, waysF rfl <| db_nil <| db_drop 2 <| h _ _ _ _ _ _ _⟩⟩
theorem sumN : ∀ l : List Nat, (l.map fun i : Nat => (i : Int)).sum = ((l.sum : Nat) : Int)
  | [] => rfl
  | a :: l => by
    rw [List.map_cons, List.sum_cons, sumN l, List.sum_cons]
    omega
/-- long chains -/
theorem w_long (V : EnvL P w K mg base k) (hr : Room k (LX P w K mg base f cdv A outer sh H E).A) (nd : NLw.Nodup) {M : Cs} {κ : List Sl} {kk : KK} {ss : List Stmt} {s0 s2 s3 s4 s5 s6 s7 s8 s9 s10 s11 s12 s13 s14 s15 s16 : Sl} (hb : Tape tp cs M)
    (h : ∀ s15 s16 M', Tape tp cs M' → DB (LX P w K mg base f cdv A outer sh H E) B0 F0 M' [s0, .v (.ref tp), s2, s3, s4, s5, s6, s7, s8, s9, s10, s11, s12, s13, s14, s15, s16, .un] κ ss kk) :
    DB (LX P w K mg base f cdv A outer sh H E) B0 F0 M [s0, .v (.ref tp), s2, s3, s4, s5, s6, s7, s8, s9, s10, s11, s12, s13, s14, s15, s16, .un] κ ((loopBody.drop 9).take 3 ++ ss) kk := by
  have main : ∀ (T : List Nat) M', Tape tp cs M' → (∀ x ∈ T, 4 ≤ x ∧ x ≤ 40) → T.length ≤ 8 → DB (LX P w K mg base f cdv A outer sh H E) B0 F0 M' [s0, .v (.ref tp), s2, s3, s4, s5, s6, s7, s8, s9, s10, s11, s12, s13, s14, .n (strD (T, [])), s16, .un] κ ((loopBody.drop 10).take 2 ++ ss) kk := fun T M' hb' hT hl => by
    have hOk : CL.Ok (T, []) := ⟨fun x hx => by have := hT x hx; omega, fun x hx => (by cases hx), by show T.length + 0 ≤ 12; omega⟩
    have at00 : atI [PyData.tuple (natL T), .tuple (natL [])] 0 = some (.tuple (natL T)) := atI_at (by decide) rfl
    refine db_cons <| ds_set 16 <| de_len V.le <| de_ix ix_seq <| nmD 15 rfl <| de_int <| r2_ix (.tup _) at00 ⟨_, .tup _, ?_⟩
    rw [natL_len]
    refine db_cons <| ds_if <| dt_not <| dt_val <| de_pu V.same hr <| da_cons <| de_pu V.os hr <| da_cons <| nm 15 rfl <| da_nil <| da_pu (T, []) rfl hOk <| da_cons <| de_ifexp <| dt_cmp op_gt <| nm 16 rfl <| de_int <| r2_t (waysD (fun c => ?_) (fun c => ?_))
    · obtain ⟨n, hn⟩ : ∃ n, T.length = n + 1 := ⟨T.length - 1, by omega⟩
      have hV := long_V n hn (fun x hx => (hT x hx).1) hOk
      refine de_op op_add <| de_op op_sub <| de_int <| de_sumT V.su <| de_ix ix_seq <| nmD 15 rfl <| de_int <| r2_ix (.tup _) at00 ⟨T.map fun i : Nat => (i : Int), by rw [natL_iL], ?_⟩
      rw [sumN]
      refine r2_i <| de_op op_mul <| de_int <| de_op op_sub <| nm 16 rfl <| de_int <| r2_i <| r2_c (cmulF _ (by decide)) <| r2_i <| da_nil <| da_pu (.int (CL.V (T, []))) ?_ (same_int 3 _) ⟨true, rfl, waysF rfl <| db_nil <| h _ _ _ hb'⟩
      rw [show (0 : Int) - ((T.sum : Nat) : Int) + 4 * (((T.length : Nat) : Int) - 1) = CL.V (T, []) by rw [hV, hn]; omega]
    · have hn : T = [] := List.length_eq_zero_iff.mp (by omega)
      subst hn
      exact de_int <| da_nil <| da_pu (.int 0) rfl (same_int 3 _) ⟨true, rfl, waysF rfl <| db_nil <| h _ _ _ hb'⟩
  refine db_cons <| ds_set 15 <| de_tupN <| da_cons <| de_tupleN V.tu <| de_sortedN hr.units V.so <| de_lcC 17 <| di_range1 V.ra <| da_cons <| de_goJ 0 (V.take tp cs) hr <| da_cons <| nm 1 rfl <| da_cons <| de_int <| da_nil ⟨9, rfl, hb, by decide, by decide, fun z M1 hz0 hz1 hb1 => ⟨trivial, da_nil ⟨_, rfl, by omega, by omega, fun D => ⟨fun i acc M' => Tape tp cs M' ∧ ∃ ns : List Nat, ns.length = i ∧ (∀ x ∈ ns, 4 ≤ x ∧ x ≤ 40) ∧ acc = natL ns, ⟨hb1, [], rfl, (fun x hx => by cases hx), rfl⟩, fun _ _ _ _ => trivial, ?_, ?_⟩⟩⟩⟩
  · rintro i d acc M' hd ⟨hb', ns, hnl, hns, rfl⟩ b
    obtain ⟨hi, rfl⟩ := rngD_get hd
    refine de_op op_add <| de_int <| de_goJ 1 (V.take tp cs) hr <| da_cons <| nm 1 rfl <| da_cons <| de_int <| da_nil ⟨37, rfl, hb', by decide, by decide, fun x M2 hx0 hx1 hb2 => ⟨trivial, r2_i ⟨_, M2, rfl, rfl, ?_, hb2, ns ++ [(4 + x).toNat], ?_, fun v hv => ?_, ?_⟩⟩⟩
    · rw [natL_len]; omega
    · rw [List.length_append, hnl]; rfl
    · rcases List.mem_append.mp hv with hv | hv
      · exact hns v hv
      · rw [List.mem_singleton.mp hv]; omega
    · rw [natL_app]
      show natL ns ++ [PyData.int (4 + x)] = natL ns ++ [.int (((4 + x).toNat : Nat) : Int)]
      rw [show (((4 + x).toNat : Nat) : Int) = 4 + x by omega]
  · rintro acc M' ⟨hb', ns, hnl, hns, rfl⟩
    rw [rngD_len] at hnl
    refine ⟨ns, .cell List.mem_cons_self, by omega, fun T hp hsT l => ⟨natL T, .cell List.mem_cons_self, nat_flat, ?_⟩⟩
    refine da_cons ?_
    refine de_tupN ?_
    refine da_nil ⟨[], rfl, z0, ?_⟩
    refine da_nil ⟨[_, _], rfl, z2, ?_⟩
    exact db_drop 2 <| main T M' hb' (fun x hx => hns x (hp.mem_iff.mp hx)) (by rw [hp.length_eq]; omega)
end
end H83
set_option maxHeartbeats 2000000
namespace H83
open PySem PySem.Spec PyProof.Rows L2 DL CL
def R_law : List Sl → Cs → (Sl → Cs → Prop) → Prop := fun κ M W => ∃ ns : List Int, ns.length ≤ 100000 ∧ κ = [.rd (iL ns)] ∧ M = [] ∧ ∀ M', W (.d (.bool true)) M'
section
variable {P : Program} {w : World} {K : PySem.W.Frag} {mg : Str → Option Value} {base : Heap} {f : Addr} {fd : FuncData}
variable {cdv : Value} {A : Around} {outer : List Env} {sh : Shared} {H : Hp} {E : XK} {k : Nat} {B0 F0 : Hp} {tp cs p l : Addr}
/-- one chain -/
theorem w_one (V : EnvL P w K mg base k) (hr : Room k (LX P w K mg base f cdv A outer sh H E).A) (nd : NLw.Nodup) {M : Cs} {κ : List Sl} {kk : KK} {s0 s2 s3 s4 s5 s6 s7 s8 s9 s10 s11 s12 s13 s14 s15 s16 : Sl} (hb : Tape tp cs M)
    (h : ∀ s10 M', Tape tp cs M' → kk.nx M' [s0, .v (.ref tp), s2, s3, s4, s5, s6, s7, s8, s9, s10, s11, s12, s13, s14, s15, s16, .un]) :
    DB (LX P w K mg base f cdv A outer sh H E) B0 F0 M [s0, .v (.ref tp), s2, s3, s4, s5, s6, s7, s8, s9, s10, s11, s12, s13, s14, s15, s16, .un] κ (loopBody.drop 12) kk := by
  refine db_cons <| ds_set 10 <| de_op op_add <| de_int <| de_goJ 0 (V.take tp cs) hr <| da_cons <| nm 1 rfl <| da_cons <| de_int <| da_nil ⟨38, rfl, hb, by decide, by decide, fun x M2 hx0 hx1 hb2 => ⟨trivial, r2_i ?_⟩⟩
  obtain ⟨L, hL⟩ : ∃ L : Nat, (3 : Int) + x = (L : Int) := ⟨(3 + x).toNat, by omega⟩
  rw [hL]
  have h3 : 3 ≤ L := by omega
  have h40 : L ≤ 40 := by omega
  have hOk : CL.Ok ([L], []) := ⟨fun y hy => by rw [List.mem_singleton.mp hy]; omega, fun y hy => (by cases hy), by show 1 + 0 ≤ 12; omega⟩
  have hV := one_V h3 h40
  have hh : Has ([L], []) (true, L) := by
    show L ∈ [L]
    exact List.mem_cons_self
  obtain ⟨_, hB⟩ := bestR_one (s := ([L], [])) (o := (true, L)) (single_rest L)
  refine db_cons <| ds_if <| dt_w <| dw_or <| dt_not <| dt_val <| de_pu V.same hr <| da_cons <| de_pu V.os hr ?_
  refine da_cons ?_
  refine de_tupN ?_
  refine da_cons ?_
  refine de_tupN ?_
  refine da_cons ?_
  refine de_dn ?_
  refine nm 10 rfl ⟨_, _, rfl, rfl, ?_⟩
  refine da_nil ⟨[_], rfl, z1, ?_⟩
  refine da_cons ?_
  refine de_tupN ?_
  refine da_nil ⟨[], rfl, z0, ?_⟩
  refine da_nil ⟨[_, _], rfl, z2, ?_⟩
  refine da_nil <| da_pu ([L], []) rfl hOk ?_
  refine da_cons <| de_op op_sub <| de_int <| nm 10 rfl <| r2_i <| da_nil <| da_pu (.int (CL.V ([L], []))) ?_ (same_int 3 _) ⟨true, rfl, fun _ => ?_, fun z => (by cases z)⟩
  · rw [hV, Int.zero_sub]
  refine dw_or1 <| dt_not <| dt_val <| de_pu V.same hr <| da_cons <| de_pu V.br hr ?_
  refine da_cons ?_
  refine de_tupN ?_
  refine da_cons ?_
  refine de_tupN ?_
  refine da_cons ?_
  refine de_dn ?_
  refine nm 10 rfl ⟨_, _, rfl, rfl, ?_⟩
  refine da_nil ⟨[_], rfl, z1, ?_⟩
  refine da_cons ?_
  refine de_tupN ?_
  refine da_nil ⟨[], rfl, z0, ?_⟩
  refine da_nil ⟨[_, _], rfl, z2, ?_⟩
  refine da_cons <| de_str <| da_cons <| nm 10 rfl <| da_nil <| da_pu (([L], []), (true, L)) rfl ⟨hOk, hh⟩ ?_
  refine da_cons <| de_tup <| da_cons <| de_str <| da_nil ⟨[_], rfl, z1, ?_⟩
  refine da_nil <| da_pu (.tuple ((bestR ([L], []) (true, L)).map PyData.str)) ?_ (same_strs (bestR_len _ _)) ⟨true, rfl, waysF rfl <| db_nil <| db_nil <| h _ _ hb2⟩
  rw [hB]
  rfl
theorem ok_law (Fn : FnP K "law" s_law f fd) (V : EnvL P w K mg base k) : FnOk P w K mg base CX0 (k + 1) f fd ["script"] (SpG K R_law) := by
  refine fn_okD Fn sc_law (fun κ M W h => ?_) fun cdv A outer s H E hr nd B0 F0 κ M W hR => ?_
  · obtain ⟨ns, _, rfl, _⟩ := h
    rfl
  · obtain ⟨ns, hl, rfl, rfl, hW⟩ := hR
    refine db_cons <| ds_set 1 <| de_goJ 0 V.tape hr <| da_cons <| nm 0 rfl <| da_nil ⟨ns, hl, rfl, rfl, fun tp cs M1 hb => ⟨trivial, ?_⟩⟩
    refine db_cons <| ds_for <| di_range1 V.ra <| da_cons <| de_int <| da_nil ⟨3, rfl, by decide, by decide, fun i M' ρ' => ∃ s2 s3 s4 s5 s6 s7 s8 s9 s10 s11 s12 s13 s14 s15 s16, Tape tp cs M' ∧ ρ' = [.rd (iL ns), .v (.ref tp), s2, s3, s4, s5, s6, s7, s8, s9, s10, s11, s12, s13, s14, s15, s16, .un], ⟨_, _, _, _, _, _, _, _, _, _, _, _, _, _, _, hb, rfl⟩, fun _ _ _ _ => trivial, ?_, ?_⟩
    · rintro i d M' ρ' hd ⟨s2, s3, s4, s5, s6, s7, s8, s9, s10, s11, s12, s13, s14, s15, s16, hb', rfl⟩
      refine dg_name 2 ?_
      refine w_vals (ss := loopBody.drop 2) V hr nd hb' fun s M2 hs hb2 => ?_
      refine w_are (ss := loopBody.drop 3) V hr nd hs hb2 fun s5 M3 hb3 => ?_
      refine w_due (ss := loopBody.drop 6) V hr nd hs fun p es hK => ?_
      refine w_reps (ss := loopBody.drop 9) V hr nd hs hK fun s8 s9 s10 s11 s12 s13 s14 => ?_
      refine w_long (ss := loopBody.drop 12) V hr nd hb3 fun s15 s16 M4 hb4 => ?_
      exact w_one V hr nd hb4 fun s10 M5 hb5 => ⟨_, _, _, _, _, _, _, _, s10, _, _, _, _, s15, s16, hb5, rfl⟩
    · rintro M' ρ' ⟨s2, s3, s4, s5, s6, s7, s8, s9, s10, s11, s12, s13, s14, s15, s16, hb', rfl⟩
      exact db_cons <| ds_ret <| de_bl <| hW _
end
end H83
set_option maxHeartbeats 0
namespace H83
open PySem PySem.Spec PyProof.Rows L2
def d_is_number : He.DefD := ⟨("is_number", none), "is_number", "is_number", defArgs s_is_number, defBody s_is_number, defScope s_is_number, [], []⟩
def d_is_lengths : He.DefD := ⟨("is_lengths", none), "is_lengths", "is_lengths", defArgs s_is_lengths, defBody s_is_lengths, defScope s_is_lengths, [], []⟩
def d_are_strings : He.DefD := ⟨("are_strings", none), "are_strings", "are_strings", defArgs s_are_strings, defBody s_are_strings, defScope s_are_strings, [], []⟩
def d_openings : He.DefD := ⟨("openings", none), "openings", "openings", defArgs s_openings, defBody s_openings, defScope s_openings, [], []⟩
def d_without_string : He.DefD := ⟨("without_string", none), "without_string", "without_string", defArgs s_without_string, defBody s_without_string, defScope s_without_string, [], []⟩
def d_replies : He.DefD := ⟨("replies", none), "replies", "replies", defArgs s_replies, defBody s_replies, defScope s_replies, [], []⟩
def d_score_of_opener : He.DefD := ⟨("score_of_opener", none), "score_of_opener", "score_of_opener", defArgs s_score_of_opener, defBody s_score_of_opener, defScope s_score_of_opener, [], []⟩
def d_opener_score : He.DefD := ⟨("opener_score", none), "opener_score", "opener_score", defArgs s_opener_score, defBody s_opener_score, defScope s_opener_score, [], []⟩
def d_best_openings : He.DefD := ⟨("best_openings", none), "best_openings", "best_openings", defArgs s_best_openings, defBody s_best_openings, defScope s_best_openings, [], []⟩
def d_best_replies : He.DefD := ⟨("best_replies", none), "best_replies", "best_replies", defArgs s_best_replies, defBody s_best_replies, defScope s_best_replies, [], []⟩
def d__law_mix : He.DefD := ⟨("_law_mix", none), "_law_mix", "_law_mix", defArgs s__law_mix, defBody s__law_mix, defScope s__law_mix, [], []⟩
def d__law_tape : He.DefD := ⟨("_law_tape", none), "_law_tape", "_law_tape", defArgs s__law_tape, defBody s__law_tape, defScope s__law_tape, [], []⟩
def d__law_take : He.DefD := ⟨("_law_take", none), "_law_take", "_law_take", defArgs s__law_take, defBody s__law_take, defScope s__law_take, [], []⟩
def d__law_same : He.DefD := ⟨("_law_same", none), "_law_same", "_law_same", defArgs s__law_same, defBody s__law_same, defScope s__law_same, [], []⟩
def d__law_spoilt : He.DefD := ⟨("_law_spoilt", none), "_law_spoilt", "_law_spoilt", defArgs s__law_spoilt, defBody s__law_spoilt, defScope s__law_spoilt, [], []⟩
def d__law_drawn : He.DefD := ⟨("_law_drawn", none), "_law_drawn", "_law_drawn", defArgs s__law_drawn, defBody s__law_drawn, defScope s__law_drawn, [], []⟩
def d__law_unlike : He.DefD := ⟨("_law_unlike", none), "_law_unlike", "_law_unlike", defArgs s__law_unlike, defBody s__law_unlike, defScope s__law_unlike, [], []⟩
def d__law_gone : He.DefD := ⟨("_law_gone", none), "_law_gone", "_law_gone", defArgs s__law_gone, defBody s__law_gone, defScope s__law_gone, [], []⟩
def d__law_taker : He.DefD := ⟨("_law_taker", none), "_law_taker", "_law_taker", defArgs s__law_taker, defBody s__law_taker, defScope s__law_taker, [], []⟩
def d__law_opener : He.DefD := ⟨("_law_opener", none), "_law_opener", "_law_opener", defArgs s__law_opener, defBody s__law_opener, defScope s__law_opener, [], []⟩
def d__law_are : He.DefD := ⟨("_law_are", none), "_law_are", "_law_are", defArgs s__law_are, defBody s__law_are, defScope s__law_are, [], []⟩
def d_law : He.DefD := ⟨("law", none), "law", "law", defArgs s_law, defBody s_law, defScope s_law, [], []⟩
def fn : List He.DefD := [d_is_number, d_is_lengths, d_are_strings, d_openings, d_without_string, d_replies, d_score_of_opener, d_opener_score, d_best_openings, d_best_replies, d__law_mix, d__law_tape, d__law_take, d__law_same, d__law_spoilt, d__law_drawn, d__law_unlike, d__law_gone, d__law_taker, d__law_opener, d__law_are, d_law]
def fa : List He.Fa := [.glo "is_number", .glo "is_lengths", .glo "are_strings", .glo "openings", .glo "without_string", .glo "replies", .glo "score_of_opener", .glo "opener_score", .glo "best_openings", .glo "best_replies", .glo "_law_mix", .glo "_law_tape", .glo "_law_take", .glo "_law_same", .glo "_law_spoilt", .glo "_law_drawn", .glo "_law_unlike", .glo "_law_gone", .glo "_law_taker", .glo "_law_opener", .glo "_law_are", .glo "law", .glo "LEFT_OVER", .free "all", .free "any", .free "bool", .free "int", .free "isinstance", .free "len", .free "list", .free "max", .free "min", .free "range", .free "set", .free "sorted", .free "str", .free "sum", .free "tuple", .int "MAX_STRINGS" 12, .int "MAX_LENGTH" 40]
def ex (K : PySem.W.Frag) : Bool := He.valsB K (He.ga K "LEFT_OVER") [("chain", .int 2), ("loop", .int 4)]
def ts : List He.Tab := [((fun K => He.ga K "LEFT_OVER"), ["chain", "loop"])]
abbrev R : PySem.W.OpenRow := PySem.W.OpenLaw.row PySem.Challenge.rw_cantmove_k83_whole_chains_and_loops
abbrev hk : PySem.W.Hook := DLHook.hookY 4 fa fn ts ex
def ob (s : PySem.W.SharedT) : DLHook.AlY := DLHook.obsY 4 fa fn ts ex (HandSHeadRun.getT s)
theorem ob_eq (s : PySem.W.SharedT) : ob s = hk.obs s.abs := DLHook.obsY_eq (HandSHeadRun.getT_eq s)
def loose : List PySem.Str := ["_law_are", "_law_drawn", "_law_gone", "_law_mix", "_law_opener", "_law_same", "_law_spoilt", "_law_take", "_law_taker", "_law_tape", "_law_unlike", "are_strings", "best_openings", "best_replies", "is_lengths", "is_number", "opener_score", "openings", "replies", "score_of_opener", "without_string", "LEFT_OVER", "MAX_LENGTH", "MAX_STRINGS"]
theorem run (w : World) : HandSHeadRun.RunEq R (PySem.W.view R.prog [27]) hk ob 4000 loose w := by
  refine PySem.W.byRow2 "special-get-raises" (P := fun w => HandSHeadRun.RunEq R (PySem.W.view R.prog [27]) hk ob 4000 loose w) (fun w => ?_) (fun w => ?_) w
  · intro os
    kernel_rfl
  · intro os
    kernel_rfl
section
variable {K : PySem.W.Frag} {h : Heap} {mg : Str → Option Value}
theorem f_is_number (c : He.SaysD fa fn K) : ∃ fd, DL.FnP K "is_number" s_is_number (He.fAd K ("is_number", none)) fd := c.def_ 0 (d := d_is_number) rfl
theorem f_is_lengths (c : He.SaysD fa fn K) : ∃ fd, DL.FnP K "is_lengths" s_is_lengths (He.fAd K ("is_lengths", none)) fd := c.def_ 1 (d := d_is_lengths) rfl
theorem f_are_strings (c : He.SaysD fa fn K) : ∃ fd, DL.FnP K "are_strings" s_are_strings (He.fAd K ("are_strings", none)) fd := c.def_ 2 (d := d_are_strings) rfl
theorem f_openings (c : He.SaysD fa fn K) : ∃ fd, DL.FnP K "openings" s_openings (He.fAd K ("openings", none)) fd := c.def_ 3 (d := d_openings) rfl
theorem f_without_string (c : He.SaysD fa fn K) : ∃ fd, DL.FnP K "without_string" s_without_string (He.fAd K ("without_string", none)) fd := c.def_ 4 (d := d_without_string) rfl
theorem f_replies (c : He.SaysD fa fn K) : ∃ fd, DL.FnP K "replies" s_replies (He.fAd K ("replies", none)) fd := c.def_ 5 (d := d_replies) rfl
theorem f_score_of_opener (c : He.SaysD fa fn K) : ∃ fd, DL.FnP K "score_of_opener" s_score_of_opener (He.fAd K ("score_of_opener", none)) fd := c.def_ 6 (d := d_score_of_opener) rfl
theorem f_opener_score (c : He.SaysD fa fn K) : ∃ fd, DL.FnP K "opener_score" s_opener_score (He.fAd K ("opener_score", none)) fd := c.def_ 7 (d := d_opener_score) rfl
theorem f_best_openings (c : He.SaysD fa fn K) : ∃ fd, DL.FnP K "best_openings" s_best_openings (He.fAd K ("best_openings", none)) fd := c.def_ 8 (d := d_best_openings) rfl
theorem f_best_replies (c : He.SaysD fa fn K) : ∃ fd, DL.FnP K "best_replies" s_best_replies (He.fAd K ("best_replies", none)) fd := c.def_ 9 (d := d_best_replies) rfl
theorem f__law_mix (c : He.SaysD fa fn K) : ∃ fd, DL.FnP K "_law_mix" s__law_mix (He.fAd K ("_law_mix", none)) fd := c.def_ 10 (d := d__law_mix) rfl
theorem f__law_tape (c : He.SaysD fa fn K) : ∃ fd, DL.FnP K "_law_tape" s__law_tape (He.fAd K ("_law_tape", none)) fd := c.def_ 11 (d := d__law_tape) rfl
theorem f__law_take (c : He.SaysD fa fn K) : ∃ fd, DL.FnP K "_law_take" s__law_take (He.fAd K ("_law_take", none)) fd := c.def_ 12 (d := d__law_take) rfl
theorem f__law_same (c : He.SaysD fa fn K) : ∃ fd, DL.FnP K "_law_same" s__law_same (He.fAd K ("_law_same", none)) fd := c.def_ 13 (d := d__law_same) rfl
theorem f__law_spoilt (c : He.SaysD fa fn K) : ∃ fd, DL.FnP K "_law_spoilt" s__law_spoilt (He.fAd K ("_law_spoilt", none)) fd := c.def_ 14 (d := d__law_spoilt) rfl
theorem f__law_drawn (c : He.SaysD fa fn K) : ∃ fd, DL.FnP K "_law_drawn" s__law_drawn (He.fAd K ("_law_drawn", none)) fd := c.def_ 15 (d := d__law_drawn) rfl
theorem f__law_unlike (c : He.SaysD fa fn K) : ∃ fd, DL.FnP K "_law_unlike" s__law_unlike (He.fAd K ("_law_unlike", none)) fd := c.def_ 16 (d := d__law_unlike) rfl
theorem f__law_gone (c : He.SaysD fa fn K) : ∃ fd, DL.FnP K "_law_gone" s__law_gone (He.fAd K ("_law_gone", none)) fd := c.def_ 17 (d := d__law_gone) rfl
theorem f__law_taker (c : He.SaysD fa fn K) : ∃ fd, DL.FnP K "_law_taker" s__law_taker (He.fAd K ("_law_taker", none)) fd := c.def_ 18 (d := d__law_taker) rfl
theorem f__law_opener (c : He.SaysD fa fn K) : ∃ fd, DL.FnP K "_law_opener" s__law_opener (He.fAd K ("_law_opener", none)) fd := c.def_ 19 (d := d__law_opener) rfl
theorem f__law_are (c : He.SaysD fa fn K) : ∃ fd, DL.FnP K "_law_are" s__law_are (He.fAd K ("_law_are", none)) fd := c.def_ 20 (d := d__law_are) rfl
theorem f_law (c : He.SaysD fa fn K) : ∃ fd, DL.FnP K "law" s_law (He.fAd K ("law", none)) fd := c.def_ 21 (d := d_law) rfl
theorem int_MAX_STRINGS (X : K.In h) (G : h.Ns mainGlobals mg) (c : He.SaysD fa fn K) : ∃ t, mg "MAX_STRINGS" = some (.int 12 t) := He.int_ok X G (c.fact 38 (f := .int "MAX_STRINGS" 12) rfl)
theorem int_MAX_LENGTH (X : K.In h) (G : h.Ns mainGlobals mg) (c : He.SaysD fa fn K) : ∃ t, mg "MAX_LENGTH" = some (.int 40 t) := He.int_ok X G (c.fact 39 (f := .int "MAX_LENGTH" 40) rfl)
theorem g_is_number (X : K.In h) (G : h.Ns mainGlobals mg) (c : He.SaysD fa fn K) : mg "is_number" = some (.ref (He.ga K "is_number")) := He.glo_ok X G (c.fact 0 (f := .glo "is_number") rfl)
theorem g_is_lengths (X : K.In h) (G : h.Ns mainGlobals mg) (c : He.SaysD fa fn K) : mg "is_lengths" = some (.ref (He.ga K "is_lengths")) := He.glo_ok X G (c.fact 1 (f := .glo "is_lengths") rfl)
theorem g_are_strings (X : K.In h) (G : h.Ns mainGlobals mg) (c : He.SaysD fa fn K) : mg "are_strings" = some (.ref (He.ga K "are_strings")) := He.glo_ok X G (c.fact 2 (f := .glo "are_strings") rfl)
theorem g_openings (X : K.In h) (G : h.Ns mainGlobals mg) (c : He.SaysD fa fn K) : mg "openings" = some (.ref (He.ga K "openings")) := He.glo_ok X G (c.fact 3 (f := .glo "openings") rfl)
theorem g_without_string (X : K.In h) (G : h.Ns mainGlobals mg) (c : He.SaysD fa fn K) : mg "without_string" = some (.ref (He.ga K "without_string")) := He.glo_ok X G (c.fact 4 (f := .glo "without_string") rfl)
theorem g_replies (X : K.In h) (G : h.Ns mainGlobals mg) (c : He.SaysD fa fn K) : mg "replies" = some (.ref (He.ga K "replies")) := He.glo_ok X G (c.fact 5 (f := .glo "replies") rfl)
theorem g_score_of_opener (X : K.In h) (G : h.Ns mainGlobals mg) (c : He.SaysD fa fn K) : mg "score_of_opener" = some (.ref (He.ga K "score_of_opener")) := He.glo_ok X G (c.fact 6 (f := .glo "score_of_opener") rfl)
theorem g_opener_score (X : K.In h) (G : h.Ns mainGlobals mg) (c : He.SaysD fa fn K) : mg "opener_score" = some (.ref (He.ga K "opener_score")) := He.glo_ok X G (c.fact 7 (f := .glo "opener_score") rfl)
theorem g_best_openings (X : K.In h) (G : h.Ns mainGlobals mg) (c : He.SaysD fa fn K) : mg "best_openings" = some (.ref (He.ga K "best_openings")) := He.glo_ok X G (c.fact 8 (f := .glo "best_openings") rfl)
theorem g_best_replies (X : K.In h) (G : h.Ns mainGlobals mg) (c : He.SaysD fa fn K) : mg "best_replies" = some (.ref (He.ga K "best_replies")) := He.glo_ok X G (c.fact 9 (f := .glo "best_replies") rfl)
theorem g__law_mix (X : K.In h) (G : h.Ns mainGlobals mg) (c : He.SaysD fa fn K) : mg "_law_mix" = some (.ref (He.ga K "_law_mix")) := He.glo_ok X G (c.fact 10 (f := .glo "_law_mix") rfl)
theorem g__law_tape (X : K.In h) (G : h.Ns mainGlobals mg) (c : He.SaysD fa fn K) : mg "_law_tape" = some (.ref (He.ga K "_law_tape")) := He.glo_ok X G (c.fact 11 (f := .glo "_law_tape") rfl)
theorem g__law_take (X : K.In h) (G : h.Ns mainGlobals mg) (c : He.SaysD fa fn K) : mg "_law_take" = some (.ref (He.ga K "_law_take")) := He.glo_ok X G (c.fact 12 (f := .glo "_law_take") rfl)
theorem g__law_same (X : K.In h) (G : h.Ns mainGlobals mg) (c : He.SaysD fa fn K) : mg "_law_same" = some (.ref (He.ga K "_law_same")) := He.glo_ok X G (c.fact 13 (f := .glo "_law_same") rfl)
theorem g__law_spoilt (X : K.In h) (G : h.Ns mainGlobals mg) (c : He.SaysD fa fn K) : mg "_law_spoilt" = some (.ref (He.ga K "_law_spoilt")) := He.glo_ok X G (c.fact 14 (f := .glo "_law_spoilt") rfl)
theorem g__law_drawn (X : K.In h) (G : h.Ns mainGlobals mg) (c : He.SaysD fa fn K) : mg "_law_drawn" = some (.ref (He.ga K "_law_drawn")) := He.glo_ok X G (c.fact 15 (f := .glo "_law_drawn") rfl)
theorem g__law_unlike (X : K.In h) (G : h.Ns mainGlobals mg) (c : He.SaysD fa fn K) : mg "_law_unlike" = some (.ref (He.ga K "_law_unlike")) := He.glo_ok X G (c.fact 16 (f := .glo "_law_unlike") rfl)
theorem g__law_gone (X : K.In h) (G : h.Ns mainGlobals mg) (c : He.SaysD fa fn K) : mg "_law_gone" = some (.ref (He.ga K "_law_gone")) := He.glo_ok X G (c.fact 17 (f := .glo "_law_gone") rfl)
theorem g__law_taker (X : K.In h) (G : h.Ns mainGlobals mg) (c : He.SaysD fa fn K) : mg "_law_taker" = some (.ref (He.ga K "_law_taker")) := He.glo_ok X G (c.fact 18 (f := .glo "_law_taker") rfl)
theorem g__law_opener (X : K.In h) (G : h.Ns mainGlobals mg) (c : He.SaysD fa fn K) : mg "_law_opener" = some (.ref (He.ga K "_law_opener")) := He.glo_ok X G (c.fact 19 (f := .glo "_law_opener") rfl)
theorem g__law_are (X : K.In h) (G : h.Ns mainGlobals mg) (c : He.SaysD fa fn K) : mg "_law_are" = some (.ref (He.ga K "_law_are")) := He.glo_ok X G (c.fact 20 (f := .glo "_law_are") rfl)
theorem g_law (X : K.In h) (G : h.Ns mainGlobals mg) (c : He.SaysD fa fn K) : mg "law" = some (.ref (He.ga K "law")) := He.glo_ok X G (c.fact 21 (f := .glo "law") rfl)
theorem g_LEFT_OVER (X : K.In h) (G : h.Ns mainGlobals mg) (c : He.SaysD fa fn K) : mg "LEFT_OVER" = some (.ref (He.ga K "LEFT_OVER")) := He.glo_ok X G (c.fact 22 (f := .glo "LEFT_OVER") rfl)
theorem b_all (X : K.In h) (G : h.Ns mainGlobals mg) (c : He.SaysD fa fn K) : mg "all" = none := He.free_ok X G (c.fact 23 (f := .free "all") rfl)
theorem b_any (X : K.In h) (G : h.Ns mainGlobals mg) (c : He.SaysD fa fn K) : mg "any" = none := He.free_ok X G (c.fact 24 (f := .free "any") rfl)
theorem b_bool (X : K.In h) (G : h.Ns mainGlobals mg) (c : He.SaysD fa fn K) : mg "bool" = none := He.free_ok X G (c.fact 25 (f := .free "bool") rfl)
theorem b_int (X : K.In h) (G : h.Ns mainGlobals mg) (c : He.SaysD fa fn K) : mg "int" = none := He.free_ok X G (c.fact 26 (f := .free "int") rfl)
theorem b_isinstance (X : K.In h) (G : h.Ns mainGlobals mg) (c : He.SaysD fa fn K) : mg "isinstance" = none := He.free_ok X G (c.fact 27 (f := .free "isinstance") rfl)
theorem b_len (X : K.In h) (G : h.Ns mainGlobals mg) (c : He.SaysD fa fn K) : mg "len" = none := He.free_ok X G (c.fact 28 (f := .free "len") rfl)
theorem b_list (X : K.In h) (G : h.Ns mainGlobals mg) (c : He.SaysD fa fn K) : mg "list" = none := He.free_ok X G (c.fact 29 (f := .free "list") rfl)
theorem b_max (X : K.In h) (G : h.Ns mainGlobals mg) (c : He.SaysD fa fn K) : mg "max" = none := He.free_ok X G (c.fact 30 (f := .free "max") rfl)
theorem b_min (X : K.In h) (G : h.Ns mainGlobals mg) (c : He.SaysD fa fn K) : mg "min" = none := He.free_ok X G (c.fact 31 (f := .free "min") rfl)
theorem b_range (X : K.In h) (G : h.Ns mainGlobals mg) (c : He.SaysD fa fn K) : mg "range" = none := He.free_ok X G (c.fact 32 (f := .free "range") rfl)
theorem b_set (X : K.In h) (G : h.Ns mainGlobals mg) (c : He.SaysD fa fn K) : mg "set" = none := He.free_ok X G (c.fact 33 (f := .free "set") rfl)
theorem b_sorted (X : K.In h) (G : h.Ns mainGlobals mg) (c : He.SaysD fa fn K) : mg "sorted" = none := He.free_ok X G (c.fact 34 (f := .free "sorted") rfl)
theorem b_str (X : K.In h) (G : h.Ns mainGlobals mg) (c : He.SaysD fa fn K) : mg "str" = none := He.free_ok X G (c.fact 35 (f := .free "str") rfl)
theorem b_sum (X : K.In h) (G : h.Ns mainGlobals mg) (c : He.SaysD fa fn K) : mg "sum" = none := He.free_ok X G (c.fact 36 (f := .free "sum") rfl)
theorem b_tuple (X : K.In h) (G : h.Ns mainGlobals mg) (c : He.SaysD fa fn K) : mg "tuple" = none := He.free_ok X G (c.fact 37 (f := .free "tuple") rfl)
end
end H83
set_option maxHeartbeats 8000000
namespace H83
open PySem PySem.Spec PyProof.Rows L2 DL
section
variable {P : Program} {w : World} {K : PySem.W.Frag} {mg : Str → Option Value} {base : Heap} {h : Heap}
theorem facts {f : Addr} (X : K.In h) (G : h.Ns mainGlobals mg) (hfa : mg ("law" : Str) = some (.ref f)) (ct : He.SaysT fa fn ts w K) (hx : ex K = true) :
    ∃ fd : FuncData, (∀ (s : Shared) (v : Value), BindsTo s fd ⟨[v], []⟩ [("script", v)]) ∧ ∀ base : Heap, K.In base → base.Ns mainGlobals mg → FnOk P w K mg base CX0 29 f fd ["script"] (SpG K R_law) := by
  have c := ct.d
  have e := hfa.symm.trans (g_law X G c)
  cases e
  obtain ⟨fd, F⟩ := f_law c
  have b := FunD.bindsA (ps := ["script"]) F fun _ _ _ _ _ _ us hl => match us, hl with | [_], _ => rfl
  refine ⟨fd, fun s v => b s [v] rfl, fun base _ _ => ok_law F ?_⟩
  obtain ⟨_, F_is_number⟩ := f_is_number c
  obtain ⟨_, F_is_lengths⟩ := f_is_lengths c
  obtain ⟨_, F_are_strings⟩ := f_are_strings c
  obtain ⟨_, F_openings⟩ := f_openings c
  obtain ⟨_, F_without_string⟩ := f_without_string c
  obtain ⟨_, F_replies⟩ := f_replies c
  obtain ⟨_, F_score_of_opener⟩ := f_score_of_opener c
  obtain ⟨_, F_opener_score⟩ := f_opener_score c
  obtain ⟨_, F_best_openings⟩ := f_best_openings c
  obtain ⟨_, F_best_replies⟩ := f_best_replies c
  obtain ⟨_, F__law_mix⟩ := f__law_mix c
  obtain ⟨_, F__law_tape⟩ := f__law_tape c
  obtain ⟨_, F__law_take⟩ := f__law_take c
  obtain ⟨_, F__law_same⟩ := f__law_same c
  obtain ⟨_, F__law_spoilt⟩ := f__law_spoilt c
  obtain ⟨_, F__law_drawn⟩ := f__law_drawn c
  obtain ⟨_, F__law_unlike⟩ := f__law_unlike c
  obtain ⟨_, F__law_gone⟩ := f__law_gone c
  obtain ⟨_, F__law_taker⟩ := f__law_taker c
  obtain ⟨_, F__law_opener⟩ := f__law_opener c
  obtain ⟨_, F__law_are⟩ := f__law_are c
  have ra := b_range X G c
  have tu := b_tuple X G c
  have so := b_sorted X G c
  have se := b_set X G c
  have le := b_len X G c
  have al := b_all X G c
  have an := b_any X G c
  have li := b_list X G c
  have it := b_int X G c
  have isi := b_isinstance X G c
  have bo := b_bool X G c
  have sr := b_str X G c
  have mi := b_min X G c
  have ma := b_max X G c
  have su := b_sum X G c
  have ml := int_MAX_LENGTH X G c
  have ms := int_MAX_STRINGS X G c
  have lf := g_LEFT_OVER X G c
  have hk : ∀ b, KDct K w (He.ga K "LEFT_OVER") (wD b) (.int (CL.over b)) := fun b => by
    cases b with
    | true => exact kdct_of ct 0 rfl (kvs := [("chain", .int 2), ("loop", .int 4)]) hx (q := ("chain", .int 2)) List.mem_cons_self
    | false => exact kdct_of ct 0 rfl (kvs := [("chain", .int 2), ("loop", .int 4)]) hx (q := ("loop", .int 4)) (List.mem_cons_of_mem _ List.mem_cons_self)
  have mix : ∀ k, Go P w K mg base "_law_mix" (k + 1) ["number"] R_mix := fun k => go_of F__law_mix (g__law_mix X G c) (fun _ _ _ _ _ _ us hl => match us, hl with | [_], _ => rfl) (ok_mix F__law_mix it)
  have tape : ∀ k, Go P w K mg base "_law_tape" (k + 1) ["script"] R_tape := fun k => go_of F__law_tape (g__law_tape X G c) (fun _ _ _ _ _ _ us hl => match us, hl with | [_], _ => rfl) (ok_tape F__law_tape le li)
  have take : ∀ tp cs k, Go P w K mg base "_law_take" (k + 2) ["tape", "many"] (R_take tp cs) := fun tp cs k => go_of F__law_take (g__law_take X G c) (fun _ _ _ _ _ _ us hl => match us, hl with | [_, _], _ => rfl) (ok_take F__law_take (mix k) it le)
  have same : ∀ k, Go P w K mg base "_law_same" (k + 1 + 3) ["a", "b"] (R_same 3) := fun k => go_same k F__law_same (g__law_same X G c) isi tu li bo it sr le al ra 3
  have sp : ∀ tp cs, Go P w K mg base "_law_spoilt" 28 ["tape", "value"] (R_sp tp cs 2) := fun tp cs => go_sp 23 F__law_spoilt (g__law_spoilt X G c) (take tp cs) isi tu it le 2
  have dr : ∀ tp cs k, Go P w K mg base "_law_drawn" (k + 3) ["tape", "many", "least"] (R_dr tp cs) := fun tp cs k => go_of F__law_drawn (g__law_drawn X G c) (fun _ _ _ _ _ _ us hl => match us, hl with | [_, _, _], _ => rfl) (ok_dr F__law_drawn (take tp cs k) ra le tu so)
  have num : ∀ k, Go P w K mg base "is_number" (k + 1) ["value", "least", "most"] R_num := fun k => go_of F_is_number (g_is_number X G c) (fun _ _ _ _ _ _ us hl => match us, hl with | [_, _, _], _ => rfl) (ok_num F_is_number isi it bo)
  have len : ∀ k, Go P w K mg base "is_lengths" (k + 2) ["value", "least", "step"] R_len := fun k => go_of F_is_lengths (g_is_lengths X G c) (fun _ _ _ _ _ _ us hl => match us, hl with | [_, _, _], _ => rfl) (ok_len F_is_lengths (num k) ml isi tu al li so)
  have are : ∀ k, Go P w K mg base "are_strings" (k + 3) ["value"] R_are := fun k => go_of F_are_strings (g_are_strings X G c) (fun _ _ _ _ _ _ us hl => match us, hl with | [_], _ => rfl) (ok_are F_are_strings (len k) ms isi tu le)
  have la : ∀ k, Go P w K mg base "_law_are" (k + 1) ["value"] R_are := fun k => go_of F__law_are (g__law_are X G c) (fun _ _ _ _ _ _ us hl => match us, hl with | [_], _ => rfl) (ok_la F__law_are isi tu le al an it bo li so)
  have op : ∀ k, Go P w K mg base "openings" (k + 1) ["strings"] R_op := fun k => go_of F_openings (g_openings X G c) (fun _ _ _ _ _ _ us hl => match us, hl with | [_], _ => rfl) (ok_op F_openings so se)
  have lu : ∀ k, Go P w K mg base "_law_unlike" (k + 1) ["strings"] R_op := fun k => go_of F__law_unlike (g__law_unlike X G c) (fun _ _ _ _ _ _ us hl => match us, hl with | [_], _ => rfl) (ok_lu F__law_unlike so se)
  have ws : ∀ k, Go P w K mg base "without_string" (k + 1) ["strings", "word", "length"] R_gone := fun k => go_of F_without_string (g_without_string X G c) (fun _ _ _ _ _ _ us hl => match us, hl with | [_, _, _], _ => rfl) (ok_ws F_without_string)
  have lg : ∀ k, Go P w K mg base "_law_gone" (k + 1) ["strings", "word", "length"] R_gone := fun k => go_of F__law_gone (g__law_gone X G c) (fun _ _ _ _ _ _ us hl => match us, hl with | [_, _, _], _ => rfl) (ok_lg F__law_gone ra le)
  have sc : ∀ k, Go P w K mg base "score_of_opener" (k + 2 + 2 * 12) ["strings", "known"] (R_sc P w 12) ∧ Go P w K mg base "replies" (k + 3 + 2 * 12) ["strings", "word", "length", "known"] (R_rep P w 12) := fun k => go_sc k F_score_of_opener (g_score_of_opener X G c) F_replies (g_replies X G c) ws op lf hk ma mi 12
  have lo : ∀ k, Go P w K mg base "_law_opener" (k + 2 + 2 * 12) ["strings", "known"] (R_sc P w 12) ∧ Go P w K mg base "_law_taker" (k + 3 + 2 * 12) ["strings", "word", "length", "known"] (R_lt P w 12) := fun k => go_lo k F__law_opener (g__law_opener X G c) F__law_taker (g__law_taker X G c) lg lu ma mi 12
  have os : Go P w K mg base "opener_score" 28 ["strings"] R_os := go_of F_opener_score (g_opener_score X G c) (fun _ _ _ _ _ _ us hl => match us, hl with | [_], _ => rfl) (ok_os F_opener_score (sc 1).1)
  have bo_ : Go P w K mg base "best_openings" 28 ["strings"] R_bo := go_of F_best_openings (g_best_openings X G c) (fun _ _ _ _ _ _ us hl => match us, hl with | [_], _ => rfl) (ok_bo F_best_openings (sc 1).1 (sc 0).2 (op 26) ma tu)
  have br : Go P w K mg base "best_replies" 28 ["strings", "word", "length"] R_br := go_of F_best_replies (g_best_replies X G c) (fun _ _ _ _ _ _ us hl => match us, hl with | [_, _, _], _ => rfl) (ok_br F_best_replies (sc 0).2 ma tu)
  exact ⟨tape 27, fun tp cs => take tp cs 26, sp, fun tp cs => dr tp cs 25, same 24, are 25, la 27, os, bo_, br, (lo 2).1, (lo 1).2, lu 27, ra, tu, le, su, ma, so⟩
theorem law_start {H : Hp} {a : Addr} {ns : List Int} {E : XK} (hl : ns.length ≤ 100000) (hS : SqL K H a (ns.map V.int)) : SpG K R_law [.ref a] H (fun v _ => v = .bl true) E := by
  refine ⟨fun _ => none, H, [], [.rd (iL ns)], fun r _ => r = .d (.bool true), ⟨fun _ => none, ?_⟩, fun r M h => by rw [h]; trivial, ⟨ns, hl, rfl, rfl, fun _ => rfl⟩, fun v H' r M' g e => ?_⟩
  · exact ⟨fun _ _ h => (nomatch h), fun _ _ h => (nomatch h), fun _ _ h => h, fun _ h => absurd rfl h, fun _ h => (by cases h), List.nodup_nil, .nil, .cons ⟨a, ns.map V.int, rfl, hS, RpA.of_ints⟩ .nil⟩
  · subst e
    exact g.bl
end
end H83
open PySem PySem.W PySem.Calls PyProof.Rows
theorem PySem.Challenge.cw_cantmove_k83_whole_chains_and_loops_holds : PySem.Challenge.rw_cantmove_k83_whole_chains_and_loops.Holds := by
  w_on; o_law
  refine HandSHeadRun.head_any (r := OpenLaw.row PySem.Challenge.rw_cantmove_k83_whole_chains_and_loops) (q := view (OpenLaw.row PySem.Challenge.rw_cantmove_k83_whole_chains_and_loops).prog [27]) (H := H83.hk) (ob := H83.ob) (M := 4000) (loose := H83.loose) (d := HandSHeadRun.topDef (OpenLaw.row PySem.Challenge.rw_cantmove_k83_whole_chains_and_loops).prog 27) (kwd := []) H83.ob_eq
    (by kernel_rfl) (fun s => by kernel_rfl) H83.run (by kernel_rfl) (by kernel_rfl) (by kernel_rfl) (by rfl) (by first | assumption | decide +kernel) (by decide +kernel) ⟨rfl, rfl, rfl, rfl, rfl, by decide +kernel⟩ ?hw ?hc
  case hw => w_witness2
  case hc =>
    refine L2.walk_ofE (l := PySem.Challenge.rw_cantmove_k83_whole_chains_and_loops) (n := 63) (k := 29) (x := "script") (CX := L2.CX0) rfl (by decide) (by kernel_rfl) ⟨rfl, by decide, by decide⟩ ?F (fun _ _ _ _ z => z)
    intro w mg fa h Y G hmg0
    obtain ⟨K, KX, c, hx⟩ := Y
    have hmg : mg ("law" : PySem.Str) = some (.ref fa) := by
      have e : (HandSHeadRun.topDef (OpenLaw.row PySem.Challenge.rw_cantmove_k83_whole_chains_and_loops).prog 27).name = ("law" : PySem.Str) := by kernel_rfl
      rw [← e]
      exact hmg0
    obtain ⟨fd, hb, hF⟩ := H83.facts (P := (PySem.Challenge.rw_cantmove_k83_whole_chains_and_loops).prog) (w := w) KX G hmg c hx
    exact ⟨K, fd, DL.SpG K H83.R_law, KX, hb, fun H a ns hl _ hS => H83.law_start (Nat.le_trans hl (by decide)) hS, hF⟩
