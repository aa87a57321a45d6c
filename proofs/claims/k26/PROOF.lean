import PyProof.Rows.All
import Wide.All
import OpenK.AllK
import Wide.FinOn
import HandS.ForMost
import HandS.ForExc
import HandS.Wide
import HandS.Style
import HandS.Flow
import HandS.IsInst
import HandS.Conv
import HandS.Defaults
import HandS.Walk
import HandS.CallSlots
import HandS.Zip
import HandS.ExcCtx
import KE.KExcSuper
import HandS.ExcInit
import HandS.ExcField
import HandS.ExcIs
import HandS.TryMany
import HandS.TryOnly
import KE.GoesEnum
import HandS.TupAny
import HandS.TupMul
import HandS.RevTup
import HandS.More
import HandS.HotCalls
import PySem.Challenge.RW_evergreedy_k26_whole_slots_and_streams
set_option Elab.async false
set_option linter.all false
set_option maxRecDepth 100000
set_option maxHeartbeats 2000000
/-! DL: data-level judgements over HandS. -/
namespace DL
open PySem L2

/-- what a value is, read through the heap -/
inductive D where
  | non
  | bl (b : Bool)
  | int (i : Int)
  | str (x : Str)
  | ty (n : String)
  | ref (a : Addr)
  | tup (xs : List D)
  | lst (xs : List D)
  | ins (C : Addr) (ns : List Str) (xs : List D)
  /-- a caught exception: at a, of the class at C, its dict at dd -/
  | xc (a dd C : Addr) (x : D)

/-- what is said of a datum of a kind -/
def onSlot (o : Option (Option D)) (k : D → Prop) : Prop := match o with
  | some (some d) => k d
  | _ => False
def onD (o : Option D) (k : D → Prop) : Prop := match o with
  | some d => k d
  | none => False
theorem onSlot_ss {d : D} {k : D → Prop} : onSlot (some (some d)) k = k d := rfl
theorem onD_s {d : D} {k : D → Prop} : onD (some d) k = k d := rfl
mutual
inductive Is (K : PySem.W.Frag) (F : Hp) : V → D → Prop
  | non : Is K F .non .non
  | bl (b : Bool) : Is K F (.bl b) (.bl b)
  | int (i : Int) : Is K F (.int i) (.int i)
  | str (x : Str) : Is K F (.str x) (.str x)
  | ty (n : String) : Is K F (.ty n) (.ty n)
  | ref (a : Addr) : Is K F (.ref a) (.ref a)
  | tup {a : Addr} {vs : List V} {ds : List D} : SqT K F a vs → IsL K F vs ds → Is K F (.ref a) (.tup ds)
  | lst {a : Addr} {vs : List V} {ds : List D} : SqL K F a vs → IsL K F vs ds → Is K F (.ref a) (.lst ds)
  | ins {a C dx : Addr} {fs : List (Str × V)} {ds : List D} : F a = some (.ins C dx fs) → IsL K F (fs.map (·.2)) ds → Is K F (.ref a) (.ins C (fs.map (·.1)) ds)
  | xc {a dd C : Addr} {v : V} {x : D} : F dd = some (.xd [("at", v)]) → Is K F v x → Is K F (.ref a) (.xc a dd C x)
inductive IsL (K : PySem.W.Frag) (F : Hp) : List V → List D → Prop
  | nil : IsL K F [] []
  | cons {v : V} {vs : List V} {d : D} {ds : List D} : Is K F v d → IsL K F vs ds → IsL K F (v :: vs) (d :: ds)
end

theorem same_t {K : PySem.W.Frag} {F F' : Hp} {a : Addr} {xs : List V} (e : Same F F') (h : SqT K F a xs) : SqT K F' a xs := by
  rcases h with (h | ⟨o, h⟩) | h
  · exact .inl (.inl (e _ _ h))
  · exact .inl (.inr ⟨o, e _ _ h⟩)
  · exact .inr h
mutual
theorem Is.mono {K : PySem.W.Frag} {F F' : Hp} (e : Same F F') : ∀ {v : V} {d : D}, Is K F v d → Is K F' v d
  | _, _, .non => .non
  | _, _, .bl b => .bl b
  | _, _, .int i => .int i
  | _, _, .str x => .str x
  | _, _, .ty n => .ty n
  | _, _, .ref a => .ref a
  | _, _, .tup h l => .tup (same_t e h) (IsL.mono e l)
  | _, _, .lst h l => .lst (e.seq h) (IsL.mono e l)
  | _, _, .ins h l => .ins (e _ _ h) (IsL.mono e l)
  | _, _, .xc h i => .xc (e _ _ h) (Is.mono e i)
theorem IsL.mono {K : PySem.W.Frag} {F F' : Hp} (e : Same F F') : ∀ {vs : List V} {ds : List D}, IsL K F vs ds → IsL K F' vs ds
  | _, _, .nil => .nil
  | _, _, .cons h l => .cons (Is.mono e h) (IsL.mono e l)
end
section
variable {K : PySem.W.Frag} {F : Hp}
theorem IsL.length : ∀ {vs : List V} {ds : List D}, IsL K F vs ds → vs.length = ds.length
  | _, _, .nil => rfl
  | _, _, .cons _ l => congrArg (· + 1) (IsL.length l)
theorem IsL.get : ∀ {vs : List V} {ds : List D} {i : Nat} {d : D}, IsL K F vs ds → ds[i]? = some d → ∃ v, vs[i]? = some v ∧ Is K F v d
  | _, _, _, _, .nil, e => by simp at e
  | _, _, 0, _, .cons h _, e => by
    simp at e
    subst e
    exact ⟨_, rfl, h⟩
  | _, _, i + 1, d, .cons _ t, e => by
    obtain ⟨v, h1, h2⟩ := IsL.get (i := i) (d := d) t (by simpa using e)
    exact ⟨v, by simpa using h1, h2⟩
theorem IsL.getV : ∀ {vs : List V} {ds : List D} {i : Nat} {v : V}, IsL K F vs ds → vs[i]? = some v → ∃ d, ds[i]? = some d ∧ Is K F v d
  | _, _, _, _, .nil, e => by simp at e
  | _, _, 0, _, .cons h _, e => by
    simp at e
    subst e
    exact ⟨_, rfl, h⟩
  | _, _, i + 1, d, .cons _ t, e => by
    obtain ⟨v, h1, h2⟩ := IsL.getV (i := i) (v := d) t (by simpa using e)
    exact ⟨v, by simpa using h1, h2⟩
theorem IsL.append : ∀ {vs ws : List V} {ds es : List D}, IsL K F vs ds → IsL K F ws es → IsL K F (vs ++ ws) (ds ++ es)
  | _, _, _, _, .nil, h => h
  | _, _, _, _, .cons h l, k => .cons h (IsL.append l k)
theorem IsL.take : ∀ {vs : List V} {ds : List D} (n : Nat), IsL K F vs ds → IsL K F (vs.take n) (ds.take n)
  | _, _, 0, _ => .nil
  | _, _, _ + 1, .nil => .nil
  | _, _, n + 1, .cons h l => .cons h (IsL.take n l)
theorem IsL.drop : ∀ {vs : List V} {ds : List D} (n : Nat), IsL K F vs ds → IsL K F (vs.drop n) (ds.drop n)
  | _, _, 0, h => h
  | _, _, _ + 1, .nil => .nil
  | _, _, n + 1, .cons _ l => IsL.drop n l
theorem IsL.reverse {vs : List V} {ds : List D} (h : IsL K F vs ds) : IsL K F vs.reverse ds.reverse := by
  induction vs generalizing ds with
  | nil =>
    cases h
    exact .nil
  | cons v vs ih =>
    cases h with
    | cons h l =>
      rw [List.reverse_cons, List.reverse_cons]
      exact (ih l).append (.cons h .nil)
theorem IsL.set {v : V} {d : D} (h : Is K F v d) : ∀ {vs : List V} {ds : List D} (i : Nat), IsL K F vs ds → IsL K F (vs.set i v) (ds.set i d)
  | _, _, _, .nil => .nil
  | _, _, 0, .cons _ l => .cons h l
  | _, _, i + 1, .cons k l => .cons k (IsL.set h i l)
theorem IsL.eraseIdx : ∀ {vs : List V} {ds : List D} (i : Nat), IsL K F vs ds → IsL K F (vs.eraseIdx i) (ds.eraseIdx i)
  | _, _, _, .nil => .nil
  | _, _, 0, .cons _ l => l
  | _, _, i + 1, .cons k l => .cons k (IsL.eraseIdx i l)
theorem IsL.dropLast : ∀ {vs : List V} {ds : List D}, IsL K F vs ds → IsL K F vs.dropLast ds.dropLast
  | _, _, .nil => .nil
  | _, _, .cons _ .nil => .nil
  | _, _, .cons h (.cons k l) => .cons h (IsL.dropLast (.cons k l))
theorem IsL.ints : ∀ {vs : List V} {ns : List Int}, IsL K F vs (ns.map D.int) → vs = ns.map V.int
  | vs, [], h => by
    cases h
    rfl
  | vs, n :: ns, h => by
    cases h with
    | cons h l =>
      cases h
      rw [IsL.ints l]
      rfl
theorem IsL.of_ints : ∀ (ns : List Int), IsL K F (ns.map V.int) (ns.map D.int)
  | [] => .nil
  | n :: ns => .cons (.int n) (IsL.of_ints ns)
theorem IsL.bls : ∀ {vs : List V} {bs : List Bool}, IsL K F vs (bs.map D.bl) → vs = bs.map V.bl
  | vs, [], h => by
    cases h
    rfl
  | vs, n :: ns, h => by
    cases h with
    | cons h l =>
      cases h
      rw [IsL.bls l]
      rfl
end



/-! ### mutable objects, boxes -/
inductive MO where
  | lst (xs : List D)
  | ins (C : Addr) (ns : List Str) (xs : List D)
  | dK (ks : List Key) (xs : List D)
abbrev Mm := List (Addr × MO)
def MOk (K : PySem.W.Frag) (F H : Hp) (a : Addr) : MO → Prop
  | .lst xs => ∃ vs, H a = some (.lst vs) ∧ IsL K F vs xs
  | .ins C ns xs => ∃ dx fs, H a = some (.ins C dx fs) ∧ fs.map (·.1) = ns ∧ IsL K F (fs.map (·.2)) xs
  | .dK ks xs => ∃ kv, H a = some (.dK kv) ∧ kv.map (·.1) = ks ∧ IsL K F (kv.map (·.2)) xs
/-- a hidden part of the heap: where the draws come from -/
structure Bx where
  fp : List Addr
  ok : Hp → Prop
  loc : ∀ {H H' : Hp}, (∀ a ∈ fp, H' a = H a) → ok H → ok H'
  low : ∀ {H : Hp}, ok H → ∀ a ∈ fp, ∃ o, H a = some o
def Bx.no : Bx := ⟨[], fun _ => True, fun _ _ => trivial, fun _ a h => absurd h (by simp)⟩
structure Hs (K : PySem.W.Frag) (B : Bx) (M : Mm) (F H : Hp) : Prop where
  sub : Same F H
  mem : ∀ p ∈ M, F p.1 = none ∧ p.1 ∉ B.fp ∧ MOk K F H p.1 p.2
  nd : (M.map (·.1)).Nodup
  box : B.ok H
  bfr : ∀ a ∈ B.fp, F a = none
abbrev Gm := List (Option D)
structure Vw (K : PySem.W.Frag) (F : Hp) (σ : St) (Γ : Gm) : Prop where
  len : σ.length = Γ.length
  get : ∀ (i : Nat) (d : D), Γ[i]? = some (some d) → ∃ v, σ[i]? = some (some v) ∧ Is K F v d
/-- one mutable object is changed -/
inductive Up : Mm → Addr → MO → MO → Mm → Prop
  | here {a : Addr} {o o' : MO} {M : Mm} : Up ((a, o) :: M) a o o' ((a, o') :: M)
  | there {q : Addr × MO} {M M' : Mm} {a : Addr} {o o' : MO} : Up M a o o' M' → Up (q :: M) a o o' (q :: M')
/-- one is taken out -/
inductive Dl : Mm → Addr → MO → Mm → Prop
  | here {a : Addr} {o : MO} {M : Mm} : Dl ((a, o) :: M) a o M
  | there {q : Addr × MO} {M M' : Mm} {a : Addr} {o : MO} : Dl M a o M' → Dl (q :: M) a o (q :: M')
section
variable {K : PySem.W.Frag} {B : Bx} {M M' : Mm} {F F' H H' : Hp} {σ : St} {Γ : Gm} {a : Addr} {o o' : MO}
theorem Up.mem (u : Up M a o o' M') : (a, o) ∈ M := by
  induction u with
  | here => exact List.mem_cons_self
  | there _ ih => exact List.mem_cons_of_mem _ ih
theorem Up.keys (u : Up M a o o' M') : M'.map (·.1) = M.map (·.1) := by
  induction u with
  | here => rfl
  | there _ ih => rw [List.map_cons, List.map_cons, ih]
theorem Up.of (u : Up M a o o' M') (nd : (M.map (·.1)).Nodup) : ∀ q ∈ M', q = (a, o') ∨ (q ∈ M ∧ q.1 ≠ a) := by
  induction u with
  | here =>
    rename_i a o o' M
    intro q hq
    rw [List.map_cons, List.nodup_cons] at nd
    rcases List.mem_cons.mp hq with e | hq
    · exact .inl e
    · exact .inr ⟨List.mem_cons_of_mem _ hq, fun e => nd.1 (by rw [← e]; exact List.mem_map.mpr ⟨q, hq, rfl⟩)⟩
  | there v ih =>
    rename_i p M M' a o o'
    intro q hq
    rw [List.map_cons, List.nodup_cons] at nd
    rcases List.mem_cons.mp hq with e | hq
    · subst e
      exact .inr ⟨List.mem_cons_self, fun e => nd.1 (by rw [e]; exact List.mem_map_of_mem v.mem)⟩
    · rcases ih nd.2 q hq with e | ⟨h1, h2⟩
      · exact .inl e
      · exact .inr ⟨List.mem_cons_of_mem _ h1, h2⟩
theorem Dl.mem (u : Dl M a o M') : (a, o) ∈ M := by
  induction u with
  | here => exact List.mem_cons_self
  | there _ ih => exact List.mem_cons_of_mem _ ih
theorem Dl.sub (u : Dl M a o M') : M'.Sublist M := by
  induction u with
  | here => exact List.sublist_cons_self _ _
  | there _ ih => exact ih.cons_cons _
theorem Dl.ne (u : Dl M a o M') (nd : (M.map (·.1)).Nodup) : ∀ q ∈ M', q.1 ≠ a := by
  induction u with
  | here =>
    intro q hq e
    rw [List.map_cons, List.nodup_cons] at nd
    exact nd.1 (by rw [← e]; exact List.mem_map.mpr ⟨q, hq, rfl⟩)
  | there v ih =>
    intro q hq e
    rw [List.map_cons, List.nodup_cons] at nd
    rcases List.mem_cons.mp hq with e' | hq
    · subst e'
      exact nd.1 (by rw [e]; exact List.mem_map_of_mem v.mem)
    · exact ih nd.2 q hq e
theorem MOk.mono (e : Same F F') : ∀ {o : MO}, MOk K F H a o → MOk K F' H a o
  | .lst _, ⟨vs, h, l⟩ => ⟨vs, h, l.mono e⟩
  | .ins _ _ _, ⟨dx, fs, h, k, l⟩ => ⟨dx, fs, h, k, l.mono e⟩
  | .dK _ _, ⟨kv, h, k, l⟩ => ⟨kv, h, k, l.mono e⟩
theorem MOk.at (e : H' a = H a) : ∀ {o : MO}, MOk K F H a o → MOk K F H' a o
  | .lst _, ⟨vs, h, l⟩ => ⟨vs, e.trans h, l⟩
  | .ins _ _ _, ⟨dx, fs, h, k, l⟩ => ⟨dx, fs, e.trans h, k, l⟩
  | .dK _ _, ⟨kv, h, k, l⟩ => ⟨kv, e.trans h, k, l⟩
theorem MOk.there : ∀ {o : MO}, MOk K F H a o → ∃ u, H a = some u
  | .lst _, ⟨_, h, _⟩ => ⟨_, h⟩
  | .ins _ _ _, ⟨_, _, h, _⟩ => ⟨_, h⟩
  | .dK _ _, ⟨_, h, _⟩ => ⟨_, h⟩
theorem Vw.mono (e : Same F F') (v : Vw K F σ Γ) : Vw K F' σ Γ := ⟨v.len, fun i d h => let ⟨x, h1, h2⟩ := v.get i d h; ⟨x, h1, h2.mono e⟩⟩
theorem Vw.set (v : Vw K F σ Γ) {x : V} {d : D} (h : Is K F x d) (i : Nat) : Vw K F (σ.set i (some x)) (Γ.set i (some d)) := by
  refine ⟨by rw [List.length_set, List.length_set, v.len], fun j e hj => ?_⟩
  by_cases hi : i = j
  · subst hi
    by_cases hl : i < Γ.length
    · rw [List.getElem?_set_self hl] at hj
      cases hj
      exact ⟨x, by rw [List.getElem?_set_self (by rw [v.len]; exact hl)], h⟩
    · rw [List.getElem?_eq_none (by rw [List.length_set]; omega)] at hj
      cases hj
  · rw [List.getElem?_set_ne hi] at hj ⊢
    exact v.get j e hj
theorem Vw.unset (v : Vw K F σ Γ) (i : Nat) : Vw K F σ (Γ.set i none) := by
  refine ⟨by rw [List.length_set, v.len], fun j e hj => ?_⟩
  by_cases hi : i = j
  · subst hi
    by_cases hl : i < Γ.length
    · rw [List.getElem?_set_self hl] at hj
      cases hj
    · rw [List.getElem?_eq_none (by rw [List.length_set]; omega)] at hj
      cases hj
  · rw [List.getElem?_set_ne hi] at hj
    exact v.get j e hj
theorem Vw.gone (v : Vw K F σ Γ) (i : Nat) : Vw K F (σ.set i none) (Γ.set i none) := by
  refine ⟨by rw [List.length_set, List.length_set, v.len], fun j e hj => ?_⟩
  by_cases hi : i = j
  · subst hi
    by_cases hl : i < Γ.length
    · rw [List.getElem?_set_self hl] at hj
      cases hj
    · rw [List.getElem?_eq_none (by rw [List.length_set]; omega)] at hj
      cases hj
  · rw [List.getElem?_set_ne hi] at hj ⊢
    exact v.get j e hj
/-- slots forgotten -/
def wipeG (Γ : Gm) : List Nat → Gm
  | [] => Γ
  | v :: vs => (wipeG Γ vs).set v none
theorem Vw.wipe (v : Vw K F σ Γ) : ∀ vs : List Nat, Vw K F (L2.wipe σ vs) (wipeG Γ vs)
  | [] => v
  | i :: vs => (Vw.wipe v vs).gone i

theorem upd_same_ext {p : Addr} {o : HO} (n : F p = none) : Same F (upd F p o) := fun b u q => by
  rw [upd_ne (ne_of_none q n)]
  exact q
theorem Hs.free (h : Hs K B M F H) {p : Addr} (n : H p = none) : F p = none := h.sub.free n
theorem Hs.boxNe (h : Hs K B M F H) {p : Addr} (n : H p = none) : p ∉ B.fp := fun hp => by
  obtain ⟨o, e⟩ := B.low h.box p hp
  rw [n] at e
  cases e
theorem Hs.memNe (h : Hs K B M F H) {p : Addr} (n : H p = none) : ∀ q ∈ M, q.1 ≠ p := fun q hq e => by
  obtain ⟨_, _, m⟩ := h.mem q hq
  obtain ⟨u, hu⟩ := m.there
  rw [e, n] at hu
  cases hu
theorem box_upd {p : Addr} {o : HO} (hp : p ∉ B.fp) (b : B.ok H) : B.ok (upd H p o) := B.loc (fun a ha => upd_ne fun e => hp (by rw [← e]; exact ha)) b
/-- a new immutable object -/
theorem Hs.laid {p : Addr} {o : HO} (h : Hs K B M F H) (n : H p = none) : Hs K B M (upd F p o) (upd H p o) := by
  have nf : F p = none := h.free n
  refine ⟨fun b u q => ?_, fun q hq => ?_, h.nd, box_upd (h.boxNe n) h.box, fun c hc => ?_⟩
  · by_cases e : b = p
    · subst e
      rw [upd_same] at q ⊢
      exact q
    · rw [upd_ne e] at q ⊢
      exact h.sub b u q
  · obtain ⟨m1, m2, m3⟩ := h.mem q hq
    have ne : q.1 ≠ p := h.memNe n q hq
    exact ⟨by rw [upd_ne ne]; exact m1, m2, (m3.at (H' := upd H p o) (upd_ne ne)).mono (upd_same_ext nf)⟩
  · rw [upd_ne fun e => h.boxNe n (by rw [← e]; exact hc)]
    exact h.bfr c hc
/-- a new object that nobody speaks of -/
theorem Hs.over {p : Addr} {o : HO} (h : Hs K B M F H) (n : H p = none) : Hs K B M F (upd H p o) :=
  ⟨fun b u q => by rw [upd_ne (ne_of_none q (h.free n))]; exact h.sub b u q, fun q hq => let ⟨m1, m2, m3⟩ := h.mem q hq; ⟨m1, m2, m3.at (upd_ne (h.memNe n q hq))⟩, h.nd, box_upd (h.boxNe n) h.box, h.bfr⟩
/-- a new mutable object -/
theorem Hs.newM {p : Addr} {u : HO} (h : Hs K B M F H) (n : H p = none) (m : MOk K F (upd H p u) p o) : Hs K B ((p, o) :: M) F (upd H p u) := by
  refine ⟨(h.over n).sub, fun q hq => ?_, ?_, (h.over n).box, h.bfr⟩
  · rcases List.mem_cons.mp hq with e | hq
    · subst e
      exact ⟨h.free n, h.boxNe n, m⟩
    · exact (h.over n).mem q hq
  · rw [List.map_cons, List.nodup_cons]
    refine ⟨fun hm => ?_, h.nd⟩
    obtain ⟨q, hq, e⟩ := List.mem_map.mp hm
    exact h.memNe n q hq e
/-- a mutable object written -/
theorem Hs.put {u : HO} (h : Hs K B M F H) (up : Up M a o o' M') (m : MOk K F (upd H a u) a o') : Hs K B M' F (upd H a u) := by
  obtain ⟨m1, m2, m3⟩ := h.mem _ up.mem
  refine ⟨fun b v q => ?_, fun q hq => ?_, by rw [up.keys]; exact h.nd, box_upd m2 h.box, h.bfr⟩
  · rw [upd_ne (ne_of_none q m1)]
    exact h.sub b v q
  · rcases up.of h.nd q hq with e | ⟨h1, h2⟩
    · subst e
      exact ⟨m1, m2, m⟩
    · obtain ⟨k1, k2, k3⟩ := h.mem q h1
      exact ⟨k1, k2, k3.at (upd_ne h2)⟩
theorem Hs.less (h : Hs K B M F H) (s : M'.Sublist M) : Hs K B M' F H :=
  ⟨h.sub, fun q hq => h.mem q (s.subset hq), h.nd.sublist (s.map _), h.box, h.bfr⟩
theorem Hs.lst {xs : List D} (h : Hs K B M F H) (m : (a, MO.lst xs) ∈ M) : ∃ vs, H a = some (.lst vs) ∧ IsL K F vs xs := (h.mem _ m).2.2
/-- a mutable list is left as it is from here on -/
theorem Hs.freeze {xs : List D} (h : Hs K B M F H) (d : Dl M a (.lst xs) M') : ∃ F', Same F F' ∧ Hs K B M' F' H ∧ Is K F' (.ref a) (.lst xs) := by
  obtain ⟨m1, m2, vs, e, l⟩ := h.mem _ d.mem
  have s : Same F (upd F a (.lst vs)) := upd_same_ext m1
  refine ⟨upd F a (.lst vs), s, ⟨fun b u q => ?_, fun q hq => ?_, h.nd.sublist (d.sub.map _), h.box, fun c hc => ?_⟩, .lst (.inl (.inl upd_same)) (l.mono s)⟩
  · by_cases eb : b = a
    · subst eb
      rw [upd_same] at q
      rw [e]
      exact q
    · rw [upd_ne eb] at q
      exact h.sub b u q
  · obtain ⟨k1, k2, k3⟩ := h.mem q (d.sub.subset hq)
    have ne := d.ne h.nd q hq
    exact ⟨by rw [upd_ne ne]; exact k1, k2, k3.mono s⟩
  · rw [upd_ne fun e => m2 (by rw [← e]; exact hc)]
    exact h.bfr c hc
/-- an instance is left as it is from here on -/
theorem Hs.freezeI {C : Addr} {ns : List Str} {xs : List D} (h : Hs K B M F H) (d : Dl M a (.ins C ns xs) M') : ∃ F', Same F F' ∧ Hs K B M' F' H ∧ Is K F' (.ref a) (.ins C ns xs) := by
  obtain ⟨m1, m2, dx, fs, e, hn, l⟩ := h.mem _ d.mem
  have s : Same F (upd F a (.ins C dx fs)) := upd_same_ext m1
  refine ⟨upd F a (.ins C dx fs), s, ⟨fun b u q => ?_, fun q hq => ?_, h.nd.sublist (d.sub.map _), h.box, fun c hc => ?_⟩, by subst hn; exact .ins upd_same (l.mono s)⟩
  · by_cases eb : b = a
    · subst eb
      rw [upd_same] at q
      rw [e]
      exact q
    · rw [upd_ne eb] at q
      exact h.sub b u q
  · obtain ⟨k1, k2, k3⟩ := h.mem q (d.sub.subset hq)
    have ne := d.ne h.nd q hq
    exact ⟨by rw [upd_ne ne]; exact k1, k2, k3.mono s⟩
  · rw [upd_ne fun e => m2 (by rw [← e]; exact hc)]
    exact h.bfr c hc
end

/-! ### what is forgotten, frozen between two statements -/
inductive Fz : Gm → Mm → Gm → Mm → Prop
  | refl {Γ : Gm} {M : Mm} : Fz Γ M Γ M
  | lst {Γ Γ' : Gm} {M M1 M' : Mm} {a : Addr} {xs : List D} (i : Nat) : Γ[i]? = some (some (.ref a)) → Dl M a (.lst xs) M1 → Fz (Γ.set i (some (.lst xs))) M1 Γ' M' → Fz Γ M Γ' M'
  | ins {Γ Γ' : Gm} {M M1 M' : Mm} {a C : Addr} {ns : List Str} {xs : List D} (i : Nat) : Γ[i]? = some (some (.ref a)) → Dl M a (.ins C ns xs) M1 → Fz (Γ.set i (some (.ins C ns xs))) M1 Γ' M' → Fz Γ M Γ' M'
  | no {Γ Γ' : Gm} {M M' : Mm} (i : Nat) : Fz (Γ.set i none) M Γ' M' → Fz Γ M Γ' M'
  | less {Γ Γ' : Gm} {M M1 M' : Mm} : M1.Sublist M → Fz Γ M1 Γ' M' → Fz Γ M Γ' M'

/-! ### exceptions, contexts -/
structure XD where
  C : Addr
  x : D
def XIs (K : PySem.W.Frag) (F : Hp) (cls : Value) (d : Option Addr) (x : XD) : Prop := cls = .ref x.C ∧ ∃ dd v, d = some dd ∧ F dd = some (.xd [("at", v)]) ∧ Is K F v x.x
abbrev AX := XD → Gm → Mm → Prop
/-- the hidden part, the wish about exceptions and its reading -/
structure Ct where
  B : Bx
  W : WX
  Ψ : AX
def Lk (K : PySem.W.Frag) (T : Ct) (F : Hp) : Prop := ∀ x cls d Γ M σ F' H, Same F F' → Vw K F' σ Γ → Hs K T.B M F' H → XIs K F' cls d x → T.Ψ x Γ M → T.W cls d σ H
theorem Lk.mono {K : PySem.W.Frag} {T : Ct} {F F' : Hp} (e : Same F F') (l : Lk K T F) : Lk K T F' := fun x cls d Γ M σ F1 H s => l x cls d Γ M σ F1 H (e.trans s)
/-- nothing is raised -/
def Ct.calm (B : Bx) : Ct := ⟨B, fun _ _ _ _ => False, fun _ _ _ => False⟩
theorem lk_calm {K : PySem.W.Frag} {B : Bx} {F : Hp} : Lk K (Ct.calm B) F := fun _ _ _ _ _ _ _ _ _ _ _ _ z => z

/-! ### readings over data -/
abbrev AK := D → Mm → Prop
abbrev AE := Gm → Mm → AK → Prop
abbrev AT := Gm → Mm → (Bool → Mm → Prop) → Prop
abbrev AA := Gm → Mm → (List D → Mm → Prop) → Prop
structure AEnds where
  nx : Gm → Mm → Prop
  rt : AK
  bk : Gm → Mm → Prop := fun _ _ => False
  ct : Gm → Mm → Prop := fun _ _ => False
abbrev AS := AEnds → Gm → Mm → Prop

/-- a state is seen -/
structure See (K : PySem.W.Frag) (T : Ct) (F : Hp) (σ : St) (H : Hp) (Γ : Gm) (M : Mm) : Prop where
  v : Vw K F σ Γ
  h : Hs K T.B M F H
  l : Lk K T F
def cE (K : PySem.W.Frag) (T : Ct) (ta : AE) : TE := fun σ H Q => ∃ F Γ M Φ, See K T F σ H Γ M ∧ ta Γ M Φ ∧ ∀ d M' v F' H', Same F F' → Hs K T.B M' F' H' → Is K F' v d → Φ d M' → Q v H'
def cT (K : PySem.W.Frag) (T : Ct) (ta : AT) : TT := fun σ H Q => ∃ F Γ M Φ, See K T F σ H Γ M ∧ ta Γ M Φ ∧ ∀ b M' F' H', Same F F' → Hs K T.B M' F' H' → Φ b M' → Q b H'
def cA (K : PySem.W.Frag) (T : Ct) (ta : AA) : TA := fun σ H Q => ∃ F Γ M Φ, See K T F σ H Γ M ∧ ta Γ M Φ ∧ ∀ ds M' vs F' H', Same F F' → Hs K T.B M' F' H' → IsL K F' vs ds → Φ ds M' → Q vs H'
def cS (K : PySem.W.Frag) (T : Ct) (ta : AS) : TS := fun D σ H => ∃ F Γ M A, See K T F σ H Γ M ∧ ta A Γ M ∧
  (∀ Γ' M' σ' F' H', Same F F' → Vw K F' σ' Γ' → Hs K T.B M' F' H' → A.nx Γ' M' → D.nx σ' H') ∧
  (∀ d M' v F' H', Same F F' → Hs K T.B M' F' H' → Is K F' v d → A.rt d M' → D.rt v H') ∧
  (∀ Γ' M' σ' F' H', Same F F' → Vw K F' σ' Γ' → Hs K T.B M' F' H' → A.bk Γ' M' → D.bk σ' H') ∧
  (∀ Γ' M' σ' F' H', Same F F' → Vw K F' σ' Γ' → Hs K T.B M' F' H' → A.ct Γ' M' → D.ct σ' H')
def DE (X : Cx) (T : Ct) (e : Expr) (ta : AE) : Prop := PE X e (cE X.K T ta)
def DT (X : Cx) (T : Ct) (e : Expr) (ta : AT) : Prop := PT X e (cT X.K T ta)
def DW (X : Cx) (T : Ct) (e : Expr) (ta : AT) : Prop := PW X e (cT X.K T ta)
def DA (X : Cx) (T : Ct) (es : List Expr) (ta : AA) : Prop := PA X es (cA X.K T ta)
def DS (X : Cx) (T : Ct) (st : Stmt) (ta : AS) : Prop := PS X st (cS X.K T ta)
def DSs (X : Cx) (T : Ct) (st : List Stmt) (ta : AS) : Prop := PSs X st (cS X.K T ta)

section
variable {X : Cx} {T : Ct} {e a b c : Expr} {pos : Pos} {K : PySem.W.Frag} {F F' F1 H H' H1 : Hp} {σ : St} {Γ : Gm} {M M' : Mm}
theorem See.go (s : See K T F σ H Γ M) (e : Same F F') (h : Hs K T.B M' F' H') : See K T F' σ H' Γ M' := ⟨s.v.mono e, h, s.l.mono e⟩
theorem de_of {t : TE} {ta : AE} (h : PE X e t) (k : ∀ F σ H Γ M Φ Q, See X.K T F σ H Γ M → ta Γ M Φ → (∀ d M' v F' H', Same F F' → Hs X.K T.B M' F' H' → Is X.K F' v d → Φ d M' → Q v H') → t σ H Q) : DE X T e ta :=
  ⟨fun pins s σ H Q I ⟨F, Γ, M, Φ, w, q, z⟩ => h.run pins s σ H Q I (k F σ H Γ M Φ Q w q z)⟩
theorem dt_of {t : TT} {ta : AT} (h : PT X e t) (k : ∀ F σ H Γ M Φ Q, See X.K T F σ H Γ M → ta Γ M Φ → (∀ d M' F' H', Same F F' → Hs X.K T.B M' F' H' → Φ d M' → Q d H') → t σ H Q) : DT X T e ta :=
  ⟨fun pins s σ H Q I ⟨F, Γ, M, Φ, w, q, z⟩ => h.run pins s σ H Q I (k F σ H Γ M Φ Q w q z)⟩
theorem dw_of {t : TT} {ta : AT} (h : PW X e t) (k : ∀ F σ H Γ M Φ Q, See X.K T F σ H Γ M → ta Γ M Φ → (∀ d M' F' H', Same F F' → Hs X.K T.B M' F' H' → Φ d M' → Q d H') → t σ H Q) : DW X T e ta :=
  ⟨fun wh pins s σ H Q I ⟨F, Γ, M, Φ, w, q, z⟩ => h.run wh pins s σ H Q I (k F σ H Γ M Φ Q w q z)⟩
theorem da_of {es : List Expr} {t : TA} {ta : AA} (h : PA X es t) (k : ∀ F σ H Γ M Φ Q, See X.K T F σ H Γ M → ta Γ M Φ → (∀ d M' v F' H', Same F F' → Hs X.K T.B M' F' H' → IsL X.K F' v d → Φ d M' → Q v H') → t σ H Q) : DA X T es ta :=
  ⟨fun pos pins s σ H Q I ⟨F, Γ, M, Φ, w, q, z⟩ => h.run pos pins s σ H Q I (k F σ H Γ M Φ Q w q z)⟩
/-- the ends are met -/
structure Met (K : PySem.W.Frag) (T : Ct) (F : Hp) (A : AEnds) (D : Ends) : Prop where
  nx : ∀ Γ' M' σ' F' H', Same F F' → Vw K F' σ' Γ' → Hs K T.B M' F' H' → A.nx Γ' M' → D.nx σ' H'
  rt : ∀ d M' v F' H', Same F F' → Hs K T.B M' F' H' → Is K F' v d → A.rt d M' → D.rt v H'
  bk : ∀ Γ' M' σ' F' H', Same F F' → Vw K F' σ' Γ' → Hs K T.B M' F' H' → A.bk Γ' M' → D.bk σ' H'
  ct : ∀ Γ' M' σ' F' H', Same F F' → Vw K F' σ' Γ' → Hs K T.B M' F' H' → A.ct Γ' M' → D.ct σ' H'
theorem Met.mono {A : AEnds} {D : Ends} (e : Same F F') (m : Met K T F A D) : Met K T F' A D :=
  ⟨fun Γ M σ F1 H s => m.nx Γ M σ F1 H (e.trans s), fun d M v F1 H s => m.rt d M v F1 H (e.trans s), fun Γ M σ F1 H s => m.bk Γ M σ F1 H (e.trans s), fun Γ M σ F1 H s => m.ct Γ M σ F1 H (e.trans s)⟩
theorem cS_mk {ta : AS} {A : AEnds} {D : Ends} (s : See K T F σ H Γ M) (q : ta A Γ M) (m : Met K T F A D) : cS K T ta D σ H := ⟨F, Γ, M, A, s, q, m.nx, m.rt, m.bk, m.ct⟩
theorem ds_of {st : Stmt} {t : TS} {ta : AS} (h : PS X st t) (k : ∀ F σ H Γ M A D, See X.K T F σ H Γ M → ta A Γ M → Met X.K T F A D → t D σ H) : DS X T st ta :=
  ⟨fun pins s σ H D I ⟨F, Γ, M, A, w, q, m1, m2, m3, m4⟩ => h.run pins s σ H D I (k F σ H Γ M A D w q ⟨m1, m2, m3, m4⟩)⟩
theorem dss_of {st : List Stmt} {t : TS} {ta : AS} (h : PSs X st t) (k : ∀ F σ H Γ M A D, See X.K T F σ H Γ M → ta A Γ M → Met X.K T F A D → t D σ H) : DSs X T st ta :=
  ⟨fun pins s σ H D I ⟨F, Γ, M, A, w, q, m1, m2, m3, m4⟩ => h.run pins s σ H D I (k F σ H Γ M A D w q ⟨m1, m2, m3, m4⟩)⟩

/-! ### names, constants -/
def aVar (i : Nat) (Γ : Gm) (M : Mm) (Φ : AK) : Prop := onSlot Γ[i]? fun d => Φ d M
def aC (d : D) (Γ : Gm) (M : Mm) (Φ : AK) : Prop := Φ d M
theorem de_var {i : Nat} (h : PE X e (tVar i)) : DE X T e (aVar i) := de_of h fun F σ H Γ M Φ Q w q z => by
  unfold aVar onSlot at q
  split at q
  · rename_i d hd
    obtain ⟨x, h1, h2⟩ := w.v.get i d hd
    exact ⟨x, h1, z d M x F H (Same.refl F) w.h h2 q⟩
  · exact q.elim
theorem dv (i : Nat) {x : Str} {pos : Pos} (hN : X.N[i]? = some x := by rfl) (hv : Vis X.env.scope x := by first | exact Or.inl rfl | exact Or.inr (Or.inl rfl) | exact Or.inr (Or.inr rfl)) (hd : (x == ("__debug__" : Str)) = false := by decide)
    (hcd : (x == ("__classdict__" : Str)) = false := by decide) : DE X T (.Name x pos) (aVar i) := de_var (pe_var hN hv hd hcd)
theorem de_c {v : V} {d : D} (h : PE X e (tC v)) (i : ∀ F, Is X.K F v d) : DE X T e (aC d) := de_of h fun F σ H Γ M Φ Q w q z => z d M v F H (Same.refl F) w.h (i F) q
theorem de_int {i : Int} {j pos} : DE X T (.Constant (.int i) j pos) (aC (.int i)) := de_c pe_int fun _ => .int i
theorem de_bl {b : Bool} {j pos} : DE X T (.Constant (.bool b) j pos) (aC (.bl b)) := de_c pe_bl fun _ => .bl b
theorem de_non {j pos} : DE X T (.Constant .none j pos) (aC .non) := de_c pe_non fun _ => .non
theorem de_str {x : Str} {j pos} : DE X T (.Constant (.str x) j pos) (aC (.str x)) := de_c pe_str fun _ => .str x

/-! ### operators -/
abbrev A2 := D → D → Mm → AK → Prop
/-- an operation on values, read on data -/
def Ab2 (K : PySem.W.Frag) (B : Bx) (r : R2) (f : A2) : Prop := ∀ F H x y d g M Φ Q, Hs K B M F H → Is K F x d → Is K F y g → f d g M Φ → (∀ z M' v F' H', Same F F' → Hs K B M' F' H' → Is K F' v z → Φ z M' → Q v H') → r x y H Q
abbrev A1 := D → Mm → AK → Prop
def Ab1 (K : PySem.W.Frag) (B : Bx) (r : V → Hp → VK → Prop) (f : A1) : Prop := ∀ F H x d M Φ Q, Hs K B M F H → Is K F x d → f d M Φ → (∀ z M' v F' H', Same F F' → Hs K B M' F' H' → Is K F' v z → Φ z M' → Q v H') → r x H Q
abbrev AL := List D → Mm → AK → Prop
def AbL (K : PySem.W.Frag) (B : Bx) (r : List V → Hp → VK → Prop) (f : AL) : Prop := ∀ F H xs ds M Φ Q, Hs K B M F H → IsL K F xs ds → f ds M Φ → (∀ z M' v F' H', Same F F' → Hs K B M' F' H' → Is K F' v z → Φ z M' → Q v H') → r xs H Q
def aOp (f : A2) (ta tb : AE) (Γ : Gm) (M : Mm) (Φ : AK) : Prop := ta Γ M fun d M1 => tb Γ M1 fun g M2 => f d g M2 Φ
def aUn (f : A1) (ta : AE) (Γ : Gm) (M : Mm) (Φ : AK) : Prop := ta Γ M fun d M1 => f d M1 Φ
variable {ta tb tc : AE}
theorem cE_mk {Q : VK} {Φ : AK} (s : See K T F σ H Γ M) (q : ta Γ M Φ) (z : ∀ d M' v F' H', Same F F' → Hs K T.B M' F' H' → Is K F' v d → Φ d M' → Q v H') : cE K T ta σ H Q := ⟨F, Γ, M, Φ, s, q, z⟩
theorem op_go {r : R2} {f : A2} {Q : VK} {Φ : AK} (hr : Ab2 K T.B r f) (w : See K T F σ H Γ M) (q : aOp f ta tb Γ M Φ) (z : ∀ d M' v F' H', Same F F' → Hs K T.B M' F' H' → Is K F' v d → Φ d M' → Q v H') : tOp r (cE K T ta) (cE K T tb) σ H Q :=
  cE_mk w q fun d M1 x F1 H1 s1 h1 i1 q1 => cE_mk (w.go s1 h1) q1 fun g M2 y F2 H2 s2 h2 i2 q2 => hr F2 H2 x y d g M2 Φ Q h2 (i1.mono s2) i2 q2 fun d M3 v F3 H3 s3 h3 i3 q3 => z d M3 v F3 H3 ((s1.trans s2).trans s3) h3 i3 q3
theorem de_op {op : Operator} {r : R2} {f : A2} (ho : OpR X (binaryOp op) r) (hr : Ab2 X.K T.B r f) (ha : DE X T a ta) (hb : DE X T b tb) : DE X T (.BinOp a op b pos) (aOp f ta tb) :=
  de_of (pe_op ho ha hb) fun F σ H Γ M Φ Q w q z => op_go hr w q z
theorem de_cmp {op : CmpOp} {r : R2} {f : A2} (ho : OpR X (compareOp op) r) (hr : Ab2 X.K T.B r f) (ha : DE X T a ta) (hb : DE X T b tb) (hm : behindInMarks op b = false := by first | exact nomark _ | rfl) : DE X T (.Compare a [op] [b] pos) (aOp f ta tb) :=
  de_of (pe_cmpR ho ha hb hm) fun F σ H Γ M Φ Q w q z => op_go hr w q z
theorem de_un {op : UnaryOp} {r : V → Hp → VK → Prop} {f : A1} (ho : UnR X (unaryOp op) r) (hr : Ab1 X.K T.B r f) (ha : DE X T a ta) : DE X T (.UnaryOp op a pos) (aUn f ta) :=
  de_of (pe_un ho ha) fun F σ H Γ M Φ Q w q z => cE_mk w q fun d M1 x F1 H1 s1 h1 i1 q1 => hr F1 H1 x d M1 Φ Q h1 i1 q1 fun d M3 v F3 H3 s3 h3 i3 q3 => z d M3 v F3 H3 (s1.trans s3) h3 i3 q3
/-- x[i] -/
theorem de_ix {r : R2} {f : A2} (hi : IxR X r) (hr : Ab2 X.K T.B r f) (ha : DE X T a ta) (hb : DE X T b tb) (hs : PlainIx b := by exact fun _ _ => rfl) : DE X T (.Subscript a b pos) (aOp f ta tb) :=
  de_of (pe_ix hi ha hb hs) fun F σ H Γ M Φ Q w q z => op_go hr w q z
/-- a test -/
def aB_k (Φ : Bool → Mm → Prop)  (d : D) (M1 : Mm) : Prop := match d with
  | .bl b => Φ b M1
  | _ => False
def aB (ta : AE) (Γ : Gm) (M : Mm) (Φ : Bool → Mm → Prop) : Prop := ta Γ M fun d M1 => aB_k Φ d M1
theorem cE_b {Q : Bool → Hp → Prop} {Φ : Bool → Mm → Prop} (w : See K T F σ H Γ M) (q : aB ta Γ M Φ) (z : ∀ b M' F' H', Same F F' → Hs K T.B M' F' H' → Φ b M' → Q b H') : cE K T ta σ H fun x H1 => ∃ k, x = .bl k ∧ Q k H1 :=
  cE_mk w q fun d M1 x F1 H1 s1 h1 i1 q1 => by
    cases d with
    | bl b =>
      cases i1
      exact ⟨b, rfl, z b M1 F1 H1 s1 h1 q1⟩
    | _ => exact q1.elim
theorem dt_val {e : Expr} {te : AE} (h : DE X T e te) (he : ∀ whole, isTrue e X.env whole = (do let v ← whole; standAt e.pos; holding [v] (truthy v)) := by intro _; rfl) : DT X T e (aB te) :=
  dt_of (pt_val h he) fun F σ H Γ M Φ Q w q z => cE_b w q z
theorem dt_cmp {op : CmpOp} {r : R2} {f : A2} (ho : OpR X (compareOp op) r) (hr : Ab2 X.K T.B r f) (ha : DE X T a ta) (hb : DE X T b tb) (hm : behindInMarks op b = false := by first | exact nomark _ | rfl) : DT X T (.Compare a [op] [b] pos) (aB (aOp f ta tb)) :=
  dt_of (pt_cmpR ho ha hb hm) fun F σ H Γ M Φ Q w q z => op_go (Q := fun x H1 => ∃ k, x = .bl k ∧ Q k H1) hr w q fun d M1 x F1 H1 s1 h1 i1 q1 => by
    cases d with
    | bl b =>
      cases i1
      exact ⟨b, rfl, z b M1 F1 H1 s1 h1 q1⟩
    | _ => exact q1.elim
/-! ### and, or, not, if -/
variable {tA tB : AT}
def aAnd (t u : AT) (Γ : Gm) (M : Mm) (Φ : Bool → Mm → Prop) : Prop := t Γ M fun c M1 => (c = true → u Γ M1 Φ) ∧ (c = false → Φ false M1)
def aOr (t u : AT) (Γ : Gm) (M : Mm) (Φ : Bool → Mm → Prop) : Prop := t Γ M fun c M1 => (c = true → Φ true M1) ∧ (c = false → u Γ M1 Φ)
def aNot (t : AT) (Γ : Gm) (M : Mm) (Φ : Bool → Mm → Prop) : Prop := t Γ M fun c M1 => Φ (!c) M1
theorem cT_mk {Q : Bool → Hp → Prop} {Φ : Bool → Mm → Prop} {t : AT} (s : See K T F σ H Γ M) (q : t Γ M Φ) (z : ∀ d M' F' H', Same F F' → Hs K T.B M' F' H' → Φ d M' → Q d H') : cT K T t σ H Q := ⟨F, Γ, M, Φ, s, q, z⟩
theorem dw_and1 (ha : DT X T a tA) : DW X T (.BoolOp .And [a] pos) tA := pw_and1 ha
theorem dw_or1 (ha : DT X T a tA) : DW X T (.BoolOp .Or [a] pos) tA := pw_or1 ha
theorem dw_and {rest : List Expr} (ha : DT X T a tA) (hb : DW X T (.BoolOp .And (b :: rest) pos) tB) : DW X T (.BoolOp .And (a :: b :: rest) pos) (aAnd tA tB) :=
  dw_of (pw_and ha hb) fun F σ H Γ M Φ Q w q z => cT_mk w q fun c M1 F1 H1 s1 h1 q1 => by
    cases c with
    | true => exact cT_mk (w.go s1 h1) (q1.1 rfl) fun d M2 F2 H2 s2 h2 q2 => z d M2 F2 H2 (s1.trans s2) h2 q2
    | false => exact z false M1 F1 H1 s1 h1 (q1.2 rfl)
theorem dw_or {rest : List Expr} (ha : DT X T a tA) (hb : DW X T (.BoolOp .Or (b :: rest) pos) tB) : DW X T (.BoolOp .Or (a :: b :: rest) pos) (aOr tA tB) :=
  dw_of (pw_or ha hb) fun F σ H Γ M Φ Q w q z => cT_mk w q fun c M1 F1 H1 s1 h1 q1 => by
    cases c with
    | true => exact z true M1 F1 H1 s1 h1 (q1.1 rfl)
    | false => exact cT_mk (w.go s1 h1) (q1.2 rfl) fun d M2 F2 H2 s2 h2 q2 => z d M2 F2 H2 (s1.trans s2) h2 q2
theorem dt_w (h : DW X T e tA) : DT X T e tA := h.pt
theorem dt_not (ha : DT X T a tA) : DT X T (.UnaryOp .Not a pos) (aNot tA) :=
  dt_of (pt_not ha) fun F σ H Γ M Φ Q w q z => cT_mk w q fun c M1 F1 H1 s1 h1 q1 => z (!c) M1 F1 H1 s1 h1 q1
/-- .. as values: bools -/
def aAndV_k (tb : AE) (Γ : Gm) (Φ : AK)  (d : D) (M1 : Mm) : Prop := match d with
  | .bl c => (c = true → tb Γ M1 Φ) ∧ (c = false → Φ (.bl false) M1)
  | _ => False
def aAndV (ta tb : AE) (Γ : Gm) (M : Mm) (Φ : AK) : Prop := ta Γ M fun d M1 => aAndV_k tb Γ Φ d M1
def aOrV_k (tb : AE) (Γ : Gm) (Φ : AK)  (d : D) (M1 : Mm) : Prop := match d with
  | .bl c => (c = true → Φ (.bl true) M1) ∧ (c = false → tb Γ M1 Φ)
  | _ => False
def aOrV (ta tb : AE) (Γ : Gm) (M : Mm) (Φ : AK) : Prop := ta Γ M fun d M1 => aOrV_k tb Γ Φ d M1
def aNotV_k (Φ : AK)  (d : D) (M1 : Mm) : Prop := match d with
  | .bl c => Φ (.bl (!c)) M1
  | _ => False
def aNotV (ta : AE) (Γ : Gm) (M : Mm) (Φ : AK) : Prop := ta Γ M fun d M1 => aNotV_k Φ d M1
theorem de_one {op} (h : DE X T a ta) : DE X T (.BoolOp op [a] pos) ta := pe_one h
theorem de_and {rest : List Expr} (ha : DE X T a ta) (hb : DE X T (.BoolOp .And (b :: rest) pos) tb) : DE X T (.BoolOp .And (a :: b :: rest) pos) (aAndV ta tb) :=
  de_of (pe_and ha hb) fun F σ H Γ M Φ Q w q z => cE_mk w q fun d M1 x F1 H1 s1 h1 i1 q1 => by
    cases d with
    | bl c =>
      cases i1
      refine ⟨c, rfl, ?_⟩
      cases c with
      | true => exact cE_mk (w.go s1 h1) (q1.1 rfl) fun d M2 v F2 H2 s2 h2 i2 q2 => z d M2 v F2 H2 (s1.trans s2) h2 i2 q2
      | false => exact z _ M1 _ F1 H1 s1 h1 (.bl false) (q1.2 rfl)
    | _ => exact q1.elim
theorem de_or {rest : List Expr} (ha : DE X T a ta) (hb : DE X T (.BoolOp .Or (b :: rest) pos) tb) : DE X T (.BoolOp .Or (a :: b :: rest) pos) (aOrV ta tb) :=
  de_of (pe_or ha hb) fun F σ H Γ M Φ Q w q z => cE_mk w q fun d M1 x F1 H1 s1 h1 i1 q1 => by
    cases d with
    | bl c =>
      cases i1
      refine ⟨c, rfl, ?_⟩
      cases c with
      | true => exact z _ M1 _ F1 H1 s1 h1 (.bl true) (q1.1 rfl)
      | false => exact cE_mk (w.go s1 h1) (q1.2 rfl) fun d M2 v F2 H2 s2 h2 i2 q2 => z d M2 v F2 H2 (s1.trans s2) h2 i2 q2
    | _ => exact q1.elim
theorem de_not (ha : DE X T a ta) : DE X T (.UnaryOp .Not a pos) (aNotV ta) :=
  de_of (pe_not ha) fun F σ H Γ M Φ Q w q z => cE_mk w q fun d M1 x F1 H1 s1 h1 i1 q1 => by
    cases d with
    | bl c =>
      cases i1
      exact ⟨c, rfl, z _ M1 _ F1 H1 s1 h1 (.bl (!c)) q1⟩
    | _ => exact q1.elim
/-- a if t else b -/
def aIf (t : AT) (ta tb : AE) (Γ : Gm) (M : Mm) (Φ : AK) : Prop := t Γ M fun c M1 => (c = true → ta Γ M1 Φ) ∧ (c = false → tb Γ M1 Φ)
theorem de_if (hc : DT X T c tA) (ha : DE X T a ta) (hb : DE X T b tb) : DE X T (.IfExp c a b pos) (aIf tA ta tb) :=
  de_of (pe_ifExp hc ha hb) fun F σ H Γ M Φ Q w q z => cT_mk w q fun c M1 F1 H1 s1 h1 q1 => by
    cases c with
    | true => exact cE_mk (w.go s1 h1) (q1.1 rfl) fun d M2 v F2 H2 s2 h2 i2 q2 => z d M2 v F2 H2 (s1.trans s2) h2 i2 q2
    | false => exact cE_mk (w.go s1 h1) (q1.2 rfl) fun d M2 v F2 H2 s2 h2 i2 q2 => z d M2 v F2 H2 (s1.trans s2) h2 i2 q2
/-- a < b < c -/
def aChain_k (g : A2) (tc : AE) (Γ : Gm) (Φ : AK) (e : D) (z : D) (M3 : Mm) : Prop := match z with
  | .bl k => (k = true → tc Γ M3 fun h M4 => g e h M4 Φ) ∧ (k = false → Φ (.bl false) M3)
  | _ => False
def aChain (f g : A2) (ta tb tc : AE) (Γ : Gm) (M : Mm) (Φ : AK) : Prop := ta Γ M fun d M1 => tb Γ M1 fun e M2 => f d e M2 fun z M3 => aChain_k g tc Γ Φ e z M3
/-! ### argument lists, tuples, lists -/
def aNil (Γ : Gm) (M : Mm) (Φ : List D → Mm → Prop) : Prop := Φ [] M
def aCons (ta : AE) (tr : AA) (Γ : Gm) (M : Mm) (Φ : List D → Mm → Prop) : Prop := ta Γ M fun d M1 => tr Γ M1 fun ds M2 => Φ (d :: ds) M2
variable {es : List Expr} {tr : AA}
theorem cA_mk {Q : List V → Hp → Prop} {Φ : List D → Mm → Prop} (s : See K T F σ H Γ M) (q : tr Γ M Φ) (z : ∀ d M' v F' H', Same F F' → Hs K T.B M' F' H' → IsL K F' v d → Φ d M' → Q v H') : cA K T tr σ H Q := ⟨F, Γ, M, Φ, s, q, z⟩
theorem da_nil : DA X T [] aNil := da_of pa_nil fun F σ H Γ M Φ Q w q z => z [] M [] F H (Same.refl F) w.h .nil q
theorem da_cons (ha : DE X T e ta) (hr : DA X T es tr) (hs : starEach (e :: es) X.env = (false, eval e X.env) :: starEach es X.env := by rfl) : DA X T (e :: es) (aCons ta tr) :=
  da_of (pa_cons ha hr hs) fun F σ H Γ M Φ Q w q z => cE_mk w q fun d M1 x F1 H1 s1 h1 i1 q1 => cA_mk (w.go s1 h1) q1 fun ds M2 vs F2 H2 s2 h2 i2 q2 => z (d :: ds) M2 (x :: vs) F2 H2 (s1.trans s2) h2 (.cons (i1.mono s2) i2) q2
def aTup (tr : AA) (Γ : Gm) (M : Mm) (Φ : AK) : Prop := tr Γ M fun ds M1 => ds.length ≤ 100000 ∧ Φ (.tup ds) M1
/-- a list that will not change -/
def aLst (tr : AA) (Γ : Gm) (M : Mm) (Φ : AK) : Prop := tr Γ M fun ds M1 => ds.length ≤ 100000 ∧ Φ (.lst ds) M1
/-- a list that may change -/
def aLstM (tr : AA) (Γ : Gm) (M : Mm) (Φ : AK) : Prop := tr Γ M fun ds M1 => ds.length ≤ 100000 ∧ ∀ l, Φ (.ref l) ((l, .lst ds) :: M1)
theorem line_of {n : Nat} (h : n ≤ 100000) : n ≤ sizeLine := Nat.le_trans h (by decide)
theorem line_lt {n : Nat} (h : n < 100000) : n < sizeLine := Nat.lt_of_lt_of_le h (by decide)
theorem de_tup {x1} (h : DA X T es tr) : DE X T (.Tuple es x1 pos) (aTup tr) :=
  de_of (pe_tup h) fun F σ H Γ M Φ Q w q z => cA_mk w q fun ds M1 vs F1 H1 s1 h1 i1 q1 => ⟨by rw [i1.length]; exact line_of q1.1, fun p hp => by
    have n1 := h1.free hp
    exact z _ M1 _ _ _ (s1.trans (upd_same_ext n1)) (h1.laid hp) (.tup (.inl (.inl upd_same)) (i1.mono (upd_same_ext n1))) q1.2⟩
theorem de_lst (h : DA X T es tr) : DE X T (.List es pos) (aLst tr) :=
  de_of (pe_lst h) fun F σ H Γ M Φ Q w q z => cA_mk w q fun ds M1 vs F1 H1 s1 h1 i1 q1 => ⟨by rw [i1.length]; exact line_of q1.1, fun p hp => by
    have n1 := h1.free hp
    exact z _ M1 _ _ _ (s1.trans (upd_same_ext n1)) (h1.laid hp) (.lst (.inl (.inl upd_same)) (i1.mono (upd_same_ext n1))) q1.2⟩
theorem de_lstM (h : DA X T es tr) : DE X T (.List es pos) (aLstM tr) :=
  de_of (pe_lst h) fun F σ H Γ M Φ Q w q z => cA_mk w q fun ds M1 vs F1 H1 s1 h1 i1 q1 => ⟨by rw [i1.length]; exact line_of q1.1, fun p hp => by
    exact z (.ref p) ((p, .lst ds) :: M1) _ _ _ s1 (h1.newM (o := .lst ds) hp ⟨vs, upd_same, i1⟩) (.ref p) (q1.2 p)⟩
/-! ### calls of built-ins -/
def aCB (f : AL) (tr : AA) (Γ : Gm) (M : Mm) (Φ : AK) : Prop := tr Γ M fun ds M1 => f ds M1 Φ
theorem de_callB {id : String} {x : Str} {p : Pos} {r : List V → Hp → VK → Prop} {f : AL} (hc : CallR X (.builtin id) r) (hr : AbL X.K T.B r f) (hg : Gl X x) (hm : X.mg x = none) (hv : bootBuiltins x = some (.builtin id)) (ha : DA X T (e :: es) tr) (hn : x ≠ "__name__" := by decide) (hdb : (x == ("__debug__" : Str)) = false := by decide)
    (he : starEach (e :: es) X.env = (false, eval e X.env) :: starEach es X.env := by rfl) (hpl : (backTo pos (starEach es X.env)).any (·.1) = false := by rfl) : DE X T (.Call (.Name x p) (e :: es) [] pos) (aCB f tr) :=
  de_of (pe_callB hc hg hm hv ha hn hdb he hpl) fun F σ H Γ M Φ Q w q z => cA_mk w q fun ds M1 vs F1 H1 s1 h1 i1 q1 => hr F1 H1 vs ds M1 Φ Q h1 i1 q1 fun d M3 v F3 H3 s3 h3 i3 q3 => z d M3 v F3 H3 (s1.trans s3) h3 i3 q3
theorem de_callTy {id : String} {x : Str} {p : Pos} {r : List V → Hp → VK → Prop} {f : AL} (hc : CallR X (.type id) r) (hr : AbL X.K T.B r f) (hg : Gl X x) (hm : X.mg x = none) (hv : bootBuiltins x = some (.type id)) (ha : DA X T (e :: es) tr) (hn : x ≠ "__name__" := by decide) (hdb : (x == ("__debug__" : Str)) = false := by decide)
    (he : starEach (e :: es) X.env = (false, eval e X.env) :: starEach es X.env := by rfl) (hpl : (backTo pos (starEach es X.env)).any (·.1) = false := by rfl) : DE X T (.Call (.Name x p) (e :: es) [] pos) (aCB f tr) :=
  de_of (pe_callTy hc hg hm hv ha hn hdb he hpl) fun F σ H Γ M Φ Q w q z => cA_mk w q fun ds M1 vs F1 H1 s1 h1 i1 q1 => hr F1 H1 vs ds M1 Φ Q h1 i1 q1 fun d M3 v F3 H3 s3 h3 i3 q3 => z d M3 v F3 H3 (s1.trans s3) h3 i3 q3
end
end DL

set_option Elab.async false
set_option linter.all false
set_option maxRecDepth 100000
set_option maxHeartbeats 2000000
namespace DL
open PySem L2

section
variable {X : Cx} {T : Ct} {e a b c : Expr} {pos : Pos} {K : PySem.W.Frag} {F F' F1 H H' H1 : Hp} {σ : St} {Γ : Gm} {M M' : Mm} {ta tb tc : AE} {tA tB : AT} {es : List Expr} {tr : AA} {B : Bx}
/-! ### statements -/
variable {st : Stmt} {rest sts : List Stmt} {t u : AS}
def aNext (A : AEnds) (Γ : Gm) (M : Mm) : Prop := A.nx Γ M
def aSeq (t u : AS) (A : AEnds) (Γ : Gm) (M : Mm) : Prop := t { A with nx := u A } Γ M
def aBreak (A : AEnds) (Γ : Gm) (M : Mm) : Prop := A.bk Γ M
def aCont (A : AEnds) (Γ : Gm) (M : Mm) : Prop := A.ct Γ M
def aDrop (ta : AE) (A : AEnds) (Γ : Gm) (M : Mm) : Prop := ta Γ M fun _ M1 => A.nx Γ M1
def aRet (ta : AE) (A : AEnds) (Γ : Gm) (M : Mm) : Prop := ta Γ M A.rt
def aRetN (A : AEnds) (Γ : Gm) (M : Mm) : Prop := A.rt .non M
def aIfS (c : AT) (t u : AS) (A : AEnds) (Γ : Gm) (M : Mm) : Prop := c Γ M fun b M1 => (b = true → t A Γ M1) ∧ (b = false → u A Γ M1)
def aNever (A : AEnds) (Γ : Gm) (M : Mm) : Prop := False
def aSet (i : Nat) (ta : AE) (A : AEnds) (Γ : Gm) (M : Mm) : Prop := ta Γ M fun d M1 => A.nx (Γ.set i (some d)) M1
def aPar_k (i : Nat) (j : Nat) (A : AEnds) (Γ : Gm)  (ds : List D) (M1 : Mm) : Prop := match ds with
  | [d, e] => A.nx ((Γ.set i (some d)).set j (some e)) M1
  | _ => False
def aPar (i j : Nat) (tr : AA) (A : AEnds) (Γ : Gm) (M : Mm) : Prop := tr Γ M fun ds M1 => aPar_k i j A Γ ds M1
def aPar3_k (i : Nat) (j : Nat) (l : Nat) (A : AEnds) (Γ : Gm)  (ds : List D) (M1 : Mm) : Prop := match ds with
  | [d, e, f] => A.nx (((Γ.set i (some d)).set j (some e)).set l (some f)) M1
  | _ => False
def aPar3 (i j l : Nat) (tr : AA) (A : AEnds) (Γ : Gm) (M : Mm) : Prop := tr Γ M fun ds M1 => aPar3_k i j l A Γ ds M1
def aAug (i : Nat) (f : A2) (ta : AE) (A : AEnds) (Γ : Gm) (M : Mm) : Prop := onSlot Γ[i]? fun d => ta Γ M fun e M1 => f d e M1 fun g M2 => A.nx (Γ.set i (some g)) M2
/-- something is forgotten or frozen -/
def aGh (t : AS) (A : AEnds) (Γ : Gm) (M : Mm) : Prop := ∃ Γ' M', Fz Γ M Γ' M' ∧ t A Γ' M'

theorem dss_nil : DSs X T [] aNext := dss_of pss_nil fun F σ H Γ M A D w q m => m.nx Γ M σ F H (Same.refl F) w.v w.h q
theorem met_nx {A : AEnds} {D : Ends} {g : Gm → Mm → Prop} {k : St → Hp → Prop} (m : Met K T F A D) (h : ∀ Γ' M' σ' F' H', Same F F' → Vw K F' σ' Γ' → Hs K T.B M' F' H' → g Γ' M' → k σ' H') : Met K T F { A with nx := g } { D with nx := k } := ⟨h, m.rt, m.bk, m.ct⟩
theorem dss_cons (h1 : DS X T st t) (h2 : DSs X T rest u) : DSs X T (st :: rest) (aSeq t u) :=
  dss_of (pss_cons h1 h2) fun F σ H Γ M A D w q m => cS_mk w q (met_nx m fun Γ' M' σ' F' H' s v h q' => cS_mk ⟨v, h, w.l.mono s⟩ q' (m.mono s))
theorem dss_one (h1 : DS X T st t) : DSs X T [st] t := pss_one h1
theorem ds_pass : DS X T (.Pass pos) aNext := ds_of ps_pass fun F σ H Γ M A D w q m => m.nx Γ M σ F H (Same.refl F) w.v w.h q
theorem ds_break : DS X T (.Break pos) aBreak := ds_of ps_break fun F σ H Γ M A D w q m => m.bk Γ M σ F H (Same.refl F) w.v w.h q
theorem ds_continue : DS X T (.Continue pos) aCont := ds_of ps_continue fun F σ H Γ M A D w q m => m.ct Γ M σ F H (Same.refl F) w.v w.h q
theorem ds_never : DS X T st aNever := ds_of ps_never fun F σ H Γ M A D w q m => q
theorem dss_never : DSs X T sts aNever := dss_of pss_never fun F σ H Γ M A D w q m => q
theorem ds_expr (he : DE X T e ta) (hs : swapsWith e none pos.line X.env = pure false := by rfl) : DS X T (.Expr e pos) (aDrop ta) :=
  ds_of (ps_expr he hs) fun F σ H Γ M A D w q m => cE_mk w q fun d M1 v F1 H1 s1 h1 i1 q1 => m.nx Γ M1 σ F1 H1 s1 (w.v.mono s1) h1 q1
theorem ds_ret (he : DE X T e ta) : DS X T (.Return (some e) pos) (aRet ta) :=
  ds_of (ps_ret he) fun F σ H Γ M A D w q m => cE_mk w q fun d M1 v F1 H1 s1 h1 i1 q1 => m.rt d M1 v F1 H1 s1 h1 i1 q1
theorem ds_retN : DS X T (.Return none pos) aRetN := ds_of ps_retN fun F σ H Γ M A D w q m => m.rt .non M .non F H (Same.refl F) w.h .non q
theorem ds_if {p q : List Stmt} (hc : DT X T c tA) (ha : DSs X T p t) (hb : DSs X T q u) : DS X T (.If c p q pos) (aIfS tA t u) :=
  ds_of (ps_if hc ha hb) fun F σ H Γ M A D w q m => cT_mk w q fun b M1 F1 H1 s1 h1 q1 => by
    cases b with
    | true => exact cS_mk (w.go s1 h1) (q1.1 rfl) (m.mono s1)
    | false => exact cS_mk (w.go s1 h1) (q1.2 rfl) (m.mono s1)
theorem ds_set {i : Nat} {x : Str} {pos' : Pos} (hN : X.N.Nodup) (hi : X.N[i]? = some x) (hx : Loc X.env.scope x) (he : DE X T e ta) (hs : swapsWith e (some (.Name x pos')) pos.line X.env = pure false := by rfl) (hf : X.fn x = true ∨ X.env.scope.names.lookup x = some .local := by first | exact .inl rfl | exact .inr rfl | assumption) :
    DS X T (.Assign [.Name x pos'] e pos) (aSet i ta) :=
  ds_of (ps_set hN hi hx he hs hf) fun F σ H Γ M A D w q m => cE_mk w q fun d M1 v F1 H1 s1 h1 i1 q1 => m.nx _ M1 _ F1 H1 s1 ((w.v.mono s1).set i1 i) h1 q1
theorem ds_par {i j : Nat} {x y : Str} {px py pt : Pos} {kt k2 pt2} (hc : X.calm = true) (hN : X.N.Nodup) (hi : X.N[i]? = some x) (hj : X.N[j]? = some y) (hij : i ≠ j)
    (hx : X.env.scope.names.lookup x = some .local) (hy : X.env.scope.names.lookup y = some .local) (ha : DA X T [a, b] tr)
    (hw : swappedStores [.Tuple [.Name x px, .Name y py] kt pt] (.Tuple [a, b] k2 pt2) X.env = pure (some [x, y]) := by rfl)
    (hs : swapsWithSole [.Tuple [.Name x px, .Name y py] kt pt] (.Tuple [a, b] k2 pt2) pos.line X.env = pure false := by rfl) :
    DS X T (.Assign [.Tuple [.Name x px, .Name y py] kt pt] (.Tuple [a, b] k2 pt2) pos) (aPar i j tr) :=
  ds_of (ps_par hc hN hi hj hij hx hy ha hw hs) fun F σ H Γ M A D w q m => cA_mk w q fun ds M1 vs F1 H1 s1 h1 i1 q1 => by
    match ds, i1, q1 with
    | [d, e], .cons k1 (.cons k2 .nil), q1 => exact ⟨_, _, rfl, m.nx _ M1 _ F1 H1 s1 (((w.v.mono s1).set k1 i).set k2 j) h1 q1⟩
    | [], _, q1 => exact q1.elim
    | [_], _, q1 => exact q1.elim
    | _ :: _ :: _ :: _, _, q1 => exact q1.elim
theorem ds_par3 {i j l : Nat} {x y z : Str} {px py pz pt : Pos} {kt k2 pt2} (hc : X.calm = true) (hN : X.N.Nodup) (hi : X.N[i]? = some x) (hj : X.N[j]? = some y) (hl : X.N[l]? = some z) (hij : i ≠ j) (hil : i ≠ l) (hjl : j ≠ l)
    (hx : X.env.scope.names.lookup x = some .local) (hy : X.env.scope.names.lookup y = some .local) (hz : X.env.scope.names.lookup z = some .local) (ha : DA X T [a, b, c] tr)
    (hw : swappedStores [.Tuple [.Name x px, .Name y py, .Name z pz] kt pt] (.Tuple [a, b, c] k2 pt2) X.env = pure (some [x, y, z]) := by rfl)
    (hs : swapsWithSole [.Tuple [.Name x px, .Name y py, .Name z pz] kt pt] (.Tuple [a, b, c] k2 pt2) pos.line X.env = pure false := by rfl) :
    DS X T (.Assign [.Tuple [.Name x px, .Name y py, .Name z pz] kt pt] (.Tuple [a, b, c] k2 pt2) pos) (aPar3 i j l tr) :=
  ds_of (ps_par3 hc hN hi hj hl hij hil hjl hx hy hz ha hw hs) fun F σ H Γ M A D w q m => cA_mk w q fun ds M1 vs F1 H1 s1 h1 i1 q1 => by
    match ds, i1, q1 with
    | [d, e, f], .cons k1 (.cons k2 (.cons k3 .nil)), q1 => exact ⟨_, _, _, rfl, m.nx _ M1 _ F1 H1 s1 ((((w.v.mono s1).set k1 i).set k2 j).set k3 l) h1 q1⟩
    | [], _, q1 => exact q1.elim
    | [_], _, q1 => exact q1.elim
    | [_, _], _, q1 => exact q1.elim
    | _ :: _ :: _ :: _ :: _, _, q1 => exact q1.elim
/-- in-place operators, by values -/
def IpR (X : Cx) (op : Operator) (r : R2) : Prop := PIp X op r
theorem ipr_of {op : Operator} {r : R2} (h : OpR X (inplaceOp op) r) : PIp X op r := fun pins s σ H x y v u Q I rx ry q => h pins s σ H x y v u Q I rx ry q
theorem ds_aug {i : Nat} {x : Str} {op : Operator} {r : R2} {f : A2} {pos' : Pos} (hN : X.N.Nodup) (hi : X.N[i]? = some x) (hx : Loc X.env.scope x) (ho : PIp X op r) (hr : Ab2 X.K T.B r f) (he : DE X T e ta) (hf : X.fn x = true ∨ X.env.scope.names.lookup x = some .local := by first | exact .inl rfl | exact .inr rfl | assumption) :
    DS X T (.AugAssign (.Name x pos') op e pos) (aAug i f ta) :=
  ds_of (ps_aug hN hi hx he ho hf) fun F σ H Γ M A D w q m => by
    unfold aAug onSlot at q
    (first | split at q | (unfold aAsg_k onGm at q; split at q) | (unfold aSetIx_k at q; split at q) | (unfold aItS_k at q; split at q) | (unfold aRng1_k at q; split at q) | (unfold aRng2_k at q; split at q))
    · rename_i d hd
      obtain ⟨x, h1, h2⟩ := w.v.get i d hd
      exact ⟨x, h1, cE_mk w q fun d M1 v F1 H1 s1 h1 i1 q1 => hr F1 H1 _ _ _ _ M1 _ _ h1 (h2.mono s1) i1 q1 fun g M2 v F2 H2 s2 h2 i2 q2 => m.nx _ M2 _ F2 H2 (s1.trans s2) ((w.v.mono (s1.trans s2)).set i2 i) h2 q2⟩
    · exact q.elim
theorem Vw.reread {d0 d1 : D} (v : Vw K F σ Γ) {i : Nat} (hi : Γ[i]? = some (some d0)) (c : ∀ x, Is K F x d0 → Is K F x d1) : Vw K F σ (Γ.set i (some d1)) := by
  have hl : i < Γ.length := (List.getElem?_eq_some_iff.mp hi).1
  refine ⟨by rw [List.length_set]; exact v.len, fun j e hj => ?_⟩
  by_cases hij : i = j
  · subst hij
    rw [List.getElem?_set_self hl] at hj
    cases hj
    obtain ⟨x, h1, h2⟩ := v.get i d0 hi
    exact ⟨x, h1, c x h2⟩
  · rw [List.getElem?_set_ne hij] at hj
    exact v.get j e hj
theorem fz_see (w : See K T F σ H Γ M) {Γ' : Gm} {M' : Mm} (z : Fz Γ M Γ' M') : ∃ F', Same F F' ∧ See K T F' σ H Γ' M' := by
  induction z generalizing F with
  | refl => exact ⟨F, Same.refl F, w⟩
  | lst i hi d _ ih =>
    obtain ⟨F1, s1, h1, i1⟩ := w.h.freeze d
    obtain ⟨F2, s2, w2⟩ := ih ⟨(w.v.mono s1).reread hi fun x h => (by cases h; exact i1), h1, w.l.mono s1⟩
    exact ⟨F2, s1.trans s2, w2⟩
  | ins i hi d _ ih =>
    obtain ⟨F1, s1, h1, i1⟩ := w.h.freezeI d
    obtain ⟨F2, s2, w2⟩ := ih ⟨(w.v.mono s1).reread hi fun x h => (by cases h; exact i1), h1, w.l.mono s1⟩
    exact ⟨F2, s1.trans s2, w2⟩
  | no i _ ih => exact ih ⟨w.v.unset i, w.h, w.l⟩
  | less s _ ih => exact ih ⟨w.v, w.h.less s, w.l⟩
theorem dss_gh (h : DSs X T sts t) : DSs X T sts (aGh t) := dss_of h fun F σ H Γ M A D w q m => by
  obtain ⟨Γ', M', z, q⟩ := q
  obtain ⟨F1, s1, w1⟩ := fz_see w z
  exact cS_mk w1 q (m.mono s1)
theorem ds_gh (h : DS X T st t) : DS X T st (aGh t) := ds_of h fun F σ H Γ M A D w q m => by
  obtain ⟨Γ', M', z, q⟩ := q
  obtain ⟨F1, s1, w1⟩ := fz_see w z
  exact cS_mk w1 q (m.mono s1)

/-! ### targets -/
abbrev AG := D → Gm → Option Gm
abbrev AGs := List D → Gm → Option Gm
def cG (K : PySem.W.Frag) (vs : List Nat) (ag : AG) : TG := fun x σ H Q => ∃ F d Γ Γ', Vw K F σ Γ ∧ Same F H ∧ Is K F x d ∧ ag d Γ = some Γ' ∧ ∀ σ', Vw K F σ' Γ' → (∀ ws, (∀ i ∈ vs, i ∈ ws) → wipe σ' ws = wipe σ ws) → Q σ' H
def cGs (K : PySem.W.Frag) (n : Nat) (vs : List Nat) (ag : AGs) : TGs := fun xs σ H Q => ∃ F ds Γ Γ', Vw K F σ Γ ∧ Same F H ∧ IsL K F xs ds ∧ ag ds Γ = some Γ' ∧ ds.length = n ∧ ∀ σ', Vw K F σ' Γ' → (∀ ws, (∀ i ∈ vs, i ∈ ws) → wipe σ' ws = wipe σ ws) → Q σ' H
def DG (X : Cx) (e : Expr) (vs : List Nat) (ag : AG) : Prop := PG X e (cG X.K vs ag)
def DGs (X : Cx) (es : List Expr) (n : Nat) (vs : List Nat) (ag : AGs) : Prop := PGs X es (cGs X.K n vs ag)
theorem wipe_set {σ : St} {i : Nat} {x : Option V} : ∀ {ws : List Nat}, i ∈ ws → wipe (σ.set i x) ws = wipe σ ws
  | [], h => absurd h (by simp)
  | j :: ws, h => by
    by_cases hi : i ∈ ws
    · show (wipe (σ.set i x) ws).set j none = (wipe σ ws).set j none
      rw [wipe_set hi]
    · have e : i = j := by
        rcases List.mem_cons.mp h with e | h
        · exact e
        · exact absurd h hi
      subst e
      have go : ∀ ws : List Nat, i ∉ ws → wipe (σ.set i x) ws = (wipe σ ws).set i x := by
        intro ws
        induction ws with
        | nil => intro _; rfl
        | cons k ws ih =>
          intro hn
          show (wipe (σ.set i x) ws).set k none = ((wipe σ ws).set k none).set i x
          rw [ih fun h => hn (List.mem_cons_of_mem _ h), List.set_comm _ _ fun e => hn (by rw [e]; exact List.mem_cons_self)]
      show (wipe (σ.set i x) ws).set i none = (wipe σ ws).set i none
      rw [go ws hi, List.set_set]
theorem pg_imp {tg : Expr} {g g' : TG} (h : PG X tg g) (k : ∀ v σ H Q, g' v σ H Q → g v σ H Q) : PG X tg g' := ⟨fun pins s σ H v u Q I r q => h.run pins s σ H v u Q I r (k v σ H Q q)⟩
theorem pgs_imp {tg : List Expr} {g g' : TGs} (h : PGs X tg g) (k : ∀ v σ H Q, g' v σ H Q → g v σ H Q) : PGs X tg g' := ⟨fun pins s σ H v u Q I r q => h.run pins s σ H v u Q I r (k v σ H Q q)⟩
def agName (i : Nat) (d : D) (Γ : Gm) : Option Gm := some (Γ.set i (some d))
theorem dg_name {i : Nat} {x : Str} (hN : X.N.Nodup) (hi : X.N[i]? = some x) (hx : Loc X.env.scope x) (hf : X.fn x = true ∨ X.env.scope.names.lookup x = some .local := by first | exact .inl rfl | exact .inr rfl | assumption) : DG X (.Name x pos) [i] (agName i) :=
  pg_imp (pg_name hN hi hx hf) fun v σ H Q ⟨F, d, Γ, Γ', w, s, i1, e, k⟩ => by
    cases e
    exact k _ (w.set i1 i) fun ws hw => wipe_set (hw i (by simp))
def agNil (ds : List D) (Γ : Gm) : Option Gm := match ds with
  | [] => some Γ
  | _ => none
def agCons (g : AG) (gs : AGs) (ds : List D) (Γ : Gm) : Option Gm := match ds with
  | d :: ds => (g d Γ).bind fun Γ1 => gs ds Γ1
  | [] => none
theorem dgs_nil : DGs X [] 0 [] agNil := pgs_imp pgs_nil fun v σ H Q ⟨F, ds, Γ, Γ', w, s, i1, e, hl, k⟩ => by
  match ds, i1, e with
  | [], .nil, e =>
    cases e
    exact ⟨rfl, k σ w fun _ _ => rfl⟩
theorem dgs_cons {n : Nat} {vs ws : List Nat} {g : AG} {gs : AGs} (h1 : DG X e vs g) (h2 : DGs X es n ws gs)
    (hs : (assignEach (e :: es) X.env).map (·.2) = assign e X.env :: (assignEach es X.env).map (·.2) := by rfl) : DGs X (e :: es) (n + 1) (vs ++ ws) (agCons g gs) :=
  pgs_imp (pgs_cons h1 h2 hs) fun v σ H Q ⟨F, ds, Γ, Γ', w, s, i1, e, hl, k⟩ => by
    match ds, i1, e with
    | d :: ds, .cons k1 k2, e =>
      rename_i v vs' _
      unfold agCons at e
      split at e
      · rename_i d' ds' hds
        cases hds
        cases h1 : g d Γ with
        | some Γ1 =>
          rw [h1] at e
          exact ⟨_, _, rfl, F, d, Γ, Γ1, w, s, k1, h1, fun σ1 w1 e1 => ⟨F, ds, Γ1, Γ', w1, s, k2, e, by simpa using hl, fun σ2 w2 e2 => k σ2 w2 fun zs hz => (e2 zs fun i hi => hz i (List.mem_append_right _ hi)).trans (e1 zs fun i hi => hz i (List.mem_append_left _ hi))⟩⟩
        | none =>
          rw [h1] at e
          cases e
      · cases e
def agTup (gs : AGs) (d : D) (Γ : Gm) : Option Gm := match d with
  | .tup ds => gs ds Γ
  | _ => none
def agLst (gs : AGs) (d : D) (Γ : Gm) : Option Gm := match d with
  | .lst ds => gs ds Γ
  | _ => none
/-- the number of items is told by success -/
def AGs.Fix (gs : AGs) (n : Nat) : Prop := ∀ ds Γ Γ', gs ds Γ = some Γ' → ds.length = n
theorem fix_nil : AGs.Fix agNil 0 := fun ds Γ Γ' h => by
  cases ds with
  | nil => rfl
  | cons _ _ => cases h
theorem fix_cons {g : AG} {gs : AGs} {n : Nat} (h : AGs.Fix gs n) : AGs.Fix (agCons g gs) (n + 1) := fun ds Γ Γ' e => by
  cases ds with
  | nil => cases e
  | cons d ds =>
    unfold agCons at e
    split at e
    · rename_i d' ds' hds
      cases hds
      cases h1 : g d Γ with
      | some Γ1 =>
        rw [h1] at e
        exact congrArg (· + 1) (h ds _ _ e)
      | none =>
        rw [h1] at e
        cases e
    · cases e
theorem dg_tup {k : Nat} {n : Nat} {vs : List Nat} {gs : AGs} (hc : X.calm = true) (h : DGs X es n vs gs) (hfx : AGs.Fix gs n)
    (hn : (assignEach es X.env).length = n := by rfl) (hst : (assignEach es X.env).findIdx? (·.1) = none := by rfl) : DG X (.Tuple es k pos) vs (agTup gs) :=
  pg_imp (pg_tup hc h hn hst) fun v σ H Q ⟨F, d, Γ, Γ', w, s, i1, e, k⟩ => by
    unfold agTup at e
    split at e
    · rename_i ds
      cases i1 with
      | tup hq hl =>
        have hlen := hfx ds Γ Γ' e
        exact ⟨_, _, rfl, same_t s hq, hl.length.trans hlen, F, ds, Γ, Γ', w, s, hl, e, hlen, k⟩
    · cases e
theorem dg_lst {k : Nat} {n : Nat} {vs : List Nat} {gs : AGs} (hc : X.calm = true) (h : DGs X es n vs gs) (hfx : AGs.Fix gs n)
    (hn : (assignEach es X.env).length = n := by rfl) (hst : (assignEach es X.env).findIdx? (·.1) = none := by rfl) : DG X (.Tuple es k pos) vs (agLst gs) :=
  pg_imp (pg_lst hc h hn hst) fun v σ H Q ⟨F, d, Γ, Γ', w, s, i1, e, k⟩ => by
    unfold agLst at e
    split at e
    · rename_i ds
      cases i1 with
      | lst hq hl =>
        have hlen := hfx ds Γ Γ' e
        exact ⟨_, _, rfl, s.seq hq, hl.length.trans hlen, F, ds, Γ, Γ', w, s, hl, e, hlen, k⟩
    · cases e
/-- target = e -/
def onGm (o : Option Gm) (k : Gm → Prop) : Prop := match o with
  | some Γ => k Γ
  | none => False
def aAsg_k (g : AG) (A : AEnds) (Γ : Gm) (d : D) (M1 : Mm) : Prop := onGm (g d Γ) fun Γ' => A.nx Γ' M1
def aAsg (ta : AE) (g : AG) (A : AEnds) (Γ : Gm) (M : Mm) : Prop := ta Γ M fun d M1 => aAsg_k g A Γ d M1
theorem ds_asg {tg : Expr} {vs : List Nat} {g : AG} (he : DE X T e ta) (hg : DG X tg vs g) (hs : swapsWithSole [tg] e pos.line X.env = pure false := by rfl) (hw : swappedStores [tg] e X.env = pure none := by rfl)
    (h1 : (assignEach [tg] X.env).map (·.2) = [assign tg X.env] := by rfl) : DS X T (.Assign [tg] e pos) (aAsg ta g) :=
  ds_of (ps_asg he hg hs hw h1) fun F σ H Γ M A D w q m => cE_mk w q fun d M1 v F1 H1 s1 h1 i1 q1 => by
    (first | split at q1 | (unfold aAsg_k onGm at q1; split at q1) | (unfold aSetIx_k at q1; split at q1) | (unfold aItS_k at q1; split at q1) | (unfold aRng1_k at q1; split at q1) | (unfold aRng2_k at q1; split at q1))
    · rename_i Γ' hg
      exact ⟨F1, d, Γ, Γ', w.v.mono s1, h1.sub, i1, hg, fun σ' w' _ => m.nx Γ' M1 σ' F1 H1 s1 w' h1 q1⟩
    · exact q1.elim
/-- o[i] = e, a mutable list -/
def ixN' (n : Nat) (i : Int) : Option Nat := ixN n i
def aSetIx_k (A : AEnds) (Γ : Gm) (d : D) (o : D) (i : D) (M3 : Mm) : Prop := match o, i with
  | .ref l, .int k => ∃ xs j M4, ixN xs.length k = some j ∧ Up M3 l (.lst xs) (.lst (xs.set j d)) M4 ∧ A.nx Γ M4
  | _, _ => False
def aSetIx (ta to ti : AE) (A : AEnds) (Γ : Gm) (M : Mm) : Prop := ta Γ M fun d M1 => to Γ M1 fun o M2 => ti Γ M2 fun i M3 => aSetIx_k A Γ d o i M3
theorem hs_setL {l : Addr} {xs : List D} {j : Nat} {v : V} {d : D} {M4 : Mm} (h : Hs K B M F H) (i : Is K F v d) (u : Up M l (.lst xs) (.lst (xs.set j d)) M4) : ∃ vs, H l = some (.lst vs) ∧ IsL K F vs xs ∧ Hs K B M4 F (upd H l (.lst (vs.set j v))) := by
  obtain ⟨vs, e, z⟩ := h.lst u.mem
  exact ⟨vs, e, z, h.put u ⟨_, upd_same, z.set i j⟩⟩
theorem ds_setIx {o i : Expr} {to ti : AE} {tpos : Pos} (he : DE X T e ta) (ho : DE X T o to) (hi : DE X T i ti)
    (ha : ∀ v, assign (.Subscript o i tpos) X.env v = (do
      let ov ← holding [v] (eval o X.env)
      let iv ← holding [v, ov] (eval i X.env)
      standAt tpos
      holding [v, ov, iv] (setItem ov iv v)
      release [v, ov, iv] []) := by intro _; rfl)
    (hs : swapsWithSole [.Subscript o i tpos] e pos.line X.env = pure false := by rfl) (hw : swappedStores [.Subscript o i tpos] e X.env = pure none := by rfl)
    (h1 : (assignEach [.Subscript o i tpos] X.env).map (·.2) = [assign (.Subscript o i tpos) X.env] := by rfl) : DS X T (.Assign [.Subscript o i tpos] e pos) (aSetIx ta to ti) :=
  ds_of (ps_asg he (pg_sub ho hi set_list ha) hs hw h1) fun F σ H Γ M A D w q m => cE_mk w q fun d M1 v F1 H1 s1 h1 i1 q1 => cE_mk (w.go s1 h1) q1 fun o M2 ov F2 H2 s2 h2 i2 q2 => cE_mk ((w.go s1 h1).go s2 h2) q2 fun k M3 kv F3 H3 s3 h3 i3 q3 => by
    (first | split at q3 | (unfold aAsg_k onGm at q3; split at q3) | (unfold aSetIx_k at q3; split at q3) | (unfold aItS_k at q3; split at q3) | (unfold aRng1_k at q3; split at q3) | (unfold aRng2_k at q3; split at q3))
    · rename_i l k
      obtain ⟨xs, j, M4, e1, u, q3⟩ := q3
      cases i2
      cases i3
      obtain ⟨vs, e2, z, h4⟩ := hs_setL h3 (i1.mono (s2.trans s3)) u
      exact ⟨l, vs, k, j, rfl, rfl, e2, by rw [z.length]; exact e1, m.nx Γ M4 σ F3 _ ((s1.trans s2).trans s3) (w.v.mono ((s1.trans s2).trans s3)) h4 q3⟩
    · exact q3.elim

/-! ### while -/
def aWhile (t : AT) (tb : AS) (A : AEnds) (Γ : Gm) (M : Mm) : Prop := ∃ I : Nat → Gm → Mm → Prop, (∃ n, I n Γ M) ∧ ∀ n Γ' M', I n Γ' M' → t Γ' M' fun b M1 => (b = true → tb { nx := fun Γ2 M2 => ∃ m, m < n ∧ I m Γ2 M2, rt := A.rt, bk := A.nx, ct := fun Γ2 M2 => ∃ m, m < n ∧ I m Γ2 M2 } Γ' M1) ∧ (b = false → A.nx Γ' M1)
theorem ds_while {body : List Stmt} {tb : AS} (hp : PassesOwn (model X.prog X.w) X.A X.env X.xe) (hc : DT X T c tA) (hb : DSs X T body tb) : DS X T (.While c body [] pos) (aWhile tA tb) :=
  ds_of (ps_while hp hc hb) fun F σ H Γ M A D w q m => by
    obtain ⟨I, ⟨n, i0⟩, turn⟩ := q
    refine ⟨fun n σ' H' => ∃ F' Γ' M', Same F F' ∧ Vw X.K F' σ' Γ' ∧ Hs X.K T.B M' F' H' ∧ I n Γ' M', ⟨n, F, Γ, M, Same.refl F, w.v, w.h, i0⟩, ?_⟩
    rintro n σ' H' ⟨F', Γ', M', s', v', h', i'⟩
    have w' : See X.K T F' σ' H' Γ' M' := ⟨v', h', w.l.mono s'⟩
    refine cT_mk w' (turn n Γ' M' i') fun b M1 F1 H1 s1 h1 q1 => ?_
    cases b with
    | true =>
      rw [if_pos rfl]
      refine ⟨fun σ2 H2 => ∃ m, m < n ∧ ∃ F' Γ' M', Same F F' ∧ Vw X.K F' σ2 Γ' ∧ Hs X.K T.B M' F' H2 ∧ I m Γ' M', fun σ2 H2 z => z, ?_⟩
      refine cS_mk (w'.go s1 h1) (q1.1 rfl) ⟨fun Γ2 M2 σ2 F2 H2 s2 v2 h2 ⟨m, hm, im⟩ => ⟨m, hm, F2, Γ2, M2, (s'.trans s1).trans s2, v2, h2, im⟩, fun d M2 v F2 H2 s2 => m.rt d M2 v F2 H2 ((s'.trans s1).trans s2), fun Γ2 M2 σ2 F2 H2 s2 => m.nx Γ2 M2 σ2 F2 H2 ((s'.trans s1).trans s2), fun Γ2 M2 σ2 F2 H2 s2 v2 h2 ⟨m, hm, im⟩ => ⟨m, hm, F2, Γ2, M2, (s'.trans s1).trans s2, v2, h2, im⟩⟩
    | false =>
      rw [if_neg Bool.false_ne_true]
      exact m.nx Γ' M1 σ' F1 H1 (s'.trans s1) (v'.mono s1) h1 (q1.2 rfl)

/-! ### what is walked -/
def Walks (K : PySem.W.Frag) (B : Bx) (J : It) (F : Hp) (ds : List D) : Prop := ∀ i F' H' M', Same F F' → Hs K B M' F' H' → i ≤ ds.length →
  (∀ d, ds[i]? = some d → J.go i H' ∧ ∀ x H'', J.yld i H' x H'' → ∃ F'', Same F' F'' ∧ Hs K B M' F'' H'' ∧ Is K F'' x d) ∧ (i = ds.length → J.stop i H')
abbrev AI := Gm → Mm → (List D → Mm → Prop) → Prop
def cI (K : PySem.W.Frag) (T : Ct) (ai : AI) : TI := fun σ H R => ∃ F Γ M Φ, See K T F σ H Γ M ∧ ai Γ M Φ ∧ ∀ ds M' J F' H', Same F F' → Hs K T.B M' F' H' → Walks K T.B J F' ds → Φ ds M' → R J H'
def DI (X : Cx) (T : Ct) (tg e : Expr) (ai : AI) : Prop := PI X tg e (cI X.K T ai)
theorem di_of {tg e : Expr} {wi : TI} {ai : AI} (h : PI X tg e wi) (k : ∀ F σ H Γ M Φ R, See X.K T F σ H Γ M → ai Γ M Φ → (∀ ds M' J F' H', Same F F' → Hs X.K T.B M' F' H' → Walks X.K T.B J F' ds → Φ ds M' → R J H') → wi σ H R) : DI X T tg e ai :=
  ⟨fun pins s σ H R I ⟨F, Γ, M, Φ, w, q, z⟩ => h.run pins s σ H R I (k F σ H Γ M Φ R w q z)⟩
theorem walks_list {l : Addr} {vs : List V} {ds : List D} (h : SqL K F l vs) (z : IsL K F vs ds) : Walks K B (Itl K l) F ds := fun i F' H' M' s h' hi =>
  have q : SqL K H' l vs := h'.sub.seq (s.seq h)
  ⟨fun d hd => by
    obtain ⟨v, e, iv⟩ := z.get hd
    exact ⟨⟨vs, v, q, e⟩, fun x H'' y => by
      obtain ⟨e1, y⟩ := y
      subst e1
      have ex : x = v := Option.some.inj ((y vs q).symm.trans e)
      subst ex
      exact ⟨F', Same.refl F', h', iv.mono s⟩⟩, fun e => ⟨vs, q, by rw [z.length, e]; exact Nat.le_refl _⟩⟩
theorem walks_tup {l : Addr} {vs : List V} {ds : List D} (h : SqT K F l vs) (z : IsL K F vs ds) : Walks K B (Itt K l) F ds := fun i F' H' M' s h' hi =>
  have q : SqT K H' l vs := same_t h'.sub (same_t s h)
  ⟨fun d hd => by
    obtain ⟨v, e, iv⟩ := z.get hd
    exact ⟨⟨vs, v, q, e⟩, fun x H'' y => by
      obtain ⟨e1, y⟩ := y
      subst e1
      have ex : x = v := Option.some.inj ((y vs q).symm.trans e)
      subst ex
      exact ⟨F', Same.refl F', h', iv.mono s⟩⟩, fun e => ⟨vs, q, by rw [z.length, e]; exact Nat.le_refl _⟩⟩
def rngD (lo : Int) (n : Nat) : List D := (List.range n).map fun i => .int (lo + (i : Nat))
theorem rngD_len (lo : Int) (n : Nat) : (rngD lo n).length = n := by unfold rngD; rw [List.length_map, List.length_range]
theorem rngD_get {lo : Int} {n i : Nat} {d : D} (h : (rngD lo n)[i]? = some d) : i < n ∧ d = .int (lo + (i : Nat)) := by
  unfold rngD at h
  rw [List.getElem?_map] at h
  by_cases hi : i < n
  · rw [List.getElem?_range hi] at h
    cases h
    exact ⟨hi, rfl⟩
  · rw [List.getElem?_eq_none (by rw [List.length_range]; omega)] at h
    cases h
theorem walks_rng {lo : Int} {n : Nat} : Walks K B (Itr lo n) F (rngD lo n) := fun i F' H' M' s h' hi =>
  ⟨fun d hd => by
    obtain ⟨h1, rfl⟩ := rngD_get hd
    exact ⟨h1, fun x H'' y => by
      obtain ⟨e1, e2⟩ := y
      subst e1 e2
      exact ⟨F', Same.refl F', h', .int _⟩⟩, fun e => by
    rw [rngD_len] at e
    subst e
    exact Nat.le_refl _⟩
/-- a list or a tuple -/
def aItS_k (Φ : List D → Mm → Prop)  (d : D) (M1 : Mm) : Prop := match d with
  | .lst ds => Φ ds M1
  | .tup ds => Φ ds M1
  | _ => False
def aItS (ta : AE) (Γ : Gm) (M : Mm) (Φ : List D → Mm → Prop) : Prop := ta Γ M fun d M1 => aItS_k Φ d M1
theorem pi_or {tg e : Expr} {w1 w2 : TI} (h1 : PI X tg e w1) (h2 : PI X tg e w2) : PI X tg e (fun σ H R => w1 σ H R ∨ w2 σ H R) := ⟨fun pins s σ H R I q => q.elim (h1.run pins s σ H R I) (h2.run pins s σ H R I)⟩
/-- an expression that is a list or a tuple, walked -/
def tEither (K : PySem.W.Frag) (te : TE) : TI := fun σ H R => te σ H fun x H1 => ∃ a, x = .ref a ∧ (((∃ xs, SqL K H1 a xs) ∧ R (Itl K a) H1) ∨ ((∃ xs, SqT K H1 a xs) ∧ R (Itt K a) H1))
theorem pi_either {tg e : Expr} {te : TE} (he : PE X e te) : PI X tg e (tEither X.K te) := by
  refine ⟨fun pins s σ H R I h => ?_⟩
  refine thn (he.run pins s σ H _ I h) fun v s1 ⟨x, H1, I1, r1, q1⟩ => ?_
  obtain ⟨a, e, q⟩ := q1
  subst e
  cases r1
  rcases q with ⟨⟨xs, hq⟩, q⟩ | ⟨⟨xs, hq⟩, q⟩
  · obtain ⟨its, rv, p, hz⟩ := I1.list hq
    refine wpAny_pyIter_list p.isList ?_
    refine ⟨s1.heap.objs.size, [s1.heap.objs.size], _, _, H1, rfl, I1.kept (t' := s1.toks) fun b o e => Heap.get?_push_of_some _ e, turn_list a _, ⟨_, Heap.get?_push_size _ rfl, rfl, rfl⟩, fun b hb => ?_, q⟩
    have e : b = s1.heap.objs.size := by simpa using hb
    subst e
    exact I1.fpOk (Nat.le_refl _) (I1.hok.fresh (Nat.le_refl _))
  · obtain ⟨its, rv, p, hz⟩ := I1.tuple hq
    refine wpAny_pyIter_tuple (show s1.heap.IsTuple a its.toArray from p) ?_
    refine ⟨s1.heap.objs.size, [s1.heap.objs.size], _, _, H1, rfl, I1.kept (t' := s1.toks) fun b o e => Heap.get?_push_of_some _ e, turn_tuple a _, ⟨_, Heap.get?_push_size _ rfl, rfl, rfl⟩, fun b hb => ?_, q⟩
    have e : b = s1.heap.objs.size := by simpa using hb
    subst e
    exact I1.fpOk (Nat.le_refl _) (I1.hok.fresh (Nat.le_refl _))
theorem di_seq {tg : Expr} (h : DE X T e ta) : DI X T tg e (aItS ta) :=
  di_of (pi_either h) fun F σ H Γ M Φ R w q z => cE_mk w q fun d M1 x F1 H1 s1 h1 i1 q1 => by
    cases d with
    | lst ds =>
      cases i1 with
      | lst hq hl => exact ⟨_, rfl, .inl ⟨⟨_, h1.sub.seq hq⟩, z ds M1 _ F1 H1 s1 h1 (walks_list hq hl) q1⟩⟩
    | tup ds =>
      cases i1 with
      | tup hq hl => exact ⟨_, rfl, .inr ⟨⟨_, same_t h1.sub hq⟩, z ds M1 _ F1 H1 s1 h1 (walks_tup hq hl) q1⟩⟩
    | _ => exact q1.elim
def aRng1_k (Φ : List D → Mm → Prop)  (ds : List D) (M1 : Mm) : Prop := match ds with
  | [.int j] => (-4611686018427387904 ≤ j ∧ j < 4611686018427387904) ∧ Φ (rngD 0 j.toNat) M1
  | _ => False
def aRng1 (tr : AA) (Γ : Gm) (M : Mm) (Φ : List D → Mm → Prop) : Prop := tr Γ M fun ds M1 => aRng1_k Φ ds M1
def aRng2_k (Φ : List D → Mm → Prop)  (ds : List D) (M1 : Mm) : Prop := match ds with
  | [.int i, .int j] => (-4611686018427387904 ≤ i ∧ i < 4611686018427387904 ∧ -4611686018427387904 ≤ j ∧ j < 4611686018427387904) ∧ Φ (rngD i (j - i).toNat) M1
  | _ => False
def aRng2 (tr : AA) (Γ : Gm) (M : Mm) (Φ : List D → Mm → Prop) : Prop := tr Γ M fun ds M1 => aRng2_k Φ ds M1
theorem di_rng2 {tg a b : Expr} {p : Pos} (hg : Gl X "range") (hm : X.mg "range" = none) (ha : DA X T [a, b] tr) (hs : starEach [a, b] X.env = [(false, eval a X.env), (false, eval b X.env)] := by rfl) (hs2 : starEach [b] X.env = [(false, eval b X.env)] := by rfl) :
    DI X T tg (.Call (.Name "range" p) [a, b] [] pos) (aRng2 tr) :=
  di_of (pi_range2 hg hm ha hs hs2) fun F σ H Γ M Φ R w q z => cA_mk w q fun ds M1 vs F1 H1 s1 h1 i1 q1 => by
    match ds, i1, q1 with
    | [.int i, .int j], .cons k1 (.cons k2 .nil), q1 =>
      cases k1
      cases k2
      exact ⟨i, j, rfl, by obtain ⟨⟨q1, q2, q3, q4⟩, _⟩ := q1; exact ⟨by omega, by omega, by omega, by omega⟩, z _ M1 _ F1 H1 s1 h1 walks_rng q1.2⟩
theorem di_rng1 {tg a : Expr} {p : Pos} (hg : Gl X "range") (hm : X.mg "range" = none) (ha : DA X T [a] tr) (hs : starEach [a] X.env = [(false, eval a X.env)] := by rfl) :
    DI X T tg (.Call (.Name "range" p) [a] [] pos) (aRng1 tr) :=
  di_of (pi_range1 hg hm ha hs) fun F σ H Γ M Φ R w q z => cA_mk w q fun ds M1 vs F1 H1 s1 h1 i1 q1 => by
    match ds, i1, q1 with
    | [.int j], .cons k1 .nil, q1 =>
      cases k1
      exact ⟨j, rfl, by have := q1.1; omega, by have := q1.1; omega, z _ M1 _ F1 H1 s1 h1 walks_rng q1.2⟩

end
end DL

set_option Elab.async false
set_option linter.all false
set_option maxRecDepth 100000
set_option maxHeartbeats 2000000
namespace DL
open PySem L2
open RZ (ItzT pi_zipA)

section
variable {X : Cx} {T : Ct} {e a b c : Expr} {pos : Pos} {K : PySem.W.Frag} {F F' F1 H H' H1 : Hp} {σ : St} {Γ : Gm} {M M' : Mm} {ta tb tc : AE} {tA tB : AT} {es : List Expr} {tr : AA} {B : Bx} {st : Stmt} {rest sts : List Stmt} {t u : AS}
/-- new pairs -/
theorem walks_pair {J : It} {G : Hp → Prop} {xs ys : Nat → Option V} {ds : List D} (w : Walk J ds.length G (YPair xs ys)) (hG : ∀ F' M' H', Same F F' → Hs K B M' F' H' → G H')
    (hd : ∀ (i : Nat) d, ds[i]? = some d → ∃ p q, d = .tup [p, q] ∧ ∀ x y, xs i = some x → ys i = some y → Is K F x p ∧ Is K F y q) : Walks K B J F ds := fun i F' H' M' s h' hi =>
  have g := hG F' M' H' s h'
  ⟨fun d hdd => by
    have hlt : i < ds.length := (List.getElem?_eq_some_iff.mp hdd).1
    obtain ⟨p, q, rfl, hpq⟩ := hd i d hdd
    refine ⟨w.goes i H' hlt g, fun x H'' y => ?_⟩
    obtain ⟨T, x1, y1, rfl, hT, rfl, e1, e2⟩ := w.yields i H' x H'' hlt g y
    obtain ⟨i1, i2⟩ := hpq x1 y1 e1 e2
    have nT := h'.free hT
    exact ⟨_, upd_same_ext nT, h'.laid hT, .tup (.inl (.inl upd_same)) (.cons ((i1.mono s).mono (upd_same_ext nT)) (.cons ((i2.mono s).mono (upd_same_ext nT)) .nil))⟩, fun e => by
    subst e
    exact w.stops H' g⟩
def enumD (ds : List D) : List D := (List.range ds.length).zipWith (fun i d => .tup [.int (i : Nat), d]) ds
theorem enumD_len (ds : List D) : (enumD ds).length = ds.length := by unfold enumD; rw [List.length_zipWith, List.length_range, Nat.min_self]
theorem enumD_get {ds : List D} {i : Nat} {d : D} (h : (enumD ds)[i]? = some d) : ∃ x, ds[i]? = some x ∧ d = .tup [.int (i : Nat), x] := by
  unfold enumD at h
  rw [List.getElem?_zipWith] at h
  by_cases hi : i < ds.length
  · rw [List.getElem?_range hi, List.getElem?_eq_getElem hi] at h
    exact ⟨ds[i], List.getElem?_eq_getElem hi, (Option.some.inj h).symm⟩
  · rw [List.getElem?_eq_none (by rw [List.length_range]; omega)] at h
    simp at h
theorem walks_enum {l : Addr} {vs : List V} {ds : List D} (h : SqL K F l vs) (z : IsL K F vs ds) : Walks K B (Ite K l) F (enumD ds) := by
  have w := walk_enum (K := K) (a := l) (xs := vs)
  rw [z.length, ← enumD_len ds] at w
  refine walks_pair w (fun F' M' H' s h' => h'.sub.seq (s.seq h)) fun i d hd => ?_
  obtain ⟨x, hx, rfl⟩ := enumD_get hd
  refine ⟨_, _, rfl, fun p q hp hq => ?_⟩
  cases hp
  obtain ⟨v, e, iv⟩ := z.get hx
  rw [show vs[i]? = some q from hq] at e
  cases e
  exact ⟨.int _, iv⟩
def aEnum_k (Φ : List D → Mm → Prop)  (ds : List D) (M1 : Mm) : Prop := match ds with
  | [.lst xs] => Φ (enumD xs) M1
  | _ => False
def aEnum (tr : AA) (Γ : Gm) (M : Mm) (Φ : List D → Mm → Prop) : Prop := tr Γ M fun ds M1 => aEnum_k Φ ds M1
theorem di_enum {p tpos : Pos} {elts : List Expr} {kk : Nat} (hg : Gl X "enumerate") (hm : X.mg "enumerate" = none) (ha : DA X T [e] tr) (hs : starEach [e] X.env = [(false, eval e X.env)] := by rfl) :
    DI X T (.Tuple elts kk tpos) (.Call (.Name "enumerate" p) [e] [] pos) (aEnum tr) :=
  di_of (pi_enum hg hm ha hs) fun F σ H Γ M Φ R w q z => cA_mk w q fun ds M1 vs F1 H1 s1 h1 i1 q1 => by
    match ds, i1, q1 with
    | [.lst xs], .cons k1 .nil, q1 =>
      cases k1 with
      | lst hq hl => exact ⟨_, _, rfl, h1.sub.seq hq, z _ M1 _ F1 H1 s1 h1 (walks_enum hq hl) q1⟩
def zipD (xs ys : List D) : List D := xs.zipWith (fun x y => .tup [x, y]) ys
theorem zipD_get {xs ys : List D} {i : Nat} {d : D} (h : (zipD xs ys)[i]? = some d) : ∃ x y, xs[i]? = some x ∧ ys[i]? = some y ∧ d = .tup [x, y] := by
  unfold zipD at h
  rw [List.getElem?_zipWith] at h
  split at h
  · rename_i x y hx hy
    exact ⟨x, y, hx, hy, (Option.some.inj h).symm⟩
  · cases h
theorem walks_zipL {l m : Addr} {vs ws : List V} {xs ys : List D} (h : SqL K F l vs) (z : IsL K F vs xs) (h2 : SqL K F m ws) (z2 : IsL K F ws ys) : Walks K B (Itz K l m) F (zipD xs ys) := by
  have w := walk_zip (K := K) (a := l) (b := m) (xs := vs) (ys := ws) (n := (zipD xs ys).length) (by unfold zipD; rw [List.length_zipWith, z.length, z2.length])
  refine walks_pair w (fun F' M' H' s h' => ⟨h'.sub.seq (s.seq h), h'.sub.seq (s.seq h2)⟩) fun i d hd => ?_
  obtain ⟨x, y, hx, hy, rfl⟩ := zipD_get hd
  refine ⟨_, _, rfl, fun p q hp hq => ?_⟩
  obtain ⟨v, e, iv⟩ := z.get hx
  obtain ⟨v', e', iv'⟩ := z2.get hy
  rw [show vs[i]? = some p from hp] at e
  rw [show ws[i]? = some q from hq] at e'
  cases e
  cases e'
  exact ⟨iv, iv'⟩
theorem walk_zipT' {a b : Addr} {xs ys : List V} {n : Nat} (hn : n = min xs.length ys.length) : Walk (ItzT K a b) n (fun H => SqT K H a xs ∧ SqT K H b ys) (YPair (fun i => xs[i]?) (fun i => ys[i]?)) := by
  subst hn
  refine ⟨fun i _ hi q => ?_, fun _ q => ⟨xs, ys, q.1, q.2, by omega⟩, fun i H v H' _ q y => ?_⟩
  · have h1 : i < xs.length := by omega
    have h2 : i < ys.length := by omega
    exact ⟨xs, ys, xs[i], ys[i], q.1, q.2, by simp [h1], by simp [h2]⟩
  · obtain ⟨T, x, z, h1, h2, h3, h4, h5⟩ := y
    exact ⟨T, x, z, h1, h2, h3, h4 xs q.1, h5 ys q.2⟩
theorem walks_zipT {l m : Addr} {vs ws : List V} {xs ys : List D} (h : SqT K F l vs) (z : IsL K F vs xs) (h2 : SqT K F m ws) (z2 : IsL K F ws ys) : Walks K B (ItzT K l m) F (zipD xs ys) := by
  have w := walk_zipT' (K := K) (a := l) (b := m) (xs := vs) (ys := ws) (n := (zipD xs ys).length) (by unfold zipD; rw [List.length_zipWith, z.length, z2.length])
  refine walks_pair w (fun F' M' H' s h' => ⟨same_t h'.sub (same_t s h), same_t h'.sub (same_t s h2)⟩) fun i d hd => ?_
  obtain ⟨x, y, hx, hy, rfl⟩ := zipD_get hd
  refine ⟨_, _, rfl, fun p q hp hq => ?_⟩
  obtain ⟨v, e, iv⟩ := z.get hx
  obtain ⟨v', e', iv'⟩ := z2.get hy
  rw [show vs[i]? = some p from hp] at e
  rw [show ws[i]? = some q from hq] at e'
  cases e
  cases e'
  exact ⟨iv, iv'⟩
def aZip_k (Φ : List D → Mm → Prop)  (ds : List D) (M1 : Mm) : Prop := match ds with
  | [.lst xs, .lst ys] => Φ (zipD xs ys) M1
  | [.tup xs, .tup ys] => Φ (zipD xs ys) M1
  | _ => False
def aZip (tr : AA) (Γ : Gm) (M : Mm) (Φ : List D → Mm → Prop) : Prop := tr Γ M fun ds M1 => aZip_k Φ ds M1
theorem di_zip {e2 : Expr} {p tpos : Pos} {elts : List Expr} {kk : Nat} (hg : Gl X "zip") (hm : X.mg "zip" = none) (ha : DA X T [e, e2] tr)
    (hs : starEach [e, e2] X.env = (false, eval e X.env) :: starEach [e2] X.env := by rfl) (hpl : (backTo pos (starEach [e2] X.env)).any (·.1) = false := by rfl) :
    DI X T (.Tuple elts kk tpos) (.Call (.Name "zip" p) [e, e2] [] pos) (aZip tr) :=
  di_of (pi_zipA hg hm ha hs hpl) fun F σ H Γ M Φ R w q z => cA_mk w q fun ds M1 vs F1 H1 s1 h1 i1 q1 => by
    match ds, i1, q1 with
    | [.lst xs, .lst ys], .cons k1 (.cons k2 .nil), q1 =>
      cases k1 with
      | lst hq hl =>
        cases k2 with
        | lst hq2 hl2 => exact ⟨_, _, _, _, rfl, .inl ⟨h1.sub.seq hq, h1.sub.seq hq2, z _ M1 _ F1 H1 s1 h1 (walks_zipL hq hl hq2 hl2) q1⟩⟩
    | [.tup xs, .tup ys], .cons k1 (.cons k2 .nil), q1 =>
      cases k1 with
      | tup hq hl =>
        cases k2 with
        | tup hq2 hl2 => exact ⟨_, _, _, _, rfl, .inr ⟨same_t h1.sub hq, same_t h1.sub hq2, z _ M1 _ F1 H1 s1 h1 (walks_zipT hq hl hq2 hl2) q1⟩⟩

/-! ### for -/
def aFor (ai : AI) (g : AG) (tb : AS) (A : AEnds) (Γ : Gm) (M : Mm) : Prop := ai Γ M fun ds M1 => ∃ I : Nat → Gm → Mm → Prop, I 0 Γ M1 ∧
  (∀ i d Γ' M', ds[i]? = some d → I i Γ' M' → match g d Γ' with
    | some Γ2 => tb { nx := I (i + 1), rt := A.rt, bk := A.nx, ct := I (i + 1) } Γ2 M'
    | none => False) ∧
  ∀ Γ' M', I ds.length Γ' M' → A.nx Γ' M'
theorem ds_for {tg iter : Expr} {body : List Stmt} {ai : AI} {vs : List Nat} {g : AG} {tb : AS} (hp : PassesOwn (model X.prog X.w) X.A X.env X.xe) (hc : X.calm = true) (hi : DI X T tg iter ai) (hg : DG X tg vs g) (hb : DSs X T body tb)
    (hs : ∀ x, foldedSetIterable iter X.env x = pure x := by intro _; rfl) : DS X T (.For tg iter body [] pos) (aFor ai g tb) :=
  ds_of (ps_for hp hc hi hg hb hs) fun F σ H Γ M A D w q m => ⟨F, Γ, M, _, w, q, fun ds M1 J F1 H1 s1 h1 wk q1 => by
    obtain ⟨I, i0, turn, fin⟩ := q1
    refine ⟨fun i n σ' H' => n = ds.length - i ∧ i ≤ ds.length ∧ ∃ F' Γ' M', Same F1 F' ∧ Vw X.K F' σ' Γ' ∧ Hs X.K T.B M' F' H' ∧ I i Γ' M', ⟨ds.length, by simp, Nat.zero_le _, F1, Γ, M1, Same.refl F1, w.v.mono s1, h1, i0⟩, ?_⟩
    rintro i n σ' H' ⟨rfl, hi, F', Γ', M', s', v', h', i'⟩
    obtain ⟨go, stop⟩ := wk i F' H' M' s' h' hi
    by_cases hlt : i < ds.length
    · obtain ⟨g1, g2⟩ := go ds[i] (List.getElem?_eq_getElem hlt)
      refine .inr ⟨g1, fun σ2 H2 => ∃ F' Γ' M', Same F1 F' ∧ Vw X.K F' σ2 Γ' ∧ Hs X.K T.B M' F' H2 ∧ I (i + 1) Γ' M', fun σ2 H2 z => ⟨ds.length - (i + 1), by omega, rfl, hlt, z⟩, fun x H2 y => ?_⟩
      obtain ⟨F2, s2, h2, ix⟩ := g2 x H2 y
      have t := turn i ds[i] Γ' M' (List.getElem?_eq_getElem hlt) i'
      split at t
      · rename_i Γ2 hg2
        refine ⟨F2, ds[i], Γ', Γ2, v'.mono s2, h2.sub, ix, hg2, fun σ3 v3 _ => cS_mk (T := T) ⟨v3, h2, w.l.mono ((s1.trans s').trans s2)⟩ t ⟨?_, ?_, ?_, ?_⟩⟩
        · exact fun Γ4 M4 σ4 F4 H4 s4 v4 h4 q4 => ⟨F4, Γ4, M4, (s'.trans s2).trans s4, v4, h4, q4⟩
        · exact fun d M4 v F4 H4 s4 => m.rt d M4 v F4 H4 (((s1.trans s').trans s2).trans s4)
        · exact fun Γ4 M4 σ4 F4 H4 s4 => m.nx Γ4 M4 σ4 F4 H4 (((s1.trans s').trans s2).trans s4)
        · exact fun Γ4 M4 σ4 F4 H4 s4 v4 h4 q4 => ⟨F4, Γ4, M4, (s'.trans s2).trans s4, v4, h4, q4⟩
      · exact t.elim
    · have e : i = ds.length := by omega
      subst e
      exact .inl ⟨stop rfl, m.nx Γ' M' σ' F' H' (s1.trans s') v' h' (fin Γ' M' i')⟩⟩

/-! ### list comprehensions -/
def aYes (Γ : Gm) (M : Mm) (Φ : Bool → Mm → Prop) : Prop := Φ true M
/-- ai: the source; g: the target; l: the list under way, seen as one more mutable object -/
def aLc (ai : AI) (g : AG) (tt : AT) (te : AE) (vs : List Nat) (Γ : Gm) (M : Mm) (Φ : AK) : Prop := ai Γ M fun ds M1 => ds.length ≤ 100000 ∧ ∃ I : Nat → List D → Mm → Prop, I 0 [] M1 ∧
  (∀ i d acc M' l, ds[i]? = some d → I i acc M' → match g d (wipeG Γ vs) with
    | some Γ2 => tt Γ2 ((l, .lst acc) :: M') fun b M2 => (b = true → te Γ2 M2 fun y M3 => ∃ M4, Dl M3 l (.lst acc) M4 ∧ I (i + 1) (acc ++ [y]) M4) ∧ (b = false → ∃ M4, Dl M2 l (.lst acc) M4 ∧ I (i + 1) acc M4)
    | none => False) ∧
  ∀ acc M', I ds.length acc M' → acc.length ≤ ds.length → Φ (.lst acc) M'
theorem Hs.redo {a : Addr} {o o' : MO} {u : HO} {M4 : Mm} (h : Hs K B M F H) (d : Dl M a o M4) (m : MOk K F (upd H a u) a o') : Hs K B ((a, o') :: M4) F (upd H a u) := by
  obtain ⟨m1, m2, m3⟩ := h.mem _ d.mem
  have ne := d.ne h.nd
  refine ⟨fun b v q => ?_, fun q hq => ?_, ?_, box_upd m2 h.box, h.bfr⟩
  · rw [upd_ne (ne_of_none q m1)]
    exact h.sub b v q
  · rcases List.mem_cons.mp hq with e | hq
    · subst e
      exact ⟨m1, m2, m⟩
    · obtain ⟨k1, k2, k3⟩ := h.mem q (d.sub.subset hq)
      exact ⟨k1, k2, k3.at (upd_ne (ne q hq))⟩
  · rw [List.map_cons, List.nodup_cons]
    refine ⟨fun hm => ?_, h.nd.sublist (d.sub.map _)⟩
    obtain ⟨q, hq, e⟩ := List.mem_map.mp hm
    exact ne q hq e
theorem Hs.front {a : Addr} {o : MO} {M4 : Mm} (h : Hs K B M F H) (d : Dl M a o M4) : Hs K B ((a, o) :: M4) F H := by
  have ne := d.ne h.nd
  refine ⟨h.sub, fun q hq => ?_, ?_, h.box, h.bfr⟩
  · rcases List.mem_cons.mp hq with e | hq
    · subst e
      exact h.mem _ d.mem
    · exact h.mem q (d.sub.subset hq)
  · rw [List.map_cons, List.nodup_cons]
    refine ⟨fun hm => ?_, h.nd.sublist (d.sub.map _)⟩
    obtain ⟨q, hq, e⟩ := List.mem_map.mp hm
    exact ne q hq e
theorem wipe_set_out {σ : St} {i : Nat} {x : Option V} : ∀ ws : List Nat, i ∉ ws → wipe (σ.set i x) ws = (wipe σ ws).set i x
  | [], _ => rfl
  | k :: ws, hn => by
    show (wipe (σ.set i x) ws).set k none = ((wipe σ ws).set k none).set i x
    rw [wipe_set_out ws fun h => hn (List.mem_cons_of_mem _ h), List.set_comm _ _ fun e => hn (by rw [e]; exact List.mem_cons_self)]
theorem wipe_sub {σ : St} {ws : List Nat} : ∀ {vs : List Nat}, (∀ i ∈ vs, i ∈ ws) → wipe (wipe σ vs) ws = wipe σ ws
  | [], _ => rfl
  | i :: vs, h => by
    show wipe ((wipe σ vs).set i none) ws = wipe σ ws
    rw [wipe_set (h i (by simp)), wipe_sub fun j hj => h j (List.mem_cons_of_mem _ hj)]
theorem lc_go {ai : AI} {vs ws : List Nat} {g : AG} {tt : AT} {te : AE} {T' : Ct} {Q : VK} {Φ : AK} (hT : T'.B = T.B) (hl : ∀ F, Lk K T' F) (hv : ∀ i ∈ ws, i ∈ vs) (w : See K T F σ H Γ M) (q : aLc ai g tt te vs Γ M Φ)
    (z : ∀ d M' v F' H', Same F F' → Hs K T.B M' F' H' → Is K F' v d → Φ d M' → Q v H') : tLc (cI K T ai) (cG K ws g) (cT K T' tt) (cE K T' te) vs σ H Q := ⟨F, Γ, M, _, w, q, fun ds M1 J F1 H1 s1 h1 wk q1 => by
  obtain ⟨hsz, I, i0, turn, fin⟩ := q1
  intro L hL
  refine ⟨fun i n H' => n = ds.length - i ∧ i ≤ ds.length ∧ ∃ F' acc M', Same F1 F' ∧ Hs K T.B ((L, .lst acc) :: M') F' H' ∧ acc.length ≤ i ∧ I i acc M', ⟨ds.length, by simp, Nat.zero_le _, F1, [], M1, Same.refl F1, h1.newM (o := .lst []) hL ⟨[], upd_same, .nil⟩, by simp, i0⟩, ?_⟩
  rintro i n H' ⟨rfl, hi, F', acc, M', s', h', hacc, i'⟩
  obtain ⟨go, stop⟩ := wk i F' H' _ s' h' hi
  by_cases hlt : i < ds.length
  · obtain ⟨g1, g2⟩ := go ds[i] (List.getElem?_eq_getElem hlt)
    refine .inr ⟨g1, fun H2 => ∃ F' acc M', Same F1 F' ∧ Hs K T.B ((L, .lst acc) :: M') F' H2 ∧ acc.length ≤ i + 1 ∧ I (i + 1) acc M', fun H2 y => ⟨ds.length - (i + 1), by omega, rfl, hlt, y⟩, fun x H2 y => ?_⟩
    obtain ⟨F2, s2, h2, ix⟩ := g2 x H2 y
    have t := turn i ds[i] acc M' L (List.getElem?_eq_getElem hlt) i'
    split at t
    · rename_i Γ2 hg2
      refine ⟨F2, ds[i], wipeG Γ vs, Γ2, (w.v.mono ((s1.trans s').trans s2)).wipe vs, h2.sub, ix, hg2, fun σ3 v3 e3 => ⟨(e3 vs hv).trans (wipe_sub fun _ h => h), ?_⟩⟩
      refine cT_mk (T := T') ⟨v3, by rw [hT]; exact h2, hl _⟩ t fun b M3 F3 H3 s3 h3 q3 => ?_
      cases b with
      | true =>
        rw [if_pos rfl]
        refine cE_mk (T := T') ⟨v3.mono s3, h3, hl _⟩ (q3.1 rfl) fun y M4 yv F4 H4 s4 h4 i4 ⟨M5, dl, q5⟩ => ?_
        rw [hT] at h4
        obtain ⟨vs4, e4, z4⟩ := h4.lst dl.mem
        refine ⟨vs4, e4, by rw [z4.length]; exact line_lt (by omega), F4, acc ++ [y], M5, ((s'.trans s2).trans s3).trans s4, h4.redo dl ⟨_, upd_same, z4.append (.cons i4 .nil)⟩, by simp; omega, q5⟩
      | false =>
        rw [if_neg Bool.false_ne_true]
        obtain ⟨M5, dl, q5⟩ := q3.2 rfl
        rw [hT] at h3
        exact ⟨F3, acc, M5, (s'.trans s2).trans s3, h3.front dl, by omega, q5⟩
    · exact t.elim
  · have e : i = ds.length := by omega
    subst e
    obtain ⟨F2, s2, h2, i2⟩ := h'.freeze (M' := M') .here
    exact .inl ⟨stop rfl, z _ M' _ F2 H' ((s1.trans s').trans s2) h2 i2 (fin acc M' i' hacc)⟩⟩
def DTs (X : Cx) (T : Ct) (ifs : List Expr) (ta : AT) : Prop := PTs X ifs (cT X.K T ta)
theorem dts_nil : DTs X T [] aYes := ⟨fun pins s σ H Q I ⟨F, Γ, M, Φ, w, q, z⟩ => pts_nil.run pins s σ H Q I (z true M F H (Same.refl F) w.h q)⟩
theorem dts_one {t : AT} (h : DT X T c t) : DTs X T [c] t := pts_one h
theorem de_lc {elt tg iter : Expr} {ifs : List Expr} {scope : Scope} {own : List (Str × Nat)} {ai : AI} {ws : List Nat} {g : AG} {tt : AT} {te : AE} (hc : X.calm = true) (hN : X.N.Nodup) (hi : DI X T tg iter ai) (ok : BlkOk X.N X.env.scope scope own)
    (hg : ∀ (s : Shared) (H : Hp) (C : Addr) (cl : List (Str × Addr)) (fp : List Addr), DG (X.blk s H scope (compEnvC scope cl C X.env) fp) tg ws g) (ht : ∀ (s : Shared) (H : Hp) (C : Addr) (cl : List (Str × Addr)) (fp : List Addr), DTs (X.blk s H scope (compEnvC scope cl C X.env) fp) (.calm T.B) ifs tt)
    (he : ∀ (s : Shared) (H : Hp) (C : Addr) (cl : List (Str × Addr)) (fp : List Addr), DE (X.blk s H scope (compEnvC scope cl C X.env) fp) (.calm T.B) elt te) (hv : ∀ i ∈ ws, i ∈ own.map (·.2) := by decide) (hs : ∀ x, foldedSetIterable iter X.env x = pure x := by intro _; rfl) :
    DE X T (.ListComp elt [⟨tg, iter, ifs, 0⟩] scope pos) (aLc ai g tt te (own.map (·.2))) :=
  de_of (pe_lc (g := cG X.K ws g) (tt := cT X.K (.calm T.B) tt) (te := cE X.K (.calm T.B) te) hc hN hi ok hg ht he hs) fun F σ H Γ M Φ Q w q z => lc_go (T' := .calm T.B) rfl (fun _ => lk_calm) hv w q z
theorem ds_setLc {i : Nat} {y : Str} {py spos : Pos} {elt tg iter : Expr} {ifs : List Expr} {scope : Scope} {own : List (Str × Nat)} {ai : AI} {ws : List Nat} {g : AG} {tt : AT} {te : AE} (hc : X.calm = true) (hN : X.N.Nodup) (hy : X.N[i]? = some y) (hyl : X.env.scope.names.lookup y = some .local)
    (hsw : swapsWith (.ListComp elt [⟨tg, iter, ifs, 0⟩] scope pos) (some (.Name y py)) spos.line X.env = pure true) (hi : DI X T tg iter ai) (ok : BlkOk X.N X.env.scope scope own)
    (hg : ∀ (s : Shared) (H : Hp) (C : Addr) (cl : List (Str × Addr)) (fp : List Addr), DG (X.blk s H scope (compEnvC scope cl C X.env) fp) tg ws g) (ht : ∀ (s : Shared) (H : Hp) (C : Addr) (cl : List (Str × Addr)) (fp : List Addr), DTs (X.blk s H scope (compEnvC scope cl C X.env) fp) (.calm T.B) ifs tt)
    (he : ∀ (s : Shared) (H : Hp) (C : Addr) (cl : List (Str × Addr)) (fp : List Addr), DE (X.blk s H scope (compEnvC scope cl C X.env) fp) (.calm T.B) elt te) (hv : ∀ i ∈ ws, i ∈ own.map (·.2) := by decide) (hs : ∀ x, foldedSetIterable iter X.env x = pure x := by intro _; rfl) :
    DS X T (.Assign [.Name y py] (.ListComp elt [⟨tg, iter, ifs, 0⟩] scope pos) spos) (aSet i (aLc ai g tt te (own.map (·.2)))) :=
  ds_of (ps_setLc (g := cG X.K ws g) (tt := cT X.K (.calm T.B) tt) (te := cE X.K (.calm T.B) te) hc hN hy hyl hsw hi ok hg ht he hs) fun F σ H Γ M A D w q m => lc_go (T' := .calm T.B) rfl (fun _ => lk_calm) hv w q fun d M1 v F1 H1 s1 h1 i1 q1 => m.nx _ M1 _ F1 H1 s1 ((w.v.mono s1).set i1 i) h1 q1
end
end DL

set_option Elab.async false
set_option linter.all false
set_option maxRecDepth 100000
set_option maxHeartbeats 2000000
namespace DL
open PySem L2
open PyProof.Rows (envOfC)

/-! ### promises over data -/
abbrev ASp := List D → Mm → AK → (XD → Mm → Prop) → Prop
def conc (K : PySem.W.Frag) (B : Bx) (asp : ASp) : Sp := fun vs H Q E => ∃ ds F M Φ Ψ, IsL K F vs ds ∧ Hs K B M F H ∧ asp ds M Φ Ψ ∧
  (∀ d M' v F' H', Same F F' → Hs K B M' F' H' → Is K F' v d → Φ d M' → Q v H') ∧ (∀ x cls d M' F' H', Same F F' → Hs K B M' F' H' → XIs K F' cls d x → Ψ x M' → E cls d H')
def startD (N : List Str) (ds : List D) : Gm := ds.map some ++ List.replicate (N.length - ds.length) none
theorem vw_start {K : PySem.W.Frag} {F : Hp} {N : List Str} {vs : List V} {ds : List D} (h : IsL K F vs ds) : Vw K F (L2.start N vs) (startD N ds) := by
  unfold L2.start startD
  refine ⟨by rw [List.length_append, List.length_append, List.length_map, List.length_map, h.length, List.length_replicate, List.length_replicate], fun i d hd => ?_⟩
  by_cases hi : i < ds.length
  · rw [List.getElem?_append_left (by rw [List.length_map]; exact hi), List.getElem?_map] at hd
    rw [List.getElem?_append_left (by rw [List.length_map, h.length]; exact hi), List.getElem?_map]
    cases e : ds[i]? with
    | none =>
      rw [e] at hd
      cases hd
    | some g =>
      rw [e] at hd
      cases hd
      obtain ⟨v, h1, h2⟩ := h.get e
      exact ⟨v, by rw [h1]; rfl, h2⟩
  · rw [List.getElem?_append_right (by rw [List.length_map]; omega), List.getElem?_replicate] at hd
    split at hd <;> cases hd
section
variable {P : Program} {w : World} {K : PySem.W.Frag} {mg : Str → Option Value} {base : Heap} {B : Bx}
/-- the context of a body under way -/
abbrev cxD (P : Program) (w : World) (K : PySem.W.Frag) (mg : Str → Option Value) (base : Heap) (N : List Str) (qual : Str) (sc : Scope) (f : Addr) (cdv : Value) (A : Around) (outer : List Env) (s : Shared) (H : Hp) (E : XK) : Cx := cxOf (L2N.CX P w) P w K mg base N qual sc f cdv A outer s H E
abbrev ctD (B : Bx) (E : XK) (Ψ : XD → Mm → Prop) : Ct := ⟨B, fun cls d _ H => E cls d H, fun x _ M => Ψ x M⟩
theorem body_go {N : List Str} {X : Cx} {E : XK} {body : List Stmt} {asp : ASp} (hX : X.K = K) {vs : List V} {H : Hp} {Q : VK} (h : conc K B asp vs H Q E)
    (hb : ∀ ds M Φ Ψ, asp ds M Φ Ψ → ∃ ta, DSs X (ctD B E Ψ) body ta ∧ ta { nx := fun _ M => Φ .non M, rt := Φ } (startD N ds) M) :
    ∃ t, PSs X body t ∧ t { nx := fun _ H' => Q .non H', rt := Q } (L2.start N vs) H := by
  obtain ⟨ds, F, M, Φ, Ψ, hv, hh, ha, hq, he⟩ := h
  obtain ⟨ta, d, r⟩ := hb ds M Φ Ψ ha
  subst hX
  refine ⟨_, d, cS_mk (T := ctD B E Ψ) ⟨vw_start hv, hh, fun x cls dd Γ' M' σ' F' H' s v h2 hx hp => he x cls dd M' F' H' s h2 hx hp⟩ r ⟨fun Γ' M' σ' F' H' s v h2 q => hq _ M' _ F' H' s h2 .non q, fun d M' v F' H' s h2 i q => hq d M' v F' H' s h2 i q, fun _ _ _ _ _ _ _ _ q => q, fun _ _ _ _ _ _ _ _ q => q⟩⟩
theorem conc_len {asp : ASp} {ps : List Str} (hlen : ∀ ds M Φ Ψ, asp ds M Φ Ψ → ds.length = ps.length) : ∀ vs H Q E, conc K B asp vs H Q E → vs.length = ps.length := fun vs H Q E ⟨ds, F, M, Φ, Ψ, hv, _, ha, _⟩ => hv.length.trans (hlen ds M Φ Ψ ha)
theorem fun_okN {x qual : Str} {st : Stmt} {f : Addr} {fd : FuncData} {N ps : List Str} {k : Nat} {sp : Sp} (F : Fun K x qual st f fd) (S : FnScope N ps (defScope st)) (len : ∀ vs H Q E, sp vs H Q E → vs.length = ps.length)
    (hbody : ∀ (cdv : Value) (A : Around) (outer : List Env) (s : Shared) (H : Hp) (vs : List V) (Q : VK) (E : XK), Room k (A.deeper (envOfC qual (defScope st) s.heap.objs.size f cdv)) → sp vs H Q E →
      ∃ t, PSs (cxOf (L2N.CX P w) P w K mg base N qual (defScope st) f cdv A outer s H E) (defBody st) t ∧ t { nx := fun _ H' => Q .non H', rt := Q } (L2.start N vs) H) : FnOk P w K mg base (L2N.CX P w) (k + 1) f fd ps sp := by
  obtain ⟨oc, od, kV, doc, pm, an, cdv, ct, osl, rfl, lk, hcd⟩ := F.ex
  exact fn_of lk hcd S len fun A outer s H vs Q E hr hsp => hbody cdv A outer s H vs Q E hr hsp
/-- THE RULE for a def -/
theorem dfn {x qual : Str} {st : Stmt} {f : Addr} {fd : FuncData} {N ps : List Str} {k : Nat} {asp : ASp} (F : Fun K x qual st f fd) (S : FnScope N ps (defScope st)) (hlen : ∀ ds M Φ Ψ, asp ds M Φ Ψ → ds.length = ps.length)
    (hb : ∀ (cdv : Value) (A : Around) (outer : List Env) (s : Shared) (H : Hp) (E : XK), Room k (A.deeper (envOfC qual (defScope st) s.heap.objs.size f cdv)) → ∀ ds M Φ Ψ, asp ds M Φ Ψ →
      ∃ ta, DSs (cxD P w K mg base N qual (defScope st) f cdv A outer s H E) (ctD B E Ψ) (defBody st) ta ∧ ta { nx := fun _ M => Φ .non M, rt := Φ } (startD N ds) M) : FnOk P w K mg base (L2N.CX P w) (k + 1) f fd ps (conc K B asp) :=
  fun_okN F S (conc_len hlen) fun cdv A outer s H vs Q E hr h => body_go rfl h (hb cdv A outer s H E hr)
theorem dfnD {x qual : Str} {params : Arguments} {body : List Stmt} {scope : Scope} {dvs : List V} {kws : List (Str × V)} {f : Addr} {fd : FuncData} {N ps : List Str} {k : Nat} {asp : ASp} (F : FunD K x qual params body scope dvs kws f fd) (S : FnScope N ps scope) (hlen : ∀ ds M Φ Ψ, asp ds M Φ Ψ → ds.length = ps.length)
    (hb : ∀ (cdv : Value) (A : Around) (outer : List Env) (s : Shared) (H : Hp) (E : XK), Room k (A.deeper (envOfC qual scope s.heap.objs.size f cdv)) → ∀ ds M Φ Ψ, asp ds M Φ Ψ →
      ∃ ta, DSs (cxD P w K mg base N qual scope f cdv A outer s H E) (ctD B E Ψ) body ta ∧ ta { nx := fun _ M => Φ .non M, rt := Φ } (startD N ds) M) : FnOk P w K mg base (L2N.CX P w) (k + 1) f fd ps (conc K B asp) :=
  F.ok S (conc_len hlen) fun cdv A outer s H vs Q E hr h => body_go rfl h (hb cdv A outer s H E hr)
end
/-- a call: dds the defaults -/
def aCall (asp : ASp) (dds : List D) (Ψ : AX) (tr : AA) (Γ : Gm) (M : Mm) (Φ : AK) : Prop := tr Γ M fun ds M1 => asp (ds ++ dds) M1 Φ (fun x M2 => Ψ x Γ M2)
section
variable {X : Cx} {T : Ct} {e a b c : Expr} {pos : Pos} {K : PySem.W.Frag} {F F' F1 H H' H1 : Hp} {σ : St} {Γ : Gm} {M M' : Mm} {ta tb tc : AE} {tA tB : AT} {es : List Expr} {tr : AA} {B : Bx}
theorem de_callD {x : Str} {p : Pos} {k : Nat} {f : Addr} {fd : FuncData} {ps : List Str} {asp : ASp} {dds : List D} {dvs : List V} {dvals : List Value} (G : FnOk X.prog X.w X.K X.mg X.base (L2N.CX X.prog X.w) k f fd ps (conc X.K T.B asp)) (hr : Room k X.A) (hg : Gl X x) (hm : X.mg x = some (.ref f)) (hk : PySem.W.keepIn X.K (.ref f) = true)
    (hb : Binds X.K fd ps dvals) (hd : Vals dvs dvals) (hi : ∀ F, IsL X.K F dvs dds) (tk : L2N.Takes X T.W) (ha : DA X T (e :: es) tr)
    (hdb : (x == ("__debug__" : Str)) = false := by decide) (he : starEach (e :: es) X.env = (false, eval e X.env) :: starEach es X.env := by rfl) (hpl : (backTo pos (starEach es X.env)).any (·.1) = false := by rfl) :
    DE X T (.Call (.Name x p) (e :: es) [] pos) (aCall asp dds T.Ψ tr) :=
  de_of (pe_callSD G hr hg hm hk hb hd (fun σ => L2N.passAt tk σ) ha hdb he hpl) fun F σ H Γ M Φ Q w q z => cA_mk w q fun ds M1 vs F1 H1 s1 h1 i1 q1 =>
    ⟨ds ++ dds, F1, M1, Φ, fun x M2 => T.Ψ x Γ M2, i1.append (hi F1), h1, q1, fun d M2 v F2 H2 s2 h2 i2 q2 => z d M2 v F2 H2 (s1.trans s2) h2 i2 q2, fun y cls d M2 F2 H2 s2 h2 xi q2 => w.l y cls d Γ M2 σ F2 H2 (s1.trans s2) (w.v.mono (s1.trans s2)) h2 xi q2⟩
theorem de_call {x : Str} {p : Pos} {k : Nat} {f : Addr} {fd : FuncData} {ps : List Str} {asp : ASp} (G : FnOk X.prog X.w X.K X.mg X.base (L2N.CX X.prog X.w) k f fd ps (conc X.K T.B asp)) (hr : Room k X.A) (hg : Gl X x) (hm : X.mg x = some (.ref f)) (hk : PySem.W.keepIn X.K (.ref f) = true)
    (hb : Binds X.K fd ps []) (tk : L2N.Takes X T.W) (ha : DA X T (e :: es) tr)
    (hdb : (x == ("__debug__" : Str)) = false := by decide) (he : starEach (e :: es) X.env = (false, eval e X.env) :: starEach es X.env := by rfl) (hpl : (backTo pos (starEach es X.env)).any (·.1) = false := by rfl) :
    DE X T (.Call (.Name x p) (e :: es) [] pos) (aCall asp [] T.Ψ tr) :=
  de_callD G hr hg hm hk hb .nil (fun _ => .nil) tk ha hdb he hpl
/-- nothing is raised in a block -/
theorem tk_calm {X : Cx} {B : Bx} : L2N.Takes X (Ct.calm B).W := fun _ _ ⟨_, _, _, _, _, _, _, _, _, _, _, _, _, _, _, _, w⟩ => w.elim

/-! ### a hidden part made -/
/-- from here on a hidden part bx i stands for some mutable objects -/
def aBox {ι : Type} (bx : ι → Bx) (t : ι → AS) (A : AEnds) (Γ : Gm) (M : Mm) : Prop := ∃ i M', (∀ K F H, Hs K Bx.no M F H → Hs K (bx i) M' F H) ∧ t i A Γ M'
theorem Hs.unbox (h : Hs K B M F H) : Hs K Bx.no M F H := ⟨h.sub, fun q hq => let ⟨m1, _, m3⟩ := h.mem q hq; ⟨m1, List.not_mem_nil, m3⟩, h.nd, trivial, fun _ hb => absurd hb List.not_mem_nil⟩
theorem dss_box {ι : Type} {bx : ι → Bx} {W : WX} {Ψ : AX} {sts : List Stmt} {t : ι → AS} (h : ∀ i, DSs X ⟨bx i, W, fun _ _ _ => False⟩ sts (t i)) : DSs X ⟨Bx.no, W, Ψ⟩ sts (aBox bx t) :=
  ⟨fun pins s σ H D I ⟨F, Γ, M, A, w, q, m1, m2, m3, m4⟩ => by
    obtain ⟨i, M', cv, q⟩ := q
    refine (h i).run pins s σ H D I (cS_mk (T := ⟨bx i, W, fun _ _ _ => False⟩) ⟨w.v, cv _ _ _ w.h, fun _ _ _ _ _ _ _ _ _ _ _ _ z => z.elim⟩ q ⟨?_, ?_, ?_, ?_⟩)
    · exact fun Γ2 M2 σ2 F2 H2 s2 v2 h2 q2 => m1 Γ2 M2 σ2 F2 H2 s2 v2 h2.unbox q2
    · exact fun d M2 v F2 H2 s2 h2 i2 q2 => m2 d M2 v F2 H2 s2 h2.unbox i2 q2
    · exact fun Γ2 M2 σ2 F2 H2 s2 v2 h2 q2 => m3 Γ2 M2 σ2 F2 H2 s2 v2 h2.unbox q2
    · exact fun Γ2 M2 σ2 F2 H2 s2 v2 h2 q2 => m4 Γ2 M2 σ2 F2 H2 s2 v2 h2.unbox q2⟩
end
end DL

set_option Elab.async false
set_option linter.all false
set_option maxRecDepth 100000
set_option maxHeartbeats 2000000
namespace DL
open PySem L2

section
variable {X : Cx} {T : Ct} {e a b c : Expr} {pos : Pos} {K : PySem.W.Frag} {F F' F1 H H' H1 : Hp} {σ : St} {Γ : Gm} {M M' : Mm} {ta tb tc : AE} {tA tB : AT} {es : List Expr} {tr : AA} {B : Bx}
/-! ### ints -/
def fI (g : Int → Int → D) (d e : D) (M : Mm) (Φ : AK) : Prop := match d, e with
  | .int i, .int j => Φ (g i j) M
  | _, _ => False
def fC (C : Int → Int → Prop) (g : Int → Int → D) (d e : D) (M : Mm) (Φ : AK) : Prop := match d, e with
  | .int i, .int j => C i j ∧ Φ (g i j) M
  | _, _ => False
theorem ab_I0 {g : Int → Int → Int} : Ab2 K B (rI0 fun i j => .int (g i j)) (fI fun i j => .int (g i j)) := fun F H x y d e M Φ Q h i1 i2 q z => by
  unfold fI at q
  (first | split at q | (unfold aChain_k at q; split at q))
  · cases i1
    cases i2
    exact ⟨_, _, rfl, rfl, z _ M _ F H (Same.refl F) h (.int _) q⟩
  · exact q.elim
theorem ab_B0 {g : Int → Int → Bool} : Ab2 K B (rI0 fun i j => .bl (g i j)) (fI fun i j => .bl (g i j)) := fun F H x y d e M Φ Q h i1 i2 q z => by
  unfold fI at q
  (first | split at q | (unfold aChain_k at q; split at q))
  · cases i1
    cases i2
    exact ⟨_, _, rfl, rfl, z _ M _ F H (Same.refl F) h (.bl _) q⟩
  · exact q.elim
theorem ab_C {C C' : Int → Int → Prop} {g : Int → Int → Int} (hc : ∀ i j, C' i j → C i j) : Ab2 K B (rI C fun i j => .int (g i j)) (fC C' fun i j => .int (g i j)) := fun F H x y d e M Φ Q h i1 i2 q z => by
  unfold fC at q
  (first | split at q | (unfold aChain_k at q; split at q))
  · cases i1
    cases i2
    exact ⟨_, _, rfl, rfl, hc _ _ q.1, z _ M _ F H (Same.refl F) h (.int _) q.2⟩
  · exact q.elim
/-- a factor is small, or both are not too great -/
def MulOk (i j : Int) : Prop := (-18446744073709551616 < i ∧ i < 18446744073709551616) ∨ (-18446744073709551616 < j ∧ j < 18446744073709551616) ∨ CMulW i j
/-- the divisor -/
def DivOk (_ j : Int) : Prop := 0 < j ∧ j.natAbs.log2 < 9000
def ModOk (_ j : Int) : Prop := 0 < j
theorem op_mulA : OpR X (binaryOp .Mult) (rI MulOk fun i j => .int (i * j)) := fun pins s σ H x y u v Q I rx ry q => by
  obtain ⟨i, j, rfl, rfl, hc, q⟩ := q
  rcases hc with hc | hc | hc
  · exact op_mul pins s σ H _ _ u v Q I rx ry ⟨i, j, rfl, rfl, .inl (by omega), q⟩
  · exact op_mul pins s σ H _ _ u v Q I rx ry ⟨i, j, rfl, rfl, .inr (by omega), q⟩
  · exact op_mulW pins s σ H _ _ u v Q I rx ry ⟨i, j, rfl, rfl, hc, q⟩
theorem divOk_of {i j : Int} (h : 0 < j) (h2 : j < 18446744073709551616) : DivOk i j := ⟨h, (wide_div (i := i) (b := 64) h (by omega) (by decide) (by decide)).2⟩
abbrev fAdd : A2 := fI fun i j => .int (i + j)
abbrev fSub : A2 := fI fun i j => .int (i - j)
abbrev fMul : A2 := fC MulOk fun i j => .int (i * j)
abbrev fDiv : A2 := fC DivOk fun i j => .int (i / j)
abbrev fMod : A2 := fC ModOk fun i j => .int (i % j)
abbrev fPow : A2 := fC CPow fun i j => .int (i ^ j.toNat)
abbrev fLt : A2 := fI fun i j => .bl (decide (i < j))
abbrev fLe : A2 := fI fun i j => .bl (decide (i ≤ j))
abbrev fGt : A2 := fI fun i j => .bl (decide (j < i))
abbrev fGe : A2 := fI fun i j => .bl (decide (j ≤ i))
theorem de_add (ha : DE X T a ta) (hb : DE X T b tb) : DE X T (.BinOp a .Add b pos) (aOp fAdd ta tb) := de_op op_add ab_I0 ha hb
theorem de_sub (ha : DE X T a ta) (hb : DE X T b tb) : DE X T (.BinOp a .Sub b pos) (aOp fSub ta tb) := de_op op_sub ab_I0 ha hb
theorem de_mul (ha : DE X T a ta) (hb : DE X T b tb) : DE X T (.BinOp a .Mult b pos) (aOp fMul ta tb) := de_op op_mulA (ab_C fun _ _ h => h) ha hb
theorem de_div (ha : DE X T a ta) (hb : DE X T b tb) : DE X T (.BinOp a .FloorDiv b pos) (aOp fDiv ta tb) := de_op op_fdivW (ab_C fun _ _ h => h) ha hb
theorem de_mod (ha : DE X T a ta) (hb : DE X T b tb) : DE X T (.BinOp a .Mod b pos) (aOp fMod ta tb) := de_op op_mod (ab_C fun _ _ h => h) ha hb
theorem de_pow (ha : DE X T a ta) (hb : DE X T b tb) : DE X T (.BinOp a .Pow b pos) (aOp fPow ta tb) := de_op op_pow (ab_C fun _ _ h => h) ha hb
def fNeg (d : D) (M : Mm) (Φ : AK) : Prop := match d with
  | .int i => Φ (.int (-i)) M
  | _ => False
theorem de_neg (ha : DE X T a ta) : DE X T (.UnaryOp .USub a pos) (aUn fNeg ta) := de_un un_neg (fun F H x d M Φ Q h i q z => by
  unfold fNeg at q
  (first | split at q | (unfold aChain_k at q; split at q))
  · cases i
    exact ⟨_, rfl, z _ M _ F H (Same.refl F) h (.int _) q⟩
  · exact q.elim) ha
theorem de_lt (ha : DE X T a ta) (hb : DE X T b tb) : DE X T (.Compare a [.Lt] [b] pos) (aOp fLt ta tb) := de_cmp op_lt ab_B0 ha hb
theorem de_le (ha : DE X T a ta) (hb : DE X T b tb) : DE X T (.Compare a [.LtE] [b] pos) (aOp fLe ta tb) := de_cmp op_le ab_B0 ha hb
theorem de_gt (ha : DE X T a ta) (hb : DE X T b tb) : DE X T (.Compare a [.Gt] [b] pos) (aOp fGt ta tb) := de_cmp op_gt ab_B0 ha hb
theorem de_ge (ha : DE X T a ta) (hb : DE X T b tb) : DE X T (.Compare a [.GtE] [b] pos) (aOp fGe ta tb) := de_cmp op_ge ab_B0 ha hb
/-- two comparisons in a chain -/
theorem chain_go {r r' : R2} {f g : A2} {Q : VK} {Φ : AK} (hr : Ab2 K T.B r f) (hr' : Ab2 K T.B r' g) (w : See K T F σ H Γ M) (q : aChain f g ta tb tc Γ M Φ) (z : ∀ d M' v F' H', Same F F' → Hs K T.B M' F' H' → Is K F' v d → Φ d M' → Q v H') :
    tChain r r' (cE K T ta) (cE K T tb) (cE K T tc) σ H Q :=
  cE_mk w q fun d M1 x F1 H1 s1 h1 i1 q1 => cE_mk (w.go s1 h1) q1 fun e M2 y F2 H2 s2 h2 i2 q2 => hr F2 H2 x y d e M2 _ _ h2 (i1.mono s2) i2 q2 fun k M3 v F3 H3 s3 h3 i3 q3 => by
    (first | split at q3 | (unfold aChain_k at q3; split at q3))
    · rename_i k
      cases i3
      refine ⟨k, rfl, ?_⟩
      cases k with
      | true => exact cE_mk (((w.go s1 h1).go s2 h2).go s3 h3) (q3.1 rfl) fun c M4 u F4 H4 s4 h4 i4 q4 => hr' F4 H4 y u e c M4 Φ Q h4 ((i2.mono s3).mono s4) i4 q4 fun d M5 v F5 H5 s5 h5 i5 q5 => z d M5 v F5 H5 ((((s1.trans s2).trans s3).trans s4).trans s5) h5 i5 q5
      | false => exact z _ M3 _ F3 H3 ((s1.trans s2).trans s3) h3 (.bl false) (q3.2 rfl)
    · exact q3.elim
end
end DL

set_option Elab.async false
set_option linter.all false
set_option maxRecDepth 100000
set_option maxHeartbeats 2000000
namespace DL
open PySem L2

section
variable {X : Cx} {T : Ct} {e a b c : Expr} {pos : Pos} {K : PySem.W.Frag} {F F' F1 H H' H1 : Hp} {σ : St} {Γ : Gm} {M M' : Mm} {ta tb tc : AE} {tA tB : AT} {es : List Expr} {tr : AA} {B : Bx}
theorem de_chain {op op' : CmpOp} {r r' : R2} {f g : A2} (ho : OpR X (compareOp op) r) (ho' : OpR X (compareOp op') r') (hr : Ab2 X.K T.B r f) (hr' : Ab2 X.K T.B r' g) (ha : DE X T a ta) (hb : DE X T b tb) (hc : DE X T c tc)
    (hm : lastMarks [op, op'] [b, c] = false := by with_unfolding_all rfl) : DE X T (.Compare a [op, op'] [b, c] pos) (aChain f g ta tb tc) :=
  de_of (pe_chain ho ho' ha hb hc hm) fun F σ H Γ M Φ Q w q z => chain_go hr hr' w q z
theorem dt_chain {op op' : CmpOp} {r r' : R2} {f g : A2} (ho : OpR X (compareOp op) r) (ho' : OpR X (compareOp op') r') (hr : Ab2 X.K T.B r f) (hr' : Ab2 X.K T.B r' g) (ha : DE X T a ta) (hb : DE X T b tb) (hc : DE X T c tc)
    (hm : lastMarks [op, op'] [b, c] = false := by with_unfolding_all rfl) : DT X T (.Compare a [op, op'] [b, c] pos) (aB (aChain f g ta tb tc)) :=
  dt_of (pt_chain ho ho' ha hb hc hm) fun F σ H Γ M Φ Q w q z => chain_go hr hr' w q fun d M1 x F1 H1 s1 h1 i1 q1 => by
    cases d with
    | bl b =>
      cases i1
      exact ⟨b, rfl, z b M1 F1 H1 s1 h1 q1⟩
    | _ => exact q1.elim

/-! ### sequences, read -/
/-- the items of a list or a tuple, a mutable list too -/
def seqOf (d : D) (M : Mm) (k : List D → Prop) : Prop := match d with
  | .lst xs => k xs
  | .tup xs => k xs
  | .ref l => ∃ xs, (l, MO.lst xs) ∈ M ∧ k xs
  | _ => False
theorem seq_at {d : D} {k : List D → Prop} {x : V} (h : Hs K B M F H) (i : Is K F x d) (q : seqOf d M k) : ∃ l vs xs, x = .ref l ∧ (SqL K H l vs ∨ SqT K H l vs) ∧ IsL K F vs xs ∧ k xs := by
  unfold seqOf at q
  (first | split at q | (unfold aChain_k at q; split at q) | (unfold aP_k at q; split at q) | (unfold aSl_k at q; split at q) | (unfold aRev_k at q; split at q) | (unfold aRevM_k at q; split at q) | (unfold aApp_k at q; split at q) | (unfold aPop_k at q; split at q) | (unfold aPopAt_k at q; split at q) | (unfold fIx onD at q; split at q) | (unfold onD at q; split at q))
  · cases i with
    | lst hq hl => exact ⟨_, _, _, rfl, .inl (h.sub.seq hq), hl, q⟩
  · cases i with
    | tup hq hl => exact ⟨_, _, _, rfl, .inr (same_t h.sub hq), hl, q⟩
  · obtain ⟨xs, hm, q⟩ := q
    cases i
    obtain ⟨vs, e, z⟩ := h.lst hm
    exact ⟨_, vs, xs, rfl, .inl (.inl (.inl e)), z, q⟩
  · exact q.elim
def fLen (ds : List D) (M : Mm) (Φ : AK) : Prop := match ds with
  | [d] => seqOf d M fun xs => Φ (.int (xs.length : Nat)) M
  | _ => False
theorem ab_len : AbL K B (fun xs H Q => ∃ p ys, xs = [.ref p] ∧ (SqL K H p ys ∨ SqT K H p ys) ∧ Q (.int ys.length) H) fLen := fun F H vs ds M Φ Q h i q z => by
  unfold fLen at q
  (first | split at q | (unfold aChain_k at q; split at q) | (unfold aP_k at q; split at q) | (unfold aSl_k at q; split at q) | (unfold aRev_k at q; split at q) | (unfold aRevM_k at q; split at q) | (unfold aApp_k at q; split at q) | (unfold aPop_k at q; split at q) | (unfold aPopAt_k at q; split at q) | (unfold fIx onD at q; split at q) | (unfold onD at q; split at q))
  · cases i with
    | cons i1 i2 =>
      cases i2
      obtain ⟨l, ws, xs, rfl, hq, hl, q⟩ := seq_at h i1 q
      refine ⟨l, ws, rfl, hq, z _ M _ F H (Same.refl F) h ?_ q⟩
      rw [hl.length]
      exact .int _
  · exact q.elim
theorem de_len {p : Pos} (hg : Gl X "len") (hm : X.mg "len" = none) (ha : DE X T a ta) (hs : starEach [a] X.env = (false, eval a X.env) :: starEach [] X.env := by rfl) (hpl : (backTo pos (starEach [] X.env)).any (·.1) = false := by rfl) : DE X T (.Call (.Name "len" p) [a] [] pos) (aCB fLen (aCons ta aNil)) :=
  de_callB call_len_seq ab_len hg hm PySem.boot_len (da_cons ha da_nil hs) (by decide) (by decide) hs hpl
/-- x[i] -/
def getI (xs : List D) : Int → Option D
  | .ofNat n => xs[n]?
  | .negSucc n => if n < xs.length then xs[xs.length - 1 - n]? else none
theorem getI_0 {x : D} {xs : List D} : getI (x :: xs) 0 = some x := rfl
theorem getI_1 {x y : D} {xs : List D} : getI (x :: y :: xs) 1 = some y := rfl
theorem getI_2 {x y z : D} {xs : List D} : getI (x :: y :: z :: xs) 2 = some z := rfl
theorem getI_3 {x y z u : D} {xs : List D} : getI (x :: y :: z :: u :: xs) 3 = some u := rfl
theorem getI_nat {xs : List D} {n : Nat} {d : D} (h : xs[n]? = some d) : getI xs (n : Int) = some d := h
theorem getI_of {xs : List D} {i : Int} (h : 0 ≤ i) {d : D} (e : xs[i.toNat]? = some d) : getI xs i = some d := by
  obtain ⟨n, rfl⟩ := Int.eq_ofNat_of_zero_le h
  exact e
theorem getI_last {xs : List D} {d : D} (h : xs.getLast? = some d) : getI xs (-1) = some d := by
  rw [List.getLast?_eq_getElem?] at h
  show (if 0 < xs.length then xs[xs.length - 1 - 0]? else none) = some d
  rw [if_pos, Nat.sub_zero]
  · exact h
  · cases xs with
    | nil => cases h
    | cons x xs => exact Nat.succ_pos _
theorem getI_at {xs : List D} {i : Int} {d : D} (h : getI xs i = some d) : atI xs i = some d := by
  cases i with
  | ofNat n => exact atI_nat h
  | negSucc n =>
    have h : (if n < xs.length then xs[xs.length - 1 - n]? else none) = some d := h
    split at h
    · rename_i hn
      unfold atI ixN
      rw [if_neg (by omega), if_pos (by omega)]
      show xs[(Int.negSucc n + (xs.length : Int)).toNat]? = some d
      rw [show (Int.negSucc n + (xs.length : Int)).toNat = xs.length - 1 - n by omega]
      exact h
    · cases h
def fIx (d e : D) (M : Mm) (Φ : AK) : Prop := match e with
  | .int i => seqOf d M fun xs => onD (getI xs i) fun g => Φ g M
  | _ => False
theorem atI_map {vs : List V} {xs : List D} {i : Int} {g : D} (h : IsL K F vs xs) (e : atI xs i = some g) : ∃ v, atI vs i = some v ∧ Is K F v g := by
  unfold atI at e ⊢
  rw [h.length]
  cases q : ixN xs.length i with
  | none =>
    rw [q] at e
    cases e
  | some j =>
    rw [q] at e
    exact h.get e
theorem ab_ix : Ab2 K B (rIx K) fIx := fun F H x y d e M Φ Q h i1 i2 q z => by
  unfold fIx at q
  (first | split at q | (unfold aChain_k at q; split at q) | (unfold aP_k at q; split at q) | (unfold aSl_k at q; split at q) | (unfold aRev_k at q; split at q) | (unfold aRevM_k at q; split at q) | (unfold aApp_k at q; split at q) | (unfold aPop_k at q; split at q) | (unfold aPopAt_k at q; split at q) | (unfold fIx onD at q; split at q) | (unfold onD at q; split at q))
  · rename_i i
    cases i2
    obtain ⟨l, vs, xs, rfl, hq, hl, q⟩ := seq_at h i1 q
    (first | split at q | (unfold aChain_k at q; split at q) | (unfold aP_k at q; split at q) | (unfold aSl_k at q; split at q) | (unfold aRev_k at q; split at q) | (unfold aRevM_k at q; split at q) | (unfold aApp_k at q; split at q) | (unfold aPop_k at q; split at q) | (unfold aPopAt_k at q; split at q) | (unfold fIx onD at q; split at q) | (unfold onD at q; split at q))
    · rename_i g hg
      obtain ⟨v, e1, iv⟩ := atI_map hl (getI_at hg)
      have fin := z g M v F H (Same.refl F) h iv q
      rcases hq with hq | hq
      · exact .inl ⟨l, vs, i, v, rfl, rfl, hq, e1, fin⟩
      · exact .inr (.inl ⟨l, vs, i, v, rfl, rfl, hq, e1, fin⟩)
    · exact q.elim
  · exact q.elim
theorem de_item (ha : DE X T a ta) (hb : DE X T b tb) (hs : PlainIx b := by exact fun _ _ => rfl) : DE X T (.Subscript a b pos) (aOp fIx ta tb) := de_ix ix_seq ab_ix ha hb hs
/-- xs[a:b] of a list -/
abbrev AO := Gm → Mm → (Option Int → Mm → Prop) → Prop
def cO (K : PySem.W.Frag) (T : Ct) (ta : AO) : TO := fun σ H Q => ∃ F Γ M Φ, See K T F σ H Γ M ∧ ta Γ M Φ ∧ ∀ o M' F' H', Same F F' → Hs K T.B M' F' H' → Φ o M' → Q o H'
def DO (X : Cx) (T : Ct) (e : Option Expr) (ta : AO) : Prop := PO X e (cO X.K T ta)
def aNoP (Γ : Gm) (M : Mm) (Φ : Option Int → Mm → Prop) : Prop := Φ none M
def aP_k (Φ : Option Int → Mm → Prop)  (d : D) (M1 : Mm) : Prop := match d with
  | .int i => Φ (some i) M1
  | _ => False
def aP (ta : AE) (Γ : Gm) (M : Mm) (Φ : Option Int → Mm → Prop) : Prop := ta Γ M fun d M1 => aP_k Φ d M1
theorem do_none : DO X T none aNoP := ⟨fun pins s σ H Q I ⟨F, Γ, M, Φ, w, q, z⟩ => po_none.run pins s σ H Q I (z none M F H (Same.refl F) w.h q)⟩
theorem do_some (h : DE X T e ta) : DO X T (some e) (aP ta) := ⟨fun pins s σ H Q I ⟨F, Γ, M, Φ, w, q, z⟩ => (po_some h).run pins s σ H Q I (cE_mk w q fun d M1 x F1 H1 s1 h1 i1 q1 => by
    (first | split at q1 | (unfold aChain_k at q1; split at q1) | (unfold aP_k at q1; split at q1) | (unfold aSl_k at q1; split at q1) | (unfold aRev_k at q1; split at q1) | (unfold aRevM_k at q1; split at q1) | (unfold aApp_k at q1; split at q1) | (unfold aPop_k at q1; split at q1) | (unfold aPopAt_k at q1; split at q1) | (unfold fIx onD at q1; split at q1) | (unfold onD at q1; split at q1))
    · cases i1
      exact ⟨_, rfl, z _ M1 F1 H1 s1 h1 q1⟩
    · exact q1.elim)⟩
def cutD (xs : List D) (lo hi : Option Int) : List D := (xs.drop (HT.sIx xs.length 0 lo)).take (HT.sIx xs.length xs.length hi - HT.sIx xs.length 0 lo)
def aSl_k (Φ : AK) (d : D) (lo : Option Int) (hi : Option Int) (M3 : Mm) : Prop := match d with
  | .lst xs => Φ (.lst (cutD xs lo hi)) M3
  | .ref l => ∃ xs, (l, MO.lst xs) ∈ M3 ∧ Φ (.lst (cutD xs lo hi)) M3
  | _ => False
def aSl (ta : AE) (tl th : AO) (Γ : Gm) (M : Mm) (Φ : AK) : Prop := ta Γ M fun d M1 => tl Γ M1 fun lo M2 => th Γ M2 fun hi M3 => aSl_k Φ d lo hi M3
theorem cut_isL {vs : List V} {xs : List D} {lo hi : Option Int} (h : IsL K F vs xs) : IsL K F (cutV vs lo hi) (cutD xs lo hi) := by
  unfold cutV cutD
  rw [h.length]
  exact (h.drop _).take _
theorem cO_mk {t : AO} {Q : Option Int → Hp → Prop} {Φ : Option Int → Mm → Prop} (s : See K T F σ H Γ M) (q : t Γ M Φ) (z : ∀ d M' F' H', Same F F' → Hs K T.B M' F' H' → Φ d M' → Q d H') : cO K T t σ H Q := ⟨F, Γ, M, Φ, s, q, z⟩
theorem de_slL {lo hi : Option Expr} {p2 : Pos} {tl th : AO} (ha : DE X T a ta) (hl : DO X T lo tl) (hu : DO X T hi th) : DE X T (.Subscript a (.Slice lo hi none p2) pos) (aSl ta tl th) :=
  de_of (pe_slice sl_list ha hl hu) fun F σ H Γ M Φ Q w q z => cE_mk w q fun d M1 x F1 H1 s1 h1 i1 q1 => cO_mk (w.go s1 h1) q1 fun lo M2 F2 H2 s2 h2 q2 => cO_mk ((w.go s1 h1).go s2 h2) q2 fun hi M3 F3 H3 s3 h3 q3 => by
    have i3 := (i1.mono s2).mono s3
    have fin : ∀ {l : Addr} {vs : List V} {xs : List D}, SqL X.K H3 l vs → IsL X.K F3 vs xs → Φ (.lst (cutD xs lo hi)) M3 → rSlL X.K (.ref l) lo hi H3 Q := fun {l vs xs} hq hl q => ⟨l, vs, rfl, hq, fun p hp => by
      have n3 := h3.free hp
      exact z _ M3 _ _ _ (((s1.trans s2).trans s3).trans (upd_same_ext n3)) (h3.laid hp) (.lst (.inl (.inl upd_same)) ((cut_isL hl).mono (upd_same_ext n3))) q⟩
    (first | split at q3 | (unfold aChain_k at q3; split at q3) | (unfold aP_k at q3; split at q3) | (unfold aSl_k at q3; split at q3) | (unfold aRev_k at q3; split at q3) | (unfold aRevM_k at q3; split at q3) | (unfold aApp_k at q3; split at q3) | (unfold aPop_k at q3; split at q3) | (unfold aPopAt_k at q3; split at q3) | (unfold fIx onD at q3; split at q3) | (unfold onD at q3; split at q3))
    · cases i3 with
      | lst hq hl => exact fin (h3.sub.seq hq) hl q3
    · obtain ⟨xs, hm, q3⟩ := q3
      cases i3
      obtain ⟨vs, e, zz⟩ := h3.lst hm
      exact fin (.inl (.inl e)) zz q3
    · exact q3.elim
/-- xs[::-1]: new, not changed; new, to be changed -/
def aRev_k (Φ : AK)  (d : D) (M1 : Mm) : Prop := match d with
  | .lst xs => Φ (.lst xs.reverse) M1
  | .ref l => ∃ xs, (l, MO.lst xs) ∈ M1 ∧ Φ (.lst xs.reverse) M1
  | _ => False
def aRev (ta : AE) (Γ : Gm) (M : Mm) (Φ : AK) : Prop := ta Γ M fun d M1 => aRev_k Φ d M1
def aRevM_k (Φ : AK)  (d : D) (M1 : Mm) : Prop := match d with
  | .lst xs => ∀ p, Φ (.ref p) ((p, .lst xs.reverse) :: M1)
  | .ref l => ∃ xs, (l, MO.lst xs) ∈ M1 ∧ ∀ p, Φ (.ref p) ((p, .lst xs.reverse) :: M1)
  | _ => False
def aRevM (ta : AE) (Γ : Gm) (M : Mm) (Φ : AK) : Prop := ta Γ M fun d M1 => aRevM_k Φ d M1
theorem de_rev {k : Nat} {p1 p2 p3 : Pos} (ha : DE X T a ta) : DE X T (.Subscript a (.Slice none none (some (.UnaryOp .USub (.Constant (.int 1) k p1) p2)) p3) pos) (aRev ta) :=
  de_of (pe_revL ha) fun F σ H Γ M Φ Q w q z => cE_mk w q fun d M1 x F1 H1 s1 h1 i1 q1 => by
    have fin : ∀ {l : Addr} {vs : List V} {xs : List D}, SqL X.K H1 l vs → IsL X.K F1 vs xs → Φ (.lst xs.reverse) M1 → ∃ a ys, V.ref l = .ref a ∧ SqL X.K H1 a ys ∧ ∀ p, H1 p = none → Q (.ref p) (upd H1 p (.lst ys.reverse)) := fun {l vs xs} hq hl q => ⟨l, vs, rfl, hq, fun p hp => by
      have n3 := h1.free hp
      exact z _ M1 _ _ _ (s1.trans (upd_same_ext n3)) (h1.laid hp) (.lst (.inl (.inl upd_same)) (hl.reverse.mono (upd_same_ext n3))) q⟩
    (first | split at q1 | (unfold aChain_k at q1; split at q1) | (unfold aP_k at q1; split at q1) | (unfold aSl_k at q1; split at q1) | (unfold aRev_k at q1; split at q1) | (unfold aRevM_k at q1; split at q1) | (unfold aApp_k at q1; split at q1) | (unfold aPop_k at q1; split at q1) | (unfold aPopAt_k at q1; split at q1) | (unfold fIx onD at q1; split at q1) | (unfold onD at q1; split at q1))
    · cases i1 with
      | lst hq hl => exact fin (h1.sub.seq hq) hl q1
    · obtain ⟨xs, hm, q1⟩ := q1
      cases i1
      obtain ⟨vs, e, zz⟩ := h1.lst hm
      exact fin (.inl (.inl e)) zz q1
    · exact q1.elim
theorem de_revM {k : Nat} {p1 p2 p3 : Pos} (ha : DE X T a ta) : DE X T (.Subscript a (.Slice none none (some (.UnaryOp .USub (.Constant (.int 1) k p1) p2)) p3) pos) (aRevM ta) :=
  de_of (pe_revL ha) fun F σ H Γ M Φ Q w q z => cE_mk w q fun d M1 x F1 H1 s1 h1 i1 q1 => by
    have fin : ∀ {l : Addr} {vs : List V} {xs : List D}, SqL X.K H1 l vs → IsL X.K F1 vs xs → (∀ p, Φ (.ref p) ((p, .lst xs.reverse) :: M1)) → ∃ a ys, V.ref l = .ref a ∧ SqL X.K H1 a ys ∧ ∀ p, H1 p = none → Q (.ref p) (upd H1 p (.lst ys.reverse)) := fun {l vs xs} hq hl q => ⟨l, vs, rfl, hq, fun p hp =>
      z (.ref p) ((p, .lst xs.reverse) :: M1) _ _ _ s1 (h1.newM (o := .lst xs.reverse) hp ⟨_, upd_same, hl.reverse⟩) (.ref p) (q p)⟩
    (first | split at q1 | (unfold aChain_k at q1; split at q1) | (unfold aP_k at q1; split at q1) | (unfold aSl_k at q1; split at q1) | (unfold aRev_k at q1; split at q1) | (unfold aRevM_k at q1; split at q1) | (unfold aApp_k at q1; split at q1) | (unfold aPop_k at q1; split at q1) | (unfold aPopAt_k at q1; split at q1) | (unfold fIx onD at q1; split at q1) | (unfold onD at q1; split at q1))
    · cases i1 with
      | lst hq hl => exact fin (h1.sub.seq hq) hl q1
    · obtain ⟨xs, hm, q1⟩ := q1
      cases i1
      obtain ⟨vs, e, zz⟩ := h1.lst hm
      exact fin (.inl (.inl e)) zz q1
    · exact q1.elim

/-! ### methods of a mutable list -/
theorem tyV_lst {l : Addr} {vs : List V} (h : H l = some (.lst vs)) : tyV K "list" (.ref l) H := .inl ⟨rfl, _, .inl (.inl h)⟩
def aApp_k (tb : AE) (Γ : Gm) (Φ : AK)  (d : D) (M1 : Mm) : Prop := match d with
  | .ref l => (∃ xs, (l, MO.lst xs) ∈ M1) ∧ tb Γ M1 fun e M2 => ∃ xs M3, Up M2 l (.lst xs) (.lst (xs ++ [e])) M3 ∧ xs.length < 100000 ∧ Φ .non M3
  | _ => False
def aApp (ta tb : AE) (Γ : Gm) (M : Mm) (Φ : AK) : Prop := ta Γ M fun d M1 => aApp_k tb Γ Φ d M1
theorem de_app {p2 : Pos} (ha : DE X T a ta) (hb : DE X T b tb) (hst : starEach [b] X.env = (false, eval b X.env) :: starEach [] X.env := by rfl)
    (hbase : attributeBase a "append" X.env (eval a X.env) = eval a X.env := by rfl)
    (hfew : ((backTo pos (starEach [b] X.env)).all (fun x => !x.1) && (backToKw pos (keywordEach [] X.env)).all (fun x => x.1.isSome) && decide ([b].length + ([] : List Keyword).length + (if ([] : List Keyword).isEmpty then 0 else 1) < 30)) = true := by rfl)
    (hline : (p2.endLine == pos.line) = true := by rfl) (hplain : (backTo pos (starEach [] X.env)).any (·.1) = false := by rfl) : DE X T (.Call (.Attribute a "append" p2) [b] [] pos) (aApp ta tb) :=
  de_of (pe_bm PySem.F.plainAttrs_list PySem.F.slot_list_append PySem.F.type_list_append mt_append ha (pa_cons hb pa_nil hst) hbase hfew hline hst hplain) fun F σ H Γ M Φ Q w q z => cE_mk w q fun d M1 x F1 H1 s1 h1 i1 q1 => by
    (first | split at q1 | (unfold aChain_k at q1; split at q1) | (unfold aP_k at q1; split at q1) | (unfold aSl_k at q1; split at q1) | (unfold aRev_k at q1; split at q1) | (unfold aRevM_k at q1; split at q1) | (unfold aApp_k at q1; split at q1) | (unfold aPop_k at q1; split at q1) | (unfold aPopAt_k at q1; split at q1) | (unfold fIx onD at q1; split at q1) | (unfold onD at q1; split at q1))
    · rename_i l
      obtain ⟨⟨xs0, hm⟩, q1⟩ := q1
      cases i1
      obtain ⟨vs0, e0, _⟩ := h1.lst hm
      refine ⟨tyV_lst e0, cE_mk (w.go s1 h1) q1 fun e M2 y F2 H2 s2 h2 i2 q2 => ?_⟩
      obtain ⟨xs, M3, up, hn, q2⟩ := q2
      obtain ⟨vs, e1, zz⟩ := h2.lst up.mem
      exact ⟨l, vs, y, rfl, rfl, e1, by rw [zz.length]; exact line_lt hn, z .non M3 _ F2 _ (s1.trans s2) (h2.put up ⟨_, upd_same, zz.append (.cons i2 .nil)⟩) .non q2⟩
    · exact q1.elim
def aPop_k (Φ : AK)  (d : D) (M1 : Mm) : Prop := match d with
  | .ref l => ∃ xs y M2, Up M1 l (.lst xs) (.lst xs.dropLast) M2 ∧ xs[xs.length - 1]? = some y ∧ Φ y M2
  | _ => False
def aPop (ta : AE) (Γ : Gm) (M : Mm) (Φ : AK) : Prop := ta Γ M fun d M1 => aPop_k Φ d M1
theorem de_pop {p2 : Pos} (ha : DE X T a ta) (hbase : attributeBase a "pop" X.env (eval a X.env) = eval a X.env := by rfl) (hline : (p2.endLine == pos.line) = true := by rfl) : DE X T (.Call (.Attribute a "pop" p2) [] [] pos) (aPop ta) :=
  de_of (pe_bm0 PySem.F.plainAttrs_list PySem.F.slot_list_pop PySem.F.type_list_pop mt_pop ha hbase hline) fun F σ H Γ M Φ Q w q z => cE_mk w q fun d M1 x F1 H1 s1 h1 i1 q1 => by
    (first | split at q1 | (unfold aChain_k at q1; split at q1) | (unfold aP_k at q1; split at q1) | (unfold aSl_k at q1; split at q1) | (unfold aRev_k at q1; split at q1) | (unfold aRevM_k at q1; split at q1) | (unfold aApp_k at q1; split at q1) | (unfold aPop_k at q1; split at q1) | (unfold aPopAt_k at q1; split at q1) | (unfold fIx onD at q1; split at q1) | (unfold onD at q1; split at q1))
    · rename_i l
      obtain ⟨xs, y, M2, up, hy, q1⟩ := q1
      cases i1
      obtain ⟨vs, e1, zz⟩ := h1.lst up.mem
      obtain ⟨v, hv, iv⟩ := zz.get hy
      exact ⟨tyV_lst e1, l, vs, v, rfl, rfl, e1, by rw [zz.length]; exact hv, z y M2 v F1 _ s1 (h1.put up ⟨_, upd_same, zz.dropLast⟩) iv q1⟩
    · exact q1.elim
def aPopAt_k (tb : AE) (Γ : Gm) (Φ : AK)  (d : D) (M1 : Mm) : Prop := match d with
  | .ref l => (∃ xs, (l, MO.lst xs) ∈ M1) ∧ tb Γ M1 fun e M2 => match e with
    | .int i => ∃ xs k y M3, Up M2 l (.lst xs) (.lst (xs.eraseIdx k)) M3 ∧ (-9223372036854775808 ≤ i ∧ i < 9223372036854775808) ∧ seqIndex? i xs.length = some k ∧ xs[k]? = some y ∧ Φ y M3
    | _ => False
  | _ => False
def aPopAt (ta tb : AE) (Γ : Gm) (M : Mm) (Φ : AK) : Prop := ta Γ M fun d M1 => aPopAt_k tb Γ Φ d M1
theorem de_popAt {p2 : Pos} (ha : DE X T a ta) (hb : DE X T b tb) (hst : starEach [b] X.env = (false, eval b X.env) :: starEach [] X.env := by rfl)
    (hbase : attributeBase a "pop" X.env (eval a X.env) = eval a X.env := by rfl)
    (hfew : ((backTo pos (starEach [b] X.env)).all (fun x => !x.1) && (backToKw pos (keywordEach [] X.env)).all (fun x => x.1.isSome) && decide ([b].length + ([] : List Keyword).length + (if ([] : List Keyword).isEmpty then 0 else 1) < 30)) = true := by rfl)
    (hline : (p2.endLine == pos.line) = true := by rfl) (hplain : (backTo pos (starEach [] X.env)).any (·.1) = false := by rfl) : DE X T (.Call (.Attribute a "pop" p2) [b] [] pos) (aPopAt ta tb) :=
  de_of (pe_bm PySem.F.plainAttrs_list PySem.F.slot_list_pop PySem.F.type_list_pop mt_popAt ha (pa_cons hb pa_nil hst) hbase hfew hline hst hplain) fun F σ H Γ M Φ Q w q z => cE_mk w q fun d M1 x F1 H1 s1 h1 i1 q1 => by
    (first | split at q1 | (unfold aChain_k at q1; split at q1) | (unfold aP_k at q1; split at q1) | (unfold aSl_k at q1; split at q1) | (unfold aRev_k at q1; split at q1) | (unfold aRevM_k at q1; split at q1) | (unfold aApp_k at q1; split at q1) | (unfold aPop_k at q1; split at q1) | (unfold aPopAt_k at q1; split at q1) | (unfold fIx onD at q1; split at q1) | (unfold onD at q1; split at q1))
    · rename_i l
      obtain ⟨⟨xs0, hm⟩, q1⟩ := q1
      cases i1
      obtain ⟨vs0, e0, _⟩ := h1.lst hm
      refine ⟨tyV_lst e0, cE_mk (w.go s1 h1) q1 fun e M2 y F2 H2 s2 h2 i2 q2 => ?_⟩
      (first | split at q2 | (unfold aChain_k at q2; split at q2) | (unfold aP_k at q2; split at q2) | (unfold aSl_k at q2; split at q2) | (unfold aRev_k at q2; split at q2) | (unfold aRevM_k at q2; split at q2) | (unfold aApp_k at q2; split at q2) | (unfold aPop_k at q2; split at q2) | (unfold aPopAt_k at q2; split at q2) | (unfold fIx onD at q2; split at q2) | (unfold onD at q2; split at q2))
      · rename_i i
        obtain ⟨xs, k, y, M3, up, hn, hk, hy, q2⟩ := q2
        cases i2
        obtain ⟨vs, e1, zz⟩ := h2.lst up.mem
        obtain ⟨v, hv, iv⟩ := zz.get hy
        exact ⟨l, vs, i, k, v, rfl, rfl, e1, by omega, by omega, by rw [zz.length]; exact hk, hv, z y M3 v F2 _ (s1.trans s2) (h2.put up ⟨_, upd_same, zz.eraseIdx k⟩) iv q2⟩
      · exact q2.elim
    · exact q1.elim
end
end DL

set_option Elab.async false
set_option linter.all false
set_option maxRecDepth 100000
set_option maxHeartbeats 2000000
namespace DL
open PySem L2
open PySem.PyData (strOk)

/-! ### == on data -/
def plD : Nat → D → Bool
  | _, .non => true
  | _, .bl _ => true
  | _, .int _ => true
  | _, .str x => strOk x
  | n + 1, .tup xs => xs.all (plD n)
  | n + 1, .lst xs => xs.all (plD n)
  | _, _ => false
def py : Nat → D → PyData
  | _, .non => .none
  | _, .bl b => .bool b
  | _, .int i => .int i
  | _, .str x => .str x
  | n + 1, .tup xs => .tuple (xs.map (py n))
  | n + 1, .lst xs => .list (xs.map (py n))
  | _, _ => .none
section
variable {n : Nat}
theorem plD_non : plD n .non = true := by cases n <;> rfl
theorem plD_bl {b : Bool} : plD n (.bl b) = true := by cases n <;> rfl
theorem plD_int {i : Int} : plD n (.int i) = true := by cases n <;> rfl
theorem plD_str {x : Str} : plD n (.str x) = strOk x := by cases n <;> rfl
theorem py_non : py n .non = .none := by cases n <;> rfl
theorem py_bl {b : Bool} : py n (.bl b) = .bool b := by cases n <;> rfl
theorem py_int {i : Int} : py n (.int i) = .int i := by cases n <;> rfl
theorem py_str {x : Str} : py n (.str x) = .str x := by cases n <;> rfl
theorem plD_ints {ns : List Int} : plD (n + 1) (.lst (ns.map D.int)) = true := by
  show (ns.map D.int).all (plD n) = true
  rw [List.all_eq_true]
  intro d hd
  obtain ⟨i, _, rfl⟩ := List.mem_map.mp hd
  exact plD_int
theorem eqv_nil {xs : List PyData} : PyData.eqv (.list xs) (.list []) = xs.isEmpty := by
  cases xs <;> rfl
end
theorem dpAll_of {K : PySem.W.Frag} {F H : Hp} {n : Nat} (ih : ∀ (d : D) (v : V), plD n d = true → Is K F v d → Dp K H v (py n d)) : ∀ {xs : List D} {vs : List V}, xs.all (plD n) = true → IsL K F vs xs → DpAll K H vs (xs.map (py n))
  | [], _, _, .nil => .nil
  | x :: xs, _, h, .cons i l => by
    rw [List.all_cons, Bool.and_eq_true] at h
    exact .cons (ih x _ h.1 i) (dpAll_of ih h.2 l)
theorem dp_of {K : PySem.W.Frag} {F H : Hp} (s : Same F H) : ∀ (n : Nat) (d : D) (v : V), plD n d = true → Is K F v d → Dp K H v (py n d)
  | n, .non, _, _, i => by
    cases i
    rw [py_non]
    exact .non
  | n, .bl b, _, _, i => by
    cases i
    rw [py_bl]
    exact .bl b
  | n, .int j, _, _, i => by
    cases i
    rw [py_int]
    exact .int j
  | n, .str x, _, _, i => by
    cases i
    rw [py_str]
    exact .str x
  | n + 1, .tup xs, _, h, i => by
    cases i with
    | tup hq hl => exact .tup (same_t s hq) (dpAll_of (dp_of s n) h hl)
  | n + 1, .lst xs, _, h, i => by
    cases i with
    | lst hq hl => exact .lst (s.seq hq) (dpAll_of (dp_of s n) h hl)
  | 0, .tup _, _, h, _ => by cases h
  | 0, .lst _, _, h, _ => by cases h
  | 0, .ref _, _, h, _ => by cases h
  | 0, .ty _, _, h, _ => by cases h
  | 0, .ins _ _ _, _, h, _ => by cases h
  | 0, .xc _ _ _ _, _, h, _ => by cases h
  | _ + 1, .ref _, _, h, _ => by cases h
  | _ + 1, .ty _, _, h, _ => by cases h
  | _ + 1, .ins _ _ _, _, h, _ => by cases h
  | _ + 1, .xc _ _ _ _, _, h, _ => by cases h
theorem canAll_of {n : Nat} (ih : ∀ d : D, plD n d = true → (py n d).canLay0 = true) : ∀ {xs : List D}, xs.all (plD n) = true → PyData.canLayAll0 (xs.map (py n)) = true
  | [], _ => rfl
  | x :: xs, h => by
    rw [List.all_cons, Bool.and_eq_true] at h
    show ((py n x).canLay0 && PyData.canLayAll0 (xs.map (py n))) = true
    rw [ih x h.1, canAll_of ih h.2]
    rfl
theorem depAll_of {n : Nat} (ih : ∀ d : D, plD n d = true → (py n d).depth ≤ n) : ∀ {xs : List D}, xs.all (plD n) = true → PyData.depthAll (xs.map (py n)) ≤ n
  | [], _ => Nat.zero_le _
  | x :: xs, h => by
    rw [List.all_cons, Bool.and_eq_true] at h
    show max (py n x).depth (PyData.depthAll (xs.map (py n))) ≤ n
    have h1 := ih x h.1
    have h2 := depAll_of ih h.2
    omega
theorem can_of : ∀ (n : Nat) (d : D), plD n d = true → (py n d).canLay0 = true ∧ (py n d).depth ≤ n
  | n, .non, _ => by rw [py_non]; exact ⟨rfl, Nat.zero_le _⟩
  | n, .bl b, _ => by rw [py_bl]; exact ⟨rfl, Nat.zero_le _⟩
  | n, .int j, _ => by rw [py_int]; exact ⟨rfl, Nat.zero_le _⟩
  | n, .str x, h => by
    rw [py_str]
    rw [plD_str] at h
    exact ⟨h, Nat.zero_le _⟩
  | n + 1, .tup xs, h => ⟨canAll_of (fun d hd => (can_of n d hd).1) h, Nat.succ_le_succ (depAll_of (fun d hd => (can_of n d hd).2) h)⟩
  | n + 1, .lst xs, h => ⟨canAll_of (fun d hd => (can_of n d hd).1) h, Nat.succ_le_succ (depAll_of (fun d hd => (can_of n d hd).2) h)⟩
  | 0, .tup _, h => by cases h
  | 0, .lst _, h => by cases h
  | 0, .ref _, h => by cases h
  | 0, .ty _, h => by cases h
  | 0, .ins _ _ _, h => by cases h
  | 0, .xc _ _ _ _, h => by cases h
  | _ + 1, .ref _, h => by cases h
  | _ + 1, .ty _, h => by cases h
  | _ + 1, .ins _ _ _, h => by cases h
  | _ + 1, .xc _ _ _ _, h => by cases h
theorem shaped_of {n : Nat} (hn : n ≤ 64) {d : D} (h : plD n d = true) : SeqAt.shaped (py n d) = true := by
  obtain ⟨h1, h2⟩ := can_of n d h
  unfold SeqAt.shaped
  rw [h1, decide_eq_true (Nat.le_trans h2 hn)]
  rfl
section
variable {X : Cx} {T : Ct} {e a b c : Expr} {pos : Pos} {K : PySem.W.Frag} {F F' F1 H H' H1 : Hp} {σ : St} {Γ : Gm} {M M' : Mm} {ta tb tc : AE} {tA tB : AT} {es : List Expr} {tr : AA} {B : Bx}
/-- read through -/
def rdM (d : D) (M : Mm) (k : D → Prop) : Prop := match d with
  | .ref l => ∃ xs, (l, MO.lst xs) ∈ M ∧ k (.lst xs)
  | d => k d
theorem rdM_is {d : D} {k : D → Prop} {v : V} (h : Hs K B M F H) (i : Is K F v d) (q : rdM d M k) : ∃ d', Is K H v d' ∧ k d' := by
  unfold rdM at q
  (first | split at q)
  · obtain ⟨xs, hm, q⟩ := q
    cases i
    obtain ⟨vs, e, z⟩ := h.lst hm
    exact ⟨_, .lst (.inl (.inl e)) (z.mono h.sub), q⟩
  · exact ⟨_, i.mono h.sub, q⟩
def eqS : D → D → Option Bool
  | .int i, .int j => some (decide (i = j))
  | .bl i, .bl j => some (decide (i = j))
  | .str x, .str y => some (decide (x = y))
  | .non, .non => some true
  | .non, .int _ => some false
  | .int _, .non => some false
  | .non, .bl _ => some false
  | .bl _, .non => some false
  | .non, .str _ => some false
  | .str _, .non => some false
  | .int _, .str _ => some false
  | .str _, .int _ => some false
  | .bl _, .str _ => some false
  | .str _, .bl _ => some false
  | _, _ => none
def fEqB (neg : Bool → Bool) (d e : D) (M : Mm) (Φ : AK) : Prop := match eqS d e with
  | some b => Φ (.bl (neg b)) M
  | none => rdM d M fun d' => rdM e M fun e' => (plD 60 d' = true ∧ plD 60 e' = true) ∧ Φ (.bl (neg (PyData.eqv (py 60 d') (py 60 e')))) M
abbrev fEq : A2 := fEqB fun b => b
abbrev fNe : A2 := fEqB fun b => !b
theorem eqS_of {d e : D} {x y : V} {b : Bool} (i1 : Is K F x d) (i2 : Is K F y e) (h : eqS d e = some b) : scal x y = true ∧ decide (x = y) = b := by
  cases d <;> cases e <;> (first | cases h) <;> (cases i1; cases i2; refine ⟨rfl, ?_⟩; simp)
theorem ab_eqG {neg : Bool → Bool} : Ab2 K B (fun x y H Q => (scal x y = true ∧ Q (.bl (neg (decide (x = y)))) H) ∨ (∃ d e, Dp K H x d ∧ Dp K H y e ∧ SeqAt.shaped d = true ∧ SeqAt.shaped e = true ∧ Q (.bl (neg (PyData.eqv d e))) H)) (fEqB neg) := fun F H x y d e M Φ Q h i1 i2 q z => by
  unfold fEqB at q
  (first | split at q)
  · rename_i b hb
    obtain ⟨h1, h2⟩ := eqS_of i1 i2 hb
    exact .inl ⟨h1, by rw [h2]; exact z _ M _ F H (Same.refl F) h (.bl _) q⟩
  · obtain ⟨d', j1, q⟩ := rdM_is h i1 q
    obtain ⟨e', j2, q⟩ := rdM_is h i2 q
    exact .inr ⟨_, _, dp_of (Same.refl H) 60 d' x q.1.1 j1, dp_of (Same.refl H) 60 e' y q.1.2 j2, shaped_of (by decide) q.1.1, shaped_of (by decide) q.1.2, z _ M _ F H (Same.refl F) h (.bl _) q.2⟩
theorem op_eqA {k : Nat} (hr : Room k X.A) : OpR X (compareOp .Eq) (fun x y H Q => (scal x y = true ∧ Q (.bl (decide (x = y))) H) ∨ (∃ d e, Dp X.K H x d ∧ Dp X.K H y e ∧ SeqAt.shaped d = true ∧ SeqAt.shaped e = true ∧ Q (.bl (PyData.eqv d e)) H)) := op_eq.or (op_eqD hr.units)
theorem op_neA {k : Nat} (hr : Room k X.A) : OpR X (compareOp .NotEq) (fun x y H Q => (scal x y = true ∧ Q (.bl (!decide (x = y))) H) ∨ (∃ d e, Dp X.K H x d ∧ Dp X.K H y e ∧ SeqAt.shaped d = true ∧ SeqAt.shaped e = true ∧ Q (.bl (!PyData.eqv d e)) H)) := op_ne.or (op_neD hr.units)
theorem de_eq {k : Nat} (hr : Room k X.A) (ha : DE X T a ta) (hb : DE X T b tb) : DE X T (.Compare a [.Eq] [b] pos) (aOp fEq ta tb) := de_cmp (op_eqA hr) (ab_eqG (neg := fun b => b)) ha hb
theorem de_ne {k : Nat} (hr : Room k X.A) (ha : DE X T a ta) (hb : DE X T b tb) : DE X T (.Compare a [.NotEq] [b] pos) (aOp fNe ta tb) := de_cmp (op_neA hr) (ab_eqG (neg := fun b => !b)) ha hb
/-- is None, is True -/
def isN : D → Bool
  | .non => true
  | _ => false
theorem isN_of {d : D} {x : V} (i : Is K F x d) : decide (x = .non) = isN d := by cases i <;> rfl
def fIsB (neg : Bool → Bool) (d e : D) (M : Mm) (Φ : AK) : Prop := match e with
  | .non => Φ (.bl (neg (isN d))) M
  | .bl b => match d with
    | .bl c => Φ (.bl (neg (decide (c = b)))) M
    | _ => False
  | _ => False
abbrev fIs : A2 := fIsB fun b => b
abbrev fIsNot : A2 := fIsB fun b => !b
theorem ab_isG {neg : Bool → Bool} : Ab2 K B (fun x y H Q => (y = .non ∧ Q (.bl (neg (decide (x = .non)))) H) ∨ (∃ a b : Bool, x = .bl a ∧ y = .bl b ∧ Q (.bl (neg (decide (a = b)))) H)) (fIsB neg) := fun F H x y d e M Φ Q h i1 i2 q z => by
  unfold fIsB at q
  (first | split at q)
  · cases i2
    exact .inl ⟨rfl, by rw [isN_of i1]; exact z _ M _ F H (Same.refl F) h (.bl _) q⟩
  · (first | split at q)
    · cases i1
      cases i2
      exact .inr ⟨_, _, rfl, rfl, z _ M _ F H (Same.refl F) h (.bl _) q⟩
    · exact q.elim
  · exact q.elim
theorem de_is (ha : DE X T a ta) (hb : DE X T b tb) : DE X T (.Compare a [.Is] [b] pos) (aOp fIs ta tb) := de_cmp (op_isN.or op_isBl) (ab_isG (neg := fun b => b)) ha hb
theorem de_isNot (ha : DE X T a ta) (hb : DE X T b tb) : DE X T (.Compare a [.IsNot] [b] pos) (aOp fIsNot ta tb) := de_cmp (op_notN.or op_notBl) (ab_isG (neg := fun b => !b)) ha hb

/-! ### built-ins upon ints -/
def fAbs (ds : List D) (M : Mm) (Φ : AK) : Prop := match ds with
  | [.int i] => Φ (.int (if i < 0 then -i else i)) M
  | _ => False
def fInt (ds : List D) (M : Mm) (Φ : AK) : Prop := match ds with
  | [.int i] => Φ (.int i) M
  | [.bl b] => Φ (.int (if b then 1 else 0)) M
  | _ => False
def fMax2 (ds : List D) (M : Mm) (Φ : AK) : Prop := match ds with
  | [.int i, .int j] => Φ (.int (max i j)) M
  | _ => False
def fMin2 (ds : List D) (M : Mm) (Φ : AK) : Prop := match ds with
  | [.int i, .int j] => Φ (.int (min i j)) M
  | _ => False
variable {p : Pos}
theorem de_abs (hg : Gl X "abs") (hm : X.mg "abs" = none) (ha : DE X T a ta) (hs : starEach [a] X.env = (false, eval a X.env) :: starEach [] X.env := by rfl) (hpl : (backTo pos (starEach [] X.env)).any (·.1) = false := by rfl) : DE X T (.Call (.Name "abs" p) [a] [] pos) (aCB fAbs (aCons ta aNil)) :=
  de_callB call_abs (fun F H vs ds M Φ Q h i q z => by
    unfold fAbs at q
    (first | split at q)
    · match vs, i with
      | [_], .cons i1 .nil =>
        cases i1
        exact ⟨_, rfl, z _ M _ F H (Same.refl F) h (.int _) q⟩
    · exact q.elim) hg hm PyProof.Rows.boot_abs (da_cons ha da_nil hs) (by decide) (by decide) hs hpl
theorem de_callInt (hg : Gl X "int") (hm : X.mg "int" = none) (ha : DE X T a ta) (hs : starEach [a] X.env = (false, eval a X.env) :: starEach [] X.env := by rfl) (hpl : (backTo pos (starEach [] X.env)).any (·.1) = false := by rfl) : DE X T (.Call (.Name "int" p) [a] [] pos) (aCB fInt (aCons ta aNil)) :=
  de_callTy call_int1 (fun F H vs ds M Φ Q h i q z => by
    unfold fInt at q
    (first | split at q)
    · match vs, i with
      | [_], .cons i1 .nil =>
        cases i1
        exact .inl ⟨_, rfl, z _ M _ F H (Same.refl F) h (.int _) q⟩
    · match vs, i with
      | [_], .cons i1 .nil =>
        cases i1
        exact .inr ⟨_, rfl, z _ M _ F H (Same.refl F) h (.int _) q⟩
    · exact q.elim) hg hm PyProof.Rows.boot_int (da_cons ha da_nil hs) (by decide) (by decide) hs hpl
theorem de_max2 (hc : X.calm = true) (hg : Gl X "max") (hm : X.mg "max" = none) (ha : DE X T a ta) (hb : DE X T b tb) (hs : starEach [a, b] X.env = (false, eval a X.env) :: starEach [b] X.env := by rfl) (hs2 : starEach [b] X.env = (false, eval b X.env) :: starEach [] X.env := by rfl) (hpl : (backTo pos (starEach [b] X.env)).any (·.1) = false := by rfl) : DE X T (.Call (.Name "max" p) [a, b] [] pos) (aCB fMax2 (aCons ta (aCons tb aNil))) :=
  de_callB (call_max2 hc) (fun F H vs ds M Φ Q h i q z => by
    unfold fMax2 at q
    (first | split at q)
    · match vs, i with
      | [_, _], .cons i1 (.cons i2 .nil) =>
        cases i1
        cases i2
        rename_i i' j'
        refine ⟨_, _, rfl, ?_⟩
        have e : (if j' > i' then j' else i') = max i' j' := by split <;> omega
        rw [e]
        exact z _ M _ F H (Same.refl F) h (.int _) q
    · exact q.elim) hg hm PyProof.Rows.boot_max (da_cons ha (da_cons hb da_nil hs2) hs) (by decide) (by decide) hs hpl
theorem de_min2 (hc : X.calm = true) (hg : Gl X "min") (hm : X.mg "min" = none) (ha : DE X T a ta) (hb : DE X T b tb) (hs : starEach [a, b] X.env = (false, eval a X.env) :: starEach [b] X.env := by rfl) (hs2 : starEach [b] X.env = (false, eval b X.env) :: starEach [] X.env := by rfl) (hpl : (backTo pos (starEach [b] X.env)).any (·.1) = false := by rfl) : DE X T (.Call (.Name "min" p) [a, b] [] pos) (aCB fMin2 (aCons ta (aCons tb aNil))) :=
  de_callB (call_min2 hc) (fun F H vs ds M Φ Q h i q z => by
    unfold fMin2 at q
    (first | split at q)
    · match vs, i with
      | [_, _], .cons i1 (.cons i2 .nil) =>
        cases i1
        cases i2
        rename_i i' j'
        refine ⟨_, _, rfl, ?_⟩
        have e : (if j' < i' then j' else i') = min i' j' := by split <;> omega
        rw [e]
        exact z _ M _ F H (Same.refl F) h (.int _) q
    · exact q.elim) hg hm (by decide +kernel) (da_cons ha (da_cons hb da_nil hs2) hs) (by decide) (by decide) hs hpl
/-! ### isinstance -/
def tyD : D → Mm → Option String
  | .non, _ => some "NoneType"
  | .bl _, _ => some "bool"
  | .int _, _ => some "int"
  | .str _, _ => some "str"
  | .tup _, _ => some "tuple"
  | .lst _, _ => some "list"
  | _, _ => none
theorem tyX_of {K : PySem.W.Frag} {F H : Hp} {M : Mm} {d : D} {x : V} {t : String} (s : Same F H) (i : Is K F x d) (h : tyD d M = some t) : TyX K H x (.type t) := by
  cases d <;> cases h <;> cases i
  · exact .base .non
  · exact .base (.bl _)
  · exact .base (.int _)
  · exact .base (.str _)
  · rename_i hq hl
    rcases same_t s hq with (q | ⟨o, q⟩) | ⟨o, its, n, q, c, _⟩
    · exact .base (.tup q)
    · exact .fTuple q
    · exact .kTuple q c
  · rename_i hq hl
    rcases s.seq hq with (q | ⟨o, q⟩) | ⟨o, its, n, q, c, _⟩
    · exact .base (.lst q)
    · exact .base (.frz q)
    · exact .kList q c
def fIsi (n : String) (d : D) (M : Mm) (Φ : AK) : Prop := match tyD d M with
  | some t => match kitB t n with
    | some b => Φ (.bl b) M
    | none => False
  | none => False
def aIsi (n : String) (ta : AE) (Γ : Gm) (M : Mm) (Φ : AK) : Prop := ta Γ M fun d M1 => fIsi n d M1 Φ
theorem de_isi {x : Str} {n : String} {p' : Pos} (hg : Gl X "isinstance") (hm : X.mg "isinstance" = none) (hg2 : Gl X x) (hm2 : X.mg x = none) (hv : bootBuiltins x = some (.type n)) (ha : DE X T a ta) (hn : x ≠ "__name__" := by decide) (hd : (x == ("__debug__" : Str)) = false := by decide)
    (hs : starEach [a, .Name x p'] X.env = (false, eval a X.env) :: starEach [.Name x p'] X.env := by rfl) (hs2 : starEach [.Name x p'] X.env = (false, eval (.Name x p') X.env) :: starEach [] X.env := by rfl) (hpl : (backTo pos (starEach [.Name x p'] X.env)).any (·.1) = false := by rfl) :
    DE X T (.Call (.Name "isinstance" p) [a, .Name x p'] [] pos) (aIsi n ta) :=
  de_of (pe_callB call_isi hg hm PyProof.Rows.boot_isinstance (pa_cons ha (pa_cons (pe_bltn hg2 hm2 hv (v := .ty n) rfl hn hd) pa_nil hs2) hs) (by decide) (by decide) hs hpl) fun F σ H Γ M Φ Q w q z => cE_mk w q fun d M1 v F1 H1 s1 h1 i1 q1 => by
    unfold fIsi at q1
    (first | split at q1)
    · rename_i t ht
      (first | split at q1)
      · rename_i b hb
        exact ⟨v, .ty n, _, _, b, rfl, .ty n, tyX_of h1.sub i1 ht, kit_ty hb, z _ M1 _ F1 H1 s1 h1 (.bl b) q1⟩
      · exact q1.elim
    · exact q1.elim
/-! ### sequences made of sequences -/
def fTuple (ds : List D) (M : Mm) (Φ : AK) : Prop := match ds with
  | [d] => seqOf d M fun xs => Φ (.tup xs) M
  | _ => False
theorem de_tupleOf (hg : Gl X "tuple") (hm : X.mg "tuple" = none) (ha : DE X T a ta) (hs : starEach [a] X.env = (false, eval a X.env) :: starEach [] X.env := by rfl) (hpl : (backTo pos (starEach [] X.env)).any (·.1) = false := by rfl) : DE X T (.Call (.Name "tuple" p) [a] [] pos) (aCB fTuple (aCons ta aNil)) :=
  de_callTy call_tuple_of (fun F H vs ds M Φ Q h i q z => by
    unfold fTuple at q
    (first | split at q)
    · match vs, i with
      | [_], .cons i1 .nil =>
        have fin : ∀ {l : Addr} {ws : List V} {xs : List D}, SqL X.K H l ws → IsL X.K F ws xs → Φ (.tup xs) M → ∃ p ys, [V.ref l] = [.ref p] ∧ ((SqL X.K H p ys ∧ ∀ l, H l = none → Q (.ref l) (upd H l (.tup ys))) ∨ (SqT X.K H p ys ∧ Q (.ref p) H)) := fun {l ws xs} hq hl q => ⟨l, ws, rfl, .inl ⟨hq, fun p hp => by
          have n1 := h.free hp
          exact z _ M _ _ _ (upd_same_ext n1) (h.laid hp) (.tup (.inl (.inl upd_same)) (hl.mono (upd_same_ext n1))) q⟩⟩
        unfold seqOf at q
        (first | split at q)
        · cases i1 with
          | lst hq hl => exact fin (h.sub.seq hq) hl q
        · cases i1 with
          | tup hq hl => exact ⟨_, _, rfl, .inr ⟨same_t h.sub hq, z _ M _ F H (Same.refl F) h (.tup hq hl) q⟩⟩
        · obtain ⟨xs, hm, q⟩ := q
          cases i1
          obtain ⟨vs, e, zz⟩ := h.lst hm
          exact fin (.inl (.inl e)) zz q
        · exact q.elim
    · exact q.elim) hg hm (by decide +kernel) (da_cons ha da_nil hs) (by decide) (by decide) hs hpl
/-- list(x): not changed; changed later -/
def fList (ds : List D) (M : Mm) (Φ : AK) : Prop := match ds with
  | [d] => seqOf d M fun xs => Φ (.lst xs) M
  | _ => False
def fListM (ds : List D) (M : Mm) (Φ : AK) : Prop := match ds with
  | [d] => seqOf d M fun xs => ∀ l, Φ (.ref l) ((l, .lst xs) :: M)
  | _ => False
theorem de_listOf (hg : Gl X "list") (hm : X.mg "list" = none) (ha : DE X T a ta) (hs : starEach [a] X.env = (false, eval a X.env) :: starEach [] X.env := by rfl) (hpl : (backTo pos (starEach [] X.env)).any (·.1) = false := by rfl) : DE X T (.Call (.Name "list" p) [a] [] pos) (aCB fList (aCons ta aNil)) :=
  de_callTy call_list_of (fun F H vs ds M Φ Q h i q z => by
    unfold fList at q
    (first | split at q)
    · match vs, i with
      | [_], .cons i1 .nil =>
        obtain ⟨l, ws, xs, rfl, hq, hl, q⟩ := seq_at h i1 q
        refine ⟨l, ws, rfl, hq, fun p hp => ?_⟩
        have n1 := h.free hp
        exact z _ M _ _ _ (upd_same_ext n1) (h.laid hp) (.lst (.inl (.inl upd_same)) (hl.mono (upd_same_ext n1))) q
    · exact q.elim) hg hm (by decide +kernel) (da_cons ha da_nil hs) (by decide) (by decide) hs hpl
theorem de_listOfM (hg : Gl X "list") (hm : X.mg "list" = none) (ha : DE X T a ta) (hs : starEach [a] X.env = (false, eval a X.env) :: starEach [] X.env := by rfl) (hpl : (backTo pos (starEach [] X.env)).any (·.1) = false := by rfl) : DE X T (.Call (.Name "list" p) [a] [] pos) (aCB fListM (aCons ta aNil)) :=
  de_callTy call_list_of (fun F H vs ds M Φ Q h i q z => by
    unfold fListM at q
    (first | split at q)
    · match vs, i with
      | [_], .cons i1 .nil =>
        obtain ⟨l, ws, xs, rfl, hq, hl, q⟩ := seq_at h i1 q
        refine ⟨l, ws, rfl, hq, fun p hp => ?_⟩
        exact z (.ref p) ((p, .lst xs) :: M) _ _ _ (Same.refl F) (h.newM (o := .lst xs) hp ⟨_, upd_same, hl⟩) (.ref p) (q p)
    · exact q.elim) hg hm (by decide +kernel) (da_cons ha da_nil hs) (by decide) (by decide) hs hpl
/-! ### sums, all, any, the greatest -/
def fAll (ds : List D) (M : Mm) (Φ : AK) : Prop := match ds with
  | [.lst xs] => ∃ bs : List Bool, xs = bs.map D.bl ∧ Φ (.bl (bs.all id)) M
  | _ => False
def fAny (ds : List D) (M : Mm) (Φ : AK) : Prop := match ds with
  | [.lst xs] => ∃ bs : List Bool, xs = bs.map D.bl ∧ Φ (.bl (bs.any id)) M
  | _ => False
def fSum (ds : List D) (M : Mm) (Φ : AK) : Prop := match ds with
  | [.lst xs] => ∃ ns : List Int, xs = ns.map D.int ∧ Φ (.int ns.sum) M
  | _ => False
def fMaxL (ds : List D) (M : Mm) (Φ : AK) : Prop := match ds with
  | [.lst xs] => ∃ ns : List Int, xs = ns.map D.int ∧ 0 < ns.length ∧ ∀ m, m ∈ ns → (∀ y, y ∈ ns → y ≤ m) → Φ (.int m) M
  | _ => False
def fMinL (ds : List D) (M : Mm) (Φ : AK) : Prop := match ds with
  | [.lst xs] => ∃ ns : List Int, xs = ns.map D.int ∧ 0 < ns.length ∧ ∀ m, m ∈ ns → (∀ y, y ∈ ns → m ≤ y) → Φ (.int m) M
  | _ => False
theorem de_all (hc : X.calm = true) (hg : Gl X "all") (hm : X.mg "all" = none) (ha : DE X T a ta) (hs : starEach [a] X.env = (false, eval a X.env) :: starEach [] X.env := by rfl) (hpl : (backTo pos (starEach [] X.env)).any (·.1) = false := by rfl) : DE X T (.Call (.Name "all" p) [a] [] pos) (aCB fAll (aCons ta aNil)) :=
  de_callB (cr_all hc) (fun F H vs ds M Φ Q h i q z => by
    unfold fAll at q
    (first | split at q)
    · match vs, i with
      | [_], .cons (.lst hq hl) .nil =>
        obtain ⟨bs, rfl, q⟩ := q
        rw [hl.bls] at hq
        exact ⟨_, bs, rfl, h.sub.seq hq, z _ M _ F H (Same.refl F) h (.bl _) q⟩
    · exact q.elim) hg hm (by decide +kernel) (da_cons ha da_nil hs) (by decide) (by decide) hs hpl
theorem de_any (hc : X.calm = true) (hg : Gl X "any") (hm : X.mg "any" = none) (ha : DE X T a ta) (hs : starEach [a] X.env = (false, eval a X.env) :: starEach [] X.env := by rfl) (hpl : (backTo pos (starEach [] X.env)).any (·.1) = false := by rfl) : DE X T (.Call (.Name "any" p) [a] [] pos) (aCB fAny (aCons ta aNil)) :=
  de_callB (cr_any hc) (fun F H vs ds M Φ Q h i q z => by
    unfold fAny at q
    (first | split at q)
    · match vs, i with
      | [_], .cons (.lst hq hl) .nil =>
        obtain ⟨bs, rfl, q⟩ := q
        rw [hl.bls] at hq
        exact ⟨_, bs, rfl, h.sub.seq hq, z _ M _ F H (Same.refl F) h (.bl _) q⟩
    · exact q.elim) hg hm (by decide +kernel) (da_cons ha da_nil hs) (by decide) (by decide) hs hpl
theorem de_sum (hc : X.calm = true) (hg : Gl X "sum") (hm : X.mg "sum" = none) (ha : DE X T a ta) (hs : starEach [a] X.env = (false, eval a X.env) :: starEach [] X.env := by rfl) (hpl : (backTo pos (starEach [] X.env)).any (·.1) = false := by rfl) : DE X T (.Call (.Name "sum" p) [a] [] pos) (aCB fSum (aCons ta aNil)) :=
  de_callB (cr_sum hc) (fun F H vs ds M Φ Q h i q z => by
    unfold fSum at q
    (first | split at q)
    · match vs, i with
      | [_], .cons (.lst hq hl) .nil =>
        obtain ⟨bs, rfl, q⟩ := q
        rw [hl.ints] at hq
        exact ⟨_, bs, rfl, h.sub.seq hq, z _ M _ F H (Same.refl F) h (.int _) q⟩
    · exact q.elim) hg hm (by decide +kernel) (da_cons ha da_nil hs) (by decide) (by decide) hs hpl
theorem de_maxL (hc : X.calm = true) (hg : Gl X "max") (hm : X.mg "max" = none) (ha : DE X T a ta) (hs : starEach [a] X.env = (false, eval a X.env) :: starEach [] X.env := by rfl) (hpl : (backTo pos (starEach [] X.env)).any (·.1) = false := by rfl) : DE X T (.Call (.Name "max" p) [a] [] pos) (aCB fMaxL (aCons ta aNil)) :=
  de_callB (cr_max hc) (fun F H vs ds M Φ Q h i q z => by
    unfold fMaxL at q
    (first | split at q)
    · match vs, i with
      | [_], .cons (.lst hq hl) .nil =>
        obtain ⟨bs, rfl, h0, q⟩ := q
        rw [hl.ints] at hq
        exact ⟨_, bs, rfl, h.sub.seq hq, h0, fun m hm hle => z _ M _ F H (Same.refl F) h (.int _) (q m hm hle)⟩
    · exact q.elim) hg hm PyProof.Rows.boot_max (da_cons ha da_nil hs) (by decide) (by decide) hs hpl
theorem de_minL (hc : X.calm = true) (hg : Gl X "min") (hm : X.mg "min" = none) (ha : DE X T a ta) (hs : starEach [a] X.env = (false, eval a X.env) :: starEach [] X.env := by rfl) (hpl : (backTo pos (starEach [] X.env)).any (·.1) = false := by rfl) : DE X T (.Call (.Name "min" p) [a] [] pos) (aCB fMinL (aCons ta aNil)) :=
  de_callB (cr_min hc) (fun F H vs ds M Φ Q h i q z => by
    unfold fMinL at q
    (first | split at q)
    · match vs, i with
      | [_], .cons (.lst hq hl) .nil =>
        obtain ⟨bs, rfl, h0, q⟩ := q
        rw [hl.ints] at hq
        exact ⟨_, bs, rfl, h.sub.seq hq, h0, fun m hm hle => z _ M _ F H (Same.refl F) h (.int _) (q m hm hle)⟩
    · exact q.elim) hg hm (by decide +kernel) (da_cons ha da_nil hs) (by decide) (by decide) hs hpl
end
end DL

set_option Elab.async false
set_option linter.all false
set_option maxRecDepth 100000
set_option maxHeartbeats 2000000
namespace DL
open PySem L2
section
variable {X : Cx} {T : Ct} {a b : Expr} {pos : Pos} {ta tb : AE}
theorem dt_lt (ha : DE X T a ta) (hb : DE X T b tb) : DT X T (.Compare a [.Lt] [b] pos) (aB (aOp fLt ta tb)) := dt_cmp op_lt ab_B0 ha hb
theorem dt_le (ha : DE X T a ta) (hb : DE X T b tb) : DT X T (.Compare a [.LtE] [b] pos) (aB (aOp fLe ta tb)) := dt_cmp op_le ab_B0 ha hb
theorem dt_gt (ha : DE X T a ta) (hb : DE X T b tb) : DT X T (.Compare a [.Gt] [b] pos) (aB (aOp fGt ta tb)) := dt_cmp op_gt ab_B0 ha hb
theorem dt_ge (ha : DE X T a ta) (hb : DE X T b tb) : DT X T (.Compare a [.GtE] [b] pos) (aB (aOp fGe ta tb)) := dt_cmp op_ge ab_B0 ha hb
theorem dt_eq {k : Nat} (hr : Room k X.A) (ha : DE X T a ta) (hb : DE X T b tb) : DT X T (.Compare a [.Eq] [b] pos) (aB (aOp fEq ta tb)) := dt_cmp (op_eqA hr) (ab_eqG (neg := fun b => b)) ha hb
theorem dt_ne {k : Nat} (hr : Room k X.A) (ha : DE X T a ta) (hb : DE X T b tb) : DT X T (.Compare a [.NotEq] [b] pos) (aB (aOp fNe ta tb)) := dt_cmp (op_neA hr) (ab_eqG (neg := fun b => !b)) ha hb
theorem dt_is (ha : DE X T a ta) (hb : DE X T b tb) : DT X T (.Compare a [.Is] [b] pos) (aB (aOp fIs ta tb)) := dt_cmp (op_isN.or op_isBl) (ab_isG (neg := fun b => b)) ha hb
theorem dt_isNot (ha : DE X T a ta) (hb : DE X T b tb) : DT X T (.Compare a [.IsNot] [b] pos) (aB (aOp fIsNot ta tb)) := dt_cmp (op_notN.or op_notBl) (ab_isG (neg := fun b => !b)) ha hb
end
theorem all_ints {n : Nat} {ns : List Int} : (ns.map D.int).all (plD n) = true := by
  rw [List.all_eq_true]
  intro d hd
  obtain ⟨i, _, rfl⟩ := List.mem_map.mp hd
  exact plD_int
section
variable {X : Cx} {T : Ct} {a : Expr} {pos lpos : Pos} {ta ta' : AE} {tt tt' : AT}
theorem de_imp (h : DE X T a ta) (k : ∀ Γ M Φ, ta' Γ M Φ → ta Γ M Φ) : DE X T a ta' := ⟨fun pins s σ H Q I ⟨F, Γ, M, Φ, w, q, z⟩ => h.run pins s σ H Q I ⟨F, Γ, M, Φ, w, k Γ M Φ q, z⟩⟩
theorem dt_imp (h : DT X T a tt) (k : ∀ Γ M Φ, tt' Γ M Φ → tt Γ M Φ) : DT X T a tt' := ⟨fun pins s σ H Q I ⟨F, Γ, M, Φ, w, q, z⟩ => h.run pins s σ H Q I ⟨F, Γ, M, Φ, w, k Γ M Φ q, z⟩⟩
/-- x != [], x == [] -/
def lstOf (d : D) (M : Mm) (k : List D → Prop) : Prop := match d with
  | .lst xs => k xs
  | .ref l => ∃ xs, (l, MO.lst xs) ∈ M ∧ k xs
  | _ => False
def fNil (neg : Bool → Bool) (d : D) (M : Mm) (k : Bool → Mm → Prop) : Prop := lstOf d M fun xs => xs.all (plD 59) = true ∧ k (neg xs.isEmpty) M
theorem nil_go {neg : Bool → Bool} {d : D} {M : Mm} {k : Bool → Mm → Prop} (h : fNil neg d M k) : fEqB neg d (.lst []) M fun d M => match d with
  | .bl b => k b M
  | _ => False := by
  unfold fNil lstOf at h
  unfold fEqB
  split at h
  · rename_i xs
    refine ⟨⟨h.1, rfl⟩, ?_⟩
    have e : PyData.eqv (py 60 (.lst xs)) (py 60 (.lst [])) = xs.isEmpty := (eqv_nil).trans (by cases xs <;> rfl)
    show k (neg _) M
    rw [e]
    exact h.2
  · obtain ⟨xs, hm, h⟩ := h
    refine ⟨xs, hm, ⟨h.1, rfl⟩, ?_⟩
    have e : PyData.eqv (py 60 (.lst xs)) (py 60 (.lst [])) = xs.isEmpty := (eqv_nil).trans (by cases xs <;> rfl)
    show k (neg _) M
    rw [e]
    exact h.2
  · exact h.elim
theorem fEqB_mono {neg : Bool → Bool} {d e : D} {M : Mm} {Φ Φ' : AK} (h : ∀ b, Φ (.bl b) M → Φ' (.bl b) M) (q : fEqB neg d e M Φ) : fEqB neg d e M Φ' := by
  unfold fEqB at q ⊢
  (first | split at q)
  · exact h _ q
  · unfold rdM at q ⊢
    (first | split at q)
    · obtain ⟨xs, hm, q⟩ := q
      refine ⟨xs, hm, ?_⟩
      (first | split at q)
      · obtain ⟨ys, hm2, q⟩ := q
        exact ⟨ys, hm2, q.1, h _ q.2⟩
      · exact ⟨q.1, h _ q.2⟩
    · (first | split at q)
      · obtain ⟨ys, hm2, q⟩ := q
        exact ⟨ys, hm2, q.1, h _ q.2⟩
      · exact ⟨q.1, h _ q.2⟩
def aNil? (neg : Bool → Bool) (ta : AE) (Γ : Gm) (M : Mm) (Φ : Bool → Mm → Prop) : Prop := ta Γ M fun d M1 => fNil neg d M1 Φ
def aNilV (neg : Bool → Bool) (ta : AE) (Γ : Gm) (M : Mm) (Φ : AK) : Prop := ta Γ M fun d M1 => fNil neg d M1 fun b M2 => Φ (.bl b) M2
end
/-- a reading is monotone in what is wanted: expressions made of our rules are -/
theorem nilT {X : Cx} {T : Ct} {a : Expr} {pos lpos : Pos} {ta : AE} {k : Nat} (hr : Room k X.A) (ha : DE X T a ta) : DT X T (.Compare a [.NotEq] [.List [] lpos] pos) (aNil? (fun b => !b) ta) :=
  dt_of (pt_cmpR (op_neA hr) ha (de_lst (T := T) da_nil) (nomark _)) fun F σ H Γ M Φ Q w q z =>
    cE_mk w q fun d M1 x F1 H1 s1 h1 i1 q1 => cE_mk (Φ := fun e M2 => e = .lst [] ∧ M2 = M1) (w.go s1 h1) ⟨by decide, rfl, rfl⟩ fun e M2 y F2 H2 s2 h2 i2 ⟨e1, e2⟩ => by
      subst e1 e2
      exact ab_eqG (neg := fun b => !b) F2 H2 x y d (.lst []) M2 _ (fun x H' => ∃ k, x = V.bl k ∧ Q k H') h2 (i1.mono s2) i2 (nil_go q1) fun g M3 v F3 H3 s3 h3 i3 q3 => by
        cases g with
        | bl b =>
          cases i3
          exact ⟨b, rfl, z b M3 F3 H3 ((s1.trans s2).trans s3) h3 q3⟩
        | _ => exact q3.elim
theorem nilT' {X : Cx} {T : Ct} {a : Expr} {pos lpos : Pos} {ta : AE} {k : Nat} (hr : Room k X.A) (ha : DE X T a ta) : DT X T (.Compare a [.Eq] [.List [] lpos] pos) (aNil? (fun b => b) ta) :=
  dt_of (pt_cmpR (op_eqA hr) ha (de_lst (T := T) da_nil) (nomark _)) fun F σ H Γ M Φ Q w q z =>
    cE_mk w q fun d M1 x F1 H1 s1 h1 i1 q1 => cE_mk (Φ := fun e M2 => e = .lst [] ∧ M2 = M1) (w.go s1 h1) ⟨by decide, rfl, rfl⟩ fun e M2 y F2 H2 s2 h2 i2 ⟨e1, e2⟩ => by
      subst e1 e2
      exact ab_eqG (neg := fun b => b) F2 H2 x y d (.lst []) M2 _ (fun x H' => ∃ k, x = V.bl k ∧ Q k H') h2 (i1.mono s2) i2 (nil_go q1) fun g M3 v F3 H3 s3 h3 i3 q3 => by
        cases g with
        | bl b =>
          cases i3
          exact ⟨b, rfl, z b M3 F3 H3 ((s1.trans s2).trans s3) h3 q3⟩
        | _ => exact q3.elim
/-! ### the law's own end -/
def aspLaw : ASp := fun ds M Φ Ψ => ∃ ns : List Int, ds = [.lst (ns.map D.int)] ∧ ns.length ≤ 63 ∧ M = [] ∧ ∀ M', Φ (.bl true) M'
theorem aspLaw_len : ∀ ds M Φ Ψ, aspLaw ds M Φ Ψ → ds.length = 1 := fun ds M Φ Ψ ⟨ns, e, _⟩ => by rw [e]; rfl
theorem law_conc {K : PySem.W.Frag} {H : Hp} {a : Addr} {ns : List Int} (hl : ns.length ≤ 63) (hS : SqL K H a (ns.map V.int)) : conc K Bx.no aspLaw [.ref a] H (fun v _ => v = .bl true) fun _ _ _ => False :=
  ⟨[.lst (ns.map D.int)], H, [], fun d _ => d = .bl true, fun _ _ => False, .cons (.lst hS (IsL.of_ints ns)) .nil, ⟨Same.refl H, fun _ h => absurd h List.not_mem_nil, List.nodup_nil, trivial, fun _ h => absurd h List.not_mem_nil⟩, ⟨ns, rfl, hl, rfl, fun _ => rfl⟩,
    fun d M' v F' H' _ _ i e => by
      subst e
      cases i
      rfl, fun _ _ _ _ _ _ _ _ _ z => z⟩
theorem law_calm {P : Program} {w : World} {l : List Env} {H : Hp} {s s' : Shared} {e : Value} (h : L2N.CX P w l H s (fun _ _ _ => False) e s') : False := by
  obtain ⟨_, _, _, _, _, _, _, _, _, _, _, _, z⟩ := h
  exact z
/-! ### reading on -/
theorem aSeq_step {t u : AS} {A : AEnds} {Γ : Gm} {M : Mm} (h : t { A with nx := u A } Γ M) : aSeq t u A Γ M := h
/-- a word between two statements -/
theorem aSeq_cut {t u : AS} {A : AEnds} {Γ : Gm} {M : Mm} (R : Gm → Mm → Prop) (mono : ∀ g : Gm → Mm → Prop, (∀ Γ' M', R Γ' M' → g Γ' M') → t { A with nx := R } Γ M → t { A with nx := g } Γ M) (h : t { A with nx := R } Γ M) (k : ∀ Γ' M', R Γ' M' → u A Γ' M') : aSeq t u A Γ M := mono _ k h
/-- loops by a word and a measure -/
theorem aWhile_by {t : AT} {tb : AS} {A : AEnds} {Γ : Gm} {M : Mm} (I : Nat → Gm → Mm → Prop) (n : Nat) (h0 : I n Γ M)
    (hs : ∀ n Γ' M', I n Γ' M' → t Γ' M' fun b M1 => (b = true → tb { nx := fun Γ2 M2 => ∃ m, m < n ∧ I m Γ2 M2, rt := A.rt, bk := A.nx, ct := fun Γ2 M2 => ∃ m, m < n ∧ I m Γ2 M2 } Γ' M1) ∧ (b = false → A.nx Γ' M1)) : aWhile t tb A Γ M := ⟨I, ⟨n, h0⟩, hs⟩

/-! ### where the draws come from: [cells, stir] -/
def bxHeap (h c : Addr) : Bx where
  fp := [h, c]
  ok := fun H => h ≠ c ∧ ∃ (cs : List Int) (s : Int), H h = some (.lst [.ref c, .int s]) ∧ H c = some (.lst (cs.map V.int)) ∧ cs.length ≤ 1000
  loc := fun {H H'} e ⟨n, cs, s, h1, h2, h3⟩ => ⟨n, cs, s, (e h (by simp)).trans h1, (e c (by simp)).trans h2, h3⟩
  low := fun {H} ⟨n, cs, s, h1, h2, _⟩ a ha => by
    rcases List.mem_cons.mp ha with e | ha
    · subst e
      exact ⟨_, h1⟩
    · rcases List.mem_cons.mp ha with e | ha
      · subst e
        exact ⟨_, h2⟩
      · exact absurd ha List.not_mem_nil
/-- the box as two mutable lists -/
abbrev heapM (h c : Addr) (cs : List Int) (s : Int) : Mm := [(h, .lst [.ref c, .int s]), (c, .lst (cs.map D.int))]
section
variable {K : PySem.W.Frag} {M : Mm} {F H : Hp} {h c : Addr}
theorem heap_open (x : Hs K (bxHeap h c) M F H) : ∃ cs s, cs.length ≤ 1000 ∧ Hs K Bx.no (heapM h c cs s ++ M) F H := by
  obtain ⟨n, cs, s, h1, h2, h3⟩ := x.box
  have nh : ∀ q ∈ M, q.1 ≠ h := fun q hq e => (x.mem q hq).2.1 (by rw [e]; exact List.mem_cons_self)
  have nc : ∀ q ∈ M, q.1 ≠ c := fun q hq e => (x.mem q hq).2.1 (by rw [e]; exact List.mem_cons_of_mem _ List.mem_cons_self)
  refine ⟨cs, s, h3, x.sub, fun q hq => ?_, ?_, trivial, fun _ hb => absurd hb List.not_mem_nil⟩
  · rcases List.mem_cons.mp hq with e | hq
    · subst e
      exact ⟨x.bfr h List.mem_cons_self, List.not_mem_nil, _, h1, .cons (.ref c) (.cons (.int s) .nil)⟩
    · rcases List.mem_cons.mp hq with e | hq
      · subst e
        exact ⟨x.bfr c (List.mem_cons_of_mem _ List.mem_cons_self), List.not_mem_nil, _, h2, IsL.of_ints cs⟩
      · obtain ⟨m1, m2, m3⟩ := x.mem q hq
        exact ⟨m1, List.not_mem_nil, m3⟩
  · show (h :: c :: M.map (·.1)).Nodup
    rw [List.nodup_cons, List.nodup_cons]
    refine ⟨fun hm => ?_, fun hm => ?_, x.nd⟩
    · rcases List.mem_cons.mp hm with e | hm
      · exact n e
      · obtain ⟨q, hq, e⟩ := List.mem_map.mp hm
        exact nh q hq e
    · obtain ⟨q, hq, e⟩ := List.mem_map.mp hm
      exact nc q hq e
theorem heap_close {cs : List Int} {s : Int} (hl : cs.length ≤ 1000) (x : Hs K Bx.no (heapM h c cs s ++ M) F H) : Hs K (bxHeap h c) M F H := by
  have nd : (h :: c :: M.map (·.1)).Nodup := x.nd
  rw [List.nodup_cons, List.nodup_cons] at nd
  obtain ⟨n1, n2, nd⟩ := nd
  obtain ⟨f1, _, vs1, e1, l1⟩ := x.mem (h, .lst [.ref c, .int s]) List.mem_cons_self
  obtain ⟨f2, _, vs2, e2, l2⟩ := x.mem (c, .lst (cs.map D.int)) (List.mem_cons_of_mem _ List.mem_cons_self)
  refine ⟨x.sub, fun q hq => ?_, nd, ⟨fun e => n1 (by rw [e]; exact List.mem_cons_self), cs, s, ?_, ?_, hl⟩, fun a ha => ?_⟩
  · obtain ⟨m1, _, m3⟩ := x.mem q (List.mem_cons_of_mem _ (List.mem_cons_of_mem _ hq))
    refine ⟨m1, fun hm => ?_, m3⟩
    rcases List.mem_cons.mp hm with e | hm
    · exact n1 (by rw [← e]; exact List.mem_cons_of_mem _ (List.mem_map.mpr ⟨q, hq, rfl⟩))
    · rcases List.mem_cons.mp hm with e | hm
      · exact n2 (by rw [← e]; exact List.mem_map.mpr ⟨q, hq, rfl⟩)
      · exact absurd hm List.not_mem_nil
  · cases l1 with
    | cons i1 i2 =>
      cases i2 with
      | cons i2 i3 =>
        cases i1
        cases i2
        cases i3
        exact e1
  · rw [e2, l2.ints]
  · rcases List.mem_cons.mp ha with e | ha
    · subst e
      exact f1
    · rcases List.mem_cons.mp ha with e | ha
      · subst e
        exact f2
      · exact absurd ha List.not_mem_nil
end
/-- a draw: of the hidden part; of the two lists -/
def spDraw (h : Addr) : ASp := fun ds M Φ _ => match ds with
  | [.ref h', .int n] => h' = h ∧ DivOk 0 n ∧ ∀ r : Int, 0 ≤ r → r < n → Φ (.int r) M
  | _ => False
def spDrawM : ASp := fun ds M Φ _ => ∃ (h c : Addr) (cs : List Int) (s n : Int) (M1 : Mm), ds = [.ref h, .int n] ∧ M = heapM h c cs s ++ M1 ∧ DivOk 0 n ∧ cs.length ≤ 1000 ∧ ∀ (r : Int) (cs' : List Int) (s' : Int), cs'.length ≤ 1000 → 0 ≤ r → r < n → Φ (.int r) (heapM h c cs' s' ++ M1)
theorem draw_box {P : Program} {w : World} {K : PySem.W.Frag} {mg : Str → Option Value} {base : Heap} {k : Nat} {f : Addr} {fd : FuncData} {ps : List Str} {CX : CXT} (G : FnOk P w K mg base CX k f fd ps (conc K Bx.no spDrawM)) (h c : Addr) :
    FnOk P w K mg base CX k f fd ps (conc K (bxHeap h c) (spDraw h)) := G.imp fun vs H Q E ⟨ds, F, M, Φ, Ψ, hv, hh, ha, hq, he⟩ => by
  unfold spDraw at ha
  split at ha
  rotate_left
  · exact ha.elim
  rename_i h' n
  obtain ⟨rfl, hn, ha⟩ := ha
  obtain ⟨cs, s, hl, ho⟩ := heap_open hh
  refine ⟨_, F, heapM h' c cs s ++ M, fun d M' => ∃ r cs' s', d = .int r ∧ 0 ≤ r ∧ r < n ∧ cs'.length ≤ 1000 ∧ M' = heapM h' c cs' s' ++ M, fun _ _ => False, hv, ho, ⟨h', c, cs, s, n, M, rfl, rfl, hn, hl, fun r cs' s' hl' h0 h1 => ⟨r, cs', s', rfl, h0, h1, hl', rfl⟩⟩, fun d M' v F' H' s2 h2 i2 q2 => ?_, fun _ _ _ _ _ _ _ _ _ z => z.elim⟩
  obtain ⟨r, cs', s', rfl, h0, h1, hl', rfl⟩ := q2
  exact hq _ M v F' H' s2 (heap_close hl' h2) i2 (ha r h0 h1)
theorem last_or {α : Type} (xs : List α) : xs = [] ∨ ∃ ys y, xs = ys ++ [y] := by
  cases h : xs.reverse with
  | nil => exact .inl (List.reverse_eq_nil_iff.mp h)
  | cons y ys => exact .inr ⟨ys.reverse, y, by rw [← List.reverse_reverse xs, h, List.reverse_cons]⟩
theorem isE_append {α : Type} {ys : List α} {y : α} : (ys ++ [y]).isEmpty = false := by cases ys <;> rfl
/-- one of some things -/
def spPick (h : Addr) : ASp := fun ds M Φ _ => match ds with
  | [.ref h', .lst xs] => h' = h ∧ (0 < xs.length ∧ xs.length < 1000000) ∧ ∀ d ∈ xs, Φ d M
  | [.ref h', .tup xs] => h' = h ∧ (0 < xs.length ∧ xs.length < 1000000) ∧ ∀ d ∈ xs, Φ d M
  | _ => False
theorem pick_as {α : Type} {emb : α → D} {R : α → Prop} {ds : List D} {P : D → Prop} (h : ∀ d ∈ ds, ∃ x, d = emb x ∧ R x) (k : ∀ x, R x → P (emb x)) : ∀ d ∈ ds, P d := fun d hd => by
  obtain ⟨x, rfl, r⟩ := h d hd
  exact k x r
/-! ### loops of known make -/
def rngI (lo : Int) (n : Nat) : List Int := (List.range n).map fun i => lo + (i : Nat)
theorem rngD_eq (lo : Int) (n : Nat) : rngD lo n = (rngI lo n).map D.int := by
  unfold rngD rngI
  rw [List.map_map]
  rfl
theorem rngI_len (lo : Int) (n : Nat) : (rngI lo n).length = n := by unfold rngI; rw [List.length_map, List.length_range]
theorem mem_rngI {lo x : Int} {n : Nat} (h : x ∈ rngI lo n) : lo ≤ x ∧ x < lo + n := by
  unfold rngI at h
  obtain ⟨i, hi, rfl⟩ := List.mem_map.mp h
  have := List.mem_range.mp hi
  omega
section
variable {ai : AI} {g : AG} {tt : AT} {te : AE} {vs : List Nat} {Γ : Gm} {M : Mm} {Φ : AK}
/-- a comprehension whose parts are functions of the item -/
theorem aLc_pure {α : Type} (xs : List α) (emb : α → D) (f : α → Bool) (v : α → D) (hai : ∀ Φ' : List D → Mm → Prop, Φ' (xs.map emb) M → ai Γ M Φ') (hlen : xs.length ≤ 100000)
    (h : ∀ x ∈ xs, ∀ M', ∃ Γ2, g (emb x) (wipeG Γ vs) = some Γ2 ∧ (∀ Φ' : Bool → Mm → Prop, Φ' (f x) M' → tt Γ2 M' Φ') ∧ (f x = true → ∀ Φ' : AK, Φ' (v x) M' → te Γ2 M' Φ'))
    (k : Φ (.lst ((xs.filter f).map v)) M) : aLc ai g tt te vs Γ M Φ := by
  unfold aLc
  refine hai _ ⟨by rw [List.length_map]; exact hlen, fun i acc M' => acc = ((xs.take i).filter f).map v ∧ M' = M, ⟨rfl, rfl⟩, ?_, ?_⟩
  · rintro i d acc M' l hd ⟨rfl, rfl⟩
    rw [List.getElem?_map] at hd
    cases hx : xs[i]? with
    | none =>
      rw [hx] at hd
      cases hd
    | some x =>
      rw [hx] at hd
      cases hd
      obtain ⟨Γ2, e, h1, h2⟩ := h x (List.mem_of_getElem? hx) ((l, .lst (((xs.take i).filter f).map v)) :: M')
      rw [e]
      refine h1 _ ⟨fun hf => h2 hf _ ⟨M', .here, ?_, rfl⟩, fun hf => ⟨M', .here, ?_, rfl⟩⟩
      · rw [List.take_add_one, hx, List.filter_append, List.map_append]
        show _ ++ [v x] = _ ++ (List.filter f [x]).map v
        rw [List.filter_cons, if_pos hf]
        rfl
      · rw [List.take_add_one, hx, List.filter_append, List.map_append]
        show _ = _ ++ (List.filter f [x]).map v
        rw [List.filter_cons, if_neg (by rw [hf]; decide)]
        show _ = _ ++ []
        rw [List.append_nil]
  · rintro acc M' ⟨rfl, rfl⟩ _
    rw [List.length_map, List.take_length]
    exact k
/-- no test -/
theorem aLc_map {α : Type} (xs : List α) (emb : α → D) (v : α → D) (hai : ∀ Φ' : List D → Mm → Prop, Φ' (xs.map emb) M → ai Γ M Φ') (hlen : xs.length ≤ 100000)
    (h : ∀ x ∈ xs, ∀ M', ∃ Γ2, g (emb x) (wipeG Γ vs) = some Γ2 ∧ (∀ Φ' : AK, Φ' (v x) M' → te Γ2 M' Φ'))
    (k : Φ (.lst (xs.map v)) M) : aLc ai g aYes te vs Γ M Φ := by
  refine aLc_pure xs emb (fun _ => true) v hai hlen (fun x hx M' => ?_) ?_
  · obtain ⟨Γ2, e, h1⟩ := h x hx M'
    exact ⟨Γ2, e, fun _ q => q, fun _ => h1⟩
  · rw [List.filter_eq_self.mpr (fun _ _ => rfl)]
    exact k
end
end DL

set_option Elab.async false
set_option linter.all false
set_option maxRecDepth 100000
set_option maxHeartbeats 2000000
namespace DL
open PySem L2
/-! ### what the readings compute to, by the kind of the data -/
section
variable {Φ : AK} {Φb : Bool → Mm → Prop} {Φl : List D → Mm → Prop} {Φo : Option Int → Mm → Prop} {Γ : Gm} {M : Mm} {A : AEnds} {ta tb tc : AE} {f g : A2} {i j : Int} {b c : Bool} {x y : Str} {d e : D} {xs ys ds : List D} {l : Addr} {neg : Bool → Bool}
theorem aB_bl : aB_k Φb (.bl b) M = Φb b M := rfl
theorem aAndV_bl : aAndV_k tb Γ Φ (.bl c) M = ((c = true → tb Γ M Φ) ∧ (c = false → Φ (.bl false) M)) := rfl
theorem aOrV_bl : aOrV_k tb Γ Φ (.bl c) M = ((c = true → Φ (.bl true) M) ∧ (c = false → tb Γ M Φ)) := rfl
theorem aNotV_bl : aNotV_k Φ (.bl c) M = Φ (.bl (!c)) M := rfl
theorem aChain_bl : aChain_k g tc Γ Φ e (.bl b) M = ((b = true → tc Γ M fun h M4 => g e h M4 Φ) ∧ (b = false → Φ (.bl false) M)) := rfl
theorem aPar_2 {p q : Nat} : aPar_k p q A Γ [d, e] M = A.nx ((Γ.set p (some d)).set q (some e)) M := rfl
theorem aPar3_3 {p q r : Nat} {u : D} : aPar3_k p q r A Γ [d, e, u] M = A.nx (((Γ.set p (some d)).set q (some e)).set r (some u)) M := rfl
theorem onGm_s {k : Gm → Prop} : onGm (some Γ) k = k Γ := rfl
theorem agTup_t {gs : AGs} : agTup gs (.tup ds) Γ = gs ds Γ := rfl
theorem agLst_t {gs : AGs} : agLst gs (.lst ds) Γ = gs ds Γ := rfl
theorem agNil_n : agNil [] Γ = some Γ := rfl
theorem agCons_c {g : AG} {gs : AGs} : agCons g gs (d :: ds) Γ = (g d Γ).bind fun Γ1 => gs ds Γ1 := rfl
theorem bind_s {α β : Type} {a : α} {k : α → Option β} : (some a).bind k = k a := rfl
theorem aSetIx_r : aSetIx_k A Γ d (.ref l) (.int i) M = ∃ xs j M4, ixN xs.length i = some j ∧ Up M l (.lst xs) (.lst (xs.set j d)) M4 ∧ A.nx Γ M4 := rfl
theorem aItS_l : aItS_k Φl (.lst xs) M = Φl xs M := rfl
theorem aItS_t : aItS_k Φl (.tup xs) M = Φl xs M := rfl
theorem aRng1_i : aRng1_k Φl [.int j] M = ((-4611686018427387904 ≤ j ∧ j < 4611686018427387904) ∧ Φl (rngD 0 j.toNat) M) := rfl
theorem aRng2_i : aRng2_k Φl [.int i, .int j] M = ((-4611686018427387904 ≤ i ∧ i < 4611686018427387904 ∧ -4611686018427387904 ≤ j ∧ j < 4611686018427387904) ∧ Φl (rngD i (j - i).toNat) M) := rfl
theorem aEnum_l : aEnum_k Φl [.lst xs] M = Φl (enumD xs) M := rfl
theorem aZip_l : aZip_k Φl [.lst xs, .lst ys] M = Φl (zipD xs ys) M := rfl
theorem aZip_t : aZip_k Φl [.tup xs, .tup ys] M = Φl (zipD xs ys) M := rfl
theorem fI_i {g : Int → Int → D} : fI g (.int i) (.int j) M Φ = Φ (g i j) M := rfl
theorem fC_i {C : Int → Int → Prop} {g : Int → Int → D} : fC C g (.int i) (.int j) M Φ = (C i j ∧ Φ (g i j) M) := rfl
theorem fNeg_i : fNeg (.int i) M Φ = Φ (.int (-i)) M := rfl
theorem seqOf_l {k : List D → Prop} : seqOf (.lst xs) M k = k xs := rfl
theorem seqOf_t {k : List D → Prop} : seqOf (.tup xs) M k = k xs := rfl
theorem seqOf_r {k : List D → Prop} : seqOf (.ref l) M k = ∃ xs, (l, MO.lst xs) ∈ M ∧ k xs := rfl
theorem lstOf_l {k : List D → Prop} : lstOf (.lst xs) M k = k xs := rfl
theorem lstOf_r {k : List D → Prop} : lstOf (.ref l) M k = ∃ xs, (l, MO.lst xs) ∈ M ∧ k xs := rfl
theorem fLen_1 : fLen [d] M Φ = seqOf d M fun xs => Φ (.int (xs.length : Nat)) M := rfl
theorem fIx_i : fIx d (.int i) M Φ = seqOf d M fun xs => onD (getI xs i) fun g => Φ g M := rfl
theorem aP_i : aP_k Φo (.int i) M = Φo (some i) M := rfl
theorem aSl_l {lo hi : Option Int} : aSl_k Φ (.lst xs) lo hi M = Φ (.lst (cutD xs lo hi)) M := rfl
theorem aSl_r {lo hi : Option Int} : aSl_k Φ (.ref l) lo hi M = ∃ xs, (l, MO.lst xs) ∈ M ∧ Φ (.lst (cutD xs lo hi)) M := rfl
theorem aRev_l : aRev_k Φ (.lst xs) M = Φ (.lst xs.reverse) M := rfl
theorem aRev_r : aRev_k Φ (.ref l) M = ∃ xs, (l, MO.lst xs) ∈ M ∧ Φ (.lst xs.reverse) M := rfl
theorem aRevM_l : aRevM_k Φ (.lst xs) M = ∀ p, Φ (.ref p) ((p, .lst xs.reverse) :: M) := rfl
theorem aRevM_r : aRevM_k Φ (.ref l) M = ∃ xs, (l, MO.lst xs) ∈ M ∧ ∀ p, Φ (.ref p) ((p, .lst xs.reverse) :: M) := rfl
theorem aApp_r : aApp_k tb Γ Φ (.ref l) M = ((∃ xs, (l, MO.lst xs) ∈ M) ∧ tb Γ M fun e M2 => ∃ xs M3, Up M2 l (.lst xs) (.lst (xs ++ [e])) M3 ∧ xs.length < 100000 ∧ Φ .non M3) := rfl
theorem aPop_r : aPop_k Φ (.ref l) M = ∃ xs y M2, Up M l (.lst xs) (.lst xs.dropLast) M2 ∧ xs[xs.length - 1]? = some y ∧ Φ y M2 := rfl
def eqDeep (neg : Bool → Bool) (d e : D) (M : Mm) (Φ : AK) : Prop := rdM d M fun d' => rdM e M fun e' => (plD 60 d' = true ∧ plD 60 e' = true) ∧ Φ (.bl (neg (PyData.eqv (py 60 d') (py 60 e')))) M
theorem fEq_ii : fEqB neg (.int i) (.int j) M Φ = Φ (.bl (neg (decide (i = j)))) M := rfl
theorem fEq_ss : fEqB neg (.str x) (.str y) M Φ = Φ (.bl (neg (decide (x = y)))) M := rfl
theorem fEq_bb : fEqB neg (.bl b) (.bl c) M Φ = Φ (.bl (neg (decide (b = c)))) M := rfl
theorem fEq_nn : fEqB neg .non .non M Φ = Φ (.bl (neg true)) M := rfl
theorem fEq_ni : fEqB neg .non (.int i) M Φ = Φ (.bl (neg false)) M := rfl
theorem fEq_in : fEqB neg (.int i) .non M Φ = Φ (.bl (neg false)) M := rfl
theorem fEq_ns : fEqB neg .non (.str x) M Φ = Φ (.bl (neg false)) M := rfl
theorem fEq_sn : fEqB neg (.str x) .non M Φ = Φ (.bl (neg false)) M := rfl
theorem fEq_is : fEqB neg (.int i) (.str x) M Φ = Φ (.bl (neg false)) M := rfl
theorem fEq_si : fEqB neg (.str x) (.int i) M Φ = Φ (.bl (neg false)) M := rfl
theorem fEq_ll : fEqB neg (.lst xs) (.lst ys) M Φ = eqDeep neg (.lst xs) (.lst ys) M Φ := rfl
theorem fEq_tt : fEqB neg (.tup xs) (.tup ys) M Φ = eqDeep neg (.tup xs) (.tup ys) M Φ := rfl
theorem fEq_tl : fEqB neg (.tup xs) (.lst ys) M Φ = eqDeep neg (.tup xs) (.lst ys) M Φ := rfl
theorem fEq_lt : fEqB neg (.lst xs) (.tup ys) M Φ = eqDeep neg (.lst xs) (.tup ys) M Φ := rfl
theorem fIs_n : fIsB neg d .non M Φ = Φ (.bl (neg (isN d))) M := rfl
theorem fIs_b : fIsB neg (.bl c) (.bl b) M Φ = Φ (.bl (neg (decide (c = b)))) M := rfl
theorem isN_n : isN .non = true := rfl
theorem isN_i : isN (.int i) = false := rfl
theorem isN_b : isN (.bl b) = false := rfl
theorem isN_s : isN (.str x) = false := rfl
theorem isN_t : isN (.tup xs) = false := rfl
theorem isN_l : isN (.lst xs) = false := rfl
theorem isN_r : isN (.ref l) = false := rfl
theorem isN_o {C : Addr} {ns : List Str} : isN (.ins C ns xs) = false := rfl
theorem fAbs_i : fAbs [.int i] M Φ = Φ (.int (if i < 0 then -i else i)) M := rfl
theorem fInt_i : fInt [.int i] M Φ = Φ (.int i) M := rfl
theorem fInt_b : fInt [.bl b] M Φ = Φ (.int (if b then 1 else 0)) M := rfl
theorem fMax2_i : fMax2 [.int i, .int j] M Φ = Φ (.int (max i j)) M := rfl
theorem fMin2_i : fMin2 [.int i, .int j] M Φ = Φ (.int (min i j)) M := rfl
theorem fTuple_1 : fTuple [d] M Φ = seqOf d M fun xs => Φ (.tup xs) M := rfl
theorem fList_1 : fList [d] M Φ = seqOf d M fun xs => Φ (.lst xs) M := rfl
theorem fListM_1 : fListM [d] M Φ = seqOf d M fun xs => ∀ l, Φ (.ref l) ((l, .lst xs) :: M) := rfl
theorem fAll_l : fAll [.lst xs] M Φ = ∃ bs : List Bool, xs = bs.map D.bl ∧ Φ (.bl (bs.all id)) M := rfl
theorem fAny_l : fAny [.lst xs] M Φ = ∃ bs : List Bool, xs = bs.map D.bl ∧ Φ (.bl (bs.any id)) M := rfl
theorem fSum_l : fSum [.lst xs] M Φ = ∃ ns : List Int, xs = ns.map D.int ∧ Φ (.int ns.sum) M := rfl
theorem fMaxL_l : fMaxL [.lst xs] M Φ = ∃ ns : List Int, xs = ns.map D.int ∧ 0 < ns.length ∧ ∀ m, m ∈ ns → (∀ y, y ∈ ns → y ≤ m) → Φ (.int m) M := rfl
theorem fMinL_l : fMinL [.lst xs] M Φ = ∃ ns : List Int, xs = ns.map D.int ∧ 0 < ns.length ∧ ∀ m, m ∈ ns → (∀ y, y ∈ ns → m ≤ y) → Φ (.int m) M := rfl
/-- isinstance, by the class's name and the datum's -/
def isiK (t n : String) (M : Mm) (Φ : AK) : Prop := match kitB t n with
  | some b => Φ (.bl b) M
  | none => False
theorem fIsi_i {n : String} : fIsi n (.int i) M Φ = isiK "int" n M Φ := rfl
theorem fIsi_b {n : String} : fIsi n (.bl b) M Φ = isiK "bool" n M Φ := rfl
theorem fIsi_n {n : String} : fIsi n .non M Φ = isiK "NoneType" n M Φ := rfl
theorem fIsi_s {n : String} : fIsi n (.str x) M Φ = isiK "str" n M Φ := rfl
theorem fIsi_t {n : String} : fIsi n (.tup xs) M Φ = isiK "tuple" n M Φ := rfl
theorem fIsi_l {n : String} : fIsi n (.lst xs) M Φ = isiK "list" n M Φ := rfl
theorem isi_of {t n : String} {r : Bool} (h : kitB t n = some r) : isiK t n M Φ = Φ (.bl r) M := by unfold isiK; rw [h]
end
theorem isi_int_int {M : Mm} {Φ : AK} : isiK "int" "int" M Φ = Φ (.bl true) M := isi_of (by decide +kernel)
theorem isi_int_bool {M : Mm} {Φ : AK} : isiK "int" "bool" M Φ = Φ (.bl false) M := isi_of (by decide +kernel)
theorem isi_int_str {M : Mm} {Φ : AK} : isiK "int" "str" M Φ = Φ (.bl false) M := isi_of (by decide +kernel)
theorem isi_int_tuple {M : Mm} {Φ : AK} : isiK "int" "tuple" M Φ = Φ (.bl false) M := isi_of (by decide +kernel)
theorem isi_int_list {M : Mm} {Φ : AK} : isiK "int" "list" M Φ = Φ (.bl false) M := isi_of (by decide +kernel)
theorem isi_bool_int {M : Mm} {Φ : AK} : isiK "bool" "int" M Φ = Φ (.bl true) M := isi_of (by decide +kernel)
theorem isi_bool_bool {M : Mm} {Φ : AK} : isiK "bool" "bool" M Φ = Φ (.bl true) M := isi_of (by decide +kernel)
theorem isi_bool_str {M : Mm} {Φ : AK} : isiK "bool" "str" M Φ = Φ (.bl false) M := isi_of (by decide +kernel)
theorem isi_bool_tuple {M : Mm} {Φ : AK} : isiK "bool" "tuple" M Φ = Φ (.bl false) M := isi_of (by decide +kernel)
theorem isi_bool_list {M : Mm} {Φ : AK} : isiK "bool" "list" M Φ = Φ (.bl false) M := isi_of (by decide +kernel)
theorem isi_NoneType_int {M : Mm} {Φ : AK} : isiK "NoneType" "int" M Φ = Φ (.bl false) M := isi_of (by decide +kernel)
theorem isi_NoneType_bool {M : Mm} {Φ : AK} : isiK "NoneType" "bool" M Φ = Φ (.bl false) M := isi_of (by decide +kernel)
theorem isi_NoneType_str {M : Mm} {Φ : AK} : isiK "NoneType" "str" M Φ = Φ (.bl false) M := isi_of (by decide +kernel)
theorem isi_NoneType_tuple {M : Mm} {Φ : AK} : isiK "NoneType" "tuple" M Φ = Φ (.bl false) M := isi_of (by decide +kernel)
theorem isi_NoneType_list {M : Mm} {Φ : AK} : isiK "NoneType" "list" M Φ = Φ (.bl false) M := isi_of (by decide +kernel)
theorem isi_str_int {M : Mm} {Φ : AK} : isiK "str" "int" M Φ = Φ (.bl false) M := isi_of (by decide +kernel)
theorem isi_str_bool {M : Mm} {Φ : AK} : isiK "str" "bool" M Φ = Φ (.bl false) M := isi_of (by decide +kernel)
theorem isi_str_str {M : Mm} {Φ : AK} : isiK "str" "str" M Φ = Φ (.bl true) M := isi_of (by decide +kernel)
theorem isi_str_tuple {M : Mm} {Φ : AK} : isiK "str" "tuple" M Φ = Φ (.bl false) M := isi_of (by decide +kernel)
theorem isi_str_list {M : Mm} {Φ : AK} : isiK "str" "list" M Φ = Φ (.bl false) M := isi_of (by decide +kernel)
theorem isi_tuple_int {M : Mm} {Φ : AK} : isiK "tuple" "int" M Φ = Φ (.bl false) M := isi_of (by decide +kernel)
theorem isi_tuple_bool {M : Mm} {Φ : AK} : isiK "tuple" "bool" M Φ = Φ (.bl false) M := isi_of (by decide +kernel)
theorem isi_tuple_str {M : Mm} {Φ : AK} : isiK "tuple" "str" M Φ = Φ (.bl false) M := isi_of (by decide +kernel)
theorem isi_tuple_tuple {M : Mm} {Φ : AK} : isiK "tuple" "tuple" M Φ = Φ (.bl true) M := isi_of (by decide +kernel)
theorem isi_tuple_list {M : Mm} {Φ : AK} : isiK "tuple" "list" M Φ = Φ (.bl false) M := isi_of (by decide +kernel)
theorem isi_list_int {M : Mm} {Φ : AK} : isiK "list" "int" M Φ = Φ (.bl false) M := isi_of (by decide +kernel)
theorem isi_list_bool {M : Mm} {Φ : AK} : isiK "list" "bool" M Φ = Φ (.bl false) M := isi_of (by decide +kernel)
theorem isi_list_str {M : Mm} {Φ : AK} : isiK "list" "str" M Φ = Φ (.bl false) M := isi_of (by decide +kernel)
theorem isi_list_tuple {M : Mm} {Φ : AK} : isiK "list" "tuple" M Φ = Φ (.bl false) M := isi_of (by decide +kernel)
theorem isi_list_list {M : Mm} {Φ : AK} : isiK "list" "list" M Φ = Φ (.bl true) M := isi_of (by decide +kernel)
section
variable {ai : AI} {g : AG} {tb : AS} {A : AEnds} {Γ : Gm} {M : Mm}
/-- a for over known things, by a word -/
theorem aFor_map {α : Type} (xs : List α) (emb : α → D) (I : Nat → Gm → Mm → Prop) (hai : ∀ Φ' : List D → Mm → Prop, Φ' (xs.map emb) M → ai Γ M Φ') (h0 : I 0 Γ M)
    (hs : ∀ i x Γ' M', xs[i]? = some x → I i Γ' M' → ∃ Γ2, g (emb x) Γ' = some Γ2 ∧ tb { nx := I (i + 1), rt := A.rt, bk := A.nx, ct := I (i + 1) } Γ2 M')
    (hd : ∀ Γ' M', I xs.length Γ' M' → A.nx Γ' M') : aFor ai g tb A Γ M := by
  unfold aFor
  refine hai _ ⟨I, h0, fun i d Γ' M' hd hi => ?_, fun Γ' M' hi => ?_⟩
  · rw [List.getElem?_map] at hd
    cases hx : xs[i]? with
    | none =>
      rw [hx] at hd
      cases hd
    | some x =>
      rw [hx] at hd
      cases hd
      obtain ⟨Γ2, e, q⟩ := hs i x Γ' M' hx hi
      rw [e]
      exact q
  · rw [List.length_map] at hi
    exact hd Γ' M' hi
/-- over a range -/
theorem aFor_rng (lo : Int) (n : Nat) (I : Nat → Gm → Mm → Prop) (hai : ∀ Φ' : List D → Mm → Prop, Φ' (rngD lo n) M → ai Γ M Φ') (h0 : I 0 Γ M)
    (hs : ∀ (i : Nat) Γ' M', i < n → I i Γ' M' → ∃ Γ2, g (.int (lo + (i : Nat))) Γ' = some Γ2 ∧ tb { nx := I (i + 1), rt := A.rt, bk := A.nx, ct := I (i + 1) } Γ2 M')
    (hd : ∀ Γ' M', I n Γ' M' → A.nx Γ' M') : aFor ai g tb A Γ M := by
  unfold aFor
  refine hai _ ⟨I, h0, fun i d Γ' M' hd hi => ?_, fun Γ' M' hi => ?_⟩
  · obtain ⟨hlt, rfl⟩ := rngD_get hd
    obtain ⟨Γ2, e, q⟩ := hs i Γ' M' hlt hi
    rw [e]
    exact q
  · rw [rngD_len] at hi
    exact hd Γ' M' hi
end
theorem cutD_take {xs : List D} {i : Int} (h : 0 ≤ i) : cutD xs none (some i) = xs.take i.toNat := by
  obtain ⟨n, rfl⟩ := Int.eq_ofNat_of_zero_le h
  unfold cutD
  rw [HT.sIx_none, HT.sIx_nat, List.drop_zero, Nat.sub_zero, Int.toNat_natCast]
  rcases Nat.le_total n xs.length with hn | hn
  · rw [Nat.min_eq_left hn]
  · rw [Nat.min_eq_right hn, List.take_length, List.take_of_length_le hn]
theorem cutD_drop {xs : List D} {i : Int} (h : 0 ≤ i) : cutD xs (some i) none = xs.drop i.toNat := by
  obtain ⟨n, rfl⟩ := Int.eq_ofNat_of_zero_le h
  unfold cutD
  rw [HT.sIx_none, HT.sIx_nat, Int.toNat_natCast]
  rcases Nat.le_total n xs.length with hn | hn
  · rw [Nat.min_eq_left hn, List.take_of_length_le (by rw [List.length_drop]; exact Nat.le_refl _)]
  · rw [Nat.min_eq_right hn, List.drop_length, List.drop_eq_nil_of_le hn, List.take_nil]
theorem mulW_of {i j : Int} (h : i.natAbs.log2 + j.natAbs.log2 < 1000000) : MulOk i j := .inr (.inr h)
theorem divW_of {i j : Int} (h : 0 < j) (h2 : j.natAbs.log2 < 9000) : DivOk i j := ⟨h, h2⟩
section
variable {ai : AI} {g : AG} {tt : AT} {te : AE} {vs : List Nat} {Γ : Gm} {M : Mm} {Φ : AK}
theorem map_int {α : Type} (f : α → Int) (l : List α) : l.map (fun x => D.int (f x)) = (l.map f).map D.int := by
  rw [List.map_map]
  rfl
/-- comprehensions of ints -/
theorem aLc_int {α : Type} (xs : List α) (emb : α → D) (f : α → Int) (hai : ∀ Φ' : List D → Mm → Prop, Φ' (xs.map emb) M → ai Γ M Φ') (hlen : xs.length ≤ 100000)
    (h : ∀ x ∈ xs, ∀ M', ∃ Γ2, g (emb x) (wipeG Γ vs) = some Γ2 ∧ (∀ Φ' : AK, Φ' (.int (f x)) M' → te Γ2 M' Φ'))
    (k : Φ (.lst ((xs.map f).map D.int)) M) : aLc ai g aYes te vs Γ M Φ := aLc_map xs emb (fun x => .int (f x)) hai hlen h (by rw [map_int]; exact k)
theorem aLc_ifint {α : Type} (xs : List α) (emb : α → D) (p : α → Bool) (f : α → Int) (hai : ∀ Φ' : List D → Mm → Prop, Φ' (xs.map emb) M → ai Γ M Φ') (hlen : xs.length ≤ 100000)
    (h : ∀ x ∈ xs, ∀ M', ∃ Γ2, g (emb x) (wipeG Γ vs) = some Γ2 ∧ (∀ Φ' : Bool → Mm → Prop, Φ' (p x) M' → tt Γ2 M' Φ') ∧ (p x = true → ∀ Φ' : AK, Φ' (.int (f x)) M' → te Γ2 M' Φ'))
    (k : Φ (.lst (((xs.filter p).map f).map D.int)) M) : aLc ai g tt te vs Γ M Φ := aLc_pure xs emb p (fun x => .int (f x)) hai hlen h (by rw [map_int]; exact k)
theorem aLc_ifid {α : Type} (xs : List α) (emb : α → D) (p : α → Bool) (hai : ∀ Φ' : List D → Mm → Prop, Φ' (xs.map emb) M → ai Γ M Φ') (hlen : xs.length ≤ 100000)
    (h : ∀ x ∈ xs, ∀ M', ∃ Γ2, g (emb x) (wipeG Γ vs) = some Γ2 ∧ (∀ Φ' : Bool → Mm → Prop, Φ' (p x) M' → tt Γ2 M' Φ') ∧ (p x = true → ∀ Φ' : AK, Φ' (emb x) M' → te Γ2 M' Φ'))
    (k : Φ (.lst ((xs.filter p).map emb)) M) : aLc ai g tt te vs Γ M Φ := aLc_pure xs emb p emb hai hlen h k
end
/-- a check that holds, one that doesn't -/
theorem ck {p : Prop} [Decidable p] (h : p) {X Y : Prop} (y : Y) : ((!decide p) = true → X) ∧ ((!decide p) = false → Y) := ⟨fun hb => (by rw [decide_eq_true h] at hb; cases hb), fun _ => y⟩
theorem ckT {p : Prop} [Decidable p] (h : p) {X Y : Prop} (x : X) : (decide p = true → X) ∧ (decide p = false → Y) := ⟨fun _ => x, fun hb => (by rw [decide_eq_true h] at hb; cases hb)⟩
theorem ckF {p : Prop} [Decidable p] (h : ¬ p) {X Y : Prop} (y : Y) : (decide p = true → X) ∧ (decide p = false → Y) := ⟨fun hb => absurd (of_decide_eq_true hb) h, fun _ => y⟩
/-- what comes after the next (two) statements, shown once for every way there -/
theorem aSeq_tail {α : Type} {a b : AS} {A : AEnds} {Γ : Gm} {M : Mm} (Γf : α → Gm) (M0 : Mm) (h : ∀ x, b A (Γf x) M0) (k : (∀ x, b A (Γf x) M0) → aSeq a b A Γ M) : aSeq a b A Γ M := k h
theorem aSeq_tail2 {α : Type} {a c b : AS} {A : AEnds} {Γ : Gm} {M : Mm} (Γf : α → Gm) (M0 : Mm) (h : ∀ x, b A (Γf x) M0) (k : (∀ x, b A (Γf x) M0) → aSeq a (aSeq c b) A Γ M) : aSeq a (aSeq c b) A Γ M := k h
end DL

set_option Elab.async false
set_option linter.all false
set_option maxRecDepth 100000
set_option maxHeartbeats 2000000
/-! DX1: an own exception class over ValueError whose __init__ says super().__init__(at); self.at = at. -/
namespace DL
open PySem L2

/-- what such a class says -/
structure XCls (K : PySem.W.Frag) (P : Program) (C f : Addr) : Prop where
  fn : ∃ (cc cda : Addr) (qual : Str) (scope : Scope) (params : Arguments) (a0 a1 : Arg) (body : List Stmt) (doc pm ct oc : Value) (an od : Option Addr) (osl : Array (Option Value)) (ccl cl : Value) (cdd cld : Option Addr) (ccs csl : Array (Option Value)) (vs : Array Value) (file : Str) (tf : Tok) (p0 p1 p2 p3 p4 p5 p6 p7 p8 p9 q1 q2 : Pos) (pl : Addr → Sem Bool),
    K.lookup f = some ⟨oc, od, .func (PySem.W.ksFn "__init__" qual params body scope .none .none doc pm an (.ref cda) ct cc), osl⟩ ∧ PySem.W.codeIn K (.ref cda) qual = true ∧
    body = [.Expr (.Call (.Attribute (.Call (.Name "super" p0) [] [] p1) "__init__" p2) [.Name "at" p3] [] p4) p5, .Assign [.Attribute (.Name "self" p6) "at" p7] (.Name "at" p8) p9] ∧
    params = ⟨[], [⟨"self", none, q1⟩, ⟨"at", none, q2⟩], none, [], [], none, []⟩ ∧
    (∀ L : Addr, let env := callEnv (PySem.W.ksFn "__init__" qual params body scope .none .none doc pm an (.ref cda) ct cc) L f
      eval (.Call (.Attribute (.Call (.Name "super" p0) [] [] p1) "__init__" p2) [.Name "at" p3] [] p4) env = (do
        let ov ← attributeBase (.Call (.Name "super" p0) [] [] p1) "__init__" env (eval (.Call (.Name "super" p0) [] [] p1) env)
        standAt p2.atName
        let (f, first) ← holding [ov] (getMethod ov "__init__" (pl L))
        callWith p4 f first (backTo p4 (starEach [.Name "at" p3] env)) [])) ∧
    K.lookup cda = some ⟨ccl, cdd, .fields vs, ccs⟩ ∧ vs[2]? = some (.str file tf) ∧ ((P.main.file : Str) == file) = true ∧
    K.lookup cc = some ⟨cl, cld, .cell (some (.ref C)), csl⟩ ∧
    (∀ x ∈ scope.names, x.2 ≠ .cell) ∧ scope.isCoroutine = false ∧ scope.isGenerator = false ∧ scope.kind = .function ∧
    scope.names.lookup ("super" : Str) = some .globalImplicit ∧ scope.names.lookup ("__class__" : Str) = some .free ∧ scope.names.lookup ("self" : Str) = some .local ∧ scope.names.lookup ("at" : Str) = some .local
  init : PySem.W.findIn K (.ref C) "__init__" = some (some (.ref f))
  tf : PySem.W.typeIn K (.ref f) = some (.type "function")
  top : (P.main.scope.names.lookup ("super" : Str)).isSome = false
  nosup : PySem.W.nsIn K mainGlobals "super" = some none
  noany : PySem.W.nsIn K cStatics "thirdparty.any" = some none
  sup : PySem.W.ks_superIn K C C "__init__" = some (some (.builtin "ValueError.__init__"))
  sub : PySem.W.subIn K (.ref C) (.type "ValueError") = some true
  mro : PySem.W.mroIn K C (.ref C) = some true
  at_ : PySem.W.findIn K (.ref C) "at" = some none
  oex : OexC K C
  hd : PySem.W.hasDictIn K C = true
  ga : PySem.W.findIn K (.ref C) "__getattribute__" = some (some (.builtin "BaseException.__getattribute__"))
  gg : PySem.W.findIn K (.ref C) "__getattr__" = some none

section
open PySem.W PySem.Calls PyProof.Rows
variable {P : Program} {w : World} {A : Around} {R : Result → Shared → Prop} {h : Heap} {g : Array GenState} {d : Drawn} {t : Nat} {os : OsState} {K : Frag} {mg mb : Str → Option Value} {C f e t0 : Addr} {v : Value}
theorem init_run (Y : XCls K P C f) (X : K.In h) (hg : h.Ns mainGlobals mg) (hb : h.Ns builtinsNs mb) (hmg : mg "super" = none) (hmb : mb "super" = some (.type "super")) (nl : h.NoLimit) (room : A.depth < recursionLimit)
    (he : h.get? e = some (PySem.HandSPX.excO C t0)) (hne : ∀ o, K.lookup e ≠ some o)
    (hq : ∀ h' tk dx t1, (∀ b o, b ≠ e → h.get? b = some o → h'.get? b = some o) → h.objs.size ≤ dx → dx ≠ e →
      h'.get? e = some ({ cls := .ref C, dict := some dx, data := .fields #[.ref t1, .none, .none, .none, .bool false, .none] } : Obj) → h'.Ns1 dx (fun y => if y = "at" then some v else none) → R (.ok (.ret .none)) ⟨h', g, d, tk, os⟩) :
    codeAny (model P w) A (.call (.ref f) ⟨[.ref e, v], []⟩) R ⟨h, g, d, t, os⟩ := by
  obtain ⟨cc, cda, qual, scope, params, a0, a1, body, doc, pm, ct, oc, an, od, osl, ccl, cl, cdd, cld, ccs, csl, vs, file, tf, p0, p1, p2, p3, p4, p5, p6, p7, p8, p9, q1, q2, pl, lf, hcd, rfl, rfl, hev, lcda, hvs, hfile, lcc, hcell, hco, hgen, hk, hks, hkc, hself, hat⟩ := Y.fn
  obtain ⟨nm, q, N, bs, bm, sn, sub, ab, col, dd, k0, k1, k2, k3, k5, hC, hbm⟩ := Y.oex.cls
  have hcl : clsIn K C = some { name := nm, bases := bs, mro := .ref C :: bm, ns := N, qualname := q, hasDict := true, slotNames := sn, subclasses := sub, abstract := ab, collection := col, hasDel := false } := by unfold clsIn; rw [hC] <;> rfl
  refine ks_codeAny_call_defAt (fd := ksFn "__init__" qual ⟨[], [⟨"self", none, q1⟩, ⟨"at", none, q2⟩], none, [], [], none, []⟩ _ scope .none .none doc pm an (.ref cda) ct cc) (binds := [("self", .ref e), ("at", v)]) room (X _ _ lf) rfl nl (codeRec_of X hcd) rfl (.of_eq rfl) hcell
    (fun y hy => ?_) (fun h0 hns kp => ?_) hco hgen hk
  · rcases List.mem_cons.mp hy with rfl | hy
    · exact hself
    · rcases List.mem_cons.mp hy with rfl | hy
      · exact hat
      · cases hy
  have X0 : K.In h0 := X.keeps kp
  have he0 := kp _ _ he
  have hC0 := X0 _ _ hC
  refine ks_wpAt_execs_cons (ks_wpAt_Expr_any (ks_wpAt_MethodCall ?_ (hev _)) (by show (scope.kind == .module && _) = false; rw [hk]; rfl))
  refine ks_wpAt_super_base (of := ⟨oc, od, _, osl⟩) (fd := ksFn "__init__" qual ⟨[], [⟨"self", none, q1⟩, ⟨"at", none, q2⟩], none, [], [], none, []⟩ _ scope .none .none doc pm an (.ref cda) ct cc) hks hkc (by decide) rfl (X0 _ _ lf) rfl rfl rfl (X0 _ _ lcda) rfl hvs hfile Y.top ?_
  refine ks_loadName_global hk hks (loadGlobal_builtin (hg.keeps kp) hmg (hb.keeps kp) hmb ⟨rfl, ?_⟩)
  refine wpAny_loadName_free hk hkc rfl ⟨_, X0 _ _ lcc, rfl⟩ ?_
  refine wpAny_loadName_local hk hself hns rfl ?_
  refine ks_wpAny_isType_cls hC0 rfl ⟨rfl, ?_⟩
  refine ks_wpAny_call_super hC0 rfl he0 rfl (fun c z => nomatch z) (looks_mroIn X0 Y.mro) (fun h1 e1 k1 => ?_)
  have X1 : K.In h1 := X0.keeps k1
  have he1 := k1 _ _ he0
  have I1 : InstAt h1 e (PySem.HandSPX.excO C t0) C none := ⟨he1, rfl, rfl, trivial⟩
  have hsup := Y.sup
  unfold ks_superIn at hsup
  rw [hcl, Option.bind_some] at hsup
  refine kxs_getMethod kxs_ValueError e1 (looks_opaque X1 Y.noany) (l₀ := .ref C :: bm) (fun A Q E s k q => wpAny_bind ((looks_clsIn X1 hcl) A _ E s k (wpAny_pure q))) rfl X1 hsup (I1.type.andThen (looks_subIn X1 Y.sub)) (ks_ne X1 I1 hcl) (by decide) ?_
  have k2 : ∀ b o, h1.get? b = some o → (h1.push (kxs_mw "ValueError.__init__" e)).get? b = some o := fun b o z => Heap.get?_push_of_some _ z
  have hu2 : (h1.push (kxs_mw "ValueError.__init__" e)).get? h1.objs.size = some (kxs_mw "ValueError.__init__" e) := Heap.get?_push_at rfl rfl
  have X2 := X1.keeps k2
  have he2 := k2 _ _ he1
  have hns2 := hns.keeps fun b o z => k2 b o (k1 b o z)
  show wpAny _ _ (callWith p4 (.ref h1.objs.size) [] (backTo p4 (starEach [.Name "at" p3] _)) []) _ _ _
  refine kxs_callWith (i := "ValueError.__init__") (x := e) (by rfl) ?_
  refine evalArgs_plain (spliced_cons (wpAny_Name (wpAny_loadName_local hk hat hns2 rfl ?_)))
  refine spliced_nil ⟨hu2, ?_⟩
  show wpAny _ _ (call (.ref h1.objs.size) [v]) _ _ _
  refine wpAny_call (codeAny_of_tree ?_)
  show wpAny _ (Around.in1 _) (callAny (.ref h1.objs.size) ⟨[v], []⟩) _ _ _
  simp only [callAny]
  refine wpAny_bind (wpAny_load hu2 ?_)
  simp only [kxs_mw, show (Value.type "method-wrapper" == Value.type "method" || Value.type "method-wrapper" == Value.type "builtin_function_or_method" || Value.type "method-wrapper" == Value.type "method-wrapper") = true by decide, if_true]
  refine KFB.if_so (by decide) ?_
  refine wpAny_bind (check_bound_init F.excBase_ValueError.toExcCallFacts (k2 _ _ (k1 _ _ hC0)) he2 rfl ?_)
  refine wpAny_bind (wpAny_pure (wpAny_pure ?_))
  refine ⟨plainId_quiet F.excBase_ValueError.init.plain _, ?_⟩
  refine codeAny_builtin F.excBase_ValueError.initEntry ?_
  refine exc_init_tree (cls := .ref C) (t0 := t0) (dv := none) (c2 := .none) (c3 := .none) (b4 := .bool false) (rest := [v]) he2 (by rw [sizeLine_eq, List.length_singleton]; decide) (fun h3 k3 he3 _ => ?_)
  have n2 : ∀ b, h.get? b ≠ none → b ≠ h.objs.size := fun b z y => z (by rw [y]; exact Heap.get?_none_of_le (Nat.le_refl _))
  have eL : h.objs.size ≠ e := Nat.ne_of_gt (Heap.lt_size he)
  have k4 : ∀ b o, b ≠ e → h.get? b = some o → h3.get? b = some o := fun b o ne z => k3 b o ne (k2 b o (k1 b o (kp b o z)))
  have X3 : K.In h3 := fun b o z => k3 b o (fun y => hne o (by rw [← y]; exact z)) (X2 b o z)
  have hns3 : h3.Ns h.objs.size (fun x => ([("self", Value.ref e), ("at", v)] : List (Str × Value)).reverse.lookup x) := by
    obtain ⟨o, es, ep, z, r⟩ := hns2
    exact ⟨o, es, ep, k3 _ _ eL z, r⟩
  show PySem.wpAt _ _ _ (execs [_] _) _ _ _
  refine ks_wpAt_execs_cons (wpAt_of_wpAny (plainObj_wpAny_Assign_Attribute ?_))
  refine wpAny_Name (wpAny_loadName_local hk hat hns3 rfl ?_)
  refine wpAny_Name (wpAny_loadName_local hk hself hns3 rfl ?_)
  refine set_plain X3 (ox := excRec (.ref C) _ none .none .none (.bool false)) (od := none) ⟨he3, rfl, rfl, trivial⟩ Y.oex.sa ?_
  refine PySem.HandSPX.exc_osa X3 he3 hcl (show PySem.HandSPX.refsVE (.ref C :: bm) = true from hbm) rfl Y.at_ (fun h5 tk dx k5 dn dne hx hn => ?_)
  have sz : h.objs.size ≤ h3.objs.size := by
    obtain ⟨o, es, ep, z, r⟩ := hns3
    exact Nat.le_of_lt (Heap.lt_size z)
  exact wpAt_of_wpAny (wpAny_execs_nil (hq h5 _ dx _ (fun b o ne z => k5 b o ne (k4 b o ne z)) (Nat.le_trans sz dn) dne hx hn))
end
end DL

set_option Elab.async false
set_option linter.all false
set_option maxRecDepth 100000
set_option maxHeartbeats 2000000
/-! DX2: raise C(e). -/
namespace DL
open PySem L2 PyProof.Rows

def tMkS (C : Addr) (ta : TA) : L2.St → Hp → XK → Prop := fun σ H Q => ta σ H fun vs H1 => ∃ v, vs = [v] ∧ ∀ d, H1 d = none → Q (.ref C) (some d) (upd H1 d (.xd [("at", v)]))
section
variable {X : Cx} {pins : List (Addr × Obj)} {σ : L2.St} {H : Hp} {s : Shared}
theorem mk_endN {H1 H2 : Hp} {Q : XK} {hp hp2 h2 : Heap} {g1 g2 : Array GenState} {d1 d2 : Drawn} {t1 t2 : Nat} {os1 os2 : OsState} {a C d : Addr} {fs : List (Str × V)} (T : Raises X (.ref C)) (I1 : Inv X pins σ H1 ⟨hp, g1, d1, t1, os1⟩)
    (ha : hp.objs.size ≤ a) (k : ∀ b o, hp.get? b = some o → hp2.get? b = some o) (un : Un (frs X.stack) [] (upd H1 a (exo a C none)) H2 hp2 h2) (hok : HOk X.prog X.w H2 h2) (ho : os2 = os1) (hb : AllBare g2)
    (ea : H2 a = some (exo a C (some d))) (ed : H2 d = some (exd d fs)) (hd1 : H1 d = none) (q : Q (.ref C) (some d) (upd (del H2 a) d (.xd fs))) : L2N.MkP X pins σ Q (.ref a) ⟨h2, g2, d2, t2, os2⟩ := by
  obtain ⟨t0, G, J, kG, ge, hoe, na⟩ := mk_end0 (d2 := d2) (t2 := t2) I1 ha k un hok ho hb ea ed hd1
  exact ⟨a, _, _, ⟨G, g2, d2, t2, os2⟩, _, .ref C, some d, rfl, J, kG, ge, hoe, ⟨rfl, rfl, fun vs e => by cases e; rfl⟩, rfl, rfl, na, rfl, hb, T, q⟩
theorem sup_end {Q : XK} {hp hp2 h2 : Heap} {g1 : Array GenState} {d1 : Drawn} {t1 t2 t3 : Nat} {os1 : OsState} {a C dx t0 : Addr} {H1 : Hp} {v : V} {u : Value} (T : Raises X (.ref C)) (I1 : Inv X pins σ H1 ⟨hp, g1, d1, t1, os1⟩) (I2 : Inv X pins σ (upd H1 a (exo a C none)) ⟨hp2, g1, d1, t2, os1⟩)
    (ha : hp.objs.size ≤ a) (k : ∀ b o, hp.get? b = some o → hp2.get? b = some o) (dne : dx ≠ a) (hnd : H1 dx = none) (nd : ∀ {b : Addr} {o : Obj}, hp2.get? b = some o → b ≠ dx) (kp : ∀ b o, b ≠ a → hp2.get? b = some o → h2.get? b = some o)
    (hx : h2.get? a = some ({ cls := .ref C, dict := some dx, data := .fields #[.ref t0, .none, .none, .none, .bool false, .none] } : Obj)) (hn : h2.Ns1 dx (fun y => if y = "at" then some u else none)) (rv : RelV v u)
    (q : Q (.ref C) (some dx) (upd H1 dx (.xd [("at", v)]))) : L2N.MkP X pins σ Q (.ref a) ⟨h2, g1, d1, t3, os1⟩ := by
  have hna : H1 a = none := I1.hok.fresh ha
  have na : ∀ {b : Addr}, upd H1 a (exo a C none) b = none → b ≠ a := fun {b} n z => by
    rw [z, upd_same] at n
    cases n
  have e : upd H1 a (exo a C none) a = some (exo a C none) := upd_same
  have hnd' : upd H1 a (exo a C none) dx = none := by rw [upd_ne dne]; exact hnd
  have Un1 : Un (frs X.stack) [] (upd H1 a (exo a C none)) (upd (upd (upd H1 a (exo a C none)) dx (exd dx [("at", v)])) a (exo a C (some dx))) hp2 h2 := {
    keep := fun b o q n _ _ => kp b o (na n) q
    slot := fun b o q n _ _ => ⟨o.slots, kp b o (na n) q⟩
    free := fun b o q n _ => by rw [upd_ne (na n), upd_ne (nd q)]; exact n
    there := fun b o q _ => by
      by_cases hb : b = a
      · exact ⟨_, by rw [hb]; exact hx⟩
      · exact ⟨o, kp b o hb q⟩
    tups := fun b xs q => by rw [upd_ne (at_ne e q exo_tup), upd_ne (ne_of_none q hnd')]; exact q
    frzs := fun b o v q => by rw [upd_ne (at_ne e q exo_frz), upd_ne (ne_of_none q hnd')]; exact q
    tbls := fun b ps q => ⟨#[], by rw [upd_ne (at_ne e q exo_tbl), upd_ne (ne_of_none q hnd'), q]; simp⟩ }
  have hok : HOk X.prog X.w (upd (upd (upd H1 a (exo a C none)) dx (exd dx [("at", v)])) a (exo a C (some dx))) h2 := fun b o q => by
    by_cases hb : b = a
    · subst hb
      rw [upd_same] at q
      cases q
      exact exo_ok hx
    · rw [upd_ne hb] at q
      by_cases hd : b = dx
      · subst hd
        rw [upd_same] at q
        cases q
        exact exd_ok hn (relO_put (fs := []) rv fun g => True.intro)
      · rw [upd_ne hd] at q
        exact (I2.hok b o q).stay (fun c v hc z => kp c v (by
            rcases hc with hc | hc
            · rw [hc]
              exact hb
            · exact at_ne e hc exo_own) z)
          (fun c hc => by rw [upd_ne (at_ne e hc exo_own), upd_ne (ne_of_none hc hnd')]; exact hc) (fun c xs hc => by rw [upd_ne (at_ne e hc exo_tup), upd_ne (ne_of_none hc hnd')]; exact hc)
  refine mk_endN T I1 ha k Un1 hok rfl I1.bare (d := dx) (fs := [("at", v)]) upd_same (by rw [upd_ne dne, upd_same]) hnd ?_
  have eq : upd (del (upd (upd (upd H1 a (exo a C none)) dx (exd dx [("at", v)])) a (exo a C (some dx))) a) dx (.xd [("at", v)]) = upd H1 dx (.xd [("at", v)]) := by
    funext b
    by_cases hb : b = dx
    · rw [hb, upd_same, upd_same]
    · rw [upd_ne hb, upd_ne hb]
      by_cases ha : b = a
      · rw [ha, del_same, hna]
      · rw [del_ne ha, upd_ne ha, upd_ne hb, upd_ne ha]
  rw [eq]
  exact q
theorem pmk_sup {x : Str} {C fI : Addr} {k : Nat} {e : Expr} {es : List Expr} {ta : TA} {p pos : Pos} (Y : XCls X.K X.prog C fI) (hr : Room (k + 1) X.A) (hms : X.mg "super" = none) (hg : Gl X x) (hm : X.mg x = some (.ref C)) (ha : PA X (e :: es) ta)
    (hdb : (x == ("__debug__" : Str)) = false := by decide) (he : starEach (e :: es) X.env = (false, eval e X.env) :: starEach es X.env := by rfl) (hpl : (backTo pos (starEach es X.env)).any (·.1) = false := by rfl) :
    L2N.PMk X (.Call (.Name x p) (e :: es) [] pos) (tMkS C ta) := by
  intro pins s σ H Q I h
  have T := Y.oex
  obtain ⟨nm, q, N, bs, bm, sn, sub, ab, col, dd, k0, k1, k2, k3, k5, hC, hbm⟩ := T.cls
  refine wpAny_Call_Name_kw (ld_glob I hg hm ?_ hdb)
  refine PySem.W.callWith_K (h₀ := X.base) I.ok.mod.kin T.kC (thn (ha.run pos pins s σ H _ I h) fun us s1 hh => ?_) he hpl
  obtain ⟨vs, H1, I1, r1, v, ev, q1⟩ := hh
  refine ⟨I1.kIn, ?_⟩
  subst ev
  cases r1 with
  | @cons _ u _ ur rv r2 =>
  cases r2
  show wpAny _ _ (call (.ref C) [u]) _ _ _
  obtain ⟨hp, g, dr, tk, os⟩ := s1
  have hsz : hp.objs.size ≤ hp.objs.size + 1 := Nat.le_succ _
  have hn : H1 (hp.objs.size + 1) = none := I1.hok.fresh hsz
  have kk : ∀ b o, hp.get? b = some o → ((hp.push (PySem.W.kdv_tup [u])).push (PySem.HandSPX.excO C hp.objs.size)).get? b = some o := fun b o e => Heap.get?_push_of_some _ (Heap.get?_push_of_some _ e)
  have hget : ((hp.push (PySem.W.kdv_tup [u])).push (PySem.HandSPX.excO C hp.objs.size)).get? (hp.objs.size + 1) = some (PySem.HandSPX.excO C hp.objs.size) := by heap_get
  have I2 : Inv X pins σ (upd H1 (hp.objs.size + 1) (exo (hp.objs.size + 1) C none)) ⟨(hp.push (PySem.W.kdv_tup [u])).push (PySem.HandSPX.excO C hp.objs.size), g, dr, tk, os⟩ :=
    I1.laid (t' := tk) (a := hp.objs.size + 1) (o := exo (hp.objs.size + 1) C none) (h' := (hp.push (PySem.W.kdv_tup [u])).push (PySem.HandSPX.excO C hp.objs.size)) kk hsz (exo_ok hget)
  obtain ⟨mb, hb1, hb2⟩ := I2.mod.blt
  refine wpAny_call (PySem.HandSPX.call_own F.excBase_ValueError (fun Y => PySem.HandSPX.refsVE_contains Y bm hbm) (I1.kIn _ _ hC) (PySem.W.looks_findIn I1.kIn Y.init) (fun self => PySem.W.bind_fn I1.kIn self Y.tf) (by rw [sizeLine_eq, List.length_singleton]; decide)
    (init_run Y I2.kIn (I2.mod.glob.keeps I2.bk) (hb1.keeps I2.bk) hms ((hb2 "super" (by decide)).trans PyProof.Rows.Boot.«super») I2.nolimit (hr.make C [u] []).depth hget (fun o z => absurd (Heap.lt_size (I1.kIn _ _ z)) (Nat.not_lt.mpr hsz)) (fun h' tk' dx t1 kp dn dne hx hns => ?_)))
  refine ⟨rfl, ?_⟩
  have hsz2 : ((hp.push (PySem.W.kdv_tup [u])).push (PySem.HandSPX.excO C hp.objs.size)).objs.size = hp.objs.size + 2 := by simp [Heap.push]
  have hnd1 : H1 dx = none := I1.hok.fresh (show hp.objs.size ≤ dx by omega)
  have nd : ∀ {b : Addr} {o : Obj}, ((hp.push (PySem.W.kdv_tup [u])).push (PySem.HandSPX.excO C hp.objs.size)).get? b = some o → b ≠ dx := fun {b o} q => Nat.ne_of_lt (Nat.lt_of_lt_of_le (Heap.lt_size q) dn)
  exact sup_end (raises_own T.exC T.tyC) I1 I2 hsz kk dne hnd1 nd kp hx hns rv (q1 dx hnd1)
end
end DL

set_option Elab.async false
set_option linter.all false
set_option maxRecDepth 100000
set_option maxHeartbeats 2000000
/-! DX3: raise, try .. except X as e, e.at, isinstance(e, X) over data. -/
namespace DL
open PySem L2
section
variable {X : Cx} {T : Ct} {e : Expr} {pos : Pos}
def aRaise_k (C : Addr) (Ψ : AX) (Γ : Gm) (ds : List D) (M : Mm) : Prop := match ds with
  | [d] => Ψ ⟨C, d⟩ Γ M
  | _ => False
def aRaise (C : Addr) (Ψ : AX) (tr : AA) (_ : AEnds) (Γ : Gm) (M : Mm) : Prop := tr Γ M fun ds M1 => aRaise_k C Ψ Γ ds M1
theorem aRaise_1 {C : Addr} {Ψ : AX} {Γ : Gm} {d : D} {M : Mm} : aRaise_k C Ψ Γ [d] M = Ψ ⟨C, d⟩ Γ M := rfl
theorem ds_raise {x : Str} {C fI : Addr} {k : Nat} {es : List Expr} {tr : AA} {p pos' : Pos} (hc : X.calm = true) (tk : L2N.Takes X T.W) (Y : XCls X.K X.prog C fI) (hr : Room (k + 1) X.A) (hms : X.mg "super" = none) (hg : Gl X x) (hm : X.mg x = some (.ref C)) (ha : DA X T (e :: es) tr)
    (hdb : (x == ("__debug__" : Str)) = false := by decide) (he : starEach (e :: es) X.env = (false, eval e X.env) :: starEach es X.env := by rfl) (hpl : (backTo pos (starEach es X.env)).any (·.1) = false := by rfl) :
    DS X T (.Raise (some (.Call (.Name x p) (e :: es) [] pos)) none pos') (aRaise C T.Ψ tr) :=
  ds_of (L2N.ps_raise hc tk (pmk_sup Y hr hms hg hm ha hdb he hpl)) fun F σ H Γ M A D w q m => cA_mk w q fun ds M1 vs F1 H1 s1 h1 i1 q1 => by
    unfold aRaise_k at q1
    split at q1
    · rename_i d
      cases i1 with
      | @cons v _ _ _ iv it =>
        cases it
        refine ⟨v, rfl, fun dx hdx => ?_⟩
        have nf := h1.free hdx
        exact w.l ⟨C, d⟩ _ _ Γ M1 σ _ _ (s1.trans (upd_same_ext nf)) (w.v.mono (s1.trans (upd_same_ext nf))) (h1.laid hdx) ⟨rfl, dx, v, rfl, upd_same, iv.mono (upd_same_ext nf)⟩ q1
    · exact q1.elim

/-! ### try .. except x as n -/
/-- what the clause wishes of an exception of the body -/
def aCatch (K : PySem.W.Frag) (c : Value) (i : Nat) (ts : Addr → Addr → Addr → AS) (Ψ : AX) (A : AEnds) : AX := fun x Γ M => ∃ b, PySem.W.exmOne K (.ref x.C) c = some b ∧
  (b = true → ∀ a dd, ts a dd x.C { nx := fun Γ' M' => A.nx (Γ'.set i none) M', rt := A.rt, bk := fun Γ' M' => A.bk (Γ'.set i none) M', ct := fun Γ' M' => A.ct (Γ'.set i none) M' } (Γ.set i (some (.xc a dd x.C x.x))) M) ∧ (b = false → Ψ x Γ M)
def aTry (K : PySem.W.Frag) (c : Value) (i : Nat) (tb : AX → AS) (ts : Addr → Addr → Addr → AS) (Ψ : AX) (A : AEnds) (Γ : Gm) (M : Mm) : Prop := tb (aCatch K c i ts Ψ A) A Γ M
/-- the hidden part of a suite -/
abbrev Ct.no (T : Ct) : Ct := Ct.calm T.B
theorem ds_try {x n : Str} {c : Value} {i : Nat} {body suite : List Stmt} {b₀ : Stmt} {np pos pos' : Pos} {tb : AX → AS} {ts : Addr → Addr → Addr → AS} (hs : X.stack = X.env :: X.outer) (hf : X.env.frame = some X.env.locals) (hN : X.N.Nodup) (hi : X.N[i]? = some n) (hln : X.env.kindOf n = some .local) (hc : Names X x c) (tk : L2N.Takes X T.W)
    (hb : ∀ (W : WX) (Ψ : AX) (pn : List (Addr × Obj)) (xe : Value → Shared → Prop), L2N.Takes (X.tr pn xe) W → DSs (X.tr pn xe) ⟨T.B, W, Ψ⟩ body (tb Ψ))
    (hsu : ∀ (a dd C : Addr) (oe : Obj) (pn : List (Addr × Obj)), L2N.Zn (.ref C) (some dd) oe → (∃ vs, oe.data = .fields vs) → DSs (X.suite a ((a, oe) :: pn)) T.no (b₀ :: suite) (ts a dd C)) :
    DS X T (.Try body [.ExceptHandler (some (.Name x np)) (some n) (b₀ :: suite) pos'] [] [] pos) (aTry X.K c i tb ts T.Ψ) := by
  have hp := L2N.ps_try_as (body := body) (pos := pos) (np := np) (pos' := pos') (tb := fun W D σ H => ∃ Ψ : AX, cS X.K ⟨T.B, W, Ψ⟩ (tb Ψ) D σ H) (ts := fun a cls d D σ H => ∃ C dd : Addr, cls = .ref C ∧ d = some dd ∧ cS X.K T.no (ts a dd C) D σ H) hs hf hN hi hln hc tk
    (fun W pn xe tk' _ => ⟨fun pins s σ H D I ⟨Ψ, h⟩ => (hb W Ψ pn xe tk').run pins s σ H D I h⟩)
    (fun a oe cls d pn hz hv => ⟨fun pins s σ H D I ⟨C, dd, e1, e2, h⟩ => by
      subst e1 e2
      exact (hsu a dd C oe pn hz hv).run pins s σ H D I h⟩)
  refine ds_of hp fun F σ H Γ M A D w q m => ⟨_, cS_mk (T := ⟨T.B, _, aCatch X.K c i ts T.Ψ A⟩) ⟨w.v, w.h, fun y cls d Γ' M' σ' F' H' s v h xi hc => ?_⟩ q ⟨m.nx, m.rt, m.bk, m.ct⟩⟩
  obtain ⟨b, e1, e2, e3⟩ := hc
  obtain ⟨rfl, dd, v0, rfl, hF, hI⟩ := xi
  refine ⟨b, e1, fun hb a ha => ⟨y.C, dd, rfl, rfl, cS_mk (T := T.no) ⟨v.set (.xc hF hI) i, h, lk_calm⟩ (e2 hb a dd) ⟨fun Γ2 M2 σ2 F2 H2 s2 v2 h2 q2 => m.nx _ _ _ _ _ (s.trans s2) (v2.gone i) h2 q2, fun d2 M2 v2 F2 H2 s2 h2 i2 q2 => m.rt _ _ _ _ _ (s.trans s2) h2 i2 q2,
    fun Γ2 M2 σ2 F2 H2 s2 v2 h2 q2 => m.bk _ _ _ _ _ (s.trans s2) (v2.gone i) h2 q2, fun Γ2 M2 σ2 F2 H2 s2 v2 h2 q2 => m.ct _ _ _ _ _ (s.trans s2) (v2.gone i) h2 q2⟩⟩, fun hb => w.l y _ _ Γ' M' σ' F' H' s v h ⟨rfl, dd, v0, rfl, hF, hI⟩ (e3 hb)⟩
/-- e.at -/
def aXat_k (a dd C : Addr) (Φ : AK) (d : D) (M : Mm) : Prop := match d with
  | .xc a' dd' C' x => (a' = a ∧ dd' = dd ∧ C' = C) ∧ Φ x M
  | _ => False
def aXat (K : PySem.W.Frag) (a dd C : Addr) (ta : AE) (Γ : Gm) (M : Mm) (Φ : AK) : Prop := (XfC K C ∧ PySem.W.findIn K (.ref C) "at" = some none) ∧ ta Γ M fun d M1 => aXat_k a dd C Φ d M1
theorem aXat_x {a dd C a' dd' C' : Addr} {Φ : AK} {x : D} {M : Mm} : aXat_k a dd C Φ (.xc a' dd' C' x) M = ((a' = a ∧ dd' = dd ∧ C' = C) ∧ Φ x M) := rfl
theorem de_xat {a dd C : Addr} {oe : Obj} {pn : List (Addr × Obj)} {B : Bx} {ta : AE} (hz : L2N.Zn (.ref C) (some dd) oe) (hf : ∃ vs, oe.data = .fields vs) (ha : DE (X.suite a ((a, oe) :: pn)) (Ct.calm B) e ta) (hb : attributeBase e "at" X.env (eval e X.env) = eval e X.env := by rfl) :
    DE (X.suite a ((a, oe) :: pn)) (Ct.calm B) (.Attribute e "at" pos) (aXat X.K a dd C ta) :=
  ⟨fun pins s σ H Q I ⟨F, Γ, M, Φ, w, ⟨hT, q⟩, z⟩ => by
    refine (pe_xf (cls := .ref C) (d := some dd) hT.1 hT.2 hz.zc hf ha hb).run pins s σ H Q I (cE_mk w q fun d M1 x F1 H1 s1 h1 i1 q1 => ?_)
    unfold aXat_k at q1
    split at q1
    · obtain ⟨⟨rfl, rfl, rfl⟩, q1⟩ := q1
      cases i1 with
      | @xc _ _ _ v _ hF hI =>
        exact ⟨rfl, rfl, _, _, v, rfl, h1.sub _ _ hF, rfl, z _ _ _ _ _ s1 h1 hI q1⟩
    · exact q1.elim⟩
end
end DL

set_option Elab.async false
set_option linter.all false
set_option maxRecDepth 100000
set_option maxHeartbeats 4000000
/-! DX4: isinstance of a caught error that has a dict. -/
namespace DL
open PySem L2
section
open PySem.W PySem.Calls PyProof.Rows
variable {prog : Program} {w : World} {A : Around} {E : Value → Shared → Prop} {s : Shared} {K : Frag} {x D : Addr} {ox : Obj} {odx : Option Obj}
theorem findData {C : Addr} {name : Str} {a g : Value} {od : Option Obj} (hc : (clsIn K C).isSome = true) (ha : findIn K (.ref C) name = some (some a)) (hg : specialIn K a "__get__" = some (some g)) (ht : takesIn K a = some true) : findObj K C od name = some (.bind g a) := by
  obtain ⟨cd, hc⟩ := Option.isSome_iff_exists.mp hc
  unfold findObj
  rw [hc, Option.bind_some, ha, Option.bind_some]
  simp [hg, ht]
theorem class_of (Z : ExcC K D) {Q : Option Value → Shared → Prop} (X : K.In s.heap) (I : InstAt s.heap x ox D odx) (h : Q (some (.ref D)) { s with toks := s.toks + 1 }) : wpAny (model prog w) A (getAttr? (.ref x) "__class__") Q E s := by
  have hf : findObj K D odx "__class__" = some (.bind (.builtin "getset_descriptor.__get__") (.builtin "object.__class__")) := findData (by obtain ⟨cd, hc, _⟩ := any_some Z.hd; rw [hc]; rfl) Z.ha Z.hn Z.ht
  obtain ⟨hp, g, d, t, os⟩ := s
  have Lt := I.type (M := model prog w)
  have Lg := looks_findIn (M := model prog w) X Z.hg
  have Lk := looks_findIn (M := model prog w) X Z.hk
  have Lf := looks_find (M := model prog w) X I hf
  have Ls : Looks (model prog w) hp (isInstance (.ref x) (.type "BaseException")) true := Lt.andThen (looks_subIn X Z.hs)
  have n0 : (false && onTheHeap (Value.builtin "BaseException.__getattribute__")) = false := rfl
  have n2 : (Value.builtin "BaseException.__getattribute__" == Value.builtin "object.__getattribute__") = false := by decide +kernel
  have n1 : (onTheHeap (Value.ref D) && Value.builtin "BaseException.__getattribute__" == Value.builtin "object.__getattribute__") = false := by rw [n2]; rfl
  unfold getAttr? getAttrBy? getAttrBy
  refine wpAny_bind (wpAny_mkText (wpAny_bind (wpAny_attempt (wpAny_holding (wpAny_bind (Lt.at (wpAny_bind (Lg.at ?_))))))))
  show wpAny _ _ (if (onTheHeap (Value.ref D) && Value.builtin "BaseException.__getattribute__" == Value.builtin "object.__getattribute__") = true then _ else _) _ _ _
  rw [n1, if_neg Bool.false_ne_true]
  unfold getAttrByItsOwn hookBefore
  refine wpAny_bind ?_
  rw [if_pos (show onTheHeap (Value.ref D) = true from rfl)]
  refine Lk.at (wpAny_bind (wpAny_attempt (wpAny_holding ?_)))
  unfold callGetattribute
  rw [n0, if_neg Bool.false_ne_true]
  unfold boundAndCalled
  rw [PySem.F.excAttr_ValueError.ga.bind (.ref x)]
  refine wpAny_bind (wpAny_pure ?_)
  show wpAny _ _ (call (.builtin "BaseException.__getattribute__") [.ref x, .str "__class__" t]) _ _ _
  refine wpAny_call (codeAny_call_builtin PySem.F.excAttr_ValueError.ga.plain PySem.F.entry_bexc_ga ?_)
  refine @check_slot (model prog w) _ _ ⟨hp, g, d, t + 1, os⟩ "BaseException.__getattribute__" "BaseException" "__getattribute__" (.ref x) [.str "__class__" t] [] _ (by decide +kernel) (by decide +kernel) Ls (PySem.F.args_bexc_ga (.ref x) (.str "__class__" t)) ?_
  unfold Builtin.«object.__getattribute__»
  refine wpAny_bind (wpAny_of_eq (a := ((Value.ref x : Value), [Value.str "__class__" t])) (by first | rfl | (simp only [slotArgs]; rfl)) ?_)
  refine wpAny_bind (wpAny_pure (wpAny_bind (Lt.at (wpAny_bind (Lf.at ?_)))))
  show wpAny _ _ (holding [Value.builtin "object.__class__"] (call (.builtin "getset_descriptor.__get__") [.builtin "object.__class__", .ref x, .ref D]) >>= ret) _ _ _
  refine wpAny_bind (wpAny_holding (wpAny_call (class_get (s := ⟨hp, g, d, t + 1, os⟩) (ox := ox) (od := odx) X I Z.hm (wpAny_pure ?_))))
  show wpAny _ _ (handedOut (.ref D)) _ _ _
  rw [handedOut_of (v := .ref D) rfl]
  first
    | exact wpAny_pure (wpAny_pure h)
    | exact wpAny_pure h
    | exact wpAny_pure (wpAny_bind (wpAny_pure (wpAny_pure h)))
theorem kit_exc (Z : ExcC K D) : KitX K (.ref x) (.ref D) (fun h => ∃ odx, InstAt h x ox D odx) where
  ty := fun _ _ _ ⟨_, I⟩ => I.type
  it := fun _ _ X _ => by
    obtain ⟨cdD, hcD, _⟩ := any_some Z.hd
    unfold clsIn at hcD
    split at hcD
    · rename_i c' d' cd' sl' ho
      intro A' Q' E' s' k q
      unfold isType loadHead
      exact wpAny_bind (wpAny_loadPart (k _ _ (X _ _ ho)) (wpAny_pure q))
    · cases hcD
  ne := fun h tp dd its n sl X htp => by
    obtain ⟨cdD, hcD, _⟩ := any_some Z.hd
    refine Bool.eq_false_iff.mpr fun q => ?_
    have e : D = tp := Value.ref.inj (beq_iff_eq.mp q)
    subst e
    unfold clsIn at hcD
    split at hcD
    · rename_i c' d' cd' sl' ho
      have z := (X _ _ ho).symm.trans htp
      cases z
    · cases hcD
  ca := fun X ⟨_, I⟩ k => class_of Z X I k
end
/-- isinstance(e, c), e the exception that the suite holds, c one class -/
def rIsX (K : PySem.W.Frag) (D a dd : Addr) : List V → Hp → VK → Prop := fun xs H Q => ∃ (c : V) (cv : Value) (b : Bool) (fs : List (Str × V)), xs = [.ref a, c] ∧ (∀ u, RelV c u → u = cv) ∧ PySem.W.kitOne K (.ref D) cv = some b ∧ H dd = some (.xd fs) ∧ Q (.bl b) H
theorem call_isX {X : Cx} {a D dd : Addr} {oe : Obj} {pn : List (Addr × Obj)} (C : ExcC X.K D) (hz : L2N.Zn (.ref D) (some dd) oe) (hf : ∃ vs, oe.data = .fields vs) : CallR (X.suite a ((a, oe) :: pn)) (.builtin "isinstance") (rIsX X.K D a dd) := by
  intro pins s σ H xs us Q I r h
  obtain ⟨c, cv, b, fs, rfl, hcv, e, hdd, q⟩ := h
  cases r with
  | cons rx rr =>
    cases rr with
    | cons rt rr =>
      cases rr
      cases rx
      have ec := hcv _ rt
      subst ec
      obtain ⟨hget, _⟩ := I.pin (a, oe) (List.mem_append.mpr (.inl List.mem_cons_self))
      obtain ⟨vs, hv⟩ := hf
      have hx : ObjOk X.prog X.w H s.heap dd (.xd fs) := I.hok dd _ hdd
      obtain ⟨mA, hns, _⟩ := hx
      obtain ⟨od, es, ep, ho, hl⟩ := hns
      have J : PySem.W.InstAt s.heap a oe D (some od) := by
        obtain ⟨oc, oda, odt, osl⟩ := oe
        obtain ⟨h1, h2, _⟩ := hz
        dsimp only at h1 h2 hv
        subst h1 h2 hv
        exact ⟨hget, rfl, rfl, ho⟩
      exact PySem.W.kia_one (kit_exc C) I.kIn ⟨_, J⟩ e (fun z => nomatch z) fun tk => ⟨.bl b, H, I.kept (t' := tk) fun _ _ z => z, rfl, q⟩
/-- over data: c a class of the program -/
def aIsX_k (K : PySem.W.Frag) (a dd C C2 : Addr) (Φ : AK) (d : DL.D) (M : Mm) : Prop := match d with
  | .xc a' dd' C' _ => (a' = a ∧ dd' = dd ∧ C' = C) ∧ ∃ b, PySem.W.kitOne K (.ref C) (.ref C2) = some b ∧ Φ (.bl b) M
  | _ => False
def aIsX (K : PySem.W.Frag) (a dd C C2 : Addr) (ta : AE) (Γ : Gm) (M : Mm) (Φ : AK) : Prop := ExcC K C ∧ ta Γ M fun d M1 => aIsX_k K a dd C C2 Φ d M1
theorem aIsX_x {K : PySem.W.Frag} {a dd C C2 a' dd' C' : Addr} {Φ : AK} {x : DL.D} {M : Mm} : aIsX_k K a dd C C2 Φ (.xc a' dd' C' x) M = ((a' = a ∧ dd' = dd ∧ C' = C) ∧ ∃ b, PySem.W.kitOne K (.ref C) (.ref C2) = some b ∧ Φ (.bl b) M) := rfl
theorem de_isX {X : Cx} {a dd C C2 : Addr} {oe : Obj} {pn : List (Addr × Obj)} {B : Bx} {x : Str} {e : Expr} {ta : AE} {p p' pos : Pos} (hz : L2N.Zn (.ref C) (some dd) oe) (hf : ∃ vs, oe.data = .fields vs) (hg : Gl X "isinstance") (hm : X.mg "isinstance" = none) (hg2 : Gl X x) (hm2 : X.mg x = some (.ref C2)) (ha : DE (X.suite a ((a, oe) :: pn)) (Ct.calm B) e ta)
    (hd : (x == ("__debug__" : Str)) = false := by decide) (hs : starEach [e, .Name x p'] X.env = (false, eval e X.env) :: starEach [.Name x p'] X.env := by rfl)
    (hs2 : starEach [.Name x p'] X.env = (false, eval (.Name x p') X.env) :: starEach [] X.env := by rfl) (hpl : (backTo pos (starEach [.Name x p'] X.env)).any (·.1) = false := by rfl) :
    DE (X.suite a ((a, oe) :: pn)) (Ct.calm B) (.Call (.Name "isinstance" p) [e, .Name x p'] [] pos) (aIsX X.K a dd C C2 ta) :=
  ⟨fun pins s σ H Q I ⟨F, Γ, M, Φ, w, ⟨hT, q⟩, z⟩ => by
    refine (pe_callB (X := X.suite a ((a, oe) :: pn)) (call_isX hT hz hf) hg hm PyProof.Rows.boot_isinstance (pa_cons ha (pa_cons (pe_glob (X := X.suite a ((a, oe) :: pn)) hg2 hm2 (v := .ref C2) rfl hd) pa_nil hs2) hs) (by decide) (by decide) hs hpl).run pins s σ H Q I (cE_mk w q fun d M1 v F1 H1 s1 h1 i1 q1 => ?_)
    unfold aIsX_k at q1
    split at q1
    · obtain ⟨⟨rfl, rfl, rfl⟩, b, hb, q1⟩ := q1
      cases i1 with
      | @xc _ _ _ v _ hF hI =>
        exact ⟨.ref C2, .ref C2, b, _, rfl, fun u r => r, hb, h1.sub _ _ hF, z _ _ _ _ _ s1 h1 (.bl b) q1⟩
    · exact q1.elim⟩
end DL

set_option Elab.async false
set_option linter.all false
set_option maxRecDepth 100000
set_option maxHeartbeats 2000000
/-! DC1: instances of own classes over data. -/
namespace DL
open PySem L2
section
variable {X : Cx} {CX : CXT} {k : Nat} {f C : Addr} {fd : FuncData} {ps : List Str} {sp : Sp} {dvs : List V} {ds : List Value} {E : L2.St → XK} {p pos : Pos} {e : Expr} {es : List Expr} {t : TA}
theorem run_makeS {pins : List (Addr × Obj)} {σ : L2.St} {H : Hp} {s : Shared} {Q : VK} {us : List Value} {vs : List V} (M : Mk X.K C f) (F : FnOk X.prog X.w X.K X.mg X.base CX k f fd ps sp) (hr : Room (k + 1) X.A) (hb : Binds X.K fd ps ds) (hd : Vals dvs ds)
    (hx : PassesAt CX X σ (E σ)) (I : Inv X pins σ H s) (r : Vals vs us)
    (h : ∀ x dx, H x = none → H dx = none → dx ≠ x → sp (.ref x :: (vs ++ dvs)) (upd (upd H dx (.own x)) x (.ins C dx [])) (fun v H2 => v = .non ∧ Q (.ref x) H2) (E σ)) :
    wpAny (model X.prog X.w) X.A (call (.ref C) us) (EP X pins σ Q) X.xe s := by
  have hq := h (s.heap.objs.size + 1) s.heap.objs.size (I.hok.fresh (Nat.le_succ _)) (I.hok.fresh (Nat.le_refl _)) (Nat.ne_of_lt (Nat.lt_succ_self _))
  have J := Inv.made (C := C) I
  have rr : Vals (V.ref (s.heap.objs.size + 1) :: (vs ++ dvs)) (Value.ref (s.heap.objs.size + 1) :: (us ++ ds)) := .cons rfl (r.append hd)
  have hl : (Value.ref (s.heap.objs.size + 1) :: us ++ ds).length = ps.length := by
    have z := rr.length
    rw [F.len _ _ _ _ hq] at z
    exact z.symm
  refine wpAny_call (make_map (f := f) I.kIn M.makes M.init (beq_iff_eq.mp M.fn) (codeAny_mono (F.run _ X.stack _ _ ⟨Value.ref (s.heap.objs.size + 1) :: us, []⟩ (Value.ref (s.heap.objs.size + 1) :: (us ++ ds)) _ _ (E σ) (hr.make C us []) (J.env0.make C us []) (hb _ (Value.ref (s.heap.objs.size + 1) :: us) J.kIn hl) rr hq) fun r s' hq' => ?_))
  cases r with
  | error er => exact hx pins _ _ er s' J hq'
  | ok fl =>
    cases fl with
    | ret u =>
      obtain ⟨v, H', J2, rv, ev, q3⟩ := J.after hq'
      subst ev
      exact ⟨rv, ⟨V.ref (s.heap.objs.size + 1), H', J2, rfl, q3⟩⟩
    | next => exact False.elim hq'
    | brk => exact False.elim hq'
    | cont => exact False.elim hq'
def tMakeS (C : Addr) (sp : Sp) (dvs : List V) (E : L2.St → XK) (t : TA) : TE := fun σ H Q => t σ H fun vs H1 => ∀ x dx, H1 x = none → H1 dx = none → dx ≠ x → sp (.ref x :: (vs ++ dvs)) (upd (upd H1 dx (.own x)) x (.ins C dx [])) (fun v H2 => v = .non ∧ Q (.ref x) H2) (E σ)
theorem pe_makeS {x : Str} (M : Mk X.K C f) (F : FnOk X.prog X.w X.K X.mg X.base CX k f fd ps sp) (hr : Room (k + 1) X.A) (hg : Gl X x) (hm : X.mg x = some (.ref C)) (hb : Binds X.K fd ps ds) (hd : Vals dvs ds) (hx : ∀ σ, PassesAt CX X σ (E σ))
    (ha : PA X (e :: es) t) (hdb : (x == ("__debug__" : Str)) = false := by decide) (he : starEach (e :: es) X.env = (false, eval e X.env) :: starEach es X.env := by rfl) (hpl : (backTo pos (starEach es X.env)).any (·.1) = false := by rfl) :
    PE X (.Call (.Name x p) (e :: es) [] pos) (tMakeS C sp dvs E t) :=
  ⟨fun pins s σ H Q I h => wpAny_Call_Name_kw (ld_glob I hg hm (PySem.W.callWith_K (h₀ := X.base) I.ok.mod.kin M.kp (thn (ha.run pos pins s σ H _ I h) fun us s1 hh => by
    obtain ⟨vs, H1, I1, r, q⟩ := hh
    exact ⟨I1.kIn, run_makeS M F hr hb hd (hx σ) I1 r q⟩) he hpl) hdb)⟩
end
section
variable {X : Cx} {T : Ct} {e o : Expr} {pos p : Pos} {es : List Expr} {tr : AA} {ta to tv : AE}
/-- a new instance, to be left as it is -/
def aMake (C : Addr) (asp : ASp) (dds : List D) (Ψ : AX) (tr : AA) (Γ : Gm) (M : Mm) (Φ : AK) : Prop := tr Γ M fun ds M1 => ∀ x, asp (.ref x :: (ds ++ dds)) ((x, .ins C [] []) :: M1) (fun d M2 => d = .non ∧ ∃ ns xs M3, Dl M2 x (.ins C ns xs) M3 ∧ Φ (.ins C ns xs) M3) (fun y M2 => Ψ y Γ M2)
/-- one that may change -/
def aMakeM (C : Addr) (asp : ASp) (dds : List D) (Ψ : AX) (tr : AA) (Γ : Gm) (M : Mm) (Φ : AK) : Prop := tr Γ M fun ds M1 => ∀ x, asp (.ref x :: (ds ++ dds)) ((x, .ins C [] []) :: M1) (fun d M2 => d = .non ∧ Φ (.ref x) M2) (fun y M2 => Ψ y Γ M2)
theorem hs_made {K : PySem.W.Frag} {B : Bx} {M : Mm} {F H : Hp} {C x dx : Addr} (h : Hs K B M F H) (hx : H x = none) (hd : H dx = none) (ne : dx ≠ x) : Hs K B ((x, .ins C [] []) :: M) F (upd (upd H dx (.own x)) x (.ins C dx [])) :=
  (h.over hd).newM (by rw [upd_ne (Ne.symm ne)]; exact hx) ⟨dx, [], upd_same, rfl, .nil⟩
theorem de_makeM {x : Str} {k : Nat} {C f : Addr} {fd : FuncData} {ps : List Str} {asp : ASp} {dds : List D} {dvs : List V} {dvals : List Value} (Mc : Mk X.K C f) (G : FnOk X.prog X.w X.K X.mg X.base (L2N.CX X.prog X.w) k f fd ps (conc X.K T.B asp)) (hr : Room (k + 1) X.A) (hg : Gl X x) (hm : X.mg x = some (.ref C))
    (hb : Binds X.K fd ps dvals) (hd : Vals dvs dvals) (hi : ∀ F, IsL X.K F dvs dds) (tk : L2N.Takes X T.W) (ha : DA X T (e :: es) tr)
    (hdb : (x == ("__debug__" : Str)) = false := by decide) (he : starEach (e :: es) X.env = (false, eval e X.env) :: starEach es X.env := by rfl) (hpl : (backTo pos (starEach es X.env)).any (·.1) = false := by rfl) :
    DE X T (.Call (.Name x p) (e :: es) [] pos) (aMakeM C asp dds T.Ψ tr) :=
  de_of (pe_makeS Mc G hr hg hm hb hd (fun σ => L2N.passAt tk σ) ha hdb he hpl) fun F σ H Γ M Φ Q w q z => cA_mk w q fun ds M1 vs F1 H1 s1 h1 i1 q1 => fun x dx n1 n2 ne =>
    ⟨.ref x :: (ds ++ dds), F1, (x, .ins C [] []) :: M1, _, fun y M2 => T.Ψ y Γ M2, .cons (.ref x) (i1.append (hi F1)), hs_made h1 n1 n2 ne, q1 x, fun d M2 v F2 H2 s2 h2 i2 q2 => by
      obtain ⟨rfl, q2⟩ := q2
      cases i2
      exact ⟨rfl, z _ M2 _ F2 H2 (s1.trans s2) h2 (.ref x) q2⟩, fun y cls d M2 F2 H2 s2 h2 xi q2 => w.l y cls d Γ M2 σ F2 H2 (s1.trans s2) (w.v.mono (s1.trans s2)) h2 xi q2⟩
theorem de_make {x : Str} {k : Nat} {C f : Addr} {fd : FuncData} {ps : List Str} {asp : ASp} {dds : List D} {dvs : List V} {dvals : List Value} (Mc : Mk X.K C f) (G : FnOk X.prog X.w X.K X.mg X.base (L2N.CX X.prog X.w) k f fd ps (conc X.K T.B asp)) (hr : Room (k + 1) X.A) (hg : Gl X x) (hm : X.mg x = some (.ref C))
    (hb : Binds X.K fd ps dvals) (hd : Vals dvs dvals) (hi : ∀ F, IsL X.K F dvs dds) (tk : L2N.Takes X T.W) (ha : DA X T (e :: es) tr)
    (hdb : (x == ("__debug__" : Str)) = false := by decide) (he : starEach (e :: es) X.env = (false, eval e X.env) :: starEach es X.env := by rfl) (hpl : (backTo pos (starEach es X.env)).any (·.1) = false := by rfl) :
    DE X T (.Call (.Name x p) (e :: es) [] pos) (aMake C asp dds T.Ψ tr) :=
  de_of (pe_makeS Mc G hr hg hm hb hd (fun σ => L2N.passAt tk σ) ha hdb he hpl) fun F σ H Γ M Φ Q w q z => cA_mk w q fun ds M1 vs F1 H1 s1 h1 i1 q1 => fun x dx n1 n2 ne =>
    ⟨.ref x :: (ds ++ dds), F1, (x, .ins C [] []) :: M1, _, fun y M2 => T.Ψ y Γ M2, .cons (.ref x) (i1.append (hi F1)), hs_made h1 n1 n2 ne, q1 x, fun d M2 v F2 H2 s2 h2 i2 q2 => by
      obtain ⟨rfl, ns, xs, M3, dl, q2⟩ := q2
      cases i2
      obtain ⟨F3, s3, h3, i3⟩ := h2.freezeI dl
      exact ⟨rfl, z _ M3 _ F3 H2 ((s1.trans s2).trans s3) h3 i3 q2⟩, fun y cls d M2 F2 H2 s2 h2 xi q2 => w.l y cls d Γ M2 σ F2 H2 (s1.trans s2) (w.v.mono (s1.trans s2)) h2 xi q2⟩
/-- the field f -/
def fld (f : Str) : List Str → List D → Option D
  | n :: ns, x :: xs => if f = n then some x else fld f ns xs
  | _, _ => none
def putN (f : Str) : List Str → List Str
  | [] => [f]
  | n :: ns => if n = f then n :: ns else n :: putN f ns
def putX (f : Str) (y : D) : List Str → List D → List D
  | n :: ns, x :: xs => if n = f then y :: xs else x :: putX f y ns xs
  | _, _ => [y]
theorem fld_of {K : PySem.W.Frag} {F : Hp} {f : Str} {d : D} : ∀ {fs : List (Str × V)} {xs : List D}, IsL K F (fs.map (·.2)) xs → fld f (fs.map (·.1)) xs = some d → ∃ v, fs.lookup f = some v ∧ Is K F v d
  | [], _, h, e => by cases e
  | (n, v) :: fs, _, .cons i l, e => by
    unfold fld at e
    rw [List.map_cons] at e
    by_cases h : f = n
    · subst h
      simp at e
      subst e
      exact ⟨v, by simp [List.lookup], i⟩
    · simp only [if_neg h] at e
      obtain ⟨u, h1, h2⟩ := fld_of l e
      exact ⟨u, by simp [List.lookup, beq_false_of_ne h, h1], h2⟩
theorem put_names (f : Str) (y : V) : ∀ fs : List (Str × V), (putF f y fs).map (·.1) = putN f (fs.map (·.1))
  | [] => rfl
  | (n, v) :: fs => by
    unfold putF putN
    rw [List.map_cons]
    by_cases h : n = f
    · simp only [if_pos h, List.map_cons]
    · simp only [if_neg h, List.map_cons, put_names f y fs]
theorem put_vals {K : PySem.W.Frag} {F : Hp} {f : Str} {y : V} {d : D} (i : Is K F y d) : ∀ {fs : List (Str × V)} {xs : List D}, IsL K F (fs.map (·.2)) xs → IsL K F ((putF f y fs).map (·.2)) (putX f d (fs.map (·.1)) xs)
  | [], _, .nil => .cons i .nil
  | (n, v) :: fs, _, .cons j l => by
    unfold putF putX
    rw [List.map_cons]
    by_cases h : n = f
    · simp only [if_pos h, List.map_cons]
      exact .cons i l
    · simp only [if_neg h, List.map_cons]
      exact .cons j (put_vals i l)
def aFld_k (K : PySem.W.Frag) (f : Str) (Φ : AK) (d : D) (M : Mm) : Prop := match d with
  | .ins C ns xs => (Cls K C ∧ NoAttr K C f) ∧ onD (fld f ns xs) fun x => Φ x M
  | .ref a => ∃ C ns xs, (a, MO.ins C ns xs) ∈ M ∧ (Cls K C ∧ NoAttr K C f) ∧ onD (fld f ns xs) fun x => Φ x M
  | _ => False
def aFld (K : PySem.W.Frag) (f : Str) (ta : AE) (Γ : Gm) (M : Mm) (Φ : AK) : Prop := ta Γ M fun d M1 => aFld_k K f Φ d M1
theorem aFld_i {K : PySem.W.Frag} {f : Str} {Φ : AK} {C : Addr} {ns : List Str} {xs : List D} {M : Mm} : aFld_k K f Φ (.ins C ns xs) M = ((Cls K C ∧ NoAttr K C f) ∧ onD (fld f ns xs) fun x => Φ x M) := rfl
theorem aFld_r {K : PySem.W.Frag} {f : Str} {Φ : AK} {a : Addr} {M : Mm} : aFld_k K f Φ (.ref a) M = ∃ C ns xs, (a, MO.ins C ns xs) ∈ M ∧ (Cls K C ∧ NoAttr K C f) ∧ onD (fld f ns xs) fun x => Φ x M := rfl
theorem de_fld {f : Str} (he : DE X T e ta) (hb : attributeBase e f X.env (eval e X.env) = eval e X.env := by rfl) : DE X T (.Attribute e f pos) (aFld X.K f ta) :=
  de_of (pe_fld he hb) fun F σ H Γ M Φ Q w q z => cE_mk w q fun d M1 v F1 H1 s1 h1 i1 q1 => by
    unfold aFld_k at q1
    split at q1
    · rename_i C ns xs
      obtain ⟨⟨c1, c2⟩, q1⟩ := q1
      cases i1 with
      | @ins a _ dx fs _ hF hl =>
        cases e1 : fld f (fs.map (·.1)) xs with
        | none =>
          rw [e1] at q1
          exact q1.elim
        | some d =>
          rw [e1] at q1
          obtain ⟨v, h2, h3⟩ := fld_of hl e1
          exact ⟨a, C, dx, fs, v, rfl, h1.sub _ _ hF, c1, c2, h2, z _ _ _ _ _ s1 h1 h3 q1⟩
    · rename_i a
      obtain ⟨C, ns, xs, hm, ⟨c1, c2⟩, q1⟩ := q1
      cases i1
      obtain ⟨_, _, dx, fs, e2, rfl, hl⟩ := h1.mem _ hm
      cases e1 : fld f (fs.map (·.1)) xs with
      | none =>
        rw [e1] at q1
        exact q1.elim
      | some d =>
        rw [e1] at q1
        obtain ⟨v, h2, h3⟩ := fld_of hl e1
        exact ⟨a, C, dx, fs, v, rfl, e2, c1, c2, h2, z _ _ _ _ _ s1 h1 h3 q1⟩
    · exact q1.elim
def aFldS_k (K : PySem.W.Frag) (f : Str) (y : D) (A : AEnds) (Γ : Gm) (d : D) (M : Mm) : Prop := match d with
  | .ref a => ∃ C ns xs M3, Up M a (.ins C ns xs) (.ins C (putN f ns) (putX f y ns xs)) M3 ∧ (Cls K C ∧ NoAttr K C f) ∧ ns.length < 1000 ∧ A.nx Γ M3
  | _ => False
def aFldS (K : PySem.W.Frag) (f : Str) (to tv : AE) (A : AEnds) (Γ : Gm) (M : Mm) : Prop := tv Γ M fun y M1 => to Γ M1 fun d M2 => aFldS_k K f y A Γ d M2
theorem aFldS_r {K : PySem.W.Frag} {f : Str} {y : D} {A : AEnds} {Γ : Gm} {a : Addr} {M : Mm} : aFldS_k K f y A Γ (.ref a) M = ∃ C ns xs M3, Up M a (.ins C ns xs) (.ins C (putN f ns) (putX f y ns xs)) M3 ∧ (Cls K C ∧ NoAttr K C f) ∧ ns.length < 1000 ∧ A.nx Γ M3 := rfl
theorem ds_fld {f : Str} {p' : Pos} (ho : DE X T o to) (hv : DE X T e tv) (hs : swapsWith e (some (.Attribute o f p')) pos.line X.env = pure false := by rfl) : DS X T (.Assign [.Attribute o f p'] e pos) (aFldS X.K f to tv) :=
  ds_of (ps_fld ho hv hs) fun F σ H Γ M A D w q m => cE_mk w q fun y M1 v F1 H1 s1 h1 i1 q1 => cE_mk (w.go s1 h1) q1 fun d M2 u F2 H2 s2 h2 i2 q2 => by
    unfold aFldS_k at q2
    split at q2
    · rename_i a
      obtain ⟨C, ns, xs, M3, up, ⟨c1, c2⟩, hl, q2⟩ := q2
      cases i2
      obtain ⟨_, _, dx, fs, e2, rfl, hl2⟩ := h2.mem _ up.mem
      refine ⟨a, C, dx, fs, rfl, e2, c1, c2, by rw [List.length_map] at hl; exact hl, ?_⟩
      exact m.nx _ _ _ _ _ (s1.trans s2) (w.v.mono (s1.trans s2)) (h2.put up ⟨dx, _, upd_same, put_names f v fs, put_vals (i1.mono s2) hl2⟩) q2
    · exact q2.elim
end
end DL

set_option Elab.async false
set_option linter.all false
set_option maxRecDepth 100000
set_option maxHeartbeats 4000000
/-! DR1: enumerate over a tuple. -/
namespace DL
open PySem L2
set_option maxHeartbeats 4000000 in
theorem meets_enum1 {v : Value} {o : Obj} {H : Heap → Prop} (B : Begins v o H) :
    Meets (Builtin.«enumerate.__new__» ⟨[.type "enumerate", v], []⟩) (fun _ R s => H s.heap ∧
      R (.ok (.ret (.ref (s.heap.push o).objs.size))) { s with heap := (s.heap.push o).push { cls := .type "enumerate", data := .fields #[.none, .bool false, .ref s.heap.objs.size, rawInt 0, .none, .none] } }) :=
  .of_wp fun prog w A R s h => by
    obtain ⟨hp, g, d, tk, os⟩ := s
    obtain ⟨h1, h⟩ := h
    have hsub := sub_enumerate
    have q1 : ∀ {A' : Around} {E : Value → Shared → Prop} {Q : Value → Shared → Prop}, Q (.ref hp.objs.size) ⟨hp.push o, g, d, tk, os⟩ → wpAny (model prog w) A' (pyIter v) Q E ⟨hp, g, d, tk, os⟩ :=
      fun q => B.iter prog w _ _ ⟨hp, g, d, tk, os⟩ _ h1 q
    wp_walk using q1
    refine wpAny_stack_any fun st => wpAny_pure ?_
    split
    · rename_i c _ _ _ _ _
      cases (c == Value.type "enumerate")
      · wp_walk using q1
        exact ⟨_, rfl, h⟩
      · wp_walk using q1
        exact ⟨_, rfl, h⟩
    · wp_walk using q1
      exact ⟨_, rfl, h⟩
section
variable {prog : Program} {w : World} {A : Around} {E : Value → Shared → Prop} {s : Shared}
theorem enum1_begins {v : Value} {o : Obj} {H : Heap → Prop} {Q : Value → Shared → Prop} (B : Begins v o H) (h1 : H s.heap)
    (h : ∀ h', IsEnum h' (s.heap.objs.size + 1) s.heap.objs.size 0 .none → h'.get? s.heap.objs.size = some o → h'.objs.size = s.heap.objs.size + 2 →
      (∀ b o, s.heap.get? b = some o → h'.get? b = some o) → Q (.ref (s.heap.objs.size + 1)) { s with heap := h' }) :
    wpAny (model prog w) A (call (.type "enumerate") [v]) Q E s := by
  refine callType_new F.called_enumerate (by decide) (F.typeCall_enumerate_1 _) (F.newCall_enumerate_1 _) (fun obj => F.args_object_init_2 obj _) F.entry_enumerate_new (meets_enum1 B) ⟨h1, ?_⟩
  have hz : (s.heap.push o).objs.size = s.heap.objs.size + 1 := Heap.size_push ..
  show _ ∧ _
  rw [hz]
  have he : IsEnum ((s.heap.push o).push { cls := .type "enumerate", data := .fields #[.none, .bool false, .ref s.heap.objs.size, rawInt 0, .none, .none] }) (s.heap.objs.size + 1) s.heap.objs.size 0 .none := by
    have z := Heap.get?_push_size (s.heap.push o) (o := { cls := .type "enumerate", data := .fields #[.none, .bool false, .ref s.heap.objs.size, rawInt 0, .none, .none] }) rfl
    rw [hz] at z
    exact z
  exact ⟨⟨_, he, rfl⟩, h _ he (Heap.get?_push_of_some _ (Heap.get?_push_size _ B.free)) (by rw [Heap.size_push, hz]) fun b o x => Heap.get?_push_of_some _ (Heap.get?_push_of_some _ x)⟩
end
theorem enumT_end {prog : Program} {w : World} {A : Around} {E : Value → Shared → Prop} {s : Shared} {e it a : Addr} {i : Nat} {j : Int} {items : Array Value} {old : Value} {Q : Option Value → Shared → Prop} (hh : A.handled = none)
    (he : IsEnum s.heap e it j old) (hit : s.heap.IsTupleIter it a i) (hl : s.heap.IsTuple a items) (hx : items[i]? = none) (hQ : ∀ h', Heap.ExtBut it s.heap h' → Q none { s with heap := h' }) : wpAny (model prog w) A (pyNext (.ref e)) Q E s := by
  have hT : s.TypeIs (.ref e) "enumerate" := ⟨_, he, rfl⟩
  unfold pyNext
  refine wpAny_bind (wpAny_attempt (wpAny_callSpecial?_slot (name := Str.ofString "__next__") hT F.slot_enumerate_next (wpAny_call_entry F.slot_enumerate_next hT F.entry_enumerate_next ?_ (F.args_enumerate_next_1 _))))
  show wpAny _ _ (field (.ref e) 2 >>= _) _ _ _
  refine wpAny_bind (wpAny_field he rfl (x := .ref it) rfl ?_)
  refine wpAny_bind (wpAny_nextOf_tuple_end (by exact hh) hit hl hx fun h' x hx1 hx2 => ?_)
  obtain ⟨o, ho, hc⟩ := hx2
  exact wpAny_bind (wpAny_isInstance (T := "StopIteration") (b := true) ⟨o, ho, hc⟩ isSubtype_stop (wpAny_pure (hQ _ hx1)))
/-- the tuple at a, each item in a new pair -/
def IteT (K : PySem.W.Frag) (a : Addr) : It :=
  ⟨fun i H => ∃ (xs : List V) (x : V), SqT K H a xs ∧ xs[i]? = some x, fun i H v H' => ∃ T x, v = .ref T ∧ H T = none ∧ H' = upd H T (.tup [.int (i : Nat), x]) ∧ ∀ xs, SqT K H a xs → xs[i]? = some x, fun i H => ∃ xs : List V, SqT K H a xs ∧ xs.length ≤ i⟩
theorem turn_enumT {P : Program} {w : World} {K : PySem.W.Frag} {elts : List Expr} {kk : Nat} {tpos : Pos} (a e it : Addr) :
    Turn P w K (.Tuple elts kk tpos) (IteT K a) [e, it] e (fun i h => (∃ old, IsEnum h e it ((i : Nat) : Int) old) ∧ h.IsTupleIter it a i ∧ e ≠ it ∧ a ≠ it ∧ a ≠ e) where
  mem := by simp
  obj := fun i h st b hb => by
    obtain ⟨⟨old, he⟩, ⟨o, ho, hc, hd⟩, _⟩ := st
    have e' : b = e ∨ b = it := by simpa using hb
    rcases e' with rfl | rfl
    · exact ⟨_, he, fun v q => nomatch q⟩
    · exact ⟨o, ho, fun v q => by rw [hd] at q; cases q⟩
  keep := fun i h h' st k => let ⟨⟨old, he⟩, hi, hne⟩ := st; ⟨⟨old, k e (by simp) _ he⟩, hi.at fun o q => k it (by simp) o q, hne⟩
  item := by
    intro X hP hw hK hc i pins s σ H E I hf st hg
    subst hP hw hK
    obtain ⟨⟨old, he⟩, hit, hne, ne2, ne3⟩ := st
    obtain ⟨xs, x, hq, hx⟩ := hg
    obtain ⟨its, rv, p, hz⟩ := I.tuple hq
    obtain ⟨u, hu, ru⟩ := rv.get hx
    have hel : e < s.heap.objs.size := Heap.lt_size he
    have hil : it < s.heap.objs.size := by obtain ⟨_, q, _⟩ := hit; exact Heap.lt_size q
    have pt : s.heap.IsTuple a its.toArray := p
    refine wpAny_pyNext_enum_itemD (Draws.tuple (A := X.A.in1) (show X.A.in1.handled = none from I.ok.hd hc) it a ne2 its.toArray) he ⟨hit, pt⟩ (by rw [List.size_toArray]; exact (List.getElem?_eq_some_iff.mp hu).1) hne (by simp [hne, Ne.symm ne3]) fun y h' tk hy ho hit' hT hsz hk => ?_
    have ey : y = u := by
      rw [List.getElem?_toArray] at hy
      rw [hu] at hy
      exact (Option.some.inj hy).symm
    subst ey
    refine ⟨_, rfl, wpAny_letOwnedTupleGo_enum (s := { s with heap := h', toks := tk + 1 }) ho fun h'' he' sb => ?_⟩
    have hT2 : h''.get? s.heap.objs.size = some { cls := .type "tuple", data := .seq #[.int i tk, y] } := (sb.2 _ (Nat.ne_of_gt hel)).trans hT
    have new : ObjOk X.prog X.w (upd H s.heap.objs.size (.tup [.int (i : Nat), x])) h'' s.heap.objs.size (.tup [.int (i : Nat), x]) :=
      ⟨by show 2 ≤ sizeLine; decide, [.int i tk, y], .cons ⟨_, rfl⟩ (.cons ru .nil), ⟨_, hT2, rfl, _, rfl⟩⟩
    have J : Inv X pins σ (upd H s.heap.objs.size (.tup [.int (i : Nat), x])) { s with heap := h'', toks := tk + 1 } :=
      I.turnedNew (ch := [e, it]) (fun b ob hb q => (sb.2 b (fun z => hb (by simp [z]))).trans (hk b ob (fun z => hb (by simp [z])) (fun z => hb (by simp [z])) q)) hf (Nat.le_refl _) new
    refine ⟨.ref s.heap.objs.size, _, J, rfl, ⟨_, x, rfl, I.hok.fresh (Nat.le_refl _), rfl, fun ys hy => by rw [I.tuple_inj hy hq]; exact hx⟩, ⟨⟨y, ?_⟩, hit'.1.at fun o q => (sb.2 it (Ne.symm hne)).trans q, hne, ne2, ne3⟩, fun b hb => ?_⟩
    · have q1 : ((i + 1 : Nat) : Int) = (i : Int) + 1 := by omega
      rw [q1]
      exact he'
    · have hb' : b < s.heap.objs.size := by
        have e' : b = e ∨ b = it := by simpa using hb
        rcases e' with rfl | rfl
        · exact hel
        · exact hil
      rw [upd_ne (Nat.ne_of_lt hb')]
      exact (hf b hb).1
  done := by
    intro X hP hw hK hc i pins s σ H E I hf st hg
    subst hP hw hK
    obtain ⟨⟨old, he⟩, hit, hne, ne2, ne3⟩ := st
    obtain ⟨xs, hq, hx⟩ := hg
    obtain ⟨its, rv, p, hz⟩ := I.tuple hq
    obtain ⟨f0, f1, f2, f3, f4, f5⟩ := hf it (by simp)
    have hl := rv.length
    exact enumT_end (I.ok.hd hc) he hit p (by simp; omega) fun h' eb => ⟨rfl, I.turned (t' := s.toks) (fun b o hb q => eb b o hb q) f0 f1 f3 f4 f5⟩
  self := fun A i s Q E st h => let ⟨⟨_, he⟩, _⟩ := st; wpAny_pyIter_enum he h
def iEnumA (K : PySem.W.Frag) (ta : TA) : TI := fun σ H R => ta σ H fun vs H1 => ∃ a, vs = [.ref a] ∧ ((∃ xs, SqL K H1 a xs ∧ R (Ite K a) H1) ∨ ∃ xs, SqT K H1 a xs ∧ R (IteT K a) H1)
theorem pi_enumA {X : Cx} {e : Expr} {ta : TA} {p pos tpos : Pos} {elts : List Expr} {kk : Nat} (hg : Gl X "enumerate") (hm : X.mg "enumerate" = none) (ha : PA X [e] ta) (hs : starEach [e] X.env = [(false, eval e X.env)] := by rfl) :
    PI X (.Tuple elts kk tpos) (.Call (.Name "enumerate" p) [e] [] pos) (iEnumA X.K ta) := by
  refine ⟨fun pins s σ H R I h => PyProof.Rows.Call_ (ld_blt I hg hm PyProof.Rows.boot_enumerate (PyProof.Rows.callWith_type1 (thn (ha.run pos pins s σ H _ I h) fun us s1 hh => ?_) hs rfl))⟩
  obtain ⟨vs, H1, J, r1, a, rfl, q1⟩ := hh
  cases r1 with
  | cons r rr =>
    cases rr
    cases r
    have fin : ∀ {h' : Heap}, (∀ b o, s1.heap.get? b = some o → h'.get? b = some o) → ∀ b ∈ [s1.heap.objs.size + 1, s1.heap.objs.size], FpOk X pins H1 b := fun {h'} hk b hb => by
      have hle : s1.heap.objs.size ≤ b := by
        rcases List.mem_cons.mp hb with rfl | hb
        · exact Nat.le_add_right _ _
        · rw [List.mem_singleton.mp hb]
          exact Nat.le_refl _
      exact J.fpOk hle (J.hok.fresh hle)
    rcases q1 with ⟨xs, hq, q⟩ | ⟨xs, hq, q⟩
    · obtain ⟨its, rv, p', hz⟩ := J.list hq
      exact call_enumerate_list p'.isList fun h' he hit hsz hk => wpAny_pyIter_enum he ⟨_, _, _, _, H1, rfl, J.kept (t' := s1.toks) hk, turn_enum a (s1.heap.objs.size + 1) s1.heap.objs.size, ⟨⟨.none, he⟩, hit, Nat.succ_ne_self _⟩, fin hk, q⟩
    · obtain ⟨its, rv, p', hz⟩ := J.tuple hq
      have la : a < s1.heap.objs.size := by
        obtain ⟨o, ho, _⟩ := p'
        exact Heap.lt_size ho
      have pt : s1.heap.IsTuple a its.toArray := p'
      exact enum1_begins (begins_tuple a its.toArray) pt fun h' he ho hsz hk => wpAny_pyIter_enum he ⟨_, _, _, _, H1, rfl, J.kept (t' := s1.toks) hk, turn_enumT a (s1.heap.objs.size + 1) s1.heap.objs.size, ⟨⟨.none, he⟩, ⟨_, ho, rfl, rfl⟩, Nat.succ_ne_self _, Nat.ne_of_lt la, Nat.ne_of_lt (Nat.lt_succ_of_lt la)⟩, fin hk, q⟩
section
variable {X : Cx} {T : Ct} {K : PySem.W.Frag} {B : Bx} {F : Hp} {e a b : Expr} {pos p : Pos} {tr : AA} {ta tb : AE}
theorem walks_enumT {l : Addr} {vs : List V} {ds : List D} (h : SqT K F l vs) (z : IsL K F vs ds) : Walks K B (IteT K l) F (enumD ds) := by
  have w : Walk (IteT K l) vs.length (fun H => SqT K H l vs) (YPair (fun i => some (.int (i : Nat))) (fun i => vs[i]?)) :=
    ⟨fun i _ hi q => ⟨vs, vs[i], q, by simp [hi]⟩, fun _ q => ⟨vs, q, Nat.le_refl _⟩, fun i H v H' _ q y => let ⟨T, x, h1, h2, h3, h4⟩ := y; ⟨T, .int (i : Nat), x, h1, h2, h3, rfl, h4 vs q⟩⟩
  rw [z.length, ← enumD_len ds] at w
  refine walks_pair w (fun F' M' H' s h' => same_t h'.sub (same_t s h)) fun i d hd => ?_
  obtain ⟨x, hx, rfl⟩ := enumD_get hd
  refine ⟨_, _, rfl, fun p q hp hq => ?_⟩
  cases hp
  obtain ⟨v, e, iv⟩ := z.get hx
  rw [show vs[i]? = some q from hq] at e
  cases e
  exact ⟨.int _, iv⟩
def aEnumA_k (Φ : List D → Mm → Prop) (ds : List D) (M1 : Mm) : Prop := match ds with
  | [.lst xs] => Φ (enumD xs) M1
  | [.tup xs] => Φ (enumD xs) M1
  | _ => False
def aEnumA (tr : AA) (Γ : Gm) (M : Mm) (Φ : List D → Mm → Prop) : Prop := tr Γ M fun ds M1 => aEnumA_k Φ ds M1
theorem aEnumA_l {Φ : List D → Mm → Prop} {xs : List D} {M : Mm} : aEnumA_k Φ [.lst xs] M = Φ (enumD xs) M := rfl
theorem aEnumA_t {Φ : List D → Mm → Prop} {xs : List D} {M : Mm} : aEnumA_k Φ [.tup xs] M = Φ (enumD xs) M := rfl
theorem di_enumA {tpos : Pos} {elts : List Expr} {kk : Nat} (hg : Gl X "enumerate") (hm : X.mg "enumerate" = none) (ha : DA X T [e] tr) (hs : starEach [e] X.env = [(false, eval e X.env)] := by rfl) :
    DI X T (.Tuple elts kk tpos) (.Call (.Name "enumerate" p) [e] [] pos) (aEnumA tr) :=
  di_of (pi_enumA hg hm ha hs) fun F σ H Γ M Φ R w q z => cA_mk w q fun ds M1 vs F1 H1 s1 h1 i1 q1 => by
    match ds, i1, q1 with
    | [.lst xs], .cons k1 .nil, q1 =>
      cases k1 with
      | lst hq hl => exact ⟨_, rfl, .inl ⟨_, h1.sub.seq hq, z _ M1 _ F1 H1 s1 h1 (walks_enum hq hl) q1⟩⟩
    | [.tup xs], .cons k1 .nil, q1 =>
      cases k1 with
      | tup hq hl => exact ⟨_, rfl, .inr ⟨_, same_t h1.sub hq, z _ M1 _ F1 H1 s1 h1 (walks_enumT hq hl) q1⟩⟩
end
end DL

set_option Elab.async false
set_option linter.all false
set_option maxRecDepth 100000
set_option maxHeartbeats 4000000
/-! DR2: isinstance of two types, sums of lists and tuples, a tuple many times, constants, insert. -/
namespace DL
open PySem L2
section
variable {X : Cx} {T : Ct} {K : PySem.W.Frag} {B : Bx} {F : Hp} {e a b : Expr} {pos p : Pos} {es : List Expr} {tr : AA} {ta tb : AE}
/-! ### isinstance(a, (n1, n2)) -/
def fIsi2 (n1 n2 : String) (d : D) (M : Mm) (Φ : AK) : Prop := match tyD d M with
  | some t => match kitB t n1, kitB t n2 with
    | some b1, some b2 => Φ (.bl (b1 || b2)) M
    | _, _ => False
  | none => False
def aIsi2 (n1 n2 : String) (ta : AE) (Γ : Gm) (M : Mm) (Φ : AK) : Prop := ta Γ M fun d M1 => fIsi2 n1 n2 d M1 Φ
theorem kitAny_two {K : PySem.W.Frag} {t n1 n2 : String} {b1 b2 : Bool} (h1 : kitB t n1 = some b1) (h2 : kitB t n2 = some b2) : PySem.W.kitAny K (.type t) [.type n1, .type n2] = some (b1 || b2) :=
  kitAny_cons (kit_ty h1) (fun e => by
    subst e
    exact kitAny_cons (kit_ty h2) (fun e => by subst e; exact kitAny_nil) fun e => by subst e; rfl) fun e => by subst e; rfl
theorem de_isi2 {x y : Str} {n1 n2 : String} {p1 p2 p3 : Pos} {kk} (hg : Gl X "isinstance") (hm : X.mg "isinstance" = none) (hg2 : Gl X x) (hm2 : X.mg x = none) (hv : bootBuiltins x = some (.type n1)) (hg3 : Gl X y) (hm3 : X.mg y = none) (hv3 : bootBuiltins y = some (.type n2)) (ha : DE X T a ta)
    (hn : x ≠ "__name__" := by decide) (hd : (x == ("__debug__" : Str)) = false := by decide) (hn3 : y ≠ "__name__" := by decide) (hd3 : (y == ("__debug__" : Str)) = false := by decide)
    (hs : starEach [a, .Tuple [.Name x p1, .Name y p2] kk p3] X.env = (false, eval a X.env) :: starEach [.Tuple [.Name x p1, .Name y p2] kk p3] X.env := by rfl)
    (hs2 : starEach [.Tuple [.Name x p1, .Name y p2] kk p3] X.env = (false, eval (.Tuple [.Name x p1, .Name y p2] kk p3) X.env) :: starEach [] X.env := by rfl)
    (hs3 : starEach [.Name x p1, .Name y p2] X.env = (false, eval (.Name x p1) X.env) :: starEach [.Name y p2] X.env := by rfl) (hs4 : starEach [.Name y p2] X.env = (false, eval (.Name y p2) X.env) :: starEach [] X.env := by rfl)
    (hpl : (backTo pos (starEach [.Tuple [.Name x p1, .Name y p2] kk p3] X.env)).any (·.1) = false := by rfl) :
    DE X T (.Call (.Name "isinstance" p) [a, .Tuple [.Name x p1, .Name y p2] kk p3] [] pos) (aIsi2 n1 n2 ta) :=
  de_of (pe_callB call_isiT hg hm PyProof.Rows.boot_isinstance (pa_cons ha (pa_cons (pe_tup (pa_cons (pe_bltn hg2 hm2 hv (v := .ty n1) rfl hn hd) (pa_cons (pe_bltn hg3 hm3 hv3 (v := .ty n2) rfl hn3 hd3) pa_nil hs4) hs3)) pa_nil hs2) hs) (by decide) (by decide) hs hpl) fun F σ H Γ M Φ Q w q z => cE_mk w q fun d M1 v F1 H1 s1 h1 i1 q1 => by
    unfold fIsi2 at q1
    split at q1
    · rename_i t ht
      split at q1
      · rename_i b1 b2 e1 e2
        refine ⟨by rw [sizeLine_eq]; show (2 : Nat) ≤ _; decide, fun tp htp => ?_⟩
        have nf := h1.free htp
        exact ⟨v, tp, [.ty n1, .ty n2], _, [.type n1, .type n2], b1 || b2, rfl, upd_same, .cons (.ty n1) (.cons (.ty n2) .nil), tyX_of ((h1.laid htp).sub) (i1.mono (upd_same_ext nf)) ht, kitAny_two e1 e2, z _ M1 _ _ _ (s1.trans (upd_same_ext nf)) (h1.laid htp) (.bl _) q1⟩
      · exact q1.elim
    · exact q1.elim
/-! ### sums -/
def fCatT (x y : D) (M : Mm) (Φ : AK) : Prop := match x, y with
  | .tup xs, .tup ys => xs.length + ys.length ≤ 100000 ∧ Φ (.tup (xs ++ ys)) M
  | _, _ => False
theorem fCatT_t {xs ys : List D} {M : Mm} {Φ : AK} : fCatT (.tup xs) (.tup ys) M Φ = (xs.length + ys.length ≤ 100000 ∧ Φ (.tup (xs ++ ys)) M) := rfl
theorem ab_catT : Ab2 K B (rCatA K) fCatT := fun F H x y d g M Φ Q h i1 i2 q z => by
  unfold fCatT at q
  split at q
  · rename_i xs ys
    obtain ⟨hl, q⟩ := q
    cases i1 with
    | @tup a vs _ hq il =>
      cases i2 with
      | @tup b ws _ hq2 il2 =>
        refine ⟨a, b, vs, ws, rfl, rfl, same_t h.sub hq, same_t h.sub hq2, by rw [il.length, il2.length]; exact line_of hl, fun e => ?_, fun _ e => ?_, fun _ _ p hp => ?_⟩
        · subst e
          cases il
          exact z _ M _ F H (Same.refl F) h (.tup hq2 il2) q
        · subst e
          cases il2
          rw [List.append_nil] at q
          exact z _ M _ F H (Same.refl F) h (.tup hq il) q
        · have nf := h.free hp
          exact z _ M _ _ _ (upd_same_ext nf) (h.laid hp) (.tup (.inl (.inl upd_same)) ((il.append il2).mono (upd_same_ext nf))) q
  · exact q.elim
theorem de_catT (ha : DE X T a ta) (hb : DE X T b tb) : DE X T (.BinOp a .Add b pos) (aOp fCatT ta tb) := de_op op_catA ab_catT ha hb
def rCatS (K : PySem.W.Frag) : R2 := fun x y H Q => ∃ l b xs zs, x = .ref l ∧ y = .ref b ∧ SqL K H l xs ∧ SqL K H b zs ∧ xs.length + zs.length ≤ sizeLine ∧ ∀ p, H p = none → Q (.ref p) (upd H p (.lst (xs ++ zs)))
theorem op_catS : OpR X (binaryOp .Add) (rCatS X.K) := by
  intro pins s σ H x y v u Q I rx ry h
  obtain ⟨l, b, xs, zs, rfl, rfl, hH, hB, hz, q⟩ := h
  cases rx
  cases ry
  obtain ⟨its, r, p1, _⟩ := I.list hH
  obtain ⟨its2, r2, p2, _⟩ := I.list hB
  obtain ⟨⟨cls, dd, data, sl⟩, ho, hc, n, hd⟩ := p1.isList
  obtain ⟨⟨cls2, dd2, data2, sl2⟩, ho2, hc2, n2, hd2⟩ := p2.isList
  simp only at hc hd hc2 hd2
  subst hc hd hc2 hd2
  have eq : its.toArray ++ its2.toArray = (its ++ its2).toArray := by simp
  have l1 := r.length
  have l2 := r2.length
  refine PySem.concat_meets ⟨_, ho, rfl⟩ ⟨_, ho2, rfl⟩ PySem.noFill_list_add PySem.seq_list_add PySem.F.slot_list_add PySem.F.entry_list_add (PySem.F.args_list_add_2 _ _) (PyProof.Rows.list_addW l b its.toArray its2.toArray n n2 dd dd2 sl sl2 (by rw [List.size_toArray, List.size_toArray]; omega)) ⟨ho, ho2, ?_⟩
  rw [eq]
  exact ⟨.ref _, _, I.lnew (t' := s.toks) (r.append r2) (by rw [List.length_append]; omega), rfl, q _ I.fresh⟩
/-- what may be walked as a list: as it is, or one that may change -/
def lsOf (d : D) (M : Mm) (k : List D → Prop) : Prop := match d with
  | .lst xs => k xs
  | .ref l => ∃ xs, (l, MO.lst xs) ∈ M ∧ k xs
  | _ => False
theorem lsOf_l {xs : List D} {M : Mm} {k : List D → Prop} : lsOf (.lst xs) M k = k xs := rfl
theorem lsOf_r {l : Addr} {M : Mm} {k : List D → Prop} : lsOf (.ref l) M k = ∃ xs, (l, MO.lst xs) ∈ M ∧ k xs := rfl
theorem ls_at {d : D} {H : Hp} {M : Mm} {k : List D → Prop} {x : V} (h : Hs K B M F H) (i : Is K F x d) (q : lsOf d M k) : ∃ l vs xs, x = .ref l ∧ SqL K H l vs ∧ IsL K F vs xs ∧ k xs := by
  unfold lsOf at q
  split at q
  · cases i with
    | lst hq hl => exact ⟨_, _, _, rfl, h.sub.seq hq, hl, q⟩
  · obtain ⟨xs, hm, q⟩ := q
    cases i
    obtain ⟨vs, e, zz⟩ := h.lst hm
    exact ⟨_, _, _, rfl, .inl (.inl e), zz, q⟩
  · exact q.elim
def fCatL (x y : D) (M : Mm) (Φ : AK) : Prop := lsOf x M fun xs => lsOf y M fun ys => xs.length + ys.length ≤ 100000 ∧ Φ (.lst (xs ++ ys)) M
def fCatM (x y : D) (M : Mm) (Φ : AK) : Prop := lsOf x M fun xs => lsOf y M fun ys => xs.length + ys.length ≤ 100000 ∧ ∀ p, Φ (.ref p) ((p, .lst (xs ++ ys)) :: M)
theorem ab_catL : Ab2 K B (rCatS K) fCatL := fun F H x y d g M Φ Q h i1 i2 q z => by
  obtain ⟨l, vs, xs, rfl, hq, il, q⟩ := ls_at h i1 q
  obtain ⟨l2, ws, ys, rfl, hq2, il2, hl, q⟩ := ls_at h i2 q
  exact ⟨l, l2, vs, ws, rfl, rfl, hq, hq2, by rw [il.length, il2.length]; exact line_of hl, fun p hp => z _ M _ _ _ (upd_same_ext (h.free hp)) (h.laid hp) (.lst (.inl (.inl upd_same)) ((il.append il2).mono (upd_same_ext (h.free hp)))) q⟩
theorem ab_catM : Ab2 K B (rCatS K) fCatM := fun F H x y d g M Φ Q h i1 i2 q z => by
  obtain ⟨l, vs, xs, rfl, hq, il, q⟩ := ls_at h i1 q
  obtain ⟨l2, ws, ys, rfl, hq2, il2, hl, q⟩ := ls_at h i2 q
  exact ⟨l, l2, vs, ws, rfl, rfl, hq, hq2, by rw [il.length, il2.length]; exact line_of hl, fun p hp => z (.ref p) _ _ _ _ (Same.refl F) (h.newM (o := .lst (xs ++ ys)) hp ⟨_, upd_same, il.append il2⟩) (.ref p) (q p)⟩
theorem de_catL (ha : DE X T a ta) (hb : DE X T b tb) : DE X T (.BinOp a .Add b pos) (aOp fCatL ta tb) := de_op op_catS ab_catL ha hb
theorem de_catM (ha : DE X T a ta) (hb : DE X T b tb) : DE X T (.BinOp a .Add b pos) (aOp fCatM ta tb) := de_op op_catS ab_catM ha hb
/-! ### a tuple many times -/
def fRepT (x y : D) (M : Mm) (Φ : AK) : Prop := match x, y with
  | .tup xs, .int k => (xs ≠ [] ∧ 2 ≤ k ∧ k ≤ 1000 ∧ xs.length ≤ 1000) ∧ Φ (.tup (List.replicate k.toNat xs).flatten) M
  | _, _ => False
theorem fRepT_t {xs : List D} {k : Int} {M : Mm} {Φ : AK} : fRepT (.tup xs) (.int k) M Φ = ((xs ≠ [] ∧ 2 ≤ k ∧ k ≤ 1000 ∧ xs.length ≤ 1000) ∧ Φ (.tup (List.replicate k.toNat xs).flatten) M) := rfl
theorem IsL.rep {vs : List V} {ds : List D} (h : IsL K F vs ds) : ∀ n : Nat, IsL K F (List.replicate n vs).flatten (List.replicate n ds).flatten
  | 0 => .nil
  | n + 1 => by
    rw [List.replicate_succ, List.replicate_succ, List.flatten_cons, List.flatten_cons]
    exact h.append (IsL.rep h n)
theorem ab_repT : Ab2 K B (rRepT K) fRepT := fun F H x y d g M Φ Q h i1 i2 q z => by
  unfold fRepT at q
  split at q
  · rename_i xs k
    obtain ⟨⟨c1, c2, c3, c4⟩, q⟩ := q
    cases i2
    cases i1 with
    | @tup a vs _ hq il =>
      exact ⟨a, k, vs, rfl, rfl, same_t h.sub hq, fun e => c1 (by subst e; cases il; rfl), c2, c3, by rw [il.length]; exact c4, fun p hp => z _ M _ _ _ (upd_same_ext (h.free hp)) (h.laid hp) (.tup (.inl (.inl upd_same)) ((il.rep k.toNat).mono (upd_same_ext (h.free hp)))) q⟩
  · exact q.elim
theorem de_repT (ha : DE X T a ta) (hb : DE X T b tb) : DE X T (.BinOp a .Mult b pos) (aOp fRepT ta tb) := de_op op_repT ab_repT ha hb
/-! ### a module's constant -/
theorem de_const {x : Str} {v : V} {u : Value} {d : D} (hg : Gl X x) (hm : X.mg x = some u) (r : RelV v u) (i : ∀ F, Is X.K F v d) (hd : (x == ("__debug__" : Str)) = false := by decide) : DE X T (.Name x pos) (aC d) := de_c (pe_glob hg hm r hd) i
end
end DL

set_option Elab.async false
set_option linter.all false
set_option maxRecDepth 100000
set_option maxHeartbeats 4000000
/-! DR3: t[::-1] of a tuple. -/
namespace DL
open PySem L2
section
open PySem.W PySem.Calls PyProof.Rows
variable {prog : Program} {w : World} {A : Around} {E : Value → Shared → Prop} {s : Shared}
theorem applied_rev {sl : Addr} {vs : Value} {n : Nat} {Q : Int × Int × Nat → Shared → Prop} (hs : s.heap.IsSliceOf sl .none .none vs) (ps : IsPart vs (some (-1))) (h : Q ((n : Int) - 1, -1, n) s) : wpAny (model prog w) A (Builtin.Slice.sliceApplied (.ref sl) (pure (n : Int))) Q E s := by
  obtain ⟨os, hos, hcs, hds⟩ := id hs
  unfold Builtin.Slice.sliceApplied Builtin.Slice.sliceFields
  refine wpAny_bind (wpAny_bind (wpAny_field hos hds (x := .none) rfl (wpAny_bind (wpAny_field hos hds (x := .none) rfl (wpAny_bind (wpAny_field hos hds (x := vs) rfl (wpAny_pure ?_)))))))
  refine wpAny_bind (HT.slicePart_ ps ?_)
  show wpAny _ _ (if ((-1 : Int) == 0) = true then _ else _) _ _ s
  rw [if_neg (by decide)]
  refine wpAny_bind (HT.slicePart_ .none (wpAny_bind (HT.slicePart_ .none (wpAny_bind (wpAny_pure ?_)))))
  show wpAny _ _ (pure ((n : Int) - 1, (-1 : Int), Builtin.Slice.slicePlaces ((n : Int) - 1) (-1) (-1))) _ _ s
  have e : Builtin.Slice.slicePlaces ((n : Int) - 1) (-1) (-1) = n := by
    unfold Builtin.Slice.slicePlaces
    rw [if_neg (by decide)]
    by_cases z : (n : Int) - 1 > -1
    · rw [if_pos z, show (- -1 : Int) = 1 by decide, Int.ediv_one]
      omega
    · rw [if_neg z]
      omega
  rw [e]
  exact wpAny_pure h
theorem fm_congr {α β : Type} {f g : α → Option β} : ∀ {l : List α}, (∀ x ∈ l, f x = g x) → l.filterMap f = l.filterMap g
  | [], _ => rfl
  | x :: l, h => by rw [List.filterMap_cons, List.filterMap_cons, h x List.mem_cons_self, fm_congr fun y hy => h y (List.mem_cons_of_mem _ hy)]
theorem pick_rev (xs : Array Value) : ((List.range xs.size).filterMap fun (m : Nat) => xs[(((xs.size : Int) - 1) + (m : Int) * (-1)).toNat]?).toArray = xs.toList.reverse.toArray := by
  have e : ∀ m ∈ List.range xs.size, xs[(((xs.size : Int) - 1) + (m : Int) * (-1)).toNat]? = (fun k : Nat => xs[k]?) (xs.size - 1 - m) := fun m hm => by
    have := List.mem_range.mp hm
    show xs[_]? = xs[_]?
    congr 1
    omega
  rw [fm_congr e]
  have e2 : (List.range xs.size).filterMap (fun m => (fun k : Nat => xs[k]?) (xs.size - 1 - m)) = ((List.range xs.size).map fun k => xs.size - 1 - k).filterMap (fun k : Nat => xs[k]?) := by rw [List.filterMap_map]; rfl
  rw [e2, krv_range, List.filterMap_reverse, krv_all]
theorem getItem_tuple_rev {t sl : Addr} {items : Array Value} {vs : Value} {Q : Value → Shared → Prop} (ht : IsTup s.heap t items) (hs : s.heap.IsSliceOf sl .none .none vs) (ps : IsPart vs (some (-1)))
    (h : Q (.ref s.heap.objs.size) { s with heap := s.heap.push { cls := .type "tuple", data := .seq items.toList.reverse.toArray } }) (hsz : items.size ≤ sizeLine) : wpAny (model prog w) A (getItem (.ref t) (.ref sl)) Q E s := by
  have htake : sizeOk (.seq items.toList.reverse.toArray) := by
    show items.toList.reverse.toArray.size ≤ sizeLine
    rw [List.size_toArray, List.length_reverse, Array.length_toList]
    exact hsz
  obtain ⟨os, hos, hcs, hds⟩ := id hs
  have hTs : s.TypeIs (.ref sl) "slice" := ⟨os, hos, hcs⟩
  unfold getItem
  try with_reducible refine wpAny_holding ?_
  first | refine wpAny_bind (wpAny_pure ?_) | skip
  refine wpAny_bind (wpAny_sequenceKey ht.typeIs (by decide) ?_)
  refine wpAny_bind (wpAny_callSpecial?_slot (name := Str.ofString "__getitem__") ht.typeIs PyProof.Rows.slot_tuple_getitem (wpAny_call_entry PyProof.Rows.slot_tuple_getitem ht.typeIs entry_tuple_getitem ?_ (args_tuple_getitem _ _)))
  show wpAny _ _ (Builtin.Tuple.tupleItemsOf (.ref t) >>= _) _ _ s
  refine wpAny_bind (tupleItemsOf_ ht (wpAny_bind (wpAny_typeOf hTs ?_)))
  rw [if_pos (by decide)]
  refine wpAny_bind (applied_rev hs ps ?_)
  have hno : ¬ ((((items.size : Int) - 1) == 0 && (-1 : Int) == 1 && items.size == items.size) = true) := by
    rw [show ((-1 : Int) == 1) = false from rfl, Bool.and_false, Bool.false_and]
    exact Bool.false_ne_true
  show wpAny _ _ (if (((items.size : Int) - 1) == 0 && (-1 : Int) == 1 && items.size == items.size) = true then _ else _) _ _ s
  rw [if_neg hno, pick_rev]
  first
    | exact wpAny_bind (m := Builtin.Tuple.tupleExact _) (wpAny_newObj_type (wpAny_pure ⟨_, rfl, wpAny_pure h⟩) htake)
    | exact wpAny_bind (m := Builtin.Tuple.tupleExact _) (wpAny_newObj_type (wpAny_bind (wpAny_pure (wpAny_pure ⟨_, rfl, wpAny_pure h⟩))) htake)
    | exact wpAny_bind (wpAny_bind (m := Builtin.Tuple.tupleExact _) (wpAny_newObj_type (wpAny_pure (wpAny_pure ⟨_, rfl, wpAny_pure h⟩)) htake))
    | exact wpAny_bind (wpAny_bind (m := Builtin.Tuple.tupleExact _) (wpAny_newObj_type (wpAny_pure ⟨_, rfl, wpAny_pure h⟩) htake))
end
section
variable {X : Cx} {T : Ct} {a : Expr} {pos : Pos} {ta : AE}
def tRevA (K : PySem.W.Frag) (te : TE) : TE := fun σ H Q => te σ H fun x H1 => ∃ a xs, x = .ref a ∧ SqT K H1 a xs ∧ ∀ p, H1 p = none → Q (.ref p) (upd H1 p (.tup xs.reverse))
theorem pe_revT {e : Expr} {te : TE} {k : Nat} {p1 p2 p3 pos : Pos} (he : PE X e te) : PE X (.Subscript e (.Slice none none (some (.UnaryOp .USub (.Constant (.int 1) k p1) p2)) p3) pos) (tRevA X.K te) := by
  refine ⟨fun pins s σ H Q I h => PyProof.Rows.Subscript_ (thn (he.run pins s σ H _ I h) fun v s1 hh => ?_)⟩
  obtain ⟨x, H1, I1, r1, a, xs, rfl, hx, q⟩ := hh
  cases r1
  have hst : PO X (some (.UnaryOp .USub (.Constant (.int 1) k p1) p2)) (tPart (tUn (rU fun i => .int (-i)) (tC (.int 1)))) := po_some (pe_un un_neg pe_int)
  refine wpAny_Slice (thn (po_none.run pins s1 σ H1 (fun o H2 => o = none ∧ H2 = H1) I1 ⟨rfl, rfl⟩) fun vl s2 ⟨l, H2, I2, pl, el, e2⟩ => ?_)
  subst el e2
  refine thn (po_none.run pins s2 σ H2 (fun o H3 => o = none ∧ H3 = H2) I2 ⟨rfl, rfl⟩) fun vu s3 ⟨u, H3, I3, pu, eu, e3⟩ => ?_
  subst eu e3
  refine thn (hst.run pins s3 σ H3 (fun o H4 => o = some (-1) ∧ H4 = H3) I3 ⟨1, rfl, -1, rfl, rfl, rfl⟩) fun vs s4 ⟨o, H4, I4, ps, eo, e4⟩ => ?_
  subst eo e4
  cases pl
  cases pu
  have J : Inv X pins σ H4 { s4 with heap := s4.heap.push { cls := .type "slice", data := .fields #[.none, .none, vs] } } := I4.kept (t' := s4.toks) fun b ob q => Heap.get?_push_of_some _ q
  obtain ⟨its, r, ht, hz⟩ := J.tuple hx
  have hlen := r.length
  show wpAny (model X.prog X.w) X.A (PyProof.Rows.subscriptTail e (.Slice none none (some (.UnaryOp .USub (.Constant (.int 1) k p1) p2)) p3) (.ref a) (.ref s4.heap.objs.size)) (EP X pins σ Q) X.xe { s4 with heap := s4.heap.push { cls := .type "slice", data := .fields #[.none, .none, vs] } }
  refine PyProof.Rows.tail_any (ops := [.ref a, .ref s4.heap.objs.size]) ht.typeIs (PyProof.Rows.slot_tuple_getitem.lookup) ?_ (by with_unfolding_all rfl)
  refine getItem_tuple_rev ht (Heap.IsSliceOf.new _ .none .none vs) ps ?_ (by rw [List.size_toArray]; omega)
  refine ⟨.ref _, _, J.laid (t' := s4.toks) (o := .tup xs.reverse) (fun b ob q => Heap.get?_push_of_some _ q) (Nat.le_refl _) ?_, rfl, q _ (J.hok.fresh (Nat.le_refl _))⟩
  exact ⟨by rw [List.length_reverse]; exact hz, _, r.reverse, PyProof.Rows.IsTup.new _ _⟩
def aRevT_k (Φ : AK) (d : D) (M : Mm) : Prop := match d with
  | .tup xs => Φ (.tup xs.reverse) M
  | _ => False
def aRevT (ta : AE) (Γ : Gm) (M : Mm) (Φ : AK) : Prop := ta Γ M fun d M1 => aRevT_k Φ d M1
theorem aRevT_t {Φ : AK} {xs : List D} {M : Mm} : aRevT_k Φ (.tup xs) M = Φ (.tup xs.reverse) M := rfl
theorem de_revT {k : Nat} {p1 p2 p3 : Pos} (ha : DE X T a ta) : DE X T (.Subscript a (.Slice none none (some (.UnaryOp .USub (.Constant (.int 1) k p1) p2)) p3) pos) (aRevT ta) :=
  de_of (pe_revT ha) fun F σ H Γ M Φ Q w q z => cE_mk w q fun d M1 x F1 H1 s1 h1 i1 q1 => by
    unfold aRevT_k at q1
    split at q1
    · cases i1 with
      | @tup l vs xs hq hl => exact ⟨l, vs, rfl, same_t h1.sub hq, fun p hp => z _ M1 _ _ _ (s1.trans (upd_same_ext (h1.free hp))) (h1.laid hp) (.tup (.inl (.inl upd_same)) (hl.reverse.mono (upd_same_ext (h1.free hp)))) q1⟩
    · exact q1.elim
end
end DL

set_option Elab.async false
set_option linter.all false
set_option maxRecDepth 100000
set_option maxHeartbeats 4000000
/-! DR4: l.insert(i, y). -/
namespace DL
open PySem L2
section
variable {X : Cx} {T : Ct} {a b c : Expr} {pos p2 : Pos} {ta tb tc : AE}
def aIns_k (tb tc : AE) (Γ : Gm) (Φ : AK) (d : D) (M1 : Mm) : Prop := match d with
  | .ref l => (∃ xs, (l, MO.lst xs) ∈ M1) ∧ tb Γ M1 fun e M2 => tc Γ M2 fun y M3 => match e with
    | .int i => ∃ xs M4, Up M3 l (.lst xs) (.lst (xs.take i.toNat ++ [y] ++ xs.drop i.toNat)) M4 ∧ xs.length < 100000 ∧ (0 ≤ i ∧ i < 9223372036854775808) ∧ Φ .non M4
    | _ => False
  | _ => False
def aIns (ta tb tc : AE) (Γ : Gm) (M : Mm) (Φ : AK) : Prop := ta Γ M fun d M1 => aIns_k tb tc Γ Φ d M1
theorem aIns_r {Γ : Gm} {Φ : AK} {l : Addr} {M1 : Mm} : aIns_k tb tc Γ Φ (.ref l) M1 = ((∃ xs, (l, MO.lst xs) ∈ M1) ∧ tb Γ M1 fun e M2 => tc Γ M2 fun y M3 => match e with
    | .int i => ∃ xs M4, Up M3 l (.lst xs) (.lst (xs.take i.toNat ++ [y] ++ xs.drop i.toNat)) M4 ∧ xs.length < 100000 ∧ (0 ≤ i ∧ i < 9223372036854775808) ∧ Φ .non M4
    | _ => False) := rfl
theorem de_ins (ha : DE X T a ta) (hb : DE X T b tb) (hc : DE X T c tc) (hst : starEach [b, c] X.env = (false, eval b X.env) :: starEach [c] X.env := by rfl) (hst2 : starEach [c] X.env = (false, eval c X.env) :: starEach [] X.env := by rfl)
    (hbase : attributeBase a "insert" X.env (eval a X.env) = eval a X.env := by rfl)
    (hfew : ((backTo pos (starEach [b, c] X.env)).all (fun x => !x.1) && (backToKw pos (keywordEach [] X.env)).all (fun x => x.1.isSome) && decide ([b, c].length + ([] : List Keyword).length + (if ([] : List Keyword).isEmpty then 0 else 1) < 30)) = true := by rfl)
    (hline : (p2.endLine == pos.line) = true := by rfl) (hplain : (backTo pos (starEach [c] X.env)).any (·.1) = false := by rfl) : DE X T (.Call (.Attribute a "insert" p2) [b, c] [] pos) (aIns ta tb tc) :=
  de_of (pe_bm PySem.F.plainAttrs_list PySem.F.slot_list_insert PySem.F.type_list_insert mt_insert ha (pa_cons hb (pa_cons hc pa_nil hst2) hst) hbase hfew hline hst hplain) fun F σ H Γ M Φ Q w q z => cE_mk w q fun d M1 x F1 H1 s1 h1 i1 q1 => by
    unfold aIns_k at q1
    split at q1
    · rename_i l
      obtain ⟨⟨xs0, hm⟩, q1⟩ := q1
      cases i1
      obtain ⟨vs0, e0, _⟩ := h1.lst hm
      refine ⟨tyV_lst e0, cE_mk (w.go s1 h1) q1 fun e M2 y F2 H2 s2 h2 i2 q2 => cE_mk ((w.go s1 h1).go s2 h2) q2 fun g M3 u F3 H3 s3 h3 i3 q3 => ?_⟩
      split at q3
      · rename_i i
        obtain ⟨xs, M4, up, hl, ⟨k0, k1⟩, q3⟩ := q3
        cases i2
        obtain ⟨vs, e1, zz⟩ := h3.lst up.mem
        exact ⟨l, vs, i, u, rfl, rfl, e1, by rw [zz.length]; exact line_lt hl, k0, k1, z _ M4 _ F3 _ ((s1.trans s2).trans s3) (h3.put up ⟨_, upd_same, ((zz.take i.toNat).append (.cons i3 .nil)).append (zz.drop i.toNat)⟩) .non q3⟩
      · exact q3.elim
    · exact q1.elim
end
end DL

set_option Elab.async false
set_option linter.all false
set_option maxRecDepth 100000
/-! DX5: what a class statement holds. -/
namespace DL
open PySem L2
/-- the statement at j in a class's body -/
def clsAt (st : Stmt) (j : Nat) : Stmt := match st with
  | .ClassDef (body := b) .. => b.getD j (.Pass ⟨0, 0, 0, 0⟩)
  | _ => .Pass ⟨0, 0, 0, 0⟩
theorem XCls.xf {K : PySem.W.Frag} {P : Program} {C f : Addr} (Y : XCls K P C f) : XfC K C ∧ PySem.W.findIn K (.ref C) "at" = some none := ⟨⟨Y.ga, Y.gg, Y.oex.exC, Y.hd⟩, Y.at_⟩
/-- caught, not caught -/
theorem catch_yes {K : PySem.W.Frag} {C : Addr} {c : Value} {A : Prop} {B : Prop} (h : PySem.W.exmOne K (.ref C) c = some true) (a : A) : ∃ b, PySem.W.exmOne K (.ref C) c = some b ∧ (b = true → A) ∧ (b = false → B) := ⟨true, h, fun _ => a, fun z => Bool.noConfusion z⟩
theorem catch_no {K : PySem.W.Frag} {C : Addr} {c : Value} {A : Prop} {B : Prop} (h : PySem.W.exmOne K (.ref C) c = some false) (a : B) : ∃ b, PySem.W.exmOne K (.ref C) c = some b ∧ (b = true → A) ∧ (b = false → B) := ⟨false, h, fun z => Bool.noConfusion z, fun _ => a⟩
end DL
namespace DL
open PySem L2
theorem fIsi2_of {n1 n2 t : String} {d : D} {M : Mm} {Φ : AK} {b1 b2 : Bool} (ht : tyD d M = some t) (h1 : kitB t n1 = some b1) (h2 : kitB t n2 = some b2) : fIsi2 n1 n2 d M Φ = Φ (.bl (b1 || b2)) M := by
  unfold fIsi2
  rw [ht]
  show (match kitB t n1, kitB t n2 with
    | some b1, some b2 => Φ (.bl (b1 || b2)) M
    | _, _ => False) = _
  rw [h1, h2]
section
variable {M : Mm} {Φ : AK}
theorem isi2_n : fIsi2 "list" "tuple" .non M Φ = Φ (.bl false) M := fIsi2_of rfl (b1 := false) (b2 := false) (by decide +kernel) (by decide +kernel)
theorem isi2_b {b : Bool} : fIsi2 "list" "tuple" (.bl b) M Φ = Φ (.bl false) M := fIsi2_of rfl (b1 := false) (b2 := false) (by decide +kernel) (by decide +kernel)
theorem isi2_i {i : Int} : fIsi2 "list" "tuple" (.int i) M Φ = Φ (.bl false) M := fIsi2_of rfl (b1 := false) (b2 := false) (by decide +kernel) (by decide +kernel)
theorem isi2_s {x : Str} : fIsi2 "list" "tuple" (.str x) M Φ = Φ (.bl false) M := fIsi2_of rfl (b1 := false) (b2 := false) (by decide +kernel) (by decide +kernel)
theorem isi2_t {xs : List D} : fIsi2 "list" "tuple" (.tup xs) M Φ = Φ (.bl true) M := fIsi2_of rfl (b1 := false) (b2 := true) (by decide +kernel) (by decide +kernel)
theorem isi2_l {xs : List D} : fIsi2 "list" "tuple" (.lst xs) M Φ = Φ (.bl true) M := fIsi2_of rfl (b1 := true) (b2 := false) (by decide +kernel) (by decide +kernel)
end
end DL
namespace DL
open PySem L2
/-- for i, x in enumerate(xs) -/
theorem aFor_enum {ai : AI} {g : AG} {tb : AS} {A : AEnds} {Γ : Gm} {M : Mm} (xs : List D) (I : Nat → Gm → Mm → Prop) (hai : ∀ Φ' : List D → Mm → Prop, Φ' (enumD xs) M → ai Γ M Φ') (h0 : I 0 Γ M)
    (hs : ∀ i x Γ' M', xs[i]? = some x → I i Γ' M' → ∃ Γ2, g (.tup [.int (i : Nat), x]) Γ' = some Γ2 ∧ tb { nx := I (i + 1), rt := A.rt, bk := A.nx, ct := I (i + 1) } Γ2 M')
    (hd : ∀ Γ' M', I xs.length Γ' M' → A.nx Γ' M') : aFor ai g tb A Γ M := by
  unfold aFor
  refine hai _ ⟨I, h0, fun i d Γ' M' hdd hi => ?_, fun Γ' M' hi => hd Γ' M' (by rw [enumD_len] at hi; exact hi)⟩
  obtain ⟨x, hx, rfl⟩ := enumD_get hdd
  obtain ⟨Γ2, e, q⟩ := hs i x Γ' M' hx hi
  rw [e]
  exact q
end DL
namespace DL
open PySem L2
/-- [e for x in xs] where e's values are only known to be v y with R y -/
theorem aLc_any {ai : AI} {g : AG} {te : AE} {vs : List Nat} {Γ : Gm} {M : Mm} {Φ : AK} {α β : Type} (xs : List α) (emb : α → D) (R : β → Prop) (v : β → D) (hai : ∀ Φ' : List D → Mm → Prop, Φ' (xs.map emb) M → ai Γ M Φ') (hlen : xs.length ≤ 100000)
    (h : ∀ x ∈ xs, ∀ M', ∃ Γ2, g (emb x) (wipeG Γ vs) = some Γ2 ∧ (∀ Φ' : AK, (∀ y, R y → Φ' (v y) M') → te Γ2 M' Φ'))
    (k : ∀ ys : List β, ys.length = xs.length → (∀ y ∈ ys, R y) → Φ (.lst (ys.map v)) M) : aLc ai g aYes te vs Γ M Φ := by
  unfold aLc
  refine hai _ ⟨by rw [List.length_map]; exact hlen, fun i acc M' => ∃ ys : List β, acc = ys.map v ∧ ys.length = i ∧ (∀ y ∈ ys, R y) ∧ M' = M, ⟨[], rfl, rfl, fun y hy => absurd hy List.not_mem_nil, rfl⟩, ?_, ?_⟩
  · rintro i d acc M' l hd ⟨ys, rfl, hy1, hy2, rfl⟩
    rw [List.getElem?_map] at hd
    cases hx : xs[i]? with
    | none =>
      rw [hx] at hd
      cases hd
    | some x =>
      rw [hx] at hd
      cases hd
      obtain ⟨Γ2, e, h1⟩ := h x (List.mem_of_getElem? hx) ((l, .lst (ys.map v)) :: M')
      rw [e]
      refine ⟨fun _ => h1 _ fun y hy => ⟨M', .here, ys ++ [y], by rw [List.map_append]; rfl, by rw [List.length_append, hy1]; rfl, fun z hz => ?_, rfl⟩, fun z => Bool.noConfusion z⟩
      rcases List.mem_append.mp hz with hz | hz
      · exact hy2 z hz
      · rw [List.mem_singleton.mp hz]
        exact hy
  · rintro acc M' ⟨ys, rfl, hy1, hy2, rfl⟩ _
    rw [List.length_map] at hy1
    exact k ys hy1 hy2
end DL
namespace DL
open PySem L2
/-- the same where what is walked is only known to keep P -/
theorem aLc_anyP {ai : AI} {g : AG} {te : AE} {vs : List Nat} {Γ : Gm} {M : Mm} {Φ : AK} {α β : Type} (P : List α → Prop) (emb : α → D) (R : β → Prop) (v : β → D) (hai : ∀ Φ' : List D → Mm → Prop, (∀ xs, P xs → Φ' (xs.map emb) M) → ai Γ M Φ') (hlen : ∀ xs, P xs → xs.length ≤ 100000)
    (h : ∀ xs x, P xs → x ∈ xs → ∀ M', ∃ Γ2, g (emb x) (wipeG Γ vs) = some Γ2 ∧ (∀ Φ' : AK, (∀ y, R y → Φ' (v y) M') → te Γ2 M' Φ'))
    (k : ∀ xs, P xs → ∀ ys : List β, ys.length = xs.length → (∀ y ∈ ys, R y) → Φ (.lst (ys.map v)) M) : aLc ai g aYes te vs Γ M Φ :=
  hai _ fun xs hP => aLc_any (ai := fun _ M Φ' => Φ' (xs.map emb) M) xs emb R v (fun _ q => q) (hlen xs hP) (fun x hx => h xs x hP hx) (k xs hP)
end DL
namespace DL
open PySem L2
/-- for x in range(..) where how far is only known to keep P -/
theorem aFor_rngP {ai : AI} {g : AG} {tb : AS} {A : AEnds} {Γ : Gm} {M : Mm} (P : Nat → Prop) (lo : Int) (I : Nat → Nat → Gm → Mm → Prop) (hai : ∀ Φ' : List D → Mm → Prop, (∀ n, P n → Φ' (rngD lo n) M) → ai Γ M Φ') (h0 : ∀ n, P n → I n 0 Γ M)
    (hs : ∀ (n i : Nat) Γ' M', P n → i < n → I n i Γ' M' → ∃ Γ2, g (.int (lo + (i : Nat))) Γ' = some Γ2 ∧ tb { nx := I n (i + 1), rt := A.rt, bk := A.nx, ct := I n (i + 1) } Γ2 M')
    (hd : ∀ n Γ' M', P n → I n n Γ' M' → A.nx Γ' M') : aFor ai g tb A Γ M :=
  hai _ fun n hn => aFor_rng (ai := fun _ M Φ' => Φ' (rngD lo n) M) lo n (I n) (fun _ q => q) (h0 n hn) (fun i Γ' M' => hs n i Γ' M' hn) (fun Γ' M' => hd n Γ' M' hn)
/-- for x in xs where xs is only known to keep P -/
theorem aFor_mapP {ai : AI} {g : AG} {tb : AS} {A : AEnds} {Γ : Gm} {M : Mm} {α : Type} (P : List α → Prop) (emb : α → D) (I : List α → Nat → Gm → Mm → Prop) (hai : ∀ Φ' : List D → Mm → Prop, (∀ xs, P xs → Φ' (xs.map emb) M) → ai Γ M Φ') (h0 : ∀ xs, P xs → I xs 0 Γ M)
    (hs : ∀ xs i x Γ' M', P xs → xs[i]? = some x → I xs i Γ' M' → ∃ Γ2, g (emb x) Γ' = some Γ2 ∧ tb { nx := I xs (i + 1), rt := A.rt, bk := A.nx, ct := I xs (i + 1) } Γ2 M')
    (hd : ∀ xs Γ' M', P xs → I xs xs.length Γ' M' → A.nx Γ' M') : aFor ai g tb A Γ M :=
  hai _ fun xs hP => aFor_map (ai := fun _ M Φ' => Φ' (xs.map emb) M) xs emb (I xs) (fun _ q => q) (h0 xs hP) (fun i x Γ' M' => hs xs i x Γ' M' hP) (fun Γ' M' => hd xs Γ' M' hP)
end DL

set_option Elab.async false
set_option linter.all false
set_option maxRecDepth 100000
set_option maxHeartbeats 2000000
/-! DH1: defs called within an except suite. -/
namespace DL
open PySem L2
open PyProof.Rows (envOfC)
open L2H (FnH RoomH Hot1 HotC PinOk cxH fn_ofH pe_callH roomH_of)
section
variable {P : Program} {w : World} {K : PySem.W.Frag} {mg : Str → Option Value} {base : Heap} {B : Bx}
theorem FnH_mono {CX : CXT} {j k : Nat} {f : Addr} {fd : FuncData} {ps : List Str} {sp : Sp} (F : FnH P w K mg base CX j f fd ps sp) (h : j ≤ k) : FnH P w K mg base CX k f fd ps sp :=
  ⟨F.len, fun A outer s H args us vs Q E p hr => F.run A outer s H args us vs Q E p (hr.mono h)⟩
abbrev cxDH (P : Program) (w : World) (K : PySem.W.Frag) (mg : Str → Option Value) (base : Heap) (N : List Str) (qual : Str) (sc : Scope) (f : Addr) (cdv : Value) (A : Around) (outer : List Env) (s : Shared) (H : Hp) (E : XK) (p : Addr × Obj) : Cx := cxH (L2N.CX P w) P w K mg base N qual sc f cdv A outer s H E p
theorem dfnH {x qual : Str} {st : Stmt} {f : Addr} {fd : FuncData} {N ps : List Str} {k : Nat} {asp : ASp} (F : Fun K x qual st f fd) (S : FnScope N ps (defScope st)) (hlen : ∀ ds M Φ Ψ, asp ds M Φ Ψ → ds.length = ps.length)
    (hb : ∀ (cdv : Value) (A : Around) (outer : List Env) (s : Shared) (H : Hp) (E : XK) (p : Addr × Obj), Hot1 A p → RoomH k (A.deeper (envOfC qual (defScope st) s.heap.objs.size f cdv)) → ∀ ds M Φ Ψ, asp ds M Φ Ψ →
      ∃ ta, DSs (cxDH P w K mg base N qual (defScope st) f cdv A outer s H E p) (ctD B E Ψ) (defBody st) ta ∧ ta { nx := fun _ M => Φ .non M, rt := Φ } (startD N ds) M) : FnH P w K mg base (L2N.CX P w) (k + 1) f fd ps (conc K B asp) := by
  obtain ⟨oc, od, kV, doc, pm, an, cdv, ct, osl, rfl, lk, hcd⟩ := F.ex
  exact fn_ofH lk hcd S (conc_len hlen) fun A outer s H vs Q E p hot hr h => body_go rfl h (hb cdv A outer s H E p hot hr)
/-- the body's context bears what is handled -/
theorem hot_cx {N : List Str} {qual : Str} {sc : Scope} {f : Addr} {cdv : Value} {A : Around} {outer : List Env} {s : Shared} {H : Hp} {E : XK} {p : Addr × Obj} (h : Hot1 A p) : HotC (cxDH P w K mg base N qual sc f cdv A outer s H E p) :=
  ⟨p, ⟨h.1, h.2⟩, List.mem_cons_self⟩
end
section
variable {X : Cx} {T : Ct} {e : Expr} {pos : Pos} {es : List Expr} {tr : AA}
theorem hot_suite {C dd : Addr} {a : Addr} {oe : Obj} {pn : List (Addr × Obj)} (hz : L2N.Zn (.ref C) (some dd) oe) (hf : ∃ vs, oe.data = .fields vs) : HotC (X.suite a ((a, oe) :: pn)) := by
  obtain ⟨vs, e⟩ := hf
  exact ⟨(a, oe), ⟨rfl, vs, e, hz.2.2 vs e⟩, List.mem_cons_self⟩
theorem room_suite {k : Nat} {a : Addr} {pn : List (Addr × Obj)} (hr : Room k X.A) : RoomH k (X.suite a pn).A := ⟨hr.dp, hr.un⟩
theorem de_callH {x : Str} {p : Pos} {k : Nat} {f : Addr} {fd : FuncData} {ps : List Str} {asp : ASp} (G : FnH X.prog X.w X.K X.mg X.base (L2N.CX X.prog X.w) k f fd ps (conc X.K T.B asp)) (hr : RoomH k X.A) (hc : HotC X) (hg : Gl X x) (hm : X.mg x = some (.ref f)) (hk : PySem.W.keepIn X.K (.ref f) = true)
    (hb : Binds X.K fd ps []) (tk : L2N.Takes X T.W) (ha : DA X T (e :: es) tr)
    (hdb : (x == ("__debug__" : Str)) = false := by decide) (he : starEach (e :: es) X.env = (false, eval e X.env) :: starEach es X.env := by rfl) (hpl : (backTo pos (starEach es X.env)).any (·.1) = false := by rfl) :
    DE X T (.Call (.Name x p) (e :: es) [] pos) (aCall asp [] T.Ψ tr) :=
  de_of (pe_callH G hr hc hg hm hk hb (fun σ => L2N.passAt tk σ) ha hdb he hpl) fun F σ H Γ M Φ Q w q z => cA_mk w q fun ds M1 vs F1 H1 s1 h1 i1 q1 =>
    ⟨ds ++ [], F1, M1, Φ, fun x M2 => T.Ψ x Γ M2, (by rw [List.append_nil]; exact i1), h1, q1, fun d M2 v F2 H2 s2 h2 i2 q2 => z d M2 v F2 H2 (s1.trans s2) h2 i2 q2, fun y cls d M2 F2 H2 s2 h2 xi q2 => w.l y cls d Γ M2 σ F2 H2 (s1.trans s2) (w.v.mono (s1.trans s2)) h2 xi q2⟩
end
end DL

set_option Elab.async false
set_option linter.all false
set_option maxRecDepth 100000
set_option maxHeartbeats 2000000
/-! DR5: x in xs, of flat data; == within an except suite. -/
namespace DL
open PySem L2
open L2H (RoomH)
section
variable {X : Cx} {T : Ct} {K : PySem.W.Frag} {B : Bx} {F : Hp} {e a b : Expr} {pos p : Pos} {ta tb : AE}
def flatD : D → Bool
  | .non => true
  | .bl _ => true
  | .int _ => true
  | .str _ => true
  | _ => false
def eqFD : D → D → Bool
  | .non, .non => true
  | .bl a, .bl b => a == b
  | .bl a, .int b => (if a then 1 else 0) == b
  | .int a, .bl b => a == (if b then 1 else 0)
  | .int a, .int b => a == b
  | .str a, .str b => a == b
  | _, _ => false
theorem flat_of {d : D} {v : V} (i : Is K F v d) (h : flatD d = true) : flatV v = true := by
  cases d <;> first
    | exact Bool.noConfusion h
    | (cases i; rfl)
theorem flat_all : ∀ {vs : List V} {ds : List D}, IsL K F vs ds → ds.all flatD = true → vs.all flatV = true
  | _, _, .nil, _ => rfl
  | _, _, .cons i l, h => by
    rw [List.all_cons, Bool.and_eq_true] at h
    rw [List.all_cons, flat_of i h.1, flat_all l h.2]
    rfl
theorem eqF_of {d e : D} {u v : V} (i : Is K F u d) (j : Is K F v e) (h1 : flatD d = true) (h2 : flatD e = true) : eqV u v = eqFD d e := by
  cases d <;> cases e <;> first
    | exact Bool.noConfusion h1
    | exact Bool.noConfusion h2
    | (cases i; cases j; rfl)
theorem in_of {d : D} {v : V} (j : Is K F v d) (hd : flatD d = true) : ∀ {vs : List V} {ds : List D}, IsL K F vs ds → ds.all flatD = true → inV v vs = ds.any fun y => eqFD y d
  | _, _, .nil, _ => rfl
  | _, _, .cons i l, h => by
    rw [List.all_cons, Bool.and_eq_true] at h
    have := in_of j hd l h.2
    unfold inV at this ⊢
    rw [List.any_cons, List.any_cons, eqF_of i j h.1 hd, this]
/-- x in xs, x not in xs -/
def fIn (neg : Bool → Bool) (d e : D) (M : Mm) (Φ : AK) : Prop := seqOf e M fun xs => (flatD d = true ∧ xs.all flatD = true) ∧ Φ (.bl (neg (xs.any fun y => eqFD y d))) M
theorem ab_in : Ab2 K B (rIn K false) (fIn fun b => b) := fun F H x y d g M Φ Q h i1 i2 q z => by
  obtain ⟨l, vs, xs, rfl, hq, il, ⟨h1, h2⟩, q⟩ := seq_at h i2 q
  refine ⟨l, vs, rfl, hq, flat_of i1 h1, flat_all il h2, ?_⟩
  rw [in_of i1 h1 il h2]
  exact z _ M _ F H (Same.refl F) h (.bl _) q
theorem ab_notIn : Ab2 K B (rIn K true) (fIn fun b => !b) := fun F H x y d g M Φ Q h i1 i2 q z => by
  obtain ⟨l, vs, xs, rfl, hq, il, ⟨h1, h2⟩, q⟩ := seq_at h i2 q
  refine ⟨l, vs, rfl, hq, flat_of i1 h1, flat_all il h2, ?_⟩
  rw [in_of i1 h1 il h2]
  exact z _ M _ F H (Same.refl F) h (.bl _) q
theorem de_in (ha : DE X T a ta) (hb : DE X T b tb) (hm : behindInMarks .In b = false := by rfl) : DE X T (.Compare a [.In] [b] pos) (aOp (fIn fun b => b) ta tb) := de_cmp op_in_seq ab_in ha hb hm
theorem de_notIn (ha : DE X T a ta) (hb : DE X T b tb) (hm : behindInMarks .NotIn b = false := by rfl) : DE X T (.Compare a [.NotIn] [b] pos) (aOp (fIn fun b => !b) ta tb) := de_cmp op_notIn_seq ab_notIn ha hb hm
theorem dt_in (ha : DE X T a ta) (hb : DE X T b tb) (hm : behindInMarks .In b = false := by rfl) : DT X T (.Compare a [.In] [b] pos) (aB (aOp (fIn fun b => b) ta tb)) := dt_cmp op_in_seq ab_in ha hb hm
theorem dt_notIn (ha : DE X T a ta) (hb : DE X T b tb) (hm : behindInMarks .NotIn b = false := by rfl) : DT X T (.Compare a [.NotIn] [b] pos) (aB (aOp (fIn fun b => !b) ta tb)) := dt_cmp op_notIn_seq ab_notIn ha hb hm
theorem in_ints {ns : List Int} {i : Int} : ((ns.map D.int).any fun y => eqFD y (.int i)) = decide (i ∈ ns) := by
  rw [List.any_map]
  induction ns with
  | nil => rfl
  | cons n ns ih =>
    rw [List.any_cons, ih]
    show ((n == i) || decide (i ∈ ns)) = _
    by_cases h : n = i
    · subst h
      simp
    · have h2 : ¬ i = n := fun z => h z.symm
      simp [h, h2]
theorem flat_ints {ns : List Int} : (ns.map D.int).all flatD = true := by
  rw [List.all_eq_true]
  intro d hd
  obtain ⟨x, _, rfl⟩ := List.mem_map.mp hd
  rfl
theorem fIn_ints {neg : Bool → Bool} {i : Int} {ns : List Int} {M : Mm} {Φ : AK} : fIn neg (.int i) (.lst (ns.map D.int)) M Φ = ((flatD (.int i) = true ∧ (ns.map D.int).all flatD = true) ∧ Φ (.bl (neg ((ns.map D.int).any fun y => eqFD y (.int i)))) M) := rfl
/-! == where an exception is handled -/
theorem units_H {k : Nat} (hr : RoomH k X.A) : X.A.units + 64 < cLine := by have := hr.un; omega
theorem op_eqHH {k : Nat} (hr : RoomH k X.A) : OpR X (compareOp .Eq) (fun x y H Q => (scal x y = true ∧ Q (.bl (decide (x = y))) H) ∨ (∃ d e, Dp X.K H x d ∧ Dp X.K H y e ∧ SeqAt.shaped d = true ∧ SeqAt.shaped e = true ∧ Q (.bl (PyData.eqv d e)) H)) := op_eq.or (op_eqD (units_H hr))
theorem op_neHH {k : Nat} (hr : RoomH k X.A) : OpR X (compareOp .NotEq) (fun x y H Q => (scal x y = true ∧ Q (.bl (!decide (x = y))) H) ∨ (∃ d e, Dp X.K H x d ∧ Dp X.K H y e ∧ SeqAt.shaped d = true ∧ SeqAt.shaped e = true ∧ Q (.bl (!PyData.eqv d e)) H)) := op_ne.or (op_neD (units_H hr))
theorem de_eqH {k : Nat} (hr : RoomH k X.A) (ha : DE X T a ta) (hb : DE X T b tb) : DE X T (.Compare a [.Eq] [b] pos) (aOp fEq ta tb) := de_cmp (op_eqHH hr) (ab_eqG (neg := fun b => b)) ha hb
theorem de_neH {k : Nat} (hr : RoomH k X.A) (ha : DE X T a ta) (hb : DE X T b tb) : DE X T (.Compare a [.NotEq] [b] pos) (aOp fNe ta tb) := de_cmp (op_neHH hr) (ab_eqG (neg := fun b => !b)) ha hb
theorem dt_eqH {k : Nat} (hr : RoomH k X.A) (ha : DE X T a ta) (hb : DE X T b tb) : DT X T (.Compare a [.Eq] [b] pos) (aB (aOp fEq ta tb)) := dt_cmp (op_eqHH hr) (ab_eqG (neg := fun b => b)) ha hb
theorem dt_neH {k : Nat} (hr : RoomH k X.A) (ha : DE X T a ta) (hb : DE X T b tb) : DT X T (.Compare a [.NotEq] [b] pos) (aB (aOp fNe ta tb)) := dt_cmp (op_neHH hr) (ab_eqG (neg := fun b => !b)) ha hb
end
end DL

set_option Elab.async false
set_option linter.all false
set_option maxRecDepth 100000
set_option maxHeartbeats 2000000
/-! DR6: a op b op c op d. -/
namespace DL
open PySem L2 PyProof.Rows
section
variable {X : Cx} {T : Ct} {a b c d : Expr} {pos : Pos} {ta tb tc td : AE}
def tChain3 (r r' r2 : R2) (ta tb tc td : TE) : TE := fun σ H Q => ta σ H fun x H1 => tb σ H1 fun y H2 => r x y H2 fun z H3 => ∃ k, z = .bl k ∧
  (if k = true then tc σ H3 fun w' H4 => r' y w' H4 (fun z2 H5 => ∃ k2, z2 = .bl k2 ∧ (if k2 = true then td σ H5 fun u' H6 => r2 w' u' H6 Q else Q (.bl false) H5)) else Q (.bl false) H3)
theorem pe_chain3 {op op' op2 : CmpOp} {r r' r2 : R2} {ta tb tc td : TE} (ho : OpR X (compareOp op) r) (ho' : OpR X (compareOp op') r') (ho2 : OpR X (compareOp op2) r2) (ha : PE X a ta) (hb : PE X b tb) (hc : PE X c tc) (hd : PE X d td)
    (hm : lastMarks [op, op', op2] [b, c, d] = false := by with_unfolding_all rfl) : PE X (.Compare a [op, op', op2] [b, c, d] pos) (tChain3 r r' r2 ta tb tc td) := by
  refine ⟨fun pins s σ H Q I h => ?_⟩
  refine Compare_chain (thn (ha.run pins s σ H _ I h) fun v s1 ⟨x, H1, I1, r1, q1⟩ => chain_link (thn (hb.run pins s1 σ H1 _ I1 q1) fun u s2 ⟨y, H2, I2, r2, q2⟩ =>
    thn (ho pins s2 σ H2 x y v u _ I2 r1 r2 q2) fun d s3 ⟨z, H3, I3, r3, k, e, q3⟩ => ?_)) hm
  subst e
  cases r3
  refine wpAny_truthy_bool ?_
  cases k with
  | false => exact ite_ff ⟨.bl false, H3, I3, rfl, q3⟩
  | true =>
    refine ite_tt (chain_link (thn (hc.run pins s3 σ H3 _ I3 q3) fun w' s4 ⟨z', H4, I4, r4, q4⟩ => thn (ho' pins s4 σ H4 y z' u w' _ I4 r2 r4 q4) fun d5 s5 ⟨z5, H5, I5, r5, k5, e5, q5⟩ => ?_))
    subst e5
    cases r5
    refine wpAny_truthy_bool ?_
    cases k5 with
    | false => exact ite_ff ⟨.bl false, H5, I5, rfl, q5⟩
    | true => exact ite_tt (chain_last (thn (hd.run pins s5 σ H5 _ I5 q5) fun w6 s6 ⟨z6, H6, I6, r6, q6⟩ => ho2 pins s6 σ H6 z' z6 w' w6 Q I6 r4 r6 q6))
def aChain3_k (g g2 : A2) (tc td : AE) (Γ : Gm) (Φ : AK) (e : D) (z : D) (M3 : Mm) : Prop := match z with
  | .bl k => (k = true → tc Γ M3 fun h M4 => g e h M4 fun z2 M5 => aChain_k g2 td Γ Φ h z2 M5) ∧ (k = false → Φ (.bl false) M3)
  | _ => False
def aChain3 (f g g2 : A2) (ta tb tc td : AE) (Γ : Gm) (M : Mm) (Φ : AK) : Prop := ta Γ M fun d M1 => tb Γ M1 fun e M2 => f d e M2 fun z M3 => aChain3_k g g2 tc td Γ Φ e z M3
theorem aChain3_bl {g g2 : A2} {tc td : AE} {Γ : Gm} {Φ : AK} {e : D} {b : Bool} {M : Mm} : aChain3_k g g2 tc td Γ Φ e (.bl b) M = ((b = true → tc Γ M fun h M4 => g e h M4 fun z2 M5 => aChain_k g2 td Γ Φ h z2 M5) ∧ (b = false → Φ (.bl false) M)) := rfl
theorem de_chain3 {op op' op2 : CmpOp} {r r' r2 : R2} {f g g2 : A2} (ho : OpR X (compareOp op) r) (ho' : OpR X (compareOp op') r') (ho2 : OpR X (compareOp op2) r2) (hr : Ab2 X.K T.B r f) (hr' : Ab2 X.K T.B r' g) (hr2 : Ab2 X.K T.B r2 g2) (ha : DE X T a ta) (hb : DE X T b tb) (hc : DE X T c tc) (hd : DE X T d td)
    (hm : lastMarks [op, op', op2] [b, c, d] = false := by with_unfolding_all rfl) : DE X T (.Compare a [op, op', op2] [b, c, d] pos) (aChain3 f g g2 ta tb tc td) :=
  de_of (pe_chain3 ho ho' ho2 ha hb hc hd hm) fun F σ H Γ M Φ Q w q z => cE_mk w q fun d M1 x F1 H1 s1 h1 i1 q1 => cE_mk (w.go s1 h1) q1 fun e M2 y F2 H2 s2 h2 i2 q2 => hr F2 H2 x y d e M2 _ _ h2 (i1.mono s2) i2 q2 fun k M3 v F3 H3 s3 h3 i3 q3 => by
    unfold aChain3_k at q3
    split at q3
    · rename_i k
      cases i3
      refine ⟨k, rfl, ?_⟩
      cases k with
      | true =>
        exact cE_mk (((w.go s1 h1).go s2 h2).go s3 h3) (q3.1 rfl) fun c M4 u F4 H4 s4 h4 i4 q4 => hr' F4 H4 y u e c M4 _ _ h4 ((i2.mono s3).mono s4) i4 q4 fun k5 M5 v5 F5 H5 s5 h5 i5 q5 => by
          unfold aChain_k at q5
          split at q5
          · rename_i k5
            cases i5
            refine ⟨k5, rfl, ?_⟩
            cases k5 with
            | true => exact cE_mk (((((w.go s1 h1).go s2 h2).go s3 h3).go s4 h4).go s5 h5) (q5.1 rfl) fun e6 M6 u6 F6 H6 s6 h6 i6 q6 => hr2 F6 H6 u u6 c e6 M6 Φ Q h6 ((i4.mono s5).mono s6) i6 q6 fun d M7 v F7 H7 s7 h7 i7 q7 => z d M7 v F7 H7 ((((((s1.trans s2).trans s3).trans s4).trans s5).trans s6).trans s7) h7 i7 q7
            | false => exact z _ M5 _ F5 H5 ((((s1.trans s2).trans s3).trans s4).trans s5) h5 (.bl false) (q5.2 rfl)
          · exact q5.elim
      | false => exact z _ M3 _ F3 H3 ((s1.trans s2).trans s3) h3 (.bl false) (q3.2 rfl)
    · exact q3.elim
end
end DL

set_option Elab.async false
set_option linter.all false
set_option maxRecDepth 100000
set_option maxHeartbeats 4000000
namespace K26
open PySem L2 DL
def topS (i : Nat) : Stmt := PySem.Challenge.pw_evergreedy_k26_whole_slots_and_streams.main.body.getD i (.Pass ⟨0, 0, 0, 0⟩)
abbrev s_slots_in : Stmt := topS 1
abbrev n_slots_in : List Str := ["rate", "beats"]
theorem st_slots_in (a0 a1 : D) : startD n_slots_in [a0, a1] = [some a0, some a1] := rfl
theorem sc_slots_in : FnScope n_slots_in ["rate", "beats"] (defScope s_slots_in) := ⟨rfl, rfl, rfl, by decide +kernel, rfl, by decide +kernel, by decide +kernel⟩
abbrev s_is_slot : Stmt := topS 2
abbrev n_is_slot : List Str := ["rate", "at"]
theorem st_is_slot (a0 a1 : D) : startD n_is_slot [a0, a1] = [some a0, some a1] := rfl
theorem sc_is_slot : FnScope n_is_slot ["rate", "at"] (defScope s_is_slot) := ⟨rfl, rfl, rfl, by decide +kernel, rfl, by decide +kernel, by decide +kernel⟩
abbrev s_slot_beats : Stmt := topS 3
abbrev n_slot_beats : List Str := ["rate", "beats", "at"]
theorem st_slot_beats (a0 a1 : D) : startD n_slot_beats [a0, a1] = [some a0, some a1, none] := rfl
theorem sc_slot_beats : FnScope n_slot_beats ["rate", "beats"] (defScope s_slot_beats) := ⟨rfl, rfl, rfl, by decide +kernel, rfl, by decide +kernel, by decide +kernel⟩
abbrev s_late_in : Stmt := topS 4
abbrev n_late_in : List Str := ["rate", "beats", "late", "last"]
theorem st_late_in (a0 a1 a2 : D) : startD n_late_in [a0, a1, a2] = [some a0, some a1, some a2, none] := rfl
theorem sc_late_in : FnScope n_late_in ["rate", "beats", "late"] (defScope s_late_in) := ⟨rfl, rfl, rfl, by decide +kernel, rfl, by decide +kernel, by decide +kernel⟩
abbrev s_slots_until : Stmt := topS 5
abbrev n_slots_until : List Str := ["rate", "beats", "at"]
theorem st_slots_until (a0 a1 a2 : D) : startD n_slots_until [a0, a1, a2] = [some a0, some a1, some a2] := rfl
theorem sc_slots_until : FnScope n_slots_until ["rate", "beats", "at"] (defScope s_slots_until) := ⟨rfl, rfl, rfl, by decide +kernel, rfl, by decide +kernel, by decide +kernel⟩
abbrev s_slots_within : Stmt := topS 6
abbrev n_slots_within : List Str := ["rate", "spans", "begin", "beats", "found", "first", "many"]
theorem st_slots_within (a0 a1 a2 a3 : D) : startD n_slots_within [a0, a1, a2, a3] = [some a0, some a1, some a2, some a3, none, none, none] := rfl
theorem sc_slots_within : FnScope n_slots_within ["rate", "spans", "begin", "beats"] (defScope s_slots_within) := ⟨rfl, rfl, rfl, by decide +kernel, rfl, by decide +kernel, by decide +kernel⟩
abbrev s_most_slots : Stmt := topS 7
abbrev n_most_slots : List Str := ["rate", "spans", "beats", "found", "first", "many", "at"]
theorem st_most_slots (a0 a1 a2 : D) : startD n_most_slots [a0, a1, a2] = [some a0, some a1, some a2, none, none, none, none] := rfl
theorem sc_most_slots : FnScope n_most_slots ["rate", "spans", "beats"] (defScope s_most_slots) := ⟨rfl, rfl, rfl, by decide +kernel, rfl, by decide +kernel, by decide +kernel⟩
abbrev s_are_apart : Stmt := topS 8
abbrev n_are_apart : List Str := ["spans", "at"]
theorem st_are_apart (a0 : D) : startD n_are_apart [a0] = [some a0, none] := rfl
theorem sc_are_apart : FnScope n_are_apart ["spans"] (defScope s_are_apart) := ⟨rfl, rfl, rfl, by decide +kernel, rfl, by decide +kernel, by decide +kernel⟩
abbrev s_most_told : Stmt := topS 9
abbrev n_most_told : List Str := ["rate", "beats"]
theorem st_most_told (a0 a1 : D) : startD n_most_told [a0, a1] = [some a0, some a1] := rfl
theorem sc_most_told : FnScope n_most_told ["rate", "beats"] (defScope s_most_told) := ⟨rfl, rfl, rfl, by decide +kernel, rfl, by decide +kernel, by decide +kernel⟩
abbrev s_is_integer : Stmt := topS 14
abbrev n_is_integer : List Str := ["value"]
theorem st_is_integer (a0 : D) : startD n_is_integer [a0] = [some a0] := rfl
theorem sc_is_integer : FnScope n_is_integer ["value"] (defScope s_is_integer) := ⟨rfl, rfl, rfl, by decide +kernel, rfl, by decide +kernel, by decide +kernel⟩
abbrev s_is_number : Stmt := topS 15
abbrev n_is_number : List Str := ["value", "most"]
theorem st_is_number (a0 a1 : D) : startD n_is_number [a0, a1] = [some a0, some a1] := rfl
theorem sc_is_number : FnScope n_is_number ["value", "most"] (defScope s_is_number) := ⟨rfl, rfl, rfl, by decide +kernel, rfl, by decide +kernel, by decide +kernel⟩
abbrev s_common_divisor : Stmt := topS 18
abbrev n_common_divisor : List Str := ["one", "other"]
theorem st_common_divisor (a0 a1 : D) : startD n_common_divisor [a0, a1] = [some a0, some a1] := rfl
theorem sc_common_divisor : FnScope n_common_divisor ["one", "other"] (defScope s_common_divisor) := ⟨rfl, rfl, rfl, by decide +kernel, rfl, by decide +kernel, by decide +kernel⟩
abbrev s_lowest : Stmt := topS 19
abbrev n_lowest : List Str := ["top", "bottom", "by"]
theorem st_lowest (a0 a1 : D) : startD n_lowest [a0, a1] = [some a0, some a1, none] := rfl
theorem sc_lowest : FnScope n_lowest ["top", "bottom"] (defScope s_lowest) := ⟨rfl, rfl, rfl, by decide +kernel, rfl, by decide +kernel, by decide +kernel⟩
abbrev s_is_fraction : Stmt := topS 20
abbrev n_is_fraction : List Str := ["value", "one"]
theorem st_is_fraction (a0 : D) : startD n_is_fraction [a0] = [some a0, none] := rfl
theorem sc_is_fraction : FnScope n_is_fraction ["value"] (defScope s_is_fraction) := ⟨rfl, rfl, rfl, by decide +kernel, rfl, by decide +kernel, by decide +kernel⟩
abbrev s_is_rate : Stmt := topS 21
abbrev n_is_rate : List Str := ["value"]
theorem st_is_rate (a0 : D) : startD n_is_rate [a0] = [some a0] := rfl
theorem sc_is_rate : FnScope n_is_rate ["value"] (defScope s_is_rate) := ⟨rfl, rfl, rfl, by decide +kernel, rfl, by decide +kernel, by decide +kernel⟩
abbrev s_need_rate : Stmt := topS 22
abbrev n_need_rate : List Str := ["rate"]
theorem st_need_rate (a0 : D) : startD n_need_rate [a0] = [some a0] := rfl
theorem sc_need_rate : FnScope n_need_rate ["rate"] (defScope s_need_rate) := ⟨rfl, rfl, rfl, by decide +kernel, rfl, by decide +kernel, by decide +kernel⟩
abbrev s_sum_of : Stmt := topS 23
abbrev n_sum_of : List Str := ["one", "other"]
theorem st_sum_of (a0 a1 : D) : startD n_sum_of [a0, a1] = [some a0, some a1] := rfl
theorem sc_sum_of : FnScope n_sum_of ["one", "other"] (defScope s_sum_of) := ⟨rfl, rfl, rfl, by decide +kernel, rfl, by decide +kernel, by decide +kernel⟩
abbrev s_product_of : Stmt := topS 24
abbrev n_product_of : List Str := ["one", "other"]
theorem st_product_of (a0 a1 : D) : startD n_product_of [a0, a1] = [some a0, some a1] := rfl
theorem sc_product_of : FnScope n_product_of ["one", "other"] (defScope s_product_of) := ⟨rfl, rfl, rfl, by decide +kernel, rfl, by decide +kernel, by decide +kernel⟩
abbrev s_is_less : Stmt := topS 25
abbrev n_is_less : List Str := ["one", "other"]
theorem st_is_less (a0 a1 : D) : startD n_is_less [a0, a1] = [some a0, some a1] := rfl
theorem sc_is_less : FnScope n_is_less ["one", "other"] (defScope s_is_less) := ⟨rfl, rfl, rfl, by decide +kernel, rfl, by decide +kernel, by decide +kernel⟩
abbrev s__law_heap : Stmt := topS 27
abbrev n__law_heap : List Str := ["script", "cells", "stir", "cell"]
theorem st__law_heap (a0 : D) : startD n__law_heap [a0] = [some a0, none, none, none] := rfl
theorem sc__law_heap : FnScope n__law_heap ["script"] (defScope s__law_heap) := ⟨rfl, rfl, rfl, by decide +kernel, rfl, by decide +kernel, by decide +kernel⟩
abbrev s__law_draw : Stmt := topS 28
abbrev n__law_draw : List Str := ["heap", "many", "rest"]
theorem st__law_draw (a0 a1 : D) : startD n__law_draw [a0, a1] = [some a0, some a1, none] := rfl
theorem sc__law_draw : FnScope n__law_draw ["heap", "many"] (defScope s__law_draw) := ⟨rfl, rfl, rfl, by decide +kernel, rfl, by decide +kernel, by decide +kernel⟩
abbrev s__law_pick : Stmt := topS 29
abbrev n__law_pick : List Str := ["heap", "some"]
theorem st__law_pick (a0 a1 : D) : startD n__law_pick [a0, a1] = [some a0, some a1] := rfl
theorem sc__law_pick : FnScope n__law_pick ["heap", "some"] (defScope s__law_pick) := ⟨rfl, rfl, rfl, by decide +kernel, rfl, by decide +kernel, by decide +kernel⟩
abbrev s__law_like : Stmt := topS 30
abbrev n__law_like : List Str := ["told", "due", "at"]
theorem st__law_like (a0 a1 : D) : startD n__law_like [a0, a1] = [some a0, some a1, none] := rfl
theorem sc__law_like : FnScope n__law_like ["told", "due"] (defScope s__law_like) := ⟨rfl, rfl, rfl, by decide +kernel, rfl, by decide +kernel, by decide +kernel⟩
abbrev s__law_divisor : Stmt := topS 31
abbrev n__law_divisor : List Str := ["one", "other", "turn"]
theorem st__law_divisor (a0 a1 : D) : startD n__law_divisor [a0, a1] = [some a0, some a1, none] := rfl
theorem sc__law_divisor : FnScope n__law_divisor ["one", "other"] (defScope s__law_divisor) := ⟨rfl, rfl, rfl, by decide +kernel, rfl, by decide +kernel, by decide +kernel⟩
abbrev s__law_rate : Stmt := topS 32
abbrev n__law_rate : List Str := ["heap", "least", "bottom", "top", "by"]
theorem st__law_rate (a0 a1 : D) : startD n__law_rate [a0, a1] = [some a0, some a1, none, none, none] := rfl
theorem sc__law_rate : FnScope n__law_rate ["heap", "least"] (defScope s__law_rate) := ⟨rfl, rfl, rfl, by decide +kernel, rfl, by decide +kernel, by decide +kernel⟩
abbrev s__law_bucket : Stmt := topS 33
abbrev n__law_bucket : List Str := ["rate", "beats", "level", "found", "at"]
theorem st__law_bucket (a0 a1 : D) : startD n__law_bucket [a0, a1] = [some a0, some a1, none, none, none] := rfl
theorem sc__law_bucket : FnScope n__law_bucket ["rate", "beats"] (defScope s__law_bucket) := ⟨rfl, rfl, rfl, by decide +kernel, rfl, by decide +kernel, by decide +kernel⟩
abbrev s__law_spans : Stmt := topS 34
abbrev n__law_spans : List Str := ["heap", "begin", "found", "apart", "turn", "many", "at"]
theorem st__law_spans (a0 : D) : startD n__law_spans [a0] = [some a0, none, none, none, none, none, none] := rfl
theorem sc__law_spans : FnScope n__law_spans ["heap"] (defScope s__law_spans) := ⟨rfl, rfl, rfl, by decide +kernel, rfl, by decide +kernel, by decide +kernel⟩
abbrev s__law_most : Stmt := topS 35
abbrev n__law_most : List Str := ["row", "beats", "one", "first"]
theorem st__law_most (a0 a1 : D) : startD n__law_most [a0, a1] = [some a0, some a1, none, none] := rfl
theorem sc__law_most : FnScope n__law_most ["row", "beats"] (defScope s__law_most) := ⟨rfl, rfl, rfl, by decide +kernel, rfl, by decide +kernel, by decide +kernel⟩
abbrev s__law_streams : Stmt := topS 36
abbrev n__law_streams : List Str := ["heap", "rate", "spans", "apart", "row", "first", "many", "at", "turn", "beats", "begin", "due", "one", "most", "told"]
theorem st__law_streams (a0 a1 : D) : startD n__law_streams [a0, a1] = [some a0, some a1, none, none, none, none, none, none, none, none, none, none, none, none, none] := rfl
theorem sc__law_streams : FnScope n__law_streams ["heap", "rate"] (defScope s__law_streams) := ⟨rfl, rfl, rfl, by decide +kernel, rfl, by decide +kernel, by decide +kernel⟩
abbrev s__law_parts : Stmt := topS 37
abbrev n__law_parts : List Str := ["value", "one"]
theorem st__law_parts (a0 : D) : startD n__law_parts [a0] = [some a0, none] := rfl
theorem sc__law_parts : FnScope n__law_parts ["value"] (defScope s__law_parts) := ⟨rfl, rfl, rfl, by decide +kernel, rfl, by decide +kernel, by decide +kernel⟩
abbrev s__law_fractions : Stmt := topS 38
abbrev n__law_fractions : List Str := ["heap", "rate", "top", "bottom", "odd", "value", "parts", "due", "good", "e", "one", "other", "by", "mate", "low", "high"]
theorem st__law_fractions (a0 a1 : D) : startD n__law_fractions [a0, a1] = [some a0, some a1, none, none, none, none, none, none, none, none, none, none, none, none, none, none] := rfl
theorem sc__law_fractions : FnScope n__law_fractions ["heap", "rate"] (defScope s__law_fractions) := ⟨rfl, rfl, rfl, by decide +kernel, rfl, by decide +kernel, by decide +kernel⟩
abbrev s_law : Stmt := topS 39
abbrev n_law : List Str := ["script", "heap", "turn", "rate", "beats", "row", "at", "many", "told", "late", "due", "one"]
theorem st_law (a0 : D) : startD n_law [a0] = [some a0, none, none, none, none, none, none, none, none, none, none, none] := rfl
theorem sc_law : FnScope n_law ["script"] (defScope s_law) := ⟨rfl, rfl, rfl, by decide +kernel, rfl, by decide +kernel, by decide +kernel⟩
abbrev s_Refused_init : Stmt := clsAt (topS 12) 0
/-- what the top has laid -/
structure Top (P : Program) (K : PySem.W.Frag) (mg : Str → Option Value) where
  f_slots_in : Addr
  d_slots_in : FuncData
  F_slots_in : Fun K "slots_in" "slots_in" s_slots_in f_slots_in d_slots_in
  b_slots_in : Binds K d_slots_in ["rate", "beats"] []
  g_slots_in : mg "slots_in" = some (.ref f_slots_in)
  f_is_slot : Addr
  d_is_slot : FuncData
  F_is_slot : Fun K "is_slot" "is_slot" s_is_slot f_is_slot d_is_slot
  b_is_slot : Binds K d_is_slot ["rate", "at"] []
  g_is_slot : mg "is_slot" = some (.ref f_is_slot)
  f_slot_beats : Addr
  d_slot_beats : FuncData
  F_slot_beats : Fun K "slot_beats" "slot_beats" s_slot_beats f_slot_beats d_slot_beats
  b_slot_beats : Binds K d_slot_beats ["rate", "beats"] []
  g_slot_beats : mg "slot_beats" = some (.ref f_slot_beats)
  f_late_in : Addr
  d_late_in : FuncData
  F_late_in : Fun K "late_in" "late_in" s_late_in f_late_in d_late_in
  b_late_in : Binds K d_late_in ["rate", "beats", "late"] []
  g_late_in : mg "late_in" = some (.ref f_late_in)
  f_slots_until : Addr
  d_slots_until : FuncData
  F_slots_until : Fun K "slots_until" "slots_until" s_slots_until f_slots_until d_slots_until
  b_slots_until : Binds K d_slots_until ["rate", "beats", "at"] []
  g_slots_until : mg "slots_until" = some (.ref f_slots_until)
  f_slots_within : Addr
  d_slots_within : FuncData
  F_slots_within : Fun K "slots_within" "slots_within" s_slots_within f_slots_within d_slots_within
  b_slots_within : Binds K d_slots_within ["rate", "spans", "begin", "beats"] []
  g_slots_within : mg "slots_within" = some (.ref f_slots_within)
  f_most_slots : Addr
  d_most_slots : FuncData
  F_most_slots : Fun K "most_slots" "most_slots" s_most_slots f_most_slots d_most_slots
  b_most_slots : Binds K d_most_slots ["rate", "spans", "beats"] []
  g_most_slots : mg "most_slots" = some (.ref f_most_slots)
  f_are_apart : Addr
  d_are_apart : FuncData
  F_are_apart : Fun K "are_apart" "are_apart" s_are_apart f_are_apart d_are_apart
  b_are_apart : Binds K d_are_apart ["spans"] []
  g_are_apart : mg "are_apart" = some (.ref f_are_apart)
  f_most_told : Addr
  d_most_told : FuncData
  F_most_told : Fun K "most_told" "most_told" s_most_told f_most_told d_most_told
  b_most_told : Binds K d_most_told ["rate", "beats"] []
  g_most_told : mg "most_told" = some (.ref f_most_told)
  f_is_integer : Addr
  d_is_integer : FuncData
  F_is_integer : Fun K "is_integer" "is_integer" s_is_integer f_is_integer d_is_integer
  b_is_integer : Binds K d_is_integer ["value"] []
  g_is_integer : mg "is_integer" = some (.ref f_is_integer)
  f_is_number : Addr
  d_is_number : FuncData
  F_is_number : FunD K "is_number" "is_number" (defArgs s_is_number) (defBody s_is_number) (defScope s_is_number) [V.non] [] f_is_number d_is_number
  b_is_number : Binds K d_is_number ["value", "most"] []
  D0_is_number : List Value
  v0_is_number : Vals [V.non] D0_is_number
  b0_is_number : Binds K d_is_number ["value", "most"] D0_is_number
  g_is_number : mg "is_number" = some (.ref f_is_number)
  f_common_divisor : Addr
  d_common_divisor : FuncData
  F_common_divisor : Fun K "common_divisor" "common_divisor" s_common_divisor f_common_divisor d_common_divisor
  b_common_divisor : Binds K d_common_divisor ["one", "other"] []
  g_common_divisor : mg "common_divisor" = some (.ref f_common_divisor)
  f_lowest : Addr
  d_lowest : FuncData
  F_lowest : Fun K "lowest" "lowest" s_lowest f_lowest d_lowest
  b_lowest : Binds K d_lowest ["top", "bottom"] []
  g_lowest : mg "lowest" = some (.ref f_lowest)
  f_is_fraction : Addr
  d_is_fraction : FuncData
  F_is_fraction : Fun K "is_fraction" "is_fraction" s_is_fraction f_is_fraction d_is_fraction
  b_is_fraction : Binds K d_is_fraction ["value"] []
  g_is_fraction : mg "is_fraction" = some (.ref f_is_fraction)
  f_is_rate : Addr
  d_is_rate : FuncData
  F_is_rate : Fun K "is_rate" "is_rate" s_is_rate f_is_rate d_is_rate
  b_is_rate : Binds K d_is_rate ["value"] []
  g_is_rate : mg "is_rate" = some (.ref f_is_rate)
  f_need_rate : Addr
  d_need_rate : FuncData
  F_need_rate : Fun K "need_rate" "need_rate" s_need_rate f_need_rate d_need_rate
  b_need_rate : Binds K d_need_rate ["rate"] []
  g_need_rate : mg "need_rate" = some (.ref f_need_rate)
  f_sum_of : Addr
  d_sum_of : FuncData
  F_sum_of : Fun K "sum_of" "sum_of" s_sum_of f_sum_of d_sum_of
  b_sum_of : Binds K d_sum_of ["one", "other"] []
  g_sum_of : mg "sum_of" = some (.ref f_sum_of)
  f_product_of : Addr
  d_product_of : FuncData
  F_product_of : Fun K "product_of" "product_of" s_product_of f_product_of d_product_of
  b_product_of : Binds K d_product_of ["one", "other"] []
  g_product_of : mg "product_of" = some (.ref f_product_of)
  f_is_less : Addr
  d_is_less : FuncData
  F_is_less : Fun K "is_less" "is_less" s_is_less f_is_less d_is_less
  b_is_less : Binds K d_is_less ["one", "other"] []
  g_is_less : mg "is_less" = some (.ref f_is_less)
  f__law_heap : Addr
  d__law_heap : FuncData
  F__law_heap : Fun K "_law_heap" "_law_heap" s__law_heap f__law_heap d__law_heap
  b__law_heap : Binds K d__law_heap ["script"] []
  g__law_heap : mg "_law_heap" = some (.ref f__law_heap)
  f__law_draw : Addr
  d__law_draw : FuncData
  F__law_draw : Fun K "_law_draw" "_law_draw" s__law_draw f__law_draw d__law_draw
  b__law_draw : Binds K d__law_draw ["heap", "many"] []
  g__law_draw : mg "_law_draw" = some (.ref f__law_draw)
  f__law_pick : Addr
  d__law_pick : FuncData
  F__law_pick : Fun K "_law_pick" "_law_pick" s__law_pick f__law_pick d__law_pick
  b__law_pick : Binds K d__law_pick ["heap", "some"] []
  g__law_pick : mg "_law_pick" = some (.ref f__law_pick)
  f__law_like : Addr
  d__law_like : FuncData
  F__law_like : Fun K "_law_like" "_law_like" s__law_like f__law_like d__law_like
  b__law_like : Binds K d__law_like ["told", "due"] []
  g__law_like : mg "_law_like" = some (.ref f__law_like)
  f__law_divisor : Addr
  d__law_divisor : FuncData
  F__law_divisor : Fun K "_law_divisor" "_law_divisor" s__law_divisor f__law_divisor d__law_divisor
  b__law_divisor : Binds K d__law_divisor ["one", "other"] []
  g__law_divisor : mg "_law_divisor" = some (.ref f__law_divisor)
  f__law_rate : Addr
  d__law_rate : FuncData
  F__law_rate : Fun K "_law_rate" "_law_rate" s__law_rate f__law_rate d__law_rate
  b__law_rate : Binds K d__law_rate ["heap", "least"] []
  g__law_rate : mg "_law_rate" = some (.ref f__law_rate)
  f__law_bucket : Addr
  d__law_bucket : FuncData
  F__law_bucket : Fun K "_law_bucket" "_law_bucket" s__law_bucket f__law_bucket d__law_bucket
  b__law_bucket : Binds K d__law_bucket ["rate", "beats"] []
  g__law_bucket : mg "_law_bucket" = some (.ref f__law_bucket)
  f__law_spans : Addr
  d__law_spans : FuncData
  F__law_spans : Fun K "_law_spans" "_law_spans" s__law_spans f__law_spans d__law_spans
  b__law_spans : Binds K d__law_spans ["heap"] []
  g__law_spans : mg "_law_spans" = some (.ref f__law_spans)
  f__law_most : Addr
  d__law_most : FuncData
  F__law_most : Fun K "_law_most" "_law_most" s__law_most f__law_most d__law_most
  b__law_most : Binds K d__law_most ["row", "beats"] []
  g__law_most : mg "_law_most" = some (.ref f__law_most)
  f__law_streams : Addr
  d__law_streams : FuncData
  F__law_streams : Fun K "_law_streams" "_law_streams" s__law_streams f__law_streams d__law_streams
  b__law_streams : Binds K d__law_streams ["heap", "rate"] []
  g__law_streams : mg "_law_streams" = some (.ref f__law_streams)
  f__law_parts : Addr
  d__law_parts : FuncData
  F__law_parts : Fun K "_law_parts" "_law_parts" s__law_parts f__law_parts d__law_parts
  b__law_parts : Binds K d__law_parts ["value"] []
  g__law_parts : mg "_law_parts" = some (.ref f__law_parts)
  f__law_fractions : Addr
  d__law_fractions : FuncData
  F__law_fractions : Fun K "_law_fractions" "_law_fractions" s__law_fractions f__law_fractions d__law_fractions
  b__law_fractions : Binds K d__law_fractions ["heap", "rate"] []
  g__law_fractions : mg "_law_fractions" = some (.ref f__law_fractions)
  f_law : Addr
  d_law : FuncData
  F_law : Fun K "law" "law" s_law f_law d_law
  b_law : Binds K d_law ["script"] []
  g_law : mg "law" = some (.ref f_law)
  C_Refused : Addr
  f_Refused_init : Addr
  g_Refused : mg "Refused" = some (.ref C_Refused)
  X_Refused : XCls K P C_Refused f_Refused_init
  I_Refused : ExcC K C_Refused
  C_GreedyError : Addr
  g_GreedyError : mg "GreedyError" = some (.ref C_GreedyError)
  e_Refused_GreedyError : PySem.W.exmOne K (.ref C_Refused) (.ref C_GreedyError) = some true
  i_Refused_Refused : PySem.W.kitOne K (.ref C_Refused) (.ref C_Refused) = some true
  t_MOST_BOTTOM : Tok
  c_MOST_BOTTOM : mg "MOST_BOTTOM" = some (.int (1000) t_MOST_BOTTOM)
  n_super : mg "super" = none
  z_tuple : mg "tuple" = none
  z_range : mg "range" = none
  z_min : mg "min" = none
  z_max : mg "max" = none
  z_all : mg "all" = none
  z_len : mg "len" = none
  z_isinstance : mg "isinstance" = none
  z_int : mg "int" = none
  z_bool : mg "bool" = none
  z_abs : mg "abs" = none
  z_str : mg "str" = none
/-! ### plain values -/
def okD : D → Bool
  | .non => true
  | .bl _ => true
  | .int _ => true
  | .str _ => true
  | .tup _ => true
  | .lst _ => true
  | _ => false
def isI : D → Bool
  | .int _ => true
  | _ => false
def isNum (d : D) (m : Option Int) : Bool := match d with
  | .int i => decide (0 ≤ i) && (match m with
    | some k => decide (i ≤ k)
    | none => true)
  | _ => false
theorem isNum_n {i : Int} : isNum (.int i) none = (decide (0 ≤ i) && true) := rfl
theorem isNum_s {i k : Int} : isNum (.int i) (some k) = (decide (0 ≤ i) && decide (i ≤ k)) := rfl
def isSq : D → Bool
  | .tup _ => true
  | .lst _ => true
  | _ => false
/-! ### sizes -/
theorem log_of {a : Int} {k : Nat} (h0 : 0 ≤ a) (h : a < 2 ^ (k + 1)) : a.natAbs.log2 ≤ k := by
  by_cases z : a.natAbs = 0
  · rw [z]
    exact Nat.zero_le _
  · have : a.natAbs < 2 ^ (k + 1) := by
      have e : ((a.natAbs : Nat) : Int) = a := Int.natAbs_of_nonneg h0
      have : ((a.natAbs : Nat) : Int) < ((2 ^ (k + 1) : Nat) : Int) := by
        rw [e]
        exact_mod_cast h
      omega
    exact Nat.le_of_lt_succ ((Nat.log2_lt z).mpr this)
theorem mulS {a b : Int} (ha : 0 ≤ a) (ha2 : a < 2 ^ 1000) (hb : 0 ≤ b) (hb2 : b < 2 ^ 1000) : MulOk a b := mulW_of (by
  have := log_of (k := 999) ha ha2
  have := log_of (k := 999) hb hb2
  omega)
theorem divS {a b : Int} (hb : 0 < b) (hb2 : b < 2 ^ 1000) : DivOk a b := divW_of hb (by
  have := log_of (k := 999) (by omega) hb2
  omega)
def gcdI (a b : Int) : Int := ((Int.gcd a b : Nat) : Int)
def low (a b : Int) : Int × Int := (a / gcdI a b, b / gcdI a b)
def prD (f : Int × Int) : D := .tup [.int f.1, .int f.2]
def sumF (f g : Int × Int) : Int × Int := low (f.1 * g.2 + g.1 * f.2) (f.2 * g.2)
def mulF (f g : Int × Int) : Int × Int := low (f.1 * g.1) (f.2 * g.2)
theorem gcd_step {a b : Int} (hb : 0 < b) : gcdI b (a % b) = gcdI a b := by
  unfold gcdI
  rw [Int.emod_def, Int.gcd_sub_mul_left_right, Int.gcd_comm]
theorem mul_lt {a b : Int} {j k l : Nat} (ha : 0 ≤ a) (hb : 0 ≤ b) (h1 : a < 2 ^ j) (h2 : b < 2 ^ k) (e : l = j + k) : a * b < 2 ^ l := by
  subst e
  rw [Int.pow_add]
  rcases Int.lt_or_eq_of_le ha with z | z
  · exact Int.lt_of_le_of_lt (Int.mul_le_mul_of_nonneg_left (Int.le_of_lt h2) ha) (Int.mul_lt_mul_of_pos_right h1 (Int.pow_pos (by decide)))
  · subst z
    rw [Int.zero_mul]
    exact Int.mul_pos (Int.pow_pos (by decide)) (Int.pow_pos (by decide))
theorem pow_up {j k : Nat} (hj : j ≤ k) : (2 : Int) ^ j ≤ 2 ^ k := by
  obtain ⟨n, rfl⟩ := Nat.le.dest hj
  rw [Int.pow_add]
  have h1 : (0 : Int) < 2 ^ j := Int.pow_pos (by decide)
  have h2 : (0 : Int) < 2 ^ n := Int.pow_pos (by decide)
  have h3 : (2 : Int) ^ j * 1 ≤ 2 ^ j * 2 ^ n := Int.mul_le_mul_of_nonneg_left (by omega) (by omega)
  omega
theorem big {a : Int} {j : Nat} (h : a < 2 ^ j) (hj : j ≤ 1000) : a < 2 ^ 1000 := Int.lt_of_lt_of_le h (pow_up hj)
/-! ### the promises -/
def sp_is_integer : ASp := fun ds M Φ _ => match ds with
  | [d] => okD d = true ∧ Φ (.bl (isI d)) M
  | _ => False
def sp_is_number : ASp := fun ds M Φ _ => match ds with
  | [d, .non] => okD d = true ∧ Φ (.bl (isNum d none)) M
  | [d, .int k] => okD d = true ∧ Φ (.bl (isNum d (some k))) M
  | _ => False
def sp_is_sequence : ASp := fun ds M Φ _ => match ds with
  | [d] => okD d = true ∧ Φ (.bl (isSq d)) M
  | _ => False
def sp_common_divisor : ASp := fun ds M Φ _ => match ds with
  | [.int a, .int b] => (0 ≤ a ∧ 0 ≤ b) ∧ Φ (.int (gcdI a b)) M
  | _ => False
def sp_lowest : ASp := fun ds M Φ _ => match ds with
  | [.int a, .int b] => (0 ≤ a ∧ 0 < b ∧ b < 2 ^ 1000) ∧ Φ (prD (low a b)) M
  | _ => False
def sp_sum_of : ASp := fun ds M Φ _ => match ds with
  | [.tup [.int a, .int b], .tup [.int c, .int d]] => (0 ≤ a ∧ 0 < b ∧ 0 ≤ c ∧ 0 < d ∧ a < 2 ^ 480 ∧ b < 2 ^ 480 ∧ c < 2 ^ 480 ∧ d < 2 ^ 480) ∧ Φ (prD (sumF (a, b) (c, d))) M
  | _ => False
def sp_product_of : ASp := fun ds M Φ _ => match ds with
  | [.tup [.int a, .int b], .tup [.int c, .int d]] => (0 ≤ a ∧ 0 < b ∧ 0 ≤ c ∧ 0 < d ∧ a < 2 ^ 480 ∧ b < 2 ^ 480 ∧ c < 2 ^ 480 ∧ d < 2 ^ 480) ∧ Φ (prD (mulF (a, b) (c, d))) M
  | _ => False

/-! ### what is alike: ints, None, bools, strings, tuples -/
def shp : Nat → D → Bool
  | _, .int _ => true
  | _, .non => true
  | _, .bl _ => true
  | _, .str _ => true
  | n + 1, .tup ds => decide (ds.length ≤ 1000) && ds.all (shp n)
  | _, _ => false
def spLike : Nat → ASp
  | 0 => fun _ _ _ _ => False
  | n + 1 => fun ds M Φ _ => ∃ t d, ds = [t, d] ∧ (t = d ∧ shp n d = true) ∧ Φ (.bl true) M
theorem fn_false {P : Program} {w : World} {K : PySem.W.Frag} {mg : Str → Option Value} {base : Heap} {CX : CXT} {k : Nat} {f : Addr} {fd : FuncData} {ps : List Str} {B : Bx} : FnOk P w K mg base CX k f fd ps (conc K B fun _ _ _ _ => False) :=
  ⟨fun _ _ _ _ ⟨_, _, _, _, _, _, _, z, _⟩ => z.elim, fun _ _ _ _ _ _ _ _ _ _ _ _ _ ⟨_, _, _, _, _, _, _, z, _⟩ => z.elim⟩
theorem spLike_s {n : Nat} {t d : D} {M : Mm} {Φ : AK} {Ψ : XD → Mm → Prop} (h : t = d) (hs : shp n d = true) (k : Φ (.bl true) M) : spLike (n + 1) [t, d] M Φ Ψ := ⟨t, d, rfl, ⟨h, hs⟩, k⟩
theorem all_true : ∀ n : Nat, (List.replicate n true).all id = true
  | 0 => rfl
  | n + 1 => by
    rw [List.replicate_succ, List.all_cons, all_true n]
    rfl

theorem take_next {α : Type} {xs : List α} {i : Nat} {x : α} (h : xs[i]? = some x) : xs.take (i + 1) = xs.take i ++ [x] := by
  rw [List.take_add_one, h]
  rfl
def sp__law_heap : ASp := fun ds M Φ _ => match ds with
  | [.lst xs] => ∃ ns : List Int, xs = ns.map D.int ∧ ns.length ≤ 63 ∧ ∀ h c (cs : List Int) s, cs.length ≤ 1000 → Φ (.ref h) (heapM h c cs s ++ M)
  | _ => False
theorem euclid_step {x y : Int} {i : Nat} {c : Int} (hy : 0 < y) (h : y < x) (hi : 0 < i) (hz : x * y * 2 ^ (i - 1) ≤ c) : x % y < y ∧ y * (x % y) * 2 ^ (i + 1 - 1) ≤ c := by
  have r0 := Int.emod_nonneg x (by omega : y ≠ 0)
  have r1 := Int.emod_lt_of_pos x hy
  refine ⟨r1, ?_⟩
  have e := Int.emod_add_mul_ediv x y
  have q1 : 1 ≤ x / y := by
    rcases Int.lt_or_le (x / y) 1 with z | z
    · have : y * (x / y) ≤ 0 := Int.mul_nonpos_of_nonneg_of_nonpos (by omega) (by omega)
      omega
    · exact z
  have q2 : y * 1 ≤ y * (x / y) := Int.mul_le_mul_of_nonneg_left q1 (by omega)
  have r2 : 2 * (x % y) ≤ x := by omega
  obtain ⟨j, rfl⟩ : ∃ j, i = j + 1 := ⟨i - 1, by omega⟩
  show y * (x % y) * 2 ^ (j + 1) ≤ c
  have p0 : (0 : Int) < 2 ^ j := Int.pow_pos (by decide)
  have a1 : y * (x % y) * 2 ^ (j + 1) = y * (2 * (x % y)) * 2 ^ j := by
    rw [Int.pow_succ, ← Int.mul_assoc, Int.mul_comm (y * (x % y) * 2 ^ j) 2, ← Int.mul_assoc, ← Int.mul_assoc, Int.mul_left_comm y 2, ← Int.mul_assoc]
  have a2 : y * (2 * (x % y)) ≤ x * y := by
    rw [Int.mul_comm x y]
    exact Int.mul_le_mul_of_nonneg_left r2 (by omega)
  rw [a1]
  exact Int.le_trans (Int.mul_le_mul_of_nonneg_right a2 (by omega)) hz
theorem low_cross {a b : Int} : (low a b).1 * b = (low a b).2 * a := by
  have h1 : gcdI a b * (low a b).1 = a := Int.mul_ediv_cancel' (Int.gcd_dvd_left a b)
  have h2 : gcdI a b * (low a b).2 = b := Int.mul_ediv_cancel' (Int.gcd_dvd_right a b)
  generalize (low a b).1 = x at h1 ⊢
  generalize (low a b).2 = y at h2 ⊢
  generalize gcdI a b = g at h1 h2
  subst h1
  subst h2
  grind
theorem low_one {a b : Int} (hb : 0 < b) : gcdI (low a b).1 (low a b).2 = 1 := by
  have h0 : 0 < Int.gcd a b := Int.gcd_pos_of_ne_zero_right a (by omega)
  show ((Int.gcd (a / ((Int.gcd a b : Nat) : Int)) (b / ((Int.gcd a b : Nat) : Int)) : Nat) : Int) = 1
  rw [Int.gcd_ediv_gcd_ediv_gcd h0]
  rfl

theorem rngI_succ (lo : Int) (n : Nat) : rngI lo (n + 1) = rngI lo n ++ [lo + (n : Nat)] := by
  unfold rngI
  rw [List.range_succ, List.map_append]
  rfl
/-- how many slots so many beats have -/
def Sl (p q n : Int) : Int := p * n / q
section
variable {p q : Int}
theorem Sl_lo (hq : 0 < q) (n : Int) : Sl p q n * q ≤ p * n := Int.ediv_mul_le _ (by omega)
theorem Sl_hi (hq : 0 < q) (n : Int) : p * n < (Sl p q n + 1) * q := Int.lt_ediv_add_one_mul_self _ hq
theorem Sl_nonneg (hp : 0 ≤ p) (hq : 0 < q) {n : Int} (hn : 0 ≤ n) : 0 ≤ Sl p q n := Int.ediv_nonneg (Int.mul_nonneg hp hn) (by omega)
theorem Sl_zero : Sl p q 0 = 0 := by
  unfold Sl
  rw [Int.mul_zero, Int.zero_ediv]
theorem Sl_next (hq : 0 < q) (n : Int) : Sl p q (n + 1) = Sl p q n + (p * n % q + p) / q := by
  unfold Sl
  have e := Int.emod_add_mul_ediv (p * n) q
  have e1 : p * (n + 1) = (p * n % q + p) + q * (p * n / q) := by
    rw [Int.mul_add, Int.mul_one]
    omega
  rw [e1, Int.add_mul_ediv_left _ _ (by omega)]
  omega
theorem slot_iff (hp : 0 ≤ p) (hpq : p ≤ q) (hq : 0 < q) (n : Int) : (Sl p q n < Sl p q (n + 1) ↔ q ≤ p * n % q + p) ∧ Sl p q (n + 1) = Sl p q n + (if q ≤ p * n % q + p then 1 else 0) := by
  have m0 := Int.emod_nonneg (p * n) (by omega : q ≠ 0)
  have m1 := Int.emod_lt_of_pos (p * n) hq
  rw [Sl_next hq n]
  by_cases h : q ≤ p * n % q + p
  · have e : (p * n % q + p) / q = 1 := by
      rw [Int.ediv_eq_iff_of_pos hq]
      omega
    rw [e, if_pos h]
    omega
  · have e : (p * n % q + p) / q = 0 := Int.ediv_eq_zero_of_lt (by omega) (by omega)
    rw [e, if_neg h]
    omega
def isS (p q n : Int) : Bool := decide (Sl p q n < Sl p q (n + 1))
theorem isS_next (hp : 0 ≤ p) (hpq : p ≤ q) (hq : 0 < q) (n : Int) : Sl p q (n + 1) = Sl p q n + (if isS p q n = true then 1 else 0) := by
  obtain ⟨h1, h2⟩ := slot_iff hp hpq hq n
  rw [h2]
  unfold isS
  by_cases h : q ≤ p * n % q + p
  · rw [if_pos h, decide_eq_true (h1.mpr h), if_pos rfl]
  · rw [if_neg h, decide_eq_false (fun z => h (h1.mp z)), if_neg Bool.false_ne_true]
theorem cnt_slots (hp : 0 ≤ p) (hpq : p ≤ q) (hq : 0 < q) (lo : Int) (n : Nat) : (((rngI lo n).filter (isS p q)).length : Int) = Sl p q (lo + n) - Sl p q lo := by
  induction n with
  | zero =>
    show (0 : Int) = Sl p q (lo + 0) - _
    rw [Int.add_zero]
    omega
  | succ n ih =>
    have e := isS_next hp hpq hq (lo + n)
    rw [rngI_succ, List.filter_append, List.length_append, Int.natCast_add, ih, show (lo + ((n + 1 : Nat) : Int)) = lo + n + 1 by omega, e]
    cases h : isS p q (lo + n)
    · rw [List.filter_cons_of_neg (by rw [h]; decide), List.filter_nil, if_neg Bool.false_ne_true]
      show _ + (0 : Int) = _
      omega
    · rw [List.filter_cons_of_pos h, List.filter_nil, if_pos rfl]
      show _ + (1 : Int) = _
      omega
theorem cnt_not (hp : 0 ≤ p) (hpq : p ≤ q) (hq : 0 < q) (lo : Int) (n : Nat) : (((rngI lo n).filter (fun x => !isS p q x)).length : Int) = n - (Sl p q (lo + n) - Sl p q lo) := by
  have a := cnt_slots hp hpq hq lo n
  have b : ∀ l : List Int, (l.filter (isS p q)).length + (l.filter (fun x => !isS p q x)).length = l.length := fun l => by
    induction l with
    | nil => rfl
    | cons x l ih =>
      cases h : isS p q x
      · rw [List.filter_cons_of_neg (by rw [h]; decide), List.filter_cons_of_pos (by rw [h]; rfl), List.length_cons, List.length_cons]
        omega
      · rw [List.filter_cons_of_pos h, List.filter_cons_of_neg (by rw [h]; decide), List.length_cons, List.length_cons]
        omega
  have c := b (rngI lo n)
  have d : (rngI lo n).length = n := by unfold rngI; rw [List.length_map, List.length_range]
  omega
def slots (p q m : Int) : List Int := (rngI 0 m.toNat).filter (isS p q)
def SU (p q m a : Int) : Int := Sl p q (max 0 (min m a))
theorem fl_pos (f : Int → Bool) {x : Int} {l : List Int} (h : f x = true) : ((x :: l).filter f).length = (l.filter f).length + 1 := by
  rw [List.filter_cons_of_pos h, List.length_cons]
theorem fl_neg (f : Int → Bool) {x : Int} {l : List Int} (h : f x = false) : ((x :: l).filter f).length = (l.filter f).length := by
  rw [List.filter_cons_of_neg (by rw [h]; decide)]
theorem cnt_below (hp : 0 ≤ p) (hpq : p ≤ q) (hq : 0 < q) (b : Int) (n : Nat) : ((((rngI 0 n).filter (isS p q)).filter (fun x => decide (x < b))).length : Int) = SU p q n b := by
  induction n with
  | zero =>
    show (0 : Int) = SU p q 0 b
    unfold SU
    rw [show max 0 (min 0 b) = 0 by omega, Sl_zero]
  | succ n ih =>
    have e := isS_next hp hpq hq (n : Int)
    rw [rngI_succ, List.filter_append, List.filter_append, List.length_append, Int.natCast_add, ih, Int.zero_add]
    unfold SU
    cases h : isS p q n
    · rw [h, if_neg Bool.false_ne_true] at e
      rw [List.filter_cons_of_neg (by rw [h]; decide), List.filter_nil, List.filter_nil]
      show _ + (0 : Int) = _
      by_cases hb : (n : Int) < b
      · rw [show max 0 (min (n : Int) b) = n by omega, show max 0 (min ((n + 1 : Nat) : Int) b) = (n : Int) + 1 by omega]
        omega
      · rw [show max 0 (min ((n + 1 : Nat) : Int) b) = max 0 (min (n : Int) b) by omega]
        omega
    · rw [h, if_pos rfl] at e
      rw [List.filter_cons_of_pos h, List.filter_nil]
      by_cases hb : (n : Int) < b
      · rw [fl_pos (fun x => decide (x < b)) (decide_eq_true hb), List.filter_nil, show max 0 (min (n : Int) b) = n by omega, show max 0 (min ((n + 1 : Nat) : Int) b) = (n : Int) + 1 by omega, e]
        rfl
      · rw [fl_neg (fun x => decide (x < b)) (decide_eq_false hb), List.filter_nil, show max 0 (min ((n + 1 : Nat) : Int) b) = max 0 (min (n : Int) b) by omega]
        show _ + (0 : Int) = _
        omega
theorem cnt_win (l : List Int) {a b : Int} (h : a ≤ b) : ((l.filter (fun x => decide (a ≤ x) && decide (x < b))).length : Int) = ((l.filter (fun x => decide (x < b))).length : Int) - ((l.filter (fun x => decide (x < a))).length : Int) := by
  induction l with
  | nil => rfl
  | cons x l ih =>
    by_cases h1 : x < a
    · rw [fl_neg (fun x => decide (a ≤ x) && decide (x < b)) (by rw [decide_eq_false (by omega : ¬ a ≤ x)]; rfl), fl_pos (fun x => decide (x < b)) (decide_eq_true (by omega)), fl_pos (fun x => decide (x < a)) (decide_eq_true h1)]
      omega
    · by_cases h2 : x < b
      · rw [fl_pos (fun x => decide (a ≤ x) && decide (x < b)) (by rw [decide_eq_true (by omega : a ≤ x), decide_eq_true h2]; rfl), fl_pos (fun x => decide (x < b)) (decide_eq_true h2), fl_neg (fun x => decide (x < a)) (decide_eq_false h1)]
        omega
      · rw [fl_neg (fun x => decide (a ≤ x) && decide (x < b)) (by rw [decide_eq_false h2, Bool.and_false]), fl_neg (fun x => decide (x < b)) (decide_eq_false h2), fl_neg (fun x => decide (x < a)) (decide_eq_false h1)]
        exact ih
/-- one span's slots in a window -/
theorem span_win (hp : 0 ≤ p) (hpq : p ≤ q) (hq : 0 < q) (f : Int) {m : Int} (hm : 0 ≤ m) {a b : Int} (h : a ≤ b) :
    ((((slots p q m).map (f + ·)).filter (fun x => decide (a ≤ x) && decide (x < b))).length : Int) = SU p q m (b - f) - SU p q m (a - f) := by
  rw [List.filter_map, List.length_map]
  have e : (fun x => decide (a ≤ x) && decide (x < b)) ∘ (f + ·) = fun x => decide (a - f ≤ x) && decide (x < b - f) := by
    funext x
    show (decide (a ≤ f + x) && decide (f + x < b)) = _
    rw [decide_eq_decide.mpr (show a ≤ f + x ↔ a - f ≤ x by omega), decide_eq_decide.mpr (show f + x < b ↔ x < b - f by omega)]
  rw [e, cnt_win _ (by omega)]
  unfold slots
  rw [cnt_below hp hpq hq, cnt_below hp hpq hq, Int.toNat_of_nonneg hm]
def rowOf (p q : Int) (sp : List (Int × Int)) : List Int := sp.flatMap fun s => (slots p q s.2).map (s.1 + ·)
def within (p q : Int) (sp : List (Int × Int)) (B L : Int) : Int := sp.foldl (fun a s => a + (SU p q s.2 (B + L - s.1) - SU p q s.2 (B - s.1))) 0
def inWin (row : List Int) (B L : Int) : Int := ((row.filter (fun x => decide (B ≤ x) && decide (x < B + L))).length : Int)
theorem foldl_add {α : Type} (f : α → Int) (l : List α) (a : Int) : l.foldl (fun a s => a + f s) a = a + l.foldl (fun a s => a + f s) 0 := by
  induction l generalizing a with
  | nil => show a = a + 0; omega
  | cons x l ih =>
    rw [List.foldl_cons, List.foldl_cons, ih, ih (0 + f x)]
    omega
theorem within_cons {s : Int × Int} {sp : List (Int × Int)} {B L : Int} : within p q (s :: sp) B L = (SU p q s.2 (B + L - s.1) - SU p q s.2 (B - s.1)) + within p q sp B L := by
  unfold within
  rw [List.foldl_cons, foldl_add]
  omega
theorem within_eq (hp : 0 ≤ p) (hpq : p ≤ q) (hq : 0 < q) {sp : List (Int × Int)} (hs : ∀ s ∈ sp, 0 ≤ s.2) {B L : Int} (hL : 0 ≤ L) : inWin (rowOf p q sp) B L = within p q sp B L := by
  induction sp with
  | nil => rfl
  | cons s sp ih =>
    have i := ih fun t ht => hs t (List.mem_cons_of_mem _ ht)
    have a := span_win hp hpq hq s.1 (hs s List.mem_cons_self) (a := B) (b := B + L) (by omega)
    rw [within_cons, ← i, ← a]
    unfold inWin rowOf
    rw [List.flatMap_cons, List.filter_append, List.length_append, Int.natCast_add]
/-! spans that are apart -/
def Apart : List (Int × Int) → Prop
  | [] => True
  | [_] => True
  | s :: t :: sp => s.1 + s.2 ≤ t.1 ∧ Apart (t :: sp)
theorem Sl_super (hq : 0 < q) (a b : Int) : Sl p q a + Sl p q b ≤ Sl p q (a + b) := by
  have h1 := Sl_lo (p := p) hq a
  have h2 := Sl_lo (p := p) hq b
  show _ ≤ p * (a + b) / q
  rw [Int.le_ediv_iff_mul_le hq, Int.mul_add, Int.add_mul]
  omega
theorem Sl_mono (hp : 0 ≤ p) (hq : 0 < q) {a b : Int} (h : a ≤ b) : Sl p q a ≤ Sl p q b := Int.ediv_le_ediv hq (Int.mul_le_mul_of_nonneg_left h hp)
def ceilD (p q L : Int) : Int := (p * L + q - 1) / q
theorem Sl_ceil (hq : 0 < q) (a L : Int) : Sl p q (a + L) - Sl p q a ≤ ceilD p q L := by
  have h1 := Sl_lo (p := p) hq (a + L)
  have h2 := Sl_hi (p := p) hq a
  rw [Int.mul_add] at h1
  rw [Int.add_mul, Int.one_mul] at h2
  show _ ≤ (p * L + q - 1) / q
  rw [Int.le_ediv_iff_mul_le hq, Int.sub_mul]
  omega
theorem Sl_le_ceil (hq : 0 < q) (L : Int) : Sl p q L ≤ ceilD p q L := by
  have := Sl_ceil (p := p) hq 0 L
  rw [Int.zero_add, Sl_zero] at this
  omega
theorem SU_neg {m a : Int} (h : a ≤ 0) : SU p q m a = 0 := by
  unfold SU
  rw [show max 0 (min m a) = 0 by omega, Sl_zero]
theorem within_none {sp : List (Int × Int)} {B L : Int} (hL : 0 ≤ L) (h : ∀ s ∈ sp, B + L ≤ s.1) : within p q sp B L = 0 := by
  induction sp with
  | nil => rfl
  | cons s sp ih =>
    have := h s List.mem_cons_self
    rw [within_cons, ih fun t ht => h t (List.mem_cons_of_mem _ ht), SU_neg (by omega), SU_neg (by omega)]
    rfl
theorem apart_ge : ∀ {s : Int × Int} {sp : List (Int × Int)}, Apart (s :: sp) → (∀ t ∈ s :: sp, 0 ≤ t.2) → ∀ t ∈ sp, s.1 + s.2 ≤ t.1
  | s, [], _, _, t, ht => absurd ht List.not_mem_nil
  | s, u :: sp, h, hs, t, ht => by
    rcases List.mem_cons.mp ht with rfl | ht
    · exact h.1
    · have := apart_ge h.2 (fun v hv => hs v (List.mem_cons_of_mem _ hv)) t ht
      have := hs u (by simp)
      have := h.1
      omega
theorem apart_tail {s : Int × Int} {sp : List (Int × Int)} (h : Apart (s :: sp)) : Apart sp := by
  cases sp with
  | nil => trivial
  | cons t sp => exact h.2
theorem within_move {sp : List (Int × Int)} {B L B' L' : Int} (e : B + L = B' + L') (h : ∀ s ∈ sp, B ≤ s.1 ∧ B' ≤ s.1) : within p q sp B L = within p q sp B' L' := by
  induction sp with
  | nil => rfl
  | cons s sp ih =>
    have := h s List.mem_cons_self
    rw [within_cons, within_cons, ih fun t ht => h t (List.mem_cons_of_mem _ ht), e, SU_neg (a := B - s.1) (by omega), SU_neg (a := B' - s.1) (by omega)]
theorem apart_from (hp : 0 ≤ p) (hq : 0 < q) : ∀ {sp : List (Int × Int)} {B L : Int}, Apart sp → (∀ s ∈ sp, 0 ≤ s.2) → 0 ≤ L → (∀ s ∈ sp, B ≤ s.1) → within p q sp B L ≤ Sl p q L
  | [], B, L, _, _, hL, _ => Sl_nonneg hp hq hL
  | s :: sp, B, L, ha, hs, hL, hB => by
    have hm := hs s List.mem_cons_self
    have hb := hB s List.mem_cons_self
    have hg := apart_ge ha hs
    rw [within_cons, SU_neg (a := B - s.1) (by omega)]
    by_cases h : s.1 + s.2 ≤ B + L
    · rw [within_move (B' := s.1 + s.2) (L' := B + L - (s.1 + s.2)) (by omega) fun t ht => ⟨hB t (List.mem_cons_of_mem _ ht), hg t ht⟩]
      have i := apart_from hp hq (B := s.1 + s.2) (L := B + L - (s.1 + s.2)) (apart_tail ha) (fun t ht => hs t (List.mem_cons_of_mem _ ht)) (by omega) hg
      have e : SU p q s.2 (B + L - s.1) = Sl p q s.2 := by
        unfold SU
        rw [show max 0 (min s.2 (B + L - s.1)) = s.2 by omega]
      have j := Sl_super (p := p) hq s.2 (B + L - (s.1 + s.2))
      have k := Sl_mono hp hq (show s.2 + (B + L - (s.1 + s.2)) ≤ L by omega)
      omega
    · rw [within_none hL fun t ht => by have := hg t ht; omega]
      have e : SU p q s.2 (B + L - s.1) ≤ Sl p q L := Sl_mono hp hq (by omega)
      omega
theorem apart_most (hp : 0 ≤ p) (hq : 0 < q) : ∀ {sp : List (Int × Int)} {B L : Int}, Apart sp → (∀ s ∈ sp, 0 ≤ s.2) → 0 ≤ L → within p q sp B L ≤ ceilD p q L
  | [], B, L, _, _, hL => Int.le_trans (Sl_nonneg hp hq hL) (Sl_le_ceil hq L)
  | s :: sp, B, L, ha, hs, hL => by
    have hm := hs s List.mem_cons_self
    have hg := apart_ge ha hs
    have hs' : ∀ t ∈ sp, 0 ≤ t.2 := fun t ht => hs t (List.mem_cons_of_mem _ ht)
    by_cases h : B ≤ s.1
    · refine Int.le_trans (apart_from hp hq ha hs hL fun t ht => ?_) (Sl_le_ceil hq L)
      rcases List.mem_cons.mp ht with rfl | ht
      · exact h
      · have := hg t ht
        omega
    · by_cases h2 : s.1 + s.2 ≤ B
      · have i := apart_most hp hq (B := B) (L := L) (apart_tail ha) hs' hL
        have e1 : SU p q s.2 (B + L - s.1) = Sl p q s.2 := by
          unfold SU
          rw [show max 0 (min s.2 (B + L - s.1)) = s.2 by omega]
        have e2 : SU p q s.2 (B - s.1) = Sl p q s.2 := by
          unfold SU
          rw [show max 0 (min s.2 (B - s.1)) = s.2 by omega]
        rw [within_cons, e1, e2]
        omega
      · have e2 : SU p q s.2 (B - s.1) = Sl p q (B - s.1) := by
          unfold SU
          rw [show max 0 (min s.2 (B - s.1)) = B - s.1 by omega]
        have c := Sl_ceil (p := p) hq (B - s.1) L
        rw [within_cons, e2]
        by_cases h3 : s.1 + s.2 ≤ B + L
        · have e1 : SU p q s.2 (B + L - s.1) = Sl p q s.2 := by
            unfold SU
            rw [show max 0 (min s.2 (B + L - s.1)) = s.2 by omega]
          rw [within_move (B' := s.1 + s.2) (L' := B + L - (s.1 + s.2)) (by omega) (fun t ht => by have := hg t ht; omega), e1]
          have i := apart_from hp hq (B := s.1 + s.2) (L := B + L - (s.1 + s.2)) (apart_tail ha) hs' (by omega) hg
          have j := Sl_super (p := p) hq s.2 (B + L - (s.1 + s.2))
          rw [show s.2 + (B + L - (s.1 + s.2)) = B - s.1 + L by omega] at j
          omega
        · have e1 : SU p q s.2 (B + L - s.1) = Sl p q (B - s.1 + L) := by
            unfold SU
            rw [show max 0 (min s.2 (B + L - s.1)) = B - s.1 + L by omega]
          rw [within_none hL fun t ht => by have := hg t ht; omega, e1]
          omega
end
/-! the greatest of some numbers, from 0 on -/
def mostF (l : List Int) : Int := l.foldl max 0
theorem foldl_max (l : List Int) : ∀ a : Int, (a ≤ l.foldl max a ∧ ∀ x ∈ l, x ≤ l.foldl max a) ∧ (l.foldl max a = a ∨ l.foldl max a ∈ l) := by
  induction l with
  | nil => exact fun a => ⟨⟨Int.le_refl _, fun x hx => absurd hx List.not_mem_nil⟩, .inl rfl⟩
  | cons y l ih =>
    intro a
    obtain ⟨⟨h1, h2⟩, h3⟩ := ih (max a y)
    refine ⟨⟨by rw [List.foldl_cons]; omega, fun x hx => ?_⟩, ?_⟩
    · rw [List.foldl_cons]
      rcases List.mem_cons.mp hx with rfl | hx
      · omega
      · exact h2 x hx
    · rw [List.foldl_cons]
      rcases h3 with h3 | h3
      · rw [h3]
        rcases Int.le_total a y with z | z
        · exact .inr (List.mem_cons.mpr (.inl (by omega)))
        · exact .inl (by omega)
      · exact .inr (List.mem_cons_of_mem _ h3)
theorem most_is {l : List Int} {m : Int} (h1 : m ∈ 0 :: l) (h2 : ∀ y ∈ 0 :: l, y ≤ m) : m = mostF l := by
  obtain ⟨⟨a1, a2⟩, a3⟩ := foldl_max l 0
  have b0 := h2 0 List.mem_cons_self
  unfold mostF
  rcases List.mem_cons.mp h1 with rfl | h1
  · rcases a3 with a3 | a3
    · omega
    · have := h2 _ (List.mem_cons_of_mem _ a3)
      omega
  · have := a2 m h1
    rcases a3 with a3 | a3
    · omega
    · have := h2 _ (List.mem_cons_of_mem _ a3)
      omega
theorem most_le {l : List Int} {m : Int} (h0 : 0 ≤ m) (h : ∀ x ∈ l, x ≤ m) : mostF l ≤ m := by
  obtain ⟨_, a3⟩ := foldl_max l 0
  unfold mostF
  rcases a3 with a3 | a3
  · omega
  · exact h _ a3

/-! ### the promises -/
def RP (p q : Int) : Prop := 1 ≤ p ∧ p < q ∧ q ≤ 1000
abbrev Sp2 := Int × Int
def spD (s : Sp2) : D := .tup [.int s.1, .int s.2]
def SpOk (sp : List Sp2) : Prop := sp.length ≤ 5 ∧ ∀ s ∈ sp, (0 ≤ s.1 ∧ s.1 ≤ 1000) ∧ (0 ≤ s.2 ∧ s.2 ≤ 30)
def sp_slots_in : ASp := fun ds M Φ _ => match ds with
  | [.tup [.int p, .int q], .int n] => RP p q ∧ Φ (.int (Sl p q n)) M
  | _ => False
def sp_is_slot : ASp := fun ds M Φ _ => match ds with
  | [.tup [.int p, .int q], .int n] => RP p q ∧ Φ (.bl (isS p q n)) M
  | _ => False
def sp_slot_beats : ASp := fun ds M Φ _ => match ds with
  | [.tup [.int p, .int q], .int n] => RP p q ∧ (0 ≤ n ∧ n ≤ 1000) ∧ Φ (.tup ((slots p q n).map D.int)) M
  | _ => False
def lateF (p q b l : Int) : Int := min l b - Sl p q b + Sl p q (b - min l b)
def sp_late_in : ASp := fun ds M Φ _ => match ds with
  | [.tup [.int p, .int q], .int b, .int l] => RP p q ∧ Φ (.int (lateF p q b l)) M
  | _ => False
def sp_slots_until : ASp := fun ds M Φ _ => match ds with
  | [.tup [.int p, .int q], .int n, .int a] => RP p q ∧ Φ (.int (SU p q n a)) M
  | _ => False
def sp_slots_within : ASp := fun ds M Φ _ => match ds with
  | [.tup [.int p, .int q], .tup xs, .int b, .int l] => RP p q ∧ ∃ sp : List Sp2, xs = sp.map spD ∧ SpOk sp ∧ Φ (.int (within p q sp b l)) M
  | _ => False
def mostW (p q : Int) (sp : List Sp2) (l : Int) : Int := mostF ((rowOf p q sp).map fun x => within p q sp x l)
def sp_most_slots : ASp := fun ds M Φ _ => match ds with
  | [.tup [.int p, .int q], .tup xs, .int l] => RP p q ∧ ∃ sp : List Sp2, xs = sp.map spD ∧ SpOk sp ∧ Φ (.int (mostW p q sp l)) M
  | _ => False
/-- is the span at k apart from the next -/
def gap (sp : List Sp2) (k : Nat) : Bool := match sp[k]?, sp[k + 1]? with
  | some s, some t => decide (s.1 + s.2 ≤ t.1)
  | _, _ => true
def apI (sp : List Sp2) : Bool := (List.range (sp.length - 1)).all (gap sp)
def sp_are_apart : ASp := fun ds M Φ _ => match ds with
  | [.tup xs] => ∃ sp : List Sp2, xs = sp.map spD ∧ SpOk sp ∧ Φ (.bl (apI sp)) M
  | _ => False
def sp_most_told : ASp := fun ds M Φ _ => match ds with
  | [.tup [.int p, .int q], .int l] => RP p q ∧ Φ (.int (ceilD p q l)) M
  | _ => False
/-- values near fractions -/
def okPr (d : D) : Bool := okD d && (match d with
  | .tup xs => xs.all fun d => okD d && (match d with
    | .int v => decide (-1000000000000 ≤ v) && decide (v ≤ 1000000000000)
    | _ => true)
  | _ => true)
def frOf (d : D) : Option (Int × Int) := match d with
  | .tup [.int a, .int b] => if 0 ≤ a ∧ 0 < b then some (a, b) else none
  | _ => none
def isFr (d : D) : Bool := match frOf d with
  | some f => decide (gcdI f.1 f.2 = 1)
  | none => false
def isRt (d : D) : Bool := match frOf d with
  | some f => decide (gcdI f.1 f.2 = 1) && (decide (0 < f.1) && (decide (f.1 < f.2) && decide (f.2 ≤ 1000)))
  | none => false
/-- fractions of whatever size -/
def okFr (d : D) : Prop := okPr d = true ∨ ∃ f : Int × Int, d = prD f ∧ 0 ≤ f.1 ∧ 0 < f.2 ∧ f.2 < 2 ^ 1000
def sp_is_fraction : ASp := fun ds M Φ _ => match ds with
  | [d] => okPr d = true ∧ Φ (.bl (isFr d)) M
  | _ => False
def sp_is_rate : ASp := fun ds M Φ _ => match ds with
  | [d] => okPr d = true ∧ Φ (.bl (isRt d)) M
  | _ => False
def sp_need_rate (CR : Addr) : ASp := fun ds M Φ Ψ => match ds with
  | [d] => okPr d = true ∧ (isRt d = true → Φ .non M) ∧ (isRt d = false → Ψ ⟨CR, .str "rate"⟩ M)
  | _ => False
def sp_is_less : ASp := fun ds M Φ _ => match ds with
  | [.tup [.int a, .int b], .tup [.int c, .int d]] => (0 ≤ a ∧ 0 ≤ b ∧ 0 ≤ c ∧ 0 ≤ d ∧ a < 2 ^ 480 ∧ b < 2 ^ 480 ∧ c < 2 ^ 480 ∧ d < 2 ^ 480) ∧ Φ (.bl (decide (a * d < c * b))) M
  | _ => False
def sp_divisor26 : ASp := fun ds M Φ _ => match ds with
  | [.int a, .int b] => (0 ≤ a ∧ 0 ≤ b ∧ b < 2 ^ 28) ∧ Φ (.int (gcdI a b)) M
  | _ => False
def sp_rate26 (h : Addr) : ASp := fun ds M Φ _ => match ds with
  | [.ref h', .int l] => h' = h ∧ l = 0 ∧ ∀ p q : Int, RP p q → gcdI p q = 1 → Φ (.tup [.int p, .int q]) M
  | _ => False
def sp__law_bucket : ASp := fun ds M Φ _ => match ds with
  | [.tup [.int p, .int q], .int n] => RP p q ∧ (0 ≤ n ∧ n ≤ 1000) ∧ Φ (.lst ((slots p q n).map D.int)) M
  | _ => False
def sp__law_spans (h : Addr) : ASp := fun ds M Φ _ => match ds with
  | [.ref h'] => h' = h ∧ ∀ sp : List Sp2, SpOk sp → Φ (.tup [.tup (sp.map spD), .bl (apI sp)]) M
  | _ => False
def sp__law_most : ASp := fun ds M Φ _ => match ds with
  | [.lst xs, .int l] => ∃ row : List Int, xs = row.map D.int ∧ row.length ≤ 1000 ∧ Φ (.int (mostF (row.map fun x => inWin row x l))) M
  | _ => False
def sp__law_streams (h : Addr) : ASp := fun ds M Φ _ => match ds with
  | [.ref h', .tup [.int p, .int q]] => h' = h ∧ RP p q ∧ Φ (.bl true) M
  | _ => False
def partsD (d : D) : D := match frOf d with
  | some f => prD f
  | none => .non
def sp__law_parts : ASp := fun ds M Φ _ => match ds with
  | [d] => okPr d = true ∧ Φ (partsD d) M
  | _ => False
def sp__law_fractions (h : Addr) : ASp := fun ds M Φ _ => match ds with
  | [.ref h', .tup [.int p, .int q]] => h' = h ∧ RP p q ∧ gcdI p q = 1 ∧ Φ (.bl true) M
  | _ => False
def spLikeH : ASp := fun ds M Φ _ => ∃ t d, ds = [t, d] ∧ (t = d ∧ shp 0 d = true) ∧ Φ (.bl true) M
theorem rngI_mem {lo x : Int} {n : Nat} (h0 : lo ≤ x) (h1 : x < lo + n) : x ∈ rngI lo n := List.mem_map.mpr ⟨(x - lo).toNat, List.mem_range.mpr (by omega), by omega⟩
theorem slots_mem {p q m x : Int} (h : x ∈ slots p q m) : 0 ≤ x ∧ x < max 0 m := by
  have := mem_rngI (List.mem_filter.mp h).1
  omega
theorem slots_len {p q m : Int} : (slots p q m).length ≤ m.toNat := Nat.le_trans (List.length_filter_le _ _) (by rw [rngI_len]; exact Nat.le_refl _)
theorem apI_of {sp : List Sp2} (h : apI sp = true) : Apart sp := by
  unfold apI at h
  rw [List.all_eq_true] at h
  have key : ∀ (sp : List Sp2), (∀ k, k + 1 < sp.length → gap sp k = true) → Apart sp := fun sp => by
    induction sp with
    | nil => exact fun _ => trivial
    | cons s sp ih =>
      intro h
      cases sp with
      | nil => trivial
      | cons t sp =>
        exact ⟨of_decide_eq_true (h 0 (by rw [List.length_cons, List.length_cons]; omega)), ih fun k hk => h (k + 1) (by rw [List.length_cons]; omega)⟩
  exact key sp fun k hk => h k (List.mem_range.mpr (by omega))
theorem frOf_some {d : D} {f : Int × Int} (h : frOf d = some f) : d = prD f ∧ 0 ≤ f.1 ∧ 0 < f.2 := by
  unfold frOf at h
  split at h
  · split at h
    · cases h
      rename_i z
      exact ⟨rfl, z⟩
    · cases h
  · cases h
theorem mostF_snoc {l : List Int} {x : Int} : mostF (l ++ [x]) = max (mostF l) x := by
  unfold mostF
  rw [List.foldl_append]
  rfl
theorem isFr_some {d : D} {f : Int × Int} (h : frOf d = some f) : isFr d = decide (gcdI f.1 f.2 = 1) := by
  unfold isFr
  rw [h]
theorem isFr_none {d : D} (h : frOf d = none) : isFr d = false := by
  unfold isFr
  rw [h]
theorem isRt_some {d : D} {f : Int × Int} (h : frOf d = some f) : isRt d = (decide (gcdI f.1 f.2 = 1) && (decide (0 < f.1) && (decide (f.1 < f.2) && decide (f.2 ≤ 1000)))) := by
  unfold isRt
  rw [h]
theorem isRt_none {d : D} (h : frOf d = none) : isRt d = false := by
  unfold isRt
  rw [h]
theorem isFr_inv {d : D} (h : isFr d = true) : ∃ f, frOf d = some f ∧ d = prD f ∧ 0 ≤ f.1 ∧ 0 < f.2 ∧ gcdI f.1 f.2 = 1 := by
  cases e : frOf d with
  | none =>
    rw [isFr_none e] at h
    cases h
  | some f =>
    rw [isFr_some e] at h
    obtain ⟨h1, h2, h3⟩ := frOf_some e
    exact ⟨f, rfl, h1, h2, h3, of_decide_eq_true h⟩
theorem isRt_no {d : D} (h : isFr d = false) : isRt d = false := by
  cases e : frOf d with
  | none => exact isRt_none e
  | some f =>
    rw [isFr_some e] at h
    rw [isRt_some e, h]
    rfl
theorem frOf_2 {a b : Int} (h : 0 ≤ a ∧ 0 < b) : frOf (.tup [.int a, .int b]) = some (a, b) := if_pos h
theorem frOf_2n {a b : Int} (h : ¬ (0 ≤ a ∧ 0 < b)) : frOf (.tup [.int a, .int b]) = none := if_neg h
theorem frOf_len {xs : List D} (h : xs.length ≠ 2) : frOf (.tup xs) = none := by
  match xs, h with
  | [], _ => rfl
  | [a], _ => cases a <;> rfl
  | [_, _], h => exact absurd rfl h
  | a :: b :: _ :: _, _ => cases a <;> first
    | rfl
    | (cases b <;> rfl)
theorem frOf_num {a b : D} (h : ¬ (isNum a none = true ∧ isNum b none = true)) : frOf (.tup [a, b]) = none := by
  cases a <;> first
    | rfl
    | (cases b <;> first
        | rfl
        | (rename_i x y
           refine frOf_2n fun z => h ⟨?_, ?_⟩
           · rw [isNum_n, decide_eq_true z.1]
             rfl
           · rw [isNum_n, decide_eq_true (by omega : 0 ≤ y)]
             rfl))
theorem num_of {b : D} (h : isNum b none = true) : ∃ v, b = .int v ∧ 0 ≤ v := by
  cases b <;> first
    | exact Bool.noConfusion h
    | (rename_i v
       rw [isNum_n, Bool.and_true] at h
       exact ⟨v, rfl, of_decide_eq_true h⟩)
theorem okPr_2 {a b : D} (h : okPr (.tup [a, b]) = true) : okD a = true ∧ okD b = true ∧ (∀ v, a = .int v → -1000000000000 ≤ v ∧ v ≤ 1000000000000) ∧ ∀ v, b = .int v → -1000000000000 ≤ v ∧ v ≤ 1000000000000 := by
  unfold okPr at h
  simp only [List.all_cons, List.all_nil, Bool.and_eq_true, Bool.and_true] at h
  obtain ⟨_, ⟨h1, h2⟩, h3, h4⟩ := h
  refine ⟨h1, h3, fun v e => ?_, fun v e => ?_⟩
  · subst e
    replace h2 : (decide (-1000000000000 ≤ v) && decide (v ≤ 1000000000000)) = true := by first | exact h2 | (rw [Bool.and_eq_true]; exact h2)
    rw [Bool.and_eq_true] at h2
    exact ⟨of_decide_eq_true h2.1, of_decide_eq_true h2.2⟩
  · subst e
    replace h4 : (decide (-1000000000000 ≤ v) && decide (v ≤ 1000000000000)) = true := by first | exact h4 | (rw [Bool.and_eq_true]; exact h4)
    rw [Bool.and_eq_true] at h4
    exact ⟨of_decide_eq_true h4.1, of_decide_eq_true h4.2⟩
theorem okPr_t {a b : Int} (ha : -1000000000000 ≤ a ∧ a ≤ 1000000000000) (hb : -1000000000000 ≤ b ∧ b ≤ 1000000000000) : okPr (.tup [.int a, .int b]) = true := by
  show (true && ((true && (decide (-1000000000000 ≤ a) && decide (a ≤ 1000000000000))) && ((true && (decide (-1000000000000 ≤ b) && decide (b ≤ 1000000000000))) && true))) = true
  rw [decide_eq_true ha.1, decide_eq_true ha.2, decide_eq_true hb.1, decide_eq_true hb.2]
  rfl
theorem okPr_1 {a : Int} (ha : -1000000000000 ≤ a ∧ a ≤ 1000000000000) : okPr (.tup [.int a]) = true := by
  show (true && ((true && (decide (-1000000000000 ≤ a) && decide (a ≤ 1000000000000))) && true)) = true
  rw [decide_eq_true ha.1, decide_eq_true ha.2]
  rfl
theorem okPr_3 {a b : Int} (ha : -1000000000000 ≤ a ∧ a ≤ 1000000000000) (hb : -1000000000000 ≤ b ∧ b ≤ 1000000000000) : okPr (.tup [.int a, .int b, .int 1]) = true := by
  show (true && ((true && (decide (-1000000000000 ≤ a) && decide (a ≤ 1000000000000))) && ((true && (decide (-1000000000000 ≤ b) && decide (b ≤ 1000000000000))) && (_ && true)))) = true
  rw [decide_eq_true ha.1, decide_eq_true ha.2, decide_eq_true hb.1, decide_eq_true hb.2]
  rfl
def oddA (p q : Int) : List D := [.tup [.int p, .int q], .tup [.int p, .int (q + 1)], .tup [.int (2 * p), .int (2 * q)], .tup [.int q, .int p], .lst [.int p, .int q], .tup [.int p], .tup [.int p, .int q, .int 1], .non, .tup [.bl true, .int 2], .tup [.int 1, .bl true]]
def oddB (p q : Int) : List D := [.tup [.int 0, .int 1], .tup [.int 0, .int 2], .tup [.int 1, .int 1], .tup [.int 1, .int 0], .tup [.int 0, .int 0], .tup [.int (-1), .int 2], .tup [.int 1, .int (-2)], .str "12", .int 3, .tup [.int p, .int 1001], .tup [.int 1000, .int 1001], .tup [.int 1, .int 1000], .tup [.int 999, .int 1000], .tup [.int 5, .int 3]]
theorem odd_okP {p q : Int} (hp : RP p q) : ∀ d ∈ oddA p q ++ oddB p q, okPr d = true := fun d hd => by
  unfold RP at hp
  unfold oddA oddB at hd
  simp only [List.cons_append, List.nil_append, List.mem_cons, List.not_mem_nil, or_false] at hd
  rcases hd with rfl | rfl | rfl | rfl | rfl | rfl | rfl | rfl | rfl | rfl | rfl | rfl | rfl | rfl | rfl | rfl | rfl | rfl | rfl | rfl | rfl | rfl | rfl | rfl <;> first
    | rfl
    | exact okPr_t ⟨by omega, by omega⟩ ⟨by omega, by omega⟩
    | exact okPr_1 ⟨by omega, by omega⟩
    | exact okPr_3 ⟨by omega, by omega⟩ ⟨by omega, by omega⟩
theorem ceil_eq {p q l : Int} (hq : 0 < q) : p * l / q + (if (!decide (p * l % q = 0)) = true then 1 else 0) = ceilD p q l := by
  have e := Int.emod_add_mul_ediv (p * l) q
  have m0 := Int.emod_nonneg (p * l) (by omega : q ≠ 0)
  have m1 := Int.emod_lt_of_pos (p * l) hq
  unfold ceilD
  have e1 : p * l + q - 1 = (p * l % q + q - 1) + q * (p * l / q) := by omega
  rw [e1, Int.add_mul_ediv_left _ _ (by omega)]
  by_cases h : p * l % q = 0
  · have z : (0 + q - 1) / q = 0 := Int.ediv_eq_zero_of_lt (by omega) (by omega)
    rw [decide_eq_true h, h, z]
    show _ + 0 = _
    omega
  · rw [decide_eq_false h]
    have : (p * l % q + q - 1) / q = 1 := by
      rw [Int.ediv_eq_iff_of_pos hq]
      omega
    rw [this]
    show _ + 1 = _
    omega
theorem odd_small {p q : Int} (hp : RP p q) : ∀ d ∈ oddA p q ++ oddB p q, ∀ f, frOf d = some f → f.2 ≤ 2000 := fun d hd ⟨a, b⟩ hf => by
  obtain ⟨e, _, _⟩ := frOf_some hf
  unfold RP at hp
  unfold oddA oddB at hd
  simp only [List.cons_append, List.nil_append, List.mem_cons, List.not_mem_nil, or_false] at hd
  subst e
  show b ≤ 2000
  rcases hd with e | e | e | e | e | e | e | e | e | e | e | e | e | e | e | e | e | e | e | e | e | e | e | e <;> (simp [prD] at e; try omega)

local macro_rules | `(tactic| walk_at "ev") => `(tactic| try dsimp only [aVar, onSlot_ss, onD_s, aC, aOp, aUn, aB, aAnd, aOr, aNot, aAndV, aOrV, aNotV, aIf, aChain, aNil, aCons, aTup, aLst, aLstM, aCB, aNext, aBreak, aCont, aDrop, aRet, aRetN, aIfS, aSet, aPar, aPar3, aAug, aNever, agName, aAsg, aAsg_k, aSetIx, aItS, aRng1, aRng2, aEnum, aZip, aYes, aCall, fAdd, fSub, fMul, fDiv, fMod, fPow, fLt, fLe, fGt, fGe, fEq, fNe, fIs, fIsNot, getI_0, getI_1, getI_2, getI_3, aNoP, aP, aSl, aRev, aRevM, aApp, aPop, aIsi, fNil, aNil?, aNilV, wipeG, List.set_cons_zero, List.set_cons_succ, List.getElem?_cons_zero, List.getElem?_cons_succ, List.cons_append, List.nil_append, List.append_nil, List.map_cons, List.map_nil, List.length_cons, List.length_nil, aB_bl, aAndV_bl, aOrV_bl, aNotV_bl, aChain_bl, aPar_2, aPar3_3, onGm_s, agTup_t, agLst_t, agNil_n, agCons_c, bind_s, aSetIx_r, aItS_l, aItS_t, aRng1_i, aRng2_i, aEnum_l, aZip_l, aZip_t, fI_i, fC_i, fNeg_i, seqOf_l, seqOf_t, seqOf_r, lstOf_l, lstOf_r, fLen_1, fIx_i, aP_i, aSl_l, aSl_r, aRev_l, aRev_r, aRevM_l, aRevM_r, aApp_r, aPop_r, fEq_ii, fEq_ss, fEq_bb, fEq_nn, fEq_ni, fEq_in, fEq_ns, fEq_sn, fEq_is, fEq_si, fEq_ll, fEq_tt, fEq_tl, fEq_lt, fIs_n, fIs_b, isN_n, isN_i, isN_b, isN_s, isN_t, isN_l, isN_r, isN_o, fAbs_i, fInt_i, fInt_b, fMax2_i, fMin2_i, fTuple_1, fList_1, fListM_1, fAll_l, fAny_l, fSum_l, fMaxL_l, fMinL_l, fIsi_i, fIsi_b, fIsi_n, fIsi_s, fIsi_t, fIsi_l, aRaise, aRaise_1, aTry, aXat, aXat_x, aIsX, aIsX_x, aMake, aMakeM, aFld, aFld_i, aFld_r, aFldS, aFldS_r, aEnumA, aEnumA_l, aEnumA_t, aIsi2, fCatT_t, fCatL, fCatM, lsOf_l, lsOf_r, fRepT_t, aRevT, aRevT_t, aIns, aIns_r, fIn, aChain3, aChain3_bl, spPick, spDraw, sp_is_integer, sp_is_number, sp_common_divisor, sp_lowest, sp_sum_of, sp_product_of, prD, spLike, spLikeH, sp__law_heap, spD, sp_slots_in, sp_is_slot, sp_slot_beats, sp_late_in, sp_slots_until, sp_slots_within, sp_most_slots, sp_are_apart, sp_most_told, sp_is_fraction, sp_is_rate, sp_need_rate, sp_is_less, sp_divisor26, sp_rate26, sp__law_bucket, sp__law_spans, sp__law_most, sp__law_streams, sp__law_parts, sp__law_fractions])
local macro_rules | `(tactic| walk_at "isi") => `(tactic| ((try simp only [isi_int_int, isi_int_bool, isi_int_str, isi_int_tuple, isi_int_list, isi_bool_int, isi_bool_bool, isi_bool_str, isi_bool_tuple, isi_bool_list, isi_NoneType_int, isi_NoneType_bool, isi_NoneType_str, isi_NoneType_tuple, isi_NoneType_list, isi_str_int, isi_str_bool, isi_str_str, isi_str_tuple, isi_str_list, isi_tuple_int, isi_tuple_bool, isi_tuple_str, isi_tuple_tuple, isi_tuple_list, isi_list_int, isi_list_bool, isi_list_str, isi_list_tuple, isi_list_list]); walk_at "ev"))
local macro_rules | `(tactic| walk_at "no") => `(tactic| (refine ⟨fun h => Bool.noConfusion h, fun _ => ?_⟩; walk_at "ev"))
local macro_rules | `(tactic| walk_at "yes") => `(tactic| (refine ⟨fun _ => ?_, fun h => Bool.noConfusion h⟩; walk_at "ev"))
local macro_rules | `(tactic| walk_at "go") => `(tactic| (repeat (first | (refine ⟨fun h => Bool.noConfusion h, fun _ => ?_⟩; walk_at "ev"; walk_at "isi") | (refine ⟨fun _ => ?_, fun h => Bool.noConfusion h⟩; walk_at "ev"; walk_at "isi") | (refine aSeq_step ?_; walk_at "ev"; walk_at "isi"))))
local macro_rules | `(tactic| walk_at "st") => `(tactic| (refine aSeq_step ?_; walk_at "ev"))
local macro_rules | `(tactic| walk_at "ok") => `(tactic| first | exact divOk_of (by omega) (by omega) | exact divOk_of (by decide +kernel) (by decide +kernel) | exact Or.inl ⟨by omega, by omega⟩ | exact Or.inr (Or.inl ⟨by omega, by omega⟩) | (show (0 : Int) < _; omega))
local macro_rules | `(tactic| walk_at "mem") => `(tactic| (repeat' (first | (refine List.forall_mem_cons.mpr ⟨?_, ?_⟩) | exact (fun _ h => absurd h List.not_mem_nil) | exact ⟨_, rfl, by omega⟩)))

section
variable {P : Program} {w : World} {K : PySem.W.Frag} {mg : Str → Option Value} {base : Heap}
theorem ok_is_integer (T : Top P K mg) {B : Bx} : FnOk P w K mg base (L2N.CX P w) 1 T.f_is_integer T.d_is_integer ["value"] (conc K B sp_is_integer) := by
  refine dfn T.F_is_integer sc_is_integer (fun ds M Φ Ψ h => ?_) (fun cdv A outer s H E hr ds M Φ Ψ h => ⟨_, (dss_one (ds_ret (de_and (de_isi (n := "int") (by rfl) T.z_isinstance (by rfl) T.z_int (by decide +kernel) (dv 0)) (de_one (de_not (de_isi (n := "bool") (by rfl) T.z_isinstance (by rfl) T.z_bool (by decide +kernel) (dv 0))))))), ?_⟩) <;> (unfold sp_is_integer at h; split at h; rotate_left; exact h.elim)
  · rfl
  · rename_i d
    obtain ⟨hd, h⟩ := h
    rw [st_is_integer]
    cases d <;> first
      | exact Bool.noConfusion hd
      | (walk_at "ev"; walk_at "isi"; walk_at "go"; exact h)
theorem ok_is_number (T : Top P K mg) {B : Bx} : FnOk P w K mg base (L2N.CX P w) 2 T.f_is_number T.d_is_number ["value", "most"] (conc K B sp_is_number) := by
  refine dfnD T.F_is_number sc_is_number (fun ds M Φ Ψ h => ?_) (fun cdv A outer s H E hr ds M Φ Ψ h => ⟨_, (dss_one (ds_ret (de_and (de_call ((ok_is_integer T).mono (by first | decide | exact Nat.le_refl _)) hr (by rfl) T.g_is_integer T.F_is_integer.kp T.b_is_integer (L2N.takes_of rfl rfl rfl rfl) (da_cons (dv 0) da_nil)) (de_and (de_ge (dv 0) de_int) (de_one (de_or (de_is (dv 1) de_non) (de_one (de_le (dv 0) (dv 1))))))))), ?_⟩)
  · unfold sp_is_number at h
    split at h
    · rfl
    · rfl
    · exact h.elim
  · unfold sp_is_number at h
    split at h
    · rename_i d
      obtain ⟨hd, h⟩ := h
      rw [st_is_number]
      walk_at "ev"
      refine ⟨hd, ?_⟩
      cases d with
      | int i =>
        walk_at "ev"
        refine ⟨fun _ => ⟨fun z => ?_, fun z => ?_⟩, fun z => Bool.noConfusion z⟩
        · refine ⟨fun _ => ?_, fun z => Bool.noConfusion z⟩
          rw [isNum_n, z] at h
          exact h
        · rw [isNum_n, z] at h
          exact h
      | _ => first
        | exact Bool.noConfusion hd
        | (walk_at "go"; exact h)
    · rename_i d k
      obtain ⟨hd, h⟩ := h
      rw [st_is_number]
      walk_at "ev"
      refine ⟨hd, ?_⟩
      cases d with
      | int i =>
        walk_at "ev"
        refine ⟨fun _ => ⟨fun z => ?_, fun z => ?_⟩, fun z => Bool.noConfusion z⟩
        · refine ⟨fun z => Bool.noConfusion z, fun _ => ?_⟩
          rw [isNum_s, z] at h
          exact h
        · rw [isNum_s, z] at h
          exact h
      | _ => first
        | exact Bool.noConfusion hd
        | (walk_at "go"; exact h)
    · exact h.elim
theorem ok_common_divisor (T : Top P K mg) {B : Bx} : FnOk P w K mg base (L2N.CX P w) 1 T.f_common_divisor T.d_common_divisor ["one", "other"] (conc K B sp_common_divisor) := by
  refine dfn T.F_common_divisor sc_common_divisor (fun ds M Φ Ψ h => ?_) (fun cdv A outer s H E hr ds M Φ Ψ h => ⟨_, (dss_cons (ds_while (passes_of rfl) (dt_gt (dv 1) de_int)
        (dss_one (ds_par (i := 0) (j := 1) rfl sc_common_divisor.nd rfl rfl (by decide) rfl rfl (da_cons (dv 1) (da_cons (de_mod (dv 0) (dv 1)) da_nil)))))
      (dss_one (ds_ret (dv 0)))), ?_⟩) <;> (unfold sp_common_divisor at h; split at h; rotate_left; exact h.elim)
  · rfl
  · rename_i a b
    obtain ⟨⟨ha, hb⟩, h⟩ := h
    rw [st_common_divisor]
    refine aSeq_step ?_
    refine aWhile_by (fun m Γ' M' => ∃ x y : Int, Γ' = [some (.int x), some (.int y)] ∧ M' = M ∧ m = y.toNat ∧ 0 ≤ x ∧ 0 ≤ y ∧ gcdI x y = gcdI a b) _ ⟨a, b, rfl, rfl, rfl, ha, hb, rfl⟩ ?_
    rintro m Γ' M' ⟨x, y, rfl, rfl, rfl, hx, hy, he⟩
    walk_at "ev"
    refine ⟨fun hb => ?_, fun hb => ?_⟩
    · have hb := of_decide_eq_true hb
      have e0 := Int.emod_nonneg x (by omega : y ≠ 0)
      have e1 := Int.emod_lt_of_pos x hb
      exact ⟨hb, _, by omega, y, x % y, rfl, rfl, rfl, hy, e0, (gcd_step hb).trans he⟩
    · have hb := of_decide_eq_false hb
      obtain rfl : y = 0 := by omega
      have e : gcdI x 0 = x := by
        unfold gcdI
        rw [Int.gcd_zero_right]
        omega
      rw [e] at he
      rw [he]
      exact h
theorem ok_lowest (T : Top P K mg) {B : Bx} : FnOk P w K mg base (L2N.CX P w) 2 T.f_lowest T.d_lowest ["top", "bottom"] (conc K B sp_lowest) := by
  refine dfn T.F_lowest sc_lowest (fun ds M Φ Ψ h => ?_) (fun cdv A outer s H E hr ds M Φ Ψ h => ⟨_, (dss_cons (ds_set (i := 2) sc_lowest.nd rfl (.inl rfl) (de_call ((ok_common_divisor T).mono (by first | decide | exact Nat.le_refl _)) hr (by rfl) T.g_common_divisor T.F_common_divisor.kp T.b_common_divisor (L2N.takes_of rfl rfl rfl rfl) (da_cons (dv 0) (da_cons (dv 1) da_nil))))
      (dss_one (ds_ret (de_tup (da_cons (de_div (dv 0) (dv 2)) (da_cons (de_div (dv 1) (dv 2)) da_nil)))))), ?_⟩) <;> (unfold sp_lowest at h; split at h; rotate_left; exact h.elim)
  · rfl
  · rename_i a b
    obtain ⟨⟨ha, hb, hb2⟩, h⟩ := h
    rw [st_lowest]
    walk_at "st"
    have g0 : 0 < gcdI a b := by
      unfold gcdI
      have := Int.gcd_pos_of_ne_zero_right a (by omega : b ≠ 0)
      omega
    have g1 : gcdI a b ≤ b := Int.le_of_dvd hb (Int.gcd_dvd_right a b)
    refine ⟨⟨ha, by omega⟩, ?_⟩
    walk_at "ev"
    have hg : gcdI a b < 2 ^ 1000 := Int.lt_of_le_of_lt g1 hb2
    exact ⟨divS g0 hg, divS g0 hg, by decide, h⟩
theorem ok_sum_of (T : Top P K mg) {B : Bx} : FnOk P w K mg base (L2N.CX P w) 3 T.f_sum_of T.d_sum_of ["one", "other"] (conc K B sp_sum_of) := by
  refine dfn T.F_sum_of sc_sum_of (fun ds M Φ Ψ h => ?_) (fun cdv A outer s H E hr ds M Φ Ψ h => ⟨_, (dss_one (ds_ret (de_call ((ok_lowest T).mono (by first | decide | exact Nat.le_refl _)) hr (by rfl) T.g_lowest T.F_lowest.kp T.b_lowest (L2N.takes_of rfl rfl rfl rfl) (da_cons (de_add (de_mul (de_item (dv 0) de_int) (de_item (dv 1) de_int)) (de_mul (de_item (dv 1) de_int) (de_item (dv 0) de_int))) (da_cons (de_mul (de_item (dv 0) de_int) (de_item (dv 1) de_int)) da_nil))))), ?_⟩) <;> (unfold sp_sum_of at h; split at h; rotate_left; exact h.elim)
  · rfl
  · rename_i a b c d
    obtain ⟨⟨ha, hb, hc, hd, ha2, hb2, hc2, hd2⟩, h⟩ := h
    rw [st_sum_of]
    walk_at "ev"
    have B := fun {x : Int} (z : x < 2 ^ 480) => big z (by decide)
    refine ⟨mulS ha (B ha2) (by omega) (B hd2), mulS hc (B hc2) (by omega) (B hb2), mulS (by omega) (B hb2) (by omega) (B hd2), ?_⟩
    exact ⟨⟨Int.add_nonneg (Int.mul_nonneg ha (by omega)) (Int.mul_nonneg hc (by omega)), Int.mul_pos hb hd, big (mul_lt (by omega) (by omega) hb2 hd2 rfl) (by decide)⟩, h⟩
theorem ok_product_of (T : Top P K mg) {B : Bx} : FnOk P w K mg base (L2N.CX P w) 3 T.f_product_of T.d_product_of ["one", "other"] (conc K B sp_product_of) := by
  refine dfn T.F_product_of sc_product_of (fun ds M Φ Ψ h => ?_) (fun cdv A outer s H E hr ds M Φ Ψ h => ⟨_, (dss_one (ds_ret (de_call ((ok_lowest T).mono (by first | decide | exact Nat.le_refl _)) hr (by rfl) T.g_lowest T.F_lowest.kp T.b_lowest (L2N.takes_of rfl rfl rfl rfl) (da_cons (de_mul (de_item (dv 0) de_int) (de_item (dv 1) de_int)) (da_cons (de_mul (de_item (dv 0) de_int) (de_item (dv 1) de_int)) da_nil))))), ?_⟩) <;> (unfold sp_product_of at h; split at h; rotate_left; exact h.elim)
  · rfl
  · rename_i a b c d
    obtain ⟨⟨ha, hb, hc, hd, ha2, hb2, hc2, hd2⟩, h⟩ := h
    rw [st_product_of]
    walk_at "ev"
    have B := fun {x : Int} (z : x < 2 ^ 480) => big z (by decide)
    refine ⟨mulS ha (B ha2) hc (B hc2), mulS (by omega) (B hb2) (by omega) (B hd2), ?_⟩
    exact ⟨⟨Int.mul_nonneg ha hc, Int.mul_pos hb hd, big (mul_lt (by omega) (by omega) hb2 hd2 rfl) (by decide)⟩, h⟩

theorem ok__law_draw (T : Top P K mg) : FnOk P w K mg base (L2N.CX P w) 1 T.f__law_draw T.d__law_draw ["heap", "many"] (conc K Bx.no spDrawM) := by
  refine dfn T.F__law_draw sc__law_draw (fun ds M Φ Ψ h => ?_) (fun cdv A outer s H E hr ds M Φ Ψ h => ⟨_, (dss_cons (ds_while (passes_of rfl) (dt_w (dw_and (nilT hr (de_item (dv 0) de_int)) (dw_and1 (dt_eq hr (de_item (de_item (dv 0) de_int) (de_neg de_int)) de_int))))
        (dss_one (ds_expr (de_pop (de_item (dv 0) de_int)))))
      (dss_cons (ds_if (nilT hr (de_item (dv 0) de_int))
        (dss_cons (ds_set (i := 2) sc__law_draw.nd rfl (.inl rfl) (de_pop (de_item (dv 0) de_int)))
          (dss_cons (ds_expr (de_app (de_item (dv 0) de_int) (de_div (dv 2) (dv 1))))
          (dss_one (ds_ret (de_mod (de_callInt (by rfl) T.z_int (dv 2)) (dv 1))))))
        dss_nil)
      (dss_cons (ds_setIx (de_mod (de_callInt (by rfl) T.z_int (de_add (de_mul (de_item (dv 0) de_int) de_int) de_int)) de_int) (dv 0) de_int)
      (dss_one (ds_ret (de_mod (de_callInt (by rfl) T.z_int (de_div (de_item (dv 0) de_int) de_int)) (dv 1))))))), ?_⟩) <;> obtain ⟨h, c, cs, s, n, M1, rfl, rfl, hn, hl, hq⟩ := h
  · rfl
  · rw [st__law_draw]
    refine aSeq_step ?_
    refine aWhile_by (fun m Γ' M' => ∃ cs', Γ' = [some (.ref h), some (.int n), none] ∧ M' = heapM h c cs' s ++ M1 ∧ m = cs'.length ∧ cs'.length ≤ 1000) _ ⟨cs, rfl, rfl, rfl, hl⟩ ?_
    rintro m Γ' M' ⟨cs, rfl, rfl, rfl, hl⟩
    have rest : aSeq
        (aIfS (aNil? (fun b => !b) (aOp fIx (aVar 0) (aC (D.int 0))))
          (aSeq (aSet 2 (aPop (aOp fIx (aVar 0) (aC (D.int 0)))))
            (aSeq (aDrop (aApp (aOp fIx (aVar 0) (aC (D.int 0))) (aOp fDiv (aVar 2) (aVar 1))))
              (aRet (aOp fMod (aCB fInt (aCons (aVar 2) aNil)) (aVar 1))))) aNext)
        (aSeq (aSetIx (aOp fMod (aCB fInt (aCons (aOp fAdd (aOp fMul (aOp fIx (aVar 0) (aC (D.int 1))) (aC (D.int 48271))) (aC (D.int 17))) aNil)) (aC (D.int 2147483647))) (aVar 0) (aC (D.int 1)))
          (aRet (aOp fMod (aCB fInt (aCons (aOp fDiv (aOp fIx (aVar 0) (aC (D.int 1))) (aC (D.int 32))) aNil)) (aVar 1))))
        { nx := fun _ M => Φ D.non M, rt := Φ } [some (D.ref h), some (D.int n), none] ((h, MO.lst [D.ref c, D.int s]) :: (c, MO.lst (List.map D.int cs)) :: M1) := by
      walk_at "st"
      refine ⟨_, .head _, ?_⟩
      walk_at "ev"
      refine ⟨_, .tail _ (.head _), all_ints, fun hb => ?_, fun hb => ?_⟩
      · walk_at "st"
        refine ⟨_, .head _, ?_⟩
        walk_at "ev"
        rcases last_or cs with rfl | ⟨cs, x, rfl⟩
        · cases hb
        · refine ⟨_, .int x, _, .there .here, ?_, ?_⟩
          · simp
          · walk_at "st"
            refine ⟨_, .head _, ?_⟩
            walk_at "ev"
            refine ⟨⟨_, .tail _ (.head _)⟩, hn, _, _, .there .here, ?_, ?_⟩
            · rw [List.map_append, List.map_singleton, List.dropLast_concat, List.length_map]
              rw [List.length_append, List.length_singleton] at hl
              omega
            · walk_at "ev"
              refine ⟨hn.1, ?_⟩
              have e : (List.map D.int (cs ++ [x])).dropLast ++ [D.int (x / n)] = List.map D.int (cs ++ [x / n]) := by
                rw [List.map_append, List.map_singleton, List.dropLast_concat, List.map_append]
                rfl
              rw [e]
              refine hq _ _ _ ?_ (Int.emod_nonneg _ (by have := hn.1; omega)) (Int.emod_lt_of_pos _ hn.1)
              rw [List.length_append] at hl ⊢
              exact hl
      · walk_at "st"
        refine ⟨_, .head _, ?_⟩
        walk_at "ev"
        refine ⟨by walk_at "ok", by walk_at "ok", _, 1, _, rfl, .here, _, .head _, ?_⟩
        walk_at "ev"
        exact ⟨by walk_at "ok", hn.1, hq _ _ _ hl (Int.emod_nonneg _ (by have := hn.1; omega)) (Int.emod_lt_of_pos _ hn.1)⟩
    walk_at "ev"
    refine ⟨_, .head _, ?_⟩
    walk_at "ev"
    refine ⟨_, .tail _ (.head _), all_ints, fun hb => ?_, fun hb => ?_⟩
    · refine ⟨_, .head _, ?_⟩
      walk_at "ev"
      refine ⟨_, .tail _ (.head _), ?_⟩
      rcases last_or cs with rfl | ⟨cs, x, rfl⟩
      · cases hb
      · rw [getI_last (d := .int x) (by simp)]
        walk_at "ev"
        refine ⟨fun h0 => ?_, fun h0 => rest⟩
        refine ⟨_, .head _, ?_⟩
        walk_at "ev"
        refine ⟨_, .int x, _, .there .here, by simp, cs.length, ?_, cs, rfl, ?_, rfl, ?_⟩
        · simp
        · rw [List.map_append, List.map_singleton, List.dropLast_concat]
        · simp at hl
          omega
    · walk_at "no"
      exact rest
theorem ok__law_draw_box (T : Top P K mg) (h c : Addr) : FnOk P w K mg base (L2N.CX P w) 1 T.f__law_draw T.d__law_draw ["heap", "many"] (conc K (bxHeap h c) (spDraw h)) := draw_box (ok__law_draw T) h c
theorem ok__law_pick (T : Top P K mg) (h c : Addr) : FnOk P w K mg base (L2N.CX P w) 2 T.f__law_pick T.d__law_pick ["heap", "some"] (conc K (bxHeap h c) (spPick h)) := by
  refine dfn T.F__law_pick sc__law_pick (fun ds M Φ Ψ h => ?_) (fun cdv A outer s H E hr ds M Φ Ψ hh => ⟨_, (dss_one (ds_ret (de_item (dv 1) (de_call ((ok__law_draw_box T h c).mono (by first | decide | exact Nat.le_refl _)) hr (by rfl) T.g__law_draw T.F__law_draw.kp T.b__law_draw (L2N.takes_of rfl rfl rfl rfl) (da_cons (dv 0) (da_cons (de_len (by rfl) T.z_len (dv 1)) da_nil)))))), ?_⟩)
  · unfold spPick at h
    split at h
    · rfl
    · rfl
    · exact h.elim
  · unfold spPick at hh
    split at hh
    · rename_i h' xs
      obtain ⟨rfl, ⟨h0, h1⟩, hq⟩ := hh
      rw [st__law_pick]
      walk_at "ev"
      refine ⟨rfl, divOk_of (by omega) (by omega), fun r r0 r1 => ?_⟩
      walk_at "ev"
      have hlt : r.toNat < xs.length := by omega
      rw [getI_of r0 (List.getElem?_eq_getElem hlt)]
      exact hq _ (List.getElem_mem hlt)
    · rename_i h' xs
      obtain ⟨rfl, ⟨h0, h1⟩, hq⟩ := hh
      rw [st__law_pick]
      walk_at "ev"
      refine ⟨rfl, divOk_of (by omega) (by omega), fun r r0 r1 => ?_⟩
      walk_at "ev"
      have hlt : r.toNat < xs.length := by omega
      rw [getI_of r0 (List.getElem?_eq_getElem hlt)]
      exact hq _ (List.getElem_mem hlt)
    · exact hh.elim

theorem ok__law_heap (T : Top P K mg) : FnOk P w K mg base (L2N.CX P w) 1 T.f__law_heap T.d__law_heap ["script"] (conc K Bx.no sp__law_heap) := by
  refine dfn T.F__law_heap sc__law_heap (fun ds M Φ Ψ h => ?_) (fun cdv A outer s H E hr ds M Φ Ψ hh => ⟨_, (dss_cons (ds_par (i := 1) (j := 2) rfl sc__law_heap.nd rfl rfl (by decide) rfl rfl (da_cons (de_lc (own := [("cell", 3)]) rfl sc__law_heap.nd (di_seq (de_slL (dv 0) do_none (do_some de_int))) (blkOk_by (N := n__law_heap) (sc := defScope s__law_heap) (by decide +kernel)) (fun _ _ _ _ _ => (dg_name (i := 3) sc__law_heap.nd rfl (.inl rfl))) (fun _ _ _ _ _ => dts_nil) (fun _ _ _ _ _ => (de_mod (de_callInt (by rfl) T.z_int (de_add (de_mul de_int (de_abs (by rfl) T.z_abs (dv 3))) (de_callInt (by rfl) T.z_int (de_lt (dv 3) de_int)))) (de_pow de_int de_int)))) (da_cons de_int da_nil)))
      (dss_cons (ds_for (passes_of rfl) rfl (di_seq (dv 1)) (dg_name (i := 3) sc__law_heap.nd rfl (.inl rfl))
        (dss_one (ds_set (i := 2) sc__law_heap.nd rfl (.inl rfl) (de_mod (de_callInt (by rfl) T.z_int (de_add (de_add (de_mul (dv 2) de_int) (de_mod (de_callInt (by rfl) T.z_int (dv 3)) de_int)) de_int)) de_int))))
      (dss_one (ds_ret (de_lstM (da_cons (de_revM (de_lc (own := [("cell", 3)]) rfl sc__law_heap.nd (di_seq (dv 1)) (blkOk_by (N := n__law_heap) (sc := defScope s__law_heap) (by decide +kernel)) (fun _ _ _ _ _ => (dg_name (i := 3) sc__law_heap.nd rfl (.inl rfl))) (fun _ _ _ _ _ => (dts_one (dt_ge (dv 3) (de_pow de_int de_int)))) (fun _ _ _ _ _ => (dv 3)))) (da_cons (dv 2) da_nil))))))), ?_⟩) <;> (first | (unfold sp__law_heap at h; split at h; rotate_left; exact h.elim) | (unfold sp__law_heap at hh; split at hh; rotate_left; exact hh.elim))
  · rfl
  · rename_i xs
    obtain ⟨ns, rfl, hl, hq⟩ := hh
    rw [st__law_heap]
    walk_at "st"
    refine aLc_int (ns.take 60) D.int (fun x => (2 * (if x < 0 then -x else x) + (if decide (x < 0) = true then 1 else 0)) % (10 ^ Int.toNat 60)) (fun Φ' q => ?_) (by rw [List.length_take]; omega) (fun x hx M' => ⟨_, rfl, fun Φ' q => ?_⟩) ?_
    · walk_at "ev"
      rw [cutD_take (by decide), ← List.map_take]
      exact q
    · walk_at "ev"
      exact ⟨by walk_at "ok", ⟨by decide, by decide, by decide⟩, by show (0 : Int) < _; decide +kernel, q⟩
    walk_at "ev"
    have hlen : ((ns.take 60).map (fun x : Int => (2 * (if x < 0 then -x else x) + (if decide (x < 0) = true then 1 else 0)) % (10 ^ Int.toNat 60))).length ≤ 1000 := by
      rw [List.length_map, List.length_take]
      omega
    generalize (ns.take 60).map (fun x : Int => (2 * (if x < 0 then -x else x) + (if decide (x < 0) = true then 1 else 0)) % (10 ^ Int.toNat 60)) = cells at hlen ⊢
    refine aSeq_step ?_
    refine aFor_map cells D.int (fun i Γ' M' => ∃ z x, Γ' = [some (.lst (List.map D.int ns)), some (.lst (List.map D.int cells)), some (.int z), x] ∧ M' = M) (fun Φ' q => ?_) ⟨_, _, rfl, rfl⟩ ?_ ?_
    · walk_at "ev"
      exact q
    · rintro i x Γ' M' hx ⟨z, u, rfl, rfl⟩
      refine ⟨_, rfl, ?_⟩
      walk_at "ev"
      exact ⟨by walk_at "ok", by walk_at "ok", by walk_at "ok", _, _, rfl, rfl⟩
    · rintro Γ' M' ⟨z, x, rfl, rfl⟩
      walk_at "ev"
      refine aLc_ifid cells D.int (fun x => decide (10 ^ Int.toNat 18 ≤ x)) (fun Φ' q => ?_) (by omega) (fun x hx M' => ⟨_, rfl, fun Φ' q => ?_, fun hf Φ' q => ?_⟩) ?_
      · walk_at "ev"
        exact q
      · walk_at "ev"
        exact ⟨⟨by decide, by decide, by decide⟩, q⟩
      · walk_at "ev"
        exact q
      walk_at "ev"
      intro c
      refine ⟨by decide, fun h => ?_⟩
      rw [← List.map_reverse]
      refine hq h c _ z ?_
      rw [List.length_reverse]
      exact Nat.le_trans (List.length_filter_le _ _) hlen

theorem ok__law_like (T : Top P K mg) {B : Bx} : ∀ n, FnOk P w K mg base (L2N.CX P w) n T.f__law_like T.d__law_like ["told", "due"] (conc K B (spLike n))
  | 0 => fn_false
  | n + 1 => by
    have ih := ok__law_like T (B := B) n
    refine dfn T.F__law_like sc__law_like (fun ds M Φ Ψ h => ?_) (fun cdv A outer s H E hr ds M Φ Ψ h => ⟨_, (dss_cons (ds_if (dt_val (de_isi (n := "tuple") (by rfl) T.z_isinstance (by rfl) T.z_tuple (by decide +kernel) (dv 1)))
        (dss_one (ds_ret (de_and (de_isi (n := "tuple") (by rfl) T.z_isinstance (by rfl) T.z_tuple (by decide +kernel) (dv 0)) (de_and (de_eq hr (de_len (by rfl) T.z_len (dv 0)) (de_len (by rfl) T.z_len (dv 1))) (de_one (de_all rfl (by rfl) T.z_all (de_lc (own := [("at", 2)]) rfl sc__law_like.nd (di_rng1 (by rfl) T.z_range (da_cons (de_len (by rfl) T.z_len (dv 1)) da_nil)) (blkOk_by (N := n__law_like) (sc := defScope s__law_like) (by decide +kernel)) (fun _ _ _ _ _ => (dg_name (i := 2) sc__law_like.nd rfl (.inl rfl))) (fun _ _ _ _ _ => dts_nil) (fun _ _ _ _ _ => (de_call ((ih).mono (by first | decide | exact Nat.le_refl _)) hr (by rfl) T.g__law_like T.F__law_like.kp T.b__law_like tk_calm (da_cons (de_item (dv 0) (dv 2)) (da_cons (de_item (dv 1) (dv 2)) da_nil)))))))))))
        dss_nil)
      (dss_cons (ds_if (dt_is (dv 1) de_non)
        (dss_one (ds_ret (de_is (dv 0) de_non)))
        dss_nil)
      (dss_cons (ds_if (dt_val (de_isi (n := "bool") (by rfl) T.z_isinstance (by rfl) T.z_bool (by decide +kernel) (dv 1)))
        (dss_one (ds_ret (de_if (dt_val (dv 1)) (de_is (dv 0) de_bl) (de_is (dv 0) de_bl))))
        dss_nil)
      (dss_cons (ds_if (dt_val (de_isi (n := "int") (by rfl) T.z_isinstance (by rfl) T.z_int (by decide +kernel) (dv 1)))
        (dss_one (ds_ret (de_and (de_isi (n := "int") (by rfl) T.z_isinstance (by rfl) T.z_int (by decide +kernel) (dv 0)) (de_and (de_not (de_isi (n := "bool") (by rfl) T.z_isinstance (by rfl) T.z_bool (by decide +kernel) (dv 0))) (de_one (de_eq hr (dv 0) (dv 1)))))))
        dss_nil)
      (dss_one (ds_ret (de_and (de_isi (n := "str") (by rfl) T.z_isinstance (by rfl) T.z_str (by decide +kernel) (dv 0)) (de_one (de_eq hr (dv 0) (dv 1)))))))))), ?_⟩) <;> obtain ⟨t, d, rfl, ⟨rfl, hs⟩, h⟩ := h
    · rfl
    · rw [st__law_like]
      cases t with
      | int i =>
        walk_at "go"
        exact h
      | non =>
        walk_at "go"
        exact h
      | bl b =>
        cases b <;> (walk_at "go"; exact h)
      | str x =>
        walk_at "go"
        simp only [decide_true]
        exact h
      | tup ds =>
        cases n with
        | zero => exact Bool.noConfusion hs
        | succ n =>
          have hs2 : (decide (ds.length ≤ 1000) && ds.all (shp n)) = true := hs
          rw [Bool.and_eq_true] at hs2
          obtain ⟨hl, ha⟩ := hs2
          have hl := of_decide_eq_true hl
          walk_at "st"
          walk_at "isi"
          refine ⟨fun _ => ⟨fun _ => ⟨fun _ => ?_, fun z => ?_⟩, fun z => Bool.noConfusion z⟩, fun z => Bool.noConfusion z⟩
          · refine aLc_map (rngI 0 ds.length) D.int (fun _ => .bl true) (fun Φ' q => ?_) (by rw [rngI_len]; omega) (fun x hx M' => ⟨[some (.tup ds), some (.tup ds), some (.int x)], rfl, fun Φ' q => ?_⟩) ?_
            · walk_at "ev"
              rw [rngD_eq]
              exact ⟨by omega, q⟩
            · obtain ⟨x0, x1⟩ := mem_rngI hx
              have hlt : x.toNat < ds.length := by omega
              walk_at "ev"
              rw [getI_of x0 (List.getElem?_eq_getElem hlt)]
              walk_at "ev"
              exact ⟨_, _, rfl, ⟨rfl, List.all_eq_true.mp ha _ (List.getElem_mem hlt)⟩, q⟩
            walk_at "ev"
            refine ⟨List.replicate (rngI 0 ds.length).length true, by rw [List.map_const', List.map_replicate], ?_⟩
            rw [all_true]
            exact h
          · rw [decide_eq_true rfl] at z
            exact Bool.noConfusion z
      | _ => exact Bool.noConfusion (show false = true by cases n <;> exact hs)

theorem ok__law_like_H (T : Top P K mg) {B : Bx} : L2H.FnH P w K mg base (L2N.CX P w) 1 T.f__law_like T.d__law_like ["told", "due"] (conc K B spLikeH) := by
  refine dfnH T.F__law_like sc__law_like (fun ds M Φ Ψ h => ?_) (fun cdv A outer s H E p hot hr ds M Φ Ψ h => ⟨_, (dss_cons (ds_if (dt_val (de_isi (n := "tuple") (by rfl) T.z_isinstance (by rfl) T.z_tuple (by decide +kernel) (dv 1)))
        dss_never
        dss_nil)
      (dss_cons (ds_if (dt_is (dv 1) de_non)
        (dss_one (ds_ret (de_is (dv 0) de_non)))
        dss_nil)
      (dss_cons (ds_if (dt_val (de_isi (n := "bool") (by rfl) T.z_isinstance (by rfl) T.z_bool (by decide +kernel) (dv 1)))
        (dss_one (ds_ret (de_if (dt_val (dv 1)) (de_is (dv 0) de_bl) (de_is (dv 0) de_bl))))
        dss_nil)
      (dss_cons (ds_if (dt_val (de_isi (n := "int") (by rfl) T.z_isinstance (by rfl) T.z_int (by decide +kernel) (dv 1)))
        (dss_one (ds_ret (de_and (de_isi (n := "int") (by rfl) T.z_isinstance (by rfl) T.z_int (by decide +kernel) (dv 0)) (de_and (de_not (de_isi (n := "bool") (by rfl) T.z_isinstance (by rfl) T.z_bool (by decide +kernel) (dv 0))) (de_one (de_eqH hr (dv 0) (dv 1)))))))
        dss_nil)
      (dss_one (ds_ret (de_and (de_isi (n := "str") (by rfl) T.z_isinstance (by rfl) T.z_str (by decide +kernel) (dv 0)) (de_one (de_eqH hr (dv 0) (dv 1)))))))))), ?_⟩) <;> obtain ⟨t, d, rfl, ⟨rfl, hs⟩, h⟩ := h
  · rfl
  · rw [st__law_like]
    cases t with
    | int i =>
      walk_at "go"
      exact h
    | non =>
      walk_at "go"
      exact h
    | bl b =>
      cases b <;> (walk_at "go"; exact h)
    | str x =>
      walk_at "go"
      simp only [decide_true]
      exact h
    | _ => exact Bool.noConfusion hs
theorem ok_slots_in (T : Top P K mg) {B : Bx} : FnOk P w K mg base (L2N.CX P w) 1 T.f_slots_in T.d_slots_in ["rate", "beats"] (conc K B sp_slots_in) := by
  refine dfn T.F_slots_in sc_slots_in (fun ds M Φ Ψ h => ?_) (fun cdv A outer s H E hr ds M Φ Ψ h => ⟨_, (dss_one (ds_ret (de_div (de_mul (de_item (dv 0) de_int) (dv 1)) (de_item (dv 0) de_int)))), ?_⟩) <;> (unfold sp_slots_in at h; split at h; rotate_left; exact h.elim)
  · rfl
  · obtain ⟨⟨p0, p1, q1⟩, h⟩ := h
    rw [st_slots_in]
    walk_at "ev"
    exact ⟨.inl ⟨by omega, by omega⟩, divOk_of (by omega) (by omega), h⟩
theorem ok_is_slot (T : Top P K mg) {B : Bx} : FnOk P w K mg base (L2N.CX P w) 2 T.f_is_slot T.d_is_slot ["rate", "at"] (conc K B sp_is_slot) := by
  refine dfn T.F_is_slot sc_is_slot (fun ds M Φ Ψ h => ?_) (fun cdv A outer s H E hr ds M Φ Ψ h => ⟨_, (dss_one (ds_ret (de_gt (de_call ((ok_slots_in T).mono (by first | decide | exact Nat.le_refl _)) hr (by rfl) T.g_slots_in T.F_slots_in.kp T.b_slots_in (L2N.takes_of rfl rfl rfl rfl) (da_cons (dv 0) (da_cons (de_add (dv 1) de_int) da_nil))) (de_call ((ok_slots_in T).mono (by first | decide | exact Nat.le_refl _)) hr (by rfl) T.g_slots_in T.F_slots_in.kp T.b_slots_in (L2N.takes_of rfl rfl rfl rfl) (da_cons (dv 0) (da_cons (dv 1) da_nil)))))), ?_⟩) <;> (unfold sp_is_slot at h; split at h; rotate_left; exact h.elim)
  · rfl
  · obtain ⟨hp, h⟩ := h
    rw [st_is_slot]
    walk_at "ev"
    exact ⟨hp, hp, h⟩
theorem ok_slot_beats (T : Top P K mg) {B : Bx} : FnOk P w K mg base (L2N.CX P w) 3 T.f_slot_beats T.d_slot_beats ["rate", "beats"] (conc K B sp_slot_beats) := by
  refine dfn T.F_slot_beats sc_slot_beats (fun ds M Φ Ψ h => ?_) (fun cdv A outer s H E hr ds M Φ Ψ h => ⟨_, (dss_one (ds_ret (de_tupleOf (by rfl) T.z_tuple (de_lc (own := [("at", 2)]) rfl sc_slot_beats.nd (di_rng1 (by rfl) T.z_range (da_cons (dv 1) da_nil)) (blkOk_by (N := n_slot_beats) (sc := defScope s_slot_beats) (by decide +kernel)) (fun _ _ _ _ _ => (dg_name (i := 2) sc_slot_beats.nd rfl (.inl rfl))) (fun _ _ _ _ _ => (dts_one (dt_val (de_call ((ok_is_slot T).mono (by first | decide | exact Nat.le_refl _)) hr (by rfl) T.g_is_slot T.F_is_slot.kp T.b_is_slot tk_calm (da_cons (dv 0) (da_cons (dv 2) da_nil)))))) (fun _ _ _ _ _ => (dv 2)))))), ?_⟩) <;> (unfold sp_slot_beats at h; split at h; rotate_left; exact h.elim)
  · rfl
  · rename_i p q n
    obtain ⟨hp, ⟨n0, n1⟩, h⟩ := h
    rw [st_slot_beats]
    walk_at "ev"
    refine aLc_ifid (rngI 0 n.toNat) D.int (isS p q) (fun Φ' z => ?_) (by rw [rngI_len]; omega) (fun x hx M' => ⟨[some (.tup [.int p, .int q]), some (.int n), some (.int x)], rfl, fun Φ' z => ?_, fun hf Φ' z => ?_⟩) ?_
    · walk_at "ev"
      rw [rngD_eq]
      exact ⟨by omega, z⟩
    · walk_at "ev"
      exact ⟨hp, z⟩
    · walk_at "ev"
      exact z
    walk_at "ev"
    exact h
theorem ok_late_in (T : Top P K mg) {B : Bx} : FnOk P w K mg base (L2N.CX P w) 2 T.f_late_in T.d_late_in ["rate", "beats", "late"] (conc K B sp_late_in) := by
  refine dfn T.F_late_in sc_late_in (fun ds M Φ Ψ h => ?_) (fun cdv A outer s H E hr ds M Φ Ψ h => ⟨_, (dss_cons (ds_set (i := 3) sc_late_in.nd rfl (.inl rfl) (de_min2 rfl (by rfl) T.z_min (dv 2) (dv 1)))
      (dss_one (ds_ret (de_add (de_sub (dv 3) (de_call ((ok_slots_in T).mono (by first | decide | exact Nat.le_refl _)) hr (by rfl) T.g_slots_in T.F_slots_in.kp T.b_slots_in (L2N.takes_of rfl rfl rfl rfl) (da_cons (dv 0) (da_cons (dv 1) da_nil)))) (de_call ((ok_slots_in T).mono (by first | decide | exact Nat.le_refl _)) hr (by rfl) T.g_slots_in T.F_slots_in.kp T.b_slots_in (L2N.takes_of rfl rfl rfl rfl) (da_cons (dv 0) (da_cons (de_sub (dv 1) (dv 3)) da_nil))))))), ?_⟩) <;> (unfold sp_late_in at h; split at h; rotate_left; exact h.elim)
  · rfl
  · obtain ⟨hp, h⟩ := h
    rw [st_late_in]
    walk_at "st"
    walk_at "ev"
    exact ⟨hp, hp, h⟩
theorem ok_slots_until (T : Top P K mg) {B : Bx} : FnOk P w K mg base (L2N.CX P w) 2 T.f_slots_until T.d_slots_until ["rate", "beats", "at"] (conc K B sp_slots_until) := by
  refine dfn T.F_slots_until sc_slots_until (fun ds M Φ Ψ h => ?_) (fun cdv A outer s H E hr ds M Φ Ψ h => ⟨_, (dss_one (ds_ret (de_call ((ok_slots_in T).mono (by first | decide | exact Nat.le_refl _)) hr (by rfl) T.g_slots_in T.F_slots_in.kp T.b_slots_in (L2N.takes_of rfl rfl rfl rfl) (da_cons (dv 0) (da_cons (de_max2 rfl (by rfl) T.z_max de_int (de_min2 rfl (by rfl) T.z_min (dv 1) (dv 2))) da_nil))))), ?_⟩) <;> (unfold sp_slots_until at h; split at h; rotate_left; exact h.elim)
  · rfl
  · obtain ⟨hp, h⟩ := h
    rw [st_slots_until]
    walk_at "ev"
    exact ⟨hp, h⟩
theorem ok_slots_within (T : Top P K mg) {B : Bx} : FnOk P w K mg base (L2N.CX P w) 3 T.f_slots_within T.d_slots_within ["rate", "spans", "begin", "beats"] (conc K B sp_slots_within) := by
  refine dfn T.F_slots_within sc_slots_within (fun ds M Φ Ψ h => ?_) (fun cdv A outer s H E hr ds M Φ Ψ h => ⟨_, (dss_cons (ds_set (i := 4) sc_slots_within.nd rfl (.inl rfl) de_int)
      (dss_cons (ds_for (passes_of rfl) rfl (di_seq (dv 1)) (dg_tup rfl (dgs_cons (dg_name (i := 5) sc_slots_within.nd rfl (.inl rfl)) (dgs_cons (dg_name (i := 6) sc_slots_within.nd rfl (.inl rfl)) dgs_nil)) (fix_cons (fix_cons fix_nil)))
        (dss_one (ds_aug (i := 4) sc_slots_within.nd rfl (.inl rfl) (ipr_of iop_add) ab_I0 (de_sub (de_call ((ok_slots_until T).mono (by first | decide | exact Nat.le_refl _)) hr (by rfl) T.g_slots_until T.F_slots_until.kp T.b_slots_until (L2N.takes_of rfl rfl rfl rfl) (da_cons (dv 0) (da_cons (dv 6) (da_cons (de_sub (de_add (dv 2) (dv 3)) (dv 5)) da_nil)))) (de_call ((ok_slots_until T).mono (by first | decide | exact Nat.le_refl _)) hr (by rfl) T.g_slots_until T.F_slots_until.kp T.b_slots_until (L2N.takes_of rfl rfl rfl rfl) (da_cons (dv 0) (da_cons (dv 6) (da_cons (de_sub (dv 2) (dv 5)) da_nil))))))))
      (dss_one (ds_ret (dv 4))))), ?_⟩) <;> (unfold sp_slots_within at h; split at h; rotate_left; exact h.elim)
  · rfl
  · rename_i p q xs b l
    obtain ⟨hp, sp, rfl, hs, h⟩ := h
    rw [st_slots_within]
    walk_at "st"
    refine aSeq_step ?_
    refine aFor_map sp spD (fun i Γ' M' => ∃ x y, Γ' = [some (.tup [.int p, .int q]), some (.tup (sp.map spD)), some (.int b), some (.int l), some (.int (within p q (sp.take i) b l)), x, y] ∧ M' = M) (fun Φ' z => ?_) ⟨_, _, rfl, rfl⟩ ?_ ?_
    · walk_at "ev"
      exact z
    · rintro i s Γ' M' hx ⟨x, y, rfl, rfl⟩
      refine ⟨_, rfl, ?_⟩
      walk_at "ev"
      refine ⟨hp, hp, ?_⟩
      have e : within p q (sp.take (i + 1)) b l = within p q (sp.take i) b l + (SU p q s.2 (b + l - s.1) - SU p q s.2 (b - s.1)) := by
        rw [take_next hx]
        unfold within
        rw [List.foldl_append]
        rfl
      rw [e]
      exact ⟨_, _, rfl, rfl⟩
    · rintro Γ' M' ⟨x, y, rfl, rfl⟩
      rw [List.take_length]
      exact h
theorem ok_most_slots (T : Top P K mg) {B : Bx} : FnOk P w K mg base (L2N.CX P w) 4 T.f_most_slots T.d_most_slots ["rate", "spans", "beats"] (conc K B sp_most_slots) := by
  refine dfn T.F_most_slots sc_most_slots (fun ds M Φ Ψ h => ?_) (fun cdv A outer s H E hr ds M Φ Ψ h => ⟨_, (dss_cons (ds_set (i := 3) sc_most_slots.nd rfl (.inl rfl) de_int)
      (dss_cons (ds_for (passes_of rfl) rfl (di_seq (dv 1)) (dg_tup rfl (dgs_cons (dg_name (i := 4) sc_most_slots.nd rfl (.inl rfl)) (dgs_cons (dg_name (i := 5) sc_most_slots.nd rfl (.inl rfl)) dgs_nil)) (fix_cons (fix_cons fix_nil)))
        (dss_one (ds_for (passes_of rfl) rfl (di_seq (de_call ((ok_slot_beats T).mono (by first | decide | exact Nat.le_refl _)) hr (by rfl) T.g_slot_beats T.F_slot_beats.kp T.b_slot_beats (L2N.takes_of rfl rfl rfl rfl) (da_cons (dv 0) (da_cons (dv 5) da_nil)))) (dg_name (i := 6) sc_most_slots.nd rfl (.inl rfl))
            (dss_one (ds_set (i := 3) sc_most_slots.nd rfl (.inl rfl) (de_max2 rfl (by rfl) T.z_max (dv 3) (de_call ((ok_slots_within T).mono (by first | decide | exact Nat.le_refl _)) hr (by rfl) T.g_slots_within T.F_slots_within.kp T.b_slots_within (L2N.takes_of rfl rfl rfl rfl) (da_cons (dv 0) (da_cons (dv 1) (da_cons (de_add (dv 4) (dv 6)) (da_cons (dv 2) da_nil)))))))))))
      (dss_one (ds_ret (dv 3))))), ?_⟩) <;> (unfold sp_most_slots at h; split at h; rotate_left; exact h.elim)
  · rfl
  · rename_i p q xs l
    obtain ⟨hp, sp, rfl, hs, h⟩ := h
    rw [st_most_slots]
    walk_at "st"
    refine aSeq_step ?_
    refine aFor_map sp spD (fun i Γ' M' => ∃ x y z, Γ' = [some (.tup [.int p, .int q]), some (.tup (sp.map spD)), some (.int l), some (.int (mostF ((rowOf p q (sp.take i)).map fun x => within p q sp x l))), x, y, z] ∧ M' = M) (fun Φ' z => ?_) ⟨_, _, _, rfl, rfl⟩ ?_ ?_
    · walk_at "ev"
      exact z
    · rintro i s Γ' M' hx ⟨x, y, z, rfl, rfl⟩
      refine ⟨_, rfl, ?_⟩
      have hs2 := (hs.2 s (List.mem_of_getElem? hx)).2
      refine aFor_map (slots p q s.2) D.int (fun k Γ2 M2 => ∃ z, Γ2 = [some (.tup [.int p, .int q]), some (.tup (sp.map spD)), some (.int l), some (.int (mostF ((rowOf p q (sp.take i) ++ ((slots p q s.2).take k).map (s.1 + ·)).map fun x => within p q sp x l))), some (.int s.1), some (.int s.2), z] ∧ M2 = M') (fun Φ' z => ?_) ⟨_, by rw [List.take_zero, List.map_nil, List.append_nil]; rfl, rfl⟩ ?_ ?_
      · walk_at "ev"
        exact ⟨hp, ⟨by omega, by omega⟩, z⟩
      · rintro k at_ Γ2 M2 hk ⟨z, rfl, rfl⟩
        refine ⟨_, rfl, ?_⟩
        walk_at "ev"
        refine ⟨hp, sp, rfl, hs, ?_⟩
        walk_at "ev"
        have e : (rowOf p q (sp.take i) ++ ((slots p q s.2).take (k + 1)).map (s.1 + ·)).map (fun x => within p q sp x l) = (rowOf p q (sp.take i) ++ ((slots p q s.2).take k).map (s.1 + ·)).map (fun x => within p q sp x l) ++ [within p q sp (s.1 + at_) l] := by
          rw [take_next hk]
          simp
        rw [e, mostF_snoc]
        exact ⟨_, rfl, rfl⟩
      · rintro Γ2 M2 ⟨z, rfl, rfl⟩
        rw [List.take_length]
        have e : rowOf p q (sp.take (i + 1)) = rowOf p q (sp.take i) ++ (slots p q s.2).map (s.1 + ·) := by
          rw [take_next hx]
          unfold rowOf
          rw [List.flatMap_append, List.flatMap_cons, List.flatMap_nil, List.append_nil]
        rw [e]
        exact ⟨_, _, _, rfl, rfl⟩
    · rintro Γ' M' ⟨x, y, z, rfl, rfl⟩
      rw [List.take_length]
      exact h
theorem ok_are_apart (T : Top P K mg) {B : Bx} : FnOk P w K mg base (L2N.CX P w) 1 T.f_are_apart T.d_are_apart ["spans"] (conc K B sp_are_apart) := by
  refine dfn T.F_are_apart sc_are_apart (fun ds M Φ Ψ h => ?_) (fun cdv A outer s H E hr ds M Φ Ψ h => ⟨_, (dss_one (ds_ret (de_all rfl (by rfl) T.z_all (de_lc (own := [("at", 1)]) rfl sc_are_apart.nd (di_rng2 (by rfl) T.z_range (da_cons de_int (da_cons (de_len (by rfl) T.z_len (dv 0)) da_nil))) (blkOk_by (N := n_are_apart) (sc := defScope s_are_apart) (by decide +kernel)) (fun _ _ _ _ _ => (dg_name (i := 1) sc_are_apart.nd rfl (.inl rfl))) (fun _ _ _ _ _ => dts_nil) (fun _ _ _ _ _ => (de_le (de_add (de_item (de_item (dv 0) (de_sub (dv 1) de_int)) de_int) (de_item (de_item (dv 0) (de_sub (dv 1) de_int)) de_int)) (de_item (de_item (dv 0) (dv 1)) de_int))))))), ?_⟩) <;> (unfold sp_are_apart at h; split at h; rotate_left; exact h.elim)
  · rfl
  · obtain ⟨sp, rfl, hs, h⟩ := h
    rw [st_are_apart]
    walk_at "ev"
    have hl := hs.1
    refine aLc_map (rngI 1 (sp.length - 1)) D.int (fun k => .bl (gap sp (k - 1).toNat)) (fun Φ' z => ?_) (by rw [rngI_len]; omega) (fun x hx M' => ⟨[some (.tup (sp.map spD)), some (.int x)], rfl, fun Φ' z => ?_⟩) ?_
    · walk_at "ev"
      rw [List.length_map]
      refine ⟨⟨by decide, by decide, by omega, by omega⟩, ?_⟩
      rw [rngD_eq, show (((sp.length : Nat) : Int) - 1).toNat = sp.length - 1 by omega]
      exact z
    · obtain ⟨x0, x1⟩ := mem_rngI hx
      have e1 := List.getElem?_eq_getElem (show (x - 1).toNat < sp.length by omega)
      have e2 := List.getElem?_eq_getElem (show (x - 1).toNat + 1 < sp.length by omega)
      have eg : gap sp (x - 1).toNat = decide ((sp[(x - 1).toNat]'(by omega)).1 + (sp[(x - 1).toNat]'(by omega)).2 ≤ (sp[(x - 1).toNat + 1]'(by omega)).1) := by
        unfold gap
        rw [e1, e2]
      have i1 : getI (sp.map spD) (x - 1) = some (spD (sp[(x - 1).toNat]'(by omega))) := getI_of (by omega) (by rw [List.getElem?_map, e1]; rfl)
      have i2 : getI (sp.map spD) x = some (spD (sp[(x - 1).toNat + 1]'(by omega))) := getI_of (by omega) (by rw [List.getElem?_map, show x.toNat = (x - 1).toNat + 1 by omega, e2]; rfl)
      rw [eg] at z
      walk_at "ev"
      rw [i1]
      walk_at "ev"
      rw [i2]
      walk_at "ev"
      exact z
    walk_at "ev"
    refine ⟨(rngI 1 (sp.length - 1)).map fun k => gap sp (k - 1).toNat, by rw [List.map_map]; rfl, ?_⟩
    rw [List.all_map]
    have e : (rngI 1 (sp.length - 1)).all (id ∘ fun k => gap sp (k - 1).toNat) = apI sp := by
      unfold rngI apI
      rw [List.all_map]
      congr 1
      funext k
      show gap sp (1 + (k : Int) - 1).toNat = gap sp k
      rw [show (1 + (k : Int) - 1).toNat = k by omega]
    rw [e]
    exact h
theorem ok_most_told (T : Top P K mg) {B : Bx} : FnOk P w K mg base (L2N.CX P w) 1 T.f_most_told T.d_most_told ["rate", "beats"] (conc K B sp_most_told) := by
  refine dfn T.F_most_told sc_most_told (fun ds M Φ Ψ h => ?_) (fun cdv A outer s H E hr ds M Φ Ψ h => ⟨_, (dss_one (ds_ret (de_div (de_sub (de_add (de_mul (de_item (dv 0) de_int) (dv 1)) (de_item (dv 0) de_int)) de_int) (de_item (dv 0) de_int)))), ?_⟩) <;> (unfold sp_most_told at h; split at h; rotate_left; exact h.elim)
  · rfl
  · obtain ⟨⟨p0, p1, q1⟩, h⟩ := h
    rw [st_most_told]
    walk_at "ev"
    exact ⟨.inl ⟨by omega, by omega⟩, divOk_of (by omega) (by omega), h⟩
theorem ok_is_fraction (T : Top P K mg) {B : Bx} : FnOk P w K mg base (L2N.CX P w) 3 T.f_is_fraction T.d_is_fraction ["value"] (conc K B sp_is_fraction) := by
  refine dfn T.F_is_fraction sc_is_fraction (fun ds M Φ Ψ h => ?_) (fun cdv A outer s H E hr ds M Φ Ψ h => ⟨_, (dss_cons (ds_if (dt_w (dw_or (dt_not (dt_val (de_isi (n := "tuple") (by rfl) T.z_isinstance (by rfl) T.z_tuple (by decide +kernel) (dv 0)))) (dw_or (dt_ne hr (de_len (by rfl) T.z_len (dv 0)) de_int) (dw_or1 (dt_not (dt_val (de_all rfl (by rfl) T.z_all (de_lc (own := [("one", 1)]) rfl sc_is_fraction.nd (di_seq (dv 0)) (blkOk_by (N := n_is_fraction) (sc := defScope s_is_fraction) (by decide +kernel)) (fun _ _ _ _ _ => (dg_name (i := 1) sc_is_fraction.nd rfl (.inl rfl))) (fun _ _ _ _ _ => dts_nil) (fun _ _ _ _ _ => (de_callD (dds := [D.non]) ((ok_is_number T).mono (by first | decide | exact Nat.le_refl _)) hr (by rfl) T.g_is_number T.F_is_number.kp T.b0_is_number T.v0_is_number (fun _ => (.cons (.non) .nil)) tk_calm (da_cons (dv 1) da_nil)))))))))))
        (dss_one (ds_ret de_bl))
        dss_nil)
      (dss_one (ds_ret (de_and (de_gt (de_item (dv 0) de_int) de_int) (de_one (de_eq hr (de_call ((ok_common_divisor T).mono (by first | decide | exact Nat.le_refl _)) hr (by rfl) T.g_common_divisor T.F_common_divisor.kp T.b_common_divisor (L2N.takes_of rfl rfl rfl rfl) (da_cons (de_item (dv 0) de_int) (da_cons (de_item (dv 0) de_int) da_nil))) de_int)))))), ?_⟩) <;> (unfold sp_is_fraction at h; split at h; rotate_left; exact h.elim)
  · rfl
  · rename_i d
    obtain ⟨hd, h⟩ := h
    rw [st_is_fraction]
    have ok1 : okD d = true := by
      unfold okPr at hd
      rw [Bool.and_eq_true] at hd
      exact hd.1
    cases d with
    | tup xs =>
      walk_at "st"
      walk_at "isi"
      walk_at "ev"
      refine ⟨fun z => Bool.noConfusion z, fun _ => ⟨fun z => ?_, fun z => ?_⟩⟩
      · rw [isFr_none (frOf_len fun e => by rw [e] at z; exact Bool.noConfusion z)] at h
        first
          | exact h
          | exact ⟨fun _ => h, fun z => Bool.noConfusion z⟩
      · have hl : xs.length = 2 := by
          by_cases e : xs.length = 2
          · exact e
          · have e2 : ¬ ((xs.length : Int) = 2) := by omega
            rw [decide_eq_false e2] at z
            exact Bool.noConfusion z
        match xs, hl with
        | [a, b], _ =>
          obtain ⟨ha, hb, hva, hvb⟩ := okPr_2 hd
          refine aLc_map [a, b] (fun d => d) (fun d => .bl (isNum d none)) (fun Φ' q => ?_) (by show 2 ≤ 100000; decide) (fun x hx M' => ⟨[some (.tup [a, b]), some x], rfl, fun Φ' q => ?_⟩) ?_
          · walk_at "ev"
            exact q
          · walk_at "ev"
            refine ⟨?_, q⟩
            rcases List.mem_cons.mp hx with rfl | hx
            · exact ha
            · rw [List.mem_singleton.mp hx]
              exact hb
          walk_at "ev"
          refine ⟨[isNum a none, isNum b none], rfl, ?_⟩
          cases e1 : isNum a none with
          | false =>
            rw [isFr_none (frOf_num fun z => by rw [e1] at z; exact Bool.noConfusion z.1)] at h
            exact ⟨fun _ => h, fun z => Bool.noConfusion (show true = false from z)⟩
          | true =>
            cases e2 : isNum b none with
            | false =>
              rw [isFr_none (frOf_num fun z => by rw [e2] at z; exact Bool.noConfusion z.2)] at h
              exact ⟨fun _ => h, fun z => Bool.noConfusion (show true = false from z)⟩
            | true =>
              obtain ⟨x, rfl, x0⟩ := num_of e1
              obtain ⟨y, rfl, y0⟩ := num_of e2
              refine ⟨fun z => Bool.noConfusion (show false = true from z), fun _ => ?_⟩
              walk_at "ev"
              refine ⟨fun z => ⟨⟨x0, y0⟩, ?_⟩, fun z => ?_⟩
              · rw [isFr_some (frOf_2 ⟨x0, of_decide_eq_true z⟩)] at h
                exact h
              · rw [isFr_none (frOf_2n fun q => of_decide_eq_false z q.2)] at h
                exact h
    | _ => first
      | exact Bool.noConfusion ok1
      | (walk_at "st"; walk_at "isi"; exact ⟨fun _ => ⟨fun _ => h, fun z => Bool.noConfusion z⟩, fun z => Bool.noConfusion z⟩)
      | (walk_at "st"; walk_at "isi"; exact ⟨fun _ => h, fun z => Bool.noConfusion z⟩)
theorem ok_is_rate (T : Top P K mg) {B : Bx} : FnOk P w K mg base (L2N.CX P w) 4 T.f_is_rate T.d_is_rate ["value"] (conc K B sp_is_rate) := by
  refine dfn T.F_is_rate sc_is_rate (fun ds M Φ Ψ h => ?_) (fun cdv A outer s H E hr ds M Φ Ψ h => ⟨_, (dss_one (ds_ret (de_and (de_call ((ok_is_fraction T).mono (by first | decide | exact Nat.le_refl _)) hr (by rfl) T.g_is_fraction T.F_is_fraction.kp T.b_is_fraction (L2N.takes_of rfl rfl rfl rfl) (da_cons (dv 0) da_nil)) (de_one (de_chain3 op_lt op_lt op_le ab_B0 ab_B0 ab_B0 de_int (de_item (dv 0) de_int) (de_item (dv 0) de_int) (de_const (v := .int (1000)) (d := .int (1000)) (by rfl) T.c_MOST_BOTTOM ⟨_, rfl⟩ (fun _ => .int _))))))), ?_⟩) <;> (unfold sp_is_rate at h; split at h; rotate_left; exact h.elim)
  · rfl
  · rename_i d
    obtain ⟨hd, h⟩ := h
    rw [st_is_rate]
    walk_at "ev"
    refine ⟨hd, fun z => ?_, fun z => ?_⟩
    · obtain ⟨f, e, rfl, f0, f1, fg⟩ := isFr_inv z
      rw [isRt_some e, decide_eq_true fg, Bool.true_and] at h
      walk_at "ev"
      refine ⟨fun z1 => ⟨fun z2 => ?_, fun z2 => ?_⟩, fun z1 => ?_⟩
      · rw [z1, z2, Bool.true_and, Bool.true_and] at h
        exact h
      · rw [z2, Bool.false_and, Bool.and_false] at h
        exact h
      · rw [z1, Bool.false_and] at h
        exact h
    · rw [isRt_no z] at h
      exact h
theorem ok_need_rate (T : Top P K mg) {B : Bx} : FnOk P w K mg base (L2N.CX P w) 5 T.f_need_rate T.d_need_rate ["rate"] (conc K B (sp_need_rate T.C_Refused)) := by
  refine dfn T.F_need_rate sc_need_rate (fun ds M Φ Ψ h => ?_) (fun cdv A outer s H E hr ds M Φ Ψ h => ⟨_, (dss_one (ds_if (dt_not (dt_val (de_call ((ok_is_rate T).mono (by first | decide | exact Nat.le_refl _)) hr (by rfl) T.g_is_rate T.F_is_rate.kp T.b_is_rate (L2N.takes_of rfl rfl rfl rfl) (da_cons (dv 0) da_nil))))
        (dss_one (ds_raise rfl (L2N.takes_of rfl rfl rfl rfl) T.X_Refused hr T.n_super (by rfl) T.g_Refused (da_cons de_str da_nil)))
        dss_nil)), ?_⟩) <;> (unfold sp_need_rate at h; split at h; rotate_left; exact h.elim)
  · rfl
  · rename_i d
    obtain ⟨hd, h1, h2⟩ := h
    rw [st_need_rate]
    walk_at "ev"
    exact ⟨hd, fun z => h2 (by rw [Bool.not_eq_true'] at z; exact z), fun z => h1 (by rw [Bool.not_eq_false'] at z; exact z)⟩
theorem ok_is_less (T : Top P K mg) {B : Bx} : FnOk P w K mg base (L2N.CX P w) 1 T.f_is_less T.d_is_less ["one", "other"] (conc K B sp_is_less) := by
  refine dfn T.F_is_less sc_is_less (fun ds M Φ Ψ h => ?_) (fun cdv A outer s H E hr ds M Φ Ψ h => ⟨_, (dss_one (ds_ret (de_lt (de_mul (de_item (dv 0) de_int) (de_item (dv 1) de_int)) (de_mul (de_item (dv 1) de_int) (de_item (dv 0) de_int))))), ?_⟩) <;> (unfold sp_is_less at h; split at h; rotate_left; exact h.elim)
  · rfl
  · obtain ⟨⟨a0, b0, c0, d0, a1, b1, c1, d1⟩, h⟩ := h
    have B := fun {x : Int} (z : x < 2 ^ 480) => big z (by decide)
    rw [st_is_less]
    walk_at "ev"
    exact ⟨mulS a0 (B a1) d0 (B d1), mulS c0 (B c1) b0 (B b1), h⟩

theorem euclid_end26 {x y b : Int} (hb : 0 ≤ b) (hb2 : b < 2 ^ 28) (hy : 0 ≤ y) (h : y < x) (hz : x * y * 2 ^ (60 - 1) ≤ b * b) : y = 0 := by
  rcases Int.lt_or_le 0 y with z | z
  · have a1 : 1 * 1 ≤ x * y := Int.mul_le_mul (by omega) (by omega) (by decide) (by omega)
    have a2 : 1 * 2 ^ (60 - 1) ≤ x * y * (2 : Int) ^ (60 - 1) := Int.mul_le_mul_of_nonneg_right (by omega) (Int.le_of_lt (Int.pow_pos (by decide)))
    have a3 : b * b < 2 ^ 56 := mul_lt hb hb hb2 hb2 rfl
    have a4 : (2 : Int) ^ 56 ≤ 2 ^ (60 - 1) := pow_up (by decide)
    rw [Int.one_mul] at a2
    exact absurd (Int.lt_of_lt_of_le a3 a4) (Int.not_lt.mpr (Int.le_trans a2 hz))
  · omega
theorem ok__law_divisor26 (T : Top P K mg) {B : Bx} : FnOk P w K mg base (L2N.CX P w) 2 T.f__law_divisor T.d__law_divisor ["one", "other"] (conc K B sp_divisor26) := by
  refine dfn T.F__law_divisor sc__law_divisor (fun ds M Φ Ψ h => ?_) (fun cdv A outer s H E hr ds M Φ Ψ h => ⟨_, (dss_cons (ds_for (passes_of rfl) rfl (di_rng1 (by rfl) T.z_range (da_cons de_int da_nil)) (dg_name (i := 2) sc__law_divisor.nd rfl (.inl rfl))
        (dss_cons (ds_if (dt_eq hr (dv 1) de_int)
            (dss_one (ds_ret (dv 0)))
            dss_nil)
          (dss_one (ds_par (i := 0) (j := 1) rfl sc__law_divisor.nd rfl rfl (by decide) rfl rfl (da_cons (dv 1) (da_cons (de_mod (de_callInt (by rfl) T.z_int (dv 0)) (dv 1)) da_nil))))))
      (dss_one (ds_ret (dv 0)))), ?_⟩) <;> (unfold sp_divisor26 at h; split at h; rotate_left; exact h.elim)
  · rfl
  · rename_i a b
    obtain ⟨⟨ha, hb, hb2⟩, h⟩ := h
    rw [st__law_divisor]
    refine aSeq_step ?_
    refine aFor_rng 0 60 (fun i Γ' M' => ∃ (x y : Int) (t : Option D), Γ' = [some (.int x), some (.int y), t] ∧ M' = M ∧ 0 ≤ x ∧ 0 ≤ y ∧ gcdI x y = gcdI a b ∧ ((i = 0 ∧ x = a ∧ y = b) ∨ (0 < i ∧ y < x ∧ x * y * 2 ^ (i - 1) ≤ b * b))) (fun Φ' q => ?_) ⟨a, b, _, rfl, rfl, ha, hb, rfl, .inl ⟨rfl, rfl, rfl⟩⟩ ?_ ?_
    · walk_at "ev"
      exact ⟨⟨by decide, by decide⟩, q⟩
    · rintro i Γ' M' hi ⟨x, y, t, rfl, rfl, hx, hy, he, hz⟩
      refine ⟨_, rfl, ?_⟩
      have fin0 : y = 0 → Φ (D.int x) M' := fun e => by
        subst e
        have e2 : gcdI x 0 = x := by
          unfold gcdI
          rw [Int.gcd_zero_right]
          omega
        rw [e2] at he
        rw [he]
        exact h
      walk_at "st"
      refine ⟨fun z => fin0 (of_decide_eq_true z), fun z => ?_⟩
      have z := of_decide_eq_false z
      have y0 : 0 < y := by omega
      have m0 := Int.emod_nonneg x z
      refine ⟨y0, _, _, _, rfl, rfl, hy, m0, (gcd_step y0).trans he, .inr ⟨Nat.succ_pos i, ?_⟩⟩
      rcases hz with ⟨rfl, rfl, rfl⟩ | ⟨i0, hxy, hz⟩
      · have m1 := Int.emod_lt_of_pos x y0
        refine ⟨m1, ?_⟩
        show y * (x % y) * 1 ≤ y * y
        rw [Int.mul_one]
        exact Int.mul_le_mul_of_nonneg_left (by omega) (by omega)
      · exact euclid_step y0 hxy i0 hz
    · rintro Γ' M' ⟨x, y, t, rfl, rfl, hx, hy, he, hz⟩
      have y0 : y = 0 := by
        rcases hz with ⟨z, _⟩ | ⟨_, hxy, hz⟩
        · exact absurd z (by decide)
        · exact euclid_end26 hb hb2 hy hxy hz
      subst y0
      have e2 : gcdI x 0 = x := by
        unfold gcdI
        rw [Int.gcd_zero_right]
        omega
      rw [e2] at he
      rw [he]
      exact h
theorem ok__law_rate26 (T : Top P K mg) (h c : Addr) : FnOk P w K mg base (L2N.CX P w) 3 T.f__law_rate T.d__law_rate ["heap", "least"] (conc K (bxHeap h c) (sp_rate26 h)) := by
  refine dfn T.F__law_rate sc__law_rate (fun ds M Φ Ψ h => ?_) (fun cdv A outer s H E hr ds M Φ Ψ hh => ⟨_, (dss_cons (ds_set (i := 2) sc__law_rate.nd rfl (.inl rfl) (de_call ((ok__law_pick T h c).mono (by first | decide | exact Nat.le_refl _)) hr (by rfl) T.g__law_pick T.F__law_pick.kp T.b__law_pick (L2N.takes_of rfl rfl rfl rfl) (da_cons (dv 0) (da_cons (de_lst (da_cons de_int (da_cons de_int (da_cons de_int (da_cons de_int (da_cons de_int (da_cons de_int (da_cons de_int (da_cons de_int (da_cons (de_add de_int (de_call ((ok__law_draw_box T h c).mono (by first | decide | exact Nat.le_refl _)) hr (by rfl) T.g__law_draw T.F__law_draw.kp T.b__law_draw (L2N.takes_of rfl rfl rfl rfl) (da_cons (dv 0) (da_cons de_int da_nil)))) (da_cons de_int da_nil))))))))))) da_nil))))
      (dss_cons (ds_set (i := 3) sc__law_rate.nd rfl (.inl rfl) (de_call ((ok__law_pick T h c).mono (by first | decide | exact Nat.le_refl _)) hr (by rfl) T.g__law_pick T.F__law_pick.kp T.b__law_pick (L2N.takes_of rfl rfl rfl rfl) (da_cons (dv 0) (da_cons (de_lst (da_cons de_int (da_cons (de_sub (dv 2) de_int) (da_cons (de_add de_int (de_call ((ok__law_draw_box T h c).mono (by first | decide | exact Nat.le_refl _)) hr (by rfl) T.g__law_draw T.F__law_draw.kp T.b__law_draw (L2N.takes_of rfl rfl rfl rfl) (da_cons (dv 0) (da_cons (de_sub (dv 2) de_int) da_nil)))) (da_cons (de_max2 rfl (by rfl) T.z_max de_int (de_sub (de_sub (dv 2) de_int) (de_call ((ok__law_draw_box T h c).mono (by first | decide | exact Nat.le_refl _)) hr (by rfl) T.g__law_draw T.F__law_draw.kp T.b__law_draw (L2N.takes_of rfl rfl rfl rfl) (da_cons (dv 0) (da_cons (de_add de_int (de_div (dv 2) de_int)) da_nil))))) da_nil))))) da_nil))))
      (dss_cons (ds_if (dt_lt (de_mul (dv 3) de_int) (de_mul (dv 1) (dv 2)))
        (dss_one (ds_par (i := 3) (j := 2) rfl sc__law_rate.nd rfl rfl (by decide) rfl rfl (da_cons (dv 1) (da_cons de_int da_nil))))
        dss_nil)
      (dss_cons (ds_set (i := 4) sc__law_rate.nd rfl (.inl rfl) (de_call ((ok__law_divisor26 T).mono (by first | decide | exact Nat.le_refl _)) hr (by rfl) T.g__law_divisor T.F__law_divisor.kp T.b__law_divisor (L2N.takes_of rfl rfl rfl rfl) (da_cons (dv 3) (da_cons (dv 2) da_nil))))
      (dss_one (ds_ret (de_tup (da_cons (de_div (dv 3) (dv 4)) (da_cons (de_div (dv 2) (dv 4)) da_nil))))))))), ?_⟩) <;> (first | (unfold sp_rate26 at h; split at h; rotate_left; exact h.elim) | (unfold sp_rate26 at hh; split at hh; rotate_left; exact hh.elim))
  · rfl
  · rename_i h' l
    obtain ⟨rfl, rfl, hq⟩ := hh
    rw [st__law_rate]
    walk_at "st"
    refine ⟨rfl, by walk_at "ok", fun r r0 r1 => ⟨by decide, rfl, by decide, pick_as (emb := D.int) (R := fun x => 2 ≤ x ∧ x ≤ 1000) (by walk_at "mem") fun b ⟨b0, b1⟩ => ?_⟩⟩
    walk_at "st"
    refine ⟨rfl, divOk_of (by omega) (by omega), fun r r0 r1 => ⟨by walk_at "ok", rfl, divOk_of (by omega) (by omega), fun r' r0' r1' => ⟨by decide, rfl, by decide, pick_as (emb := D.int) (R := fun x => 1 ≤ x ∧ x ≤ b - 1) (by walk_at "mem") fun t ⟨t0, t1⟩ => ?_⟩⟩⟩
    walk_at "st"
    refine ⟨by walk_at "ok", by walk_at "ok", ckF (by omega) ?_⟩
    walk_at "st"
    have g0 : 0 < gcdI t b := by
      unfold gcdI
      have := Int.gcd_pos_of_ne_zero_right t (by omega : b ≠ 0)
      omega
    have g1 : gcdI t b ≤ b := Int.le_of_dvd (by omega) (Int.gcd_dvd_right t b)
    refine ⟨⟨by omega, by omega, by omega⟩, ?_⟩
    walk_at "ev"
    refine ⟨divOk_of g0 (by omega), divOk_of g0 (by omega), by decide, hq _ _ ?_ (low_one (by omega))⟩
    have e1 : gcdI t b * (t / gcdI t b) = t := Int.mul_ediv_cancel' (Int.gcd_dvd_left t b)
    have e2 : gcdI t b * (b / gcdI t b) = b := Int.mul_ediv_cancel' (Int.gcd_dvd_right t b)
    have e3 : b / gcdI t b ≤ b := Int.ediv_le_self _ (by omega)
    refine ⟨?_, ?_, by omega⟩
    · rcases Int.lt_or_le (t / gcdI t b) 1 with z | z
      · have := Int.mul_nonpos_of_nonneg_of_nonpos (Int.le_of_lt g0) (show t / gcdI t b ≤ 0 by omega)
        omega
      · exact z
    · refine Int.lt_of_mul_lt_mul_left (a := gcdI t b) ?_ (by omega)
      omega
theorem ok__law_bucket (T : Top P K mg) {B : Bx} : FnOk P w K mg base (L2N.CX P w) 1 T.f__law_bucket T.d__law_bucket ["rate", "beats"] (conc K B sp__law_bucket) := by
  refine dfn T.F__law_bucket sc__law_bucket (fun ds M Φ Ψ h => ?_) (fun cdv A outer s H E hr ds M Φ Ψ h => ⟨_, (dss_cons (ds_par (i := 2) (j := 3) rfl sc__law_bucket.nd rfl rfl (by decide) rfl rfl (da_cons de_int (da_cons (de_lstM da_nil) da_nil)))
      (dss_cons (ds_for (passes_of rfl) rfl (di_rng1 (by rfl) T.z_range (da_cons (dv 1) da_nil)) (dg_name (i := 4) sc__law_bucket.nd rfl (.inl rfl))
        (dss_cons (ds_set (i := 2) sc__law_bucket.nd rfl (.inl rfl) (de_add (dv 2) (de_item (dv 0) de_int)))
          (dss_one (ds_if (dt_ge (dv 2) (de_item (dv 0) de_int))
            (dss_cons (ds_set (i := 2) sc__law_bucket.nd rfl (.inl rfl) (de_sub (dv 2) (de_item (dv 0) de_int)))
              (dss_one (ds_expr (de_app (dv 3) (dv 4)))))
            dss_nil))))
      (dss_one (ds_gh (ds_ret (dv 3)))))), ?_⟩) <;> (unfold sp__law_bucket at h; split at h; rotate_left; exact h.elim)
  · rfl
  · rename_i p q n
    obtain ⟨⟨p0, p1, q1⟩, ⟨n0, n1⟩, h⟩ := h
    rw [st__law_bucket]
    walk_at "st"
    refine ⟨by decide, fun l => ?_⟩
    refine aSeq_step ?_
    refine aFor_rng 0 n.toNat (fun i Γ' M' => ∃ x, Γ' = [some (.tup [.int p, .int q]), some (.int n), some (.int (p * (i : Nat) % q)), some (.ref l), x] ∧ M' = (l, .lst (((rngI 0 i).filter (isS p q)).map D.int)) :: M) (fun Φ' z => ?_) ⟨_, by rw [show p * ((0 : Nat) : Int) % q = 0 by rw [Int.natCast_zero, Int.mul_zero, Int.zero_emod]], rfl⟩ ?_ ?_
    · walk_at "ev"
      exact ⟨by omega, z⟩
    · rintro i Γ' M' hi ⟨x, rfl, rfl⟩
      refine ⟨_, rfl, ?_⟩
      have sl := (slot_iff (p := p) (q := q) (by omega) (by omega) (by omega) (i : Int)).1
      have m0 := Int.emod_nonneg (p * (i : Int)) (by omega : q ≠ 0)
      have m1 := Int.emod_lt_of_pos (p * (i : Int)) (show 0 < q by omega)
      have e0 := Int.emod_add_mul_ediv (p * (i : Int)) q
      have e1 : p * ((i + 1 : Nat) : Int) = p * (i : Nat) + p := by
        rw [Int.natCast_add, Int.mul_add, Int.natCast_one, Int.mul_one]
      walk_at "st"
      have ers : rngI 0 (i + 1) = rngI 0 i ++ [(i : Int)] := by
        rw [rngI_succ, Int.zero_add]
      have hl : ((rngI 0 i).filter (isS p q)).length ≤ i := Nat.le_trans (List.length_filter_le _ _) (by rw [rngI_len]; exact Nat.le_refl _)
      rw [ers, List.filter_append, e1]
      have ed : (p * (i : Nat) + p) % q = (p * (i : Nat) % q + p) % q := by rw [Int.emod_add_emod]
      rw [ed]
      refine ⟨fun z => ?_, fun z => ?_⟩
      · have z := of_decide_eq_true z
        have es : isS p q i = true := decide_eq_true (sl.mpr z)
        have em : (p * (i : Nat) % q + p) % q = p * (i : Nat) % q + p - q := by
          rw [← Int.emod_eq_of_lt (show 0 ≤ p * (i : Nat) % q + p - q by omega) (show p * (i : Nat) % q + p - q < q by omega), Int.sub_emod_right]
        walk_at "st"
        rw [em, List.filter_cons_of_pos es, List.filter_nil, List.map_append]
        refine ⟨⟨_, .head _⟩, _, _, .here, by rw [List.length_map]; omega, _, rfl, ?_⟩
        rw [show (0 : Int) + (i : Nat) = (i : Nat) by omega]
        rfl
      · have z := of_decide_eq_false z
        have es : ¬ isS p q i = true := fun e => z (sl.mp (of_decide_eq_true e))
        rw [Int.emod_eq_of_lt (show 0 ≤ p * (i : Nat) % q + p by omega) (by omega), List.filter_cons_of_neg es, List.filter_nil, List.append_nil]
        exact ⟨_, rfl, rfl⟩
    · rintro Γ' M' ⟨x, rfl, rfl⟩
      refine ⟨_, _, .lst 3 rfl .here .refl, ?_⟩
      walk_at "ev"
      exact h
theorem ok__law_spans (T : Top P K mg) (h c : Addr) : FnOk P w K mg base (L2N.CX P w) 3 T.f__law_spans T.d__law_spans ["heap"] (conc K (bxHeap h c) (sp__law_spans h)) := by
  refine dfn T.F__law_spans sc__law_spans (fun ds M Φ Ψ h => ?_) (fun cdv A outer s H E hr ds M Φ Ψ hh => ⟨_, (dss_cons (ds_par3 (i := 1) (j := 2) (l := 3) rfl sc__law_spans.nd rfl rfl rfl (by decide) (by decide) (by decide) rfl rfl rfl (da_cons (de_call ((ok__law_draw_box T h c).mono (by first | decide | exact Nat.le_refl _)) hr (by rfl) T.g__law_draw T.F__law_draw.kp T.b__law_draw (L2N.takes_of rfl rfl rfl rfl) (da_cons (dv 0) (da_cons de_int da_nil))) (da_cons (de_lstM da_nil) (da_cons de_bl da_nil))))
      (dss_cons (ds_for (passes_of rfl) rfl (di_rng1 (by rfl) T.z_range (da_cons (de_call ((ok__law_draw_box T h c).mono (by first | decide | exact Nat.le_refl _)) hr (by rfl) T.g__law_draw T.F__law_draw.kp T.b__law_draw (L2N.takes_of rfl rfl rfl rfl) (da_cons (dv 0) (da_cons de_int da_nil))) da_nil)) (dg_name (i := 4) sc__law_spans.nd rfl (.inl rfl))
        (dss_cons (ds_set (i := 5) sc__law_spans.nd rfl (.inl rfl) (de_call ((ok__law_pick T h c).mono (by first | decide | exact Nat.le_refl _)) hr (by rfl) T.g__law_pick T.F__law_pick.kp T.b__law_pick (L2N.takes_of rfl rfl rfl rfl) (da_cons (dv 0) (da_cons (de_lst (da_cons de_int (da_cons de_int (da_cons de_int (da_cons (de_call ((ok__law_draw_box T h c).mono (by first | decide | exact Nat.le_refl _)) hr (by rfl) T.g__law_draw T.F__law_draw.kp T.b__law_draw (L2N.takes_of rfl rfl rfl rfl) (da_cons (dv 0) (da_cons de_int da_nil))) (da_cons (de_call ((ok__law_draw_box T h c).mono (by first | decide | exact Nat.le_refl _)) hr (by rfl) T.g__law_draw T.F__law_draw.kp T.b__law_draw (L2N.takes_of rfl rfl rfl rfl) (da_cons (dv 0) (da_cons de_int da_nil))) da_nil)))))) da_nil))))
          (dss_cons (ds_if (dt_w (dw_and (dt_gt (dv 4) de_int) (dw_and (dt_eq hr (de_call ((ok__law_draw_box T h c).mono (by first | decide | exact Nat.le_refl _)) hr (by rfl) T.g__law_draw T.F__law_draw.kp T.b__law_draw (L2N.takes_of rfl rfl rfl rfl) (da_cons (dv 0) (da_cons de_int da_nil))) de_int) (dw_and1 (dt_gt (dv 1) de_int)))))
            (dss_one (ds_set (i := 1) sc__law_spans.nd rfl (.inl rfl) (de_sub (dv 1) de_int)))
            dss_nil)
          (dss_cons (ds_expr (de_app (dv 2) (de_tup (da_cons (dv 1) (da_cons (dv 5) da_nil)))))
          (dss_one (ds_set (i := 1) sc__law_spans.nd rfl (.inl rfl) (de_add (de_add (dv 1) (dv 5)) (de_call ((ok__law_pick T h c).mono (by first | decide | exact Nat.le_refl _)) hr (by rfl) T.g__law_pick T.F__law_pick.kp T.b__law_pick (L2N.takes_of rfl rfl rfl rfl) (da_cons (dv 0) (da_cons (de_lst (da_cons de_int (da_cons de_int (da_cons de_int (da_cons de_int (da_cons (de_call ((ok__law_draw_box T h c).mono (by first | decide | exact Nat.le_refl _)) hr (by rfl) T.g__law_draw T.F__law_draw.kp T.b__law_draw (L2N.takes_of rfl rfl rfl rfl) (da_cons (dv 0) (da_cons de_int da_nil))) da_nil)))))) da_nil))))))))))
      (dss_cons (ds_gh (ds_for (passes_of rfl) rfl (di_rng2 (by rfl) T.z_range (da_cons de_int (da_cons (de_len (by rfl) T.z_len (dv 2)) da_nil))) (dg_name (i := 6) sc__law_spans.nd rfl (.inl rfl))
        (dss_one (ds_set (i := 3) sc__law_spans.nd rfl (.inl rfl) (de_and (dv 3) (de_one (de_le (de_add (de_item (de_item (dv 2) (de_sub (dv 6) de_int)) de_int) (de_item (de_item (dv 2) (de_sub (dv 6) de_int)) de_int)) (de_item (de_item (dv 2) (dv 6)) de_int))))))))
      (dss_one (ds_ret (de_tup (da_cons (de_tupleOf (by rfl) T.z_tuple (dv 2)) (da_cons (dv 3) da_nil)))))))), ?_⟩) <;> (first | (unfold sp__law_spans at h; split at h; rotate_left; exact h.elim) | (unfold sp__law_spans at hh; split at hh; rotate_left; exact hh.elim))
  · rfl
  · rename_i h'
    obtain ⟨rfl, hq⟩ := hh
    rw [st__law_spans]
    walk_at "st"
    refine ⟨rfl, by walk_at "ok", fun r r0 r1 => ⟨by decide, fun l => ?_⟩⟩
    refine aSeq_step ?_
    refine aFor_rngP (fun n => n ≤ 5) 0 (fun n i Γ' M' => ∃ b x y u, ∃ sp : List Sp2, Γ' = [some (.ref h'), some (.int b), some (.ref l), some (.bl true), x, y, u] ∧ M' = (l, .lst (sp.map spD)) :: M ∧ sp.length = i ∧ (0 ≤ b ∧ b ≤ 9 + 40 * i) ∧ ∀ s ∈ sp, (0 ≤ s.1 ∧ s.1 ≤ 1000) ∧ (0 ≤ s.2 ∧ s.2 ≤ 30)) (fun Φ' z => ?_) (fun n hn => ⟨r, _, _, _, [], rfl, rfl, rfl, by omega, fun s hs => absurd hs List.not_mem_nil⟩) ?_ ?_
    · walk_at "ev"
      exact ⟨rfl, by walk_at "ok", fun r r0 r1 => ⟨by omega, z _ (by omega)⟩⟩
    · rintro n i Γ' M' hn hi ⟨b, x, y, u, sp, rfl, rfl, sl, hb, hs⟩
      refine ⟨_, rfl, ?_⟩
      walk_at "st"
      refine ⟨rfl, by walk_at "ok", fun r1 r10 r11 => ⟨rfl, by walk_at "ok", fun r2 r20 r21 => ⟨by decide, rfl, by decide, pick_as (emb := D.int) (R := fun x => 0 ≤ x ∧ x ≤ 30) (by walk_at "mem") fun m ⟨m0, m1⟩ => ?_⟩⟩⟩
      walk_at "ev"
      refine aSeq_tail (α := {b : Int // 0 ≤ b ∧ b ≤ 9 + 40 * i}) (fun b => [some (.ref h'), some (.int b.1), some (.ref l), some (.bl true), some (.int (0 + (i : Nat))), some (.int m), u]) ((l, .lst (sp.map spD)) :: M) (fun ⟨b, b0, b1⟩ => ?_) fun tail => ?_
      · walk_at "st"
        refine ⟨⟨_, .head _⟩, by decide, _, _, .here, by rw [List.length_map]; omega, rfl, by walk_at "ok", fun r r0 r1 => ⟨by decide, rfl, by decide, pick_as (emb := D.int) (R := fun x => 0 ≤ x ∧ x ≤ 9) (by walk_at "mem") fun g ⟨g0, g1⟩ => ?_⟩⟩
        refine ⟨b + m + g, _, _, _, sp ++ [(b, m)], rfl, ?_, by rw [List.length_append, sl]; rfl, by omega, fun s hs' => ?_⟩
        · rw [List.map_append]
          rfl
        · rcases List.mem_append.mp hs' with hs' | hs'
          · exact hs s hs'
          · rw [List.mem_singleton.mp hs']
            dsimp only
            omega
      · walk_at "st"
        refine ⟨fun _ => ⟨rfl, by walk_at "ok", fun r r0 r1 => ⟨fun _ => ⟨fun z => ?_, fun z => ?_⟩, fun z => ⟨fun z => Bool.noConfusion z, fun _ => tail ⟨b, hb⟩⟩⟩⟩, fun z => ⟨fun z => Bool.noConfusion z, fun _ => tail ⟨b, hb⟩⟩⟩
        · have z := of_decide_eq_true z
          exact tail ⟨b - 1, by omega, by omega⟩
        · exact tail ⟨b, hb⟩
    · rintro n Γ' M' hn ⟨b, x, y, u, sp, rfl, rfl, sl, hb, hs⟩
      refine aSeq_step ?_
      refine ⟨_, _, .lst 2 rfl .here .refl, ?_⟩
      refine aFor_rng 1 (sp.length - 1) (fun i Γ' M' => ∃ u, Γ' = [some (.ref h'), some (.int b), some (.lst (sp.map spD)), some (.bl ((List.range i).all (gap sp))), x, y, u] ∧ M' = M) (fun Φ' z => ?_) ⟨_, rfl, rfl⟩ ?_ ?_
      · walk_at "ev"
        rw [List.length_map]
        refine ⟨⟨by decide, by decide, by omega, by omega⟩, ?_⟩
        rw [show (((sp.length : Nat) : Int) - 1).toNat = sp.length - 1 by omega]
        exact z
      · rintro i Γ' M' hi ⟨u, rfl, rfl⟩
        refine ⟨_, rfl, ?_⟩
        have e1 := List.getElem?_eq_getElem (show i < sp.length by omega)
        have e2 := List.getElem?_eq_getElem (show i + 1 < sp.length by omega)
        have eg : gap sp i = decide ((sp[i]'(by omega)).1 + (sp[i]'(by omega)).2 ≤ (sp[i + 1]'(by omega)).1) := by
          unfold gap
          rw [e1, e2]
        have i1 : getI (sp.map spD) (1 + (i : Nat) - 1) = some (spD (sp[i]'(by omega))) := getI_of (by omega) (by rw [List.getElem?_map, show (1 + (i : Int) - 1).toNat = i by omega, e1]; rfl)
        have i2 : getI (sp.map spD) (1 + (i : Nat)) = some (spD (sp[i + 1]'(by omega))) := getI_of (by omega) (by rw [List.getElem?_map, show (1 + (i : Int)).toNat = i + 1 by omega, e2]; rfl)
        have er : (List.range (i + 1)).all (gap sp) = ((List.range i).all (gap sp) && gap sp i) := by
          rw [List.range_succ, List.all_append, List.all_cons, List.all_nil, Bool.and_true]
        rw [er]
        walk_at "ev"
        refine ⟨fun z => ?_, fun z => ?_⟩
        · rw [i1]
          walk_at "ev"
          rw [i2]
          walk_at "ev"
          rw [z, Bool.true_and, eg]
          exact ⟨_, rfl, rfl⟩
        · rw [z, Bool.false_and]
          exact ⟨_, rfl, rfl⟩
      · rintro Γ' M' ⟨u, rfl, rfl⟩
        walk_at "ev"
        exact ⟨by decide, hq sp ⟨by omega, hs⟩⟩
theorem ok__law_most (T : Top P K mg) {B : Bx} : FnOk P w K mg base (L2N.CX P w) 1 T.f__law_most T.d__law_most ["row", "beats"] (conc K B sp__law_most) := by
  refine dfn T.F__law_most sc__law_most (fun ds M Φ Ψ h => ?_) (fun cdv A outer s H E hr ds M Φ Ψ h => ⟨_, (dss_one (ds_ret (de_maxL rfl (by rfl) T.z_max (de_catL (de_lst (da_cons de_int da_nil)) (de_lc (own := [("first", 3)]) rfl sc__law_most.nd (di_seq (dv 0)) (blkOk_by (N := n__law_most) (sc := defScope s__law_most) (by decide +kernel)) (fun _ _ _ _ _ => (dg_name (i := 3) sc__law_most.nd rfl (.inr rfl))) (fun _ _ _ _ _ => dts_nil) (fun _ _ _ _ _ => (de_len (by rfl) T.z_len (de_lc (own := [("one", 2)]) rfl sc__law_most.nd (di_seq (dv 0)) (blkOk_by (by kernel_rfl)) (fun _ _ _ _ _ => (dg_name (i := 2) sc__law_most.nd rfl (.inl rfl))) (fun _ _ _ _ _ => (dts_one (dt_chain op_le op_lt ab_B0 ab_B0 (dv 3) (dv 2) (de_add (dv 3) (dv 1))))) (fun _ _ _ _ _ => (dv 2)))))))))), ?_⟩) <;> (unfold sp__law_most at h; split at h; rotate_left; exact h.elim)
  · rfl
  · rename_i xs l
    obtain ⟨row, rfl, hl, h⟩ := h
    rw [st__law_most]
    walk_at "ev"
    refine ⟨by decide, ?_⟩
    refine aLc_int row D.int (fun x => inWin row x l) (fun Φ' z => ?_) (by omega) (fun x hx M' => ⟨[some (.lst (row.map D.int)), some (.int l), none, some (.int x)], rfl, fun Φ' z => ?_⟩) ?_
    · walk_at "ev"
      exact z
    · walk_at "ev"
      refine aLc_ifid row D.int (fun y => decide (x ≤ y) && decide (y < x + l)) (fun Φ' z => ?_) (by omega) (fun y hy M' => ⟨[some (.lst (row.map D.int)), some (.int l), some (.int y), some (.int x)], rfl, fun Φ' z => ?_, fun hf Φ' z => ?_⟩) ?_
      · walk_at "ev"
        exact z
      · walk_at "ev"
        refine ⟨fun z1 => ?_, fun z1 => ?_⟩
        · rw [z1, Bool.true_and] at z
          exact z
        · rw [z1, Bool.false_and] at z
          exact z
      · walk_at "ev"
        exact z
      walk_at "ev"
      rw [List.length_map]
      exact z
    walk_at "ev"
    refine ⟨by rw [List.length_map, List.length_map]; omega, 0 :: row.map fun x => inWin row x l, rfl, Nat.succ_pos _, fun m h1 h2 => ?_⟩
    rw [most_is h1 h2]
    exact h
theorem ok__law_parts (T : Top P K mg) {B : Bx} : FnOk P w K mg base (L2N.CX P w) 1 T.f__law_parts T.d__law_parts ["value"] (conc K B sp__law_parts) := by
  refine dfn T.F__law_parts sc__law_parts (fun ds M Φ Ψ h => ?_) (fun cdv A outer s H E hr ds M Φ Ψ h => ⟨_, (dss_cons (ds_if (dt_w (dw_or (dt_not (dt_val (de_isi (n := "tuple") (by rfl) T.z_isinstance (by rfl) T.z_tuple (by decide +kernel) (dv 0)))) (dw_or1 (dt_ne hr (de_len (by rfl) T.z_len (dv 0)) de_int))))
        (dss_one (ds_ret de_non))
        dss_nil)
      (dss_cons (ds_if (dt_w (dw_or (dt_not (dt_val (de_all rfl (by rfl) T.z_all (de_lc (own := [("one", 1)]) rfl sc__law_parts.nd (di_seq (dv 0)) (blkOk_by (N := n__law_parts) (sc := defScope s__law_parts) (by decide +kernel)) (fun _ _ _ _ _ => (dg_name (i := 1) sc__law_parts.nd rfl (.inl rfl))) (fun _ _ _ _ _ => dts_nil) (fun _ _ _ _ _ => (de_and (de_isi (n := "int") (by rfl) T.z_isinstance (by rfl) T.z_int (by decide +kernel) (dv 1)) (de_and (de_not (de_isi (n := "bool") (by rfl) T.z_isinstance (by rfl) T.z_bool (by decide +kernel) (dv 1))) (de_one (de_ge (dv 1) de_int))))))))) (dw_or1 (dt_eq hr (de_item (dv 0) de_int) de_int))))
        (dss_one (ds_ret de_non))
        dss_nil)
      (dss_one (ds_ret (dv 0))))), ?_⟩) <;> (unfold sp__law_parts at h; split at h; rotate_left; exact h.elim)
  · rfl
  · rename_i d
    obtain ⟨hd, h⟩ := h
    rw [st__law_parts]
    have ok1 : okD d = true := by
      unfold okPr at hd
      rw [Bool.and_eq_true] at hd
      exact hd.1
    unfold partsD at h
    cases d with
    | tup xs =>
      walk_at "st"
      walk_at "isi"
      walk_at "ev"
      refine ⟨fun z => Bool.noConfusion z, fun _ => ⟨fun z => ?_, fun z => ?_⟩⟩
      · rw [frOf_len fun e => by rw [e] at z; exact Bool.noConfusion z] at h
        first
          | exact h
          | exact ⟨fun _ => h, fun z => Bool.noConfusion z⟩
      · have hl : xs.length = 2 := by
          by_cases e : xs.length = 2
          · exact e
          · have e2 : ¬ ((xs.length : Int) = 2) := by omega
            rw [decide_eq_false e2] at z
            exact Bool.noConfusion z
        match xs, hl with
        | [a, b], _ =>
          obtain ⟨ha, hb, hva, hvb⟩ := okPr_2 hd
          walk_at "st"
          refine aLc_map [a, b] (fun d => d) (fun d => .bl (isNum d none)) (fun Φ' q => ?_) (by show 2 ≤ 100000; decide) (fun x hx M' => ⟨[some (.tup [a, b]), some x], rfl, fun Φ' q => ?_⟩) ?_
          · walk_at "ev"
            exact q
          · have hok : okD x = true := by
              rcases List.mem_cons.mp hx with rfl | hx
              · exact ha
              · rw [List.mem_singleton.mp hx]
                exact hb
            cases x <;> first
              | exact Bool.noConfusion hok
              | (walk_at "ev"; walk_at "isi"; walk_at "go"; first | exact q | (rename_i v; rw [isNum_n, Bool.and_true] at q; exact q))
          walk_at "ev"
          refine ⟨[isNum a none, isNum b none], rfl, ?_⟩
          cases e1 : isNum a none with
          | false =>
            rw [frOf_num fun z => by rw [e1] at z; exact Bool.noConfusion z.1] at h
            exact ⟨fun _ => ⟨fun _ => h, fun z => Bool.noConfusion z⟩, fun z => Bool.noConfusion (show true = false from z)⟩
          | true =>
            cases e2 : isNum b none with
            | false =>
              rw [frOf_num fun z => by rw [e2] at z; exact Bool.noConfusion z.2] at h
              exact ⟨fun _ => ⟨fun _ => h, fun z => Bool.noConfusion z⟩, fun z => Bool.noConfusion (show true = false from z)⟩
            | true =>
              obtain ⟨x, rfl, x0⟩ := num_of e1
              obtain ⟨y, rfl, y0⟩ := num_of e2
              refine ⟨fun z => Bool.noConfusion (show false = true from z), fun _ => ?_⟩
              walk_at "ev"
              refine ⟨fun z => ?_, fun z => ?_⟩
              · have z := of_decide_eq_true z
                rw [frOf_2n (by omega)] at h
                exact h
              · have z := of_decide_eq_false z
                rw [frOf_2 ⟨x0, by omega⟩] at h
                exact h
    | _ => first
      | exact Bool.noConfusion ok1
      | (walk_at "st"; walk_at "isi"; exact ⟨fun _ => h, fun z => Bool.noConfusion z⟩)
      | (walk_at "st"; walk_at "isi"; exact ⟨fun _ => ⟨fun _ => h, fun z => Bool.noConfusion z⟩, fun z => Bool.noConfusion z⟩)
theorem ok__law_streams (T : Top P K mg) (h c : Addr) : FnOk P w K mg base (L2N.CX P w) 6 T.f__law_streams T.d__law_streams ["heap", "rate"] (conc K (bxHeap h c) (sp__law_streams h)) := by
  refine dfn T.F__law_streams sc__law_streams (fun ds M Φ Ψ h => ?_) (fun cdv A outer s H E hr ds M Φ Ψ hh => ⟨_, (dss_cons (ds_asg (de_call ((ok__law_spans T h c).mono (by first | decide | exact Nat.le_refl _)) hr (by rfl) T.g__law_spans T.F__law_spans.kp T.b__law_spans (L2N.takes_of rfl rfl rfl rfl) (da_cons (dv 0) da_nil)) (dg_tup rfl (dgs_cons (dg_name (i := 2) sc__law_streams.nd rfl (.inl rfl)) (dgs_cons (dg_name (i := 3) sc__law_streams.nd rfl (.inl rfl)) dgs_nil)) (fix_cons (fix_cons fix_nil))))
      (dss_cons (ds_set (i := 4) sc__law_streams.nd rfl (.inl rfl) (de_lst da_nil))
      (dss_cons (ds_for (passes_of rfl) rfl (di_seq (dv 2)) (dg_tup rfl (dgs_cons (dg_name (i := 5) sc__law_streams.nd rfl (.inr rfl)) (dgs_cons (dg_name (i := 6) sc__law_streams.nd rfl (.inl rfl)) dgs_nil)) (fix_cons (fix_cons fix_nil)))
        (dss_one (ds_set (i := 4) sc__law_streams.nd rfl (.inl rfl) (de_catL (dv 4) (de_lc (own := [("at", 7)]) rfl sc__law_streams.nd (di_seq (de_call ((ok__law_bucket T).mono (by first | decide | exact Nat.le_refl _)) hr (by rfl) T.g__law_bucket T.F__law_bucket.kp T.b__law_bucket (L2N.takes_of rfl rfl rfl rfl) (da_cons (dv 1) (da_cons (dv 6) da_nil)))) (blkOk_by (N := n__law_streams) (sc := defScope s__law_streams) (by decide +kernel)) (fun _ _ _ _ _ => (dg_name (i := 7) sc__law_streams.nd rfl (.inl rfl))) (fun _ _ _ _ _ => dts_nil) (fun _ _ _ _ _ => (de_add (dv 5) (dv 7))))))))
      (dss_cons (ds_if (dt_not (dt_val (de_call ((ok__law_like T 3).mono (by first | decide | exact Nat.le_refl _)) hr (by rfl) T.g__law_like T.F__law_like.kp T.b__law_like (L2N.takes_of rfl rfl rfl rfl) (da_cons (de_call ((ok_are_apart T).mono (by first | decide | exact Nat.le_refl _)) hr (by rfl) T.g_are_apart T.F_are_apart.kp T.b_are_apart (L2N.takes_of rfl rfl rfl rfl) (da_cons (dv 2) da_nil)) (da_cons (dv 3) da_nil)))))
        (dss_one (ds_ret de_bl))
        dss_nil)
      (dss_cons (ds_for (passes_of rfl) rfl (di_rng1 (by rfl) T.z_range (da_cons de_int da_nil)) (dg_name (i := 8) sc__law_streams.nd rfl (.inl rfl))
        (dss_cons (ds_asg (de_tup (da_cons (de_call ((ok__law_pick T h c).mono (by first | decide | exact Nat.le_refl _)) hr (by rfl) T.g__law_pick T.F__law_pick.kp T.b__law_pick (L2N.takes_of rfl rfl rfl rfl) (da_cons (dv 0) (da_cons (de_lst (da_cons de_int (da_cons de_int (da_cons de_int (da_cons de_int (da_cons (de_call ((ok__law_draw_box T h c).mono (by first | decide | exact Nat.le_refl _)) hr (by rfl) T.g__law_draw T.F__law_draw.kp T.b__law_draw (L2N.takes_of rfl rfl rfl rfl) (da_cons (dv 0) (da_cons de_int da_nil))) da_nil)))))) da_nil))) (da_cons (de_call ((ok__law_draw_box T h c).mono (by first | decide | exact Nat.le_refl _)) hr (by rfl) T.g__law_draw T.F__law_draw.kp T.b__law_draw (L2N.takes_of rfl rfl rfl rfl) (da_cons (dv 0) (da_cons de_int da_nil))) da_nil))) (dg_tup rfl (dgs_cons (dg_name (i := 9) sc__law_streams.nd rfl (.inr rfl)) (dgs_cons (dg_name (i := 10) sc__law_streams.nd rfl (.inr rfl)) dgs_nil)) (fix_cons (fix_cons fix_nil))))
          (dss_cons (ds_set (i := 11) sc__law_streams.nd rfl (.inl rfl) (de_len (by rfl) T.z_len (de_lc (own := [("one", 12)]) rfl sc__law_streams.nd (di_seq (dv 4)) (blkOk_by (N := n__law_streams) (sc := defScope s__law_streams) (by decide +kernel)) (fun _ _ _ _ _ => (dg_name (i := 12) sc__law_streams.nd rfl (.inl rfl))) (fun _ _ _ _ _ => (dts_one (dt_chain op_le op_lt ab_B0 ab_B0 (dv 10) (dv 12) (de_add (dv 10) (dv 9))))) (fun _ _ _ _ _ => (dv 12)))))
          (dss_one (ds_if (dt_not (dt_val (de_call ((ok__law_like T 3).mono (by first | decide | exact Nat.le_refl _)) hr (by rfl) T.g__law_like T.F__law_like.kp T.b__law_like (L2N.takes_of rfl rfl rfl rfl) (da_cons (de_call ((ok_slots_within T).mono (by first | decide | exact Nat.le_refl _)) hr (by rfl) T.g_slots_within T.F_slots_within.kp T.b_slots_within (L2N.takes_of rfl rfl rfl rfl) (da_cons (dv 1) (da_cons (dv 2) (da_cons (dv 10) (da_cons (dv 9) da_nil))))) (da_cons (dv 11) da_nil)))))
            (dss_one (ds_ret de_bl))
            dss_nil)))))
      (dss_cons (ds_set (i := 9) sc__law_streams.nd rfl (.inr rfl) (de_call ((ok__law_pick T h c).mono (by first | decide | exact Nat.le_refl _)) hr (by rfl) T.g__law_pick T.F__law_pick.kp T.b__law_pick (L2N.takes_of rfl rfl rfl rfl) (da_cons (dv 0) (da_cons (de_lst (da_cons de_int (da_cons de_int (da_cons de_int (da_cons (de_add de_int (de_call ((ok__law_draw_box T h c).mono (by first | decide | exact Nat.le_refl _)) hr (by rfl) T.g__law_draw T.F__law_draw.kp T.b__law_draw (L2N.takes_of rfl rfl rfl rfl) (da_cons (dv 0) (da_cons de_int da_nil)))) (da_cons (de_add de_int (de_call ((ok__law_draw_box T h c).mono (by first | decide | exact Nat.le_refl _)) hr (by rfl) T.g__law_draw T.F__law_draw.kp T.b__law_draw (L2N.takes_of rfl rfl rfl rfl) (da_cons (dv 0) (da_cons de_int da_nil)))) da_nil)))))) da_nil))))
      (dss_cons (ds_set (i := 13) sc__law_streams.nd rfl (.inl rfl) (de_call ((ok_most_slots T).mono (by first | decide | exact Nat.le_refl _)) hr (by rfl) T.g_most_slots T.F_most_slots.kp T.b_most_slots (L2N.takes_of rfl rfl rfl rfl) (da_cons (dv 1) (da_cons (dv 2) (da_cons (dv 9) da_nil)))))
      (dss_cons (ds_if (dt_not (dt_val (de_call ((ok__law_like T 3).mono (by first | decide | exact Nat.le_refl _)) hr (by rfl) T.g__law_like T.F__law_like.kp T.b__law_like (L2N.takes_of rfl rfl rfl rfl) (da_cons (dv 13) (da_cons (de_call ((ok__law_most T).mono (by first | decide | exact Nat.le_refl _)) hr (by rfl) T.g__law_most T.F__law_most.kp T.b__law_most (L2N.takes_of rfl rfl rfl rfl) (da_cons (dv 4) (da_cons (dv 9) da_nil))) da_nil)))))
        (dss_one (ds_ret de_bl))
        dss_nil)
      (dss_cons (ds_set (i := 14) sc__law_streams.nd rfl (.inl rfl) (de_call ((ok_most_told T).mono (by first | decide | exact Nat.le_refl _)) hr (by rfl) T.g_most_told T.F_most_told.kp T.b_most_told (L2N.takes_of rfl rfl rfl rfl) (da_cons (dv 1) (da_cons (dv 9) da_nil))))
      (dss_cons (ds_if (dt_not (dt_val (de_call ((ok__law_like T 3).mono (by first | decide | exact Nat.le_refl _)) hr (by rfl) T.g__law_like T.F__law_like.kp T.b__law_like (L2N.takes_of rfl rfl rfl rfl) (da_cons (dv 14) (da_cons (de_add (de_callInt (by rfl) T.z_int (de_div (de_mul (de_item (dv 1) de_int) (dv 9)) (de_item (dv 1) de_int))) (de_callInt (by rfl) T.z_int (de_ne hr (de_mod (de_callInt (by rfl) T.z_int (de_mul (de_item (dv 1) de_int) (dv 9))) (de_item (dv 1) de_int)) de_int))) da_nil)))))
        (dss_one (ds_ret de_bl))
        dss_nil)
      (dss_one (ds_ret (de_or (de_not (dv 3)) (de_one (de_le (dv 13) (dv 14)))))))))))))))), ?_⟩) <;> (first | (unfold sp__law_streams at h; split at h; rotate_left; exact h.elim) | (unfold sp__law_streams at hh; split at hh; rotate_left; exact hh.elim))
  · rfl
  · rename_i h' p q
    obtain ⟨rfl, hp, hq⟩ := hh
    have p0 : 0 ≤ p := by unfold RP at hp; omega
    have pq : p ≤ q := by unfold RP at hp; omega
    have q0 : 0 < q := by unfold RP at hp; omega
    rw [st__law_streams]
    walk_at "st"
    refine ⟨rfl, fun sp hs => ?_⟩
    have hm : ∀ s ∈ sp, 0 ≤ s.2 := fun s h => (hs.2 s h).2.1
    have wq : ∀ x l, 0 ≤ l → inWin (rowOf p q sp) x l = within p q sp x l := fun x l hl => within_eq p0 pq q0 hm hl
    have rl : ∀ sp : List Sp2, (∀ s ∈ sp, (0 ≤ s.1 ∧ s.1 ≤ 1000) ∧ (0 ≤ s.2 ∧ s.2 ≤ 30)) → (rowOf p q sp).length ≤ 30 * sp.length := fun sp h => by
      induction sp with
      | nil => exact Nat.le_refl _
      | cons s sp ih =>
        have i := ih fun t ht => h t (List.mem_cons_of_mem _ ht)
        have j := h s List.mem_cons_self
        have k : (slots p q s.2).length ≤ s.2.toNat := slots_len
        unfold rowOf at i ⊢
        rw [List.flatMap_cons, List.length_append, List.length_map, List.length_cons]
        omega
    have rls := rl sp hs.2
    have spl := hs.1
    walk_at "st"
    refine ⟨by decide, ?_⟩
    refine aSeq_step ?_
    refine aFor_map sp spD (fun i Γ' M' => ∃ x y z, Γ' = [some (.ref h'), some (.tup [.int p, .int q]), some (.tup (sp.map spD)), some (.bl (apI sp)), some (.lst ((rowOf p q (sp.take i)).map D.int)), x, y, z, none, none, none, none, none, none, none] ∧ M' = M) (fun Φ' z => ?_) ⟨_, _, _, rfl, rfl⟩ ?_ ?_
    · walk_at "ev"
      exact z
    · rintro i s Γ' M' hx ⟨x, y, z, rfl, rfl⟩
      refine ⟨_, rfl, ?_⟩
      have hs2 := hs.2 s (List.mem_of_getElem? hx)
      have e : rowOf p q (sp.take (i + 1)) = rowOf p q (sp.take i) ++ (slots p q s.2).map (s.1 + ·) := by
        rw [take_next hx]
        unfold rowOf
        rw [List.flatMap_append, List.flatMap_cons, List.flatMap_nil, List.append_nil]
      have rt := rl (sp.take i) fun t ht => hs.2 t (List.mem_of_mem_take ht)
      rw [List.length_take] at rt
      have sl : (slots p q s.2).length ≤ s.2.toNat := slots_len
      walk_at "ev"
      refine aLc_int (slots p q s.2) D.int (s.1 + ·) (fun Φ' z => ?_) (by omega) (fun x hx M' => ⟨_, rfl, fun Φ' z => ?_⟩) ?_
      · walk_at "ev"
        exact ⟨hp, ⟨by omega, by omega⟩, z⟩
      · walk_at "ev"
        exact z
      walk_at "ev"
      rw [List.length_map, List.length_map, List.length_map, e, List.map_append]
      exact ⟨by omega, _, _, _, rfl, rfl⟩
    · rintro Γ' M' ⟨x, y, z, rfl, rfl⟩
      rw [List.take_length]
      walk_at "st"
      refine ⟨sp, rfl, hs, _, _, rfl, ⟨rfl, rfl⟩, fun z => Bool.noConfusion z, fun _ => ?_⟩
      refine aSeq_step ?_
      walk_at "ev"
      refine aFor_rng 0 4 (fun i Γ2 M2 => ∃ a b c d e f, Γ2 = [some (.ref h'), some (.tup [.int p, .int q]), some (.tup (sp.map spD)), some (.bl (apI sp)), some (.lst ((rowOf p q sp).map D.int)), x, y, z, a, b, c, d, e, f, none] ∧ M2 = M') (fun Φ' z => ?_) ⟨_, _, _, _, _, _, rfl, rfl⟩ ?_ ?_
      · walk_at "ev"
        exact ⟨⟨by decide, by decide⟩, z⟩
      · rintro i Γ2 M2 hi ⟨a, b, c, d, e, f, rfl, rfl⟩
        refine ⟨_, rfl, ?_⟩
        walk_at "st"
        refine ⟨rfl, by walk_at "ok", fun r r0 r1 => ⟨by decide, rfl, by decide, pick_as (emb := D.int) (R := fun x => 0 ≤ x ∧ x ≤ 100) (by walk_at "mem") fun l ⟨l0, l1⟩ => ⟨rfl, by walk_at "ok", fun g g0 g1 => ⟨by decide, ?_⟩⟩⟩⟩
        walk_at "st"
        refine aLc_ifid (rowOf p q sp) D.int (fun y => decide (g ≤ y) && decide (y < g + l)) (fun Φ' z => ?_) (by omega) (fun y hy M' => ⟨_, rfl, fun Φ' z => ?_, fun hf Φ' z => ?_⟩) ?_
        · walk_at "ev"
          exact z
        · walk_at "ev"
          refine ⟨fun z1 => ?_, fun z1 => ?_⟩
          · rw [z1, Bool.true_and] at z
            exact z
          · rw [z1, Bool.false_and] at z
            exact z
        · walk_at "ev"
          exact z
        walk_at "ev"
        rw [List.length_map]
        exact ⟨hp, sp, rfl, hs, _, _, rfl, ⟨congrArg D.int (wq g l l0).symm, rfl⟩, fun z => Bool.noConfusion z, fun _ => ⟨_, _, _, _, _, _, rfl, rfl⟩⟩
      · rintro Γ2 M2 ⟨a, b, c, d, e, f, rfl, rfl⟩
        walk_at "st"
        refine ⟨rfl, by walk_at "ok", fun r r0 r1 => ⟨rfl, by walk_at "ok", fun r' r0' r1' => ⟨Nat.le_of_ble_eq_true rfl, rfl, ⟨Nat.succ_pos _, by show 5 < 1000000; decide⟩, pick_as (emb := D.int) (R := fun x => 0 ≤ x ∧ x ≤ 100) (by walk_at "mem") fun l ⟨l0, l1⟩ => ?_⟩⟩⟩
        walk_at "st"
        refine ⟨hp, sp, rfl, hs, ?_⟩
        have em : mostW p q sp l = mostF ((rowOf p q sp).map fun x => inWin (rowOf p q sp) x l) := by
          unfold mostW
          congr 1
          exact List.map_congr_left fun x _ => (wq x l l0).symm
        walk_at "st"
        refine ⟨rowOf p q sp, rfl, by omega, _, _, rfl, ⟨congrArg D.int em, rfl⟩, fun z => Bool.noConfusion z, fun _ => ?_⟩
        walk_at "st"
        refine ⟨hp, ?_⟩
        walk_at "st"
        unfold RP at hp
        refine ⟨.inl ⟨by omega, by omega⟩, divOk_of (by omega) (by omega), .inl ⟨by omega, by omega⟩, by walk_at "ok", _, _, rfl, ⟨congrArg D.int (ceil_eq q0).symm, rfl⟩, fun z => Bool.noConfusion z, fun _ => ?_⟩
        walk_at "ev"
        refine ⟨fun _ => hq, fun z => ?_⟩
        rw [decide_eq_true]
        · exact hq
        · have ap := apI_of (by rw [Bool.not_eq_false'] at z; exact z)
          exact most_le (Int.le_trans (Sl_nonneg p0 q0 l0) (Sl_le_ceil q0 l)) fun x hx => by
            obtain ⟨y, _, rfl⟩ := List.mem_map.mp hx
            exact apart_most p0 q0 ap hm l0
theorem low_pr' {a b : Int} (ha : 0 ≤ a) (hb : 0 < b) : (0 ≤ (low a b).1 ∧ (low a b).1 ≤ a) ∧ (0 < (low a b).2 ∧ (low a b).2 ≤ b) := by
  have g0 : 0 < gcdI a b := by
    unfold gcdI
    have := Int.gcd_pos_of_ne_zero_right a (by omega : b ≠ 0)
    omega
  have e1 : gcdI a b * (b / gcdI a b) = b := Int.mul_ediv_cancel' (Int.gcd_dvd_right a b)
  have l1 : a / gcdI a b ≤ a := Int.ediv_le_self _ ha
  have l2 : b / gcdI a b ≤ b := Int.ediv_le_self _ (by omega)
  have l3 : 0 ≤ a / gcdI a b := Int.ediv_nonneg ha (by omega)
  show (0 ≤ a / gcdI a b ∧ a / gcdI a b ≤ a) ∧ (0 < b / gcdI a b ∧ b / gcdI a b ≤ b)
  refine ⟨⟨l3, l1⟩, ?_, l2⟩
  rcases Int.lt_or_le 0 (b / gcdI a b) with z | z
  · exact z
  · have : gcdI a b * (b / gcdI a b) ≤ 0 := Int.mul_nonpos_of_nonneg_of_nonpos (by omega) z
    omega
theorem mul40 {a b : Int} (ha : 0 ≤ a) (ha2 : a < 2 ^ 60) (hb : 0 ≤ b) (hb2 : b < 2 ^ 60) : MulOk a b := mulS ha (big ha2 (by decide)) hb (big hb2 (by decide))
theorem aSeq_tail3 {α : Type} {a c d b : AS} {A : AEnds} {Γ : Gm} {M : Mm} (Γf : α → Gm) (M0 : Mm) (h : ∀ x, b A (Γf x) M0) (k : (∀ x, b A (Γf x) M0) → aSeq a (aSeq c (aSeq d b)) A Γ M) : aSeq a (aSeq c (aSeq d b)) A Γ M := k h
theorem ok__law_fractions (T : Top P K mg) (h c : Addr) : FnOk P w K mg base (L2N.CX P w) 7 T.f__law_fractions T.d__law_fractions ["heap", "rate"] (conc K (bxHeap h c) (sp__law_fractions h)) := by
  refine dfn T.F__law_fractions sc__law_fractions (fun ds M Φ Ψ h => ?_) (fun cdv A outer s H E hr ds M Φ Ψ hh => ⟨_, (dss_cons (ds_asg (dv 1) (dg_tup rfl (dgs_cons (dg_name (i := 2) sc__law_fractions.nd rfl (.inl rfl)) (dgs_cons (dg_name (i := 3) sc__law_fractions.nd rfl (.inl rfl)) dgs_nil)) (fix_cons (fix_cons fix_nil))))
      (dss_cons (ds_set (i := 4) sc__law_fractions.nd rfl (.inl rfl) (de_lst (da_cons (dv 1) (da_cons (de_tup (da_cons (dv 2) (da_cons (de_add (dv 3) de_int) da_nil))) (da_cons (de_tup (da_cons (de_mul de_int (dv 2)) (da_cons (de_mul de_int (dv 3)) da_nil))) (da_cons (de_tup (da_cons (dv 3) (da_cons (dv 2) da_nil))) (da_cons (de_lst (da_cons (dv 2) (da_cons (dv 3) da_nil))) (da_cons (de_tup (da_cons (dv 2) da_nil)) (da_cons (de_tup (da_cons (dv 2) (da_cons (dv 3) (da_cons de_int da_nil)))) (da_cons de_non (da_cons (de_tup (da_cons de_bl (da_cons de_int da_nil))) (da_cons (de_tup (da_cons de_int (da_cons de_bl da_nil))) da_nil))))))))))))
      (dss_cons (ds_set (i := 4) sc__law_fractions.nd rfl (.inl rfl) (de_catL (dv 4) (de_lst (da_cons (de_tup (da_cons de_int (da_cons de_int da_nil))) (da_cons (de_tup (da_cons de_int (da_cons de_int da_nil))) (da_cons (de_tup (da_cons de_int (da_cons de_int da_nil))) (da_cons (de_tup (da_cons de_int (da_cons de_int da_nil))) (da_cons (de_tup (da_cons de_int (da_cons de_int da_nil))) (da_cons (de_tup (da_cons (de_neg de_int) (da_cons de_int da_nil))) (da_cons (de_tup (da_cons de_int (da_cons (de_neg de_int) da_nil))) (da_cons de_str (da_cons de_int (da_cons (de_tup (da_cons (dv 2) (da_cons de_int da_nil))) (da_cons (de_tup (da_cons de_int (da_cons de_int da_nil))) (da_cons (de_tup (da_cons de_int (da_cons de_int da_nil))) (da_cons (de_tup (da_cons de_int (da_cons de_int da_nil))) (da_cons (de_tup (da_cons de_int (da_cons de_int da_nil))) da_nil)))))))))))))))))
      (dss_cons (ds_for (passes_of rfl) rfl (di_seq (de_lst (da_cons (de_call ((ok__law_pick T h c).mono (by first | decide | exact Nat.le_refl _)) hr (by rfl) T.g__law_pick T.F__law_pick.kp T.b__law_pick (L2N.takes_of rfl rfl rfl rfl) (da_cons (dv 0) (da_cons (dv 4) da_nil))) (da_cons (de_call ((ok__law_pick T h c).mono (by first | decide | exact Nat.le_refl _)) hr (by rfl) T.g__law_pick T.F__law_pick.kp T.b__law_pick (L2N.takes_of rfl rfl rfl rfl) (da_cons (dv 0) (da_cons (dv 4) da_nil))) da_nil)))) (dg_name (i := 5) sc__law_fractions.nd rfl (.inl rfl))
        (dss_cons (ds_set (i := 6) sc__law_fractions.nd rfl (.inl rfl) (de_call ((ok__law_parts T).mono (by first | decide | exact Nat.le_refl _)) hr (by rfl) T.g__law_parts T.F__law_parts.kp T.b__law_parts (L2N.takes_of rfl rfl rfl rfl) (da_cons (dv 5) da_nil)))
          (dss_cons (ds_set (i := 7) sc__law_fractions.nd rfl (.inl rfl) (de_and (de_isNot (dv 6) de_non) (de_one (de_eq hr (de_call ((ok__law_divisor26 T).mono (by first | decide | exact Nat.le_refl _)) hr (by rfl) T.g__law_divisor T.F__law_divisor.kp T.b__law_divisor (L2N.takes_of rfl rfl rfl rfl) (da_cons (de_item (dv 6) de_int) (da_cons (de_item (dv 6) de_int) da_nil))) de_int))))
          (dss_cons (ds_set (i := 8) sc__law_fractions.nd rfl (.inl rfl) (de_and (dv 7) (de_one (de_chain3 op_lt op_lt op_le ab_B0 ab_B0 ab_B0 de_int (de_item (dv 6) de_int) (de_item (dv 6) de_int) de_int))))
          (dss_cons (ds_if (dt_w (dw_or (dt_not (dt_val (de_call ((ok__law_like T 3).mono (by first | decide | exact Nat.le_refl _)) hr (by rfl) T.g__law_like T.F__law_like.kp T.b__law_like (L2N.takes_of rfl rfl rfl rfl) (da_cons (de_call ((ok_is_fraction T).mono (by first | decide | exact Nat.le_refl _)) hr (by rfl) T.g_is_fraction T.F_is_fraction.kp T.b_is_fraction (L2N.takes_of rfl rfl rfl rfl) (da_cons (dv 5) da_nil)) (da_cons (dv 7) da_nil))))) (dw_or1 (dt_not (dt_val (de_call ((ok__law_like T 3).mono (by first | decide | exact Nat.le_refl _)) hr (by rfl) T.g__law_like T.F__law_like.kp T.b__law_like (L2N.takes_of rfl rfl rfl rfl) (da_cons (de_call ((ok_is_rate T).mono (by first | decide | exact Nat.le_refl _)) hr (by rfl) T.g_is_rate T.F_is_rate.kp T.b_is_rate (L2N.takes_of rfl rfl rfl rfl) (da_cons (dv 5) da_nil)) (da_cons (dv 8) da_nil))))))))
            (dss_one (ds_ret de_bl))
            dss_nil)
          (dss_one (ds_try (i := 9) (tb := fun Ψ => aIfS (aOr (aNot (aB (aCall (spLike 3) [] Ψ (aCons (aCall (sp_need_rate T.C_Refused) [] Ψ (aCons (aVar 5) aNil)) (aCons (aC D.non) aNil))))) (aNot (aB (aVar 8)))) (aRet (aC (D.bl false))) aNext) rfl rfl sc__law_fractions.nd rfl rfl ⟨by rfl, by rfl, .inl T.g_GreedyError⟩ (L2N.takes_of rfl rfl rfl rfl) (fun W Ψ pn xe tkW =>
            (dss_one (ds_if (dt_w (dw_or (dt_not (dt_val (de_call ((ok__law_like T 3).mono (by first | decide | exact Nat.le_refl _)) hr (by rfl) T.g__law_like T.F__law_like.kp T.b__law_like tkW (da_cons (de_call ((ok_need_rate T).mono (by first | decide | exact Nat.le_refl _)) hr (by rfl) T.g_need_rate T.F_need_rate.kp T.b_need_rate tkW (da_cons (dv 5) da_nil)) (da_cons de_non da_nil))))) (dw_or1 (dt_not (dt_val (dv 8))))))
                (dss_one (ds_ret de_bl))
                dss_nil))) (fun a dd C oe pn hz hv =>
            (dss_one (ds_if (dt_w (dw_or (dt_val (dv 8)) (dw_or (dt_not (dt_val (de_isX hz hv (by rfl) T.z_isinstance (by rfl) T.g_Refused (dv 9)))) (dw_or1 (dt_not (dt_val (de_callH (FnH_mono (ok__law_like_H T) (by first | decide | exact Nat.le_refl _)) (room_suite hr) (hot_suite hz hv) (by rfl) T.g__law_like T.F__law_like.kp T.b__law_like tk_calm (da_cons (de_xat hz hv (dv 9)) (da_cons de_str da_nil)))))))))
                (dss_one (ds_ret de_bl))
                dss_nil))))))))))
      (dss_cons (ds_par (i := 10) (j := 11) rfl sc__law_fractions.nd rfl rfl (by decide) rfl rfl (da_cons (de_call ((ok__law_draw_box T h c).mono (by first | decide | exact Nat.le_refl _)) hr (by rfl) T.g__law_draw T.F__law_draw.kp T.b__law_draw (L2N.takes_of rfl rfl rfl rfl) (da_cons (dv 0) (da_cons (de_pow de_int de_int) da_nil))) (da_cons (de_add de_int (de_call ((ok__law_draw_box T h c).mono (by first | decide | exact Nat.le_refl _)) hr (by rfl) T.g__law_draw T.F__law_draw.kp T.b__law_draw (L2N.takes_of rfl rfl rfl rfl) (da_cons (dv 0) (da_cons (de_pow de_int de_int) da_nil)))) da_nil)))
      (dss_cons (ds_set (i := 12) sc__law_fractions.nd rfl (.inl rfl) (de_call ((ok__law_divisor26 T).mono (by first | decide | exact Nat.le_refl _)) hr (by rfl) T.g__law_divisor T.F__law_divisor.kp T.b__law_divisor (L2N.takes_of rfl rfl rfl rfl) (da_cons (dv 10) (da_cons (dv 11) da_nil))))
      (dss_cons (ds_if (dt_not (dt_val (de_call ((ok__law_like T 3).mono (by first | decide | exact Nat.le_refl _)) hr (by rfl) T.g__law_like T.F__law_like.kp T.b__law_like (L2N.takes_of rfl rfl rfl rfl) (da_cons (de_call ((ok_lowest T).mono (by first | decide | exact Nat.le_refl _)) hr (by rfl) T.g_lowest T.F_lowest.kp T.b_lowest (L2N.takes_of rfl rfl rfl rfl) (da_cons (dv 10) (da_cons (dv 11) da_nil))) (da_cons (de_tup (da_cons (de_div (dv 10) (dv 12)) (da_cons (de_div (dv 11) (dv 12)) da_nil))) da_nil)))))
        (dss_one (ds_ret de_bl))
        dss_nil)
      (dss_cons (ds_set (i := 13) sc__law_fractions.nd rfl (.inl rfl) (de_call ((ok_lowest T).mono (by first | decide | exact Nat.le_refl _)) hr (by rfl) T.g_lowest T.F_lowest.kp T.b_lowest (L2N.takes_of rfl rfl rfl rfl) (da_cons (dv 10) (da_cons (dv 11) da_nil))))
      (dss_cons (ds_par (i := 14) (j := 15) rfl sc__law_fractions.nd rfl rfl (by decide) rfl rfl (da_cons (de_call ((ok_sum_of T).mono (by first | decide | exact Nat.le_refl _)) hr (by rfl) T.g_sum_of T.F_sum_of.kp T.b_sum_of (L2N.takes_of rfl rfl rfl rfl) (da_cons (dv 1) (da_cons (dv 13) da_nil))) (da_cons (de_call ((ok_product_of T).mono (by first | decide | exact Nat.le_refl _)) hr (by rfl) T.g_product_of T.F_product_of.kp T.b_product_of (L2N.takes_of rfl rfl rfl rfl) (da_cons (dv 13) (da_cons (dv 1) da_nil))) da_nil)))
      (dss_cons (ds_if (dt_w (dw_or (dt_ne hr (de_mul (de_mul (de_item (dv 14) de_int) (dv 3)) (de_item (dv 13) de_int)) (de_mul (de_item (dv 14) de_int) (de_add (de_mul (dv 2) (de_item (dv 13) de_int)) (de_mul (de_item (dv 13) de_int) (dv 3))))) (dw_or1 (dt_ne hr (de_mul (de_mul (de_item (dv 15) de_int) (dv 3)) (de_item (dv 13) de_int)) (de_mul (de_mul (de_item (dv 15) de_int) (dv 2)) (de_item (dv 13) de_int))))))
        (dss_one (ds_ret de_bl))
        dss_nil)
      (dss_cons (ds_if (dt_not (dt_val (de_call ((ok__law_like T 3).mono (by first | decide | exact Nat.le_refl _)) hr (by rfl) T.g__law_like T.F__law_like.kp T.b__law_like (L2N.takes_of rfl rfl rfl rfl) (da_cons (de_tup (da_cons (de_call ((ok_is_fraction T).mono (by first | decide | exact Nat.le_refl _)) hr (by rfl) T.g_is_fraction T.F_is_fraction.kp T.b_is_fraction (L2N.takes_of rfl rfl rfl rfl) (da_cons (dv 14) da_nil)) (da_cons (de_call ((ok_is_fraction T).mono (by first | decide | exact Nat.le_refl _)) hr (by rfl) T.g_is_fraction T.F_is_fraction.kp T.b_is_fraction (L2N.takes_of rfl rfl rfl rfl) (da_cons (dv 15) da_nil)) da_nil))) (da_cons (de_tup (da_cons de_bl (da_cons de_bl da_nil))) da_nil)))))
        (dss_one (ds_ret de_bl))
        dss_nil)
      (dss_one (ds_ret (de_call ((ok__law_like T 3).mono (by first | decide | exact Nat.le_refl _)) hr (by rfl) T.g__law_like T.F__law_like.kp T.b__law_like (L2N.takes_of rfl rfl rfl rfl) (da_cons (de_tup (da_cons (de_call ((ok_is_less T).mono (by first | decide | exact Nat.le_refl _)) hr (by rfl) T.g_is_less T.F_is_less.kp T.b_is_less (L2N.takes_of rfl rfl rfl rfl) (da_cons (dv 1) (da_cons (dv 13) da_nil))) (da_cons (de_call ((ok_is_less T).mono (by first | decide | exact Nat.le_refl _)) hr (by rfl) T.g_is_less T.F_is_less.kp T.b_is_less (L2N.takes_of rfl rfl rfl rfl) (da_cons (dv 13) (da_cons (dv 1) da_nil))) da_nil))) (da_cons (de_tup (da_cons (de_lt (de_mul (dv 2) (de_item (dv 13) de_int)) (de_mul (de_item (dv 13) de_int) (dv 3))) (da_cons (de_lt (de_mul (de_item (dv 13) de_int) (dv 3)) (de_mul (dv 2) (de_item (dv 13) de_int))) da_nil))) da_nil)))))))))))))))), ?_⟩) <;> (first | (unfold sp__law_fractions at h; split at h; rotate_left; exact h.elim) | (unfold sp__law_fractions at hh; split at hh; rotate_left; exact hh.elim))
  · rfl
  · rename_i h' p q
    obtain ⟨rfl, hp, hg, hq⟩ := hh
    rw [st__law_fractions]
    have hp0 := hp
    unfold RP at hp0
    have okk := odd_okP hp
    walk_at "st"
    walk_at "st"
    refine ⟨by decide, by walk_at "ok", by walk_at "ok", by decide, by decide, by decide, by decide, by decide, by decide, by decide, by decide, ?_⟩
    walk_at "st"
    refine ⟨by decide, by decide, by decide, by decide, by decide, by decide, by decide, by decide, by decide, by decide, by decide, by decide, by decide, Nat.le_of_ble_eq_true rfl, ?_⟩
    refine aSeq_step ?_
    refine aFor_mapP (fun vs : List D => ∀ v ∈ vs, okPr v = true ∧ ∀ f, frOf v = some f → f.2 ≤ 2000) (fun d => d) (fun vs i Γ' M' => ∃ a b c d e, Γ' = [some (.ref h'), some (.tup [.int p, .int q]), some (.int p), some (.int q), some (.lst (oddA p q ++ oddB p q)), a, b, c, d, e, none, none, none, none, none, none] ∧ M' = M) (fun Φ' z => ?_) (fun vs hv => ⟨_, _, _, _, _, rfl, rfl⟩) ?_ ?_
    · walk_at "ev"
      refine ⟨rfl, ⟨Nat.succ_pos _, Nat.le_of_ble_eq_true rfl⟩, fun d hd => ⟨rfl, ⟨Nat.succ_pos _, Nat.le_of_ble_eq_true rfl⟩, fun d' hd' => ⟨by decide, ?_⟩⟩⟩
      have := z [d, d'] fun v hv => by
        rcases List.mem_cons.mp hv with rfl | hv
        · exact ⟨okk _ hd, odd_small hp _ hd⟩
        · rw [List.mem_singleton.mp hv]
          exact ⟨okk _ hd', odd_small hp _ hd'⟩
      exact this
    · rintro vs i v Γ' M' hv hx ⟨a, b, c, d, e, rfl, rfl⟩
      refine ⟨_, rfl, ?_⟩
      obtain ⟨hv, hsm⟩ := hv v (List.mem_of_getElem? hx)
      refine aSeq_tail3 (α := D) (fun pd => [some (.ref h'), some (.tup [.int p, .int q]), some (.int p), some (.int q), some (.lst (oddA p q ++ oddB p q)), some v, some pd, some (.bl (isFr v)), some (.bl (isRt v)), e, none, none, none, none, none, none]) M' (fun pd => ?_) fun tail => ?_
      · walk_at "st"
        refine ⟨hv, _, _, rfl, ⟨rfl, rfl⟩, fun z => Bool.noConfusion z, fun _ => ⟨hv, _, _, rfl, ⟨rfl, rfl⟩, fun z => Bool.noConfusion z, fun _ => ?_⟩⟩
        walk_at "ev"
        refine ⟨hv, fun hr => ?_, fun hr => ?_⟩
        · exact ⟨_, _, rfl, ⟨rfl, rfl⟩, fun z => Bool.noConfusion z, fun _ => ⟨fun z => (by rw [hr] at z; exact Bool.noConfusion z), fun _ => ⟨_, _, _, _, _, rfl, rfl⟩⟩⟩
        · unfold aCatch
          refine catch_yes T.e_Refused_GreedyError fun a dd => ?_
          walk_at "ev"
          exact ⟨fun z => (by rw [hr] at z; exact Bool.noConfusion z), fun _ => ⟨T.I_Refused, ⟨rfl, rfl, rfl⟩, true, T.i_Refused_Refused, fun z => Bool.noConfusion z, fun _ => ⟨T.X_Refused.xf, ⟨rfl, rfl, rfl⟩, _, _, rfl, ⟨rfl, rfl⟩, fun z => Bool.noConfusion z, fun _ => ⟨_, _, _, _, _, rfl, rfl⟩⟩⟩⟩
      · walk_at "st"
        refine ⟨hv, ?_⟩
        unfold partsD
        cases e9 : frOf v with
        | none =>
          have f1 := isFr_none e9
          have f2 := isRt_none e9
          walk_at "st"
          refine ⟨fun z => Bool.noConfusion z, fun _ => ?_⟩
          walk_at "st"
          refine ⟨fun z => Bool.noConfusion z, fun _ => ?_⟩
          have t := tail .non
          rw [f1, f2] at t
          exact t
        | some f =>
          have f1 := isFr_some e9
          have f2 := isRt_some e9
          obtain ⟨rfl, g0, g1⟩ := frOf_some e9
          have bd := hsm f e9
          walk_at "st"
          refine ⟨fun _ => ⟨⟨g0, by omega, by omega⟩, ?_⟩, fun z => Bool.noConfusion z⟩
          have t := tail (prD f)
          rw [f1, f2] at t
          have w : ∀ u : Bool, (decide (gcdI f.1 f.2 = 1) && (decide (0 < f.1) && (decide (f.1 < f.2) && decide (f.2 ≤ 1000)))) = u → _ := fun u e => by
            rw [e] at t
            exact t
          walk_at "st"
          refine ⟨fun z1 => ⟨fun z2 => ⟨fun z3 => w _ (by rw [z1, z2, z3]; rfl), fun z3 => w _ (by rw [z3, Bool.false_and, Bool.and_false, Bool.and_false])⟩, fun z2 => w _ (by rw [z2, Bool.false_and, Bool.and_false])⟩, fun z1 => ?_⟩
          have t2 := w false (by rw [z1, Bool.false_and])
          first
            | exact t2
            | (rw [z1] at t2 ⊢; exact t2)
    · rintro vs Γ' M' hv ⟨a, b, c, d, e, rfl, rfl⟩
      walk_at "ev"
      walk_at "st"
      have e6 : (10 : Int) ^ Int.toNat 6 = 1000000 := by decide
      have e4 : (10 : Int) ^ Int.toNat 4 = 10000 := by decide
      rw [e6, e4]
      refine ⟨⟨by decide, by decide, by decide⟩, rfl, by walk_at "ok", fun one o0 o1 => ⟨⟨by decide, by decide, by decide⟩, rfl, by walk_at "ok", fun other t0 t1 => ?_⟩⟩
      have gp : 0 < gcdI one (1 + other) := by
        unfold gcdI
        have := Int.gcd_pos_of_ne_zero_right one (by omega : 1 + other ≠ 0)
        omega
      have gl : gcdI one (1 + other) ≤ 1 + other := Int.le_of_dvd (by omega) (Int.gcd_dvd_right _ _)
      have lp := low_pr' (a := one) (b := 1 + other) o0 (by omega)
      walk_at "st"
      refine ⟨⟨by omega, by omega, by omega⟩, ?_⟩
      walk_at "st"
      refine ⟨⟨by omega, by omega, big (j := 20) (by omega) (by decide)⟩, divOk_of gp (by omega), divOk_of gp (by omega), by decide, _, _, rfl, ⟨rfl, rfl⟩, fun z => Bool.noConfusion z, fun _ => ?_⟩
      walk_at "st"
      refine ⟨⟨by omega, by omega, big (j := 20) (by omega) (by decide)⟩, ?_⟩
      walk_at "st"
      generalize hm : low one (1 + other) = m at lp
      have q480 : ∀ {x : Int}, x < 2 ^ 60 → x < 2 ^ 480 := fun h => Int.lt_of_lt_of_le h (pow_up (by decide))
      refine ⟨⟨by omega, by omega, by omega, by omega, q480 (by omega), q480 (by omega), q480 (by omega), q480 (by omega)⟩, ⟨by omega, by omega, by omega, by omega, q480 (by omega), q480 (by omega), q480 (by omega), q480 (by omega)⟩, ?_⟩
      have x1 : 0 ≤ p * m.2 ∧ p * m.2 ≤ 1000 * 10000 := ⟨Int.mul_nonneg (by omega) (by omega), Int.mul_le_mul (by omega) (by omega) (by omega) (by decide)⟩
      have x2 : 0 ≤ m.1 * q ∧ m.1 * q ≤ 1000000 * 1000 := ⟨Int.mul_nonneg (by omega) (by omega), Int.mul_le_mul (by omega) (by omega) (by omega) (by decide)⟩
      have x3 : 0 < q * m.2 ∧ q * m.2 ≤ 1000 * 10000 := ⟨Int.mul_pos (by omega) (by omega), Int.mul_le_mul (by omega) (by omega) (by omega) (by decide)⟩
      have x4 : 0 ≤ m.1 * p ∧ m.1 * p ≤ 1000000 * 1000 := ⟨Int.mul_nonneg (by omega) (by omega), Int.mul_le_mul (by omega) (by omega) (by omega) (by decide)⟩
      have x5 : 0 < m.2 * q ∧ m.2 * q ≤ 10000 * 1000 := ⟨Int.mul_pos (by omega) (by omega), Int.mul_le_mul (by omega) (by omega) (by omega) (by decide)⟩
      have s1 : sumF (p, q) (m.1, m.2) = low (p * m.2 + m.1 * q) (q * m.2) := rfl
      have t1 : mulF (m.1, m.2) (p, q) = low (m.1 * p) (m.2 * q) := rfl
      have sp := low_pr' (a := p * m.2 + m.1 * q) (b := q * m.2) (by omega) x3.1
      have tp := low_pr' (a := m.1 * p) (b := m.2 * q) x4.1 x5.1
      have sg := low_one (a := p * m.2 + m.1 * q) (b := q * m.2) x3.1
      have tg := low_one (a := m.1 * p) (b := m.2 * q) x5.1
      have sc := low_cross (a := p * m.2 + m.1 * q) (b := q * m.2)
      have tc := low_cross (a := m.1 * p) (b := m.2 * q)
      rw [← s1] at sp sg sc
      rw [← t1] at tp tg tc
      generalize sumF (p, q) (m.1, m.2) = s at sp sg sc
      generalize mulF (m.1, m.2) (p, q) = t at tp tg tc
      have y1 : 0 ≤ s.1 * q ∧ s.1 * q ≤ 1100000000 * 1000 := ⟨Int.mul_nonneg (by omega) (by omega), Int.mul_le_mul (by omega) (by omega) (by omega) (by decide)⟩
      have y2 : 0 ≤ t.1 * q ∧ t.1 * q ≤ 1100000000 * 1000 := ⟨Int.mul_nonneg (by omega) (by omega), Int.mul_le_mul (by omega) (by omega) (by omega) (by decide)⟩
      have y3 : 0 ≤ t.2 * p ∧ t.2 * p ≤ 10000000 * 1000 := ⟨Int.mul_nonneg (by omega) (by omega), Int.mul_le_mul (by omega) (by omega) (by omega) (by decide)⟩
      have c1 : s.1 * q * m.2 = s.2 * (p * m.2 + m.1 * q) := by rw [Int.mul_assoc]; exact sc
      have c2 : t.1 * q * m.2 = t.2 * p * m.1 := by
        have e1 : t.1 * q * m.2 = t.1 * (m.2 * q) := by rw [Int.mul_assoc, Int.mul_comm q]
        have e2 : t.2 * p * m.1 = t.2 * (m.1 * p) := by rw [Int.mul_assoc, Int.mul_comm p]
        rw [e1, e2]
        exact tc
      walk_at "st"
      refine ⟨mul40 (by omega) (by omega) (by omega) (by omega), mul40 (by omega) (by omega) (by omega) (by omega), mul40 (by omega) (by omega) (by omega) (by omega), mul40 (by omega) (by omega) (by omega) (by omega), mul40 (by omega) (by omega) (by omega) (by omega), ck c1 ⟨mul40 (by omega) (by omega) (by omega) (by omega), mul40 (by omega) (by omega) (by omega) (by omega), mul40 (by omega) (by omega) (by omega) (by omega), mul40 (by omega) (by omega) (by omega) (by omega), ck c2 ?_⟩⟩
      have is := isFr_some (frOf_2 (a := s.1) (b := s.2) ⟨by omega, by omega⟩)
      have it := isFr_some (frOf_2 (a := t.1) (b := t.2) ⟨by omega, by omega⟩)
      rw [decide_eq_true sg] at is
      rw [decide_eq_true tg] at it
      walk_at "st"
      rw [is, it]
      refine ⟨okPr_t ⟨by omega, by omega⟩ ⟨by omega, by omega⟩, okPr_t ⟨by omega, by omega⟩ ⟨by omega, by omega⟩, by decide, by decide, _, _, rfl, ⟨rfl, rfl⟩, fun z => Bool.noConfusion z, fun _ => ?_⟩
      walk_at "ev"
      exact ⟨⟨by omega, by omega, by omega, by omega, q480 (by omega), q480 (by omega), q480 (by omega), q480 (by omega)⟩, ⟨by omega, by omega, by omega, by omega, q480 (by omega), q480 (by omega), q480 (by omega), q480 (by omega)⟩, Nat.le_of_ble_eq_true rfl, mul40 (by omega) (by omega) (by omega) (by omega), mul40 (by omega) (by omega) (by omega) (by omega), mul40 (by omega) (by omega) (by omega) (by omega), mul40 (by omega) (by omega) (by omega) (by omega), Nat.le_of_ble_eq_true rfl, _, _, rfl, ⟨rfl, rfl⟩, hq⟩
theorem ok_law (T : Top P K mg) : FnOk P w K mg base (L2N.CX P w) 12 T.f_law T.d_law ["script"] (conc K Bx.no aspLaw) := by
  refine dfn T.F_law sc_law aspLaw_len (fun cdv A outer s H E hr ds M Φ Ψ hh => ⟨_, (dss_cons (ds_set (i := 1) sc_law.nd rfl (.inl rfl) (de_call ((ok__law_heap T).mono (by first | decide | exact Nat.le_refl _)) hr (by rfl) T.g__law_heap T.F__law_heap.kp T.b__law_heap (L2N.takes_of rfl rfl rfl rfl) (da_cons (dv 0) da_nil)))
      (dss_box (bx := fun i : Addr × Addr => bxHeap i.1 i.2) fun bi =>
      (dss_cons (ds_for (passes_of rfl) rfl (di_rng1 (by rfl) T.z_range (da_cons de_int da_nil)) (dg_name (i := 2) sc_law.nd rfl (.inl rfl))
          (dss_cons (ds_set (i := 3) sc_law.nd rfl (.inl rfl) (de_call ((ok__law_rate26 T bi.1 bi.2).mono (by first | decide | exact Nat.le_refl _)) hr (by rfl) T.g__law_rate T.F__law_rate.kp T.b__law_rate (L2N.takes_of rfl rfl rfl rfl) (da_cons (dv 1) (da_cons de_int da_nil))))
            (dss_cons (ds_set (i := 4) sc_law.nd rfl (.inl rfl) (de_call ((ok__law_pick T bi.1 bi.2).mono (by first | decide | exact Nat.le_refl _)) hr (by rfl) T.g__law_pick T.F__law_pick.kp T.b__law_pick (L2N.takes_of rfl rfl rfl rfl) (da_cons (dv 1) (da_cons (de_lst (da_cons de_int (da_cons de_int (da_cons (de_call ((ok__law_draw_box T bi.1 bi.2).mono (by first | decide | exact Nat.le_refl _)) hr (by rfl) T.g__law_draw T.F__law_draw.kp T.b__law_draw (L2N.takes_of rfl rfl rfl rfl) (da_cons (dv 1) (da_cons de_int da_nil))) (da_cons de_int da_nil))))) da_nil))))
            (dss_cons (ds_set (i := 5) sc_law.nd rfl (.inr rfl) (de_call ((ok__law_bucket T).mono (by first | decide | exact Nat.le_refl _)) hr (by rfl) T.g__law_bucket T.F__law_bucket.kp T.b__law_bucket (L2N.takes_of rfl rfl rfl rfl) (da_cons (dv 3) (da_cons (dv 4) da_nil))))
            (dss_cons (ds_if (dt_w (dw_or (dt_not (dt_val (de_call ((ok__law_like T 3).mono (by first | decide | exact Nat.le_refl _)) hr (by rfl) T.g__law_like T.F__law_like.kp T.b__law_like (L2N.takes_of rfl rfl rfl rfl) (da_cons (de_call ((ok_slot_beats T).mono (by first | decide | exact Nat.le_refl _)) hr (by rfl) T.g_slot_beats T.F_slot_beats.kp T.b_slot_beats (L2N.takes_of rfl rfl rfl rfl) (da_cons (dv 3) (da_cons (dv 4) da_nil))) (da_cons (de_tupleOf (by rfl) T.z_tuple (dv 5)) da_nil))))) (dw_or1 (dt_not (dt_val (de_call ((ok__law_like T 3).mono (by first | decide | exact Nat.le_refl _)) hr (by rfl) T.g__law_like T.F__law_like.kp T.b__law_like (L2N.takes_of rfl rfl rfl rfl) (da_cons (de_call ((ok_slots_in T).mono (by first | decide | exact Nat.le_refl _)) hr (by rfl) T.g_slots_in T.F_slots_in.kp T.b_slots_in (L2N.takes_of rfl rfl rfl rfl) (da_cons (dv 3) (da_cons (dv 4) da_nil))) (da_cons (de_len (by rfl) T.z_len (dv 5)) da_nil))))))))
              (dss_one (ds_ret de_bl))
              dss_nil)
            (dss_cons (ds_par (i := 6) (j := 7) rfl sc_law.nd rfl rfl (by decide) rfl rfl (da_cons (de_call ((ok__law_draw_box T bi.1 bi.2).mono (by first | decide | exact Nat.le_refl _)) hr (by rfl) T.g__law_draw T.F__law_draw.kp T.b__law_draw (L2N.takes_of rfl rfl rfl rfl) (da_cons (dv 1) (da_cons (de_pow de_int de_int) da_nil))) (da_cons (de_call ((ok__law_draw_box T bi.1 bi.2).mono (by first | decide | exact Nat.le_refl _)) hr (by rfl) T.g__law_draw T.F__law_draw.kp T.b__law_draw (L2N.takes_of rfl rfl rfl rfl) (da_cons (dv 1) (da_cons (de_pow de_int de_int) da_nil))) da_nil)))
            (dss_cons (ds_if (dt_not (dt_val (de_call ((ok__law_like T 3).mono (by first | decide | exact Nat.le_refl _)) hr (by rfl) T.g__law_like T.F__law_like.kp T.b__law_like (L2N.takes_of rfl rfl rfl rfl) (da_cons (de_call ((ok_is_slot T).mono (by first | decide | exact Nat.le_refl _)) hr (by rfl) T.g_is_slot T.F_is_slot.kp T.b_is_slot (L2N.takes_of rfl rfl rfl rfl) (da_cons (dv 3) (da_cons (dv 6) da_nil))) (da_cons (de_ge (de_add (de_mod (de_callInt (by rfl) T.z_int (de_mul (de_item (dv 3) de_int) (dv 6))) (de_item (dv 3) de_int)) (de_item (dv 3) de_int)) (de_item (dv 3) de_int)) da_nil)))))
              (dss_one (ds_ret de_bl))
              dss_nil)
            (dss_cons (ds_set (i := 8) sc_law.nd rfl (.inl rfl) (de_call ((ok_slots_in T).mono (by first | decide | exact Nat.le_refl _)) hr (by rfl) T.g_slots_in T.F_slots_in.kp T.b_slots_in (L2N.takes_of rfl rfl rfl rfl) (da_cons (dv 3) (da_cons (dv 7) da_nil))))
            (dss_cons (ds_if (dt_w (dw_or (dt_not (dt_val (de_isi (n := "int") (by rfl) T.z_isinstance (by rfl) T.z_int (by decide +kernel) (dv 8)))) (dw_or (dt_val (de_isi (n := "bool") (by rfl) T.z_isinstance (by rfl) T.z_bool (by decide +kernel) (dv 8))) (dw_or1 (dt_not (dt_chain op_le op_lt ab_B0 ab_B0 (de_mul (dv 8) (de_item (dv 3) de_int)) (de_mul (de_item (dv 3) de_int) (dv 7)) (de_mul (de_add (dv 8) de_int) (de_item (dv 3) de_int))))))))
              (dss_one (ds_ret de_bl))
              dss_nil)
            (dss_cons (ds_set (i := 9) sc_law.nd rfl (.inl rfl) (de_call ((ok__law_pick T bi.1 bi.2).mono (by first | decide | exact Nat.le_refl _)) hr (by rfl) T.g__law_pick T.F__law_pick.kp T.b__law_pick (L2N.takes_of rfl rfl rfl rfl) (da_cons (dv 1) (da_cons (de_lst (da_cons de_int (da_cons de_int (da_cons (de_call ((ok__law_draw_box T bi.1 bi.2).mono (by first | decide | exact Nat.le_refl _)) hr (by rfl) T.g__law_draw T.F__law_draw.kp T.b__law_draw (L2N.takes_of rfl rfl rfl rfl) (da_cons (dv 1) (da_cons de_int da_nil))) (da_cons (dv 4) da_nil))))) da_nil))))
            (dss_cons (ds_set (i := 10) sc_law.nd rfl (.inl rfl) (de_len (by rfl) T.z_len (de_lc (own := [("one", 11)]) rfl sc_law.nd (di_rng2 (by rfl) T.z_range (da_cons (de_max2 rfl (by rfl) T.z_max de_int (de_sub (dv 4) (dv 9))) (da_cons (dv 4) da_nil))) (blkOk_by (N := n_law) (sc := defScope s_law) (by decide +kernel)) (fun _ _ _ _ _ => (dg_name (i := 11) sc_law.nd rfl (.inl rfl))) (fun _ _ _ _ _ => (dts_one (dt_notIn (dv 11) (dv 5)))) (fun _ _ _ _ _ => (dv 11)))))
            (dss_cons (ds_if (dt_not (dt_val (de_call ((ok__law_like T 3).mono (by first | decide | exact Nat.le_refl _)) hr (by rfl) T.g__law_like T.F__law_like.kp T.b__law_like (L2N.takes_of rfl rfl rfl rfl) (da_cons (de_call ((ok_late_in T).mono (by first | decide | exact Nat.le_refl _)) hr (by rfl) T.g_late_in T.F_late_in.kp T.b_late_in (L2N.takes_of rfl rfl rfl rfl) (da_cons (dv 3) (da_cons (dv 4) (da_cons (dv 9) da_nil)))) (da_cons (dv 10) da_nil)))))
              (dss_one (ds_ret de_bl))
              dss_nil)
            (dss_one (ds_if (dt_w (dw_or (dt_not (dt_val (de_call ((ok__law_streams T bi.1 bi.2).mono (by first | decide | exact Nat.le_refl _)) hr (by rfl) T.g__law_streams T.F__law_streams.kp T.b__law_streams (L2N.takes_of rfl rfl rfl rfl) (da_cons (dv 1) (da_cons (dv 3) da_nil))))) (dw_or1 (dt_not (dt_val (de_call ((ok__law_fractions T bi.1 bi.2).mono (by first | decide | exact Nat.le_refl _)) hr (by rfl) T.g__law_fractions T.F__law_fractions.kp T.b__law_fractions (L2N.takes_of rfl rfl rfl rfl) (da_cons (dv 1) (da_cons (dv 3) da_nil))))))))
              (dss_one (ds_ret de_bl))
              dss_nil))))))))))))))
        (dss_one (ds_ret de_bl))))), ?_⟩)
  obtain ⟨ns, rfl, hl, rfl, hq⟩ := hh
  rw [st_law]
  walk_at "st"
  refine ⟨ns, rfl, hl, fun h c cs s hcs => ⟨(h, c), [], fun K F H x => heap_close hcs x, ?_⟩⟩
  refine aSeq_step ?_
  refine aFor_rng 0 2 (fun i Γ' M' => ∃ x2 x3 x4 x5 x6 x7 x8 x9 x10, Γ' = [some (.lst (List.map D.int ns)), some (.ref h), x2, x3, x4, x5, x6, x7, x8, x9, x10, none] ∧ M' = []) (fun Φ' q => ?_) ⟨_, _, _, _, _, _, _, _, _, rfl, rfl⟩ ?_ ?_
  · walk_at "ev"
    exact ⟨⟨by decide, by decide⟩, q⟩
  · rintro i Γ' M' hi ⟨x2, x3, x4, x5, x6, x7, x8, x9, x10, rfl, rfl⟩
    refine ⟨_, rfl, ?_⟩
    walk_at "st"
    refine ⟨rfl, rfl, fun p q hp hg => ?_⟩
    have p0 : 0 ≤ p := by unfold RP at hp; omega
    have pq : p ≤ q := by unfold RP at hp; omega
    have q0 : 0 < q := by unfold RP at hp; omega
    walk_at "st"
    refine ⟨rfl, by walk_at "ok", fun r r0 r1 => ⟨by decide, rfl, by decide, pick_as (emb := D.int) (R := fun x => 0 ≤ x ∧ x ≤ 70) (by walk_at "mem") fun n ⟨n0, n1⟩ => ?_⟩⟩
    walk_at "st"
    refine ⟨hp, ⟨n0, by omega⟩, ?_⟩
    have sl : (slots p q n).length ≤ n.toNat := slots_len
    have cn := cnt_slots p0 pq q0 0 n.toNat
    have esl : (((slots p q n).length : Nat) : Int) = Sl p q n := by
      show ((((rngI 0 n.toNat).filter (isS p q)).length : Nat) : Int) = _
      rw [cn, Sl_zero, show (0 : Int) + (n.toNat : Nat) = n by omega]
      omega
    have shs : shp 2 (.tup ((slots p q n).map D.int)) = true := by
      show (decide (((slots p q n).map D.int).length ≤ 1000) && ((slots p q n).map D.int).all (shp 1)) = true
      rw [List.length_map, decide_eq_true (by omega), Bool.true_and, List.all_eq_true]
      intro d hd
      obtain ⟨l, _, rfl⟩ := List.mem_map.mp hd
      rfl
    walk_at "st"
    refine ⟨hp, ⟨n0, by omega⟩, _, _, rfl, ⟨rfl, shs⟩, fun z => Bool.noConfusion z, fun _ => ⟨hp, _, _, rfl, ⟨by rw [List.length_map, esl], rfl⟩, fun z => Bool.noConfusion z, fun _ => ?_⟩⟩
    walk_at "ev"
    walk_at "st"
    have e12 : (10 : Int) ^ Int.toNat 12 = 1000000000000 := by decide
    have e9 : (10 : Int) ^ Int.toNat 9 = 1000000000 := by decide
    rw [e12, e9]
    unfold RP at hp
    refine ⟨⟨by decide, by decide, by decide⟩, rfl, by walk_at "ok", fun at_ a0 a1 => ⟨⟨by decide, by decide, by decide⟩, rfl, by walk_at "ok", fun many m0 m1 => ?_⟩⟩
    walk_at "st"
    refine ⟨hp, .inl ⟨by omega, by omega⟩, by walk_at "ok", _, _, rfl, ⟨congrArg D.bl (decide_eq_decide.mpr (slot_iff p0 pq q0 at_).1), rfl⟩, fun z => Bool.noConfusion z, fun _ => ?_⟩
    walk_at "st"
    refine ⟨hp, ?_⟩
    have t0 := Sl_nonneg (q := q) p0 q0 m0
    have t1 := Sl_lo (p := p) q0 many
    have t2 := Sl_hi (p := p) q0 many
    walk_at "st"
    walk_at "isi"
    refine ⟨fun z => Bool.noConfusion z, fun _ => ⟨fun z => Bool.noConfusion z, fun _ => ?_⟩⟩
    have t3 : Sl p q many ≤ many := by
      have h1 : p * many ≤ q * many := Int.mul_le_mul_of_nonneg_right pq m0
      have h2 : Sl p q many * q ≤ many * q := by
        rw [Int.mul_comm many q]
        omega
      exact Int.le_of_mul_le_mul_right h2 q0
    refine ⟨.inr (.inl ⟨by omega, by omega⟩), .inl ⟨by omega, by omega⟩, fun z => ⟨.inr (.inl ⟨by omega, by omega⟩), ck t2 ?_⟩, fun z => absurd t1 (of_decide_eq_false z)⟩
    walk_at "st"
    refine ⟨rfl, by walk_at "ok", fun r r0 r1 => ⟨by decide, rfl, by decide, pick_as (emb := D.int) (R := fun x => 0 ≤ x ∧ x ≤ 80) (by walk_at "mem") fun late ⟨l0, l1⟩ => ?_⟩⟩
    walk_at "st"
    refine aLc_ifid (rngI (max 0 (n - late)) (n - max 0 (n - late)).toNat) D.int (fun x => !decide (x ∈ slots p q n)) (fun Φ' z => ?_) (by rw [rngI_len]; omega) (fun x hx M' => ⟨_, rfl, fun Φ' z => ?_, fun hf Φ' z => ?_⟩) ?_
    · walk_at "ev"
      rw [rngD_eq]
      exact ⟨⟨by omega, by omega, by omega, by omega⟩, z⟩
    · walk_at "ev"
      refine ⟨⟨rfl, flat_ints⟩, ?_⟩
      rw [in_ints]
      exact z
    · walk_at "ev"
      exact z
    walk_at "ev"
    rw [List.length_map]
    have cc := cnt_not p0 pq q0 (max 0 (n - late)) (n - max 0 (n - late)).toNat
    have ef : (rngI (max 0 (n - late)) (n - max 0 (n - late)).toNat).filter (fun x => !decide (x ∈ slots p q n)) = (rngI (max 0 (n - late)) (n - max 0 (n - late)).toNat).filter (fun x => !isS p q x) := by
      refine List.filter_congr fun x hx => ?_
      have hx := mem_rngI hx
      have hiff : (x ∈ slots p q n) ↔ isS p q x = true := by
        unfold slots
        rw [List.mem_filter]
        exact ⟨fun h => h.2, fun h => ⟨rngI_mem (by omega) (by omega), h⟩⟩
      by_cases hm : x ∈ slots p q n
      · rw [decide_eq_true hm, hiff.mp hm]
      · rw [decide_eq_false hm]
        cases h9 : isS p q x with
        | false => rfl
        | true => exact absurd (hiff.mpr h9) hm
    have el : lateF p q n late = (((rngI (max 0 (n - late)) (n - max 0 (n - late)).toNat).filter (fun x => !decide (x ∈ slots p q n))).length : Nat) := by
      rw [ef, cc]
      unfold lateF
      rw [show max 0 (n - late) + ((n - max 0 (n - late)).toNat : Int) = n by omega, show max 0 (n - late) = n - min late n by omega]
      omega
    walk_at "st"
    refine ⟨hp, _, _, rfl, ⟨congrArg D.int el, rfl⟩, fun z => Bool.noConfusion z, fun _ => ?_⟩
    walk_at "ev"
    exact ⟨rfl, hp, fun z => Bool.noConfusion z, fun _ => ⟨rfl, hp, hg, fun z => Bool.noConfusion z, fun _ => ⟨_, _, _, _, _, _, _, _, _, rfl, rfl⟩⟩⟩
  · rintro Γ' M' ⟨x2, x3, x4, x5, x6, x7, x8, x9, x10, rfl, rfl⟩
    walk_at "ev"
    exact hq _

end
theorem all_mk {l : PySem.W.OpenLaw} {w : World} {K : PySem.W.Frag} {h : Heap} {mg : Str → Option Value} {fa : Addr} (X : K.In h) (G : h.Ns mainGlobals mg) (hfa : mg "law" = some (.ref fa))
    {C_Refused : Addr} {C_GreedyError : Addr} {f0 : Addr} {od0 an0 : Option Addr} {sl0 : Array (Option Value)} {oc0 kV0 dc0 pm0 cd0 ct0 : Value} {f1 : Addr} {od1 an1 : Option Addr} {sl1 : Array (Option Value)} {oc1 kV1 dc1 pm1 cd1 ct1 : Value} {f2 : Addr} {od2 an2 : Option Addr} {sl2 : Array (Option Value)} {oc2 kV2 dc2 pm2 cd2 ct2 : Value} {f3 : Addr} {od3 an3 : Option Addr} {sl3 : Array (Option Value)} {oc3 kV3 dc3 pm3 cd3 ct3 : Value} {f4 : Addr} {od4 an4 : Option Addr} {sl4 : Array (Option Value)} {oc4 kV4 dc4 pm4 cd4 ct4 : Value} {f5 : Addr} {od5 an5 : Option Addr} {sl5 : Array (Option Value)} {oc5 kV5 dc5 pm5 cd5 ct5 : Value} {f6 : Addr} {od6 an6 : Option Addr} {sl6 : Array (Option Value)} {oc6 kV6 dc6 pm6 cd6 ct6 : Value} {f7 : Addr} {od7 an7 : Option Addr} {sl7 : Array (Option Value)} {oc7 kV7 dc7 pm7 cd7 ct7 : Value} {f8 : Addr} {od8 an8 : Option Addr} {sl8 : Array (Option Value)} {oc8 kV8 dc8 pm8 cd8 ct8 : Value} {f9 : Addr} {od9 an9 : Option Addr} {sl9 : Array (Option Value)} {oc9 kV9 dc9 pm9 cd9 ct9 : Value} {f10 : Addr} {od10 an10 : Option Addr} {sl10 : Array (Option Value)} {oc10 kV10 dc10 pm10 cd10 ct10 : Value} {T10 : Addr} {tc10 : Value} {td10 : Option Addr} {tn10 : Nat} {ts10 : Array (Option Value)} {f11 : Addr} {od11 an11 : Option Addr} {sl11 : Array (Option Value)} {oc11 kV11 dc11 pm11 cd11 ct11 : Value} {f12 : Addr} {od12 an12 : Option Addr} {sl12 : Array (Option Value)} {oc12 kV12 dc12 pm12 cd12 ct12 : Value} {f13 : Addr} {od13 an13 : Option Addr} {sl13 : Array (Option Value)} {oc13 kV13 dc13 pm13 cd13 ct13 : Value} {f14 : Addr} {od14 an14 : Option Addr} {sl14 : Array (Option Value)} {oc14 kV14 dc14 pm14 cd14 ct14 : Value} {f15 : Addr} {od15 an15 : Option Addr} {sl15 : Array (Option Value)} {oc15 kV15 dc15 pm15 cd15 ct15 : Value} {f16 : Addr} {od16 an16 : Option Addr} {sl16 : Array (Option Value)} {oc16 kV16 dc16 pm16 cd16 ct16 : Value} {f17 : Addr} {od17 an17 : Option Addr} {sl17 : Array (Option Value)} {oc17 kV17 dc17 pm17 cd17 ct17 : Value} {f18 : Addr} {od18 an18 : Option Addr} {sl18 : Array (Option Value)} {oc18 kV18 dc18 pm18 cd18 ct18 : Value} {f19 : Addr} {od19 an19 : Option Addr} {sl19 : Array (Option Value)} {oc19 kV19 dc19 pm19 cd19 ct19 : Value} {f20 : Addr} {od20 an20 : Option Addr} {sl20 : Array (Option Value)} {oc20 kV20 dc20 pm20 cd20 ct20 : Value} {f21 : Addr} {od21 an21 : Option Addr} {sl21 : Array (Option Value)} {oc21 kV21 dc21 pm21 cd21 ct21 : Value} {f22 : Addr} {od22 an22 : Option Addr} {sl22 : Array (Option Value)} {oc22 kV22 dc22 pm22 cd22 ct22 : Value} {f23 : Addr} {od23 an23 : Option Addr} {sl23 : Array (Option Value)} {oc23 kV23 dc23 pm23 cd23 ct23 : Value} {f24 : Addr} {od24 an24 : Option Addr} {sl24 : Array (Option Value)} {oc24 kV24 dc24 pm24 cd24 ct24 : Value} {f25 : Addr} {od25 an25 : Option Addr} {sl25 : Array (Option Value)} {oc25 kV25 dc25 pm25 cd25 ct25 : Value} {f26 : Addr} {od26 an26 : Option Addr} {sl26 : Array (Option Value)} {oc26 kV26 dc26 pm26 cd26 ct26 : Value} {f27 : Addr} {od27 an27 : Option Addr} {sl27 : Array (Option Value)} {oc27 kV27 dc27 pm27 cd27 ct27 : Value} {f28 : Addr} {od28 an28 : Option Addr} {sl28 : Array (Option Value)} {oc28 kV28 dc28 pm28 cd28 ct28 : Value} {f29 : Addr} {od29 an29 : Option Addr} {sl29 : Array (Option Value)} {oc29 kV29 dc29 pm29 cd29 ct29 : Value} {f30 : Addr} {od30 an30 : Option Addr} {sl30 : Array (Option Value)} {oc30 kV30 dc30 pm30 cd30 ct30 : Value} {f31 : Addr} {od31 an31 : Option Addr} {sl31 : Array (Option Value)} {oc31 kV31 dc31 pm31 cd31 ct31 : Value} {x_fRefused x_ccRefused x_cdRefused x_NRefused : Addr} {x_ocRefused x_dcRefused x_pmRefused x_ctRefused x_clRefused x_cmRefused : Value} {x_odRefused x_anRefused x_cddRefused x_cldRefused x_ddRefused : Option Addr} {x_slRefused x_ccsRefused x_cslRefused : Array (Option Value)} {x_vsRefused : Array Value} {x_fileRefused x_nmRefused x_qRefused : Str} {x_tfRefused : Tok} {x_bsRefused x_bmRefused x_subRefused : List Value} {x_snRefused : List Str} {x_abRefused : Bool} {x_colRefused : Option Bool} {x_k0Refused x_k1Refused x_k2Refused x_k3Refused x_k5Refused : Option Value} {q_tMOST_BOTTOM : Tok}
    (a_Refused : PySem.W.nsIn K mainGlobals "Refused" = some (some (.ref C_Refused)))
    (a_GreedyError : PySem.W.nsIn K mainGlobals "GreedyError" = some (some (.ref C_GreedyError)))
    (a0 : PySem.W.nsIn K mainGlobals "slots_in" = some (some (.ref f0)))
    (l0 : K.lookup f0 = some ⟨oc0, od0, .func (PySem.W.fnOf "slots_in" "slots_in" (defArgs s_slots_in) (defBody s_slots_in) (defScope s_slots_in) .none kV0 dc0 pm0 an0 cd0 ct0), sl0⟩)
    (c0 : PySem.W.codeIn K cd0 "slots_in" = true)
    (k0 : PySem.W.keepIn K (.ref f0) = true)
    (a1 : PySem.W.nsIn K mainGlobals "is_slot" = some (some (.ref f1)))
    (l1 : K.lookup f1 = some ⟨oc1, od1, .func (PySem.W.fnOf "is_slot" "is_slot" (defArgs s_is_slot) (defBody s_is_slot) (defScope s_is_slot) .none kV1 dc1 pm1 an1 cd1 ct1), sl1⟩)
    (c1 : PySem.W.codeIn K cd1 "is_slot" = true)
    (k1 : PySem.W.keepIn K (.ref f1) = true)
    (a2 : PySem.W.nsIn K mainGlobals "slot_beats" = some (some (.ref f2)))
    (l2 : K.lookup f2 = some ⟨oc2, od2, .func (PySem.W.fnOf "slot_beats" "slot_beats" (defArgs s_slot_beats) (defBody s_slot_beats) (defScope s_slot_beats) .none kV2 dc2 pm2 an2 cd2 ct2), sl2⟩)
    (c2 : PySem.W.codeIn K cd2 "slot_beats" = true)
    (k2 : PySem.W.keepIn K (.ref f2) = true)
    (a3 : PySem.W.nsIn K mainGlobals "late_in" = some (some (.ref f3)))
    (l3 : K.lookup f3 = some ⟨oc3, od3, .func (PySem.W.fnOf "late_in" "late_in" (defArgs s_late_in) (defBody s_late_in) (defScope s_late_in) .none kV3 dc3 pm3 an3 cd3 ct3), sl3⟩)
    (c3 : PySem.W.codeIn K cd3 "late_in" = true)
    (k3 : PySem.W.keepIn K (.ref f3) = true)
    (a4 : PySem.W.nsIn K mainGlobals "slots_until" = some (some (.ref f4)))
    (l4 : K.lookup f4 = some ⟨oc4, od4, .func (PySem.W.fnOf "slots_until" "slots_until" (defArgs s_slots_until) (defBody s_slots_until) (defScope s_slots_until) .none kV4 dc4 pm4 an4 cd4 ct4), sl4⟩)
    (c4 : PySem.W.codeIn K cd4 "slots_until" = true)
    (k4 : PySem.W.keepIn K (.ref f4) = true)
    (a5 : PySem.W.nsIn K mainGlobals "slots_within" = some (some (.ref f5)))
    (l5 : K.lookup f5 = some ⟨oc5, od5, .func (PySem.W.fnOf "slots_within" "slots_within" (defArgs s_slots_within) (defBody s_slots_within) (defScope s_slots_within) .none kV5 dc5 pm5 an5 cd5 ct5), sl5⟩)
    (c5 : PySem.W.codeIn K cd5 "slots_within" = true)
    (k5 : PySem.W.keepIn K (.ref f5) = true)
    (a6 : PySem.W.nsIn K mainGlobals "most_slots" = some (some (.ref f6)))
    (l6 : K.lookup f6 = some ⟨oc6, od6, .func (PySem.W.fnOf "most_slots" "most_slots" (defArgs s_most_slots) (defBody s_most_slots) (defScope s_most_slots) .none kV6 dc6 pm6 an6 cd6 ct6), sl6⟩)
    (c6 : PySem.W.codeIn K cd6 "most_slots" = true)
    (k6 : PySem.W.keepIn K (.ref f6) = true)
    (a7 : PySem.W.nsIn K mainGlobals "are_apart" = some (some (.ref f7)))
    (l7 : K.lookup f7 = some ⟨oc7, od7, .func (PySem.W.fnOf "are_apart" "are_apart" (defArgs s_are_apart) (defBody s_are_apart) (defScope s_are_apart) .none kV7 dc7 pm7 an7 cd7 ct7), sl7⟩)
    (c7 : PySem.W.codeIn K cd7 "are_apart" = true)
    (k7 : PySem.W.keepIn K (.ref f7) = true)
    (a8 : PySem.W.nsIn K mainGlobals "most_told" = some (some (.ref f8)))
    (l8 : K.lookup f8 = some ⟨oc8, od8, .func (PySem.W.fnOf "most_told" "most_told" (defArgs s_most_told) (defBody s_most_told) (defScope s_most_told) .none kV8 dc8 pm8 an8 cd8 ct8), sl8⟩)
    (c8 : PySem.W.codeIn K cd8 "most_told" = true)
    (k8 : PySem.W.keepIn K (.ref f8) = true)
    (a9 : PySem.W.nsIn K mainGlobals "is_integer" = some (some (.ref f9)))
    (l9 : K.lookup f9 = some ⟨oc9, od9, .func (PySem.W.fnOf "is_integer" "is_integer" (defArgs s_is_integer) (defBody s_is_integer) (defScope s_is_integer) .none kV9 dc9 pm9 an9 cd9 ct9), sl9⟩)
    (c9 : PySem.W.codeIn K cd9 "is_integer" = true)
    (k9 : PySem.W.keepIn K (.ref f9) = true)
    (a10 : PySem.W.nsIn K mainGlobals "is_number" = some (some (.ref f10)))
    (l10 : K.lookup f10 = some ⟨oc10, od10, .func (PySem.W.fnOf "is_number" "is_number" (defArgs s_is_number) (defBody s_is_number) (defScope s_is_number) (.ref T10) kV10 dc10 pm10 an10 cd10 ct10), sl10⟩)
    (c10 : PySem.W.codeIn K cd10 "is_number" = true)
    (k10 : PySem.W.keepIn K (.ref f10) = true)
    (t10 : K.lookup T10 = some ⟨tc10, td10, .seq #[Value.none] tn10, ts10⟩)
    (a11 : PySem.W.nsIn K mainGlobals "common_divisor" = some (some (.ref f11)))
    (l11 : K.lookup f11 = some ⟨oc11, od11, .func (PySem.W.fnOf "common_divisor" "common_divisor" (defArgs s_common_divisor) (defBody s_common_divisor) (defScope s_common_divisor) .none kV11 dc11 pm11 an11 cd11 ct11), sl11⟩)
    (c11 : PySem.W.codeIn K cd11 "common_divisor" = true)
    (k11 : PySem.W.keepIn K (.ref f11) = true)
    (a12 : PySem.W.nsIn K mainGlobals "lowest" = some (some (.ref f12)))
    (l12 : K.lookup f12 = some ⟨oc12, od12, .func (PySem.W.fnOf "lowest" "lowest" (defArgs s_lowest) (defBody s_lowest) (defScope s_lowest) .none kV12 dc12 pm12 an12 cd12 ct12), sl12⟩)
    (c12 : PySem.W.codeIn K cd12 "lowest" = true)
    (k12 : PySem.W.keepIn K (.ref f12) = true)
    (a13 : PySem.W.nsIn K mainGlobals "is_fraction" = some (some (.ref f13)))
    (l13 : K.lookup f13 = some ⟨oc13, od13, .func (PySem.W.fnOf "is_fraction" "is_fraction" (defArgs s_is_fraction) (defBody s_is_fraction) (defScope s_is_fraction) .none kV13 dc13 pm13 an13 cd13 ct13), sl13⟩)
    (c13 : PySem.W.codeIn K cd13 "is_fraction" = true)
    (k13 : PySem.W.keepIn K (.ref f13) = true)
    (a14 : PySem.W.nsIn K mainGlobals "is_rate" = some (some (.ref f14)))
    (l14 : K.lookup f14 = some ⟨oc14, od14, .func (PySem.W.fnOf "is_rate" "is_rate" (defArgs s_is_rate) (defBody s_is_rate) (defScope s_is_rate) .none kV14 dc14 pm14 an14 cd14 ct14), sl14⟩)
    (c14 : PySem.W.codeIn K cd14 "is_rate" = true)
    (k14 : PySem.W.keepIn K (.ref f14) = true)
    (a15 : PySem.W.nsIn K mainGlobals "need_rate" = some (some (.ref f15)))
    (l15 : K.lookup f15 = some ⟨oc15, od15, .func (PySem.W.fnOf "need_rate" "need_rate" (defArgs s_need_rate) (defBody s_need_rate) (defScope s_need_rate) .none kV15 dc15 pm15 an15 cd15 ct15), sl15⟩)
    (c15 : PySem.W.codeIn K cd15 "need_rate" = true)
    (k15 : PySem.W.keepIn K (.ref f15) = true)
    (a16 : PySem.W.nsIn K mainGlobals "sum_of" = some (some (.ref f16)))
    (l16 : K.lookup f16 = some ⟨oc16, od16, .func (PySem.W.fnOf "sum_of" "sum_of" (defArgs s_sum_of) (defBody s_sum_of) (defScope s_sum_of) .none kV16 dc16 pm16 an16 cd16 ct16), sl16⟩)
    (c16 : PySem.W.codeIn K cd16 "sum_of" = true)
    (k16 : PySem.W.keepIn K (.ref f16) = true)
    (a17 : PySem.W.nsIn K mainGlobals "product_of" = some (some (.ref f17)))
    (l17 : K.lookup f17 = some ⟨oc17, od17, .func (PySem.W.fnOf "product_of" "product_of" (defArgs s_product_of) (defBody s_product_of) (defScope s_product_of) .none kV17 dc17 pm17 an17 cd17 ct17), sl17⟩)
    (c17 : PySem.W.codeIn K cd17 "product_of" = true)
    (k17 : PySem.W.keepIn K (.ref f17) = true)
    (a18 : PySem.W.nsIn K mainGlobals "is_less" = some (some (.ref f18)))
    (l18 : K.lookup f18 = some ⟨oc18, od18, .func (PySem.W.fnOf "is_less" "is_less" (defArgs s_is_less) (defBody s_is_less) (defScope s_is_less) .none kV18 dc18 pm18 an18 cd18 ct18), sl18⟩)
    (c18 : PySem.W.codeIn K cd18 "is_less" = true)
    (k18 : PySem.W.keepIn K (.ref f18) = true)
    (a19 : PySem.W.nsIn K mainGlobals "_law_heap" = some (some (.ref f19)))
    (l19 : K.lookup f19 = some ⟨oc19, od19, .func (PySem.W.fnOf "_law_heap" "_law_heap" (defArgs s__law_heap) (defBody s__law_heap) (defScope s__law_heap) .none kV19 dc19 pm19 an19 cd19 ct19), sl19⟩)
    (c19 : PySem.W.codeIn K cd19 "_law_heap" = true)
    (k19 : PySem.W.keepIn K (.ref f19) = true)
    (a20 : PySem.W.nsIn K mainGlobals "_law_draw" = some (some (.ref f20)))
    (l20 : K.lookup f20 = some ⟨oc20, od20, .func (PySem.W.fnOf "_law_draw" "_law_draw" (defArgs s__law_draw) (defBody s__law_draw) (defScope s__law_draw) .none kV20 dc20 pm20 an20 cd20 ct20), sl20⟩)
    (c20 : PySem.W.codeIn K cd20 "_law_draw" = true)
    (k20 : PySem.W.keepIn K (.ref f20) = true)
    (a21 : PySem.W.nsIn K mainGlobals "_law_pick" = some (some (.ref f21)))
    (l21 : K.lookup f21 = some ⟨oc21, od21, .func (PySem.W.fnOf "_law_pick" "_law_pick" (defArgs s__law_pick) (defBody s__law_pick) (defScope s__law_pick) .none kV21 dc21 pm21 an21 cd21 ct21), sl21⟩)
    (c21 : PySem.W.codeIn K cd21 "_law_pick" = true)
    (k21 : PySem.W.keepIn K (.ref f21) = true)
    (a22 : PySem.W.nsIn K mainGlobals "_law_like" = some (some (.ref f22)))
    (l22 : K.lookup f22 = some ⟨oc22, od22, .func (PySem.W.fnOf "_law_like" "_law_like" (defArgs s__law_like) (defBody s__law_like) (defScope s__law_like) .none kV22 dc22 pm22 an22 cd22 ct22), sl22⟩)
    (c22 : PySem.W.codeIn K cd22 "_law_like" = true)
    (k22 : PySem.W.keepIn K (.ref f22) = true)
    (a23 : PySem.W.nsIn K mainGlobals "_law_divisor" = some (some (.ref f23)))
    (l23 : K.lookup f23 = some ⟨oc23, od23, .func (PySem.W.fnOf "_law_divisor" "_law_divisor" (defArgs s__law_divisor) (defBody s__law_divisor) (defScope s__law_divisor) .none kV23 dc23 pm23 an23 cd23 ct23), sl23⟩)
    (c23 : PySem.W.codeIn K cd23 "_law_divisor" = true)
    (k23 : PySem.W.keepIn K (.ref f23) = true)
    (a24 : PySem.W.nsIn K mainGlobals "_law_rate" = some (some (.ref f24)))
    (l24 : K.lookup f24 = some ⟨oc24, od24, .func (PySem.W.fnOf "_law_rate" "_law_rate" (defArgs s__law_rate) (defBody s__law_rate) (defScope s__law_rate) .none kV24 dc24 pm24 an24 cd24 ct24), sl24⟩)
    (c24 : PySem.W.codeIn K cd24 "_law_rate" = true)
    (k24 : PySem.W.keepIn K (.ref f24) = true)
    (a25 : PySem.W.nsIn K mainGlobals "_law_bucket" = some (some (.ref f25)))
    (l25 : K.lookup f25 = some ⟨oc25, od25, .func (PySem.W.fnOf "_law_bucket" "_law_bucket" (defArgs s__law_bucket) (defBody s__law_bucket) (defScope s__law_bucket) .none kV25 dc25 pm25 an25 cd25 ct25), sl25⟩)
    (c25 : PySem.W.codeIn K cd25 "_law_bucket" = true)
    (k25 : PySem.W.keepIn K (.ref f25) = true)
    (a26 : PySem.W.nsIn K mainGlobals "_law_spans" = some (some (.ref f26)))
    (l26 : K.lookup f26 = some ⟨oc26, od26, .func (PySem.W.fnOf "_law_spans" "_law_spans" (defArgs s__law_spans) (defBody s__law_spans) (defScope s__law_spans) .none kV26 dc26 pm26 an26 cd26 ct26), sl26⟩)
    (c26 : PySem.W.codeIn K cd26 "_law_spans" = true)
    (k26 : PySem.W.keepIn K (.ref f26) = true)
    (a27 : PySem.W.nsIn K mainGlobals "_law_most" = some (some (.ref f27)))
    (l27 : K.lookup f27 = some ⟨oc27, od27, .func (PySem.W.fnOf "_law_most" "_law_most" (defArgs s__law_most) (defBody s__law_most) (defScope s__law_most) .none kV27 dc27 pm27 an27 cd27 ct27), sl27⟩)
    (c27 : PySem.W.codeIn K cd27 "_law_most" = true)
    (k27 : PySem.W.keepIn K (.ref f27) = true)
    (a28 : PySem.W.nsIn K mainGlobals "_law_streams" = some (some (.ref f28)))
    (l28 : K.lookup f28 = some ⟨oc28, od28, .func (PySem.W.fnOf "_law_streams" "_law_streams" (defArgs s__law_streams) (defBody s__law_streams) (defScope s__law_streams) .none kV28 dc28 pm28 an28 cd28 ct28), sl28⟩)
    (c28 : PySem.W.codeIn K cd28 "_law_streams" = true)
    (k28 : PySem.W.keepIn K (.ref f28) = true)
    (a29 : PySem.W.nsIn K mainGlobals "_law_parts" = some (some (.ref f29)))
    (l29 : K.lookup f29 = some ⟨oc29, od29, .func (PySem.W.fnOf "_law_parts" "_law_parts" (defArgs s__law_parts) (defBody s__law_parts) (defScope s__law_parts) .none kV29 dc29 pm29 an29 cd29 ct29), sl29⟩)
    (c29 : PySem.W.codeIn K cd29 "_law_parts" = true)
    (k29 : PySem.W.keepIn K (.ref f29) = true)
    (a30 : PySem.W.nsIn K mainGlobals "_law_fractions" = some (some (.ref f30)))
    (l30 : K.lookup f30 = some ⟨oc30, od30, .func (PySem.W.fnOf "_law_fractions" "_law_fractions" (defArgs s__law_fractions) (defBody s__law_fractions) (defScope s__law_fractions) .none kV30 dc30 pm30 an30 cd30 ct30), sl30⟩)
    (c30 : PySem.W.codeIn K cd30 "_law_fractions" = true)
    (k30 : PySem.W.keepIn K (.ref f30) = true)
    (a31 : PySem.W.nsIn K mainGlobals "law" = some (some (.ref f31)))
    (l31 : K.lookup f31 = some ⟨oc31, od31, .func (PySem.W.fnOf "law" "law" (defArgs s_law) (defBody s_law) (defScope s_law) .none kV31 dc31 pm31 an31 cd31 ct31), sl31⟩)
    (c31 : PySem.W.codeIn K cd31 "law" = true)
    (k31 : PySem.W.keepIn K (.ref f31) = true)
    (z_super : PySem.W.nsIn K mainGlobals "super" = some none)
    (z_any : PySem.W.nsIn K cStatics "thirdparty.any" = some none)
    (z_top : (l.prog.main.scope.names.lookup ("super" : Str)).isSome = false)
    (x_hn : PySem.W.specialIn K (.builtin "object.__class__") "__get__" = some (some (.builtin "getset_descriptor.__get__")))
    (x_ht : PySem.W.takesIn K (.builtin "object.__class__") = some true)
    (xi_Refused : PySem.W.findIn K (.ref C_Refused) "__init__" = some (some (.ref x_fRefused)))
    (xl_Refused : K.lookup x_fRefused = some ⟨x_ocRefused, x_odRefused, .func (PySem.W.ksFn "__init__" "Refused.__init__" (defArgs s_Refused_init) (defBody s_Refused_init) (defScope s_Refused_init) .none .none x_dcRefused x_pmRefused x_anRefused (.ref x_cdRefused) x_ctRefused x_ccRefused), x_slRefused⟩)
    (xc_Refused : PySem.W.codeIn K (.ref x_cdRefused) "Refused.__init__" = true)
    (xd_Refused : K.lookup x_cdRefused = some ⟨x_clRefused, x_cddRefused, .fields x_vsRefused, x_ccsRefused⟩)
    (xv_Refused : x_vsRefused[2]? = some (.str x_fileRefused x_tfRefused))
    (xw_Refused : ((l.prog.main.file : Str) == x_fileRefused) = true)
    (xx_Refused : K.lookup x_ccRefused = some ⟨x_cmRefused, x_cldRefused, .cell (some (.ref C_Refused)), x_cslRefused⟩)
    (xt_Refused : PySem.W.typeIn K (.ref x_fRefused) = some (.type "function"))
    (xu_Refused : PySem.W.ks_superIn K C_Refused C_Refused "__init__" = some (some (.builtin "ValueError.__init__")))
    (xb_Refused : PySem.W.subIn K (.ref C_Refused) (.type "ValueError") = some true)
    (xm_Refused : PySem.W.mroIn K C_Refused (.ref C_Refused) = some true)
    (xn_Refused : PySem.W.findIn K (.ref C_Refused) "at" = some none)
    (xK_Refused : K.lookup C_Refused = some (excClassObj x_nmRefused x_qRefused C_Refused x_NRefused x_bsRefused x_bmRefused true x_snRefused x_subRefused x_abRefused x_colRefused x_ddRefused x_k0Refused x_k1Refused x_k2Refused x_k3Refused x_k5Refused "ValueError.__new__"))
    (xr_Refused : PySem.HandSPX.refsVE x_bmRefused = true)
    (xs_Refused : PySem.W.findIn K (.ref C_Refused) "__setattr__" = some (some (.builtin "object.__setattr__")))
    (xe_Refused : PySem.W.subIn K (.ref C_Refused) (.type "BaseException") = some true)
    (xy_Refused : PySem.W.typeIn K (.ref C_Refused) = some (.type "type"))
    (xk_Refused : PySem.W.keepIn K (.ref C_Refused) = true)
    (xh_Refused : PySem.W.hasDictIn K C_Refused = true)
    (xg_Refused : PySem.W.findIn K (.ref C_Refused) "__getattribute__" = some (some (.builtin "BaseException.__getattribute__")))
    (xG_Refused : PySem.W.findIn K (.ref C_Refused) "__getattr__" = some none)
    (xa_Refused : PySem.W.findIn K (.ref C_Refused) "__class__" = some (some (.builtin "object.__class__")))
    (xo_Refused : PySem.W.mroIn K C_Refused (.type "object") = some true)
    (e_Refused_GreedyError : PySem.W.exmOne K (.ref C_Refused) (.ref C_GreedyError) = some true)
    (i_Refused_Refused : PySem.W.kitOne K (.ref C_Refused) (.ref C_Refused) = some true)
    (q_MOST_BOTTOM : PySem.W.nsIn K mainGlobals "MOST_BOTTOM" = some (some (.int (1000) q_tMOST_BOTTOM)))
    (z_tuple : PySem.W.nsIn K mainGlobals "tuple" = some none)
    (z_range : PySem.W.nsIn K mainGlobals "range" = some none)
    (z_min : PySem.W.nsIn K mainGlobals "min" = some none)
    (z_max : PySem.W.nsIn K mainGlobals "max" = some none)
    (z_all : PySem.W.nsIn K mainGlobals "all" = some none)
    (z_len : PySem.W.nsIn K mainGlobals "len" = some none)
    (z_isinstance : PySem.W.nsIn K mainGlobals "isinstance" = some none)
    (z_int : PySem.W.nsIn K mainGlobals "int" = some none)
    (z_bool : PySem.W.nsIn K mainGlobals "bool" = some none)
    (z_abs : PySem.W.nsIn K mainGlobals "abs" = some none)
    (z_str : PySem.W.nsIn K mainGlobals "str" = some none)
    : ∃ fd : FuncData, (∀ (s : Shared) (v : Value), BindsTo s fd ⟨[v], []⟩ [("script", v)]) ∧ ∀ base : Heap, K.In base → base.Ns mainGlobals mg → FnOk l.prog w K mg base (L2N.CX l.prog w) 12 fa fd ["script"] (conc K Bx.no aspLaw) := by
  have e := hfa.symm.trans (PySem.W.mg_of X G a31)
  cases e
  have F0 := fun_mk (st := s_slots_in) l0 c0 k0
  have b0 := F0.binds (ps := ["rate", "beats"]) fun _ _ _ _ _ _ us hl => match us, hl with | [_, _], _ => rfl
  have F1 := fun_mk (st := s_is_slot) l1 c1 k1
  have b1 := F1.binds (ps := ["rate", "at"]) fun _ _ _ _ _ _ us hl => match us, hl with | [_, _], _ => rfl
  have F2 := fun_mk (st := s_slot_beats) l2 c2 k2
  have b2 := F2.binds (ps := ["rate", "beats"]) fun _ _ _ _ _ _ us hl => match us, hl with | [_, _], _ => rfl
  have F3 := fun_mk (st := s_late_in) l3 c3 k3
  have b3 := F3.binds (ps := ["rate", "beats", "late"]) fun _ _ _ _ _ _ us hl => match us, hl with | [_, _, _], _ => rfl
  have F4 := fun_mk (st := s_slots_until) l4 c4 k4
  have b4 := F4.binds (ps := ["rate", "beats", "at"]) fun _ _ _ _ _ _ us hl => match us, hl with | [_, _, _], _ => rfl
  have F5 := fun_mk (st := s_slots_within) l5 c5 k5
  have b5 := F5.binds (ps := ["rate", "spans", "begin", "beats"]) fun _ _ _ _ _ _ us hl => match us, hl with | [_, _, _, _], _ => rfl
  have F6 := fun_mk (st := s_most_slots) l6 c6 k6
  have b6 := F6.binds (ps := ["rate", "spans", "beats"]) fun _ _ _ _ _ _ us hl => match us, hl with | [_, _, _], _ => rfl
  have F7 := fun_mk (st := s_are_apart) l7 c7 k7
  have b7 := F7.binds (ps := ["spans"]) fun _ _ _ _ _ _ us hl => match us, hl with | [_], _ => rfl
  have F8 := fun_mk (st := s_most_told) l8 c8 k8
  have b8 := F8.binds (ps := ["rate", "beats"]) fun _ _ _ _ _ _ us hl => match us, hl with | [_, _], _ => rfl
  have F9 := fun_mk (st := s_is_integer) l9 c9 k9
  have b9 := F9.binds (ps := ["value"]) fun _ _ _ _ _ _ us hl => match us, hl with | [_], _ => rfl
  have F10 : FunD K "is_number" "is_number" (defArgs s_is_number) (defBody s_is_number) (defScope s_is_number) [V.non] [] _ _ := ⟨⟨_, _, _, _, _, _, _, _, _, _, rfl, l10, c10, .inr ⟨by decide, _, _, [Value.none], _, rfl, t10, rfl, (.cons rfl .nil)⟩, .inl rfl⟩, k10⟩
  obtain ⟨e10, ve10, b10⟩ := FunD.binds1 (ps := ["value", "most"]) F10 2 1 (by decide) rfl fun _ _ _ _ _ _ _ us its hu hi => match us, its, hu, hi with | [_, _], [_], _, _ => ⟨_, rfl, rfl⟩
  cases ve10
  obtain ⟨D0_10, v0_10, b0_10⟩ := FunD.binds1 (ps := ["value", "most"]) F10 1 0 (by decide) rfl fun _ _ _ _ _ _ _ us its hu hi => match us, its, hu, hi with | [_], [_], _, _ => ⟨_, rfl, rfl⟩
  have F11 := fun_mk (st := s_common_divisor) l11 c11 k11
  have b11 := F11.binds (ps := ["one", "other"]) fun _ _ _ _ _ _ us hl => match us, hl with | [_, _], _ => rfl
  have F12 := fun_mk (st := s_lowest) l12 c12 k12
  have b12 := F12.binds (ps := ["top", "bottom"]) fun _ _ _ _ _ _ us hl => match us, hl with | [_, _], _ => rfl
  have F13 := fun_mk (st := s_is_fraction) l13 c13 k13
  have b13 := F13.binds (ps := ["value"]) fun _ _ _ _ _ _ us hl => match us, hl with | [_], _ => rfl
  have F14 := fun_mk (st := s_is_rate) l14 c14 k14
  have b14 := F14.binds (ps := ["value"]) fun _ _ _ _ _ _ us hl => match us, hl with | [_], _ => rfl
  have F15 := fun_mk (st := s_need_rate) l15 c15 k15
  have b15 := F15.binds (ps := ["rate"]) fun _ _ _ _ _ _ us hl => match us, hl with | [_], _ => rfl
  have F16 := fun_mk (st := s_sum_of) l16 c16 k16
  have b16 := F16.binds (ps := ["one", "other"]) fun _ _ _ _ _ _ us hl => match us, hl with | [_, _], _ => rfl
  have F17 := fun_mk (st := s_product_of) l17 c17 k17
  have b17 := F17.binds (ps := ["one", "other"]) fun _ _ _ _ _ _ us hl => match us, hl with | [_, _], _ => rfl
  have F18 := fun_mk (st := s_is_less) l18 c18 k18
  have b18 := F18.binds (ps := ["one", "other"]) fun _ _ _ _ _ _ us hl => match us, hl with | [_, _], _ => rfl
  have F19 := fun_mk (st := s__law_heap) l19 c19 k19
  have b19 := F19.binds (ps := ["script"]) fun _ _ _ _ _ _ us hl => match us, hl with | [_], _ => rfl
  have F20 := fun_mk (st := s__law_draw) l20 c20 k20
  have b20 := F20.binds (ps := ["heap", "many"]) fun _ _ _ _ _ _ us hl => match us, hl with | [_, _], _ => rfl
  have F21 := fun_mk (st := s__law_pick) l21 c21 k21
  have b21 := F21.binds (ps := ["heap", "some"]) fun _ _ _ _ _ _ us hl => match us, hl with | [_, _], _ => rfl
  have F22 := fun_mk (st := s__law_like) l22 c22 k22
  have b22 := F22.binds (ps := ["told", "due"]) fun _ _ _ _ _ _ us hl => match us, hl with | [_, _], _ => rfl
  have F23 := fun_mk (st := s__law_divisor) l23 c23 k23
  have b23 := F23.binds (ps := ["one", "other"]) fun _ _ _ _ _ _ us hl => match us, hl with | [_, _], _ => rfl
  have F24 := fun_mk (st := s__law_rate) l24 c24 k24
  have b24 := F24.binds (ps := ["heap", "least"]) fun _ _ _ _ _ _ us hl => match us, hl with | [_, _], _ => rfl
  have F25 := fun_mk (st := s__law_bucket) l25 c25 k25
  have b25 := F25.binds (ps := ["rate", "beats"]) fun _ _ _ _ _ _ us hl => match us, hl with | [_, _], _ => rfl
  have F26 := fun_mk (st := s__law_spans) l26 c26 k26
  have b26 := F26.binds (ps := ["heap"]) fun _ _ _ _ _ _ us hl => match us, hl with | [_], _ => rfl
  have F27 := fun_mk (st := s__law_most) l27 c27 k27
  have b27 := F27.binds (ps := ["row", "beats"]) fun _ _ _ _ _ _ us hl => match us, hl with | [_, _], _ => rfl
  have F28 := fun_mk (st := s__law_streams) l28 c28 k28
  have b28 := F28.binds (ps := ["heap", "rate"]) fun _ _ _ _ _ _ us hl => match us, hl with | [_, _], _ => rfl
  have F29 := fun_mk (st := s__law_parts) l29 c29 k29
  have b29 := F29.binds (ps := ["value"]) fun _ _ _ _ _ _ us hl => match us, hl with | [_], _ => rfl
  have F30 := fun_mk (st := s__law_fractions) l30 c30 k30
  have b30 := F30.binds (ps := ["heap", "rate"]) fun _ _ _ _ _ _ us hl => match us, hl with | [_, _], _ => rfl
  have F31 := fun_mk (st := s_law) l31 c31 k31
  have b31 := F31.binds (ps := ["script"]) fun _ _ _ _ _ _ us hl => match us, hl with | [_], _ => rfl
  have X_Refused : XCls K l.prog C_Refused x_fRefused := ⟨⟨_, _, _, defScope s_Refused_init, _, ⟨"self", none, ⟨0, 0, 0, 0⟩⟩, ⟨"at", none, ⟨0, 0, 0, 0⟩⟩, _, _, _, _, _, _, _, _, _, _, _, _, _, _, _, _, _, _, _, _, _, _, _, _, _, _, _, _, _, fun _ => _, xl_Refused, xc_Refused, rfl, rfl, fun _ => rfl, xd_Refused, xv_Refused, xw_Refused, xx_Refused, by decide +kernel, rfl, rfl, rfl, by decide +kernel, by decide +kernel, by decide +kernel, by decide +kernel⟩, xi_Refused, xt_Refused, z_top, z_super, z_any, xu_Refused, xb_Refused, xm_Refused, xn_Refused, ⟨⟨_, _, _, _, _, _, _, _, _, _, _, _, _, _, _, xK_Refused, xr_Refused⟩, xs_Refused, xe_Refused, xy_Refused, xk_Refused⟩, xh_Refused, xg_Refused, xG_Refused⟩
  let T : Top l.prog K mg := { C_Refused := _, g_Refused := PySem.W.mg_of X G a_Refused, C_GreedyError := _, g_GreedyError := PySem.W.mg_of X G a_GreedyError, f_slots_in := _, d_slots_in := _, F_slots_in := F0, b_slots_in := b0, g_slots_in := PySem.W.mg_of X G a0, f_is_slot := _, d_is_slot := _, F_is_slot := F1, b_is_slot := b1, g_is_slot := PySem.W.mg_of X G a1, f_slot_beats := _, d_slot_beats := _, F_slot_beats := F2, b_slot_beats := b2, g_slot_beats := PySem.W.mg_of X G a2, f_late_in := _, d_late_in := _, F_late_in := F3, b_late_in := b3, g_late_in := PySem.W.mg_of X G a3, f_slots_until := _, d_slots_until := _, F_slots_until := F4, b_slots_until := b4, g_slots_until := PySem.W.mg_of X G a4, f_slots_within := _, d_slots_within := _, F_slots_within := F5, b_slots_within := b5, g_slots_within := PySem.W.mg_of X G a5, f_most_slots := _, d_most_slots := _, F_most_slots := F6, b_most_slots := b6, g_most_slots := PySem.W.mg_of X G a6, f_are_apart := _, d_are_apart := _, F_are_apart := F7, b_are_apart := b7, g_are_apart := PySem.W.mg_of X G a7, f_most_told := _, d_most_told := _, F_most_told := F8, b_most_told := b8, g_most_told := PySem.W.mg_of X G a8, f_is_integer := _, d_is_integer := _, F_is_integer := F9, b_is_integer := b9, g_is_integer := PySem.W.mg_of X G a9, D0_is_number := D0_10, v0_is_number := v0_10, b0_is_number := b0_10, f_is_number := _, d_is_number := _, F_is_number := F10, b_is_number := b10, g_is_number := PySem.W.mg_of X G a10, f_common_divisor := _, d_common_divisor := _, F_common_divisor := F11, b_common_divisor := b11, g_common_divisor := PySem.W.mg_of X G a11, f_lowest := _, d_lowest := _, F_lowest := F12, b_lowest := b12, g_lowest := PySem.W.mg_of X G a12, f_is_fraction := _, d_is_fraction := _, F_is_fraction := F13, b_is_fraction := b13, g_is_fraction := PySem.W.mg_of X G a13, f_is_rate := _, d_is_rate := _, F_is_rate := F14, b_is_rate := b14, g_is_rate := PySem.W.mg_of X G a14, f_need_rate := _, d_need_rate := _, F_need_rate := F15, b_need_rate := b15, g_need_rate := PySem.W.mg_of X G a15, f_sum_of := _, d_sum_of := _, F_sum_of := F16, b_sum_of := b16, g_sum_of := PySem.W.mg_of X G a16, f_product_of := _, d_product_of := _, F_product_of := F17, b_product_of := b17, g_product_of := PySem.W.mg_of X G a17, f_is_less := _, d_is_less := _, F_is_less := F18, b_is_less := b18, g_is_less := PySem.W.mg_of X G a18, f__law_heap := _, d__law_heap := _, F__law_heap := F19, b__law_heap := b19, g__law_heap := PySem.W.mg_of X G a19, f__law_draw := _, d__law_draw := _, F__law_draw := F20, b__law_draw := b20, g__law_draw := PySem.W.mg_of X G a20, f__law_pick := _, d__law_pick := _, F__law_pick := F21, b__law_pick := b21, g__law_pick := PySem.W.mg_of X G a21, f__law_like := _, d__law_like := _, F__law_like := F22, b__law_like := b22, g__law_like := PySem.W.mg_of X G a22, f__law_divisor := _, d__law_divisor := _, F__law_divisor := F23, b__law_divisor := b23, g__law_divisor := PySem.W.mg_of X G a23, f__law_rate := _, d__law_rate := _, F__law_rate := F24, b__law_rate := b24, g__law_rate := PySem.W.mg_of X G a24, f__law_bucket := _, d__law_bucket := _, F__law_bucket := F25, b__law_bucket := b25, g__law_bucket := PySem.W.mg_of X G a25, f__law_spans := _, d__law_spans := _, F__law_spans := F26, b__law_spans := b26, g__law_spans := PySem.W.mg_of X G a26, f__law_most := _, d__law_most := _, F__law_most := F27, b__law_most := b27, g__law_most := PySem.W.mg_of X G a27, f__law_streams := _, d__law_streams := _, F__law_streams := F28, b__law_streams := b28, g__law_streams := PySem.W.mg_of X G a28, f__law_parts := _, d__law_parts := _, F__law_parts := F29, b__law_parts := b29, g__law_parts := PySem.W.mg_of X G a29, f__law_fractions := _, d__law_fractions := _, F__law_fractions := F30, b__law_fractions := b30, g__law_fractions := PySem.W.mg_of X G a30, f_law := _, d_law := _, F_law := F31, b_law := b31, g_law := PySem.W.mg_of X G a31, n_super := PySem.W.mg_none_of X G z_super, f_Refused_init := _, X_Refused := X_Refused, I_Refused := ⟨xg_Refused, xG_Refused, xe_Refused, xh_Refused, xa_Refused, x_hn, x_ht, xo_Refused⟩, e_Refused_GreedyError := e_Refused_GreedyError, i_Refused_Refused := i_Refused_Refused, t_MOST_BOTTOM := _, c_MOST_BOTTOM := PySem.W.mg_of X G q_MOST_BOTTOM, z_tuple := PySem.W.mg_none_of X G z_tuple, z_range := PySem.W.mg_none_of X G z_range, z_min := PySem.W.mg_none_of X G z_min, z_max := PySem.W.mg_none_of X G z_max, z_all := PySem.W.mg_none_of X G z_all, z_len := PySem.W.mg_none_of X G z_len, z_isinstance := PySem.W.mg_none_of X G z_isinstance, z_int := PySem.W.mg_none_of X G z_int, z_bool := PySem.W.mg_none_of X G z_bool, z_abs := PySem.W.mg_none_of X G z_abs, z_str := PySem.W.mg_none_of X G z_str }
  exact ⟨_, fun s v => .of_eq rfl, fun base _ _ => ok_law T⟩
end K26
open PySem PySem.W PyProof.Rows
set_option maxHeartbeats 0 in
theorem PySem.Challenge.cw_evergreedy_k26_whole_slots_and_streams_holds : PySem.Challenge.rw_evergreedy_k26_whole_slots_and_streams.Holds := by
  w_on; o_law; k_head; (case hw => w_witness2)
  k_fill
  refine L2.walk_of (l := PySem.Challenge.rw_evergreedy_k26_whole_slots_and_streams) (n := 63) (k := 12) (x := "script") (CX := fun w => L2N.CX PySem.Challenge.rw_evergreedy_k26_whole_slots_and_streams.prog w) (sp := fun w => DL.conc _ DL.Bx.no DL.aspLaw) rfl (by decide) rfl ⟨rfl, by decide, by decide⟩ (fun w h Y => PySem.W.kIn_of Y) ?F (fun _ _ a ns hl _ hS => DL.law_conc hl hS) (fun _ _ _ _ _ h => DL.law_calm h)
  case F =>
    intro w mg fa h KX G hmg
    refine' K26.all_mk KX G hmg ?a_Refused ?a_GreedyError ?a0 ?l0 ?c0 ?k0 ?a1 ?l1 ?c1 ?k1 ?a2 ?l2 ?c2 ?k2 ?a3 ?l3 ?c3 ?k3 ?a4 ?l4 ?c4 ?k4 ?a5 ?l5 ?c5 ?k5 ?a6 ?l6 ?c6 ?k6 ?a7 ?l7 ?c7 ?k7 ?a8 ?l8 ?c8 ?k8 ?a9 ?l9 ?c9 ?k9 ?a10 ?l10 ?c10 ?k10 ?t10 ?a11 ?l11 ?c11 ?k11 ?a12 ?l12 ?c12 ?k12 ?a13 ?l13 ?c13 ?k13 ?a14 ?l14 ?c14 ?k14 ?a15 ?l15 ?c15 ?k15 ?a16 ?l16 ?c16 ?k16 ?a17 ?l17 ?c17 ?k17 ?a18 ?l18 ?c18 ?k18 ?a19 ?l19 ?c19 ?k19 ?a20 ?l20 ?c20 ?k20 ?a21 ?l21 ?c21 ?k21 ?a22 ?l22 ?c22 ?k22 ?a23 ?l23 ?c23 ?k23 ?a24 ?l24 ?c24 ?k24 ?a25 ?l25 ?c25 ?k25 ?a26 ?l26 ?c26 ?k26 ?a27 ?l27 ?c27 ?k27 ?a28 ?l28 ?c28 ?k28 ?a29 ?l29 ?c29 ?k29 ?a30 ?l30 ?c30 ?k30 ?a31 ?l31 ?c31 ?k31 ?z_super ?z_any ?z_top ?x_hn ?x_ht ?xi_Refused ?xl_Refused ?xc_Refused ?xd_Refused ?xv_Refused ?xw_Refused ?xx_Refused ?xt_Refused ?xu_Refused ?xb_Refused ?xm_Refused ?xn_Refused ?xK_Refused ?xr_Refused ?xs_Refused ?xe_Refused ?xy_Refused ?xk_Refused ?xh_Refused ?xg_Refused ?xG_Refused ?xa_Refused ?xo_Refused ?e_Refused_GreedyError ?i_Refused_Refused ?q_MOST_BOTTOM ?z_tuple ?z_range ?z_min ?z_max ?z_all ?z_len ?z_isinstance ?z_int ?z_bool ?z_abs ?z_str
    (case a_Refused => k_is); (case a_GreedyError => k_is); (case a0 => k_is); (case l0 => k_is); (case c0 => k_is); (case k0 => k_is); (case a1 => k_is); (case l1 => k_is); (case c1 => k_is); (case k1 => k_is); (case a2 => k_is); (case l2 => k_is); (case c2 => k_is); (case k2 => k_is); (case a3 => k_is); (case l3 => k_is); (case c3 => k_is); (case k3 => k_is); (case a4 => k_is); (case l4 => k_is); (case c4 => k_is); (case k4 => k_is); (case a5 => k_is); (case l5 => k_is); (case c5 => k_is); (case k5 => k_is); (case a6 => k_is); (case l6 => k_is); (case c6 => k_is); (case k6 => k_is); (case a7 => k_is); (case l7 => k_is); (case c7 => k_is); (case k7 => k_is); (case a8 => k_is); (case l8 => k_is); (case c8 => k_is); (case k8 => k_is); (case a9 => k_is); (case l9 => k_is); (case c9 => k_is); (case k9 => k_is); (case a10 => k_is); (case l10 => k_is); (case c10 => k_is); (case k10 => k_is); (case t10 => k_is); (case a11 => k_is); (case l11 => k_is); (case c11 => k_is); (case k11 => k_is); (case a12 => k_is); (case l12 => k_is); (case c12 => k_is); (case k12 => k_is); (case a13 => k_is); (case l13 => k_is); (case c13 => k_is); (case k13 => k_is); (case a14 => k_is); (case l14 => k_is); (case c14 => k_is); (case k14 => k_is); (case a15 => k_is); (case l15 => k_is); (case c15 => k_is); (case k15 => k_is); (case a16 => k_is); (case l16 => k_is); (case c16 => k_is); (case k16 => k_is); (case a17 => k_is); (case l17 => k_is); (case c17 => k_is); (case k17 => k_is); (case a18 => k_is); (case l18 => k_is); (case c18 => k_is); (case k18 => k_is); (case a19 => k_is); (case l19 => k_is); (case c19 => k_is); (case k19 => k_is); (case a20 => k_is); (case l20 => k_is); (case c20 => k_is); (case k20 => k_is); (case a21 => k_is); (case l21 => k_is); (case c21 => k_is); (case k21 => k_is); (case a22 => k_is); (case l22 => k_is); (case c22 => k_is); (case k22 => k_is); (case a23 => k_is); (case l23 => k_is); (case c23 => k_is); (case k23 => k_is); (case a24 => k_is); (case l24 => k_is); (case c24 => k_is); (case k24 => k_is); (case a25 => k_is); (case l25 => k_is); (case c25 => k_is); (case k25 => k_is); (case a26 => k_is); (case l26 => k_is); (case c26 => k_is); (case k26 => k_is); (case a27 => k_is); (case l27 => k_is); (case c27 => k_is); (case k27 => k_is); (case a28 => k_is); (case l28 => k_is); (case c28 => k_is); (case k28 => k_is); (case a29 => k_is); (case l29 => k_is); (case c29 => k_is); (case k29 => k_is); (case a30 => k_is); (case l30 => k_is); (case c30 => k_is); (case k30 => k_is); (case a31 => k_is); (case l31 => k_is); (case c31 => k_is); (case k31 => k_is); (case z_super => k_is); (case z_any => k_is); (case z_top => rfl); (case x_hn => k_is); (case x_ht => k_is); (case xi_Refused => k_is); (case xl_Refused => k_is); (case xc_Refused => k_is); (case xd_Refused => k_is); (case xv_Refused => rfl); (case xw_Refused => decide +kernel); (case xx_Refused => k_is); (case xt_Refused => k_is); (case xu_Refused => ks_is); (case xb_Refused => k_is); (case xm_Refused => k_is); (case xn_Refused => k_is); (case xK_Refused => k_is); (case xr_Refused => rfl); (case xs_Refused => k_is); (case xe_Refused => k_is); (case xy_Refused => k_is); (case xk_Refused => k_is); (case xh_Refused => k_is); (case xg_Refused => k_is); (case xG_Refused => k_is); (case xa_Refused => k_is); (case xo_Refused => k_is); (case e_Refused_GreedyError => kernel_rfl); (case i_Refused_Refused => kernel_rfl); (case q_MOST_BOTTOM => k_is); (case z_tuple => k_is); (case z_range => k_is); (case z_min => k_is); (case z_max => k_is); (case z_all => k_is); (case z_len => k_is); (case z_isinstance => k_is); (case z_int => k_is); (case z_bool => k_is); (case z_abs => k_is); (case z_str => k_is)
