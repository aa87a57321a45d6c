import PyProof.Rows.All
import Wide.All
import OpenK.AllK
import Wide.FinOn
import HandS.ForMost
import HandS.ForExc
import HandS.Wide
import HandS.Style
import HandS.Flow
import HandS.IsInst
import HandS.Conv
import HandS.Defaults
import HandS.Walk
import HandS.CallSlots
import HandS.Zip
import PySem.Challenge.RW_evergreedy_k16_whole_numbers_of_one_ring
set_option Elab.async false
set_option linter.all false
set_option maxRecDepth 100000
set_option maxHeartbeats 2000000
/-! DL: data-level judgements over HandS. -/
namespace DL
open PySem L2

/-- what a value is, read through the heap -/
inductive D where
  | non
  | bl (b : Bool)
  | int (i : Int)
  | str (x : Str)
  | ty (n : String)
  | ref (a : Addr)
  | tup (xs : List D)
  | lst (xs : List D)
  | ins (C : Addr) (ns : List Str) (xs : List D)

/-- what is said of a datum of a kind -/
def onSlot (o : Option (Option D)) (k : D → Prop) : Prop := match o with
  | some (some d) => k d
  | _ => False
def onD (o : Option D) (k : D → Prop) : Prop := match o with
  | some d => k d
  | none => False
theorem onSlot_ss {d : D} {k : D → Prop} : onSlot (some (some d)) k = k d := rfl
theorem onD_s {d : D} {k : D → Prop} : onD (some d) k = k d := rfl
mutual
inductive Is (K : PySem.W.Frag) (F : Hp) : V → D → Prop
  | non : Is K F .non .non
  | bl (b : Bool) : Is K F (.bl b) (.bl b)
  | int (i : Int) : Is K F (.int i) (.int i)
  | str (x : Str) : Is K F (.str x) (.str x)
  | ty (n : String) : Is K F (.ty n) (.ty n)
  | ref (a : Addr) : Is K F (.ref a) (.ref a)
  | tup {a : Addr} {vs : List V} {ds : List D} : SqT K F a vs → IsL K F vs ds → Is K F (.ref a) (.tup ds)
  | lst {a : Addr} {vs : List V} {ds : List D} : SqL K F a vs → IsL K F vs ds → Is K F (.ref a) (.lst ds)
  | ins {a C dx : Addr} {fs : List (Str × V)} {ds : List D} : F a = some (.ins C dx fs) → IsL K F (fs.map (·.2)) ds → Is K F (.ref a) (.ins C (fs.map (·.1)) ds)
inductive IsL (K : PySem.W.Frag) (F : Hp) : List V → List D → Prop
  | nil : IsL K F [] []
  | cons {v : V} {vs : List V} {d : D} {ds : List D} : Is K F v d → IsL K F vs ds → IsL K F (v :: vs) (d :: ds)
end

theorem same_t {K : PySem.W.Frag} {F F' : Hp} {a : Addr} {xs : List V} (e : Same F F') (h : SqT K F a xs) : SqT K F' a xs := by
  rcases h with (h | ⟨o, h⟩) | h
  · exact .inl (.inl (e _ _ h))
  · exact .inl (.inr ⟨o, e _ _ h⟩)
  · exact .inr h
mutual
theorem Is.mono {K : PySem.W.Frag} {F F' : Hp} (e : Same F F') : ∀ {v : V} {d : D}, Is K F v d → Is K F' v d
  | _, _, .non => .non
  | _, _, .bl b => .bl b
  | _, _, .int i => .int i
  | _, _, .str x => .str x
  | _, _, .ty n => .ty n
  | _, _, .ref a => .ref a
  | _, _, .tup h l => .tup (same_t e h) (IsL.mono e l)
  | _, _, .lst h l => .lst (e.seq h) (IsL.mono e l)
  | _, _, .ins h l => .ins (e _ _ h) (IsL.mono e l)
theorem IsL.mono {K : PySem.W.Frag} {F F' : Hp} (e : Same F F') : ∀ {vs : List V} {ds : List D}, IsL K F vs ds → IsL K F' vs ds
  | _, _, .nil => .nil
  | _, _, .cons h l => .cons (Is.mono e h) (IsL.mono e l)
end
section
variable {K : PySem.W.Frag} {F : Hp}
theorem IsL.length : ∀ {vs : List V} {ds : List D}, IsL K F vs ds → vs.length = ds.length
  | _, _, .nil => rfl
  | _, _, .cons _ l => congrArg (· + 1) (IsL.length l)
theorem IsL.get : ∀ {vs : List V} {ds : List D} {i : Nat} {d : D}, IsL K F vs ds → ds[i]? = some d → ∃ v, vs[i]? = some v ∧ Is K F v d
  | _, _, _, _, .nil, e => by simp at e
  | _, _, 0, _, .cons h _, e => by
    simp at e
    subst e
    exact ⟨_, rfl, h⟩
  | _, _, i + 1, d, .cons _ t, e => by
    obtain ⟨v, h1, h2⟩ := IsL.get (i := i) (d := d) t (by simpa using e)
    exact ⟨v, by simpa using h1, h2⟩
theorem IsL.getV : ∀ {vs : List V} {ds : List D} {i : Nat} {v : V}, IsL K F vs ds → vs[i]? = some v → ∃ d, ds[i]? = some d ∧ Is K F v d
  | _, _, _, _, .nil, e => by simp at e
  | _, _, 0, _, .cons h _, e => by
    simp at e
    subst e
    exact ⟨_, rfl, h⟩
  | _, _, i + 1, d, .cons _ t, e => by
    obtain ⟨v, h1, h2⟩ := IsL.getV (i := i) (v := d) t (by simpa using e)
    exact ⟨v, by simpa using h1, h2⟩
theorem IsL.append : ∀ {vs ws : List V} {ds es : List D}, IsL K F vs ds → IsL K F ws es → IsL K F (vs ++ ws) (ds ++ es)
  | _, _, _, _, .nil, h => h
  | _, _, _, _, .cons h l, k => .cons h (IsL.append l k)
theorem IsL.take : ∀ {vs : List V} {ds : List D} (n : Nat), IsL K F vs ds → IsL K F (vs.take n) (ds.take n)
  | _, _, 0, _ => .nil
  | _, _, _ + 1, .nil => .nil
  | _, _, n + 1, .cons h l => .cons h (IsL.take n l)
theorem IsL.drop : ∀ {vs : List V} {ds : List D} (n : Nat), IsL K F vs ds → IsL K F (vs.drop n) (ds.drop n)
  | _, _, 0, h => h
  | _, _, _ + 1, .nil => .nil
  | _, _, n + 1, .cons _ l => IsL.drop n l
theorem IsL.reverse {vs : List V} {ds : List D} (h : IsL K F vs ds) : IsL K F vs.reverse ds.reverse := by
  induction vs generalizing ds with
  | nil =>
    cases h
    exact .nil
  | cons v vs ih =>
    cases h with
    | cons h l =>
      rw [List.reverse_cons, List.reverse_cons]
      exact (ih l).append (.cons h .nil)
theorem IsL.set {v : V} {d : D} (h : Is K F v d) : ∀ {vs : List V} {ds : List D} (i : Nat), IsL K F vs ds → IsL K F (vs.set i v) (ds.set i d)
  | _, _, _, .nil => .nil
  | _, _, 0, .cons _ l => .cons h l
  | _, _, i + 1, .cons k l => .cons k (IsL.set h i l)
theorem IsL.eraseIdx : ∀ {vs : List V} {ds : List D} (i : Nat), IsL K F vs ds → IsL K F (vs.eraseIdx i) (ds.eraseIdx i)
  | _, _, _, .nil => .nil
  | _, _, 0, .cons _ l => l
  | _, _, i + 1, .cons k l => .cons k (IsL.eraseIdx i l)
theorem IsL.dropLast : ∀ {vs : List V} {ds : List D}, IsL K F vs ds → IsL K F vs.dropLast ds.dropLast
  | _, _, .nil => .nil
  | _, _, .cons _ .nil => .nil
  | _, _, .cons h (.cons k l) => .cons h (IsL.dropLast (.cons k l))
theorem IsL.ints : ∀ {vs : List V} {ns : List Int}, IsL K F vs (ns.map D.int) → vs = ns.map V.int
  | vs, [], h => by
    cases h
    rfl
  | vs, n :: ns, h => by
    cases h with
    | cons h l =>
      cases h
      rw [IsL.ints l]
      rfl
theorem IsL.of_ints : ∀ (ns : List Int), IsL K F (ns.map V.int) (ns.map D.int)
  | [] => .nil
  | n :: ns => .cons (.int n) (IsL.of_ints ns)
theorem IsL.bls : ∀ {vs : List V} {bs : List Bool}, IsL K F vs (bs.map D.bl) → vs = bs.map V.bl
  | vs, [], h => by
    cases h
    rfl
  | vs, n :: ns, h => by
    cases h with
    | cons h l =>
      cases h
      rw [IsL.bls l]
      rfl
end



/-! ### mutable objects, boxes -/
inductive MO where
  | lst (xs : List D)
  | ins (C : Addr) (ns : List Str) (xs : List D)
  | dK (ks : List Key) (xs : List D)
abbrev Mm := List (Addr × MO)
def MOk (K : PySem.W.Frag) (F H : Hp) (a : Addr) : MO → Prop
  | .lst xs => ∃ vs, H a = some (.lst vs) ∧ IsL K F vs xs
  | .ins C ns xs => ∃ dx fs, H a = some (.ins C dx fs) ∧ fs.map (·.1) = ns ∧ IsL K F (fs.map (·.2)) xs
  | .dK ks xs => ∃ kv, H a = some (.dK kv) ∧ kv.map (·.1) = ks ∧ IsL K F (kv.map (·.2)) xs
/-- a hidden part of the heap: where the draws come from -/
structure Bx where
  fp : List Addr
  ok : Hp → Prop
  loc : ∀ {H H' : Hp}, (∀ a ∈ fp, H' a = H a) → ok H → ok H'
  low : ∀ {H : Hp}, ok H → ∀ a ∈ fp, ∃ o, H a = some o
def Bx.no : Bx := ⟨[], fun _ => True, fun _ _ => trivial, fun _ a h => absurd h (by simp)⟩
structure Hs (K : PySem.W.Frag) (B : Bx) (M : Mm) (F H : Hp) : Prop where
  sub : Same F H
  mem : ∀ p ∈ M, F p.1 = none ∧ p.1 ∉ B.fp ∧ MOk K F H p.1 p.2
  nd : (M.map (·.1)).Nodup
  box : B.ok H
  bfr : ∀ a ∈ B.fp, F a = none
abbrev Gm := List (Option D)
structure Vw (K : PySem.W.Frag) (F : Hp) (σ : St) (Γ : Gm) : Prop where
  len : σ.length = Γ.length
  get : ∀ (i : Nat) (d : D), Γ[i]? = some (some d) → ∃ v, σ[i]? = some (some v) ∧ Is K F v d
/-- one mutable object is changed -/
inductive Up : Mm → Addr → MO → MO → Mm → Prop
  | here {a : Addr} {o o' : MO} {M : Mm} : Up ((a, o) :: M) a o o' ((a, o') :: M)
  | there {q : Addr × MO} {M M' : Mm} {a : Addr} {o o' : MO} : Up M a o o' M' → Up (q :: M) a o o' (q :: M')
/-- one is taken out -/
inductive Dl : Mm → Addr → MO → Mm → Prop
  | here {a : Addr} {o : MO} {M : Mm} : Dl ((a, o) :: M) a o M
  | there {q : Addr × MO} {M M' : Mm} {a : Addr} {o : MO} : Dl M a o M' → Dl (q :: M) a o (q :: M')
section
variable {K : PySem.W.Frag} {B : Bx} {M M' : Mm} {F F' H H' : Hp} {σ : St} {Γ : Gm} {a : Addr} {o o' : MO}
theorem Up.mem (u : Up M a o o' M') : (a, o) ∈ M := by
  induction u with
  | here => exact List.mem_cons_self
  | there _ ih => exact List.mem_cons_of_mem _ ih
theorem Up.keys (u : Up M a o o' M') : M'.map (·.1) = M.map (·.1) := by
  induction u with
  | here => rfl
  | there _ ih => rw [List.map_cons, List.map_cons, ih]
theorem Up.of (u : Up M a o o' M') (nd : (M.map (·.1)).Nodup) : ∀ q ∈ M', q = (a, o') ∨ (q ∈ M ∧ q.1 ≠ a) := by
  induction u with
  | here =>
    rename_i a o o' M
    intro q hq
    rw [List.map_cons, List.nodup_cons] at nd
    rcases List.mem_cons.mp hq with e | hq
    · exact .inl e
    · exact .inr ⟨List.mem_cons_of_mem _ hq, fun e => nd.1 (by rw [← e]; exact List.mem_map.mpr ⟨q, hq, rfl⟩)⟩
  | there v ih =>
    rename_i p M M' a o o'
    intro q hq
    rw [List.map_cons, List.nodup_cons] at nd
    rcases List.mem_cons.mp hq with e | hq
    · subst e
      exact .inr ⟨List.mem_cons_self, fun e => nd.1 (by rw [e]; exact List.mem_map_of_mem v.mem)⟩
    · rcases ih nd.2 q hq with e | ⟨h1, h2⟩
      · exact .inl e
      · exact .inr ⟨List.mem_cons_of_mem _ h1, h2⟩
theorem Dl.mem (u : Dl M a o M') : (a, o) ∈ M := by
  induction u with
  | here => exact List.mem_cons_self
  | there _ ih => exact List.mem_cons_of_mem _ ih
theorem Dl.sub (u : Dl M a o M') : M'.Sublist M := by
  induction u with
  | here => exact List.sublist_cons_self _ _
  | there _ ih => exact ih.cons_cons _
theorem Dl.ne (u : Dl M a o M') (nd : (M.map (·.1)).Nodup) : ∀ q ∈ M', q.1 ≠ a := by
  induction u with
  | here =>
    intro q hq e
    rw [List.map_cons, List.nodup_cons] at nd
    exact nd.1 (by rw [← e]; exact List.mem_map.mpr ⟨q, hq, rfl⟩)
  | there v ih =>
    intro q hq e
    rw [List.map_cons, List.nodup_cons] at nd
    rcases List.mem_cons.mp hq with e' | hq
    · subst e'
      exact nd.1 (by rw [e]; exact List.mem_map_of_mem v.mem)
    · exact ih nd.2 q hq e
theorem MOk.mono (e : Same F F') : ∀ {o : MO}, MOk K F H a o → MOk K F' H a o
  | .lst _, ⟨vs, h, l⟩ => ⟨vs, h, l.mono e⟩
  | .ins _ _ _, ⟨dx, fs, h, k, l⟩ => ⟨dx, fs, h, k, l.mono e⟩
  | .dK _ _, ⟨kv, h, k, l⟩ => ⟨kv, h, k, l.mono e⟩
theorem MOk.at (e : H' a = H a) : ∀ {o : MO}, MOk K F H a o → MOk K F H' a o
  | .lst _, ⟨vs, h, l⟩ => ⟨vs, e.trans h, l⟩
  | .ins _ _ _, ⟨dx, fs, h, k, l⟩ => ⟨dx, fs, e.trans h, k, l⟩
  | .dK _ _, ⟨kv, h, k, l⟩ => ⟨kv, e.trans h, k, l⟩
theorem MOk.there : ∀ {o : MO}, MOk K F H a o → ∃ u, H a = some u
  | .lst _, ⟨_, h, _⟩ => ⟨_, h⟩
  | .ins _ _ _, ⟨_, _, h, _⟩ => ⟨_, h⟩
  | .dK _ _, ⟨_, h, _⟩ => ⟨_, h⟩
theorem Vw.mono (e : Same F F') (v : Vw K F σ Γ) : Vw K F' σ Γ := ⟨v.len, fun i d h => let ⟨x, h1, h2⟩ := v.get i d h; ⟨x, h1, h2.mono e⟩⟩
theorem Vw.set (v : Vw K F σ Γ) {x : V} {d : D} (h : Is K F x d) (i : Nat) : Vw K F (σ.set i (some x)) (Γ.set i (some d)) := by
  refine ⟨by rw [List.length_set, List.length_set, v.len], fun j e hj => ?_⟩
  by_cases hi : i = j
  · subst hi
    by_cases hl : i < Γ.length
    · rw [List.getElem?_set_self hl] at hj
      cases hj
      exact ⟨x, by rw [List.getElem?_set_self (by rw [v.len]; exact hl)], h⟩
    · rw [List.getElem?_eq_none (by rw [List.length_set]; omega)] at hj
      cases hj
  · rw [List.getElem?_set_ne hi] at hj ⊢
    exact v.get j e hj
theorem Vw.unset (v : Vw K F σ Γ) (i : Nat) : Vw K F σ (Γ.set i none) := by
  refine ⟨by rw [List.length_set, v.len], fun j e hj => ?_⟩
  by_cases hi : i = j
  · subst hi
    by_cases hl : i < Γ.length
    · rw [List.getElem?_set_self hl] at hj
      cases hj
    · rw [List.getElem?_eq_none (by rw [List.length_set]; omega)] at hj
      cases hj
  · rw [List.getElem?_set_ne hi] at hj
    exact v.get j e hj
theorem Vw.gone (v : Vw K F σ Γ) (i : Nat) : Vw K F (σ.set i none) (Γ.set i none) := by
  refine ⟨by rw [List.length_set, List.length_set, v.len], fun j e hj => ?_⟩
  by_cases hi : i = j
  · subst hi
    by_cases hl : i < Γ.length
    · rw [List.getElem?_set_self hl] at hj
      cases hj
    · rw [List.getElem?_eq_none (by rw [List.length_set]; omega)] at hj
      cases hj
  · rw [List.getElem?_set_ne hi] at hj ⊢
    exact v.get j e hj
/-- slots forgotten -/
def wipeG (Γ : Gm) : List Nat → Gm
  | [] => Γ
  | v :: vs => (wipeG Γ vs).set v none
theorem Vw.wipe (v : Vw K F σ Γ) : ∀ vs : List Nat, Vw K F (L2.wipe σ vs) (wipeG Γ vs)
  | [] => v
  | i :: vs => (Vw.wipe v vs).gone i

theorem upd_same_ext {p : Addr} {o : HO} (n : F p = none) : Same F (upd F p o) := fun b u q => by
  rw [upd_ne (ne_of_none q n)]
  exact q
theorem Hs.free (h : Hs K B M F H) {p : Addr} (n : H p = none) : F p = none := h.sub.free n
theorem Hs.boxNe (h : Hs K B M F H) {p : Addr} (n : H p = none) : p ∉ B.fp := fun hp => by
  obtain ⟨o, e⟩ := B.low h.box p hp
  rw [n] at e
  cases e
theorem Hs.memNe (h : Hs K B M F H) {p : Addr} (n : H p = none) : ∀ q ∈ M, q.1 ≠ p := fun q hq e => by
  obtain ⟨_, _, m⟩ := h.mem q hq
  obtain ⟨u, hu⟩ := m.there
  rw [e, n] at hu
  cases hu
theorem box_upd {p : Addr} {o : HO} (hp : p ∉ B.fp) (b : B.ok H) : B.ok (upd H p o) := B.loc (fun a ha => upd_ne fun e => hp (by rw [← e]; exact ha)) b
/-- a new immutable object -/
theorem Hs.laid {p : Addr} {o : HO} (h : Hs K B M F H) (n : H p = none) : Hs K B M (upd F p o) (upd H p o) := by
  have nf : F p = none := h.free n
  refine ⟨fun b u q => ?_, fun q hq => ?_, h.nd, box_upd (h.boxNe n) h.box, fun c hc => ?_⟩
  · by_cases e : b = p
    · subst e
      rw [upd_same] at q ⊢
      exact q
    · rw [upd_ne e] at q ⊢
      exact h.sub b u q
  · obtain ⟨m1, m2, m3⟩ := h.mem q hq
    have ne : q.1 ≠ p := h.memNe n q hq
    exact ⟨by rw [upd_ne ne]; exact m1, m2, (m3.at (H' := upd H p o) (upd_ne ne)).mono (upd_same_ext nf)⟩
  · rw [upd_ne fun e => h.boxNe n (by rw [← e]; exact hc)]
    exact h.bfr c hc
/-- a new object that nobody speaks of -/
theorem Hs.over {p : Addr} {o : HO} (h : Hs K B M F H) (n : H p = none) : Hs K B M F (upd H p o) :=
  ⟨fun b u q => by rw [upd_ne (ne_of_none q (h.free n))]; exact h.sub b u q, fun q hq => let ⟨m1, m2, m3⟩ := h.mem q hq; ⟨m1, m2, m3.at (upd_ne (h.memNe n q hq))⟩, h.nd, box_upd (h.boxNe n) h.box, h.bfr⟩
/-- a new mutable object -/
theorem Hs.newM {p : Addr} {u : HO} (h : Hs K B M F H) (n : H p = none) (m : MOk K F (upd H p u) p o) : Hs K B ((p, o) :: M) F (upd H p u) := by
  refine ⟨(h.over n).sub, fun q hq => ?_, ?_, (h.over n).box, h.bfr⟩
  · rcases List.mem_cons.mp hq with e | hq
    · subst e
      exact ⟨h.free n, h.boxNe n, m⟩
    · exact (h.over n).mem q hq
  · rw [List.map_cons, List.nodup_cons]
    refine ⟨fun hm => ?_, h.nd⟩
    obtain ⟨q, hq, e⟩ := List.mem_map.mp hm
    exact h.memNe n q hq e
/-- a mutable object written -/
theorem Hs.put {u : HO} (h : Hs K B M F H) (up : Up M a o o' M') (m : MOk K F (upd H a u) a o') : Hs K B M' F (upd H a u) := by
  obtain ⟨m1, m2, m3⟩ := h.mem _ up.mem
  refine ⟨fun b v q => ?_, fun q hq => ?_, by rw [up.keys]; exact h.nd, box_upd m2 h.box, h.bfr⟩
  · rw [upd_ne (ne_of_none q m1)]
    exact h.sub b v q
  · rcases up.of h.nd q hq with e | ⟨h1, h2⟩
    · subst e
      exact ⟨m1, m2, m⟩
    · obtain ⟨k1, k2, k3⟩ := h.mem q h1
      exact ⟨k1, k2, k3.at (upd_ne h2)⟩
theorem Hs.less (h : Hs K B M F H) (s : M'.Sublist M) : Hs K B M' F H :=
  ⟨h.sub, fun q hq => h.mem q (s.subset hq), h.nd.sublist (s.map _), h.box, h.bfr⟩
theorem Hs.lst {xs : List D} (h : Hs K B M F H) (m : (a, MO.lst xs) ∈ M) : ∃ vs, H a = some (.lst vs) ∧ IsL K F vs xs := (h.mem _ m).2.2
/-- a mutable list is left as it is from here on -/
theorem Hs.freeze {xs : List D} (h : Hs K B M F H) (d : Dl M a (.lst xs) M') : ∃ F', Same F F' ∧ Hs K B M' F' H ∧ Is K F' (.ref a) (.lst xs) := by
  obtain ⟨m1, m2, vs, e, l⟩ := h.mem _ d.mem
  have s : Same F (upd F a (.lst vs)) := upd_same_ext m1
  refine ⟨upd F a (.lst vs), s, ⟨fun b u q => ?_, fun q hq => ?_, h.nd.sublist (d.sub.map _), h.box, fun c hc => ?_⟩, .lst (.inl (.inl upd_same)) (l.mono s)⟩
  · by_cases eb : b = a
    · subst eb
      rw [upd_same] at q
      rw [e]
      exact q
    · rw [upd_ne eb] at q
      exact h.sub b u q
  · obtain ⟨k1, k2, k3⟩ := h.mem q (d.sub.subset hq)
    have ne := d.ne h.nd q hq
    exact ⟨by rw [upd_ne ne]; exact k1, k2, k3.mono s⟩
  · rw [upd_ne fun e => m2 (by rw [← e]; exact hc)]
    exact h.bfr c hc
/-- an instance is left as it is from here on -/
theorem Hs.freezeI {C : Addr} {ns : List Str} {xs : List D} (h : Hs K B M F H) (d : Dl M a (.ins C ns xs) M') : ∃ F', Same F F' ∧ Hs K B M' F' H ∧ Is K F' (.ref a) (.ins C ns xs) := by
  obtain ⟨m1, m2, dx, fs, e, hn, l⟩ := h.mem _ d.mem
  have s : Same F (upd F a (.ins C dx fs)) := upd_same_ext m1
  refine ⟨upd F a (.ins C dx fs), s, ⟨fun b u q => ?_, fun q hq => ?_, h.nd.sublist (d.sub.map _), h.box, fun c hc => ?_⟩, by subst hn; exact .ins upd_same (l.mono s)⟩
  · by_cases eb : b = a
    · subst eb
      rw [upd_same] at q
      rw [e]
      exact q
    · rw [upd_ne eb] at q
      exact h.sub b u q
  · obtain ⟨k1, k2, k3⟩ := h.mem q (d.sub.subset hq)
    have ne := d.ne h.nd q hq
    exact ⟨by rw [upd_ne ne]; exact k1, k2, k3.mono s⟩
  · rw [upd_ne fun e => m2 (by rw [← e]; exact hc)]
    exact h.bfr c hc
end

/-! ### what is forgotten, frozen between two statements -/
inductive Fz : Gm → Mm → Gm → Mm → Prop
  | refl {Γ : Gm} {M : Mm} : Fz Γ M Γ M
  | lst {Γ Γ' : Gm} {M M1 M' : Mm} {a : Addr} {xs : List D} (i : Nat) : Γ[i]? = some (some (.ref a)) → Dl M a (.lst xs) M1 → Fz (Γ.set i (some (.lst xs))) M1 Γ' M' → Fz Γ M Γ' M'
  | ins {Γ Γ' : Gm} {M M1 M' : Mm} {a C : Addr} {ns : List Str} {xs : List D} (i : Nat) : Γ[i]? = some (some (.ref a)) → Dl M a (.ins C ns xs) M1 → Fz (Γ.set i (some (.ins C ns xs))) M1 Γ' M' → Fz Γ M Γ' M'
  | no {Γ Γ' : Gm} {M M' : Mm} (i : Nat) : Fz (Γ.set i none) M Γ' M' → Fz Γ M Γ' M'
  | less {Γ Γ' : Gm} {M M1 M' : Mm} : M1.Sublist M → Fz Γ M1 Γ' M' → Fz Γ M Γ' M'

/-! ### exceptions, contexts -/
structure XD where
  C : Addr
  x : D
def XIs (K : PySem.W.Frag) (F : Hp) (cls : Value) (d : Option Addr) (x : XD) : Prop := cls = .ref x.C ∧ ∃ dd v, d = some dd ∧ F dd = some (.xd [("at", v)]) ∧ Is K F v x.x
abbrev AX := XD → Gm → Mm → Prop
/-- the hidden part, the wish about exceptions and its reading -/
structure Ct where
  B : Bx
  W : WX
  Ψ : AX
def Lk (K : PySem.W.Frag) (T : Ct) (F : Hp) : Prop := ∀ x cls d Γ M σ F' H, Same F F' → Vw K F' σ Γ → Hs K T.B M F' H → XIs K F' cls d x → T.Ψ x Γ M → T.W cls d σ H
theorem Lk.mono {K : PySem.W.Frag} {T : Ct} {F F' : Hp} (e : Same F F') (l : Lk K T F) : Lk K T F' := fun x cls d Γ M σ F1 H s => l x cls d Γ M σ F1 H (e.trans s)
/-- nothing is raised -/
def Ct.calm (B : Bx) : Ct := ⟨B, fun _ _ _ _ => False, fun _ _ _ => False⟩
theorem lk_calm {K : PySem.W.Frag} {B : Bx} {F : Hp} : Lk K (Ct.calm B) F := fun _ _ _ _ _ _ _ _ _ _ _ _ z => z

/-! ### readings over data -/
abbrev AK := D → Mm → Prop
abbrev AE := Gm → Mm → AK → Prop
abbrev AT := Gm → Mm → (Bool → Mm → Prop) → Prop
abbrev AA := Gm → Mm → (List D → Mm → Prop) → Prop
structure AEnds where
  nx : Gm → Mm → Prop
  rt : AK
  bk : Gm → Mm → Prop := fun _ _ => False
  ct : Gm → Mm → Prop := fun _ _ => False
abbrev AS := AEnds → Gm → Mm → Prop

/-- a state is seen -/
structure See (K : PySem.W.Frag) (T : Ct) (F : Hp) (σ : St) (H : Hp) (Γ : Gm) (M : Mm) : Prop where
  v : Vw K F σ Γ
  h : Hs K T.B M F H
  l : Lk K T F
def cE (K : PySem.W.Frag) (T : Ct) (ta : AE) : TE := fun σ H Q => ∃ F Γ M Φ, See K T F σ H Γ M ∧ ta Γ M Φ ∧ ∀ d M' v F' H', Same F F' → Hs K T.B M' F' H' → Is K F' v d → Φ d M' → Q v H'
def cT (K : PySem.W.Frag) (T : Ct) (ta : AT) : TT := fun σ H Q => ∃ F Γ M Φ, See K T F σ H Γ M ∧ ta Γ M Φ ∧ ∀ b M' F' H', Same F F' → Hs K T.B M' F' H' → Φ b M' → Q b H'
def cA (K : PySem.W.Frag) (T : Ct) (ta : AA) : TA := fun σ H Q => ∃ F Γ M Φ, See K T F σ H Γ M ∧ ta Γ M Φ ∧ ∀ ds M' vs F' H', Same F F' → Hs K T.B M' F' H' → IsL K F' vs ds → Φ ds M' → Q vs H'
def cS (K : PySem.W.Frag) (T : Ct) (ta : AS) : TS := fun D σ H => ∃ F Γ M A, See K T F σ H Γ M ∧ ta A Γ M ∧
  (∀ Γ' M' σ' F' H', Same F F' → Vw K F' σ' Γ' → Hs K T.B M' F' H' → A.nx Γ' M' → D.nx σ' H') ∧
  (∀ d M' v F' H', Same F F' → Hs K T.B M' F' H' → Is K F' v d → A.rt d M' → D.rt v H') ∧
  (∀ Γ' M' σ' F' H', Same F F' → Vw K F' σ' Γ' → Hs K T.B M' F' H' → A.bk Γ' M' → D.bk σ' H') ∧
  (∀ Γ' M' σ' F' H', Same F F' → Vw K F' σ' Γ' → Hs K T.B M' F' H' → A.ct Γ' M' → D.ct σ' H')
def DE (X : Cx) (T : Ct) (e : Expr) (ta : AE) : Prop := PE X e (cE X.K T ta)
def DT (X : Cx) (T : Ct) (e : Expr) (ta : AT) : Prop := PT X e (cT X.K T ta)
def DW (X : Cx) (T : Ct) (e : Expr) (ta : AT) : Prop := PW X e (cT X.K T ta)
def DA (X : Cx) (T : Ct) (es : List Expr) (ta : AA) : Prop := PA X es (cA X.K T ta)
def DS (X : Cx) (T : Ct) (st : Stmt) (ta : AS) : Prop := PS X st (cS X.K T ta)
def DSs (X : Cx) (T : Ct) (st : List Stmt) (ta : AS) : Prop := PSs X st (cS X.K T ta)

section
variable {X : Cx} {T : Ct} {e a b c : Expr} {pos : Pos} {K : PySem.W.Frag} {F F' F1 H H' H1 : Hp} {σ : St} {Γ : Gm} {M M' : Mm}
theorem See.go (s : See K T F σ H Γ M) (e : Same F F') (h : Hs K T.B M' F' H') : See K T F' σ H' Γ M' := ⟨s.v.mono e, h, s.l.mono e⟩
theorem de_of {t : TE} {ta : AE} (h : PE X e t) (k : ∀ F σ H Γ M Φ Q, See X.K T F σ H Γ M → ta Γ M Φ → (∀ d M' v F' H', Same F F' → Hs X.K T.B M' F' H' → Is X.K F' v d → Φ d M' → Q v H') → t σ H Q) : DE X T e ta :=
  ⟨fun pins s σ H Q I ⟨F, Γ, M, Φ, w, q, z⟩ => h.run pins s σ H Q I (k F σ H Γ M Φ Q w q z)⟩
theorem dt_of {t : TT} {ta : AT} (h : PT X e t) (k : ∀ F σ H Γ M Φ Q, See X.K T F σ H Γ M → ta Γ M Φ → (∀ d M' F' H', Same F F' → Hs X.K T.B M' F' H' → Φ d M' → Q d H') → t σ H Q) : DT X T e ta :=
  ⟨fun pins s σ H Q I ⟨F, Γ, M, Φ, w, q, z⟩ => h.run pins s σ H Q I (k F σ H Γ M Φ Q w q z)⟩
theorem dw_of {t : TT} {ta : AT} (h : PW X e t) (k : ∀ F σ H Γ M Φ Q, See X.K T F σ H Γ M → ta Γ M Φ → (∀ d M' F' H', Same F F' → Hs X.K T.B M' F' H' → Φ d M' → Q d H') → t σ H Q) : DW X T e ta :=
  ⟨fun wh pins s σ H Q I ⟨F, Γ, M, Φ, w, q, z⟩ => h.run wh pins s σ H Q I (k F σ H Γ M Φ Q w q z)⟩
theorem da_of {es : List Expr} {t : TA} {ta : AA} (h : PA X es t) (k : ∀ F σ H Γ M Φ Q, See X.K T F σ H Γ M → ta Γ M Φ → (∀ d M' v F' H', Same F F' → Hs X.K T.B M' F' H' → IsL X.K F' v d → Φ d M' → Q v H') → t σ H Q) : DA X T es ta :=
  ⟨fun pos pins s σ H Q I ⟨F, Γ, M, Φ, w, q, z⟩ => h.run pos pins s σ H Q I (k F σ H Γ M Φ Q w q z)⟩
/-- the ends are met -/
structure Met (K : PySem.W.Frag) (T : Ct) (F : Hp) (A : AEnds) (D : Ends) : Prop where
  nx : ∀ Γ' M' σ' F' H', Same F F' → Vw K F' σ' Γ' → Hs K T.B M' F' H' → A.nx Γ' M' → D.nx σ' H'
  rt : ∀ d M' v F' H', Same F F' → Hs K T.B M' F' H' → Is K F' v d → A.rt d M' → D.rt v H'
  bk : ∀ Γ' M' σ' F' H', Same F F' → Vw K F' σ' Γ' → Hs K T.B M' F' H' → A.bk Γ' M' → D.bk σ' H'
  ct : ∀ Γ' M' σ' F' H', Same F F' → Vw K F' σ' Γ' → Hs K T.B M' F' H' → A.ct Γ' M' → D.ct σ' H'
theorem Met.mono {A : AEnds} {D : Ends} (e : Same F F') (m : Met K T F A D) : Met K T F' A D :=
  ⟨fun Γ M σ F1 H s => m.nx Γ M σ F1 H (e.trans s), fun d M v F1 H s => m.rt d M v F1 H (e.trans s), fun Γ M σ F1 H s => m.bk Γ M σ F1 H (e.trans s), fun Γ M σ F1 H s => m.ct Γ M σ F1 H (e.trans s)⟩
theorem cS_mk {ta : AS} {A : AEnds} {D : Ends} (s : See K T F σ H Γ M) (q : ta A Γ M) (m : Met K T F A D) : cS K T ta D σ H := ⟨F, Γ, M, A, s, q, m.nx, m.rt, m.bk, m.ct⟩
theorem ds_of {st : Stmt} {t : TS} {ta : AS} (h : PS X st t) (k : ∀ F σ H Γ M A D, See X.K T F σ H Γ M → ta A Γ M → Met X.K T F A D → t D σ H) : DS X T st ta :=
  ⟨fun pins s σ H D I ⟨F, Γ, M, A, w, q, m1, m2, m3, m4⟩ => h.run pins s σ H D I (k F σ H Γ M A D w q ⟨m1, m2, m3, m4⟩)⟩
theorem dss_of {st : List Stmt} {t : TS} {ta : AS} (h : PSs X st t) (k : ∀ F σ H Γ M A D, See X.K T F σ H Γ M → ta A Γ M → Met X.K T F A D → t D σ H) : DSs X T st ta :=
  ⟨fun pins s σ H D I ⟨F, Γ, M, A, w, q, m1, m2, m3, m4⟩ => h.run pins s σ H D I (k F σ H Γ M A D w q ⟨m1, m2, m3, m4⟩)⟩

/-! ### names, constants -/
def aVar (i : Nat) (Γ : Gm) (M : Mm) (Φ : AK) : Prop := onSlot Γ[i]? fun d => Φ d M
def aC (d : D) (Γ : Gm) (M : Mm) (Φ : AK) : Prop := Φ d M
theorem de_var {i : Nat} (h : PE X e (tVar i)) : DE X T e (aVar i) := de_of h fun F σ H Γ M Φ Q w q z => by
  unfold aVar onSlot at q
  split at q
  · rename_i d hd
    obtain ⟨x, h1, h2⟩ := w.v.get i d hd
    exact ⟨x, h1, z d M x F H (Same.refl F) w.h h2 q⟩
  · exact q.elim
theorem dv (i : Nat) {x : Str} {pos : Pos} (hN : X.N[i]? = some x := by rfl) (hv : Vis X.env.scope x := by first | exact Or.inl rfl | exact Or.inr (Or.inl rfl) | exact Or.inr (Or.inr rfl)) (hd : (x == ("__debug__" : Str)) = false := by decide)
    (hcd : (x == ("__classdict__" : Str)) = false := by decide) : DE X T (.Name x pos) (aVar i) := de_var (pe_var hN hv hd hcd)
theorem de_c {v : V} {d : D} (h : PE X e (tC v)) (i : ∀ F, Is X.K F v d) : DE X T e (aC d) := de_of h fun F σ H Γ M Φ Q w q z => z d M v F H (Same.refl F) w.h (i F) q
theorem de_int {i : Int} {j pos} : DE X T (.Constant (.int i) j pos) (aC (.int i)) := de_c pe_int fun _ => .int i
theorem de_bl {b : Bool} {j pos} : DE X T (.Constant (.bool b) j pos) (aC (.bl b)) := de_c pe_bl fun _ => .bl b
theorem de_non {j pos} : DE X T (.Constant .none j pos) (aC .non) := de_c pe_non fun _ => .non
theorem de_str {x : Str} {j pos} : DE X T (.Constant (.str x) j pos) (aC (.str x)) := de_c pe_str fun _ => .str x

/-! ### operators -/
abbrev A2 := D → D → Mm → AK → Prop
/-- an operation on values, read on data -/
def Ab2 (K : PySem.W.Frag) (B : Bx) (r : R2) (f : A2) : Prop := ∀ F H x y d g M Φ Q, Hs K B M F H → Is K F x d → Is K F y g → f d g M Φ → (∀ z M' v F' H', Same F F' → Hs K B M' F' H' → Is K F' v z → Φ z M' → Q v H') → r x y H Q
abbrev A1 := D → Mm → AK → Prop
def Ab1 (K : PySem.W.Frag) (B : Bx) (r : V → Hp → VK → Prop) (f : A1) : Prop := ∀ F H x d M Φ Q, Hs K B M F H → Is K F x d → f d M Φ → (∀ z M' v F' H', Same F F' → Hs K B M' F' H' → Is K F' v z → Φ z M' → Q v H') → r x H Q
abbrev AL := List D → Mm → AK → Prop
def AbL (K : PySem.W.Frag) (B : Bx) (r : List V → Hp → VK → Prop) (f : AL) : Prop := ∀ F H xs ds M Φ Q, Hs K B M F H → IsL K F xs ds → f ds M Φ → (∀ z M' v F' H', Same F F' → Hs K B M' F' H' → Is K F' v z → Φ z M' → Q v H') → r xs H Q
def aOp (f : A2) (ta tb : AE) (Γ : Gm) (M : Mm) (Φ : AK) : Prop := ta Γ M fun d M1 => tb Γ M1 fun g M2 => f d g M2 Φ
def aUn (f : A1) (ta : AE) (Γ : Gm) (M : Mm) (Φ : AK) : Prop := ta Γ M fun d M1 => f d M1 Φ
variable {ta tb tc : AE}
theorem cE_mk {Q : VK} {Φ : AK} (s : See K T F σ H Γ M) (q : ta Γ M Φ) (z : ∀ d M' v F' H', Same F F' → Hs K T.B M' F' H' → Is K F' v d → Φ d M' → Q v H') : cE K T ta σ H Q := ⟨F, Γ, M, Φ, s, q, z⟩
theorem op_go {r : R2} {f : A2} {Q : VK} {Φ : AK} (hr : Ab2 K T.B r f) (w : See K T F σ H Γ M) (q : aOp f ta tb Γ M Φ) (z : ∀ d M' v F' H', Same F F' → Hs K T.B M' F' H' → Is K F' v d → Φ d M' → Q v H') : tOp r (cE K T ta) (cE K T tb) σ H Q :=
  cE_mk w q fun d M1 x F1 H1 s1 h1 i1 q1 => cE_mk (w.go s1 h1) q1 fun g M2 y F2 H2 s2 h2 i2 q2 => hr F2 H2 x y d g M2 Φ Q h2 (i1.mono s2) i2 q2 fun d M3 v F3 H3 s3 h3 i3 q3 => z d M3 v F3 H3 ((s1.trans s2).trans s3) h3 i3 q3
theorem de_op {op : Operator} {r : R2} {f : A2} (ho : OpR X (binaryOp op) r) (hr : Ab2 X.K T.B r f) (ha : DE X T a ta) (hb : DE X T b tb) : DE X T (.BinOp a op b pos) (aOp f ta tb) :=
  de_of (pe_op ho ha hb) fun F σ H Γ M Φ Q w q z => op_go hr w q z
theorem de_cmp {op : CmpOp} {r : R2} {f : A2} (ho : OpR X (compareOp op) r) (hr : Ab2 X.K T.B r f) (ha : DE X T a ta) (hb : DE X T b tb) (hm : behindInMarks op b = false := by first | exact nomark _ | rfl) : DE X T (.Compare a [op] [b] pos) (aOp f ta tb) :=
  de_of (pe_cmpR ho ha hb hm) fun F σ H Γ M Φ Q w q z => op_go hr w q z
theorem de_un {op : UnaryOp} {r : V → Hp → VK → Prop} {f : A1} (ho : UnR X (unaryOp op) r) (hr : Ab1 X.K T.B r f) (ha : DE X T a ta) : DE X T (.UnaryOp op a pos) (aUn f ta) :=
  de_of (pe_un ho ha) fun F σ H Γ M Φ Q w q z => cE_mk w q fun d M1 x F1 H1 s1 h1 i1 q1 => hr F1 H1 x d M1 Φ Q h1 i1 q1 fun d M3 v F3 H3 s3 h3 i3 q3 => z d M3 v F3 H3 (s1.trans s3) h3 i3 q3
/-- x[i] -/
theorem de_ix {r : R2} {f : A2} (hi : IxR X r) (hr : Ab2 X.K T.B r f) (ha : DE X T a ta) (hb : DE X T b tb) (hs : PlainIx b := by exact fun _ _ => rfl) : DE X T (.Subscript a b pos) (aOp f ta tb) :=
  de_of (pe_ix hi ha hb hs) fun F σ H Γ M Φ Q w q z => op_go hr w q z
/-- a test -/
def aB_k (Φ : Bool → Mm → Prop)  (d : D) (M1 : Mm) : Prop := match d with
  | .bl b => Φ b M1
  | _ => False
def aB (ta : AE) (Γ : Gm) (M : Mm) (Φ : Bool → Mm → Prop) : Prop := ta Γ M fun d M1 => aB_k Φ d M1
theorem cE_b {Q : Bool → Hp → Prop} {Φ : Bool → Mm → Prop} (w : See K T F σ H Γ M) (q : aB ta Γ M Φ) (z : ∀ b M' F' H', Same F F' → Hs K T.B M' F' H' → Φ b M' → Q b H') : cE K T ta σ H fun x H1 => ∃ k, x = .bl k ∧ Q k H1 :=
  cE_mk w q fun d M1 x F1 H1 s1 h1 i1 q1 => by
    cases d with
    | bl b =>
      cases i1
      exact ⟨b, rfl, z b M1 F1 H1 s1 h1 q1⟩
    | _ => exact q1.elim
theorem dt_val {e : Expr} {te : AE} (h : DE X T e te) (he : ∀ whole, isTrue e X.env whole = (do let v ← whole; standAt e.pos; holding [v] (truthy v)) := by intro _; rfl) : DT X T e (aB te) :=
  dt_of (pt_val h he) fun F σ H Γ M Φ Q w q z => cE_b w q z
theorem dt_cmp {op : CmpOp} {r : R2} {f : A2} (ho : OpR X (compareOp op) r) (hr : Ab2 X.K T.B r f) (ha : DE X T a ta) (hb : DE X T b tb) (hm : behindInMarks op b = false := by first | exact nomark _ | rfl) : DT X T (.Compare a [op] [b] pos) (aB (aOp f ta tb)) :=
  dt_of (pt_cmpR ho ha hb hm) fun F σ H Γ M Φ Q w q z => op_go (Q := fun x H1 => ∃ k, x = .bl k ∧ Q k H1) hr w q fun d M1 x F1 H1 s1 h1 i1 q1 => by
    cases d with
    | bl b =>
      cases i1
      exact ⟨b, rfl, z b M1 F1 H1 s1 h1 q1⟩
    | _ => exact q1.elim
/-! ### and, or, not, if -/
variable {tA tB : AT}
def aAnd (t u : AT) (Γ : Gm) (M : Mm) (Φ : Bool → Mm → Prop) : Prop := t Γ M fun c M1 => (c = true → u Γ M1 Φ) ∧ (c = false → Φ false M1)
def aOr (t u : AT) (Γ : Gm) (M : Mm) (Φ : Bool → Mm → Prop) : Prop := t Γ M fun c M1 => (c = true → Φ true M1) ∧ (c = false → u Γ M1 Φ)
def aNot (t : AT) (Γ : Gm) (M : Mm) (Φ : Bool → Mm → Prop) : Prop := t Γ M fun c M1 => Φ (!c) M1
theorem cT_mk {Q : Bool → Hp → Prop} {Φ : Bool → Mm → Prop} {t : AT} (s : See K T F σ H Γ M) (q : t Γ M Φ) (z : ∀ d M' F' H', Same F F' → Hs K T.B M' F' H' → Φ d M' → Q d H') : cT K T t σ H Q := ⟨F, Γ, M, Φ, s, q, z⟩
theorem dw_and1 (ha : DT X T a tA) : DW X T (.BoolOp .And [a] pos) tA := pw_and1 ha
theorem dw_or1 (ha : DT X T a tA) : DW X T (.BoolOp .Or [a] pos) tA := pw_or1 ha
theorem dw_and {rest : List Expr} (ha : DT X T a tA) (hb : DW X T (.BoolOp .And (b :: rest) pos) tB) : DW X T (.BoolOp .And (a :: b :: rest) pos) (aAnd tA tB) :=
  dw_of (pw_and ha hb) fun F σ H Γ M Φ Q w q z => cT_mk w q fun c M1 F1 H1 s1 h1 q1 => by
    cases c with
    | true => exact cT_mk (w.go s1 h1) (q1.1 rfl) fun d M2 F2 H2 s2 h2 q2 => z d M2 F2 H2 (s1.trans s2) h2 q2
    | false => exact z false M1 F1 H1 s1 h1 (q1.2 rfl)
theorem dw_or {rest : List Expr} (ha : DT X T a tA) (hb : DW X T (.BoolOp .Or (b :: rest) pos) tB) : DW X T (.BoolOp .Or (a :: b :: rest) pos) (aOr tA tB) :=
  dw_of (pw_or ha hb) fun F σ H Γ M Φ Q w q z => cT_mk w q fun c M1 F1 H1 s1 h1 q1 => by
    cases c with
    | true => exact z true M1 F1 H1 s1 h1 (q1.1 rfl)
    | false => exact cT_mk (w.go s1 h1) (q1.2 rfl) fun d M2 F2 H2 s2 h2 q2 => z d M2 F2 H2 (s1.trans s2) h2 q2
theorem dt_w (h : DW X T e tA) : DT X T e tA := h.pt
theorem dt_not (ha : DT X T a tA) : DT X T (.UnaryOp .Not a pos) (aNot tA) :=
  dt_of (pt_not ha) fun F σ H Γ M Φ Q w q z => cT_mk w q fun c M1 F1 H1 s1 h1 q1 => z (!c) M1 F1 H1 s1 h1 q1
/-- .. as values: bools -/
def aAndV_k (tb : AE) (Γ : Gm) (Φ : AK)  (d : D) (M1 : Mm) : Prop := match d with
  | .bl c => (c = true → tb Γ M1 Φ) ∧ (c = false → Φ (.bl false) M1)
  | _ => False
def aAndV (ta tb : AE) (Γ : Gm) (M : Mm) (Φ : AK) : Prop := ta Γ M fun d M1 => aAndV_k tb Γ Φ d M1
def aOrV_k (tb : AE) (Γ : Gm) (Φ : AK)  (d : D) (M1 : Mm) : Prop := match d with
  | .bl c => (c = true → Φ (.bl true) M1) ∧ (c = false → tb Γ M1 Φ)
  | _ => False
def aOrV (ta tb : AE) (Γ : Gm) (M : Mm) (Φ : AK) : Prop := ta Γ M fun d M1 => aOrV_k tb Γ Φ d M1
def aNotV_k (Φ : AK)  (d : D) (M1 : Mm) : Prop := match d with
  | .bl c => Φ (.bl (!c)) M1
  | _ => False
def aNotV (ta : AE) (Γ : Gm) (M : Mm) (Φ : AK) : Prop := ta Γ M fun d M1 => aNotV_k Φ d M1
theorem de_one {op} (h : DE X T a ta) : DE X T (.BoolOp op [a] pos) ta := pe_one h
theorem de_and {rest : List Expr} (ha : DE X T a ta) (hb : DE X T (.BoolOp .And (b :: rest) pos) tb) : DE X T (.BoolOp .And (a :: b :: rest) pos) (aAndV ta tb) :=
  de_of (pe_and ha hb) fun F σ H Γ M Φ Q w q z => cE_mk w q fun d M1 x F1 H1 s1 h1 i1 q1 => by
    cases d with
    | bl c =>
      cases i1
      refine ⟨c, rfl, ?_⟩
      cases c with
      | true => exact cE_mk (w.go s1 h1) (q1.1 rfl) fun d M2 v F2 H2 s2 h2 i2 q2 => z d M2 v F2 H2 (s1.trans s2) h2 i2 q2
      | false => exact z _ M1 _ F1 H1 s1 h1 (.bl false) (q1.2 rfl)
    | _ => exact q1.elim
theorem de_or {rest : List Expr} (ha : DE X T a ta) (hb : DE X T (.BoolOp .Or (b :: rest) pos) tb) : DE X T (.BoolOp .Or (a :: b :: rest) pos) (aOrV ta tb) :=
  de_of (pe_or ha hb) fun F σ H Γ M Φ Q w q z => cE_mk w q fun d M1 x F1 H1 s1 h1 i1 q1 => by
    cases d with
    | bl c =>
      cases i1
      refine ⟨c, rfl, ?_⟩
      cases c with
      | true => exact z _ M1 _ F1 H1 s1 h1 (.bl true) (q1.1 rfl)
      | false => exact cE_mk (w.go s1 h1) (q1.2 rfl) fun d M2 v F2 H2 s2 h2 i2 q2 => z d M2 v F2 H2 (s1.trans s2) h2 i2 q2
    | _ => exact q1.elim
theorem de_not (ha : DE X T a ta) : DE X T (.UnaryOp .Not a pos) (aNotV ta) :=
  de_of (pe_not ha) fun F σ H Γ M Φ Q w q z => cE_mk w q fun d M1 x F1 H1 s1 h1 i1 q1 => by
    cases d with
    | bl c =>
      cases i1
      exact ⟨c, rfl, z _ M1 _ F1 H1 s1 h1 (.bl (!c)) q1⟩
    | _ => exact q1.elim
/-- a if t else b -/
def aIf (t : AT) (ta tb : AE) (Γ : Gm) (M : Mm) (Φ : AK) : Prop := t Γ M fun c M1 => (c = true → ta Γ M1 Φ) ∧ (c = false → tb Γ M1 Φ)
theorem de_if (hc : DT X T c tA) (ha : DE X T a ta) (hb : DE X T b tb) : DE X T (.IfExp c a b pos) (aIf tA ta tb) :=
  de_of (pe_ifExp hc ha hb) fun F σ H Γ M Φ Q w q z => cT_mk w q fun c M1 F1 H1 s1 h1 q1 => by
    cases c with
    | true => exact cE_mk (w.go s1 h1) (q1.1 rfl) fun d M2 v F2 H2 s2 h2 i2 q2 => z d M2 v F2 H2 (s1.trans s2) h2 i2 q2
    | false => exact cE_mk (w.go s1 h1) (q1.2 rfl) fun d M2 v F2 H2 s2 h2 i2 q2 => z d M2 v F2 H2 (s1.trans s2) h2 i2 q2
/-- a < b < c -/
def aChain_k (g : A2) (tc : AE) (Γ : Gm) (Φ : AK) (e : D) (z : D) (M3 : Mm) : Prop := match z with
  | .bl k => (k = true → tc Γ M3 fun h M4 => g e h M4 Φ) ∧ (k = false → Φ (.bl false) M3)
  | _ => False
def aChain (f g : A2) (ta tb tc : AE) (Γ : Gm) (M : Mm) (Φ : AK) : Prop := ta Γ M fun d M1 => tb Γ M1 fun e M2 => f d e M2 fun z M3 => aChain_k g tc Γ Φ e z M3
/-! ### argument lists, tuples, lists -/
def aNil (Γ : Gm) (M : Mm) (Φ : List D → Mm → Prop) : Prop := Φ [] M
def aCons (ta : AE) (tr : AA) (Γ : Gm) (M : Mm) (Φ : List D → Mm → Prop) : Prop := ta Γ M fun d M1 => tr Γ M1 fun ds M2 => Φ (d :: ds) M2
variable {es : List Expr} {tr : AA}
theorem cA_mk {Q : List V → Hp → Prop} {Φ : List D → Mm → Prop} (s : See K T F σ H Γ M) (q : tr Γ M Φ) (z : ∀ d M' v F' H', Same F F' → Hs K T.B M' F' H' → IsL K F' v d → Φ d M' → Q v H') : cA K T tr σ H Q := ⟨F, Γ, M, Φ, s, q, z⟩
theorem da_nil : DA X T [] aNil := da_of pa_nil fun F σ H Γ M Φ Q w q z => z [] M [] F H (Same.refl F) w.h .nil q
theorem da_cons (ha : DE X T e ta) (hr : DA X T es tr) (hs : starEach (e :: es) X.env = (false, eval e X.env) :: starEach es X.env := by rfl) : DA X T (e :: es) (aCons ta tr) :=
  da_of (pa_cons ha hr hs) fun F σ H Γ M Φ Q w q z => cE_mk w q fun d M1 x F1 H1 s1 h1 i1 q1 => cA_mk (w.go s1 h1) q1 fun ds M2 vs F2 H2 s2 h2 i2 q2 => z (d :: ds) M2 (x :: vs) F2 H2 (s1.trans s2) h2 (.cons (i1.mono s2) i2) q2
def aTup (tr : AA) (Γ : Gm) (M : Mm) (Φ : AK) : Prop := tr Γ M fun ds M1 => ds.length ≤ 100000 ∧ Φ (.tup ds) M1
/-- a list that will not change -/
def aLst (tr : AA) (Γ : Gm) (M : Mm) (Φ : AK) : Prop := tr Γ M fun ds M1 => ds.length ≤ 100000 ∧ Φ (.lst ds) M1
/-- a list that may change -/
def aLstM (tr : AA) (Γ : Gm) (M : Mm) (Φ : AK) : Prop := tr Γ M fun ds M1 => ds.length ≤ 100000 ∧ ∀ l, Φ (.ref l) ((l, .lst ds) :: M1)
theorem line_of {n : Nat} (h : n ≤ 100000) : n ≤ sizeLine := Nat.le_trans h (by decide)
theorem line_lt {n : Nat} (h : n < 100000) : n < sizeLine := Nat.lt_of_lt_of_le h (by decide)
theorem de_tup {x1} (h : DA X T es tr) : DE X T (.Tuple es x1 pos) (aTup tr) :=
  de_of (pe_tup h) fun F σ H Γ M Φ Q w q z => cA_mk w q fun ds M1 vs F1 H1 s1 h1 i1 q1 => ⟨by rw [i1.length]; exact line_of q1.1, fun p hp => by
    have n1 := h1.free hp
    exact z _ M1 _ _ _ (s1.trans (upd_same_ext n1)) (h1.laid hp) (.tup (.inl (.inl upd_same)) (i1.mono (upd_same_ext n1))) q1.2⟩
theorem de_lst (h : DA X T es tr) : DE X T (.List es pos) (aLst tr) :=
  de_of (pe_lst h) fun F σ H Γ M Φ Q w q z => cA_mk w q fun ds M1 vs F1 H1 s1 h1 i1 q1 => ⟨by rw [i1.length]; exact line_of q1.1, fun p hp => by
    have n1 := h1.free hp
    exact z _ M1 _ _ _ (s1.trans (upd_same_ext n1)) (h1.laid hp) (.lst (.inl (.inl upd_same)) (i1.mono (upd_same_ext n1))) q1.2⟩
theorem de_lstM (h : DA X T es tr) : DE X T (.List es pos) (aLstM tr) :=
  de_of (pe_lst h) fun F σ H Γ M Φ Q w q z => cA_mk w q fun ds M1 vs F1 H1 s1 h1 i1 q1 => ⟨by rw [i1.length]; exact line_of q1.1, fun p hp => by
    exact z (.ref p) ((p, .lst ds) :: M1) _ _ _ s1 (h1.newM (o := .lst ds) hp ⟨vs, upd_same, i1⟩) (.ref p) (q1.2 p)⟩
/-! ### calls of built-ins -/
def aCB (f : AL) (tr : AA) (Γ : Gm) (M : Mm) (Φ : AK) : Prop := tr Γ M fun ds M1 => f ds M1 Φ
theorem de_callB {id : String} {x : Str} {p : Pos} {r : List V → Hp → VK → Prop} {f : AL} (hc : CallR X (.builtin id) r) (hr : AbL X.K T.B r f) (hg : Gl X x) (hm : X.mg x = none) (hv : bootBuiltins x = some (.builtin id)) (ha : DA X T (e :: es) tr) (hn : x ≠ "__name__" := by decide) (hdb : (x == ("__debug__" : Str)) = false := by decide)
    (he : starEach (e :: es) X.env = (false, eval e X.env) :: starEach es X.env := by rfl) (hpl : (backTo pos (starEach es X.env)).any (·.1) = false := by rfl) : DE X T (.Call (.Name x p) (e :: es) [] pos) (aCB f tr) :=
  de_of (pe_callB hc hg hm hv ha hn hdb he hpl) fun F σ H Γ M Φ Q w q z => cA_mk w q fun ds M1 vs F1 H1 s1 h1 i1 q1 => hr F1 H1 vs ds M1 Φ Q h1 i1 q1 fun d M3 v F3 H3 s3 h3 i3 q3 => z d M3 v F3 H3 (s1.trans s3) h3 i3 q3
theorem de_callTy {id : String} {x : Str} {p : Pos} {r : List V → Hp → VK → Prop} {f : AL} (hc : CallR X (.type id) r) (hr : AbL X.K T.B r f) (hg : Gl X x) (hm : X.mg x = none) (hv : bootBuiltins x = some (.type id)) (ha : DA X T (e :: es) tr) (hn : x ≠ "__name__" := by decide) (hdb : (x == ("__debug__" : Str)) = false := by decide)
    (he : starEach (e :: es) X.env = (false, eval e X.env) :: starEach es X.env := by rfl) (hpl : (backTo pos (starEach es X.env)).any (·.1) = false := by rfl) : DE X T (.Call (.Name x p) (e :: es) [] pos) (aCB f tr) :=
  de_of (pe_callTy hc hg hm hv ha hn hdb he hpl) fun F σ H Γ M Φ Q w q z => cA_mk w q fun ds M1 vs F1 H1 s1 h1 i1 q1 => hr F1 H1 vs ds M1 Φ Q h1 i1 q1 fun d M3 v F3 H3 s3 h3 i3 q3 => z d M3 v F3 H3 (s1.trans s3) h3 i3 q3
end
end DL

set_option Elab.async false
set_option linter.all false
set_option maxRecDepth 100000
set_option maxHeartbeats 2000000
namespace DL
open PySem L2

section
variable {X : Cx} {T : Ct} {e a b c : Expr} {pos : Pos} {K : PySem.W.Frag} {F F' F1 H H' H1 : Hp} {σ : St} {Γ : Gm} {M M' : Mm} {ta tb tc : AE} {tA tB : AT} {es : List Expr} {tr : AA} {B : Bx}
/-! ### statements -/
variable {st : Stmt} {rest sts : List Stmt} {t u : AS}
def aNext (A : AEnds) (Γ : Gm) (M : Mm) : Prop := A.nx Γ M
def aSeq (t u : AS) (A : AEnds) (Γ : Gm) (M : Mm) : Prop := t { A with nx := u A } Γ M
def aBreak (A : AEnds) (Γ : Gm) (M : Mm) : Prop := A.bk Γ M
def aCont (A : AEnds) (Γ : Gm) (M : Mm) : Prop := A.ct Γ M
def aDrop (ta : AE) (A : AEnds) (Γ : Gm) (M : Mm) : Prop := ta Γ M fun _ M1 => A.nx Γ M1
def aRet (ta : AE) (A : AEnds) (Γ : Gm) (M : Mm) : Prop := ta Γ M A.rt
def aRetN (A : AEnds) (Γ : Gm) (M : Mm) : Prop := A.rt .non M
def aIfS (c : AT) (t u : AS) (A : AEnds) (Γ : Gm) (M : Mm) : Prop := c Γ M fun b M1 => (b = true → t A Γ M1) ∧ (b = false → u A Γ M1)
def aNever (A : AEnds) (Γ : Gm) (M : Mm) : Prop := False
def aSet (i : Nat) (ta : AE) (A : AEnds) (Γ : Gm) (M : Mm) : Prop := ta Γ M fun d M1 => A.nx (Γ.set i (some d)) M1
def aPar_k (i : Nat) (j : Nat) (A : AEnds) (Γ : Gm)  (ds : List D) (M1 : Mm) : Prop := match ds with
  | [d, e] => A.nx ((Γ.set i (some d)).set j (some e)) M1
  | _ => False
def aPar (i j : Nat) (tr : AA) (A : AEnds) (Γ : Gm) (M : Mm) : Prop := tr Γ M fun ds M1 => aPar_k i j A Γ ds M1
def aPar3_k (i : Nat) (j : Nat) (l : Nat) (A : AEnds) (Γ : Gm)  (ds : List D) (M1 : Mm) : Prop := match ds with
  | [d, e, f] => A.nx (((Γ.set i (some d)).set j (some e)).set l (some f)) M1
  | _ => False
def aPar3 (i j l : Nat) (tr : AA) (A : AEnds) (Γ : Gm) (M : Mm) : Prop := tr Γ M fun ds M1 => aPar3_k i j l A Γ ds M1
def aAug (i : Nat) (f : A2) (ta : AE) (A : AEnds) (Γ : Gm) (M : Mm) : Prop := onSlot Γ[i]? fun d => ta Γ M fun e M1 => f d e M1 fun g M2 => A.nx (Γ.set i (some g)) M2
/-- something is forgotten or frozen -/
def aGh (t : AS) (A : AEnds) (Γ : Gm) (M : Mm) : Prop := ∃ Γ' M', Fz Γ M Γ' M' ∧ t A Γ' M'

theorem dss_nil : DSs X T [] aNext := dss_of pss_nil fun F σ H Γ M A D w q m => m.nx Γ M σ F H (Same.refl F) w.v w.h q
theorem met_nx {A : AEnds} {D : Ends} {g : Gm → Mm → Prop} {k : St → Hp → Prop} (m : Met K T F A D) (h : ∀ Γ' M' σ' F' H', Same F F' → Vw K F' σ' Γ' → Hs K T.B M' F' H' → g Γ' M' → k σ' H') : Met K T F { A with nx := g } { D with nx := k } := ⟨h, m.rt, m.bk, m.ct⟩
theorem dss_cons (h1 : DS X T st t) (h2 : DSs X T rest u) : DSs X T (st :: rest) (aSeq t u) :=
  dss_of (pss_cons h1 h2) fun F σ H Γ M A D w q m => cS_mk w q (met_nx m fun Γ' M' σ' F' H' s v h q' => cS_mk ⟨v, h, w.l.mono s⟩ q' (m.mono s))
theorem dss_one (h1 : DS X T st t) : DSs X T [st] t := pss_one h1
theorem ds_pass : DS X T (.Pass pos) aNext := ds_of ps_pass fun F σ H Γ M A D w q m => m.nx Γ M σ F H (Same.refl F) w.v w.h q
theorem ds_break : DS X T (.Break pos) aBreak := ds_of ps_break fun F σ H Γ M A D w q m => m.bk Γ M σ F H (Same.refl F) w.v w.h q
theorem ds_continue : DS X T (.Continue pos) aCont := ds_of ps_continue fun F σ H Γ M A D w q m => m.ct Γ M σ F H (Same.refl F) w.v w.h q
theorem ds_never : DS X T st aNever := ds_of ps_never fun F σ H Γ M A D w q m => q
theorem dss_never : DSs X T sts aNever := dss_of pss_never fun F σ H Γ M A D w q m => q
theorem ds_expr (he : DE X T e ta) (hs : swapsWith e none pos.line X.env = pure false := by rfl) : DS X T (.Expr e pos) (aDrop ta) :=
  ds_of (ps_expr he hs) fun F σ H Γ M A D w q m => cE_mk w q fun d M1 v F1 H1 s1 h1 i1 q1 => m.nx Γ M1 σ F1 H1 s1 (w.v.mono s1) h1 q1
theorem ds_ret (he : DE X T e ta) : DS X T (.Return (some e) pos) (aRet ta) :=
  ds_of (ps_ret he) fun F σ H Γ M A D w q m => cE_mk w q fun d M1 v F1 H1 s1 h1 i1 q1 => m.rt d M1 v F1 H1 s1 h1 i1 q1
theorem ds_retN : DS X T (.Return none pos) aRetN := ds_of ps_retN fun F σ H Γ M A D w q m => m.rt .non M .non F H (Same.refl F) w.h .non q
theorem ds_if {p q : List Stmt} (hc : DT X T c tA) (ha : DSs X T p t) (hb : DSs X T q u) : DS X T (.If c p q pos) (aIfS tA t u) :=
  ds_of (ps_if hc ha hb) fun F σ H Γ M A D w q m => cT_mk w q fun b M1 F1 H1 s1 h1 q1 => by
    cases b with
    | true => exact cS_mk (w.go s1 h1) (q1.1 rfl) (m.mono s1)
    | false => exact cS_mk (w.go s1 h1) (q1.2 rfl) (m.mono s1)
theorem ds_set {i : Nat} {x : Str} {pos' : Pos} (hN : X.N.Nodup) (hi : X.N[i]? = some x) (hx : Loc X.env.scope x) (he : DE X T e ta) (hs : swapsWith e (some (.Name x pos')) pos.line X.env = pure false := by rfl) (hf : X.fn x = true ∨ X.env.scope.names.lookup x = some .local := by first | exact .inl rfl | exact .inr rfl | assumption) :
    DS X T (.Assign [.Name x pos'] e pos) (aSet i ta) :=
  ds_of (ps_set hN hi hx he hs hf) fun F σ H Γ M A D w q m => cE_mk w q fun d M1 v F1 H1 s1 h1 i1 q1 => m.nx _ M1 _ F1 H1 s1 ((w.v.mono s1).set i1 i) h1 q1
theorem ds_par {i j : Nat} {x y : Str} {px py pt : Pos} {kt k2 pt2} (hc : X.calm = true) (hN : X.N.Nodup) (hi : X.N[i]? = some x) (hj : X.N[j]? = some y) (hij : i ≠ j)
    (hx : X.env.scope.names.lookup x = some .local) (hy : X.env.scope.names.lookup y = some .local) (ha : DA X T [a, b] tr)
    (hw : swappedStores [.Tuple [.Name x px, .Name y py] kt pt] (.Tuple [a, b] k2 pt2) X.env = pure (some [x, y]) := by rfl)
    (hs : swapsWithSole [.Tuple [.Name x px, .Name y py] kt pt] (.Tuple [a, b] k2 pt2) pos.line X.env = pure false := by rfl) :
    DS X T (.Assign [.Tuple [.Name x px, .Name y py] kt pt] (.Tuple [a, b] k2 pt2) pos) (aPar i j tr) :=
  ds_of (ps_par hc hN hi hj hij hx hy ha hw hs) fun F σ H Γ M A D w q m => cA_mk w q fun ds M1 vs F1 H1 s1 h1 i1 q1 => by
    match ds, i1, q1 with
    | [d, e], .cons k1 (.cons k2 .nil), q1 => exact ⟨_, _, rfl, m.nx _ M1 _ F1 H1 s1 (((w.v.mono s1).set k1 i).set k2 j) h1 q1⟩
    | [], _, q1 => exact q1.elim
    | [_], _, q1 => exact q1.elim
    | _ :: _ :: _ :: _, _, q1 => exact q1.elim
theorem ds_par3 {i j l : Nat} {x y z : Str} {px py pz pt : Pos} {kt k2 pt2} (hc : X.calm = true) (hN : X.N.Nodup) (hi : X.N[i]? = some x) (hj : X.N[j]? = some y) (hl : X.N[l]? = some z) (hij : i ≠ j) (hil : i ≠ l) (hjl : j ≠ l)
    (hx : X.env.scope.names.lookup x = some .local) (hy : X.env.scope.names.lookup y = some .local) (hz : X.env.scope.names.lookup z = some .local) (ha : DA X T [a, b, c] tr)
    (hw : swappedStores [.Tuple [.Name x px, .Name y py, .Name z pz] kt pt] (.Tuple [a, b, c] k2 pt2) X.env = pure (some [x, y, z]) := by rfl)
    (hs : swapsWithSole [.Tuple [.Name x px, .Name y py, .Name z pz] kt pt] (.Tuple [a, b, c] k2 pt2) pos.line X.env = pure false := by rfl) :
    DS X T (.Assign [.Tuple [.Name x px, .Name y py, .Name z pz] kt pt] (.Tuple [a, b, c] k2 pt2) pos) (aPar3 i j l tr) :=
  ds_of (ps_par3 hc hN hi hj hl hij hil hjl hx hy hz ha hw hs) fun F σ H Γ M A D w q m => cA_mk w q fun ds M1 vs F1 H1 s1 h1 i1 q1 => by
    match ds, i1, q1 with
    | [d, e, f], .cons k1 (.cons k2 (.cons k3 .nil)), q1 => exact ⟨_, _, _, rfl, m.nx _ M1 _ F1 H1 s1 ((((w.v.mono s1).set k1 i).set k2 j).set k3 l) h1 q1⟩
    | [], _, q1 => exact q1.elim
    | [_], _, q1 => exact q1.elim
    | [_, _], _, q1 => exact q1.elim
    | _ :: _ :: _ :: _ :: _, _, q1 => exact q1.elim
/-- in-place operators, by values -/
def IpR (X : Cx) (op : Operator) (r : R2) : Prop := PIp X op r
theorem ipr_of {op : Operator} {r : R2} (h : OpR X (inplaceOp op) r) : PIp X op r := fun pins s σ H x y v u Q I rx ry q => h pins s σ H x y v u Q I rx ry q
theorem ds_aug {i : Nat} {x : Str} {op : Operator} {r : R2} {f : A2} {pos' : Pos} (hN : X.N.Nodup) (hi : X.N[i]? = some x) (hx : Loc X.env.scope x) (ho : PIp X op r) (hr : Ab2 X.K T.B r f) (he : DE X T e ta) (hf : X.fn x = true ∨ X.env.scope.names.lookup x = some .local := by first | exact .inl rfl | exact .inr rfl | assumption) :
    DS X T (.AugAssign (.Name x pos') op e pos) (aAug i f ta) :=
  ds_of (ps_aug hN hi hx he ho hf) fun F σ H Γ M A D w q m => by
    unfold aAug onSlot at q
    (first | split at q | (unfold aAsg_k onGm at q; split at q) | (unfold aSetIx_k at q; split at q) | (unfold aItS_k at q; split at q) | (unfold aRng1_k at q; split at q) | (unfold aRng2_k at q; split at q))
    · rename_i d hd
      obtain ⟨x, h1, h2⟩ := w.v.get i d hd
      exact ⟨x, h1, cE_mk w q fun d M1 v F1 H1 s1 h1 i1 q1 => hr F1 H1 _ _ _ _ M1 _ _ h1 (h2.mono s1) i1 q1 fun g M2 v F2 H2 s2 h2 i2 q2 => m.nx _ M2 _ F2 H2 (s1.trans s2) ((w.v.mono (s1.trans s2)).set i2 i) h2 q2⟩
    · exact q.elim
theorem Vw.reread {d0 d1 : D} (v : Vw K F σ Γ) {i : Nat} (hi : Γ[i]? = some (some d0)) (c : ∀ x, Is K F x d0 → Is K F x d1) : Vw K F σ (Γ.set i (some d1)) := by
  have hl : i < Γ.length := (List.getElem?_eq_some_iff.mp hi).1
  refine ⟨by rw [List.length_set]; exact v.len, fun j e hj => ?_⟩
  by_cases hij : i = j
  · subst hij
    rw [List.getElem?_set_self hl] at hj
    cases hj
    obtain ⟨x, h1, h2⟩ := v.get i d0 hi
    exact ⟨x, h1, c x h2⟩
  · rw [List.getElem?_set_ne hij] at hj
    exact v.get j e hj
theorem fz_see (w : See K T F σ H Γ M) {Γ' : Gm} {M' : Mm} (z : Fz Γ M Γ' M') : ∃ F', Same F F' ∧ See K T F' σ H Γ' M' := by
  induction z generalizing F with
  | refl => exact ⟨F, Same.refl F, w⟩
  | lst i hi d _ ih =>
    obtain ⟨F1, s1, h1, i1⟩ := w.h.freeze d
    obtain ⟨F2, s2, w2⟩ := ih ⟨(w.v.mono s1).reread hi fun x h => (by cases h; exact i1), h1, w.l.mono s1⟩
    exact ⟨F2, s1.trans s2, w2⟩
  | ins i hi d _ ih =>
    obtain ⟨F1, s1, h1, i1⟩ := w.h.freezeI d
    obtain ⟨F2, s2, w2⟩ := ih ⟨(w.v.mono s1).reread hi fun x h => (by cases h; exact i1), h1, w.l.mono s1⟩
    exact ⟨F2, s1.trans s2, w2⟩
  | no i _ ih => exact ih ⟨w.v.unset i, w.h, w.l⟩
  | less s _ ih => exact ih ⟨w.v, w.h.less s, w.l⟩
theorem dss_gh (h : DSs X T sts t) : DSs X T sts (aGh t) := dss_of h fun F σ H Γ M A D w q m => by
  obtain ⟨Γ', M', z, q⟩ := q
  obtain ⟨F1, s1, w1⟩ := fz_see w z
  exact cS_mk w1 q (m.mono s1)
theorem ds_gh (h : DS X T st t) : DS X T st (aGh t) := ds_of h fun F σ H Γ M A D w q m => by
  obtain ⟨Γ', M', z, q⟩ := q
  obtain ⟨F1, s1, w1⟩ := fz_see w z
  exact cS_mk w1 q (m.mono s1)

/-! ### targets -/
abbrev AG := D → Gm → Option Gm
abbrev AGs := List D → Gm → Option Gm
def cG (K : PySem.W.Frag) (vs : List Nat) (ag : AG) : TG := fun x σ H Q => ∃ F d Γ Γ', Vw K F σ Γ ∧ Same F H ∧ Is K F x d ∧ ag d Γ = some Γ' ∧ ∀ σ', Vw K F σ' Γ' → (∀ ws, (∀ i ∈ vs, i ∈ ws) → wipe σ' ws = wipe σ ws) → Q σ' H
def cGs (K : PySem.W.Frag) (n : Nat) (vs : List Nat) (ag : AGs) : TGs := fun xs σ H Q => ∃ F ds Γ Γ', Vw K F σ Γ ∧ Same F H ∧ IsL K F xs ds ∧ ag ds Γ = some Γ' ∧ ds.length = n ∧ ∀ σ', Vw K F σ' Γ' → (∀ ws, (∀ i ∈ vs, i ∈ ws) → wipe σ' ws = wipe σ ws) → Q σ' H
def DG (X : Cx) (e : Expr) (vs : List Nat) (ag : AG) : Prop := PG X e (cG X.K vs ag)
def DGs (X : Cx) (es : List Expr) (n : Nat) (vs : List Nat) (ag : AGs) : Prop := PGs X es (cGs X.K n vs ag)
theorem wipe_set {σ : St} {i : Nat} {x : Option V} : ∀ {ws : List Nat}, i ∈ ws → wipe (σ.set i x) ws = wipe σ ws
  | [], h => absurd h (by simp)
  | j :: ws, h => by
    by_cases hi : i ∈ ws
    · show (wipe (σ.set i x) ws).set j none = (wipe σ ws).set j none
      rw [wipe_set hi]
    · have e : i = j := by
        rcases List.mem_cons.mp h with e | h
        · exact e
        · exact absurd h hi
      subst e
      have go : ∀ ws : List Nat, i ∉ ws → wipe (σ.set i x) ws = (wipe σ ws).set i x := by
        intro ws
        induction ws with
        | nil => intro _; rfl
        | cons k ws ih =>
          intro hn
          show (wipe (σ.set i x) ws).set k none = ((wipe σ ws).set k none).set i x
          rw [ih fun h => hn (List.mem_cons_of_mem _ h), List.set_comm _ _ fun e => hn (by rw [e]; exact List.mem_cons_self)]
      show (wipe (σ.set i x) ws).set i none = (wipe σ ws).set i none
      rw [go ws hi, List.set_set]
theorem pg_imp {tg : Expr} {g g' : TG} (h : PG X tg g) (k : ∀ v σ H Q, g' v σ H Q → g v σ H Q) : PG X tg g' := ⟨fun pins s σ H v u Q I r q => h.run pins s σ H v u Q I r (k v σ H Q q)⟩
theorem pgs_imp {tg : List Expr} {g g' : TGs} (h : PGs X tg g) (k : ∀ v σ H Q, g' v σ H Q → g v σ H Q) : PGs X tg g' := ⟨fun pins s σ H v u Q I r q => h.run pins s σ H v u Q I r (k v σ H Q q)⟩
def agName (i : Nat) (d : D) (Γ : Gm) : Option Gm := some (Γ.set i (some d))
theorem dg_name {i : Nat} {x : Str} (hN : X.N.Nodup) (hi : X.N[i]? = some x) (hx : Loc X.env.scope x) (hf : X.fn x = true ∨ X.env.scope.names.lookup x = some .local := by first | exact .inl rfl | exact .inr rfl | assumption) : DG X (.Name x pos) [i] (agName i) :=
  pg_imp (pg_name hN hi hx hf) fun v σ H Q ⟨F, d, Γ, Γ', w, s, i1, e, k⟩ => by
    cases e
    exact k _ (w.set i1 i) fun ws hw => wipe_set (hw i (by simp))
def agNil (ds : List D) (Γ : Gm) : Option Gm := match ds with
  | [] => some Γ
  | _ => none
def agCons (g : AG) (gs : AGs) (ds : List D) (Γ : Gm) : Option Gm := match ds with
  | d :: ds => (g d Γ).bind fun Γ1 => gs ds Γ1
  | [] => none
theorem dgs_nil : DGs X [] 0 [] agNil := pgs_imp pgs_nil fun v σ H Q ⟨F, ds, Γ, Γ', w, s, i1, e, hl, k⟩ => by
  match ds, i1, e with
  | [], .nil, e =>
    cases e
    exact ⟨rfl, k σ w fun _ _ => rfl⟩
theorem dgs_cons {n : Nat} {vs ws : List Nat} {g : AG} {gs : AGs} (h1 : DG X e vs g) (h2 : DGs X es n ws gs)
    (hs : (assignEach (e :: es) X.env).map (·.2) = assign e X.env :: (assignEach es X.env).map (·.2) := by rfl) : DGs X (e :: es) (n + 1) (vs ++ ws) (agCons g gs) :=
  pgs_imp (pgs_cons h1 h2 hs) fun v σ H Q ⟨F, ds, Γ, Γ', w, s, i1, e, hl, k⟩ => by
    match ds, i1, e with
    | d :: ds, .cons k1 k2, e =>
      rename_i v vs' _
      unfold agCons at e
      split at e
      · rename_i d' ds' hds
        cases hds
        cases h1 : g d Γ with
        | some Γ1 =>
          rw [h1] at e
          exact ⟨_, _, rfl, F, d, Γ, Γ1, w, s, k1, h1, fun σ1 w1 e1 => ⟨F, ds, Γ1, Γ', w1, s, k2, e, by simpa using hl, fun σ2 w2 e2 => k σ2 w2 fun zs hz => (e2 zs fun i hi => hz i (List.mem_append_right _ hi)).trans (e1 zs fun i hi => hz i (List.mem_append_left _ hi))⟩⟩
        | none =>
          rw [h1] at e
          cases e
      · cases e
def agTup (gs : AGs) (d : D) (Γ : Gm) : Option Gm := match d with
  | .tup ds => gs ds Γ
  | _ => none
def agLst (gs : AGs) (d : D) (Γ : Gm) : Option Gm := match d with
  | .lst ds => gs ds Γ
  | _ => none
/-- the number of items is told by success -/
def AGs.Fix (gs : AGs) (n : Nat) : Prop := ∀ ds Γ Γ', gs ds Γ = some Γ' → ds.length = n
theorem fix_nil : AGs.Fix agNil 0 := fun ds Γ Γ' h => by
  cases ds with
  | nil => rfl
  | cons _ _ => cases h
theorem fix_cons {g : AG} {gs : AGs} {n : Nat} (h : AGs.Fix gs n) : AGs.Fix (agCons g gs) (n + 1) := fun ds Γ Γ' e => by
  cases ds with
  | nil => cases e
  | cons d ds =>
    unfold agCons at e
    split at e
    · rename_i d' ds' hds
      cases hds
      cases h1 : g d Γ with
      | some Γ1 =>
        rw [h1] at e
        exact congrArg (· + 1) (h ds _ _ e)
      | none =>
        rw [h1] at e
        cases e
    · cases e
theorem dg_tup {k : Nat} {n : Nat} {vs : List Nat} {gs : AGs} (hc : X.calm = true) (h : DGs X es n vs gs) (hfx : AGs.Fix gs n)
    (hn : (assignEach es X.env).length = n := by rfl) (hst : (assignEach es X.env).findIdx? (·.1) = none := by rfl) : DG X (.Tuple es k pos) vs (agTup gs) :=
  pg_imp (pg_tup hc h hn hst) fun v σ H Q ⟨F, d, Γ, Γ', w, s, i1, e, k⟩ => by
    unfold agTup at e
    split at e
    · rename_i ds
      cases i1 with
      | tup hq hl =>
        have hlen := hfx ds Γ Γ' e
        exact ⟨_, _, rfl, same_t s hq, hl.length.trans hlen, F, ds, Γ, Γ', w, s, hl, e, hlen, k⟩
    · cases e
theorem dg_lst {k : Nat} {n : Nat} {vs : List Nat} {gs : AGs} (hc : X.calm = true) (h : DGs X es n vs gs) (hfx : AGs.Fix gs n)
    (hn : (assignEach es X.env).length = n := by rfl) (hst : (assignEach es X.env).findIdx? (·.1) = none := by rfl) : DG X (.Tuple es k pos) vs (agLst gs) :=
  pg_imp (pg_lst hc h hn hst) fun v σ H Q ⟨F, d, Γ, Γ', w, s, i1, e, k⟩ => by
    unfold agLst at e
    split at e
    · rename_i ds
      cases i1 with
      | lst hq hl =>
        have hlen := hfx ds Γ Γ' e
        exact ⟨_, _, rfl, s.seq hq, hl.length.trans hlen, F, ds, Γ, Γ', w, s, hl, e, hlen, k⟩
    · cases e
/-- target = e -/
def onGm (o : Option Gm) (k : Gm → Prop) : Prop := match o with
  | some Γ => k Γ
  | none => False
def aAsg_k (g : AG) (A : AEnds) (Γ : Gm) (d : D) (M1 : Mm) : Prop := onGm (g d Γ) fun Γ' => A.nx Γ' M1
def aAsg (ta : AE) (g : AG) (A : AEnds) (Γ : Gm) (M : Mm) : Prop := ta Γ M fun d M1 => aAsg_k g A Γ d M1
theorem ds_asg {tg : Expr} {vs : List Nat} {g : AG} (he : DE X T e ta) (hg : DG X tg vs g) (hs : swapsWithSole [tg] e pos.line X.env = pure false := by rfl) (hw : swappedStores [tg] e X.env = pure none := by rfl)
    (h1 : (assignEach [tg] X.env).map (·.2) = [assign tg X.env] := by rfl) : DS X T (.Assign [tg] e pos) (aAsg ta g) :=
  ds_of (ps_asg he hg hs hw h1) fun F σ H Γ M A D w q m => cE_mk w q fun d M1 v F1 H1 s1 h1 i1 q1 => by
    (first | split at q1 | (unfold aAsg_k onGm at q1; split at q1) | (unfold aSetIx_k at q1; split at q1) | (unfold aItS_k at q1; split at q1) | (unfold aRng1_k at q1; split at q1) | (unfold aRng2_k at q1; split at q1))
    · rename_i Γ' hg
      exact ⟨F1, d, Γ, Γ', w.v.mono s1, h1.sub, i1, hg, fun σ' w' _ => m.nx Γ' M1 σ' F1 H1 s1 w' h1 q1⟩
    · exact q1.elim
/-- o[i] = e, a mutable list -/
def ixN' (n : Nat) (i : Int) : Option Nat := ixN n i
def aSetIx_k (A : AEnds) (Γ : Gm) (d : D) (o : D) (i : D) (M3 : Mm) : Prop := match o, i with
  | .ref l, .int k => ∃ xs j M4, ixN xs.length k = some j ∧ Up M3 l (.lst xs) (.lst (xs.set j d)) M4 ∧ A.nx Γ M4
  | _, _ => False
def aSetIx (ta to ti : AE) (A : AEnds) (Γ : Gm) (M : Mm) : Prop := ta Γ M fun d M1 => to Γ M1 fun o M2 => ti Γ M2 fun i M3 => aSetIx_k A Γ d o i M3
theorem hs_setL {l : Addr} {xs : List D} {j : Nat} {v : V} {d : D} {M4 : Mm} (h : Hs K B M F H) (i : Is K F v d) (u : Up M l (.lst xs) (.lst (xs.set j d)) M4) : ∃ vs, H l = some (.lst vs) ∧ IsL K F vs xs ∧ Hs K B M4 F (upd H l (.lst (vs.set j v))) := by
  obtain ⟨vs, e, z⟩ := h.lst u.mem
  exact ⟨vs, e, z, h.put u ⟨_, upd_same, z.set i j⟩⟩
theorem ds_setIx {o i : Expr} {to ti : AE} {tpos : Pos} (he : DE X T e ta) (ho : DE X T o to) (hi : DE X T i ti)
    (ha : ∀ v, assign (.Subscript o i tpos) X.env v = (do
      let ov ← holding [v] (eval o X.env)
      let iv ← holding [v, ov] (eval i X.env)
      standAt tpos
      holding [v, ov, iv] (setItem ov iv v)
      release [v, ov, iv] []) := by intro _; rfl)
    (hs : swapsWithSole [.Subscript o i tpos] e pos.line X.env = pure false := by rfl) (hw : swappedStores [.Subscript o i tpos] e X.env = pure none := by rfl)
    (h1 : (assignEach [.Subscript o i tpos] X.env).map (·.2) = [assign (.Subscript o i tpos) X.env] := by rfl) : DS X T (.Assign [.Subscript o i tpos] e pos) (aSetIx ta to ti) :=
  ds_of (ps_asg he (pg_sub ho hi set_list ha) hs hw h1) fun F σ H Γ M A D w q m => cE_mk w q fun d M1 v F1 H1 s1 h1 i1 q1 => cE_mk (w.go s1 h1) q1 fun o M2 ov F2 H2 s2 h2 i2 q2 => cE_mk ((w.go s1 h1).go s2 h2) q2 fun k M3 kv F3 H3 s3 h3 i3 q3 => by
    (first | split at q3 | (unfold aAsg_k onGm at q3; split at q3) | (unfold aSetIx_k at q3; split at q3) | (unfold aItS_k at q3; split at q3) | (unfold aRng1_k at q3; split at q3) | (unfold aRng2_k at q3; split at q3))
    · rename_i l k
      obtain ⟨xs, j, M4, e1, u, q3⟩ := q3
      cases i2
      cases i3
      obtain ⟨vs, e2, z, h4⟩ := hs_setL h3 (i1.mono (s2.trans s3)) u
      exact ⟨l, vs, k, j, rfl, rfl, e2, by rw [z.length]; exact e1, m.nx Γ M4 σ F3 _ ((s1.trans s2).trans s3) (w.v.mono ((s1.trans s2).trans s3)) h4 q3⟩
    · exact q3.elim

/-! ### while -/
def aWhile (t : AT) (tb : AS) (A : AEnds) (Γ : Gm) (M : Mm) : Prop := ∃ I : Nat → Gm → Mm → Prop, (∃ n, I n Γ M) ∧ ∀ n Γ' M', I n Γ' M' → t Γ' M' fun b M1 => (b = true → tb { nx := fun Γ2 M2 => ∃ m, m < n ∧ I m Γ2 M2, rt := A.rt, bk := A.nx, ct := fun Γ2 M2 => ∃ m, m < n ∧ I m Γ2 M2 } Γ' M1) ∧ (b = false → A.nx Γ' M1)
theorem ds_while {body : List Stmt} {tb : AS} (hp : PassesOwn (model X.prog X.w) X.A X.env X.xe) (hc : DT X T c tA) (hb : DSs X T body tb) : DS X T (.While c body [] pos) (aWhile tA tb) :=
  ds_of (ps_while hp hc hb) fun F σ H Γ M A D w q m => by
    obtain ⟨I, ⟨n, i0⟩, turn⟩ := q
    refine ⟨fun n σ' H' => ∃ F' Γ' M', Same F F' ∧ Vw X.K F' σ' Γ' ∧ Hs X.K T.B M' F' H' ∧ I n Γ' M', ⟨n, F, Γ, M, Same.refl F, w.v, w.h, i0⟩, ?_⟩
    rintro n σ' H' ⟨F', Γ', M', s', v', h', i'⟩
    have w' : See X.K T F' σ' H' Γ' M' := ⟨v', h', w.l.mono s'⟩
    refine cT_mk w' (turn n Γ' M' i') fun b M1 F1 H1 s1 h1 q1 => ?_
    cases b with
    | true =>
      rw [if_pos rfl]
      refine ⟨fun σ2 H2 => ∃ m, m < n ∧ ∃ F' Γ' M', Same F F' ∧ Vw X.K F' σ2 Γ' ∧ Hs X.K T.B M' F' H2 ∧ I m Γ' M', fun σ2 H2 z => z, ?_⟩
      refine cS_mk (w'.go s1 h1) (q1.1 rfl) ⟨fun Γ2 M2 σ2 F2 H2 s2 v2 h2 ⟨m, hm, im⟩ => ⟨m, hm, F2, Γ2, M2, (s'.trans s1).trans s2, v2, h2, im⟩, fun d M2 v F2 H2 s2 => m.rt d M2 v F2 H2 ((s'.trans s1).trans s2), fun Γ2 M2 σ2 F2 H2 s2 => m.nx Γ2 M2 σ2 F2 H2 ((s'.trans s1).trans s2), fun Γ2 M2 σ2 F2 H2 s2 v2 h2 ⟨m, hm, im⟩ => ⟨m, hm, F2, Γ2, M2, (s'.trans s1).trans s2, v2, h2, im⟩⟩
    | false =>
      rw [if_neg Bool.false_ne_true]
      exact m.nx Γ' M1 σ' F1 H1 (s'.trans s1) (v'.mono s1) h1 (q1.2 rfl)

/-! ### what is walked -/
def Walks (K : PySem.W.Frag) (B : Bx) (J : It) (F : Hp) (ds : List D) : Prop := ∀ i F' H' M', Same F F' → Hs K B M' F' H' → i ≤ ds.length →
  (∀ d, ds[i]? = some d → J.go i H' ∧ ∀ x H'', J.yld i H' x H'' → ∃ F'', Same F' F'' ∧ Hs K B M' F'' H'' ∧ Is K F'' x d) ∧ (i = ds.length → J.stop i H')
abbrev AI := Gm → Mm → (List D → Mm → Prop) → Prop
def cI (K : PySem.W.Frag) (T : Ct) (ai : AI) : TI := fun σ H R => ∃ F Γ M Φ, See K T F σ H Γ M ∧ ai Γ M Φ ∧ ∀ ds M' J F' H', Same F F' → Hs K T.B M' F' H' → Walks K T.B J F' ds → Φ ds M' → R J H'
def DI (X : Cx) (T : Ct) (tg e : Expr) (ai : AI) : Prop := PI X tg e (cI X.K T ai)
theorem di_of {tg e : Expr} {wi : TI} {ai : AI} (h : PI X tg e wi) (k : ∀ F σ H Γ M Φ R, See X.K T F σ H Γ M → ai Γ M Φ → (∀ ds M' J F' H', Same F F' → Hs X.K T.B M' F' H' → Walks X.K T.B J F' ds → Φ ds M' → R J H') → wi σ H R) : DI X T tg e ai :=
  ⟨fun pins s σ H R I ⟨F, Γ, M, Φ, w, q, z⟩ => h.run pins s σ H R I (k F σ H Γ M Φ R w q z)⟩
theorem walks_list {l : Addr} {vs : List V} {ds : List D} (h : SqL K F l vs) (z : IsL K F vs ds) : Walks K B (Itl K l) F ds := fun i F' H' M' s h' hi =>
  have q : SqL K H' l vs := h'.sub.seq (s.seq h)
  ⟨fun d hd => by
    obtain ⟨v, e, iv⟩ := z.get hd
    exact ⟨⟨vs, v, q, e⟩, fun x H'' y => by
      obtain ⟨e1, y⟩ := y
      subst e1
      have ex : x = v := Option.some.inj ((y vs q).symm.trans e)
      subst ex
      exact ⟨F', Same.refl F', h', iv.mono s⟩⟩, fun e => ⟨vs, q, by rw [z.length, e]; exact Nat.le_refl _⟩⟩
theorem walks_tup {l : Addr} {vs : List V} {ds : List D} (h : SqT K F l vs) (z : IsL K F vs ds) : Walks K B (Itt K l) F ds := fun i F' H' M' s h' hi =>
  have q : SqT K H' l vs := same_t h'.sub (same_t s h)
  ⟨fun d hd => by
    obtain ⟨v, e, iv⟩ := z.get hd
    exact ⟨⟨vs, v, q, e⟩, fun x H'' y => by
      obtain ⟨e1, y⟩ := y
      subst e1
      have ex : x = v := Option.some.inj ((y vs q).symm.trans e)
      subst ex
      exact ⟨F', Same.refl F', h', iv.mono s⟩⟩, fun e => ⟨vs, q, by rw [z.length, e]; exact Nat.le_refl _⟩⟩
def rngD (lo : Int) (n : Nat) : List D := (List.range n).map fun i => .int (lo + (i : Nat))
theorem rngD_len (lo : Int) (n : Nat) : (rngD lo n).length = n := by unfold rngD; rw [List.length_map, List.length_range]
theorem rngD_get {lo : Int} {n i : Nat} {d : D} (h : (rngD lo n)[i]? = some d) : i < n ∧ d = .int (lo + (i : Nat)) := by
  unfold rngD at h
  rw [List.getElem?_map] at h
  by_cases hi : i < n
  · rw [List.getElem?_range hi] at h
    cases h
    exact ⟨hi, rfl⟩
  · rw [List.getElem?_eq_none (by rw [List.length_range]; omega)] at h
    cases h
theorem walks_rng {lo : Int} {n : Nat} : Walks K B (Itr lo n) F (rngD lo n) := fun i F' H' M' s h' hi =>
  ⟨fun d hd => by
    obtain ⟨h1, rfl⟩ := rngD_get hd
    exact ⟨h1, fun x H'' y => by
      obtain ⟨e1, e2⟩ := y
      subst e1 e2
      exact ⟨F', Same.refl F', h', .int _⟩⟩, fun e => by
    rw [rngD_len] at e
    subst e
    exact Nat.le_refl _⟩
/-- a list or a tuple -/
def aItS_k (Φ : List D → Mm → Prop)  (d : D) (M1 : Mm) : Prop := match d with
  | .lst ds => Φ ds M1
  | .tup ds => Φ ds M1
  | _ => False
def aItS (ta : AE) (Γ : Gm) (M : Mm) (Φ : List D → Mm → Prop) : Prop := ta Γ M fun d M1 => aItS_k Φ d M1
theorem pi_or {tg e : Expr} {w1 w2 : TI} (h1 : PI X tg e w1) (h2 : PI X tg e w2) : PI X tg e (fun σ H R => w1 σ H R ∨ w2 σ H R) := ⟨fun pins s σ H R I q => q.elim (h1.run pins s σ H R I) (h2.run pins s σ H R I)⟩
/-- an expression that is a list or a tuple, walked -/
def tEither (K : PySem.W.Frag) (te : TE) : TI := fun σ H R => te σ H fun x H1 => ∃ a, x = .ref a ∧ (((∃ xs, SqL K H1 a xs) ∧ R (Itl K a) H1) ∨ ((∃ xs, SqT K H1 a xs) ∧ R (Itt K a) H1))
theorem pi_either {tg e : Expr} {te : TE} (he : PE X e te) : PI X tg e (tEither X.K te) := by
  refine ⟨fun pins s σ H R I h => ?_⟩
  refine thn (he.run pins s σ H _ I h) fun v s1 ⟨x, H1, I1, r1, q1⟩ => ?_
  obtain ⟨a, e, q⟩ := q1
  subst e
  cases r1
  rcases q with ⟨⟨xs, hq⟩, q⟩ | ⟨⟨xs, hq⟩, q⟩
  · obtain ⟨its, rv, p, hz⟩ := I1.list hq
    refine wpAny_pyIter_list p.isList ?_
    refine ⟨s1.heap.objs.size, [s1.heap.objs.size], _, _, H1, rfl, I1.kept (t' := s1.toks) fun b o e => Heap.get?_push_of_some _ e, turn_list a _, ⟨_, Heap.get?_push_size _ rfl, rfl, rfl⟩, fun b hb => ?_, q⟩
    have e : b = s1.heap.objs.size := by simpa using hb
    subst e
    exact I1.fpOk (Nat.le_refl _) (I1.hok.fresh (Nat.le_refl _))
  · obtain ⟨its, rv, p, hz⟩ := I1.tuple hq
    refine wpAny_pyIter_tuple (show s1.heap.IsTuple a its.toArray from p) ?_
    refine ⟨s1.heap.objs.size, [s1.heap.objs.size], _, _, H1, rfl, I1.kept (t' := s1.toks) fun b o e => Heap.get?_push_of_some _ e, turn_tuple a _, ⟨_, Heap.get?_push_size _ rfl, rfl, rfl⟩, fun b hb => ?_, q⟩
    have e : b = s1.heap.objs.size := by simpa using hb
    subst e
    exact I1.fpOk (Nat.le_refl _) (I1.hok.fresh (Nat.le_refl _))
theorem di_seq {tg : Expr} (h : DE X T e ta) : DI X T tg e (aItS ta) :=
  di_of (pi_either h) fun F σ H Γ M Φ R w q z => cE_mk w q fun d M1 x F1 H1 s1 h1 i1 q1 => by
    cases d with
    | lst ds =>
      cases i1 with
      | lst hq hl => exact ⟨_, rfl, .inl ⟨⟨_, h1.sub.seq hq⟩, z ds M1 _ F1 H1 s1 h1 (walks_list hq hl) q1⟩⟩
    | tup ds =>
      cases i1 with
      | tup hq hl => exact ⟨_, rfl, .inr ⟨⟨_, same_t h1.sub hq⟩, z ds M1 _ F1 H1 s1 h1 (walks_tup hq hl) q1⟩⟩
    | _ => exact q1.elim
def aRng1_k (Φ : List D → Mm → Prop)  (ds : List D) (M1 : Mm) : Prop := match ds with
  | [.int j] => (-4611686018427387904 ≤ j ∧ j < 4611686018427387904) ∧ Φ (rngD 0 j.toNat) M1
  | _ => False
def aRng1 (tr : AA) (Γ : Gm) (M : Mm) (Φ : List D → Mm → Prop) : Prop := tr Γ M fun ds M1 => aRng1_k Φ ds M1
def aRng2_k (Φ : List D → Mm → Prop)  (ds : List D) (M1 : Mm) : Prop := match ds with
  | [.int i, .int j] => (-4611686018427387904 ≤ i ∧ i < 4611686018427387904 ∧ -4611686018427387904 ≤ j ∧ j < 4611686018427387904) ∧ Φ (rngD i (j - i).toNat) M1
  | _ => False
def aRng2 (tr : AA) (Γ : Gm) (M : Mm) (Φ : List D → Mm → Prop) : Prop := tr Γ M fun ds M1 => aRng2_k Φ ds M1
theorem di_rng2 {tg a b : Expr} {p : Pos} (hg : Gl X "range") (hm : X.mg "range" = none) (ha : DA X T [a, b] tr) (hs : starEach [a, b] X.env = [(false, eval a X.env), (false, eval b X.env)] := by rfl) (hs2 : starEach [b] X.env = [(false, eval b X.env)] := by rfl) :
    DI X T tg (.Call (.Name "range" p) [a, b] [] pos) (aRng2 tr) :=
  di_of (pi_range2 hg hm ha hs hs2) fun F σ H Γ M Φ R w q z => cA_mk w q fun ds M1 vs F1 H1 s1 h1 i1 q1 => by
    match ds, i1, q1 with
    | [.int i, .int j], .cons k1 (.cons k2 .nil), q1 =>
      cases k1
      cases k2
      exact ⟨i, j, rfl, by obtain ⟨⟨q1, q2, q3, q4⟩, _⟩ := q1; exact ⟨by omega, by omega, by omega, by omega⟩, z _ M1 _ F1 H1 s1 h1 walks_rng q1.2⟩
theorem di_rng1 {tg a : Expr} {p : Pos} (hg : Gl X "range") (hm : X.mg "range" = none) (ha : DA X T [a] tr) (hs : starEach [a] X.env = [(false, eval a X.env)] := by rfl) :
    DI X T tg (.Call (.Name "range" p) [a] [] pos) (aRng1 tr) :=
  di_of (pi_range1 hg hm ha hs) fun F σ H Γ M Φ R w q z => cA_mk w q fun ds M1 vs F1 H1 s1 h1 i1 q1 => by
    match ds, i1, q1 with
    | [.int j], .cons k1 .nil, q1 =>
      cases k1
      exact ⟨j, rfl, by have := q1.1; omega, by have := q1.1; omega, z _ M1 _ F1 H1 s1 h1 walks_rng q1.2⟩

end
end DL

set_option Elab.async false
set_option linter.all false
set_option maxRecDepth 100000
set_option maxHeartbeats 2000000
namespace DL
open PySem L2
open RZ (ItzT pi_zipA)

section
variable {X : Cx} {T : Ct} {e a b c : Expr} {pos : Pos} {K : PySem.W.Frag} {F F' F1 H H' H1 : Hp} {σ : St} {Γ : Gm} {M M' : Mm} {ta tb tc : AE} {tA tB : AT} {es : List Expr} {tr : AA} {B : Bx} {st : Stmt} {rest sts : List Stmt} {t u : AS}
/-- new pairs -/
theorem walks_pair {J : It} {G : Hp → Prop} {xs ys : Nat → Option V} {ds : List D} (w : Walk J ds.length G (YPair xs ys)) (hG : ∀ F' M' H', Same F F' → Hs K B M' F' H' → G H')
    (hd : ∀ (i : Nat) d, ds[i]? = some d → ∃ p q, d = .tup [p, q] ∧ ∀ x y, xs i = some x → ys i = some y → Is K F x p ∧ Is K F y q) : Walks K B J F ds := fun i F' H' M' s h' hi =>
  have g := hG F' M' H' s h'
  ⟨fun d hdd => by
    have hlt : i < ds.length := (List.getElem?_eq_some_iff.mp hdd).1
    obtain ⟨p, q, rfl, hpq⟩ := hd i d hdd
    refine ⟨w.goes i H' hlt g, fun x H'' y => ?_⟩
    obtain ⟨T, x1, y1, rfl, hT, rfl, e1, e2⟩ := w.yields i H' x H'' hlt g y
    obtain ⟨i1, i2⟩ := hpq x1 y1 e1 e2
    have nT := h'.free hT
    exact ⟨_, upd_same_ext nT, h'.laid hT, .tup (.inl (.inl upd_same)) (.cons ((i1.mono s).mono (upd_same_ext nT)) (.cons ((i2.mono s).mono (upd_same_ext nT)) .nil))⟩, fun e => by
    subst e
    exact w.stops H' g⟩
def enumD (ds : List D) : List D := (List.range ds.length).zipWith (fun i d => .tup [.int (i : Nat), d]) ds
theorem enumD_len (ds : List D) : (enumD ds).length = ds.length := by unfold enumD; rw [List.length_zipWith, List.length_range, Nat.min_self]
theorem enumD_get {ds : List D} {i : Nat} {d : D} (h : (enumD ds)[i]? = some d) : ∃ x, ds[i]? = some x ∧ d = .tup [.int (i : Nat), x] := by
  unfold enumD at h
  rw [List.getElem?_zipWith] at h
  by_cases hi : i < ds.length
  · rw [List.getElem?_range hi, List.getElem?_eq_getElem hi] at h
    exact ⟨ds[i], List.getElem?_eq_getElem hi, (Option.some.inj h).symm⟩
  · rw [List.getElem?_eq_none (by rw [List.length_range]; omega)] at h
    simp at h
theorem walks_enum {l : Addr} {vs : List V} {ds : List D} (h : SqL K F l vs) (z : IsL K F vs ds) : Walks K B (Ite K l) F (enumD ds) := by
  have w := walk_enum (K := K) (a := l) (xs := vs)
  rw [z.length, ← enumD_len ds] at w
  refine walks_pair w (fun F' M' H' s h' => h'.sub.seq (s.seq h)) fun i d hd => ?_
  obtain ⟨x, hx, rfl⟩ := enumD_get hd
  refine ⟨_, _, rfl, fun p q hp hq => ?_⟩
  cases hp
  obtain ⟨v, e, iv⟩ := z.get hx
  rw [show vs[i]? = some q from hq] at e
  cases e
  exact ⟨.int _, iv⟩
def aEnum_k (Φ : List D → Mm → Prop)  (ds : List D) (M1 : Mm) : Prop := match ds with
  | [.lst xs] => Φ (enumD xs) M1
  | _ => False
def aEnum (tr : AA) (Γ : Gm) (M : Mm) (Φ : List D → Mm → Prop) : Prop := tr Γ M fun ds M1 => aEnum_k Φ ds M1
theorem di_enum {p tpos : Pos} {elts : List Expr} {kk : Nat} (hg : Gl X "enumerate") (hm : X.mg "enumerate" = none) (ha : DA X T [e] tr) (hs : starEach [e] X.env = [(false, eval e X.env)] := by rfl) :
    DI X T (.Tuple elts kk tpos) (.Call (.Name "enumerate" p) [e] [] pos) (aEnum tr) :=
  di_of (pi_enum hg hm ha hs) fun F σ H Γ M Φ R w q z => cA_mk w q fun ds M1 vs F1 H1 s1 h1 i1 q1 => by
    match ds, i1, q1 with
    | [.lst xs], .cons k1 .nil, q1 =>
      cases k1 with
      | lst hq hl => exact ⟨_, _, rfl, h1.sub.seq hq, z _ M1 _ F1 H1 s1 h1 (walks_enum hq hl) q1⟩
def zipD (xs ys : List D) : List D := xs.zipWith (fun x y => .tup [x, y]) ys
theorem zipD_get {xs ys : List D} {i : Nat} {d : D} (h : (zipD xs ys)[i]? = some d) : ∃ x y, xs[i]? = some x ∧ ys[i]? = some y ∧ d = .tup [x, y] := by
  unfold zipD at h
  rw [List.getElem?_zipWith] at h
  split at h
  · rename_i x y hx hy
    exact ⟨x, y, hx, hy, (Option.some.inj h).symm⟩
  · cases h
theorem walks_zipL {l m : Addr} {vs ws : List V} {xs ys : List D} (h : SqL K F l vs) (z : IsL K F vs xs) (h2 : SqL K F m ws) (z2 : IsL K F ws ys) : Walks K B (Itz K l m) F (zipD xs ys) := by
  have w := walk_zip (K := K) (a := l) (b := m) (xs := vs) (ys := ws) (n := (zipD xs ys).length) (by unfold zipD; rw [List.length_zipWith, z.length, z2.length])
  refine walks_pair w (fun F' M' H' s h' => ⟨h'.sub.seq (s.seq h), h'.sub.seq (s.seq h2)⟩) fun i d hd => ?_
  obtain ⟨x, y, hx, hy, rfl⟩ := zipD_get hd
  refine ⟨_, _, rfl, fun p q hp hq => ?_⟩
  obtain ⟨v, e, iv⟩ := z.get hx
  obtain ⟨v', e', iv'⟩ := z2.get hy
  rw [show vs[i]? = some p from hp] at e
  rw [show ws[i]? = some q from hq] at e'
  cases e
  cases e'
  exact ⟨iv, iv'⟩
theorem walk_zipT' {a b : Addr} {xs ys : List V} {n : Nat} (hn : n = min xs.length ys.length) : Walk (ItzT K a b) n (fun H => SqT K H a xs ∧ SqT K H b ys) (YPair (fun i => xs[i]?) (fun i => ys[i]?)) := by
  subst hn
  refine ⟨fun i _ hi q => ?_, fun _ q => ⟨xs, ys, q.1, q.2, by omega⟩, fun i H v H' _ q y => ?_⟩
  · have h1 : i < xs.length := by omega
    have h2 : i < ys.length := by omega
    exact ⟨xs, ys, xs[i], ys[i], q.1, q.2, by simp [h1], by simp [h2]⟩
  · obtain ⟨T, x, z, h1, h2, h3, h4, h5⟩ := y
    exact ⟨T, x, z, h1, h2, h3, h4 xs q.1, h5 ys q.2⟩
theorem walks_zipT {l m : Addr} {vs ws : List V} {xs ys : List D} (h : SqT K F l vs) (z : IsL K F vs xs) (h2 : SqT K F m ws) (z2 : IsL K F ws ys) : Walks K B (ItzT K l m) F (zipD xs ys) := by
  have w := walk_zipT' (K := K) (a := l) (b := m) (xs := vs) (ys := ws) (n := (zipD xs ys).length) (by unfold zipD; rw [List.length_zipWith, z.length, z2.length])
  refine walks_pair w (fun F' M' H' s h' => ⟨same_t h'.sub (same_t s h), same_t h'.sub (same_t s h2)⟩) fun i d hd => ?_
  obtain ⟨x, y, hx, hy, rfl⟩ := zipD_get hd
  refine ⟨_, _, rfl, fun p q hp hq => ?_⟩
  obtain ⟨v, e, iv⟩ := z.get hx
  obtain ⟨v', e', iv'⟩ := z2.get hy
  rw [show vs[i]? = some p from hp] at e
  rw [show ws[i]? = some q from hq] at e'
  cases e
  cases e'
  exact ⟨iv, iv'⟩
def aZip_k (Φ : List D → Mm → Prop)  (ds : List D) (M1 : Mm) : Prop := match ds with
  | [.lst xs, .lst ys] => Φ (zipD xs ys) M1
  | [.tup xs, .tup ys] => Φ (zipD xs ys) M1
  | _ => False
def aZip (tr : AA) (Γ : Gm) (M : Mm) (Φ : List D → Mm → Prop) : Prop := tr Γ M fun ds M1 => aZip_k Φ ds M1
theorem di_zip {e2 : Expr} {p tpos : Pos} {elts : List Expr} {kk : Nat} (hg : Gl X "zip") (hm : X.mg "zip" = none) (ha : DA X T [e, e2] tr)
    (hs : starEach [e, e2] X.env = (false, eval e X.env) :: starEach [e2] X.env := by rfl) (hpl : (backTo pos (starEach [e2] X.env)).any (·.1) = false := by rfl) :
    DI X T (.Tuple elts kk tpos) (.Call (.Name "zip" p) [e, e2] [] pos) (aZip tr) :=
  di_of (pi_zipA hg hm ha hs hpl) fun F σ H Γ M Φ R w q z => cA_mk w q fun ds M1 vs F1 H1 s1 h1 i1 q1 => by
    match ds, i1, q1 with
    | [.lst xs, .lst ys], .cons k1 (.cons k2 .nil), q1 =>
      cases k1 with
      | lst hq hl =>
        cases k2 with
        | lst hq2 hl2 => exact ⟨_, _, _, _, rfl, .inl ⟨h1.sub.seq hq, h1.sub.seq hq2, z _ M1 _ F1 H1 s1 h1 (walks_zipL hq hl hq2 hl2) q1⟩⟩
    | [.tup xs, .tup ys], .cons k1 (.cons k2 .nil), q1 =>
      cases k1 with
      | tup hq hl =>
        cases k2 with
        | tup hq2 hl2 => exact ⟨_, _, _, _, rfl, .inr ⟨same_t h1.sub hq, same_t h1.sub hq2, z _ M1 _ F1 H1 s1 h1 (walks_zipT hq hl hq2 hl2) q1⟩⟩

/-! ### for -/
def aFor (ai : AI) (g : AG) (tb : AS) (A : AEnds) (Γ : Gm) (M : Mm) : Prop := ai Γ M fun ds M1 => ∃ I : Nat → Gm → Mm → Prop, I 0 Γ M1 ∧
  (∀ i d Γ' M', ds[i]? = some d → I i Γ' M' → match g d Γ' with
    | some Γ2 => tb { nx := I (i + 1), rt := A.rt, bk := A.nx, ct := I (i + 1) } Γ2 M'
    | none => False) ∧
  ∀ Γ' M', I ds.length Γ' M' → A.nx Γ' M'
theorem ds_for {tg iter : Expr} {body : List Stmt} {ai : AI} {vs : List Nat} {g : AG} {tb : AS} (hp : PassesOwn (model X.prog X.w) X.A X.env X.xe) (hc : X.calm = true) (hi : DI X T tg iter ai) (hg : DG X tg vs g) (hb : DSs X T body tb)
    (hs : ∀ x, foldedSetIterable iter X.env x = pure x := by intro _; rfl) : DS X T (.For tg iter body [] pos) (aFor ai g tb) :=
  ds_of (ps_for hp hc hi hg hb hs) fun F σ H Γ M A D w q m => ⟨F, Γ, M, _, w, q, fun ds M1 J F1 H1 s1 h1 wk q1 => by
    obtain ⟨I, i0, turn, fin⟩ := q1
    refine ⟨fun i n σ' H' => n = ds.length - i ∧ i ≤ ds.length ∧ ∃ F' Γ' M', Same F1 F' ∧ Vw X.K F' σ' Γ' ∧ Hs X.K T.B M' F' H' ∧ I i Γ' M', ⟨ds.length, by simp, Nat.zero_le _, F1, Γ, M1, Same.refl F1, w.v.mono s1, h1, i0⟩, ?_⟩
    rintro i n σ' H' ⟨rfl, hi, F', Γ', M', s', v', h', i'⟩
    obtain ⟨go, stop⟩ := wk i F' H' M' s' h' hi
    by_cases hlt : i < ds.length
    · obtain ⟨g1, g2⟩ := go ds[i] (List.getElem?_eq_getElem hlt)
      refine .inr ⟨g1, fun σ2 H2 => ∃ F' Γ' M', Same F1 F' ∧ Vw X.K F' σ2 Γ' ∧ Hs X.K T.B M' F' H2 ∧ I (i + 1) Γ' M', fun σ2 H2 z => ⟨ds.length - (i + 1), by omega, rfl, hlt, z⟩, fun x H2 y => ?_⟩
      obtain ⟨F2, s2, h2, ix⟩ := g2 x H2 y
      have t := turn i ds[i] Γ' M' (List.getElem?_eq_getElem hlt) i'
      split at t
      · rename_i Γ2 hg2
        refine ⟨F2, ds[i], Γ', Γ2, v'.mono s2, h2.sub, ix, hg2, fun σ3 v3 _ => cS_mk (T := T) ⟨v3, h2, w.l.mono ((s1.trans s').trans s2)⟩ t ⟨?_, ?_, ?_, ?_⟩⟩
        · exact fun Γ4 M4 σ4 F4 H4 s4 v4 h4 q4 => ⟨F4, Γ4, M4, (s'.trans s2).trans s4, v4, h4, q4⟩
        · exact fun d M4 v F4 H4 s4 => m.rt d M4 v F4 H4 (((s1.trans s').trans s2).trans s4)
        · exact fun Γ4 M4 σ4 F4 H4 s4 => m.nx Γ4 M4 σ4 F4 H4 (((s1.trans s').trans s2).trans s4)
        · exact fun Γ4 M4 σ4 F4 H4 s4 v4 h4 q4 => ⟨F4, Γ4, M4, (s'.trans s2).trans s4, v4, h4, q4⟩
      · exact t.elim
    · have e : i = ds.length := by omega
      subst e
      exact .inl ⟨stop rfl, m.nx Γ' M' σ' F' H' (s1.trans s') v' h' (fin Γ' M' i')⟩⟩

/-! ### list comprehensions -/
def aYes (Γ : Gm) (M : Mm) (Φ : Bool → Mm → Prop) : Prop := Φ true M
/-- ai: the source; g: the target; l: the list under way, seen as one more mutable object -/
def aLc (ai : AI) (g : AG) (tt : AT) (te : AE) (vs : List Nat) (Γ : Gm) (M : Mm) (Φ : AK) : Prop := ai Γ M fun ds M1 => ds.length ≤ 100000 ∧ ∃ I : Nat → List D → Mm → Prop, I 0 [] M1 ∧
  (∀ i d acc M' l, ds[i]? = some d → I i acc M' → match g d (wipeG Γ vs) with
    | some Γ2 => tt Γ2 ((l, .lst acc) :: M') fun b M2 => (b = true → te Γ2 M2 fun y M3 => ∃ M4, Dl M3 l (.lst acc) M4 ∧ I (i + 1) (acc ++ [y]) M4) ∧ (b = false → ∃ M4, Dl M2 l (.lst acc) M4 ∧ I (i + 1) acc M4)
    | none => False) ∧
  ∀ acc M', I ds.length acc M' → acc.length ≤ ds.length → Φ (.lst acc) M'
theorem Hs.redo {a : Addr} {o o' : MO} {u : HO} {M4 : Mm} (h : Hs K B M F H) (d : Dl M a o M4) (m : MOk K F (upd H a u) a o') : Hs K B ((a, o') :: M4) F (upd H a u) := by
  obtain ⟨m1, m2, m3⟩ := h.mem _ d.mem
  have ne := d.ne h.nd
  refine ⟨fun b v q => ?_, fun q hq => ?_, ?_, box_upd m2 h.box, h.bfr⟩
  · rw [upd_ne (ne_of_none q m1)]
    exact h.sub b v q
  · rcases List.mem_cons.mp hq with e | hq
    · subst e
      exact ⟨m1, m2, m⟩
    · obtain ⟨k1, k2, k3⟩ := h.mem q (d.sub.subset hq)
      exact ⟨k1, k2, k3.at (upd_ne (ne q hq))⟩
  · rw [List.map_cons, List.nodup_cons]
    refine ⟨fun hm => ?_, h.nd.sublist (d.sub.map _)⟩
    obtain ⟨q, hq, e⟩ := List.mem_map.mp hm
    exact ne q hq e
theorem Hs.front {a : Addr} {o : MO} {M4 : Mm} (h : Hs K B M F H) (d : Dl M a o M4) : Hs K B ((a, o) :: M4) F H := by
  have ne := d.ne h.nd
  refine ⟨h.sub, fun q hq => ?_, ?_, h.box, h.bfr⟩
  · rcases List.mem_cons.mp hq with e | hq
    · subst e
      exact h.mem _ d.mem
    · exact h.mem q (d.sub.subset hq)
  · rw [List.map_cons, List.nodup_cons]
    refine ⟨fun hm => ?_, h.nd.sublist (d.sub.map _)⟩
    obtain ⟨q, hq, e⟩ := List.mem_map.mp hm
    exact ne q hq e
theorem wipe_set_out {σ : St} {i : Nat} {x : Option V} : ∀ ws : List Nat, i ∉ ws → wipe (σ.set i x) ws = (wipe σ ws).set i x
  | [], _ => rfl
  | k :: ws, hn => by
    show (wipe (σ.set i x) ws).set k none = ((wipe σ ws).set k none).set i x
    rw [wipe_set_out ws fun h => hn (List.mem_cons_of_mem _ h), List.set_comm _ _ fun e => hn (by rw [e]; exact List.mem_cons_self)]
theorem wipe_sub {σ : St} {ws : List Nat} : ∀ {vs : List Nat}, (∀ i ∈ vs, i ∈ ws) → wipe (wipe σ vs) ws = wipe σ ws
  | [], _ => rfl
  | i :: vs, h => by
    show wipe ((wipe σ vs).set i none) ws = wipe σ ws
    rw [wipe_set (h i (by simp)), wipe_sub fun j hj => h j (List.mem_cons_of_mem _ hj)]
theorem lc_go {ai : AI} {vs ws : List Nat} {g : AG} {tt : AT} {te : AE} {T' : Ct} {Q : VK} {Φ : AK} (hT : T'.B = T.B) (hl : ∀ F, Lk K T' F) (hv : ∀ i ∈ ws, i ∈ vs) (w : See K T F σ H Γ M) (q : aLc ai g tt te vs Γ M Φ)
    (z : ∀ d M' v F' H', Same F F' → Hs K T.B M' F' H' → Is K F' v d → Φ d M' → Q v H') : tLc (cI K T ai) (cG K ws g) (cT K T' tt) (cE K T' te) vs σ H Q := ⟨F, Γ, M, _, w, q, fun ds M1 J F1 H1 s1 h1 wk q1 => by
  obtain ⟨hsz, I, i0, turn, fin⟩ := q1
  intro L hL
  refine ⟨fun i n H' => n = ds.length - i ∧ i ≤ ds.length ∧ ∃ F' acc M', Same F1 F' ∧ Hs K T.B ((L, .lst acc) :: M') F' H' ∧ acc.length ≤ i ∧ I i acc M', ⟨ds.length, by simp, Nat.zero_le _, F1, [], M1, Same.refl F1, h1.newM (o := .lst []) hL ⟨[], upd_same, .nil⟩, by simp, i0⟩, ?_⟩
  rintro i n H' ⟨rfl, hi, F', acc, M', s', h', hacc, i'⟩
  obtain ⟨go, stop⟩ := wk i F' H' _ s' h' hi
  by_cases hlt : i < ds.length
  · obtain ⟨g1, g2⟩ := go ds[i] (List.getElem?_eq_getElem hlt)
    refine .inr ⟨g1, fun H2 => ∃ F' acc M', Same F1 F' ∧ Hs K T.B ((L, .lst acc) :: M') F' H2 ∧ acc.length ≤ i + 1 ∧ I (i + 1) acc M', fun H2 y => ⟨ds.length - (i + 1), by omega, rfl, hlt, y⟩, fun x H2 y => ?_⟩
    obtain ⟨F2, s2, h2, ix⟩ := g2 x H2 y
    have t := turn i ds[i] acc M' L (List.getElem?_eq_getElem hlt) i'
    split at t
    · rename_i Γ2 hg2
      refine ⟨F2, ds[i], wipeG Γ vs, Γ2, (w.v.mono ((s1.trans s').trans s2)).wipe vs, h2.sub, ix, hg2, fun σ3 v3 e3 => ⟨(e3 vs hv).trans (wipe_sub fun _ h => h), ?_⟩⟩
      refine cT_mk (T := T') ⟨v3, by rw [hT]; exact h2, hl _⟩ t fun b M3 F3 H3 s3 h3 q3 => ?_
      cases b with
      | true =>
        rw [if_pos rfl]
        refine cE_mk (T := T') ⟨v3.mono s3, h3, hl _⟩ (q3.1 rfl) fun y M4 yv F4 H4 s4 h4 i4 ⟨M5, dl, q5⟩ => ?_
        rw [hT] at h4
        obtain ⟨vs4, e4, z4⟩ := h4.lst dl.mem
        refine ⟨vs4, e4, by rw [z4.length]; exact line_lt (by omega), F4, acc ++ [y], M5, ((s'.trans s2).trans s3).trans s4, h4.redo dl ⟨_, upd_same, z4.append (.cons i4 .nil)⟩, by simp; omega, q5⟩
      | false =>
        rw [if_neg Bool.false_ne_true]
        obtain ⟨M5, dl, q5⟩ := q3.2 rfl
        rw [hT] at h3
        exact ⟨F3, acc, M5, (s'.trans s2).trans s3, h3.front dl, by omega, q5⟩
    · exact t.elim
  · have e : i = ds.length := by omega
    subst e
    obtain ⟨F2, s2, h2, i2⟩ := h'.freeze (M' := M') .here
    exact .inl ⟨stop rfl, z _ M' _ F2 H' ((s1.trans s').trans s2) h2 i2 (fin acc M' i' hacc)⟩⟩
def DTs (X : Cx) (T : Ct) (ifs : List Expr) (ta : AT) : Prop := PTs X ifs (cT X.K T ta)
theorem dts_nil : DTs X T [] aYes := ⟨fun pins s σ H Q I ⟨F, Γ, M, Φ, w, q, z⟩ => pts_nil.run pins s σ H Q I (z true M F H (Same.refl F) w.h q)⟩
theorem dts_one {t : AT} (h : DT X T c t) : DTs X T [c] t := pts_one h
theorem de_lc {elt tg iter : Expr} {ifs : List Expr} {scope : Scope} {own : List (Str × Nat)} {ai : AI} {ws : List Nat} {g : AG} {tt : AT} {te : AE} (hc : X.calm = true) (hN : X.N.Nodup) (hi : DI X T tg iter ai) (ok : BlkOk X.N X.env.scope scope own)
    (hg : ∀ (s : Shared) (H : Hp) (C : Addr) (cl : List (Str × Addr)) (fp : List Addr), DG (X.blk s H scope (compEnvC scope cl C X.env) fp) tg ws g) (ht : ∀ (s : Shared) (H : Hp) (C : Addr) (cl : List (Str × Addr)) (fp : List Addr), DTs (X.blk s H scope (compEnvC scope cl C X.env) fp) (.calm T.B) ifs tt)
    (he : ∀ (s : Shared) (H : Hp) (C : Addr) (cl : List (Str × Addr)) (fp : List Addr), DE (X.blk s H scope (compEnvC scope cl C X.env) fp) (.calm T.B) elt te) (hv : ∀ i ∈ ws, i ∈ own.map (·.2) := by decide) (hs : ∀ x, foldedSetIterable iter X.env x = pure x := by intro _; rfl) :
    DE X T (.ListComp elt [⟨tg, iter, ifs, 0⟩] scope pos) (aLc ai g tt te (own.map (·.2))) :=
  de_of (pe_lc (g := cG X.K ws g) (tt := cT X.K (.calm T.B) tt) (te := cE X.K (.calm T.B) te) hc hN hi ok hg ht he hs) fun F σ H Γ M Φ Q w q z => lc_go (T' := .calm T.B) rfl (fun _ => lk_calm) hv w q z
theorem ds_setLc {i : Nat} {y : Str} {py spos : Pos} {elt tg iter : Expr} {ifs : List Expr} {scope : Scope} {own : List (Str × Nat)} {ai : AI} {ws : List Nat} {g : AG} {tt : AT} {te : AE} (hc : X.calm = true) (hN : X.N.Nodup) (hy : X.N[i]? = some y) (hyl : X.env.scope.names.lookup y = some .local)
    (hsw : swapsWith (.ListComp elt [⟨tg, iter, ifs, 0⟩] scope pos) (some (.Name y py)) spos.line X.env = pure true) (hi : DI X T tg iter ai) (ok : BlkOk X.N X.env.scope scope own)
    (hg : ∀ (s : Shared) (H : Hp) (C : Addr) (cl : List (Str × Addr)) (fp : List Addr), DG (X.blk s H scope (compEnvC scope cl C X.env) fp) tg ws g) (ht : ∀ (s : Shared) (H : Hp) (C : Addr) (cl : List (Str × Addr)) (fp : List Addr), DTs (X.blk s H scope (compEnvC scope cl C X.env) fp) (.calm T.B) ifs tt)
    (he : ∀ (s : Shared) (H : Hp) (C : Addr) (cl : List (Str × Addr)) (fp : List Addr), DE (X.blk s H scope (compEnvC scope cl C X.env) fp) (.calm T.B) elt te) (hv : ∀ i ∈ ws, i ∈ own.map (·.2) := by decide) (hs : ∀ x, foldedSetIterable iter X.env x = pure x := by intro _; rfl) :
    DS X T (.Assign [.Name y py] (.ListComp elt [⟨tg, iter, ifs, 0⟩] scope pos) spos) (aSet i (aLc ai g tt te (own.map (·.2)))) :=
  ds_of (ps_setLc (g := cG X.K ws g) (tt := cT X.K (.calm T.B) tt) (te := cE X.K (.calm T.B) te) hc hN hy hyl hsw hi ok hg ht he hs) fun F σ H Γ M A D w q m => lc_go (T' := .calm T.B) rfl (fun _ => lk_calm) hv w q fun d M1 v F1 H1 s1 h1 i1 q1 => m.nx _ M1 _ F1 H1 s1 ((w.v.mono s1).set i1 i) h1 q1
end
end DL

set_option Elab.async false
set_option linter.all false
set_option maxRecDepth 100000
set_option maxHeartbeats 2000000
namespace DL
open PySem L2
open PyProof.Rows (envOfC)

/-! ### promises over data -/
abbrev ASp := List D → Mm → AK → (XD → Mm → Prop) → Prop
def conc (K : PySem.W.Frag) (B : Bx) (asp : ASp) : Sp := fun vs H Q E => ∃ ds F M Φ Ψ, IsL K F vs ds ∧ Hs K B M F H ∧ asp ds M Φ Ψ ∧
  (∀ d M' v F' H', Same F F' → Hs K B M' F' H' → Is K F' v d → Φ d M' → Q v H') ∧ (∀ x cls d M' F' H', Same F F' → Hs K B M' F' H' → XIs K F' cls d x → Ψ x M' → E cls d H')
def startD (N : List Str) (ds : List D) : Gm := ds.map some ++ List.replicate (N.length - ds.length) none
theorem vw_start {K : PySem.W.Frag} {F : Hp} {N : List Str} {vs : List V} {ds : List D} (h : IsL K F vs ds) : Vw K F (L2.start N vs) (startD N ds) := by
  unfold L2.start startD
  refine ⟨by rw [List.length_append, List.length_append, List.length_map, List.length_map, h.length, List.length_replicate, List.length_replicate], fun i d hd => ?_⟩
  by_cases hi : i < ds.length
  · rw [List.getElem?_append_left (by rw [List.length_map]; exact hi), List.getElem?_map] at hd
    rw [List.getElem?_append_left (by rw [List.length_map, h.length]; exact hi), List.getElem?_map]
    cases e : ds[i]? with
    | none =>
      rw [e] at hd
      cases hd
    | some g =>
      rw [e] at hd
      cases hd
      obtain ⟨v, h1, h2⟩ := h.get e
      exact ⟨v, by rw [h1]; rfl, h2⟩
  · rw [List.getElem?_append_right (by rw [List.length_map]; omega), List.getElem?_replicate] at hd
    split at hd <;> cases hd
section
variable {P : Program} {w : World} {K : PySem.W.Frag} {mg : Str → Option Value} {base : Heap} {B : Bx}
/-- the context of a body under way -/
abbrev cxD (P : Program) (w : World) (K : PySem.W.Frag) (mg : Str → Option Value) (base : Heap) (N : List Str) (qual : Str) (sc : Scope) (f : Addr) (cdv : Value) (A : Around) (outer : List Env) (s : Shared) (H : Hp) (E : XK) : Cx := cxOf (L2.CX P w) P w K mg base N qual sc f cdv A outer s H E
abbrev ctD (B : Bx) (E : XK) (Ψ : XD → Mm → Prop) : Ct := ⟨B, fun cls d _ H => E cls d H, fun x _ M => Ψ x M⟩
theorem body_go {N : List Str} {X : Cx} {E : XK} {body : List Stmt} {asp : ASp} (hX : X.K = K) {vs : List V} {H : Hp} {Q : VK} (h : conc K B asp vs H Q E)
    (hb : ∀ ds M Φ Ψ, asp ds M Φ Ψ → ∃ ta, DSs X (ctD B E Ψ) body ta ∧ ta { nx := fun _ M => Φ .non M, rt := Φ } (startD N ds) M) :
    ∃ t, PSs X body t ∧ t { nx := fun _ H' => Q .non H', rt := Q } (L2.start N vs) H := by
  obtain ⟨ds, F, M, Φ, Ψ, hv, hh, ha, hq, he⟩ := h
  obtain ⟨ta, d, r⟩ := hb ds M Φ Ψ ha
  subst hX
  refine ⟨_, d, cS_mk (T := ctD B E Ψ) ⟨vw_start hv, hh, fun x cls dd Γ' M' σ' F' H' s v h2 hx hp => he x cls dd M' F' H' s h2 hx hp⟩ r ⟨fun Γ' M' σ' F' H' s v h2 q => hq _ M' _ F' H' s h2 .non q, fun d M' v F' H' s h2 i q => hq d M' v F' H' s h2 i q, fun _ _ _ _ _ _ _ _ q => q, fun _ _ _ _ _ _ _ _ q => q⟩⟩
theorem conc_len {asp : ASp} {ps : List Str} (hlen : ∀ ds M Φ Ψ, asp ds M Φ Ψ → ds.length = ps.length) : ∀ vs H Q E, conc K B asp vs H Q E → vs.length = ps.length := fun vs H Q E ⟨ds, F, M, Φ, Ψ, hv, _, ha, _⟩ => hv.length.trans (hlen ds M Φ Ψ ha)
/-- THE RULE for a def -/
theorem dfn {x qual : Str} {st : Stmt} {f : Addr} {fd : FuncData} {N ps : List Str} {k : Nat} {asp : ASp} (F : Fun K x qual st f fd) (S : FnScope N ps (defScope st)) (hlen : ∀ ds M Φ Ψ, asp ds M Φ Ψ → ds.length = ps.length)
    (hb : ∀ (cdv : Value) (A : Around) (outer : List Env) (s : Shared) (H : Hp) (E : XK), Room k (A.deeper (envOfC qual (defScope st) s.heap.objs.size f cdv)) → ∀ ds M Φ Ψ, asp ds M Φ Ψ →
      ∃ ta, DSs (cxD P w K mg base N qual (defScope st) f cdv A outer s H E) (ctD B E Ψ) (defBody st) ta ∧ ta { nx := fun _ M => Φ .non M, rt := Φ } (startD N ds) M) : FnOk P w K mg base (L2.CX P w) (k + 1) f fd ps (conc K B asp) :=
  F.okX S (conc_len hlen) fun cdv A outer s H vs Q E hr h => body_go rfl h (hb cdv A outer s H E hr)
theorem dfnD {x qual : Str} {params : Arguments} {body : List Stmt} {scope : Scope} {dvs : List V} {kws : List (Str × V)} {f : Addr} {fd : FuncData} {N ps : List Str} {k : Nat} {asp : ASp} (F : FunD K x qual params body scope dvs kws f fd) (S : FnScope N ps scope) (hlen : ∀ ds M Φ Ψ, asp ds M Φ Ψ → ds.length = ps.length)
    (hb : ∀ (cdv : Value) (A : Around) (outer : List Env) (s : Shared) (H : Hp) (E : XK), Room k (A.deeper (envOfC qual scope s.heap.objs.size f cdv)) → ∀ ds M Φ Ψ, asp ds M Φ Ψ →
      ∃ ta, DSs (cxD P w K mg base N qual scope f cdv A outer s H E) (ctD B E Ψ) body ta ∧ ta { nx := fun _ M => Φ .non M, rt := Φ } (startD N ds) M) : FnOk P w K mg base (L2.CX P w) (k + 1) f fd ps (conc K B asp) :=
  F.ok S (conc_len hlen) fun cdv A outer s H vs Q E hr h => body_go rfl h (hb cdv A outer s H E hr)
end
/-- a call: dds the defaults -/
def aCall (asp : ASp) (dds : List D) (Ψ : AX) (tr : AA) (Γ : Gm) (M : Mm) (Φ : AK) : Prop := tr Γ M fun ds M1 => asp (ds ++ dds) M1 Φ (fun x M2 => Ψ x Γ M2)
section
variable {X : Cx} {T : Ct} {e a b c : Expr} {pos : Pos} {K : PySem.W.Frag} {F F' F1 H H' H1 : Hp} {σ : St} {Γ : Gm} {M M' : Mm} {ta tb tc : AE} {tA tB : AT} {es : List Expr} {tr : AA} {B : Bx}
theorem de_callD {x : Str} {p : Pos} {k : Nat} {f : Addr} {fd : FuncData} {ps : List Str} {asp : ASp} {dds : List D} {dvs : List V} {dvals : List Value} (G : FnOk X.prog X.w X.K X.mg X.base (L2.CX X.prog X.w) k f fd ps (conc X.K T.B asp)) (hr : Room k X.A) (hg : Gl X x) (hm : X.mg x = some (.ref f)) (hk : PySem.W.keepIn X.K (.ref f) = true)
    (hb : Binds X.K fd ps dvals) (hd : Vals dvs dvals) (hi : ∀ F, IsL X.K F dvs dds) (tk : Takes X T.W) (ha : DA X T (e :: es) tr)
    (hdb : (x == ("__debug__" : Str)) = false := by decide) (he : starEach (e :: es) X.env = (false, eval e X.env) :: starEach es X.env := by rfl) (hpl : (backTo pos (starEach es X.env)).any (·.1) = false := by rfl) :
    DE X T (.Call (.Name x p) (e :: es) [] pos) (aCall asp dds T.Ψ tr) :=
  de_of (pe_callSD G hr hg hm hk hb hd (fun σ => passAt tk σ) ha hdb he hpl) fun F σ H Γ M Φ Q w q z => cA_mk w q fun ds M1 vs F1 H1 s1 h1 i1 q1 =>
    ⟨ds ++ dds, F1, M1, Φ, fun x M2 => T.Ψ x Γ M2, i1.append (hi F1), h1, q1, fun d M2 v F2 H2 s2 h2 i2 q2 => z d M2 v F2 H2 (s1.trans s2) h2 i2 q2, fun y cls d M2 F2 H2 s2 h2 xi q2 => w.l y cls d Γ M2 σ F2 H2 (s1.trans s2) (w.v.mono (s1.trans s2)) h2 xi q2⟩
theorem de_call {x : Str} {p : Pos} {k : Nat} {f : Addr} {fd : FuncData} {ps : List Str} {asp : ASp} (G : FnOk X.prog X.w X.K X.mg X.base (L2.CX X.prog X.w) k f fd ps (conc X.K T.B asp)) (hr : Room k X.A) (hg : Gl X x) (hm : X.mg x = some (.ref f)) (hk : PySem.W.keepIn X.K (.ref f) = true)
    (hb : Binds X.K fd ps []) (tk : Takes X T.W) (ha : DA X T (e :: es) tr)
    (hdb : (x == ("__debug__" : Str)) = false := by decide) (he : starEach (e :: es) X.env = (false, eval e X.env) :: starEach es X.env := by rfl) (hpl : (backTo pos (starEach es X.env)).any (·.1) = false := by rfl) :
    DE X T (.Call (.Name x p) (e :: es) [] pos) (aCall asp [] T.Ψ tr) :=
  de_callD G hr hg hm hk hb .nil (fun _ => .nil) tk ha hdb he hpl
/-- nothing is raised in a block -/
theorem tk_calm {X : Cx} {B : Bx} : Takes X (Ct.calm B).W := takes0

/-! ### a hidden part made -/
/-- from here on a hidden part bx i stands for some mutable objects -/
def aBox {ι : Type} (bx : ι → Bx) (t : ι → AS) (A : AEnds) (Γ : Gm) (M : Mm) : Prop := ∃ i M', (∀ K F H, Hs K Bx.no M F H → Hs K (bx i) M' F H) ∧ t i A Γ M'
theorem Hs.unbox (h : Hs K B M F H) : Hs K Bx.no M F H := ⟨h.sub, fun q hq => let ⟨m1, _, m3⟩ := h.mem q hq; ⟨m1, List.not_mem_nil, m3⟩, h.nd, trivial, fun _ hb => absurd hb List.not_mem_nil⟩
theorem dss_box {ι : Type} {bx : ι → Bx} {W : WX} {Ψ : AX} {sts : List Stmt} {t : ι → AS} (h : ∀ i, DSs X ⟨bx i, W, fun _ _ _ => False⟩ sts (t i)) : DSs X ⟨Bx.no, W, Ψ⟩ sts (aBox bx t) :=
  ⟨fun pins s σ H D I ⟨F, Γ, M, A, w, q, m1, m2, m3, m4⟩ => by
    obtain ⟨i, M', cv, q⟩ := q
    refine (h i).run pins s σ H D I (cS_mk (T := ⟨bx i, W, fun _ _ _ => False⟩) ⟨w.v, cv _ _ _ w.h, fun _ _ _ _ _ _ _ _ _ _ _ _ z => z.elim⟩ q ⟨?_, ?_, ?_, ?_⟩)
    · exact fun Γ2 M2 σ2 F2 H2 s2 v2 h2 q2 => m1 Γ2 M2 σ2 F2 H2 s2 v2 h2.unbox q2
    · exact fun d M2 v F2 H2 s2 h2 i2 q2 => m2 d M2 v F2 H2 s2 h2.unbox i2 q2
    · exact fun Γ2 M2 σ2 F2 H2 s2 v2 h2 q2 => m3 Γ2 M2 σ2 F2 H2 s2 v2 h2.unbox q2
    · exact fun Γ2 M2 σ2 F2 H2 s2 v2 h2 q2 => m4 Γ2 M2 σ2 F2 H2 s2 v2 h2.unbox q2⟩
end
end DL

set_option Elab.async false
set_option linter.all false
set_option maxRecDepth 100000
set_option maxHeartbeats 2000000
namespace DL
open PySem L2

section
variable {X : Cx} {T : Ct} {e a b c : Expr} {pos : Pos} {K : PySem.W.Frag} {F F' F1 H H' H1 : Hp} {σ : St} {Γ : Gm} {M M' : Mm} {ta tb tc : AE} {tA tB : AT} {es : List Expr} {tr : AA} {B : Bx}
/-! ### ints -/
def fI (g : Int → Int → D) (d e : D) (M : Mm) (Φ : AK) : Prop := match d, e with
  | .int i, .int j => Φ (g i j) M
  | _, _ => False
def fC (C : Int → Int → Prop) (g : Int → Int → D) (d e : D) (M : Mm) (Φ : AK) : Prop := match d, e with
  | .int i, .int j => C i j ∧ Φ (g i j) M
  | _, _ => False
theorem ab_I0 {g : Int → Int → Int} : Ab2 K B (rI0 fun i j => .int (g i j)) (fI fun i j => .int (g i j)) := fun F H x y d e M Φ Q h i1 i2 q z => by
  unfold fI at q
  (first | split at q | (unfold aChain_k at q; split at q))
  · cases i1
    cases i2
    exact ⟨_, _, rfl, rfl, z _ M _ F H (Same.refl F) h (.int _) q⟩
  · exact q.elim
theorem ab_B0 {g : Int → Int → Bool} : Ab2 K B (rI0 fun i j => .bl (g i j)) (fI fun i j => .bl (g i j)) := fun F H x y d e M Φ Q h i1 i2 q z => by
  unfold fI at q
  (first | split at q | (unfold aChain_k at q; split at q))
  · cases i1
    cases i2
    exact ⟨_, _, rfl, rfl, z _ M _ F H (Same.refl F) h (.bl _) q⟩
  · exact q.elim
theorem ab_C {C C' : Int → Int → Prop} {g : Int → Int → Int} (hc : ∀ i j, C' i j → C i j) : Ab2 K B (rI C fun i j => .int (g i j)) (fC C' fun i j => .int (g i j)) := fun F H x y d e M Φ Q h i1 i2 q z => by
  unfold fC at q
  (first | split at q | (unfold aChain_k at q; split at q))
  · cases i1
    cases i2
    exact ⟨_, _, rfl, rfl, hc _ _ q.1, z _ M _ F H (Same.refl F) h (.int _) q.2⟩
  · exact q.elim
/-- a factor is small, or both are not too great -/
def MulOk (i j : Int) : Prop := (-18446744073709551616 < i ∧ i < 18446744073709551616) ∨ (-18446744073709551616 < j ∧ j < 18446744073709551616) ∨ CMulW i j
/-- the divisor -/
def DivOk (_ j : Int) : Prop := 0 < j ∧ j.natAbs.log2 < 9000
def ModOk (_ j : Int) : Prop := 0 < j
theorem op_mulA : OpR X (binaryOp .Mult) (rI MulOk fun i j => .int (i * j)) := fun pins s σ H x y u v Q I rx ry q => by
  obtain ⟨i, j, rfl, rfl, hc, q⟩ := q
  rcases hc with hc | hc | hc
  · exact op_mul pins s σ H _ _ u v Q I rx ry ⟨i, j, rfl, rfl, .inl (by omega), q⟩
  · exact op_mul pins s σ H _ _ u v Q I rx ry ⟨i, j, rfl, rfl, .inr (by omega), q⟩
  · exact op_mulW pins s σ H _ _ u v Q I rx ry ⟨i, j, rfl, rfl, hc, q⟩
theorem divOk_of {i j : Int} (h : 0 < j) (h2 : j < 18446744073709551616) : DivOk i j := ⟨h, (wide_div (i := i) (b := 64) h (by omega) (by decide) (by decide)).2⟩
abbrev fAdd : A2 := fI fun i j => .int (i + j)
abbrev fSub : A2 := fI fun i j => .int (i - j)
abbrev fMul : A2 := fC MulOk fun i j => .int (i * j)
abbrev fDiv : A2 := fC DivOk fun i j => .int (i / j)
abbrev fMod : A2 := fC ModOk fun i j => .int (i % j)
abbrev fPow : A2 := fC CPow fun i j => .int (i ^ j.toNat)
abbrev fLt : A2 := fI fun i j => .bl (decide (i < j))
abbrev fLe : A2 := fI fun i j => .bl (decide (i ≤ j))
abbrev fGt : A2 := fI fun i j => .bl (decide (j < i))
abbrev fGe : A2 := fI fun i j => .bl (decide (j ≤ i))
theorem de_add (ha : DE X T a ta) (hb : DE X T b tb) : DE X T (.BinOp a .Add b pos) (aOp fAdd ta tb) := de_op op_add ab_I0 ha hb
theorem de_sub (ha : DE X T a ta) (hb : DE X T b tb) : DE X T (.BinOp a .Sub b pos) (aOp fSub ta tb) := de_op op_sub ab_I0 ha hb
theorem de_mul (ha : DE X T a ta) (hb : DE X T b tb) : DE X T (.BinOp a .Mult b pos) (aOp fMul ta tb) := de_op op_mulA (ab_C fun _ _ h => h) ha hb
theorem de_div (ha : DE X T a ta) (hb : DE X T b tb) : DE X T (.BinOp a .FloorDiv b pos) (aOp fDiv ta tb) := de_op op_fdivW (ab_C fun _ _ h => h) ha hb
theorem de_mod (ha : DE X T a ta) (hb : DE X T b tb) : DE X T (.BinOp a .Mod b pos) (aOp fMod ta tb) := de_op op_mod (ab_C fun _ _ h => h) ha hb
theorem de_pow (ha : DE X T a ta) (hb : DE X T b tb) : DE X T (.BinOp a .Pow b pos) (aOp fPow ta tb) := de_op op_pow (ab_C fun _ _ h => h) ha hb
def fNeg (d : D) (M : Mm) (Φ : AK) : Prop := match d with
  | .int i => Φ (.int (-i)) M
  | _ => False
theorem de_neg (ha : DE X T a ta) : DE X T (.UnaryOp .USub a pos) (aUn fNeg ta) := de_un un_neg (fun F H x d M Φ Q h i q z => by
  unfold fNeg at q
  (first | split at q | (unfold aChain_k at q; split at q))
  · cases i
    exact ⟨_, rfl, z _ M _ F H (Same.refl F) h (.int _) q⟩
  · exact q.elim) ha
theorem de_lt (ha : DE X T a ta) (hb : DE X T b tb) : DE X T (.Compare a [.Lt] [b] pos) (aOp fLt ta tb) := de_cmp op_lt ab_B0 ha hb
theorem de_le (ha : DE X T a ta) (hb : DE X T b tb) : DE X T (.Compare a [.LtE] [b] pos) (aOp fLe ta tb) := de_cmp op_le ab_B0 ha hb
theorem de_gt (ha : DE X T a ta) (hb : DE X T b tb) : DE X T (.Compare a [.Gt] [b] pos) (aOp fGt ta tb) := de_cmp op_gt ab_B0 ha hb
theorem de_ge (ha : DE X T a ta) (hb : DE X T b tb) : DE X T (.Compare a [.GtE] [b] pos) (aOp fGe ta tb) := de_cmp op_ge ab_B0 ha hb
/-- two comparisons in a chain -/
theorem chain_go {r r' : R2} {f g : A2} {Q : VK} {Φ : AK} (hr : Ab2 K T.B r f) (hr' : Ab2 K T.B r' g) (w : See K T F σ H Γ M) (q : aChain f g ta tb tc Γ M Φ) (z : ∀ d M' v F' H', Same F F' → Hs K T.B M' F' H' → Is K F' v d → Φ d M' → Q v H') :
    tChain r r' (cE K T ta) (cE K T tb) (cE K T tc) σ H Q :=
  cE_mk w q fun d M1 x F1 H1 s1 h1 i1 q1 => cE_mk (w.go s1 h1) q1 fun e M2 y F2 H2 s2 h2 i2 q2 => hr F2 H2 x y d e M2 _ _ h2 (i1.mono s2) i2 q2 fun k M3 v F3 H3 s3 h3 i3 q3 => by
    (first | split at q3 | (unfold aChain_k at q3; split at q3))
    · rename_i k
      cases i3
      refine ⟨k, rfl, ?_⟩
      cases k with
      | true => exact cE_mk (((w.go s1 h1).go s2 h2).go s3 h3) (q3.1 rfl) fun c M4 u F4 H4 s4 h4 i4 q4 => hr' F4 H4 y u e c M4 Φ Q h4 ((i2.mono s3).mono s4) i4 q4 fun d M5 v F5 H5 s5 h5 i5 q5 => z d M5 v F5 H5 ((((s1.trans s2).trans s3).trans s4).trans s5) h5 i5 q5
      | false => exact z _ M3 _ F3 H3 ((s1.trans s2).trans s3) h3 (.bl false) (q3.2 rfl)
    · exact q3.elim
end
end DL

set_option Elab.async false
set_option linter.all false
set_option maxRecDepth 100000
set_option maxHeartbeats 2000000
namespace DL
open PySem L2

section
variable {X : Cx} {T : Ct} {e a b c : Expr} {pos : Pos} {K : PySem.W.Frag} {F F' F1 H H' H1 : Hp} {σ : St} {Γ : Gm} {M M' : Mm} {ta tb tc : AE} {tA tB : AT} {es : List Expr} {tr : AA} {B : Bx}
theorem de_chain {op op' : CmpOp} {r r' : R2} {f g : A2} (ho : OpR X (compareOp op) r) (ho' : OpR X (compareOp op') r') (hr : Ab2 X.K T.B r f) (hr' : Ab2 X.K T.B r' g) (ha : DE X T a ta) (hb : DE X T b tb) (hc : DE X T c tc)
    (hm : lastMarks [op, op'] [b, c] = false := by with_unfolding_all rfl) : DE X T (.Compare a [op, op'] [b, c] pos) (aChain f g ta tb tc) :=
  de_of (pe_chain ho ho' ha hb hc hm) fun F σ H Γ M Φ Q w q z => chain_go hr hr' w q z
theorem dt_chain {op op' : CmpOp} {r r' : R2} {f g : A2} (ho : OpR X (compareOp op) r) (ho' : OpR X (compareOp op') r') (hr : Ab2 X.K T.B r f) (hr' : Ab2 X.K T.B r' g) (ha : DE X T a ta) (hb : DE X T b tb) (hc : DE X T c tc)
    (hm : lastMarks [op, op'] [b, c] = false := by with_unfolding_all rfl) : DT X T (.Compare a [op, op'] [b, c] pos) (aB (aChain f g ta tb tc)) :=
  dt_of (pt_chain ho ho' ha hb hc hm) fun F σ H Γ M Φ Q w q z => chain_go hr hr' w q fun d M1 x F1 H1 s1 h1 i1 q1 => by
    cases d with
    | bl b =>
      cases i1
      exact ⟨b, rfl, z b M1 F1 H1 s1 h1 q1⟩
    | _ => exact q1.elim

/-! ### sequences, read -/
/-- the items of a list or a tuple, a mutable list too -/
def seqOf (d : D) (M : Mm) (k : List D → Prop) : Prop := match d with
  | .lst xs => k xs
  | .tup xs => k xs
  | .ref l => ∃ xs, (l, MO.lst xs) ∈ M ∧ k xs
  | _ => False
theorem seq_at {d : D} {k : List D → Prop} {x : V} (h : Hs K B M F H) (i : Is K F x d) (q : seqOf d M k) : ∃ l vs xs, x = .ref l ∧ (SqL K H l vs ∨ SqT K H l vs) ∧ IsL K F vs xs ∧ k xs := by
  unfold seqOf at q
  (first | split at q | (unfold aChain_k at q; split at q) | (unfold aP_k at q; split at q) | (unfold aSl_k at q; split at q) | (unfold aRev_k at q; split at q) | (unfold aRevM_k at q; split at q) | (unfold aApp_k at q; split at q) | (unfold aPop_k at q; split at q) | (unfold aPopAt_k at q; split at q) | (unfold fIx onD at q; split at q) | (unfold onD at q; split at q))
  · cases i with
    | lst hq hl => exact ⟨_, _, _, rfl, .inl (h.sub.seq hq), hl, q⟩
  · cases i with
    | tup hq hl => exact ⟨_, _, _, rfl, .inr (same_t h.sub hq), hl, q⟩
  · obtain ⟨xs, hm, q⟩ := q
    cases i
    obtain ⟨vs, e, z⟩ := h.lst hm
    exact ⟨_, vs, xs, rfl, .inl (.inl (.inl e)), z, q⟩
  · exact q.elim
def fLen (ds : List D) (M : Mm) (Φ : AK) : Prop := match ds with
  | [d] => seqOf d M fun xs => Φ (.int (xs.length : Nat)) M
  | _ => False
theorem ab_len : AbL K B (fun xs H Q => ∃ p ys, xs = [.ref p] ∧ (SqL K H p ys ∨ SqT K H p ys) ∧ Q (.int ys.length) H) fLen := fun F H vs ds M Φ Q h i q z => by
  unfold fLen at q
  (first | split at q | (unfold aChain_k at q; split at q) | (unfold aP_k at q; split at q) | (unfold aSl_k at q; split at q) | (unfold aRev_k at q; split at q) | (unfold aRevM_k at q; split at q) | (unfold aApp_k at q; split at q) | (unfold aPop_k at q; split at q) | (unfold aPopAt_k at q; split at q) | (unfold fIx onD at q; split at q) | (unfold onD at q; split at q))
  · cases i with
    | cons i1 i2 =>
      cases i2
      obtain ⟨l, ws, xs, rfl, hq, hl, q⟩ := seq_at h i1 q
      refine ⟨l, ws, rfl, hq, z _ M _ F H (Same.refl F) h ?_ q⟩
      rw [hl.length]
      exact .int _
  · exact q.elim
theorem de_len {p : Pos} (hg : Gl X "len") (hm : X.mg "len" = none) (ha : DE X T a ta) (hs : starEach [a] X.env = (false, eval a X.env) :: starEach [] X.env := by rfl) (hpl : (backTo pos (starEach [] X.env)).any (·.1) = false := by rfl) : DE X T (.Call (.Name "len" p) [a] [] pos) (aCB fLen (aCons ta aNil)) :=
  de_callB call_len_seq ab_len hg hm PySem.boot_len (da_cons ha da_nil hs) (by decide) (by decide) hs hpl
/-- x[i] -/
def getI (xs : List D) : Int → Option D
  | .ofNat n => xs[n]?
  | .negSucc n => if n < xs.length then xs[xs.length - 1 - n]? else none
theorem getI_0 {x : D} {xs : List D} : getI (x :: xs) 0 = some x := rfl
theorem getI_1 {x y : D} {xs : List D} : getI (x :: y :: xs) 1 = some y := rfl
theorem getI_2 {x y z : D} {xs : List D} : getI (x :: y :: z :: xs) 2 = some z := rfl
theorem getI_3 {x y z u : D} {xs : List D} : getI (x :: y :: z :: u :: xs) 3 = some u := rfl
theorem getI_nat {xs : List D} {n : Nat} {d : D} (h : xs[n]? = some d) : getI xs (n : Int) = some d := h
theorem getI_of {xs : List D} {i : Int} (h : 0 ≤ i) {d : D} (e : xs[i.toNat]? = some d) : getI xs i = some d := by
  obtain ⟨n, rfl⟩ := Int.eq_ofNat_of_zero_le h
  exact e
theorem getI_last {xs : List D} {d : D} (h : xs.getLast? = some d) : getI xs (-1) = some d := by
  rw [List.getLast?_eq_getElem?] at h
  show (if 0 < xs.length then xs[xs.length - 1 - 0]? else none) = some d
  rw [if_pos, Nat.sub_zero]
  · exact h
  · cases xs with
    | nil => cases h
    | cons x xs => exact Nat.succ_pos _
theorem getI_at {xs : List D} {i : Int} {d : D} (h : getI xs i = some d) : atI xs i = some d := by
  cases i with
  | ofNat n => exact atI_nat h
  | negSucc n =>
    have h : (if n < xs.length then xs[xs.length - 1 - n]? else none) = some d := h
    split at h
    · rename_i hn
      unfold atI ixN
      rw [if_neg (by omega), if_pos (by omega)]
      show xs[(Int.negSucc n + (xs.length : Int)).toNat]? = some d
      rw [show (Int.negSucc n + (xs.length : Int)).toNat = xs.length - 1 - n by omega]
      exact h
    · cases h
def fIx (d e : D) (M : Mm) (Φ : AK) : Prop := match e with
  | .int i => seqOf d M fun xs => onD (getI xs i) fun g => Φ g M
  | _ => False
theorem atI_map {vs : List V} {xs : List D} {i : Int} {g : D} (h : IsL K F vs xs) (e : atI xs i = some g) : ∃ v, atI vs i = some v ∧ Is K F v g := by
  unfold atI at e ⊢
  rw [h.length]
  cases q : ixN xs.length i with
  | none =>
    rw [q] at e
    cases e
  | some j =>
    rw [q] at e
    exact h.get e
theorem ab_ix : Ab2 K B (rIx K) fIx := fun F H x y d e M Φ Q h i1 i2 q z => by
  unfold fIx at q
  (first | split at q | (unfold aChain_k at q; split at q) | (unfold aP_k at q; split at q) | (unfold aSl_k at q; split at q) | (unfold aRev_k at q; split at q) | (unfold aRevM_k at q; split at q) | (unfold aApp_k at q; split at q) | (unfold aPop_k at q; split at q) | (unfold aPopAt_k at q; split at q) | (unfold fIx onD at q; split at q) | (unfold onD at q; split at q))
  · rename_i i
    cases i2
    obtain ⟨l, vs, xs, rfl, hq, hl, q⟩ := seq_at h i1 q
    (first | split at q | (unfold aChain_k at q; split at q) | (unfold aP_k at q; split at q) | (unfold aSl_k at q; split at q) | (unfold aRev_k at q; split at q) | (unfold aRevM_k at q; split at q) | (unfold aApp_k at q; split at q) | (unfold aPop_k at q; split at q) | (unfold aPopAt_k at q; split at q) | (unfold fIx onD at q; split at q) | (unfold onD at q; split at q))
    · rename_i g hg
      obtain ⟨v, e1, iv⟩ := atI_map hl (getI_at hg)
      have fin := z g M v F H (Same.refl F) h iv q
      rcases hq with hq | hq
      · exact .inl ⟨l, vs, i, v, rfl, rfl, hq, e1, fin⟩
      · exact .inr (.inl ⟨l, vs, i, v, rfl, rfl, hq, e1, fin⟩)
    · exact q.elim
  · exact q.elim
theorem de_item (ha : DE X T a ta) (hb : DE X T b tb) (hs : PlainIx b := by exact fun _ _ => rfl) : DE X T (.Subscript a b pos) (aOp fIx ta tb) := de_ix ix_seq ab_ix ha hb hs
/-- xs[a:b] of a list -/
abbrev AO := Gm → Mm → (Option Int → Mm → Prop) → Prop
def cO (K : PySem.W.Frag) (T : Ct) (ta : AO) : TO := fun σ H Q => ∃ F Γ M Φ, See K T F σ H Γ M ∧ ta Γ M Φ ∧ ∀ o M' F' H', Same F F' → Hs K T.B M' F' H' → Φ o M' → Q o H'
def DO (X : Cx) (T : Ct) (e : Option Expr) (ta : AO) : Prop := PO X e (cO X.K T ta)
def aNoP (Γ : Gm) (M : Mm) (Φ : Option Int → Mm → Prop) : Prop := Φ none M
def aP_k (Φ : Option Int → Mm → Prop)  (d : D) (M1 : Mm) : Prop := match d with
  | .int i => Φ (some i) M1
  | _ => False
def aP (ta : AE) (Γ : Gm) (M : Mm) (Φ : Option Int → Mm → Prop) : Prop := ta Γ M fun d M1 => aP_k Φ d M1
theorem do_none : DO X T none aNoP := ⟨fun pins s σ H Q I ⟨F, Γ, M, Φ, w, q, z⟩ => po_none.run pins s σ H Q I (z none M F H (Same.refl F) w.h q)⟩
theorem do_some (h : DE X T e ta) : DO X T (some e) (aP ta) := ⟨fun pins s σ H Q I ⟨F, Γ, M, Φ, w, q, z⟩ => (po_some h).run pins s σ H Q I (cE_mk w q fun d M1 x F1 H1 s1 h1 i1 q1 => by
    (first | split at q1 | (unfold aChain_k at q1; split at q1) | (unfold aP_k at q1; split at q1) | (unfold aSl_k at q1; split at q1) | (unfold aRev_k at q1; split at q1) | (unfold aRevM_k at q1; split at q1) | (unfold aApp_k at q1; split at q1) | (unfold aPop_k at q1; split at q1) | (unfold aPopAt_k at q1; split at q1) | (unfold fIx onD at q1; split at q1) | (unfold onD at q1; split at q1))
    · cases i1
      exact ⟨_, rfl, z _ M1 F1 H1 s1 h1 q1⟩
    · exact q1.elim)⟩
def cutD (xs : List D) (lo hi : Option Int) : List D := (xs.drop (HT.sIx xs.length 0 lo)).take (HT.sIx xs.length xs.length hi - HT.sIx xs.length 0 lo)
def aSl_k (Φ : AK) (d : D) (lo : Option Int) (hi : Option Int) (M3 : Mm) : Prop := match d with
  | .lst xs => Φ (.lst (cutD xs lo hi)) M3
  | .ref l => ∃ xs, (l, MO.lst xs) ∈ M3 ∧ Φ (.lst (cutD xs lo hi)) M3
  | _ => False
def aSl (ta : AE) (tl th : AO) (Γ : Gm) (M : Mm) (Φ : AK) : Prop := ta Γ M fun d M1 => tl Γ M1 fun lo M2 => th Γ M2 fun hi M3 => aSl_k Φ d lo hi M3
theorem cut_isL {vs : List V} {xs : List D} {lo hi : Option Int} (h : IsL K F vs xs) : IsL K F (cutV vs lo hi) (cutD xs lo hi) := by
  unfold cutV cutD
  rw [h.length]
  exact (h.drop _).take _
theorem cO_mk {t : AO} {Q : Option Int → Hp → Prop} {Φ : Option Int → Mm → Prop} (s : See K T F σ H Γ M) (q : t Γ M Φ) (z : ∀ d M' F' H', Same F F' → Hs K T.B M' F' H' → Φ d M' → Q d H') : cO K T t σ H Q := ⟨F, Γ, M, Φ, s, q, z⟩
theorem de_slL {lo hi : Option Expr} {p2 : Pos} {tl th : AO} (ha : DE X T a ta) (hl : DO X T lo tl) (hu : DO X T hi th) : DE X T (.Subscript a (.Slice lo hi none p2) pos) (aSl ta tl th) :=
  de_of (pe_slice sl_list ha hl hu) fun F σ H Γ M Φ Q w q z => cE_mk w q fun d M1 x F1 H1 s1 h1 i1 q1 => cO_mk (w.go s1 h1) q1 fun lo M2 F2 H2 s2 h2 q2 => cO_mk ((w.go s1 h1).go s2 h2) q2 fun hi M3 F3 H3 s3 h3 q3 => by
    have i3 := (i1.mono s2).mono s3
    have fin : ∀ {l : Addr} {vs : List V} {xs : List D}, SqL X.K H3 l vs → IsL X.K F3 vs xs → Φ (.lst (cutD xs lo hi)) M3 → rSlL X.K (.ref l) lo hi H3 Q := fun {l vs xs} hq hl q => ⟨l, vs, rfl, hq, fun p hp => by
      have n3 := h3.free hp
      exact z _ M3 _ _ _ (((s1.trans s2).trans s3).trans (upd_same_ext n3)) (h3.laid hp) (.lst (.inl (.inl upd_same)) ((cut_isL hl).mono (upd_same_ext n3))) q⟩
    (first | split at q3 | (unfold aChain_k at q3; split at q3) | (unfold aP_k at q3; split at q3) | (unfold aSl_k at q3; split at q3) | (unfold aRev_k at q3; split at q3) | (unfold aRevM_k at q3; split at q3) | (unfold aApp_k at q3; split at q3) | (unfold aPop_k at q3; split at q3) | (unfold aPopAt_k at q3; split at q3) | (unfold fIx onD at q3; split at q3) | (unfold onD at q3; split at q3))
    · cases i3 with
      | lst hq hl => exact fin (h3.sub.seq hq) hl q3
    · obtain ⟨xs, hm, q3⟩ := q3
      cases i3
      obtain ⟨vs, e, zz⟩ := h3.lst hm
      exact fin (.inl (.inl e)) zz q3
    · exact q3.elim
/-- xs[::-1]: new, not changed; new, to be changed -/
def aRev_k (Φ : AK)  (d : D) (M1 : Mm) : Prop := match d with
  | .lst xs => Φ (.lst xs.reverse) M1
  | .ref l => ∃ xs, (l, MO.lst xs) ∈ M1 ∧ Φ (.lst xs.reverse) M1
  | _ => False
def aRev (ta : AE) (Γ : Gm) (M : Mm) (Φ : AK) : Prop := ta Γ M fun d M1 => aRev_k Φ d M1
def aRevM_k (Φ : AK)  (d : D) (M1 : Mm) : Prop := match d with
  | .lst xs => ∀ p, Φ (.ref p) ((p, .lst xs.reverse) :: M1)
  | .ref l => ∃ xs, (l, MO.lst xs) ∈ M1 ∧ ∀ p, Φ (.ref p) ((p, .lst xs.reverse) :: M1)
  | _ => False
def aRevM (ta : AE) (Γ : Gm) (M : Mm) (Φ : AK) : Prop := ta Γ M fun d M1 => aRevM_k Φ d M1
theorem de_rev {k : Nat} {p1 p2 p3 : Pos} (ha : DE X T a ta) : DE X T (.Subscript a (.Slice none none (some (.UnaryOp .USub (.Constant (.int 1) k p1) p2)) p3) pos) (aRev ta) :=
  de_of (pe_revL ha) fun F σ H Γ M Φ Q w q z => cE_mk w q fun d M1 x F1 H1 s1 h1 i1 q1 => by
    have fin : ∀ {l : Addr} {vs : List V} {xs : List D}, SqL X.K H1 l vs → IsL X.K F1 vs xs → Φ (.lst xs.reverse) M1 → ∃ a ys, V.ref l = .ref a ∧ SqL X.K H1 a ys ∧ ∀ p, H1 p = none → Q (.ref p) (upd H1 p (.lst ys.reverse)) := fun {l vs xs} hq hl q => ⟨l, vs, rfl, hq, fun p hp => by
      have n3 := h1.free hp
      exact z _ M1 _ _ _ (s1.trans (upd_same_ext n3)) (h1.laid hp) (.lst (.inl (.inl upd_same)) (hl.reverse.mono (upd_same_ext n3))) q⟩
    (first | split at q1 | (unfold aChain_k at q1; split at q1) | (unfold aP_k at q1; split at q1) | (unfold aSl_k at q1; split at q1) | (unfold aRev_k at q1; split at q1) | (unfold aRevM_k at q1; split at q1) | (unfold aApp_k at q1; split at q1) | (unfold aPop_k at q1; split at q1) | (unfold aPopAt_k at q1; split at q1) | (unfold fIx onD at q1; split at q1) | (unfold onD at q1; split at q1))
    · cases i1 with
      | lst hq hl => exact fin (h1.sub.seq hq) hl q1
    · obtain ⟨xs, hm, q1⟩ := q1
      cases i1
      obtain ⟨vs, e, zz⟩ := h1.lst hm
      exact fin (.inl (.inl e)) zz q1
    · exact q1.elim
theorem de_revM {k : Nat} {p1 p2 p3 : Pos} (ha : DE X T a ta) : DE X T (.Subscript a (.Slice none none (some (.UnaryOp .USub (.Constant (.int 1) k p1) p2)) p3) pos) (aRevM ta) :=
  de_of (pe_revL ha) fun F σ H Γ M Φ Q w q z => cE_mk w q fun d M1 x F1 H1 s1 h1 i1 q1 => by
    have fin : ∀ {l : Addr} {vs : List V} {xs : List D}, SqL X.K H1 l vs → IsL X.K F1 vs xs → (∀ p, Φ (.ref p) ((p, .lst xs.reverse) :: M1)) → ∃ a ys, V.ref l = .ref a ∧ SqL X.K H1 a ys ∧ ∀ p, H1 p = none → Q (.ref p) (upd H1 p (.lst ys.reverse)) := fun {l vs xs} hq hl q => ⟨l, vs, rfl, hq, fun p hp =>
      z (.ref p) ((p, .lst xs.reverse) :: M1) _ _ _ s1 (h1.newM (o := .lst xs.reverse) hp ⟨_, upd_same, hl.reverse⟩) (.ref p) (q p)⟩
    (first | split at q1 | (unfold aChain_k at q1; split at q1) | (unfold aP_k at q1; split at q1) | (unfold aSl_k at q1; split at q1) | (unfold aRev_k at q1; split at q1) | (unfold aRevM_k at q1; split at q1) | (unfold aApp_k at q1; split at q1) | (unfold aPop_k at q1; split at q1) | (unfold aPopAt_k at q1; split at q1) | (unfold fIx onD at q1; split at q1) | (unfold onD at q1; split at q1))
    · cases i1 with
      | lst hq hl => exact fin (h1.sub.seq hq) hl q1
    · obtain ⟨xs, hm, q1⟩ := q1
      cases i1
      obtain ⟨vs, e, zz⟩ := h1.lst hm
      exact fin (.inl (.inl e)) zz q1
    · exact q1.elim

/-! ### methods of a mutable list -/
theorem tyV_lst {l : Addr} {vs : List V} (h : H l = some (.lst vs)) : tyV K "list" (.ref l) H := .inl ⟨rfl, _, .inl (.inl h)⟩
def aApp_k (tb : AE) (Γ : Gm) (Φ : AK)  (d : D) (M1 : Mm) : Prop := match d with
  | .ref l => (∃ xs, (l, MO.lst xs) ∈ M1) ∧ tb Γ M1 fun e M2 => ∃ xs M3, Up M2 l (.lst xs) (.lst (xs ++ [e])) M3 ∧ xs.length < 100000 ∧ Φ .non M3
  | _ => False
def aApp (ta tb : AE) (Γ : Gm) (M : Mm) (Φ : AK) : Prop := ta Γ M fun d M1 => aApp_k tb Γ Φ d M1
theorem de_app {p2 : Pos} (ha : DE X T a ta) (hb : DE X T b tb) (hst : starEach [b] X.env = (false, eval b X.env) :: starEach [] X.env := by rfl)
    (hbase : attributeBase a "append" X.env (eval a X.env) = eval a X.env := by rfl)
    (hfew : ((backTo pos (starEach [b] X.env)).all (fun x => !x.1) && (backToKw pos (keywordEach [] X.env)).all (fun x => x.1.isSome) && decide ([b].length + ([] : List Keyword).length + (if ([] : List Keyword).isEmpty then 0 else 1) < 30)) = true := by rfl)
    (hline : (p2.endLine == pos.line) = true := by rfl) (hplain : (backTo pos (starEach [] X.env)).any (·.1) = false := by rfl) : DE X T (.Call (.Attribute a "append" p2) [b] [] pos) (aApp ta tb) :=
  de_of (pe_bm PySem.F.plainAttrs_list PySem.F.slot_list_append PySem.F.type_list_append mt_append ha (pa_cons hb pa_nil hst) hbase hfew hline hst hplain) fun F σ H Γ M Φ Q w q z => cE_mk w q fun d M1 x F1 H1 s1 h1 i1 q1 => by
    (first | split at q1 | (unfold aChain_k at q1; split at q1) | (unfold aP_k at q1; split at q1) | (unfold aSl_k at q1; split at q1) | (unfold aRev_k at q1; split at q1) | (unfold aRevM_k at q1; split at q1) | (unfold aApp_k at q1; split at q1) | (unfold aPop_k at q1; split at q1) | (unfold aPopAt_k at q1; split at q1) | (unfold fIx onD at q1; split at q1) | (unfold onD at q1; split at q1))
    · rename_i l
      obtain ⟨⟨xs0, hm⟩, q1⟩ := q1
      cases i1
      obtain ⟨vs0, e0, _⟩ := h1.lst hm
      refine ⟨tyV_lst e0, cE_mk (w.go s1 h1) q1 fun e M2 y F2 H2 s2 h2 i2 q2 => ?_⟩
      obtain ⟨xs, M3, up, hn, q2⟩ := q2
      obtain ⟨vs, e1, zz⟩ := h2.lst up.mem
      exact ⟨l, vs, y, rfl, rfl, e1, by rw [zz.length]; exact line_lt hn, z .non M3 _ F2 _ (s1.trans s2) (h2.put up ⟨_, upd_same, zz.append (.cons i2 .nil)⟩) .non q2⟩
    · exact q1.elim
def aPop_k (Φ : AK)  (d : D) (M1 : Mm) : Prop := match d with
  | .ref l => ∃ xs y M2, Up M1 l (.lst xs) (.lst xs.dropLast) M2 ∧ xs[xs.length - 1]? = some y ∧ Φ y M2
  | _ => False
def aPop (ta : AE) (Γ : Gm) (M : Mm) (Φ : AK) : Prop := ta Γ M fun d M1 => aPop_k Φ d M1
theorem de_pop {p2 : Pos} (ha : DE X T a ta) (hbase : attributeBase a "pop" X.env (eval a X.env) = eval a X.env := by rfl) (hline : (p2.endLine == pos.line) = true := by rfl) : DE X T (.Call (.Attribute a "pop" p2) [] [] pos) (aPop ta) :=
  de_of (pe_bm0 PySem.F.plainAttrs_list PySem.F.slot_list_pop PySem.F.type_list_pop mt_pop ha hbase hline) fun F σ H Γ M Φ Q w q z => cE_mk w q fun d M1 x F1 H1 s1 h1 i1 q1 => by
    (first | split at q1 | (unfold aChain_k at q1; split at q1) | (unfold aP_k at q1; split at q1) | (unfold aSl_k at q1; split at q1) | (unfold aRev_k at q1; split at q1) | (unfold aRevM_k at q1; split at q1) | (unfold aApp_k at q1; split at q1) | (unfold aPop_k at q1; split at q1) | (unfold aPopAt_k at q1; split at q1) | (unfold fIx onD at q1; split at q1) | (unfold onD at q1; split at q1))
    · rename_i l
      obtain ⟨xs, y, M2, up, hy, q1⟩ := q1
      cases i1
      obtain ⟨vs, e1, zz⟩ := h1.lst up.mem
      obtain ⟨v, hv, iv⟩ := zz.get hy
      exact ⟨tyV_lst e1, l, vs, v, rfl, rfl, e1, by rw [zz.length]; exact hv, z y M2 v F1 _ s1 (h1.put up ⟨_, upd_same, zz.dropLast⟩) iv q1⟩
    · exact q1.elim
def aPopAt_k (tb : AE) (Γ : Gm) (Φ : AK)  (d : D) (M1 : Mm) : Prop := match d with
  | .ref l => (∃ xs, (l, MO.lst xs) ∈ M1) ∧ tb Γ M1 fun e M2 => match e with
    | .int i => ∃ xs k y M3, Up M2 l (.lst xs) (.lst (xs.eraseIdx k)) M3 ∧ (-9223372036854775808 ≤ i ∧ i < 9223372036854775808) ∧ seqIndex? i xs.length = some k ∧ xs[k]? = some y ∧ Φ y M3
    | _ => False
  | _ => False
def aPopAt (ta tb : AE) (Γ : Gm) (M : Mm) (Φ : AK) : Prop := ta Γ M fun d M1 => aPopAt_k tb Γ Φ d M1
theorem de_popAt {p2 : Pos} (ha : DE X T a ta) (hb : DE X T b tb) (hst : starEach [b] X.env = (false, eval b X.env) :: starEach [] X.env := by rfl)
    (hbase : attributeBase a "pop" X.env (eval a X.env) = eval a X.env := by rfl)
    (hfew : ((backTo pos (starEach [b] X.env)).all (fun x => !x.1) && (backToKw pos (keywordEach [] X.env)).all (fun x => x.1.isSome) && decide ([b].length + ([] : List Keyword).length + (if ([] : List Keyword).isEmpty then 0 else 1) < 30)) = true := by rfl)
    (hline : (p2.endLine == pos.line) = true := by rfl) (hplain : (backTo pos (starEach [] X.env)).any (·.1) = false := by rfl) : DE X T (.Call (.Attribute a "pop" p2) [b] [] pos) (aPopAt ta tb) :=
  de_of (pe_bm PySem.F.plainAttrs_list PySem.F.slot_list_pop PySem.F.type_list_pop mt_popAt ha (pa_cons hb pa_nil hst) hbase hfew hline hst hplain) fun F σ H Γ M Φ Q w q z => cE_mk w q fun d M1 x F1 H1 s1 h1 i1 q1 => by
    (first | split at q1 | (unfold aChain_k at q1; split at q1) | (unfold aP_k at q1; split at q1) | (unfold aSl_k at q1; split at q1) | (unfold aRev_k at q1; split at q1) | (unfold aRevM_k at q1; split at q1) | (unfold aApp_k at q1; split at q1) | (unfold aPop_k at q1; split at q1) | (unfold aPopAt_k at q1; split at q1) | (unfold fIx onD at q1; split at q1) | (unfold onD at q1; split at q1))
    · rename_i l
      obtain ⟨⟨xs0, hm⟩, q1⟩ := q1
      cases i1
      obtain ⟨vs0, e0, _⟩ := h1.lst hm
      refine ⟨tyV_lst e0, cE_mk (w.go s1 h1) q1 fun e M2 y F2 H2 s2 h2 i2 q2 => ?_⟩
      (first | split at q2 | (unfold aChain_k at q2; split at q2) | (unfold aP_k at q2; split at q2) | (unfold aSl_k at q2; split at q2) | (unfold aRev_k at q2; split at q2) | (unfold aRevM_k at q2; split at q2) | (unfold aApp_k at q2; split at q2) | (unfold aPop_k at q2; split at q2) | (unfold aPopAt_k at q2; split at q2) | (unfold fIx onD at q2; split at q2) | (unfold onD at q2; split at q2))
      · rename_i i
        obtain ⟨xs, k, y, M3, up, hn, hk, hy, q2⟩ := q2
        cases i2
        obtain ⟨vs, e1, zz⟩ := h2.lst up.mem
        obtain ⟨v, hv, iv⟩ := zz.get hy
        exact ⟨l, vs, i, k, v, rfl, rfl, e1, by omega, by omega, by rw [zz.length]; exact hk, hv, z y M3 v F2 _ (s1.trans s2) (h2.put up ⟨_, upd_same, zz.eraseIdx k⟩) iv q2⟩
      · exact q2.elim
    · exact q1.elim
end
end DL

set_option Elab.async false
set_option linter.all false
set_option maxRecDepth 100000
set_option maxHeartbeats 2000000
namespace DL
open PySem L2
open PySem.PyData (strOk)

/-! ### == on data -/
def plD : Nat → D → Bool
  | _, .non => true
  | _, .bl _ => true
  | _, .int _ => true
  | _, .str x => strOk x
  | n + 1, .tup xs => xs.all (plD n)
  | n + 1, .lst xs => xs.all (plD n)
  | _, _ => false
def py : Nat → D → PyData
  | _, .non => .none
  | _, .bl b => .bool b
  | _, .int i => .int i
  | _, .str x => .str x
  | n + 1, .tup xs => .tuple (xs.map (py n))
  | n + 1, .lst xs => .list (xs.map (py n))
  | _, _ => .none
section
variable {n : Nat}
theorem plD_non : plD n .non = true := by cases n <;> rfl
theorem plD_bl {b : Bool} : plD n (.bl b) = true := by cases n <;> rfl
theorem plD_int {i : Int} : plD n (.int i) = true := by cases n <;> rfl
theorem plD_str {x : Str} : plD n (.str x) = strOk x := by cases n <;> rfl
theorem py_non : py n .non = .none := by cases n <;> rfl
theorem py_bl {b : Bool} : py n (.bl b) = .bool b := by cases n <;> rfl
theorem py_int {i : Int} : py n (.int i) = .int i := by cases n <;> rfl
theorem py_str {x : Str} : py n (.str x) = .str x := by cases n <;> rfl
theorem plD_ints {ns : List Int} : plD (n + 1) (.lst (ns.map D.int)) = true := by
  show (ns.map D.int).all (plD n) = true
  rw [List.all_eq_true]
  intro d hd
  obtain ⟨i, _, rfl⟩ := List.mem_map.mp hd
  exact plD_int
theorem eqv_nil {xs : List PyData} : PyData.eqv (.list xs) (.list []) = xs.isEmpty := by
  cases xs <;> rfl
end
theorem dpAll_of {K : PySem.W.Frag} {F H : Hp} {n : Nat} (ih : ∀ (d : D) (v : V), plD n d = true → Is K F v d → Dp K H v (py n d)) : ∀ {xs : List D} {vs : List V}, xs.all (plD n) = true → IsL K F vs xs → DpAll K H vs (xs.map (py n))
  | [], _, _, .nil => .nil
  | x :: xs, _, h, .cons i l => by
    rw [List.all_cons, Bool.and_eq_true] at h
    exact .cons (ih x _ h.1 i) (dpAll_of ih h.2 l)
theorem dp_of {K : PySem.W.Frag} {F H : Hp} (s : Same F H) : ∀ (n : Nat) (d : D) (v : V), plD n d = true → Is K F v d → Dp K H v (py n d)
  | n, .non, _, _, i => by
    cases i
    rw [py_non]
    exact .non
  | n, .bl b, _, _, i => by
    cases i
    rw [py_bl]
    exact .bl b
  | n, .int j, _, _, i => by
    cases i
    rw [py_int]
    exact .int j
  | n, .str x, _, _, i => by
    cases i
    rw [py_str]
    exact .str x
  | n + 1, .tup xs, _, h, i => by
    cases i with
    | tup hq hl => exact .tup (same_t s hq) (dpAll_of (dp_of s n) h hl)
  | n + 1, .lst xs, _, h, i => by
    cases i with
    | lst hq hl => exact .lst (s.seq hq) (dpAll_of (dp_of s n) h hl)
  | 0, .tup _, _, h, _ => by cases h
  | 0, .lst _, _, h, _ => by cases h
  | 0, .ref _, _, h, _ => by cases h
  | 0, .ty _, _, h, _ => by cases h
  | 0, .ins _ _ _, _, h, _ => by cases h
  | _ + 1, .ref _, _, h, _ => by cases h
  | _ + 1, .ty _, _, h, _ => by cases h
  | _ + 1, .ins _ _ _, _, h, _ => by cases h
theorem canAll_of {n : Nat} (ih : ∀ d : D, plD n d = true → (py n d).canLay0 = true) : ∀ {xs : List D}, xs.all (plD n) = true → PyData.canLayAll0 (xs.map (py n)) = true
  | [], _ => rfl
  | x :: xs, h => by
    rw [List.all_cons, Bool.and_eq_true] at h
    show ((py n x).canLay0 && PyData.canLayAll0 (xs.map (py n))) = true
    rw [ih x h.1, canAll_of ih h.2]
    rfl
theorem depAll_of {n : Nat} (ih : ∀ d : D, plD n d = true → (py n d).depth ≤ n) : ∀ {xs : List D}, xs.all (plD n) = true → PyData.depthAll (xs.map (py n)) ≤ n
  | [], _ => Nat.zero_le _
  | x :: xs, h => by
    rw [List.all_cons, Bool.and_eq_true] at h
    show max (py n x).depth (PyData.depthAll (xs.map (py n))) ≤ n
    have h1 := ih x h.1
    have h2 := depAll_of ih h.2
    omega
theorem can_of : ∀ (n : Nat) (d : D), plD n d = true → (py n d).canLay0 = true ∧ (py n d).depth ≤ n
  | n, .non, _ => by rw [py_non]; exact ⟨rfl, Nat.zero_le _⟩
  | n, .bl b, _ => by rw [py_bl]; exact ⟨rfl, Nat.zero_le _⟩
  | n, .int j, _ => by rw [py_int]; exact ⟨rfl, Nat.zero_le _⟩
  | n, .str x, h => by
    rw [py_str]
    rw [plD_str] at h
    exact ⟨h, Nat.zero_le _⟩
  | n + 1, .tup xs, h => ⟨canAll_of (fun d hd => (can_of n d hd).1) h, Nat.succ_le_succ (depAll_of (fun d hd => (can_of n d hd).2) h)⟩
  | n + 1, .lst xs, h => ⟨canAll_of (fun d hd => (can_of n d hd).1) h, Nat.succ_le_succ (depAll_of (fun d hd => (can_of n d hd).2) h)⟩
  | 0, .tup _, h => by cases h
  | 0, .lst _, h => by cases h
  | 0, .ref _, h => by cases h
  | 0, .ty _, h => by cases h
  | 0, .ins _ _ _, h => by cases h
  | _ + 1, .ref _, h => by cases h
  | _ + 1, .ty _, h => by cases h
  | _ + 1, .ins _ _ _, h => by cases h
theorem shaped_of {n : Nat} (hn : n ≤ 64) {d : D} (h : plD n d = true) : SeqAt.shaped (py n d) = true := by
  obtain ⟨h1, h2⟩ := can_of n d h
  unfold SeqAt.shaped
  rw [h1, decide_eq_true (Nat.le_trans h2 hn)]
  rfl
section
variable {X : Cx} {T : Ct} {e a b c : Expr} {pos : Pos} {K : PySem.W.Frag} {F F' F1 H H' H1 : Hp} {σ : St} {Γ : Gm} {M M' : Mm} {ta tb tc : AE} {tA tB : AT} {es : List Expr} {tr : AA} {B : Bx}
/-- read through -/
def rdM (d : D) (M : Mm) (k : D → Prop) : Prop := match d with
  | .ref l => ∃ xs, (l, MO.lst xs) ∈ M ∧ k (.lst xs)
  | d => k d
theorem rdM_is {d : D} {k : D → Prop} {v : V} (h : Hs K B M F H) (i : Is K F v d) (q : rdM d M k) : ∃ d', Is K H v d' ∧ k d' := by
  unfold rdM at q
  (first | split at q)
  · obtain ⟨xs, hm, q⟩ := q
    cases i
    obtain ⟨vs, e, z⟩ := h.lst hm
    exact ⟨_, .lst (.inl (.inl e)) (z.mono h.sub), q⟩
  · exact ⟨_, i.mono h.sub, q⟩
def eqS : D → D → Option Bool
  | .int i, .int j => some (decide (i = j))
  | .bl i, .bl j => some (decide (i = j))
  | .str x, .str y => some (decide (x = y))
  | .non, .non => some true
  | .non, .int _ => some false
  | .int _, .non => some false
  | .non, .bl _ => some false
  | .bl _, .non => some false
  | .non, .str _ => some false
  | .str _, .non => some false
  | .int _, .str _ => some false
  | .str _, .int _ => some false
  | .bl _, .str _ => some false
  | .str _, .bl _ => some false
  | _, _ => none
def fEqB (neg : Bool → Bool) (d e : D) (M : Mm) (Φ : AK) : Prop := match eqS d e with
  | some b => Φ (.bl (neg b)) M
  | none => rdM d M fun d' => rdM e M fun e' => (plD 60 d' = true ∧ plD 60 e' = true) ∧ Φ (.bl (neg (PyData.eqv (py 60 d') (py 60 e')))) M
abbrev fEq : A2 := fEqB fun b => b
abbrev fNe : A2 := fEqB fun b => !b
theorem eqS_of {d e : D} {x y : V} {b : Bool} (i1 : Is K F x d) (i2 : Is K F y e) (h : eqS d e = some b) : scal x y = true ∧ decide (x = y) = b := by
  cases d <;> cases e <;> (first | cases h) <;> (cases i1; cases i2; refine ⟨rfl, ?_⟩; simp)
theorem ab_eqG {neg : Bool → Bool} : Ab2 K B (fun x y H Q => (scal x y = true ∧ Q (.bl (neg (decide (x = y)))) H) ∨ (∃ d e, Dp K H x d ∧ Dp K H y e ∧ SeqAt.shaped d = true ∧ SeqAt.shaped e = true ∧ Q (.bl (neg (PyData.eqv d e))) H)) (fEqB neg) := fun F H x y d e M Φ Q h i1 i2 q z => by
  unfold fEqB at q
  (first | split at q)
  · rename_i b hb
    obtain ⟨h1, h2⟩ := eqS_of i1 i2 hb
    exact .inl ⟨h1, by rw [h2]; exact z _ M _ F H (Same.refl F) h (.bl _) q⟩
  · obtain ⟨d', j1, q⟩ := rdM_is h i1 q
    obtain ⟨e', j2, q⟩ := rdM_is h i2 q
    exact .inr ⟨_, _, dp_of (Same.refl H) 60 d' x q.1.1 j1, dp_of (Same.refl H) 60 e' y q.1.2 j2, shaped_of (by decide) q.1.1, shaped_of (by decide) q.1.2, z _ M _ F H (Same.refl F) h (.bl _) q.2⟩
theorem op_eqA {k : Nat} (hr : Room k X.A) : OpR X (compareOp .Eq) (fun x y H Q => (scal x y = true ∧ Q (.bl (decide (x = y))) H) ∨ (∃ d e, Dp X.K H x d ∧ Dp X.K H y e ∧ SeqAt.shaped d = true ∧ SeqAt.shaped e = true ∧ Q (.bl (PyData.eqv d e)) H)) := op_eq.or (op_eqD hr.units)
theorem op_neA {k : Nat} (hr : Room k X.A) : OpR X (compareOp .NotEq) (fun x y H Q => (scal x y = true ∧ Q (.bl (!decide (x = y))) H) ∨ (∃ d e, Dp X.K H x d ∧ Dp X.K H y e ∧ SeqAt.shaped d = true ∧ SeqAt.shaped e = true ∧ Q (.bl (!PyData.eqv d e)) H)) := op_ne.or (op_neD hr.units)
theorem de_eq {k : Nat} (hr : Room k X.A) (ha : DE X T a ta) (hb : DE X T b tb) : DE X T (.Compare a [.Eq] [b] pos) (aOp fEq ta tb) := de_cmp (op_eqA hr) (ab_eqG (neg := fun b => b)) ha hb
theorem de_ne {k : Nat} (hr : Room k X.A) (ha : DE X T a ta) (hb : DE X T b tb) : DE X T (.Compare a [.NotEq] [b] pos) (aOp fNe ta tb) := de_cmp (op_neA hr) (ab_eqG (neg := fun b => !b)) ha hb
/-- is None, is True -/
def isN : D → Bool
  | .non => true
  | _ => false
theorem isN_of {d : D} {x : V} (i : Is K F x d) : decide (x = .non) = isN d := by cases i <;> rfl
def fIsB (neg : Bool → Bool) (d e : D) (M : Mm) (Φ : AK) : Prop := match e with
  | .non => Φ (.bl (neg (isN d))) M
  | .bl b => match d with
    | .bl c => Φ (.bl (neg (decide (c = b)))) M
    | _ => False
  | _ => False
abbrev fIs : A2 := fIsB fun b => b
abbrev fIsNot : A2 := fIsB fun b => !b
theorem ab_isG {neg : Bool → Bool} : Ab2 K B (fun x y H Q => (y = .non ∧ Q (.bl (neg (decide (x = .non)))) H) ∨ (∃ a b : Bool, x = .bl a ∧ y = .bl b ∧ Q (.bl (neg (decide (a = b)))) H)) (fIsB neg) := fun F H x y d e M Φ Q h i1 i2 q z => by
  unfold fIsB at q
  (first | split at q)
  · cases i2
    exact .inl ⟨rfl, by rw [isN_of i1]; exact z _ M _ F H (Same.refl F) h (.bl _) q⟩
  · (first | split at q)
    · cases i1
      cases i2
      exact .inr ⟨_, _, rfl, rfl, z _ M _ F H (Same.refl F) h (.bl _) q⟩
    · exact q.elim
  · exact q.elim
theorem de_is (ha : DE X T a ta) (hb : DE X T b tb) : DE X T (.Compare a [.Is] [b] pos) (aOp fIs ta tb) := de_cmp (op_isN.or op_isBl) (ab_isG (neg := fun b => b)) ha hb
theorem de_isNot (ha : DE X T a ta) (hb : DE X T b tb) : DE X T (.Compare a [.IsNot] [b] pos) (aOp fIsNot ta tb) := de_cmp (op_notN.or op_notBl) (ab_isG (neg := fun b => !b)) ha hb

/-! ### built-ins upon ints -/
def fAbs (ds : List D) (M : Mm) (Φ : AK) : Prop := match ds with
  | [.int i] => Φ (.int (if i < 0 then -i else i)) M
  | _ => False
def fInt (ds : List D) (M : Mm) (Φ : AK) : Prop := match ds with
  | [.int i] => Φ (.int i) M
  | [.bl b] => Φ (.int (if b then 1 else 0)) M
  | _ => False
def fMax2 (ds : List D) (M : Mm) (Φ : AK) : Prop := match ds with
  | [.int i, .int j] => Φ (.int (max i j)) M
  | _ => False
def fMin2 (ds : List D) (M : Mm) (Φ : AK) : Prop := match ds with
  | [.int i, .int j] => Φ (.int (min i j)) M
  | _ => False
variable {p : Pos}
theorem de_abs (hg : Gl X "abs") (hm : X.mg "abs" = none) (ha : DE X T a ta) (hs : starEach [a] X.env = (false, eval a X.env) :: starEach [] X.env := by rfl) (hpl : (backTo pos (starEach [] X.env)).any (·.1) = false := by rfl) : DE X T (.Call (.Name "abs" p) [a] [] pos) (aCB fAbs (aCons ta aNil)) :=
  de_callB call_abs (fun F H vs ds M Φ Q h i q z => by
    unfold fAbs at q
    (first | split at q)
    · match vs, i with
      | [_], .cons i1 .nil =>
        cases i1
        exact ⟨_, rfl, z _ M _ F H (Same.refl F) h (.int _) q⟩
    · exact q.elim) hg hm PyProof.Rows.boot_abs (da_cons ha da_nil hs) (by decide) (by decide) hs hpl
theorem de_callInt (hg : Gl X "int") (hm : X.mg "int" = none) (ha : DE X T a ta) (hs : starEach [a] X.env = (false, eval a X.env) :: starEach [] X.env := by rfl) (hpl : (backTo pos (starEach [] X.env)).any (·.1) = false := by rfl) : DE X T (.Call (.Name "int" p) [a] [] pos) (aCB fInt (aCons ta aNil)) :=
  de_callTy call_int1 (fun F H vs ds M Φ Q h i q z => by
    unfold fInt at q
    (first | split at q)
    · match vs, i with
      | [_], .cons i1 .nil =>
        cases i1
        exact .inl ⟨_, rfl, z _ M _ F H (Same.refl F) h (.int _) q⟩
    · match vs, i with
      | [_], .cons i1 .nil =>
        cases i1
        exact .inr ⟨_, rfl, z _ M _ F H (Same.refl F) h (.int _) q⟩
    · exact q.elim) hg hm PyProof.Rows.boot_int (da_cons ha da_nil hs) (by decide) (by decide) hs hpl
theorem de_max2 (hc : X.calm = true) (hg : Gl X "max") (hm : X.mg "max" = none) (ha : DE X T a ta) (hb : DE X T b tb) (hs : starEach [a, b] X.env = (false, eval a X.env) :: starEach [b] X.env := by rfl) (hs2 : starEach [b] X.env = (false, eval b X.env) :: starEach [] X.env := by rfl) (hpl : (backTo pos (starEach [b] X.env)).any (·.1) = false := by rfl) : DE X T (.Call (.Name "max" p) [a, b] [] pos) (aCB fMax2 (aCons ta (aCons tb aNil))) :=
  de_callB (call_max2 hc) (fun F H vs ds M Φ Q h i q z => by
    unfold fMax2 at q
    (first | split at q)
    · match vs, i with
      | [_, _], .cons i1 (.cons i2 .nil) =>
        cases i1
        cases i2
        rename_i i' j'
        refine ⟨_, _, rfl, ?_⟩
        have e : (if j' > i' then j' else i') = max i' j' := by split <;> omega
        rw [e]
        exact z _ M _ F H (Same.refl F) h (.int _) q
    · exact q.elim) hg hm PyProof.Rows.boot_max (da_cons ha (da_cons hb da_nil hs2) hs) (by decide) (by decide) hs hpl
theorem de_min2 (hc : X.calm = true) (hg : Gl X "min") (hm : X.mg "min" = none) (ha : DE X T a ta) (hb : DE X T b tb) (hs : starEach [a, b] X.env = (false, eval a X.env) :: starEach [b] X.env := by rfl) (hs2 : starEach [b] X.env = (false, eval b X.env) :: starEach [] X.env := by rfl) (hpl : (backTo pos (starEach [b] X.env)).any (·.1) = false := by rfl) : DE X T (.Call (.Name "min" p) [a, b] [] pos) (aCB fMin2 (aCons ta (aCons tb aNil))) :=
  de_callB (call_min2 hc) (fun F H vs ds M Φ Q h i q z => by
    unfold fMin2 at q
    (first | split at q)
    · match vs, i with
      | [_, _], .cons i1 (.cons i2 .nil) =>
        cases i1
        cases i2
        rename_i i' j'
        refine ⟨_, _, rfl, ?_⟩
        have e : (if j' < i' then j' else i') = min i' j' := by split <;> omega
        rw [e]
        exact z _ M _ F H (Same.refl F) h (.int _) q
    · exact q.elim) hg hm (by decide +kernel) (da_cons ha (da_cons hb da_nil hs2) hs) (by decide) (by decide) hs hpl
/-! ### isinstance -/
def tyD : D → Mm → Option String
  | .non, _ => some "NoneType"
  | .bl _, _ => some "bool"
  | .int _, _ => some "int"
  | .str _, _ => some "str"
  | .tup _, _ => some "tuple"
  | .lst _, _ => some "list"
  | _, _ => none
theorem tyX_of {K : PySem.W.Frag} {F H : Hp} {M : Mm} {d : D} {x : V} {t : String} (s : Same F H) (i : Is K F x d) (h : tyD d M = some t) : TyX K H x (.type t) := by
  cases d <;> cases h <;> cases i
  · exact .base .non
  · exact .base (.bl _)
  · exact .base (.int _)
  · exact .base (.str _)
  · rename_i hq hl
    rcases same_t s hq with (q | ⟨o, q⟩) | ⟨o, its, n, q, c, _⟩
    · exact .base (.tup q)
    · exact .fTuple q
    · exact .kTuple q c
  · rename_i hq hl
    rcases s.seq hq with (q | ⟨o, q⟩) | ⟨o, its, n, q, c, _⟩
    · exact .base (.lst q)
    · exact .base (.frz q)
    · exact .kList q c
def fIsi (n : String) (d : D) (M : Mm) (Φ : AK) : Prop := match tyD d M with
  | some t => match kitB t n with
    | some b => Φ (.bl b) M
    | none => False
  | none => False
def aIsi (n : String) (ta : AE) (Γ : Gm) (M : Mm) (Φ : AK) : Prop := ta Γ M fun d M1 => fIsi n d M1 Φ
theorem de_isi {x : Str} {n : String} {p' : Pos} (hg : Gl X "isinstance") (hm : X.mg "isinstance" = none) (hg2 : Gl X x) (hm2 : X.mg x = none) (hv : bootBuiltins x = some (.type n)) (ha : DE X T a ta) (hn : x ≠ "__name__" := by decide) (hd : (x == ("__debug__" : Str)) = false := by decide)
    (hs : starEach [a, .Name x p'] X.env = (false, eval a X.env) :: starEach [.Name x p'] X.env := by rfl) (hs2 : starEach [.Name x p'] X.env = (false, eval (.Name x p') X.env) :: starEach [] X.env := by rfl) (hpl : (backTo pos (starEach [.Name x p'] X.env)).any (·.1) = false := by rfl) :
    DE X T (.Call (.Name "isinstance" p) [a, .Name x p'] [] pos) (aIsi n ta) :=
  de_of (pe_callB call_isi hg hm PyProof.Rows.boot_isinstance (pa_cons ha (pa_cons (pe_bltn hg2 hm2 hv (v := .ty n) rfl hn hd) pa_nil hs2) hs) (by decide) (by decide) hs hpl) fun F σ H Γ M Φ Q w q z => cE_mk w q fun d M1 v F1 H1 s1 h1 i1 q1 => by
    unfold fIsi at q1
    (first | split at q1)
    · rename_i t ht
      (first | split at q1)
      · rename_i b hb
        exact ⟨v, .ty n, _, _, b, rfl, .ty n, tyX_of h1.sub i1 ht, kit_ty hb, z _ M1 _ F1 H1 s1 h1 (.bl b) q1⟩
      · exact q1.elim
    · exact q1.elim
/-! ### sequences made of sequences -/
def fTuple (ds : List D) (M : Mm) (Φ : AK) : Prop := match ds with
  | [d] => seqOf d M fun xs => Φ (.tup xs) M
  | _ => False
theorem de_tupleOf (hg : Gl X "tuple") (hm : X.mg "tuple" = none) (ha : DE X T a ta) (hs : starEach [a] X.env = (false, eval a X.env) :: starEach [] X.env := by rfl) (hpl : (backTo pos (starEach [] X.env)).any (·.1) = false := by rfl) : DE X T (.Call (.Name "tuple" p) [a] [] pos) (aCB fTuple (aCons ta aNil)) :=
  de_callTy call_tuple_of (fun F H vs ds M Φ Q h i q z => by
    unfold fTuple at q
    (first | split at q)
    · match vs, i with
      | [_], .cons i1 .nil =>
        have fin : ∀ {l : Addr} {ws : List V} {xs : List D}, SqL X.K H l ws → IsL X.K F ws xs → Φ (.tup xs) M → ∃ p ys, [V.ref l] = [.ref p] ∧ ((SqL X.K H p ys ∧ ∀ l, H l = none → Q (.ref l) (upd H l (.tup ys))) ∨ (SqT X.K H p ys ∧ Q (.ref p) H)) := fun {l ws xs} hq hl q => ⟨l, ws, rfl, .inl ⟨hq, fun p hp => by
          have n1 := h.free hp
          exact z _ M _ _ _ (upd_same_ext n1) (h.laid hp) (.tup (.inl (.inl upd_same)) (hl.mono (upd_same_ext n1))) q⟩⟩
        unfold seqOf at q
        (first | split at q)
        · cases i1 with
          | lst hq hl => exact fin (h.sub.seq hq) hl q
        · cases i1 with
          | tup hq hl => exact ⟨_, _, rfl, .inr ⟨same_t h.sub hq, z _ M _ F H (Same.refl F) h (.tup hq hl) q⟩⟩
        · obtain ⟨xs, hm, q⟩ := q
          cases i1
          obtain ⟨vs, e, zz⟩ := h.lst hm
          exact fin (.inl (.inl e)) zz q
        · exact q.elim
    · exact q.elim) hg hm (by decide +kernel) (da_cons ha da_nil hs) (by decide) (by decide) hs hpl
/-- list(x): not changed; changed later -/
def fList (ds : List D) (M : Mm) (Φ : AK) : Prop := match ds with
  | [d] => seqOf d M fun xs => Φ (.lst xs) M
  | _ => False
def fListM (ds : List D) (M : Mm) (Φ : AK) : Prop := match ds with
  | [d] => seqOf d M fun xs => ∀ l, Φ (.ref l) ((l, .lst xs) :: M)
  | _ => False
theorem de_listOf (hg : Gl X "list") (hm : X.mg "list" = none) (ha : DE X T a ta) (hs : starEach [a] X.env = (false, eval a X.env) :: starEach [] X.env := by rfl) (hpl : (backTo pos (starEach [] X.env)).any (·.1) = false := by rfl) : DE X T (.Call (.Name "list" p) [a] [] pos) (aCB fList (aCons ta aNil)) :=
  de_callTy call_list_of (fun F H vs ds M Φ Q h i q z => by
    unfold fList at q
    (first | split at q)
    · match vs, i with
      | [_], .cons i1 .nil =>
        obtain ⟨l, ws, xs, rfl, hq, hl, q⟩ := seq_at h i1 q
        refine ⟨l, ws, rfl, hq, fun p hp => ?_⟩
        have n1 := h.free hp
        exact z _ M _ _ _ (upd_same_ext n1) (h.laid hp) (.lst (.inl (.inl upd_same)) (hl.mono (upd_same_ext n1))) q
    · exact q.elim) hg hm (by decide +kernel) (da_cons ha da_nil hs) (by decide) (by decide) hs hpl
theorem de_listOfM (hg : Gl X "list") (hm : X.mg "list" = none) (ha : DE X T a ta) (hs : starEach [a] X.env = (false, eval a X.env) :: starEach [] X.env := by rfl) (hpl : (backTo pos (starEach [] X.env)).any (·.1) = false := by rfl) : DE X T (.Call (.Name "list" p) [a] [] pos) (aCB fListM (aCons ta aNil)) :=
  de_callTy call_list_of (fun F H vs ds M Φ Q h i q z => by
    unfold fListM at q
    (first | split at q)
    · match vs, i with
      | [_], .cons i1 .nil =>
        obtain ⟨l, ws, xs, rfl, hq, hl, q⟩ := seq_at h i1 q
        refine ⟨l, ws, rfl, hq, fun p hp => ?_⟩
        exact z (.ref p) ((p, .lst xs) :: M) _ _ _ (Same.refl F) (h.newM (o := .lst xs) hp ⟨_, upd_same, hl⟩) (.ref p) (q p)
    · exact q.elim) hg hm (by decide +kernel) (da_cons ha da_nil hs) (by decide) (by decide) hs hpl
/-! ### sums, all, any, the greatest -/
def fAll (ds : List D) (M : Mm) (Φ : AK) : Prop := match ds with
  | [.lst xs] => ∃ bs : List Bool, xs = bs.map D.bl ∧ Φ (.bl (bs.all id)) M
  | _ => False
def fAny (ds : List D) (M : Mm) (Φ : AK) : Prop := match ds with
  | [.lst xs] => ∃ bs : List Bool, xs = bs.map D.bl ∧ Φ (.bl (bs.any id)) M
  | _ => False
def fSum (ds : List D) (M : Mm) (Φ : AK) : Prop := match ds with
  | [.lst xs] => ∃ ns : List Int, xs = ns.map D.int ∧ Φ (.int ns.sum) M
  | _ => False
def fMaxL (ds : List D) (M : Mm) (Φ : AK) : Prop := match ds with
  | [.lst xs] => ∃ ns : List Int, xs = ns.map D.int ∧ 0 < ns.length ∧ ∀ m, m ∈ ns → (∀ y, y ∈ ns → y ≤ m) → Φ (.int m) M
  | _ => False
def fMinL (ds : List D) (M : Mm) (Φ : AK) : Prop := match ds with
  | [.lst xs] => ∃ ns : List Int, xs = ns.map D.int ∧ 0 < ns.length ∧ ∀ m, m ∈ ns → (∀ y, y ∈ ns → m ≤ y) → Φ (.int m) M
  | _ => False
theorem de_all (hc : X.calm = true) (hg : Gl X "all") (hm : X.mg "all" = none) (ha : DE X T a ta) (hs : starEach [a] X.env = (false, eval a X.env) :: starEach [] X.env := by rfl) (hpl : (backTo pos (starEach [] X.env)).any (·.1) = false := by rfl) : DE X T (.Call (.Name "all" p) [a] [] pos) (aCB fAll (aCons ta aNil)) :=
  de_callB (cr_all hc) (fun F H vs ds M Φ Q h i q z => by
    unfold fAll at q
    (first | split at q)
    · match vs, i with
      | [_], .cons (.lst hq hl) .nil =>
        obtain ⟨bs, rfl, q⟩ := q
        rw [hl.bls] at hq
        exact ⟨_, bs, rfl, h.sub.seq hq, z _ M _ F H (Same.refl F) h (.bl _) q⟩
    · exact q.elim) hg hm (by decide +kernel) (da_cons ha da_nil hs) (by decide) (by decide) hs hpl
theorem de_any (hc : X.calm = true) (hg : Gl X "any") (hm : X.mg "any" = none) (ha : DE X T a ta) (hs : starEach [a] X.env = (false, eval a X.env) :: starEach [] X.env := by rfl) (hpl : (backTo pos (starEach [] X.env)).any (·.1) = false := by rfl) : DE X T (.Call (.Name "any" p) [a] [] pos) (aCB fAny (aCons ta aNil)) :=
  de_callB (cr_any hc) (fun F H vs ds M Φ Q h i q z => by
    unfold fAny at q
    (first | split at q)
    · match vs, i with
      | [_], .cons (.lst hq hl) .nil =>
        obtain ⟨bs, rfl, q⟩ := q
        rw [hl.bls] at hq
        exact ⟨_, bs, rfl, h.sub.seq hq, z _ M _ F H (Same.refl F) h (.bl _) q⟩
    · exact q.elim) hg hm (by decide +kernel) (da_cons ha da_nil hs) (by decide) (by decide) hs hpl
theorem de_sum (hc : X.calm = true) (hg : Gl X "sum") (hm : X.mg "sum" = none) (ha : DE X T a ta) (hs : starEach [a] X.env = (false, eval a X.env) :: starEach [] X.env := by rfl) (hpl : (backTo pos (starEach [] X.env)).any (·.1) = false := by rfl) : DE X T (.Call (.Name "sum" p) [a] [] pos) (aCB fSum (aCons ta aNil)) :=
  de_callB (cr_sum hc) (fun F H vs ds M Φ Q h i q z => by
    unfold fSum at q
    (first | split at q)
    · match vs, i with
      | [_], .cons (.lst hq hl) .nil =>
        obtain ⟨bs, rfl, q⟩ := q
        rw [hl.ints] at hq
        exact ⟨_, bs, rfl, h.sub.seq hq, z _ M _ F H (Same.refl F) h (.int _) q⟩
    · exact q.elim) hg hm (by decide +kernel) (da_cons ha da_nil hs) (by decide) (by decide) hs hpl
theorem de_maxL (hc : X.calm = true) (hg : Gl X "max") (hm : X.mg "max" = none) (ha : DE X T a ta) (hs : starEach [a] X.env = (false, eval a X.env) :: starEach [] X.env := by rfl) (hpl : (backTo pos (starEach [] X.env)).any (·.1) = false := by rfl) : DE X T (.Call (.Name "max" p) [a] [] pos) (aCB fMaxL (aCons ta aNil)) :=
  de_callB (cr_max hc) (fun F H vs ds M Φ Q h i q z => by
    unfold fMaxL at q
    (first | split at q)
    · match vs, i with
      | [_], .cons (.lst hq hl) .nil =>
        obtain ⟨bs, rfl, h0, q⟩ := q
        rw [hl.ints] at hq
        exact ⟨_, bs, rfl, h.sub.seq hq, h0, fun m hm hle => z _ M _ F H (Same.refl F) h (.int _) (q m hm hle)⟩
    · exact q.elim) hg hm PyProof.Rows.boot_max (da_cons ha da_nil hs) (by decide) (by decide) hs hpl
theorem de_minL (hc : X.calm = true) (hg : Gl X "min") (hm : X.mg "min" = none) (ha : DE X T a ta) (hs : starEach [a] X.env = (false, eval a X.env) :: starEach [] X.env := by rfl) (hpl : (backTo pos (starEach [] X.env)).any (·.1) = false := by rfl) : DE X T (.Call (.Name "min" p) [a] [] pos) (aCB fMinL (aCons ta aNil)) :=
  de_callB (cr_min hc) (fun F H vs ds M Φ Q h i q z => by
    unfold fMinL at q
    (first | split at q)
    · match vs, i with
      | [_], .cons (.lst hq hl) .nil =>
        obtain ⟨bs, rfl, h0, q⟩ := q
        rw [hl.ints] at hq
        exact ⟨_, bs, rfl, h.sub.seq hq, h0, fun m hm hle => z _ M _ F H (Same.refl F) h (.int _) (q m hm hle)⟩
    · exact q.elim) hg hm (by decide +kernel) (da_cons ha da_nil hs) (by decide) (by decide) hs hpl
end
end DL

set_option Elab.async false
set_option linter.all false
set_option maxRecDepth 100000
set_option maxHeartbeats 2000000
namespace DL
open PySem L2
section
variable {X : Cx} {T : Ct} {a b : Expr} {pos : Pos} {ta tb : AE}
theorem dt_lt (ha : DE X T a ta) (hb : DE X T b tb) : DT X T (.Compare a [.Lt] [b] pos) (aB (aOp fLt ta tb)) := dt_cmp op_lt ab_B0 ha hb
theorem dt_le (ha : DE X T a ta) (hb : DE X T b tb) : DT X T (.Compare a [.LtE] [b] pos) (aB (aOp fLe ta tb)) := dt_cmp op_le ab_B0 ha hb
theorem dt_gt (ha : DE X T a ta) (hb : DE X T b tb) : DT X T (.Compare a [.Gt] [b] pos) (aB (aOp fGt ta tb)) := dt_cmp op_gt ab_B0 ha hb
theorem dt_ge (ha : DE X T a ta) (hb : DE X T b tb) : DT X T (.Compare a [.GtE] [b] pos) (aB (aOp fGe ta tb)) := dt_cmp op_ge ab_B0 ha hb
theorem dt_eq {k : Nat} (hr : Room k X.A) (ha : DE X T a ta) (hb : DE X T b tb) : DT X T (.Compare a [.Eq] [b] pos) (aB (aOp fEq ta tb)) := dt_cmp (op_eqA hr) (ab_eqG (neg := fun b => b)) ha hb
theorem dt_ne {k : Nat} (hr : Room k X.A) (ha : DE X T a ta) (hb : DE X T b tb) : DT X T (.Compare a [.NotEq] [b] pos) (aB (aOp fNe ta tb)) := dt_cmp (op_neA hr) (ab_eqG (neg := fun b => !b)) ha hb
theorem dt_is (ha : DE X T a ta) (hb : DE X T b tb) : DT X T (.Compare a [.Is] [b] pos) (aB (aOp fIs ta tb)) := dt_cmp (op_isN.or op_isBl) (ab_isG (neg := fun b => b)) ha hb
theorem dt_isNot (ha : DE X T a ta) (hb : DE X T b tb) : DT X T (.Compare a [.IsNot] [b] pos) (aB (aOp fIsNot ta tb)) := dt_cmp (op_notN.or op_notBl) (ab_isG (neg := fun b => !b)) ha hb
end
theorem all_ints {n : Nat} {ns : List Int} : (ns.map D.int).all (plD n) = true := by
  rw [List.all_eq_true]
  intro d hd
  obtain ⟨i, _, rfl⟩ := List.mem_map.mp hd
  exact plD_int
section
variable {X : Cx} {T : Ct} {a : Expr} {pos lpos : Pos} {ta ta' : AE} {tt tt' : AT}
theorem de_imp (h : DE X T a ta) (k : ∀ Γ M Φ, ta' Γ M Φ → ta Γ M Φ) : DE X T a ta' := ⟨fun pins s σ H Q I ⟨F, Γ, M, Φ, w, q, z⟩ => h.run pins s σ H Q I ⟨F, Γ, M, Φ, w, k Γ M Φ q, z⟩⟩
theorem dt_imp (h : DT X T a tt) (k : ∀ Γ M Φ, tt' Γ M Φ → tt Γ M Φ) : DT X T a tt' := ⟨fun pins s σ H Q I ⟨F, Γ, M, Φ, w, q, z⟩ => h.run pins s σ H Q I ⟨F, Γ, M, Φ, w, k Γ M Φ q, z⟩⟩
/-- x != [], x == [] -/
def lstOf (d : D) (M : Mm) (k : List D → Prop) : Prop := match d with
  | .lst xs => k xs
  | .ref l => ∃ xs, (l, MO.lst xs) ∈ M ∧ k xs
  | _ => False
def fNil (neg : Bool → Bool) (d : D) (M : Mm) (k : Bool → Mm → Prop) : Prop := lstOf d M fun xs => xs.all (plD 59) = true ∧ k (neg xs.isEmpty) M
theorem nil_go {neg : Bool → Bool} {d : D} {M : Mm} {k : Bool → Mm → Prop} (h : fNil neg d M k) : fEqB neg d (.lst []) M fun d M => match d with
  | .bl b => k b M
  | _ => False := by
  unfold fNil lstOf at h
  unfold fEqB
  split at h
  · rename_i xs
    refine ⟨⟨h.1, rfl⟩, ?_⟩
    have e : PyData.eqv (py 60 (.lst xs)) (py 60 (.lst [])) = xs.isEmpty := (eqv_nil).trans (by cases xs <;> rfl)
    show k (neg _) M
    rw [e]
    exact h.2
  · obtain ⟨xs, hm, h⟩ := h
    refine ⟨xs, hm, ⟨h.1, rfl⟩, ?_⟩
    have e : PyData.eqv (py 60 (.lst xs)) (py 60 (.lst [])) = xs.isEmpty := (eqv_nil).trans (by cases xs <;> rfl)
    show k (neg _) M
    rw [e]
    exact h.2
  · exact h.elim
theorem fEqB_mono {neg : Bool → Bool} {d e : D} {M : Mm} {Φ Φ' : AK} (h : ∀ b, Φ (.bl b) M → Φ' (.bl b) M) (q : fEqB neg d e M Φ) : fEqB neg d e M Φ' := by
  unfold fEqB at q ⊢
  (first | split at q)
  · exact h _ q
  · unfold rdM at q ⊢
    (first | split at q)
    · obtain ⟨xs, hm, q⟩ := q
      refine ⟨xs, hm, ?_⟩
      (first | split at q)
      · obtain ⟨ys, hm2, q⟩ := q
        exact ⟨ys, hm2, q.1, h _ q.2⟩
      · exact ⟨q.1, h _ q.2⟩
    · (first | split at q)
      · obtain ⟨ys, hm2, q⟩ := q
        exact ⟨ys, hm2, q.1, h _ q.2⟩
      · exact ⟨q.1, h _ q.2⟩
def aNil? (neg : Bool → Bool) (ta : AE) (Γ : Gm) (M : Mm) (Φ : Bool → Mm → Prop) : Prop := ta Γ M fun d M1 => fNil neg d M1 Φ
def aNilV (neg : Bool → Bool) (ta : AE) (Γ : Gm) (M : Mm) (Φ : AK) : Prop := ta Γ M fun d M1 => fNil neg d M1 fun b M2 => Φ (.bl b) M2
end
/-- a reading is monotone in what is wanted: expressions made of our rules are -/
theorem nilT {X : Cx} {T : Ct} {a : Expr} {pos lpos : Pos} {ta : AE} {k : Nat} (hr : Room k X.A) (ha : DE X T a ta) : DT X T (.Compare a [.NotEq] [.List [] lpos] pos) (aNil? (fun b => !b) ta) :=
  dt_of (pt_cmpR (op_neA hr) ha (de_lst (T := T) da_nil) (nomark _)) fun F σ H Γ M Φ Q w q z =>
    cE_mk w q fun d M1 x F1 H1 s1 h1 i1 q1 => cE_mk (Φ := fun e M2 => e = .lst [] ∧ M2 = M1) (w.go s1 h1) ⟨by decide, rfl, rfl⟩ fun e M2 y F2 H2 s2 h2 i2 ⟨e1, e2⟩ => by
      subst e1 e2
      exact ab_eqG (neg := fun b => !b) F2 H2 x y d (.lst []) M2 _ (fun x H' => ∃ k, x = V.bl k ∧ Q k H') h2 (i1.mono s2) i2 (nil_go q1) fun g M3 v F3 H3 s3 h3 i3 q3 => by
        cases g with
        | bl b =>
          cases i3
          exact ⟨b, rfl, z b M3 F3 H3 ((s1.trans s2).trans s3) h3 q3⟩
        | _ => exact q3.elim
theorem nilT' {X : Cx} {T : Ct} {a : Expr} {pos lpos : Pos} {ta : AE} {k : Nat} (hr : Room k X.A) (ha : DE X T a ta) : DT X T (.Compare a [.Eq] [.List [] lpos] pos) (aNil? (fun b => b) ta) :=
  dt_of (pt_cmpR (op_eqA hr) ha (de_lst (T := T) da_nil) (nomark _)) fun F σ H Γ M Φ Q w q z =>
    cE_mk w q fun d M1 x F1 H1 s1 h1 i1 q1 => cE_mk (Φ := fun e M2 => e = .lst [] ∧ M2 = M1) (w.go s1 h1) ⟨by decide, rfl, rfl⟩ fun e M2 y F2 H2 s2 h2 i2 ⟨e1, e2⟩ => by
      subst e1 e2
      exact ab_eqG (neg := fun b => b) F2 H2 x y d (.lst []) M2 _ (fun x H' => ∃ k, x = V.bl k ∧ Q k H') h2 (i1.mono s2) i2 (nil_go q1) fun g M3 v F3 H3 s3 h3 i3 q3 => by
        cases g with
        | bl b =>
          cases i3
          exact ⟨b, rfl, z b M3 F3 H3 ((s1.trans s2).trans s3) h3 q3⟩
        | _ => exact q3.elim
/-! ### the law's own end -/
def aspLaw : ASp := fun ds M Φ Ψ => ∃ ns : List Int, ds = [.lst (ns.map D.int)] ∧ ns.length ≤ 63 ∧ M = [] ∧ ∀ M', Φ (.bl true) M'
theorem aspLaw_len : ∀ ds M Φ Ψ, aspLaw ds M Φ Ψ → ds.length = 1 := fun ds M Φ Ψ ⟨ns, e, _⟩ => by rw [e]; rfl
theorem law_conc {K : PySem.W.Frag} {H : Hp} {a : Addr} {ns : List Int} (hl : ns.length ≤ 63) (hS : SqL K H a (ns.map V.int)) : conc K Bx.no aspLaw [.ref a] H (fun v _ => v = .bl true) fun _ _ _ => False :=
  ⟨[.lst (ns.map D.int)], H, [], fun d _ => d = .bl true, fun _ _ => False, .cons (.lst hS (IsL.of_ints ns)) .nil, ⟨Same.refl H, fun _ h => absurd h List.not_mem_nil, List.nodup_nil, trivial, fun _ h => absurd h List.not_mem_nil⟩, ⟨ns, rfl, hl, rfl, fun _ => rfl⟩,
    fun d M' v F' H' _ _ i e => by
      subst e
      cases i
      rfl, fun _ _ _ _ _ _ _ _ _ z => z⟩
theorem law_calm {P : Program} {w : World} {l : List Env} {H : Hp} {s s' : Shared} {e : Value} (h : L2.CX P w l H s (fun _ _ _ => False) e s') : False := by
  obtain ⟨_, _, _, _, _, _, _, _, _, _, _, _, z⟩ := h
  exact z
/-! ### reading on -/
theorem aSeq_step {t u : AS} {A : AEnds} {Γ : Gm} {M : Mm} (h : t { A with nx := u A } Γ M) : aSeq t u A Γ M := h
/-- a word between two statements -/
theorem aSeq_cut {t u : AS} {A : AEnds} {Γ : Gm} {M : Mm} (R : Gm → Mm → Prop) (mono : ∀ g : Gm → Mm → Prop, (∀ Γ' M', R Γ' M' → g Γ' M') → t { A with nx := R } Γ M → t { A with nx := g } Γ M) (h : t { A with nx := R } Γ M) (k : ∀ Γ' M', R Γ' M' → u A Γ' M') : aSeq t u A Γ M := mono _ k h
/-- loops by a word and a measure -/
theorem aWhile_by {t : AT} {tb : AS} {A : AEnds} {Γ : Gm} {M : Mm} (I : Nat → Gm → Mm → Prop) (n : Nat) (h0 : I n Γ M)
    (hs : ∀ n Γ' M', I n Γ' M' → t Γ' M' fun b M1 => (b = true → tb { nx := fun Γ2 M2 => ∃ m, m < n ∧ I m Γ2 M2, rt := A.rt, bk := A.nx, ct := fun Γ2 M2 => ∃ m, m < n ∧ I m Γ2 M2 } Γ' M1) ∧ (b = false → A.nx Γ' M1)) : aWhile t tb A Γ M := ⟨I, ⟨n, h0⟩, hs⟩

/-! ### where the draws come from: [cells, stir] -/
def bxHeap (h c : Addr) : Bx where
  fp := [h, c]
  ok := fun H => h ≠ c ∧ ∃ (cs : List Int) (s : Int), H h = some (.lst [.ref c, .int s]) ∧ H c = some (.lst (cs.map V.int)) ∧ cs.length ≤ 1000
  loc := fun {H H'} e ⟨n, cs, s, h1, h2, h3⟩ => ⟨n, cs, s, (e h (by simp)).trans h1, (e c (by simp)).trans h2, h3⟩
  low := fun {H} ⟨n, cs, s, h1, h2, _⟩ a ha => by
    rcases List.mem_cons.mp ha with e | ha
    · subst e
      exact ⟨_, h1⟩
    · rcases List.mem_cons.mp ha with e | ha
      · subst e
        exact ⟨_, h2⟩
      · exact absurd ha List.not_mem_nil
/-- the box as two mutable lists -/
abbrev heapM (h c : Addr) (cs : List Int) (s : Int) : Mm := [(h, .lst [.ref c, .int s]), (c, .lst (cs.map D.int))]
section
variable {K : PySem.W.Frag} {M : Mm} {F H : Hp} {h c : Addr}
theorem heap_open (x : Hs K (bxHeap h c) M F H) : ∃ cs s, cs.length ≤ 1000 ∧ Hs K Bx.no (heapM h c cs s ++ M) F H := by
  obtain ⟨n, cs, s, h1, h2, h3⟩ := x.box
  have nh : ∀ q ∈ M, q.1 ≠ h := fun q hq e => (x.mem q hq).2.1 (by rw [e]; exact List.mem_cons_self)
  have nc : ∀ q ∈ M, q.1 ≠ c := fun q hq e => (x.mem q hq).2.1 (by rw [e]; exact List.mem_cons_of_mem _ List.mem_cons_self)
  refine ⟨cs, s, h3, x.sub, fun q hq => ?_, ?_, trivial, fun _ hb => absurd hb List.not_mem_nil⟩
  · rcases List.mem_cons.mp hq with e | hq
    · subst e
      exact ⟨x.bfr h List.mem_cons_self, List.not_mem_nil, _, h1, .cons (.ref c) (.cons (.int s) .nil)⟩
    · rcases List.mem_cons.mp hq with e | hq
      · subst e
        exact ⟨x.bfr c (List.mem_cons_of_mem _ List.mem_cons_self), List.not_mem_nil, _, h2, IsL.of_ints cs⟩
      · obtain ⟨m1, m2, m3⟩ := x.mem q hq
        exact ⟨m1, List.not_mem_nil, m3⟩
  · show (h :: c :: M.map (·.1)).Nodup
    rw [List.nodup_cons, List.nodup_cons]
    refine ⟨fun hm => ?_, fun hm => ?_, x.nd⟩
    · rcases List.mem_cons.mp hm with e | hm
      · exact n e
      · obtain ⟨q, hq, e⟩ := List.mem_map.mp hm
        exact nh q hq e
    · obtain ⟨q, hq, e⟩ := List.mem_map.mp hm
      exact nc q hq e
theorem heap_close {cs : List Int} {s : Int} (hl : cs.length ≤ 1000) (x : Hs K Bx.no (heapM h c cs s ++ M) F H) : Hs K (bxHeap h c) M F H := by
  have nd : (h :: c :: M.map (·.1)).Nodup := x.nd
  rw [List.nodup_cons, List.nodup_cons] at nd
  obtain ⟨n1, n2, nd⟩ := nd
  obtain ⟨f1, _, vs1, e1, l1⟩ := x.mem (h, .lst [.ref c, .int s]) List.mem_cons_self
  obtain ⟨f2, _, vs2, e2, l2⟩ := x.mem (c, .lst (cs.map D.int)) (List.mem_cons_of_mem _ List.mem_cons_self)
  refine ⟨x.sub, fun q hq => ?_, nd, ⟨fun e => n1 (by rw [e]; exact List.mem_cons_self), cs, s, ?_, ?_, hl⟩, fun a ha => ?_⟩
  · obtain ⟨m1, _, m3⟩ := x.mem q (List.mem_cons_of_mem _ (List.mem_cons_of_mem _ hq))
    refine ⟨m1, fun hm => ?_, m3⟩
    rcases List.mem_cons.mp hm with e | hm
    · exact n1 (by rw [← e]; exact List.mem_cons_of_mem _ (List.mem_map.mpr ⟨q, hq, rfl⟩))
    · rcases List.mem_cons.mp hm with e | hm
      · exact n2 (by rw [← e]; exact List.mem_map.mpr ⟨q, hq, rfl⟩)
      · exact absurd hm List.not_mem_nil
  · cases l1 with
    | cons i1 i2 =>
      cases i2 with
      | cons i2 i3 =>
        cases i1
        cases i2
        cases i3
        exact e1
  · rw [e2, l2.ints]
  · rcases List.mem_cons.mp ha with e | ha
    · subst e
      exact f1
    · rcases List.mem_cons.mp ha with e | ha
      · subst e
        exact f2
      · exact absurd ha List.not_mem_nil
end
/-- a draw: of the hidden part; of the two lists -/
def spDraw (h : Addr) : ASp := fun ds M Φ _ => match ds with
  | [.ref h', .int n] => h' = h ∧ DivOk 0 n ∧ ∀ r : Int, 0 ≤ r → r < n → Φ (.int r) M
  | _ => False
def spDrawM : ASp := fun ds M Φ _ => ∃ (h c : Addr) (cs : List Int) (s n : Int) (M1 : Mm), ds = [.ref h, .int n] ∧ M = heapM h c cs s ++ M1 ∧ DivOk 0 n ∧ cs.length ≤ 1000 ∧ ∀ (r : Int) (cs' : List Int) (s' : Int), cs'.length ≤ 1000 → 0 ≤ r → r < n → Φ (.int r) (heapM h c cs' s' ++ M1)
theorem draw_box {P : Program} {w : World} {K : PySem.W.Frag} {mg : Str → Option Value} {base : Heap} {k : Nat} {f : Addr} {fd : FuncData} {ps : List Str} {CX : CXT} (G : FnOk P w K mg base CX k f fd ps (conc K Bx.no spDrawM)) (h c : Addr) :
    FnOk P w K mg base CX k f fd ps (conc K (bxHeap h c) (spDraw h)) := G.imp fun vs H Q E ⟨ds, F, M, Φ, Ψ, hv, hh, ha, hq, he⟩ => by
  unfold spDraw at ha
  split at ha
  rotate_left
  · exact ha.elim
  rename_i h' n
  obtain ⟨rfl, hn, ha⟩ := ha
  obtain ⟨cs, s, hl, ho⟩ := heap_open hh
  refine ⟨_, F, heapM h' c cs s ++ M, fun d M' => ∃ r cs' s', d = .int r ∧ 0 ≤ r ∧ r < n ∧ cs'.length ≤ 1000 ∧ M' = heapM h' c cs' s' ++ M, fun _ _ => False, hv, ho, ⟨h', c, cs, s, n, M, rfl, rfl, hn, hl, fun r cs' s' hl' h0 h1 => ⟨r, cs', s', rfl, h0, h1, hl', rfl⟩⟩, fun d M' v F' H' s2 h2 i2 q2 => ?_, fun _ _ _ _ _ _ _ _ _ z => z.elim⟩
  obtain ⟨r, cs', s', rfl, h0, h1, hl', rfl⟩ := q2
  exact hq _ M v F' H' s2 (heap_close hl' h2) i2 (ha r h0 h1)
theorem last_or {α : Type} (xs : List α) : xs = [] ∨ ∃ ys y, xs = ys ++ [y] := by
  cases h : xs.reverse with
  | nil => exact .inl (List.reverse_eq_nil_iff.mp h)
  | cons y ys => exact .inr ⟨ys.reverse, y, by rw [← List.reverse_reverse xs, h, List.reverse_cons]⟩
theorem isE_append {α : Type} {ys : List α} {y : α} : (ys ++ [y]).isEmpty = false := by cases ys <;> rfl
/-- one of some things -/
def spPick (h : Addr) : ASp := fun ds M Φ _ => match ds with
  | [.ref h', .lst xs] => h' = h ∧ (0 < xs.length ∧ xs.length < 1000000) ∧ ∀ d ∈ xs, Φ d M
  | [.ref h', .tup xs] => h' = h ∧ (0 < xs.length ∧ xs.length < 1000000) ∧ ∀ d ∈ xs, Φ d M
  | _ => False
theorem pick_as {α : Type} {emb : α → D} {R : α → Prop} {ds : List D} {P : D → Prop} (h : ∀ d ∈ ds, ∃ x, d = emb x ∧ R x) (k : ∀ x, R x → P (emb x)) : ∀ d ∈ ds, P d := fun d hd => by
  obtain ⟨x, rfl, r⟩ := h d hd
  exact k x r
/-! ### loops of known make -/
def rngI (lo : Int) (n : Nat) : List Int := (List.range n).map fun i => lo + (i : Nat)
theorem rngD_eq (lo : Int) (n : Nat) : rngD lo n = (rngI lo n).map D.int := by
  unfold rngD rngI
  rw [List.map_map]
  rfl
theorem rngI_len (lo : Int) (n : Nat) : (rngI lo n).length = n := by unfold rngI; rw [List.length_map, List.length_range]
theorem mem_rngI {lo x : Int} {n : Nat} (h : x ∈ rngI lo n) : lo ≤ x ∧ x < lo + n := by
  unfold rngI at h
  obtain ⟨i, hi, rfl⟩ := List.mem_map.mp h
  have := List.mem_range.mp hi
  omega
section
variable {ai : AI} {g : AG} {tt : AT} {te : AE} {vs : List Nat} {Γ : Gm} {M : Mm} {Φ : AK}
/-- a comprehension whose parts are functions of the item -/
theorem aLc_pure {α : Type} (xs : List α) (emb : α → D) (f : α → Bool) (v : α → D) (hai : ∀ Φ' : List D → Mm → Prop, Φ' (xs.map emb) M → ai Γ M Φ') (hlen : xs.length ≤ 100000)
    (h : ∀ x ∈ xs, ∀ M', ∃ Γ2, g (emb x) (wipeG Γ vs) = some Γ2 ∧ (∀ Φ' : Bool → Mm → Prop, Φ' (f x) M' → tt Γ2 M' Φ') ∧ (f x = true → ∀ Φ' : AK, Φ' (v x) M' → te Γ2 M' Φ'))
    (k : Φ (.lst ((xs.filter f).map v)) M) : aLc ai g tt te vs Γ M Φ := by
  unfold aLc
  refine hai _ ⟨by rw [List.length_map]; exact hlen, fun i acc M' => acc = ((xs.take i).filter f).map v ∧ M' = M, ⟨rfl, rfl⟩, ?_, ?_⟩
  · rintro i d acc M' l hd ⟨rfl, rfl⟩
    rw [List.getElem?_map] at hd
    cases hx : xs[i]? with
    | none =>
      rw [hx] at hd
      cases hd
    | some x =>
      rw [hx] at hd
      cases hd
      obtain ⟨Γ2, e, h1, h2⟩ := h x (List.mem_of_getElem? hx) ((l, .lst (((xs.take i).filter f).map v)) :: M')
      rw [e]
      refine h1 _ ⟨fun hf => h2 hf _ ⟨M', .here, ?_, rfl⟩, fun hf => ⟨M', .here, ?_, rfl⟩⟩
      · rw [List.take_add_one, hx, List.filter_append, List.map_append]
        show _ ++ [v x] = _ ++ (List.filter f [x]).map v
        rw [List.filter_cons, if_pos hf]
        rfl
      · rw [List.take_add_one, hx, List.filter_append, List.map_append]
        show _ = _ ++ (List.filter f [x]).map v
        rw [List.filter_cons, if_neg (by rw [hf]; decide)]
        show _ = _ ++ []
        rw [List.append_nil]
  · rintro acc M' ⟨rfl, rfl⟩ _
    rw [List.length_map, List.take_length]
    exact k
/-- no test -/
theorem aLc_map {α : Type} (xs : List α) (emb : α → D) (v : α → D) (hai : ∀ Φ' : List D → Mm → Prop, Φ' (xs.map emb) M → ai Γ M Φ') (hlen : xs.length ≤ 100000)
    (h : ∀ x ∈ xs, ∀ M', ∃ Γ2, g (emb x) (wipeG Γ vs) = some Γ2 ∧ (∀ Φ' : AK, Φ' (v x) M' → te Γ2 M' Φ'))
    (k : Φ (.lst (xs.map v)) M) : aLc ai g aYes te vs Γ M Φ := by
  refine aLc_pure xs emb (fun _ => true) v hai hlen (fun x hx M' => ?_) ?_
  · obtain ⟨Γ2, e, h1⟩ := h x hx M'
    exact ⟨Γ2, e, fun _ q => q, fun _ => h1⟩
  · rw [List.filter_eq_self.mpr (fun _ _ => rfl)]
    exact k
end
end DL

set_option Elab.async false
set_option linter.all false
set_option maxRecDepth 100000
set_option maxHeartbeats 2000000
namespace DL
open PySem L2
/-! ### what the readings compute to, by the kind of the data -/
section
variable {Φ : AK} {Φb : Bool → Mm → Prop} {Φl : List D → Mm → Prop} {Φo : Option Int → Mm → Prop} {Γ : Gm} {M : Mm} {A : AEnds} {ta tb tc : AE} {f g : A2} {i j : Int} {b c : Bool} {x y : Str} {d e : D} {xs ys ds : List D} {l : Addr} {neg : Bool → Bool}
theorem aB_bl : aB_k Φb (.bl b) M = Φb b M := rfl
theorem aAndV_bl : aAndV_k tb Γ Φ (.bl c) M = ((c = true → tb Γ M Φ) ∧ (c = false → Φ (.bl false) M)) := rfl
theorem aOrV_bl : aOrV_k tb Γ Φ (.bl c) M = ((c = true → Φ (.bl true) M) ∧ (c = false → tb Γ M Φ)) := rfl
theorem aNotV_bl : aNotV_k Φ (.bl c) M = Φ (.bl (!c)) M := rfl
theorem aChain_bl : aChain_k g tc Γ Φ e (.bl b) M = ((b = true → tc Γ M fun h M4 => g e h M4 Φ) ∧ (b = false → Φ (.bl false) M)) := rfl
theorem aPar_2 {p q : Nat} : aPar_k p q A Γ [d, e] M = A.nx ((Γ.set p (some d)).set q (some e)) M := rfl
theorem aPar3_3 {p q r : Nat} {u : D} : aPar3_k p q r A Γ [d, e, u] M = A.nx (((Γ.set p (some d)).set q (some e)).set r (some u)) M := rfl
theorem onGm_s {k : Gm → Prop} : onGm (some Γ) k = k Γ := rfl
theorem agTup_t {gs : AGs} : agTup gs (.tup ds) Γ = gs ds Γ := rfl
theorem agLst_t {gs : AGs} : agLst gs (.lst ds) Γ = gs ds Γ := rfl
theorem agNil_n : agNil [] Γ = some Γ := rfl
theorem agCons_c {g : AG} {gs : AGs} : agCons g gs (d :: ds) Γ = (g d Γ).bind fun Γ1 => gs ds Γ1 := rfl
theorem bind_s {α β : Type} {a : α} {k : α → Option β} : (some a).bind k = k a := rfl
theorem aSetIx_r : aSetIx_k A Γ d (.ref l) (.int i) M = ∃ xs j M4, ixN xs.length i = some j ∧ Up M l (.lst xs) (.lst (xs.set j d)) M4 ∧ A.nx Γ M4 := rfl
theorem aItS_l : aItS_k Φl (.lst xs) M = Φl xs M := rfl
theorem aItS_t : aItS_k Φl (.tup xs) M = Φl xs M := rfl
theorem aRng1_i : aRng1_k Φl [.int j] M = ((-4611686018427387904 ≤ j ∧ j < 4611686018427387904) ∧ Φl (rngD 0 j.toNat) M) := rfl
theorem aRng2_i : aRng2_k Φl [.int i, .int j] M = ((-4611686018427387904 ≤ i ∧ i < 4611686018427387904 ∧ -4611686018427387904 ≤ j ∧ j < 4611686018427387904) ∧ Φl (rngD i (j - i).toNat) M) := rfl
theorem aEnum_l : aEnum_k Φl [.lst xs] M = Φl (enumD xs) M := rfl
theorem aZip_l : aZip_k Φl [.lst xs, .lst ys] M = Φl (zipD xs ys) M := rfl
theorem aZip_t : aZip_k Φl [.tup xs, .tup ys] M = Φl (zipD xs ys) M := rfl
theorem fI_i {g : Int → Int → D} : fI g (.int i) (.int j) M Φ = Φ (g i j) M := rfl
theorem fC_i {C : Int → Int → Prop} {g : Int → Int → D} : fC C g (.int i) (.int j) M Φ = (C i j ∧ Φ (g i j) M) := rfl
theorem fNeg_i : fNeg (.int i) M Φ = Φ (.int (-i)) M := rfl
theorem seqOf_l {k : List D → Prop} : seqOf (.lst xs) M k = k xs := rfl
theorem seqOf_t {k : List D → Prop} : seqOf (.tup xs) M k = k xs := rfl
theorem seqOf_r {k : List D → Prop} : seqOf (.ref l) M k = ∃ xs, (l, MO.lst xs) ∈ M ∧ k xs := rfl
theorem lstOf_l {k : List D → Prop} : lstOf (.lst xs) M k = k xs := rfl
theorem lstOf_r {k : List D → Prop} : lstOf (.ref l) M k = ∃ xs, (l, MO.lst xs) ∈ M ∧ k xs := rfl
theorem fLen_1 : fLen [d] M Φ = seqOf d M fun xs => Φ (.int (xs.length : Nat)) M := rfl
theorem fIx_i : fIx d (.int i) M Φ = seqOf d M fun xs => onD (getI xs i) fun g => Φ g M := rfl
theorem aP_i : aP_k Φo (.int i) M = Φo (some i) M := rfl
theorem aSl_l {lo hi : Option Int} : aSl_k Φ (.lst xs) lo hi M = Φ (.lst (cutD xs lo hi)) M := rfl
theorem aSl_r {lo hi : Option Int} : aSl_k Φ (.ref l) lo hi M = ∃ xs, (l, MO.lst xs) ∈ M ∧ Φ (.lst (cutD xs lo hi)) M := rfl
theorem aRev_l : aRev_k Φ (.lst xs) M = Φ (.lst xs.reverse) M := rfl
theorem aRev_r : aRev_k Φ (.ref l) M = ∃ xs, (l, MO.lst xs) ∈ M ∧ Φ (.lst xs.reverse) M := rfl
theorem aRevM_l : aRevM_k Φ (.lst xs) M = ∀ p, Φ (.ref p) ((p, .lst xs.reverse) :: M) := rfl
theorem aRevM_r : aRevM_k Φ (.ref l) M = ∃ xs, (l, MO.lst xs) ∈ M ∧ ∀ p, Φ (.ref p) ((p, .lst xs.reverse) :: M) := rfl
theorem aApp_r : aApp_k tb Γ Φ (.ref l) M = ((∃ xs, (l, MO.lst xs) ∈ M) ∧ tb Γ M fun e M2 => ∃ xs M3, Up M2 l (.lst xs) (.lst (xs ++ [e])) M3 ∧ xs.length < 100000 ∧ Φ .non M3) := rfl
theorem aPop_r : aPop_k Φ (.ref l) M = ∃ xs y M2, Up M l (.lst xs) (.lst xs.dropLast) M2 ∧ xs[xs.length - 1]? = some y ∧ Φ y M2 := rfl
def eqDeep (neg : Bool → Bool) (d e : D) (M : Mm) (Φ : AK) : Prop := rdM d M fun d' => rdM e M fun e' => (plD 60 d' = true ∧ plD 60 e' = true) ∧ Φ (.bl (neg (PyData.eqv (py 60 d') (py 60 e')))) M
theorem fEq_ii : fEqB neg (.int i) (.int j) M Φ = Φ (.bl (neg (decide (i = j)))) M := rfl
theorem fEq_ss : fEqB neg (.str x) (.str y) M Φ = Φ (.bl (neg (decide (x = y)))) M := rfl
theorem fEq_bb : fEqB neg (.bl b) (.bl c) M Φ = Φ (.bl (neg (decide (b = c)))) M := rfl
theorem fEq_nn : fEqB neg .non .non M Φ = Φ (.bl (neg true)) M := rfl
theorem fEq_ni : fEqB neg .non (.int i) M Φ = Φ (.bl (neg false)) M := rfl
theorem fEq_in : fEqB neg (.int i) .non M Φ = Φ (.bl (neg false)) M := rfl
theorem fEq_ns : fEqB neg .non (.str x) M Φ = Φ (.bl (neg false)) M := rfl
theorem fEq_sn : fEqB neg (.str x) .non M Φ = Φ (.bl (neg false)) M := rfl
theorem fEq_is : fEqB neg (.int i) (.str x) M Φ = Φ (.bl (neg false)) M := rfl
theorem fEq_si : fEqB neg (.str x) (.int i) M Φ = Φ (.bl (neg false)) M := rfl
theorem fEq_ll : fEqB neg (.lst xs) (.lst ys) M Φ = eqDeep neg (.lst xs) (.lst ys) M Φ := rfl
theorem fEq_tt : fEqB neg (.tup xs) (.tup ys) M Φ = eqDeep neg (.tup xs) (.tup ys) M Φ := rfl
theorem fEq_tl : fEqB neg (.tup xs) (.lst ys) M Φ = eqDeep neg (.tup xs) (.lst ys) M Φ := rfl
theorem fEq_lt : fEqB neg (.lst xs) (.tup ys) M Φ = eqDeep neg (.lst xs) (.tup ys) M Φ := rfl
theorem fIs_n : fIsB neg d .non M Φ = Φ (.bl (neg (isN d))) M := rfl
theorem fIs_b : fIsB neg (.bl c) (.bl b) M Φ = Φ (.bl (neg (decide (c = b)))) M := rfl
theorem isN_n : isN .non = true := rfl
theorem isN_i : isN (.int i) = false := rfl
theorem isN_b : isN (.bl b) = false := rfl
theorem isN_s : isN (.str x) = false := rfl
theorem isN_t : isN (.tup xs) = false := rfl
theorem isN_l : isN (.lst xs) = false := rfl
theorem isN_r : isN (.ref l) = false := rfl
theorem isN_o {C : Addr} {ns : List Str} : isN (.ins C ns xs) = false := rfl
theorem fAbs_i : fAbs [.int i] M Φ = Φ (.int (if i < 0 then -i else i)) M := rfl
theorem fInt_i : fInt [.int i] M Φ = Φ (.int i) M := rfl
theorem fInt_b : fInt [.bl b] M Φ = Φ (.int (if b then 1 else 0)) M := rfl
theorem fMax2_i : fMax2 [.int i, .int j] M Φ = Φ (.int (max i j)) M := rfl
theorem fMin2_i : fMin2 [.int i, .int j] M Φ = Φ (.int (min i j)) M := rfl
theorem fTuple_1 : fTuple [d] M Φ = seqOf d M fun xs => Φ (.tup xs) M := rfl
theorem fList_1 : fList [d] M Φ = seqOf d M fun xs => Φ (.lst xs) M := rfl
theorem fListM_1 : fListM [d] M Φ = seqOf d M fun xs => ∀ l, Φ (.ref l) ((l, .lst xs) :: M) := rfl
theorem fAll_l : fAll [.lst xs] M Φ = ∃ bs : List Bool, xs = bs.map D.bl ∧ Φ (.bl (bs.all id)) M := rfl
theorem fAny_l : fAny [.lst xs] M Φ = ∃ bs : List Bool, xs = bs.map D.bl ∧ Φ (.bl (bs.any id)) M := rfl
theorem fSum_l : fSum [.lst xs] M Φ = ∃ ns : List Int, xs = ns.map D.int ∧ Φ (.int ns.sum) M := rfl
theorem fMaxL_l : fMaxL [.lst xs] M Φ = ∃ ns : List Int, xs = ns.map D.int ∧ 0 < ns.length ∧ ∀ m, m ∈ ns → (∀ y, y ∈ ns → y ≤ m) → Φ (.int m) M := rfl
theorem fMinL_l : fMinL [.lst xs] M Φ = ∃ ns : List Int, xs = ns.map D.int ∧ 0 < ns.length ∧ ∀ m, m ∈ ns → (∀ y, y ∈ ns → m ≤ y) → Φ (.int m) M := rfl
/-- isinstance, by the class's name and the datum's -/
def isiK (t n : String) (M : Mm) (Φ : AK) : Prop := match kitB t n with
  | some b => Φ (.bl b) M
  | none => False
theorem fIsi_i {n : String} : fIsi n (.int i) M Φ = isiK "int" n M Φ := rfl
theorem fIsi_b {n : String} : fIsi n (.bl b) M Φ = isiK "bool" n M Φ := rfl
theorem fIsi_n {n : String} : fIsi n .non M Φ = isiK "NoneType" n M Φ := rfl
theorem fIsi_s {n : String} : fIsi n (.str x) M Φ = isiK "str" n M Φ := rfl
theorem fIsi_t {n : String} : fIsi n (.tup xs) M Φ = isiK "tuple" n M Φ := rfl
theorem fIsi_l {n : String} : fIsi n (.lst xs) M Φ = isiK "list" n M Φ := rfl
theorem isi_of {t n : String} {r : Bool} (h : kitB t n = some r) : isiK t n M Φ = Φ (.bl r) M := by unfold isiK; rw [h]
end
theorem isi_int_int {M : Mm} {Φ : AK} : isiK "int" "int" M Φ = Φ (.bl true) M := isi_of (by decide +kernel)
theorem isi_int_bool {M : Mm} {Φ : AK} : isiK "int" "bool" M Φ = Φ (.bl false) M := isi_of (by decide +kernel)
theorem isi_int_str {M : Mm} {Φ : AK} : isiK "int" "str" M Φ = Φ (.bl false) M := isi_of (by decide +kernel)
theorem isi_int_tuple {M : Mm} {Φ : AK} : isiK "int" "tuple" M Φ = Φ (.bl false) M := isi_of (by decide +kernel)
theorem isi_int_list {M : Mm} {Φ : AK} : isiK "int" "list" M Φ = Φ (.bl false) M := isi_of (by decide +kernel)
theorem isi_bool_int {M : Mm} {Φ : AK} : isiK "bool" "int" M Φ = Φ (.bl true) M := isi_of (by decide +kernel)
theorem isi_bool_bool {M : Mm} {Φ : AK} : isiK "bool" "bool" M Φ = Φ (.bl true) M := isi_of (by decide +kernel)
theorem isi_bool_str {M : Mm} {Φ : AK} : isiK "bool" "str" M Φ = Φ (.bl false) M := isi_of (by decide +kernel)
theorem isi_bool_tuple {M : Mm} {Φ : AK} : isiK "bool" "tuple" M Φ = Φ (.bl false) M := isi_of (by decide +kernel)
theorem isi_bool_list {M : Mm} {Φ : AK} : isiK "bool" "list" M Φ = Φ (.bl false) M := isi_of (by decide +kernel)
theorem isi_NoneType_int {M : Mm} {Φ : AK} : isiK "NoneType" "int" M Φ = Φ (.bl false) M := isi_of (by decide +kernel)
theorem isi_NoneType_bool {M : Mm} {Φ : AK} : isiK "NoneType" "bool" M Φ = Φ (.bl false) M := isi_of (by decide +kernel)
theorem isi_NoneType_str {M : Mm} {Φ : AK} : isiK "NoneType" "str" M Φ = Φ (.bl false) M := isi_of (by decide +kernel)
theorem isi_NoneType_tuple {M : Mm} {Φ : AK} : isiK "NoneType" "tuple" M Φ = Φ (.bl false) M := isi_of (by decide +kernel)
theorem isi_NoneType_list {M : Mm} {Φ : AK} : isiK "NoneType" "list" M Φ = Φ (.bl false) M := isi_of (by decide +kernel)
theorem isi_str_int {M : Mm} {Φ : AK} : isiK "str" "int" M Φ = Φ (.bl false) M := isi_of (by decide +kernel)
theorem isi_str_bool {M : Mm} {Φ : AK} : isiK "str" "bool" M Φ = Φ (.bl false) M := isi_of (by decide +kernel)
theorem isi_str_str {M : Mm} {Φ : AK} : isiK "str" "str" M Φ = Φ (.bl true) M := isi_of (by decide +kernel)
theorem isi_str_tuple {M : Mm} {Φ : AK} : isiK "str" "tuple" M Φ = Φ (.bl false) M := isi_of (by decide +kernel)
theorem isi_str_list {M : Mm} {Φ : AK} : isiK "str" "list" M Φ = Φ (.bl false) M := isi_of (by decide +kernel)
theorem isi_tuple_int {M : Mm} {Φ : AK} : isiK "tuple" "int" M Φ = Φ (.bl false) M := isi_of (by decide +kernel)
theorem isi_tuple_bool {M : Mm} {Φ : AK} : isiK "tuple" "bool" M Φ = Φ (.bl false) M := isi_of (by decide +kernel)
theorem isi_tuple_str {M : Mm} {Φ : AK} : isiK "tuple" "str" M Φ = Φ (.bl false) M := isi_of (by decide +kernel)
theorem isi_tuple_tuple {M : Mm} {Φ : AK} : isiK "tuple" "tuple" M Φ = Φ (.bl true) M := isi_of (by decide +kernel)
theorem isi_tuple_list {M : Mm} {Φ : AK} : isiK "tuple" "list" M Φ = Φ (.bl false) M := isi_of (by decide +kernel)
theorem isi_list_int {M : Mm} {Φ : AK} : isiK "list" "int" M Φ = Φ (.bl false) M := isi_of (by decide +kernel)
theorem isi_list_bool {M : Mm} {Φ : AK} : isiK "list" "bool" M Φ = Φ (.bl false) M := isi_of (by decide +kernel)
theorem isi_list_str {M : Mm} {Φ : AK} : isiK "list" "str" M Φ = Φ (.bl false) M := isi_of (by decide +kernel)
theorem isi_list_tuple {M : Mm} {Φ : AK} : isiK "list" "tuple" M Φ = Φ (.bl false) M := isi_of (by decide +kernel)
theorem isi_list_list {M : Mm} {Φ : AK} : isiK "list" "list" M Φ = Φ (.bl true) M := isi_of (by decide +kernel)
section
variable {ai : AI} {g : AG} {tb : AS} {A : AEnds} {Γ : Gm} {M : Mm}
/-- a for over known things, by a word -/
theorem aFor_map {α : Type} (xs : List α) (emb : α → D) (I : Nat → Gm → Mm → Prop) (hai : ∀ Φ' : List D → Mm → Prop, Φ' (xs.map emb) M → ai Γ M Φ') (h0 : I 0 Γ M)
    (hs : ∀ i x Γ' M', xs[i]? = some x → I i Γ' M' → ∃ Γ2, g (emb x) Γ' = some Γ2 ∧ tb { nx := I (i + 1), rt := A.rt, bk := A.nx, ct := I (i + 1) } Γ2 M')
    (hd : ∀ Γ' M', I xs.length Γ' M' → A.nx Γ' M') : aFor ai g tb A Γ M := by
  unfold aFor
  refine hai _ ⟨I, h0, fun i d Γ' M' hd hi => ?_, fun Γ' M' hi => ?_⟩
  · rw [List.getElem?_map] at hd
    cases hx : xs[i]? with
    | none =>
      rw [hx] at hd
      cases hd
    | some x =>
      rw [hx] at hd
      cases hd
      obtain ⟨Γ2, e, q⟩ := hs i x Γ' M' hx hi
      rw [e]
      exact q
  · rw [List.length_map] at hi
    exact hd Γ' M' hi
/-- over a range -/
theorem aFor_rng (lo : Int) (n : Nat) (I : Nat → Gm → Mm → Prop) (hai : ∀ Φ' : List D → Mm → Prop, Φ' (rngD lo n) M → ai Γ M Φ') (h0 : I 0 Γ M)
    (hs : ∀ (i : Nat) Γ' M', i < n → I i Γ' M' → ∃ Γ2, g (.int (lo + (i : Nat))) Γ' = some Γ2 ∧ tb { nx := I (i + 1), rt := A.rt, bk := A.nx, ct := I (i + 1) } Γ2 M')
    (hd : ∀ Γ' M', I n Γ' M' → A.nx Γ' M') : aFor ai g tb A Γ M := by
  unfold aFor
  refine hai _ ⟨I, h0, fun i d Γ' M' hd hi => ?_, fun Γ' M' hi => ?_⟩
  · obtain ⟨hlt, rfl⟩ := rngD_get hd
    obtain ⟨Γ2, e, q⟩ := hs i Γ' M' hlt hi
    rw [e]
    exact q
  · rw [rngD_len] at hi
    exact hd Γ' M' hi
end
theorem cutD_take {xs : List D} {i : Int} (h : 0 ≤ i) : cutD xs none (some i) = xs.take i.toNat := by
  obtain ⟨n, rfl⟩ := Int.eq_ofNat_of_zero_le h
  unfold cutD
  rw [HT.sIx_none, HT.sIx_nat, List.drop_zero, Nat.sub_zero, Int.toNat_natCast]
  rcases Nat.le_total n xs.length with hn | hn
  · rw [Nat.min_eq_left hn]
  · rw [Nat.min_eq_right hn, List.take_length, List.take_of_length_le hn]
theorem cutD_drop {xs : List D} {i : Int} (h : 0 ≤ i) : cutD xs (some i) none = xs.drop i.toNat := by
  obtain ⟨n, rfl⟩ := Int.eq_ofNat_of_zero_le h
  unfold cutD
  rw [HT.sIx_none, HT.sIx_nat, Int.toNat_natCast]
  rcases Nat.le_total n xs.length with hn | hn
  · rw [Nat.min_eq_left hn, List.take_of_length_le (by rw [List.length_drop]; exact Nat.le_refl _)]
  · rw [Nat.min_eq_right hn, List.drop_length, List.drop_eq_nil_of_le hn, List.take_nil]
theorem mulW_of {i j : Int} (h : i.natAbs.log2 + j.natAbs.log2 < 1000000) : MulOk i j := .inr (.inr h)
theorem divW_of {i j : Int} (h : 0 < j) (h2 : j.natAbs.log2 < 9000) : DivOk i j := ⟨h, h2⟩
section
variable {ai : AI} {g : AG} {tt : AT} {te : AE} {vs : List Nat} {Γ : Gm} {M : Mm} {Φ : AK}
theorem map_int {α : Type} (f : α → Int) (l : List α) : l.map (fun x => D.int (f x)) = (l.map f).map D.int := by
  rw [List.map_map]
  rfl
/-- comprehensions of ints -/
theorem aLc_int {α : Type} (xs : List α) (emb : α → D) (f : α → Int) (hai : ∀ Φ' : List D → Mm → Prop, Φ' (xs.map emb) M → ai Γ M Φ') (hlen : xs.length ≤ 100000)
    (h : ∀ x ∈ xs, ∀ M', ∃ Γ2, g (emb x) (wipeG Γ vs) = some Γ2 ∧ (∀ Φ' : AK, Φ' (.int (f x)) M' → te Γ2 M' Φ'))
    (k : Φ (.lst ((xs.map f).map D.int)) M) : aLc ai g aYes te vs Γ M Φ := aLc_map xs emb (fun x => .int (f x)) hai hlen h (by rw [map_int]; exact k)
theorem aLc_ifint {α : Type} (xs : List α) (emb : α → D) (p : α → Bool) (f : α → Int) (hai : ∀ Φ' : List D → Mm → Prop, Φ' (xs.map emb) M → ai Γ M Φ') (hlen : xs.length ≤ 100000)
    (h : ∀ x ∈ xs, ∀ M', ∃ Γ2, g (emb x) (wipeG Γ vs) = some Γ2 ∧ (∀ Φ' : Bool → Mm → Prop, Φ' (p x) M' → tt Γ2 M' Φ') ∧ (p x = true → ∀ Φ' : AK, Φ' (.int (f x)) M' → te Γ2 M' Φ'))
    (k : Φ (.lst (((xs.filter p).map f).map D.int)) M) : aLc ai g tt te vs Γ M Φ := aLc_pure xs emb p (fun x => .int (f x)) hai hlen h (by rw [map_int]; exact k)
theorem aLc_ifid {α : Type} (xs : List α) (emb : α → D) (p : α → Bool) (hai : ∀ Φ' : List D → Mm → Prop, Φ' (xs.map emb) M → ai Γ M Φ') (hlen : xs.length ≤ 100000)
    (h : ∀ x ∈ xs, ∀ M', ∃ Γ2, g (emb x) (wipeG Γ vs) = some Γ2 ∧ (∀ Φ' : Bool → Mm → Prop, Φ' (p x) M' → tt Γ2 M' Φ') ∧ (p x = true → ∀ Φ' : AK, Φ' (emb x) M' → te Γ2 M' Φ'))
    (k : Φ (.lst ((xs.filter p).map emb)) M) : aLc ai g tt te vs Γ M Φ := aLc_pure xs emb p emb hai hlen h k
end
/-- a check that holds, one that doesn't -/
theorem ck {p : Prop} [Decidable p] (h : p) {X Y : Prop} (y : Y) : ((!decide p) = true → X) ∧ ((!decide p) = false → Y) := ⟨fun hb => (by rw [decide_eq_true h] at hb; cases hb), fun _ => y⟩
theorem ckT {p : Prop} [Decidable p] (h : p) {X Y : Prop} (x : X) : (decide p = true → X) ∧ (decide p = false → Y) := ⟨fun _ => x, fun hb => (by rw [decide_eq_true h] at hb; cases hb)⟩
theorem ckF {p : Prop} [Decidable p] (h : ¬ p) {X Y : Prop} (y : Y) : (decide p = true → X) ∧ (decide p = false → Y) := ⟨fun hb => absurd (of_decide_eq_true hb) h, fun _ => y⟩
/-- what comes after the next (two) statements, shown once for every way there -/
theorem aSeq_tail {α : Type} {a b : AS} {A : AEnds} {Γ : Gm} {M : Mm} (Γf : α → Gm) (M0 : Mm) (h : ∀ x, b A (Γf x) M0) (k : (∀ x, b A (Γf x) M0) → aSeq a b A Γ M) : aSeq a b A Γ M := k h
theorem aSeq_tail2 {α : Type} {a c b : AS} {A : AEnds} {Γ : Gm} {M : Mm} (Γf : α → Gm) (M0 : Mm) (h : ∀ x, b A (Γf x) M0) (k : (∀ x, b A (Γf x) M0) → aSeq a (aSeq c b) A Γ M) : aSeq a (aSeq c b) A Γ M := k h
end DL

set_option Elab.async false
set_option linter.all false
set_option maxRecDepth 100000
set_option maxHeartbeats 4000000
namespace K16
open PySem L2 DL
def topS (i : Nat) : Stmt := PySem.Challenge.pw_evergreedy_k16_whole_numbers_of_one_ring.main.body.getD i (.Pass ⟨0, 0, 0, 0⟩)
abbrev s_wanted_most : Stmt := topS 1
abbrev n_wanted_most : List Str := ["rate", "burst", "beats"]
theorem st_wanted_most (a0 a1 a2 : D) : startD n_wanted_most [a0, a1, a2] = [some a0, some a1, some a2] := rfl
theorem sc_wanted_most : FnScope n_wanted_most ["rate", "burst", "beats"] (defScope s_wanted_most) := ⟨rfl, rfl, rfl, by decide +kernel, rfl, by decide +kernel, by decide +kernel⟩
abbrev s_longest_chain : Stmt := topS 2
abbrev n_longest_chain : List Str := ["n", "rate", "burst"]
theorem st_longest_chain (a0 a1 a2 : D) : startD n_longest_chain [a0, a1, a2] = [some a0, some a1, some a2] := rfl
theorem sc_longest_chain : FnScope n_longest_chain ["n", "rate", "burst"] (defScope s_longest_chain) := ⟨rfl, rfl, rfl, by decide +kernel, rfl, by decide +kernel, by decide +kernel⟩
abbrev s_ring_bound : Stmt := topS 3
abbrev n_ring_bound : List Str := ["n", "rate", "burst"]
theorem st_ring_bound (a0 a1 a2 : D) : startD n_ring_bound [a0, a1, a2] = [some a0, some a1, some a2] := rfl
theorem sc_ring_bound : FnScope n_ring_bound ["n", "rate", "burst"] (defScope s_ring_bound) := ⟨rfl, rfl, rfl, by decide +kernel, rfl, by decide +kernel, by decide +kernel⟩
abbrev s_calm_beats : Stmt := topS 4
abbrev n_calm_beats : List Str := ["n", "rate", "burst", "slack"]
theorem st_calm_beats (a0 a1 a2 : D) : startD n_calm_beats [a0, a1, a2] = [some a0, some a1, some a2, none] := rfl
theorem sc_calm_beats : FnScope n_calm_beats ["n", "rate", "burst"] (defScope s_calm_beats) := ⟨rfl, rfl, rfl, by decide +kernel, rfl, by decide +kernel, by decide +kernel⟩
abbrev s_uses_bound : Stmt := topS 5
abbrev n_uses_bound : List Str := ["n", "rate", "burst", "uses", "beats"]
theorem st_uses_bound (a0 a1 a2 a3 : D) : startD n_uses_bound [a0, a1, a2, a3] = [some a0, some a1, some a2, some a3, none] := rfl
theorem sc_uses_bound : FnScope n_uses_bound ["n", "rate", "burst", "uses"] (defScope s_uses_bound) := ⟨rfl, rfl, rfl, by decide +kernel, rfl, by decide +kernel, by decide +kernel⟩
abbrev s_burst_for : Stmt := topS 6
abbrev n_burst_for : List Str := ["n", "rate", "most", "low", "high", "middle"]
theorem st_burst_for (a0 a1 a2 : D) : startD n_burst_for [a0, a1, a2] = [some a0, some a1, some a2, none, none, none] := rfl
theorem sc_burst_for : FnScope n_burst_for ["n", "rate", "most"] (defScope s_burst_for) := ⟨rfl, rfl, rfl, by decide +kernel, rfl, by decide +kernel, by decide +kernel⟩
abbrev s_top_for : Stmt := topS 7
abbrev n_top_for : List Str := ["n", "bottom", "burst", "most", "found", "top"]
theorem st_top_for (a0 a1 a2 a3 : D) : startD n_top_for [a0, a1, a2, a3] = [some a0, some a1, some a2, some a3, none, none] := rfl
theorem sc_top_for : FnScope n_top_for ["n", "bottom", "burst", "most"] (defScope s_top_for) := ⟨rfl, rfl, rfl, by decide +kernel, rfl, by decide +kernel, by decide +kernel⟩
abbrev s__law_heap : Stmt := topS 9
abbrev n__law_heap : List Str := ["script", "great", "cells", "stir", "cell"]
theorem st__law_heap (a0 : D) : startD n__law_heap [a0] = [some a0, none, none, none, none] := rfl
theorem sc__law_heap : FnScope n__law_heap ["script"] (defScope s__law_heap) := ⟨rfl, rfl, rfl, by decide +kernel, rfl, by decide +kernel, by decide +kernel⟩
abbrev s__law_draw : Stmt := topS 10
abbrev n__law_draw : List Str := ["heap", "many", "rest"]
theorem st__law_draw (a0 a1 : D) : startD n__law_draw [a0, a1] = [some a0, some a1, none] := rfl
theorem sc__law_draw : FnScope n__law_draw ["heap", "many"] (defScope s__law_draw) := ⟨rfl, rfl, rfl, by decide +kernel, rfl, by decide +kernel, by decide +kernel⟩
abbrev s__law_pick : Stmt := topS 11
abbrev n__law_pick : List Str := ["heap", "some"]
theorem st__law_pick (a0 a1 : D) : startD n__law_pick [a0, a1] = [some a0, some a1] := rfl
theorem sc__law_pick : FnScope n__law_pick ["heap", "some"] (defScope s__law_pick) := ⟨rfl, rfl, rfl, by decide +kernel, rfl, by decide +kernel, by decide +kernel⟩
abbrev s__law_like : Stmt := topS 12
abbrev n__law_like : List Str := ["told", "due", "one", "other"]
theorem st__law_like (a0 a1 : D) : startD n__law_like [a0, a1] = [some a0, some a1, none, none] := rfl
theorem sc__law_like : FnScope n__law_like ["told", "due"] (defScope s__law_like) := ⟨rfl, rfl, rfl, by decide +kernel, rfl, by decide +kernel, by decide +kernel⟩
abbrev s__law_longest : Stmt := topS 13
abbrev n__law_longest : List Str := ["n", "rate", "burst", "low", "high", "room", "middle"]
theorem st__law_longest (a0 a1 a2 : D) : startD n__law_longest [a0, a1, a2] = [some a0, some a1, some a2, none, none, none, none] := rfl
theorem sc__law_longest : FnScope n__law_longest ["n", "rate", "burst"] (defScope s__law_longest) := ⟨rfl, rfl, rfl, by decide +kernel, rfl, by decide +kernel, by decide +kernel⟩
abbrev s__law_calm : Stmt := topS 14
abbrev n__law_calm : List Str := ["n", "rate", "burst", "low", "high", "room", "middle"]
theorem st__law_calm (a0 a1 a2 : D) : startD n__law_calm [a0, a1, a2] = [some a0, some a1, some a2, none, none, none, none] := rfl
theorem sc__law_calm : FnScope n__law_calm ["n", "rate", "burst"] (defScope s__law_calm) := ⟨rfl, rfl, rfl, by decide +kernel, rfl, by decide +kernel, by decide +kernel⟩
abbrev s__law_bound : Stmt := topS 15
abbrev n__law_bound : List Str := ["n", "rate", "burst"]
theorem st__law_bound (a0 a1 a2 : D) : startD n__law_bound [a0, a1, a2] = [some a0, some a1, some a2] := rfl
theorem sc__law_bound : FnScope n__law_bound ["n", "rate", "burst"] (defScope s__law_bound) := ⟨rfl, rfl, rfl, by decide +kernel, rfl, by decide +kernel, by decide +kernel⟩
abbrev s__law_rate : Stmt := topS 16
abbrev n__law_rate : List Str := ["heap", "bottom", "top", "one", "other"]
theorem st__law_rate (a0 : D) : startD n__law_rate [a0] = [some a0, none, none, none, none] := rfl
theorem sc__law_rate : FnScope n__law_rate ["heap"] (defScope s__law_rate) := ⟨rfl, rfl, rfl, by decide +kernel, rfl, by decide +kernel, by decide +kernel⟩
abbrev s_law : Stmt := topS 17
abbrev n_law : List Str := ["script", "heap", "turn", "n", "rate", "burst", "beats", "uses", "bound", "calm", "most", "told", "bottom", "small", "fits", "top"]
theorem st_law (a0 : D) : startD n_law [a0] = [some a0, none, none, none, none, none, none, none, none, none, none, none, none, none, none, none] := rfl
theorem sc_law : FnScope n_law ["script"] (defScope s_law) := ⟨rfl, rfl, rfl, by decide +kernel, rfl, by decide +kernel, by decide +kernel⟩
/-- what the top has laid -/
structure Top (K : PySem.W.Frag) (mg : Str → Option Value) where
  f_wanted_most : Addr
  d_wanted_most : FuncData
  F_wanted_most : Fun K "wanted_most" "wanted_most" s_wanted_most f_wanted_most d_wanted_most
  b_wanted_most : Binds K d_wanted_most ["rate", "burst", "beats"] []
  g_wanted_most : mg "wanted_most" = some (.ref f_wanted_most)
  f_longest_chain : Addr
  d_longest_chain : FuncData
  F_longest_chain : Fun K "longest_chain" "longest_chain" s_longest_chain f_longest_chain d_longest_chain
  b_longest_chain : Binds K d_longest_chain ["n", "rate", "burst"] []
  g_longest_chain : mg "longest_chain" = some (.ref f_longest_chain)
  f_ring_bound : Addr
  d_ring_bound : FuncData
  F_ring_bound : Fun K "ring_bound" "ring_bound" s_ring_bound f_ring_bound d_ring_bound
  b_ring_bound : Binds K d_ring_bound ["n", "rate", "burst"] []
  g_ring_bound : mg "ring_bound" = some (.ref f_ring_bound)
  f_calm_beats : Addr
  d_calm_beats : FuncData
  F_calm_beats : Fun K "calm_beats" "calm_beats" s_calm_beats f_calm_beats d_calm_beats
  b_calm_beats : Binds K d_calm_beats ["n", "rate", "burst"] []
  g_calm_beats : mg "calm_beats" = some (.ref f_calm_beats)
  f_uses_bound : Addr
  d_uses_bound : FuncData
  F_uses_bound : Fun K "uses_bound" "uses_bound" s_uses_bound f_uses_bound d_uses_bound
  b_uses_bound : Binds K d_uses_bound ["n", "rate", "burst", "uses"] []
  g_uses_bound : mg "uses_bound" = some (.ref f_uses_bound)
  f_burst_for : Addr
  d_burst_for : FuncData
  F_burst_for : Fun K "burst_for" "burst_for" s_burst_for f_burst_for d_burst_for
  b_burst_for : Binds K d_burst_for ["n", "rate", "most"] []
  g_burst_for : mg "burst_for" = some (.ref f_burst_for)
  f_top_for : Addr
  d_top_for : FuncData
  F_top_for : Fun K "top_for" "top_for" s_top_for f_top_for d_top_for
  b_top_for : Binds K d_top_for ["n", "bottom", "burst", "most"] []
  g_top_for : mg "top_for" = some (.ref f_top_for)
  f__law_heap : Addr
  d__law_heap : FuncData
  F__law_heap : Fun K "_law_heap" "_law_heap" s__law_heap f__law_heap d__law_heap
  b__law_heap : Binds K d__law_heap ["script"] []
  g__law_heap : mg "_law_heap" = some (.ref f__law_heap)
  f__law_draw : Addr
  d__law_draw : FuncData
  F__law_draw : Fun K "_law_draw" "_law_draw" s__law_draw f__law_draw d__law_draw
  b__law_draw : Binds K d__law_draw ["heap", "many"] []
  g__law_draw : mg "_law_draw" = some (.ref f__law_draw)
  f__law_pick : Addr
  d__law_pick : FuncData
  F__law_pick : Fun K "_law_pick" "_law_pick" s__law_pick f__law_pick d__law_pick
  b__law_pick : Binds K d__law_pick ["heap", "some"] []
  g__law_pick : mg "_law_pick" = some (.ref f__law_pick)
  f__law_like : Addr
  d__law_like : FuncData
  F__law_like : Fun K "_law_like" "_law_like" s__law_like f__law_like d__law_like
  b__law_like : Binds K d__law_like ["told", "due"] []
  g__law_like : mg "_law_like" = some (.ref f__law_like)
  f__law_longest : Addr
  d__law_longest : FuncData
  F__law_longest : Fun K "_law_longest" "_law_longest" s__law_longest f__law_longest d__law_longest
  b__law_longest : Binds K d__law_longest ["n", "rate", "burst"] []
  g__law_longest : mg "_law_longest" = some (.ref f__law_longest)
  f__law_calm : Addr
  d__law_calm : FuncData
  F__law_calm : Fun K "_law_calm" "_law_calm" s__law_calm f__law_calm d__law_calm
  b__law_calm : Binds K d__law_calm ["n", "rate", "burst"] []
  g__law_calm : mg "_law_calm" = some (.ref f__law_calm)
  f__law_bound : Addr
  d__law_bound : FuncData
  F__law_bound : Fun K "_law_bound" "_law_bound" s__law_bound f__law_bound d__law_bound
  b__law_bound : Binds K d__law_bound ["n", "rate", "burst"] []
  g__law_bound : mg "_law_bound" = some (.ref f__law_bound)
  f__law_rate : Addr
  d__law_rate : FuncData
  F__law_rate : Fun K "_law_rate" "_law_rate" s__law_rate f__law_rate d__law_rate
  b__law_rate : Binds K d__law_rate ["heap"] []
  g__law_rate : mg "_law_rate" = some (.ref f__law_rate)
  f_law : Addr
  d_law : FuncData
  F_law : Fun K "law" "law" s_law f_law d_law
  b_law : Binds K d_law ["script"] []
  g_law : mg "law" = some (.ref f_law)
  z_range : mg "range" = none
  z_int : mg "int" = none
  z_abs : mg "abs" = none
  z_len : mg "len" = none
  z_isinstance : mg "isinstance" = none
  z_tuple : mg "tuple" = none
  z_all : mg "all" = none
  z_zip : mg "zip" = none
  z_bool : mg "bool" = none
  z_str : mg "str" = none
  z_max : mg "max" = none

/-! ### the numbers -/
def Wm (p q b t : Int) : Int := p * t / q + b
def Lc (n p q b : Int) : Int := (n * (b + 1) - 1) * q / (q - p)
def Rb (n p q b : Int) : Int := Wm p q b (Lc n p q b)
def Cb (n p q b : Int) : Int := ((n * b + n - 1) * q + (q - p) - 1) / (q - p)
def Ub (n p q b u : Int) : Int := u * n * Cb n p q b + Wm p q b (Cb n p q b)
theorem room_eq (n b : Int) : n * (b + 1) - 1 = n * b + n - 1 := by rw [Int.mul_add, Int.mul_one]
section
variable {n p q b : Int} (h1 : 1 ≤ n) (hp : 1 ≤ p) (hq : p < q)
include h1 hp hq
theorem room_pos (hb : 0 ≤ b) : 0 ≤ (n * (b + 1) - 1) * q := by
  have e : 1 * 1 ≤ n * (b + 1) := Int.mul_le_mul h1 (by omega) (by decide) (by omega)
  exact Int.mul_nonneg (by omega) (by omega)
theorem Lc_mono {c : Int} (h : b ≤ c) : Lc n p q b ≤ Lc n p q c := by
  unfold Lc
  have e : n * (b + 1) ≤ n * (c + 1) := Int.mul_le_mul_of_nonneg_left (by omega) (by omega)
  exact Int.ediv_le_ediv (by omega) (Int.mul_le_mul_of_nonneg_right (by omega) (by omega))
theorem Rb_mono {c : Int} (h : b ≤ c) : Rb n p q b + (c - b) ≤ Rb n p q c := by
  unfold Rb Wm
  have e := Lc_mono h1 hp hq h
  have e2 : p * Lc n p q b / q ≤ p * Lc n p q c / q := Int.ediv_le_ediv (by omega) (Int.mul_le_mul_of_nonneg_left e (by omega))
  omega
theorem Lc_nonneg (hb : 0 ≤ b) : 0 ≤ Lc n p q b := Int.ediv_nonneg (room_pos h1 hp hq hb) (by omega)
theorem Rb_ge (hb : 0 ≤ b) : b ≤ Rb n p q b := by
  unfold Rb Wm
  have e : 0 ≤ p * Lc n p q b / q := Int.ediv_nonneg (Int.mul_nonneg (by omega) (Lc_nonneg h1 hp hq hb)) (by omega)
  omega
theorem Lc_le_Cb : Lc n p q b ≤ Cb n p q b := by
  unfold Lc Cb
  rw [room_eq]
  exact Int.ediv_le_ediv (by omega) (by omega)
theorem Ub_ge (hb : 0 ≤ b) {u : Int} (hu : 0 ≤ u) : Rb n p q b ≤ Ub n p q b u := by
  unfold Rb Ub Wm
  have e := Lc_le_Cb h1 hp hq (b := b)
  have e0 := Lc_nonneg h1 hp hq hb
  have e1 : 0 ≤ u * n * Cb n p q b := Int.mul_nonneg (Int.mul_nonneg hu (by omega)) (by omega)
  have e2 : p * Lc n p q b / q ≤ p * Cb n p q b / q := Int.ediv_le_ediv (by omega) (Int.mul_le_mul_of_nonneg_left e (by omega))
  omega
/-- the halving search finds the quotient -/
theorem Lc_is {x : Int} (h : (q - p) * x ≤ (n * (b + 1) - 1) * q) (h2 : (n * (b + 1) - 1) * q < (q - p) * (x + 1)) : x = Lc n p q b := by
  unfold Lc
  have d : 0 < q - p := by omega
  apply Int.le_antisymm
  · exact (Int.le_ediv_iff_mul_le d).mpr (by rw [Int.mul_comm]; exact h)
  · have : (n * (b + 1) - 1) * q / (q - p) < x + 1 := (Int.ediv_lt_iff_lt_mul d).mpr (by have := Int.mul_comm (x + 1) (q - p); omega)
    omega
theorem Cb_is {x : Int} (h : (n * b + n - 1) * q ≤ (q - p) * x) (h2 : (q - p) * (x - 1) < (n * b + n - 1) * q) : x = Cb n p q b := by
  unfold Cb
  have d : 0 < q - p := by omega
  have e1 : (q - p) * (x - 1) = (q - p) * x - (q - p) := by rw [Int.mul_sub, Int.mul_one]
  apply Int.le_antisymm
  · refine (Int.le_ediv_iff_mul_le d).mpr ?_
    rw [Int.mul_comm]
    omega
  · have e2 : (x + 1) * (q - p) = (q - p) * x + (q - p) := by rw [Int.add_mul, Int.one_mul, Int.mul_comm]
    have : ((n * b + n - 1) * q + (q - p) - 1) / (q - p) < x + 1 := (Int.ediv_lt_iff_lt_mul d).mpr (by omega)
    omega
end
def tops (n bottom b most : Int) : List Int := (rngI 1 (bottom - 1).toNat).filter fun t => decide (Rb n t bottom b ≤ most)
def optD (l : List Int) : D := match l.getLast? with
  | some t => .int t
  | none => .non

theorem last_by (l : List Int) {P : D → Prop} (h : P (optD l)) : ((l.map D.int).all (plD 59) = true ∧ ((!(l.map D.int).isEmpty) = true → onD (getI (l.map D.int) (-1)) P) ∧ ((!(l.map D.int).isEmpty) = false → P .non)) := by
  refine ⟨all_ints, fun hb => ?_, fun hb => ?_⟩
  · cases e : l.getLast? with
    | none =>
      have e : l = [] := List.getLast?_eq_none_iff.mp e
      rw [e] at hb
      cases hb
    | some t =>
      unfold optD at h
      rw [e] at h
      have e2 : (l.map D.int).getLast? = some (.int t) := by
        rw [List.getLast?_map, e]
        rfl
      rw [getI_last e2]
      exact h
  · cases l with
    | nil => exact h
    | cons _ _ => cases hb

/-! ### the promises -/
def sp_wanted_most : ASp := fun ds M Φ _ => match ds with
  | [.tup [.int p, .int q], .int b, .int t] => (0 ≤ p ∧ p < 1000 ∧ 0 < q ∧ q ≤ 1000) ∧ Φ (.int (Wm p q b t)) M
  | _ => False
def sp_longest_chain : ASp := fun ds M Φ _ => match ds with
  | [.int n, .tup [.int p, .int q], .int b] => (1 ≤ p ∧ p < q ∧ q ≤ 1000 ∧ 1 ≤ n ∧ n ≤ 1000) ∧ Φ (.int (Lc n p q b)) M
  | _ => False
def sp_ring_bound : ASp := fun ds M Φ _ => match ds with
  | [.int n, .tup [.int p, .int q], .int b] => (1 ≤ p ∧ p < q ∧ q ≤ 1000 ∧ 1 ≤ n ∧ n ≤ 1000) ∧ Φ (.int (Rb n p q b)) M
  | _ => False
def sp_calm_beats : ASp := fun ds M Φ _ => match ds with
  | [.int n, .tup [.int p, .int q], .int b] => (1 ≤ p ∧ p < q ∧ q ≤ 1000 ∧ 1 ≤ n ∧ n ≤ 1000) ∧ Φ (.int (Cb n p q b)) M
  | _ => False
def sp_uses_bound : ASp := fun ds M Φ _ => match ds with
  | [.int n, .tup [.int p, .int q], .int b, .int u] => (1 ≤ p ∧ p < q ∧ q ≤ 1000 ∧ 1 ≤ n ∧ n ≤ 1000 ∧ 0 ≤ u ∧ u ≤ 1000) ∧ Φ (.int (Ub n p q b u)) M
  | _ => False
def sp_burst_for : ASp := fun ds M Φ _ => match ds with
  | [.int n, .tup [.int p, .int q], .int most] => (1 ≤ p ∧ p < q ∧ q ≤ 1000 ∧ 1 ≤ n ∧ n ≤ 1000) ∧ (most < Rb n p q 1 → Φ .non M) ∧
      (Rb n p q 1 ≤ most → ∀ t, 1 ≤ t → Rb n p q t ≤ most → most < Rb n p q (t + 1) → Φ (.int t) M)
  | _ => False
def sp_top_for : ASp := fun ds M Φ _ => match ds with
  | [.int n, .int bottom, .int b, .int most] => (1 ≤ bottom ∧ bottom ≤ 1000 ∧ 1 ≤ n ∧ n ≤ 1000) ∧ Φ (optD (tops n bottom b most)) M
  | _ => False
def sp__law_like : ASp := fun ds M Φ _ => match ds with
  | [.int a, .int b] => Φ (.bl (decide (a = b))) M
  | [d, .non] => Φ (.bl (isN d)) M
  | _ => False
def sp__law_longest : ASp := fun ds M Φ _ => match ds with
  | [.int n, .tup [.int p, .int q], .int b] => (1 ≤ p ∧ p < q ∧ q ≤ 1000 ∧ 1 ≤ n ∧ n ≤ 1000 ∧ 0 ≤ b) ∧ Φ (.int (Lc n p q b)) M
  | _ => False
def sp__law_calm : ASp := fun ds M Φ _ => match ds with
  | [.int n, .tup [.int p, .int q], .int b] => (1 ≤ p ∧ p < q ∧ q ≤ 1000 ∧ 1 ≤ n ∧ n ≤ 1000 ∧ 0 ≤ b) ∧ Φ (.int (Cb n p q b)) M
  | _ => False
def sp__law_bound : ASp := fun ds M Φ _ => match ds with
  | [.int n, .tup [.int p, .int q], .int b] => (1 ≤ p ∧ p < q ∧ q ≤ 1000 ∧ 1 ≤ n ∧ n ≤ 1000 ∧ 0 ≤ b) ∧ Φ (.int (Rb n p q b)) M
  | _ => False
def sp__law_heap : ASp := fun ds M Φ _ => match ds with
  | [.lst xs] => ∃ ns : List Int, xs = ns.map D.int ∧ ns.length ≤ 63 ∧ ∀ h c (cs : List Int) s, cs.length ≤ 1000 → Φ (.ref h) (heapM h c cs s ++ M)
  | _ => False
def sp__law_rate (h : Addr) : ASp := fun ds M Φ _ => match ds with
  | [.ref h'] => h' = h ∧ ∀ p q : Int, 1 ≤ p → p < q → q ≤ 1000 → Φ (.tup [.int p, .int q]) M
  | _ => False
local macro_rules | `(tactic| walk_at "ev") => `(tactic| try dsimp only [aVar, onSlot_ss, onD_s, aC, aOp, aUn, aB, aAnd, aOr, aNot, aAndV, aOrV, aNotV, aIf, aChain, aNil, aCons, aTup, aLst, aLstM, aCB, aNext, aBreak, aCont, aDrop, aRet, aRetN, aIfS, aSet, aPar, aPar3, aAug, aNever, agName, aAsg, aAsg_k, aSetIx, aItS, aRng1, aRng2, aEnum, aZip, aYes, aCall, fAdd, fSub, fMul, fDiv, fMod, fPow, fLt, fLe, fGt, fGe, fEq, fNe, fIs, fIsNot, getI_0, getI_1, getI_2, getI_3, aNoP, aP, aSl, aRev, aRevM, aApp, aPop, aIsi, fNil, aNil?, aNilV, wipeG, List.set_cons_zero, List.set_cons_succ, List.getElem?_cons_zero, List.getElem?_cons_succ, List.cons_append, List.nil_append, List.append_nil, List.map_cons, List.map_nil, List.length_cons, List.length_nil, aB_bl, aAndV_bl, aOrV_bl, aNotV_bl, aChain_bl, aPar_2, aPar3_3, onGm_s, agTup_t, agLst_t, agNil_n, agCons_c, bind_s, aSetIx_r, aItS_l, aItS_t, aRng1_i, aRng2_i, aEnum_l, aZip_l, aZip_t, fI_i, fC_i, fNeg_i, seqOf_l, seqOf_t, seqOf_r, lstOf_l, lstOf_r, fLen_1, fIx_i, aP_i, aSl_l, aSl_r, aRev_l, aRev_r, aRevM_l, aRevM_r, aApp_r, aPop_r, fEq_ii, fEq_ss, fEq_bb, fEq_nn, fEq_ni, fEq_in, fEq_ns, fEq_sn, fEq_is, fEq_si, fEq_ll, fEq_tt, fEq_tl, fEq_lt, fIs_n, fIs_b, isN_n, isN_i, isN_b, isN_s, isN_t, isN_l, isN_r, isN_o, fAbs_i, fInt_i, fInt_b, fMax2_i, fMin2_i, fTuple_1, fList_1, fListM_1, fAll_l, fAny_l, fSum_l, fMaxL_l, fMinL_l, fIsi_i, fIsi_b, fIsi_n, fIsi_s, fIsi_t, fIsi_l, spPick, spDraw, sp_wanted_most, sp_longest_chain, sp_ring_bound, sp_calm_beats, sp_uses_bound, sp_burst_for, sp_top_for, sp__law_like, sp__law_longest, sp__law_calm, sp__law_bound, sp__law_rate, sp__law_heap])
local macro_rules | `(tactic| walk_at "isi") => `(tactic| ((try simp only [isi_int_int, isi_int_bool, isi_int_str, isi_int_tuple, isi_int_list, isi_bool_int, isi_bool_bool, isi_bool_str, isi_bool_tuple, isi_bool_list, isi_NoneType_int, isi_NoneType_bool, isi_NoneType_str, isi_NoneType_tuple, isi_NoneType_list, isi_str_int, isi_str_bool, isi_str_str, isi_str_tuple, isi_str_list, isi_tuple_int, isi_tuple_bool, isi_tuple_str, isi_tuple_tuple, isi_tuple_list, isi_list_int, isi_list_bool, isi_list_str, isi_list_tuple, isi_list_list]); walk_at "ev"))
local macro_rules | `(tactic| walk_at "no") => `(tactic| (refine ⟨fun h => Bool.noConfusion h, fun _ => ?_⟩; walk_at "ev"))
local macro_rules | `(tactic| walk_at "yes") => `(tactic| (refine ⟨fun _ => ?_, fun h => Bool.noConfusion h⟩; walk_at "ev"))
local macro_rules | `(tactic| walk_at "go") => `(tactic| (repeat (first | (refine ⟨fun h => Bool.noConfusion h, fun _ => ?_⟩; walk_at "ev"; walk_at "isi") | (refine ⟨fun _ => ?_, fun h => Bool.noConfusion h⟩; walk_at "ev"; walk_at "isi") | (refine aSeq_step ?_; walk_at "ev"; walk_at "isi"))))
local macro_rules | `(tactic| walk_at "st") => `(tactic| (refine aSeq_step ?_; walk_at "ev"))
local macro_rules | `(tactic| walk_at "ok") => `(tactic| first | exact divOk_of (by omega) (by omega) | exact divOk_of (by decide +kernel) (by decide +kernel) | exact Or.inl ⟨by omega, by omega⟩ | exact Or.inr (Or.inl ⟨by omega, by omega⟩) | (show (0 : Int) < _; omega))
local macro_rules | `(tactic| walk_at "mem") => `(tactic| (repeat' (first | (refine List.forall_mem_cons.mpr ⟨?_, ?_⟩) | exact (fun _ h => absurd h List.not_mem_nil) | exact ⟨_, rfl, by omega⟩)))

section
variable {P : Program} {w : World} {K : PySem.W.Frag} {mg : Str → Option Value} {base : Heap}
theorem ok_wanted_most (T : Top K mg) {B : Bx} : FnOk P w K mg base (L2.CX P w) 1 T.f_wanted_most T.d_wanted_most ["rate", "burst", "beats"] (conc K B sp_wanted_most) := by
  refine dfn T.F_wanted_most sc_wanted_most (fun ds M Φ Ψ h => ?_) (fun cdv A outer s H E hr ds M Φ Ψ h => ⟨_, (dss_one (ds_ret (de_add (de_div (de_mul (de_item (dv 0) de_int) (dv 2)) (de_item (dv 0) de_int)) (dv 1)))), ?_⟩) <;> (unfold sp_wanted_most at h; split at h; rotate_left; exact h.elim)
  · rfl
  · rename_i p q b t
    obtain ⟨hp, h⟩ := h
    rw [st_wanted_most]
    walk_at "ev"
    exact ⟨by walk_at "ok", by walk_at "ok", h⟩
theorem ok_longest_chain (T : Top K mg) {B : Bx} : FnOk P w K mg base (L2.CX P w) 1 T.f_longest_chain T.d_longest_chain ["n", "rate", "burst"] (conc K B sp_longest_chain) := by
  refine dfn T.F_longest_chain sc_longest_chain (fun ds M Φ Ψ h => ?_) (fun cdv A outer s H E hr ds M Φ Ψ h => ⟨_, (dss_one (ds_ret (de_div (de_mul (de_sub (de_mul (dv 0) (de_add (dv 2) de_int)) de_int) (de_item (dv 1) de_int)) (de_sub (de_item (dv 1) de_int) (de_item (dv 1) de_int))))), ?_⟩) <;> (unfold sp_longest_chain at h; split at h; rotate_left; exact h.elim)
  · rfl
  · rename_i n p q b
    obtain ⟨hp, h⟩ := h
    rw [st_longest_chain]
    walk_at "ev"
    exact ⟨by walk_at "ok", by walk_at "ok", by walk_at "ok", h⟩
theorem ok_ring_bound (T : Top K mg) {B : Bx} : FnOk P w K mg base (L2.CX P w) 2 T.f_ring_bound T.d_ring_bound ["n", "rate", "burst"] (conc K B sp_ring_bound) := by
  refine dfn T.F_ring_bound sc_ring_bound (fun ds M Φ Ψ h => ?_) (fun cdv A outer s H E hr ds M Φ Ψ h => ⟨_, (dss_one (ds_ret (de_call ((ok_wanted_most T).mono (by decide)) hr (by rfl) T.g_wanted_most T.F_wanted_most.kp T.b_wanted_most (takes_of rfl rfl rfl rfl) (da_cons (dv 1) (da_cons (dv 2) (da_cons (de_call ((ok_longest_chain T).mono (by decide)) hr (by rfl) T.g_longest_chain T.F_longest_chain.kp T.b_longest_chain (takes_of rfl rfl rfl rfl) (da_cons (dv 0) (da_cons (dv 1) (da_cons (dv 2) da_nil)))) da_nil)))))), ?_⟩) <;> (unfold sp_ring_bound at h; split at h; rotate_left; exact h.elim)
  · rfl
  · rename_i n p q b
    obtain ⟨hp, h⟩ := h
    rw [st_ring_bound]
    walk_at "ev"
    exact ⟨hp, by omega, h⟩
theorem ok_calm_beats (T : Top K mg) {B : Bx} : FnOk P w K mg base (L2.CX P w) 1 T.f_calm_beats T.d_calm_beats ["n", "rate", "burst"] (conc K B sp_calm_beats) := by
  refine dfn T.F_calm_beats sc_calm_beats (fun ds M Φ Ψ h => ?_) (fun cdv A outer s H E hr ds M Φ Ψ h => ⟨_, (dss_cons (ds_set (i := 3) sc_calm_beats.nd rfl (.inl rfl) (de_sub (de_item (dv 1) de_int) (de_item (dv 1) de_int)))
      (dss_one (ds_ret (de_div (de_sub (de_add (de_mul (de_sub (de_add (de_mul (dv 0) (dv 2)) (dv 0)) de_int) (de_item (dv 1) de_int)) (dv 3)) de_int) (dv 3))))), ?_⟩) <;> (unfold sp_calm_beats at h; split at h; rotate_left; exact h.elim)
  · rfl
  · rename_i n p q b
    obtain ⟨hp, h⟩ := h
    rw [st_calm_beats]
    walk_at "st"
    walk_at "ev"
    exact ⟨by walk_at "ok", by walk_at "ok", by walk_at "ok", h⟩
theorem ok_uses_bound (T : Top K mg) {B : Bx} : FnOk P w K mg base (L2.CX P w) 2 T.f_uses_bound T.d_uses_bound ["n", "rate", "burst", "uses"] (conc K B sp_uses_bound) := by
  refine dfn T.F_uses_bound sc_uses_bound (fun ds M Φ Ψ h => ?_) (fun cdv A outer s H E hr ds M Φ Ψ h => ⟨_, (dss_cons (ds_set (i := 4) sc_uses_bound.nd rfl (.inl rfl) (de_call ((ok_calm_beats T).mono (by decide)) hr (by rfl) T.g_calm_beats T.F_calm_beats.kp T.b_calm_beats (takes_of rfl rfl rfl rfl) (da_cons (dv 0) (da_cons (dv 1) (da_cons (dv 2) da_nil)))))
      (dss_one (ds_ret (de_add (de_mul (de_mul (dv 3) (dv 0)) (dv 4)) (de_call ((ok_wanted_most T).mono (by decide)) hr (by rfl) T.g_wanted_most T.F_wanted_most.kp T.b_wanted_most (takes_of rfl rfl rfl rfl) (da_cons (dv 1) (da_cons (dv 2) (da_cons (dv 4) da_nil)))))))), ?_⟩) <;> (unfold sp_uses_bound at h; split at h; rotate_left; exact h.elim)
  · rfl
  · rename_i n p q b u
    obtain ⟨hp, h⟩ := h
    rw [st_uses_bound]
    walk_at "st"
    refine ⟨by omega, ?_⟩
    walk_at "ev"
    have e1 : 0 ≤ u * n := Int.mul_nonneg (by omega) (by omega)
    have e2 : u * n ≤ 1000 * 1000 := Int.mul_le_mul (by omega) (by omega) (by omega) (by decide)
    exact ⟨by walk_at "ok", by walk_at "ok", by omega, h⟩
theorem ok__law_longest (T : Top K mg) {B : Bx} : FnOk P w K mg base (L2.CX P w) 1 T.f__law_longest T.d__law_longest ["n", "rate", "burst"] (conc K B sp__law_longest) := by
  refine dfn T.F__law_longest sc__law_longest (fun ds M Φ Ψ h => ?_) (fun cdv A outer s H E hr ds M Φ Ψ h => ⟨_, (dss_cons (ds_par3 (i := 3) (j := 4) (l := 5) rfl sc__law_longest.nd rfl rfl rfl (by decide) (by decide) (by decide) rfl rfl rfl (da_cons de_int (da_cons (de_mul (de_mul (dv 0) (de_add (dv 2) de_int)) (de_item (dv 1) de_int)) (da_cons (de_mul (de_sub (de_mul (dv 0) (de_add (dv 2) de_int)) de_int) (de_item (dv 1) de_int)) da_nil))))
      (dss_cons (ds_while (passes_of rfl) (dt_lt (dv 3) (dv 4))
        (dss_cons (ds_set (i := 6) sc__law_longest.nd rfl (.inl rfl) (de_div (de_add (de_add (dv 3) (dv 4)) de_int) de_int))
          (dss_one (ds_if (dt_le (de_mul (de_sub (de_item (dv 1) de_int) (de_item (dv 1) de_int)) (dv 6)) (dv 5))
            (dss_one (ds_set (i := 3) sc__law_longest.nd rfl (.inl rfl) (dv 6)))
            (dss_one (ds_set (i := 4) sc__law_longest.nd rfl (.inl rfl) (de_sub (dv 6) de_int)))))))
      (dss_one (ds_ret (dv 3))))), ?_⟩) <;> (unfold sp__law_longest at h; split at h; rotate_left; exact h.elim)
  · rfl
  · rename_i n p q b
    obtain ⟨⟨h1, h2, h3, h4, h5, h6⟩, h⟩ := h
    rw [st__law_longest]
    walk_at "st"
    refine ⟨by walk_at "ok", by walk_at "ok", by walk_at "ok", by walk_at "ok", ?_⟩
    have r0 := room_pos h4 h1 h2 h6
    have d0 : 0 < q - p := by omega
    refine aSeq_step ?_
    refine aWhile_by (fun m Γ' M' => ∃ lo hi x, Γ' = [some (.int n), some (.tup [.int p, .int q]), some (.int b), some (.int lo), some (.int hi), some (.int ((n * (b + 1) - 1) * q)), x] ∧ M' = M ∧ m = (hi - lo).toNat ∧ 0 ≤ lo ∧ lo ≤ hi ∧ (q - p) * lo ≤ (n * (b + 1) - 1) * q ∧ (n * (b + 1) - 1) * q < (q - p) * (hi + 1)) _ ⟨0, _, none, rfl, rfl, rfl, Int.le_refl _, ?_, ?_, ?_⟩ ?_
    · exact Int.mul_nonneg (Int.mul_nonneg (by omega) (by omega)) (by omega)
    · rw [Int.mul_zero]
      exact r0
    · have e1 : (n * (b + 1) - 1) * q ≤ n * (b + 1) * q := Int.mul_le_mul_of_nonneg_right (by omega) (by omega)
      have e2 : 1 * (n * (b + 1) * q + 1) ≤ (q - p) * (n * (b + 1) * q + 1) := Int.mul_le_mul_of_nonneg_right (by omega) (by
        have := Int.mul_nonneg (Int.mul_nonneg (by omega : 0 ≤ n) (by omega : 0 ≤ b + 1)) (by omega : 0 ≤ q)
        omega)
      omega
    · rintro m Γ' M' ⟨lo, hi, x, rfl, rfl, rfl, l0, l1, l2, l3⟩
      walk_at "ev"
      refine ⟨fun hb => ?_, fun hb => ?_⟩
      · have hlt := of_decide_eq_true hb
        walk_at "st"
        refine ⟨by walk_at "ok", ?_⟩
        walk_at "ev"
        have m1 : lo < (lo + hi + 1) / 2 := by omega
        have m2 : (lo + hi + 1) / 2 ≤ hi := by omega
        refine ⟨by walk_at "ok", fun hc => ?_, fun hc => ?_⟩
        · have hc := of_decide_eq_true hc
          exact ⟨_, by omega, _, hi, _, rfl, rfl, rfl, by omega, m2, hc, l3⟩
        · have hc := of_decide_eq_false hc
          refine ⟨_, ?_, lo, _, _, rfl, rfl, rfl, l0, by omega, l2, ?_⟩
          · omega
          · rw [show (lo + hi + 1) / 2 - 1 + 1 = (lo + hi + 1) / 2 by omega]
            omega
      · have hge := of_decide_eq_false hb
        obtain rfl : lo = hi := by omega
        walk_at "ev"
        rw [Lc_is h4 h1 h2 l2 l3]
        exact h
theorem ok__law_calm (T : Top K mg) {B : Bx} : FnOk P w K mg base (L2.CX P w) 1 T.f__law_calm T.d__law_calm ["n", "rate", "burst"] (conc K B sp__law_calm) := by
  refine dfn T.F__law_calm sc__law_calm (fun ds M Φ Ψ h => ?_) (fun cdv A outer s H E hr ds M Φ Ψ h => ⟨_, (dss_cons (ds_par3 (i := 3) (j := 4) (l := 5) rfl sc__law_calm.nd rfl rfl rfl (by decide) (by decide) (by decide) rfl rfl rfl (da_cons de_int (da_cons (de_mul (de_mul (dv 0) (de_add (dv 2) de_int)) (de_item (dv 1) de_int)) (da_cons (de_mul (de_sub (de_add (de_mul (dv 0) (dv 2)) (dv 0)) de_int) (de_item (dv 1) de_int)) da_nil))))
      (dss_cons (ds_while (passes_of rfl) (dt_lt (dv 3) (dv 4))
        (dss_cons (ds_set (i := 6) sc__law_calm.nd rfl (.inl rfl) (de_div (de_add (dv 3) (dv 4)) de_int))
          (dss_one (ds_if (dt_ge (de_mul (de_sub (de_item (dv 1) de_int) (de_item (dv 1) de_int)) (dv 6)) (dv 5))
            (dss_one (ds_set (i := 4) sc__law_calm.nd rfl (.inl rfl) (dv 6)))
            (dss_one (ds_set (i := 3) sc__law_calm.nd rfl (.inl rfl) (de_add (dv 6) de_int)))))))
      (dss_one (ds_ret (dv 3))))), ?_⟩) <;> (unfold sp__law_calm at h; split at h; rotate_left; exact h.elim)
  · rfl
  · rename_i n p q b
    obtain ⟨⟨h1, h2, h3, h4, h5, h6⟩, h⟩ := h
    rw [st__law_calm]
    walk_at "st"
    refine ⟨by walk_at "ok", by walk_at "ok", by walk_at "ok", by walk_at "ok", ?_⟩
    have r0 := room_pos h4 h1 h2 h6
    rw [room_eq] at r0
    have d0 : 0 < q - p := by omega
    refine aSeq_step ?_
    refine aWhile_by (fun m Γ' M' => ∃ lo hi x, Γ' = [some (.int n), some (.tup [.int p, .int q]), some (.int b), some (.int lo), some (.int hi), some (.int ((n * b + n - 1) * q)), x] ∧ M' = M ∧ m = (hi - lo).toNat ∧ 0 ≤ lo ∧ lo ≤ hi ∧ (n * b + n - 1) * q ≤ (q - p) * hi ∧ (q - p) * (lo - 1) < (n * b + n - 1) * q) _ ⟨0, _, none, rfl, rfl, rfl, Int.le_refl _, ?_, ?_, ?_⟩ ?_
    · exact Int.mul_nonneg (Int.mul_nonneg (by omega) (by omega)) (by omega)
    · have e1 : (n * b + n - 1) * q ≤ n * (b + 1) * q := Int.mul_le_mul_of_nonneg_right (by have := room_eq n b; omega) (by omega)
      have e2 : 1 * (n * (b + 1) * q) ≤ (q - p) * (n * (b + 1) * q) := Int.mul_le_mul_of_nonneg_right (by omega) (Int.mul_nonneg (Int.mul_nonneg (by omega) (by omega)) (by omega))
      omega
    · rw [show (0 : Int) - 1 = -1 from rfl, Int.mul_neg, Int.mul_one]
      omega
    · rintro m Γ' M' ⟨lo, hi, x, rfl, rfl, rfl, l0, l1, l2, l3⟩
      walk_at "ev"
      refine ⟨fun hb => ?_, fun hb => ?_⟩
      · have hlt := of_decide_eq_true hb
        walk_at "st"
        refine ⟨by walk_at "ok", ?_⟩
        walk_at "ev"
        have m1 : lo ≤ (lo + hi) / 2 := by omega
        have m2 : (lo + hi) / 2 < hi := by omega
        refine ⟨by walk_at "ok", fun hc => ?_, fun hc => ?_⟩
        · have hc := of_decide_eq_true hc
          exact ⟨_, by omega, lo, _, _, rfl, rfl, rfl, l0, by omega, hc, l3⟩
        · have hc := of_decide_eq_false hc
          refine ⟨_, ?_, _, hi, _, rfl, rfl, rfl, by omega, by omega, l2, ?_⟩
          · omega
          · rw [show (lo + hi) / 2 + 1 - 1 = (lo + hi) / 2 by omega]
            omega
      · have hge := of_decide_eq_false hb
        obtain rfl : lo = hi := by omega
        walk_at "ev"
        rw [Cb_is h4 h1 h2 l2 l3]
        exact h
theorem ok__law_bound (T : Top K mg) {B : Bx} : FnOk P w K mg base (L2.CX P w) 2 T.f__law_bound T.d__law_bound ["n", "rate", "burst"] (conc K B sp__law_bound) := by
  refine dfn T.F__law_bound sc__law_bound (fun ds M Φ Ψ h => ?_) (fun cdv A outer s H E hr ds M Φ Ψ h => ⟨_, (dss_one (ds_ret (de_add (dv 2) (de_div (de_mul (de_item (dv 1) de_int) (de_call ((ok__law_longest T).mono (by decide)) hr (by rfl) T.g__law_longest T.F__law_longest.kp T.b__law_longest (takes_of rfl rfl rfl rfl) (da_cons (dv 0) (da_cons (dv 1) (da_cons (dv 2) da_nil))))) (de_item (dv 1) de_int))))), ?_⟩) <;> (unfold sp__law_bound at h; split at h; rotate_left; exact h.elim)
  · rfl
  · rename_i n p q b
    obtain ⟨hp, h⟩ := h
    rw [st__law_bound]
    walk_at "ev"
    refine ⟨hp, by walk_at "ok", by walk_at "ok", ?_⟩
    have e : b + p * Lc n p q b / q = Rb n p q b := by unfold Rb Wm; omega
    rw [e]
    exact h
theorem ok_burst_for (T : Top K mg) {B : Bx} : FnOk P w K mg base (L2.CX P w) 3 T.f_burst_for T.d_burst_for ["n", "rate", "most"] (conc K B sp_burst_for) := by
  refine dfn T.F_burst_for sc_burst_for (fun ds M Φ Ψ h => ?_) (fun cdv A outer s H E hr ds M Φ Ψ h => ⟨_, (dss_cons (ds_if (dt_gt (de_call ((ok_ring_bound T).mono (by decide)) hr (by rfl) T.g_ring_bound T.F_ring_bound.kp T.b_ring_bound (takes_of rfl rfl rfl rfl) (da_cons (dv 0) (da_cons (dv 1) (da_cons de_int da_nil)))) (dv 2))
        (dss_one (ds_ret de_non))
        dss_nil)
      (dss_cons (ds_par (i := 3) (j := 4) rfl sc_burst_for.nd rfl rfl (by decide) rfl rfl (da_cons de_int (da_cons (dv 2) da_nil)))
      (dss_cons (ds_while (passes_of rfl) (dt_lt (dv 3) (dv 4))
        (dss_cons (ds_set (i := 5) sc_burst_for.nd rfl (.inl rfl) (de_div (de_add (de_add (dv 3) (dv 4)) de_int) de_int))
          (dss_one (ds_if (dt_le (de_call ((ok_ring_bound T).mono (by decide)) hr (by rfl) T.g_ring_bound T.F_ring_bound.kp T.b_ring_bound (takes_of rfl rfl rfl rfl) (da_cons (dv 0) (da_cons (dv 1) (da_cons (dv 5) da_nil)))) (dv 2))
            (dss_one (ds_set (i := 3) sc_burst_for.nd rfl (.inl rfl) (dv 5)))
            (dss_one (ds_set (i := 4) sc_burst_for.nd rfl (.inl rfl) (de_sub (dv 5) de_int)))))))
      (dss_one (ds_ret (dv 3)))))), ?_⟩) <;> (unfold sp_burst_for at h; split at h; rotate_left; exact h.elim)
  · rfl
  · rename_i n p q most
    obtain ⟨⟨h1, h2, h3, h4, h5⟩, hn, hs⟩ := h
    rw [st_burst_for]
    walk_at "st"
    refine ⟨⟨h1, h2, h3, h4, h5⟩, fun hb => hn (of_decide_eq_true hb), fun hb => ?_⟩
    have hb : Rb n p q 1 ≤ most := by have := of_decide_eq_false hb; omega
    walk_at "st"
    refine aSeq_step ?_
    have g1 := Rb_ge h4 h1 h2 (b := 1) (by decide)
    refine aWhile_by (fun m Γ' M' => ∃ lo hi x, Γ' = [some (.int n), some (.tup [.int p, .int q]), some (.int most), some (.int lo), some (.int hi), x] ∧ M' = M ∧ m = (hi - lo).toNat ∧ 1 ≤ lo ∧ lo ≤ hi ∧ Rb n p q lo ≤ most ∧ most < Rb n p q (hi + 1)) _ ⟨1, most, none, rfl, rfl, rfl, Int.le_refl _, by omega, hb, by have := Rb_ge h4 h1 h2 (b := most + 1) (by omega); omega⟩ ?_
    rintro m Γ' M' ⟨lo, hi, x, rfl, rfl, rfl, l0, l1, l2, l3⟩
    walk_at "ev"
    refine ⟨fun hb => ?_, fun hb => ?_⟩
    · have hlt := of_decide_eq_true hb
      walk_at "st"
      refine ⟨by walk_at "ok", ?_⟩
      walk_at "ev"
      have m1 : lo < (lo + hi + 1) / 2 := by omega
      have m2 : (lo + hi + 1) / 2 ≤ hi := by omega
      refine ⟨⟨h1, h2, h3, h4, h5⟩, fun hc => ?_, fun hc => ?_⟩
      · have hc := of_decide_eq_true hc
        exact ⟨_, by omega, _, hi, _, rfl, rfl, rfl, by omega, m2, hc, l3⟩
      · have hc := of_decide_eq_false hc
        refine ⟨_, ?_, lo, _, _, rfl, rfl, rfl, l0, by omega, l2, ?_⟩
        · omega
        · rw [show (lo + hi + 1) / 2 - 1 + 1 = (lo + hi + 1) / 2 by omega]
          omega
    · have hge := of_decide_eq_false hb
      obtain rfl : lo = hi := by omega
      walk_at "ev"
      exact hs (by have := Rb_mono h4 h1 h2 l0; omega) lo l0 l2 l3
theorem ok_top_for (T : Top K mg) {B : Bx} : FnOk P w K mg base (L2.CX P w) 3 T.f_top_for T.d_top_for ["n", "bottom", "burst", "most"] (conc K B sp_top_for) := by
  refine dfn T.F_top_for sc_top_for (fun ds M Φ Ψ h => ?_) (fun cdv A outer s H E hr ds M Φ Ψ h => ⟨_, (dss_cons (ds_setLc (i := 4) (own := [("top", 5)]) rfl sc_top_for.nd rfl rfl (sw_true rfl rfl rfl (by decide +kernel)) (di_rng2 (by rfl) T.z_range (da_cons de_int (da_cons (dv 1) da_nil))) (blkOk_by (N := n_top_for) (sc := defScope s_top_for) (by decide +kernel)) (fun _ _ _ _ _ => (dg_name (i := 5) sc_top_for.nd rfl (.inl rfl))) (fun _ _ _ _ _ => (dts_one (dt_le (de_call ((ok_ring_bound T).mono (by decide)) hr (by rfl) T.g_ring_bound T.F_ring_bound.kp T.b_ring_bound tk_calm (da_cons (dv 0) (da_cons (de_tup (da_cons (dv 5) (da_cons (dv 1) da_nil))) (da_cons (dv 2) da_nil)))) (dv 3)))) (fun _ _ _ _ _ => (dv 5)))
      (dss_one (ds_ret (de_if (nilT hr (dv 4)) (de_item (dv 4) (de_neg de_int)) de_non)))), ?_⟩) <;> (unfold sp_top_for at h; split at h; rotate_left; exact h.elim)
  · rfl
  · rename_i n bottom b most
    obtain ⟨⟨h1, h2, h3, h4⟩, h⟩ := h
    rw [st_top_for]
    walk_at "st"
    refine aLc_pure (rngI 1 (bottom - 1).toNat) D.int (fun t => decide (Rb n t bottom b ≤ most)) D.int (fun Φ' q => ?_) (by rw [rngI_len]; omega) (fun t ht M' => ?_) ?_
    · walk_at "ev"
      rw [rngD_eq]
      exact ⟨by omega, q⟩
    · have := mem_rngI ht
      refine ⟨_, rfl, fun Φ' q => ?_, fun hf Φ' q => q⟩
      walk_at "ev"
      refine ⟨by decide, by omega, q⟩
    · walk_at "ev"
      exact last_by (tops n bottom b most) h
theorem ok__law_like (T : Top K mg) {B : Bx} : FnOk P w K mg base (L2.CX P w) 1 T.f__law_like T.d__law_like ["told", "due"] (conc K B sp__law_like) := by
  refine dfn T.F__law_like sc__law_like (fun ds M Φ Ψ h => ?_) (fun cdv A outer s H E hr ds M Φ Ψ h => ⟨_, (dss_cons (ds_if (dt_val (de_isi (n := "tuple") (by rfl) T.z_isinstance (by rfl) T.z_tuple (by decide +kernel) (dv 1)))
        dss_never
        dss_nil)
      (dss_cons (ds_if (dt_is (dv 1) de_non)
        (dss_one (ds_ret (de_is (dv 0) de_non)))
        dss_nil)
      (dss_cons (ds_if (dt_val (de_isi (n := "bool") (by rfl) T.z_isinstance (by rfl) T.z_bool (by decide +kernel) (dv 1)))
        dss_never
        dss_nil)
      (dss_cons (ds_if (dt_val (de_isi (n := "int") (by rfl) T.z_isinstance (by rfl) T.z_int (by decide +kernel) (dv 1)))
        (dss_one (ds_ret (de_and (de_isi (n := "int") (by rfl) T.z_isinstance (by rfl) T.z_int (by decide +kernel) (dv 0)) (de_and (de_not (de_isi (n := "bool") (by rfl) T.z_isinstance (by rfl) T.z_bool (by decide +kernel) (dv 0))) (de_one (de_eq hr (dv 0) (dv 1)))))))
        dss_nil)
      (dss_one ds_never))))), ?_⟩) <;> (unfold sp__law_like at h; split at h; rotate_left 2; exact h.elim)
  · rfl
  · rfl
  · rename_i a b
    rw [st__law_like]
    walk_at "go"
    exact h
  · rename_i d
    rw [st__law_like]
    walk_at "go"
    exact h
theorem ok__law_draw (T : Top K mg) : FnOk P w K mg base (L2.CX P w) 1 T.f__law_draw T.d__law_draw ["heap", "many"] (conc K Bx.no spDrawM) := by
  refine dfn T.F__law_draw sc__law_draw (fun ds M Φ Ψ h => ?_) (fun cdv A outer s H E hr ds M Φ Ψ h => ⟨_, (dss_cons (ds_while (passes_of rfl) (dt_w (dw_and (nilT hr (de_item (dv 0) de_int)) (dw_and1 (dt_eq hr (de_item (de_item (dv 0) de_int) (de_neg de_int)) de_int))))
        (dss_one (ds_expr (de_pop (de_item (dv 0) de_int)))))
      (dss_cons (ds_if (nilT hr (de_item (dv 0) de_int))
        (dss_cons (ds_set (i := 2) sc__law_draw.nd rfl (.inl rfl) (de_pop (de_item (dv 0) de_int)))
          (dss_cons (ds_expr (de_app (de_item (dv 0) de_int) (de_div (dv 2) (dv 1))))
          (dss_one (ds_ret (de_mod (de_callInt (by rfl) T.z_int (dv 2)) (dv 1))))))
        dss_nil)
      (dss_cons (ds_setIx (de_mod (de_callInt (by rfl) T.z_int (de_add (de_mul (de_item (dv 0) de_int) de_int) de_int)) de_int) (dv 0) de_int)
      (dss_one (ds_ret (de_mod (de_callInt (by rfl) T.z_int (de_div (de_item (dv 0) de_int) de_int)) (dv 1))))))), ?_⟩) <;> obtain ⟨h, c, cs, s, n, M1, rfl, rfl, hn, hl, hq⟩ := h
  · rfl
  · rw [st__law_draw]
    refine aSeq_step ?_
    refine aWhile_by (fun m Γ' M' => ∃ cs', Γ' = [some (.ref h), some (.int n), none] ∧ M' = heapM h c cs' s ++ M1 ∧ m = cs'.length ∧ cs'.length ≤ 1000) _ ⟨cs, rfl, rfl, rfl, hl⟩ ?_
    rintro m Γ' M' ⟨cs, rfl, rfl, rfl, hl⟩
    have rest : aSeq
        (aIfS (aNil? (fun b => !b) (aOp fIx (aVar 0) (aC (D.int 0))))
          (aSeq (aSet 2 (aPop (aOp fIx (aVar 0) (aC (D.int 0)))))
            (aSeq (aDrop (aApp (aOp fIx (aVar 0) (aC (D.int 0))) (aOp fDiv (aVar 2) (aVar 1))))
              (aRet (aOp fMod (aCB fInt (aCons (aVar 2) aNil)) (aVar 1))))) aNext)
        (aSeq (aSetIx (aOp fMod (aCB fInt (aCons (aOp fAdd (aOp fMul (aOp fIx (aVar 0) (aC (D.int 1))) (aC (D.int 48271))) (aC (D.int 83))) aNil)) (aC (D.int 2147483647))) (aVar 0) (aC (D.int 1)))
          (aRet (aOp fMod (aCB fInt (aCons (aOp fDiv (aOp fIx (aVar 0) (aC (D.int 1))) (aC (D.int 32))) aNil)) (aVar 1))))
        { nx := fun _ M => Φ D.non M, rt := Φ } [some (D.ref h), some (D.int n), none] ((h, MO.lst [D.ref c, D.int s]) :: (c, MO.lst (List.map D.int cs)) :: M1) := by
      walk_at "st"
      refine ⟨_, .head _, ?_⟩
      walk_at "ev"
      refine ⟨_, .tail _ (.head _), all_ints, fun hb => ?_, fun hb => ?_⟩
      · walk_at "st"
        refine ⟨_, .head _, ?_⟩
        walk_at "ev"
        rcases last_or cs with rfl | ⟨cs, x, rfl⟩
        · cases hb
        · refine ⟨_, .int x, _, .there .here, ?_, ?_⟩
          · simp
          · walk_at "st"
            refine ⟨_, .head _, ?_⟩
            walk_at "ev"
            refine ⟨⟨_, .tail _ (.head _)⟩, hn, _, _, .there .here, ?_, ?_⟩
            · rw [List.map_append, List.map_singleton, List.dropLast_concat, List.length_map]
              rw [List.length_append, List.length_singleton] at hl
              omega
            · walk_at "ev"
              refine ⟨hn.1, ?_⟩
              have e : (List.map D.int (cs ++ [x])).dropLast ++ [D.int (x / n)] = List.map D.int (cs ++ [x / n]) := by
                rw [List.map_append, List.map_singleton, List.dropLast_concat, List.map_append]
                rfl
              rw [e]
              refine hq _ _ _ ?_ (Int.emod_nonneg _ (by have := hn.1; omega)) (Int.emod_lt_of_pos _ hn.1)
              rw [List.length_append] at hl ⊢
              exact hl
      · walk_at "st"
        refine ⟨_, .head _, ?_⟩
        walk_at "ev"
        refine ⟨by walk_at "ok", by walk_at "ok", _, 1, _, rfl, .here, _, .head _, ?_⟩
        walk_at "ev"
        exact ⟨by walk_at "ok", hn.1, hq _ _ _ hl (Int.emod_nonneg _ (by have := hn.1; omega)) (Int.emod_lt_of_pos _ hn.1)⟩
    walk_at "ev"
    refine ⟨_, .head _, ?_⟩
    walk_at "ev"
    refine ⟨_, .tail _ (.head _), all_ints, fun hb => ?_, fun hb => ?_⟩
    · refine ⟨_, .head _, ?_⟩
      walk_at "ev"
      refine ⟨_, .tail _ (.head _), ?_⟩
      rcases last_or cs with rfl | ⟨cs, x, rfl⟩
      · cases hb
      · rw [getI_last (d := .int x) (by simp)]
        walk_at "ev"
        refine ⟨fun h0 => ?_, fun h0 => rest⟩
        refine ⟨_, .head _, ?_⟩
        walk_at "ev"
        refine ⟨_, .int x, _, .there .here, by simp, cs.length, ?_, cs, rfl, ?_, rfl, ?_⟩
        · simp
        · rw [List.map_append, List.map_singleton, List.dropLast_concat]
        · simp at hl
          omega
    · walk_at "no"
      exact rest
theorem ok__law_draw_box (T : Top K mg) (h c : Addr) : FnOk P w K mg base (L2.CX P w) 1 T.f__law_draw T.d__law_draw ["heap", "many"] (conc K (bxHeap h c) (spDraw h)) := draw_box (ok__law_draw T) h c
theorem ok__law_pick (T : Top K mg) (h c : Addr) : FnOk P w K mg base (L2.CX P w) 2 T.f__law_pick T.d__law_pick ["heap", "some"] (conc K (bxHeap h c) (spPick h)) := by
  refine dfn T.F__law_pick sc__law_pick (fun ds M Φ Ψ h => ?_) (fun cdv A outer s H E hr ds M Φ Ψ hh => ⟨_, (dss_one (ds_ret (de_item (dv 1) (de_call ((ok__law_draw_box T h c).mono (by decide)) hr (by rfl) T.g__law_draw T.F__law_draw.kp T.b__law_draw (takes_of rfl rfl rfl rfl) (da_cons (dv 0) (da_cons (de_len (by rfl) T.z_len (dv 1)) da_nil)))))), ?_⟩)
  · unfold spPick at h
    split at h
    · rfl
    · rfl
    · exact h.elim
  · unfold spPick at hh
    split at hh
    · rename_i h' xs
      obtain ⟨rfl, ⟨h0, h1⟩, hq⟩ := hh
      rw [st__law_pick]
      walk_at "ev"
      refine ⟨rfl, divOk_of (by omega) (by omega), fun r r0 r1 => ?_⟩
      walk_at "ev"
      have hlt : r.toNat < xs.length := by omega
      rw [getI_of r0 (List.getElem?_eq_getElem hlt)]
      exact hq _ (List.getElem_mem hlt)
    · rename_i h' xs
      obtain ⟨rfl, ⟨h0, h1⟩, hq⟩ := hh
      rw [st__law_pick]
      walk_at "ev"
      refine ⟨rfl, divOk_of (by omega) (by omega), fun r r0 r1 => ?_⟩
      walk_at "ev"
      have hlt : r.toNat < xs.length := by omega
      rw [getI_of r0 (List.getElem?_eq_getElem hlt)]
      exact hq _ (List.getElem_mem hlt)
    · exact hh.elim
theorem ok__law_rate (T : Top K mg) (h c : Addr) : FnOk P w K mg base (L2.CX P w) 3 T.f__law_rate T.d__law_rate ["heap"] (conc K (bxHeap h c) (sp__law_rate h)) := by
  refine dfn T.F__law_rate sc__law_rate (fun ds M Φ Ψ h => ?_) (fun cdv A outer s H E hr ds M Φ Ψ hh => ⟨_, (dss_cons (ds_set (i := 1) sc__law_rate.nd rfl (.inl rfl) (de_call ((ok__law_pick T h c).mono (by decide)) hr (by rfl) T.g__law_pick T.F__law_pick.kp T.b__law_pick (takes_of rfl rfl rfl rfl) (da_cons (dv 0) (da_cons (de_lst (da_cons de_int (da_cons de_int (da_cons de_int (da_cons de_int (da_cons de_int (da_cons (de_add de_int (de_call ((ok__law_draw_box T h c).mono (by decide)) hr (by rfl) T.g__law_draw T.F__law_draw.kp T.b__law_draw (takes_of rfl rfl rfl rfl) (da_cons (dv 0) (da_cons de_int da_nil)))) da_nil))))))) da_nil))))
      (dss_cons (ds_set (i := 2) sc__law_rate.nd rfl (.inl rfl) (de_call ((ok__law_pick T h c).mono (by decide)) hr (by rfl) T.g__law_pick T.F__law_pick.kp T.b__law_pick (takes_of rfl rfl rfl rfl) (da_cons (dv 0) (da_cons (de_lst (da_cons de_int (da_cons (de_sub (dv 1) de_int) (da_cons (de_add de_int (de_call ((ok__law_draw_box T h c).mono (by decide)) hr (by rfl) T.g__law_draw T.F__law_draw.kp T.b__law_draw (takes_of rfl rfl rfl rfl) (da_cons (dv 0) (da_cons (de_sub (dv 1) de_int) da_nil)))) da_nil)))) da_nil))))
      (dss_cons (ds_par (i := 3) (j := 4) rfl sc__law_rate.nd rfl rfl (by decide) rfl rfl (da_cons (dv 1) (da_cons (dv 2) da_nil)))
      (dss_cons (ds_while (passes_of rfl) (dt_gt (dv 4) de_int)
        (dss_one (ds_par (i := 3) (j := 4) rfl sc__law_rate.nd rfl rfl (by decide) rfl rfl (da_cons (dv 4) (da_cons (de_mod (de_callInt (by rfl) T.z_int (dv 3)) (dv 4)) da_nil)))))
      (dss_one (ds_ret (de_tup (da_cons (de_div (dv 2) (dv 3)) (da_cons (de_div (dv 1) (dv 3)) da_nil))))))))), ?_⟩)
  · unfold sp__law_rate at h
    split at h
    · rfl
    · exact h.elim
  · unfold sp__law_rate at hh
    split at hh
    rotate_left
    · exact hh.elim
    rename_i h'
    obtain ⟨rfl, hq⟩ := hh
    rw [st__law_rate]
    walk_at "st"
    refine ⟨rfl, by walk_at "ok", fun r r0 r1 => ?_⟩
    walk_at "ev"
    refine ⟨by decide, rfl, by decide, pick_as (emb := D.int) (R := fun x => 2 ≤ x ∧ x ≤ 1000) (by walk_at "mem") fun bottom ⟨b0, b1⟩ => ?_⟩
    walk_at "st"
    refine ⟨rfl, divOk_of (by omega) (by omega), fun r r0 r1 => ?_⟩
    walk_at "ev"
    refine ⟨by decide, rfl, by decide, pick_as (emb := D.int) (R := fun x => 1 ≤ x ∧ x < bottom) (by walk_at "mem") fun top ⟨t0, t1⟩ => ?_⟩
    walk_at "st"
    refine aSeq_step ?_
    refine aWhile_by (fun m Γ' M' => ∃ one other, Γ' = [some (.ref h'), some (.int bottom), some (.int top), some (.int one), some (.int other)] ∧ M' = M ∧ m = other.toNat ∧ 0 < one ∧ 0 ≤ other ∧ ∀ d, d ∣ one → d ∣ other → d ∣ bottom ∧ d ∣ top) _ ⟨bottom, top, rfl, rfl, rfl, by omega, by omega, fun d h1 h2 => ⟨h1, h2⟩⟩ ?_
    rintro m Γ' M' ⟨one, other, rfl, rfl, rfl, o0, o1, hd⟩
    walk_at "ev"
    refine ⟨fun hb => ?_, fun hb => ?_⟩
    · have hb := of_decide_eq_true hb
      refine ⟨hb, ?_⟩
      have e0 := Int.emod_nonneg one (by omega : other ≠ 0)
      have e1 := Int.emod_lt_of_pos one hb
      exact ⟨_, by omega, other, one % other, rfl, rfl, rfl, hb, e0, fun d h1 h2 => hd d (by
        rw [← Int.emod_add_mul_ediv one other]
        exact Int.dvd_add h2 (Int.dvd_trans h1 (Int.dvd_mul_right _ _))) h1⟩
    · have hb := of_decide_eq_false hb
      obtain rfl : other = 0 := by omega
      obtain ⟨⟨p, hp⟩, ⟨q, hq'⟩⟩ := hd one (Int.dvd_refl _) (Int.dvd_zero _)
      walk_at "ev"
      have ep : top / one = q := by rw [hq']; exact Int.mul_ediv_cancel_left _ (by omega)
      have eq : bottom / one = p := by rw [hp]; exact Int.mul_ediv_cancel_left _ (by omega)
      have hle : one ≤ 1000 := Int.le_trans (Int.le_of_dvd (by omega) ⟨p, hp⟩) b1
      refine ⟨divOk_of (by omega) (by omega), divOk_of (by omega) (by omega), by decide, ?_⟩
      rw [ep, eq]
      have q0 : 1 ≤ q := by
        rcases Int.lt_or_le q 1 with hl | hl
        · have : one * q ≤ 0 := Int.mul_nonpos_of_nonneg_of_nonpos (by omega) (by omega)
          omega
        · exact hl
      have q1 : q < p := by
        rcases Int.lt_or_le q p with hl | hl
        · exact hl
        · have : one * p ≤ one * q := Int.mul_le_mul_of_nonneg_left hl (by omega)
          omega
      have q2 : p ≤ 1000 := by
        have : 1 * p ≤ one * p := Int.mul_le_mul_of_nonneg_right (by omega) (by omega)
        omega
      exact hq q p q0 q1 q2
theorem ok__law_heap (T : Top K mg) : FnOk P w K mg base (L2.CX P w) 1 T.f__law_heap T.d__law_heap ["script"] (conc K Bx.no sp__law_heap) := by
  refine dfn T.F__law_heap sc__law_heap (fun ds M Φ Ψ h => ?_) (fun cdv A outer s H E hr ds M Φ Ψ hh => ⟨_, (dss_cons (ds_set (i := 1) sc__law_heap.nd rfl (.inr rfl) (de_mul (de_mul (de_pow de_int de_int) (de_pow de_int de_int)) (de_pow de_int de_int)))
      (dss_cons (ds_par (i := 2) (j := 3) rfl sc__law_heap.nd rfl rfl (by decide) rfl rfl (da_cons (de_lc (own := [("cell", 4)]) rfl sc__law_heap.nd (di_seq (de_slL (dv 0) do_none (do_some de_int))) (blkOk_by (N := n__law_heap) (sc := defScope s__law_heap) (by decide +kernel)) (fun _ _ _ _ _ => (dg_name (i := 4) sc__law_heap.nd rfl (.inl rfl))) (fun _ _ _ _ _ => dts_nil) (fun _ _ _ _ _ => (de_mod (de_callInt (by rfl) T.z_int (de_add (de_mul de_int (de_abs (by rfl) T.z_abs (dv 4))) (de_callInt (by rfl) T.z_int (de_lt (dv 4) de_int)))) (dv 1)))) (da_cons de_int da_nil)))
      (dss_cons (ds_for (passes_of rfl) rfl (di_seq (dv 2)) (dg_name (i := 4) sc__law_heap.nd rfl (.inl rfl))
        (dss_one (ds_set (i := 3) sc__law_heap.nd rfl (.inl rfl) (de_mod (de_callInt (by rfl) T.z_int (de_add (de_add (de_mul (dv 3) de_int) (de_mod (de_callInt (by rfl) T.z_int (dv 4)) de_int)) de_int)) de_int))))
      (dss_one (ds_ret (de_lstM (da_cons (de_revM (de_lc (own := [("cell", 4)]) rfl sc__law_heap.nd (di_seq (dv 2)) (blkOk_by (N := n__law_heap) (sc := defScope s__law_heap) (by decide +kernel)) (fun _ _ _ _ _ => (dg_name (i := 4) sc__law_heap.nd rfl (.inl rfl))) (fun _ _ _ _ _ => (dts_one (dt_ge (dv 4) (de_pow de_int de_int)))) (fun _ _ _ _ _ => (dv 4)))) (da_cons (dv 3) da_nil)))))))), ?_⟩) <;> (first | (unfold sp__law_heap at h; split at h; rotate_left; exact h.elim) | (unfold sp__law_heap at hh; split at hh; rotate_left; exact hh.elim))
  · rfl
  · rename_i xs
    obtain ⟨ns, rfl, hl, hq⟩ := hh
    rw [st__law_heap]
    walk_at "st"
    refine ⟨⟨by decide, by decide, by decide⟩, ⟨by decide, by decide, by decide⟩, mulW_of (by decide +kernel), ⟨by decide, by decide, by decide⟩, mulW_of (by decide +kernel), ?_⟩
    walk_at "st"
    refine aLc_int (ns.take 60) D.int (fun x => (2 * (if x < 0 then -x else x) + (if decide (x < 0) = true then 1 else 0)) % (10 ^ Int.toNat 60 * 10 ^ Int.toNat 60 * 10 ^ Int.toNat 60)) (fun Φ' q => ?_) (by rw [List.length_take]; omega) (fun x hx M' => ⟨_, rfl, fun Φ' q => ?_⟩) ?_
    · walk_at "ev"
      rw [cutD_take (by decide), ← List.map_take]
      exact q
    · walk_at "ev"
      exact ⟨by walk_at "ok", by show (0 : Int) < _; decide +kernel, q⟩
    walk_at "ev"
    have hlen : ((ns.take 60).map (fun x : Int => (2 * (if x < 0 then -x else x) + (if decide (x < 0) = true then 1 else 0)) % (10 ^ Int.toNat 60 * 10 ^ Int.toNat 60 * 10 ^ Int.toNat 60))).length ≤ 1000 := by
      rw [List.length_map, List.length_take]
      omega
    generalize (ns.take 60).map (fun x : Int => (2 * (if x < 0 then -x else x) + (if decide (x < 0) = true then 1 else 0)) % (10 ^ Int.toNat 60 * 10 ^ Int.toNat 60 * 10 ^ Int.toNat 60)) = cells at hlen ⊢
    refine aSeq_step ?_
    refine aFor_map cells D.int (fun i Γ' M' => ∃ y z x, Γ' = [some (.lst (List.map D.int ns)), y, some (.lst (List.map D.int cells)), some (.int z), x] ∧ M' = M) (fun Φ' q => ?_) ⟨_, _, _, rfl, rfl⟩ ?_ ?_
    · walk_at "ev"
      exact q
    · rintro i x Γ' M' hx ⟨y, z, u, rfl, rfl⟩
      refine ⟨_, rfl, ?_⟩
      walk_at "ev"
      exact ⟨by walk_at "ok", by walk_at "ok", by walk_at "ok", y, _, _, rfl, rfl⟩
    · rintro Γ' M' ⟨y, z, x, rfl, rfl⟩
      walk_at "ev"
      refine aLc_ifid cells D.int (fun x => decide (10 ^ Int.toNat 18 ≤ x)) (fun Φ' q => ?_) (by omega) (fun x hx M' => ⟨_, rfl, fun Φ' q => ?_, fun hf Φ' q => ?_⟩) ?_
      · walk_at "ev"
        exact q
      · walk_at "ev"
        exact ⟨⟨by decide, by decide, by decide⟩, q⟩
      · walk_at "ev"
        exact q
      walk_at "ev"
      intro c
      refine ⟨by decide, fun h => ?_⟩
      rw [← List.map_reverse]
      refine hq h c _ z ?_
      rw [List.length_reverse]
      exact Nat.le_trans (List.length_filter_le _ _) hlen
theorem ok_law (T : Top K mg) : FnOk P w K mg base (L2.CX P w) 9 T.f_law T.d_law ["script"] (conc K Bx.no aspLaw) := by
  refine dfn T.F_law sc_law aspLaw_len (fun cdv A outer s H E hr ds M Φ Ψ hh => ⟨_, (dss_cons (ds_set (i := 1) sc_law.nd rfl (.inl rfl) (de_call ((ok__law_heap T).mono (by decide)) hr (by rfl) T.g__law_heap T.F__law_heap.kp T.b__law_heap (takes_of rfl rfl rfl rfl) (da_cons (dv 0) da_nil)))
      (dss_box (bx := fun i : Addr × Addr => bxHeap i.1 i.2) fun bi =>
      (dss_cons (ds_for (passes_of rfl) rfl (di_rng1 (by rfl) T.z_range (da_cons de_int da_nil)) (dg_name (i := 2) sc_law.nd rfl (.inl rfl))
          (dss_cons (ds_asg (de_tup (da_cons (de_call ((ok__law_pick T bi.1 bi.2).mono (by decide)) hr (by rfl) T.g__law_pick T.F__law_pick.kp T.b__law_pick (takes_of rfl rfl rfl rfl) (da_cons (dv 1) (da_cons (de_lst (da_cons de_int (da_cons de_int (da_cons de_int (da_cons (de_add de_int (de_call ((ok__law_draw_box T bi.1 bi.2).mono (by decide)) hr (by rfl) T.g__law_draw T.F__law_draw.kp T.b__law_draw (takes_of rfl rfl rfl rfl) (da_cons (dv 1) (da_cons de_int da_nil)))) da_nil))))) da_nil))) (da_cons (de_call ((ok__law_rate T bi.1 bi.2).mono (by decide)) hr (by rfl) T.g__law_rate T.F__law_rate.kp T.b__law_rate (takes_of rfl rfl rfl rfl) (da_cons (dv 1) da_nil)) da_nil))) (dg_tup rfl (dgs_cons (dg_name (i := 3) sc_law.nd rfl (.inr rfl)) (dgs_cons (dg_name (i := 4) sc_law.nd rfl (.inl rfl)) dgs_nil)) (fix_cons (fix_cons fix_nil))))
            (dss_cons (ds_set (i := 5) sc_law.nd rfl (.inl rfl) (de_call ((ok__law_pick T bi.1 bi.2).mono (by decide)) hr (by rfl) T.g__law_pick T.F__law_pick.kp T.b__law_pick (takes_of rfl rfl rfl rfl) (da_cons (dv 1) (da_cons (de_lst (da_cons de_int (da_cons de_int (da_cons de_int (da_cons (de_add de_int (de_call ((ok__law_draw_box T bi.1 bi.2).mono (by decide)) hr (by rfl) T.g__law_draw T.F__law_draw.kp T.b__law_draw (takes_of rfl rfl rfl rfl) (da_cons (dv 1) (da_cons de_int da_nil)))) (da_cons (de_add de_int (de_call ((ok__law_draw_box T bi.1 bi.2).mono (by decide)) hr (by rfl) T.g__law_draw T.F__law_draw.kp T.b__law_draw (takes_of rfl rfl rfl rfl) (da_cons (dv 1) (da_cons (de_pow de_int de_int) da_nil)))) da_nil)))))) da_nil))))
            (dss_cons (ds_par (i := 6) (j := 7) rfl sc_law.nd rfl rfl (by decide) rfl rfl (da_cons (de_call ((ok__law_pick T bi.1 bi.2).mono (by decide)) hr (by rfl) T.g__law_pick T.F__law_pick.kp T.b__law_pick (takes_of rfl rfl rfl rfl) (da_cons (dv 1) (da_cons (de_lst (da_cons de_int (da_cons de_int (da_cons (de_call ((ok__law_draw_box T bi.1 bi.2).mono (by decide)) hr (by rfl) T.g__law_draw T.F__law_draw.kp T.b__law_draw (takes_of rfl rfl rfl rfl) (da_cons (dv 1) (da_cons de_int da_nil))) (da_cons (de_call ((ok__law_draw_box T bi.1 bi.2).mono (by decide)) hr (by rfl) T.g__law_draw T.F__law_draw.kp T.b__law_draw (takes_of rfl rfl rfl rfl) (da_cons (dv 1) (da_cons (de_pow de_int de_int) da_nil))) da_nil))))) da_nil))) (da_cons (de_add de_int (de_call ((ok__law_draw_box T bi.1 bi.2).mono (by decide)) hr (by rfl) T.g__law_draw T.F__law_draw.kp T.b__law_draw (takes_of rfl rfl rfl rfl) (da_cons (dv 1) (da_cons de_int da_nil)))) da_nil)))
            (dss_cons (ds_if (dt_not (dt_val (de_call ((ok__law_like T).mono (by decide)) hr (by rfl) T.g__law_like T.F__law_like.kp T.b__law_like (takes_of rfl rfl rfl rfl) (da_cons (de_call ((ok_wanted_most T).mono (by decide)) hr (by rfl) T.g_wanted_most T.F_wanted_most.kp T.b_wanted_most (takes_of rfl rfl rfl rfl) (da_cons (dv 4) (da_cons (dv 5) (da_cons (dv 6) da_nil)))) (da_cons (de_add (dv 5) (de_div (de_mul (de_item (dv 4) de_int) (dv 6)) (de_item (dv 4) de_int))) da_nil)))))
              (dss_one (ds_ret de_bl))
              dss_nil)
            (dss_cons (ds_if (dt_not (dt_val (de_call ((ok__law_like T).mono (by decide)) hr (by rfl) T.g__law_like T.F__law_like.kp T.b__law_like (takes_of rfl rfl rfl rfl) (da_cons (de_call ((ok_longest_chain T).mono (by decide)) hr (by rfl) T.g_longest_chain T.F_longest_chain.kp T.b_longest_chain (takes_of rfl rfl rfl rfl) (da_cons (dv 3) (da_cons (dv 4) (da_cons (dv 5) da_nil)))) (da_cons (de_call ((ok__law_longest T).mono (by decide)) hr (by rfl) T.g__law_longest T.F__law_longest.kp T.b__law_longest (takes_of rfl rfl rfl rfl) (da_cons (dv 3) (da_cons (dv 4) (da_cons (dv 5) da_nil)))) da_nil)))))
              (dss_one (ds_ret de_bl))
              dss_nil)
            (dss_cons (ds_set (i := 8) sc_law.nd rfl (.inl rfl) (de_call ((ok__law_bound T).mono (by decide)) hr (by rfl) T.g__law_bound T.F__law_bound.kp T.b__law_bound (takes_of rfl rfl rfl rfl) (da_cons (dv 3) (da_cons (dv 4) (da_cons (dv 5) da_nil)))))
            (dss_cons (ds_if (dt_w (dw_or (dt_not (dt_val (de_call ((ok__law_like T).mono (by decide)) hr (by rfl) T.g__law_like T.F__law_like.kp T.b__law_like (takes_of rfl rfl rfl rfl) (da_cons (de_call ((ok_ring_bound T).mono (by decide)) hr (by rfl) T.g_ring_bound T.F_ring_bound.kp T.b_ring_bound (takes_of rfl rfl rfl rfl) (da_cons (dv 3) (da_cons (dv 4) (da_cons (dv 5) da_nil)))) (da_cons (dv 8) da_nil))))) (dw_or1 (dt_lt (dv 8) (de_call ((ok__law_bound T).mono (by decide)) hr (by rfl) T.g__law_bound T.F__law_bound.kp T.b__law_bound (takes_of rfl rfl rfl rfl) (da_cons (dv 3) (da_cons (dv 4) (da_cons (de_max2 rfl (by rfl) T.z_max de_int (de_sub (dv 5) de_int)) da_nil))))))))
              (dss_one (ds_ret de_bl))
              dss_nil)
            (dss_cons (ds_set (i := 9) sc_law.nd rfl (.inl rfl) (de_call ((ok__law_calm T).mono (by decide)) hr (by rfl) T.g__law_calm T.F__law_calm.kp T.b__law_calm (takes_of rfl rfl rfl rfl) (da_cons (dv 3) (da_cons (dv 4) (da_cons (dv 5) da_nil)))))
            (dss_cons (ds_if (dt_not (dt_val (de_call ((ok__law_like T).mono (by decide)) hr (by rfl) T.g__law_like T.F__law_like.kp T.b__law_like (takes_of rfl rfl rfl rfl) (da_cons (de_call ((ok_calm_beats T).mono (by decide)) hr (by rfl) T.g_calm_beats T.F_calm_beats.kp T.b_calm_beats (takes_of rfl rfl rfl rfl) (da_cons (dv 3) (da_cons (dv 4) (da_cons (dv 5) da_nil)))) (da_cons (dv 9) da_nil)))))
              (dss_one (ds_ret de_bl))
              dss_nil)
            (dss_cons (ds_if (dt_not (dt_val (de_call ((ok__law_like T).mono (by decide)) hr (by rfl) T.g__law_like T.F__law_like.kp T.b__law_like (takes_of rfl rfl rfl rfl) (da_cons (de_call ((ok_uses_bound T).mono (by decide)) hr (by rfl) T.g_uses_bound T.F_uses_bound.kp T.b_uses_bound (takes_of rfl rfl rfl rfl) (da_cons (dv 3) (da_cons (dv 4) (da_cons (dv 5) (da_cons (dv 7) da_nil))))) (da_cons (de_add (de_add (de_mul (de_mul (dv 7) (dv 3)) (dv 9)) (dv 5)) (de_div (de_mul (de_item (dv 4) de_int) (dv 9)) (de_item (dv 4) de_int))) da_nil)))))
              (dss_one (ds_ret de_bl))
              dss_nil)
            (dss_cons (ds_if (dt_lt (de_call ((ok_uses_bound T).mono (by decide)) hr (by rfl) T.g_uses_bound T.F_uses_bound.kp T.b_uses_bound (takes_of rfl rfl rfl rfl) (da_cons (dv 3) (da_cons (dv 4) (da_cons (dv 5) (da_cons (dv 7) da_nil))))) (dv 8))
              (dss_one (ds_ret de_bl))
              dss_nil)
            (dss_cons (ds_set (i := 10) sc_law.nd rfl (.inr rfl) (de_call ((ok__law_pick T bi.1 bi.2).mono (by decide)) hr (by rfl) T.g__law_pick T.F__law_pick.kp T.b__law_pick (takes_of rfl rfl rfl rfl) (da_cons (dv 1) (da_cons (de_lst (da_cons (dv 8) (da_cons (de_sub (dv 8) de_int) (da_cons (de_add (dv 8) de_int) (da_cons (de_call ((ok__law_draw_box T bi.1 bi.2).mono (by decide)) hr (by rfl) T.g__law_draw T.F__law_draw.kp T.b__law_draw (takes_of rfl rfl rfl rfl) (da_cons (dv 1) (da_cons de_int da_nil))) da_nil))))) da_nil))))
            (dss_cons (ds_set (i := 11) sc_law.nd rfl (.inl rfl) (de_call ((ok_burst_for T).mono (by decide)) hr (by rfl) T.g_burst_for T.F_burst_for.kp T.b_burst_for (takes_of rfl rfl rfl rfl) (da_cons (dv 3) (da_cons (dv 4) (da_cons (dv 10) da_nil)))))
            (dss_cons (ds_if (dt_gt (de_call ((ok__law_bound T).mono (by decide)) hr (by rfl) T.g__law_bound T.F__law_bound.kp T.b__law_bound (takes_of rfl rfl rfl rfl) (da_cons (dv 3) (da_cons (dv 4) (da_cons de_int da_nil)))) (dv 10))
              (dss_one (ds_if (dt_isNot (dv 11) de_non)
                  (dss_one (ds_ret de_bl))
                  dss_nil))
              (dss_one (ds_if (dt_w (dw_or (dt_not (dt_val (de_call ((ok__law_like T).mono (by decide)) hr (by rfl) T.g__law_like T.F__law_like.kp T.b__law_like (takes_of rfl rfl rfl rfl) (da_cons (dv 11) (da_cons (dv 11) da_nil))))) (dw_or (dt_lt (dv 11) de_int) (dw_or (dt_gt (de_call ((ok__law_bound T).mono (by decide)) hr (by rfl) T.g__law_bound T.F__law_bound.kp T.b__law_bound (takes_of rfl rfl rfl rfl) (da_cons (dv 3) (da_cons (dv 4) (da_cons (dv 11) da_nil)))) (dv 10)) (dw_or1 (dt_le (de_call ((ok__law_bound T).mono (by decide)) hr (by rfl) T.g__law_bound T.F__law_bound.kp T.b__law_bound (takes_of rfl rfl rfl rfl) (da_cons (dv 3) (da_cons (dv 4) (da_cons (de_add (dv 11) de_int) da_nil)))) (dv 10)))))))
                  (dss_one (ds_ret de_bl))
                  dss_nil)))
            (dss_cons (ds_asg (de_tup (da_cons (de_call ((ok__law_pick T bi.1 bi.2).mono (by decide)) hr (by rfl) T.g__law_pick T.F__law_pick.kp T.b__law_pick (takes_of rfl rfl rfl rfl) (da_cons (dv 1) (da_cons (de_lst (da_cons de_int (da_cons de_int (da_cons de_int (da_cons de_int da_nil))))) da_nil))) (da_cons (de_add de_int (de_call ((ok__law_draw_box T bi.1 bi.2).mono (by decide)) hr (by rfl) T.g__law_draw T.F__law_draw.kp T.b__law_draw (takes_of rfl rfl rfl rfl) (da_cons (dv 1) (da_cons de_int da_nil)))) da_nil))) (dg_tup rfl (dgs_cons (dg_name (i := 12) sc_law.nd rfl (.inr rfl)) (dgs_cons (dg_name (i := 13) sc_law.nd rfl (.inr rfl)) dgs_nil)) (fix_cons (fix_cons fix_nil))))
            (dss_cons (ds_set (i := 10) sc_law.nd rfl (.inr rfl) (de_call ((ok__law_draw_box T bi.1 bi.2).mono (by decide)) hr (by rfl) T.g__law_draw T.F__law_draw.kp T.b__law_draw (takes_of rfl rfl rfl rfl) (da_cons (dv 1) (da_cons (de_call ((ok__law_pick T bi.1 bi.2).mono (by decide)) hr (by rfl) T.g__law_pick T.F__law_pick.kp T.b__law_pick (takes_of rfl rfl rfl rfl) (da_cons (dv 1) (da_cons (de_lst (da_cons de_int (da_cons de_int (da_cons de_int da_nil)))) da_nil))) da_nil))))
            (dss_cons (ds_setLc (i := 14) (own := [("top", 15)]) rfl sc_law.nd rfl rfl (sw_true rfl rfl rfl (by decide +kernel)) (di_rng2 (by rfl) T.z_range (da_cons de_int (da_cons (dv 12) da_nil))) (blkOk_by (N := n_law) (sc := defScope s_law) (by decide +kernel)) (fun _ _ _ _ _ => (dg_name (i := 15) sc_law.nd rfl (.inl rfl))) (fun _ _ _ _ _ => (dts_one (dt_le (de_call ((ok__law_bound T).mono (by decide)) hr (by rfl) T.g__law_bound T.F__law_bound.kp T.b__law_bound tk_calm (da_cons (dv 3) (da_cons (de_tup (da_cons (dv 15) (da_cons (dv 12) da_nil))) (da_cons (dv 13) da_nil)))) (dv 10)))) (fun _ _ _ _ _ => (dv 15)))
            (dss_one (ds_if (dt_not (dt_val (de_call ((ok__law_like T).mono (by decide)) hr (by rfl) T.g__law_like T.F__law_like.kp T.b__law_like (takes_of rfl rfl rfl rfl) (da_cons (de_call ((ok_top_for T).mono (by decide)) hr (by rfl) T.g_top_for T.F_top_for.kp T.b_top_for (takes_of rfl rfl rfl rfl) (da_cons (dv 3) (da_cons (dv 12) (da_cons (dv 13) (da_cons (dv 10) da_nil))))) (da_cons (de_if (nilT hr (dv 14)) (de_item (dv 14) (de_neg de_int)) de_non) da_nil)))))
              (dss_one (ds_ret de_bl))
              dss_nil))))))))))))))))))))
        (dss_one (ds_ret de_bl))))), ?_⟩)
  obtain ⟨ns, rfl, hl, rfl, hq⟩ := hh
  rw [st_law]
  walk_at "st"
  refine ⟨ns, rfl, hl, fun h c cs s hcs => ⟨(h, c), [], fun K F H x => heap_close hcs x, ?_⟩⟩
  refine aSeq_step ?_
  refine aFor_rng 0 4 (fun i Γ' M' => ∃ x2 x3 x4 x5 x6 x7 x8 x9 x10 x11 x12 x13 x14 x15, Γ' = [some (.lst (List.map D.int ns)), some (.ref h), x2, x3, x4, x5, x6, x7, x8, x9, x10, x11, x12, x13, x14, x15] ∧ M' = []) (fun Φ' q => ?_) ⟨_, _, _, _, _, _, _, _, _, _, _, _, _, _, rfl, rfl⟩ ?_ ?_
  · walk_at "ev"
    exact ⟨⟨by decide, by decide⟩, q⟩
  · rintro i Γ' M' hi ⟨x2, x3, x4, x5, x6, x7, x8, x9, x10, x11, x12, x13, x14, x15, rfl, rfl⟩
    refine ⟨_, rfl, ?_⟩
    walk_at "st"
    refine ⟨rfl, by walk_at "ok", fun r r0 r1 => ?_⟩
    walk_at "ev"
    refine ⟨by decide, rfl, by decide, pick_as (emb := D.int) (R := fun x => 2 ≤ x ∧ x ≤ 60) (by walk_at "mem") fun n ⟨n0, n1⟩ => ?_⟩
    walk_at "ev"
    refine ⟨rfl, fun p q p0 p1 p2 => ?_⟩
    walk_at "ev"
    refine ⟨by decide, ?_⟩
    walk_at "st"
    refine ⟨rfl, by walk_at "ok", fun r r0 r1 => ?_⟩
    walk_at "ev"
    refine ⟨⟨by decide, by decide, by decide⟩, rfl, by walk_at "ok", fun r r0 r1 => ?_⟩
    walk_at "ev"
    have e6 : (10 : Int) ^ Int.toNat 6 = 1000000 := by decide
    rw [e6] at r1
    refine ⟨by decide, rfl, by decide, pick_as (emb := D.int) (R := fun x => 1 ≤ x ∧ x ≤ 1000000) (by walk_at "mem") fun b ⟨b0, b1⟩ => ?_⟩
    walk_at "st"
    refine ⟨rfl, by walk_at "ok", fun r r0 r1 => ⟨⟨by decide, by decide, by decide⟩, rfl, by walk_at "ok", fun r' r0' r1' => ?_⟩⟩
    have e9 : (10 : Int) ^ Int.toNat 9 = 1000000000 := by decide
    rw [e9] at r1'
    refine ⟨by decide, rfl, by decide, pick_as (emb := D.int) (R := fun x => 0 ≤ x ∧ x ≤ 1000000000) (by walk_at "mem") fun t ⟨t0, t1⟩ => ?_⟩
    refine ⟨rfl, by walk_at "ok", fun u u0 u1 => ?_⟩
    walk_at "st"
    refine ⟨by omega, by walk_at "ok", by walk_at "ok", ck (by unfold Wm; omega) ?_⟩
    walk_at "st"
    refine ⟨by omega, by omega, ck rfl ?_⟩
    walk_at "st"
    refine ⟨by omega, ?_⟩
    walk_at "st"
    have m0 : Rb n p q (max 1 (b - 1)) ≤ Rb n p q b := by
      have := Rb_mono (by omega : 1 ≤ n) p0 p1 (b := max 1 (b - 1)) (c := b) (by omega)
      omega
    refine ⟨by omega, ck rfl ⟨by omega, ckF (by omega) ?_⟩⟩
    walk_at "st"
    refine ⟨by omega, ?_⟩
    walk_at "st"
    refine ⟨by omega, ck rfl ?_⟩
    walk_at "st"
    have un0 : 0 ≤ (1 + u) * n := Int.mul_nonneg (by omega) (by omega)
    have un1 : (1 + u) * n ≤ 1000 * 1000 := Int.mul_le_mul (by omega) (by omega) (by omega) (by decide)
    refine ⟨by omega, by walk_at "ok", by walk_at "ok", by walk_at "ok", by walk_at "ok", ck (by unfold Ub Wm; omega) ?_⟩
    walk_at "st"
    refine ⟨by omega, ckF (by have := Ub_ge (by omega : 1 ≤ n) p0 p1 (b := b) (by omega) (u := 1 + u) (by omega); omega) ?_⟩
    walk_at "st"
    refine ⟨rfl, by walk_at "ok", fun r r0 r1 => ?_⟩
    walk_at "ev"
    refine ⟨by decide, rfl, by decide, pick_as (emb := D.int) (R := fun x => True) (by (repeat' (first | (refine List.forall_mem_cons.mpr ⟨?_, ?_⟩) | exact (fun _ h => absurd h List.not_mem_nil) | exact ⟨_, rfl, trivial⟩))) fun most _ => ?_⟩
    refine aSeq_tail2 (fun x11 : Option D => [some (D.lst (List.map D.int ns)), some (D.ref h), some (D.int (0 + ↑i)), some (D.int n), some (D.tup [D.int p, D.int q]), some (D.int b), some (D.int t), some (D.int (1 + u)), some (D.int (Rb n p q b)), some (D.int (Cb n p q b)), some (D.int most), x11, x12, x13, x14, x15]) [] (fun y => ?_) fun tail => ?_
    · walk_at "st"
      refine ⟨by decide, rfl, by decide, pick_as (emb := D.int) (R := fun x => 2 ≤ x ∧ x ≤ 40) (by walk_at "mem") fun bottom ⟨b0, b1⟩ => ?_⟩
      refine ⟨rfl, by walk_at "ok", fun r r0 r1 => ⟨by decide, ?_⟩⟩
      walk_at "st"
      refine ⟨by decide, rfl, by decide, pick_as (emb := D.int) (R := fun x => 20 ≤ x ∧ x ≤ 9000) (by walk_at "mem") fun lim ⟨l0, l1⟩ => ⟨rfl, by walk_at "ok", fun most _ _ => ?_⟩⟩
      walk_at "st"
      refine aLc_pure (rngI 1 (bottom - 1).toNat) D.int (fun t => decide (Rb n t bottom (1 + r) ≤ most)) D.int (fun Φ' q => ?_) (by rw [rngI_len]; omega) (fun t ht M' => ?_) ?_
      · walk_at "ev"
        rw [rngD_eq]
        exact ⟨by omega, q⟩
      · have := mem_rngI ht
        refine ⟨_, rfl, fun Φ' q => ?_, fun hf Φ' q => q⟩
        walk_at "ev"
        refine ⟨by decide, by omega, q⟩
      walk_at "ev"
      refine ⟨by omega, last_by (tops n bottom (1 + r) most) ?_⟩
      unfold optD
      cases (tops n bottom (1 + r) most).getLast? with
      | none =>
        walk_at "ev"
        walk_at "no"
        exact ⟨_, _, _, _, _, _, _, _, _, _, _, _, _, _, rfl, rfl⟩
      | some top =>
        walk_at "ev"
        exact ck rfl ⟨_, _, _, _, _, _, _, _, _, _, _, _, _, _, rfl, rfl⟩
    walk_at "st"
    refine ⟨by omega, fun hlt => ?_, fun hle t t0 t1 t2 => ?_⟩
    · walk_at "st"
      refine ⟨by omega, ckT hlt ?_⟩
      walk_at "no"
      exact tail _
    · walk_at "st"
      refine ⟨by omega, ckF (by omega) ?_⟩
      walk_at "ev"
      refine ck rfl (ckF (by omega) ⟨by omega, ckF (by omega) ⟨by omega, ckF (by omega) ?_⟩⟩)
      exact tail _
  · rintro Γ' M' ⟨x2, x3, x4, x5, x6, x7, x8, x9, x10, x11, x12, x13, x14, x15, rfl, rfl⟩
    walk_at "ev"
    exact hq _
end
theorem all_mk {l : PySem.W.OpenLaw} {w : World} {K : PySem.W.Frag} {h : Heap} {mg : Str → Option Value} {fa f0 f1 f2 f3 f4 f5 f6 f7 f8 f9 f10 f11 f12 f13 f14 f15 : Addr} (X : K.In h) (G : h.Ns mainGlobals mg) (hfa : mg "law" = some (.ref fa))
    {od0 an0 od1 an1 od2 an2 od3 an3 od4 an4 od5 an5 od6 an6 od7 an7 od8 an8 od9 an9 od10 an10 od11 an11 od12 an12 od13 an13 od14 an14 od15 an15 : Option Addr} {sl0 sl1 sl2 sl3 sl4 sl5 sl6 sl7 sl8 sl9 sl10 sl11 sl12 sl13 sl14 sl15 : Array (Option Value)} {oc0 kV0 dc0 pm0 cd0 ct0 oc1 kV1 dc1 pm1 cd1 ct1 oc2 kV2 dc2 pm2 cd2 ct2 oc3 kV3 dc3 pm3 cd3 ct3 oc4 kV4 dc4 pm4 cd4 ct4 oc5 kV5 dc5 pm5 cd5 ct5 oc6 kV6 dc6 pm6 cd6 ct6 oc7 kV7 dc7 pm7 cd7 ct7 oc8 kV8 dc8 pm8 cd8 ct8 oc9 kV9 dc9 pm9 cd9 ct9 oc10 kV10 dc10 pm10 cd10 ct10 oc11 kV11 dc11 pm11 cd11 ct11 oc12 kV12 dc12 pm12 cd12 ct12 oc13 kV13 dc13 pm13 cd13 ct13 oc14 kV14 dc14 pm14 cd14 ct14 oc15 kV15 dc15 pm15 cd15 ct15 : Value}
    (a0 : PySem.W.nsIn K mainGlobals "wanted_most" = some (some (.ref f0))) (l0 : K.lookup f0 = some ⟨oc0, od0, .func (PySem.W.fnOf "wanted_most" "wanted_most" (defArgs s_wanted_most) (defBody s_wanted_most) (defScope s_wanted_most) .none kV0 dc0 pm0 an0 cd0 ct0), sl0⟩) (c0 : PySem.W.codeIn K cd0 "wanted_most" = true) (k0 : PySem.W.keepIn K (.ref f0) = true)
    (a1 : PySem.W.nsIn K mainGlobals "longest_chain" = some (some (.ref f1))) (l1 : K.lookup f1 = some ⟨oc1, od1, .func (PySem.W.fnOf "longest_chain" "longest_chain" (defArgs s_longest_chain) (defBody s_longest_chain) (defScope s_longest_chain) .none kV1 dc1 pm1 an1 cd1 ct1), sl1⟩) (c1 : PySem.W.codeIn K cd1 "longest_chain" = true) (k1 : PySem.W.keepIn K (.ref f1) = true)
    (a2 : PySem.W.nsIn K mainGlobals "ring_bound" = some (some (.ref f2))) (l2 : K.lookup f2 = some ⟨oc2, od2, .func (PySem.W.fnOf "ring_bound" "ring_bound" (defArgs s_ring_bound) (defBody s_ring_bound) (defScope s_ring_bound) .none kV2 dc2 pm2 an2 cd2 ct2), sl2⟩) (c2 : PySem.W.codeIn K cd2 "ring_bound" = true) (k2 : PySem.W.keepIn K (.ref f2) = true)
    (a3 : PySem.W.nsIn K mainGlobals "calm_beats" = some (some (.ref f3))) (l3 : K.lookup f3 = some ⟨oc3, od3, .func (PySem.W.fnOf "calm_beats" "calm_beats" (defArgs s_calm_beats) (defBody s_calm_beats) (defScope s_calm_beats) .none kV3 dc3 pm3 an3 cd3 ct3), sl3⟩) (c3 : PySem.W.codeIn K cd3 "calm_beats" = true) (k3 : PySem.W.keepIn K (.ref f3) = true)
    (a4 : PySem.W.nsIn K mainGlobals "uses_bound" = some (some (.ref f4))) (l4 : K.lookup f4 = some ⟨oc4, od4, .func (PySem.W.fnOf "uses_bound" "uses_bound" (defArgs s_uses_bound) (defBody s_uses_bound) (defScope s_uses_bound) .none kV4 dc4 pm4 an4 cd4 ct4), sl4⟩) (c4 : PySem.W.codeIn K cd4 "uses_bound" = true) (k4 : PySem.W.keepIn K (.ref f4) = true)
    (a5 : PySem.W.nsIn K mainGlobals "burst_for" = some (some (.ref f5))) (l5 : K.lookup f5 = some ⟨oc5, od5, .func (PySem.W.fnOf "burst_for" "burst_for" (defArgs s_burst_for) (defBody s_burst_for) (defScope s_burst_for) .none kV5 dc5 pm5 an5 cd5 ct5), sl5⟩) (c5 : PySem.W.codeIn K cd5 "burst_for" = true) (k5 : PySem.W.keepIn K (.ref f5) = true)
    (a6 : PySem.W.nsIn K mainGlobals "top_for" = some (some (.ref f6))) (l6 : K.lookup f6 = some ⟨oc6, od6, .func (PySem.W.fnOf "top_for" "top_for" (defArgs s_top_for) (defBody s_top_for) (defScope s_top_for) .none kV6 dc6 pm6 an6 cd6 ct6), sl6⟩) (c6 : PySem.W.codeIn K cd6 "top_for" = true) (k6 : PySem.W.keepIn K (.ref f6) = true)
    (a7 : PySem.W.nsIn K mainGlobals "_law_heap" = some (some (.ref f7))) (l7 : K.lookup f7 = some ⟨oc7, od7, .func (PySem.W.fnOf "_law_heap" "_law_heap" (defArgs s__law_heap) (defBody s__law_heap) (defScope s__law_heap) .none kV7 dc7 pm7 an7 cd7 ct7), sl7⟩) (c7 : PySem.W.codeIn K cd7 "_law_heap" = true) (k7 : PySem.W.keepIn K (.ref f7) = true)
    (a8 : PySem.W.nsIn K mainGlobals "_law_draw" = some (some (.ref f8))) (l8 : K.lookup f8 = some ⟨oc8, od8, .func (PySem.W.fnOf "_law_draw" "_law_draw" (defArgs s__law_draw) (defBody s__law_draw) (defScope s__law_draw) .none kV8 dc8 pm8 an8 cd8 ct8), sl8⟩) (c8 : PySem.W.codeIn K cd8 "_law_draw" = true) (k8 : PySem.W.keepIn K (.ref f8) = true)
    (a9 : PySem.W.nsIn K mainGlobals "_law_pick" = some (some (.ref f9))) (l9 : K.lookup f9 = some ⟨oc9, od9, .func (PySem.W.fnOf "_law_pick" "_law_pick" (defArgs s__law_pick) (defBody s__law_pick) (defScope s__law_pick) .none kV9 dc9 pm9 an9 cd9 ct9), sl9⟩) (c9 : PySem.W.codeIn K cd9 "_law_pick" = true) (k9 : PySem.W.keepIn K (.ref f9) = true)
    (a10 : PySem.W.nsIn K mainGlobals "_law_like" = some (some (.ref f10))) (l10 : K.lookup f10 = some ⟨oc10, od10, .func (PySem.W.fnOf "_law_like" "_law_like" (defArgs s__law_like) (defBody s__law_like) (defScope s__law_like) .none kV10 dc10 pm10 an10 cd10 ct10), sl10⟩) (c10 : PySem.W.codeIn K cd10 "_law_like" = true) (k10 : PySem.W.keepIn K (.ref f10) = true)
    (a11 : PySem.W.nsIn K mainGlobals "_law_longest" = some (some (.ref f11))) (l11 : K.lookup f11 = some ⟨oc11, od11, .func (PySem.W.fnOf "_law_longest" "_law_longest" (defArgs s__law_longest) (defBody s__law_longest) (defScope s__law_longest) .none kV11 dc11 pm11 an11 cd11 ct11), sl11⟩) (c11 : PySem.W.codeIn K cd11 "_law_longest" = true) (k11 : PySem.W.keepIn K (.ref f11) = true)
    (a12 : PySem.W.nsIn K mainGlobals "_law_calm" = some (some (.ref f12))) (l12 : K.lookup f12 = some ⟨oc12, od12, .func (PySem.W.fnOf "_law_calm" "_law_calm" (defArgs s__law_calm) (defBody s__law_calm) (defScope s__law_calm) .none kV12 dc12 pm12 an12 cd12 ct12), sl12⟩) (c12 : PySem.W.codeIn K cd12 "_law_calm" = true) (k12 : PySem.W.keepIn K (.ref f12) = true)
    (a13 : PySem.W.nsIn K mainGlobals "_law_bound" = some (some (.ref f13))) (l13 : K.lookup f13 = some ⟨oc13, od13, .func (PySem.W.fnOf "_law_bound" "_law_bound" (defArgs s__law_bound) (defBody s__law_bound) (defScope s__law_bound) .none kV13 dc13 pm13 an13 cd13 ct13), sl13⟩) (c13 : PySem.W.codeIn K cd13 "_law_bound" = true) (k13 : PySem.W.keepIn K (.ref f13) = true)
    (a14 : PySem.W.nsIn K mainGlobals "_law_rate" = some (some (.ref f14))) (l14 : K.lookup f14 = some ⟨oc14, od14, .func (PySem.W.fnOf "_law_rate" "_law_rate" (defArgs s__law_rate) (defBody s__law_rate) (defScope s__law_rate) .none kV14 dc14 pm14 an14 cd14 ct14), sl14⟩) (c14 : PySem.W.codeIn K cd14 "_law_rate" = true) (k14 : PySem.W.keepIn K (.ref f14) = true)
    (a15 : PySem.W.nsIn K mainGlobals "law" = some (some (.ref f15))) (l15 : K.lookup f15 = some ⟨oc15, od15, .func (PySem.W.fnOf "law" "law" (defArgs s_law) (defBody s_law) (defScope s_law) .none kV15 dc15 pm15 an15 cd15 ct15), sl15⟩) (c15 : PySem.W.codeIn K cd15 "law" = true) (k15 : PySem.W.keepIn K (.ref f15) = true)
    (z_range : PySem.W.nsIn K mainGlobals "range" = some none)
    (z_int : PySem.W.nsIn K mainGlobals "int" = some none)
    (z_abs : PySem.W.nsIn K mainGlobals "abs" = some none)
    (z_len : PySem.W.nsIn K mainGlobals "len" = some none)
    (z_isinstance : PySem.W.nsIn K mainGlobals "isinstance" = some none)
    (z_tuple : PySem.W.nsIn K mainGlobals "tuple" = some none)
    (z_all : PySem.W.nsIn K mainGlobals "all" = some none)
    (z_zip : PySem.W.nsIn K mainGlobals "zip" = some none)
    (z_bool : PySem.W.nsIn K mainGlobals "bool" = some none)
    (z_str : PySem.W.nsIn K mainGlobals "str" = some none)
    (z_max : PySem.W.nsIn K mainGlobals "max" = some none)
    : ∃ fd : FuncData, (∀ (s : Shared) (v : Value), BindsTo s fd ⟨[v], []⟩ [("script", v)]) ∧ ∀ base : Heap, K.In base → base.Ns mainGlobals mg → FnOk l.prog w K mg base (L2.CX l.prog w) 9 fa fd ["script"] (conc K Bx.no aspLaw) := by
  have e := hfa.symm.trans (PySem.W.mg_of X G a15)
  cases e
  have F0 := fun_mk (st := s_wanted_most) l0 c0 k0
  have F1 := fun_mk (st := s_longest_chain) l1 c1 k1
  have F2 := fun_mk (st := s_ring_bound) l2 c2 k2
  have F3 := fun_mk (st := s_calm_beats) l3 c3 k3
  have F4 := fun_mk (st := s_uses_bound) l4 c4 k4
  have F5 := fun_mk (st := s_burst_for) l5 c5 k5
  have F6 := fun_mk (st := s_top_for) l6 c6 k6
  have F7 := fun_mk (st := s__law_heap) l7 c7 k7
  have F8 := fun_mk (st := s__law_draw) l8 c8 k8
  have F9 := fun_mk (st := s__law_pick) l9 c9 k9
  have F10 := fun_mk (st := s__law_like) l10 c10 k10
  have F11 := fun_mk (st := s__law_longest) l11 c11 k11
  have F12 := fun_mk (st := s__law_calm) l12 c12 k12
  have F13 := fun_mk (st := s__law_bound) l13 c13 k13
  have F14 := fun_mk (st := s__law_rate) l14 c14 k14
  have F15 := fun_mk (st := s_law) l15 c15 k15
  have b0 := F0.binds (ps := ["rate", "burst", "beats"]) fun _ _ _ _ _ _ us hl => match us, hl with | [_, _, _], _ => rfl
  have b1 := F1.binds (ps := ["n", "rate", "burst"]) fun _ _ _ _ _ _ us hl => match us, hl with | [_, _, _], _ => rfl
  have b2 := F2.binds (ps := ["n", "rate", "burst"]) fun _ _ _ _ _ _ us hl => match us, hl with | [_, _, _], _ => rfl
  have b3 := F3.binds (ps := ["n", "rate", "burst"]) fun _ _ _ _ _ _ us hl => match us, hl with | [_, _, _], _ => rfl
  have b4 := F4.binds (ps := ["n", "rate", "burst", "uses"]) fun _ _ _ _ _ _ us hl => match us, hl with | [_, _, _, _], _ => rfl
  have b5 := F5.binds (ps := ["n", "rate", "most"]) fun _ _ _ _ _ _ us hl => match us, hl with | [_, _, _], _ => rfl
  have b6 := F6.binds (ps := ["n", "bottom", "burst", "most"]) fun _ _ _ _ _ _ us hl => match us, hl with | [_, _, _, _], _ => rfl
  have b7 := F7.binds (ps := ["script"]) fun _ _ _ _ _ _ us hl => match us, hl with | [_], _ => rfl
  have b8 := F8.binds (ps := ["heap", "many"]) fun _ _ _ _ _ _ us hl => match us, hl with | [_, _], _ => rfl
  have b9 := F9.binds (ps := ["heap", "some"]) fun _ _ _ _ _ _ us hl => match us, hl with | [_, _], _ => rfl
  have b10 := F10.binds (ps := ["told", "due"]) fun _ _ _ _ _ _ us hl => match us, hl with | [_, _], _ => rfl
  have b11 := F11.binds (ps := ["n", "rate", "burst"]) fun _ _ _ _ _ _ us hl => match us, hl with | [_, _, _], _ => rfl
  have b12 := F12.binds (ps := ["n", "rate", "burst"]) fun _ _ _ _ _ _ us hl => match us, hl with | [_, _, _], _ => rfl
  have b13 := F13.binds (ps := ["n", "rate", "burst"]) fun _ _ _ _ _ _ us hl => match us, hl with | [_, _, _], _ => rfl
  have b14 := F14.binds (ps := ["heap"]) fun _ _ _ _ _ _ us hl => match us, hl with | [_], _ => rfl
  have b15 := F15.binds (ps := ["script"]) fun _ _ _ _ _ _ us hl => match us, hl with | [_], _ => rfl
  let T : Top K mg := { f_wanted_most := _, d_wanted_most := _, F_wanted_most := F0, b_wanted_most := b0, g_wanted_most := PySem.W.mg_of X G a0, f_longest_chain := _, d_longest_chain := _, F_longest_chain := F1, b_longest_chain := b1, g_longest_chain := PySem.W.mg_of X G a1, f_ring_bound := _, d_ring_bound := _, F_ring_bound := F2, b_ring_bound := b2, g_ring_bound := PySem.W.mg_of X G a2, f_calm_beats := _, d_calm_beats := _, F_calm_beats := F3, b_calm_beats := b3, g_calm_beats := PySem.W.mg_of X G a3, f_uses_bound := _, d_uses_bound := _, F_uses_bound := F4, b_uses_bound := b4, g_uses_bound := PySem.W.mg_of X G a4, f_burst_for := _, d_burst_for := _, F_burst_for := F5, b_burst_for := b5, g_burst_for := PySem.W.mg_of X G a5, f_top_for := _, d_top_for := _, F_top_for := F6, b_top_for := b6, g_top_for := PySem.W.mg_of X G a6, f__law_heap := _, d__law_heap := _, F__law_heap := F7, b__law_heap := b7, g__law_heap := PySem.W.mg_of X G a7, f__law_draw := _, d__law_draw := _, F__law_draw := F8, b__law_draw := b8, g__law_draw := PySem.W.mg_of X G a8, f__law_pick := _, d__law_pick := _, F__law_pick := F9, b__law_pick := b9, g__law_pick := PySem.W.mg_of X G a9, f__law_like := _, d__law_like := _, F__law_like := F10, b__law_like := b10, g__law_like := PySem.W.mg_of X G a10, f__law_longest := _, d__law_longest := _, F__law_longest := F11, b__law_longest := b11, g__law_longest := PySem.W.mg_of X G a11, f__law_calm := _, d__law_calm := _, F__law_calm := F12, b__law_calm := b12, g__law_calm := PySem.W.mg_of X G a12, f__law_bound := _, d__law_bound := _, F__law_bound := F13, b__law_bound := b13, g__law_bound := PySem.W.mg_of X G a13, f__law_rate := _, d__law_rate := _, F__law_rate := F14, b__law_rate := b14, g__law_rate := PySem.W.mg_of X G a14, f_law := _, d_law := _, F_law := F15, b_law := b15, g_law := PySem.W.mg_of X G a15, z_range := PySem.W.mg_none_of X G z_range, z_int := PySem.W.mg_none_of X G z_int, z_abs := PySem.W.mg_none_of X G z_abs, z_len := PySem.W.mg_none_of X G z_len, z_isinstance := PySem.W.mg_none_of X G z_isinstance, z_tuple := PySem.W.mg_none_of X G z_tuple, z_all := PySem.W.mg_none_of X G z_all, z_zip := PySem.W.mg_none_of X G z_zip, z_bool := PySem.W.mg_none_of X G z_bool, z_str := PySem.W.mg_none_of X G z_str, z_max := PySem.W.mg_none_of X G z_max }
  exact ⟨_, fun s v => .of_eq rfl, fun base _ _ => ok_law T⟩
end K16
open PySem PySem.W PyProof.Rows
set_option maxHeartbeats 0 in
theorem PySem.Challenge.cw_evergreedy_k16_whole_numbers_of_one_ring_holds : PySem.Challenge.rw_evergreedy_k16_whole_numbers_of_one_ring.Holds := by
  w_on; o_law; k_head; (case hw => w_witness2)
  k_fill
  refine L2.walk_of (l := PySem.Challenge.rw_evergreedy_k16_whole_numbers_of_one_ring) (n := 63) (k := 9) (x := "script") (CX := fun w => L2.CX PySem.Challenge.rw_evergreedy_k16_whole_numbers_of_one_ring.prog w) (sp := fun w => DL.conc _ DL.Bx.no DL.aspLaw) rfl (by decide) rfl ⟨rfl, by decide, by decide⟩ (fun w h Y => PySem.W.kIn_of Y) ?F (fun _ _ a ns hl _ hS => DL.law_conc hl hS) (fun _ _ _ _ _ h => DL.law_calm h)
  case F =>
    intro w mg fa h KX G hmg
    refine' K16.all_mk KX G hmg ?a0 ?l0 ?c0 ?k0 ?a1 ?l1 ?c1 ?k1 ?a2 ?l2 ?c2 ?k2 ?a3 ?l3 ?c3 ?k3 ?a4 ?l4 ?c4 ?k4 ?a5 ?l5 ?c5 ?k5 ?a6 ?l6 ?c6 ?k6 ?a7 ?l7 ?c7 ?k7 ?a8 ?l8 ?c8 ?k8 ?a9 ?l9 ?c9 ?k9 ?a10 ?l10 ?c10 ?k10 ?a11 ?l11 ?c11 ?k11 ?a12 ?l12 ?c12 ?k12 ?a13 ?l13 ?c13 ?k13 ?a14 ?l14 ?c14 ?k14 ?a15 ?l15 ?c15 ?k15 ?z_range ?z_int ?z_abs ?z_len ?z_isinstance ?z_tuple ?z_all ?z_zip ?z_bool ?z_str ?z_max
    (case a0 => k_is); (case l0 => k_is); (case c0 => k_is); (case k0 => k_is); (case a1 => k_is); (case l1 => k_is); (case c1 => k_is); (case k1 => k_is); (case a2 => k_is); (case l2 => k_is); (case c2 => k_is); (case k2 => k_is); (case a3 => k_is); (case l3 => k_is); (case c3 => k_is); (case k3 => k_is); (case a4 => k_is); (case l4 => k_is); (case c4 => k_is); (case k4 => k_is); (case a5 => k_is); (case l5 => k_is); (case c5 => k_is); (case k5 => k_is); (case a6 => k_is); (case l6 => k_is); (case c6 => k_is); (case k6 => k_is); (case a7 => k_is); (case l7 => k_is); (case c7 => k_is); (case k7 => k_is); (case a8 => k_is); (case l8 => k_is); (case c8 => k_is); (case k8 => k_is); (case a9 => k_is); (case l9 => k_is); (case c9 => k_is); (case k9 => k_is); (case a10 => k_is); (case l10 => k_is); (case c10 => k_is); (case k10 => k_is); (case a11 => k_is); (case l11 => k_is); (case c11 => k_is); (case k11 => k_is); (case a12 => k_is); (case l12 => k_is); (case c12 => k_is); (case k12 => k_is); (case a13 => k_is); (case l13 => k_is); (case c13 => k_is); (case k13 => k_is); (case a14 => k_is); (case l14 => k_is); (case c14 => k_is); (case k14 => k_is); (case a15 => k_is); (case l15 => k_is); (case c15 => k_is); (case k15 => k_is); (case z_range => k_is); (case z_int => k_is); (case z_abs => k_is); (case z_len => k_is); (case z_isinstance => k_is); (case z_tuple => k_is); (case z_all => k_is); (case z_zip => k_is); (case z_bool => k_is); (case z_str => k_is); (case z_max => k_is)
