import PyProof.Rows.All
import Wide.All
import OpenK.AllK
import Wide.FinOn
import HandS.ForMost
import HandS.ForExc
import HandS.Wide
import HandS.Style
import HandS.Flow
import HandS.IsInst
import HandS.Conv
import HandS.Defaults
import HandS.Walk
import HandS.CallSlots
import HandS.Zip
import HandS.ExcCtx
import KE.KExcSuper
import HandS.ExcInit
import HandS.ExcField
import HandS.ExcIs
import HandS.TryMany
import HandS.TryOnly
import KE.GoesEnum
import HandS.TupAny
import HandS.TupMul
import HandS.RevTup
import HandS.More
import HandS.HotCalls
import HandS.Lambda
import HandS.EndTab
import KE.KNest
import HandS.Deep
import HandS.SortRule
import HandS.SetFor
import KE.DataMinMax
import PySem.Challenge.RW_evergreedy_k55_whole_slow_feeders_in_any
set_option Elab.async false
set_option linter.all false
set_option maxRecDepth 100000
set_option maxHeartbeats 2000000
/-! DL: data-level judgements over HandS. -/
namespace DL
open PySem L2

/-- what a value is, read through the heap -/
inductive D where
  | non
  | bl (b : Bool)
  | int (i : Int)
  | str (x : Str)
  | ty (n : String)
  | ref (a : Addr)
  | tup (xs : List D)
  | lst (xs : List D)
  | ins (C : Addr) (ns : List Str) (xs : List D)
  /-- a caught exception: at a, of the class at C, its dict at dd -/
  | xc (a dd C : Addr) (x : D)

/-- what is said of a datum of a kind -/
def onSlot (o : Option (Option D)) (k : D → Prop) : Prop := match o with
  | some (some d) => k d
  | _ => False
def onD (o : Option D) (k : D → Prop) : Prop := match o with
  | some d => k d
  | none => False
theorem onSlot_ss {d : D} {k : D → Prop} : onSlot (some (some d)) k = k d := rfl
theorem onD_s {d : D} {k : D → Prop} : onD (some d) k = k d := rfl
mutual
inductive Is (K : PySem.W.Frag) (F : Hp) : V → D → Prop
  | non : Is K F .non .non
  | bl (b : Bool) : Is K F (.bl b) (.bl b)
  | int (i : Int) : Is K F (.int i) (.int i)
  | str (x : Str) : Is K F (.str x) (.str x)
  | ty (n : String) : Is K F (.ty n) (.ty n)
  | ref (a : Addr) : Is K F (.ref a) (.ref a)
  | tup {a : Addr} {vs : List V} {ds : List D} : SqT K F a vs → IsL K F vs ds → Is K F (.ref a) (.tup ds)
  | lst {a : Addr} {vs : List V} {ds : List D} : SqL K F a vs → IsL K F vs ds → Is K F (.ref a) (.lst ds)
  | ins {a C dx : Addr} {fs : List (Str × V)} {ds : List D} : F a = some (.ins C dx fs) → IsL K F (fs.map (·.2)) ds → Is K F (.ref a) (.ins C (fs.map (·.1)) ds)
  | xc {a dd C : Addr} {v : V} {x : D} : F dd = some (.xd [("at", v)]) → Is K F v x → Is K F (.ref a) (.xc a dd C x)
inductive IsL (K : PySem.W.Frag) (F : Hp) : List V → List D → Prop
  | nil : IsL K F [] []
  | cons {v : V} {vs : List V} {d : D} {ds : List D} : Is K F v d → IsL K F vs ds → IsL K F (v :: vs) (d :: ds)
end

theorem same_t {K : PySem.W.Frag} {F F' : Hp} {a : Addr} {xs : List V} (e : Same F F') (h : SqT K F a xs) : SqT K F' a xs := by
  rcases h with (h | ⟨o, h⟩) | h
  · exact .inl (.inl (e _ _ h))
  · exact .inl (.inr ⟨o, e _ _ h⟩)
  · exact .inr h
mutual
theorem Is.mono {K : PySem.W.Frag} {F F' : Hp} (e : Same F F') : ∀ {v : V} {d : D}, Is K F v d → Is K F' v d
  | _, _, .non => .non
  | _, _, .bl b => .bl b
  | _, _, .int i => .int i
  | _, _, .str x => .str x
  | _, _, .ty n => .ty n
  | _, _, .ref a => .ref a
  | _, _, .tup h l => .tup (same_t e h) (IsL.mono e l)
  | _, _, .lst h l => .lst (e.seq h) (IsL.mono e l)
  | _, _, .ins h l => .ins (e _ _ h) (IsL.mono e l)
  | _, _, .xc h i => .xc (e _ _ h) (Is.mono e i)
theorem IsL.mono {K : PySem.W.Frag} {F F' : Hp} (e : Same F F') : ∀ {vs : List V} {ds : List D}, IsL K F vs ds → IsL K F' vs ds
  | _, _, .nil => .nil
  | _, _, .cons h l => .cons (Is.mono e h) (IsL.mono e l)
end
section
variable {K : PySem.W.Frag} {F : Hp}
theorem IsL.length : ∀ {vs : List V} {ds : List D}, IsL K F vs ds → vs.length = ds.length
  | _, _, .nil => rfl
  | _, _, .cons _ l => congrArg (· + 1) (IsL.length l)
theorem IsL.get : ∀ {vs : List V} {ds : List D} {i : Nat} {d : D}, IsL K F vs ds → ds[i]? = some d → ∃ v, vs[i]? = some v ∧ Is K F v d
  | _, _, _, _, .nil, e => by simp at e
  | _, _, 0, _, .cons h _, e => by
    simp at e
    subst e
    exact ⟨_, rfl, h⟩
  | _, _, i + 1, d, .cons _ t, e => by
    obtain ⟨v, h1, h2⟩ := IsL.get (i := i) (d := d) t (by simpa using e)
    exact ⟨v, by simpa using h1, h2⟩
theorem IsL.getV : ∀ {vs : List V} {ds : List D} {i : Nat} {v : V}, IsL K F vs ds → vs[i]? = some v → ∃ d, ds[i]? = some d ∧ Is K F v d
  | _, _, _, _, .nil, e => by simp at e
  | _, _, 0, _, .cons h _, e => by
    simp at e
    subst e
    exact ⟨_, rfl, h⟩
  | _, _, i + 1, d, .cons _ t, e => by
    obtain ⟨v, h1, h2⟩ := IsL.getV (i := i) (v := d) t (by simpa using e)
    exact ⟨v, by simpa using h1, h2⟩
theorem IsL.append : ∀ {vs ws : List V} {ds es : List D}, IsL K F vs ds → IsL K F ws es → IsL K F (vs ++ ws) (ds ++ es)
  | _, _, _, _, .nil, h => h
  | _, _, _, _, .cons h l, k => .cons h (IsL.append l k)
theorem IsL.take : ∀ {vs : List V} {ds : List D} (n : Nat), IsL K F vs ds → IsL K F (vs.take n) (ds.take n)
  | _, _, 0, _ => .nil
  | _, _, _ + 1, .nil => .nil
  | _, _, n + 1, .cons h l => .cons h (IsL.take n l)
theorem IsL.drop : ∀ {vs : List V} {ds : List D} (n : Nat), IsL K F vs ds → IsL K F (vs.drop n) (ds.drop n)
  | _, _, 0, h => h
  | _, _, _ + 1, .nil => .nil
  | _, _, n + 1, .cons _ l => IsL.drop n l
theorem IsL.reverse {vs : List V} {ds : List D} (h : IsL K F vs ds) : IsL K F vs.reverse ds.reverse := by
  induction vs generalizing ds with
  | nil =>
    cases h
    exact .nil
  | cons v vs ih =>
    cases h with
    | cons h l =>
      rw [List.reverse_cons, List.reverse_cons]
      exact (ih l).append (.cons h .nil)
theorem IsL.set {v : V} {d : D} (h : Is K F v d) : ∀ {vs : List V} {ds : List D} (i : Nat), IsL K F vs ds → IsL K F (vs.set i v) (ds.set i d)
  | _, _, _, .nil => .nil
  | _, _, 0, .cons _ l => .cons h l
  | _, _, i + 1, .cons k l => .cons k (IsL.set h i l)
theorem IsL.eraseIdx : ∀ {vs : List V} {ds : List D} (i : Nat), IsL K F vs ds → IsL K F (vs.eraseIdx i) (ds.eraseIdx i)
  | _, _, _, .nil => .nil
  | _, _, 0, .cons _ l => l
  | _, _, i + 1, .cons k l => .cons k (IsL.eraseIdx i l)
theorem IsL.dropLast : ∀ {vs : List V} {ds : List D}, IsL K F vs ds → IsL K F vs.dropLast ds.dropLast
  | _, _, .nil => .nil
  | _, _, .cons _ .nil => .nil
  | _, _, .cons h (.cons k l) => .cons h (IsL.dropLast (.cons k l))
theorem IsL.ints : ∀ {vs : List V} {ns : List Int}, IsL K F vs (ns.map D.int) → vs = ns.map V.int
  | vs, [], h => by
    cases h
    rfl
  | vs, n :: ns, h => by
    cases h with
    | cons h l =>
      cases h
      rw [IsL.ints l]
      rfl
theorem IsL.of_ints : ∀ (ns : List Int), IsL K F (ns.map V.int) (ns.map D.int)
  | [] => .nil
  | n :: ns => .cons (.int n) (IsL.of_ints ns)
theorem IsL.bls : ∀ {vs : List V} {bs : List Bool}, IsL K F vs (bs.map D.bl) → vs = bs.map V.bl
  | vs, [], h => by
    cases h
    rfl
  | vs, n :: ns, h => by
    cases h with
    | cons h l =>
      cases h
      rw [IsL.bls l]
      rfl
end



/-! ### mutable objects, boxes -/
inductive MO where
  | lst (xs : List D)
  | ins (C : Addr) (ns : List Str) (xs : List D)
  | dK (ks : List Key) (xs : List D)
abbrev Mm := List (Addr × MO)
def MOk (K : PySem.W.Frag) (F H : Hp) (a : Addr) : MO → Prop
  | .lst xs => ∃ vs, H a = some (.lst vs) ∧ IsL K F vs xs
  | .ins C ns xs => ∃ dx fs, H a = some (.ins C dx fs) ∧ fs.map (·.1) = ns ∧ IsL K F (fs.map (·.2)) xs
  | .dK ks xs => ∃ kv, H a = some (.dK kv) ∧ kv.map (·.1) = ks ∧ IsL K F (kv.map (·.2)) xs
/-- a hidden part of the heap: where the draws come from -/
structure Bx where
  fp : List Addr
  ok : Hp → Hp → Prop
  loc : ∀ {F H H' : Hp}, (∀ a ∈ fp, H' a = H a) → ok F H → ok F H'
  up : ∀ {F F' H : Hp}, Same F F' → ok F H → ok F' H
  low : ∀ {F H : Hp}, ok F H → ∀ a ∈ fp, ∃ o, H a = some o
def Bx.no : Bx := ⟨[], fun _ _ => True, fun _ _ => trivial, fun _ _ => trivial, fun _ a h => absurd h (by simp)⟩
structure Hs (K : PySem.W.Frag) (B : Bx) (M : Mm) (F H : Hp) : Prop where
  sub : Same F H
  mem : ∀ p ∈ M, F p.1 = none ∧ p.1 ∉ B.fp ∧ MOk K F H p.1 p.2
  nd : (M.map (·.1)).Nodup
  box : B.ok F H
  bfr : ∀ a ∈ B.fp, F a = none
  nt : ∀ b ps, F b ≠ some (.tbl ps)
abbrev Gm := List (Option D)
structure Vw (K : PySem.W.Frag) (F : Hp) (σ : St) (Γ : Gm) : Prop where
  len : σ.length = Γ.length
  get : ∀ (i : Nat) (d : D), Γ[i]? = some (some d) → ∃ v, σ[i]? = some (some v) ∧ Is K F v d
/-- one mutable object is changed -/
inductive Up : Mm → Addr → MO → MO → Mm → Prop
  | here {a : Addr} {o o' : MO} {M : Mm} : Up ((a, o) :: M) a o o' ((a, o') :: M)
  | there {q : Addr × MO} {M M' : Mm} {a : Addr} {o o' : MO} : Up M a o o' M' → Up (q :: M) a o o' (q :: M')
/-- one is taken out -/
inductive Dl : Mm → Addr → MO → Mm → Prop
  | here {a : Addr} {o : MO} {M : Mm} : Dl ((a, o) :: M) a o M
  | there {q : Addr × MO} {M M' : Mm} {a : Addr} {o : MO} : Dl M a o M' → Dl (q :: M) a o (q :: M')
section
variable {K : PySem.W.Frag} {B : Bx} {M M' : Mm} {F F' H H' : Hp} {σ : St} {Γ : Gm} {a : Addr} {o o' : MO}
theorem Up.mem (u : Up M a o o' M') : (a, o) ∈ M := by
  induction u with
  | here => exact List.mem_cons_self
  | there _ ih => exact List.mem_cons_of_mem _ ih
theorem Up.keys (u : Up M a o o' M') : M'.map (·.1) = M.map (·.1) := by
  induction u with
  | here => rfl
  | there _ ih => rw [List.map_cons, List.map_cons, ih]
theorem Up.of (u : Up M a o o' M') (nd : (M.map (·.1)).Nodup) : ∀ q ∈ M', q = (a, o') ∨ (q ∈ M ∧ q.1 ≠ a) := by
  induction u with
  | here =>
    rename_i a o o' M
    intro q hq
    rw [List.map_cons, List.nodup_cons] at nd
    rcases List.mem_cons.mp hq with e | hq
    · exact .inl e
    · exact .inr ⟨List.mem_cons_of_mem _ hq, fun e => nd.1 (by rw [← e]; exact List.mem_map.mpr ⟨q, hq, rfl⟩)⟩
  | there v ih =>
    rename_i p M M' a o o'
    intro q hq
    rw [List.map_cons, List.nodup_cons] at nd
    rcases List.mem_cons.mp hq with e | hq
    · subst e
      exact .inr ⟨List.mem_cons_self, fun e => nd.1 (by rw [e]; exact List.mem_map_of_mem v.mem)⟩
    · rcases ih nd.2 q hq with e | ⟨h1, h2⟩
      · exact .inl e
      · exact .inr ⟨List.mem_cons_of_mem _ h1, h2⟩
theorem Dl.mem (u : Dl M a o M') : (a, o) ∈ M := by
  induction u with
  | here => exact List.mem_cons_self
  | there _ ih => exact List.mem_cons_of_mem _ ih
theorem Dl.sub (u : Dl M a o M') : M'.Sublist M := by
  induction u with
  | here => exact List.sublist_cons_self _ _
  | there _ ih => exact ih.cons_cons _
theorem Dl.ne (u : Dl M a o M') (nd : (M.map (·.1)).Nodup) : ∀ q ∈ M', q.1 ≠ a := by
  induction u with
  | here =>
    intro q hq e
    rw [List.map_cons, List.nodup_cons] at nd
    exact nd.1 (by rw [← e]; exact List.mem_map.mpr ⟨q, hq, rfl⟩)
  | there v ih =>
    intro q hq e
    rw [List.map_cons, List.nodup_cons] at nd
    rcases List.mem_cons.mp hq with e' | hq
    · subst e'
      exact nd.1 (by rw [e]; exact List.mem_map_of_mem v.mem)
    · exact ih nd.2 q hq e
theorem MOk.mono (e : Same F F') : ∀ {o : MO}, MOk K F H a o → MOk K F' H a o
  | .lst _, ⟨vs, h, l⟩ => ⟨vs, h, l.mono e⟩
  | .ins _ _ _, ⟨dx, fs, h, k, l⟩ => ⟨dx, fs, h, k, l.mono e⟩
  | .dK _ _, ⟨kv, h, k, l⟩ => ⟨kv, h, k, l.mono e⟩
theorem MOk.at (e : H' a = H a) : ∀ {o : MO}, MOk K F H a o → MOk K F H' a o
  | .lst _, ⟨vs, h, l⟩ => ⟨vs, e.trans h, l⟩
  | .ins _ _ _, ⟨dx, fs, h, k, l⟩ => ⟨dx, fs, e.trans h, k, l⟩
  | .dK _ _, ⟨kv, h, k, l⟩ => ⟨kv, e.trans h, k, l⟩
theorem MOk.there : ∀ {o : MO}, MOk K F H a o → ∃ u, H a = some u
  | .lst _, ⟨_, h, _⟩ => ⟨_, h⟩
  | .ins _ _ _, ⟨_, _, h, _⟩ => ⟨_, h⟩
  | .dK _ _, ⟨_, h, _⟩ => ⟨_, h⟩
theorem Vw.mono (e : Same F F') (v : Vw K F σ Γ) : Vw K F' σ Γ := ⟨v.len, fun i d h => let ⟨x, h1, h2⟩ := v.get i d h; ⟨x, h1, h2.mono e⟩⟩
theorem Vw.set (v : Vw K F σ Γ) {x : V} {d : D} (h : Is K F x d) (i : Nat) : Vw K F (σ.set i (some x)) (Γ.set i (some d)) := by
  refine ⟨by rw [List.length_set, List.length_set, v.len], fun j e hj => ?_⟩
  by_cases hi : i = j
  · subst hi
    by_cases hl : i < Γ.length
    · rw [List.getElem?_set_self hl] at hj
      cases hj
      exact ⟨x, by rw [List.getElem?_set_self (by rw [v.len]; exact hl)], h⟩
    · rw [List.getElem?_eq_none (by rw [List.length_set]; omega)] at hj
      cases hj
  · rw [List.getElem?_set_ne hi] at hj ⊢
    exact v.get j e hj
theorem Vw.unset (v : Vw K F σ Γ) (i : Nat) : Vw K F σ (Γ.set i none) := by
  refine ⟨by rw [List.length_set, v.len], fun j e hj => ?_⟩
  by_cases hi : i = j
  · subst hi
    by_cases hl : i < Γ.length
    · rw [List.getElem?_set_self hl] at hj
      cases hj
    · rw [List.getElem?_eq_none (by rw [List.length_set]; omega)] at hj
      cases hj
  · rw [List.getElem?_set_ne hi] at hj
    exact v.get j e hj
theorem Vw.gone (v : Vw K F σ Γ) (i : Nat) : Vw K F (σ.set i none) (Γ.set i none) := by
  refine ⟨by rw [List.length_set, List.length_set, v.len], fun j e hj => ?_⟩
  by_cases hi : i = j
  · subst hi
    by_cases hl : i < Γ.length
    · rw [List.getElem?_set_self hl] at hj
      cases hj
    · rw [List.getElem?_eq_none (by rw [List.length_set]; omega)] at hj
      cases hj
  · rw [List.getElem?_set_ne hi] at hj ⊢
    exact v.get j e hj
/-- slots forgotten -/
def wipeG (Γ : Gm) : List Nat → Gm
  | [] => Γ
  | v :: vs => (wipeG Γ vs).set v none
theorem Vw.wipe (v : Vw K F σ Γ) : ∀ vs : List Nat, Vw K F (L2.wipe σ vs) (wipeG Γ vs)
  | [] => v
  | i :: vs => (Vw.wipe v vs).gone i

theorem upd_same_ext {p : Addr} {o : HO} (n : F p = none) : Same F (upd F p o) := fun b u q => by
  rw [upd_ne (ne_of_none q n)]
  exact q
theorem Hs.free (h : Hs K B M F H) {p : Addr} (n : H p = none) : F p = none := h.sub.free n
theorem Hs.boxNe (h : Hs K B M F H) {p : Addr} (n : H p = none) : p ∉ B.fp := fun hp => by
  obtain ⟨o, e⟩ := B.low h.box p hp
  rw [n] at e
  cases e
theorem Hs.memNe (h : Hs K B M F H) {p : Addr} (n : H p = none) : ∀ q ∈ M, q.1 ≠ p := fun q hq e => by
  obtain ⟨_, _, m⟩ := h.mem q hq
  obtain ⟨u, hu⟩ := m.there
  rw [e, n] at hu
  cases hu
theorem box_upd {p : Addr} {o : HO} (hp : p ∉ B.fp) (b : B.ok F H) : B.ok F (upd H p o) := B.loc (fun a ha => upd_ne fun e => hp (by rw [← e]; exact ha)) b
/-- a new immutable object -/
theorem nt_upd {p : Addr} {o : HO} (h : ∀ b ps, F b ≠ some (.tbl ps)) (ho : ∀ ps, o ≠ .tbl ps) : ∀ b ps, upd F p o b ≠ some (.tbl ps) := fun b ps z => by
  by_cases e : b = p
  · subst e
    rw [upd_same] at z
    exact ho ps (Option.some.inj z)
  · rw [upd_ne e] at z
    exact h b ps z
theorem Hs.laid {p : Addr} {o : HO} (h : Hs K B M F H) (n : H p = none) (ho : ∀ ps, o ≠ .tbl ps := by intro ps z; cases z) : Hs K B M (upd F p o) (upd H p o) := by
  have nf : F p = none := h.free n
  refine ⟨fun b u q => ?_, fun q hq => ?_, h.nd, B.up (upd_same_ext nf) (box_upd (h.boxNe n) h.box), fun c hc => ?_, nt_upd h.nt ho⟩
  · by_cases e : b = p
    · subst e
      rw [upd_same] at q ⊢
      exact q
    · rw [upd_ne e] at q ⊢
      exact h.sub b u q
  · obtain ⟨m1, m2, m3⟩ := h.mem q hq
    have ne : q.1 ≠ p := h.memNe n q hq
    exact ⟨by rw [upd_ne ne]; exact m1, m2, (m3.at (H' := upd H p o) (upd_ne ne)).mono (upd_same_ext nf)⟩
  · rw [upd_ne fun e => h.boxNe n (by rw [← e]; exact hc)]
    exact h.bfr c hc
/-- a new object that nobody speaks of -/
theorem Hs.over {p : Addr} {o : HO} (h : Hs K B M F H) (n : H p = none) : Hs K B M F (upd H p o) :=
  ⟨fun b u q => by rw [upd_ne (ne_of_none q (h.free n))]; exact h.sub b u q, fun q hq => let ⟨m1, m2, m3⟩ := h.mem q hq; ⟨m1, m2, m3.at (upd_ne (h.memNe n q hq))⟩, h.nd, box_upd (h.boxNe n) h.box, h.bfr, h.nt⟩
/-- a new mutable object -/
theorem Hs.newM {p : Addr} {u : HO} (h : Hs K B M F H) (n : H p = none) (m : MOk K F (upd H p u) p o) : Hs K B ((p, o) :: M) F (upd H p u) := by
  refine ⟨(h.over n).sub, fun q hq => ?_, ?_, (h.over n).box, h.bfr, h.nt⟩
  · rcases List.mem_cons.mp hq with e | hq
    · subst e
      exact ⟨h.free n, h.boxNe n, m⟩
    · exact (h.over n).mem q hq
  · rw [List.map_cons, List.nodup_cons]
    refine ⟨fun hm => ?_, h.nd⟩
    obtain ⟨q, hq, e⟩ := List.mem_map.mp hm
    exact h.memNe n q hq e
/-- a mutable object written -/
theorem Hs.put {u : HO} (h : Hs K B M F H) (up : Up M a o o' M') (m : MOk K F (upd H a u) a o') : Hs K B M' F (upd H a u) := by
  obtain ⟨m1, m2, m3⟩ := h.mem _ up.mem
  refine ⟨fun b v q => ?_, fun q hq => ?_, by rw [up.keys]; exact h.nd, box_upd m2 h.box, h.bfr, h.nt⟩
  · rw [upd_ne (ne_of_none q m1)]
    exact h.sub b v q
  · rcases up.of h.nd q hq with e | ⟨h1, h2⟩
    · subst e
      exact ⟨m1, m2, m⟩
    · obtain ⟨k1, k2, k3⟩ := h.mem q h1
      exact ⟨k1, k2, k3.at (upd_ne h2)⟩
theorem Hs.less (h : Hs K B M F H) (s : M'.Sublist M) : Hs K B M' F H :=
  ⟨h.sub, fun q hq => h.mem q (s.subset hq), h.nd.sublist (s.map _), h.box, h.bfr, h.nt⟩
theorem Hs.lst {xs : List D} (h : Hs K B M F H) (m : (a, MO.lst xs) ∈ M) : ∃ vs, H a = some (.lst vs) ∧ IsL K F vs xs := (h.mem _ m).2.2
/-- a mutable list is left as it is from here on -/
theorem Hs.freeze {xs : List D} (h : Hs K B M F H) (d : Dl M a (.lst xs) M') : ∃ F', Same F F' ∧ Hs K B M' F' H ∧ Is K F' (.ref a) (.lst xs) := by
  obtain ⟨m1, m2, vs, e, l⟩ := h.mem _ d.mem
  have s : Same F (upd F a (.lst vs)) := upd_same_ext m1
  refine ⟨upd F a (.lst vs), s, ⟨fun b u q => ?_, fun q hq => ?_, h.nd.sublist (d.sub.map _), B.up s h.box, fun c hc => ?_, nt_upd h.nt fun ps z => (by cases z)⟩, .lst (.inl (.inl upd_same)) (l.mono s)⟩
  · by_cases eb : b = a
    · subst eb
      rw [upd_same] at q
      rw [e]
      exact q
    · rw [upd_ne eb] at q
      exact h.sub b u q
  · obtain ⟨k1, k2, k3⟩ := h.mem q (d.sub.subset hq)
    have ne := d.ne h.nd q hq
    exact ⟨by rw [upd_ne ne]; exact k1, k2, k3.mono s⟩
  · rw [upd_ne fun e => m2 (by rw [← e]; exact hc)]
    exact h.bfr c hc
/-- an instance is left as it is from here on -/
theorem Hs.freezeI {C : Addr} {ns : List Str} {xs : List D} (h : Hs K B M F H) (d : Dl M a (.ins C ns xs) M') : ∃ F', Same F F' ∧ Hs K B M' F' H ∧ Is K F' (.ref a) (.ins C ns xs) := by
  obtain ⟨m1, m2, dx, fs, e, hn, l⟩ := h.mem _ d.mem
  have s : Same F (upd F a (.ins C dx fs)) := upd_same_ext m1
  refine ⟨upd F a (.ins C dx fs), s, ⟨fun b u q => ?_, fun q hq => ?_, h.nd.sublist (d.sub.map _), B.up s h.box, fun c hc => ?_, nt_upd h.nt fun ps z => (by cases z)⟩, by subst hn; exact .ins upd_same (l.mono s)⟩
  · by_cases eb : b = a
    · subst eb
      rw [upd_same] at q
      rw [e]
      exact q
    · rw [upd_ne eb] at q
      exact h.sub b u q
  · obtain ⟨k1, k2, k3⟩ := h.mem q (d.sub.subset hq)
    have ne := d.ne h.nd q hq
    exact ⟨by rw [upd_ne ne]; exact k1, k2, k3.mono s⟩
  · rw [upd_ne fun e => m2 (by rw [← e]; exact hc)]
    exact h.bfr c hc
end

/-! ### what is forgotten, frozen between two statements -/
inductive Fz : Gm → Mm → Gm → Mm → Prop
  | refl {Γ : Gm} {M : Mm} : Fz Γ M Γ M
  | lst {Γ Γ' : Gm} {M M1 M' : Mm} {a : Addr} {xs : List D} (i : Nat) : Γ[i]? = some (some (.ref a)) → Dl M a (.lst xs) M1 → Fz (Γ.set i (some (.lst xs))) M1 Γ' M' → Fz Γ M Γ' M'
  | ins {Γ Γ' : Gm} {M M1 M' : Mm} {a C : Addr} {ns : List Str} {xs : List D} (i : Nat) : Γ[i]? = some (some (.ref a)) → Dl M a (.ins C ns xs) M1 → Fz (Γ.set i (some (.ins C ns xs))) M1 Γ' M' → Fz Γ M Γ' M'
  | no {Γ Γ' : Gm} {M M' : Mm} (i : Nat) : Fz (Γ.set i none) M Γ' M' → Fz Γ M Γ' M'
  | less {Γ Γ' : Gm} {M M1 M' : Mm} : M1.Sublist M → Fz Γ M1 Γ' M' → Fz Γ M Γ' M'

/-! ### exceptions, contexts -/
structure XD where
  C : Addr
  x : D
def XIs (K : PySem.W.Frag) (F : Hp) (cls : Value) (d : Option Addr) (x : XD) : Prop := cls = .ref x.C ∧ ∃ dd v, d = some dd ∧ F dd = some (.xd [("at", v)]) ∧ Is K F v x.x
abbrev AX := XD → Gm → Mm → Prop
/-- the hidden part, the wish about exceptions and its reading -/
structure Ct where
  B : Bx
  W : WX
  Ψ : AX
def Lk (K : PySem.W.Frag) (T : Ct) (F : Hp) : Prop := ∀ x cls d Γ M σ F' H, Same F F' → Vw K F' σ Γ → Hs K T.B M F' H → XIs K F' cls d x → T.Ψ x Γ M → T.W cls d σ H
theorem Lk.mono {K : PySem.W.Frag} {T : Ct} {F F' : Hp} (e : Same F F') (l : Lk K T F) : Lk K T F' := fun x cls d Γ M σ F1 H s => l x cls d Γ M σ F1 H (e.trans s)
/-- nothing is raised -/
def Ct.calm (B : Bx) : Ct := ⟨B, fun _ _ _ _ => False, fun _ _ _ => False⟩
theorem lk_calm {K : PySem.W.Frag} {B : Bx} {F : Hp} : Lk K (Ct.calm B) F := fun _ _ _ _ _ _ _ _ _ _ _ _ z => z

/-! ### readings over data -/
abbrev AK := D → Mm → Prop
abbrev AE := Gm → Mm → AK → Prop
abbrev AT := Gm → Mm → (Bool → Mm → Prop) → Prop
abbrev AA := Gm → Mm → (List D → Mm → Prop) → Prop
structure AEnds where
  nx : Gm → Mm → Prop
  rt : AK
  bk : Gm → Mm → Prop := fun _ _ => False
  ct : Gm → Mm → Prop := fun _ _ => False
abbrev AS := AEnds → Gm → Mm → Prop

/-- a state is seen -/
structure See (K : PySem.W.Frag) (T : Ct) (F : Hp) (σ : St) (H : Hp) (Γ : Gm) (M : Mm) : Prop where
  v : Vw K F σ Γ
  h : Hs K T.B M F H
  l : Lk K T F
def cE (K : PySem.W.Frag) (T : Ct) (ta : AE) : TE := fun σ H Q => ∃ F Γ M Φ, See K T F σ H Γ M ∧ ta Γ M Φ ∧ ∀ d M' v F' H', Same F F' → Hs K T.B M' F' H' → Is K F' v d → Φ d M' → Q v H'
def cT (K : PySem.W.Frag) (T : Ct) (ta : AT) : TT := fun σ H Q => ∃ F Γ M Φ, See K T F σ H Γ M ∧ ta Γ M Φ ∧ ∀ b M' F' H', Same F F' → Hs K T.B M' F' H' → Φ b M' → Q b H'
def cA (K : PySem.W.Frag) (T : Ct) (ta : AA) : TA := fun σ H Q => ∃ F Γ M Φ, See K T F σ H Γ M ∧ ta Γ M Φ ∧ ∀ ds M' vs F' H', Same F F' → Hs K T.B M' F' H' → IsL K F' vs ds → Φ ds M' → Q vs H'
def cS (K : PySem.W.Frag) (T : Ct) (ta : AS) : TS := fun D σ H => ∃ F Γ M A, See K T F σ H Γ M ∧ ta A Γ M ∧
  (∀ Γ' M' σ' F' H', Same F F' → Vw K F' σ' Γ' → Hs K T.B M' F' H' → A.nx Γ' M' → D.nx σ' H') ∧
  (∀ d M' v F' H', Same F F' → Hs K T.B M' F' H' → Is K F' v d → A.rt d M' → D.rt v H') ∧
  (∀ Γ' M' σ' F' H', Same F F' → Vw K F' σ' Γ' → Hs K T.B M' F' H' → A.bk Γ' M' → D.bk σ' H') ∧
  (∀ Γ' M' σ' F' H', Same F F' → Vw K F' σ' Γ' → Hs K T.B M' F' H' → A.ct Γ' M' → D.ct σ' H')
def DE (X : Cx) (T : Ct) (e : Expr) (ta : AE) : Prop := PE X e (cE X.K T ta)
def DT (X : Cx) (T : Ct) (e : Expr) (ta : AT) : Prop := PT X e (cT X.K T ta)
def DW (X : Cx) (T : Ct) (e : Expr) (ta : AT) : Prop := PW X e (cT X.K T ta)
def DA (X : Cx) (T : Ct) (es : List Expr) (ta : AA) : Prop := PA X es (cA X.K T ta)
def DS (X : Cx) (T : Ct) (st : Stmt) (ta : AS) : Prop := PS X st (cS X.K T ta)
def DSs (X : Cx) (T : Ct) (st : List Stmt) (ta : AS) : Prop := PSs X st (cS X.K T ta)

section
variable {X : Cx} {T : Ct} {e a b c : Expr} {pos : Pos} {K : PySem.W.Frag} {F F' F1 H H' H1 : Hp} {σ : St} {Γ : Gm} {M M' : Mm}
theorem See.go (s : See K T F σ H Γ M) (e : Same F F') (h : Hs K T.B M' F' H') : See K T F' σ H' Γ M' := ⟨s.v.mono e, h, s.l.mono e⟩
theorem de_of {t : TE} {ta : AE} (h : PE X e t) (k : ∀ F σ H Γ M Φ Q, See X.K T F σ H Γ M → ta Γ M Φ → (∀ d M' v F' H', Same F F' → Hs X.K T.B M' F' H' → Is X.K F' v d → Φ d M' → Q v H') → t σ H Q) : DE X T e ta :=
  ⟨fun pins s σ H Q I ⟨F, Γ, M, Φ, w, q, z⟩ => h.run pins s σ H Q I (k F σ H Γ M Φ Q w q z)⟩
theorem dt_of {t : TT} {ta : AT} (h : PT X e t) (k : ∀ F σ H Γ M Φ Q, See X.K T F σ H Γ M → ta Γ M Φ → (∀ d M' F' H', Same F F' → Hs X.K T.B M' F' H' → Φ d M' → Q d H') → t σ H Q) : DT X T e ta :=
  ⟨fun pins s σ H Q I ⟨F, Γ, M, Φ, w, q, z⟩ => h.run pins s σ H Q I (k F σ H Γ M Φ Q w q z)⟩
theorem dw_of {t : TT} {ta : AT} (h : PW X e t) (k : ∀ F σ H Γ M Φ Q, See X.K T F σ H Γ M → ta Γ M Φ → (∀ d M' F' H', Same F F' → Hs X.K T.B M' F' H' → Φ d M' → Q d H') → t σ H Q) : DW X T e ta :=
  ⟨fun wh pins s σ H Q I ⟨F, Γ, M, Φ, w, q, z⟩ => h.run wh pins s σ H Q I (k F σ H Γ M Φ Q w q z)⟩
theorem da_of {es : List Expr} {t : TA} {ta : AA} (h : PA X es t) (k : ∀ F σ H Γ M Φ Q, See X.K T F σ H Γ M → ta Γ M Φ → (∀ d M' v F' H', Same F F' → Hs X.K T.B M' F' H' → IsL X.K F' v d → Φ d M' → Q v H') → t σ H Q) : DA X T es ta :=
  ⟨fun pos pins s σ H Q I ⟨F, Γ, M, Φ, w, q, z⟩ => h.run pos pins s σ H Q I (k F σ H Γ M Φ Q w q z)⟩
/-- the ends are met -/
structure Met (K : PySem.W.Frag) (T : Ct) (F : Hp) (A : AEnds) (D : Ends) : Prop where
  nx : ∀ Γ' M' σ' F' H', Same F F' → Vw K F' σ' Γ' → Hs K T.B M' F' H' → A.nx Γ' M' → D.nx σ' H'
  rt : ∀ d M' v F' H', Same F F' → Hs K T.B M' F' H' → Is K F' v d → A.rt d M' → D.rt v H'
  bk : ∀ Γ' M' σ' F' H', Same F F' → Vw K F' σ' Γ' → Hs K T.B M' F' H' → A.bk Γ' M' → D.bk σ' H'
  ct : ∀ Γ' M' σ' F' H', Same F F' → Vw K F' σ' Γ' → Hs K T.B M' F' H' → A.ct Γ' M' → D.ct σ' H'
theorem Met.mono {A : AEnds} {D : Ends} (e : Same F F') (m : Met K T F A D) : Met K T F' A D :=
  ⟨fun Γ M σ F1 H s => m.nx Γ M σ F1 H (e.trans s), fun d M v F1 H s => m.rt d M v F1 H (e.trans s), fun Γ M σ F1 H s => m.bk Γ M σ F1 H (e.trans s), fun Γ M σ F1 H s => m.ct Γ M σ F1 H (e.trans s)⟩
theorem cS_mk {ta : AS} {A : AEnds} {D : Ends} (s : See K T F σ H Γ M) (q : ta A Γ M) (m : Met K T F A D) : cS K T ta D σ H := ⟨F, Γ, M, A, s, q, m.nx, m.rt, m.bk, m.ct⟩
theorem ds_of {st : Stmt} {t : TS} {ta : AS} (h : PS X st t) (k : ∀ F σ H Γ M A D, See X.K T F σ H Γ M → ta A Γ M → Met X.K T F A D → t D σ H) : DS X T st ta :=
  ⟨fun pins s σ H D I ⟨F, Γ, M, A, w, q, m1, m2, m3, m4⟩ => h.run pins s σ H D I (k F σ H Γ M A D w q ⟨m1, m2, m3, m4⟩)⟩
theorem dss_of {st : List Stmt} {t : TS} {ta : AS} (h : PSs X st t) (k : ∀ F σ H Γ M A D, See X.K T F σ H Γ M → ta A Γ M → Met X.K T F A D → t D σ H) : DSs X T st ta :=
  ⟨fun pins s σ H D I ⟨F, Γ, M, A, w, q, m1, m2, m3, m4⟩ => h.run pins s σ H D I (k F σ H Γ M A D w q ⟨m1, m2, m3, m4⟩)⟩

/-! ### names, constants -/
def aVar (i : Nat) (Γ : Gm) (M : Mm) (Φ : AK) : Prop := onSlot Γ[i]? fun d => Φ d M
def aC (d : D) (Γ : Gm) (M : Mm) (Φ : AK) : Prop := Φ d M
theorem de_var {i : Nat} (h : PE X e (tVar i)) : DE X T e (aVar i) := de_of h fun F σ H Γ M Φ Q w q z => by
  unfold aVar onSlot at q
  split at q
  · rename_i d hd
    obtain ⟨x, h1, h2⟩ := w.v.get i d hd
    exact ⟨x, h1, z d M x F H (Same.refl F) w.h h2 q⟩
  · exact q.elim
theorem dv (i : Nat) {x : Str} {pos : Pos} (hN : X.N[i]? = some x := by rfl) (hv : Vis X.env.scope x := by first | exact Or.inl rfl | exact Or.inr (Or.inl rfl) | exact Or.inr (Or.inr rfl)) (hd : (x == ("__debug__" : Str)) = false := by decide)
    (hcd : (x == ("__classdict__" : Str)) = false := by decide) : DE X T (.Name x pos) (aVar i) := de_var (pe_var hN hv hd hcd)
theorem de_c {v : V} {d : D} (h : PE X e (tC v)) (i : ∀ F, Is X.K F v d) : DE X T e (aC d) := de_of h fun F σ H Γ M Φ Q w q z => z d M v F H (Same.refl F) w.h (i F) q
theorem de_int {i : Int} {j pos} : DE X T (.Constant (.int i) j pos) (aC (.int i)) := de_c pe_int fun _ => .int i
theorem de_bl {b : Bool} {j pos} : DE X T (.Constant (.bool b) j pos) (aC (.bl b)) := de_c pe_bl fun _ => .bl b
theorem de_non {j pos} : DE X T (.Constant .none j pos) (aC .non) := de_c pe_non fun _ => .non
theorem de_str {x : Str} {j pos} : DE X T (.Constant (.str x) j pos) (aC (.str x)) := de_c pe_str fun _ => .str x

/-! ### operators -/
abbrev A2 := D → D → Mm → AK → Prop
/-- an operation on values, read on data -/
def Ab2 (K : PySem.W.Frag) (B : Bx) (r : R2) (f : A2) : Prop := ∀ F H x y d g M Φ Q, Hs K B M F H → Is K F x d → Is K F y g → f d g M Φ → (∀ z M' v F' H', Same F F' → Hs K B M' F' H' → Is K F' v z → Φ z M' → Q v H') → r x y H Q
abbrev A1 := D → Mm → AK → Prop
def Ab1 (K : PySem.W.Frag) (B : Bx) (r : V → Hp → VK → Prop) (f : A1) : Prop := ∀ F H x d M Φ Q, Hs K B M F H → Is K F x d → f d M Φ → (∀ z M' v F' H', Same F F' → Hs K B M' F' H' → Is K F' v z → Φ z M' → Q v H') → r x H Q
abbrev AL := List D → Mm → AK → Prop
def AbL (K : PySem.W.Frag) (B : Bx) (r : List V → Hp → VK → Prop) (f : AL) : Prop := ∀ F H xs ds M Φ Q, Hs K B M F H → IsL K F xs ds → f ds M Φ → (∀ z M' v F' H', Same F F' → Hs K B M' F' H' → Is K F' v z → Φ z M' → Q v H') → r xs H Q
def aOp (f : A2) (ta tb : AE) (Γ : Gm) (M : Mm) (Φ : AK) : Prop := ta Γ M fun d M1 => tb Γ M1 fun g M2 => f d g M2 Φ
def aUn (f : A1) (ta : AE) (Γ : Gm) (M : Mm) (Φ : AK) : Prop := ta Γ M fun d M1 => f d M1 Φ
variable {ta tb tc : AE}
theorem cE_mk {Q : VK} {Φ : AK} (s : See K T F σ H Γ M) (q : ta Γ M Φ) (z : ∀ d M' v F' H', Same F F' → Hs K T.B M' F' H' → Is K F' v d → Φ d M' → Q v H') : cE K T ta σ H Q := ⟨F, Γ, M, Φ, s, q, z⟩
theorem op_go {r : R2} {f : A2} {Q : VK} {Φ : AK} (hr : Ab2 K T.B r f) (w : See K T F σ H Γ M) (q : aOp f ta tb Γ M Φ) (z : ∀ d M' v F' H', Same F F' → Hs K T.B M' F' H' → Is K F' v d → Φ d M' → Q v H') : tOp r (cE K T ta) (cE K T tb) σ H Q :=
  cE_mk w q fun d M1 x F1 H1 s1 h1 i1 q1 => cE_mk (w.go s1 h1) q1 fun g M2 y F2 H2 s2 h2 i2 q2 => hr F2 H2 x y d g M2 Φ Q h2 (i1.mono s2) i2 q2 fun d M3 v F3 H3 s3 h3 i3 q3 => z d M3 v F3 H3 ((s1.trans s2).trans s3) h3 i3 q3
theorem de_op {op : Operator} {r : R2} {f : A2} (ho : OpR X (binaryOp op) r) (hr : Ab2 X.K T.B r f) (ha : DE X T a ta) (hb : DE X T b tb) : DE X T (.BinOp a op b pos) (aOp f ta tb) :=
  de_of (pe_op ho ha hb) fun F σ H Γ M Φ Q w q z => op_go hr w q z
theorem de_cmp {op : CmpOp} {r : R2} {f : A2} (ho : OpR X (compareOp op) r) (hr : Ab2 X.K T.B r f) (ha : DE X T a ta) (hb : DE X T b tb) (hm : behindInMarks op b = false := by first | exact nomark _ | rfl) : DE X T (.Compare a [op] [b] pos) (aOp f ta tb) :=
  de_of (pe_cmpR ho ha hb hm) fun F σ H Γ M Φ Q w q z => op_go hr w q z
theorem de_un {op : UnaryOp} {r : V → Hp → VK → Prop} {f : A1} (ho : UnR X (unaryOp op) r) (hr : Ab1 X.K T.B r f) (ha : DE X T a ta) : DE X T (.UnaryOp op a pos) (aUn f ta) :=
  de_of (pe_un ho ha) fun F σ H Γ M Φ Q w q z => cE_mk w q fun d M1 x F1 H1 s1 h1 i1 q1 => hr F1 H1 x d M1 Φ Q h1 i1 q1 fun d M3 v F3 H3 s3 h3 i3 q3 => z d M3 v F3 H3 (s1.trans s3) h3 i3 q3
/-- x[i] -/
theorem de_ix {r : R2} {f : A2} (hi : IxR X r) (hr : Ab2 X.K T.B r f) (ha : DE X T a ta) (hb : DE X T b tb) (hs : PlainIx b := by exact fun _ _ => rfl) : DE X T (.Subscript a b pos) (aOp f ta tb) :=
  de_of (pe_ix hi ha hb hs) fun F σ H Γ M Φ Q w q z => op_go hr w q z
/-- a test -/
def aB_k (Φ : Bool → Mm → Prop)  (d : D) (M1 : Mm) : Prop := match d with
  | .bl b => Φ b M1
  | _ => False
def aB (ta : AE) (Γ : Gm) (M : Mm) (Φ : Bool → Mm → Prop) : Prop := ta Γ M fun d M1 => aB_k Φ d M1
theorem cE_b {Q : Bool → Hp → Prop} {Φ : Bool → Mm → Prop} (w : See K T F σ H Γ M) (q : aB ta Γ M Φ) (z : ∀ b M' F' H', Same F F' → Hs K T.B M' F' H' → Φ b M' → Q b H') : cE K T ta σ H fun x H1 => ∃ k, x = .bl k ∧ Q k H1 :=
  cE_mk w q fun d M1 x F1 H1 s1 h1 i1 q1 => by
    cases d with
    | bl b =>
      cases i1
      exact ⟨b, rfl, z b M1 F1 H1 s1 h1 q1⟩
    | _ => exact q1.elim
theorem dt_val {e : Expr} {te : AE} (h : DE X T e te) (he : ∀ whole, isTrue e X.env whole = (do let v ← whole; standAt e.pos; holding [v] (truthy v)) := by intro _; rfl) : DT X T e (aB te) :=
  dt_of (pt_val h he) fun F σ H Γ M Φ Q w q z => cE_b w q z
theorem dt_cmp {op : CmpOp} {r : R2} {f : A2} (ho : OpR X (compareOp op) r) (hr : Ab2 X.K T.B r f) (ha : DE X T a ta) (hb : DE X T b tb) (hm : behindInMarks op b = false := by first | exact nomark _ | rfl) : DT X T (.Compare a [op] [b] pos) (aB (aOp f ta tb)) :=
  dt_of (pt_cmpR ho ha hb hm) fun F σ H Γ M Φ Q w q z => op_go (Q := fun x H1 => ∃ k, x = .bl k ∧ Q k H1) hr w q fun d M1 x F1 H1 s1 h1 i1 q1 => by
    cases d with
    | bl b =>
      cases i1
      exact ⟨b, rfl, z b M1 F1 H1 s1 h1 q1⟩
    | _ => exact q1.elim
/-! ### and, or, not, if -/
variable {tA tB : AT}
def aAnd (t u : AT) (Γ : Gm) (M : Mm) (Φ : Bool → Mm → Prop) : Prop := t Γ M fun c M1 => (c = true → u Γ M1 Φ) ∧ (c = false → Φ false M1)
def aOr (t u : AT) (Γ : Gm) (M : Mm) (Φ : Bool → Mm → Prop) : Prop := t Γ M fun c M1 => (c = true → Φ true M1) ∧ (c = false → u Γ M1 Φ)
def aNot (t : AT) (Γ : Gm) (M : Mm) (Φ : Bool → Mm → Prop) : Prop := t Γ M fun c M1 => Φ (!c) M1
theorem cT_mk {Q : Bool → Hp → Prop} {Φ : Bool → Mm → Prop} {t : AT} (s : See K T F σ H Γ M) (q : t Γ M Φ) (z : ∀ d M' F' H', Same F F' → Hs K T.B M' F' H' → Φ d M' → Q d H') : cT K T t σ H Q := ⟨F, Γ, M, Φ, s, q, z⟩
theorem dw_and1 (ha : DT X T a tA) : DW X T (.BoolOp .And [a] pos) tA := pw_and1 ha
theorem dw_or1 (ha : DT X T a tA) : DW X T (.BoolOp .Or [a] pos) tA := pw_or1 ha
theorem dw_and {rest : List Expr} (ha : DT X T a tA) (hb : DW X T (.BoolOp .And (b :: rest) pos) tB) : DW X T (.BoolOp .And (a :: b :: rest) pos) (aAnd tA tB) :=
  dw_of (pw_and ha hb) fun F σ H Γ M Φ Q w q z => cT_mk w q fun c M1 F1 H1 s1 h1 q1 => by
    cases c with
    | true => exact cT_mk (w.go s1 h1) (q1.1 rfl) fun d M2 F2 H2 s2 h2 q2 => z d M2 F2 H2 (s1.trans s2) h2 q2
    | false => exact z false M1 F1 H1 s1 h1 (q1.2 rfl)
theorem dw_or {rest : List Expr} (ha : DT X T a tA) (hb : DW X T (.BoolOp .Or (b :: rest) pos) tB) : DW X T (.BoolOp .Or (a :: b :: rest) pos) (aOr tA tB) :=
  dw_of (pw_or ha hb) fun F σ H Γ M Φ Q w q z => cT_mk w q fun c M1 F1 H1 s1 h1 q1 => by
    cases c with
    | true => exact z true M1 F1 H1 s1 h1 (q1.1 rfl)
    | false => exact cT_mk (w.go s1 h1) (q1.2 rfl) fun d M2 F2 H2 s2 h2 q2 => z d M2 F2 H2 (s1.trans s2) h2 q2
theorem dt_w (h : DW X T e tA) : DT X T e tA := h.pt
theorem dt_not (ha : DT X T a tA) : DT X T (.UnaryOp .Not a pos) (aNot tA) :=
  dt_of (pt_not ha) fun F σ H Γ M Φ Q w q z => cT_mk w q fun c M1 F1 H1 s1 h1 q1 => z (!c) M1 F1 H1 s1 h1 q1
/-- .. as values: bools -/
def aAndV_k (tb : AE) (Γ : Gm) (Φ : AK)  (d : D) (M1 : Mm) : Prop := match d with
  | .bl c => (c = true → tb Γ M1 Φ) ∧ (c = false → Φ (.bl false) M1)
  | _ => False
def aAndV (ta tb : AE) (Γ : Gm) (M : Mm) (Φ : AK) : Prop := ta Γ M fun d M1 => aAndV_k tb Γ Φ d M1
def aOrV_k (tb : AE) (Γ : Gm) (Φ : AK)  (d : D) (M1 : Mm) : Prop := match d with
  | .bl c => (c = true → Φ (.bl true) M1) ∧ (c = false → tb Γ M1 Φ)
  | _ => False
def aOrV (ta tb : AE) (Γ : Gm) (M : Mm) (Φ : AK) : Prop := ta Γ M fun d M1 => aOrV_k tb Γ Φ d M1
def aNotV_k (Φ : AK)  (d : D) (M1 : Mm) : Prop := match d with
  | .bl c => Φ (.bl (!c)) M1
  | _ => False
def aNotV (ta : AE) (Γ : Gm) (M : Mm) (Φ : AK) : Prop := ta Γ M fun d M1 => aNotV_k Φ d M1
theorem de_one {op} (h : DE X T a ta) : DE X T (.BoolOp op [a] pos) ta := pe_one h
theorem de_and {rest : List Expr} (ha : DE X T a ta) (hb : DE X T (.BoolOp .And (b :: rest) pos) tb) : DE X T (.BoolOp .And (a :: b :: rest) pos) (aAndV ta tb) :=
  de_of (pe_and ha hb) fun F σ H Γ M Φ Q w q z => cE_mk w q fun d M1 x F1 H1 s1 h1 i1 q1 => by
    cases d with
    | bl c =>
      cases i1
      refine ⟨c, rfl, ?_⟩
      cases c with
      | true => exact cE_mk (w.go s1 h1) (q1.1 rfl) fun d M2 v F2 H2 s2 h2 i2 q2 => z d M2 v F2 H2 (s1.trans s2) h2 i2 q2
      | false => exact z _ M1 _ F1 H1 s1 h1 (.bl false) (q1.2 rfl)
    | _ => exact q1.elim
theorem de_or {rest : List Expr} (ha : DE X T a ta) (hb : DE X T (.BoolOp .Or (b :: rest) pos) tb) : DE X T (.BoolOp .Or (a :: b :: rest) pos) (aOrV ta tb) :=
  de_of (pe_or ha hb) fun F σ H Γ M Φ Q w q z => cE_mk w q fun d M1 x F1 H1 s1 h1 i1 q1 => by
    cases d with
    | bl c =>
      cases i1
      refine ⟨c, rfl, ?_⟩
      cases c with
      | true => exact z _ M1 _ F1 H1 s1 h1 (.bl true) (q1.1 rfl)
      | false => exact cE_mk (w.go s1 h1) (q1.2 rfl) fun d M2 v F2 H2 s2 h2 i2 q2 => z d M2 v F2 H2 (s1.trans s2) h2 i2 q2
    | _ => exact q1.elim
theorem de_not (ha : DE X T a ta) : DE X T (.UnaryOp .Not a pos) (aNotV ta) :=
  de_of (pe_not ha) fun F σ H Γ M Φ Q w q z => cE_mk w q fun d M1 x F1 H1 s1 h1 i1 q1 => by
    cases d with
    | bl c =>
      cases i1
      exact ⟨c, rfl, z _ M1 _ F1 H1 s1 h1 (.bl (!c)) q1⟩
    | _ => exact q1.elim
/-- a if t else b -/
def aIf (t : AT) (ta tb : AE) (Γ : Gm) (M : Mm) (Φ : AK) : Prop := t Γ M fun c M1 => (c = true → ta Γ M1 Φ) ∧ (c = false → tb Γ M1 Φ)
theorem de_if (hc : DT X T c tA) (ha : DE X T a ta) (hb : DE X T b tb) : DE X T (.IfExp c a b pos) (aIf tA ta tb) :=
  de_of (pe_ifExp hc ha hb) fun F σ H Γ M Φ Q w q z => cT_mk w q fun c M1 F1 H1 s1 h1 q1 => by
    cases c with
    | true => exact cE_mk (w.go s1 h1) (q1.1 rfl) fun d M2 v F2 H2 s2 h2 i2 q2 => z d M2 v F2 H2 (s1.trans s2) h2 i2 q2
    | false => exact cE_mk (w.go s1 h1) (q1.2 rfl) fun d M2 v F2 H2 s2 h2 i2 q2 => z d M2 v F2 H2 (s1.trans s2) h2 i2 q2
/-- a < b < c -/
def aChain_k (g : A2) (tc : AE) (Γ : Gm) (Φ : AK) (e : D) (z : D) (M3 : Mm) : Prop := match z with
  | .bl k => (k = true → tc Γ M3 fun h M4 => g e h M4 Φ) ∧ (k = false → Φ (.bl false) M3)
  | _ => False
def aChain (f g : A2) (ta tb tc : AE) (Γ : Gm) (M : Mm) (Φ : AK) : Prop := ta Γ M fun d M1 => tb Γ M1 fun e M2 => f d e M2 fun z M3 => aChain_k g tc Γ Φ e z M3
/-! ### argument lists, tuples, lists -/
def aNil (Γ : Gm) (M : Mm) (Φ : List D → Mm → Prop) : Prop := Φ [] M
def aCons (ta : AE) (tr : AA) (Γ : Gm) (M : Mm) (Φ : List D → Mm → Prop) : Prop := ta Γ M fun d M1 => tr Γ M1 fun ds M2 => Φ (d :: ds) M2
variable {es : List Expr} {tr : AA}
theorem cA_mk {Q : List V → Hp → Prop} {Φ : List D → Mm → Prop} (s : See K T F σ H Γ M) (q : tr Γ M Φ) (z : ∀ d M' v F' H', Same F F' → Hs K T.B M' F' H' → IsL K F' v d → Φ d M' → Q v H') : cA K T tr σ H Q := ⟨F, Γ, M, Φ, s, q, z⟩
theorem da_nil : DA X T [] aNil := da_of pa_nil fun F σ H Γ M Φ Q w q z => z [] M [] F H (Same.refl F) w.h .nil q
theorem da_cons (ha : DE X T e ta) (hr : DA X T es tr) (hs : starEach (e :: es) X.env = (false, eval e X.env) :: starEach es X.env := by rfl) : DA X T (e :: es) (aCons ta tr) :=
  da_of (pa_cons ha hr hs) fun F σ H Γ M Φ Q w q z => cE_mk w q fun d M1 x F1 H1 s1 h1 i1 q1 => cA_mk (w.go s1 h1) q1 fun ds M2 vs F2 H2 s2 h2 i2 q2 => z (d :: ds) M2 (x :: vs) F2 H2 (s1.trans s2) h2 (.cons (i1.mono s2) i2) q2
def aTup (tr : AA) (Γ : Gm) (M : Mm) (Φ : AK) : Prop := tr Γ M fun ds M1 => ds.length ≤ 100000 ∧ Φ (.tup ds) M1
/-- a list that will not change -/
def aLst (tr : AA) (Γ : Gm) (M : Mm) (Φ : AK) : Prop := tr Γ M fun ds M1 => ds.length ≤ 100000 ∧ Φ (.lst ds) M1
/-- a list that may change -/
def aLstM (tr : AA) (Γ : Gm) (M : Mm) (Φ : AK) : Prop := tr Γ M fun ds M1 => ds.length ≤ 100000 ∧ ∀ l, Φ (.ref l) ((l, .lst ds) :: M1)
theorem line_of {n : Nat} (h : n ≤ 100000) : n ≤ sizeLine := Nat.le_trans h (by decide)
theorem line_lt {n : Nat} (h : n < 100000) : n < sizeLine := Nat.lt_of_lt_of_le h (by decide)
theorem de_tup {x1} (h : DA X T es tr) : DE X T (.Tuple es x1 pos) (aTup tr) :=
  de_of (pe_tup h) fun F σ H Γ M Φ Q w q z => cA_mk w q fun ds M1 vs F1 H1 s1 h1 i1 q1 => ⟨by rw [i1.length]; exact line_of q1.1, fun p hp => by
    have n1 := h1.free hp
    exact z _ M1 _ _ _ (s1.trans (upd_same_ext n1)) (h1.laid hp) (.tup (.inl (.inl upd_same)) (i1.mono (upd_same_ext n1))) q1.2⟩
theorem de_lst (h : DA X T es tr) : DE X T (.List es pos) (aLst tr) :=
  de_of (pe_lst h) fun F σ H Γ M Φ Q w q z => cA_mk w q fun ds M1 vs F1 H1 s1 h1 i1 q1 => ⟨by rw [i1.length]; exact line_of q1.1, fun p hp => by
    have n1 := h1.free hp
    exact z _ M1 _ _ _ (s1.trans (upd_same_ext n1)) (h1.laid hp) (.lst (.inl (.inl upd_same)) (i1.mono (upd_same_ext n1))) q1.2⟩
theorem de_lstM (h : DA X T es tr) : DE X T (.List es pos) (aLstM tr) :=
  de_of (pe_lst h) fun F σ H Γ M Φ Q w q z => cA_mk w q fun ds M1 vs F1 H1 s1 h1 i1 q1 => ⟨by rw [i1.length]; exact line_of q1.1, fun p hp => by
    exact z (.ref p) ((p, .lst ds) :: M1) _ _ _ s1 (h1.newM (o := .lst ds) hp ⟨vs, upd_same, i1⟩) (.ref p) (q1.2 p)⟩
/-! ### calls of built-ins -/
def aCB (f : AL) (tr : AA) (Γ : Gm) (M : Mm) (Φ : AK) : Prop := tr Γ M fun ds M1 => f ds M1 Φ
theorem de_callB {id : String} {x : Str} {p : Pos} {r : List V → Hp → VK → Prop} {f : AL} (hc : CallR X (.builtin id) r) (hr : AbL X.K T.B r f) (hg : Gl X x) (hm : X.mg x = none) (hv : bootBuiltins x = some (.builtin id)) (ha : DA X T (e :: es) tr) (hn : x ≠ "__name__" := by decide) (hdb : (x == ("__debug__" : Str)) = false := by decide)
    (he : starEach (e :: es) X.env = (false, eval e X.env) :: starEach es X.env := by rfl) (hpl : (backTo pos (starEach es X.env)).any (·.1) = false := by rfl) : DE X T (.Call (.Name x p) (e :: es) [] pos) (aCB f tr) :=
  de_of (pe_callB hc hg hm hv ha hn hdb he hpl) fun F σ H Γ M Φ Q w q z => cA_mk w q fun ds M1 vs F1 H1 s1 h1 i1 q1 => hr F1 H1 vs ds M1 Φ Q h1 i1 q1 fun d M3 v F3 H3 s3 h3 i3 q3 => z d M3 v F3 H3 (s1.trans s3) h3 i3 q3
theorem de_callTy {id : String} {x : Str} {p : Pos} {r : List V → Hp → VK → Prop} {f : AL} (hc : CallR X (.type id) r) (hr : AbL X.K T.B r f) (hg : Gl X x) (hm : X.mg x = none) (hv : bootBuiltins x = some (.type id)) (ha : DA X T (e :: es) tr) (hn : x ≠ "__name__" := by decide) (hdb : (x == ("__debug__" : Str)) = false := by decide)
    (he : starEach (e :: es) X.env = (false, eval e X.env) :: starEach es X.env := by rfl) (hpl : (backTo pos (starEach es X.env)).any (·.1) = false := by rfl) : DE X T (.Call (.Name x p) (e :: es) [] pos) (aCB f tr) :=
  de_of (pe_callTy hc hg hm hv ha hn hdb he hpl) fun F σ H Γ M Φ Q w q z => cA_mk w q fun ds M1 vs F1 H1 s1 h1 i1 q1 => hr F1 H1 vs ds M1 Φ Q h1 i1 q1 fun d M3 v F3 H3 s3 h3 i3 q3 => z d M3 v F3 H3 (s1.trans s3) h3 i3 q3
end
end DL

set_option Elab.async false
set_option linter.all false
set_option maxRecDepth 100000
set_option maxHeartbeats 2000000
namespace DL
open PySem L2

section
variable {X : Cx} {T : Ct} {e a b c : Expr} {pos : Pos} {K : PySem.W.Frag} {F F' F1 H H' H1 : Hp} {σ : St} {Γ : Gm} {M M' : Mm} {ta tb tc : AE} {tA tB : AT} {es : List Expr} {tr : AA} {B : Bx}
/-! ### statements -/
variable {st : Stmt} {rest sts : List Stmt} {t u : AS}
def aNext (A : AEnds) (Γ : Gm) (M : Mm) : Prop := A.nx Γ M
def aSeq (t u : AS) (A : AEnds) (Γ : Gm) (M : Mm) : Prop := t { A with nx := u A } Γ M
def aBreak (A : AEnds) (Γ : Gm) (M : Mm) : Prop := A.bk Γ M
def aCont (A : AEnds) (Γ : Gm) (M : Mm) : Prop := A.ct Γ M
def aDrop (ta : AE) (A : AEnds) (Γ : Gm) (M : Mm) : Prop := ta Γ M fun _ M1 => A.nx Γ M1
def aRet (ta : AE) (A : AEnds) (Γ : Gm) (M : Mm) : Prop := ta Γ M A.rt
def aRetN (A : AEnds) (Γ : Gm) (M : Mm) : Prop := A.rt .non M
def aIfS (c : AT) (t u : AS) (A : AEnds) (Γ : Gm) (M : Mm) : Prop := c Γ M fun b M1 => (b = true → t A Γ M1) ∧ (b = false → u A Γ M1)
def aNever (A : AEnds) (Γ : Gm) (M : Mm) : Prop := False
def aSet (i : Nat) (ta : AE) (A : AEnds) (Γ : Gm) (M : Mm) : Prop := ta Γ M fun d M1 => A.nx (Γ.set i (some d)) M1
def aPar_k (i : Nat) (j : Nat) (A : AEnds) (Γ : Gm)  (ds : List D) (M1 : Mm) : Prop := match ds with
  | [d, e] => A.nx ((Γ.set i (some d)).set j (some e)) M1
  | _ => False
def aPar (i j : Nat) (tr : AA) (A : AEnds) (Γ : Gm) (M : Mm) : Prop := tr Γ M fun ds M1 => aPar_k i j A Γ ds M1
def aPar3_k (i : Nat) (j : Nat) (l : Nat) (A : AEnds) (Γ : Gm)  (ds : List D) (M1 : Mm) : Prop := match ds with
  | [d, e, f] => A.nx (((Γ.set i (some d)).set j (some e)).set l (some f)) M1
  | _ => False
def aPar3 (i j l : Nat) (tr : AA) (A : AEnds) (Γ : Gm) (M : Mm) : Prop := tr Γ M fun ds M1 => aPar3_k i j l A Γ ds M1
def aAug (i : Nat) (f : A2) (ta : AE) (A : AEnds) (Γ : Gm) (M : Mm) : Prop := onSlot Γ[i]? fun d => ta Γ M fun e M1 => f d e M1 fun g M2 => A.nx (Γ.set i (some g)) M2
/-- something is forgotten or frozen -/
def aGh (t : AS) (A : AEnds) (Γ : Gm) (M : Mm) : Prop := ∃ Γ' M', Fz Γ M Γ' M' ∧ t A Γ' M'

theorem dss_nil : DSs X T [] aNext := dss_of pss_nil fun F σ H Γ M A D w q m => m.nx Γ M σ F H (Same.refl F) w.v w.h q
theorem met_nx {A : AEnds} {D : Ends} {g : Gm → Mm → Prop} {k : St → Hp → Prop} (m : Met K T F A D) (h : ∀ Γ' M' σ' F' H', Same F F' → Vw K F' σ' Γ' → Hs K T.B M' F' H' → g Γ' M' → k σ' H') : Met K T F { A with nx := g } { D with nx := k } := ⟨h, m.rt, m.bk, m.ct⟩
theorem dss_cons (h1 : DS X T st t) (h2 : DSs X T rest u) : DSs X T (st :: rest) (aSeq t u) :=
  dss_of (pss_cons h1 h2) fun F σ H Γ M A D w q m => cS_mk w q (met_nx m fun Γ' M' σ' F' H' s v h q' => cS_mk ⟨v, h, w.l.mono s⟩ q' (m.mono s))
theorem dss_one (h1 : DS X T st t) : DSs X T [st] t := pss_one h1
theorem ds_pass : DS X T (.Pass pos) aNext := ds_of ps_pass fun F σ H Γ M A D w q m => m.nx Γ M σ F H (Same.refl F) w.v w.h q
theorem ds_break : DS X T (.Break pos) aBreak := ds_of ps_break fun F σ H Γ M A D w q m => m.bk Γ M σ F H (Same.refl F) w.v w.h q
theorem ds_continue : DS X T (.Continue pos) aCont := ds_of ps_continue fun F σ H Γ M A D w q m => m.ct Γ M σ F H (Same.refl F) w.v w.h q
theorem ds_never : DS X T st aNever := ds_of ps_never fun F σ H Γ M A D w q m => q
theorem dss_never : DSs X T sts aNever := dss_of pss_never fun F σ H Γ M A D w q m => q
theorem ds_expr (he : DE X T e ta) (hs : swapsWith e none pos.line X.env = pure false := by rfl) : DS X T (.Expr e pos) (aDrop ta) :=
  ds_of (ps_expr he hs) fun F σ H Γ M A D w q m => cE_mk w q fun d M1 v F1 H1 s1 h1 i1 q1 => m.nx Γ M1 σ F1 H1 s1 (w.v.mono s1) h1 q1
theorem ds_ret (he : DE X T e ta) : DS X T (.Return (some e) pos) (aRet ta) :=
  ds_of (ps_ret he) fun F σ H Γ M A D w q m => cE_mk w q fun d M1 v F1 H1 s1 h1 i1 q1 => m.rt d M1 v F1 H1 s1 h1 i1 q1
theorem ds_retN : DS X T (.Return none pos) aRetN := ds_of ps_retN fun F σ H Γ M A D w q m => m.rt .non M .non F H (Same.refl F) w.h .non q
theorem ds_if {p q : List Stmt} (hc : DT X T c tA) (ha : DSs X T p t) (hb : DSs X T q u) : DS X T (.If c p q pos) (aIfS tA t u) :=
  ds_of (ps_if hc ha hb) fun F σ H Γ M A D w q m => cT_mk w q fun b M1 F1 H1 s1 h1 q1 => by
    cases b with
    | true => exact cS_mk (w.go s1 h1) (q1.1 rfl) (m.mono s1)
    | false => exact cS_mk (w.go s1 h1) (q1.2 rfl) (m.mono s1)
theorem ds_set {i : Nat} {x : Str} {pos' : Pos} (hN : X.N.Nodup) (hi : X.N[i]? = some x) (hx : Loc X.env.scope x) (he : DE X T e ta) (hs : swapsWith e (some (.Name x pos')) pos.line X.env = pure false := by rfl) (hf : X.fn x = true ∨ X.env.scope.names.lookup x = some .local := by first | exact .inl rfl | exact .inr rfl | assumption) :
    DS X T (.Assign [.Name x pos'] e pos) (aSet i ta) :=
  ds_of (ps_set hN hi hx he hs hf) fun F σ H Γ M A D w q m => cE_mk w q fun d M1 v F1 H1 s1 h1 i1 q1 => m.nx _ M1 _ F1 H1 s1 ((w.v.mono s1).set i1 i) h1 q1
theorem ds_par {i j : Nat} {x y : Str} {px py pt : Pos} {kt k2 pt2} (hc : X.calm = true) (hN : X.N.Nodup) (hi : X.N[i]? = some x) (hj : X.N[j]? = some y) (hij : i ≠ j)
    (hx : X.env.scope.names.lookup x = some .local) (hy : X.env.scope.names.lookup y = some .local) (ha : DA X T [a, b] tr)
    (hw : swappedStores [.Tuple [.Name x px, .Name y py] kt pt] (.Tuple [a, b] k2 pt2) X.env = pure (some [x, y]) := by rfl)
    (hs : swapsWithSole [.Tuple [.Name x px, .Name y py] kt pt] (.Tuple [a, b] k2 pt2) pos.line X.env = pure false := by rfl) :
    DS X T (.Assign [.Tuple [.Name x px, .Name y py] kt pt] (.Tuple [a, b] k2 pt2) pos) (aPar i j tr) :=
  ds_of (ps_par hc hN hi hj hij hx hy ha hw hs) fun F σ H Γ M A D w q m => cA_mk w q fun ds M1 vs F1 H1 s1 h1 i1 q1 => by
    match ds, i1, q1 with
    | [d, e], .cons k1 (.cons k2 .nil), q1 => exact ⟨_, _, rfl, m.nx _ M1 _ F1 H1 s1 (((w.v.mono s1).set k1 i).set k2 j) h1 q1⟩
    | [], _, q1 => exact q1.elim
    | [_], _, q1 => exact q1.elim
    | _ :: _ :: _ :: _, _, q1 => exact q1.elim
theorem ds_par3 {i j l : Nat} {x y z : Str} {px py pz pt : Pos} {kt k2 pt2} (hc : X.calm = true) (hN : X.N.Nodup) (hi : X.N[i]? = some x) (hj : X.N[j]? = some y) (hl : X.N[l]? = some z) (hij : i ≠ j) (hil : i ≠ l) (hjl : j ≠ l)
    (hx : X.env.scope.names.lookup x = some .local) (hy : X.env.scope.names.lookup y = some .local) (hz : X.env.scope.names.lookup z = some .local) (ha : DA X T [a, b, c] tr)
    (hw : swappedStores [.Tuple [.Name x px, .Name y py, .Name z pz] kt pt] (.Tuple [a, b, c] k2 pt2) X.env = pure (some [x, y, z]) := by rfl)
    (hs : swapsWithSole [.Tuple [.Name x px, .Name y py, .Name z pz] kt pt] (.Tuple [a, b, c] k2 pt2) pos.line X.env = pure false := by rfl) :
    DS X T (.Assign [.Tuple [.Name x px, .Name y py, .Name z pz] kt pt] (.Tuple [a, b, c] k2 pt2) pos) (aPar3 i j l tr) :=
  ds_of (ps_par3 hc hN hi hj hl hij hil hjl hx hy hz ha hw hs) fun F σ H Γ M A D w q m => cA_mk w q fun ds M1 vs F1 H1 s1 h1 i1 q1 => by
    match ds, i1, q1 with
    | [d, e, f], .cons k1 (.cons k2 (.cons k3 .nil)), q1 => exact ⟨_, _, _, rfl, m.nx _ M1 _ F1 H1 s1 ((((w.v.mono s1).set k1 i).set k2 j).set k3 l) h1 q1⟩
    | [], _, q1 => exact q1.elim
    | [_], _, q1 => exact q1.elim
    | [_, _], _, q1 => exact q1.elim
    | _ :: _ :: _ :: _ :: _, _, q1 => exact q1.elim
/-- in-place operators, by values -/
def IpR (X : Cx) (op : Operator) (r : R2) : Prop := PIp X op r
theorem ipr_of {op : Operator} {r : R2} (h : OpR X (inplaceOp op) r) : PIp X op r := fun pins s σ H x y v u Q I rx ry q => h pins s σ H x y v u Q I rx ry q
theorem ds_aug {i : Nat} {x : Str} {op : Operator} {r : R2} {f : A2} {pos' : Pos} (hN : X.N.Nodup) (hi : X.N[i]? = some x) (hx : Loc X.env.scope x) (ho : PIp X op r) (hr : Ab2 X.K T.B r f) (he : DE X T e ta) (hf : X.fn x = true ∨ X.env.scope.names.lookup x = some .local := by first | exact .inl rfl | exact .inr rfl | assumption) :
    DS X T (.AugAssign (.Name x pos') op e pos) (aAug i f ta) :=
  ds_of (ps_aug hN hi hx he ho hf) fun F σ H Γ M A D w q m => by
    unfold aAug onSlot at q
    (first | split at q | (unfold aAsg_k onGm at q; split at q) | (unfold aSetIx_k at q; split at q) | (unfold aItS_k at q; split at q) | (unfold aRng1_k at q; split at q) | (unfold aRng2_k at q; split at q))
    · rename_i d hd
      obtain ⟨x, h1, h2⟩ := w.v.get i d hd
      exact ⟨x, h1, cE_mk w q fun d M1 v F1 H1 s1 h1 i1 q1 => hr F1 H1 _ _ _ _ M1 _ _ h1 (h2.mono s1) i1 q1 fun g M2 v F2 H2 s2 h2 i2 q2 => m.nx _ M2 _ F2 H2 (s1.trans s2) ((w.v.mono (s1.trans s2)).set i2 i) h2 q2⟩
    · exact q.elim
theorem Vw.reread {d0 d1 : D} (v : Vw K F σ Γ) {i : Nat} (hi : Γ[i]? = some (some d0)) (c : ∀ x, Is K F x d0 → Is K F x d1) : Vw K F σ (Γ.set i (some d1)) := by
  have hl : i < Γ.length := (List.getElem?_eq_some_iff.mp hi).1
  refine ⟨by rw [List.length_set]; exact v.len, fun j e hj => ?_⟩
  by_cases hij : i = j
  · subst hij
    rw [List.getElem?_set_self hl] at hj
    cases hj
    obtain ⟨x, h1, h2⟩ := v.get i d0 hi
    exact ⟨x, h1, c x h2⟩
  · rw [List.getElem?_set_ne hij] at hj
    exact v.get j e hj
theorem fz_see (w : See K T F σ H Γ M) {Γ' : Gm} {M' : Mm} (z : Fz Γ M Γ' M') : ∃ F', Same F F' ∧ See K T F' σ H Γ' M' := by
  induction z generalizing F with
  | refl => exact ⟨F, Same.refl F, w⟩
  | lst i hi d _ ih =>
    obtain ⟨F1, s1, h1, i1⟩ := w.h.freeze d
    obtain ⟨F2, s2, w2⟩ := ih ⟨(w.v.mono s1).reread hi fun x h => (by cases h; exact i1), h1, w.l.mono s1⟩
    exact ⟨F2, s1.trans s2, w2⟩
  | ins i hi d _ ih =>
    obtain ⟨F1, s1, h1, i1⟩ := w.h.freezeI d
    obtain ⟨F2, s2, w2⟩ := ih ⟨(w.v.mono s1).reread hi fun x h => (by cases h; exact i1), h1, w.l.mono s1⟩
    exact ⟨F2, s1.trans s2, w2⟩
  | no i _ ih => exact ih ⟨w.v.unset i, w.h, w.l⟩
  | less s _ ih => exact ih ⟨w.v, w.h.less s, w.l⟩
theorem dss_gh (h : DSs X T sts t) : DSs X T sts (aGh t) := dss_of h fun F σ H Γ M A D w q m => by
  obtain ⟨Γ', M', z, q⟩ := q
  obtain ⟨F1, s1, w1⟩ := fz_see w z
  exact cS_mk w1 q (m.mono s1)
theorem ds_gh (h : DS X T st t) : DS X T st (aGh t) := ds_of h fun F σ H Γ M A D w q m => by
  obtain ⟨Γ', M', z, q⟩ := q
  obtain ⟨F1, s1, w1⟩ := fz_see w z
  exact cS_mk w1 q (m.mono s1)

/-! ### targets -/
abbrev AG := D → Gm → Option Gm
abbrev AGs := List D → Gm → Option Gm
def cG (K : PySem.W.Frag) (vs : List Nat) (ag : AG) : TG := fun x σ H Q => ∃ F d Γ Γ', Vw K F σ Γ ∧ Same F H ∧ Is K F x d ∧ ag d Γ = some Γ' ∧ ∀ σ', Vw K F σ' Γ' → (∀ ws, (∀ i ∈ vs, i ∈ ws) → wipe σ' ws = wipe σ ws) → Q σ' H
def cGs (K : PySem.W.Frag) (n : Nat) (vs : List Nat) (ag : AGs) : TGs := fun xs σ H Q => ∃ F ds Γ Γ', Vw K F σ Γ ∧ Same F H ∧ IsL K F xs ds ∧ ag ds Γ = some Γ' ∧ ds.length = n ∧ ∀ σ', Vw K F σ' Γ' → (∀ ws, (∀ i ∈ vs, i ∈ ws) → wipe σ' ws = wipe σ ws) → Q σ' H
def DG (X : Cx) (e : Expr) (vs : List Nat) (ag : AG) : Prop := PG X e (cG X.K vs ag)
def DGs (X : Cx) (es : List Expr) (n : Nat) (vs : List Nat) (ag : AGs) : Prop := PGs X es (cGs X.K n vs ag)
theorem wipe_set {σ : St} {i : Nat} {x : Option V} : ∀ {ws : List Nat}, i ∈ ws → wipe (σ.set i x) ws = wipe σ ws
  | [], h => absurd h (by simp)
  | j :: ws, h => by
    by_cases hi : i ∈ ws
    · show (wipe (σ.set i x) ws).set j none = (wipe σ ws).set j none
      rw [wipe_set hi]
    · have e : i = j := by
        rcases List.mem_cons.mp h with e | h
        · exact e
        · exact absurd h hi
      subst e
      have go : ∀ ws : List Nat, i ∉ ws → wipe (σ.set i x) ws = (wipe σ ws).set i x := by
        intro ws
        induction ws with
        | nil => intro _; rfl
        | cons k ws ih =>
          intro hn
          show (wipe (σ.set i x) ws).set k none = ((wipe σ ws).set k none).set i x
          rw [ih fun h => hn (List.mem_cons_of_mem _ h), List.set_comm _ _ fun e => hn (by rw [e]; exact List.mem_cons_self)]
      show (wipe (σ.set i x) ws).set i none = (wipe σ ws).set i none
      rw [go ws hi, List.set_set]
theorem pg_imp {tg : Expr} {g g' : TG} (h : PG X tg g) (k : ∀ v σ H Q, g' v σ H Q → g v σ H Q) : PG X tg g' := ⟨fun pins s σ H v u Q I r q => h.run pins s σ H v u Q I r (k v σ H Q q)⟩
theorem pgs_imp {tg : List Expr} {g g' : TGs} (h : PGs X tg g) (k : ∀ v σ H Q, g' v σ H Q → g v σ H Q) : PGs X tg g' := ⟨fun pins s σ H v u Q I r q => h.run pins s σ H v u Q I r (k v σ H Q q)⟩
def agName (i : Nat) (d : D) (Γ : Gm) : Option Gm := some (Γ.set i (some d))
theorem dg_name {i : Nat} {x : Str} (hN : X.N.Nodup) (hi : X.N[i]? = some x) (hx : Loc X.env.scope x) (hf : X.fn x = true ∨ X.env.scope.names.lookup x = some .local := by first | exact .inl rfl | exact .inr rfl | assumption) : DG X (.Name x pos) [i] (agName i) :=
  pg_imp (pg_name hN hi hx hf) fun v σ H Q ⟨F, d, Γ, Γ', w, s, i1, e, k⟩ => by
    cases e
    exact k _ (w.set i1 i) fun ws hw => wipe_set (hw i (by simp))
def agNil (ds : List D) (Γ : Gm) : Option Gm := match ds with
  | [] => some Γ
  | _ => none
def agCons (g : AG) (gs : AGs) (ds : List D) (Γ : Gm) : Option Gm := match ds with
  | d :: ds => (g d Γ).bind fun Γ1 => gs ds Γ1
  | [] => none
theorem dgs_nil : DGs X [] 0 [] agNil := pgs_imp pgs_nil fun v σ H Q ⟨F, ds, Γ, Γ', w, s, i1, e, hl, k⟩ => by
  match ds, i1, e with
  | [], .nil, e =>
    cases e
    exact ⟨rfl, k σ w fun _ _ => rfl⟩
theorem dgs_cons {n : Nat} {vs ws : List Nat} {g : AG} {gs : AGs} (h1 : DG X e vs g) (h2 : DGs X es n ws gs)
    (hs : (assignEach (e :: es) X.env).map (·.2) = assign e X.env :: (assignEach es X.env).map (·.2) := by rfl) : DGs X (e :: es) (n + 1) (vs ++ ws) (agCons g gs) :=
  pgs_imp (pgs_cons h1 h2 hs) fun v σ H Q ⟨F, ds, Γ, Γ', w, s, i1, e, hl, k⟩ => by
    match ds, i1, e with
    | d :: ds, .cons k1 k2, e =>
      rename_i v vs' _
      unfold agCons at e
      split at e
      · rename_i d' ds' hds
        cases hds
        cases h1 : g d Γ with
        | some Γ1 =>
          rw [h1] at e
          exact ⟨_, _, rfl, F, d, Γ, Γ1, w, s, k1, h1, fun σ1 w1 e1 => ⟨F, ds, Γ1, Γ', w1, s, k2, e, by simpa using hl, fun σ2 w2 e2 => k σ2 w2 fun zs hz => (e2 zs fun i hi => hz i (List.mem_append_right _ hi)).trans (e1 zs fun i hi => hz i (List.mem_append_left _ hi))⟩⟩
        | none =>
          rw [h1] at e
          cases e
      · cases e
def agTup (gs : AGs) (d : D) (Γ : Gm) : Option Gm := match d with
  | .tup ds => gs ds Γ
  | _ => none
def agLst (gs : AGs) (d : D) (Γ : Gm) : Option Gm := match d with
  | .lst ds => gs ds Γ
  | _ => none
/-- the number of items is told by success -/
def AGs.Fix (gs : AGs) (n : Nat) : Prop := ∀ ds Γ Γ', gs ds Γ = some Γ' → ds.length = n
theorem fix_nil : AGs.Fix agNil 0 := fun ds Γ Γ' h => by
  cases ds with
  | nil => rfl
  | cons _ _ => cases h
theorem fix_cons {g : AG} {gs : AGs} {n : Nat} (h : AGs.Fix gs n) : AGs.Fix (agCons g gs) (n + 1) := fun ds Γ Γ' e => by
  cases ds with
  | nil => cases e
  | cons d ds =>
    unfold agCons at e
    split at e
    · rename_i d' ds' hds
      cases hds
      cases h1 : g d Γ with
      | some Γ1 =>
        rw [h1] at e
        exact congrArg (· + 1) (h ds _ _ e)
      | none =>
        rw [h1] at e
        cases e
    · cases e
theorem dg_tup {k : Nat} {n : Nat} {vs : List Nat} {gs : AGs} (hc : X.calm = true) (h : DGs X es n vs gs) (hfx : AGs.Fix gs n)
    (hn : (assignEach es X.env).length = n := by rfl) (hst : (assignEach es X.env).findIdx? (·.1) = none := by rfl) : DG X (.Tuple es k pos) vs (agTup gs) :=
  pg_imp (pg_tup hc h hn hst) fun v σ H Q ⟨F, d, Γ, Γ', w, s, i1, e, k⟩ => by
    unfold agTup at e
    split at e
    · rename_i ds
      cases i1 with
      | tup hq hl =>
        have hlen := hfx ds Γ Γ' e
        exact ⟨_, _, rfl, same_t s hq, hl.length.trans hlen, F, ds, Γ, Γ', w, s, hl, e, hlen, k⟩
    · cases e
theorem dg_lst {k : Nat} {n : Nat} {vs : List Nat} {gs : AGs} (hc : X.calm = true) (h : DGs X es n vs gs) (hfx : AGs.Fix gs n)
    (hn : (assignEach es X.env).length = n := by rfl) (hst : (assignEach es X.env).findIdx? (·.1) = none := by rfl) : DG X (.Tuple es k pos) vs (agLst gs) :=
  pg_imp (pg_lst hc h hn hst) fun v σ H Q ⟨F, d, Γ, Γ', w, s, i1, e, k⟩ => by
    unfold agLst at e
    split at e
    · rename_i ds
      cases i1 with
      | lst hq hl =>
        have hlen := hfx ds Γ Γ' e
        exact ⟨_, _, rfl, s.seq hq, hl.length.trans hlen, F, ds, Γ, Γ', w, s, hl, e, hlen, k⟩
    · cases e
/-- target = e -/
def onGm (o : Option Gm) (k : Gm → Prop) : Prop := match o with
  | some Γ => k Γ
  | none => False
def aAsg_k (g : AG) (A : AEnds) (Γ : Gm) (d : D) (M1 : Mm) : Prop := onGm (g d Γ) fun Γ' => A.nx Γ' M1
def aAsg (ta : AE) (g : AG) (A : AEnds) (Γ : Gm) (M : Mm) : Prop := ta Γ M fun d M1 => aAsg_k g A Γ d M1
theorem ds_asg {tg : Expr} {vs : List Nat} {g : AG} (he : DE X T e ta) (hg : DG X tg vs g) (hs : swapsWithSole [tg] e pos.line X.env = pure false := by rfl) (hw : swappedStores [tg] e X.env = pure none := by rfl)
    (h1 : (assignEach [tg] X.env).map (·.2) = [assign tg X.env] := by rfl) : DS X T (.Assign [tg] e pos) (aAsg ta g) :=
  ds_of (ps_asg he hg hs hw h1) fun F σ H Γ M A D w q m => cE_mk w q fun d M1 v F1 H1 s1 h1 i1 q1 => by
    (first | split at q1 | (unfold aAsg_k onGm at q1; split at q1) | (unfold aSetIx_k at q1; split at q1) | (unfold aItS_k at q1; split at q1) | (unfold aRng1_k at q1; split at q1) | (unfold aRng2_k at q1; split at q1))
    · rename_i Γ' hg
      exact ⟨F1, d, Γ, Γ', w.v.mono s1, h1.sub, i1, hg, fun σ' w' _ => m.nx Γ' M1 σ' F1 H1 s1 w' h1 q1⟩
    · exact q1.elim
/-- o[i] = e, a mutable list -/
def ixN' (n : Nat) (i : Int) : Option Nat := ixN n i
def aSetIx_k (A : AEnds) (Γ : Gm) (d : D) (o : D) (i : D) (M3 : Mm) : Prop := match o, i with
  | .ref l, .int k => ∃ xs j M4, ixN xs.length k = some j ∧ Up M3 l (.lst xs) (.lst (xs.set j d)) M4 ∧ A.nx Γ M4
  | _, _ => False
def aSetIx (ta to ti : AE) (A : AEnds) (Γ : Gm) (M : Mm) : Prop := ta Γ M fun d M1 => to Γ M1 fun o M2 => ti Γ M2 fun i M3 => aSetIx_k A Γ d o i M3
theorem hs_setL {l : Addr} {xs : List D} {j : Nat} {v : V} {d : D} {M4 : Mm} (h : Hs K B M F H) (i : Is K F v d) (u : Up M l (.lst xs) (.lst (xs.set j d)) M4) : ∃ vs, H l = some (.lst vs) ∧ IsL K F vs xs ∧ Hs K B M4 F (upd H l (.lst (vs.set j v))) := by
  obtain ⟨vs, e, z⟩ := h.lst u.mem
  exact ⟨vs, e, z, h.put u ⟨_, upd_same, z.set i j⟩⟩
theorem ds_setIx {o i : Expr} {to ti : AE} {tpos : Pos} (he : DE X T e ta) (ho : DE X T o to) (hi : DE X T i ti)
    (ha : ∀ v, assign (.Subscript o i tpos) X.env v = (do
      let ov ← holding [v] (eval o X.env)
      let iv ← holding [v, ov] (eval i X.env)
      standAt tpos
      holding [v, ov, iv] (setItem ov iv v)
      release [v, ov, iv] []) := by intro _; rfl)
    (hs : swapsWithSole [.Subscript o i tpos] e pos.line X.env = pure false := by rfl) (hw : swappedStores [.Subscript o i tpos] e X.env = pure none := by rfl)
    (h1 : (assignEach [.Subscript o i tpos] X.env).map (·.2) = [assign (.Subscript o i tpos) X.env] := by rfl) : DS X T (.Assign [.Subscript o i tpos] e pos) (aSetIx ta to ti) :=
  ds_of (ps_asg he (pg_sub ho hi set_list ha) hs hw h1) fun F σ H Γ M A D w q m => cE_mk w q fun d M1 v F1 H1 s1 h1 i1 q1 => cE_mk (w.go s1 h1) q1 fun o M2 ov F2 H2 s2 h2 i2 q2 => cE_mk ((w.go s1 h1).go s2 h2) q2 fun k M3 kv F3 H3 s3 h3 i3 q3 => by
    (first | split at q3 | (unfold aAsg_k onGm at q3; split at q3) | (unfold aSetIx_k at q3; split at q3) | (unfold aItS_k at q3; split at q3) | (unfold aRng1_k at q3; split at q3) | (unfold aRng2_k at q3; split at q3))
    · rename_i l k
      obtain ⟨xs, j, M4, e1, u, q3⟩ := q3
      cases i2
      cases i3
      obtain ⟨vs, e2, z, h4⟩ := hs_setL h3 (i1.mono (s2.trans s3)) u
      exact ⟨l, vs, k, j, rfl, rfl, e2, by rw [z.length]; exact e1, m.nx Γ M4 σ F3 _ ((s1.trans s2).trans s3) (w.v.mono ((s1.trans s2).trans s3)) h4 q3⟩
    · exact q3.elim

/-! ### while -/
def aWhile (t : AT) (tb : AS) (A : AEnds) (Γ : Gm) (M : Mm) : Prop := ∃ I : Nat → Gm → Mm → Prop, (∃ n, I n Γ M) ∧ ∀ n Γ' M', I n Γ' M' → t Γ' M' fun b M1 => (b = true → tb { nx := fun Γ2 M2 => ∃ m, m < n ∧ I m Γ2 M2, rt := A.rt, bk := A.nx, ct := fun Γ2 M2 => ∃ m, m < n ∧ I m Γ2 M2 } Γ' M1) ∧ (b = false → A.nx Γ' M1)
theorem ds_while {body : List Stmt} {tb : AS} (hp : PassesOwn (model X.prog X.w) X.A X.env X.xe) (hc : DT X T c tA) (hb : DSs X T body tb) : DS X T (.While c body [] pos) (aWhile tA tb) :=
  ds_of (ps_while hp hc hb) fun F σ H Γ M A D w q m => by
    obtain ⟨I, ⟨n, i0⟩, turn⟩ := q
    refine ⟨fun n σ' H' => ∃ F' Γ' M', Same F F' ∧ Vw X.K F' σ' Γ' ∧ Hs X.K T.B M' F' H' ∧ I n Γ' M', ⟨n, F, Γ, M, Same.refl F, w.v, w.h, i0⟩, ?_⟩
    rintro n σ' H' ⟨F', Γ', M', s', v', h', i'⟩
    have w' : See X.K T F' σ' H' Γ' M' := ⟨v', h', w.l.mono s'⟩
    refine cT_mk w' (turn n Γ' M' i') fun b M1 F1 H1 s1 h1 q1 => ?_
    cases b with
    | true =>
      rw [if_pos rfl]
      refine ⟨fun σ2 H2 => ∃ m, m < n ∧ ∃ F' Γ' M', Same F F' ∧ Vw X.K F' σ2 Γ' ∧ Hs X.K T.B M' F' H2 ∧ I m Γ' M', fun σ2 H2 z => z, ?_⟩
      refine cS_mk (w'.go s1 h1) (q1.1 rfl) ⟨fun Γ2 M2 σ2 F2 H2 s2 v2 h2 ⟨m, hm, im⟩ => ⟨m, hm, F2, Γ2, M2, (s'.trans s1).trans s2, v2, h2, im⟩, fun d M2 v F2 H2 s2 => m.rt d M2 v F2 H2 ((s'.trans s1).trans s2), fun Γ2 M2 σ2 F2 H2 s2 => m.nx Γ2 M2 σ2 F2 H2 ((s'.trans s1).trans s2), fun Γ2 M2 σ2 F2 H2 s2 v2 h2 ⟨m, hm, im⟩ => ⟨m, hm, F2, Γ2, M2, (s'.trans s1).trans s2, v2, h2, im⟩⟩
    | false =>
      rw [if_neg Bool.false_ne_true]
      exact m.nx Γ' M1 σ' F1 H1 (s'.trans s1) (v'.mono s1) h1 (q1.2 rfl)

/-! ### what is walked -/
def Walks (K : PySem.W.Frag) (B : Bx) (J : It) (F : Hp) (ds : List D) : Prop := ∀ i F' H' M', Same F F' → Hs K B M' F' H' → i ≤ ds.length →
  (∀ d, ds[i]? = some d → J.go i H' ∧ ∀ x H'', J.yld i H' x H'' → ∃ F'', Same F' F'' ∧ Hs K B M' F'' H'' ∧ Is K F'' x d) ∧ (i = ds.length → J.stop i H')
abbrev AI := Gm → Mm → (List D → Mm → Prop) → Prop
def cI (K : PySem.W.Frag) (T : Ct) (ai : AI) : TI := fun σ H R => ∃ F Γ M Φ, See K T F σ H Γ M ∧ ai Γ M Φ ∧ ∀ ds M' J F' H', Same F F' → Hs K T.B M' F' H' → Walks K T.B J F' ds → Φ ds M' → R J H'
def DI (X : Cx) (T : Ct) (tg e : Expr) (ai : AI) : Prop := PI X tg e (cI X.K T ai)
theorem di_of {tg e : Expr} {wi : TI} {ai : AI} (h : PI X tg e wi) (k : ∀ F σ H Γ M Φ R, See X.K T F σ H Γ M → ai Γ M Φ → (∀ ds M' J F' H', Same F F' → Hs X.K T.B M' F' H' → Walks X.K T.B J F' ds → Φ ds M' → R J H') → wi σ H R) : DI X T tg e ai :=
  ⟨fun pins s σ H R I ⟨F, Γ, M, Φ, w, q, z⟩ => h.run pins s σ H R I (k F σ H Γ M Φ R w q z)⟩
theorem walks_list {l : Addr} {vs : List V} {ds : List D} (h : SqL K F l vs) (z : IsL K F vs ds) : Walks K B (Itl K l) F ds := fun i F' H' M' s h' hi =>
  have q : SqL K H' l vs := h'.sub.seq (s.seq h)
  ⟨fun d hd => by
    obtain ⟨v, e, iv⟩ := z.get hd
    exact ⟨⟨vs, v, q, e⟩, fun x H'' y => by
      obtain ⟨e1, y⟩ := y
      subst e1
      have ex : x = v := Option.some.inj ((y vs q).symm.trans e)
      subst ex
      exact ⟨F', Same.refl F', h', iv.mono s⟩⟩, fun e => ⟨vs, q, by rw [z.length, e]; exact Nat.le_refl _⟩⟩
theorem walks_tup {l : Addr} {vs : List V} {ds : List D} (h : SqT K F l vs) (z : IsL K F vs ds) : Walks K B (Itt K l) F ds := fun i F' H' M' s h' hi =>
  have q : SqT K H' l vs := same_t h'.sub (same_t s h)
  ⟨fun d hd => by
    obtain ⟨v, e, iv⟩ := z.get hd
    exact ⟨⟨vs, v, q, e⟩, fun x H'' y => by
      obtain ⟨e1, y⟩ := y
      subst e1
      have ex : x = v := Option.some.inj ((y vs q).symm.trans e)
      subst ex
      exact ⟨F', Same.refl F', h', iv.mono s⟩⟩, fun e => ⟨vs, q, by rw [z.length, e]; exact Nat.le_refl _⟩⟩
def rngD (lo : Int) (n : Nat) : List D := (List.range n).map fun i => .int (lo + (i : Nat))
theorem rngD_len (lo : Int) (n : Nat) : (rngD lo n).length = n := by unfold rngD; rw [List.length_map, List.length_range]
theorem rngD_get {lo : Int} {n i : Nat} {d : D} (h : (rngD lo n)[i]? = some d) : i < n ∧ d = .int (lo + (i : Nat)) := by
  unfold rngD at h
  rw [List.getElem?_map] at h
  by_cases hi : i < n
  · rw [List.getElem?_range hi] at h
    cases h
    exact ⟨hi, rfl⟩
  · rw [List.getElem?_eq_none (by rw [List.length_range]; omega)] at h
    cases h
theorem walks_rng {lo : Int} {n : Nat} : Walks K B (Itr lo n) F (rngD lo n) := fun i F' H' M' s h' hi =>
  ⟨fun d hd => by
    obtain ⟨h1, rfl⟩ := rngD_get hd
    exact ⟨h1, fun x H'' y => by
      obtain ⟨e1, e2⟩ := y
      subst e1 e2
      exact ⟨F', Same.refl F', h', .int _⟩⟩, fun e => by
    rw [rngD_len] at e
    subst e
    exact Nat.le_refl _⟩
/-- a list or a tuple -/
def aItS_k (Φ : List D → Mm → Prop)  (d : D) (M1 : Mm) : Prop := match d with
  | .lst ds => Φ ds M1
  | .tup ds => Φ ds M1
  | _ => False
def aItS (ta : AE) (Γ : Gm) (M : Mm) (Φ : List D → Mm → Prop) : Prop := ta Γ M fun d M1 => aItS_k Φ d M1
theorem pi_or {tg e : Expr} {w1 w2 : TI} (h1 : PI X tg e w1) (h2 : PI X tg e w2) : PI X tg e (fun σ H R => w1 σ H R ∨ w2 σ H R) := ⟨fun pins s σ H R I q => q.elim (h1.run pins s σ H R I) (h2.run pins s σ H R I)⟩
/-- an expression that is a list or a tuple, walked -/
def tEither (K : PySem.W.Frag) (te : TE) : TI := fun σ H R => te σ H fun x H1 => ∃ a, x = .ref a ∧ (((∃ xs, SqL K H1 a xs) ∧ R (Itl K a) H1) ∨ ((∃ xs, SqT K H1 a xs) ∧ R (Itt K a) H1))
theorem pi_either {tg e : Expr} {te : TE} (he : PE X e te) : PI X tg e (tEither X.K te) := by
  refine ⟨fun pins s σ H R I h => ?_⟩
  refine thn (he.run pins s σ H _ I h) fun v s1 ⟨x, H1, I1, r1, q1⟩ => ?_
  obtain ⟨a, e, q⟩ := q1
  subst e
  cases r1
  rcases q with ⟨⟨xs, hq⟩, q⟩ | ⟨⟨xs, hq⟩, q⟩
  · obtain ⟨its, rv, p, hz⟩ := I1.list hq
    refine wpAny_pyIter_list p.isList ?_
    refine ⟨s1.heap.objs.size, [s1.heap.objs.size], _, _, H1, rfl, I1.kept (t' := s1.toks) fun b o e => Heap.get?_push_of_some _ e, turn_list a _, ⟨_, Heap.get?_push_size _ rfl, rfl, rfl⟩, fun b hb => ?_, q⟩
    have e : b = s1.heap.objs.size := by simpa using hb
    subst e
    exact I1.fpOk (Nat.le_refl _) (I1.hok.fresh (Nat.le_refl _))
  · obtain ⟨its, rv, p, hz⟩ := I1.tuple hq
    refine wpAny_pyIter_tuple (show s1.heap.IsTuple a its.toArray from p) ?_
    refine ⟨s1.heap.objs.size, [s1.heap.objs.size], _, _, H1, rfl, I1.kept (t' := s1.toks) fun b o e => Heap.get?_push_of_some _ e, turn_tuple a _, ⟨_, Heap.get?_push_size _ rfl, rfl, rfl⟩, fun b hb => ?_, q⟩
    have e : b = s1.heap.objs.size := by simpa using hb
    subst e
    exact I1.fpOk (Nat.le_refl _) (I1.hok.fresh (Nat.le_refl _))
theorem di_seq {tg : Expr} (h : DE X T e ta) : DI X T tg e (aItS ta) :=
  di_of (pi_either h) fun F σ H Γ M Φ R w q z => cE_mk w q fun d M1 x F1 H1 s1 h1 i1 q1 => by
    cases d with
    | lst ds =>
      cases i1 with
      | lst hq hl => exact ⟨_, rfl, .inl ⟨⟨_, h1.sub.seq hq⟩, z ds M1 _ F1 H1 s1 h1 (walks_list hq hl) q1⟩⟩
    | tup ds =>
      cases i1 with
      | tup hq hl => exact ⟨_, rfl, .inr ⟨⟨_, same_t h1.sub hq⟩, z ds M1 _ F1 H1 s1 h1 (walks_tup hq hl) q1⟩⟩
    | _ => exact q1.elim
def aRng1_k (Φ : List D → Mm → Prop)  (ds : List D) (M1 : Mm) : Prop := match ds with
  | [.int j] => (-4611686018427387904 ≤ j ∧ j < 4611686018427387904) ∧ Φ (rngD 0 j.toNat) M1
  | _ => False
def aRng1 (tr : AA) (Γ : Gm) (M : Mm) (Φ : List D → Mm → Prop) : Prop := tr Γ M fun ds M1 => aRng1_k Φ ds M1
def aRng2_k (Φ : List D → Mm → Prop)  (ds : List D) (M1 : Mm) : Prop := match ds with
  | [.int i, .int j] => (-4611686018427387904 ≤ i ∧ i < 4611686018427387904 ∧ -4611686018427387904 ≤ j ∧ j < 4611686018427387904) ∧ Φ (rngD i (j - i).toNat) M1
  | _ => False
def aRng2 (tr : AA) (Γ : Gm) (M : Mm) (Φ : List D → Mm → Prop) : Prop := tr Γ M fun ds M1 => aRng2_k Φ ds M1
theorem di_rng2 {tg a b : Expr} {p : Pos} (hg : Gl X "range") (hm : X.mg "range" = none) (ha : DA X T [a, b] tr) (hs : starEach [a, b] X.env = [(false, eval a X.env), (false, eval b X.env)] := by rfl) (hs2 : starEach [b] X.env = [(false, eval b X.env)] := by rfl) :
    DI X T tg (.Call (.Name "range" p) [a, b] [] pos) (aRng2 tr) :=
  di_of (pi_range2 hg hm ha hs hs2) fun F σ H Γ M Φ R w q z => cA_mk w q fun ds M1 vs F1 H1 s1 h1 i1 q1 => by
    match ds, i1, q1 with
    | [.int i, .int j], .cons k1 (.cons k2 .nil), q1 =>
      cases k1
      cases k2
      exact ⟨i, j, rfl, by obtain ⟨⟨q1, q2, q3, q4⟩, _⟩ := q1; exact ⟨by omega, by omega, by omega, by omega⟩, z _ M1 _ F1 H1 s1 h1 walks_rng q1.2⟩
theorem di_rng1 {tg a : Expr} {p : Pos} (hg : Gl X "range") (hm : X.mg "range" = none) (ha : DA X T [a] tr) (hs : starEach [a] X.env = [(false, eval a X.env)] := by rfl) :
    DI X T tg (.Call (.Name "range" p) [a] [] pos) (aRng1 tr) :=
  di_of (pi_range1 hg hm ha hs) fun F σ H Γ M Φ R w q z => cA_mk w q fun ds M1 vs F1 H1 s1 h1 i1 q1 => by
    match ds, i1, q1 with
    | [.int j], .cons k1 .nil, q1 =>
      cases k1
      exact ⟨j, rfl, by have := q1.1; omega, by have := q1.1; omega, z _ M1 _ F1 H1 s1 h1 walks_rng q1.2⟩

end
end DL

set_option Elab.async false
set_option linter.all false
set_option maxRecDepth 100000
set_option maxHeartbeats 2000000
namespace DL
open PySem L2
open RZ (ItzT pi_zipA)

section
variable {X : Cx} {T : Ct} {e a b c : Expr} {pos : Pos} {K : PySem.W.Frag} {F F' F1 H H' H1 : Hp} {σ : St} {Γ : Gm} {M M' : Mm} {ta tb tc : AE} {tA tB : AT} {es : List Expr} {tr : AA} {B : Bx} {st : Stmt} {rest sts : List Stmt} {t u : AS}
/-- new pairs -/
theorem walks_pair {J : It} {G : Hp → Prop} {xs ys : Nat → Option V} {ds : List D} (w : Walk J ds.length G (YPair xs ys)) (hG : ∀ F' M' H', Same F F' → Hs K B M' F' H' → G H')
    (hd : ∀ (i : Nat) d, ds[i]? = some d → ∃ p q, d = .tup [p, q] ∧ ∀ x y, xs i = some x → ys i = some y → Is K F x p ∧ Is K F y q) : Walks K B J F ds := fun i F' H' M' s h' hi =>
  have g := hG F' M' H' s h'
  ⟨fun d hdd => by
    have hlt : i < ds.length := (List.getElem?_eq_some_iff.mp hdd).1
    obtain ⟨p, q, rfl, hpq⟩ := hd i d hdd
    refine ⟨w.goes i H' hlt g, fun x H'' y => ?_⟩
    obtain ⟨T, x1, y1, rfl, hT, rfl, e1, e2⟩ := w.yields i H' x H'' hlt g y
    obtain ⟨i1, i2⟩ := hpq x1 y1 e1 e2
    have nT := h'.free hT
    exact ⟨_, upd_same_ext nT, h'.laid hT, .tup (.inl (.inl upd_same)) (.cons ((i1.mono s).mono (upd_same_ext nT)) (.cons ((i2.mono s).mono (upd_same_ext nT)) .nil))⟩, fun e => by
    subst e
    exact w.stops H' g⟩
def enumD (ds : List D) : List D := (List.range ds.length).zipWith (fun i d => .tup [.int (i : Nat), d]) ds
theorem enumD_len (ds : List D) : (enumD ds).length = ds.length := by unfold enumD; rw [List.length_zipWith, List.length_range, Nat.min_self]
theorem enumD_get {ds : List D} {i : Nat} {d : D} (h : (enumD ds)[i]? = some d) : ∃ x, ds[i]? = some x ∧ d = .tup [.int (i : Nat), x] := by
  unfold enumD at h
  rw [List.getElem?_zipWith] at h
  by_cases hi : i < ds.length
  · rw [List.getElem?_range hi, List.getElem?_eq_getElem hi] at h
    exact ⟨ds[i], List.getElem?_eq_getElem hi, (Option.some.inj h).symm⟩
  · rw [List.getElem?_eq_none (by rw [List.length_range]; omega)] at h
    simp at h
theorem walks_enum {l : Addr} {vs : List V} {ds : List D} (h : SqL K F l vs) (z : IsL K F vs ds) : Walks K B (Ite K l) F (enumD ds) := by
  have w := walk_enum (K := K) (a := l) (xs := vs)
  rw [z.length, ← enumD_len ds] at w
  refine walks_pair w (fun F' M' H' s h' => h'.sub.seq (s.seq h)) fun i d hd => ?_
  obtain ⟨x, hx, rfl⟩ := enumD_get hd
  refine ⟨_, _, rfl, fun p q hp hq => ?_⟩
  cases hp
  obtain ⟨v, e, iv⟩ := z.get hx
  rw [show vs[i]? = some q from hq] at e
  cases e
  exact ⟨.int _, iv⟩
def aEnum_k (Φ : List D → Mm → Prop)  (ds : List D) (M1 : Mm) : Prop := match ds with
  | [.lst xs] => Φ (enumD xs) M1
  | _ => False
def aEnum (tr : AA) (Γ : Gm) (M : Mm) (Φ : List D → Mm → Prop) : Prop := tr Γ M fun ds M1 => aEnum_k Φ ds M1
theorem di_enum {p tpos : Pos} {elts : List Expr} {kk : Nat} (hg : Gl X "enumerate") (hm : X.mg "enumerate" = none) (ha : DA X T [e] tr) (hs : starEach [e] X.env = [(false, eval e X.env)] := by rfl) :
    DI X T (.Tuple elts kk tpos) (.Call (.Name "enumerate" p) [e] [] pos) (aEnum tr) :=
  di_of (pi_enum hg hm ha hs) fun F σ H Γ M Φ R w q z => cA_mk w q fun ds M1 vs F1 H1 s1 h1 i1 q1 => by
    match ds, i1, q1 with
    | [.lst xs], .cons k1 .nil, q1 =>
      cases k1 with
      | lst hq hl => exact ⟨_, _, rfl, h1.sub.seq hq, z _ M1 _ F1 H1 s1 h1 (walks_enum hq hl) q1⟩
def zipD (xs ys : List D) : List D := xs.zipWith (fun x y => .tup [x, y]) ys
theorem zipD_get {xs ys : List D} {i : Nat} {d : D} (h : (zipD xs ys)[i]? = some d) : ∃ x y, xs[i]? = some x ∧ ys[i]? = some y ∧ d = .tup [x, y] := by
  unfold zipD at h
  rw [List.getElem?_zipWith] at h
  split at h
  · rename_i x y hx hy
    exact ⟨x, y, hx, hy, (Option.some.inj h).symm⟩
  · cases h
theorem walks_zipL {l m : Addr} {vs ws : List V} {xs ys : List D} (h : SqL K F l vs) (z : IsL K F vs xs) (h2 : SqL K F m ws) (z2 : IsL K F ws ys) : Walks K B (Itz K l m) F (zipD xs ys) := by
  have w := walk_zip (K := K) (a := l) (b := m) (xs := vs) (ys := ws) (n := (zipD xs ys).length) (by unfold zipD; rw [List.length_zipWith, z.length, z2.length])
  refine walks_pair w (fun F' M' H' s h' => ⟨h'.sub.seq (s.seq h), h'.sub.seq (s.seq h2)⟩) fun i d hd => ?_
  obtain ⟨x, y, hx, hy, rfl⟩ := zipD_get hd
  refine ⟨_, _, rfl, fun p q hp hq => ?_⟩
  obtain ⟨v, e, iv⟩ := z.get hx
  obtain ⟨v', e', iv'⟩ := z2.get hy
  rw [show vs[i]? = some p from hp] at e
  rw [show ws[i]? = some q from hq] at e'
  cases e
  cases e'
  exact ⟨iv, iv'⟩
theorem walk_zipT' {a b : Addr} {xs ys : List V} {n : Nat} (hn : n = min xs.length ys.length) : Walk (ItzT K a b) n (fun H => SqT K H a xs ∧ SqT K H b ys) (YPair (fun i => xs[i]?) (fun i => ys[i]?)) := by
  subst hn
  refine ⟨fun i _ hi q => ?_, fun _ q => ⟨xs, ys, q.1, q.2, by omega⟩, fun i H v H' _ q y => ?_⟩
  · have h1 : i < xs.length := by omega
    have h2 : i < ys.length := by omega
    exact ⟨xs, ys, xs[i], ys[i], q.1, q.2, by simp [h1], by simp [h2]⟩
  · obtain ⟨T, x, z, h1, h2, h3, h4, h5⟩ := y
    exact ⟨T, x, z, h1, h2, h3, h4 xs q.1, h5 ys q.2⟩
theorem walks_zipT {l m : Addr} {vs ws : List V} {xs ys : List D} (h : SqT K F l vs) (z : IsL K F vs xs) (h2 : SqT K F m ws) (z2 : IsL K F ws ys) : Walks K B (ItzT K l m) F (zipD xs ys) := by
  have w := walk_zipT' (K := K) (a := l) (b := m) (xs := vs) (ys := ws) (n := (zipD xs ys).length) (by unfold zipD; rw [List.length_zipWith, z.length, z2.length])
  refine walks_pair w (fun F' M' H' s h' => ⟨same_t h'.sub (same_t s h), same_t h'.sub (same_t s h2)⟩) fun i d hd => ?_
  obtain ⟨x, y, hx, hy, rfl⟩ := zipD_get hd
  refine ⟨_, _, rfl, fun p q hp hq => ?_⟩
  obtain ⟨v, e, iv⟩ := z.get hx
  obtain ⟨v', e', iv'⟩ := z2.get hy
  rw [show vs[i]? = some p from hp] at e
  rw [show ws[i]? = some q from hq] at e'
  cases e
  cases e'
  exact ⟨iv, iv'⟩
def aZip_k (Φ : List D → Mm → Prop)  (ds : List D) (M1 : Mm) : Prop := match ds with
  | [.lst xs, .lst ys] => Φ (zipD xs ys) M1
  | [.tup xs, .tup ys] => Φ (zipD xs ys) M1
  | _ => False
def aZip (tr : AA) (Γ : Gm) (M : Mm) (Φ : List D → Mm → Prop) : Prop := tr Γ M fun ds M1 => aZip_k Φ ds M1
theorem di_zip {e2 : Expr} {p tpos : Pos} {elts : List Expr} {kk : Nat} (hg : Gl X "zip") (hm : X.mg "zip" = none) (ha : DA X T [e, e2] tr)
    (hs : starEach [e, e2] X.env = (false, eval e X.env) :: starEach [e2] X.env := by rfl) (hpl : (backTo pos (starEach [e2] X.env)).any (·.1) = false := by rfl) :
    DI X T (.Tuple elts kk tpos) (.Call (.Name "zip" p) [e, e2] [] pos) (aZip tr) :=
  di_of (pi_zipA hg hm ha hs hpl) fun F σ H Γ M Φ R w q z => cA_mk w q fun ds M1 vs F1 H1 s1 h1 i1 q1 => by
    match ds, i1, q1 with
    | [.lst xs, .lst ys], .cons k1 (.cons k2 .nil), q1 =>
      cases k1 with
      | lst hq hl =>
        cases k2 with
        | lst hq2 hl2 => exact ⟨_, _, _, _, rfl, .inl ⟨h1.sub.seq hq, h1.sub.seq hq2, z _ M1 _ F1 H1 s1 h1 (walks_zipL hq hl hq2 hl2) q1⟩⟩
    | [.tup xs, .tup ys], .cons k1 (.cons k2 .nil), q1 =>
      cases k1 with
      | tup hq hl =>
        cases k2 with
        | tup hq2 hl2 => exact ⟨_, _, _, _, rfl, .inr ⟨same_t h1.sub hq, same_t h1.sub hq2, z _ M1 _ F1 H1 s1 h1 (walks_zipT hq hl hq2 hl2) q1⟩⟩

/-! ### for -/
def aFor (ai : AI) (g : AG) (tb : AS) (A : AEnds) (Γ : Gm) (M : Mm) : Prop := ai Γ M fun ds M1 => ∃ I : Nat → Gm → Mm → Prop, I 0 Γ M1 ∧
  (∀ i d Γ' M', ds[i]? = some d → I i Γ' M' → match g d Γ' with
    | some Γ2 => tb { nx := I (i + 1), rt := A.rt, bk := A.nx, ct := I (i + 1) } Γ2 M'
    | none => False) ∧
  ∀ Γ' M', I ds.length Γ' M' → A.nx Γ' M'
theorem ds_for {tg iter : Expr} {body : List Stmt} {ai : AI} {vs : List Nat} {g : AG} {tb : AS} (hp : PassesOwn (model X.prog X.w) X.A X.env X.xe) (hc : X.calm = true) (hi : DI X T tg iter ai) (hg : DG X tg vs g) (hb : DSs X T body tb)
    (hs : ∀ x, foldedSetIterable iter X.env x = pure x := by intro _; rfl) : DS X T (.For tg iter body [] pos) (aFor ai g tb) :=
  ds_of (ps_for hp hc hi hg hb hs) fun F σ H Γ M A D w q m => ⟨F, Γ, M, _, w, q, fun ds M1 J F1 H1 s1 h1 wk q1 => by
    obtain ⟨I, i0, turn, fin⟩ := q1
    refine ⟨fun i n σ' H' => n = ds.length - i ∧ i ≤ ds.length ∧ ∃ F' Γ' M', Same F1 F' ∧ Vw X.K F' σ' Γ' ∧ Hs X.K T.B M' F' H' ∧ I i Γ' M', ⟨ds.length, by simp, Nat.zero_le _, F1, Γ, M1, Same.refl F1, w.v.mono s1, h1, i0⟩, ?_⟩
    rintro i n σ' H' ⟨rfl, hi, F', Γ', M', s', v', h', i'⟩
    obtain ⟨go, stop⟩ := wk i F' H' M' s' h' hi
    by_cases hlt : i < ds.length
    · obtain ⟨g1, g2⟩ := go ds[i] (List.getElem?_eq_getElem hlt)
      refine .inr ⟨g1, fun σ2 H2 => ∃ F' Γ' M', Same F1 F' ∧ Vw X.K F' σ2 Γ' ∧ Hs X.K T.B M' F' H2 ∧ I (i + 1) Γ' M', fun σ2 H2 z => ⟨ds.length - (i + 1), by omega, rfl, hlt, z⟩, fun x H2 y => ?_⟩
      obtain ⟨F2, s2, h2, ix⟩ := g2 x H2 y
      have t := turn i ds[i] Γ' M' (List.getElem?_eq_getElem hlt) i'
      split at t
      · rename_i Γ2 hg2
        refine ⟨F2, ds[i], Γ', Γ2, v'.mono s2, h2.sub, ix, hg2, fun σ3 v3 _ => cS_mk (T := T) ⟨v3, h2, w.l.mono ((s1.trans s').trans s2)⟩ t ⟨?_, ?_, ?_, ?_⟩⟩
        · exact fun Γ4 M4 σ4 F4 H4 s4 v4 h4 q4 => ⟨F4, Γ4, M4, (s'.trans s2).trans s4, v4, h4, q4⟩
        · exact fun d M4 v F4 H4 s4 => m.rt d M4 v F4 H4 (((s1.trans s').trans s2).trans s4)
        · exact fun Γ4 M4 σ4 F4 H4 s4 => m.nx Γ4 M4 σ4 F4 H4 (((s1.trans s').trans s2).trans s4)
        · exact fun Γ4 M4 σ4 F4 H4 s4 v4 h4 q4 => ⟨F4, Γ4, M4, (s'.trans s2).trans s4, v4, h4, q4⟩
      · exact t.elim
    · have e : i = ds.length := by omega
      subst e
      exact .inl ⟨stop rfl, m.nx Γ' M' σ' F' H' (s1.trans s') v' h' (fin Γ' M' i')⟩⟩

/-! ### list comprehensions -/
def aYes (Γ : Gm) (M : Mm) (Φ : Bool → Mm → Prop) : Prop := Φ true M
/-- ai: the source; g: the target; l: the list under way, seen as one more mutable object -/
def aLc (ai : AI) (g : AG) (tt : AT) (te : AE) (vs : List Nat) (Γ : Gm) (M : Mm) (Φ : AK) : Prop := ai Γ M fun ds M1 => ds.length ≤ 100000 ∧ ∃ I : Nat → List D → Mm → Prop, I 0 [] M1 ∧
  (∀ i d acc M' l, ds[i]? = some d → I i acc M' → match g d (wipeG Γ vs) with
    | some Γ2 => tt Γ2 ((l, .lst acc) :: M') fun b M2 => (b = true → te Γ2 M2 fun y M3 => ∃ M4, Dl M3 l (.lst acc) M4 ∧ I (i + 1) (acc ++ [y]) M4) ∧ (b = false → ∃ M4, Dl M2 l (.lst acc) M4 ∧ I (i + 1) acc M4)
    | none => False) ∧
  ∀ acc M', I ds.length acc M' → acc.length ≤ ds.length → Φ (.lst acc) M'
theorem Hs.redo {a : Addr} {o o' : MO} {u : HO} {M4 : Mm} (h : Hs K B M F H) (d : Dl M a o M4) (m : MOk K F (upd H a u) a o') : Hs K B ((a, o') :: M4) F (upd H a u) := by
  obtain ⟨m1, m2, m3⟩ := h.mem _ d.mem
  have ne := d.ne h.nd
  refine ⟨fun b v q => ?_, fun q hq => ?_, ?_, box_upd m2 h.box, h.bfr, h.nt⟩
  · rw [upd_ne (ne_of_none q m1)]
    exact h.sub b v q
  · rcases List.mem_cons.mp hq with e | hq
    · subst e
      exact ⟨m1, m2, m⟩
    · obtain ⟨k1, k2, k3⟩ := h.mem q (d.sub.subset hq)
      exact ⟨k1, k2, k3.at (upd_ne (ne q hq))⟩
  · rw [List.map_cons, List.nodup_cons]
    refine ⟨fun hm => ?_, h.nd.sublist (d.sub.map _)⟩
    obtain ⟨q, hq, e⟩ := List.mem_map.mp hm
    exact ne q hq e
theorem Hs.front {a : Addr} {o : MO} {M4 : Mm} (h : Hs K B M F H) (d : Dl M a o M4) : Hs K B ((a, o) :: M4) F H := by
  have ne := d.ne h.nd
  refine ⟨h.sub, fun q hq => ?_, ?_, h.box, h.bfr, h.nt⟩
  · rcases List.mem_cons.mp hq with e | hq
    · subst e
      exact h.mem _ d.mem
    · exact h.mem q (d.sub.subset hq)
  · rw [List.map_cons, List.nodup_cons]
    refine ⟨fun hm => ?_, h.nd.sublist (d.sub.map _)⟩
    obtain ⟨q, hq, e⟩ := List.mem_map.mp hm
    exact ne q hq e
theorem wipe_set_out {σ : St} {i : Nat} {x : Option V} : ∀ ws : List Nat, i ∉ ws → wipe (σ.set i x) ws = (wipe σ ws).set i x
  | [], _ => rfl
  | k :: ws, hn => by
    show (wipe (σ.set i x) ws).set k none = ((wipe σ ws).set k none).set i x
    rw [wipe_set_out ws fun h => hn (List.mem_cons_of_mem _ h), List.set_comm _ _ fun e => hn (by rw [e]; exact List.mem_cons_self)]
theorem wipe_sub {σ : St} {ws : List Nat} : ∀ {vs : List Nat}, (∀ i ∈ vs, i ∈ ws) → wipe (wipe σ vs) ws = wipe σ ws
  | [], _ => rfl
  | i :: vs, h => by
    show wipe ((wipe σ vs).set i none) ws = wipe σ ws
    rw [wipe_set (h i (by simp)), wipe_sub fun j hj => h j (List.mem_cons_of_mem _ hj)]
theorem lc_go {ai : AI} {vs ws : List Nat} {g : AG} {tt : AT} {te : AE} {T' : Ct} {Q : VK} {Φ : AK} (hT : T'.B = T.B) (hl : ∀ F, Lk K T' F) (hv : ∀ i ∈ ws, i ∈ vs) (w : See K T F σ H Γ M) (q : aLc ai g tt te vs Γ M Φ)
    (z : ∀ d M' v F' H', Same F F' → Hs K T.B M' F' H' → Is K F' v d → Φ d M' → Q v H') : tLc (cI K T ai) (cG K ws g) (cT K T' tt) (cE K T' te) vs σ H Q := ⟨F, Γ, M, _, w, q, fun ds M1 J F1 H1 s1 h1 wk q1 => by
  obtain ⟨hsz, I, i0, turn, fin⟩ := q1
  intro L hL
  refine ⟨fun i n H' => n = ds.length - i ∧ i ≤ ds.length ∧ ∃ F' acc M', Same F1 F' ∧ Hs K T.B ((L, .lst acc) :: M') F' H' ∧ acc.length ≤ i ∧ I i acc M', ⟨ds.length, by simp, Nat.zero_le _, F1, [], M1, Same.refl F1, h1.newM (o := .lst []) hL ⟨[], upd_same, .nil⟩, by simp, i0⟩, ?_⟩
  rintro i n H' ⟨rfl, hi, F', acc, M', s', h', hacc, i'⟩
  obtain ⟨go, stop⟩ := wk i F' H' _ s' h' hi
  by_cases hlt : i < ds.length
  · obtain ⟨g1, g2⟩ := go ds[i] (List.getElem?_eq_getElem hlt)
    refine .inr ⟨g1, fun H2 => ∃ F' acc M', Same F1 F' ∧ Hs K T.B ((L, .lst acc) :: M') F' H2 ∧ acc.length ≤ i + 1 ∧ I (i + 1) acc M', fun H2 y => ⟨ds.length - (i + 1), by omega, rfl, hlt, y⟩, fun x H2 y => ?_⟩
    obtain ⟨F2, s2, h2, ix⟩ := g2 x H2 y
    have t := turn i ds[i] acc M' L (List.getElem?_eq_getElem hlt) i'
    split at t
    · rename_i Γ2 hg2
      refine ⟨F2, ds[i], wipeG Γ vs, Γ2, (w.v.mono ((s1.trans s').trans s2)).wipe vs, h2.sub, ix, hg2, fun σ3 v3 e3 => ⟨(e3 vs hv).trans (wipe_sub fun _ h => h), ?_⟩⟩
      refine cT_mk (T := T') ⟨v3, by rw [hT]; exact h2, hl _⟩ t fun b M3 F3 H3 s3 h3 q3 => ?_
      cases b with
      | true =>
        rw [if_pos rfl]
        refine cE_mk (T := T') ⟨v3.mono s3, h3, hl _⟩ (q3.1 rfl) fun y M4 yv F4 H4 s4 h4 i4 ⟨M5, dl, q5⟩ => ?_
        rw [hT] at h4
        obtain ⟨vs4, e4, z4⟩ := h4.lst dl.mem
        refine ⟨vs4, e4, by rw [z4.length]; exact line_lt (by omega), F4, acc ++ [y], M5, ((s'.trans s2).trans s3).trans s4, h4.redo dl ⟨_, upd_same, z4.append (.cons i4 .nil)⟩, by simp; omega, q5⟩
      | false =>
        rw [if_neg Bool.false_ne_true]
        obtain ⟨M5, dl, q5⟩ := q3.2 rfl
        rw [hT] at h3
        exact ⟨F3, acc, M5, (s'.trans s2).trans s3, h3.front dl, by omega, q5⟩
    · exact t.elim
  · have e : i = ds.length := by omega
    subst e
    obtain ⟨F2, s2, h2, i2⟩ := h'.freeze (M' := M') .here
    exact .inl ⟨stop rfl, z _ M' _ F2 H' ((s1.trans s').trans s2) h2 i2 (fin acc M' i' hacc)⟩⟩
def DTs (X : Cx) (T : Ct) (ifs : List Expr) (ta : AT) : Prop := PTs X ifs (cT X.K T ta)
theorem dts_nil : DTs X T [] aYes := ⟨fun pins s σ H Q I ⟨F, Γ, M, Φ, w, q, z⟩ => pts_nil.run pins s σ H Q I (z true M F H (Same.refl F) w.h q)⟩
theorem dts_one {t : AT} (h : DT X T c t) : DTs X T [c] t := pts_one h
theorem de_lc {elt tg iter : Expr} {ifs : List Expr} {scope : Scope} {own : List (Str × Nat)} {ai : AI} {ws : List Nat} {g : AG} {tt : AT} {te : AE} (hc : X.calm = true) (hN : X.N.Nodup) (hi : DI X T tg iter ai) (ok : BlkOk X.N X.env.scope scope own)
    (hg : ∀ (s : Shared) (H : Hp) (C : Addr) (cl : List (Str × Addr)) (fp : List Addr), DG (X.blk s H scope (compEnvC scope cl C X.env) fp) tg ws g) (ht : ∀ (s : Shared) (H : Hp) (C : Addr) (cl : List (Str × Addr)) (fp : List Addr), DTs (X.blk s H scope (compEnvC scope cl C X.env) fp) (.calm T.B) ifs tt)
    (he : ∀ (s : Shared) (H : Hp) (C : Addr) (cl : List (Str × Addr)) (fp : List Addr), DE (X.blk s H scope (compEnvC scope cl C X.env) fp) (.calm T.B) elt te) (hv : ∀ i ∈ ws, i ∈ own.map (·.2) := by decide) (hs : ∀ x, foldedSetIterable iter X.env x = pure x := by intro _; rfl) :
    DE X T (.ListComp elt [⟨tg, iter, ifs, 0⟩] scope pos) (aLc ai g tt te (own.map (·.2))) :=
  de_of (pe_lc (g := cG X.K ws g) (tt := cT X.K (.calm T.B) tt) (te := cE X.K (.calm T.B) te) hc hN hi ok hg ht he hs) fun F σ H Γ M Φ Q w q z => lc_go (T' := .calm T.B) rfl (fun _ => lk_calm) hv w q z
theorem ds_setLc {i : Nat} {y : Str} {py spos : Pos} {elt tg iter : Expr} {ifs : List Expr} {scope : Scope} {own : List (Str × Nat)} {ai : AI} {ws : List Nat} {g : AG} {tt : AT} {te : AE} (hc : X.calm = true) (hN : X.N.Nodup) (hy : X.N[i]? = some y) (hyl : X.env.scope.names.lookup y = some .local)
    (hsw : swapsWith (.ListComp elt [⟨tg, iter, ifs, 0⟩] scope pos) (some (.Name y py)) spos.line X.env = pure true) (hi : DI X T tg iter ai) (ok : BlkOk X.N X.env.scope scope own)
    (hg : ∀ (s : Shared) (H : Hp) (C : Addr) (cl : List (Str × Addr)) (fp : List Addr), DG (X.blk s H scope (compEnvC scope cl C X.env) fp) tg ws g) (ht : ∀ (s : Shared) (H : Hp) (C : Addr) (cl : List (Str × Addr)) (fp : List Addr), DTs (X.blk s H scope (compEnvC scope cl C X.env) fp) (.calm T.B) ifs tt)
    (he : ∀ (s : Shared) (H : Hp) (C : Addr) (cl : List (Str × Addr)) (fp : List Addr), DE (X.blk s H scope (compEnvC scope cl C X.env) fp) (.calm T.B) elt te) (hv : ∀ i ∈ ws, i ∈ own.map (·.2) := by decide) (hs : ∀ x, foldedSetIterable iter X.env x = pure x := by intro _; rfl) :
    DS X T (.Assign [.Name y py] (.ListComp elt [⟨tg, iter, ifs, 0⟩] scope pos) spos) (aSet i (aLc ai g tt te (own.map (·.2)))) :=
  ds_of (ps_setLc (g := cG X.K ws g) (tt := cT X.K (.calm T.B) tt) (te := cE X.K (.calm T.B) te) hc hN hy hyl hsw hi ok hg ht he hs) fun F σ H Γ M A D w q m => lc_go (T' := .calm T.B) rfl (fun _ => lk_calm) hv w q fun d M1 v F1 H1 s1 h1 i1 q1 => m.nx _ M1 _ F1 H1 s1 ((w.v.mono s1).set i1 i) h1 q1
end
end DL

set_option Elab.async false
set_option linter.all false
set_option maxRecDepth 100000
set_option maxHeartbeats 2000000
namespace DL
open PySem L2
open PyProof.Rows (envOfC)

/-! ### promises over data -/
abbrev ASp := List D → Mm → AK → (XD → Mm → Prop) → Prop
def conc (K : PySem.W.Frag) (B : Bx) (asp : ASp) : Sp := fun vs H Q E => ∃ ds F M Φ Ψ, IsL K F vs ds ∧ Hs K B M F H ∧ asp ds M Φ Ψ ∧
  (∀ d M' v F' H', Same F F' → Hs K B M' F' H' → Is K F' v d → Φ d M' → Q v H') ∧ (∀ x cls d M' F' H', Same F F' → Hs K B M' F' H' → XIs K F' cls d x → Ψ x M' → E cls d H')
def startD (N : List Str) (ds : List D) : Gm := ds.map some ++ List.replicate (N.length - ds.length) none
theorem vw_start {K : PySem.W.Frag} {F : Hp} {N : List Str} {vs : List V} {ds : List D} (h : IsL K F vs ds) : Vw K F (L2.start N vs) (startD N ds) := by
  unfold L2.start startD
  refine ⟨by rw [List.length_append, List.length_append, List.length_map, List.length_map, h.length, List.length_replicate, List.length_replicate], fun i d hd => ?_⟩
  by_cases hi : i < ds.length
  · rw [List.getElem?_append_left (by rw [List.length_map]; exact hi), List.getElem?_map] at hd
    rw [List.getElem?_append_left (by rw [List.length_map, h.length]; exact hi), List.getElem?_map]
    cases e : ds[i]? with
    | none =>
      rw [e] at hd
      cases hd
    | some g =>
      rw [e] at hd
      cases hd
      obtain ⟨v, h1, h2⟩ := h.get e
      exact ⟨v, by rw [h1]; rfl, h2⟩
  · rw [List.getElem?_append_right (by rw [List.length_map]; omega), List.getElem?_replicate] at hd
    split at hd <;> cases hd
section
variable {P : Program} {w : World} {K : PySem.W.Frag} {mg : Str → Option Value} {base : Heap} {B : Bx}
/-- the context of a body under way -/
abbrev cxD (P : Program) (w : World) (K : PySem.W.Frag) (mg : Str → Option Value) (base : Heap) (N : List Str) (qual : Str) (sc : Scope) (f : Addr) (cdv : Value) (A : Around) (outer : List Env) (s : Shared) (H : Hp) (E : XK) : Cx := cxOf (L2N.CX P w) P w K mg base N qual sc f cdv A outer s H E
abbrev ctD (B : Bx) (E : XK) (Ψ : XD → Mm → Prop) : Ct := ⟨B, fun cls d _ H => E cls d H, fun x _ M => Ψ x M⟩
theorem body_go {N : List Str} {X : Cx} {E : XK} {body : List Stmt} {asp : ASp} (hX : X.K = K) {vs : List V} {H : Hp} {Q : VK} (h : conc K B asp vs H Q E)
    (hb : ∀ ds M Φ Ψ, asp ds M Φ Ψ → ∃ ta, DSs X (ctD B E Ψ) body ta ∧ ta { nx := fun _ M => Φ .non M, rt := Φ } (startD N ds) M) :
    ∃ t, PSs X body t ∧ t { nx := fun _ H' => Q .non H', rt := Q } (L2.start N vs) H := by
  obtain ⟨ds, F, M, Φ, Ψ, hv, hh, ha, hq, he⟩ := h
  obtain ⟨ta, d, r⟩ := hb ds M Φ Ψ ha
  subst hX
  refine ⟨_, d, cS_mk (T := ctD B E Ψ) ⟨vw_start hv, hh, fun x cls dd Γ' M' σ' F' H' s v h2 hx hp => he x cls dd M' F' H' s h2 hx hp⟩ r ⟨fun Γ' M' σ' F' H' s v h2 q => hq _ M' _ F' H' s h2 .non q, fun d M' v F' H' s h2 i q => hq d M' v F' H' s h2 i q, fun _ _ _ _ _ _ _ _ q => q, fun _ _ _ _ _ _ _ _ q => q⟩⟩
theorem conc_len {asp : ASp} {ps : List Str} (hlen : ∀ ds M Φ Ψ, asp ds M Φ Ψ → ds.length = ps.length) : ∀ vs H Q E, conc K B asp vs H Q E → vs.length = ps.length := fun vs H Q E ⟨ds, F, M, Φ, Ψ, hv, _, ha, _⟩ => hv.length.trans (hlen ds M Φ Ψ ha)
theorem fun_okN {x qual : Str} {st : Stmt} {f : Addr} {fd : FuncData} {N ps : List Str} {k : Nat} {sp : Sp} (F : Fun K x qual st f fd) (S : FnScope N ps (defScope st)) (len : ∀ vs H Q E, sp vs H Q E → vs.length = ps.length)
    (hbody : ∀ (cdv : Value) (A : Around) (outer : List Env) (s : Shared) (H : Hp) (vs : List V) (Q : VK) (E : XK), Room k (A.deeper (envOfC qual (defScope st) s.heap.objs.size f cdv)) → sp vs H Q E →
      ∃ t, PSs (cxOf (L2N.CX P w) P w K mg base N qual (defScope st) f cdv A outer s H E) (defBody st) t ∧ t { nx := fun _ H' => Q .non H', rt := Q } (L2.start N vs) H) : FnOk P w K mg base (L2N.CX P w) (k + 1) f fd ps sp := by
  obtain ⟨oc, od, kV, doc, pm, an, cdv, ct, osl, rfl, lk, hcd⟩ := F.ex
  exact fn_of lk hcd S len fun A outer s H vs Q E hr hsp => hbody cdv A outer s H vs Q E hr hsp
/-- THE RULE for a def -/
theorem dfn {x qual : Str} {st : Stmt} {f : Addr} {fd : FuncData} {N ps : List Str} {k : Nat} {asp : ASp} (F : Fun K x qual st f fd) (S : FnScope N ps (defScope st)) (hlen : ∀ ds M Φ Ψ, asp ds M Φ Ψ → ds.length = ps.length)
    (hb : ∀ (cdv : Value) (A : Around) (outer : List Env) (s : Shared) (H : Hp) (E : XK), Room k (A.deeper (envOfC qual (defScope st) s.heap.objs.size f cdv)) → ∀ ds M Φ Ψ, asp ds M Φ Ψ →
      ∃ ta, DSs (cxD P w K mg base N qual (defScope st) f cdv A outer s H E) (ctD B E Ψ) (defBody st) ta ∧ ta { nx := fun _ M => Φ .non M, rt := Φ } (startD N ds) M) : FnOk P w K mg base (L2N.CX P w) (k + 1) f fd ps (conc K B asp) :=
  fun_okN F S (conc_len hlen) fun cdv A outer s H vs Q E hr h => body_go rfl h (hb cdv A outer s H E hr)
theorem dfnD {x qual : Str} {params : Arguments} {body : List Stmt} {scope : Scope} {dvs : List V} {kws : List (Str × V)} {f : Addr} {fd : FuncData} {N ps : List Str} {k : Nat} {asp : ASp} (F : FunD K x qual params body scope dvs kws f fd) (S : FnScope N ps scope) (hlen : ∀ ds M Φ Ψ, asp ds M Φ Ψ → ds.length = ps.length)
    (hb : ∀ (cdv : Value) (A : Around) (outer : List Env) (s : Shared) (H : Hp) (E : XK), Room k (A.deeper (envOfC qual scope s.heap.objs.size f cdv)) → ∀ ds M Φ Ψ, asp ds M Φ Ψ →
      ∃ ta, DSs (cxD P w K mg base N qual scope f cdv A outer s H E) (ctD B E Ψ) body ta ∧ ta { nx := fun _ M => Φ .non M, rt := Φ } (startD N ds) M) : FnOk P w K mg base (L2N.CX P w) (k + 1) f fd ps (conc K B asp) :=
  F.ok S (conc_len hlen) fun cdv A outer s H vs Q E hr h => body_go rfl h (hb cdv A outer s H E hr)
end
/-- a call: dds the defaults -/
def aCall (asp : ASp) (dds : List D) (Ψ : AX) (tr : AA) (Γ : Gm) (M : Mm) (Φ : AK) : Prop := tr Γ M fun ds M1 => asp (ds ++ dds) M1 Φ (fun x M2 => Ψ x Γ M2)
section
variable {X : Cx} {T : Ct} {e a b c : Expr} {pos : Pos} {K : PySem.W.Frag} {F F' F1 H H' H1 : Hp} {σ : St} {Γ : Gm} {M M' : Mm} {ta tb tc : AE} {tA tB : AT} {es : List Expr} {tr : AA} {B : Bx}
theorem de_callD {x : Str} {p : Pos} {k : Nat} {f : Addr} {fd : FuncData} {ps : List Str} {asp : ASp} {dds : List D} {dvs : List V} {dvals : List Value} (G : FnOk X.prog X.w X.K X.mg X.base (L2N.CX X.prog X.w) k f fd ps (conc X.K T.B asp)) (hr : Room k X.A) (hg : Gl X x) (hm : X.mg x = some (.ref f)) (hk : PySem.W.keepIn X.K (.ref f) = true)
    (hb : Binds X.K fd ps dvals) (hd : Vals dvs dvals) (hi : ∀ F, IsL X.K F dvs dds) (tk : L2N.Takes X T.W) (ha : DA X T (e :: es) tr)
    (hdb : (x == ("__debug__" : Str)) = false := by decide) (he : starEach (e :: es) X.env = (false, eval e X.env) :: starEach es X.env := by rfl) (hpl : (backTo pos (starEach es X.env)).any (·.1) = false := by rfl) :
    DE X T (.Call (.Name x p) (e :: es) [] pos) (aCall asp dds T.Ψ tr) :=
  de_of (pe_callSD G hr hg hm hk hb hd (fun σ => L2N.passAt tk σ) ha hdb he hpl) fun F σ H Γ M Φ Q w q z => cA_mk w q fun ds M1 vs F1 H1 s1 h1 i1 q1 =>
    ⟨ds ++ dds, F1, M1, Φ, fun x M2 => T.Ψ x Γ M2, i1.append (hi F1), h1, q1, fun d M2 v F2 H2 s2 h2 i2 q2 => z d M2 v F2 H2 (s1.trans s2) h2 i2 q2, fun y cls d M2 F2 H2 s2 h2 xi q2 => w.l y cls d Γ M2 σ F2 H2 (s1.trans s2) (w.v.mono (s1.trans s2)) h2 xi q2⟩
theorem de_call {x : Str} {p : Pos} {k : Nat} {f : Addr} {fd : FuncData} {ps : List Str} {asp : ASp} (G : FnOk X.prog X.w X.K X.mg X.base (L2N.CX X.prog X.w) k f fd ps (conc X.K T.B asp)) (hr : Room k X.A) (hg : Gl X x) (hm : X.mg x = some (.ref f)) (hk : PySem.W.keepIn X.K (.ref f) = true)
    (hb : Binds X.K fd ps []) (tk : L2N.Takes X T.W) (ha : DA X T (e :: es) tr)
    (hdb : (x == ("__debug__" : Str)) = false := by decide) (he : starEach (e :: es) X.env = (false, eval e X.env) :: starEach es X.env := by rfl) (hpl : (backTo pos (starEach es X.env)).any (·.1) = false := by rfl) :
    DE X T (.Call (.Name x p) (e :: es) [] pos) (aCall asp [] T.Ψ tr) :=
  de_callD G hr hg hm hk hb .nil (fun _ => .nil) tk ha hdb he hpl
/-- nothing is raised in a block -/
theorem tk_calm {X : Cx} {B : Bx} : L2N.Takes X (Ct.calm B).W := fun _ _ ⟨_, _, _, _, _, _, _, _, _, _, _, _, _, _, _, _, w⟩ => w.elim

/-! ### a hidden part made -/
/-- from here on a hidden part bx i stands for some mutable objects -/
def aBox {ι : Type} (bx : ι → Bx) (t : ι → AS) (A : AEnds) (Γ : Gm) (M : Mm) : Prop := ∃ i M', (∀ K F H, Hs K Bx.no M F H → Hs K (bx i) M' F H) ∧ t i A Γ M'
theorem Hs.unbox (h : Hs K B M F H) : Hs K Bx.no M F H := ⟨h.sub, fun q hq => let ⟨m1, _, m3⟩ := h.mem q hq; ⟨m1, List.not_mem_nil, m3⟩, h.nd, trivial, fun _ hb => absurd hb List.not_mem_nil, h.nt⟩
theorem dss_box {ι : Type} {bx : ι → Bx} {W : WX} {Ψ : AX} {sts : List Stmt} {t : ι → AS} (h : ∀ i, DSs X ⟨bx i, W, fun _ _ _ => False⟩ sts (t i)) : DSs X ⟨Bx.no, W, Ψ⟩ sts (aBox bx t) :=
  ⟨fun pins s σ H D I ⟨F, Γ, M, A, w, q, m1, m2, m3, m4⟩ => by
    obtain ⟨i, M', cv, q⟩ := q
    refine (h i).run pins s σ H D I (cS_mk (T := ⟨bx i, W, fun _ _ _ => False⟩) ⟨w.v, cv _ _ _ w.h, fun _ _ _ _ _ _ _ _ _ _ _ _ z => z.elim⟩ q ⟨?_, ?_, ?_, ?_⟩)
    · exact fun Γ2 M2 σ2 F2 H2 s2 v2 h2 q2 => m1 Γ2 M2 σ2 F2 H2 s2 v2 h2.unbox q2
    · exact fun d M2 v F2 H2 s2 h2 i2 q2 => m2 d M2 v F2 H2 s2 h2.unbox i2 q2
    · exact fun Γ2 M2 σ2 F2 H2 s2 v2 h2 q2 => m3 Γ2 M2 σ2 F2 H2 s2 v2 h2.unbox q2
    · exact fun Γ2 M2 σ2 F2 H2 s2 v2 h2 q2 => m4 Γ2 M2 σ2 F2 H2 s2 v2 h2.unbox q2⟩
end
end DL

set_option Elab.async false
set_option linter.all false
set_option maxRecDepth 100000
set_option maxHeartbeats 2000000
namespace DL
open PySem L2

section
variable {X : Cx} {T : Ct} {e a b c : Expr} {pos : Pos} {K : PySem.W.Frag} {F F' F1 H H' H1 : Hp} {σ : St} {Γ : Gm} {M M' : Mm} {ta tb tc : AE} {tA tB : AT} {es : List Expr} {tr : AA} {B : Bx}
/-! ### ints -/
def fI (g : Int → Int → D) (d e : D) (M : Mm) (Φ : AK) : Prop := match d, e with
  | .int i, .int j => Φ (g i j) M
  | _, _ => False
def fC (C : Int → Int → Prop) (g : Int → Int → D) (d e : D) (M : Mm) (Φ : AK) : Prop := match d, e with
  | .int i, .int j => C i j ∧ Φ (g i j) M
  | _, _ => False
theorem ab_I0 {g : Int → Int → Int} : Ab2 K B (rI0 fun i j => .int (g i j)) (fI fun i j => .int (g i j)) := fun F H x y d e M Φ Q h i1 i2 q z => by
  unfold fI at q
  (first | split at q | (unfold aChain_k at q; split at q))
  · cases i1
    cases i2
    exact ⟨_, _, rfl, rfl, z _ M _ F H (Same.refl F) h (.int _) q⟩
  · exact q.elim
theorem ab_B0 {g : Int → Int → Bool} : Ab2 K B (rI0 fun i j => .bl (g i j)) (fI fun i j => .bl (g i j)) := fun F H x y d e M Φ Q h i1 i2 q z => by
  unfold fI at q
  (first | split at q | (unfold aChain_k at q; split at q))
  · cases i1
    cases i2
    exact ⟨_, _, rfl, rfl, z _ M _ F H (Same.refl F) h (.bl _) q⟩
  · exact q.elim
theorem ab_C {C C' : Int → Int → Prop} {g : Int → Int → Int} (hc : ∀ i j, C' i j → C i j) : Ab2 K B (rI C fun i j => .int (g i j)) (fC C' fun i j => .int (g i j)) := fun F H x y d e M Φ Q h i1 i2 q z => by
  unfold fC at q
  (first | split at q | (unfold aChain_k at q; split at q))
  · cases i1
    cases i2
    exact ⟨_, _, rfl, rfl, hc _ _ q.1, z _ M _ F H (Same.refl F) h (.int _) q.2⟩
  · exact q.elim
/-- a factor is small, or both are not too great -/
def MulOk (i j : Int) : Prop := (-18446744073709551616 < i ∧ i < 18446744073709551616) ∨ (-18446744073709551616 < j ∧ j < 18446744073709551616) ∨ CMulW i j
/-- the divisor -/
def DivOk (_ j : Int) : Prop := 0 < j ∧ j.natAbs.log2 < 9000
def ModOk (_ j : Int) : Prop := 0 < j
theorem op_mulA : OpR X (binaryOp .Mult) (rI MulOk fun i j => .int (i * j)) := fun pins s σ H x y u v Q I rx ry q => by
  obtain ⟨i, j, rfl, rfl, hc, q⟩ := q
  rcases hc with hc | hc | hc
  · exact op_mul pins s σ H _ _ u v Q I rx ry ⟨i, j, rfl, rfl, .inl (by omega), q⟩
  · exact op_mul pins s σ H _ _ u v Q I rx ry ⟨i, j, rfl, rfl, .inr (by omega), q⟩
  · exact op_mulW pins s σ H _ _ u v Q I rx ry ⟨i, j, rfl, rfl, hc, q⟩
theorem divOk_of {i j : Int} (h : 0 < j) (h2 : j < 18446744073709551616) : DivOk i j := ⟨h, (wide_div (i := i) (b := 64) h (by omega) (by decide) (by decide)).2⟩
abbrev fAdd : A2 := fI fun i j => .int (i + j)
abbrev fSub : A2 := fI fun i j => .int (i - j)
abbrev fMul : A2 := fC MulOk fun i j => .int (i * j)
abbrev fDiv : A2 := fC DivOk fun i j => .int (i / j)
abbrev fMod : A2 := fC ModOk fun i j => .int (i % j)
abbrev fPow : A2 := fC CPow fun i j => .int (i ^ j.toNat)
abbrev fLt : A2 := fI fun i j => .bl (decide (i < j))
abbrev fLe : A2 := fI fun i j => .bl (decide (i ≤ j))
abbrev fGt : A2 := fI fun i j => .bl (decide (j < i))
abbrev fGe : A2 := fI fun i j => .bl (decide (j ≤ i))
theorem de_add (ha : DE X T a ta) (hb : DE X T b tb) : DE X T (.BinOp a .Add b pos) (aOp fAdd ta tb) := de_op op_add ab_I0 ha hb
theorem de_sub (ha : DE X T a ta) (hb : DE X T b tb) : DE X T (.BinOp a .Sub b pos) (aOp fSub ta tb) := de_op op_sub ab_I0 ha hb
theorem de_mul (ha : DE X T a ta) (hb : DE X T b tb) : DE X T (.BinOp a .Mult b pos) (aOp fMul ta tb) := de_op op_mulA (ab_C fun _ _ h => h) ha hb
theorem de_div (ha : DE X T a ta) (hb : DE X T b tb) : DE X T (.BinOp a .FloorDiv b pos) (aOp fDiv ta tb) := de_op op_fdivW (ab_C fun _ _ h => h) ha hb
theorem de_mod (ha : DE X T a ta) (hb : DE X T b tb) : DE X T (.BinOp a .Mod b pos) (aOp fMod ta tb) := de_op op_mod (ab_C fun _ _ h => h) ha hb
theorem de_pow (ha : DE X T a ta) (hb : DE X T b tb) : DE X T (.BinOp a .Pow b pos) (aOp fPow ta tb) := de_op op_pow (ab_C fun _ _ h => h) ha hb
def fNeg (d : D) (M : Mm) (Φ : AK) : Prop := match d with
  | .int i => Φ (.int (-i)) M
  | _ => False
theorem de_neg (ha : DE X T a ta) : DE X T (.UnaryOp .USub a pos) (aUn fNeg ta) := de_un un_neg (fun F H x d M Φ Q h i q z => by
  unfold fNeg at q
  (first | split at q | (unfold aChain_k at q; split at q))
  · cases i
    exact ⟨_, rfl, z _ M _ F H (Same.refl F) h (.int _) q⟩
  · exact q.elim) ha
theorem de_lt (ha : DE X T a ta) (hb : DE X T b tb) : DE X T (.Compare a [.Lt] [b] pos) (aOp fLt ta tb) := de_cmp op_lt ab_B0 ha hb
theorem de_le (ha : DE X T a ta) (hb : DE X T b tb) : DE X T (.Compare a [.LtE] [b] pos) (aOp fLe ta tb) := de_cmp op_le ab_B0 ha hb
theorem de_gt (ha : DE X T a ta) (hb : DE X T b tb) : DE X T (.Compare a [.Gt] [b] pos) (aOp fGt ta tb) := de_cmp op_gt ab_B0 ha hb
theorem de_ge (ha : DE X T a ta) (hb : DE X T b tb) : DE X T (.Compare a [.GtE] [b] pos) (aOp fGe ta tb) := de_cmp op_ge ab_B0 ha hb
/-- two comparisons in a chain -/
theorem chain_go {r r' : R2} {f g : A2} {Q : VK} {Φ : AK} (hr : Ab2 K T.B r f) (hr' : Ab2 K T.B r' g) (w : See K T F σ H Γ M) (q : aChain f g ta tb tc Γ M Φ) (z : ∀ d M' v F' H', Same F F' → Hs K T.B M' F' H' → Is K F' v d → Φ d M' → Q v H') :
    tChain r r' (cE K T ta) (cE K T tb) (cE K T tc) σ H Q :=
  cE_mk w q fun d M1 x F1 H1 s1 h1 i1 q1 => cE_mk (w.go s1 h1) q1 fun e M2 y F2 H2 s2 h2 i2 q2 => hr F2 H2 x y d e M2 _ _ h2 (i1.mono s2) i2 q2 fun k M3 v F3 H3 s3 h3 i3 q3 => by
    (first | split at q3 | (unfold aChain_k at q3; split at q3))
    · rename_i k
      cases i3
      refine ⟨k, rfl, ?_⟩
      cases k with
      | true => exact cE_mk (((w.go s1 h1).go s2 h2).go s3 h3) (q3.1 rfl) fun c M4 u F4 H4 s4 h4 i4 q4 => hr' F4 H4 y u e c M4 Φ Q h4 ((i2.mono s3).mono s4) i4 q4 fun d M5 v F5 H5 s5 h5 i5 q5 => z d M5 v F5 H5 ((((s1.trans s2).trans s3).trans s4).trans s5) h5 i5 q5
      | false => exact z _ M3 _ F3 H3 ((s1.trans s2).trans s3) h3 (.bl false) (q3.2 rfl)
    · exact q3.elim
end
end DL

set_option Elab.async false
set_option linter.all false
set_option maxRecDepth 100000
set_option maxHeartbeats 2000000
namespace DL
open PySem L2

section
variable {X : Cx} {T : Ct} {e a b c : Expr} {pos : Pos} {K : PySem.W.Frag} {F F' F1 H H' H1 : Hp} {σ : St} {Γ : Gm} {M M' : Mm} {ta tb tc : AE} {tA tB : AT} {es : List Expr} {tr : AA} {B : Bx}
theorem de_chain {op op' : CmpOp} {r r' : R2} {f g : A2} (ho : OpR X (compareOp op) r) (ho' : OpR X (compareOp op') r') (hr : Ab2 X.K T.B r f) (hr' : Ab2 X.K T.B r' g) (ha : DE X T a ta) (hb : DE X T b tb) (hc : DE X T c tc)
    (hm : lastMarks [op, op'] [b, c] = false := by with_unfolding_all rfl) : DE X T (.Compare a [op, op'] [b, c] pos) (aChain f g ta tb tc) :=
  de_of (pe_chain ho ho' ha hb hc hm) fun F σ H Γ M Φ Q w q z => chain_go hr hr' w q z
theorem dt_chain {op op' : CmpOp} {r r' : R2} {f g : A2} (ho : OpR X (compareOp op) r) (ho' : OpR X (compareOp op') r') (hr : Ab2 X.K T.B r f) (hr' : Ab2 X.K T.B r' g) (ha : DE X T a ta) (hb : DE X T b tb) (hc : DE X T c tc)
    (hm : lastMarks [op, op'] [b, c] = false := by with_unfolding_all rfl) : DT X T (.Compare a [op, op'] [b, c] pos) (aB (aChain f g ta tb tc)) :=
  dt_of (pt_chain ho ho' ha hb hc hm) fun F σ H Γ M Φ Q w q z => chain_go hr hr' w q fun d M1 x F1 H1 s1 h1 i1 q1 => by
    cases d with
    | bl b =>
      cases i1
      exact ⟨b, rfl, z b M1 F1 H1 s1 h1 q1⟩
    | _ => exact q1.elim

/-! ### sequences, read -/
/-- the items of a list or a tuple, a mutable list too -/
def seqOf (d : D) (M : Mm) (k : List D → Prop) : Prop := match d with
  | .lst xs => k xs
  | .tup xs => k xs
  | .ref l => ∃ xs, (l, MO.lst xs) ∈ M ∧ k xs
  | _ => False
theorem seq_at {d : D} {k : List D → Prop} {x : V} (h : Hs K B M F H) (i : Is K F x d) (q : seqOf d M k) : ∃ l vs xs, x = .ref l ∧ (SqL K H l vs ∨ SqT K H l vs) ∧ IsL K F vs xs ∧ k xs := by
  unfold seqOf at q
  (first | split at q | (unfold aChain_k at q; split at q) | (unfold aP_k at q; split at q) | (unfold aSl_k at q; split at q) | (unfold aRev_k at q; split at q) | (unfold aRevM_k at q; split at q) | (unfold aApp_k at q; split at q) | (unfold aPop_k at q; split at q) | (unfold aPopAt_k at q; split at q) | (unfold fIx onD at q; split at q) | (unfold onD at q; split at q))
  · cases i with
    | lst hq hl => exact ⟨_, _, _, rfl, .inl (h.sub.seq hq), hl, q⟩
  · cases i with
    | tup hq hl => exact ⟨_, _, _, rfl, .inr (same_t h.sub hq), hl, q⟩
  · obtain ⟨xs, hm, q⟩ := q
    cases i
    obtain ⟨vs, e, z⟩ := h.lst hm
    exact ⟨_, vs, xs, rfl, .inl (.inl (.inl e)), z, q⟩
  · exact q.elim
def fLen (ds : List D) (M : Mm) (Φ : AK) : Prop := match ds with
  | [d] => seqOf d M fun xs => Φ (.int (xs.length : Nat)) M
  | _ => False
theorem ab_len : AbL K B (fun xs H Q => ∃ p ys, xs = [.ref p] ∧ (SqL K H p ys ∨ SqT K H p ys) ∧ Q (.int ys.length) H) fLen := fun F H vs ds M Φ Q h i q z => by
  unfold fLen at q
  (first | split at q | (unfold aChain_k at q; split at q) | (unfold aP_k at q; split at q) | (unfold aSl_k at q; split at q) | (unfold aRev_k at q; split at q) | (unfold aRevM_k at q; split at q) | (unfold aApp_k at q; split at q) | (unfold aPop_k at q; split at q) | (unfold aPopAt_k at q; split at q) | (unfold fIx onD at q; split at q) | (unfold onD at q; split at q))
  · cases i with
    | cons i1 i2 =>
      cases i2
      obtain ⟨l, ws, xs, rfl, hq, hl, q⟩ := seq_at h i1 q
      refine ⟨l, ws, rfl, hq, z _ M _ F H (Same.refl F) h ?_ q⟩
      rw [hl.length]
      exact .int _
  · exact q.elim
theorem de_len {p : Pos} (hg : Gl X "len") (hm : X.mg "len" = none) (ha : DE X T a ta) (hs : starEach [a] X.env = (false, eval a X.env) :: starEach [] X.env := by rfl) (hpl : (backTo pos (starEach [] X.env)).any (·.1) = false := by rfl) : DE X T (.Call (.Name "len" p) [a] [] pos) (aCB fLen (aCons ta aNil)) :=
  de_callB call_len_seq ab_len hg hm PySem.boot_len (da_cons ha da_nil hs) (by decide) (by decide) hs hpl
/-- x[i] -/
def getI (xs : List D) : Int → Option D
  | .ofNat n => xs[n]?
  | .negSucc n => if n < xs.length then xs[xs.length - 1 - n]? else none
theorem getI_0 {x : D} {xs : List D} : getI (x :: xs) 0 = some x := rfl
theorem getI_1 {x y : D} {xs : List D} : getI (x :: y :: xs) 1 = some y := rfl
theorem getI_2 {x y z : D} {xs : List D} : getI (x :: y :: z :: xs) 2 = some z := rfl
theorem getI_3 {x y z u : D} {xs : List D} : getI (x :: y :: z :: u :: xs) 3 = some u := rfl
theorem getI_nat {xs : List D} {n : Nat} {d : D} (h : xs[n]? = some d) : getI xs (n : Int) = some d := h
theorem getI_of {xs : List D} {i : Int} (h : 0 ≤ i) {d : D} (e : xs[i.toNat]? = some d) : getI xs i = some d := by
  obtain ⟨n, rfl⟩ := Int.eq_ofNat_of_zero_le h
  exact e
theorem getI_last {xs : List D} {d : D} (h : xs.getLast? = some d) : getI xs (-1) = some d := by
  rw [List.getLast?_eq_getElem?] at h
  show (if 0 < xs.length then xs[xs.length - 1 - 0]? else none) = some d
  rw [if_pos, Nat.sub_zero]
  · exact h
  · cases xs with
    | nil => cases h
    | cons x xs => exact Nat.succ_pos _
theorem getI_at {xs : List D} {i : Int} {d : D} (h : getI xs i = some d) : atI xs i = some d := by
  cases i with
  | ofNat n => exact atI_nat h
  | negSucc n =>
    have h : (if n < xs.length then xs[xs.length - 1 - n]? else none) = some d := h
    split at h
    · rename_i hn
      unfold atI ixN
      rw [if_neg (by omega), if_pos (by omega)]
      show xs[(Int.negSucc n + (xs.length : Int)).toNat]? = some d
      rw [show (Int.negSucc n + (xs.length : Int)).toNat = xs.length - 1 - n by omega]
      exact h
    · cases h
def fIx (d e : D) (M : Mm) (Φ : AK) : Prop := match e with
  | .int i => seqOf d M fun xs => onD (getI xs i) fun g => Φ g M
  | _ => False
theorem atI_map {vs : List V} {xs : List D} {i : Int} {g : D} (h : IsL K F vs xs) (e : atI xs i = some g) : ∃ v, atI vs i = some v ∧ Is K F v g := by
  unfold atI at e ⊢
  rw [h.length]
  cases q : ixN xs.length i with
  | none =>
    rw [q] at e
    cases e
  | some j =>
    rw [q] at e
    exact h.get e
theorem ab_ix : Ab2 K B (rIx K) fIx := fun F H x y d e M Φ Q h i1 i2 q z => by
  unfold fIx at q
  (first | split at q | (unfold aChain_k at q; split at q) | (unfold aP_k at q; split at q) | (unfold aSl_k at q; split at q) | (unfold aRev_k at q; split at q) | (unfold aRevM_k at q; split at q) | (unfold aApp_k at q; split at q) | (unfold aPop_k at q; split at q) | (unfold aPopAt_k at q; split at q) | (unfold fIx onD at q; split at q) | (unfold onD at q; split at q))
  · rename_i i
    cases i2
    obtain ⟨l, vs, xs, rfl, hq, hl, q⟩ := seq_at h i1 q
    (first | split at q | (unfold aChain_k at q; split at q) | (unfold aP_k at q; split at q) | (unfold aSl_k at q; split at q) | (unfold aRev_k at q; split at q) | (unfold aRevM_k at q; split at q) | (unfold aApp_k at q; split at q) | (unfold aPop_k at q; split at q) | (unfold aPopAt_k at q; split at q) | (unfold fIx onD at q; split at q) | (unfold onD at q; split at q))
    · rename_i g hg
      obtain ⟨v, e1, iv⟩ := atI_map hl (getI_at hg)
      have fin := z g M v F H (Same.refl F) h iv q
      rcases hq with hq | hq
      · exact .inl ⟨l, vs, i, v, rfl, rfl, hq, e1, fin⟩
      · exact .inr (.inl ⟨l, vs, i, v, rfl, rfl, hq, e1, fin⟩)
    · exact q.elim
  · exact q.elim
theorem de_item (ha : DE X T a ta) (hb : DE X T b tb) (hs : PlainIx b := by exact fun _ _ => rfl) : DE X T (.Subscript a b pos) (aOp fIx ta tb) := de_ix ix_seq ab_ix ha hb hs
/-- xs[a:b] of a list -/
abbrev AO := Gm → Mm → (Option Int → Mm → Prop) → Prop
def cO (K : PySem.W.Frag) (T : Ct) (ta : AO) : TO := fun σ H Q => ∃ F Γ M Φ, See K T F σ H Γ M ∧ ta Γ M Φ ∧ ∀ o M' F' H', Same F F' → Hs K T.B M' F' H' → Φ o M' → Q o H'
def DO (X : Cx) (T : Ct) (e : Option Expr) (ta : AO) : Prop := PO X e (cO X.K T ta)
def aNoP (Γ : Gm) (M : Mm) (Φ : Option Int → Mm → Prop) : Prop := Φ none M
def aP_k (Φ : Option Int → Mm → Prop)  (d : D) (M1 : Mm) : Prop := match d with
  | .int i => Φ (some i) M1
  | _ => False
def aP (ta : AE) (Γ : Gm) (M : Mm) (Φ : Option Int → Mm → Prop) : Prop := ta Γ M fun d M1 => aP_k Φ d M1
theorem do_none : DO X T none aNoP := ⟨fun pins s σ H Q I ⟨F, Γ, M, Φ, w, q, z⟩ => po_none.run pins s σ H Q I (z none M F H (Same.refl F) w.h q)⟩
theorem do_some (h : DE X T e ta) : DO X T (some e) (aP ta) := ⟨fun pins s σ H Q I ⟨F, Γ, M, Φ, w, q, z⟩ => (po_some h).run pins s σ H Q I (cE_mk w q fun d M1 x F1 H1 s1 h1 i1 q1 => by
    (first | split at q1 | (unfold aChain_k at q1; split at q1) | (unfold aP_k at q1; split at q1) | (unfold aSl_k at q1; split at q1) | (unfold aRev_k at q1; split at q1) | (unfold aRevM_k at q1; split at q1) | (unfold aApp_k at q1; split at q1) | (unfold aPop_k at q1; split at q1) | (unfold aPopAt_k at q1; split at q1) | (unfold fIx onD at q1; split at q1) | (unfold onD at q1; split at q1))
    · cases i1
      exact ⟨_, rfl, z _ M1 F1 H1 s1 h1 q1⟩
    · exact q1.elim)⟩
def cutD (xs : List D) (lo hi : Option Int) : List D := (xs.drop (HT.sIx xs.length 0 lo)).take (HT.sIx xs.length xs.length hi - HT.sIx xs.length 0 lo)
def aSl_k (Φ : AK) (d : D) (lo : Option Int) (hi : Option Int) (M3 : Mm) : Prop := match d with
  | .lst xs => Φ (.lst (cutD xs lo hi)) M3
  | .ref l => ∃ xs, (l, MO.lst xs) ∈ M3 ∧ Φ (.lst (cutD xs lo hi)) M3
  | _ => False
def aSl (ta : AE) (tl th : AO) (Γ : Gm) (M : Mm) (Φ : AK) : Prop := ta Γ M fun d M1 => tl Γ M1 fun lo M2 => th Γ M2 fun hi M3 => aSl_k Φ d lo hi M3
theorem cut_isL {vs : List V} {xs : List D} {lo hi : Option Int} (h : IsL K F vs xs) : IsL K F (cutV vs lo hi) (cutD xs lo hi) := by
  unfold cutV cutD
  rw [h.length]
  exact (h.drop _).take _
theorem cO_mk {t : AO} {Q : Option Int → Hp → Prop} {Φ : Option Int → Mm → Prop} (s : See K T F σ H Γ M) (q : t Γ M Φ) (z : ∀ d M' F' H', Same F F' → Hs K T.B M' F' H' → Φ d M' → Q d H') : cO K T t σ H Q := ⟨F, Γ, M, Φ, s, q, z⟩
theorem de_slL {lo hi : Option Expr} {p2 : Pos} {tl th : AO} (ha : DE X T a ta) (hl : DO X T lo tl) (hu : DO X T hi th) : DE X T (.Subscript a (.Slice lo hi none p2) pos) (aSl ta tl th) :=
  de_of (pe_slice sl_list ha hl hu) fun F σ H Γ M Φ Q w q z => cE_mk w q fun d M1 x F1 H1 s1 h1 i1 q1 => cO_mk (w.go s1 h1) q1 fun lo M2 F2 H2 s2 h2 q2 => cO_mk ((w.go s1 h1).go s2 h2) q2 fun hi M3 F3 H3 s3 h3 q3 => by
    have i3 := (i1.mono s2).mono s3
    have fin : ∀ {l : Addr} {vs : List V} {xs : List D}, SqL X.K H3 l vs → IsL X.K F3 vs xs → Φ (.lst (cutD xs lo hi)) M3 → rSlL X.K (.ref l) lo hi H3 Q := fun {l vs xs} hq hl q => ⟨l, vs, rfl, hq, fun p hp => by
      have n3 := h3.free hp
      exact z _ M3 _ _ _ (((s1.trans s2).trans s3).trans (upd_same_ext n3)) (h3.laid hp) (.lst (.inl (.inl upd_same)) ((cut_isL hl).mono (upd_same_ext n3))) q⟩
    (first | split at q3 | (unfold aChain_k at q3; split at q3) | (unfold aP_k at q3; split at q3) | (unfold aSl_k at q3; split at q3) | (unfold aRev_k at q3; split at q3) | (unfold aRevM_k at q3; split at q3) | (unfold aApp_k at q3; split at q3) | (unfold aPop_k at q3; split at q3) | (unfold aPopAt_k at q3; split at q3) | (unfold fIx onD at q3; split at q3) | (unfold onD at q3; split at q3))
    · cases i3 with
      | lst hq hl => exact fin (h3.sub.seq hq) hl q3
    · obtain ⟨xs, hm, q3⟩ := q3
      cases i3
      obtain ⟨vs, e, zz⟩ := h3.lst hm
      exact fin (.inl (.inl e)) zz q3
    · exact q3.elim
/-- xs[::-1]: new, not changed; new, to be changed -/
def aRev_k (Φ : AK)  (d : D) (M1 : Mm) : Prop := match d with
  | .lst xs => Φ (.lst xs.reverse) M1
  | .ref l => ∃ xs, (l, MO.lst xs) ∈ M1 ∧ Φ (.lst xs.reverse) M1
  | _ => False
def aRev (ta : AE) (Γ : Gm) (M : Mm) (Φ : AK) : Prop := ta Γ M fun d M1 => aRev_k Φ d M1
def aRevM_k (Φ : AK)  (d : D) (M1 : Mm) : Prop := match d with
  | .lst xs => ∀ p, Φ (.ref p) ((p, .lst xs.reverse) :: M1)
  | .ref l => ∃ xs, (l, MO.lst xs) ∈ M1 ∧ ∀ p, Φ (.ref p) ((p, .lst xs.reverse) :: M1)
  | _ => False
def aRevM (ta : AE) (Γ : Gm) (M : Mm) (Φ : AK) : Prop := ta Γ M fun d M1 => aRevM_k Φ d M1
theorem de_rev {k : Nat} {p1 p2 p3 : Pos} (ha : DE X T a ta) : DE X T (.Subscript a (.Slice none none (some (.UnaryOp .USub (.Constant (.int 1) k p1) p2)) p3) pos) (aRev ta) :=
  de_of (pe_revL ha) fun F σ H Γ M Φ Q w q z => cE_mk w q fun d M1 x F1 H1 s1 h1 i1 q1 => by
    have fin : ∀ {l : Addr} {vs : List V} {xs : List D}, SqL X.K H1 l vs → IsL X.K F1 vs xs → Φ (.lst xs.reverse) M1 → ∃ a ys, V.ref l = .ref a ∧ SqL X.K H1 a ys ∧ ∀ p, H1 p = none → Q (.ref p) (upd H1 p (.lst ys.reverse)) := fun {l vs xs} hq hl q => ⟨l, vs, rfl, hq, fun p hp => by
      have n3 := h1.free hp
      exact z _ M1 _ _ _ (s1.trans (upd_same_ext n3)) (h1.laid hp) (.lst (.inl (.inl upd_same)) (hl.reverse.mono (upd_same_ext n3))) q⟩
    (first | split at q1 | (unfold aChain_k at q1; split at q1) | (unfold aP_k at q1; split at q1) | (unfold aSl_k at q1; split at q1) | (unfold aRev_k at q1; split at q1) | (unfold aRevM_k at q1; split at q1) | (unfold aApp_k at q1; split at q1) | (unfold aPop_k at q1; split at q1) | (unfold aPopAt_k at q1; split at q1) | (unfold fIx onD at q1; split at q1) | (unfold onD at q1; split at q1))
    · cases i1 with
      | lst hq hl => exact fin (h1.sub.seq hq) hl q1
    · obtain ⟨xs, hm, q1⟩ := q1
      cases i1
      obtain ⟨vs, e, zz⟩ := h1.lst hm
      exact fin (.inl (.inl e)) zz q1
    · exact q1.elim
theorem de_revM {k : Nat} {p1 p2 p3 : Pos} (ha : DE X T a ta) : DE X T (.Subscript a (.Slice none none (some (.UnaryOp .USub (.Constant (.int 1) k p1) p2)) p3) pos) (aRevM ta) :=
  de_of (pe_revL ha) fun F σ H Γ M Φ Q w q z => cE_mk w q fun d M1 x F1 H1 s1 h1 i1 q1 => by
    have fin : ∀ {l : Addr} {vs : List V} {xs : List D}, SqL X.K H1 l vs → IsL X.K F1 vs xs → (∀ p, Φ (.ref p) ((p, .lst xs.reverse) :: M1)) → ∃ a ys, V.ref l = .ref a ∧ SqL X.K H1 a ys ∧ ∀ p, H1 p = none → Q (.ref p) (upd H1 p (.lst ys.reverse)) := fun {l vs xs} hq hl q => ⟨l, vs, rfl, hq, fun p hp =>
      z (.ref p) ((p, .lst xs.reverse) :: M1) _ _ _ s1 (h1.newM (o := .lst xs.reverse) hp ⟨_, upd_same, hl.reverse⟩) (.ref p) (q p)⟩
    (first | split at q1 | (unfold aChain_k at q1; split at q1) | (unfold aP_k at q1; split at q1) | (unfold aSl_k at q1; split at q1) | (unfold aRev_k at q1; split at q1) | (unfold aRevM_k at q1; split at q1) | (unfold aApp_k at q1; split at q1) | (unfold aPop_k at q1; split at q1) | (unfold aPopAt_k at q1; split at q1) | (unfold fIx onD at q1; split at q1) | (unfold onD at q1; split at q1))
    · cases i1 with
      | lst hq hl => exact fin (h1.sub.seq hq) hl q1
    · obtain ⟨xs, hm, q1⟩ := q1
      cases i1
      obtain ⟨vs, e, zz⟩ := h1.lst hm
      exact fin (.inl (.inl e)) zz q1
    · exact q1.elim

/-! ### methods of a mutable list -/
theorem tyV_lst {l : Addr} {vs : List V} (h : H l = some (.lst vs)) : tyV K "list" (.ref l) H := .inl ⟨rfl, _, .inl (.inl h)⟩
def aApp_k (tb : AE) (Γ : Gm) (Φ : AK)  (d : D) (M1 : Mm) : Prop := match d with
  | .ref l => (∃ xs, (l, MO.lst xs) ∈ M1) ∧ tb Γ M1 fun e M2 => ∃ xs M3, Up M2 l (.lst xs) (.lst (xs ++ [e])) M3 ∧ xs.length < 100000 ∧ Φ .non M3
  | _ => False
def aApp (ta tb : AE) (Γ : Gm) (M : Mm) (Φ : AK) : Prop := ta Γ M fun d M1 => aApp_k tb Γ Φ d M1
theorem de_app {p2 : Pos} (ha : DE X T a ta) (hb : DE X T b tb) (hst : starEach [b] X.env = (false, eval b X.env) :: starEach [] X.env := by rfl)
    (hbase : attributeBase a "append" X.env (eval a X.env) = eval a X.env := by rfl)
    (hfew : ((backTo pos (starEach [b] X.env)).all (fun x => !x.1) && (backToKw pos (keywordEach [] X.env)).all (fun x => x.1.isSome) && decide ([b].length + ([] : List Keyword).length + (if ([] : List Keyword).isEmpty then 0 else 1) < 30)) = true := by rfl)
    (hline : (p2.endLine == pos.line) = true := by rfl) (hplain : (backTo pos (starEach [] X.env)).any (·.1) = false := by rfl) : DE X T (.Call (.Attribute a "append" p2) [b] [] pos) (aApp ta tb) :=
  de_of (pe_bm PySem.F.plainAttrs_list PySem.F.slot_list_append PySem.F.type_list_append mt_append ha (pa_cons hb pa_nil hst) hbase hfew hline hst hplain) fun F σ H Γ M Φ Q w q z => cE_mk w q fun d M1 x F1 H1 s1 h1 i1 q1 => by
    (first | split at q1 | (unfold aChain_k at q1; split at q1) | (unfold aP_k at q1; split at q1) | (unfold aSl_k at q1; split at q1) | (unfold aRev_k at q1; split at q1) | (unfold aRevM_k at q1; split at q1) | (unfold aApp_k at q1; split at q1) | (unfold aPop_k at q1; split at q1) | (unfold aPopAt_k at q1; split at q1) | (unfold fIx onD at q1; split at q1) | (unfold onD at q1; split at q1))
    · rename_i l
      obtain ⟨⟨xs0, hm⟩, q1⟩ := q1
      cases i1
      obtain ⟨vs0, e0, _⟩ := h1.lst hm
      refine ⟨tyV_lst e0, cE_mk (w.go s1 h1) q1 fun e M2 y F2 H2 s2 h2 i2 q2 => ?_⟩
      obtain ⟨xs, M3, up, hn, q2⟩ := q2
      obtain ⟨vs, e1, zz⟩ := h2.lst up.mem
      exact ⟨l, vs, y, rfl, rfl, e1, by rw [zz.length]; exact line_lt hn, z .non M3 _ F2 _ (s1.trans s2) (h2.put up ⟨_, upd_same, zz.append (.cons i2 .nil)⟩) .non q2⟩
    · exact q1.elim
def aPop_k (Φ : AK)  (d : D) (M1 : Mm) : Prop := match d with
  | .ref l => ∃ xs y M2, Up M1 l (.lst xs) (.lst xs.dropLast) M2 ∧ xs[xs.length - 1]? = some y ∧ Φ y M2
  | _ => False
def aPop (ta : AE) (Γ : Gm) (M : Mm) (Φ : AK) : Prop := ta Γ M fun d M1 => aPop_k Φ d M1
theorem de_pop {p2 : Pos} (ha : DE X T a ta) (hbase : attributeBase a "pop" X.env (eval a X.env) = eval a X.env := by rfl) (hline : (p2.endLine == pos.line) = true := by rfl) : DE X T (.Call (.Attribute a "pop" p2) [] [] pos) (aPop ta) :=
  de_of (pe_bm0 PySem.F.plainAttrs_list PySem.F.slot_list_pop PySem.F.type_list_pop mt_pop ha hbase hline) fun F σ H Γ M Φ Q w q z => cE_mk w q fun d M1 x F1 H1 s1 h1 i1 q1 => by
    (first | split at q1 | (unfold aChain_k at q1; split at q1) | (unfold aP_k at q1; split at q1) | (unfold aSl_k at q1; split at q1) | (unfold aRev_k at q1; split at q1) | (unfold aRevM_k at q1; split at q1) | (unfold aApp_k at q1; split at q1) | (unfold aPop_k at q1; split at q1) | (unfold aPopAt_k at q1; split at q1) | (unfold fIx onD at q1; split at q1) | (unfold onD at q1; split at q1))
    · rename_i l
      obtain ⟨xs, y, M2, up, hy, q1⟩ := q1
      cases i1
      obtain ⟨vs, e1, zz⟩ := h1.lst up.mem
      obtain ⟨v, hv, iv⟩ := zz.get hy
      exact ⟨tyV_lst e1, l, vs, v, rfl, rfl, e1, by rw [zz.length]; exact hv, z y M2 v F1 _ s1 (h1.put up ⟨_, upd_same, zz.dropLast⟩) iv q1⟩
    · exact q1.elim
def aPopAt_k (tb : AE) (Γ : Gm) (Φ : AK)  (d : D) (M1 : Mm) : Prop := match d with
  | .ref l => (∃ xs, (l, MO.lst xs) ∈ M1) ∧ tb Γ M1 fun e M2 => match e with
    | .int i => ∃ xs k y M3, Up M2 l (.lst xs) (.lst (xs.eraseIdx k)) M3 ∧ (-9223372036854775808 ≤ i ∧ i < 9223372036854775808) ∧ seqIndex? i xs.length = some k ∧ xs[k]? = some y ∧ Φ y M3
    | _ => False
  | _ => False
def aPopAt (ta tb : AE) (Γ : Gm) (M : Mm) (Φ : AK) : Prop := ta Γ M fun d M1 => aPopAt_k tb Γ Φ d M1
theorem de_popAt {p2 : Pos} (ha : DE X T a ta) (hb : DE X T b tb) (hst : starEach [b] X.env = (false, eval b X.env) :: starEach [] X.env := by rfl)
    (hbase : attributeBase a "pop" X.env (eval a X.env) = eval a X.env := by rfl)
    (hfew : ((backTo pos (starEach [b] X.env)).all (fun x => !x.1) && (backToKw pos (keywordEach [] X.env)).all (fun x => x.1.isSome) && decide ([b].length + ([] : List Keyword).length + (if ([] : List Keyword).isEmpty then 0 else 1) < 30)) = true := by rfl)
    (hline : (p2.endLine == pos.line) = true := by rfl) (hplain : (backTo pos (starEach [] X.env)).any (·.1) = false := by rfl) : DE X T (.Call (.Attribute a "pop" p2) [b] [] pos) (aPopAt ta tb) :=
  de_of (pe_bm PySem.F.plainAttrs_list PySem.F.slot_list_pop PySem.F.type_list_pop mt_popAt ha (pa_cons hb pa_nil hst) hbase hfew hline hst hplain) fun F σ H Γ M Φ Q w q z => cE_mk w q fun d M1 x F1 H1 s1 h1 i1 q1 => by
    (first | split at q1 | (unfold aChain_k at q1; split at q1) | (unfold aP_k at q1; split at q1) | (unfold aSl_k at q1; split at q1) | (unfold aRev_k at q1; split at q1) | (unfold aRevM_k at q1; split at q1) | (unfold aApp_k at q1; split at q1) | (unfold aPop_k at q1; split at q1) | (unfold aPopAt_k at q1; split at q1) | (unfold fIx onD at q1; split at q1) | (unfold onD at q1; split at q1))
    · rename_i l
      obtain ⟨⟨xs0, hm⟩, q1⟩ := q1
      cases i1
      obtain ⟨vs0, e0, _⟩ := h1.lst hm
      refine ⟨tyV_lst e0, cE_mk (w.go s1 h1) q1 fun e M2 y F2 H2 s2 h2 i2 q2 => ?_⟩
      (first | split at q2 | (unfold aChain_k at q2; split at q2) | (unfold aP_k at q2; split at q2) | (unfold aSl_k at q2; split at q2) | (unfold aRev_k at q2; split at q2) | (unfold aRevM_k at q2; split at q2) | (unfold aApp_k at q2; split at q2) | (unfold aPop_k at q2; split at q2) | (unfold aPopAt_k at q2; split at q2) | (unfold fIx onD at q2; split at q2) | (unfold onD at q2; split at q2))
      · rename_i i
        obtain ⟨xs, k, y, M3, up, hn, hk, hy, q2⟩ := q2
        cases i2
        obtain ⟨vs, e1, zz⟩ := h2.lst up.mem
        obtain ⟨v, hv, iv⟩ := zz.get hy
        exact ⟨l, vs, i, k, v, rfl, rfl, e1, by omega, by omega, by rw [zz.length]; exact hk, hv, z y M3 v F2 _ (s1.trans s2) (h2.put up ⟨_, upd_same, zz.eraseIdx k⟩) iv q2⟩
      · exact q2.elim
    · exact q1.elim
end
end DL

set_option Elab.async false
set_option linter.all false
set_option maxRecDepth 100000
set_option maxHeartbeats 2000000
namespace DL
open PySem L2
open PySem.PyData (strOk)

/-! ### == on data -/
def plD : Nat → D → Bool
  | _, .non => true
  | _, .bl _ => true
  | _, .int _ => true
  | _, .str x => strOk x
  | n + 1, .tup xs => xs.all (plD n)
  | n + 1, .lst xs => xs.all (plD n)
  | _, _ => false
def py : Nat → D → PyData
  | _, .non => .none
  | _, .bl b => .bool b
  | _, .int i => .int i
  | _, .str x => .str x
  | n + 1, .tup xs => .tuple (xs.map (py n))
  | n + 1, .lst xs => .list (xs.map (py n))
  | _, _ => .none
section
variable {n : Nat}
theorem plD_non : plD n .non = true := by cases n <;> rfl
theorem plD_bl {b : Bool} : plD n (.bl b) = true := by cases n <;> rfl
theorem plD_int {i : Int} : plD n (.int i) = true := by cases n <;> rfl
theorem plD_str {x : Str} : plD n (.str x) = strOk x := by cases n <;> rfl
theorem py_non : py n .non = .none := by cases n <;> rfl
theorem py_bl {b : Bool} : py n (.bl b) = .bool b := by cases n <;> rfl
theorem py_int {i : Int} : py n (.int i) = .int i := by cases n <;> rfl
theorem py_str {x : Str} : py n (.str x) = .str x := by cases n <;> rfl
theorem plD_ints {ns : List Int} : plD (n + 1) (.lst (ns.map D.int)) = true := by
  show (ns.map D.int).all (plD n) = true
  rw [List.all_eq_true]
  intro d hd
  obtain ⟨i, _, rfl⟩ := List.mem_map.mp hd
  exact plD_int
theorem eqv_nil {xs : List PyData} : PyData.eqv (.list xs) (.list []) = xs.isEmpty := by
  cases xs <;> rfl
end
theorem dpAll_of {K : PySem.W.Frag} {F H : Hp} {n : Nat} (ih : ∀ (d : D) (v : V), plD n d = true → Is K F v d → Dp K H v (py n d)) : ∀ {xs : List D} {vs : List V}, xs.all (plD n) = true → IsL K F vs xs → DpAll K H vs (xs.map (py n))
  | [], _, _, .nil => .nil
  | x :: xs, _, h, .cons i l => by
    rw [List.all_cons, Bool.and_eq_true] at h
    exact .cons (ih x _ h.1 i) (dpAll_of ih h.2 l)
theorem dp_of {K : PySem.W.Frag} {F H : Hp} (s : Same F H) : ∀ (n : Nat) (d : D) (v : V), plD n d = true → Is K F v d → Dp K H v (py n d)
  | n, .non, _, _, i => by
    cases i
    rw [py_non]
    exact .non
  | n, .bl b, _, _, i => by
    cases i
    rw [py_bl]
    exact .bl b
  | n, .int j, _, _, i => by
    cases i
    rw [py_int]
    exact .int j
  | n, .str x, _, _, i => by
    cases i
    rw [py_str]
    exact .str x
  | n + 1, .tup xs, _, h, i => by
    cases i with
    | tup hq hl => exact .tup (same_t s hq) (dpAll_of (dp_of s n) h hl)
  | n + 1, .lst xs, _, h, i => by
    cases i with
    | lst hq hl => exact .lst (s.seq hq) (dpAll_of (dp_of s n) h hl)
  | 0, .tup _, _, h, _ => by cases h
  | 0, .lst _, _, h, _ => by cases h
  | 0, .ref _, _, h, _ => by cases h
  | 0, .ty _, _, h, _ => by cases h
  | 0, .ins _ _ _, _, h, _ => by cases h
  | 0, .xc _ _ _ _, _, h, _ => by cases h
  | _ + 1, .ref _, _, h, _ => by cases h
  | _ + 1, .ty _, _, h, _ => by cases h
  | _ + 1, .ins _ _ _, _, h, _ => by cases h
  | _ + 1, .xc _ _ _ _, _, h, _ => by cases h
theorem canAll_of {n : Nat} (ih : ∀ d : D, plD n d = true → (py n d).canLay0 = true) : ∀ {xs : List D}, xs.all (plD n) = true → PyData.canLayAll0 (xs.map (py n)) = true
  | [], _ => rfl
  | x :: xs, h => by
    rw [List.all_cons, Bool.and_eq_true] at h
    show ((py n x).canLay0 && PyData.canLayAll0 (xs.map (py n))) = true
    rw [ih x h.1, canAll_of ih h.2]
    rfl
theorem depAll_of {n : Nat} (ih : ∀ d : D, plD n d = true → (py n d).depth ≤ n) : ∀ {xs : List D}, xs.all (plD n) = true → PyData.depthAll (xs.map (py n)) ≤ n
  | [], _ => Nat.zero_le _
  | x :: xs, h => by
    rw [List.all_cons, Bool.and_eq_true] at h
    show max (py n x).depth (PyData.depthAll (xs.map (py n))) ≤ n
    have h1 := ih x h.1
    have h2 := depAll_of ih h.2
    omega
theorem can_of : ∀ (n : Nat) (d : D), plD n d = true → (py n d).canLay0 = true ∧ (py n d).depth ≤ n
  | n, .non, _ => by rw [py_non]; exact ⟨rfl, Nat.zero_le _⟩
  | n, .bl b, _ => by rw [py_bl]; exact ⟨rfl, Nat.zero_le _⟩
  | n, .int j, _ => by rw [py_int]; exact ⟨rfl, Nat.zero_le _⟩
  | n, .str x, h => by
    rw [py_str]
    rw [plD_str] at h
    exact ⟨h, Nat.zero_le _⟩
  | n + 1, .tup xs, h => ⟨canAll_of (fun d hd => (can_of n d hd).1) h, Nat.succ_le_succ (depAll_of (fun d hd => (can_of n d hd).2) h)⟩
  | n + 1, .lst xs, h => ⟨canAll_of (fun d hd => (can_of n d hd).1) h, Nat.succ_le_succ (depAll_of (fun d hd => (can_of n d hd).2) h)⟩
  | 0, .tup _, h => by cases h
  | 0, .lst _, h => by cases h
  | 0, .ref _, h => by cases h
  | 0, .ty _, h => by cases h
  | 0, .ins _ _ _, h => by cases h
  | 0, .xc _ _ _ _, h => by cases h
  | _ + 1, .ref _, h => by cases h
  | _ + 1, .ty _, h => by cases h
  | _ + 1, .ins _ _ _, h => by cases h
  | _ + 1, .xc _ _ _ _, h => by cases h
theorem shaped_of {n : Nat} (hn : n ≤ 64) {d : D} (h : plD n d = true) : SeqAt.shaped (py n d) = true := by
  obtain ⟨h1, h2⟩ := can_of n d h
  unfold SeqAt.shaped
  rw [h1, decide_eq_true (Nat.le_trans h2 hn)]
  rfl
section
variable {X : Cx} {T : Ct} {e a b c : Expr} {pos : Pos} {K : PySem.W.Frag} {F F' F1 H H' H1 : Hp} {σ : St} {Γ : Gm} {M M' : Mm} {ta tb tc : AE} {tA tB : AT} {es : List Expr} {tr : AA} {B : Bx}
/-- read through -/
def rdM (d : D) (M : Mm) (k : D → Prop) : Prop := match d with
  | .ref l => ∃ xs, (l, MO.lst xs) ∈ M ∧ k (.lst xs)
  | d => k d
theorem rdM_is {d : D} {k : D → Prop} {v : V} (h : Hs K B M F H) (i : Is K F v d) (q : rdM d M k) : ∃ d', Is K H v d' ∧ k d' := by
  unfold rdM at q
  (first | split at q)
  · obtain ⟨xs, hm, q⟩ := q
    cases i
    obtain ⟨vs, e, z⟩ := h.lst hm
    exact ⟨_, .lst (.inl (.inl e)) (z.mono h.sub), q⟩
  · exact ⟨_, i.mono h.sub, q⟩
def eqS : D → D → Option Bool
  | .int i, .int j => some (decide (i = j))
  | .bl i, .bl j => some (decide (i = j))
  | .str x, .str y => some (decide (x = y))
  | .non, .non => some true
  | .non, .int _ => some false
  | .int _, .non => some false
  | .non, .bl _ => some false
  | .bl _, .non => some false
  | .non, .str _ => some false
  | .str _, .non => some false
  | .int _, .str _ => some false
  | .str _, .int _ => some false
  | .bl _, .str _ => some false
  | .str _, .bl _ => some false
  | _, _ => none
def fEqB (neg : Bool → Bool) (d e : D) (M : Mm) (Φ : AK) : Prop := match eqS d e with
  | some b => Φ (.bl (neg b)) M
  | none => rdM d M fun d' => rdM e M fun e' => (plD 60 d' = true ∧ plD 60 e' = true) ∧ Φ (.bl (neg (PyData.eqv (py 60 d') (py 60 e')))) M
abbrev fEq : A2 := fEqB fun b => b
abbrev fNe : A2 := fEqB fun b => !b
theorem eqS_of {d e : D} {x y : V} {b : Bool} (i1 : Is K F x d) (i2 : Is K F y e) (h : eqS d e = some b) : scal x y = true ∧ decide (x = y) = b := by
  cases d <;> cases e <;> (first | cases h) <;> (cases i1; cases i2; refine ⟨rfl, ?_⟩; simp)
theorem ab_eqG {neg : Bool → Bool} : Ab2 K B (fun x y H Q => (scal x y = true ∧ Q (.bl (neg (decide (x = y)))) H) ∨ (∃ d e, Dp K H x d ∧ Dp K H y e ∧ SeqAt.shaped d = true ∧ SeqAt.shaped e = true ∧ Q (.bl (neg (PyData.eqv d e))) H)) (fEqB neg) := fun F H x y d e M Φ Q h i1 i2 q z => by
  unfold fEqB at q
  (first | split at q)
  · rename_i b hb
    obtain ⟨h1, h2⟩ := eqS_of i1 i2 hb
    exact .inl ⟨h1, by rw [h2]; exact z _ M _ F H (Same.refl F) h (.bl _) q⟩
  · obtain ⟨d', j1, q⟩ := rdM_is h i1 q
    obtain ⟨e', j2, q⟩ := rdM_is h i2 q
    exact .inr ⟨_, _, dp_of (Same.refl H) 60 d' x q.1.1 j1, dp_of (Same.refl H) 60 e' y q.1.2 j2, shaped_of (by decide) q.1.1, shaped_of (by decide) q.1.2, z _ M _ F H (Same.refl F) h (.bl _) q.2⟩
theorem op_eqA {k : Nat} (hr : Room k X.A) : OpR X (compareOp .Eq) (fun x y H Q => (scal x y = true ∧ Q (.bl (decide (x = y))) H) ∨ (∃ d e, Dp X.K H x d ∧ Dp X.K H y e ∧ SeqAt.shaped d = true ∧ SeqAt.shaped e = true ∧ Q (.bl (PyData.eqv d e)) H)) := op_eq.or (op_eqD hr.units)
theorem op_neA {k : Nat} (hr : Room k X.A) : OpR X (compareOp .NotEq) (fun x y H Q => (scal x y = true ∧ Q (.bl (!decide (x = y))) H) ∨ (∃ d e, Dp X.K H x d ∧ Dp X.K H y e ∧ SeqAt.shaped d = true ∧ SeqAt.shaped e = true ∧ Q (.bl (!PyData.eqv d e)) H)) := op_ne.or (op_neD hr.units)
theorem de_eq {k : Nat} (hr : Room k X.A) (ha : DE X T a ta) (hb : DE X T b tb) : DE X T (.Compare a [.Eq] [b] pos) (aOp fEq ta tb) := de_cmp (op_eqA hr) (ab_eqG (neg := fun b => b)) ha hb
theorem de_ne {k : Nat} (hr : Room k X.A) (ha : DE X T a ta) (hb : DE X T b tb) : DE X T (.Compare a [.NotEq] [b] pos) (aOp fNe ta tb) := de_cmp (op_neA hr) (ab_eqG (neg := fun b => !b)) ha hb
/-- is None, is True -/
def isN : D → Bool
  | .non => true
  | _ => false
theorem isN_of {d : D} {x : V} (i : Is K F x d) : decide (x = .non) = isN d := by cases i <;> rfl
def fIsB (neg : Bool → Bool) (d e : D) (M : Mm) (Φ : AK) : Prop := match e with
  | .non => Φ (.bl (neg (isN d))) M
  | .bl b => match d with
    | .bl c => Φ (.bl (neg (decide (c = b)))) M
    | _ => False
  | _ => False
abbrev fIs : A2 := fIsB fun b => b
abbrev fIsNot : A2 := fIsB fun b => !b
theorem ab_isG {neg : Bool → Bool} : Ab2 K B (fun x y H Q => (y = .non ∧ Q (.bl (neg (decide (x = .non)))) H) ∨ (∃ a b : Bool, x = .bl a ∧ y = .bl b ∧ Q (.bl (neg (decide (a = b)))) H)) (fIsB neg) := fun F H x y d e M Φ Q h i1 i2 q z => by
  unfold fIsB at q
  (first | split at q)
  · cases i2
    exact .inl ⟨rfl, by rw [isN_of i1]; exact z _ M _ F H (Same.refl F) h (.bl _) q⟩
  · (first | split at q)
    · cases i1
      cases i2
      exact .inr ⟨_, _, rfl, rfl, z _ M _ F H (Same.refl F) h (.bl _) q⟩
    · exact q.elim
  · exact q.elim
theorem de_is (ha : DE X T a ta) (hb : DE X T b tb) : DE X T (.Compare a [.Is] [b] pos) (aOp fIs ta tb) := de_cmp (op_isN.or op_isBl) (ab_isG (neg := fun b => b)) ha hb
theorem de_isNot (ha : DE X T a ta) (hb : DE X T b tb) : DE X T (.Compare a [.IsNot] [b] pos) (aOp fIsNot ta tb) := de_cmp (op_notN.or op_notBl) (ab_isG (neg := fun b => !b)) ha hb

/-! ### built-ins upon ints -/
def fAbs (ds : List D) (M : Mm) (Φ : AK) : Prop := match ds with
  | [.int i] => Φ (.int (if i < 0 then -i else i)) M
  | _ => False
def fInt (ds : List D) (M : Mm) (Φ : AK) : Prop := match ds with
  | [.int i] => Φ (.int i) M
  | [.bl b] => Φ (.int (if b then 1 else 0)) M
  | _ => False
def fMax2 (ds : List D) (M : Mm) (Φ : AK) : Prop := match ds with
  | [.int i, .int j] => Φ (.int (max i j)) M
  | _ => False
def fMin2 (ds : List D) (M : Mm) (Φ : AK) : Prop := match ds with
  | [.int i, .int j] => Φ (.int (min i j)) M
  | _ => False
variable {p : Pos}
theorem de_abs (hg : Gl X "abs") (hm : X.mg "abs" = none) (ha : DE X T a ta) (hs : starEach [a] X.env = (false, eval a X.env) :: starEach [] X.env := by rfl) (hpl : (backTo pos (starEach [] X.env)).any (·.1) = false := by rfl) : DE X T (.Call (.Name "abs" p) [a] [] pos) (aCB fAbs (aCons ta aNil)) :=
  de_callB call_abs (fun F H vs ds M Φ Q h i q z => by
    unfold fAbs at q
    (first | split at q)
    · match vs, i with
      | [_], .cons i1 .nil =>
        cases i1
        exact ⟨_, rfl, z _ M _ F H (Same.refl F) h (.int _) q⟩
    · exact q.elim) hg hm PyProof.Rows.boot_abs (da_cons ha da_nil hs) (by decide) (by decide) hs hpl
theorem de_callInt (hg : Gl X "int") (hm : X.mg "int" = none) (ha : DE X T a ta) (hs : starEach [a] X.env = (false, eval a X.env) :: starEach [] X.env := by rfl) (hpl : (backTo pos (starEach [] X.env)).any (·.1) = false := by rfl) : DE X T (.Call (.Name "int" p) [a] [] pos) (aCB fInt (aCons ta aNil)) :=
  de_callTy call_int1 (fun F H vs ds M Φ Q h i q z => by
    unfold fInt at q
    (first | split at q)
    · match vs, i with
      | [_], .cons i1 .nil =>
        cases i1
        exact .inl ⟨_, rfl, z _ M _ F H (Same.refl F) h (.int _) q⟩
    · match vs, i with
      | [_], .cons i1 .nil =>
        cases i1
        exact .inr ⟨_, rfl, z _ M _ F H (Same.refl F) h (.int _) q⟩
    · exact q.elim) hg hm PyProof.Rows.boot_int (da_cons ha da_nil hs) (by decide) (by decide) hs hpl
theorem de_max2 (hc : X.calm = true) (hg : Gl X "max") (hm : X.mg "max" = none) (ha : DE X T a ta) (hb : DE X T b tb) (hs : starEach [a, b] X.env = (false, eval a X.env) :: starEach [b] X.env := by rfl) (hs2 : starEach [b] X.env = (false, eval b X.env) :: starEach [] X.env := by rfl) (hpl : (backTo pos (starEach [b] X.env)).any (·.1) = false := by rfl) : DE X T (.Call (.Name "max" p) [a, b] [] pos) (aCB fMax2 (aCons ta (aCons tb aNil))) :=
  de_callB (call_max2 hc) (fun F H vs ds M Φ Q h i q z => by
    unfold fMax2 at q
    (first | split at q)
    · match vs, i with
      | [_, _], .cons i1 (.cons i2 .nil) =>
        cases i1
        cases i2
        rename_i i' j'
        refine ⟨_, _, rfl, ?_⟩
        have e : (if j' > i' then j' else i') = max i' j' := by split <;> omega
        rw [e]
        exact z _ M _ F H (Same.refl F) h (.int _) q
    · exact q.elim) hg hm PyProof.Rows.boot_max (da_cons ha (da_cons hb da_nil hs2) hs) (by decide) (by decide) hs hpl
theorem de_min2 (hc : X.calm = true) (hg : Gl X "min") (hm : X.mg "min" = none) (ha : DE X T a ta) (hb : DE X T b tb) (hs : starEach [a, b] X.env = (false, eval a X.env) :: starEach [b] X.env := by rfl) (hs2 : starEach [b] X.env = (false, eval b X.env) :: starEach [] X.env := by rfl) (hpl : (backTo pos (starEach [b] X.env)).any (·.1) = false := by rfl) : DE X T (.Call (.Name "min" p) [a, b] [] pos) (aCB fMin2 (aCons ta (aCons tb aNil))) :=
  de_callB (call_min2 hc) (fun F H vs ds M Φ Q h i q z => by
    unfold fMin2 at q
    (first | split at q)
    · match vs, i with
      | [_, _], .cons i1 (.cons i2 .nil) =>
        cases i1
        cases i2
        rename_i i' j'
        refine ⟨_, _, rfl, ?_⟩
        have e : (if j' < i' then j' else i') = min i' j' := by split <;> omega
        rw [e]
        exact z _ M _ F H (Same.refl F) h (.int _) q
    · exact q.elim) hg hm (by decide +kernel) (da_cons ha (da_cons hb da_nil hs2) hs) (by decide) (by decide) hs hpl
/-! ### isinstance -/
def tyD : D → Mm → Option String
  | .non, _ => some "NoneType"
  | .bl _, _ => some "bool"
  | .int _, _ => some "int"
  | .str _, _ => some "str"
  | .tup _, _ => some "tuple"
  | .lst _, _ => some "list"
  | _, _ => none
theorem tyX_of {K : PySem.W.Frag} {F H : Hp} {M : Mm} {d : D} {x : V} {t : String} (s : Same F H) (i : Is K F x d) (h : tyD d M = some t) : TyX K H x (.type t) := by
  cases d <;> cases h <;> cases i
  · exact .base .non
  · exact .base (.bl _)
  · exact .base (.int _)
  · exact .base (.str _)
  · rename_i hq hl
    rcases same_t s hq with (q | ⟨o, q⟩) | ⟨o, its, n, q, c, _⟩
    · exact .base (.tup q)
    · exact .fTuple q
    · exact .kTuple q c
  · rename_i hq hl
    rcases s.seq hq with (q | ⟨o, q⟩) | ⟨o, its, n, q, c, _⟩
    · exact .base (.lst q)
    · exact .base (.frz q)
    · exact .kList q c
def fIsi (n : String) (d : D) (M : Mm) (Φ : AK) : Prop := match tyD d M with
  | some t => match kitB t n with
    | some b => Φ (.bl b) M
    | none => False
  | none => False
def aIsi (n : String) (ta : AE) (Γ : Gm) (M : Mm) (Φ : AK) : Prop := ta Γ M fun d M1 => fIsi n d M1 Φ
theorem de_isi {x : Str} {n : String} {p' : Pos} (hg : Gl X "isinstance") (hm : X.mg "isinstance" = none) (hg2 : Gl X x) (hm2 : X.mg x = none) (hv : bootBuiltins x = some (.type n)) (ha : DE X T a ta) (hn : x ≠ "__name__" := by decide) (hd : (x == ("__debug__" : Str)) = false := by decide)
    (hs : starEach [a, .Name x p'] X.env = (false, eval a X.env) :: starEach [.Name x p'] X.env := by rfl) (hs2 : starEach [.Name x p'] X.env = (false, eval (.Name x p') X.env) :: starEach [] X.env := by rfl) (hpl : (backTo pos (starEach [.Name x p'] X.env)).any (·.1) = false := by rfl) :
    DE X T (.Call (.Name "isinstance" p) [a, .Name x p'] [] pos) (aIsi n ta) :=
  de_of (pe_callB call_isi hg hm PyProof.Rows.boot_isinstance (pa_cons ha (pa_cons (pe_bltn hg2 hm2 hv (v := .ty n) rfl hn hd) pa_nil hs2) hs) (by decide) (by decide) hs hpl) fun F σ H Γ M Φ Q w q z => cE_mk w q fun d M1 v F1 H1 s1 h1 i1 q1 => by
    unfold fIsi at q1
    (first | split at q1)
    · rename_i t ht
      (first | split at q1)
      · rename_i b hb
        exact ⟨v, .ty n, _, _, b, rfl, .ty n, tyX_of h1.sub i1 ht, kit_ty hb, z _ M1 _ F1 H1 s1 h1 (.bl b) q1⟩
      · exact q1.elim
    · exact q1.elim
/-! ### sequences made of sequences -/
def fTuple (ds : List D) (M : Mm) (Φ : AK) : Prop := match ds with
  | [d] => seqOf d M fun xs => Φ (.tup xs) M
  | _ => False
theorem de_tupleOf (hg : Gl X "tuple") (hm : X.mg "tuple" = none) (ha : DE X T a ta) (hs : starEach [a] X.env = (false, eval a X.env) :: starEach [] X.env := by rfl) (hpl : (backTo pos (starEach [] X.env)).any (·.1) = false := by rfl) : DE X T (.Call (.Name "tuple" p) [a] [] pos) (aCB fTuple (aCons ta aNil)) :=
  de_callTy call_tuple_of (fun F H vs ds M Φ Q h i q z => by
    unfold fTuple at q
    (first | split at q)
    · match vs, i with
      | [_], .cons i1 .nil =>
        have fin : ∀ {l : Addr} {ws : List V} {xs : List D}, SqL X.K H l ws → IsL X.K F ws xs → Φ (.tup xs) M → ∃ p ys, [V.ref l] = [.ref p] ∧ ((SqL X.K H p ys ∧ ∀ l, H l = none → Q (.ref l) (upd H l (.tup ys))) ∨ (SqT X.K H p ys ∧ Q (.ref p) H)) := fun {l ws xs} hq hl q => ⟨l, ws, rfl, .inl ⟨hq, fun p hp => by
          have n1 := h.free hp
          exact z _ M _ _ _ (upd_same_ext n1) (h.laid hp) (.tup (.inl (.inl upd_same)) (hl.mono (upd_same_ext n1))) q⟩⟩
        unfold seqOf at q
        (first | split at q)
        · cases i1 with
          | lst hq hl => exact fin (h.sub.seq hq) hl q
        · cases i1 with
          | tup hq hl => exact ⟨_, _, rfl, .inr ⟨same_t h.sub hq, z _ M _ F H (Same.refl F) h (.tup hq hl) q⟩⟩
        · obtain ⟨xs, hm, q⟩ := q
          cases i1
          obtain ⟨vs, e, zz⟩ := h.lst hm
          exact fin (.inl (.inl e)) zz q
        · exact q.elim
    · exact q.elim) hg hm (by decide +kernel) (da_cons ha da_nil hs) (by decide) (by decide) hs hpl
/-- list(x): not changed; changed later -/
def fList (ds : List D) (M : Mm) (Φ : AK) : Prop := match ds with
  | [d] => seqOf d M fun xs => Φ (.lst xs) M
  | _ => False
def fListM (ds : List D) (M : Mm) (Φ : AK) : Prop := match ds with
  | [d] => seqOf d M fun xs => ∀ l, Φ (.ref l) ((l, .lst xs) :: M)
  | _ => False
theorem de_listOf (hg : Gl X "list") (hm : X.mg "list" = none) (ha : DE X T a ta) (hs : starEach [a] X.env = (false, eval a X.env) :: starEach [] X.env := by rfl) (hpl : (backTo pos (starEach [] X.env)).any (·.1) = false := by rfl) : DE X T (.Call (.Name "list" p) [a] [] pos) (aCB fList (aCons ta aNil)) :=
  de_callTy call_list_of (fun F H vs ds M Φ Q h i q z => by
    unfold fList at q
    (first | split at q)
    · match vs, i with
      | [_], .cons i1 .nil =>
        obtain ⟨l, ws, xs, rfl, hq, hl, q⟩ := seq_at h i1 q
        refine ⟨l, ws, rfl, hq, fun p hp => ?_⟩
        have n1 := h.free hp
        exact z _ M _ _ _ (upd_same_ext n1) (h.laid hp) (.lst (.inl (.inl upd_same)) (hl.mono (upd_same_ext n1))) q
    · exact q.elim) hg hm (by decide +kernel) (da_cons ha da_nil hs) (by decide) (by decide) hs hpl
theorem de_listOfM (hg : Gl X "list") (hm : X.mg "list" = none) (ha : DE X T a ta) (hs : starEach [a] X.env = (false, eval a X.env) :: starEach [] X.env := by rfl) (hpl : (backTo pos (starEach [] X.env)).any (·.1) = false := by rfl) : DE X T (.Call (.Name "list" p) [a] [] pos) (aCB fListM (aCons ta aNil)) :=
  de_callTy call_list_of (fun F H vs ds M Φ Q h i q z => by
    unfold fListM at q
    (first | split at q)
    · match vs, i with
      | [_], .cons i1 .nil =>
        obtain ⟨l, ws, xs, rfl, hq, hl, q⟩ := seq_at h i1 q
        refine ⟨l, ws, rfl, hq, fun p hp => ?_⟩
        exact z (.ref p) ((p, .lst xs) :: M) _ _ _ (Same.refl F) (h.newM (o := .lst xs) hp ⟨_, upd_same, hl⟩) (.ref p) (q p)
    · exact q.elim) hg hm (by decide +kernel) (da_cons ha da_nil hs) (by decide) (by decide) hs hpl
/-! ### sums, all, any, the greatest -/
def fAll (ds : List D) (M : Mm) (Φ : AK) : Prop := match ds with
  | [.lst xs] => ∃ bs : List Bool, xs = bs.map D.bl ∧ Φ (.bl (bs.all id)) M
  | _ => False
def fAny (ds : List D) (M : Mm) (Φ : AK) : Prop := match ds with
  | [.lst xs] => ∃ bs : List Bool, xs = bs.map D.bl ∧ Φ (.bl (bs.any id)) M
  | _ => False
def fSum (ds : List D) (M : Mm) (Φ : AK) : Prop := match ds with
  | [.lst xs] => ∃ ns : List Int, xs = ns.map D.int ∧ Φ (.int ns.sum) M
  | _ => False
def fMaxL (ds : List D) (M : Mm) (Φ : AK) : Prop := match ds with
  | [.lst xs] => ∃ ns : List Int, xs = ns.map D.int ∧ 0 < ns.length ∧ ∀ m, m ∈ ns → (∀ y, y ∈ ns → y ≤ m) → Φ (.int m) M
  | _ => False
def fMinL (ds : List D) (M : Mm) (Φ : AK) : Prop := match ds with
  | [.lst xs] => ∃ ns : List Int, xs = ns.map D.int ∧ 0 < ns.length ∧ ∀ m, m ∈ ns → (∀ y, y ∈ ns → m ≤ y) → Φ (.int m) M
  | _ => False
theorem de_all (hc : X.calm = true) (hg : Gl X "all") (hm : X.mg "all" = none) (ha : DE X T a ta) (hs : starEach [a] X.env = (false, eval a X.env) :: starEach [] X.env := by rfl) (hpl : (backTo pos (starEach [] X.env)).any (·.1) = false := by rfl) : DE X T (.Call (.Name "all" p) [a] [] pos) (aCB fAll (aCons ta aNil)) :=
  de_callB (cr_all hc) (fun F H vs ds M Φ Q h i q z => by
    unfold fAll at q
    (first | split at q)
    · match vs, i with
      | [_], .cons (.lst hq hl) .nil =>
        obtain ⟨bs, rfl, q⟩ := q
        rw [hl.bls] at hq
        exact ⟨_, bs, rfl, h.sub.seq hq, z _ M _ F H (Same.refl F) h (.bl _) q⟩
    · exact q.elim) hg hm (by decide +kernel) (da_cons ha da_nil hs) (by decide) (by decide) hs hpl
theorem de_any (hc : X.calm = true) (hg : Gl X "any") (hm : X.mg "any" = none) (ha : DE X T a ta) (hs : starEach [a] X.env = (false, eval a X.env) :: starEach [] X.env := by rfl) (hpl : (backTo pos (starEach [] X.env)).any (·.1) = false := by rfl) : DE X T (.Call (.Name "any" p) [a] [] pos) (aCB fAny (aCons ta aNil)) :=
  de_callB (cr_any hc) (fun F H vs ds M Φ Q h i q z => by
    unfold fAny at q
    (first | split at q)
    · match vs, i with
      | [_], .cons (.lst hq hl) .nil =>
        obtain ⟨bs, rfl, q⟩ := q
        rw [hl.bls] at hq
        exact ⟨_, bs, rfl, h.sub.seq hq, z _ M _ F H (Same.refl F) h (.bl _) q⟩
    · exact q.elim) hg hm (by decide +kernel) (da_cons ha da_nil hs) (by decide) (by decide) hs hpl
theorem de_sum (hc : X.calm = true) (hg : Gl X "sum") (hm : X.mg "sum" = none) (ha : DE X T a ta) (hs : starEach [a] X.env = (false, eval a X.env) :: starEach [] X.env := by rfl) (hpl : (backTo pos (starEach [] X.env)).any (·.1) = false := by rfl) : DE X T (.Call (.Name "sum" p) [a] [] pos) (aCB fSum (aCons ta aNil)) :=
  de_callB (cr_sum hc) (fun F H vs ds M Φ Q h i q z => by
    unfold fSum at q
    (first | split at q)
    · match vs, i with
      | [_], .cons (.lst hq hl) .nil =>
        obtain ⟨bs, rfl, q⟩ := q
        rw [hl.ints] at hq
        exact ⟨_, bs, rfl, h.sub.seq hq, z _ M _ F H (Same.refl F) h (.int _) q⟩
    · exact q.elim) hg hm (by decide +kernel) (da_cons ha da_nil hs) (by decide) (by decide) hs hpl
theorem de_maxL (hc : X.calm = true) (hg : Gl X "max") (hm : X.mg "max" = none) (ha : DE X T a ta) (hs : starEach [a] X.env = (false, eval a X.env) :: starEach [] X.env := by rfl) (hpl : (backTo pos (starEach [] X.env)).any (·.1) = false := by rfl) : DE X T (.Call (.Name "max" p) [a] [] pos) (aCB fMaxL (aCons ta aNil)) :=
  de_callB (cr_max hc) (fun F H vs ds M Φ Q h i q z => by
    unfold fMaxL at q
    (first | split at q)
    · match vs, i with
      | [_], .cons (.lst hq hl) .nil =>
        obtain ⟨bs, rfl, h0, q⟩ := q
        rw [hl.ints] at hq
        exact ⟨_, bs, rfl, h.sub.seq hq, h0, fun m hm hle => z _ M _ F H (Same.refl F) h (.int _) (q m hm hle)⟩
    · exact q.elim) hg hm PyProof.Rows.boot_max (da_cons ha da_nil hs) (by decide) (by decide) hs hpl
theorem de_minL (hc : X.calm = true) (hg : Gl X "min") (hm : X.mg "min" = none) (ha : DE X T a ta) (hs : starEach [a] X.env = (false, eval a X.env) :: starEach [] X.env := by rfl) (hpl : (backTo pos (starEach [] X.env)).any (·.1) = false := by rfl) : DE X T (.Call (.Name "min" p) [a] [] pos) (aCB fMinL (aCons ta aNil)) :=
  de_callB (cr_min hc) (fun F H vs ds M Φ Q h i q z => by
    unfold fMinL at q
    (first | split at q)
    · match vs, i with
      | [_], .cons (.lst hq hl) .nil =>
        obtain ⟨bs, rfl, h0, q⟩ := q
        rw [hl.ints] at hq
        exact ⟨_, bs, rfl, h.sub.seq hq, h0, fun m hm hle => z _ M _ F H (Same.refl F) h (.int _) (q m hm hle)⟩
    · exact q.elim) hg hm (by decide +kernel) (da_cons ha da_nil hs) (by decide) (by decide) hs hpl
end
end DL

set_option Elab.async false
set_option linter.all false
set_option maxRecDepth 100000
set_option maxHeartbeats 2000000
namespace DL
open PySem L2
section
variable {X : Cx} {T : Ct} {a b : Expr} {pos : Pos} {ta tb : AE}
theorem dt_lt (ha : DE X T a ta) (hb : DE X T b tb) : DT X T (.Compare a [.Lt] [b] pos) (aB (aOp fLt ta tb)) := dt_cmp op_lt ab_B0 ha hb
theorem dt_le (ha : DE X T a ta) (hb : DE X T b tb) : DT X T (.Compare a [.LtE] [b] pos) (aB (aOp fLe ta tb)) := dt_cmp op_le ab_B0 ha hb
theorem dt_gt (ha : DE X T a ta) (hb : DE X T b tb) : DT X T (.Compare a [.Gt] [b] pos) (aB (aOp fGt ta tb)) := dt_cmp op_gt ab_B0 ha hb
theorem dt_ge (ha : DE X T a ta) (hb : DE X T b tb) : DT X T (.Compare a [.GtE] [b] pos) (aB (aOp fGe ta tb)) := dt_cmp op_ge ab_B0 ha hb
theorem dt_eq {k : Nat} (hr : Room k X.A) (ha : DE X T a ta) (hb : DE X T b tb) : DT X T (.Compare a [.Eq] [b] pos) (aB (aOp fEq ta tb)) := dt_cmp (op_eqA hr) (ab_eqG (neg := fun b => b)) ha hb
theorem dt_ne {k : Nat} (hr : Room k X.A) (ha : DE X T a ta) (hb : DE X T b tb) : DT X T (.Compare a [.NotEq] [b] pos) (aB (aOp fNe ta tb)) := dt_cmp (op_neA hr) (ab_eqG (neg := fun b => !b)) ha hb
theorem dt_is (ha : DE X T a ta) (hb : DE X T b tb) : DT X T (.Compare a [.Is] [b] pos) (aB (aOp fIs ta tb)) := dt_cmp (op_isN.or op_isBl) (ab_isG (neg := fun b => b)) ha hb
theorem dt_isNot (ha : DE X T a ta) (hb : DE X T b tb) : DT X T (.Compare a [.IsNot] [b] pos) (aB (aOp fIsNot ta tb)) := dt_cmp (op_notN.or op_notBl) (ab_isG (neg := fun b => !b)) ha hb
end
theorem all_ints {n : Nat} {ns : List Int} : (ns.map D.int).all (plD n) = true := by
  rw [List.all_eq_true]
  intro d hd
  obtain ⟨i, _, rfl⟩ := List.mem_map.mp hd
  exact plD_int
section
variable {X : Cx} {T : Ct} {a : Expr} {pos lpos : Pos} {ta ta' : AE} {tt tt' : AT}
theorem de_imp (h : DE X T a ta) (k : ∀ Γ M Φ, ta' Γ M Φ → ta Γ M Φ) : DE X T a ta' := ⟨fun pins s σ H Q I ⟨F, Γ, M, Φ, w, q, z⟩ => h.run pins s σ H Q I ⟨F, Γ, M, Φ, w, k Γ M Φ q, z⟩⟩
theorem dt_imp (h : DT X T a tt) (k : ∀ Γ M Φ, tt' Γ M Φ → tt Γ M Φ) : DT X T a tt' := ⟨fun pins s σ H Q I ⟨F, Γ, M, Φ, w, q, z⟩ => h.run pins s σ H Q I ⟨F, Γ, M, Φ, w, k Γ M Φ q, z⟩⟩
/-- x != [], x == [] -/
def lstOf (d : D) (M : Mm) (k : List D → Prop) : Prop := match d with
  | .lst xs => k xs
  | .ref l => ∃ xs, (l, MO.lst xs) ∈ M ∧ k xs
  | _ => False
def fNil (neg : Bool → Bool) (d : D) (M : Mm) (k : Bool → Mm → Prop) : Prop := lstOf d M fun xs => xs.all (plD 59) = true ∧ k (neg xs.isEmpty) M
theorem nil_go {neg : Bool → Bool} {d : D} {M : Mm} {k : Bool → Mm → Prop} (h : fNil neg d M k) : fEqB neg d (.lst []) M fun d M => match d with
  | .bl b => k b M
  | _ => False := by
  unfold fNil lstOf at h
  unfold fEqB
  split at h
  · rename_i xs
    refine ⟨⟨h.1, rfl⟩, ?_⟩
    have e : PyData.eqv (py 60 (.lst xs)) (py 60 (.lst [])) = xs.isEmpty := (eqv_nil).trans (by cases xs <;> rfl)
    show k (neg _) M
    rw [e]
    exact h.2
  · obtain ⟨xs, hm, h⟩ := h
    refine ⟨xs, hm, ⟨h.1, rfl⟩, ?_⟩
    have e : PyData.eqv (py 60 (.lst xs)) (py 60 (.lst [])) = xs.isEmpty := (eqv_nil).trans (by cases xs <;> rfl)
    show k (neg _) M
    rw [e]
    exact h.2
  · exact h.elim
theorem fEqB_mono {neg : Bool → Bool} {d e : D} {M : Mm} {Φ Φ' : AK} (h : ∀ b, Φ (.bl b) M → Φ' (.bl b) M) (q : fEqB neg d e M Φ) : fEqB neg d e M Φ' := by
  unfold fEqB at q ⊢
  (first | split at q)
  · exact h _ q
  · unfold rdM at q ⊢
    (first | split at q)
    · obtain ⟨xs, hm, q⟩ := q
      refine ⟨xs, hm, ?_⟩
      (first | split at q)
      · obtain ⟨ys, hm2, q⟩ := q
        exact ⟨ys, hm2, q.1, h _ q.2⟩
      · exact ⟨q.1, h _ q.2⟩
    · (first | split at q)
      · obtain ⟨ys, hm2, q⟩ := q
        exact ⟨ys, hm2, q.1, h _ q.2⟩
      · exact ⟨q.1, h _ q.2⟩
def aNil? (neg : Bool → Bool) (ta : AE) (Γ : Gm) (M : Mm) (Φ : Bool → Mm → Prop) : Prop := ta Γ M fun d M1 => fNil neg d M1 Φ
def aNilV (neg : Bool → Bool) (ta : AE) (Γ : Gm) (M : Mm) (Φ : AK) : Prop := ta Γ M fun d M1 => fNil neg d M1 fun b M2 => Φ (.bl b) M2
end
/-- a reading is monotone in what is wanted: expressions made of our rules are -/
theorem nilT {X : Cx} {T : Ct} {a : Expr} {pos lpos : Pos} {ta : AE} {k : Nat} (hr : Room k X.A) (ha : DE X T a ta) : DT X T (.Compare a [.NotEq] [.List [] lpos] pos) (aNil? (fun b => !b) ta) :=
  dt_of (pt_cmpR (op_neA hr) ha (de_lst (T := T) da_nil) (nomark _)) fun F σ H Γ M Φ Q w q z =>
    cE_mk w q fun d M1 x F1 H1 s1 h1 i1 q1 => cE_mk (Φ := fun e M2 => e = .lst [] ∧ M2 = M1) (w.go s1 h1) ⟨by decide, rfl, rfl⟩ fun e M2 y F2 H2 s2 h2 i2 ⟨e1, e2⟩ => by
      subst e1 e2
      exact ab_eqG (neg := fun b => !b) F2 H2 x y d (.lst []) M2 _ (fun x H' => ∃ k, x = V.bl k ∧ Q k H') h2 (i1.mono s2) i2 (nil_go q1) fun g M3 v F3 H3 s3 h3 i3 q3 => by
        cases g with
        | bl b =>
          cases i3
          exact ⟨b, rfl, z b M3 F3 H3 ((s1.trans s2).trans s3) h3 q3⟩
        | _ => exact q3.elim
theorem nilT' {X : Cx} {T : Ct} {a : Expr} {pos lpos : Pos} {ta : AE} {k : Nat} (hr : Room k X.A) (ha : DE X T a ta) : DT X T (.Compare a [.Eq] [.List [] lpos] pos) (aNil? (fun b => b) ta) :=
  dt_of (pt_cmpR (op_eqA hr) ha (de_lst (T := T) da_nil) (nomark _)) fun F σ H Γ M Φ Q w q z =>
    cE_mk w q fun d M1 x F1 H1 s1 h1 i1 q1 => cE_mk (Φ := fun e M2 => e = .lst [] ∧ M2 = M1) (w.go s1 h1) ⟨by decide, rfl, rfl⟩ fun e M2 y F2 H2 s2 h2 i2 ⟨e1, e2⟩ => by
      subst e1 e2
      exact ab_eqG (neg := fun b => b) F2 H2 x y d (.lst []) M2 _ (fun x H' => ∃ k, x = V.bl k ∧ Q k H') h2 (i1.mono s2) i2 (nil_go q1) fun g M3 v F3 H3 s3 h3 i3 q3 => by
        cases g with
        | bl b =>
          cases i3
          exact ⟨b, rfl, z b M3 F3 H3 ((s1.trans s2).trans s3) h3 q3⟩
        | _ => exact q3.elim
/-! ### the law's own end -/
def aspLaw : ASp := fun ds M Φ Ψ => ∃ ns : List Int, ds = [.lst (ns.map D.int)] ∧ ns.length ≤ 63 ∧ M = [] ∧ ∀ M', Φ (.bl true) M'
theorem aspLaw_len : ∀ ds M Φ Ψ, aspLaw ds M Φ Ψ → ds.length = 1 := fun ds M Φ Ψ ⟨ns, e, _⟩ => by rw [e]; rfl
/-- what is known, without the tables -/
def cutT (H : Hp) : Hp := fun b => match H b with
  | some (.tbl _) => none
  | o => o
theorem cutT_sub {H : Hp} : Same (cutT H) H := fun b o e => by
  unfold cutT at e
  split at e
  · cases e
  · exact e
theorem cutT_nt {H : Hp} : ∀ b ps, cutT H b ≠ some (.tbl ps) := fun b ps e => by
  unfold cutT at e
  split at e
  · cases e
  · rename_i h
    exact h ps e
theorem cutT_at {H : Hp} {b : Addr} {o : HO} (e : H b = some o) (ho : ∀ ps, o ≠ .tbl ps) : cutT H b = some o := by
  unfold cutT
  split
  · rename_i ps h
    rw [e] at h
    exact absurd (Option.some.inj h) (ho ps)
  · exact e
theorem cutT_sq {K : PySem.W.Frag} {H : Hp} {a : Addr} {vs : List V} (h : SqL K H a vs) : SqL K (cutT H) a vs := by
  rcases h with (h | ⟨o, h⟩) | h
  · exact .inl (.inl (cutT_at h fun ps z => by cases z))
  · exact .inl (.inr ⟨o, cutT_at h fun ps z => by cases z⟩)
  · exact .inr h
theorem law_conc {K : PySem.W.Frag} {H : Hp} {a : Addr} {ns : List Int} (hl : ns.length ≤ 63) (hS : SqL K H a (ns.map V.int)) : conc K Bx.no aspLaw [.ref a] H (fun v _ => v = .bl true) fun _ _ _ => False :=
  ⟨[.lst (ns.map D.int)], cutT H, [], fun d _ => d = .bl true, fun _ _ => False, .cons (.lst (cutT_sq hS) (IsL.of_ints ns)) .nil, ⟨cutT_sub, fun _ h => absurd h List.not_mem_nil, List.nodup_nil, trivial, fun _ h => absurd h List.not_mem_nil, cutT_nt⟩, ⟨ns, rfl, hl, rfl, fun _ => rfl⟩,
    fun d M' v F' H' _ _ i e => by
      subst e
      cases i
      rfl, fun _ _ _ _ _ _ _ _ _ z => z⟩
theorem law_calm {P : Program} {w : World} {l : List Env} {H : Hp} {s s' : Shared} {e : Value} (h : L2N.CX P w l H s (fun _ _ _ => False) e s') : False := by
  obtain ⟨_, _, _, _, _, _, _, _, _, _, _, _, z⟩ := h
  exact z
/-! ### reading on -/
theorem aSeq_step {t u : AS} {A : AEnds} {Γ : Gm} {M : Mm} (h : t { A with nx := u A } Γ M) : aSeq t u A Γ M := h
/-- a word between two statements -/
theorem aSeq_cut {t u : AS} {A : AEnds} {Γ : Gm} {M : Mm} (R : Gm → Mm → Prop) (mono : ∀ g : Gm → Mm → Prop, (∀ Γ' M', R Γ' M' → g Γ' M') → t { A with nx := R } Γ M → t { A with nx := g } Γ M) (h : t { A with nx := R } Γ M) (k : ∀ Γ' M', R Γ' M' → u A Γ' M') : aSeq t u A Γ M := mono _ k h
/-- loops by a word and a measure -/
theorem aWhile_by {t : AT} {tb : AS} {A : AEnds} {Γ : Gm} {M : Mm} (I : Nat → Gm → Mm → Prop) (n : Nat) (h0 : I n Γ M)
    (hs : ∀ n Γ' M', I n Γ' M' → t Γ' M' fun b M1 => (b = true → tb { nx := fun Γ2 M2 => ∃ m, m < n ∧ I m Γ2 M2, rt := A.rt, bk := A.nx, ct := fun Γ2 M2 => ∃ m, m < n ∧ I m Γ2 M2 } Γ' M1) ∧ (b = false → A.nx Γ' M1)) : aWhile t tb A Γ M := ⟨I, ⟨n, h0⟩, hs⟩

/-! ### where the draws come from: [cells, stir] -/
def bxHeap (h c : Addr) : Bx where
  fp := [h, c]
  ok := fun _ H => h ≠ c ∧ ∃ (cs : List Int) (s : Int), H h = some (.lst [.ref c, .int s]) ∧ H c = some (.lst (cs.map V.int)) ∧ cs.length ≤ 1000
  up := fun _ x => x
  loc := fun {_ H H'} e ⟨n, cs, s, h1, h2, h3⟩ => ⟨n, cs, s, (e h (by simp)).trans h1, (e c (by simp)).trans h2, h3⟩
  low := fun {_ H} ⟨n, cs, s, h1, h2, _⟩ a ha => by
    rcases List.mem_cons.mp ha with e | ha
    · subst e
      exact ⟨_, h1⟩
    · rcases List.mem_cons.mp ha with e | ha
      · subst e
        exact ⟨_, h2⟩
      · exact absurd ha List.not_mem_nil
/-- the box as two mutable lists -/
abbrev heapM (h c : Addr) (cs : List Int) (s : Int) : Mm := [(h, .lst [.ref c, .int s]), (c, .lst (cs.map D.int))]
section
variable {K : PySem.W.Frag} {M : Mm} {F H : Hp} {h c : Addr}
theorem heap_open (x : Hs K (bxHeap h c) M F H) : ∃ cs s, cs.length ≤ 1000 ∧ Hs K Bx.no (heapM h c cs s ++ M) F H := by
  obtain ⟨n, cs, s, h1, h2, h3⟩ := x.box
  have nh : ∀ q ∈ M, q.1 ≠ h := fun q hq e => (x.mem q hq).2.1 (by rw [e]; exact List.mem_cons_self)
  have nc : ∀ q ∈ M, q.1 ≠ c := fun q hq e => (x.mem q hq).2.1 (by rw [e]; exact List.mem_cons_of_mem _ List.mem_cons_self)
  refine ⟨cs, s, h3, x.sub, fun q hq => ?_, ?_, trivial, fun _ hb => absurd hb List.not_mem_nil, x.nt⟩
  · rcases List.mem_cons.mp hq with e | hq
    · subst e
      exact ⟨x.bfr h List.mem_cons_self, List.not_mem_nil, _, h1, .cons (.ref c) (.cons (.int s) .nil)⟩
    · rcases List.mem_cons.mp hq with e | hq
      · subst e
        exact ⟨x.bfr c (List.mem_cons_of_mem _ List.mem_cons_self), List.not_mem_nil, _, h2, IsL.of_ints cs⟩
      · obtain ⟨m1, m2, m3⟩ := x.mem q hq
        exact ⟨m1, List.not_mem_nil, m3⟩
  · show (h :: c :: M.map (·.1)).Nodup
    rw [List.nodup_cons, List.nodup_cons]
    refine ⟨fun hm => ?_, fun hm => ?_, x.nd⟩
    · rcases List.mem_cons.mp hm with e | hm
      · exact n e
      · obtain ⟨q, hq, e⟩ := List.mem_map.mp hm
        exact nh q hq e
    · obtain ⟨q, hq, e⟩ := List.mem_map.mp hm
      exact nc q hq e
theorem heap_close {cs : List Int} {s : Int} (hl : cs.length ≤ 1000) (x : Hs K Bx.no (heapM h c cs s ++ M) F H) : Hs K (bxHeap h c) M F H := by
  have nd : (h :: c :: M.map (·.1)).Nodup := x.nd
  rw [List.nodup_cons, List.nodup_cons] at nd
  obtain ⟨n1, n2, nd⟩ := nd
  obtain ⟨f1, _, vs1, e1, l1⟩ := x.mem (h, .lst [.ref c, .int s]) List.mem_cons_self
  obtain ⟨f2, _, vs2, e2, l2⟩ := x.mem (c, .lst (cs.map D.int)) (List.mem_cons_of_mem _ List.mem_cons_self)
  refine ⟨x.sub, fun q hq => ?_, nd, ⟨fun e => n1 (by rw [e]; exact List.mem_cons_self), cs, s, ?_, ?_, hl⟩, fun a ha => ?_, x.nt⟩
  · obtain ⟨m1, _, m3⟩ := x.mem q (List.mem_cons_of_mem _ (List.mem_cons_of_mem _ hq))
    refine ⟨m1, fun hm => ?_, m3⟩
    rcases List.mem_cons.mp hm with e | hm
    · exact n1 (by rw [← e]; exact List.mem_cons_of_mem _ (List.mem_map.mpr ⟨q, hq, rfl⟩))
    · rcases List.mem_cons.mp hm with e | hm
      · exact n2 (by rw [← e]; exact List.mem_map.mpr ⟨q, hq, rfl⟩)
      · exact absurd hm List.not_mem_nil
  · cases l1 with
    | cons i1 i2 =>
      cases i2 with
      | cons i2 i3 =>
        cases i1
        cases i2
        cases i3
        exact e1
  · rw [e2, l2.ints]
  · rcases List.mem_cons.mp ha with e | ha
    · subst e
      exact f1
    · rcases List.mem_cons.mp ha with e | ha
      · subst e
        exact f2
      · exact absurd ha List.not_mem_nil
end
/-- a draw: of the hidden part; of the two lists -/
def spDraw (h : Addr) : ASp := fun ds M Φ _ => match ds with
  | [.ref h', .int n] => h' = h ∧ DivOk 0 n ∧ ∀ r : Int, 0 ≤ r → r < n → Φ (.int r) M
  | _ => False
def spDrawM : ASp := fun ds M Φ _ => ∃ (h c : Addr) (cs : List Int) (s n : Int) (M1 : Mm), ds = [.ref h, .int n] ∧ M = heapM h c cs s ++ M1 ∧ DivOk 0 n ∧ cs.length ≤ 1000 ∧ ∀ (r : Int) (cs' : List Int) (s' : Int), cs'.length ≤ 1000 → 0 ≤ r → r < n → Φ (.int r) (heapM h c cs' s' ++ M1)
theorem draw_box {P : Program} {w : World} {K : PySem.W.Frag} {mg : Str → Option Value} {base : Heap} {k : Nat} {f : Addr} {fd : FuncData} {ps : List Str} {CX : CXT} (G : FnOk P w K mg base CX k f fd ps (conc K Bx.no spDrawM)) (h c : Addr) :
    FnOk P w K mg base CX k f fd ps (conc K (bxHeap h c) (spDraw h)) := G.imp fun vs H Q E ⟨ds, F, M, Φ, Ψ, hv, hh, ha, hq, he⟩ => by
  unfold spDraw at ha
  split at ha
  rotate_left
  · exact ha.elim
  rename_i h' n
  obtain ⟨rfl, hn, ha⟩ := ha
  obtain ⟨cs, s, hl, ho⟩ := heap_open hh
  refine ⟨_, F, heapM h' c cs s ++ M, fun d M' => ∃ r cs' s', d = .int r ∧ 0 ≤ r ∧ r < n ∧ cs'.length ≤ 1000 ∧ M' = heapM h' c cs' s' ++ M, fun _ _ => False, hv, ho, ⟨h', c, cs, s, n, M, rfl, rfl, hn, hl, fun r cs' s' hl' h0 h1 => ⟨r, cs', s', rfl, h0, h1, hl', rfl⟩⟩, fun d M' v F' H' s2 h2 i2 q2 => ?_, fun _ _ _ _ _ _ _ _ _ z => z.elim⟩
  obtain ⟨r, cs', s', rfl, h0, h1, hl', rfl⟩ := q2
  exact hq _ M v F' H' s2 (heap_close hl' h2) i2 (ha r h0 h1)
theorem last_or {α : Type} (xs : List α) : xs = [] ∨ ∃ ys y, xs = ys ++ [y] := by
  cases h : xs.reverse with
  | nil => exact .inl (List.reverse_eq_nil_iff.mp h)
  | cons y ys => exact .inr ⟨ys.reverse, y, by rw [← List.reverse_reverse xs, h, List.reverse_cons]⟩
theorem isE_append {α : Type} {ys : List α} {y : α} : (ys ++ [y]).isEmpty = false := by cases ys <;> rfl
/-- one of some things -/
def spPick (h : Addr) : ASp := fun ds M Φ _ => match ds with
  | [.ref h', .lst xs] => h' = h ∧ (0 < xs.length ∧ xs.length < 1000000) ∧ ∀ d ∈ xs, Φ d M
  | [.ref h', .tup xs] => h' = h ∧ (0 < xs.length ∧ xs.length < 1000000) ∧ ∀ d ∈ xs, Φ d M
  | _ => False
theorem pick_as {α : Type} {emb : α → D} {R : α → Prop} {ds : List D} {P : D → Prop} (h : ∀ d ∈ ds, ∃ x, d = emb x ∧ R x) (k : ∀ x, R x → P (emb x)) : ∀ d ∈ ds, P d := fun d hd => by
  obtain ⟨x, rfl, r⟩ := h d hd
  exact k x r
/-! ### loops of known make -/
def rngI (lo : Int) (n : Nat) : List Int := (List.range n).map fun i => lo + (i : Nat)
theorem rngD_eq (lo : Int) (n : Nat) : rngD lo n = (rngI lo n).map D.int := by
  unfold rngD rngI
  rw [List.map_map]
  rfl
theorem rngI_len (lo : Int) (n : Nat) : (rngI lo n).length = n := by unfold rngI; rw [List.length_map, List.length_range]
theorem mem_rngI {lo x : Int} {n : Nat} (h : x ∈ rngI lo n) : lo ≤ x ∧ x < lo + n := by
  unfold rngI at h
  obtain ⟨i, hi, rfl⟩ := List.mem_map.mp h
  have := List.mem_range.mp hi
  omega
section
variable {ai : AI} {g : AG} {tt : AT} {te : AE} {vs : List Nat} {Γ : Gm} {M : Mm} {Φ : AK}
/-- a comprehension whose parts are functions of the item -/
theorem aLc_pure {α : Type} (xs : List α) (emb : α → D) (f : α → Bool) (v : α → D) (hai : ∀ Φ' : List D → Mm → Prop, Φ' (xs.map emb) M → ai Γ M Φ') (hlen : xs.length ≤ 100000)
    (h : ∀ x ∈ xs, ∀ M', ∃ Γ2, g (emb x) (wipeG Γ vs) = some Γ2 ∧ (∀ Φ' : Bool → Mm → Prop, Φ' (f x) M' → tt Γ2 M' Φ') ∧ (f x = true → ∀ Φ' : AK, Φ' (v x) M' → te Γ2 M' Φ'))
    (k : Φ (.lst ((xs.filter f).map v)) M) : aLc ai g tt te vs Γ M Φ := by
  unfold aLc
  refine hai _ ⟨by rw [List.length_map]; exact hlen, fun i acc M' => acc = ((xs.take i).filter f).map v ∧ M' = M, ⟨rfl, rfl⟩, ?_, ?_⟩
  · rintro i d acc M' l hd ⟨rfl, rfl⟩
    rw [List.getElem?_map] at hd
    cases hx : xs[i]? with
    | none =>
      rw [hx] at hd
      cases hd
    | some x =>
      rw [hx] at hd
      cases hd
      obtain ⟨Γ2, e, h1, h2⟩ := h x (List.mem_of_getElem? hx) ((l, .lst (((xs.take i).filter f).map v)) :: M')
      rw [e]
      refine h1 _ ⟨fun hf => h2 hf _ ⟨M', .here, ?_, rfl⟩, fun hf => ⟨M', .here, ?_, rfl⟩⟩
      · rw [List.take_add_one, hx, List.filter_append, List.map_append]
        show _ ++ [v x] = _ ++ (List.filter f [x]).map v
        rw [List.filter_cons, if_pos hf]
        rfl
      · rw [List.take_add_one, hx, List.filter_append, List.map_append]
        show _ = _ ++ (List.filter f [x]).map v
        rw [List.filter_cons, if_neg (by rw [hf]; decide)]
        show _ = _ ++ []
        rw [List.append_nil]
  · rintro acc M' ⟨rfl, rfl⟩ _
    rw [List.length_map, List.take_length]
    exact k
/-- no test -/
theorem aLc_map {α : Type} (xs : List α) (emb : α → D) (v : α → D) (hai : ∀ Φ' : List D → Mm → Prop, Φ' (xs.map emb) M → ai Γ M Φ') (hlen : xs.length ≤ 100000)
    (h : ∀ x ∈ xs, ∀ M', ∃ Γ2, g (emb x) (wipeG Γ vs) = some Γ2 ∧ (∀ Φ' : AK, Φ' (v x) M' → te Γ2 M' Φ'))
    (k : Φ (.lst (xs.map v)) M) : aLc ai g aYes te vs Γ M Φ := by
  refine aLc_pure xs emb (fun _ => true) v hai hlen (fun x hx M' => ?_) ?_
  · obtain ⟨Γ2, e, h1⟩ := h x hx M'
    exact ⟨Γ2, e, fun _ q => q, fun _ => h1⟩
  · rw [List.filter_eq_self.mpr (fun _ _ => rfl)]
    exact k
end
end DL

set_option Elab.async false
set_option linter.all false
set_option maxRecDepth 100000
set_option maxHeartbeats 2000000
namespace DL
open PySem L2
/-! ### what the readings compute to, by the kind of the data -/
section
variable {Φ : AK} {Φb : Bool → Mm → Prop} {Φl : List D → Mm → Prop} {Φo : Option Int → Mm → Prop} {Γ : Gm} {M : Mm} {A : AEnds} {ta tb tc : AE} {f g : A2} {i j : Int} {b c : Bool} {x y : Str} {d e : D} {xs ys ds : List D} {l : Addr} {neg : Bool → Bool}
theorem aB_bl : aB_k Φb (.bl b) M = Φb b M := rfl
theorem aAndV_bl : aAndV_k tb Γ Φ (.bl c) M = ((c = true → tb Γ M Φ) ∧ (c = false → Φ (.bl false) M)) := rfl
theorem aOrV_bl : aOrV_k tb Γ Φ (.bl c) M = ((c = true → Φ (.bl true) M) ∧ (c = false → tb Γ M Φ)) := rfl
theorem aNotV_bl : aNotV_k Φ (.bl c) M = Φ (.bl (!c)) M := rfl
theorem aChain_bl : aChain_k g tc Γ Φ e (.bl b) M = ((b = true → tc Γ M fun h M4 => g e h M4 Φ) ∧ (b = false → Φ (.bl false) M)) := rfl
theorem aPar_2 {p q : Nat} : aPar_k p q A Γ [d, e] M = A.nx ((Γ.set p (some d)).set q (some e)) M := rfl
theorem aPar3_3 {p q r : Nat} {u : D} : aPar3_k p q r A Γ [d, e, u] M = A.nx (((Γ.set p (some d)).set q (some e)).set r (some u)) M := rfl
theorem onGm_s {k : Gm → Prop} : onGm (some Γ) k = k Γ := rfl
theorem agTup_t {gs : AGs} : agTup gs (.tup ds) Γ = gs ds Γ := rfl
theorem agLst_t {gs : AGs} : agLst gs (.lst ds) Γ = gs ds Γ := rfl
theorem agNil_n : agNil [] Γ = some Γ := rfl
theorem agCons_c {g : AG} {gs : AGs} : agCons g gs (d :: ds) Γ = (g d Γ).bind fun Γ1 => gs ds Γ1 := rfl
theorem bind_s {α β : Type} {a : α} {k : α → Option β} : (some a).bind k = k a := rfl
theorem aSetIx_r : aSetIx_k A Γ d (.ref l) (.int i) M = ∃ xs j M4, ixN xs.length i = some j ∧ Up M l (.lst xs) (.lst (xs.set j d)) M4 ∧ A.nx Γ M4 := rfl
theorem aItS_l : aItS_k Φl (.lst xs) M = Φl xs M := rfl
theorem aItS_t : aItS_k Φl (.tup xs) M = Φl xs M := rfl
theorem aRng1_i : aRng1_k Φl [.int j] M = ((-4611686018427387904 ≤ j ∧ j < 4611686018427387904) ∧ Φl (rngD 0 j.toNat) M) := rfl
theorem aRng2_i : aRng2_k Φl [.int i, .int j] M = ((-4611686018427387904 ≤ i ∧ i < 4611686018427387904 ∧ -4611686018427387904 ≤ j ∧ j < 4611686018427387904) ∧ Φl (rngD i (j - i).toNat) M) := rfl
theorem aEnum_l : aEnum_k Φl [.lst xs] M = Φl (enumD xs) M := rfl
theorem aZip_l : aZip_k Φl [.lst xs, .lst ys] M = Φl (zipD xs ys) M := rfl
theorem aZip_t : aZip_k Φl [.tup xs, .tup ys] M = Φl (zipD xs ys) M := rfl
theorem fI_i {g : Int → Int → D} : fI g (.int i) (.int j) M Φ = Φ (g i j) M := rfl
theorem fC_i {C : Int → Int → Prop} {g : Int → Int → D} : fC C g (.int i) (.int j) M Φ = (C i j ∧ Φ (g i j) M) := rfl
theorem fNeg_i : fNeg (.int i) M Φ = Φ (.int (-i)) M := rfl
theorem seqOf_l {k : List D → Prop} : seqOf (.lst xs) M k = k xs := rfl
theorem seqOf_t {k : List D → Prop} : seqOf (.tup xs) M k = k xs := rfl
theorem seqOf_r {k : List D → Prop} : seqOf (.ref l) M k = ∃ xs, (l, MO.lst xs) ∈ M ∧ k xs := rfl
theorem lstOf_l {k : List D → Prop} : lstOf (.lst xs) M k = k xs := rfl
theorem lstOf_r {k : List D → Prop} : lstOf (.ref l) M k = ∃ xs, (l, MO.lst xs) ∈ M ∧ k xs := rfl
theorem fLen_1 : fLen [d] M Φ = seqOf d M fun xs => Φ (.int (xs.length : Nat)) M := rfl
theorem fIx_i : fIx d (.int i) M Φ = seqOf d M fun xs => onD (getI xs i) fun g => Φ g M := rfl
theorem aP_i : aP_k Φo (.int i) M = Φo (some i) M := rfl
theorem aSl_l {lo hi : Option Int} : aSl_k Φ (.lst xs) lo hi M = Φ (.lst (cutD xs lo hi)) M := rfl
theorem aSl_r {lo hi : Option Int} : aSl_k Φ (.ref l) lo hi M = ∃ xs, (l, MO.lst xs) ∈ M ∧ Φ (.lst (cutD xs lo hi)) M := rfl
theorem aRev_l : aRev_k Φ (.lst xs) M = Φ (.lst xs.reverse) M := rfl
theorem aRev_r : aRev_k Φ (.ref l) M = ∃ xs, (l, MO.lst xs) ∈ M ∧ Φ (.lst xs.reverse) M := rfl
theorem aRevM_l : aRevM_k Φ (.lst xs) M = ∀ p, Φ (.ref p) ((p, .lst xs.reverse) :: M) := rfl
theorem aRevM_r : aRevM_k Φ (.ref l) M = ∃ xs, (l, MO.lst xs) ∈ M ∧ ∀ p, Φ (.ref p) ((p, .lst xs.reverse) :: M) := rfl
theorem aApp_r : aApp_k tb Γ Φ (.ref l) M = ((∃ xs, (l, MO.lst xs) ∈ M) ∧ tb Γ M fun e M2 => ∃ xs M3, Up M2 l (.lst xs) (.lst (xs ++ [e])) M3 ∧ xs.length < 100000 ∧ Φ .non M3) := rfl
theorem aPop_r : aPop_k Φ (.ref l) M = ∃ xs y M2, Up M l (.lst xs) (.lst xs.dropLast) M2 ∧ xs[xs.length - 1]? = some y ∧ Φ y M2 := rfl
def eqDeep (neg : Bool → Bool) (d e : D) (M : Mm) (Φ : AK) : Prop := rdM d M fun d' => rdM e M fun e' => (plD 60 d' = true ∧ plD 60 e' = true) ∧ Φ (.bl (neg (PyData.eqv (py 60 d') (py 60 e')))) M
theorem fEq_ii : fEqB neg (.int i) (.int j) M Φ = Φ (.bl (neg (decide (i = j)))) M := rfl
theorem fEq_ss : fEqB neg (.str x) (.str y) M Φ = Φ (.bl (neg (decide (x = y)))) M := rfl
theorem fEq_bb : fEqB neg (.bl b) (.bl c) M Φ = Φ (.bl (neg (decide (b = c)))) M := rfl
theorem fEq_nn : fEqB neg .non .non M Φ = Φ (.bl (neg true)) M := rfl
theorem fEq_ni : fEqB neg .non (.int i) M Φ = Φ (.bl (neg false)) M := rfl
theorem fEq_in : fEqB neg (.int i) .non M Φ = Φ (.bl (neg false)) M := rfl
theorem fEq_ns : fEqB neg .non (.str x) M Φ = Φ (.bl (neg false)) M := rfl
theorem fEq_sn : fEqB neg (.str x) .non M Φ = Φ (.bl (neg false)) M := rfl
theorem fEq_is : fEqB neg (.int i) (.str x) M Φ = Φ (.bl (neg false)) M := rfl
theorem fEq_si : fEqB neg (.str x) (.int i) M Φ = Φ (.bl (neg false)) M := rfl
theorem fEq_ll : fEqB neg (.lst xs) (.lst ys) M Φ = eqDeep neg (.lst xs) (.lst ys) M Φ := rfl
theorem fEq_tt : fEqB neg (.tup xs) (.tup ys) M Φ = eqDeep neg (.tup xs) (.tup ys) M Φ := rfl
theorem fEq_tl : fEqB neg (.tup xs) (.lst ys) M Φ = eqDeep neg (.tup xs) (.lst ys) M Φ := rfl
theorem fEq_lt : fEqB neg (.lst xs) (.tup ys) M Φ = eqDeep neg (.lst xs) (.tup ys) M Φ := rfl
theorem fIs_n : fIsB neg d .non M Φ = Φ (.bl (neg (isN d))) M := rfl
theorem fIs_b : fIsB neg (.bl c) (.bl b) M Φ = Φ (.bl (neg (decide (c = b)))) M := rfl
theorem isN_n : isN .non = true := rfl
theorem isN_i : isN (.int i) = false := rfl
theorem isN_b : isN (.bl b) = false := rfl
theorem isN_s : isN (.str x) = false := rfl
theorem isN_t : isN (.tup xs) = false := rfl
theorem isN_l : isN (.lst xs) = false := rfl
theorem isN_r : isN (.ref l) = false := rfl
theorem isN_o {C : Addr} {ns : List Str} : isN (.ins C ns xs) = false := rfl
theorem fAbs_i : fAbs [.int i] M Φ = Φ (.int (if i < 0 then -i else i)) M := rfl
theorem fInt_i : fInt [.int i] M Φ = Φ (.int i) M := rfl
theorem fInt_b : fInt [.bl b] M Φ = Φ (.int (if b then 1 else 0)) M := rfl
theorem fMax2_i : fMax2 [.int i, .int j] M Φ = Φ (.int (max i j)) M := rfl
theorem fMin2_i : fMin2 [.int i, .int j] M Φ = Φ (.int (min i j)) M := rfl
theorem fTuple_1 : fTuple [d] M Φ = seqOf d M fun xs => Φ (.tup xs) M := rfl
theorem fList_1 : fList [d] M Φ = seqOf d M fun xs => Φ (.lst xs) M := rfl
theorem fListM_1 : fListM [d] M Φ = seqOf d M fun xs => ∀ l, Φ (.ref l) ((l, .lst xs) :: M) := rfl
theorem fAll_l : fAll [.lst xs] M Φ = ∃ bs : List Bool, xs = bs.map D.bl ∧ Φ (.bl (bs.all id)) M := rfl
theorem fAny_l : fAny [.lst xs] M Φ = ∃ bs : List Bool, xs = bs.map D.bl ∧ Φ (.bl (bs.any id)) M := rfl
theorem fSum_l : fSum [.lst xs] M Φ = ∃ ns : List Int, xs = ns.map D.int ∧ Φ (.int ns.sum) M := rfl
theorem fMaxL_l : fMaxL [.lst xs] M Φ = ∃ ns : List Int, xs = ns.map D.int ∧ 0 < ns.length ∧ ∀ m, m ∈ ns → (∀ y, y ∈ ns → y ≤ m) → Φ (.int m) M := rfl
theorem fMinL_l : fMinL [.lst xs] M Φ = ∃ ns : List Int, xs = ns.map D.int ∧ 0 < ns.length ∧ ∀ m, m ∈ ns → (∀ y, y ∈ ns → m ≤ y) → Φ (.int m) M := rfl
/-- isinstance, by the class's name and the datum's -/
def isiK (t n : String) (M : Mm) (Φ : AK) : Prop := match kitB t n with
  | some b => Φ (.bl b) M
  | none => False
theorem fIsi_i {n : String} : fIsi n (.int i) M Φ = isiK "int" n M Φ := rfl
theorem fIsi_b {n : String} : fIsi n (.bl b) M Φ = isiK "bool" n M Φ := rfl
theorem fIsi_n {n : String} : fIsi n .non M Φ = isiK "NoneType" n M Φ := rfl
theorem fIsi_s {n : String} : fIsi n (.str x) M Φ = isiK "str" n M Φ := rfl
theorem fIsi_t {n : String} : fIsi n (.tup xs) M Φ = isiK "tuple" n M Φ := rfl
theorem fIsi_l {n : String} : fIsi n (.lst xs) M Φ = isiK "list" n M Φ := rfl
theorem isi_of {t n : String} {r : Bool} (h : kitB t n = some r) : isiK t n M Φ = Φ (.bl r) M := by unfold isiK; rw [h]
end
theorem isi_int_int {M : Mm} {Φ : AK} : isiK "int" "int" M Φ = Φ (.bl true) M := isi_of (by decide +kernel)
theorem isi_int_bool {M : Mm} {Φ : AK} : isiK "int" "bool" M Φ = Φ (.bl false) M := isi_of (by decide +kernel)
theorem isi_int_str {M : Mm} {Φ : AK} : isiK "int" "str" M Φ = Φ (.bl false) M := isi_of (by decide +kernel)
theorem isi_int_tuple {M : Mm} {Φ : AK} : isiK "int" "tuple" M Φ = Φ (.bl false) M := isi_of (by decide +kernel)
theorem isi_int_list {M : Mm} {Φ : AK} : isiK "int" "list" M Φ = Φ (.bl false) M := isi_of (by decide +kernel)
theorem isi_bool_int {M : Mm} {Φ : AK} : isiK "bool" "int" M Φ = Φ (.bl true) M := isi_of (by decide +kernel)
theorem isi_bool_bool {M : Mm} {Φ : AK} : isiK "bool" "bool" M Φ = Φ (.bl true) M := isi_of (by decide +kernel)
theorem isi_bool_str {M : Mm} {Φ : AK} : isiK "bool" "str" M Φ = Φ (.bl false) M := isi_of (by decide +kernel)
theorem isi_bool_tuple {M : Mm} {Φ : AK} : isiK "bool" "tuple" M Φ = Φ (.bl false) M := isi_of (by decide +kernel)
theorem isi_bool_list {M : Mm} {Φ : AK} : isiK "bool" "list" M Φ = Φ (.bl false) M := isi_of (by decide +kernel)
theorem isi_NoneType_int {M : Mm} {Φ : AK} : isiK "NoneType" "int" M Φ = Φ (.bl false) M := isi_of (by decide +kernel)
theorem isi_NoneType_bool {M : Mm} {Φ : AK} : isiK "NoneType" "bool" M Φ = Φ (.bl false) M := isi_of (by decide +kernel)
theorem isi_NoneType_str {M : Mm} {Φ : AK} : isiK "NoneType" "str" M Φ = Φ (.bl false) M := isi_of (by decide +kernel)
theorem isi_NoneType_tuple {M : Mm} {Φ : AK} : isiK "NoneType" "tuple" M Φ = Φ (.bl false) M := isi_of (by decide +kernel)
theorem isi_NoneType_list {M : Mm} {Φ : AK} : isiK "NoneType" "list" M Φ = Φ (.bl false) M := isi_of (by decide +kernel)
theorem isi_str_int {M : Mm} {Φ : AK} : isiK "str" "int" M Φ = Φ (.bl false) M := isi_of (by decide +kernel)
theorem isi_str_bool {M : Mm} {Φ : AK} : isiK "str" "bool" M Φ = Φ (.bl false) M := isi_of (by decide +kernel)
theorem isi_str_str {M : Mm} {Φ : AK} : isiK "str" "str" M Φ = Φ (.bl true) M := isi_of (by decide +kernel)
theorem isi_str_tuple {M : Mm} {Φ : AK} : isiK "str" "tuple" M Φ = Φ (.bl false) M := isi_of (by decide +kernel)
theorem isi_str_list {M : Mm} {Φ : AK} : isiK "str" "list" M Φ = Φ (.bl false) M := isi_of (by decide +kernel)
theorem isi_tuple_int {M : Mm} {Φ : AK} : isiK "tuple" "int" M Φ = Φ (.bl false) M := isi_of (by decide +kernel)
theorem isi_tuple_bool {M : Mm} {Φ : AK} : isiK "tuple" "bool" M Φ = Φ (.bl false) M := isi_of (by decide +kernel)
theorem isi_tuple_str {M : Mm} {Φ : AK} : isiK "tuple" "str" M Φ = Φ (.bl false) M := isi_of (by decide +kernel)
theorem isi_tuple_tuple {M : Mm} {Φ : AK} : isiK "tuple" "tuple" M Φ = Φ (.bl true) M := isi_of (by decide +kernel)
theorem isi_tuple_list {M : Mm} {Φ : AK} : isiK "tuple" "list" M Φ = Φ (.bl false) M := isi_of (by decide +kernel)
theorem isi_list_int {M : Mm} {Φ : AK} : isiK "list" "int" M Φ = Φ (.bl false) M := isi_of (by decide +kernel)
theorem isi_list_bool {M : Mm} {Φ : AK} : isiK "list" "bool" M Φ = Φ (.bl false) M := isi_of (by decide +kernel)
theorem isi_list_str {M : Mm} {Φ : AK} : isiK "list" "str" M Φ = Φ (.bl false) M := isi_of (by decide +kernel)
theorem isi_list_tuple {M : Mm} {Φ : AK} : isiK "list" "tuple" M Φ = Φ (.bl false) M := isi_of (by decide +kernel)
theorem isi_list_list {M : Mm} {Φ : AK} : isiK "list" "list" M Φ = Φ (.bl true) M := isi_of (by decide +kernel)
section
variable {ai : AI} {g : AG} {tb : AS} {A : AEnds} {Γ : Gm} {M : Mm}
/-- a for over known things, by a word -/
theorem aFor_map {α : Type} (xs : List α) (emb : α → D) (I : Nat → Gm → Mm → Prop) (hai : ∀ Φ' : List D → Mm → Prop, Φ' (xs.map emb) M → ai Γ M Φ') (h0 : I 0 Γ M)
    (hs : ∀ i x Γ' M', xs[i]? = some x → I i Γ' M' → ∃ Γ2, g (emb x) Γ' = some Γ2 ∧ tb { nx := I (i + 1), rt := A.rt, bk := A.nx, ct := I (i + 1) } Γ2 M')
    (hd : ∀ Γ' M', I xs.length Γ' M' → A.nx Γ' M') : aFor ai g tb A Γ M := by
  unfold aFor
  refine hai _ ⟨I, h0, fun i d Γ' M' hd hi => ?_, fun Γ' M' hi => ?_⟩
  · rw [List.getElem?_map] at hd
    cases hx : xs[i]? with
    | none =>
      rw [hx] at hd
      cases hd
    | some x =>
      rw [hx] at hd
      cases hd
      obtain ⟨Γ2, e, q⟩ := hs i x Γ' M' hx hi
      rw [e]
      exact q
  · rw [List.length_map] at hi
    exact hd Γ' M' hi
/-- over a range -/
theorem aFor_rng (lo : Int) (n : Nat) (I : Nat → Gm → Mm → Prop) (hai : ∀ Φ' : List D → Mm → Prop, Φ' (rngD lo n) M → ai Γ M Φ') (h0 : I 0 Γ M)
    (hs : ∀ (i : Nat) Γ' M', i < n → I i Γ' M' → ∃ Γ2, g (.int (lo + (i : Nat))) Γ' = some Γ2 ∧ tb { nx := I (i + 1), rt := A.rt, bk := A.nx, ct := I (i + 1) } Γ2 M')
    (hd : ∀ Γ' M', I n Γ' M' → A.nx Γ' M') : aFor ai g tb A Γ M := by
  unfold aFor
  refine hai _ ⟨I, h0, fun i d Γ' M' hd hi => ?_, fun Γ' M' hi => ?_⟩
  · obtain ⟨hlt, rfl⟩ := rngD_get hd
    obtain ⟨Γ2, e, q⟩ := hs i Γ' M' hlt hi
    rw [e]
    exact q
  · rw [rngD_len] at hi
    exact hd Γ' M' hi
end
theorem cutD_take {xs : List D} {i : Int} (h : 0 ≤ i) : cutD xs none (some i) = xs.take i.toNat := by
  obtain ⟨n, rfl⟩ := Int.eq_ofNat_of_zero_le h
  unfold cutD
  rw [HT.sIx_none, HT.sIx_nat, List.drop_zero, Nat.sub_zero, Int.toNat_natCast]
  rcases Nat.le_total n xs.length with hn | hn
  · rw [Nat.min_eq_left hn]
  · rw [Nat.min_eq_right hn, List.take_length, List.take_of_length_le hn]
theorem cutD_drop {xs : List D} {i : Int} (h : 0 ≤ i) : cutD xs (some i) none = xs.drop i.toNat := by
  obtain ⟨n, rfl⟩ := Int.eq_ofNat_of_zero_le h
  unfold cutD
  rw [HT.sIx_none, HT.sIx_nat, Int.toNat_natCast]
  rcases Nat.le_total n xs.length with hn | hn
  · rw [Nat.min_eq_left hn, List.take_of_length_le (by rw [List.length_drop]; exact Nat.le_refl _)]
  · rw [Nat.min_eq_right hn, List.drop_length, List.drop_eq_nil_of_le hn, List.take_nil]
theorem mulW_of {i j : Int} (h : i.natAbs.log2 + j.natAbs.log2 < 1000000) : MulOk i j := .inr (.inr h)
theorem divW_of {i j : Int} (h : 0 < j) (h2 : j.natAbs.log2 < 9000) : DivOk i j := ⟨h, h2⟩
section
variable {ai : AI} {g : AG} {tt : AT} {te : AE} {vs : List Nat} {Γ : Gm} {M : Mm} {Φ : AK}
theorem map_int {α : Type} (f : α → Int) (l : List α) : l.map (fun x => D.int (f x)) = (l.map f).map D.int := by
  rw [List.map_map]
  rfl
/-- comprehensions of ints -/
theorem aLc_int {α : Type} (xs : List α) (emb : α → D) (f : α → Int) (hai : ∀ Φ' : List D → Mm → Prop, Φ' (xs.map emb) M → ai Γ M Φ') (hlen : xs.length ≤ 100000)
    (h : ∀ x ∈ xs, ∀ M', ∃ Γ2, g (emb x) (wipeG Γ vs) = some Γ2 ∧ (∀ Φ' : AK, Φ' (.int (f x)) M' → te Γ2 M' Φ'))
    (k : Φ (.lst ((xs.map f).map D.int)) M) : aLc ai g aYes te vs Γ M Φ := aLc_map xs emb (fun x => .int (f x)) hai hlen h (by rw [map_int]; exact k)
theorem aLc_ifint {α : Type} (xs : List α) (emb : α → D) (p : α → Bool) (f : α → Int) (hai : ∀ Φ' : List D → Mm → Prop, Φ' (xs.map emb) M → ai Γ M Φ') (hlen : xs.length ≤ 100000)
    (h : ∀ x ∈ xs, ∀ M', ∃ Γ2, g (emb x) (wipeG Γ vs) = some Γ2 ∧ (∀ Φ' : Bool → Mm → Prop, Φ' (p x) M' → tt Γ2 M' Φ') ∧ (p x = true → ∀ Φ' : AK, Φ' (.int (f x)) M' → te Γ2 M' Φ'))
    (k : Φ (.lst (((xs.filter p).map f).map D.int)) M) : aLc ai g tt te vs Γ M Φ := aLc_pure xs emb p (fun x => .int (f x)) hai hlen h (by rw [map_int]; exact k)
theorem aLc_ifid {α : Type} (xs : List α) (emb : α → D) (p : α → Bool) (hai : ∀ Φ' : List D → Mm → Prop, Φ' (xs.map emb) M → ai Γ M Φ') (hlen : xs.length ≤ 100000)
    (h : ∀ x ∈ xs, ∀ M', ∃ Γ2, g (emb x) (wipeG Γ vs) = some Γ2 ∧ (∀ Φ' : Bool → Mm → Prop, Φ' (p x) M' → tt Γ2 M' Φ') ∧ (p x = true → ∀ Φ' : AK, Φ' (emb x) M' → te Γ2 M' Φ'))
    (k : Φ (.lst ((xs.filter p).map emb)) M) : aLc ai g tt te vs Γ M Φ := aLc_pure xs emb p emb hai hlen h k
end
/-- a check that holds, one that doesn't -/
theorem ck {p : Prop} [Decidable p] (h : p) {X Y : Prop} (y : Y) : ((!decide p) = true → X) ∧ ((!decide p) = false → Y) := ⟨fun hb => (by rw [decide_eq_true h] at hb; cases hb), fun _ => y⟩
theorem ckT {p : Prop} [Decidable p] (h : p) {X Y : Prop} (x : X) : (decide p = true → X) ∧ (decide p = false → Y) := ⟨fun _ => x, fun hb => (by rw [decide_eq_true h] at hb; cases hb)⟩
theorem ckF {p : Prop} [Decidable p] (h : ¬ p) {X Y : Prop} (y : Y) : (decide p = true → X) ∧ (decide p = false → Y) := ⟨fun hb => absurd (of_decide_eq_true hb) h, fun _ => y⟩
/-- what comes after the next (two) statements, shown once for every way there -/
theorem aSeq_tail {α : Type} {a b : AS} {A : AEnds} {Γ : Gm} {M : Mm} (Γf : α → Gm) (M0 : Mm) (h : ∀ x, b A (Γf x) M0) (k : (∀ x, b A (Γf x) M0) → aSeq a b A Γ M) : aSeq a b A Γ M := k h
theorem aSeq_tail2 {α : Type} {a c b : AS} {A : AEnds} {Γ : Gm} {M : Mm} (Γf : α → Gm) (M0 : Mm) (h : ∀ x, b A (Γf x) M0) (k : (∀ x, b A (Γf x) M0) → aSeq a (aSeq c b) A Γ M) : aSeq a (aSeq c b) A Γ M := k h
end DL

set_option Elab.async false
set_option linter.all false
set_option maxRecDepth 100000
set_option maxHeartbeats 2000000
/-! DX1: an own exception class over ValueError whose __init__ says super().__init__(at); self.at = at. -/
namespace DL
open PySem L2

/-- what such a class says -/
structure XCls (K : PySem.W.Frag) (P : Program) (C f : Addr) : Prop where
  fn : ∃ (cc cda : Addr) (qual : Str) (scope : Scope) (params : Arguments) (a0 a1 : Arg) (body : List Stmt) (doc pm ct oc : Value) (an od : Option Addr) (osl : Array (Option Value)) (ccl cl : Value) (cdd cld : Option Addr) (ccs csl : Array (Option Value)) (vs : Array Value) (file : Str) (tf : Tok) (p0 p1 p2 p3 p4 p5 p6 p7 p8 p9 q1 q2 : Pos) (pl : Addr → Sem Bool),
    K.lookup f = some ⟨oc, od, .func (PySem.W.ksFn "__init__" qual params body scope .none .none doc pm an (.ref cda) ct cc), osl⟩ ∧ PySem.W.codeIn K (.ref cda) qual = true ∧
    body = [.Expr (.Call (.Attribute (.Call (.Name "super" p0) [] [] p1) "__init__" p2) [.Name "at" p3] [] p4) p5, .Assign [.Attribute (.Name "self" p6) "at" p7] (.Name "at" p8) p9] ∧
    params = ⟨[], [⟨"self", none, q1⟩, ⟨"at", none, q2⟩], none, [], [], none, []⟩ ∧
    (∀ L : Addr, let env := callEnv (PySem.W.ksFn "__init__" qual params body scope .none .none doc pm an (.ref cda) ct cc) L f
      eval (.Call (.Attribute (.Call (.Name "super" p0) [] [] p1) "__init__" p2) [.Name "at" p3] [] p4) env = (do
        let ov ← attributeBase (.Call (.Name "super" p0) [] [] p1) "__init__" env (eval (.Call (.Name "super" p0) [] [] p1) env)
        standAt p2.atName
        let (f, first) ← holding [ov] (getMethod ov "__init__" (pl L))
        callWith p4 f first (backTo p4 (starEach [.Name "at" p3] env)) [])) ∧
    K.lookup cda = some ⟨ccl, cdd, .fields vs, ccs⟩ ∧ vs[2]? = some (.str file tf) ∧ ((P.main.file : Str) == file) = true ∧
    K.lookup cc = some ⟨cl, cld, .cell (some (.ref C)), csl⟩ ∧
    (∀ x ∈ scope.names, x.2 ≠ .cell) ∧ scope.isCoroutine = false ∧ scope.isGenerator = false ∧ scope.kind = .function ∧
    scope.names.lookup ("super" : Str) = some .globalImplicit ∧ scope.names.lookup ("__class__" : Str) = some .free ∧ scope.names.lookup ("self" : Str) = some .local ∧ scope.names.lookup ("at" : Str) = some .local
  init : PySem.W.findIn K (.ref C) "__init__" = some (some (.ref f))
  tf : PySem.W.typeIn K (.ref f) = some (.type "function")
  top : (P.main.scope.names.lookup ("super" : Str)).isSome = false
  nosup : PySem.W.nsIn K mainGlobals "super" = some none
  noany : PySem.W.nsIn K cStatics "thirdparty.any" = some none
  sup : PySem.W.ks_superIn K C C "__init__" = some (some (.builtin "ValueError.__init__"))
  sub : PySem.W.subIn K (.ref C) (.type "ValueError") = some true
  mro : PySem.W.mroIn K C (.ref C) = some true
  at_ : PySem.W.findIn K (.ref C) "at" = some none
  oex : OexC K C
  hd : PySem.W.hasDictIn K C = true
  ga : PySem.W.findIn K (.ref C) "__getattribute__" = some (some (.builtin "BaseException.__getattribute__"))
  gg : PySem.W.findIn K (.ref C) "__getattr__" = some none

section
open PySem.W PySem.Calls PyProof.Rows
variable {P : Program} {w : World} {A : Around} {R : Result → Shared → Prop} {h : Heap} {g : Array GenState} {d : Drawn} {t : Nat} {os : OsState} {K : Frag} {mg mb : Str → Option Value} {C f e t0 : Addr} {v : Value}
theorem init_run (Y : XCls K P C f) (X : K.In h) (hg : h.Ns mainGlobals mg) (hb : h.Ns builtinsNs mb) (hmg : mg "super" = none) (hmb : mb "super" = some (.type "super")) (nl : h.NoLimit) (room : A.depth < recursionLimit)
    (he : h.get? e = some (PySem.HandSPX.excO C t0)) (hne : ∀ o, K.lookup e ≠ some o)
    (hq : ∀ h' tk dx t1, (∀ b o, b ≠ e → h.get? b = some o → h'.get? b = some o) → h.objs.size ≤ dx → dx ≠ e →
      h'.get? e = some ({ cls := .ref C, dict := some dx, data := .fields #[.ref t1, .none, .none, .none, .bool false, .none] } : Obj) → h'.Ns1 dx (fun y => if y = "at" then some v else none) → R (.ok (.ret .none)) ⟨h', g, d, tk, os⟩) :
    codeAny (model P w) A (.call (.ref f) ⟨[.ref e, v], []⟩) R ⟨h, g, d, t, os⟩ := by
  obtain ⟨cc, cda, qual, scope, params, a0, a1, body, doc, pm, ct, oc, an, od, osl, ccl, cl, cdd, cld, ccs, csl, vs, file, tf, p0, p1, p2, p3, p4, p5, p6, p7, p8, p9, q1, q2, pl, lf, hcd, rfl, rfl, hev, lcda, hvs, hfile, lcc, hcell, hco, hgen, hk, hks, hkc, hself, hat⟩ := Y.fn
  obtain ⟨nm, q, N, bs, bm, sn, sub, ab, col, dd, k0, k1, k2, k3, k5, hC, hbm⟩ := Y.oex.cls
  have hcl : clsIn K C = some { name := nm, bases := bs, mro := .ref C :: bm, ns := N, qualname := q, hasDict := true, slotNames := sn, subclasses := sub, abstract := ab, collection := col, hasDel := false } := by unfold clsIn; rw [hC] <;> rfl
  refine ks_codeAny_call_defAt (fd := ksFn "__init__" qual ⟨[], [⟨"self", none, q1⟩, ⟨"at", none, q2⟩], none, [], [], none, []⟩ _ scope .none .none doc pm an (.ref cda) ct cc) (binds := [("self", .ref e), ("at", v)]) room (X _ _ lf) rfl nl (codeRec_of X hcd) rfl (.of_eq rfl) hcell
    (fun y hy => ?_) (fun h0 hns kp => ?_) hco hgen hk
  · rcases List.mem_cons.mp hy with rfl | hy
    · exact hself
    · rcases List.mem_cons.mp hy with rfl | hy
      · exact hat
      · cases hy
  have X0 : K.In h0 := X.keeps kp
  have he0 := kp _ _ he
  have hC0 := X0 _ _ hC
  refine ks_wpAt_execs_cons (ks_wpAt_Expr_any (ks_wpAt_MethodCall ?_ (hev _)) (by show (scope.kind == .module && _) = false; rw [hk]; rfl))
  refine ks_wpAt_super_base (of := ⟨oc, od, _, osl⟩) (fd := ksFn "__init__" qual ⟨[], [⟨"self", none, q1⟩, ⟨"at", none, q2⟩], none, [], [], none, []⟩ _ scope .none .none doc pm an (.ref cda) ct cc) hks hkc (by decide) rfl (X0 _ _ lf) rfl rfl rfl (X0 _ _ lcda) rfl hvs hfile Y.top ?_
  refine ks_loadName_global hk hks (loadGlobal_builtin (hg.keeps kp) hmg (hb.keeps kp) hmb ⟨rfl, ?_⟩)
  refine wpAny_loadName_free hk hkc rfl ⟨_, X0 _ _ lcc, rfl⟩ ?_
  refine wpAny_loadName_local hk hself hns rfl ?_
  refine ks_wpAny_isType_cls hC0 rfl ⟨rfl, ?_⟩
  refine ks_wpAny_call_super hC0 rfl he0 rfl (fun c z => nomatch z) (looks_mroIn X0 Y.mro) (fun h1 e1 k1 => ?_)
  have X1 : K.In h1 := X0.keeps k1
  have he1 := k1 _ _ he0
  have I1 : InstAt h1 e (PySem.HandSPX.excO C t0) C none := ⟨he1, rfl, rfl, trivial⟩
  have hsup := Y.sup
  unfold ks_superIn at hsup
  rw [hcl, Option.bind_some] at hsup
  refine kxs_getMethod kxs_ValueError e1 (looks_opaque X1 Y.noany) (l₀ := .ref C :: bm) (fun A Q E s k q => wpAny_bind ((looks_clsIn X1 hcl) A _ E s k (wpAny_pure q))) rfl X1 hsup (I1.type.andThen (looks_subIn X1 Y.sub)) (ks_ne X1 I1 hcl) (by decide) ?_
  have k2 : ∀ b o, h1.get? b = some o → (h1.push (kxs_mw "ValueError.__init__" e)).get? b = some o := fun b o z => Heap.get?_push_of_some _ z
  have hu2 : (h1.push (kxs_mw "ValueError.__init__" e)).get? h1.objs.size = some (kxs_mw "ValueError.__init__" e) := Heap.get?_push_at rfl rfl
  have X2 := X1.keeps k2
  have he2 := k2 _ _ he1
  have hns2 := hns.keeps fun b o z => k2 b o (k1 b o z)
  show wpAny _ _ (callWith p4 (.ref h1.objs.size) [] (backTo p4 (starEach [.Name "at" p3] _)) []) _ _ _
  refine kxs_callWith (i := "ValueError.__init__") (x := e) (by rfl) ?_
  refine evalArgs_plain (spliced_cons (wpAny_Name (wpAny_loadName_local hk hat hns2 rfl ?_)))
  refine spliced_nil ⟨hu2, ?_⟩
  show wpAny _ _ (call (.ref h1.objs.size) [v]) _ _ _
  refine wpAny_call (codeAny_of_tree ?_)
  show wpAny _ (Around.in1 _) (callAny (.ref h1.objs.size) ⟨[v], []⟩) _ _ _
  simp only [callAny]
  refine wpAny_bind (wpAny_load hu2 ?_)
  simp only [kxs_mw, show (Value.type "method-wrapper" == Value.type "method" || Value.type "method-wrapper" == Value.type "builtin_function_or_method" || Value.type "method-wrapper" == Value.type "method-wrapper") = true by decide, if_true]
  refine KFB.if_so (by decide) ?_
  refine wpAny_bind (check_bound_init F.excBase_ValueError.toExcCallFacts (k2 _ _ (k1 _ _ hC0)) he2 rfl ?_)
  refine wpAny_bind (wpAny_pure (wpAny_pure ?_))
  refine ⟨plainId_quiet F.excBase_ValueError.init.plain _, ?_⟩
  refine codeAny_builtin F.excBase_ValueError.initEntry ?_
  refine exc_init_tree (cls := .ref C) (t0 := t0) (dv := none) (c2 := .none) (c3 := .none) (b4 := .bool false) (rest := [v]) he2 (by rw [sizeLine_eq, List.length_singleton]; decide) (fun h3 k3 he3 _ => ?_)
  have n2 : ∀ b, h.get? b ≠ none → b ≠ h.objs.size := fun b z y => z (by rw [y]; exact Heap.get?_none_of_le (Nat.le_refl _))
  have eL : h.objs.size ≠ e := Nat.ne_of_gt (Heap.lt_size he)
  have k4 : ∀ b o, b ≠ e → h.get? b = some o → h3.get? b = some o := fun b o ne z => k3 b o ne (k2 b o (k1 b o (kp b o z)))
  have X3 : K.In h3 := fun b o z => k3 b o (fun y => hne o (by rw [← y]; exact z)) (X2 b o z)
  have hns3 : h3.Ns h.objs.size (fun x => ([("self", Value.ref e), ("at", v)] : List (Str × Value)).reverse.lookup x) := by
    obtain ⟨o, es, ep, z, r⟩ := hns2
    exact ⟨o, es, ep, k3 _ _ eL z, r⟩
  show PySem.wpAt _ _ _ (execs [_] _) _ _ _
  refine ks_wpAt_execs_cons (wpAt_of_wpAny (plainObj_wpAny_Assign_Attribute ?_))
  refine wpAny_Name (wpAny_loadName_local hk hat hns3 rfl ?_)
  refine wpAny_Name (wpAny_loadName_local hk hself hns3 rfl ?_)
  refine set_plain X3 (ox := excRec (.ref C) _ none .none .none (.bool false)) (od := none) ⟨he3, rfl, rfl, trivial⟩ Y.oex.sa ?_
  refine PySem.HandSPX.exc_osa X3 he3 hcl (show PySem.HandSPX.refsVE (.ref C :: bm) = true from hbm) rfl Y.at_ (fun h5 tk dx k5 dn dne hx hn => ?_)
  have sz : h.objs.size ≤ h3.objs.size := by
    obtain ⟨o, es, ep, z, r⟩ := hns3
    exact Nat.le_of_lt (Heap.lt_size z)
  exact wpAt_of_wpAny (wpAny_execs_nil (hq h5 _ dx _ (fun b o ne z => k5 b o ne (k4 b o ne z)) (Nat.le_trans sz dn) dne hx hn))
end
end DL

set_option Elab.async false
set_option linter.all false
set_option maxRecDepth 100000
set_option maxHeartbeats 2000000
/-! DX2: raise C(e). -/
namespace DL
open PySem L2 PyProof.Rows

def tMkS (C : Addr) (ta : TA) : L2.St → Hp → XK → Prop := fun σ H Q => ta σ H fun vs H1 => ∃ v, vs = [v] ∧ ∀ d, H1 d = none → Q (.ref C) (some d) (upd H1 d (.xd [("at", v)]))
section
variable {X : Cx} {pins : List (Addr × Obj)} {σ : L2.St} {H : Hp} {s : Shared}
theorem mk_endN {H1 H2 : Hp} {Q : XK} {hp hp2 h2 : Heap} {g1 g2 : Array GenState} {d1 d2 : Drawn} {t1 t2 : Nat} {os1 os2 : OsState} {a C d : Addr} {fs : List (Str × V)} (T : Raises X (.ref C)) (I1 : Inv X pins σ H1 ⟨hp, g1, d1, t1, os1⟩)
    (ha : hp.objs.size ≤ a) (k : ∀ b o, hp.get? b = some o → hp2.get? b = some o) (un : Un (frs X.stack) [] (upd H1 a (exo a C none)) H2 hp2 h2) (hok : HOk X.prog X.w H2 h2) (ho : os2 = os1) (hb : AllBare g2)
    (ea : H2 a = some (exo a C (some d))) (ed : H2 d = some (exd d fs)) (hd1 : H1 d = none) (q : Q (.ref C) (some d) (upd (del H2 a) d (.xd fs))) : L2N.MkP X pins σ Q (.ref a) ⟨h2, g2, d2, t2, os2⟩ := by
  obtain ⟨t0, G, J, kG, ge, hoe, na⟩ := mk_end0 (d2 := d2) (t2 := t2) I1 ha k un hok ho hb ea ed hd1
  exact ⟨a, _, _, ⟨G, g2, d2, t2, os2⟩, _, .ref C, some d, rfl, J, kG, ge, hoe, ⟨rfl, rfl, fun vs e => by cases e; rfl⟩, rfl, rfl, na, rfl, hb, T, q⟩
theorem sup_end {Q : XK} {hp hp2 h2 : Heap} {g1 : Array GenState} {d1 : Drawn} {t1 t2 t3 : Nat} {os1 : OsState} {a C dx t0 : Addr} {H1 : Hp} {v : V} {u : Value} (T : Raises X (.ref C)) (I1 : Inv X pins σ H1 ⟨hp, g1, d1, t1, os1⟩) (I2 : Inv X pins σ (upd H1 a (exo a C none)) ⟨hp2, g1, d1, t2, os1⟩)
    (ha : hp.objs.size ≤ a) (k : ∀ b o, hp.get? b = some o → hp2.get? b = some o) (dne : dx ≠ a) (hnd : H1 dx = none) (nd : ∀ {b : Addr} {o : Obj}, hp2.get? b = some o → b ≠ dx) (kp : ∀ b o, b ≠ a → hp2.get? b = some o → h2.get? b = some o)
    (hx : h2.get? a = some ({ cls := .ref C, dict := some dx, data := .fields #[.ref t0, .none, .none, .none, .bool false, .none] } : Obj)) (hn : h2.Ns1 dx (fun y => if y = "at" then some u else none)) (rv : RelV v u)
    (q : Q (.ref C) (some dx) (upd H1 dx (.xd [("at", v)]))) : L2N.MkP X pins σ Q (.ref a) ⟨h2, g1, d1, t3, os1⟩ := by
  have hna : H1 a = none := I1.hok.fresh ha
  have na : ∀ {b : Addr}, upd H1 a (exo a C none) b = none → b ≠ a := fun {b} n z => by
    rw [z, upd_same] at n
    cases n
  have e : upd H1 a (exo a C none) a = some (exo a C none) := upd_same
  have hnd' : upd H1 a (exo a C none) dx = none := by rw [upd_ne dne]; exact hnd
  have Un1 : Un (frs X.stack) [] (upd H1 a (exo a C none)) (upd (upd (upd H1 a (exo a C none)) dx (exd dx [("at", v)])) a (exo a C (some dx))) hp2 h2 := {
    keep := fun b o q n _ _ => kp b o (na n) q
    slot := fun b o q n _ _ => ⟨o.slots, kp b o (na n) q⟩
    free := fun b o q n _ => by rw [upd_ne (na n), upd_ne (nd q)]; exact n
    there := fun b o q _ => by
      by_cases hb : b = a
      · exact ⟨_, by rw [hb]; exact hx⟩
      · exact ⟨o, kp b o hb q⟩
    tups := fun b xs q => by rw [upd_ne (at_ne e q exo_tup), upd_ne (ne_of_none q hnd')]; exact q
    frzs := fun b o v q => by rw [upd_ne (at_ne e q exo_frz), upd_ne (ne_of_none q hnd')]; exact q
    tbls := fun b ps q => ⟨#[], by rw [upd_ne (at_ne e q exo_tbl), upd_ne (ne_of_none q hnd'), q]; simp⟩ }
  have hok : HOk X.prog X.w (upd (upd (upd H1 a (exo a C none)) dx (exd dx [("at", v)])) a (exo a C (some dx))) h2 := fun b o q => by
    by_cases hb : b = a
    · subst hb
      rw [upd_same] at q
      cases q
      exact exo_ok hx
    · rw [upd_ne hb] at q
      by_cases hd : b = dx
      · subst hd
        rw [upd_same] at q
        cases q
        exact exd_ok hn (relO_put (fs := []) rv fun g => True.intro)
      · rw [upd_ne hd] at q
        exact (I2.hok b o q).stay (fun c v hc z => kp c v (by
            rcases hc with hc | hc
            · rw [hc]
              exact hb
            · exact at_ne e hc exo_own) z)
          (fun c hc => by rw [upd_ne (at_ne e hc exo_own), upd_ne (ne_of_none hc hnd')]; exact hc) (fun c xs hc => by rw [upd_ne (at_ne e hc exo_tup), upd_ne (ne_of_none hc hnd')]; exact hc)
  refine mk_endN T I1 ha k Un1 hok rfl I1.bare (d := dx) (fs := [("at", v)]) upd_same (by rw [upd_ne dne, upd_same]) hnd ?_
  have eq : upd (del (upd (upd (upd H1 a (exo a C none)) dx (exd dx [("at", v)])) a (exo a C (some dx))) a) dx (.xd [("at", v)]) = upd H1 dx (.xd [("at", v)]) := by
    funext b
    by_cases hb : b = dx
    · rw [hb, upd_same, upd_same]
    · rw [upd_ne hb, upd_ne hb]
      by_cases ha : b = a
      · rw [ha, del_same, hna]
      · rw [del_ne ha, upd_ne ha, upd_ne hb, upd_ne ha]
  rw [eq]
  exact q
theorem pmk_sup {x : Str} {C fI : Addr} {k : Nat} {e : Expr} {es : List Expr} {ta : TA} {p pos : Pos} (Y : XCls X.K X.prog C fI) (hr : Room (k + 1) X.A) (hms : X.mg "super" = none) (hg : Gl X x) (hm : X.mg x = some (.ref C)) (ha : PA X (e :: es) ta)
    (hdb : (x == ("__debug__" : Str)) = false := by decide) (he : starEach (e :: es) X.env = (false, eval e X.env) :: starEach es X.env := by rfl) (hpl : (backTo pos (starEach es X.env)).any (·.1) = false := by rfl) :
    L2N.PMk X (.Call (.Name x p) (e :: es) [] pos) (tMkS C ta) := by
  intro pins s σ H Q I h
  have T := Y.oex
  obtain ⟨nm, q, N, bs, bm, sn, sub, ab, col, dd, k0, k1, k2, k3, k5, hC, hbm⟩ := T.cls
  refine wpAny_Call_Name_kw (ld_glob I hg hm ?_ hdb)
  refine PySem.W.callWith_K (h₀ := X.base) I.ok.mod.kin T.kC (thn (ha.run pos pins s σ H _ I h) fun us s1 hh => ?_) he hpl
  obtain ⟨vs, H1, I1, r1, v, ev, q1⟩ := hh
  refine ⟨I1.kIn, ?_⟩
  subst ev
  cases r1 with
  | @cons _ u _ ur rv r2 =>
  cases r2
  show wpAny _ _ (call (.ref C) [u]) _ _ _
  obtain ⟨hp, g, dr, tk, os⟩ := s1
  have hsz : hp.objs.size ≤ hp.objs.size + 1 := Nat.le_succ _
  have hn : H1 (hp.objs.size + 1) = none := I1.hok.fresh hsz
  have kk : ∀ b o, hp.get? b = some o → ((hp.push (PySem.W.kdv_tup [u])).push (PySem.HandSPX.excO C hp.objs.size)).get? b = some o := fun b o e => Heap.get?_push_of_some _ (Heap.get?_push_of_some _ e)
  have hget : ((hp.push (PySem.W.kdv_tup [u])).push (PySem.HandSPX.excO C hp.objs.size)).get? (hp.objs.size + 1) = some (PySem.HandSPX.excO C hp.objs.size) := by heap_get
  have I2 : Inv X pins σ (upd H1 (hp.objs.size + 1) (exo (hp.objs.size + 1) C none)) ⟨(hp.push (PySem.W.kdv_tup [u])).push (PySem.HandSPX.excO C hp.objs.size), g, dr, tk, os⟩ :=
    I1.laid (t' := tk) (a := hp.objs.size + 1) (o := exo (hp.objs.size + 1) C none) (h' := (hp.push (PySem.W.kdv_tup [u])).push (PySem.HandSPX.excO C hp.objs.size)) kk hsz (exo_ok hget)
  obtain ⟨mb, hb1, hb2⟩ := I2.mod.blt
  refine wpAny_call (PySem.HandSPX.call_own F.excBase_ValueError (fun Y => PySem.HandSPX.refsVE_contains Y bm hbm) (I1.kIn _ _ hC) (PySem.W.looks_findIn I1.kIn Y.init) (fun self => PySem.W.bind_fn I1.kIn self Y.tf) (by rw [sizeLine_eq, List.length_singleton]; decide)
    (init_run Y I2.kIn (I2.mod.glob.keeps I2.bk) (hb1.keeps I2.bk) hms ((hb2 "super" (by decide)).trans PyProof.Rows.Boot.«super») I2.nolimit (hr.make C [u] []).depth hget (fun o z => absurd (Heap.lt_size (I1.kIn _ _ z)) (Nat.not_lt.mpr hsz)) (fun h' tk' dx t1 kp dn dne hx hns => ?_)))
  refine ⟨rfl, ?_⟩
  have hsz2 : ((hp.push (PySem.W.kdv_tup [u])).push (PySem.HandSPX.excO C hp.objs.size)).objs.size = hp.objs.size + 2 := by simp [Heap.push]
  have hnd1 : H1 dx = none := I1.hok.fresh (show hp.objs.size ≤ dx by omega)
  have nd : ∀ {b : Addr} {o : Obj}, ((hp.push (PySem.W.kdv_tup [u])).push (PySem.HandSPX.excO C hp.objs.size)).get? b = some o → b ≠ dx := fun {b o} q => Nat.ne_of_lt (Nat.lt_of_lt_of_le (Heap.lt_size q) dn)
  exact sup_end (raises_own T.exC T.tyC) I1 I2 hsz kk dne hnd1 nd kp hx hns rv (q1 dx hnd1)
end
end DL

set_option Elab.async false
set_option linter.all false
set_option maxRecDepth 100000
set_option maxHeartbeats 2000000
/-! DX3: raise, try .. except X as e, e.at, isinstance(e, X) over data. -/
namespace DL
open PySem L2
section
variable {X : Cx} {T : Ct} {e : Expr} {pos : Pos}
def aRaise_k (C : Addr) (Ψ : AX) (Γ : Gm) (ds : List D) (M : Mm) : Prop := match ds with
  | [d] => Ψ ⟨C, d⟩ Γ M
  | _ => False
def aRaise (C : Addr) (Ψ : AX) (tr : AA) (_ : AEnds) (Γ : Gm) (M : Mm) : Prop := tr Γ M fun ds M1 => aRaise_k C Ψ Γ ds M1
theorem aRaise_1 {C : Addr} {Ψ : AX} {Γ : Gm} {d : D} {M : Mm} : aRaise_k C Ψ Γ [d] M = Ψ ⟨C, d⟩ Γ M := rfl
theorem ds_raise {x : Str} {C fI : Addr} {k : Nat} {es : List Expr} {tr : AA} {p pos' : Pos} (hc : X.calm = true) (tk : L2N.Takes X T.W) (Y : XCls X.K X.prog C fI) (hr : Room (k + 1) X.A) (hms : X.mg "super" = none) (hg : Gl X x) (hm : X.mg x = some (.ref C)) (ha : DA X T (e :: es) tr)
    (hdb : (x == ("__debug__" : Str)) = false := by decide) (he : starEach (e :: es) X.env = (false, eval e X.env) :: starEach es X.env := by rfl) (hpl : (backTo pos (starEach es X.env)).any (·.1) = false := by rfl) :
    DS X T (.Raise (some (.Call (.Name x p) (e :: es) [] pos)) none pos') (aRaise C T.Ψ tr) :=
  ds_of (L2N.ps_raise hc tk (pmk_sup Y hr hms hg hm ha hdb he hpl)) fun F σ H Γ M A D w q m => cA_mk w q fun ds M1 vs F1 H1 s1 h1 i1 q1 => by
    unfold aRaise_k at q1
    split at q1
    · rename_i d
      cases i1 with
      | @cons v _ _ _ iv it =>
        cases it
        refine ⟨v, rfl, fun dx hdx => ?_⟩
        have nf := h1.free hdx
        exact w.l ⟨C, d⟩ _ _ Γ M1 σ _ _ (s1.trans (upd_same_ext nf)) (w.v.mono (s1.trans (upd_same_ext nf))) (h1.laid hdx) ⟨rfl, dx, v, rfl, upd_same, iv.mono (upd_same_ext nf)⟩ q1
    · exact q1.elim

/-! ### try .. except x as n -/
/-- what the clause wishes of an exception of the body -/
def aCatch (K : PySem.W.Frag) (c : Value) (i : Nat) (ts : Addr → Addr → Addr → AS) (Ψ : AX) (A : AEnds) : AX := fun x Γ M => ∃ b, PySem.W.exmOne K (.ref x.C) c = some b ∧
  (b = true → ∀ a dd, ts a dd x.C { nx := fun Γ' M' => A.nx (Γ'.set i none) M', rt := A.rt, bk := fun Γ' M' => A.bk (Γ'.set i none) M', ct := fun Γ' M' => A.ct (Γ'.set i none) M' } (Γ.set i (some (.xc a dd x.C x.x))) M) ∧ (b = false → Ψ x Γ M)
def aTry (K : PySem.W.Frag) (c : Value) (i : Nat) (tb : AX → AS) (ts : Addr → Addr → Addr → AS) (Ψ : AX) (A : AEnds) (Γ : Gm) (M : Mm) : Prop := tb (aCatch K c i ts Ψ A) A Γ M
/-- the hidden part of a suite -/
abbrev Ct.no (T : Ct) : Ct := Ct.calm T.B
theorem ds_try {x n : Str} {c : Value} {i : Nat} {body suite : List Stmt} {b₀ : Stmt} {np pos pos' : Pos} {tb : AX → AS} {ts : Addr → Addr → Addr → AS} (hs : X.stack = X.env :: X.outer) (hf : X.env.frame = some X.env.locals) (hN : X.N.Nodup) (hi : X.N[i]? = some n) (hln : X.env.kindOf n = some .local) (hc : Names X x c) (tk : L2N.Takes X T.W)
    (hb : ∀ (W : WX) (Ψ : AX) (pn : List (Addr × Obj)) (xe : Value → Shared → Prop), L2N.Takes (X.tr pn xe) W → DSs (X.tr pn xe) ⟨T.B, W, Ψ⟩ body (tb Ψ))
    (hsu : ∀ (a dd C : Addr) (oe : Obj) (pn : List (Addr × Obj)), L2N.Zn (.ref C) (some dd) oe → (∃ vs, oe.data = .fields vs) → DSs (X.suite a ((a, oe) :: pn)) T.no (b₀ :: suite) (ts a dd C)) :
    DS X T (.Try body [.ExceptHandler (some (.Name x np)) (some n) (b₀ :: suite) pos'] [] [] pos) (aTry X.K c i tb ts T.Ψ) := by
  have hp := L2N.ps_try_as (body := body) (pos := pos) (np := np) (pos' := pos') (tb := fun W D σ H => ∃ Ψ : AX, cS X.K ⟨T.B, W, Ψ⟩ (tb Ψ) D σ H) (ts := fun a cls d D σ H => ∃ C dd : Addr, cls = .ref C ∧ d = some dd ∧ cS X.K T.no (ts a dd C) D σ H) hs hf hN hi hln hc tk
    (fun W pn xe tk' _ => ⟨fun pins s σ H D I ⟨Ψ, h⟩ => (hb W Ψ pn xe tk').run pins s σ H D I h⟩)
    (fun a oe cls d pn hz hv => ⟨fun pins s σ H D I ⟨C, dd, e1, e2, h⟩ => by
      subst e1 e2
      exact (hsu a dd C oe pn hz hv).run pins s σ H D I h⟩)
  refine ds_of hp fun F σ H Γ M A D w q m => ⟨_, cS_mk (T := ⟨T.B, _, aCatch X.K c i ts T.Ψ A⟩) ⟨w.v, w.h, fun y cls d Γ' M' σ' F' H' s v h xi hc => ?_⟩ q ⟨m.nx, m.rt, m.bk, m.ct⟩⟩
  obtain ⟨b, e1, e2, e3⟩ := hc
  obtain ⟨rfl, dd, v0, rfl, hF, hI⟩ := xi
  refine ⟨b, e1, fun hb a ha => ⟨y.C, dd, rfl, rfl, cS_mk (T := T.no) ⟨v.set (.xc hF hI) i, h, lk_calm⟩ (e2 hb a dd) ⟨fun Γ2 M2 σ2 F2 H2 s2 v2 h2 q2 => m.nx _ _ _ _ _ (s.trans s2) (v2.gone i) h2 q2, fun d2 M2 v2 F2 H2 s2 h2 i2 q2 => m.rt _ _ _ _ _ (s.trans s2) h2 i2 q2,
    fun Γ2 M2 σ2 F2 H2 s2 v2 h2 q2 => m.bk _ _ _ _ _ (s.trans s2) (v2.gone i) h2 q2, fun Γ2 M2 σ2 F2 H2 s2 v2 h2 q2 => m.ct _ _ _ _ _ (s.trans s2) (v2.gone i) h2 q2⟩⟩, fun hb => w.l y _ _ Γ' M' σ' F' H' s v h ⟨rfl, dd, v0, rfl, hF, hI⟩ (e3 hb)⟩
/-- e.at -/
def aXat_k (a dd C : Addr) (Φ : AK) (d : D) (M : Mm) : Prop := match d with
  | .xc a' dd' C' x => (a' = a ∧ dd' = dd ∧ C' = C) ∧ Φ x M
  | _ => False
def aXat (K : PySem.W.Frag) (a dd C : Addr) (ta : AE) (Γ : Gm) (M : Mm) (Φ : AK) : Prop := (XfC K C ∧ PySem.W.findIn K (.ref C) "at" = some none) ∧ ta Γ M fun d M1 => aXat_k a dd C Φ d M1
theorem aXat_x {a dd C a' dd' C' : Addr} {Φ : AK} {x : D} {M : Mm} : aXat_k a dd C Φ (.xc a' dd' C' x) M = ((a' = a ∧ dd' = dd ∧ C' = C) ∧ Φ x M) := rfl
theorem de_xat {a dd C : Addr} {oe : Obj} {pn : List (Addr × Obj)} {B : Bx} {ta : AE} (hz : L2N.Zn (.ref C) (some dd) oe) (hf : ∃ vs, oe.data = .fields vs) (ha : DE (X.suite a ((a, oe) :: pn)) (Ct.calm B) e ta) (hb : attributeBase e "at" X.env (eval e X.env) = eval e X.env := by rfl) :
    DE (X.suite a ((a, oe) :: pn)) (Ct.calm B) (.Attribute e "at" pos) (aXat X.K a dd C ta) :=
  ⟨fun pins s σ H Q I ⟨F, Γ, M, Φ, w, ⟨hT, q⟩, z⟩ => by
    refine (pe_xf (cls := .ref C) (d := some dd) hT.1 hT.2 hz.zc hf ha hb).run pins s σ H Q I (cE_mk w q fun d M1 x F1 H1 s1 h1 i1 q1 => ?_)
    unfold aXat_k at q1
    split at q1
    · obtain ⟨⟨rfl, rfl, rfl⟩, q1⟩ := q1
      cases i1 with
      | @xc _ _ _ v _ hF hI =>
        exact ⟨rfl, rfl, _, _, v, rfl, h1.sub _ _ hF, rfl, z _ _ _ _ _ s1 h1 hI q1⟩
    · exact q1.elim⟩
end
end DL

set_option Elab.async false
set_option linter.all false
set_option maxRecDepth 100000
set_option maxHeartbeats 4000000
/-! DX4: isinstance of a caught error that has a dict. -/
namespace DL
open PySem L2
section
open PySem.W PySem.Calls PyProof.Rows
variable {prog : Program} {w : World} {A : Around} {E : Value → Shared → Prop} {s : Shared} {K : Frag} {x D : Addr} {ox : Obj} {odx : Option Obj}
theorem findData {C : Addr} {name : Str} {a g : Value} {od : Option Obj} (hc : (clsIn K C).isSome = true) (ha : findIn K (.ref C) name = some (some a)) (hg : specialIn K a "__get__" = some (some g)) (ht : takesIn K a = some true) : findObj K C od name = some (.bind g a) := by
  obtain ⟨cd, hc⟩ := Option.isSome_iff_exists.mp hc
  unfold findObj
  rw [hc, Option.bind_some, ha, Option.bind_some]
  simp [hg, ht]
theorem class_of (Z : ExcC K D) {Q : Option Value → Shared → Prop} (X : K.In s.heap) (I : InstAt s.heap x ox D odx) (h : Q (some (.ref D)) { s with toks := s.toks + 1 }) : wpAny (model prog w) A (getAttr? (.ref x) "__class__") Q E s := by
  have hf : findObj K D odx "__class__" = some (.bind (.builtin "getset_descriptor.__get__") (.builtin "object.__class__")) := findData (by obtain ⟨cd, hc, _⟩ := any_some Z.hd; rw [hc]; rfl) Z.ha Z.hn Z.ht
  obtain ⟨hp, g, d, t, os⟩ := s
  have Lt := I.type (M := model prog w)
  have Lg := looks_findIn (M := model prog w) X Z.hg
  have Lk := looks_findIn (M := model prog w) X Z.hk
  have Lf := looks_find (M := model prog w) X I hf
  have Ls : Looks (model prog w) hp (isInstance (.ref x) (.type "BaseException")) true := Lt.andThen (looks_subIn X Z.hs)
  have n0 : (false && onTheHeap (Value.builtin "BaseException.__getattribute__")) = false := rfl
  have n2 : (Value.builtin "BaseException.__getattribute__" == Value.builtin "object.__getattribute__") = false := by decide +kernel
  have n1 : (onTheHeap (Value.ref D) && Value.builtin "BaseException.__getattribute__" == Value.builtin "object.__getattribute__") = false := by rw [n2]; rfl
  unfold getAttr? getAttrBy? getAttrBy
  refine wpAny_bind (wpAny_mkText (wpAny_bind (wpAny_attempt (wpAny_holding (wpAny_bind (Lt.at (wpAny_bind (Lg.at ?_))))))))
  show wpAny _ _ (if (onTheHeap (Value.ref D) && Value.builtin "BaseException.__getattribute__" == Value.builtin "object.__getattribute__") = true then _ else _) _ _ _
  rw [n1, if_neg Bool.false_ne_true]
  unfold getAttrByItsOwn hookBefore
  refine wpAny_bind ?_
  rw [if_pos (show onTheHeap (Value.ref D) = true from rfl)]
  refine Lk.at (wpAny_bind (wpAny_attempt (wpAny_holding ?_)))
  unfold callGetattribute
  rw [n0, if_neg Bool.false_ne_true]
  unfold boundAndCalled
  rw [PySem.F.excAttr_ValueError.ga.bind (.ref x)]
  refine wpAny_bind (wpAny_pure ?_)
  show wpAny _ _ (call (.builtin "BaseException.__getattribute__") [.ref x, .str "__class__" t]) _ _ _
  refine wpAny_call (codeAny_call_builtin PySem.F.excAttr_ValueError.ga.plain PySem.F.entry_bexc_ga ?_)
  refine @check_slot (model prog w) _ _ ⟨hp, g, d, t + 1, os⟩ "BaseException.__getattribute__" "BaseException" "__getattribute__" (.ref x) [.str "__class__" t] [] _ (by decide +kernel) (by decide +kernel) Ls (PySem.F.args_bexc_ga (.ref x) (.str "__class__" t)) ?_
  unfold Builtin.«object.__getattribute__»
  refine wpAny_bind (wpAny_of_eq (a := ((Value.ref x : Value), [Value.str "__class__" t])) (by first | rfl | (simp only [slotArgs]; rfl)) ?_)
  refine wpAny_bind (wpAny_pure (wpAny_bind (Lt.at (wpAny_bind (Lf.at ?_)))))
  show wpAny _ _ (holding [Value.builtin "object.__class__"] (call (.builtin "getset_descriptor.__get__") [.builtin "object.__class__", .ref x, .ref D]) >>= ret) _ _ _
  refine wpAny_bind (wpAny_holding (wpAny_call (class_get (s := ⟨hp, g, d, t + 1, os⟩) (ox := ox) (od := odx) X I Z.hm (wpAny_pure ?_))))
  show wpAny _ _ (handedOut (.ref D)) _ _ _
  rw [handedOut_of (v := .ref D) rfl]
  first
    | exact wpAny_pure (wpAny_pure h)
    | exact wpAny_pure h
    | exact wpAny_pure (wpAny_bind (wpAny_pure (wpAny_pure h)))
theorem kit_exc (Z : ExcC K D) : KitX K (.ref x) (.ref D) (fun h => ∃ odx, InstAt h x ox D odx) where
  ty := fun _ _ _ ⟨_, I⟩ => I.type
  it := fun _ _ X _ => by
    obtain ⟨cdD, hcD, _⟩ := any_some Z.hd
    unfold clsIn at hcD
    split at hcD
    · rename_i c' d' cd' sl' ho
      intro A' Q' E' s' k q
      unfold isType loadHead
      exact wpAny_bind (wpAny_loadPart (k _ _ (X _ _ ho)) (wpAny_pure q))
    · cases hcD
  ne := fun h tp dd its n sl X htp => by
    obtain ⟨cdD, hcD, _⟩ := any_some Z.hd
    refine Bool.eq_false_iff.mpr fun q => ?_
    have e : D = tp := Value.ref.inj (beq_iff_eq.mp q)
    subst e
    unfold clsIn at hcD
    split at hcD
    · rename_i c' d' cd' sl' ho
      have z := (X _ _ ho).symm.trans htp
      cases z
    · cases hcD
  ca := fun X ⟨_, I⟩ k => class_of Z X I k
end
/-- isinstance(e, c), e the exception that the suite holds, c one class -/
def rIsX (K : PySem.W.Frag) (D a dd : Addr) : List V → Hp → VK → Prop := fun xs H Q => ∃ (c : V) (cv : Value) (b : Bool) (fs : List (Str × V)), xs = [.ref a, c] ∧ (∀ u, RelV c u → u = cv) ∧ PySem.W.kitOne K (.ref D) cv = some b ∧ H dd = some (.xd fs) ∧ Q (.bl b) H
theorem call_isX {X : Cx} {a D dd : Addr} {oe : Obj} {pn : List (Addr × Obj)} (C : ExcC X.K D) (hz : L2N.Zn (.ref D) (some dd) oe) (hf : ∃ vs, oe.data = .fields vs) : CallR (X.suite a ((a, oe) :: pn)) (.builtin "isinstance") (rIsX X.K D a dd) := by
  intro pins s σ H xs us Q I r h
  obtain ⟨c, cv, b, fs, rfl, hcv, e, hdd, q⟩ := h
  cases r with
  | cons rx rr =>
    cases rr with
    | cons rt rr =>
      cases rr
      cases rx
      have ec := hcv _ rt
      subst ec
      obtain ⟨hget, _⟩ := I.pin (a, oe) (List.mem_append.mpr (.inl List.mem_cons_self))
      obtain ⟨vs, hv⟩ := hf
      have hx : ObjOk X.prog X.w H s.heap dd (.xd fs) := I.hok dd _ hdd
      obtain ⟨mA, hns, _⟩ := hx
      obtain ⟨od, es, ep, ho, hl⟩ := hns
      have J : PySem.W.InstAt s.heap a oe D (some od) := by
        obtain ⟨oc, oda, odt, osl⟩ := oe
        obtain ⟨h1, h2, _⟩ := hz
        dsimp only at h1 h2 hv
        subst h1 h2 hv
        exact ⟨hget, rfl, rfl, ho⟩
      exact PySem.W.kia_one (kit_exc C) I.kIn ⟨_, J⟩ e (fun z => nomatch z) fun tk => ⟨.bl b, H, I.kept (t' := tk) fun _ _ z => z, rfl, q⟩
/-- over data: c a class of the program -/
def aIsX_k (K : PySem.W.Frag) (a dd C C2 : Addr) (Φ : AK) (d : DL.D) (M : Mm) : Prop := match d with
  | .xc a' dd' C' _ => (a' = a ∧ dd' = dd ∧ C' = C) ∧ ∃ b, PySem.W.kitOne K (.ref C) (.ref C2) = some b ∧ Φ (.bl b) M
  | _ => False
def aIsX (K : PySem.W.Frag) (a dd C C2 : Addr) (ta : AE) (Γ : Gm) (M : Mm) (Φ : AK) : Prop := ExcC K C ∧ ta Γ M fun d M1 => aIsX_k K a dd C C2 Φ d M1
theorem aIsX_x {K : PySem.W.Frag} {a dd C C2 a' dd' C' : Addr} {Φ : AK} {x : DL.D} {M : Mm} : aIsX_k K a dd C C2 Φ (.xc a' dd' C' x) M = ((a' = a ∧ dd' = dd ∧ C' = C) ∧ ∃ b, PySem.W.kitOne K (.ref C) (.ref C2) = some b ∧ Φ (.bl b) M) := rfl
theorem de_isX {X : Cx} {a dd C C2 : Addr} {oe : Obj} {pn : List (Addr × Obj)} {B : Bx} {x : Str} {e : Expr} {ta : AE} {p p' pos : Pos} (hz : L2N.Zn (.ref C) (some dd) oe) (hf : ∃ vs, oe.data = .fields vs) (hg : Gl X "isinstance") (hm : X.mg "isinstance" = none) (hg2 : Gl X x) (hm2 : X.mg x = some (.ref C2)) (ha : DE (X.suite a ((a, oe) :: pn)) (Ct.calm B) e ta)
    (hd : (x == ("__debug__" : Str)) = false := by decide) (hs : starEach [e, .Name x p'] X.env = (false, eval e X.env) :: starEach [.Name x p'] X.env := by rfl)
    (hs2 : starEach [.Name x p'] X.env = (false, eval (.Name x p') X.env) :: starEach [] X.env := by rfl) (hpl : (backTo pos (starEach [.Name x p'] X.env)).any (·.1) = false := by rfl) :
    DE (X.suite a ((a, oe) :: pn)) (Ct.calm B) (.Call (.Name "isinstance" p) [e, .Name x p'] [] pos) (aIsX X.K a dd C C2 ta) :=
  ⟨fun pins s σ H Q I ⟨F, Γ, M, Φ, w, ⟨hT, q⟩, z⟩ => by
    refine (pe_callB (X := X.suite a ((a, oe) :: pn)) (call_isX hT hz hf) hg hm PyProof.Rows.boot_isinstance (pa_cons ha (pa_cons (pe_glob (X := X.suite a ((a, oe) :: pn)) hg2 hm2 (v := .ref C2) rfl hd) pa_nil hs2) hs) (by decide) (by decide) hs hpl).run pins s σ H Q I (cE_mk w q fun d M1 v F1 H1 s1 h1 i1 q1 => ?_)
    unfold aIsX_k at q1
    split at q1
    · obtain ⟨⟨rfl, rfl, rfl⟩, b, hb, q1⟩ := q1
      cases i1 with
      | @xc _ _ _ v _ hF hI =>
        exact ⟨.ref C2, .ref C2, b, _, rfl, fun u r => r, hb, h1.sub _ _ hF, z _ _ _ _ _ s1 h1 (.bl b) q1⟩
    · exact q1.elim⟩
end DL

set_option Elab.async false
set_option linter.all false
set_option maxRecDepth 100000
set_option maxHeartbeats 2000000
/-! DC1: instances of own classes over data. -/
namespace DL
open PySem L2
section
variable {X : Cx} {CX : CXT} {k : Nat} {f C : Addr} {fd : FuncData} {ps : List Str} {sp : Sp} {dvs : List V} {ds : List Value} {E : L2.St → XK} {p pos : Pos} {e : Expr} {es : List Expr} {t : TA}
theorem run_makeS {pins : List (Addr × Obj)} {σ : L2.St} {H : Hp} {s : Shared} {Q : VK} {us : List Value} {vs : List V} (M : Mk X.K C f) (F : FnOk X.prog X.w X.K X.mg X.base CX k f fd ps sp) (hr : Room (k + 1) X.A) (hb : Binds X.K fd ps ds) (hd : Vals dvs ds)
    (hx : PassesAt CX X σ (E σ)) (I : Inv X pins σ H s) (r : Vals vs us)
    (h : ∀ x dx, H x = none → H dx = none → dx ≠ x → sp (.ref x :: (vs ++ dvs)) (upd (upd H dx (.own x)) x (.ins C dx [])) (fun v H2 => v = .non ∧ Q (.ref x) H2) (E σ)) :
    wpAny (model X.prog X.w) X.A (call (.ref C) us) (EP X pins σ Q) X.xe s := by
  have hq := h (s.heap.objs.size + 1) s.heap.objs.size (I.hok.fresh (Nat.le_succ _)) (I.hok.fresh (Nat.le_refl _)) (Nat.ne_of_lt (Nat.lt_succ_self _))
  have J := Inv.made (C := C) I
  have rr : Vals (V.ref (s.heap.objs.size + 1) :: (vs ++ dvs)) (Value.ref (s.heap.objs.size + 1) :: (us ++ ds)) := .cons rfl (r.append hd)
  have hl : (Value.ref (s.heap.objs.size + 1) :: us ++ ds).length = ps.length := by
    have z := rr.length
    rw [F.len _ _ _ _ hq] at z
    exact z.symm
  refine wpAny_call (make_map (f := f) I.kIn M.makes M.init (beq_iff_eq.mp M.fn) (codeAny_mono (F.run _ X.stack _ _ ⟨Value.ref (s.heap.objs.size + 1) :: us, []⟩ (Value.ref (s.heap.objs.size + 1) :: (us ++ ds)) _ _ (E σ) (hr.make C us []) (J.env0.make C us []) (hb _ (Value.ref (s.heap.objs.size + 1) :: us) J.kIn hl) rr hq) fun r s' hq' => ?_))
  cases r with
  | error er => exact hx pins _ _ er s' J hq'
  | ok fl =>
    cases fl with
    | ret u =>
      obtain ⟨v, H', J2, rv, ev, q3⟩ := J.after hq'
      subst ev
      exact ⟨rv, ⟨V.ref (s.heap.objs.size + 1), H', J2, rfl, q3⟩⟩
    | next => exact False.elim hq'
    | brk => exact False.elim hq'
    | cont => exact False.elim hq'
def tMakeS (C : Addr) (sp : Sp) (dvs : List V) (E : L2.St → XK) (t : TA) : TE := fun σ H Q => t σ H fun vs H1 => ∀ x dx, H1 x = none → H1 dx = none → dx ≠ x → sp (.ref x :: (vs ++ dvs)) (upd (upd H1 dx (.own x)) x (.ins C dx [])) (fun v H2 => v = .non ∧ Q (.ref x) H2) (E σ)
theorem pe_makeS {x : Str} (M : Mk X.K C f) (F : FnOk X.prog X.w X.K X.mg X.base CX k f fd ps sp) (hr : Room (k + 1) X.A) (hg : Gl X x) (hm : X.mg x = some (.ref C)) (hb : Binds X.K fd ps ds) (hd : Vals dvs ds) (hx : ∀ σ, PassesAt CX X σ (E σ))
    (ha : PA X (e :: es) t) (hdb : (x == ("__debug__" : Str)) = false := by decide) (he : starEach (e :: es) X.env = (false, eval e X.env) :: starEach es X.env := by rfl) (hpl : (backTo pos (starEach es X.env)).any (·.1) = false := by rfl) :
    PE X (.Call (.Name x p) (e :: es) [] pos) (tMakeS C sp dvs E t) :=
  ⟨fun pins s σ H Q I h => wpAny_Call_Name_kw (ld_glob I hg hm (PySem.W.callWith_K (h₀ := X.base) I.ok.mod.kin M.kp (thn (ha.run pos pins s σ H _ I h) fun us s1 hh => by
    obtain ⟨vs, H1, I1, r, q⟩ := hh
    exact ⟨I1.kIn, run_makeS M F hr hb hd (hx σ) I1 r q⟩) he hpl) hdb)⟩
end
section
variable {X : Cx} {T : Ct} {e o : Expr} {pos p : Pos} {es : List Expr} {tr : AA} {ta to tv : AE}
/-- a new instance, to be left as it is -/
def aMake (C : Addr) (asp : ASp) (dds : List D) (Ψ : AX) (tr : AA) (Γ : Gm) (M : Mm) (Φ : AK) : Prop := tr Γ M fun ds M1 => ∀ x, asp (.ref x :: (ds ++ dds)) ((x, .ins C [] []) :: M1) (fun d M2 => d = .non ∧ ∃ ns xs M3, Dl M2 x (.ins C ns xs) M3 ∧ Φ (.ins C ns xs) M3) (fun y M2 => Ψ y Γ M2)
/-- one that may change -/
def aMakeM (C : Addr) (asp : ASp) (dds : List D) (Ψ : AX) (tr : AA) (Γ : Gm) (M : Mm) (Φ : AK) : Prop := tr Γ M fun ds M1 => ∀ x, asp (.ref x :: (ds ++ dds)) ((x, .ins C [] []) :: M1) (fun d M2 => d = .non ∧ Φ (.ref x) M2) (fun y M2 => Ψ y Γ M2)
theorem hs_made {K : PySem.W.Frag} {B : Bx} {M : Mm} {F H : Hp} {C x dx : Addr} (h : Hs K B M F H) (hx : H x = none) (hd : H dx = none) (ne : dx ≠ x) : Hs K B ((x, .ins C [] []) :: M) F (upd (upd H dx (.own x)) x (.ins C dx [])) :=
  (h.over hd).newM (by rw [upd_ne (Ne.symm ne)]; exact hx) ⟨dx, [], upd_same, rfl, .nil⟩
theorem de_makeM {x : Str} {k : Nat} {C f : Addr} {fd : FuncData} {ps : List Str} {asp : ASp} {dds : List D} {dvs : List V} {dvals : List Value} (Mc : Mk X.K C f) (G : FnOk X.prog X.w X.K X.mg X.base (L2N.CX X.prog X.w) k f fd ps (conc X.K T.B asp)) (hr : Room (k + 1) X.A) (hg : Gl X x) (hm : X.mg x = some (.ref C))
    (hb : Binds X.K fd ps dvals) (hd : Vals dvs dvals) (hi : ∀ F, IsL X.K F dvs dds) (tk : L2N.Takes X T.W) (ha : DA X T (e :: es) tr)
    (hdb : (x == ("__debug__" : Str)) = false := by decide) (he : starEach (e :: es) X.env = (false, eval e X.env) :: starEach es X.env := by rfl) (hpl : (backTo pos (starEach es X.env)).any (·.1) = false := by rfl) :
    DE X T (.Call (.Name x p) (e :: es) [] pos) (aMakeM C asp dds T.Ψ tr) :=
  de_of (pe_makeS Mc G hr hg hm hb hd (fun σ => L2N.passAt tk σ) ha hdb he hpl) fun F σ H Γ M Φ Q w q z => cA_mk w q fun ds M1 vs F1 H1 s1 h1 i1 q1 => fun x dx n1 n2 ne =>
    ⟨.ref x :: (ds ++ dds), F1, (x, .ins C [] []) :: M1, _, fun y M2 => T.Ψ y Γ M2, .cons (.ref x) (i1.append (hi F1)), hs_made h1 n1 n2 ne, q1 x, fun d M2 v F2 H2 s2 h2 i2 q2 => by
      obtain ⟨rfl, q2⟩ := q2
      cases i2
      exact ⟨rfl, z _ M2 _ F2 H2 (s1.trans s2) h2 (.ref x) q2⟩, fun y cls d M2 F2 H2 s2 h2 xi q2 => w.l y cls d Γ M2 σ F2 H2 (s1.trans s2) (w.v.mono (s1.trans s2)) h2 xi q2⟩
theorem de_make {x : Str} {k : Nat} {C f : Addr} {fd : FuncData} {ps : List Str} {asp : ASp} {dds : List D} {dvs : List V} {dvals : List Value} (Mc : Mk X.K C f) (G : FnOk X.prog X.w X.K X.mg X.base (L2N.CX X.prog X.w) k f fd ps (conc X.K T.B asp)) (hr : Room (k + 1) X.A) (hg : Gl X x) (hm : X.mg x = some (.ref C))
    (hb : Binds X.K fd ps dvals) (hd : Vals dvs dvals) (hi : ∀ F, IsL X.K F dvs dds) (tk : L2N.Takes X T.W) (ha : DA X T (e :: es) tr)
    (hdb : (x == ("__debug__" : Str)) = false := by decide) (he : starEach (e :: es) X.env = (false, eval e X.env) :: starEach es X.env := by rfl) (hpl : (backTo pos (starEach es X.env)).any (·.1) = false := by rfl) :
    DE X T (.Call (.Name x p) (e :: es) [] pos) (aMake C asp dds T.Ψ tr) :=
  de_of (pe_makeS Mc G hr hg hm hb hd (fun σ => L2N.passAt tk σ) ha hdb he hpl) fun F σ H Γ M Φ Q w q z => cA_mk w q fun ds M1 vs F1 H1 s1 h1 i1 q1 => fun x dx n1 n2 ne =>
    ⟨.ref x :: (ds ++ dds), F1, (x, .ins C [] []) :: M1, _, fun y M2 => T.Ψ y Γ M2, .cons (.ref x) (i1.append (hi F1)), hs_made h1 n1 n2 ne, q1 x, fun d M2 v F2 H2 s2 h2 i2 q2 => by
      obtain ⟨rfl, ns, xs, M3, dl, q2⟩ := q2
      cases i2
      obtain ⟨F3, s3, h3, i3⟩ := h2.freezeI dl
      exact ⟨rfl, z _ M3 _ F3 H2 ((s1.trans s2).trans s3) h3 i3 q2⟩, fun y cls d M2 F2 H2 s2 h2 xi q2 => w.l y cls d Γ M2 σ F2 H2 (s1.trans s2) (w.v.mono (s1.trans s2)) h2 xi q2⟩
/-- the field f -/
def fld (f : Str) : List Str → List D → Option D
  | n :: ns, x :: xs => if f = n then some x else fld f ns xs
  | _, _ => none
def putN (f : Str) : List Str → List Str
  | [] => [f]
  | n :: ns => if n = f then n :: ns else n :: putN f ns
def putX (f : Str) (y : D) : List Str → List D → List D
  | n :: ns, x :: xs => if n = f then y :: xs else x :: putX f y ns xs
  | _, _ => [y]
theorem fld_of {K : PySem.W.Frag} {F : Hp} {f : Str} {d : D} : ∀ {fs : List (Str × V)} {xs : List D}, IsL K F (fs.map (·.2)) xs → fld f (fs.map (·.1)) xs = some d → ∃ v, fs.lookup f = some v ∧ Is K F v d
  | [], _, h, e => by cases e
  | (n, v) :: fs, _, .cons i l, e => by
    unfold fld at e
    rw [List.map_cons] at e
    by_cases h : f = n
    · subst h
      simp at e
      subst e
      exact ⟨v, by simp [List.lookup], i⟩
    · simp only [if_neg h] at e
      obtain ⟨u, h1, h2⟩ := fld_of l e
      exact ⟨u, by simp [List.lookup, beq_false_of_ne h, h1], h2⟩
theorem put_names (f : Str) (y : V) : ∀ fs : List (Str × V), (putF f y fs).map (·.1) = putN f (fs.map (·.1))
  | [] => rfl
  | (n, v) :: fs => by
    unfold putF putN
    rw [List.map_cons]
    by_cases h : n = f
    · simp only [if_pos h, List.map_cons]
    · simp only [if_neg h, List.map_cons, put_names f y fs]
theorem put_vals {K : PySem.W.Frag} {F : Hp} {f : Str} {y : V} {d : D} (i : Is K F y d) : ∀ {fs : List (Str × V)} {xs : List D}, IsL K F (fs.map (·.2)) xs → IsL K F ((putF f y fs).map (·.2)) (putX f d (fs.map (·.1)) xs)
  | [], _, .nil => .cons i .nil
  | (n, v) :: fs, _, .cons j l => by
    unfold putF putX
    rw [List.map_cons]
    by_cases h : n = f
    · simp only [if_pos h, List.map_cons]
      exact .cons i l
    · simp only [if_neg h, List.map_cons]
      exact .cons j (put_vals i l)
def aFld_k (K : PySem.W.Frag) (f : Str) (Φ : AK) (d : D) (M : Mm) : Prop := match d with
  | .ins C ns xs => (Cls K C ∧ NoAttr K C f) ∧ onD (fld f ns xs) fun x => Φ x M
  | .ref a => ∃ C ns xs, (a, MO.ins C ns xs) ∈ M ∧ (Cls K C ∧ NoAttr K C f) ∧ onD (fld f ns xs) fun x => Φ x M
  | _ => False
def aFld (K : PySem.W.Frag) (f : Str) (ta : AE) (Γ : Gm) (M : Mm) (Φ : AK) : Prop := ta Γ M fun d M1 => aFld_k K f Φ d M1
theorem aFld_i {K : PySem.W.Frag} {f : Str} {Φ : AK} {C : Addr} {ns : List Str} {xs : List D} {M : Mm} : aFld_k K f Φ (.ins C ns xs) M = ((Cls K C ∧ NoAttr K C f) ∧ onD (fld f ns xs) fun x => Φ x M) := rfl
theorem aFld_r {K : PySem.W.Frag} {f : Str} {Φ : AK} {a : Addr} {M : Mm} : aFld_k K f Φ (.ref a) M = ∃ C ns xs, (a, MO.ins C ns xs) ∈ M ∧ (Cls K C ∧ NoAttr K C f) ∧ onD (fld f ns xs) fun x => Φ x M := rfl
theorem de_fld {f : Str} (he : DE X T e ta) (hb : attributeBase e f X.env (eval e X.env) = eval e X.env := by rfl) : DE X T (.Attribute e f pos) (aFld X.K f ta) :=
  de_of (pe_fld he hb) fun F σ H Γ M Φ Q w q z => cE_mk w q fun d M1 v F1 H1 s1 h1 i1 q1 => by
    unfold aFld_k at q1
    split at q1
    · rename_i C ns xs
      obtain ⟨⟨c1, c2⟩, q1⟩ := q1
      cases i1 with
      | @ins a _ dx fs _ hF hl =>
        cases e1 : fld f (fs.map (·.1)) xs with
        | none =>
          rw [e1] at q1
          exact q1.elim
        | some d =>
          rw [e1] at q1
          obtain ⟨v, h2, h3⟩ := fld_of hl e1
          exact ⟨a, C, dx, fs, v, rfl, h1.sub _ _ hF, c1, c2, h2, z _ _ _ _ _ s1 h1 h3 q1⟩
    · rename_i a
      obtain ⟨C, ns, xs, hm, ⟨c1, c2⟩, q1⟩ := q1
      cases i1
      obtain ⟨_, _, dx, fs, e2, rfl, hl⟩ := h1.mem _ hm
      cases e1 : fld f (fs.map (·.1)) xs with
      | none =>
        rw [e1] at q1
        exact q1.elim
      | some d =>
        rw [e1] at q1
        obtain ⟨v, h2, h3⟩ := fld_of hl e1
        exact ⟨a, C, dx, fs, v, rfl, e2, c1, c2, h2, z _ _ _ _ _ s1 h1 h3 q1⟩
    · exact q1.elim
def aFldS_k (K : PySem.W.Frag) (f : Str) (y : D) (A : AEnds) (Γ : Gm) (d : D) (M : Mm) : Prop := match d with
  | .ref a => ∃ C ns xs M3, Up M a (.ins C ns xs) (.ins C (putN f ns) (putX f y ns xs)) M3 ∧ (Cls K C ∧ NoAttr K C f) ∧ ns.length < 1000 ∧ A.nx Γ M3
  | _ => False
def aFldS (K : PySem.W.Frag) (f : Str) (to tv : AE) (A : AEnds) (Γ : Gm) (M : Mm) : Prop := tv Γ M fun y M1 => to Γ M1 fun d M2 => aFldS_k K f y A Γ d M2
theorem aFldS_r {K : PySem.W.Frag} {f : Str} {y : D} {A : AEnds} {Γ : Gm} {a : Addr} {M : Mm} : aFldS_k K f y A Γ (.ref a) M = ∃ C ns xs M3, Up M a (.ins C ns xs) (.ins C (putN f ns) (putX f y ns xs)) M3 ∧ (Cls K C ∧ NoAttr K C f) ∧ ns.length < 1000 ∧ A.nx Γ M3 := rfl
theorem ds_fld {f : Str} {p' : Pos} (ho : DE X T o to) (hv : DE X T e tv) (hs : swapsWith e (some (.Attribute o f p')) pos.line X.env = pure false := by rfl) : DS X T (.Assign [.Attribute o f p'] e pos) (aFldS X.K f to tv) :=
  ds_of (ps_fld ho hv hs) fun F σ H Γ M A D w q m => cE_mk w q fun y M1 v F1 H1 s1 h1 i1 q1 => cE_mk (w.go s1 h1) q1 fun d M2 u F2 H2 s2 h2 i2 q2 => by
    unfold aFldS_k at q2
    split at q2
    · rename_i a
      obtain ⟨C, ns, xs, M3, up, ⟨c1, c2⟩, hl, q2⟩ := q2
      cases i2
      obtain ⟨_, _, dx, fs, e2, rfl, hl2⟩ := h2.mem _ up.mem
      refine ⟨a, C, dx, fs, rfl, e2, c1, c2, by rw [List.length_map] at hl; exact hl, ?_⟩
      exact m.nx _ _ _ _ _ (s1.trans s2) (w.v.mono (s1.trans s2)) (h2.put up ⟨dx, _, upd_same, put_names f v fs, put_vals (i1.mono s2) hl2⟩) q2
    · exact q2.elim
end
end DL

set_option Elab.async false
set_option linter.all false
set_option maxRecDepth 100000
set_option maxHeartbeats 4000000
/-! DR1: enumerate over a tuple. -/
namespace DL
open PySem L2
set_option maxHeartbeats 4000000 in
theorem meets_enum1 {v : Value} {o : Obj} {H : Heap → Prop} (B : Begins v o H) :
    Meets (Builtin.«enumerate.__new__» ⟨[.type "enumerate", v], []⟩) (fun _ R s => H s.heap ∧
      R (.ok (.ret (.ref (s.heap.push o).objs.size))) { s with heap := (s.heap.push o).push { cls := .type "enumerate", data := .fields #[.none, .bool false, .ref s.heap.objs.size, rawInt 0, .none, .none] } }) :=
  .of_wp fun prog w A R s h => by
    obtain ⟨hp, g, d, tk, os⟩ := s
    obtain ⟨h1, h⟩ := h
    have hsub := sub_enumerate
    have q1 : ∀ {A' : Around} {E : Value → Shared → Prop} {Q : Value → Shared → Prop}, Q (.ref hp.objs.size) ⟨hp.push o, g, d, tk, os⟩ → wpAny (model prog w) A' (pyIter v) Q E ⟨hp, g, d, tk, os⟩ :=
      fun q => B.iter prog w _ _ ⟨hp, g, d, tk, os⟩ _ h1 q
    wp_walk using q1
    refine wpAny_stack_any fun st => wpAny_pure ?_
    split
    · rename_i c _ _ _ _ _
      cases (c == Value.type "enumerate")
      · wp_walk using q1
        exact ⟨_, rfl, h⟩
      · wp_walk using q1
        exact ⟨_, rfl, h⟩
    · wp_walk using q1
      exact ⟨_, rfl, h⟩
section
variable {prog : Program} {w : World} {A : Around} {E : Value → Shared → Prop} {s : Shared}
theorem enum1_begins {v : Value} {o : Obj} {H : Heap → Prop} {Q : Value → Shared → Prop} (B : Begins v o H) (h1 : H s.heap)
    (h : ∀ h', IsEnum h' (s.heap.objs.size + 1) s.heap.objs.size 0 .none → h'.get? s.heap.objs.size = some o → h'.objs.size = s.heap.objs.size + 2 →
      (∀ b o, s.heap.get? b = some o → h'.get? b = some o) → Q (.ref (s.heap.objs.size + 1)) { s with heap := h' }) :
    wpAny (model prog w) A (call (.type "enumerate") [v]) Q E s := by
  refine callType_new F.called_enumerate (by decide) (F.typeCall_enumerate_1 _) (F.newCall_enumerate_1 _) (fun obj => F.args_object_init_2 obj _) F.entry_enumerate_new (meets_enum1 B) ⟨h1, ?_⟩
  have hz : (s.heap.push o).objs.size = s.heap.objs.size + 1 := Heap.size_push ..
  show _ ∧ _
  rw [hz]
  have he : IsEnum ((s.heap.push o).push { cls := .type "enumerate", data := .fields #[.none, .bool false, .ref s.heap.objs.size, rawInt 0, .none, .none] }) (s.heap.objs.size + 1) s.heap.objs.size 0 .none := by
    have z := Heap.get?_push_size (s.heap.push o) (o := { cls := .type "enumerate", data := .fields #[.none, .bool false, .ref s.heap.objs.size, rawInt 0, .none, .none] }) rfl
    rw [hz] at z
    exact z
  exact ⟨⟨_, he, rfl⟩, h _ he (Heap.get?_push_of_some _ (Heap.get?_push_size _ B.free)) (by rw [Heap.size_push, hz]) fun b o x => Heap.get?_push_of_some _ (Heap.get?_push_of_some _ x)⟩
end
theorem enumT_end {prog : Program} {w : World} {A : Around} {E : Value → Shared → Prop} {s : Shared} {e it a : Addr} {i : Nat} {j : Int} {items : Array Value} {old : Value} {Q : Option Value → Shared → Prop} (hh : A.handled = none)
    (he : IsEnum s.heap e it j old) (hit : s.heap.IsTupleIter it a i) (hl : s.heap.IsTuple a items) (hx : items[i]? = none) (hQ : ∀ h', Heap.ExtBut it s.heap h' → Q none { s with heap := h' }) : wpAny (model prog w) A (pyNext (.ref e)) Q E s := by
  have hT : s.TypeIs (.ref e) "enumerate" := ⟨_, he, rfl⟩
  unfold pyNext
  refine wpAny_bind (wpAny_attempt (wpAny_callSpecial?_slot (name := Str.ofString "__next__") hT F.slot_enumerate_next (wpAny_call_entry F.slot_enumerate_next hT F.entry_enumerate_next ?_ (F.args_enumerate_next_1 _))))
  show wpAny _ _ (field (.ref e) 2 >>= _) _ _ _
  refine wpAny_bind (wpAny_field he rfl (x := .ref it) rfl ?_)
  refine wpAny_bind (wpAny_nextOf_tuple_end (by exact hh) hit hl hx fun h' x hx1 hx2 => ?_)
  obtain ⟨o, ho, hc⟩ := hx2
  exact wpAny_bind (wpAny_isInstance (T := "StopIteration") (b := true) ⟨o, ho, hc⟩ isSubtype_stop (wpAny_pure (hQ _ hx1)))
/-- the tuple at a, each item in a new pair -/
def IteT (K : PySem.W.Frag) (a : Addr) : It :=
  ⟨fun i H => ∃ (xs : List V) (x : V), SqT K H a xs ∧ xs[i]? = some x, fun i H v H' => ∃ T x, v = .ref T ∧ H T = none ∧ H' = upd H T (.tup [.int (i : Nat), x]) ∧ ∀ xs, SqT K H a xs → xs[i]? = some x, fun i H => ∃ xs : List V, SqT K H a xs ∧ xs.length ≤ i⟩
theorem turn_enumT {P : Program} {w : World} {K : PySem.W.Frag} {elts : List Expr} {kk : Nat} {tpos : Pos} (a e it : Addr) :
    Turn P w K (.Tuple elts kk tpos) (IteT K a) [e, it] e (fun i h => (∃ old, IsEnum h e it ((i : Nat) : Int) old) ∧ h.IsTupleIter it a i ∧ e ≠ it ∧ a ≠ it ∧ a ≠ e) where
  mem := by simp
  obj := fun i h st b hb => by
    obtain ⟨⟨old, he⟩, ⟨o, ho, hc, hd⟩, _⟩ := st
    have e' : b = e ∨ b = it := by simpa using hb
    rcases e' with rfl | rfl
    · exact ⟨_, he, fun v q => nomatch q⟩
    · exact ⟨o, ho, fun v q => by rw [hd] at q; cases q⟩
  keep := fun i h h' st k => let ⟨⟨old, he⟩, hi, hne⟩ := st; ⟨⟨old, k e (by simp) _ he⟩, hi.at fun o q => k it (by simp) o q, hne⟩
  item := by
    intro X hP hw hK hc i pins s σ H E I hf st hg
    subst hP hw hK
    obtain ⟨⟨old, he⟩, hit, hne, ne2, ne3⟩ := st
    obtain ⟨xs, x, hq, hx⟩ := hg
    obtain ⟨its, rv, p, hz⟩ := I.tuple hq
    obtain ⟨u, hu, ru⟩ := rv.get hx
    have hel : e < s.heap.objs.size := Heap.lt_size he
    have hil : it < s.heap.objs.size := by obtain ⟨_, q, _⟩ := hit; exact Heap.lt_size q
    have pt : s.heap.IsTuple a its.toArray := p
    refine wpAny_pyNext_enum_itemD (Draws.tuple (A := X.A.in1) (show X.A.in1.handled = none from I.ok.hd hc) it a ne2 its.toArray) he ⟨hit, pt⟩ (by rw [List.size_toArray]; exact (List.getElem?_eq_some_iff.mp hu).1) hne (by simp [hne, Ne.symm ne3]) fun y h' tk hy ho hit' hT hsz hk => ?_
    have ey : y = u := by
      rw [List.getElem?_toArray] at hy
      rw [hu] at hy
      exact (Option.some.inj hy).symm
    subst ey
    refine ⟨_, rfl, wpAny_letOwnedTupleGo_enum (s := { s with heap := h', toks := tk + 1 }) ho fun h'' he' sb => ?_⟩
    have hT2 : h''.get? s.heap.objs.size = some { cls := .type "tuple", data := .seq #[.int i tk, y] } := (sb.2 _ (Nat.ne_of_gt hel)).trans hT
    have new : ObjOk X.prog X.w (upd H s.heap.objs.size (.tup [.int (i : Nat), x])) h'' s.heap.objs.size (.tup [.int (i : Nat), x]) :=
      ⟨by show 2 ≤ sizeLine; decide, [.int i tk, y], .cons ⟨_, rfl⟩ (.cons ru .nil), ⟨_, hT2, rfl, _, rfl⟩⟩
    have J : Inv X pins σ (upd H s.heap.objs.size (.tup [.int (i : Nat), x])) { s with heap := h'', toks := tk + 1 } :=
      I.turnedNew (ch := [e, it]) (fun b ob hb q => (sb.2 b (fun z => hb (by simp [z]))).trans (hk b ob (fun z => hb (by simp [z])) (fun z => hb (by simp [z])) q)) hf (Nat.le_refl _) new
    refine ⟨.ref s.heap.objs.size, _, J, rfl, ⟨_, x, rfl, I.hok.fresh (Nat.le_refl _), rfl, fun ys hy => by rw [I.tuple_inj hy hq]; exact hx⟩, ⟨⟨y, ?_⟩, hit'.1.at fun o q => (sb.2 it (Ne.symm hne)).trans q, hne, ne2, ne3⟩, fun b hb => ?_⟩
    · have q1 : ((i + 1 : Nat) : Int) = (i : Int) + 1 := by omega
      rw [q1]
      exact he'
    · have hb' : b < s.heap.objs.size := by
        have e' : b = e ∨ b = it := by simpa using hb
        rcases e' with rfl | rfl
        · exact hel
        · exact hil
      rw [upd_ne (Nat.ne_of_lt hb')]
      exact (hf b hb).1
  done := by
    intro X hP hw hK hc i pins s σ H E I hf st hg
    subst hP hw hK
    obtain ⟨⟨old, he⟩, hit, hne, ne2, ne3⟩ := st
    obtain ⟨xs, hq, hx⟩ := hg
    obtain ⟨its, rv, p, hz⟩ := I.tuple hq
    obtain ⟨f0, f1, f2, f3, f4, f5⟩ := hf it (by simp)
    have hl := rv.length
    exact enumT_end (I.ok.hd hc) he hit p (by simp; omega) fun h' eb => ⟨rfl, I.turned (t' := s.toks) (fun b o hb q => eb b o hb q) f0 f1 f3 f4 f5⟩
  self := fun A i s Q E st h => let ⟨⟨_, he⟩, _⟩ := st; wpAny_pyIter_enum he h
def iEnumA (K : PySem.W.Frag) (ta : TA) : TI := fun σ H R => ta σ H fun vs H1 => ∃ a, vs = [.ref a] ∧ ((∃ xs, SqL K H1 a xs ∧ R (Ite K a) H1) ∨ ∃ xs, SqT K H1 a xs ∧ R (IteT K a) H1)
theorem pi_enumA {X : Cx} {e : Expr} {ta : TA} {p pos tpos : Pos} {elts : List Expr} {kk : Nat} (hg : Gl X "enumerate") (hm : X.mg "enumerate" = none) (ha : PA X [e] ta) (hs : starEach [e] X.env = [(false, eval e X.env)] := by rfl) :
    PI X (.Tuple elts kk tpos) (.Call (.Name "enumerate" p) [e] [] pos) (iEnumA X.K ta) := by
  refine ⟨fun pins s σ H R I h => PyProof.Rows.Call_ (ld_blt I hg hm PyProof.Rows.boot_enumerate (PyProof.Rows.callWith_type1 (thn (ha.run pos pins s σ H _ I h) fun us s1 hh => ?_) hs rfl))⟩
  obtain ⟨vs, H1, J, r1, a, rfl, q1⟩ := hh
  cases r1 with
  | cons r rr =>
    cases rr
    cases r
    have fin : ∀ {h' : Heap}, (∀ b o, s1.heap.get? b = some o → h'.get? b = some o) → ∀ b ∈ [s1.heap.objs.size + 1, s1.heap.objs.size], FpOk X pins H1 b := fun {h'} hk b hb => by
      have hle : s1.heap.objs.size ≤ b := by
        rcases List.mem_cons.mp hb with rfl | hb
        · exact Nat.le_add_right _ _
        · rw [List.mem_singleton.mp hb]
          exact Nat.le_refl _
      exact J.fpOk hle (J.hok.fresh hle)
    rcases q1 with ⟨xs, hq, q⟩ | ⟨xs, hq, q⟩
    · obtain ⟨its, rv, p', hz⟩ := J.list hq
      exact call_enumerate_list p'.isList fun h' he hit hsz hk => wpAny_pyIter_enum he ⟨_, _, _, _, H1, rfl, J.kept (t' := s1.toks) hk, turn_enum a (s1.heap.objs.size + 1) s1.heap.objs.size, ⟨⟨.none, he⟩, hit, Nat.succ_ne_self _⟩, fin hk, q⟩
    · obtain ⟨its, rv, p', hz⟩ := J.tuple hq
      have la : a < s1.heap.objs.size := by
        obtain ⟨o, ho, _⟩ := p'
        exact Heap.lt_size ho
      have pt : s1.heap.IsTuple a its.toArray := p'
      exact enum1_begins (begins_tuple a its.toArray) pt fun h' he ho hsz hk => wpAny_pyIter_enum he ⟨_, _, _, _, H1, rfl, J.kept (t' := s1.toks) hk, turn_enumT a (s1.heap.objs.size + 1) s1.heap.objs.size, ⟨⟨.none, he⟩, ⟨_, ho, rfl, rfl⟩, Nat.succ_ne_self _, Nat.ne_of_lt la, Nat.ne_of_lt (Nat.lt_succ_of_lt la)⟩, fin hk, q⟩
section
variable {X : Cx} {T : Ct} {K : PySem.W.Frag} {B : Bx} {F : Hp} {e a b : Expr} {pos p : Pos} {tr : AA} {ta tb : AE}
theorem walks_enumT {l : Addr} {vs : List V} {ds : List D} (h : SqT K F l vs) (z : IsL K F vs ds) : Walks K B (IteT K l) F (enumD ds) := by
  have w : Walk (IteT K l) vs.length (fun H => SqT K H l vs) (YPair (fun i => some (.int (i : Nat))) (fun i => vs[i]?)) :=
    ⟨fun i _ hi q => ⟨vs, vs[i], q, by simp [hi]⟩, fun _ q => ⟨vs, q, Nat.le_refl _⟩, fun i H v H' _ q y => let ⟨T, x, h1, h2, h3, h4⟩ := y; ⟨T, .int (i : Nat), x, h1, h2, h3, rfl, h4 vs q⟩⟩
  rw [z.length, ← enumD_len ds] at w
  refine walks_pair w (fun F' M' H' s h' => same_t h'.sub (same_t s h)) fun i d hd => ?_
  obtain ⟨x, hx, rfl⟩ := enumD_get hd
  refine ⟨_, _, rfl, fun p q hp hq => ?_⟩
  cases hp
  obtain ⟨v, e, iv⟩ := z.get hx
  rw [show vs[i]? = some q from hq] at e
  cases e
  exact ⟨.int _, iv⟩
def aEnumA_k (Φ : List D → Mm → Prop) (ds : List D) (M1 : Mm) : Prop := match ds with
  | [.lst xs] => Φ (enumD xs) M1
  | [.tup xs] => Φ (enumD xs) M1
  | _ => False
def aEnumA (tr : AA) (Γ : Gm) (M : Mm) (Φ : List D → Mm → Prop) : Prop := tr Γ M fun ds M1 => aEnumA_k Φ ds M1
theorem aEnumA_l {Φ : List D → Mm → Prop} {xs : List D} {M : Mm} : aEnumA_k Φ [.lst xs] M = Φ (enumD xs) M := rfl
theorem aEnumA_t {Φ : List D → Mm → Prop} {xs : List D} {M : Mm} : aEnumA_k Φ [.tup xs] M = Φ (enumD xs) M := rfl
theorem di_enumA {tpos : Pos} {elts : List Expr} {kk : Nat} (hg : Gl X "enumerate") (hm : X.mg "enumerate" = none) (ha : DA X T [e] tr) (hs : starEach [e] X.env = [(false, eval e X.env)] := by rfl) :
    DI X T (.Tuple elts kk tpos) (.Call (.Name "enumerate" p) [e] [] pos) (aEnumA tr) :=
  di_of (pi_enumA hg hm ha hs) fun F σ H Γ M Φ R w q z => cA_mk w q fun ds M1 vs F1 H1 s1 h1 i1 q1 => by
    match ds, i1, q1 with
    | [.lst xs], .cons k1 .nil, q1 =>
      cases k1 with
      | lst hq hl => exact ⟨_, rfl, .inl ⟨_, h1.sub.seq hq, z _ M1 _ F1 H1 s1 h1 (walks_enum hq hl) q1⟩⟩
    | [.tup xs], .cons k1 .nil, q1 =>
      cases k1 with
      | tup hq hl => exact ⟨_, rfl, .inr ⟨_, same_t h1.sub hq, z _ M1 _ F1 H1 s1 h1 (walks_enumT hq hl) q1⟩⟩
end
end DL

set_option Elab.async false
set_option linter.all false
set_option maxRecDepth 100000
set_option maxHeartbeats 4000000
/-! DR2: isinstance of two types, sums of lists and tuples, a tuple many times, constants, insert. -/
namespace DL
open PySem L2
section
variable {X : Cx} {T : Ct} {K : PySem.W.Frag} {B : Bx} {F : Hp} {e a b : Expr} {pos p : Pos} {es : List Expr} {tr : AA} {ta tb : AE}
/-! ### isinstance(a, (n1, n2)) -/
def fIsi2 (n1 n2 : String) (d : D) (M : Mm) (Φ : AK) : Prop := match tyD d M with
  | some t => match kitB t n1, kitB t n2 with
    | some b1, some b2 => Φ (.bl (b1 || b2)) M
    | _, _ => False
  | none => False
def aIsi2 (n1 n2 : String) (ta : AE) (Γ : Gm) (M : Mm) (Φ : AK) : Prop := ta Γ M fun d M1 => fIsi2 n1 n2 d M1 Φ
theorem kitAny_two {K : PySem.W.Frag} {t n1 n2 : String} {b1 b2 : Bool} (h1 : kitB t n1 = some b1) (h2 : kitB t n2 = some b2) : PySem.W.kitAny K (.type t) [.type n1, .type n2] = some (b1 || b2) :=
  kitAny_cons (kit_ty h1) (fun e => by
    subst e
    exact kitAny_cons (kit_ty h2) (fun e => by subst e; exact kitAny_nil) fun e => by subst e; rfl) fun e => by subst e; rfl
theorem de_isi2 {x y : Str} {n1 n2 : String} {p1 p2 p3 : Pos} {kk} (hg : Gl X "isinstance") (hm : X.mg "isinstance" = none) (hg2 : Gl X x) (hm2 : X.mg x = none) (hv : bootBuiltins x = some (.type n1)) (hg3 : Gl X y) (hm3 : X.mg y = none) (hv3 : bootBuiltins y = some (.type n2)) (ha : DE X T a ta)
    (hn : x ≠ "__name__" := by decide) (hd : (x == ("__debug__" : Str)) = false := by decide) (hn3 : y ≠ "__name__" := by decide) (hd3 : (y == ("__debug__" : Str)) = false := by decide)
    (hs : starEach [a, .Tuple [.Name x p1, .Name y p2] kk p3] X.env = (false, eval a X.env) :: starEach [.Tuple [.Name x p1, .Name y p2] kk p3] X.env := by rfl)
    (hs2 : starEach [.Tuple [.Name x p1, .Name y p2] kk p3] X.env = (false, eval (.Tuple [.Name x p1, .Name y p2] kk p3) X.env) :: starEach [] X.env := by rfl)
    (hs3 : starEach [.Name x p1, .Name y p2] X.env = (false, eval (.Name x p1) X.env) :: starEach [.Name y p2] X.env := by rfl) (hs4 : starEach [.Name y p2] X.env = (false, eval (.Name y p2) X.env) :: starEach [] X.env := by rfl)
    (hpl : (backTo pos (starEach [.Tuple [.Name x p1, .Name y p2] kk p3] X.env)).any (·.1) = false := by rfl) :
    DE X T (.Call (.Name "isinstance" p) [a, .Tuple [.Name x p1, .Name y p2] kk p3] [] pos) (aIsi2 n1 n2 ta) :=
  de_of (pe_callB call_isiT hg hm PyProof.Rows.boot_isinstance (pa_cons ha (pa_cons (pe_tup (pa_cons (pe_bltn hg2 hm2 hv (v := .ty n1) rfl hn hd) (pa_cons (pe_bltn hg3 hm3 hv3 (v := .ty n2) rfl hn3 hd3) pa_nil hs4) hs3)) pa_nil hs2) hs) (by decide) (by decide) hs hpl) fun F σ H Γ M Φ Q w q z => cE_mk w q fun d M1 v F1 H1 s1 h1 i1 q1 => by
    unfold fIsi2 at q1
    split at q1
    · rename_i t ht
      split at q1
      · rename_i b1 b2 e1 e2
        refine ⟨by rw [sizeLine_eq]; show (2 : Nat) ≤ _; decide, fun tp htp => ?_⟩
        have nf := h1.free htp
        exact ⟨v, tp, [.ty n1, .ty n2], _, [.type n1, .type n2], b1 || b2, rfl, upd_same, .cons (.ty n1) (.cons (.ty n2) .nil), tyX_of ((h1.laid htp).sub) (i1.mono (upd_same_ext nf)) ht, kitAny_two e1 e2, z _ M1 _ _ _ (s1.trans (upd_same_ext nf)) (h1.laid htp) (.bl _) q1⟩
      · exact q1.elim
    · exact q1.elim
/-! ### sums -/
def fCatT (x y : D) (M : Mm) (Φ : AK) : Prop := match x, y with
  | .tup xs, .tup ys => xs.length + ys.length ≤ 100000 ∧ Φ (.tup (xs ++ ys)) M
  | _, _ => False
theorem fCatT_t {xs ys : List D} {M : Mm} {Φ : AK} : fCatT (.tup xs) (.tup ys) M Φ = (xs.length + ys.length ≤ 100000 ∧ Φ (.tup (xs ++ ys)) M) := rfl
theorem ab_catT : Ab2 K B (rCatA K) fCatT := fun F H x y d g M Φ Q h i1 i2 q z => by
  unfold fCatT at q
  split at q
  · rename_i xs ys
    obtain ⟨hl, q⟩ := q
    cases i1 with
    | @tup a vs _ hq il =>
      cases i2 with
      | @tup b ws _ hq2 il2 =>
        refine ⟨a, b, vs, ws, rfl, rfl, same_t h.sub hq, same_t h.sub hq2, by rw [il.length, il2.length]; exact line_of hl, fun e => ?_, fun _ e => ?_, fun _ _ p hp => ?_⟩
        · subst e
          cases il
          exact z _ M _ F H (Same.refl F) h (.tup hq2 il2) q
        · subst e
          cases il2
          rw [List.append_nil] at q
          exact z _ M _ F H (Same.refl F) h (.tup hq il) q
        · have nf := h.free hp
          exact z _ M _ _ _ (upd_same_ext nf) (h.laid hp) (.tup (.inl (.inl upd_same)) ((il.append il2).mono (upd_same_ext nf))) q
  · exact q.elim
theorem de_catT (ha : DE X T a ta) (hb : DE X T b tb) : DE X T (.BinOp a .Add b pos) (aOp fCatT ta tb) := de_op op_catA ab_catT ha hb
def rCatS (K : PySem.W.Frag) : R2 := fun x y H Q => ∃ l b xs zs, x = .ref l ∧ y = .ref b ∧ SqL K H l xs ∧ SqL K H b zs ∧ xs.length + zs.length ≤ sizeLine ∧ ∀ p, H p = none → Q (.ref p) (upd H p (.lst (xs ++ zs)))
theorem op_catS : OpR X (binaryOp .Add) (rCatS X.K) := by
  intro pins s σ H x y v u Q I rx ry h
  obtain ⟨l, b, xs, zs, rfl, rfl, hH, hB, hz, q⟩ := h
  cases rx
  cases ry
  obtain ⟨its, r, p1, _⟩ := I.list hH
  obtain ⟨its2, r2, p2, _⟩ := I.list hB
  obtain ⟨⟨cls, dd, data, sl⟩, ho, hc, n, hd⟩ := p1.isList
  obtain ⟨⟨cls2, dd2, data2, sl2⟩, ho2, hc2, n2, hd2⟩ := p2.isList
  simp only at hc hd hc2 hd2
  subst hc hd hc2 hd2
  have eq : its.toArray ++ its2.toArray = (its ++ its2).toArray := by simp
  have l1 := r.length
  have l2 := r2.length
  refine PySem.concat_meets ⟨_, ho, rfl⟩ ⟨_, ho2, rfl⟩ PySem.noFill_list_add PySem.seq_list_add PySem.F.slot_list_add PySem.F.entry_list_add (PySem.F.args_list_add_2 _ _) (PyProof.Rows.list_addW l b its.toArray its2.toArray n n2 dd dd2 sl sl2 (by rw [List.size_toArray, List.size_toArray]; omega)) ⟨ho, ho2, ?_⟩
  rw [eq]
  exact ⟨.ref _, _, I.lnew (t' := s.toks) (r.append r2) (by rw [List.length_append]; omega), rfl, q _ I.fresh⟩
/-- what may be walked as a list: as it is, or one that may change -/
def lsOf (d : D) (M : Mm) (k : List D → Prop) : Prop := match d with
  | .lst xs => k xs
  | .ref l => ∃ xs, (l, MO.lst xs) ∈ M ∧ k xs
  | _ => False
theorem lsOf_l {xs : List D} {M : Mm} {k : List D → Prop} : lsOf (.lst xs) M k = k xs := rfl
theorem lsOf_r {l : Addr} {M : Mm} {k : List D → Prop} : lsOf (.ref l) M k = ∃ xs, (l, MO.lst xs) ∈ M ∧ k xs := rfl
theorem ls_at {d : D} {H : Hp} {M : Mm} {k : List D → Prop} {x : V} (h : Hs K B M F H) (i : Is K F x d) (q : lsOf d M k) : ∃ l vs xs, x = .ref l ∧ SqL K H l vs ∧ IsL K F vs xs ∧ k xs := by
  unfold lsOf at q
  split at q
  · cases i with
    | lst hq hl => exact ⟨_, _, _, rfl, h.sub.seq hq, hl, q⟩
  · obtain ⟨xs, hm, q⟩ := q
    cases i
    obtain ⟨vs, e, zz⟩ := h.lst hm
    exact ⟨_, _, _, rfl, .inl (.inl e), zz, q⟩
  · exact q.elim
def fCatL (x y : D) (M : Mm) (Φ : AK) : Prop := lsOf x M fun xs => lsOf y M fun ys => xs.length + ys.length ≤ 100000 ∧ Φ (.lst (xs ++ ys)) M
def fCatM (x y : D) (M : Mm) (Φ : AK) : Prop := lsOf x M fun xs => lsOf y M fun ys => xs.length + ys.length ≤ 100000 ∧ ∀ p, Φ (.ref p) ((p, .lst (xs ++ ys)) :: M)
theorem ab_catL : Ab2 K B (rCatS K) fCatL := fun F H x y d g M Φ Q h i1 i2 q z => by
  obtain ⟨l, vs, xs, rfl, hq, il, q⟩ := ls_at h i1 q
  obtain ⟨l2, ws, ys, rfl, hq2, il2, hl, q⟩ := ls_at h i2 q
  exact ⟨l, l2, vs, ws, rfl, rfl, hq, hq2, by rw [il.length, il2.length]; exact line_of hl, fun p hp => z _ M _ _ _ (upd_same_ext (h.free hp)) (h.laid hp) (.lst (.inl (.inl upd_same)) ((il.append il2).mono (upd_same_ext (h.free hp)))) q⟩
theorem ab_catM : Ab2 K B (rCatS K) fCatM := fun F H x y d g M Φ Q h i1 i2 q z => by
  obtain ⟨l, vs, xs, rfl, hq, il, q⟩ := ls_at h i1 q
  obtain ⟨l2, ws, ys, rfl, hq2, il2, hl, q⟩ := ls_at h i2 q
  exact ⟨l, l2, vs, ws, rfl, rfl, hq, hq2, by rw [il.length, il2.length]; exact line_of hl, fun p hp => z (.ref p) _ _ _ _ (Same.refl F) (h.newM (o := .lst (xs ++ ys)) hp ⟨_, upd_same, il.append il2⟩) (.ref p) (q p)⟩
theorem de_catL (ha : DE X T a ta) (hb : DE X T b tb) : DE X T (.BinOp a .Add b pos) (aOp fCatL ta tb) := de_op op_catS ab_catL ha hb
theorem de_catM (ha : DE X T a ta) (hb : DE X T b tb) : DE X T (.BinOp a .Add b pos) (aOp fCatM ta tb) := de_op op_catS ab_catM ha hb
/-! ### a tuple many times -/
def fRepT (x y : D) (M : Mm) (Φ : AK) : Prop := match x, y with
  | .tup xs, .int k => (xs ≠ [] ∧ 2 ≤ k ∧ k ≤ 1000 ∧ xs.length ≤ 1000) ∧ Φ (.tup (List.replicate k.toNat xs).flatten) M
  | _, _ => False
theorem fRepT_t {xs : List D} {k : Int} {M : Mm} {Φ : AK} : fRepT (.tup xs) (.int k) M Φ = ((xs ≠ [] ∧ 2 ≤ k ∧ k ≤ 1000 ∧ xs.length ≤ 1000) ∧ Φ (.tup (List.replicate k.toNat xs).flatten) M) := rfl
theorem IsL.rep {vs : List V} {ds : List D} (h : IsL K F vs ds) : ∀ n : Nat, IsL K F (List.replicate n vs).flatten (List.replicate n ds).flatten
  | 0 => .nil
  | n + 1 => by
    rw [List.replicate_succ, List.replicate_succ, List.flatten_cons, List.flatten_cons]
    exact h.append (IsL.rep h n)
theorem ab_repT : Ab2 K B (rRepT K) fRepT := fun F H x y d g M Φ Q h i1 i2 q z => by
  unfold fRepT at q
  split at q
  · rename_i xs k
    obtain ⟨⟨c1, c2, c3, c4⟩, q⟩ := q
    cases i2
    cases i1 with
    | @tup a vs _ hq il =>
      exact ⟨a, k, vs, rfl, rfl, same_t h.sub hq, fun e => c1 (by subst e; cases il; rfl), c2, c3, by rw [il.length]; exact c4, fun p hp => z _ M _ _ _ (upd_same_ext (h.free hp)) (h.laid hp) (.tup (.inl (.inl upd_same)) ((il.rep k.toNat).mono (upd_same_ext (h.free hp)))) q⟩
  · exact q.elim
theorem de_repT (ha : DE X T a ta) (hb : DE X T b tb) : DE X T (.BinOp a .Mult b pos) (aOp fRepT ta tb) := de_op op_repT ab_repT ha hb
/-! ### a module's constant -/
theorem de_const {x : Str} {v : V} {u : Value} {d : D} (hg : Gl X x) (hm : X.mg x = some u) (r : RelV v u) (i : ∀ F, Is X.K F v d) (hd : (x == ("__debug__" : Str)) = false := by decide) : DE X T (.Name x pos) (aC d) := de_c (pe_glob hg hm r hd) i
end
end DL

set_option Elab.async false
set_option linter.all false
set_option maxRecDepth 100000
set_option maxHeartbeats 4000000
/-! DR3: t[::-1] of a tuple. -/
namespace DL
open PySem L2
section
open PySem.W PySem.Calls PyProof.Rows
variable {prog : Program} {w : World} {A : Around} {E : Value → Shared → Prop} {s : Shared}
theorem applied_rev {sl : Addr} {vs : Value} {n : Nat} {Q : Int × Int × Nat → Shared → Prop} (hs : s.heap.IsSliceOf sl .none .none vs) (ps : IsPart vs (some (-1))) (h : Q ((n : Int) - 1, -1, n) s) : wpAny (model prog w) A (Builtin.Slice.sliceApplied (.ref sl) (pure (n : Int))) Q E s := by
  obtain ⟨os, hos, hcs, hds⟩ := id hs
  unfold Builtin.Slice.sliceApplied Builtin.Slice.sliceFields
  refine wpAny_bind (wpAny_bind (wpAny_field hos hds (x := .none) rfl (wpAny_bind (wpAny_field hos hds (x := .none) rfl (wpAny_bind (wpAny_field hos hds (x := vs) rfl (wpAny_pure ?_)))))))
  refine wpAny_bind (HT.slicePart_ ps ?_)
  show wpAny _ _ (if ((-1 : Int) == 0) = true then _ else _) _ _ s
  rw [if_neg (by decide)]
  refine wpAny_bind (HT.slicePart_ .none (wpAny_bind (HT.slicePart_ .none (wpAny_bind (wpAny_pure ?_)))))
  show wpAny _ _ (pure ((n : Int) - 1, (-1 : Int), Builtin.Slice.slicePlaces ((n : Int) - 1) (-1) (-1))) _ _ s
  have e : Builtin.Slice.slicePlaces ((n : Int) - 1) (-1) (-1) = n := by
    unfold Builtin.Slice.slicePlaces
    rw [if_neg (by decide)]
    by_cases z : (n : Int) - 1 > -1
    · rw [if_pos z, show (- -1 : Int) = 1 by decide, Int.ediv_one]
      omega
    · rw [if_neg z]
      omega
  rw [e]
  exact wpAny_pure h
theorem fm_congr {α β : Type} {f g : α → Option β} : ∀ {l : List α}, (∀ x ∈ l, f x = g x) → l.filterMap f = l.filterMap g
  | [], _ => rfl
  | x :: l, h => by rw [List.filterMap_cons, List.filterMap_cons, h x List.mem_cons_self, fm_congr fun y hy => h y (List.mem_cons_of_mem _ hy)]
theorem pick_rev (xs : Array Value) : ((List.range xs.size).filterMap fun (m : Nat) => xs[(((xs.size : Int) - 1) + (m : Int) * (-1)).toNat]?).toArray = xs.toList.reverse.toArray := by
  have e : ∀ m ∈ List.range xs.size, xs[(((xs.size : Int) - 1) + (m : Int) * (-1)).toNat]? = (fun k : Nat => xs[k]?) (xs.size - 1 - m) := fun m hm => by
    have := List.mem_range.mp hm
    show xs[_]? = xs[_]?
    congr 1
    omega
  rw [fm_congr e]
  have e2 : (List.range xs.size).filterMap (fun m => (fun k : Nat => xs[k]?) (xs.size - 1 - m)) = ((List.range xs.size).map fun k => xs.size - 1 - k).filterMap (fun k : Nat => xs[k]?) := by rw [List.filterMap_map]; rfl
  rw [e2, krv_range, List.filterMap_reverse, krv_all]
theorem getItem_tuple_rev {t sl : Addr} {items : Array Value} {vs : Value} {Q : Value → Shared → Prop} (ht : IsTup s.heap t items) (hs : s.heap.IsSliceOf sl .none .none vs) (ps : IsPart vs (some (-1)))
    (h : Q (.ref s.heap.objs.size) { s with heap := s.heap.push { cls := .type "tuple", data := .seq items.toList.reverse.toArray } }) (hsz : items.size ≤ sizeLine) : wpAny (model prog w) A (getItem (.ref t) (.ref sl)) Q E s := by
  have htake : sizeOk (.seq items.toList.reverse.toArray) := by
    show items.toList.reverse.toArray.size ≤ sizeLine
    rw [List.size_toArray, List.length_reverse, Array.length_toList]
    exact hsz
  obtain ⟨os, hos, hcs, hds⟩ := id hs
  have hTs : s.TypeIs (.ref sl) "slice" := ⟨os, hos, hcs⟩
  unfold getItem
  try with_reducible refine wpAny_holding ?_
  first | refine wpAny_bind (wpAny_pure ?_) | skip
  refine wpAny_bind (wpAny_sequenceKey ht.typeIs (by decide) ?_)
  refine wpAny_bind (wpAny_callSpecial?_slot (name := Str.ofString "__getitem__") ht.typeIs PyProof.Rows.slot_tuple_getitem (wpAny_call_entry PyProof.Rows.slot_tuple_getitem ht.typeIs entry_tuple_getitem ?_ (args_tuple_getitem _ _)))
  show wpAny _ _ (Builtin.Tuple.tupleItemsOf (.ref t) >>= _) _ _ s
  refine wpAny_bind (tupleItemsOf_ ht (wpAny_bind (wpAny_typeOf hTs ?_)))
  rw [if_pos (by decide)]
  refine wpAny_bind (applied_rev hs ps ?_)
  have hno : ¬ ((((items.size : Int) - 1) == 0 && (-1 : Int) == 1 && items.size == items.size) = true) := by
    rw [show ((-1 : Int) == 1) = false from rfl, Bool.and_false, Bool.false_and]
    exact Bool.false_ne_true
  show wpAny _ _ (if (((items.size : Int) - 1) == 0 && (-1 : Int) == 1 && items.size == items.size) = true then _ else _) _ _ s
  rw [if_neg hno, pick_rev]
  first
    | exact wpAny_bind (m := Builtin.Tuple.tupleExact _) (wpAny_newObj_type (wpAny_pure ⟨_, rfl, wpAny_pure h⟩) htake)
    | exact wpAny_bind (m := Builtin.Tuple.tupleExact _) (wpAny_newObj_type (wpAny_bind (wpAny_pure (wpAny_pure ⟨_, rfl, wpAny_pure h⟩))) htake)
    | exact wpAny_bind (wpAny_bind (m := Builtin.Tuple.tupleExact _) (wpAny_newObj_type (wpAny_pure (wpAny_pure ⟨_, rfl, wpAny_pure h⟩)) htake))
    | exact wpAny_bind (wpAny_bind (m := Builtin.Tuple.tupleExact _) (wpAny_newObj_type (wpAny_pure ⟨_, rfl, wpAny_pure h⟩) htake))
end
section
variable {X : Cx} {T : Ct} {a : Expr} {pos : Pos} {ta : AE}
def tRevA (K : PySem.W.Frag) (te : TE) : TE := fun σ H Q => te σ H fun x H1 => ∃ a xs, x = .ref a ∧ SqT K H1 a xs ∧ ∀ p, H1 p = none → Q (.ref p) (upd H1 p (.tup xs.reverse))
theorem pe_revT {e : Expr} {te : TE} {k : Nat} {p1 p2 p3 pos : Pos} (he : PE X e te) : PE X (.Subscript e (.Slice none none (some (.UnaryOp .USub (.Constant (.int 1) k p1) p2)) p3) pos) (tRevA X.K te) := by
  refine ⟨fun pins s σ H Q I h => PyProof.Rows.Subscript_ (thn (he.run pins s σ H _ I h) fun v s1 hh => ?_)⟩
  obtain ⟨x, H1, I1, r1, a, xs, rfl, hx, q⟩ := hh
  cases r1
  have hst : PO X (some (.UnaryOp .USub (.Constant (.int 1) k p1) p2)) (tPart (tUn (rU fun i => .int (-i)) (tC (.int 1)))) := po_some (pe_un un_neg pe_int)
  refine wpAny_Slice (thn (po_none.run pins s1 σ H1 (fun o H2 => o = none ∧ H2 = H1) I1 ⟨rfl, rfl⟩) fun vl s2 ⟨l, H2, I2, pl, el, e2⟩ => ?_)
  subst el e2
  refine thn (po_none.run pins s2 σ H2 (fun o H3 => o = none ∧ H3 = H2) I2 ⟨rfl, rfl⟩) fun vu s3 ⟨u, H3, I3, pu, eu, e3⟩ => ?_
  subst eu e3
  refine thn (hst.run pins s3 σ H3 (fun o H4 => o = some (-1) ∧ H4 = H3) I3 ⟨1, rfl, -1, rfl, rfl, rfl⟩) fun vs s4 ⟨o, H4, I4, ps, eo, e4⟩ => ?_
  subst eo e4
  cases pl
  cases pu
  have J : Inv X pins σ H4 { s4 with heap := s4.heap.push { cls := .type "slice", data := .fields #[.none, .none, vs] } } := I4.kept (t' := s4.toks) fun b ob q => Heap.get?_push_of_some _ q
  obtain ⟨its, r, ht, hz⟩ := J.tuple hx
  have hlen := r.length
  show wpAny (model X.prog X.w) X.A (PyProof.Rows.subscriptTail e (.Slice none none (some (.UnaryOp .USub (.Constant (.int 1) k p1) p2)) p3) (.ref a) (.ref s4.heap.objs.size)) (EP X pins σ Q) X.xe { s4 with heap := s4.heap.push { cls := .type "slice", data := .fields #[.none, .none, vs] } }
  refine PyProof.Rows.tail_any (ops := [.ref a, .ref s4.heap.objs.size]) ht.typeIs (PyProof.Rows.slot_tuple_getitem.lookup) ?_ (by with_unfolding_all rfl)
  refine getItem_tuple_rev ht (Heap.IsSliceOf.new _ .none .none vs) ps ?_ (by rw [List.size_toArray]; omega)
  refine ⟨.ref _, _, J.laid (t' := s4.toks) (o := .tup xs.reverse) (fun b ob q => Heap.get?_push_of_some _ q) (Nat.le_refl _) ?_, rfl, q _ (J.hok.fresh (Nat.le_refl _))⟩
  exact ⟨by rw [List.length_reverse]; exact hz, _, r.reverse, PyProof.Rows.IsTup.new _ _⟩
def aRevT_k (Φ : AK) (d : D) (M : Mm) : Prop := match d with
  | .tup xs => Φ (.tup xs.reverse) M
  | _ => False
def aRevT (ta : AE) (Γ : Gm) (M : Mm) (Φ : AK) : Prop := ta Γ M fun d M1 => aRevT_k Φ d M1
theorem aRevT_t {Φ : AK} {xs : List D} {M : Mm} : aRevT_k Φ (.tup xs) M = Φ (.tup xs.reverse) M := rfl
theorem de_revT {k : Nat} {p1 p2 p3 : Pos} (ha : DE X T a ta) : DE X T (.Subscript a (.Slice none none (some (.UnaryOp .USub (.Constant (.int 1) k p1) p2)) p3) pos) (aRevT ta) :=
  de_of (pe_revT ha) fun F σ H Γ M Φ Q w q z => cE_mk w q fun d M1 x F1 H1 s1 h1 i1 q1 => by
    unfold aRevT_k at q1
    split at q1
    · cases i1 with
      | @tup l vs xs hq hl => exact ⟨l, vs, rfl, same_t h1.sub hq, fun p hp => z _ M1 _ _ _ (s1.trans (upd_same_ext (h1.free hp))) (h1.laid hp) (.tup (.inl (.inl upd_same)) (hl.reverse.mono (upd_same_ext (h1.free hp)))) q1⟩
    · exact q1.elim
end
end DL

set_option Elab.async false
set_option linter.all false
set_option maxRecDepth 100000
set_option maxHeartbeats 4000000
/-! DR4: l.insert(i, y). -/
namespace DL
open PySem L2
section
variable {X : Cx} {T : Ct} {a b c : Expr} {pos p2 : Pos} {ta tb tc : AE}
def aIns_k (tb tc : AE) (Γ : Gm) (Φ : AK) (d : D) (M1 : Mm) : Prop := match d with
  | .ref l => (∃ xs, (l, MO.lst xs) ∈ M1) ∧ tb Γ M1 fun e M2 => tc Γ M2 fun y M3 => match e with
    | .int i => ∃ xs M4, Up M3 l (.lst xs) (.lst (xs.take i.toNat ++ [y] ++ xs.drop i.toNat)) M4 ∧ xs.length < 100000 ∧ (0 ≤ i ∧ i < 9223372036854775808) ∧ Φ .non M4
    | _ => False
  | _ => False
def aIns (ta tb tc : AE) (Γ : Gm) (M : Mm) (Φ : AK) : Prop := ta Γ M fun d M1 => aIns_k tb tc Γ Φ d M1
theorem aIns_r {Γ : Gm} {Φ : AK} {l : Addr} {M1 : Mm} : aIns_k tb tc Γ Φ (.ref l) M1 = ((∃ xs, (l, MO.lst xs) ∈ M1) ∧ tb Γ M1 fun e M2 => tc Γ M2 fun y M3 => match e with
    | .int i => ∃ xs M4, Up M3 l (.lst xs) (.lst (xs.take i.toNat ++ [y] ++ xs.drop i.toNat)) M4 ∧ xs.length < 100000 ∧ (0 ≤ i ∧ i < 9223372036854775808) ∧ Φ .non M4
    | _ => False) := rfl
theorem de_ins (ha : DE X T a ta) (hb : DE X T b tb) (hc : DE X T c tc) (hst : starEach [b, c] X.env = (false, eval b X.env) :: starEach [c] X.env := by rfl) (hst2 : starEach [c] X.env = (false, eval c X.env) :: starEach [] X.env := by rfl)
    (hbase : attributeBase a "insert" X.env (eval a X.env) = eval a X.env := by rfl)
    (hfew : ((backTo pos (starEach [b, c] X.env)).all (fun x => !x.1) && (backToKw pos (keywordEach [] X.env)).all (fun x => x.1.isSome) && decide ([b, c].length + ([] : List Keyword).length + (if ([] : List Keyword).isEmpty then 0 else 1) < 30)) = true := by rfl)
    (hline : (p2.endLine == pos.line) = true := by rfl) (hplain : (backTo pos (starEach [c] X.env)).any (·.1) = false := by rfl) : DE X T (.Call (.Attribute a "insert" p2) [b, c] [] pos) (aIns ta tb tc) :=
  de_of (pe_bm PySem.F.plainAttrs_list PySem.F.slot_list_insert PySem.F.type_list_insert mt_insert ha (pa_cons hb (pa_cons hc pa_nil hst2) hst) hbase hfew hline hst hplain) fun F σ H Γ M Φ Q w q z => cE_mk w q fun d M1 x F1 H1 s1 h1 i1 q1 => by
    unfold aIns_k at q1
    split at q1
    · rename_i l
      obtain ⟨⟨xs0, hm⟩, q1⟩ := q1
      cases i1
      obtain ⟨vs0, e0, _⟩ := h1.lst hm
      refine ⟨tyV_lst e0, cE_mk (w.go s1 h1) q1 fun e M2 y F2 H2 s2 h2 i2 q2 => cE_mk ((w.go s1 h1).go s2 h2) q2 fun g M3 u F3 H3 s3 h3 i3 q3 => ?_⟩
      split at q3
      · rename_i i
        obtain ⟨xs, M4, up, hl, ⟨k0, k1⟩, q3⟩ := q3
        cases i2
        obtain ⟨vs, e1, zz⟩ := h3.lst up.mem
        exact ⟨l, vs, i, u, rfl, rfl, e1, by rw [zz.length]; exact line_lt hl, k0, k1, z _ M4 _ F3 _ ((s1.trans s2).trans s3) (h3.put up ⟨_, upd_same, ((zz.take i.toNat).append (.cons i3 .nil)).append (zz.drop i.toNat)⟩) .non q3⟩
      · exact q3.elim
    · exact q1.elim
end
end DL

set_option Elab.async false
set_option linter.all false
set_option maxRecDepth 100000
/-! DX5: what a class statement holds. -/
namespace DL
open PySem L2
/-- the statement at j in a class's body -/
def clsAt (st : Stmt) (j : Nat) : Stmt := match st with
  | .ClassDef (body := b) .. => b.getD j (.Pass ⟨0, 0, 0, 0⟩)
  | _ => .Pass ⟨0, 0, 0, 0⟩
theorem XCls.xf {K : PySem.W.Frag} {P : Program} {C f : Addr} (Y : XCls K P C f) : XfC K C ∧ PySem.W.findIn K (.ref C) "at" = some none := ⟨⟨Y.ga, Y.gg, Y.oex.exC, Y.hd⟩, Y.at_⟩
/-- caught, not caught -/
theorem catch_yes {K : PySem.W.Frag} {C : Addr} {c : Value} {A : Prop} {B : Prop} (h : PySem.W.exmOne K (.ref C) c = some true) (a : A) : ∃ b, PySem.W.exmOne K (.ref C) c = some b ∧ (b = true → A) ∧ (b = false → B) := ⟨true, h, fun _ => a, fun z => Bool.noConfusion z⟩
theorem catch_no {K : PySem.W.Frag} {C : Addr} {c : Value} {A : Prop} {B : Prop} (h : PySem.W.exmOne K (.ref C) c = some false) (a : B) : ∃ b, PySem.W.exmOne K (.ref C) c = some b ∧ (b = true → A) ∧ (b = false → B) := ⟨false, h, fun z => Bool.noConfusion z, fun _ => a⟩
end DL
namespace DL
open PySem L2
theorem fIsi2_of {n1 n2 t : String} {d : D} {M : Mm} {Φ : AK} {b1 b2 : Bool} (ht : tyD d M = some t) (h1 : kitB t n1 = some b1) (h2 : kitB t n2 = some b2) : fIsi2 n1 n2 d M Φ = Φ (.bl (b1 || b2)) M := by
  unfold fIsi2
  rw [ht]
  show (match kitB t n1, kitB t n2 with
    | some b1, some b2 => Φ (.bl (b1 || b2)) M
    | _, _ => False) = _
  rw [h1, h2]
section
variable {M : Mm} {Φ : AK}
theorem isi2_n : fIsi2 "list" "tuple" .non M Φ = Φ (.bl false) M := fIsi2_of rfl (b1 := false) (b2 := false) (by decide +kernel) (by decide +kernel)
theorem isi2_b {b : Bool} : fIsi2 "list" "tuple" (.bl b) M Φ = Φ (.bl false) M := fIsi2_of rfl (b1 := false) (b2 := false) (by decide +kernel) (by decide +kernel)
theorem isi2_i {i : Int} : fIsi2 "list" "tuple" (.int i) M Φ = Φ (.bl false) M := fIsi2_of rfl (b1 := false) (b2 := false) (by decide +kernel) (by decide +kernel)
theorem isi2_s {x : Str} : fIsi2 "list" "tuple" (.str x) M Φ = Φ (.bl false) M := fIsi2_of rfl (b1 := false) (b2 := false) (by decide +kernel) (by decide +kernel)
theorem isi2_t {xs : List D} : fIsi2 "list" "tuple" (.tup xs) M Φ = Φ (.bl true) M := fIsi2_of rfl (b1 := false) (b2 := true) (by decide +kernel) (by decide +kernel)
theorem isi2_l {xs : List D} : fIsi2 "list" "tuple" (.lst xs) M Φ = Φ (.bl true) M := fIsi2_of rfl (b1 := true) (b2 := false) (by decide +kernel) (by decide +kernel)
end
end DL
namespace DL
open PySem L2
/-- for i, x in enumerate(xs) -/
theorem aFor_enum {ai : AI} {g : AG} {tb : AS} {A : AEnds} {Γ : Gm} {M : Mm} (xs : List D) (I : Nat → Gm → Mm → Prop) (hai : ∀ Φ' : List D → Mm → Prop, Φ' (enumD xs) M → ai Γ M Φ') (h0 : I 0 Γ M)
    (hs : ∀ i x Γ' M', xs[i]? = some x → I i Γ' M' → ∃ Γ2, g (.tup [.int (i : Nat), x]) Γ' = some Γ2 ∧ tb { nx := I (i + 1), rt := A.rt, bk := A.nx, ct := I (i + 1) } Γ2 M')
    (hd : ∀ Γ' M', I xs.length Γ' M' → A.nx Γ' M') : aFor ai g tb A Γ M := by
  unfold aFor
  refine hai _ ⟨I, h0, fun i d Γ' M' hdd hi => ?_, fun Γ' M' hi => hd Γ' M' (by rw [enumD_len] at hi; exact hi)⟩
  obtain ⟨x, hx, rfl⟩ := enumD_get hdd
  obtain ⟨Γ2, e, q⟩ := hs i x Γ' M' hx hi
  rw [e]
  exact q
end DL
namespace DL
open PySem L2
/-- [e for x in xs] where e's values are only known to be v y with R y -/
theorem aLc_any {ai : AI} {g : AG} {te : AE} {vs : List Nat} {Γ : Gm} {M : Mm} {Φ : AK} {α β : Type} (xs : List α) (emb : α → D) (R : β → Prop) (v : β → D) (hai : ∀ Φ' : List D → Mm → Prop, Φ' (xs.map emb) M → ai Γ M Φ') (hlen : xs.length ≤ 100000)
    (h : ∀ x ∈ xs, ∀ M', ∃ Γ2, g (emb x) (wipeG Γ vs) = some Γ2 ∧ (∀ Φ' : AK, (∀ y, R y → Φ' (v y) M') → te Γ2 M' Φ'))
    (k : ∀ ys : List β, ys.length = xs.length → (∀ y ∈ ys, R y) → Φ (.lst (ys.map v)) M) : aLc ai g aYes te vs Γ M Φ := by
  unfold aLc
  refine hai _ ⟨by rw [List.length_map]; exact hlen, fun i acc M' => ∃ ys : List β, acc = ys.map v ∧ ys.length = i ∧ (∀ y ∈ ys, R y) ∧ M' = M, ⟨[], rfl, rfl, fun y hy => absurd hy List.not_mem_nil, rfl⟩, ?_, ?_⟩
  · rintro i d acc M' l hd ⟨ys, rfl, hy1, hy2, rfl⟩
    rw [List.getElem?_map] at hd
    cases hx : xs[i]? with
    | none =>
      rw [hx] at hd
      cases hd
    | some x =>
      rw [hx] at hd
      cases hd
      obtain ⟨Γ2, e, h1⟩ := h x (List.mem_of_getElem? hx) ((l, .lst (ys.map v)) :: M')
      rw [e]
      refine ⟨fun _ => h1 _ fun y hy => ⟨M', .here, ys ++ [y], by rw [List.map_append]; rfl, by rw [List.length_append, hy1]; rfl, fun z hz => ?_, rfl⟩, fun z => Bool.noConfusion z⟩
      rcases List.mem_append.mp hz with hz | hz
      · exact hy2 z hz
      · rw [List.mem_singleton.mp hz]
        exact hy
  · rintro acc M' ⟨ys, rfl, hy1, hy2, rfl⟩ _
    rw [List.length_map] at hy1
    exact k ys hy1 hy2
end DL
namespace DL
open PySem L2
/-- the same where what is walked is only known to keep P -/
theorem aLc_anyP {ai : AI} {g : AG} {te : AE} {vs : List Nat} {Γ : Gm} {M : Mm} {Φ : AK} {α β : Type} (P : List α → Prop) (emb : α → D) (R : β → Prop) (v : β → D) (hai : ∀ Φ' : List D → Mm → Prop, (∀ xs, P xs → Φ' (xs.map emb) M) → ai Γ M Φ') (hlen : ∀ xs, P xs → xs.length ≤ 100000)
    (h : ∀ xs x, P xs → x ∈ xs → ∀ M', ∃ Γ2, g (emb x) (wipeG Γ vs) = some Γ2 ∧ (∀ Φ' : AK, (∀ y, R y → Φ' (v y) M') → te Γ2 M' Φ'))
    (k : ∀ xs, P xs → ∀ ys : List β, ys.length = xs.length → (∀ y ∈ ys, R y) → Φ (.lst (ys.map v)) M) : aLc ai g aYes te vs Γ M Φ :=
  hai _ fun xs hP => aLc_any (ai := fun _ M Φ' => Φ' (xs.map emb) M) xs emb R v (fun _ q => q) (hlen xs hP) (fun x hx => h xs x hP hx) (k xs hP)
end DL
namespace DL
open PySem L2
/-- for x in range(..) where how far is only known to keep P -/
theorem aFor_rngP {ai : AI} {g : AG} {tb : AS} {A : AEnds} {Γ : Gm} {M : Mm} (P : Nat → Prop) (lo : Int) (I : Nat → Nat → Gm → Mm → Prop) (hai : ∀ Φ' : List D → Mm → Prop, (∀ n, P n → Φ' (rngD lo n) M) → ai Γ M Φ') (h0 : ∀ n, P n → I n 0 Γ M)
    (hs : ∀ (n i : Nat) Γ' M', P n → i < n → I n i Γ' M' → ∃ Γ2, g (.int (lo + (i : Nat))) Γ' = some Γ2 ∧ tb { nx := I n (i + 1), rt := A.rt, bk := A.nx, ct := I n (i + 1) } Γ2 M')
    (hd : ∀ n Γ' M', P n → I n n Γ' M' → A.nx Γ' M') : aFor ai g tb A Γ M :=
  hai _ fun n hn => aFor_rng (ai := fun _ M Φ' => Φ' (rngD lo n) M) lo n (I n) (fun _ q => q) (h0 n hn) (fun i Γ' M' => hs n i Γ' M' hn) (fun Γ' M' => hd n Γ' M' hn)
/-- for x in xs where xs is only known to keep P -/
theorem aFor_mapP {ai : AI} {g : AG} {tb : AS} {A : AEnds} {Γ : Gm} {M : Mm} {α : Type} (P : List α → Prop) (emb : α → D) (I : List α → Nat → Gm → Mm → Prop) (hai : ∀ Φ' : List D → Mm → Prop, (∀ xs, P xs → Φ' (xs.map emb) M) → ai Γ M Φ') (h0 : ∀ xs, P xs → I xs 0 Γ M)
    (hs : ∀ xs i x Γ' M', P xs → xs[i]? = some x → I xs i Γ' M' → ∃ Γ2, g (emb x) Γ' = some Γ2 ∧ tb { nx := I xs (i + 1), rt := A.rt, bk := A.nx, ct := I xs (i + 1) } Γ2 M')
    (hd : ∀ xs Γ' M', P xs → I xs xs.length Γ' M' → A.nx Γ' M') : aFor ai g tb A Γ M :=
  hai _ fun xs hP => aFor_map (ai := fun _ M Φ' => Φ' (xs.map emb) M) xs emb (I xs) (fun _ q => q) (h0 xs hP) (fun i x Γ' M' => hs xs i x Γ' M' hP) (fun Γ' M' => hd xs Γ' M' hP)
end DL

set_option Elab.async false
set_option linter.all false
set_option maxRecDepth 100000
set_option maxHeartbeats 2000000
/-! DH1: defs called within an except suite. -/
namespace DL
open PySem L2
open PyProof.Rows (envOfC)
open L2H (FnH RoomH Hot1 HotC PinOk cxH fn_ofH pe_callH roomH_of)
section
variable {P : Program} {w : World} {K : PySem.W.Frag} {mg : Str → Option Value} {base : Heap} {B : Bx}
theorem FnH_mono {CX : CXT} {j k : Nat} {f : Addr} {fd : FuncData} {ps : List Str} {sp : Sp} (F : FnH P w K mg base CX j f fd ps sp) (h : j ≤ k) : FnH P w K mg base CX k f fd ps sp :=
  ⟨F.len, fun A outer s H args us vs Q E p hr => F.run A outer s H args us vs Q E p (hr.mono h)⟩
abbrev cxDH (P : Program) (w : World) (K : PySem.W.Frag) (mg : Str → Option Value) (base : Heap) (N : List Str) (qual : Str) (sc : Scope) (f : Addr) (cdv : Value) (A : Around) (outer : List Env) (s : Shared) (H : Hp) (E : XK) (p : Addr × Obj) : Cx := cxH (L2N.CX P w) P w K mg base N qual sc f cdv A outer s H E p
theorem dfnH {x qual : Str} {st : Stmt} {f : Addr} {fd : FuncData} {N ps : List Str} {k : Nat} {asp : ASp} (F : Fun K x qual st f fd) (S : FnScope N ps (defScope st)) (hlen : ∀ ds M Φ Ψ, asp ds M Φ Ψ → ds.length = ps.length)
    (hb : ∀ (cdv : Value) (A : Around) (outer : List Env) (s : Shared) (H : Hp) (E : XK) (p : Addr × Obj), Hot1 A p → RoomH k (A.deeper (envOfC qual (defScope st) s.heap.objs.size f cdv)) → ∀ ds M Φ Ψ, asp ds M Φ Ψ →
      ∃ ta, DSs (cxDH P w K mg base N qual (defScope st) f cdv A outer s H E p) (ctD B E Ψ) (defBody st) ta ∧ ta { nx := fun _ M => Φ .non M, rt := Φ } (startD N ds) M) : FnH P w K mg base (L2N.CX P w) (k + 1) f fd ps (conc K B asp) := by
  obtain ⟨oc, od, kV, doc, pm, an, cdv, ct, osl, rfl, lk, hcd⟩ := F.ex
  exact fn_ofH lk hcd S (conc_len hlen) fun A outer s H vs Q E p hot hr h => body_go rfl h (hb cdv A outer s H E p hot hr)
/-- the body's context bears what is handled -/
theorem hot_cx {N : List Str} {qual : Str} {sc : Scope} {f : Addr} {cdv : Value} {A : Around} {outer : List Env} {s : Shared} {H : Hp} {E : XK} {p : Addr × Obj} (h : Hot1 A p) : HotC (cxDH P w K mg base N qual sc f cdv A outer s H E p) :=
  ⟨p, ⟨h.1, h.2⟩, List.mem_cons_self⟩
end
section
variable {X : Cx} {T : Ct} {e : Expr} {pos : Pos} {es : List Expr} {tr : AA}
theorem hot_suite {C dd : Addr} {a : Addr} {oe : Obj} {pn : List (Addr × Obj)} (hz : L2N.Zn (.ref C) (some dd) oe) (hf : ∃ vs, oe.data = .fields vs) : HotC (X.suite a ((a, oe) :: pn)) := by
  obtain ⟨vs, e⟩ := hf
  exact ⟨(a, oe), ⟨rfl, vs, e, hz.2.2 vs e⟩, List.mem_cons_self⟩
theorem room_suite {k : Nat} {a : Addr} {pn : List (Addr × Obj)} (hr : Room k X.A) : RoomH k (X.suite a pn).A := ⟨hr.dp, hr.un⟩
theorem de_callH {x : Str} {p : Pos} {k : Nat} {f : Addr} {fd : FuncData} {ps : List Str} {asp : ASp} (G : FnH X.prog X.w X.K X.mg X.base (L2N.CX X.prog X.w) k f fd ps (conc X.K T.B asp)) (hr : RoomH k X.A) (hc : HotC X) (hg : Gl X x) (hm : X.mg x = some (.ref f)) (hk : PySem.W.keepIn X.K (.ref f) = true)
    (hb : Binds X.K fd ps []) (tk : L2N.Takes X T.W) (ha : DA X T (e :: es) tr)
    (hdb : (x == ("__debug__" : Str)) = false := by decide) (he : starEach (e :: es) X.env = (false, eval e X.env) :: starEach es X.env := by rfl) (hpl : (backTo pos (starEach es X.env)).any (·.1) = false := by rfl) :
    DE X T (.Call (.Name x p) (e :: es) [] pos) (aCall asp [] T.Ψ tr) :=
  de_of (pe_callH G hr hc hg hm hk hb (fun σ => L2N.passAt tk σ) ha hdb he hpl) fun F σ H Γ M Φ Q w q z => cA_mk w q fun ds M1 vs F1 H1 s1 h1 i1 q1 =>
    ⟨ds ++ [], F1, M1, Φ, fun x M2 => T.Ψ x Γ M2, (by rw [List.append_nil]; exact i1), h1, q1, fun d M2 v F2 H2 s2 h2 i2 q2 => z d M2 v F2 H2 (s1.trans s2) h2 i2 q2, fun y cls d M2 F2 H2 s2 h2 xi q2 => w.l y cls d Γ M2 σ F2 H2 (s1.trans s2) (w.v.mono (s1.trans s2)) h2 xi q2⟩
end
end DL

set_option Elab.async false
set_option linter.all false
set_option maxRecDepth 100000
set_option maxHeartbeats 2000000
/-! DR5: x in xs, of flat data; == within an except suite. -/
namespace DL
open PySem L2
open L2H (RoomH)
section
variable {X : Cx} {T : Ct} {K : PySem.W.Frag} {B : Bx} {F : Hp} {e a b : Expr} {pos p : Pos} {ta tb : AE}
def flatD : D → Bool
  | .non => true
  | .bl _ => true
  | .int _ => true
  | .str _ => true
  | _ => false
def eqFD : D → D → Bool
  | .non, .non => true
  | .bl a, .bl b => a == b
  | .bl a, .int b => (if a then 1 else 0) == b
  | .int a, .bl b => a == (if b then 1 else 0)
  | .int a, .int b => a == b
  | .str a, .str b => a == b
  | _, _ => false
theorem flat_of {d : D} {v : V} (i : Is K F v d) (h : flatD d = true) : flatV v = true := by
  cases d <;> first
    | exact Bool.noConfusion h
    | (cases i; rfl)
theorem flat_all : ∀ {vs : List V} {ds : List D}, IsL K F vs ds → ds.all flatD = true → vs.all flatV = true
  | _, _, .nil, _ => rfl
  | _, _, .cons i l, h => by
    rw [List.all_cons, Bool.and_eq_true] at h
    rw [List.all_cons, flat_of i h.1, flat_all l h.2]
    rfl
theorem eqF_of {d e : D} {u v : V} (i : Is K F u d) (j : Is K F v e) (h1 : flatD d = true) (h2 : flatD e = true) : eqV u v = eqFD d e := by
  cases d <;> cases e <;> first
    | exact Bool.noConfusion h1
    | exact Bool.noConfusion h2
    | (cases i; cases j; rfl)
theorem in_of {d : D} {v : V} (j : Is K F v d) (hd : flatD d = true) : ∀ {vs : List V} {ds : List D}, IsL K F vs ds → ds.all flatD = true → inV v vs = ds.any fun y => eqFD y d
  | _, _, .nil, _ => rfl
  | _, _, .cons i l, h => by
    rw [List.all_cons, Bool.and_eq_true] at h
    have := in_of j hd l h.2
    unfold inV at this ⊢
    rw [List.any_cons, List.any_cons, eqF_of i j h.1 hd, this]
/-- x in xs, x not in xs -/
def fIn (neg : Bool → Bool) (d e : D) (M : Mm) (Φ : AK) : Prop := seqOf e M fun xs => (flatD d = true ∧ xs.all flatD = true) ∧ Φ (.bl (neg (xs.any fun y => eqFD y d))) M
theorem ab_in : Ab2 K B (rIn K false) (fIn fun b => b) := fun F H x y d g M Φ Q h i1 i2 q z => by
  obtain ⟨l, vs, xs, rfl, hq, il, ⟨h1, h2⟩, q⟩ := seq_at h i2 q
  refine ⟨l, vs, rfl, hq, flat_of i1 h1, flat_all il h2, ?_⟩
  rw [in_of i1 h1 il h2]
  exact z _ M _ F H (Same.refl F) h (.bl _) q
theorem ab_notIn : Ab2 K B (rIn K true) (fIn fun b => !b) := fun F H x y d g M Φ Q h i1 i2 q z => by
  obtain ⟨l, vs, xs, rfl, hq, il, ⟨h1, h2⟩, q⟩ := seq_at h i2 q
  refine ⟨l, vs, rfl, hq, flat_of i1 h1, flat_all il h2, ?_⟩
  rw [in_of i1 h1 il h2]
  exact z _ M _ F H (Same.refl F) h (.bl _) q
theorem de_in (ha : DE X T a ta) (hb : DE X T b tb) (hm : behindInMarks .In b = false := by rfl) : DE X T (.Compare a [.In] [b] pos) (aOp (fIn fun b => b) ta tb) := de_cmp op_in_seq ab_in ha hb hm
theorem de_notIn (ha : DE X T a ta) (hb : DE X T b tb) (hm : behindInMarks .NotIn b = false := by rfl) : DE X T (.Compare a [.NotIn] [b] pos) (aOp (fIn fun b => !b) ta tb) := de_cmp op_notIn_seq ab_notIn ha hb hm
theorem dt_in (ha : DE X T a ta) (hb : DE X T b tb) (hm : behindInMarks .In b = false := by rfl) : DT X T (.Compare a [.In] [b] pos) (aB (aOp (fIn fun b => b) ta tb)) := dt_cmp op_in_seq ab_in ha hb hm
theorem dt_notIn (ha : DE X T a ta) (hb : DE X T b tb) (hm : behindInMarks .NotIn b = false := by rfl) : DT X T (.Compare a [.NotIn] [b] pos) (aB (aOp (fIn fun b => !b) ta tb)) := dt_cmp op_notIn_seq ab_notIn ha hb hm
theorem in_ints {ns : List Int} {i : Int} : ((ns.map D.int).any fun y => eqFD y (.int i)) = decide (i ∈ ns) := by
  rw [List.any_map]
  induction ns with
  | nil => rfl
  | cons n ns ih =>
    rw [List.any_cons, ih]
    show ((n == i) || decide (i ∈ ns)) = _
    by_cases h : n = i
    · subst h
      simp
    · have h2 : ¬ i = n := fun z => h z.symm
      simp [h, h2]
theorem flat_ints {ns : List Int} : (ns.map D.int).all flatD = true := by
  rw [List.all_eq_true]
  intro d hd
  obtain ⟨x, _, rfl⟩ := List.mem_map.mp hd
  rfl
theorem fIn_ints {neg : Bool → Bool} {i : Int} {ns : List Int} {M : Mm} {Φ : AK} : fIn neg (.int i) (.lst (ns.map D.int)) M Φ = ((flatD (.int i) = true ∧ (ns.map D.int).all flatD = true) ∧ Φ (.bl (neg ((ns.map D.int).any fun y => eqFD y (.int i)))) M) := rfl
/-! == where an exception is handled -/
theorem units_H {k : Nat} (hr : RoomH k X.A) : X.A.units + 64 < cLine := by have := hr.un; omega
theorem op_eqHH {k : Nat} (hr : RoomH k X.A) : OpR X (compareOp .Eq) (fun x y H Q => (scal x y = true ∧ Q (.bl (decide (x = y))) H) ∨ (∃ d e, Dp X.K H x d ∧ Dp X.K H y e ∧ SeqAt.shaped d = true ∧ SeqAt.shaped e = true ∧ Q (.bl (PyData.eqv d e)) H)) := op_eq.or (op_eqD (units_H hr))
theorem op_neHH {k : Nat} (hr : RoomH k X.A) : OpR X (compareOp .NotEq) (fun x y H Q => (scal x y = true ∧ Q (.bl (!decide (x = y))) H) ∨ (∃ d e, Dp X.K H x d ∧ Dp X.K H y e ∧ SeqAt.shaped d = true ∧ SeqAt.shaped e = true ∧ Q (.bl (!PyData.eqv d e)) H)) := op_ne.or (op_neD (units_H hr))
theorem de_eqH {k : Nat} (hr : RoomH k X.A) (ha : DE X T a ta) (hb : DE X T b tb) : DE X T (.Compare a [.Eq] [b] pos) (aOp fEq ta tb) := de_cmp (op_eqHH hr) (ab_eqG (neg := fun b => b)) ha hb
theorem de_neH {k : Nat} (hr : RoomH k X.A) (ha : DE X T a ta) (hb : DE X T b tb) : DE X T (.Compare a [.NotEq] [b] pos) (aOp fNe ta tb) := de_cmp (op_neHH hr) (ab_eqG (neg := fun b => !b)) ha hb
theorem dt_eqH {k : Nat} (hr : RoomH k X.A) (ha : DE X T a ta) (hb : DE X T b tb) : DT X T (.Compare a [.Eq] [b] pos) (aB (aOp fEq ta tb)) := dt_cmp (op_eqHH hr) (ab_eqG (neg := fun b => b)) ha hb
theorem dt_neH {k : Nat} (hr : RoomH k X.A) (ha : DE X T a ta) (hb : DE X T b tb) : DT X T (.Compare a [.NotEq] [b] pos) (aB (aOp fNe ta tb)) := dt_cmp (op_neHH hr) (ab_eqG (neg := fun b => !b)) ha hb
end
end DL

set_option Elab.async false
set_option linter.all false
set_option maxRecDepth 100000
set_option maxHeartbeats 2000000
/-! DR6: a op b op c op d. -/
namespace DL
open PySem L2 PyProof.Rows
section
variable {X : Cx} {T : Ct} {a b c d : Expr} {pos : Pos} {ta tb tc td : AE}
def tChain3 (r r' r2 : R2) (ta tb tc td : TE) : TE := fun σ H Q => ta σ H fun x H1 => tb σ H1 fun y H2 => r x y H2 fun z H3 => ∃ k, z = .bl k ∧
  (if k = true then tc σ H3 fun w' H4 => r' y w' H4 (fun z2 H5 => ∃ k2, z2 = .bl k2 ∧ (if k2 = true then td σ H5 fun u' H6 => r2 w' u' H6 Q else Q (.bl false) H5)) else Q (.bl false) H3)
theorem pe_chain3 {op op' op2 : CmpOp} {r r' r2 : R2} {ta tb tc td : TE} (ho : OpR X (compareOp op) r) (ho' : OpR X (compareOp op') r') (ho2 : OpR X (compareOp op2) r2) (ha : PE X a ta) (hb : PE X b tb) (hc : PE X c tc) (hd : PE X d td)
    (hm : lastMarks [op, op', op2] [b, c, d] = false := by with_unfolding_all rfl) : PE X (.Compare a [op, op', op2] [b, c, d] pos) (tChain3 r r' r2 ta tb tc td) := by
  refine ⟨fun pins s σ H Q I h => ?_⟩
  refine Compare_chain (thn (ha.run pins s σ H _ I h) fun v s1 ⟨x, H1, I1, r1, q1⟩ => chain_link (thn (hb.run pins s1 σ H1 _ I1 q1) fun u s2 ⟨y, H2, I2, r2, q2⟩ =>
    thn (ho pins s2 σ H2 x y v u _ I2 r1 r2 q2) fun d s3 ⟨z, H3, I3, r3, k, e, q3⟩ => ?_)) hm
  subst e
  cases r3
  refine wpAny_truthy_bool ?_
  cases k with
  | false => exact ite_ff ⟨.bl false, H3, I3, rfl, q3⟩
  | true =>
    refine ite_tt (chain_link (thn (hc.run pins s3 σ H3 _ I3 q3) fun w' s4 ⟨z', H4, I4, r4, q4⟩ => thn (ho' pins s4 σ H4 y z' u w' _ I4 r2 r4 q4) fun d5 s5 ⟨z5, H5, I5, r5, k5, e5, q5⟩ => ?_))
    subst e5
    cases r5
    refine wpAny_truthy_bool ?_
    cases k5 with
    | false => exact ite_ff ⟨.bl false, H5, I5, rfl, q5⟩
    | true => exact ite_tt (chain_last (thn (hd.run pins s5 σ H5 _ I5 q5) fun w6 s6 ⟨z6, H6, I6, r6, q6⟩ => ho2 pins s6 σ H6 z' z6 w' w6 Q I6 r4 r6 q6))
def aChain3_k (g g2 : A2) (tc td : AE) (Γ : Gm) (Φ : AK) (e : D) (z : D) (M3 : Mm) : Prop := match z with
  | .bl k => (k = true → tc Γ M3 fun h M4 => g e h M4 fun z2 M5 => aChain_k g2 td Γ Φ h z2 M5) ∧ (k = false → Φ (.bl false) M3)
  | _ => False
def aChain3 (f g g2 : A2) (ta tb tc td : AE) (Γ : Gm) (M : Mm) (Φ : AK) : Prop := ta Γ M fun d M1 => tb Γ M1 fun e M2 => f d e M2 fun z M3 => aChain3_k g g2 tc td Γ Φ e z M3
theorem aChain3_bl {g g2 : A2} {tc td : AE} {Γ : Gm} {Φ : AK} {e : D} {b : Bool} {M : Mm} : aChain3_k g g2 tc td Γ Φ e (.bl b) M = ((b = true → tc Γ M fun h M4 => g e h M4 fun z2 M5 => aChain_k g2 td Γ Φ h z2 M5) ∧ (b = false → Φ (.bl false) M)) := rfl
theorem de_chain3 {op op' op2 : CmpOp} {r r' r2 : R2} {f g g2 : A2} (ho : OpR X (compareOp op) r) (ho' : OpR X (compareOp op') r') (ho2 : OpR X (compareOp op2) r2) (hr : Ab2 X.K T.B r f) (hr' : Ab2 X.K T.B r' g) (hr2 : Ab2 X.K T.B r2 g2) (ha : DE X T a ta) (hb : DE X T b tb) (hc : DE X T c tc) (hd : DE X T d td)
    (hm : lastMarks [op, op', op2] [b, c, d] = false := by with_unfolding_all rfl) : DE X T (.Compare a [op, op', op2] [b, c, d] pos) (aChain3 f g g2 ta tb tc td) :=
  de_of (pe_chain3 ho ho' ho2 ha hb hc hd hm) fun F σ H Γ M Φ Q w q z => cE_mk w q fun d M1 x F1 H1 s1 h1 i1 q1 => cE_mk (w.go s1 h1) q1 fun e M2 y F2 H2 s2 h2 i2 q2 => hr F2 H2 x y d e M2 _ _ h2 (i1.mono s2) i2 q2 fun k M3 v F3 H3 s3 h3 i3 q3 => by
    unfold aChain3_k at q3
    split at q3
    · rename_i k
      cases i3
      refine ⟨k, rfl, ?_⟩
      cases k with
      | true =>
        exact cE_mk (((w.go s1 h1).go s2 h2).go s3 h3) (q3.1 rfl) fun c M4 u F4 H4 s4 h4 i4 q4 => hr' F4 H4 y u e c M4 _ _ h4 ((i2.mono s3).mono s4) i4 q4 fun k5 M5 v5 F5 H5 s5 h5 i5 q5 => by
          unfold aChain_k at q5
          split at q5
          · rename_i k5
            cases i5
            refine ⟨k5, rfl, ?_⟩
            cases k5 with
            | true => exact cE_mk (((((w.go s1 h1).go s2 h2).go s3 h3).go s4 h4).go s5 h5) (q5.1 rfl) fun e6 M6 u6 F6 H6 s6 h6 i6 q6 => hr2 F6 H6 u u6 c e6 M6 Φ Q h6 ((i4.mono s5).mono s6) i6 q6 fun d M7 v F7 H7 s7 h7 i7 q7 => z d M7 v F7 H7 ((((((s1.trans s2).trans s3).trans s4).trans s5).trans s6).trans s7) h7 i7 q7
            | false => exact z _ M5 _ F5 H5 ((((s1.trans s2).trans s3).trans s4).trans s5) h5 (.bl false) (q5.2 rfl)
          · exact q5.elim
      | false => exact z _ M3 _ F3 H3 ((s1.trans s2).trans s3) h3 (.bl false) (q3.2 rfl)
    · exact q3.elim
end
end DL

set_option Elab.async false
set_option linter.all false
set_option maxRecDepth 100000
set_option maxHeartbeats 2000000
/-! DN1: g(lambda: e, ..), where g calls what it gets. -/
namespace DL
open PySem L2 PyProof.Rows
open LamX (CodeO TabB LamS lamEnv lamCx lam_start2 lam_make2 ExtN Tabs TabS)
/-- the context of the lambda's body -/
abbrev lamXe (X : Cx) (A : Around) (outer : List Env) (s : Shared) (H : Hp) (E : XK) (scope : Scope) (f c' : Addr) : Value → Shared → Prop := fun e s' =>
  wpAny (model X.prog X.w) (A.deeper (lamEnv X scope s.heap.objs.size f c')) (leaving (lamEnv X scope s.heap.objs.size f c') e) (fun _ s'' => L2N.CX X.prog X.w outer H s E e s'') (fun e' s'' => L2N.CX X.prog X.w outer H s E e' s'') s'
abbrev lamN (X : Cx) (A : Around) (outer : List Env) (s : Shared) (H : Hp) (E : XK) (scope : Scope) (f c' : Addr) : Cx := (lamCx X A outer s H E scope f c').tr [] (lamXe X A outer s H E scope f c')
section
variable {X : Cx} {pins : List (Addr × Obj)} {σ : L2.St} {H HZ : Hp} {s : Shared}
/-- a(), in the def that got the lambda as a -/
theorem pe_actN {Eg : XK} {Ng : List Str} {qg : Str} {sg : Scope} {g f c' : Addr} {cdg pm ctv : Value} {params : Arguments} {body : Expr} {scope : Scope} {k i : Nat} {a : Str} {pn : List (Addr × Obj)} {xe : Value → Shared → Prop} {W : WX} {tb : XK → TE} {p1 p2 : Pos}
    (I : Inv X pins σ H s) (L : LamS X.env.scope scope) (of : s.heap.get? f = some (PySem.W.kla_obj "<lambda>" (X.env.qual ++ "<lambda>") params body scope (cloFrom X.env.cells scope.names []) pm c' ctv)) (nf : H f = none) (nfr : f ∉ frs X.stack)
    (hbind : bindArgs (PySem.W.kla_fn "<lambda>" (X.env.qual ++ "<lambda>") params body scope (cloFrom X.env.cells scope.names []) pm (.ref c') ctv) ⟨[], []⟩ = pure [])
    (tk : L2N.Takes ((cxOf (L2N.CX X.prog X.w) X.prog X.w X.K X.mg X.base Ng qg sg g cdg X.A X.stack s H Eg).tr pn xe) W) (hr : Room (k + 1) (X.A.deeper (envOfC qg sg s.heap.objs.size g cdg)))
    (hbody : ∀ (E : XK) (A : Around) (outer : List Env) (s1 : Shared) (H1 : Hp), Room k (A.deeper (lamEnv X scope s1.heap.objs.size f c')) → PE (lamN X A outer s1 H1 E scope f c') body (tb E))
    (hN : Ng[i]? = some a) (hv : Vis sg a) (hd : (a == ("__debug__" : Str)) = false) (hcd : (a == ("__classdict__" : Str)) = false) :
    PE ((cxOf (L2N.CX X.prog X.w) X.prog X.w X.K X.mg X.base Ng qg sg g cdg X.A X.stack s H Eg).tr pn xe) (.Call (.Name a p1) [] [] p2)
      (fun σZ HZ Q => σZ[i]? = some (some (.ref f)) ∧ HZ c' = some (CodeO c' (X.env.qual ++ "<lambda>")) ∧ tb (WE W σZ) σ HZ Q) := by
  refine ⟨fun pinsZ sZ σZ HZ Q IZ ⟨hs, hc, ht⟩ => ?_⟩
  have look := (pe_var (pos := p1) (i := i) hN hv hd hcd).run pinsZ sZ σZ HZ (fun v H1 => v = .ref f ∧ H1 = HZ) IZ ⟨.ref f, hs, rfl, rfl⟩
  refine wpAny_Call_Name_kw (thn look fun u s1 ⟨v, H1, I1, r1, ev, eH⟩ => ?_)
  subst ev eH
  cases r1
  have of1 := I1.base.keep f _ of nf nfr (fun z => nomatch (show f ∈ ([] : List Addr) from z))
  have un : Un (frs X.stack) [] H H1 s.heap s1.heap := I1.base
  obtain ⟨⟨oc, vs, t, hoc, hdc, hvc⟩, _, _⟩ := I1.hok c' _ hc
  refine PySem.W.callWith_F0 ⟨_, _, _, _, of1⟩ (wpAny_call (codeAny_mono (?rc : codeAny (model X.prog X.w) (X.A.deeper (envOfC qg sg s.heap.objs.size g cdg)) (.call (.ref f) ⟨[], []⟩) (CR (L2N.CX X.prog X.w) (envOfC qg sg s.heap.objs.size g cdg :: X.stack) X.prog X.w H1 s1 Q (WE W σZ)) s1) fun r s' hq => ?_))
  case rc =>
    refine PySem.W.kla_callFunE hr.depth of1 rfl L.co L.gen rfl ⟨c', oc, vs, t, rfl, hoc, hdc, hvc⟩ ?_
    rw [hbind]
    refine wpAny_pure (wpAny_newFunctionEnv (fun y hy => (L.own y hy).2) (fun y hy => absurd hy (by simp)) (fun h₁ hns hsb => ⟨I1.nolimit.fresh _ hsb, ?_⟩) L.kind)
    have kp : ∀ b o, s1.heap.get? b = some o → h₁.get? b = some o := fun b o e => hsb.extBut b o (Nat.ne_of_lt (Heap.lt_size e)) (Heap.get?_push_of_some _ e)
    have J0 := lam_start2 (E := WE W σZ) (f := f) (c' := c') (tk := s1.toks) I L I1.env0 hr.hd un hns kp
    have J := J0.toTry (lamXe X (X.A.deeper (envOfC qg sg s.heap.objs.size g cdg)) (envOfC qg sg s.heap.objs.size g cdg :: X.stack) s1 H1 (WE W σZ) scope f c')
    have run := (hbody (WE W σZ) (X.A.deeper (envOfC qg sg s.heap.objs.size g cdg)) (envOfC qg sg s.heap.objs.size g cdg :: X.stack) s1 H1 (hr.deeper _)).run [] _ _ H1 Q J ht
    refine PySem.W.kla_codeExpr (wpAny_mono run (fun v s' hq => ?_) fun e s' hq => hq)
    obtain ⟨w', H', J', rv, q⟩ := hq
    exact ⟨w', H', J'.os, J'.bare, J'.base, J'.hok, rv, q⟩
  cases r with
  | error e => exact L2N.passAt tk σZ pinsZ H1 s1 e s' I1 hq
  | ok fl =>
    cases fl with
    | ret u => exact I1.after hq
    | next => exact False.elim hq
    | brk => exact False.elim hq
    | cont => exact False.elim hq
end
/-! ### what is frozen, code objects with it -/
open Classical in
noncomputable def withCode (F H1 : Hp) : Hp := fun b => match F b with
  | some o => some o
  | none => if (∃ q, H1 b = some (CodeO b q)) then H1 b else none
theorem wc_same {F H1 : Hp} : Same F (withCode F H1) := fun b o e => by
  unfold withCode
  rw [e]
theorem wc_sub {F H1 : Hp} (h : Same F H1) : Same (withCode F H1) H1 := fun b o e => by
  unfold withCode at e
  split at e
  · rename_i u hu
    rw [← e]
    exact h b u hu
  · split at e
    · exact e
    · cases e
theorem wc_none {F H1 : Hp} {b : Addr} (h : F b = none) (hn : ∀ φ, H1 b ≠ some (.ext φ)) : withCode F H1 b = none := by
  unfold withCode
  rw [h]
  refine if_neg fun ⟨q, e⟩ => ?_
  exact hn _ e
theorem wc_at {F H1 : Hp} {c : Addr} {q : Str} (h : Same F H1) (e : H1 c = some (CodeO c q)) : withCode F H1 c = some (CodeO c q) := by
  unfold withCode
  split
  · rename_i u hu
    have := h c u hu
    rw [e] at this
    exact this.symm
  · rw [if_pos ⟨q, e⟩]
    exact e
theorem wc_nt {F H1 : Hp} (h : ∀ b ps, F b ≠ some (.tbl ps)) : ∀ b ps, withCode F H1 b ≠ some (.tbl ps) := fun b ps e => by
  unfold withCode at e
  split at e
  · rename_i u hu
    exact h b ps (hu.trans e)
  · split at e
    · rename_i z
      obtain ⟨q, z⟩ := z
      rw [z] at e
      unfold CodeO at e
      cases e
    · cases e
/-- a table whose code objects are frozen -/
def TabF (F H : Hp) (p : Addr × Str) : Prop := ∃ ps : Array Value, H p.1 = some (.tbl ps) ∧ TriplesOk ps.toList ∧ ∀ (pos : Pos) (cv : Value), codeAmong pos ps.toList = some cv → ∃ c, cv = .ref c ∧ F c = some (CodeO c p.2)
/-- a box that holds tables -/
structure HasT (B : Bx) (Tb : List (Addr × Str)) : Prop where
  get : ∀ {F H : Hp}, B.ok F H → ∀ p ∈ Tb, TabF F H p
  put : ∀ {F F1 H H1 : Hp}, B.ok F H → Same F F1 → ExtN H H1 → (∀ p ∈ Tb, TabF F1 H1 p) → B.ok F1 H1
  noext : ∀ {F H : Hp}, B.ok F H → ∀ a ∈ B.fp, ∀ φ, H a ≠ some (.ext φ)
theorem tabs_get {K : PySem.W.Frag} {B : Bx} {M : Mm} {F H : Hp} {Tb : List (Addr × Str)} (hT : HasT B Tb) (h : Hs K B M F H) : Tabs Tb H := fun p hp => by
  obtain ⟨ps, e1, e2, e3⟩ := hT.get h.box p hp
  refine ⟨ps, e1, e2, fun pos cv hc => ?_⟩
  obtain ⟨c, e4, e5⟩ := e3 pos cv hc
  exact ⟨c, e4, h.sub c _ e5⟩
theorem same_ext {K : PySem.W.Frag} {B : Bx} {M : Mm} {F H H1 : Hp} (h : Hs K B M F H) (eN : ExtN H H1) : Same F H1 := fun b o e => eN b o (h.sub b o e) fun ps z => h.nt b ps (by rw [e, z])
theorem mo_kind {K : PySem.W.Frag} {F H : Hp} {a : Addr} : ∀ {o : MO}, MOk K F H a o → ∃ u, H a = some u ∧ (∀ ps, u ≠ .tbl ps) ∧ ∀ φ, u ≠ .ext φ
  | .lst _, ⟨vs, h, _⟩ => ⟨_, h, fun _ z => (by cases z), fun _ z => (by cases z)⟩
  | .ins _ _ _, ⟨dx, fs, h, _⟩ => ⟨_, h, fun _ z => (by cases z), fun _ z => (by cases z)⟩
  | .dK _ _, ⟨kv, h, _⟩ => ⟨_, h, fun _ z => (by cases z), fun _ z => (by cases z)⟩
theorem hs_lam {K : PySem.W.Frag} {B : Bx} {M : Mm} {F H H1 : Hp} {Tb : List (Addr × Str)} (hT : HasT B Tb) (h : Hs K B M F H) (eN : ExtN H H1) (T1 : Tabs Tb H1) : Hs K B M (withCode F H1) H1 := by
  have s1 := same_ext h eN
  have b1 : B.ok (withCode F H1) H1 := hT.put h.box wc_same eN fun p hp => by
    obtain ⟨ps, e1, e2, e3⟩ := T1 p hp
    refine ⟨ps, e1, e2, fun pos cv hc => ?_⟩
    obtain ⟨c, e4, e5⟩ := e3 pos cv hc
    exact ⟨c, e4, wc_at s1 e5⟩
  refine ⟨wc_sub s1, fun p hp => ?_, h.nd, b1, fun a ha => wc_none (h.bfr a ha) (hT.noext b1 a ha), wc_nt h.nt⟩
  obtain ⟨m1, m2, m3⟩ := h.mem p hp
  obtain ⟨u, e, n1, n2⟩ := mo_kind m3
  have e1 : H1 p.1 = H p.1 := (eN _ u e n1).trans e.symm
  exact ⟨wc_none m1 fun φ z => (by rw [e1, e] at z; exact n2 φ (Option.some.inj z)), m2, (m3.at e1).mono wc_same⟩
/-- the same box, what was frozen at some time is -/
def bxAt (B : Bx) (F2 : Hp) : Bx where
  fp := B.fp
  ok := fun F H => B.ok F H ∧ Same F2 F
  loc := fun e h => ⟨B.loc e h.1, h.2⟩
  up := fun s h => ⟨B.up s h.1, h.2.trans s⟩
  low := fun h => B.low h.1
section
variable {K : PySem.W.Frag} {B : Bx} {M : Mm} {F F2 H : Hp}
theorem at_in (h : Hs K B M F H) (e : Same F2 F) : Hs K (bxAt B F2) M F H := ⟨h.sub, h.mem, h.nd, ⟨h.box, e⟩, h.bfr, h.nt⟩
theorem at_out (h : Hs K (bxAt B F2) M F H) : Hs K B M F H := ⟨h.sub, h.mem, h.nd, h.box.1, h.bfr, h.nt⟩
end
/-- what a lambda makes of the mutable objects -/
abbrev LRead := Mm → AK → (XD → Mm → Prop) → Prop
/-- a() -/
def aAct (R : LRead) (f : Addr) (Ψ : AX) (Γ : Gm) (M : Mm) (Φ : AK) : Prop := Γ[0]? = some (some (.ref f)) ∧ R M Φ fun y M2 => Ψ y Γ M2
abbrev E0 : XK := fun _ _ _ => False
abbrev LSp := LRead → List D → Mm → AK → Prop
/-- a def that calls what it gets as a -/
def LamFn (P : Program) (w : World) (K : PySem.W.Frag) (mg : Str → Option Value) (base : Heap) (k : Nat) (x : Str) (st : Stmt) (g : Addr) (N : List Str) (a : Str) (lsp : LSp) : Prop :=
  ∀ (B : Bx) (cdv : Value) (A : Around) (outer : List Env) (s : Shared) (H : Hp) (f : Addr) (R : LRead), Room k (A.deeper (envOfC x (defScope st) s.heap.objs.size g cdv)) →
    (∀ (W : WX) (Ψ : AX) (pn : List (Addr × Obj)) (xe : Value → Shared → Prop) (p1 p2 : Pos), L2N.Takes ((cxD P w K mg base N x (defScope st) g cdv A outer s H E0).tr pn xe) W →
      DE ((cxD P w K mg base N x (defScope st) g cdv A outer s H E0).tr pn xe) ⟨B, W, Ψ⟩ (.Call (.Name a p1) [] [] p2) (aAct R f Ψ)) →
    ∀ ds M Φ, lsp R ds M Φ → ∃ tg, DSs (cxD P w K mg base N x (defScope st) g cdv A outer s H E0) (ctD B E0 fun _ _ => False) (defBody st) tg ∧ tg { nx := fun _ M => Φ .non M, rt := Φ } (startD N (.ref f :: ds)) M
def aLam (lsp : LSp) (ta : (XD → Mm → Prop) → AE) (tr : AA) (Γ : Gm) (M : Mm) (Φ : AK) : Prop := tr Γ M fun ds M1 => lsp (fun M' Φ' Ψ' => ta Ψ' Γ M' Φ') ds M1 Φ
section
variable {X : Cx} {T : Ct}
theorem de_lam {x a : Str} {st : Stmt} {g c Pt : Addr} {gd : FuncData} {Ng ps : List Str} {k : Nat} {lsp : LSp} {Tb : List (Addr × Str)} {params : Arguments} {body : Expr} {scope : Scope} {ta : (XD → Mm → Prop) → AE} {es : List Expr} {tr : AA} {p lpos pos : Pos}
    (G : Fun X.K x x st g gd) (S : FnScope Ng (a :: ps) (defScope st)) (hN0 : Ng[0]? = some a) (hva : Vis (defScope st) a) (hb : L2.Binds X.K gd (a :: ps) []) (hG : LamFn X.prog X.w X.K X.mg X.base (k + 1) x st g Ng a lsp) (hlen : ∀ R ds M Φ, lsp R ds M Φ → ds.length = ps.length)
    (hT : HasT T.B Tb) (TB : TabB X.base X.mg c Pt) (hcode : X.env.code = .ref c) (hmT : (Pt, X.env.qual ++ "<lambda>") ∈ Tb) (hu : ∀ p ∈ Tb, p.1 = Pt → p.2 = X.env.qual ++ "<lambda>") (hr : Room (k + 2) X.A) (L : LamS X.env.scope scope)
    (hs : X.stack = X.env :: X.outer) (hf : X.env.frame = some X.env.locals) (hg : Gl X x) (hm : X.mg x = some (.ref g)) (hk : PySem.W.keepIn X.K (.ref g) = true)
    (hbody : ∀ (E : XK) (Ψ : XD → Mm → Prop) (A : Around) (outer : List Env) (s : Shared) (H : Hp) (f c' : Addr), Room k (A.deeper (lamEnv X scope s.heap.objs.size f c')) → DE (lamN X A outer s H E scope f c') ⟨T.B, fun cls d _ H => E cls d H, fun y _ M => Ψ y M⟩ body (ta Ψ))
    (ha : DA X T es tr) (hdef : defaultsOf params X.env = ([], []) := by rfl) (hbind : ∀ (q : Str) (cl : List (Str × Addr)) (pm cv ctv : Value), bindArgs (PySem.W.kla_fn "<lambda>" q params body scope cl pm cv ctv) ⟨[], []⟩ = pure [] := by intros; rfl)
    (hdb : (x == ("__debug__" : Str)) = false := by decide) (had : (a == ("__debug__" : Str)) = false := by decide) (hac : (a == ("__classdict__" : Str)) = false := by decide)
    (he : starEach (.Lambda params body scope lpos :: es) X.env = (false, eval (.Lambda params body scope lpos) X.env) :: starEach es X.env := by rfl) (hpl : (backTo pos (starEach es X.env)).any (·.1) = false := by rfl) :
    DE X T (.Call (.Name x p) (.Lambda params body scope lpos :: es) [] pos) (aLam lsp ta tr) := by
  refine ⟨fun pins s σ H Q I ⟨F, Γ, M, Φ, w, q, z⟩ => ?_⟩
  obtain ⟨oc, od, kV, doc, pm, an, cdv, ct, osl, rfl, lk, hcd⟩ := G.ex
  refine wpAny_Call_Name_kw (ld_glob I hg hm (PySem.W.callWith_K (h₀ := X.base) I.ok.mod.kin hk ?_ he hpl) hdb)
  rw [he]
  refine Calls.spliced_cons (lam_make2 I TB hcode hmT hu (tabs_get hT w.h) hdef (L.has I.ok) fun f c' pm' ctv H1 s' I1 eN T1 of nf nfr hco => ?_)
  have hfr : f ≠ X.env.locals ∧ f ∉ frs X.outer := by
    rw [hs] at nfr
    have e : frs (X.env :: X.outer) = X.env.locals :: frs X.outer := by
      show List.filterMap _ (X.env :: X.outer) = _
      rw [List.filterMap_cons, hf]
      rfl
    rw [e] at nfr
    exact ⟨fun z => nfr (by rw [z]; exact List.mem_cons_self), fun z => nfr (List.mem_cons_of_mem _ z)⟩
  have h1 := hs_lam hT w.h eN T1
  have hc1 := wc_at (same_ext w.h eN) hco
  have J1 : L2.Inv X ((f, _) :: pins) σ H1 s' := I1.pins_of fun p hp => by
    rcases List.mem_cons.mp hp with rfl | hp
    · exact ⟨of, nf, hfr.1, hfr.2, fun v z => by cases z⟩
    · exact I1.pin p (List.mem_append_right _ hp)
  have args := ha.run pos _ s' σ H1 (fun vs H2 => ∃ F2 M2 ds, Same (withCode F H1) F2 ∧ Hs X.K T.B M2 F2 H2 ∧ IsL X.K F2 vs ds ∧ lsp (fun M' Φ' Ψ' => ta Ψ' Γ M' Φ') ds M2 Φ) J1 (cA_mk (w.go wc_same h1) q fun ds M2 vs F2 H2 s2 h2 i2 q2 => ⟨F2, M2, ds, s2, h2, i2, q2⟩)
  refine thn args fun us s2 ⟨vs, H2, J2, rv, F2, M2, ds, sF, h2, i2, q2⟩ => ?_
  obtain ⟨of2, nf2, _⟩ := J2.pin (f, _) (List.mem_append_right _ List.mem_cons_self)
  have I2 : L2.Inv X pins σ H2 s2 := J2.pins_of fun p hp => J2.pin p (List.mem_append_right _ (List.mem_cons_of_mem _ hp))
  refine ⟨I2.kIn, ?_⟩
  have hl : (Value.ref f :: us).length = (a :: ps).length := by
    rw [List.length_cons, List.length_cons, ← rv.length, i2.length, hlen _ _ _ _ q2]
  have b := hb s2 (.ref f :: us) I2.kIn (by rw [List.append_nil]; exact hl)
  rw [List.append_nil] at b
  have rc : codeAny (model X.prog X.w) X.A (.call (.ref g) ⟨.ref f :: us, []⟩) (CR (L2N.CX X.prog X.w) X.stack X.prog X.w H2 s2 Q E0) s2 := by
    refine LamX.run_ofS (N := Ng) (ps := a :: ps) (us := .ref f :: us) (vs := .ref f :: vs) lk hcd S hr I2.env0 b (.cons rfl rv) (by rw [← hl, List.length_cons, List.length_cons, rv.length]) fun hr' => ?_
    have acts : ∀ (W : WX) (Ψ : AX) (pn : List (Addr × Obj)) (xe : Value → Shared → Prop) (p1 p2 : Pos), L2N.Takes ((cxD X.prog X.w X.K X.mg X.base Ng x (defScope st) g cdv X.A X.stack s2 H2 E0).tr pn xe) W →
        DE ((cxD X.prog X.w X.K X.mg X.base Ng x (defScope st) g cdv X.A X.stack s2 H2 E0).tr pn xe) ⟨bxAt T.B F2, W, Ψ⟩ (.Call (.Name a p1) [] [] p2) (aAct (fun M' Φ' Ψ' => ta Ψ' Γ M' Φ') f Ψ) := fun W Ψ pn xe p1 p2 tk => by
      refine ⟨fun pz sz σz Hz Qz Iz ⟨Fz, Γz, Mz, Φz, wz, ⟨g0, gR⟩, zz⟩ => ?_⟩
      have sz2 : Same F2 Fz := wz.h.box.2
      have act := pe_actN (tb := fun E σ H Q => ∃ Ψ : XD → Mm → Prop, cE X.K ⟨T.B, fun cls d _ H => E cls d H, fun y _ M => Ψ y M⟩ (ta Ψ) σ H Q) (i := 0) (p1 := p1) (p2 := p2) I2 L of2 nf2 nfr (hbind _ _ _ _ _) tk hr' (fun E A outer s H hr2 => ⟨fun pins s' σ Hx Q I ⟨Ψ, h⟩ => (hbody E Ψ A outer s H f c' hr2).run pins s' σ Hx Q I h⟩) hN0 hva had hac
      obtain ⟨v, ev, iv⟩ := wz.v.get 0 _ g0
      cases iv
      refine act.run pz sz σz Hz Qz Iz ⟨ev, wz.h.sub _ _ (sz2 _ _ (sF _ _ hc1)), fun y M2 => Ψ y Γz M2, cE_mk ⟨(w.v.mono (wc_same.trans sF)).mono sz2, at_out wz.h, fun y cls d Γl M' σl F' H' s _ h xi hp => ?_⟩ gR fun d M' v F' H' s h i q => zz d M' v F' H' s (at_in h (sz2.trans s)) i q⟩
      exact wz.l y cls d Γz M' σz F' H' s (wz.v.mono s) (at_in h (sz2.trans s)) xi hp
    obtain ⟨tg, d, r⟩ := hG (bxAt T.B F2) cdv X.A X.stack s2 H2 f (fun M' Φ' Ψ' => ta Ψ' Γ M' Φ') hr' (fun W Ψ pn xe p1 p2 tk => acts W Ψ pn xe p1 p2 tk) ds M2 Φ q2
    exact ⟨_, d, cS_mk (T := ctD (bxAt T.B F2) E0 fun _ _ => False) ⟨vw_start (.cons (.ref f) i2), at_in h2 (Same.refl F2), fun _ _ _ _ _ _ _ _ _ _ _ _ z => z.elim⟩ r ⟨fun Γ' M' σ' F' H' s v h q => z _ M' _ F' H' ((wc_same.trans sF).trans s) (at_out h) .non q, fun d M' v F' H' s h i q => z d M' v F' H' ((wc_same.trans sF).trans s) (at_out h) i q, fun _ _ _ _ _ _ _ _ q => q.elim, fun _ _ _ _ _ _ _ _ q => q.elim⟩⟩
  refine wpAny_call (codeAny_mono rc fun r s3 hq => ?_)
  cases r with
  | error e =>
    obtain ⟨_, _, _, _, _, _, _, _, _, _, _, _, z⟩ := hq
    exact z.elim
  | ok fl =>
    cases fl with
    | ret u => exact I2.after hq
    | next => exact False.elim hq
    | brk => exact False.elim hq
    | cont => exact False.elim hq
end
end DL

set_option Elab.async false
set_option linter.all false
set_option maxRecDepth 100000
set_option maxHeartbeats 2000000
/-! DN2: the law's walk with tables of code objects. -/
namespace DL
open PySem L2 PyProof.Rows
open LamX (CodeO TabB ExtN Tabs TabS LawAtS)
/-! ### boxes -/
/-- the tables -/
def bxTab (Tb : List (Addr × Str)) : Bx where
  fp := Tb.map (·.1)
  ok := fun F H => ∀ p ∈ Tb, TabF F H p
  loc := fun {F H H'} e h p hp => by
    obtain ⟨ps, e1, e2⟩ := h p hp
    exact ⟨ps, (e p.1 (List.mem_map.mpr ⟨p, hp, rfl⟩)).trans e1, e2⟩
  up := fun {F F' H} s h p hp => by
    obtain ⟨ps, e1, e2, e3⟩ := h p hp
    refine ⟨ps, e1, e2, fun pos cv hc => ?_⟩
    obtain ⟨c, e4, e5⟩ := e3 pos cv hc
    exact ⟨c, e4, s _ _ e5⟩
  low := fun {F H} h a ha => by
    obtain ⟨p, hp, rfl⟩ := List.mem_map.mp ha
    obtain ⟨ps, e1, _⟩ := h p hp
    exact ⟨_, e1⟩
theorem hasT_tab {Tb : List (Addr × Str)} : HasT (bxTab Tb) Tb := ⟨fun h => h, fun _ _ _ h => h, fun {F H} h a ha φ z => by
  obtain ⟨p, hp, rfl⟩ := List.mem_map.mp ha
  obtain ⟨ps, e1, _⟩ := h p hp
  rw [z] at e1
  cases e1⟩
/-- two boxes side by side -/
def bxAnd (B1 B2 : Bx) : Bx where
  fp := B1.fp ++ B2.fp
  ok := fun F H => B1.ok F H ∧ B2.ok F H ∧ ∀ a ∈ B1.fp, a ∉ B2.fp
  loc := fun e h => ⟨B1.loc (fun a ha => e a (List.mem_append_left _ ha)) h.1, B2.loc (fun a ha => e a (List.mem_append_right _ ha)) h.2.1, h.2.2⟩
  up := fun s h => ⟨B1.up s h.1, B2.up s h.2.1, h.2.2⟩
  low := fun h a ha => (List.mem_append.mp ha).elim (B1.low h.1 a) (B2.low h.2.1 a)
theorem hasT_heap {h c : Addr} {B : Bx} {Tb : List (Addr × Str)} (hT : HasT B Tb) : HasT (bxAnd (bxHeap h c) B) Tb := by
  refine ⟨fun x => hT.get x.2.1, fun {F F1 H H1} x s e t => ⟨?_, hT.put x.2.1 s e t, x.2.2⟩, fun {F H} x a ha φ z => ?_⟩
  · obtain ⟨n, cs, st, h1, h2, h3⟩ := x.1
    exact ⟨n, cs, st, e _ _ h1 fun ps z => (by cases z), e _ _ h2 fun ps z => (by cases z), h3⟩
  · rcases List.mem_append.mp ha with ha | ha
    · obtain ⟨n, cs, st, h1, h2, h3⟩ := x.1
      rcases List.mem_cons.mp ha with rfl | ha
      · rw [z] at h1
        cases h1
      · rw [List.mem_singleton.mp ha] at z
        rw [z] at h2
        cases h2
    · exact hT.noext x.2.1 a ha φ z
section
variable {K : PySem.W.Frag} {M : Mm} {F H : Hp} {h c : Addr} {B : Bx}
theorem heapB_open (x : Hs K (bxAnd (bxHeap h c) B) M F H) : ∃ cs s, cs.length ≤ 1000 ∧ Hs K B (heapM h c cs s ++ M) F H := by
  obtain ⟨⟨n, cs, s, h1, h2, h3⟩, xb, xd⟩ := x.box
  have mh : h ∈ (bxHeap h c).fp := List.mem_cons_self
  have mc : c ∈ (bxHeap h c).fp := List.mem_cons_of_mem _ List.mem_cons_self
  have out : ∀ a, a ∈ (bxHeap h c).fp → ∀ q ∈ M, q.1 ≠ a := fun a ha q hq e => (x.mem q hq).2.1 (List.mem_append_left _ (by rw [e]; exact ha))
  refine ⟨cs, s, h3, x.sub, fun q hq => ?_, ?_, xb, fun a ha => x.bfr a (List.mem_append_right _ ha), x.nt⟩
  · rcases List.mem_cons.mp hq with rfl | hq
    · exact ⟨x.bfr h (List.mem_append_left _ mh), xd h mh, _, h1, .cons (.ref c) (.cons (.int s) .nil)⟩
    · rcases List.mem_cons.mp hq with rfl | hq
      · exact ⟨x.bfr c (List.mem_append_left _ mc), xd c mc, _, h2, IsL.of_ints cs⟩
      · obtain ⟨m1, m2, m3⟩ := x.mem q hq
        exact ⟨m1, fun z => m2 (List.mem_append_right _ z), m3⟩
  · show (h :: c :: M.map (·.1)).Nodup
    have no : ∀ a, a ∈ (bxHeap h c).fp → a ∉ M.map (·.1) := fun a ha hm => by
      obtain ⟨q, hq, e⟩ := List.mem_map.mp hm
      exact out a ha q hq e
    refine List.nodup_cons.mpr ⟨fun hm => ?_, List.nodup_cons.mpr ⟨no c mc, x.nd⟩⟩
    rcases List.mem_cons.mp hm with e | hm
    · exact n e
    · exact no h mh hm
theorem heapB_close {cs : List Int} {s : Int} (hl : cs.length ≤ 1000) (x : Hs K B (heapM h c cs s ++ M) F H) : Hs K (bxAnd (bxHeap h c) B) M F H := by
  have nd : (h :: c :: M.map (·.1)).Nodup := x.nd
  obtain ⟨n1, nd⟩ := List.nodup_cons.mp nd
  obtain ⟨n2, nd⟩ := List.nodup_cons.mp nd
  obtain ⟨f1, b1, vs1, e1, l1⟩ := x.mem (h, .lst [.ref c, .int s]) List.mem_cons_self
  obtain ⟨f2, b2, vs2, e2, l2⟩ := x.mem (c, .lst (cs.map D.int)) (List.mem_cons_of_mem _ List.mem_cons_self)
  have both : ∀ a ∈ (bxHeap h c).fp, a = h ∨ a = c := fun a ha => by
    rcases List.mem_cons.mp ha with e | ha
    · exact .inl e
    · exact .inr (List.mem_singleton.mp ha)
  have hv : vs1 = [.ref c, .int s] := by
    cases l1 with
    | cons i1 i2 =>
      cases i2 with
      | cons i2 i3 =>
        cases i1
        cases i2
        cases i3
        rfl
  refine ⟨x.sub, fun q hq => ?_, nd, ⟨⟨fun e => n1 (by rw [e]; exact List.mem_cons_self), cs, s, by rw [← hv]; exact e1, by rw [← l2.ints]; exact e2, hl⟩, x.box, fun a ha => ?_⟩, fun a ha => ?_, x.nt⟩
  · obtain ⟨m1, m2, m3⟩ := x.mem q (List.mem_cons_of_mem _ (List.mem_cons_of_mem _ hq))
    have hk : q.1 ∈ M.map (·.1) := List.mem_map.mpr ⟨q, hq, rfl⟩
    refine ⟨m1, fun hm => ?_, m3⟩
    rcases List.mem_append.mp hm with hm | hm
    · rcases both _ hm with e | e
      · exact n1 (by rw [← e]; exact List.mem_cons_of_mem _ hk)
      · exact n2 (by rw [← e]; exact hk)
    · exact m2 hm
  · rcases both a ha with rfl | rfl
    · exact b1
    · exact b2
  · rcases List.mem_append.mp ha with ha | ha
    · rcases both a ha with rfl | rfl
      · exact f1
      · exact f2
    · exact x.bfr a ha
end
theorem draw_boxB {P : Program} {w : World} {K : PySem.W.Frag} {mg : Str → Option Value} {base : Heap} {k : Nat} {f : Addr} {fd : FuncData} {ps : List Str} {CX : CXT} {B : Bx} (G : FnOk P w K mg base CX k f fd ps (conc K B spDrawM)) (h c : Addr) :
    FnOk P w K mg base CX k f fd ps (conc K (bxAnd (bxHeap h c) B) (spDraw h)) := G.imp fun vs H Q E ⟨ds, F, M, Φ, Ψ, hv, hh, ha, hq, he⟩ => by
  unfold spDraw at ha
  split at ha
  rotate_left
  · exact ha.elim
  rename_i h' n
  obtain ⟨rfl, hn, ha⟩ := ha
  obtain ⟨cs, s, hl, ho⟩ := heapB_open hh
  refine ⟨_, F, heapM h' c cs s ++ M, fun d M' => ∃ cs' s' M1, cs'.length ≤ 1000 ∧ M' = heapM h' c cs' s' ++ M1 ∧ Φ d M1, fun _ _ => False, hv, ho, ⟨h', c, cs, s, n, M, rfl, rfl, hn, hl, fun r cs' s' h1 h2 h3 => ⟨cs', s', M, h1, rfl, ha r h2 h3⟩⟩, fun d M' v F' H' s1 h1 i1 q1 => ?_, fun _ _ _ _ _ _ _ _ _ z => z.elim⟩
  obtain ⟨cs', s', M1, c1, rfl, q1⟩ := q1
  exact hq d M1 v F' H' s1 (heapB_close c1 h1) i1 q1
end DL

set_option Elab.async false
set_option linter.all false
set_option maxRecDepth 100000
set_option maxHeartbeats 2000000
/-! DN3: defs that bear lambdas; the law's end with tables. -/
namespace DL
open PySem L2 PyProof.Rows
open LamX (CodeO TabB ExtN Tabs TabS LawAtS)
/-- a hidden part more -/
def aBoxT {ι : Type} (B0 : Bx) (bx : ι → Bx) (t : ι → AS) (A : AEnds) (Γ : Gm) (M : Mm) : Prop := ∃ i M', (∀ K F H, Hs K B0 M F H → Hs K (bx i) M' F H) ∧ t i A Γ M'
theorem un_and {K : PySem.W.Frag} {M : Mm} {F H : Hp} {B1 B0 : Bx} (x : Hs K (bxAnd B1 B0) M F H) : Hs K B0 M F H :=
  ⟨x.sub, fun q hq => let ⟨m1, m2, m3⟩ := x.mem q hq; ⟨m1, fun z => m2 (List.mem_append_right _ z), m3⟩, x.nd, x.box.2.1, fun a ha => x.bfr a (List.mem_append_right _ ha), x.nt⟩
section
variable {X : Cx}
theorem dss_boxT {ι : Type} {B0 : Bx} {b1 : ι → Bx} {W : WX} {Ψ : AX} {sts : List Stmt} {t : ι → AS} (h : ∀ i, DSs X ⟨bxAnd (b1 i) B0, W, fun _ _ _ => False⟩ sts (t i)) : DSs X ⟨B0, W, Ψ⟩ sts (aBoxT B0 (fun i => bxAnd (b1 i) B0) t) :=
  ⟨fun pins s σ H D I ⟨F, Γ, M, A, w, q, m1, m2, m3, m4⟩ => by
    obtain ⟨i, M', cv, q⟩ := q
    refine (h i).run pins s σ H D I (cS_mk (T := ⟨bxAnd (b1 i) B0, W, fun _ _ _ => False⟩) ⟨w.v, cv _ _ _ w.h, fun _ _ _ _ _ _ _ _ _ _ _ _ z => z.elim⟩ q ⟨?_, ?_, ?_, ?_⟩)
    · exact fun Γ2 M2 σ2 F2 H2 s2 v2 h2 q2 => m1 Γ2 M2 σ2 F2 H2 s2 v2 (un_and h2) q2
    · exact fun d M2 v F2 H2 s2 h2 i2 q2 => m2 d M2 v F2 H2 s2 (un_and h2) i2 q2
    · exact fun Γ2 M2 σ2 F2 H2 s2 v2 h2 q2 => m3 Γ2 M2 σ2 F2 H2 s2 v2 (un_and h2) q2
    · exact fun Γ2 M2 σ2 F2 H2 s2 v2 h2 q2 => m4 Γ2 M2 σ2 F2 H2 s2 v2 (un_and h2) q2⟩
end
section
variable {P : Program} {w : World} {K : PySem.W.Frag} {mg : Str → Option Value} {base : Heap} {B : Bx}
/-- THE RULE for a def whose code object is known -/
theorem dfnC {x qual : Str} {st : Stmt} {f c : Addr} {fd : FuncData} {N ps : List Str} {k : Nat} {asp : ASp} (F : Fun K x qual st f fd) (S : FnScope N ps (defScope st)) (hc : fd.code = .ref c) (hlen : ∀ ds M Φ Ψ, asp ds M Φ Ψ → ds.length = ps.length)
    (hb : ∀ (A : Around) (outer : List Env) (s : Shared) (H : Hp) (E : XK), Room k (A.deeper (envOfC qual (defScope st) s.heap.objs.size f (.ref c))) → ∀ ds M Φ Ψ, asp ds M Φ Ψ →
      ∃ ta, DSs (cxD P w K mg base N qual (defScope st) f (.ref c) A outer s H E) (ctD B E Ψ) (defBody st) ta ∧ ta { nx := fun _ M => Φ .non M, rt := Φ } (startD N ds) M) : FnOk P w K mg base (L2N.CX P w) (k + 1) f fd ps (conc K B asp) := by
  obtain ⟨oc, od, kV, doc, pm, an, cdv, ct, osl, e, lk, hcd⟩ := F.ex
  subst e
  have hc : cdv = .ref c := hc
  subst hc
  exact fn_of lk hcd S (conc_len hlen) fun A outer s H vs Q E hr hsp => body_go rfl hsp (hb A outer s H E hr)
end
theorem LamFn.mono {P : Program} {w : World} {K : PySem.W.Frag} {mg : Str → Option Value} {base : Heap} {k k' : Nat} {x : Str} {st : Stmt} {g : Addr} {N : List Str} {a : Str} {lsp : LSp} (h : LamFn P w K mg base k x st g N a lsp) (e : k ≤ k') : LamFn P w K mg base k' x st g N a lsp :=
  fun B cdv A outer s H f R hr => h B cdv A outer s H f R (hr.mono e)
theorem hu_of : ∀ {Tb : List (Addr × Str)} {P : Addr} {q : Str}, (Tb.map (·.1)).Nodup → (P, q) ∈ Tb → ∀ p ∈ Tb, p.1 = P → p.2 = q
  | [], _, _, _, h, _, _, _ => nomatch h
  | a :: Tb, P, q, nd, h, p, hp, e => by
    obtain ⟨n1, n2⟩ := List.nodup_cons.mp nd
    rcases List.mem_cons.mp h with rfl | h2
    · rcases List.mem_cons.mp hp with rfl | hp
      · rfl
      · exact absurd (List.mem_map.mpr ⟨p, hp, e⟩) n1
    · rcases List.mem_cons.mp hp with rfl | hp2
      · exact absurd (show p.1 ∈ Tb.map (·.1) from List.mem_map.mpr ⟨(P, q), h2, e.symm⟩) n1
      · exact hu_of n2 h2 p hp2 e
theorem law_concT {K : PySem.W.Frag} {H : Hp} {a : Addr} {ns : List Int} {Tb : List (Addr × Str)} (hl : ns.length ≤ 63) (hT : ∀ p ∈ Tb, H p.1 = some (.tbl #[])) (hS : SqL K H a (ns.map V.int)) : conc K (bxTab Tb) aspLaw [.ref a] H (fun v _ => v = .bl true) fun _ _ _ => False := by
  have hf : ∀ b ∈ (bxTab Tb).fp, cutT H b = none := fun b hb => by
    obtain ⟨p, hp, e⟩ := List.mem_map.mp hb
    unfold cutT
    rw [← e, hT p hp]
  have hb : (bxTab Tb).ok (cutT H) H := fun p hp => ⟨#[], hT p hp, True.intro, fun pos cv hc => by cases hc⟩
  exact ⟨[.lst (ns.map D.int)], cutT H, [], fun d _ => d = .bl true, fun _ _ => False, .cons (.lst (cutT_sq hS) (IsL.of_ints ns)) .nil, ⟨cutT_sub, fun _ h => absurd h List.not_mem_nil, List.nodup_nil, hb, hf, cutT_nt⟩, ⟨ns, rfl, hl, rfl, fun _ => rfl⟩,
    fun d M' v F' H' _ _ i e => by
      subst e
      cases i
      rfl, fun _ _ _ _ _ _ _ _ _ z => z⟩
theorem tabIn_of {K : PySem.W.Frag} {x : Str} {f c Pt : Addr} {o1 o3 : Value} {d1 d3 : Option Addr} {fd : FuncData} {s1 s3 : Array (Option Value)} {vs : Array Value} (a : PySem.W.nsIn K mainGlobals x = some (some (.ref f))) (l : K.lookup f = some ⟨o1, d1, .func fd, s1⟩) (hc : fd.code = .ref c) (lc : K.lookup c = some ⟨o3, d3, .fields vs, s3⟩) (hv : vs[11]? = some (.ref Pt)) :
    PySem.W.tabIn K x = some (c, Pt) := by
  unfold PySem.W.tabIn
  rw [a]
  dsimp only
  rw [l]
  dsimp only
  rw [hc]
  dsimp only
  rw [lc]
  dsimp only
  rw [hv]
/-- what is known of the top's own code objects at the head -/
def TopT (q : Program) (K : PySem.W.Frag) (h : Heap) : Prop := ∀ (x : Str) (c Pt : Addr), ((recsOf q).find? (fun e => e.name == x)).isSome = true → PySem.W.tabIn K x = some (c, Pt) → PySem.W.CodeHd h c Pt ∧ h.get? Pt = some { cls := .none, data := .fields #[] }
theorem walk_lam {l : PySem.W.OpenLaw} {n k : Nat} {q : Program} {loose : List Str} {XP : (Str → Option Value) → Heap → Prop} {YP : World → Heap → Prop} {d : DefRec} {K : Params → PySem.W.Frag} {CX : World → CXT} {x : Str}
    (hn : l.most = some n) (hn2 : n ≤ sizeLine) (hdf : d.params.defaults = []) (hr : Room k callerA) (hY : ∀ (w : World) (h : Heap), YP w h → (K w.params).In h)
    (F : ∀ (w : World) (mg : Str → Option Value) (fa : Addr) (h : Heap), YP w h → (K w.params).In h → h.Ns mainGlobals mg → mg d.name = some (.ref fa) → TopT q (K w.params) h → LawAtS l w (K w.params) (CX w) k n x mg fa h)
    (hCX : ∀ (w : World) (H : Hp) (s : Shared) (e : Value) (s' : Shared), CX w [] H s (fun _ _ _ => False) e s' → False) :
    PySem.W.WalkO q loose XP YP l.row.toRowW d [] (fun f vs => PySem.call f vs) := by
  refine Att.attach_callB hn hdf fun w s₀ s₁ mg mb fa o pm cd doc a vs ns G Y ho hd hcd hmg hobj hints hlen hbits hg => ?_
  have KX := hY w _ Y
  have tops : TopT q (K w.params) s₁.heap := fun x c Pt hs ht => by
    obtain ⟨d', hr'⟩ := Option.isSome_iff_exists.mp hs
    exact PySem.W.tab_of G.T KX hr' ht
  obtain ⟨fd, cs, sp, hT, nT, C, hb, hsp, hF⟩ := F w mg fa _ Y KX G.T.g hmg tops
  exact LamX.law_callTs KX G.T.g G.T.b G.T.builtins G.T.nolimit hg hT nT C G.T.bmain hobj hints (Nat.le_trans hlen hn2) hr hF hb (fun H hH hS => hsp H a ns hlen hbits hH hS) fun H e s' => hCX w H s₁ e s'
end DL

set_option Elab.async false
set_option linter.all false
set_option maxRecDepth 100000
set_option maxHeartbeats 2000000
/-! DN4: a local name called; xs.index(y); draws from [cell, x, y]. -/
namespace L2
open PySem PyProof.Rows
section
variable {X : Cx} {K : PySem.W.Frag} {e : Expr} {es : List Expr} {t : TA} {pos p : Pos} {x : Str} {i k : Nat} {f : Addr} {fd : FuncData} {ps : List Str} {sp : Sp} {CX : CXT} {ds : List Value} {dvs : List V} {E : St → XK}
theorem pe_callV (F : FnOk X.prog X.w X.K X.mg X.base CX k f fd ps sp) (hr : Room k X.A) (hk : PySem.W.keepIn X.K (.ref f) = true) (hb : Binds X.K fd ps ds) (hd : Vals dvs ds) (hx : ∀ σ, PassesAt CX X σ (E σ))
    (hN : X.N[i]? = some x) (hv : Vis X.env.scope x) (ha : PA X (e :: es) t) (hdb : (x == ("__debug__" : Str)) = false := by decide) (hcd : (x == ("__classdict__" : Str)) = false := by decide) (he : starEach (e :: es) X.env = (false, eval e X.env) :: starEach es X.env := by rfl) (hpl : (backTo pos (starEach es X.env)).any (·.1) = false := by rfl) :
    PE X (.Call (.Name x p) (e :: es) [] pos) (fun σ H Q => σ[i]? = some (some (.ref f)) ∧ tCallSD sp dvs E t σ H Q) := by
  refine ⟨fun pins s σ H Q I ⟨hs, h⟩ => ?_⟩
  have look := (pe_var (pos := p) (i := i) hN hv hdb hcd).run pins s σ H (fun v H1 => v = .ref f ∧ H1 = H) I ⟨.ref f, hs, rfl, rfl⟩
  refine wpAny_Call_Name_kw (thn look fun u s1 ⟨v, H1, I1, r1, ev, eH⟩ => ?_)
  subst ev eH
  cases r1
  refine PySem.W.callWith_K (h₀ := X.base) I1.ok.mod.kin hk (thn (ha.run pos pins s1 σ H1 _ I1 h) fun us s2 ⟨vs, H2, I2, r, q⟩ => ⟨I2.kIn, ?_⟩) he hpl
  exact run_fnSD F hr hb hd (hx σ) I2 r q
end
end L2
namespace DL
open PySem L2 PyProof.Rows
section
variable {X : Cx} {T : Ct} {e a b : Expr} {pos p2 : Pos} {K : PySem.W.Frag} {ta tb : AE} {es : List Expr} {tr : AA} {Γ : Gm} {M : Mm}
/-- g(..), where the local g is f -/
def aCallV (i : Nat) (f : Addr) (asp : ASp) (dds : List D) (Ψ : AX) (tr : AA) (Γ : Gm) (M : Mm) (Φ : AK) : Prop := Γ[i]? = some (some (.ref f)) ∧ aCall asp dds Ψ tr Γ M Φ
theorem de_callV {x : Str} {p : Pos} {i k : Nat} {f : Addr} {fd : FuncData} {ps : List Str} {asp : ASp} (G : FnOk X.prog X.w X.K X.mg X.base (L2N.CX X.prog X.w) k f fd ps (conc X.K T.B asp)) (hr : Room k X.A) (hk : PySem.W.keepIn X.K (.ref f) = true)
    (hb : Binds X.K fd ps []) (tk : L2N.Takes X T.W) (ha : DA X T (e :: es) tr) (hN : X.N[i]? = some x := by rfl) (hv : Vis X.env.scope x := by first | exact Or.inl rfl | exact Or.inr (Or.inl rfl) | exact Or.inr (Or.inr rfl))
    (hdb : (x == ("__debug__" : Str)) = false := by decide) (hcd : (x == ("__classdict__" : Str)) = false := by decide) (he : starEach (e :: es) X.env = (false, eval e X.env) :: starEach es X.env := by rfl) (hpl : (backTo pos (starEach es X.env)).any (·.1) = false := by rfl) :
    DE X T (.Call (.Name x p) (e :: es) [] pos) (aCallV i f asp [] T.Ψ tr) :=
  de_of (pe_callV (i := i) G hr hk hb .nil (fun σ => L2N.passAt tk σ) hN hv ha hdb hcd he hpl) fun F σ H Γ M Φ Q w ⟨hg, q⟩ z => by
    obtain ⟨v, ev, iv⟩ := w.v.get i _ hg
    cases iv
    exact ⟨ev, cA_mk w q fun ds M1 vs F1 H1 s1 h1 i1 q1 =>
      ⟨ds ++ [], F1, M1, Φ, fun x M2 => T.Ψ x Γ M2, i1.append .nil, h1, q1, fun d M2 v F2 H2 s2 h2 i2 q2 => z d M2 v F2 H2 (s1.trans s2) h2 i2 q2, fun y cls d M2 F2 H2 s2 h2 xi q2 => w.l y cls d Γ M2 σ F2 H2 (s1.trans s2) (w.v.mono (s1.trans s2)) h2 xi q2⟩⟩
/-- one of two rules -/
def aOr2 (t u : AE) (Γ : Gm) (M : Mm) (Φ : AK) : Prop := t Γ M Φ ∨ u Γ M Φ
theorem de_or2 {t u : AE} (h1 : DE X T e t) (h2 : DE X T e u) : DE X T e (aOr2 t u) := ⟨fun pins s σ H Q I ⟨F, Γ, M, Φ, w, q, z⟩ => by
  rcases q with q | q
  · exact h1.run pins s σ H Q I ⟨F, Γ, M, Φ, w, q, z⟩
  · exact h2.run pins s σ H Q I ⟨F, Γ, M, Φ, w, q, z⟩⟩
/-! ### xs.index(y), of flat data -/
def aIdx_k (tb : AE) (Γ : Gm) (Φ : AK) (d : D) (M1 : Mm) : Prop := match d with
  | .lst xs => tb Γ M1 fun e M2 => (flatD e = true ∧ xs.all flatD = true) ∧ ∃ (j : Nat) (z : D), xs[j]? = some z ∧ eqFD z e = true ∧ (∀ m z', m < j → xs[m]? = some z' → eqFD z' e = false) ∧ Φ (.int (j : Nat)) M2
  | _ => False
def aIdx (ta tb : AE) (Γ : Gm) (M : Mm) (Φ : AK) : Prop := ta Γ M fun d M1 => aIdx_k tb Γ Φ d M1
theorem de_idx (ha : DE X T a ta) (hb : DE X T b tb)
    (hbase : attributeBase a "index" X.env (eval a X.env) = eval a X.env := by rfl)
    (hfew : ((backTo pos (starEach [b] X.env)).all (fun x => !x.1) && (backToKw pos (keywordEach [] X.env)).all (fun x => x.1.isSome) && decide ([b].length + ([] : List Keyword).length + (if ([] : List Keyword).isEmpty then 0 else 1) < 30)) = true := by rfl)
    (hline : (p2.endLine == pos.line) = true := by rfl) (hst : starEach [b] X.env = (false, eval b X.env) :: starEach [] X.env := by rfl) (hplain : (backTo pos (starEach [] X.env)).any (·.1) = false := by rfl) : DE X T (.Call (.Attribute a "index" p2) [b] [] pos) (aIdx ta tb) :=
  de_of (pe_bm PySem.F.plainAttrs_list PySem.F.slot_list_index PySem.F.type_list_index mt_index ha (pa_cons hb pa_nil hst) hbase hfew hline hst hplain) fun F σ H Γ M Φ Q w q z => cE_mk w q fun d M1 x F1 H1 s1 h1 i1 q1 => by
    unfold aIdx_k at q1
    split at q1
    · rename_i xs
      cases i1 with
      | @lst l vs _ hq hl =>
        refine ⟨.inl ⟨rfl, _, (h1.sub.seq hq)⟩, cE_mk (w.go s1 h1) q1 fun e M2 y F2 H2 s2 h2 i2 ⟨⟨f1, f2⟩, j, z0, hz, hz1, hz2, q2⟩ => ?_⟩
        have hl2 := hl.mono s2
        obtain ⟨v, hv, iv⟩ := hl2.get hz
        refine ⟨l, vs, y, j, v, rfl, rfl, h2.sub.seq (s2.seq hq), flat_of i2 f1, flat_all hl2 f2, hv, ?_, fun m v' hm hv' => ?_, z _ M2 _ F2 H2 (s1.trans s2) h2 (.int _) q2⟩
        · rw [eqF_of iv i2 (List.all_eq_true.mp f2 _ (List.mem_of_getElem? hz)) f1]
          exact hz1
        · have hmx : m < xs.length := by
            have := (List.getElem?_eq_some_iff.mp hv').1
            rw [hl2.length] at this
            exact this
          have e1 := List.getElem?_eq_getElem hmx
          obtain ⟨v2, hv2, iv2⟩ := hl2.get e1
          rw [hv'] at hv2
          cases hv2
          rw [eqF_of iv2 i2 (List.all_eq_true.mp f2 _ (List.mem_of_getElem? e1)) f1]
          exact hz2 m _ hm e1
    · exact q1.elim
end
/-! ### x is True, whatever x -/
theorem op_isAny {X : Cx} : OpR X (compareOp .Is) (fun x y H Q => ∃ b : Bool, y = .bl b ∧ Q (.bl (decide (x = .bl b))) H) := by
  intro pins s σ H x y v u Q I rx ry h
  obtain ⟨b, rfl, q⟩ := h
  cases (show u = Value.bool b from ry)
  by_cases e : x = .bl b
  · subst e
    cases (show v = Value.bool b from rx)
    exact wpAny_is_self rfl ⟨.bl true, H, I, rfl, by simpa using q⟩
  · have fin : ∃ w H1, Inv X pins σ H1 s ∧ RelV w (Value.bool false) ∧ Q w H1 := ⟨.bl false, H, I, rfl, by simpa [e] using q⟩
    cases x with
    | bl c =>
      cases (show v = Value.bool c from rx)
      exact wpAny_is_other rfl (fun z => e (by rw [Value.bool.inj z])) fin
    | non =>
      cases (show v = Value.none from rx)
      exact wpAny_is_other rfl (fun z => by cases z) fin
    | ref a =>
      cases (show v = Value.ref a from rx)
      exact wpAny_is_other rfl (fun z => by cases z) fin
    | ty n =>
      cases (show v = Value.type n from rx)
      exact wpAny_is_other rfl (fun z => by cases z) fin
    | int i =>
      obtain ⟨t, rfl⟩ := rx
      exact wpAny_is_other rfl (fun z => by cases z) fin
    | str i =>
      obtain ⟨t, rfl⟩ := rx
      exact wpAny_is_other rfl (fun z => by cases z) fin
    | byt i =>
      obtain ⟨t, rfl⟩ := rx
      exact wpAny_is_other rfl (fun z => by cases z) fin
    | flt i =>
      obtain ⟨t, rfl⟩ := rx
      exact wpAny_is_other rfl (fun z => by cases z) fin
def isB (b : Bool) : D → Bool
  | .bl c => decide (c = b)
  | _ => false
theorem isB_of {K : PySem.W.Frag} {F : Hp} {b : Bool} {d : D} {x : V} (i : Is K F x d) : decide (x = .bl b) = isB b d := by
  cases i <;> first
    | rfl
    | (simp [isB])
def fIsT (d e : D) (M : Mm) (Φ : AK) : Prop := match e with
  | .bl b => Φ (.bl (isB b d)) M
  | _ => False
theorem fIsT_b {d : D} {b : Bool} {M : Mm} {Φ : AK} : fIsT d (.bl b) M Φ = Φ (.bl (isB b d)) M := rfl
section
variable {X : Cx} {T : Ct} {a b : Expr} {pos : Pos} {ta tb : AE} {K : PySem.W.Frag} {B : Bx}
theorem ab_isT : Ab2 K B (fun x y H Q => ∃ b : Bool, y = .bl b ∧ Q (.bl (decide (x = .bl b))) H) fIsT := fun F H x y d e M Φ Q h i1 i2 q z => by
  unfold fIsT at q
  split at q
  · cases i2
    exact ⟨_, rfl, by rw [isB_of i1]; exact z _ M _ F H (Same.refl F) h (.bl _) q⟩
  · exact q.elim
theorem de_isT (ha : DE X T a ta) (hb : DE X T b tb) : DE X T (.Compare a [.Is] [b] pos) (aOp fIsT ta tb) := de_cmp op_isAny ab_isT ha hb
theorem dt_isT (ha : DE X T a ta) (hb : DE X T b tb) : DT X T (.Compare a [.Is] [b] pos) (aB (aOp fIsT ta tb)) := dt_cmp op_isAny ab_isT ha hb
end
/-! ### draws from [cell, x, y] -/
def boxM (b : Addr) (a x y : Int) : Mm := [(b, .lst [.int a, .int x, .int y])]
def bxBox (b : Addr) : Bx where
  fp := [b]
  ok := fun _ H => ∃ a x y : Int, H b = some (.lst [.int a, .int x, .int y])
  up := fun _ x => x
  loc := fun {_ H H'} e ⟨a, x, y, h⟩ => ⟨a, x, y, (e b (by simp)).trans h⟩
  low := fun {_ H} ⟨a, x, y, h⟩ c hc => by
    rw [List.mem_singleton.mp hc]
    exact ⟨_, h⟩
theorem hasT_box {b : Addr} {B : Bx} {Tb : List (Addr × Str)} (hT : HasT B Tb) : HasT (bxAnd (bxBox b) B) Tb := by
  refine ⟨fun x => hT.get x.2.1, fun {F F1 H H1} x s e t => ⟨?_, hT.put x.2.1 s e t, x.2.2⟩, fun {F H} x a ha φ z => ?_⟩
  · obtain ⟨a, c, y, h1⟩ := x.1
    exact ⟨a, c, y, e _ _ h1 fun ps z => (by cases z)⟩
  · rcases List.mem_append.mp ha with ha | ha
    · obtain ⟨a, c, y, h1⟩ := x.1
      rw [List.mem_singleton.mp ha] at z
      rw [z] at h1
      cases h1
    · exact hT.noext x.2.1 a ha φ z
section
variable {K : PySem.W.Frag} {M : Mm} {F H : Hp} {b : Addr} {B : Bx}
theorem boxB_open (x : Hs K (bxAnd (bxBox b) B) M F H) : ∃ a c y, Hs K B (boxM b a c y ++ M) F H := by
  obtain ⟨⟨a, c, y, h1⟩, xb, xd⟩ := x.box
  have mb : b ∈ (bxBox b).fp := List.mem_singleton.mpr rfl
  refine ⟨a, c, y, x.sub, fun q hq => ?_, ?_, xb, fun a ha => x.bfr a (List.mem_append_right _ ha), x.nt⟩
  · rcases List.mem_cons.mp hq with rfl | hq
    · exact ⟨x.bfr b (List.mem_append_left _ mb), xd b mb, _, h1, .cons (.int a) (.cons (.int c) (.cons (.int y) .nil))⟩
    · obtain ⟨m1, m2, m3⟩ := x.mem q hq
      exact ⟨m1, fun z => m2 (List.mem_append_right _ z), m3⟩
  · show (b :: M.map (·.1)).Nodup
    refine List.nodup_cons.mpr ⟨fun hm => ?_, x.nd⟩
    obtain ⟨q, hq, e⟩ := List.mem_map.mp hm
    exact (x.mem q hq).2.1 (List.mem_append_left _ (by rw [e]; exact mb))
theorem boxB_close {a c y : Int} (x : Hs K B (boxM b a c y ++ M) F H) : Hs K (bxAnd (bxBox b) B) M F H := by
  have nd : (b :: M.map (·.1)).Nodup := x.nd
  obtain ⟨n1, nd⟩ := List.nodup_cons.mp nd
  obtain ⟨f1, b1, vs1, e1, l1⟩ := x.mem (b, .lst [.int a, .int c, .int y]) List.mem_cons_self
  have hv : vs1 = [.int a, .int c, .int y] := by
    cases l1 with
    | cons i1 i2 =>
      cases i2 with
      | cons i2 i3 =>
        cases i3 with
        | cons i3 i4 =>
          cases i1
          cases i2
          cases i3
          cases i4
          rfl
  refine ⟨x.sub, fun q hq => ?_, nd, ⟨⟨a, c, y, by rw [← hv]; exact e1⟩, x.box, fun a ha => ?_⟩, fun a ha => ?_, x.nt⟩
  · obtain ⟨m1, m2, m3⟩ := x.mem q (List.mem_cons_of_mem _ hq)
    have hk : q.1 ∈ M.map (·.1) := List.mem_map.mpr ⟨q, hq, rfl⟩
    refine ⟨m1, fun hm => ?_, m3⟩
    rcases List.mem_append.mp hm with hm | hm
    · exact n1 (by rw [← List.mem_singleton.mp hm]; exact hk)
    · exact m2 hm
  · rw [List.mem_singleton.mp ha]
    exact b1
  · rcases List.mem_append.mp ha with ha | ha
    · rw [List.mem_singleton.mp ha]
      exact f1
    · exact x.bfr a ha
end
def spTakeM : ASp := fun ds M Φ _ => ∃ (b : Addr) (a x y n : Int) (M1 : Mm), ds = [.ref b, .int n] ∧ M = boxM b a x y ++ M1 ∧ (0 < n ∧ n < 18446744073709551616) ∧ ∀ r a' x' y' : Int, 0 ≤ r → r < n → Φ (.int r) (boxM b a' x' y' ++ M1)
def spTake (b : Addr) : ASp := fun ds M Φ _ => match ds with
  | [.ref b', .int n] => b' = b ∧ (0 < n ∧ n < 18446744073709551616) ∧ ∀ r : Int, 0 ≤ r → r < n → Φ (.int r) M
  | _ => False
theorem take_boxB {P : Program} {w : World} {K : PySem.W.Frag} {mg : Str → Option Value} {base : Heap} {k : Nat} {f : Addr} {fd : FuncData} {ps : List Str} {CX : CXT} {B : Bx} (G : FnOk P w K mg base CX k f fd ps (conc K B spTakeM)) (b : Addr) :
    FnOk P w K mg base CX k f fd ps (conc K (bxAnd (bxBox b) B) (spTake b)) := G.imp fun vs H Q E ⟨ds, F, M, Φ, Ψ, hv, hh, ha, hq, he⟩ => by
  unfold spTake at ha
  split at ha
  rotate_left
  · exact ha.elim
  rename_i b' n
  obtain ⟨rfl, hn, ha⟩ := ha
  obtain ⟨a, x, y, ho⟩ := boxB_open hh
  refine ⟨_, F, boxM b' a x y ++ M, fun d M' => ∃ a' x' y' M1, M' = boxM b' a' x' y' ++ M1 ∧ Φ d M1, fun _ _ => False, hv, ho, ⟨b', a, x, y, n, M, rfl, rfl, hn, fun r a' x' y' h1 h2 => ⟨a', x', y', M, rfl, ha r h1 h2⟩⟩, fun d M' v F' H' s1 h1 i1 q1 => ?_, fun _ _ _ _ _ _ _ _ _ z => z.elim⟩
  obtain ⟨a', x', y', M1, rfl, q1⟩ := q1
  exact hq d M1 v F' H' s1 (boxB_close h1) i1 q1
end DL

set_option Elab.async false
set_option linter.all false
set_option maxRecDepth 100000
set_option maxHeartbeats 2000000
/-! DN5: parts of tuples, tuple(range(a, b)). -/
namespace DL
open PySem L2 PyProof.Rows
section
variable {X : Cx} {T : Ct} {a b : Expr} {pos p p2 : Pos} {ta tb : AE}
def aSlT_k (Φ : AK) (d : D) (lo hi : Option Int) (M3 : Mm) : Prop := match d with
  | .tup xs => Φ (.tup (cutD xs lo hi)) M3
  | _ => False
def aSlT (ta : AE) (tl th : AO) (Γ : Gm) (M : Mm) (Φ : AK) : Prop := ta Γ M fun d M1 => tl Γ M1 fun lo M2 => th Γ M2 fun hi M3 => aSlT_k Φ d lo hi M3
theorem aSlT_t {Φ : AK} {xs : List D} {lo hi : Option Int} {M : Mm} : aSlT_k Φ (.tup xs) lo hi M = Φ (.tup (cutD xs lo hi)) M := rfl
theorem de_slT {lo hi : Option Expr} {tl th : AO} (ha : DE X T a ta) (hl : DO X T lo tl) (hu : DO X T hi th) : DE X T (.Subscript a (.Slice lo hi none p2) pos) (aSlT ta tl th) :=
  de_of (pe_slice sl_tupA ha hl hu) fun F σ H Γ M Φ Q w q z => cE_mk w q fun d M1 x F1 H1 s1 h1 i1 q1 => cO_mk (w.go s1 h1) q1 fun lo M2 F2 H2 s2 h2 q2 => cO_mk ((w.go s1 h1).go s2 h2) q2 fun hi M3 F3 H3 s3 h3 q3 => by
    have i3 := (i1.mono s2).mono s3
    unfold aSlT_k at q3
    split at q3
    · rename_i xs
      cases i3 with
      | @tup l vs _ hq hl =>
        refine ⟨l, vs, rfl, same_t h3.sub hq, fun ⟨e1, e2⟩ => ?_, fun _ p hp => ?_⟩
        · have e : cutD xs lo hi = xs := by
            rw [hl.length] at e1 e2
            unfold cutD
            rw [e1, e2, List.drop_zero, Nat.sub_zero, List.take_length]
          rw [e] at q3
          exact z _ M3 _ _ _ ((s1.trans s2).trans s3) h3 (.tup hq hl) q3
        · have n3 := h3.free hp
          exact z _ M3 _ _ _ (((s1.trans s2).trans s3).trans (upd_same_ext n3)) (h3.laid hp) (.tup (.inl (.inl upd_same)) ((cut_isL hl).mono (upd_same_ext n3))) q3
    · exact q3.elim
def aTupRg_k (Φ : AK) (d e : D) (M : Mm) : Prop := match d, e with
  | .int i, .int j => RgOk i j ∧ Φ (.tup (rngD i (j - i).toNat)) M
  | _, _ => False
def aTupRg (ta tb : AE) (Γ : Gm) (M : Mm) (Φ : AK) : Prop := ta Γ M fun d M1 => tb Γ M1 fun e M2 => aTupRg_k Φ d e M2
theorem aTupRg_i {Φ : AK} {i j : Int} {M : Mm} : aTupRg_k Φ (.int i) (.int j) M = (RgOk i j ∧ Φ (.tup (rngD i (j - i).toNat)) M) := rfl
theorem rg_isL {K : PySem.W.Frag} {F : Hp} {a : Int} : ∀ l : List Nat, IsL K F (l.map fun i => V.int (a + (i : Nat))) (l.map fun i => D.int (a + (i : Nat)))
  | [] => .nil
  | _ :: l => .cons (.int _) (rg_isL l)
theorem rgV_is {K : PySem.W.Frag} {F : Hp} {i j : Int} : IsL K F (rgV i j) (rngD i (j - i).toNat) := rg_isL _
theorem de_tupRg {q1 q2 : Pos} (hc : X.calm = true) (hg : Gl X "tuple") (hm : X.mg "tuple" = none) (hg2 : Gl X "range") (hm2 : X.mg "range" = none) (ha : DE X T a ta) (hb : DE X T b tb)
    (na : starEach [a, b] X.env = (false, eval a X.env) :: starEach [b] X.env := by rfl) (nb : starEach [b] X.env = (false, eval b X.env) :: starEach [] X.env := by rfl) (hp : (backTo q2 (starEach [b] X.env)).any (·.1) = false := by rfl)
    (nn : starEach [Expr.Call (.Name "range" q1) [a, b] [] q2] X.env = (false, eval (.Call (.Name "range" q1) [a, b] [] q2) X.env) :: starEach [] X.env := by rfl) :
    DE X T (.Call (.Name "tuple" p) [.Call (.Name "range" q1) [a, b] [] q2] [] pos) (aTupRg ta tb) :=
  de_of (pe_tupRg hc hg hm (prg_2 hg2 hm2 ha hb na nb hp) nn) fun F σ H Γ M Φ Q w q z => cE_mk w q fun d M1 x F1 H1 s1 h1 i1 q1 => cE_mk (w.go s1 h1) q1 fun e M2 y F2 H2 s2 h2 i2 q2 => by
    unfold aTupRg_k at q2
    split at q2
    · obtain ⟨ok, q2⟩ := q2
      cases i1
      cases i2
      refine ⟨_, _, rfl, rfl, ok, fun p hp => ?_⟩
      have n2 := h2.free hp
      exact z _ M2 _ _ _ ((s1.trans s2).trans (upd_same_ext n2)) (h2.laid hp) (.tup (.inl (.inl upd_same)) rgV_is) q2
    · exact q2.elim
end
end DL

set_option Elab.async false
set_option linter.all false
set_option maxRecDepth 100000
set_option maxHeartbeats 2000000
/-! DN6: x in xs of data of any depth, sorted of pairs that are in order, len(set(t)) of unlike ints, list(range(a, b)). -/
namespace DL
open PySem L2 PyProof.Rows
section
variable {X : Cx} {T : Ct} {a b : Expr} {pos p p2 : Pos} {ta tb : AE} {K : PySem.W.Frag} {B : Bx}
/-! ### x in xs -/
def fInD (neg : Bool → Bool) (d e : D) (M : Mm) (Φ : AK) : Prop := rdM e M fun e' => match e' with
  | .lst xs => (plD 60 d = true ∧ plD 60 (.lst xs) = true) ∧ Φ (.bl (neg ((xs.map (py 59)).any fun z => PyData.eqv z (py 60 d)))) M
  | _ => False
theorem ab_inD {neg : Bool → Bool} : Ab2 K B (fun x y H Q => ∃ d ds, Dp K H x d ∧ Dp K H y (.list ds) ∧ SeqAt.shaped d = true ∧ SeqAt.shaped (.list ds) = true ∧ Q (.bl (neg (ds.any fun z => PyData.eqv z d))) H) (fInD neg) := fun F H x y d e M Φ Q h i1 i2 q z => by
  unfold fInD at q
  obtain ⟨e', j2, q⟩ := rdM_is h i2 q
  split at q
  · rename_i xs
    obtain ⟨⟨q1, q2⟩, q3⟩ := q
    exact ⟨_, _, dp_of h.sub 60 d x q1 i1, dp_of (Same.refl H) 60 (.lst xs) y q2 j2, shaped_of (by decide) q1, shaped_of (n := 60) (by decide) q2, z _ M _ F H (Same.refl F) h (.bl _) q3⟩
  · exact q.elim
theorem de_inD {k : Nat} (hr : Room k X.A) (ha : DE X T a ta) (hb : DE X T b tb) (hm : behindInMarks .In b = false := by rfl) : DE X T (.Compare a [.In] [b] pos) (aOp (fInD fun b => b) ta tb) := de_cmp (op_inD (by have := hr.un; omega)) (ab_inD (neg := fun b => b)) ha hb hm
theorem fInD_l {neg : Bool → Bool} {d : D} {xs : List D} {M : Mm} {Φ : AK} : fInD neg d (.lst xs) M Φ = ((plD 60 d = true ∧ plD 60 (.lst xs) = true) ∧ Φ (.bl (neg ((xs.map (py 59)).any fun z => PyData.eqv z (py 60 d)))) M) := rfl
/-! ### list(range(..)) -/
def aLstRg1_k (Φ : AK) (d : D) (M : Mm) : Prop := match d with
  | .int j => RgOk 0 j ∧ Φ (.lst (rngD 0 j.toNat)) M
  | _ => False
def aLstRg1 (ta : AE) (Γ : Gm) (M : Mm) (Φ : AK) : Prop := ta Γ M fun d M1 => aLstRg1_k Φ d M1
theorem aLstRg1_i {Φ : AK} {j : Int} {M : Mm} : aLstRg1_k Φ (.int j) M = (RgOk 0 j ∧ Φ (.lst (rngD 0 j.toNat)) M) := rfl
theorem de_listRg1 {q1 q2 : Pos} (hc : X.calm = true) (hg : Gl X "list") (hm : X.mg "list" = none) (hg2 : Gl X "range") (hm2 : X.mg "range" = none) (ha : DE X T a ta)
    (na : starEach [a] X.env = (false, eval a X.env) :: starEach [] X.env := by rfl)
    (nn : starEach [Expr.Call (.Name "range" q1) [a] [] q2] X.env = (false, eval (.Call (.Name "range" q1) [a] [] q2) X.env) :: starEach [] X.env := by rfl) :
    DE X T (.Call (.Name "list" p) [.Call (.Name "range" q1) [a] [] q2] [] pos) (aLstRg1 ta) :=
  de_of (pe_listRg hc hg hm (prg_1 hg2 hm2 ha na) nn) fun F σ H Γ M Φ Q w q z => cE_mk w q fun d M1 x F1 H1 s1 h1 i1 q1 => by
    unfold aLstRg1_k at q1
    split at q1
    · obtain ⟨ok, q1⟩ := q1
      cases i1
      refine ⟨_, rfl, ok, fun p hp => ?_⟩
      have n2 := h1.free hp
      refine z _ M1 _ _ _ (s1.trans (upd_same_ext n2)) (h1.laid hp) (.lst (.inl (.inl upd_same)) ?_) q1
      have e := rgV_is (K := X.K) (F := upd F1 p (.lst (rgV 0 ‹Int›))) (i := 0) (j := ‹Int›)
      rw [Int.sub_zero] at e
      exact e
    · exact q1.elim
/-! ### len(set(t)) -/
theorem setR_size {w : World} {h : Heap} {d : Addr} {ns : List Int} {c : Nat} (R : SetR w h d (fun j => decide (j ∈ ns)) c) (nd : ns.Nodup) : c = ns.length := by
  obtain ⟨o, es, ep, t, _, _, _, _, nk, mem, _, _, rfl, _⟩ := R
  have pm : (es.toList.map keyOf).Perm ns := (List.perm_ext_iff_of_nodup nk nd).mpr fun k => by rw [← mem k, decide_eq_true_iff]
  have e := pm.length_eq
  rw [List.length_map, Array.length_toList] at e
  exact e
def tSizeT (K : PySem.W.Frag) (ta : TE) : TE := fun σ H Q => ta σ H fun x H1 => ∃ (l : Addr) (ns : List Int), x = .ref l ∧ SqT K H1 l (ns.map V.int) ∧ (ns.Nodup ∧ ns.length ≤ 4000) ∧ Q (.int (ns.length : Nat)) H1
theorem ints_vals : ∀ {ns : List Int} {us : List Value}, Vals (ns.map V.int) us → PyProof.Rows.IntsAre us ns
  | [], _, .nil => .nil
  | n :: ns, _, .cons ⟨k, e⟩ t => by
    subst e
    exact .cons n k (ints_vals t)
theorem pe_sizeT {q : Pos} (calm : X.calm = true) (gl : Gl X "len") (ml : X.mg "len" = none) (gs : Gl X "set") (ms : X.mg "set" = none) {te : TE} (arg : PE X a te)
    (st : starEach [a] X.env = (false, eval a X.env) :: starEach [] X.env := by rfl) : PE X (.Call (.Name "len" p) [.Call (.Name "set" p2) [a] [] q] [] pos) (tSizeT X.K te) :=
  ⟨fun pins s σ H Q I h => by
    refine Call_ (ld_blt I gl ml PySem.boot_len (PyProof.Rows.callWith_builtin1 (PyProof.Rows.args_cons (Call_ (ld_blt I gs ms PyProof.Rows.boot_set ?_)) rfl) rfl rfl))
    refine PyProof.Rows.callWith_type1 (PyProof.Rows.args_cons (thn (arg.run pins s σ H _ I h) fun v s1 ⟨x, H1, J, rx, z⟩ => PyProof.Rows.args_nil ?_) st) st rfl
    obtain ⟨l, ns, rfl, sq, ⟨nd, short⟩, z⟩ := z
    cases rx
    obtain ⟨its, rv, tup, _⟩ := J.tuple sq
    refine call_set_tupI ns (J.ok.hd calm) tup (by rw [List.toList_toArray]; exact ints_vals rv) (by unfold scanBound; omega) fun h' tk c R _ keep => PyProof.Rows.args_nil ?_
    have ec := setR_size R nd
    have J2 : Inv X pins σ H1 { s1 with heap := h', toks := tk } := J.kept fun b o e => keep b o e
    obtain ⟨o, es, ep, t, ho, ex, hd, _, _, _, _, fits, en, _⟩ := R
    exact call_len_set ho ex hd fits (by omega) ⟨.int ns.length, H1, J2.tok _, ⟨_, by rw [en, ec]⟩, z⟩⟩
def aSizeT_k (Φ : AK) (d : D) (M : Mm) : Prop := match d with
  | .tup xs => ∃ ns : List Int, xs = ns.map D.int ∧ (ns.Nodup ∧ ns.length ≤ 4000) ∧ Φ (.int (ns.length : Nat)) M
  | _ => False
def aSizeT (ta : AE) (Γ : Gm) (M : Mm) (Φ : AK) : Prop := ta Γ M fun d M1 => aSizeT_k Φ d M1
theorem aSizeT_t {Φ : AK} {xs : List D} {M : Mm} : aSizeT_k Φ (.tup xs) M = ∃ ns : List Int, xs = ns.map D.int ∧ (ns.Nodup ∧ ns.length ≤ 4000) ∧ Φ (.int (ns.length : Nat)) M := rfl
theorem de_sizeT {q : Pos} (calm : X.calm = true) (gl : Gl X "len") (ml : X.mg "len" = none) (gs : Gl X "set") (ms : X.mg "set" = none) (arg : DE X T a ta)
    (st : starEach [a] X.env = (false, eval a X.env) :: starEach [] X.env := by rfl) : DE X T (.Call (.Name "len" p) [.Call (.Name "set" p2) [a] [] q] [] pos) (aSizeT ta) :=
  de_of (pe_sizeT calm gl ml gs ms arg st) fun F σ H Γ M Φ Q w q z => cE_mk w q fun d M1 x F1 H1 s1 h1 i1 q1 => by
    unfold aSizeT_k at q1
    split at q1
    · obtain ⟨ns, rfl, nd, q1⟩ := q1
      cases i1 with
      | tup sq il =>
        rw [il.ints] at sq
        exact ⟨_, ns, rfl, same_t h1.sub sq, nd, z _ M1 _ F1 H1 s1 h1 (.int _) q1⟩
    · exact q1.elim
/-! ### sorted(pairs that are in order) -/
def pairD (f : Int × Int) : D := .tup [.int f.1, .int f.2]
def Inc (x y : Int × Int) : Prop := x.1 < y.1 ∨ (x.1 = y.1 ∧ x.2 ≤ y.2)
def rInc (K : PySem.W.Frag) : List V → Hp → VK → Prop := fun vs H Q => ∃ (a : Addr) (xs : List V) (ps : List (Int × Int)), vs = [V.ref a] ∧ SqL K H a xs ∧ xs.length = ps.length ∧
  (∀ (i : Nat) (x : V) (f : Int × Int), xs[i]? = some x → ps[i]? = some f → ∃ t, x = V.ref t ∧ SqT K H t [.int f.1, .int f.2]) ∧ ps.Pairwise Inc ∧ ∀ p, H p = none → Q (.ref p) (upd H p (.lst xs))
open Classical in
noncomputable def pairOf (h : Heap) (v : Value) : Int × Int := if e : ∃ f : Int × Int, Srt.IsPair h v f.1 f.2 then choose e else (0, 0)
theorem pair_one {h : Heap} {v : Value} {f g : Int × Int} (e1 : Srt.IsPair h v f.1 f.2) (e2 : Srt.IsPair h v g.1 g.2) : f = g := by
  obtain ⟨f1, f2⟩ := f
  obtain ⟨g1, g2⟩ := g
  obtain ⟨a, o, t, u, n, rfl, ho, _, d1⟩ := e1
  obtain ⟨a', o', t', u', n', e, ho', _, d2⟩ := e2
  cases e
  rw [ho] at ho'
  cases ho'
  rw [d1] at d2
  cases d2
  rfl
theorem pairOf_eq {h : Heap} {v : Value} {f : Int × Int} (e : Srt.IsPair h v f.1 f.2) : pairOf h v = f := by
  unfold pairOf
  rw [dif_pos ⟨f, e⟩]
  exact pair_one (Classical.choose_spec (p := fun f : Int × Int => Srt.IsPair h v f.1 f.2) ⟨f, e⟩) e
theorem cr_inc : CallR X (.builtin "sorted") (rInc X.K) := by
  intro pins s σ H vs us Q I r h
  obtain ⟨a, xs, ps, rfl, sq, el, hx, inc, q⟩ := h
  obtain ⟨its, rv, pl, short⟩ := I.list sq
  obtain ⟨u, rfl, ru⟩ := vals1 r
  cases ru
  have pr : ∀ (i : Nat) (v : Value), its[i]? = some v → ∃ f, ps[i]? = some f ∧ Srt.IsPair s.heap v f.1 f.2 := fun i v hi => by
    have li : i < its.length := (List.getElem?_eq_some_iff.mp hi).1
    have lx : i < xs.length := by rw [rv.length]; exact li
    have ep := List.getElem?_eq_getElem (show i < ps.length by omega)
    have ex := List.getElem?_eq_getElem lx
    obtain ⟨t, et, st⟩ := hx i _ _ ex ep
    obtain ⟨v', hv', rl⟩ := rv.get ex
    rw [hi] at hv'
    cases hv'
    rw [et] at rl
    cases rl
    obtain ⟨two, r2, ⟨o, ho, hc, n, hd⟩, _⟩ := I.tuple st
    obtain ⟨t1, t2, rfl⟩ := r2.int2
    exact ⟨_, ep, t, o, t1, t2, n, rfl, ho, hc, hd⟩
  refine SrtO.sorted_pairsO (k := pairOf s.heap) pl.isList (by rw [← rv.length]; exact short) (fun v hv => ?_) fun h' d out h1 h2 kp hd hn => ?_
  · obtain ⟨i, hi⟩ := List.mem_iff_getElem?.mp hv
    obtain ⟨f, _, e⟩ := pr i v hi
    rw [pairOf_eq e]
    exact e
  · have h3 : SrtO.Srtd (fun v u => SrtO.lexB (pairOf s.heap v) (pairOf s.heap u)) its := by
      refine List.pairwise_iff_getElem.mpr fun i j hi hj hij => ?_
      obtain ⟨f, ef, pf⟩ := pr i _ (List.getElem?_eq_getElem hi)
      obtain ⟨g, eg, pg⟩ := pr j _ (List.getElem?_eq_getElem hj)
      show SrtO.lexB (pairOf s.heap its[j]) (pairOf s.heap its[i]) = false
      rw [pairOf_eq pf, pairOf_eq pg]
      refine SrtO.lexB_no.mpr fun z => ?_
      obtain ⟨l1, rfl⟩ := List.getElem?_eq_some_iff.mp ef
      obtain ⟨l2, rfl⟩ := List.getElem?_eq_some_iff.mp eg
      have y := List.pairwise_iff_getElem.mp inc i j l1 l2 hij
      unfold Inc at y
      omega
    have eo : out = its := SrtO.stb_uniq (SrtO.swo_lex _) h1 h3 h2
    subst eo
    obtain ⟨n, hn⟩ := hn
    exact ⟨.ref d, upd H d (.lst xs), I.laid (t' := s.toks) kp hd ⟨short, out, n, rv, hn⟩, rfl, q d (I.hok.fresh hd)⟩
theorem pairs_at {F : Hp} : ∀ {vs : List V} {ps : List (Int × Int)}, IsL K F vs (ps.map pairD) → vs.length = ps.length ∧ ∀ (i : Nat) (x : V) (f : Int × Int), vs[i]? = some x → ps[i]? = some f → ∃ t, x = V.ref t ∧ SqT K F t [.int f.1, .int f.2]
  | [], [], _ => ⟨rfl, fun i x f e => by cases e⟩
  | v :: vs, p :: ps, .cons i1 l => by
    obtain ⟨e, h⟩ := pairs_at l
    refine ⟨congrArg (· + 1) e, fun i x f ex ep => ?_⟩
    cases i with
    | zero =>
      cases ex
      cases ep
      cases i1 with
      | tup sq il =>
        rw [il.ints (ns := [p.1, p.2])] at sq
        exact ⟨_, rfl, sq⟩
    | succ i => exact h i x f ex ep
def fSortP (ds : List D) (M : Mm) (Φ : AK) : Prop := match ds with
  | [.lst xs] => ∃ ps : List (Int × Int), xs = ps.map pairD ∧ ps.Pairwise Inc ∧ Φ (.lst xs) M
  | _ => False
theorem fSortP_l {xs : List D} {M : Mm} {Φ : AK} : fSortP [.lst xs] M Φ = ∃ ps : List (Int × Int), xs = ps.map pairD ∧ ps.Pairwise Inc ∧ Φ (.lst xs) M := rfl
theorem de_sortP (hg : Gl X "sorted") (hm : X.mg "sorted" = none) (ha : DE X T a ta) (hs : starEach [a] X.env = (false, eval a X.env) :: starEach [] X.env := by rfl) (hpl : (backTo pos (starEach [] X.env)).any (·.1) = false := by rfl) : DE X T (.Call (.Name "sorted" p) [a] [] pos) (aCB fSortP (aCons ta aNil)) :=
  de_callB cr_inc (fun F H vs ds M Φ Q h i q z => by
    unfold fSortP at q
    split at q
    · obtain ⟨ps, rfl, inc, q⟩ := q
      match vs, i with
      | [_], .cons i1 .nil =>
        cases i1 with
        | @lst l ws _ sq il =>
          obtain ⟨el, at'⟩ := pairs_at il
          refine ⟨l, ws, ps, rfl, h.sub.seq sq, el, fun j x f ex ep => ?_, inc, fun p hp => ?_⟩
          · obtain ⟨t, e, st⟩ := at' j x f ex ep
            exact ⟨t, e, same_t h.sub st⟩
          · have n1 := h.free hp
            exact z _ M _ _ _ (upd_same_ext n1) (h.laid hp) (.lst (.inl (.inl upd_same)) (il.mono (upd_same_ext n1))) q
    · exact q.elim) hg hm (by decide +kernel) (da_cons ha da_nil hs) (by decide) (by decide) hs hpl
end
end DL

set_option Elab.async false
set_option linter.all false
set_option maxRecDepth 100000
set_option maxHeartbeats 2000000
/-! DN7: comprehensions as mutable lists, walks over mutable lists. -/
namespace DL
open PySem L2 PyProof.Rows
section
variable {X : Cx} {T : Ct} {e a b c : Expr} {pos : Pos} {K : PySem.W.Frag} {F F' F1 H H' H1 : Hp} {σ : L2.St} {Γ : Gm} {M M' : Mm} {ta tb tc : AE} {B : Bx}
/-! ### a comprehension whose list stays mutable -/
def aLcM (ai : AI) (g : AG) (tt : AT) (te : AE) (vs : List Nat) (Γ : Gm) (M : Mm) (Φ : AK) : Prop := ai Γ M fun ds M1 => ds.length ≤ 100000 ∧ ∃ I : Nat → List D → Mm → Prop, I 0 [] M1 ∧
  (∀ i d acc M' l, ds[i]? = some d → I i acc M' → match g d (wipeG Γ vs) with
    | some Γ2 => tt Γ2 ((l, .lst acc) :: M') fun b M2 => (b = true → te Γ2 M2 fun y M3 => ∃ M4, Dl M3 l (.lst acc) M4 ∧ I (i + 1) (acc ++ [y]) M4) ∧ (b = false → ∃ M4, Dl M2 l (.lst acc) M4 ∧ I (i + 1) acc M4)
    | none => False) ∧
  ∀ acc M' l, I ds.length acc M' → acc.length ≤ ds.length → Φ (.ref l) ((l, .lst acc) :: M')
theorem lcM_go {ai : AI} {vs ws : List Nat} {g : AG} {tt : AT} {te : AE} {T' : Ct} {Q : VK} {Φ : AK} (hT : T'.B = T.B) (hl : ∀ F, Lk K T' F) (hv : ∀ i ∈ ws, i ∈ vs) (w : See K T F σ H Γ M) (q : aLcM ai g tt te vs Γ M Φ)
    (z : ∀ d M' v F' H', Same F F' → Hs K T.B M' F' H' → Is K F' v d → Φ d M' → Q v H') : tLc (cI K T ai) (cG K ws g) (cT K T' tt) (cE K T' te) vs σ H Q := ⟨F, Γ, M, _, w, q, fun ds M1 J F1 H1 s1 h1 wk q1 => by
  obtain ⟨hsz, I, i0, turn, fin⟩ := q1
  intro L hL
  refine ⟨fun i n H' => n = ds.length - i ∧ i ≤ ds.length ∧ ∃ F' acc M', Same F1 F' ∧ Hs K T.B ((L, .lst acc) :: M') F' H' ∧ acc.length ≤ i ∧ I i acc M', ⟨ds.length, by simp, Nat.zero_le _, F1, [], M1, Same.refl F1, h1.newM (o := .lst []) hL ⟨[], upd_same, .nil⟩, by simp, i0⟩, ?_⟩
  rintro i n H' ⟨rfl, hi, F', acc, M', s', h', hacc, i'⟩
  obtain ⟨go, stop⟩ := wk i F' H' _ s' h' hi
  by_cases hlt : i < ds.length
  · obtain ⟨g1, g2⟩ := go ds[i] (List.getElem?_eq_getElem hlt)
    refine .inr ⟨g1, fun H2 => ∃ F' acc M', Same F1 F' ∧ Hs K T.B ((L, .lst acc) :: M') F' H2 ∧ acc.length ≤ i + 1 ∧ I (i + 1) acc M', fun H2 y => ⟨ds.length - (i + 1), by omega, rfl, hlt, y⟩, fun x H2 y => ?_⟩
    obtain ⟨F2, s2, h2, ix⟩ := g2 x H2 y
    have t := turn i ds[i] acc M' L (List.getElem?_eq_getElem hlt) i'
    split at t
    · rename_i Γ2 hg2
      refine ⟨F2, ds[i], wipeG Γ vs, Γ2, (w.v.mono ((s1.trans s').trans s2)).wipe vs, h2.sub, ix, hg2, fun σ3 v3 e3 => ⟨(e3 vs hv).trans (wipe_sub fun _ h => h), ?_⟩⟩
      refine cT_mk (T := T') ⟨v3, by rw [hT]; exact h2, hl _⟩ t fun b M3 F3 H3 s3 h3 q3 => ?_
      cases b with
      | true =>
        rw [if_pos rfl]
        refine cE_mk (T := T') ⟨v3.mono s3, h3, hl _⟩ (q3.1 rfl) fun y M4 yv F4 H4 s4 h4 i4 ⟨M5, dl, q5⟩ => ?_
        rw [hT] at h4
        obtain ⟨vs4, e4, z4⟩ := h4.lst dl.mem
        refine ⟨vs4, e4, by rw [z4.length]; exact line_lt (by omega), F4, acc ++ [y], M5, ((s'.trans s2).trans s3).trans s4, h4.redo dl ⟨_, upd_same, z4.append (.cons i4 .nil)⟩, by simp; omega, q5⟩
      | false =>
        rw [if_neg Bool.false_ne_true]
        obtain ⟨M5, dl, q5⟩ := q3.2 rfl
        rw [hT] at h3
        exact ⟨F3, acc, M5, (s'.trans s2).trans s3, h3.front dl, by omega, q5⟩
    · exact t.elim
  · have e : i = ds.length := by omega
    subst e
    exact .inl ⟨stop rfl, z _ _ _ F' H' (s1.trans s') h' (.ref L) (fin acc M' L i' hacc)⟩⟩
theorem de_lcM {elt tg iter : Expr} {ifs : List Expr} {scope : Scope} {own : List (Str × Nat)} {ai : AI} {ws : List Nat} {g : AG} {tt : AT} {te : AE} (hc : X.calm = true) (hN : X.N.Nodup) (hi : DI X T tg iter ai) (ok : BlkOk X.N X.env.scope scope own)
    (hg : ∀ (s : Shared) (H : Hp) (C : Addr) (cl : List (Str × Addr)) (fp : List Addr), DG (X.blk s H scope (compEnvC scope cl C X.env) fp) tg ws g) (ht : ∀ (s : Shared) (H : Hp) (C : Addr) (cl : List (Str × Addr)) (fp : List Addr), DTs (X.blk s H scope (compEnvC scope cl C X.env) fp) (.calm T.B) ifs tt)
    (he : ∀ (s : Shared) (H : Hp) (C : Addr) (cl : List (Str × Addr)) (fp : List Addr), DE (X.blk s H scope (compEnvC scope cl C X.env) fp) (.calm T.B) elt te) (hv : ∀ i ∈ ws, i ∈ own.map (·.2) := by decide) (hs : ∀ x, foldedSetIterable iter X.env x = pure x := by intro _; rfl) :
    DE X T (.ListComp elt [⟨tg, iter, ifs, 0⟩] scope pos) (aLcM ai g tt te (own.map (·.2))) :=
  de_of (pe_lc (g := cG X.K ws g) (tt := cT X.K (.calm T.B) tt) (te := cE X.K (.calm T.B) te) hc hN hi ok hg ht he hs) fun F σ H Γ M Φ Q w q z => lcM_go (T' := .calm T.B) rfl (fun _ => lk_calm) hv w q z
theorem ds_setLcM {i : Nat} {y : Str} {py spos : Pos} {elt tg iter : Expr} {ifs : List Expr} {scope : Scope} {own : List (Str × Nat)} {ai : AI} {ws : List Nat} {g : AG} {tt : AT} {te : AE} (hc : X.calm = true) (hN : X.N.Nodup) (hy : X.N[i]? = some y) (hyl : X.env.scope.names.lookup y = some .local)
    (hsw : swapsWith (.ListComp elt [⟨tg, iter, ifs, 0⟩] scope pos) (some (.Name y py)) spos.line X.env = pure true) (hi : DI X T tg iter ai) (ok : BlkOk X.N X.env.scope scope own)
    (hg : ∀ (s : Shared) (H : Hp) (C : Addr) (cl : List (Str × Addr)) (fp : List Addr), DG (X.blk s H scope (compEnvC scope cl C X.env) fp) tg ws g) (ht : ∀ (s : Shared) (H : Hp) (C : Addr) (cl : List (Str × Addr)) (fp : List Addr), DTs (X.blk s H scope (compEnvC scope cl C X.env) fp) (.calm T.B) ifs tt)
    (he : ∀ (s : Shared) (H : Hp) (C : Addr) (cl : List (Str × Addr)) (fp : List Addr), DE (X.blk s H scope (compEnvC scope cl C X.env) fp) (.calm T.B) elt te) (hv : ∀ i ∈ ws, i ∈ own.map (·.2) := by decide) (hs : ∀ x, foldedSetIterable iter X.env x = pure x := by intro _; rfl) :
    DS X T (.Assign [.Name y py] (.ListComp elt [⟨tg, iter, ifs, 0⟩] scope pos) spos) (aSet i (aLcM ai g tt te (own.map (·.2)))) :=
  ds_of (ps_setLc (g := cG X.K ws g) (tt := cT X.K (.calm T.B) tt) (te := cE X.K (.calm T.B) te) hc hN hy hyl hsw hi ok hg ht he hs) fun F σ H Γ M A D w q m => lcM_go (T' := .calm T.B) rfl (fun _ => lk_calm) hv w q fun d M1 v F1 H1 s1 h1 i1 q1 => m.nx _ M1 _ F1 H1 s1 ((w.v.mono s1).set i1 i) h1 q1
/-! ### xs[i] op= e, xs a mutable list, i no less than 0 -/
def rGetL (K : PySem.W.Frag) : V → V → Hp → VK → Prop := fun o i H Q => ∃ p xs k v, o = .ref p ∧ i = .int k ∧ SqL K H p xs ∧ (0 ≤ k ∧ k < 9223372036854775808) ∧ xs[k.toNat]? = some v ∧ Q v H
theorem get_listP : PGet X (rGetL X.K) := by
  intro pins s σ H o i ov iv Q I ro ri h
  obtain ⟨p, xs, k, z, rfl, rfl, sq, ⟨k0, k1⟩, he, q⟩ := h
  cases ro
  obtain ⟨t, rfl⟩ := ri
  obtain ⟨its, r, pl, _⟩ := I.list sq
  obtain ⟨u, eu, ru⟩ := r.get he
  exact wpAny_getItem_list pl.isList k0 (by omega) (by simpa using eu) ⟨z, H, I, ru, q⟩
theorem ixN_of {n : Nat} {k : Int} (h0 : 0 ≤ k) (h : k.toNat < n) : ixN n k = some k.toNat := by
  obtain ⟨m, rfl⟩ := Int.eq_ofNat_of_zero_le h0
  rw [Int.toNat_natCast] at h ⊢
  unfold ixN
  rw [if_pos (by omega), if_pos (by omega)]
  rfl
def aAugIx_k (f : A2) (te : AE) (A : AEnds) (Γ : Gm) (o i : D) (M2 : Mm) : Prop := match o, i with
  | .ref l, .int k => ∃ xs x, (l, MO.lst xs) ∈ M2 ∧ (0 ≤ k ∧ k < 9223372036854775808) ∧ xs[k.toNat]? = some x ∧ te Γ M2 fun y M3 => f x y M3 fun z M4 => ∃ M5, Up M4 l (.lst xs) (.lst (xs.set k.toNat z)) M5 ∧ A.nx Γ M5
  | _, _ => False
def aAugIx (f : A2) (to ti te : AE) (A : AEnds) (Γ : Gm) (M : Mm) : Prop := to Γ M fun o M1 => ti Γ M1 fun i M2 => aAugIx_k f te A Γ o i M2
theorem aAugIx_r {f : A2} {te : AE} {A : AEnds} {Γ : Gm} {l : Addr} {k : Int} {M2 : Mm} : aAugIx_k f te A Γ (.ref l) (.int k) M2 = ∃ xs x, (l, MO.lst xs) ∈ M2 ∧ (0 ≤ k ∧ k < 9223372036854775808) ∧ xs[k.toNat]? = some x ∧ te Γ M2 fun y M3 => f x y M3 fun z M4 => ∃ M5, Up M4 l (.lst xs) (.lst (xs.set k.toNat z)) M5 ∧ A.nx Γ M5 := rfl
theorem ds_augIx {o i : Expr} {to ti te : AE} {op : Operator} {r : R2} {f : A2} {tpos : Pos} (ho : DE X T o to) (hi : DE X T i ti) (hp : PIp X op r) (hr : Ab2 X.K T.B r f) (he : DE X T e te)
    (ha : ∀ ov iv new, augStore i ov iv new = (do holding [new, ov, iv] (setItem ov iv new); release [new, ov, iv] []; pure .next) := by intros; rfl) : DS X T (.AugAssign (.Subscript o i tpos) op e pos) (aAugIx f to ti te) :=
  ds_of (ps_augS ho hi get_listP he hp set_list ha) fun F σ H Γ M A D w q m => cE_mk w q fun d M1 x F1 H1 s1 h1 i1 q1 => cE_mk (w.go s1 h1) q1 fun k M2 kv F2 H2 s2 h2 i2 q2 => by
    unfold aAugIx_k at q2
    split at q2
    · rename_i l k
      obtain ⟨xs, x, hm, hk, ex, q2⟩ := q2
      cases i1
      cases i2
      obtain ⟨vs0, e0, z0⟩ := h2.lst hm
      obtain ⟨v0, ev0, iv0⟩ := z0.get ex
      refine ⟨l, vs0, k, v0, rfl, rfl, .inl (.inl e0), hk, ev0, ?_⟩
      refine cE_mk ((w.go s1 h1).go s2 h2) q2 fun y M4 yv F4 H4 s4 h4 i4 q4 => hr F4 H4 _ _ _ y M4 _ _ h4 (iv0.mono s4) i4 q4 fun z M5 zv F5 H5 s5 h5 i5 ⟨M6, up, q6⟩ => ?_
      obtain ⟨vs, e2, zz, h6⟩ := hs_setL h5 i5 up
      have hlt : k.toNat < vs.length := by
        rw [zz.length]
        exact (List.getElem?_eq_some_iff.mp ex).1
      exact ⟨l, vs, k, k.toNat, rfl, rfl, e2, ixN_of hk.1 hlt, m.nx Γ M6 σ F5 _ (((s1.trans s2).trans s4).trans s5) (w.v.mono (((s1.trans s2).trans s4).trans s5)) h6 q6⟩
    · exact q2.elim
/-! ### for x in xs, xs a mutable list that the body leaves as it is -/
def aForM_k (g : AG) (tb : AS) (A : AEnds) (Γ : Gm) (d : D) (M1 : Mm) : Prop := match d with
  | .ref l => ∃ xs, ∃ I : Nat → Gm → Mm → Prop, I 0 Γ M1 ∧ (∀ i Γ' M', i ≤ xs.length → I i Γ' M' → (l, MO.lst xs) ∈ M') ∧
    (∀ i d Γ' M', xs[i]? = some d → I i Γ' M' → match g d Γ' with
      | some Γ2 => tb { nx := I (i + 1), rt := A.rt, bk := A.nx, ct := I (i + 1) } Γ2 M'
      | none => False) ∧
    ∀ Γ' M', I xs.length Γ' M' → A.nx Γ' M'
  | _ => False
def aForM (ta : AE) (g : AG) (tb : AS) (A : AEnds) (Γ : Gm) (M : Mm) : Prop := ta Γ M fun d M1 => aForM_k g tb A Γ d M1
theorem ds_forM {tg iter : Expr} {body : List Stmt} {vs : List Nat} {g : AG} {tb : AS} (hp : PassesOwn (model X.prog X.w) X.A X.env X.xe) (hc : X.calm = true) (hi : DE X T iter ta) (hg : DG X tg vs g) (hb : DSs X T body tb)
    (hs : ∀ x, foldedSetIterable iter X.env x = pure x := by intro _; rfl) : DS X T (.For tg iter body [] pos) (aForM ta g tb) :=
  ds_of (ps_for hp hc (pi_either hi) hg hb hs) fun F σ H Γ M A D w q m => cE_mk w q fun d M1 x F1 H1 s1 h1 i1 q1 => by
    unfold aForM_k at q1
    split at q1
    · rename_i l
      obtain ⟨xs, I, i0, keep, turn, fin⟩ := q1
      cases i1
      obtain ⟨vs1, e1, z1⟩ := h1.lst (keep 0 _ _ (Nat.zero_le _) i0)
      refine ⟨l, rfl, .inl ⟨⟨vs1, .inl (.inl e1)⟩, ?_⟩⟩
      refine ⟨fun i n σ' H' => n = xs.length - i ∧ i ≤ xs.length ∧ ∃ F' Γ' M', Same F1 F' ∧ Vw X.K F' σ' Γ' ∧ Hs X.K T.B M' F' H' ∧ I i Γ' M', ⟨xs.length, by simp, Nat.zero_le _, F1, Γ, M1, Same.refl F1, w.v.mono s1, h1, i0⟩, ?_⟩
      rintro i n σ' H' ⟨rfl, hi, F', Γ', M', s', v', h', i'⟩
      obtain ⟨vs', e', z'⟩ := h'.lst (keep i _ _ hi i')
      have sq : SqL X.K H' l vs' := .inl (.inl e')
      by_cases hlt : i < xs.length
      · obtain ⟨v, ev, iv⟩ := z'.get (List.getElem?_eq_getElem hlt)
        refine .inr ⟨⟨vs', v, sq, ev⟩, fun σ2 H2 => ∃ F' Γ' M', Same F1 F' ∧ Vw X.K F' σ2 Γ' ∧ Hs X.K T.B M' F' H2 ∧ I (i + 1) Γ' M', fun σ2 H2 z => ⟨xs.length - (i + 1), by omega, rfl, hlt, z⟩, fun x H2 y => ?_⟩
        obtain ⟨rfl, y⟩ := y
        have ex : x = v := Option.some.inj ((y vs' sq).symm.trans ev)
        subst ex
        have t := turn i xs[i] Γ' M' (List.getElem?_eq_getElem hlt) i'
        split at t
        · rename_i Γ2 hg2
          refine ⟨F', xs[i], Γ', Γ2, v', h'.sub, iv, hg2, fun σ3 v3 _ => cS_mk (T := T) ⟨v3, h', w.l.mono (s1.trans s')⟩ t ⟨?_, ?_, ?_, ?_⟩⟩
          · exact fun Γ4 M4 σ4 F4 H4 s4 v4 h4 q4 => ⟨F4, Γ4, M4, s'.trans s4, v4, h4, q4⟩
          · exact fun d M4 v F4 H4 s4 => m.rt d M4 v F4 H4 ((s1.trans s').trans s4)
          · exact fun Γ4 M4 σ4 F4 H4 s4 => m.nx Γ4 M4 σ4 F4 H4 ((s1.trans s').trans s4)
          · exact fun Γ4 M4 σ4 F4 H4 s4 v4 h4 q4 => ⟨F4, Γ4, M4, s'.trans s4, v4, h4, q4⟩
        · exact t.elim
      · have e : i = xs.length := by omega
        subst e
        exact .inl ⟨⟨vs', sq, by rw [z'.length]; exact Nat.le_refl _⟩, m.nx Γ' M' σ' F' H' (s1.trans s') v' h' (fin Γ' M' i')⟩
    · exact q1.elim
/-! ### max(xs), min(xs), xs.index(y), xs a mutable list of ints -/
variable {p p2 : Pos}
def fMaxR (ds : List D) (M : Mm) (Φ : AK) : Prop := match ds with
  | [.ref l] => ∃ ns : List Int, (l, MO.lst (ns.map D.int)) ∈ M ∧ 0 < ns.length ∧ ∀ m, m ∈ ns → (∀ y, y ∈ ns → y ≤ m) → Φ (.int m) M
  | _ => False
def fMinR (ds : List D) (M : Mm) (Φ : AK) : Prop := match ds with
  | [.ref l] => ∃ ns : List Int, (l, MO.lst (ns.map D.int)) ∈ M ∧ 0 < ns.length ∧ ∀ m, m ∈ ns → (∀ y, y ∈ ns → m ≤ y) → Φ (.int m) M
  | _ => False
theorem fMaxR_r {l : Addr} {M : Mm} {Φ : AK} : fMaxR [.ref l] M Φ = ∃ ns : List Int, (l, MO.lst (ns.map D.int)) ∈ M ∧ 0 < ns.length ∧ ∀ m, m ∈ ns → (∀ y, y ∈ ns → y ≤ m) → Φ (.int m) M := rfl
theorem fMinR_r {l : Addr} {M : Mm} {Φ : AK} : fMinR [.ref l] M Φ = ∃ ns : List Int, (l, MO.lst (ns.map D.int)) ∈ M ∧ 0 < ns.length ∧ ∀ m, m ∈ ns → (∀ y, y ∈ ns → m ≤ y) → Φ (.int m) M := rfl
theorem de_maxR (hc : X.calm = true) (hg : Gl X "max") (hm : X.mg "max" = none) (ha : DE X T a ta) (hs : starEach [a] X.env = (false, eval a X.env) :: starEach [] X.env := by rfl) (hpl : (backTo pos (starEach [] X.env)).any (·.1) = false := by rfl) : DE X T (.Call (.Name "max" p) [a] [] pos) (aCB fMaxR (aCons ta aNil)) :=
  de_callB (cr_max hc) (fun F H vs ds M Φ Q h i q z => by
    unfold fMaxR at q
    split at q
    · match vs, i with
      | [_], .cons i1 .nil =>
        cases i1
        obtain ⟨bs, mm, h0, q⟩ := q
        obtain ⟨ws, e, zz⟩ := h.lst mm
        rw [zz.ints] at e
        exact ⟨_, bs, rfl, .inl (.inl e), h0, fun m hm hle => z _ M _ F H (Same.refl F) h (.int _) (q m hm hle)⟩
    · exact q.elim) hg hm PyProof.Rows.boot_max (da_cons ha da_nil hs) (by decide) (by decide) hs hpl
theorem de_minR (hc : X.calm = true) (hg : Gl X "min") (hm : X.mg "min" = none) (ha : DE X T a ta) (hs : starEach [a] X.env = (false, eval a X.env) :: starEach [] X.env := by rfl) (hpl : (backTo pos (starEach [] X.env)).any (·.1) = false := by rfl) : DE X T (.Call (.Name "min" p) [a] [] pos) (aCB fMinR (aCons ta aNil)) :=
  de_callB (cr_min hc) (fun F H vs ds M Φ Q h i q z => by
    unfold fMinR at q
    split at q
    · match vs, i with
      | [_], .cons i1 .nil =>
        cases i1
        obtain ⟨bs, mm, h0, q⟩ := q
        obtain ⟨ws, e, zz⟩ := h.lst mm
        rw [zz.ints] at e
        exact ⟨_, bs, rfl, .inl (.inl e), h0, fun m hm hle => z _ M _ F H (Same.refl F) h (.int _) (q m hm hle)⟩
    · exact q.elim) hg hm (by decide +kernel) (da_cons ha da_nil hs) (by decide) (by decide) hs hpl
def aIdxR_k (tb : AE) (Γ : Gm) (Φ : AK) (d : D) (M1 : Mm) : Prop := match d with
  | .ref l => ∃ ns : List Int, (l, MO.lst (ns.map D.int)) ∈ M1 ∧ tb Γ M1 fun e M2 => (l, MO.lst (ns.map D.int)) ∈ M2 ∧ ∃ y : Int, e = .int y ∧ ∃ j : Nat, ns[j]? = some y ∧ (∀ m z, m < j → ns[m]? = some z → z ≠ y) ∧ Φ (.int (j : Nat)) M2
  | _ => False
def aIdxR (ta tb : AE) (Γ : Gm) (M : Mm) (Φ : AK) : Prop := ta Γ M fun d M1 => aIdxR_k tb Γ Φ d M1
theorem aIdxR_r {tb : AE} {Γ : Gm} {Φ : AK} {l : Addr} {M1 : Mm} : aIdxR_k tb Γ Φ (.ref l) M1 = ∃ ns : List Int, (l, MO.lst (ns.map D.int)) ∈ M1 ∧ tb Γ M1 fun e M2 => (l, MO.lst (ns.map D.int)) ∈ M2 ∧ ∃ y : Int, e = .int y ∧ ∃ j : Nat, ns[j]? = some y ∧ (∀ m z, m < j → ns[m]? = some z → z ≠ y) ∧ Φ (.int (j : Nat)) M2 := rfl
theorem flat_intsV : ∀ ns : List Int, (ns.map V.int).all flatV = true
  | [] => rfl
  | _ :: ns => flat_intsV ns
theorem de_idxR (ha : DE X T a ta) (hb : DE X T b tb)
    (hbase : attributeBase a "index" X.env (eval a X.env) = eval a X.env := by rfl)
    (hfew : ((backTo pos (starEach [b] X.env)).all (fun x => !x.1) && (backToKw pos (keywordEach [] X.env)).all (fun x => x.1.isSome) && decide ([b].length + ([] : List Keyword).length + (if ([] : List Keyword).isEmpty then 0 else 1) < 30)) = true := by rfl)
    (hline : (p2.endLine == pos.line) = true := by rfl) (hst : starEach [b] X.env = (false, eval b X.env) :: starEach [] X.env := by rfl) (hplain : (backTo pos (starEach [] X.env)).any (·.1) = false := by rfl) : DE X T (.Call (.Attribute a "index" p2) [b] [] pos) (aIdxR ta tb) :=
  de_of (pe_bm PySem.F.plainAttrs_list PySem.F.slot_list_index PySem.F.type_list_index mt_index ha (pa_cons hb pa_nil hst) hbase hfew hline hst hplain) fun F σ H Γ M Φ Q w q z => cE_mk w q fun d M1 x F1 H1 s1 h1 i1 q1 => by
    unfold aIdxR_k at q1
    split at q1
    · rename_i l
      obtain ⟨ns, mm, q1⟩ := q1
      cases i1
      obtain ⟨ws, e, zz⟩ := h1.lst mm
      refine ⟨tyV_lst e, cE_mk (w.go s1 h1) q1 fun e M2 y F2 H2 s2 h2 i2 ⟨mm2, y0, ey, j, hz1, hz2, q2⟩ => ?_⟩
      subst ey
      cases i2
      obtain ⟨ws2, e2, zz2⟩ := h2.lst mm2
      rw [zz2.ints] at e2
      refine ⟨l, ns.map V.int, .int y0, j, .int y0, rfl, rfl, .inl (.inl e2), rfl, flat_intsV ns, by rw [List.getElem?_map, hz1]; rfl, by simp [eqV], fun m v' hm hv' => ?_, z _ M2 _ F2 H2 (s1.trans s2) h2 (.int _) q2⟩
      rw [List.getElem?_map] at hv'
      cases hx : ns[m]? with
      | none =>
        rw [hx] at hv'
        cases hv'
      | some u =>
        rw [hx] at hv'
        cases hv'
        have := hz2 m u hm hx
        simp [eqV, this]
    · exact q1.elim
end
end DL

set_option Elab.async false
set_option linter.all false
set_option maxRecDepth 100000
set_option maxHeartbeats 2000000
/-! DN8: min of a list of int pairs, l.remove(i) of a mutable list of ints. -/
namespace DL
open PySem L2 PyProof.Rows
section
variable {X : Cx} {T : Ct} {e a b c : Expr} {pos p p2 : Pos} {K : PySem.W.Frag} {F F' F1 H H' H1 : Hp} {σ : L2.St} {Γ : Gm} {M M' : Mm} {ta tb tc : AE} {B : Bx}
def pyP (p : Int × Int) : PyData := .tuple [.int p.1, .int p.2]
def rMinP (K : PySem.W.Frag) : List V → Hp → VK → Prop := fun vs H Q => ∃ (a : Addr) (ws : List V) (ps : List (Int × Int)), vs = [V.ref a] ∧ SqL K H a ws ∧ DpAll K H ws (ps.map pyP) ∧ 0 < ps.length ∧ ∀ (j : Nat) (x : V), ws[j]? = some x → Q x H
theorem pyP_alike {x y : PyData} {ps : List (Int × Int)} (hx : x ∈ ps.map pyP) (hy : y ∈ ps.map pyP) : PySem.W.alike x y = true := by
  obtain ⟨p, _, rfl⟩ := List.mem_map.mp hx
  obtain ⟨q, _, rfl⟩ := List.mem_map.mp hy
  unfold pyP
  simp [PySem.W.alike, PySem.W.alikeAll]
theorem pyP_depth : ∀ ps : List (Int × Int), PyData.depthAll (ps.map pyP) ≤ 2
  | [] => by simp [PyData.depthAll]
  | p :: ps => by
    have ih := pyP_depth ps
    have e : (pyP p).depth ≤ 2 := by
      unfold pyP
      simp [PyData.depth, PyData.depthAll]
    rw [List.map_cons]
    show max (pyP p).depth (PyData.depthAll (ps.map pyP)) ≤ 2
    omega
theorem cr_minP (hc : X.calm = true) (hu : X.A.units + 65 < cLine) : CallR X (.builtin "min") (rMinP X.K) := by
  intro pins s σ H vs us Q I r h
  obtain ⟨a, ws, ps, rfl, sq, dp, hne, q⟩ := h
  obtain ⟨its, rv, hl, _⟩ := I.list sq
  rw [Vals.ref1 r]
  obtain ⟨as, ra⟩ := Dp.readsAll I _ ws its dp rv
  cases ps with
  | nil => exact absurd hne (Nat.lt_irrefl 0)
  | cons p ps =>
    have hd := pyP_depth (p :: ps)
    rw [List.map_cons] at ra hd
    refine PySem.W.min_list_data (I.ok.hd hc) hl.isList ra ⟨fun x hx y hy => pyP_alike (ps := p :: ps) (by rw [List.map_cons]; exact hx) (by rw [List.map_cons]; exact hy), fun x hx e => ?_⟩ (by omega) fun i v h' tk bs hv _ hk => ?_
    · obtain ⟨p', _, e2⟩ := List.mem_map.mp (show x ∈ (p :: ps).map pyP by rw [List.map_cons]; exact hx)
      rw [← e2] at e
      cases e
    · have hv : its[i]? = some v := by simpa using hv
      have hi : i < its.length := (List.getElem?_eq_some_iff.mp hv).1
      have ex := List.getElem?_eq_getElem (show i < ws.length by rw [rv.length]; exact hi)
      obtain ⟨v', hv', rl⟩ := rv.get ex
      rw [hv] at hv'
      cases hv'
      exact ⟨_, H, I.kept hk, rl, q i _ ex⟩
theorem pl_pairs {ps : List (Int × Int)} : (ps.map pairD).all (plD 2) = true := by
  rw [List.all_map]
  exact List.all_eq_true.mpr fun _ _ => rfl
theorem py_pairs {ps : List (Int × Int)} : (ps.map pairD).map (py 2) = ps.map pyP := by
  rw [List.map_map]
  rfl
def fMinP (ds : List D) (M : Mm) (Φ : AK) : Prop := match ds with
  | [.lst xs] => ∃ ps : List (Int × Int), xs = ps.map pairD ∧ 0 < ps.length ∧ ∀ p, p ∈ ps → Φ (pairD p) M
  | _ => False
theorem fMinP_l {xs : List D} {M : Mm} {Φ : AK} : fMinP [.lst xs] M Φ = ∃ ps : List (Int × Int), xs = ps.map pairD ∧ 0 < ps.length ∧ ∀ p, p ∈ ps → Φ (pairD p) M := rfl
theorem de_minP {k : Nat} (hr : Room k X.A) (hc : X.calm = true) (hg : Gl X "min") (hm : X.mg "min" = none) (ha : DE X T a ta) (hs : starEach [a] X.env = (false, eval a X.env) :: starEach [] X.env := by rfl) (hpl : (backTo pos (starEach [] X.env)).any (·.1) = false := by rfl) : DE X T (.Call (.Name "min" p) [a] [] pos) (aCB fMinP (aCons ta aNil)) :=
  de_callB (cr_minP hc (by have := hr.un; omega)) (fun F H vs ds M Φ Q h i q z => by
    unfold fMinP at q
    split at q
    · obtain ⟨ps, rfl, h0, q⟩ := q
      match vs, i with
      | [_], .cons i1 .nil =>
        cases i1 with
        | @lst l ws _ sq il =>
          have dp := dpAll_of (n := 2) (fun d v => dp_of h.sub 2 d v) pl_pairs il
          rw [py_pairs] at dp
          refine ⟨l, ws, ps, rfl, h.sub.seq sq, dp, h0, fun j x hx => ?_⟩
          have hj : j < ps.length := by
            have := (List.getElem?_eq_some_iff.mp hx).1
            rw [il.length, List.length_map] at this
            exact this
          obtain ⟨v, ev, iv⟩ := il.get (show (ps.map pairD)[j]? = some (pairD ps[j]) by rw [List.getElem?_map, List.getElem?_eq_getElem hj]; rfl)
          rw [hx] at ev
          cases ev
          exact z _ M _ F H (Same.refl F) h iv (q _ (List.getElem_mem hj))
    · exact q.elim) hg hm (by decide +kernel) (da_cons ha da_nil hs) (by decide) (by decide) hs hpl
/-! ### comprehensions over a mutable list that they leave as it is -/
def aLcR_k (m : Bool) (g : AG) (tt : AT) (te : AE) (vs : List Nat) (Γ : Gm) (Φ : AK) (d : D) (M1 : Mm) : Prop := match d with
  | .ref l => ∃ xs, (l, MO.lst xs) ∈ M1 ∧ xs.length ≤ 100000 ∧ ∃ I : Nat → List D → Mm → Prop, I 0 [] M1 ∧ (∀ i acc M', i ≤ xs.length → I i acc M' → (l, MO.lst xs) ∈ M') ∧
    (∀ i d acc M' l, xs[i]? = some d → I i acc M' → match g d (wipeG Γ vs) with
      | some Γ2 => tt Γ2 ((l, .lst acc) :: M') fun b M2 => (b = true → te Γ2 M2 fun y M3 => ∃ M4, Dl M3 l (.lst acc) M4 ∧ I (i + 1) (acc ++ [y]) M4) ∧ (b = false → ∃ M4, Dl M2 l (.lst acc) M4 ∧ I (i + 1) acc M4)
      | none => False) ∧
    ∀ acc M' l, I xs.length acc M' → acc.length ≤ xs.length → if m then Φ (.ref l) ((l, .lst acc) :: M') else Φ (.lst acc) M'
  | _ => False
def aLcR (m : Bool) (ta : AE) (g : AG) (tt : AT) (te : AE) (vs : List Nat) (Γ : Gm) (M : Mm) (Φ : AK) : Prop := ta Γ M fun d M1 => aLcR_k m g tt te vs Γ Φ d M1
theorem lcR_go {m : Bool} {vs ws : List Nat} {g : AG} {tt : AT} {te : AE} {T' : Ct} {Q : VK} {Φ : AK} (hT : T'.B = T.B) (hl : ∀ F, Lk K T' F) (hv : ∀ i ∈ ws, i ∈ vs) (w : See K T F σ H Γ M) (q : aLcR m ta g tt te vs Γ M Φ)
    (z : ∀ d M' v F' H', Same F F' → Hs K T.B M' F' H' → Is K F' v d → Φ d M' → Q v H') : tLc (tEither K (cE K T ta)) (cG K ws g) (cT K T' tt) (cE K T' te) vs σ H Q := cE_mk w q fun d M1 x F1 H1 s1 h1 i1 q1 => by
  unfold aLcR_k at q1
  split at q1
  · rename_i l
    obtain ⟨xs, m1, hsz, I, i0, keep, turn, fin⟩ := q1
    cases i1
    obtain ⟨vs1, e1, z1⟩ := h1.lst m1
    refine ⟨l, rfl, .inl ⟨⟨vs1, .inl (.inl e1)⟩, ?_⟩⟩
    intro L hL
    refine ⟨fun i n H' => n = xs.length - i ∧ i ≤ xs.length ∧ ∃ F' acc M', Same F1 F' ∧ Hs K T.B ((L, .lst acc) :: M') F' H' ∧ acc.length ≤ i ∧ I i acc M', ⟨xs.length, by simp, Nat.zero_le _, F1, [], M1, Same.refl F1, h1.newM (o := .lst []) hL ⟨[], upd_same, .nil⟩, by simp, i0⟩, ?_⟩
    rintro i n H' ⟨rfl, hi, F', acc, M', s', h', hacc, i'⟩
    obtain ⟨vs', e', z'⟩ := h'.lst (List.mem_cons_of_mem _ (keep i acc M' hi i'))
    have sq : SqL K H' l vs' := .inl (.inl e')
    by_cases hlt : i < xs.length
    · obtain ⟨v, ev, iv⟩ := z'.get (List.getElem?_eq_getElem hlt)
      refine .inr ⟨⟨vs', v, sq, ev⟩, fun H2 => ∃ F' acc M', Same F1 F' ∧ Hs K T.B ((L, .lst acc) :: M') F' H2 ∧ acc.length ≤ i + 1 ∧ I (i + 1) acc M', fun H2 y => ⟨xs.length - (i + 1), by omega, rfl, hlt, y⟩, fun x H2 y => ?_⟩
      obtain ⟨rfl, y⟩ := y
      have ex : x = v := Option.some.inj ((y vs' sq).symm.trans ev)
      subst ex
      have t := turn i xs[i] acc M' L (List.getElem?_eq_getElem hlt) i'
      split at t
      · rename_i Γ2 hg2
        refine ⟨F', xs[i], wipeG Γ vs, Γ2, (w.v.mono (s1.trans s')).wipe vs, h'.sub, iv, hg2, fun σ3 v3 e3 => ⟨(e3 vs hv).trans (wipe_sub fun _ h => h), ?_⟩⟩
        refine cT_mk (T := T') ⟨v3, by rw [hT]; exact h', hl _⟩ t fun b M3 F3 H3 s3 h3 q3 => ?_
        cases b with
        | true =>
          rw [if_pos rfl]
          refine cE_mk (T := T') ⟨v3.mono s3, h3, hl _⟩ (q3.1 rfl) fun y M4 yv F4 H4 s4 h4 i4 ⟨M5, dl, q5⟩ => ?_
          rw [hT] at h4
          obtain ⟨vs4, e4, z4⟩ := h4.lst dl.mem
          refine ⟨vs4, e4, by rw [z4.length]; exact line_lt (by omega), F4, acc ++ [y], M5, (s'.trans s3).trans s4, h4.redo dl ⟨_, upd_same, z4.append (.cons i4 .nil)⟩, by simp; omega, q5⟩
        | false =>
          rw [if_neg Bool.false_ne_true]
          obtain ⟨M5, dl, q5⟩ := q3.2 rfl
          rw [hT] at h3
          exact ⟨F3, acc, M5, s'.trans s3, h3.front dl, by omega, q5⟩
      · exact t.elim
    · have e : i = xs.length := by omega
      subst e
      have f := fin acc M' L i' hacc
      cases m with
      | true =>
        rw [if_pos rfl] at f
        exact .inl ⟨⟨vs', sq, by rw [z'.length]; exact Nat.le_refl _⟩, z _ _ _ F' H' (s1.trans s') h' (.ref L) f⟩
      | false =>
        rw [if_neg Bool.false_ne_true] at f
        obtain ⟨F2, s2, h2, i2⟩ := h'.freeze (M' := M') .here
        exact .inl ⟨⟨vs', sq, by rw [z'.length]; exact Nat.le_refl _⟩, z _ M' _ F2 H' ((s1.trans s').trans s2) h2 i2 f⟩
  · exact q1.elim
theorem de_lcR (m : Bool) {elt tg iter : Expr} {ifs : List Expr} {scope : Scope} {own : List (Str × Nat)} {ws : List Nat} {g : AG} {tt : AT} {te : AE} (hc : X.calm = true) (hN : X.N.Nodup) (hi : DE X T iter ta) (ok : BlkOk X.N X.env.scope scope own)
    (hg : ∀ (s : Shared) (H : Hp) (C : Addr) (cl : List (Str × Addr)) (fp : List Addr), DG (X.blk s H scope (compEnvC scope cl C X.env) fp) tg ws g) (ht : ∀ (s : Shared) (H : Hp) (C : Addr) (cl : List (Str × Addr)) (fp : List Addr), DTs (X.blk s H scope (compEnvC scope cl C X.env) fp) (.calm T.B) ifs tt)
    (he : ∀ (s : Shared) (H : Hp) (C : Addr) (cl : List (Str × Addr)) (fp : List Addr), DE (X.blk s H scope (compEnvC scope cl C X.env) fp) (.calm T.B) elt te) (hv : ∀ i ∈ ws, i ∈ own.map (·.2) := by decide) (hs : ∀ x, foldedSetIterable iter X.env x = pure x := by intro _; rfl) :
    DE X T (.ListComp elt [⟨tg, iter, ifs, 0⟩] scope pos) (aLcR m ta g tt te (own.map (·.2))) :=
  de_of (pe_lc (g := cG X.K ws g) (tt := cT X.K (.calm T.B) tt) (te := cE X.K (.calm T.B) te) hc hN (pi_either hi) ok hg ht he hs) fun F σ H Γ M Φ Q w q z => lcR_go (T' := .calm T.B) rfl (fun _ => lk_calm) hv w q z
theorem ds_setLcR (m : Bool) {i : Nat} {y : Str} {py spos : Pos} {elt tg iter : Expr} {ifs : List Expr} {scope : Scope} {own : List (Str × Nat)} {ws : List Nat} {g : AG} {tt : AT} {te : AE} (hc : X.calm = true) (hN : X.N.Nodup) (hy : X.N[i]? = some y) (hyl : X.env.scope.names.lookup y = some .local)
    (hsw : swapsWith (.ListComp elt [⟨tg, iter, ifs, 0⟩] scope pos) (some (.Name y py)) spos.line X.env = pure true) (hi : DE X T iter ta) (ok : BlkOk X.N X.env.scope scope own)
    (hg : ∀ (s : Shared) (H : Hp) (C : Addr) (cl : List (Str × Addr)) (fp : List Addr), DG (X.blk s H scope (compEnvC scope cl C X.env) fp) tg ws g) (ht : ∀ (s : Shared) (H : Hp) (C : Addr) (cl : List (Str × Addr)) (fp : List Addr), DTs (X.blk s H scope (compEnvC scope cl C X.env) fp) (.calm T.B) ifs tt)
    (he : ∀ (s : Shared) (H : Hp) (C : Addr) (cl : List (Str × Addr)) (fp : List Addr), DE (X.blk s H scope (compEnvC scope cl C X.env) fp) (.calm T.B) elt te) (hv : ∀ i ∈ ws, i ∈ own.map (·.2) := by decide) (hs : ∀ x, foldedSetIterable iter X.env x = pure x := by intro _; rfl) :
    DS X T (.Assign [.Name y py] (.ListComp elt [⟨tg, iter, ifs, 0⟩] scope pos) spos) (aSet i (aLcR m ta g tt te (own.map (·.2)))) :=
  ds_of (ps_setLc (g := cG X.K ws g) (tt := cT X.K (.calm T.B) tt) (te := cE X.K (.calm T.B) te) hc hN hy hyl hsw (pi_either hi) ok hg ht he hs) fun F σ H Γ M A D w q n => lcR_go (T' := .calm T.B) rfl (fun _ => lk_calm) hv w q fun d M1 v F1 H1 s1 h1 i1 q1 => n.nx _ M1 _ F1 H1 s1 ((w.v.mono s1).set i1 i) h1 q1
/-- pure ones -/
theorem aLcR_pure {m : Bool} {g : AG} {tt : AT} {te : AE} {vs : List Nat} {Φ : AK} {α : Type} (l : Addr) (xs : List α) (emb : α → D) (f : α → Bool) (v : α → D) (hai : ∀ Φ' : AK, Φ' (.ref l) M → ta Γ M Φ') (mem : (l, MO.lst (xs.map emb)) ∈ M) (hlen : xs.length ≤ 100000)
    (h : ∀ x ∈ xs, ∀ a acc, ∃ Γ2, g (emb x) (wipeG Γ vs) = some Γ2 ∧ (∀ Φ' : Bool → Mm → Prop, Φ' (f x) ((a, acc) :: M) → tt Γ2 ((a, acc) :: M) Φ') ∧ (f x = true → ∀ Φ' : AK, Φ' (v x) ((a, acc) :: M) → te Γ2 ((a, acc) :: M) Φ'))
    (k : ∀ a, if m then Φ (.ref a) ((a, .lst ((xs.filter f).map v)) :: M) else Φ (.lst ((xs.filter f).map v)) M) : aLcR m ta g tt te vs Γ M Φ := by
  unfold aLcR
  refine hai _ ⟨xs.map emb, mem, by rw [List.length_map]; exact hlen, fun i acc M' => acc = ((xs.take i).filter f).map v ∧ M' = M, ⟨rfl, rfl⟩, ?_, ?_, ?_⟩
  · rintro i acc M' _ ⟨_, rfl⟩
    exact mem
  · rintro i d acc M' a hd ⟨rfl, rfl⟩
    rw [List.getElem?_map] at hd
    cases hx : xs[i]? with
    | none =>
      rw [hx] at hd
      cases hd
    | some x =>
      rw [hx] at hd
      cases hd
      obtain ⟨Γ2, e, h1, h2⟩ := h x (List.mem_of_getElem? hx) a (.lst (((xs.take i).filter f).map v))
      rw [e]
      refine h1 _ ⟨fun t => h2 t _ ⟨M', .here, ?_, rfl⟩, fun t => ⟨M', .here, ?_, rfl⟩⟩
      · rw [List.take_add_one, hx, List.filter_append, List.map_append]
        show _ = _ ++ List.map v (List.filter f [x])
        rw [List.filter_cons_of_pos t]
        rfl
      · rw [List.take_add_one, hx, List.filter_append, List.map_append]
        show _ = _ ++ List.map v (List.filter f [x])
        rw [List.filter_cons_of_neg (by rw [t]; exact Bool.false_ne_true)]
        show _ = _ ++ []
        rw [List.append_nil]
  · rintro acc M' a ⟨rfl, rfl⟩ _
    rw [List.length_map, List.take_length]
    exact k a
/-! ### mutable objects, in any order -/
theorem up_cut {C C' : Mm} {l : Addr} {o o' : MO} (u : Up C l o o' C') : ∃ A B, C = A ++ (l, o) :: B ∧ C' = A ++ (l, o') :: B := by
  induction u with
  | @here a o o' M => exact ⟨[], M, rfl, rfl⟩
  | @there q M M' a o o' _ ih =>
    obtain ⟨A, B, rfl, rfl⟩ := ih
    exact ⟨q :: A, B, rfl, rfl⟩
theorem up_mid {l : Addr} {o o' : MO} (B : Mm) : ∀ A : Mm, Up (A ++ (l, o) :: B) l o o' (A ++ (l, o') :: B)
  | [] => .here
  | _ :: A => .there (up_mid B A)
theorem dl_mid {l : Addr} {o : MO} (B : Mm) : ∀ A : Mm, Dl (A ++ (l, o) :: B) l o (A ++ B)
  | [] => .here
  | _ :: A => .there (dl_mid B A)
theorem perm_up {C C' M : Mm} {l : Addr} {o o' : MO} (u : Up C l o o' C') (h : M.Perm C) : ∃ M', Up M l o o' M' ∧ M'.Perm C' := by
  obtain ⟨A, B, rfl, rfl⟩ := up_cut u
  obtain ⟨A2, B2, rfl⟩ := List.append_of_mem (h.mem_iff.mpr (List.mem_append_right A (.head B)))
  refine ⟨_, up_mid B2 A2, ?_⟩
  have p1 := (List.perm_middle (a := (l, o)) (l₁ := A2) (l₂ := B2)).symm.trans (h.trans List.perm_middle)
  have p2 := p1.cons_inv
  exact List.perm_middle.trans ((p2.cons _).trans List.perm_middle.symm)
theorem perm_dl {C M : Mm} {l : Addr} {o : MO} (h : M.Perm ((l, o) :: C)) : ∃ M', Dl M l o M' ∧ M'.Perm C := by
  obtain ⟨A2, B2, rfl⟩ := List.append_of_mem (h.mem_iff.mpr (.head C))
  exact ⟨_, dl_mid B2 A2, (List.perm_middle.symm.trans h).cons_inv⟩
/-! ### l.remove(i) -/
def aRem_k (tb : AE) (Γ : Gm) (Φ : AK) (d : D) (M1 : Mm) : Prop := match d with
  | .ref l => (∃ xs, (l, MO.lst xs) ∈ M1) ∧ tb Γ M1 fun e M2 => ∃ (ns : List Int) (y : Int) (j : Nat) (M3 : Mm), e = .int y ∧ Up M2 l (.lst (ns.map D.int)) (.lst ((ns.eraseIdx j).map D.int)) M3 ∧ ns[j]? = some y ∧ (∀ m : Nat, m < j → ns[m]? ≠ some y) ∧ Φ .non M3
  | _ => False
def aRem (ta tb : AE) (Γ : Gm) (M : Mm) (Φ : AK) : Prop := ta Γ M fun d M1 => aRem_k tb Γ Φ d M1
theorem aRem_r {Γ : Gm} {Φ : AK} {l : Addr} {M1 : Mm} : aRem_k tb Γ Φ (.ref l) M1 = ((∃ xs, (l, MO.lst xs) ∈ M1) ∧ tb Γ M1 fun e M2 => ∃ (ns : List Int) (y : Int) (j : Nat) (M3 : Mm), e = .int y ∧ Up M2 l (.lst (ns.map D.int)) (.lst ((ns.eraseIdx j).map D.int)) M3 ∧ ns[j]? = some y ∧ (∀ m : Nat, m < j → ns[m]? ≠ some y) ∧ Φ .non M3) := rfl
theorem isL_ints {F : Hp} : ∀ ns : List Int, IsL K F (ns.map V.int) (ns.map D.int)
  | [] => .nil
  | n :: ns => .cons (.int n) (isL_ints ns)
theorem de_rem (ha : DE X T a ta) (hb : DE X T b tb) (hst : starEach [b] X.env = (false, eval b X.env) :: starEach [] X.env := by rfl)
    (hbase : attributeBase a "remove" X.env (eval a X.env) = eval a X.env := by rfl)
    (hfew : ((backTo pos (starEach [b] X.env)).all (fun x => !x.1) && (backToKw pos (keywordEach [] X.env)).all (fun x => x.1.isSome) && decide ([b].length + ([] : List Keyword).length + (if ([] : List Keyword).isEmpty then 0 else 1) < 30)) = true := by rfl)
    (hline : (p2.endLine == pos.line) = true := by rfl) (hplain : (backTo pos (starEach [] X.env)).any (·.1) = false := by rfl) : DE X T (.Call (.Attribute a "remove" p2) [b] [] pos) (aRem ta tb) :=
  de_of (pe_bm PySem.F.plainAttrs_list PySem.F.slot_list_remove PySem.F.type_list_remove mt_remove ha (pa_cons hb pa_nil hst) hbase hfew hline hst hplain) fun F σ H Γ M Φ Q w q z => cE_mk w q fun d M1 x F1 H1 s1 h1 i1 q1 => by
    unfold aRem_k at q1
    split at q1
    · rename_i l
      obtain ⟨⟨xs0, hm⟩, q1⟩ := q1
      cases i1
      obtain ⟨vs0, e0, _⟩ := h1.lst hm
      refine ⟨tyV_lst e0, cE_mk (w.go s1 h1) q1 fun e M2 y F2 H2 s2 h2 i2 ⟨ns, k, j, M3, ee, up, hj, hno, q2⟩ => ?_⟩
      subst ee
      cases i2
      obtain ⟨vs, e1, zz⟩ := h2.lst up.mem
      rw [zz.ints] at e1
      exact ⟨l, ns, k, j, rfl, rfl, e1, hj, hno, z _ M3 _ F2 _ (s1.trans s2) (h2.put up ⟨_, upd_same, isL_ints _⟩) .non q2⟩
    · exact q1.elim
end
end DL

set_option Elab.async false
set_option linter.all false
set_option maxRecDepth 100000
set_option maxHeartbeats 4000000
namespace K55
open PySem L2 DL
def topS (i : Nat) : Stmt := PySem.Challenge.pw_evergreedy_k55_whole_slow_feeders_in_any.main.body.getD i (.Pass ⟨0, 0, 0, 0⟩)
abbrev s_is_integer : Stmt := topS 4
abbrev n_is_integer : List Str := ["value"]
theorem st_is_integer (a0 : D) : startD n_is_integer [a0] = [some a0] := rfl
theorem sc_is_integer : FnScope n_is_integer ["value"] (defScope s_is_integer) := ⟨rfl, rfl, rfl, by decide +kernel, rfl, by decide +kernel, by decide +kernel⟩
abbrev s_is_number : Stmt := topS 5
abbrev n_is_number : List Str := ["value", "most"]
theorem st_is_number (a0 a1 : D) : startD n_is_number [a0, a1] = [some a0, some a1] := rfl
theorem sc_is_number : FnScope n_is_number ["value", "most"] (defScope s_is_number) := ⟨rfl, rfl, rfl, by decide +kernel, rfl, by decide +kernel, by decide +kernel⟩
abbrev s_common_divisor : Stmt := topS 8
abbrev n_common_divisor : List Str := ["one", "other"]
theorem st_common_divisor (a0 a1 : D) : startD n_common_divisor [a0, a1] = [some a0, some a1] := rfl
theorem sc_common_divisor : FnScope n_common_divisor ["one", "other"] (defScope s_common_divisor) := ⟨rfl, rfl, rfl, by decide +kernel, rfl, by decide +kernel, by decide +kernel⟩
abbrev s_is_fraction : Stmt := topS 9
abbrev n_is_fraction : List Str := ["value", "one"]
theorem st_is_fraction (a0 : D) : startD n_is_fraction [a0] = [some a0, none] := rfl
theorem sc_is_fraction : FnScope n_is_fraction ["value"] (defScope s_is_fraction) := ⟨rfl, rfl, rfl, by decide +kernel, rfl, by decide +kernel, by decide +kernel⟩
abbrev s_is_rate : Stmt := topS 10
abbrev n_is_rate : List Str := ["value"]
theorem st_is_rate (a0 : D) : startD n_is_rate [a0] = [some a0] := rfl
theorem sc_is_rate : FnScope n_is_rate ["value"] (defScope s_is_rate) := ⟨rfl, rfl, rfl, by decide +kernel, rfl, by decide +kernel, by decide +kernel⟩
abbrev s_need_rate : Stmt := topS 11
abbrev n_need_rate : List Str := ["rate"]
theorem st_need_rate (a0 : D) : startD n_need_rate [a0] = [some a0] := rfl
theorem sc_need_rate : FnScope n_need_rate ["rate"] (defScope s_need_rate) := ⟨rfl, rfl, rfl, by decide +kernel, rfl, by decide +kernel, by decide +kernel⟩
abbrev s_need_numbers : Stmt := topS 14
abbrev n_need_numbers : List Str := ["rate", "burst", "d"]
theorem st_need_numbers (a0 a1 a2 : D) : startD n_need_numbers [a0, a1, a2] = [some a0, some a1, some a2] := rfl
theorem sc_need_numbers : FnScope n_need_numbers ["rate", "burst", "d"] (defScope s_need_numbers) := ⟨rfl, rfl, rfl, by decide +kernel, rfl, by decide +kernel, by decide +kernel⟩
abbrev s_is_slow : Stmt := topS 15
abbrev n_is_slow : List Str := ["rate", "d"]
theorem st_is_slow (a0 a1 : D) : startD n_is_slow [a0, a1] = [some a0, some a1] := rfl
theorem sc_is_slow : FnScope n_is_slow ["rate", "d"] (defScope s_is_slow) := ⟨rfl, rfl, rfl, by decide +kernel, rfl, by decide +kernel, by decide +kernel⟩
abbrev s_stay_bound : Stmt := topS 16
abbrev n_stay_bound : List Str := ["rate", "burst", "d"]
theorem st_stay_bound (a0 a1 a2 : D) : startD n_stay_bound [a0, a1, a2] = [some a0, some a1, some a2] := rfl
theorem sc_stay_bound : FnScope n_stay_bound ["rate", "burst", "d"] (defScope s_stay_bound) := ⟨rfl, rfl, rfl, by decide +kernel, rfl, by decide +kernel, by decide +kernel⟩
abbrev s_trip_bound : Stmt := topS 17
abbrev n_trip_bound : List Str := ["rate", "burst", "d", "stay"]
theorem st_trip_bound (a0 a1 a2 : D) : startD n_trip_bound [a0, a1, a2] = [some a0, some a1, some a2, none] := rfl
theorem sc_trip_bound : FnScope n_trip_bound ["rate", "burst", "d"] (defScope s_trip_bound) := ⟨rfl, rfl, rfl, by decide +kernel, rfl, by decide +kernel, by decide +kernel⟩
abbrev s_wait_bound : Stmt := topS 18
abbrev n_wait_bound : List Str := ["rate", "burst", "d", "trip"]
theorem st_wait_bound (a0 a1 a2 : D) : startD n_wait_bound [a0, a1, a2] = [some a0, some a1, some a2, none] := rfl
theorem sc_wait_bound : FnScope n_wait_bound ["rate", "burst", "d"] (defScope s_wait_bound) := ⟨rfl, rfl, rfl, by decide +kernel, rfl, by decide +kernel, by decide +kernel⟩
abbrev s__law_take : Stmt := topS 20
abbrev n__law_take : List Str := ["box", "many", "digit", "raw"]
theorem st__law_take (a0 a1 : D) : startD n__law_take [a0, a1] = [some a0, some a1, none, none] := rfl
theorem sc__law_take : FnScope n__law_take ["box", "many"] (defScope s__law_take) := ⟨rfl, rfl, rfl, by decide +kernel, rfl, by decide +kernel, by decide +kernel⟩
abbrev s__law_pick : Stmt := topS 21
abbrev n__law_pick : List Str := ["box", "some"]
theorem st__law_pick (a0 a1 : D) : startD n__law_pick [a0, a1] = [some a0, some a1] := rfl
theorem sc__law_pick : FnScope n__law_pick ["box", "some"] (defScope s__law_pick) := ⟨rfl, rfl, rfl, by decide +kernel, rfl, by decide +kernel, by decide +kernel⟩
abbrev s__law_box : Stmt := topS 23
abbrev n__law_box : List Str := ["script", "k", "cell"]
theorem st__law_box (a0 a1 : D) : startD n__law_box [a0, a1] = [some a0, some a1, none] := rfl
theorem sc__law_box : FnScope n__law_box ["script", "k"] (defScope s__law_box) := ⟨rfl, rfl, rfl, by decide +kernel, rfl, by decide +kernel, by decide +kernel⟩
abbrev s__law_web : Stmt := topS 25
abbrev n__law_web : List Str := ["box", "most", "many", "places", "belts", "k", "a", "b"]
theorem st__law_web (a0 a1 a2 : D) : startD n__law_web [a0, a1, a2] = [some a0, some a1, some a2, none, none, none, none, none] := rfl
theorem sc__law_web : FnScope n__law_web ["box", "most", "many"] (defScope s__law_web) := ⟨rfl, rfl, rfl, by decide +kernel, rfl, by decide +kernel, by decide +kernel⟩
abbrev s__law_turns : Stmt := topS 26
abbrev n__law_turns : List Str := ["belts", "found", "e", "f"]
theorem st__law_turns (a0 : D) : startD n__law_turns [a0] = [some a0, none, none, none] := rfl
theorem sc__law_turns : FnScope n__law_turns ["belts"] (defScope s__law_turns) := ⟨rfl, rfl, rfl, by decide +kernel, rfl, by decide +kernel, by decide +kernel⟩
abbrev s__law_ways : Stmt := topS 27
abbrev n__law_ways : List Str := ["box", "belts", "turns", "ways", "k", "way", "turn", "on", "f", "e"]
theorem st__law_ways (a0 a1 : D) : startD n__law_ways [a0, a1] = [some a0, some a1, none, none, none, none, none, none, none, none] := rfl
theorem sc__law_ways : FnScope n__law_ways ["box", "belts"] (defScope s__law_ways) := ⟨rfl, rfl, rfl, by decide +kernel, rfl, by decide +kernel, by decide +kernel⟩
abbrev s__law_rate : Stmt := topS 28
abbrev n__law_rate : List Str := ["box", "d"]
theorem st__law_rate (a0 a1 : D) : startD n__law_rate [a0, a1] = [some a0, some a1] := rfl
theorem sc__law_rate : FnScope n__law_rate ["box", "d"] (defScope s__law_rate) := ⟨rfl, rfl, rfl, by decide +kernel, rfl, by decide +kernel, by decide +kernel⟩
abbrev s__law_room : Stmt := topS 29
abbrev n__law_room : List Str := ["levels", "rate", "burst", "way", "e"]
theorem st__law_room (a0 a1 a2 a3 : D) : startD n__law_room [a0, a1, a2, a3] = [some a0, some a1, some a2, some a3, none] := rfl
theorem sc__law_room : FnScope n__law_room ["levels", "rate", "burst", "way"] (defScope s__law_room) := ⟨rfl, rfl, rfl, by decide +kernel, rfl, by decide +kernel, by decide +kernel⟩
abbrev s__law_going : Stmt := topS 30
abbrev n__law_going : List Str := ["box", "rule", "queue", "stays", "owed", "one"]
theorem st__law_going (a0 a1 a2 a3 a4 : D) : startD n__law_going [a0, a1, a2, a3, a4] = [some a0, some a1, some a2, some a3, some a4, none] := rfl
theorem sc__law_going : FnScope n__law_going ["box", "rule", "queue", "stays", "owed"] (defScope s__law_going) := ⟨rfl, rfl, rfl, by decide +kernel, rfl, by decide +kernel, by decide +kernel⟩
abbrev s__law_played : Stmt := topS 31
abbrev n__law_played : List Str := ["box", "belts", "ways", "d", "beats", "rate", "burst", "rule", "stay", "trip", "wait", "levels", "queues", "belt", "owed", "begun", "came", "living", "eager", "beat", "turn", "way", "e", "one", "moved", "other", "level"]
theorem st__law_played (a0 a1 a2 a3 a4 : D) : startD n__law_played [a0, a1, a2, a3, a4] = [some a0, some a1, some a2, some a3, some a4, none, none, none, none, none, none, none, none, none, none, none, none, none, none, none, none, none, none, none, none, none, none] := rfl
theorem sc__law_played : FnScope n__law_played ["box", "belts", "ways", "d", "beats"] (defScope s__law_played) := ⟨rfl, rfl, rfl, by decide +kernel, rfl, by decide +kernel, by decide +kernel⟩
abbrev s_law : Stmt := topS 32
abbrev n_law : List Str := ["script", "k", "box", "places", "belts", "ways", "d"]
theorem st_law (a0 : D) : startD n_law [a0] = [some a0, none, none, none, none, none, none] := rfl
theorem sc_law : FnScope n_law ["script"] (defScope s_law) := ⟨rfl, rfl, rfl, by decide +kernel, rfl, by decide +kernel, by decide +kernel⟩
abbrev s_Refused_init : Stmt := clsAt (topS 2) 0
/-- what the top has laid -/
structure Top (P : Program) (K : PySem.W.Frag) (mg : Str → Option Value) where
  f_is_integer : Addr
  d_is_integer : FuncData
  F_is_integer : Fun K "is_integer" "is_integer" s_is_integer f_is_integer d_is_integer
  b_is_integer : Binds K d_is_integer ["value"] []
  g_is_integer : mg "is_integer" = some (.ref f_is_integer)
  f_is_number : Addr
  d_is_number : FuncData
  F_is_number : FunD K "is_number" "is_number" (defArgs s_is_number) (defBody s_is_number) (defScope s_is_number) [V.non] [] f_is_number d_is_number
  b_is_number : Binds K d_is_number ["value", "most"] []
  D0_is_number : List Value
  v0_is_number : Vals [V.non] D0_is_number
  b0_is_number : Binds K d_is_number ["value", "most"] D0_is_number
  g_is_number : mg "is_number" = some (.ref f_is_number)
  f_common_divisor : Addr
  d_common_divisor : FuncData
  F_common_divisor : Fun K "common_divisor" "common_divisor" s_common_divisor f_common_divisor d_common_divisor
  b_common_divisor : Binds K d_common_divisor ["one", "other"] []
  g_common_divisor : mg "common_divisor" = some (.ref f_common_divisor)
  f_is_fraction : Addr
  d_is_fraction : FuncData
  F_is_fraction : Fun K "is_fraction" "is_fraction" s_is_fraction f_is_fraction d_is_fraction
  b_is_fraction : Binds K d_is_fraction ["value"] []
  g_is_fraction : mg "is_fraction" = some (.ref f_is_fraction)
  f_is_rate : Addr
  d_is_rate : FuncData
  F_is_rate : Fun K "is_rate" "is_rate" s_is_rate f_is_rate d_is_rate
  b_is_rate : Binds K d_is_rate ["value"] []
  g_is_rate : mg "is_rate" = some (.ref f_is_rate)
  f_need_rate : Addr
  d_need_rate : FuncData
  F_need_rate : Fun K "need_rate" "need_rate" s_need_rate f_need_rate d_need_rate
  b_need_rate : Binds K d_need_rate ["rate"] []
  g_need_rate : mg "need_rate" = some (.ref f_need_rate)
  f_need_numbers : Addr
  d_need_numbers : FuncData
  F_need_numbers : Fun K "need_numbers" "need_numbers" s_need_numbers f_need_numbers d_need_numbers
  b_need_numbers : Binds K d_need_numbers ["rate", "burst", "d"] []
  g_need_numbers : mg "need_numbers" = some (.ref f_need_numbers)
  f_is_slow : Addr
  d_is_slow : FuncData
  F_is_slow : Fun K "is_slow" "is_slow" s_is_slow f_is_slow d_is_slow
  b_is_slow : Binds K d_is_slow ["rate", "d"] []
  g_is_slow : mg "is_slow" = some (.ref f_is_slow)
  f_stay_bound : Addr
  d_stay_bound : FuncData
  F_stay_bound : Fun K "stay_bound" "stay_bound" s_stay_bound f_stay_bound d_stay_bound
  b_stay_bound : Binds K d_stay_bound ["rate", "burst", "d"] []
  g_stay_bound : mg "stay_bound" = some (.ref f_stay_bound)
  f_trip_bound : Addr
  d_trip_bound : FuncData
  F_trip_bound : Fun K "trip_bound" "trip_bound" s_trip_bound f_trip_bound d_trip_bound
  b_trip_bound : Binds K d_trip_bound ["rate", "burst", "d"] []
  g_trip_bound : mg "trip_bound" = some (.ref f_trip_bound)
  f_wait_bound : Addr
  d_wait_bound : FuncData
  F_wait_bound : Fun K "wait_bound" "wait_bound" s_wait_bound f_wait_bound d_wait_bound
  b_wait_bound : Binds K d_wait_bound ["rate", "burst", "d"] []
  g_wait_bound : mg "wait_bound" = some (.ref f_wait_bound)
  f__law_take : Addr
  d__law_take : FuncData
  F__law_take : Fun K "_law_take" "_law_take" s__law_take f__law_take d__law_take
  b__law_take : Binds K d__law_take ["box", "many"] []
  g__law_take : mg "_law_take" = some (.ref f__law_take)
  f__law_pick : Addr
  d__law_pick : FuncData
  F__law_pick : Fun K "_law_pick" "_law_pick" s__law_pick f__law_pick d__law_pick
  b__law_pick : Binds K d__law_pick ["box", "some"] []
  g__law_pick : mg "_law_pick" = some (.ref f__law_pick)
  f__law_box : Addr
  d__law_box : FuncData
  F__law_box : Fun K "_law_box" "_law_box" s__law_box f__law_box d__law_box
  b__law_box : Binds K d__law_box ["script", "k"] []
  g__law_box : mg "_law_box" = some (.ref f__law_box)
  f__law_web : Addr
  d__law_web : FuncData
  F__law_web : Fun K "_law_web" "_law_web" s__law_web f__law_web d__law_web
  b__law_web : Binds K d__law_web ["box", "most", "many"] []
  g__law_web : mg "_law_web" = some (.ref f__law_web)
  f__law_turns : Addr
  d__law_turns : FuncData
  F__law_turns : Fun K "_law_turns" "_law_turns" s__law_turns f__law_turns d__law_turns
  b__law_turns : Binds K d__law_turns ["belts"] []
  g__law_turns : mg "_law_turns" = some (.ref f__law_turns)
  f__law_ways : Addr
  d__law_ways : FuncData
  F__law_ways : Fun K "_law_ways" "_law_ways" s__law_ways f__law_ways d__law_ways
  b__law_ways : Binds K d__law_ways ["box", "belts"] []
  g__law_ways : mg "_law_ways" = some (.ref f__law_ways)
  f__law_rate : Addr
  d__law_rate : FuncData
  F__law_rate : Fun K "_law_rate" "_law_rate" s__law_rate f__law_rate d__law_rate
  b__law_rate : Binds K d__law_rate ["box", "d"] []
  g__law_rate : mg "_law_rate" = some (.ref f__law_rate)
  f__law_room : Addr
  d__law_room : FuncData
  F__law_room : Fun K "_law_room" "_law_room" s__law_room f__law_room d__law_room
  b__law_room : Binds K d__law_room ["levels", "rate", "burst", "way"] []
  g__law_room : mg "_law_room" = some (.ref f__law_room)
  f__law_going : Addr
  d__law_going : FuncData
  F__law_going : Fun K "_law_going" "_law_going" s__law_going f__law_going d__law_going
  b__law_going : Binds K d__law_going ["box", "rule", "queue", "stays", "owed"] []
  g__law_going : mg "_law_going" = some (.ref f__law_going)
  f__law_played : Addr
  d__law_played : FuncData
  F__law_played : Fun K "_law_played" "_law_played" s__law_played f__law_played d__law_played
  b__law_played : Binds K d__law_played ["box", "belts", "ways", "d", "beats"] []
  g__law_played : mg "_law_played" = some (.ref f__law_played)
  f_law : Addr
  d_law : FuncData
  F_law : Fun K "law" "law" s_law f_law d_law
  b_law : Binds K d_law ["script"] []
  g_law : mg "law" = some (.ref f_law)
  C_Refused : Addr
  f_Refused_init : Addr
  g_Refused : mg "Refused" = some (.ref C_Refused)
  X_Refused : XCls K P C_Refused f_Refused_init
  I_Refused : ExcC K C_Refused
  t_MOST_BOTTOM : Tok
  c_MOST_BOTTOM : mg "MOST_BOTTOM" = some (.int (1000) t_MOST_BOTTOM)
  t_MOST_BELTS_OF_WAY : Tok
  c_MOST_BELTS_OF_WAY : mg "MOST_BELTS_OF_WAY" = some (.int (60) t_MOST_BELTS_OF_WAY)
  n_super : mg "super" = none
  z_isinstance : mg "isinstance" = none
  z_int : mg "int" = none
  z_bool : mg "bool" = none
  z_tuple : mg "tuple" = none
  z_len : mg "len" = none
  z_all : mg "all" = none
  z_abs : mg "abs" = none
  z_range : mg "range" = none
  z_max : mg "max" = none
  z_min : mg "min" = none
  z_any : mg "any" = none
/-! ### plain values -/
def okD : D → Bool
  | .non => true
  | .bl _ => true
  | .int _ => true
  | .str _ => true
  | .tup _ => true
  | .lst _ => true
  | _ => false
def isI : D → Bool
  | .int _ => true
  | _ => false
def isNum (d : D) (m : Option Int) : Bool := match d with
  | .int i => decide (0 ≤ i) && (match m with
    | some k => decide (i ≤ k)
    | none => true)
  | _ => false
theorem isNum_n {i : Int} : isNum (.int i) none = (decide (0 ≤ i) && true) := rfl
theorem isNum_s {i k : Int} : isNum (.int i) (some k) = (decide (0 ≤ i) && decide (i ≤ k)) := rfl
def isSq : D → Bool
  | .tup _ => true
  | .lst _ => true
  | _ => false
/-! ### sizes -/
theorem log_of {a : Int} {k : Nat} (h0 : 0 ≤ a) (h : a < 2 ^ (k + 1)) : a.natAbs.log2 ≤ k := by
  by_cases z : a.natAbs = 0
  · rw [z]
    exact Nat.zero_le _
  · have : a.natAbs < 2 ^ (k + 1) := by
      have e : ((a.natAbs : Nat) : Int) = a := Int.natAbs_of_nonneg h0
      have : ((a.natAbs : Nat) : Int) < ((2 ^ (k + 1) : Nat) : Int) := by
        rw [e]
        exact_mod_cast h
      omega
    exact Nat.le_of_lt_succ ((Nat.log2_lt z).mpr this)
theorem mulS {a b : Int} (ha : 0 ≤ a) (ha2 : a < 2 ^ 1000) (hb : 0 ≤ b) (hb2 : b < 2 ^ 1000) : MulOk a b := mulW_of (by
  have := log_of (k := 999) ha ha2
  have := log_of (k := 999) hb hb2
  omega)
theorem divS {a b : Int} (hb : 0 < b) (hb2 : b < 2 ^ 1000) : DivOk a b := divW_of hb (by
  have := log_of (k := 999) (by omega) hb2
  omega)
def gcdI (a b : Int) : Int := ((Int.gcd a b : Nat) : Int)
def low (a b : Int) : Int × Int := (a / gcdI a b, b / gcdI a b)
def prD (f : Int × Int) : D := .tup [.int f.1, .int f.2]
def sumF (f g : Int × Int) : Int × Int := low (f.1 * g.2 + g.1 * f.2) (f.2 * g.2)
def mulF (f g : Int × Int) : Int × Int := low (f.1 * g.1) (f.2 * g.2)
theorem gcd_step {a b : Int} (hb : 0 < b) : gcdI b (a % b) = gcdI a b := by
  unfold gcdI
  rw [Int.emod_def, Int.gcd_sub_mul_left_right, Int.gcd_comm]
theorem mul_lt {a b : Int} {j k l : Nat} (ha : 0 ≤ a) (hb : 0 ≤ b) (h1 : a < 2 ^ j) (h2 : b < 2 ^ k) (e : l = j + k) : a * b < 2 ^ l := by
  subst e
  rw [Int.pow_add]
  rcases Int.lt_or_eq_of_le ha with z | z
  · exact Int.lt_of_le_of_lt (Int.mul_le_mul_of_nonneg_left (Int.le_of_lt h2) ha) (Int.mul_lt_mul_of_pos_right h1 (Int.pow_pos (by decide)))
  · subst z
    rw [Int.zero_mul]
    exact Int.mul_pos (Int.pow_pos (by decide)) (Int.pow_pos (by decide))
theorem pow_up {j k : Nat} (hj : j ≤ k) : (2 : Int) ^ j ≤ 2 ^ k := by
  obtain ⟨n, rfl⟩ := Nat.le.dest hj
  rw [Int.pow_add]
  have h1 : (0 : Int) < 2 ^ j := Int.pow_pos (by decide)
  have h2 : (0 : Int) < 2 ^ n := Int.pow_pos (by decide)
  have h3 : (2 : Int) ^ j * 1 ≤ 2 ^ j * 2 ^ n := Int.mul_le_mul_of_nonneg_left (by omega) (by omega)
  omega
theorem big {a : Int} {j : Nat} (h : a < 2 ^ j) (hj : j ≤ 1000) : a < 2 ^ 1000 := Int.lt_of_lt_of_le h (pow_up hj)
/-! ### the promises -/
def sp_is_integer : ASp := fun ds M Φ _ => match ds with
  | [d] => okD d = true ∧ Φ (.bl (isI d)) M
  | _ => False
def sp_is_number : ASp := fun ds M Φ _ => match ds with
  | [d, .non] => okD d = true ∧ Φ (.bl (isNum d none)) M
  | [d, .int k] => okD d = true ∧ Φ (.bl (isNum d (some k))) M
  | _ => False
def sp_is_sequence : ASp := fun ds M Φ _ => match ds with
  | [d] => okD d = true ∧ Φ (.bl (isSq d)) M
  | _ => False
def sp_common_divisor : ASp := fun ds M Φ _ => match ds with
  | [.int a, .int b] => (0 ≤ a ∧ 0 ≤ b) ∧ Φ (.int (gcdI a b)) M
  | _ => False
def sp_lowest : ASp := fun ds M Φ _ => match ds with
  | [.int a, .int b] => (0 ≤ a ∧ 0 < b ∧ b < 2 ^ 1000) ∧ Φ (prD (low a b)) M
  | _ => False
def sp_sum_of : ASp := fun ds M Φ _ => match ds with
  | [.tup [.int a, .int b], .tup [.int c, .int d]] => (0 ≤ a ∧ 0 < b ∧ 0 ≤ c ∧ 0 < d ∧ a < 2 ^ 480 ∧ b < 2 ^ 480 ∧ c < 2 ^ 480 ∧ d < 2 ^ 480) ∧ Φ (prD (sumF (a, b) (c, d))) M
  | _ => False
def sp_product_of : ASp := fun ds M Φ _ => match ds with
  | [.tup [.int a, .int b], .tup [.int c, .int d]] => (0 ≤ a ∧ 0 < b ∧ 0 ≤ c ∧ 0 < d ∧ a < 2 ^ 480 ∧ b < 2 ^ 480 ∧ c < 2 ^ 480 ∧ d < 2 ^ 480) ∧ Φ (prD (mulF (a, b) (c, d))) M
  | _ => False

def shp : Nat → D → Bool
  | _, .int _ => true
  | _, .non => true
  | _, .bl _ => true
  | _, .str _ => true
  | n + 1, .tup ds => decide (ds.length ≤ 1000) && ds.all (shp n)
  | _, _ => false
def RP (p q : Int) : Prop := 1 ≤ p ∧ p < q ∧ q ≤ 1000
def okPr (d : D) : Bool := okD d && (match d with
  | .tup xs => xs.all fun d => okD d && (match d with
    | .int v => decide (-1000000000000 ≤ v) && decide (v ≤ 1000000000000)
    | _ => true)
  | _ => true)
def frOf (d : D) : Option (Int × Int) := match d with
  | .tup [.int a, .int b] => if 0 ≤ a ∧ 0 < b then some (a, b) else none
  | _ => none
def isFr (d : D) : Bool := match frOf d with
  | some f => decide (gcdI f.1 f.2 = 1)
  | none => false
def isRt (d : D) : Bool := match frOf d with
  | some f => decide (gcdI f.1 f.2 = 1) && (decide (0 < f.1) && (decide (f.1 < f.2) && decide (f.2 ≤ 1000)))
  | none => false
def sp_is_fraction : ASp := fun ds M Φ _ => match ds with
  | [d] => okPr d = true ∧ Φ (.bl (isFr d)) M
  | _ => False
def sp_is_rate : ASp := fun ds M Φ _ => match ds with
  | [d] => okPr d = true ∧ Φ (.bl (isRt d)) M
  | _ => False
def sp_need_rate (CR : Addr) : ASp := fun ds M Φ Ψ => match ds with
  | [d] => okPr d = true ∧ (isRt d = true → Φ .non M) ∧ (isRt d = false → Ψ ⟨CR, .str "rate"⟩ M)
  | _ => False
theorem frOf_some {d : D} {f : Int × Int} (h : frOf d = some f) : d = prD f ∧ 0 ≤ f.1 ∧ 0 < f.2 := by
  unfold frOf at h
  split at h
  · split at h
    · cases h
      rename_i z
      exact ⟨rfl, z⟩
    · cases h
  · cases h
theorem isFr_some {d : D} {f : Int × Int} (h : frOf d = some f) : isFr d = decide (gcdI f.1 f.2 = 1) := by
  unfold isFr
  rw [h]
theorem isFr_none {d : D} (h : frOf d = none) : isFr d = false := by
  unfold isFr
  rw [h]
theorem isRt_some {d : D} {f : Int × Int} (h : frOf d = some f) : isRt d = (decide (gcdI f.1 f.2 = 1) && (decide (0 < f.1) && (decide (f.1 < f.2) && decide (f.2 ≤ 1000)))) := by
  unfold isRt
  rw [h]
theorem isRt_none {d : D} (h : frOf d = none) : isRt d = false := by
  unfold isRt
  rw [h]
theorem isFr_inv {d : D} (h : isFr d = true) : ∃ f, frOf d = some f ∧ d = prD f ∧ 0 ≤ f.1 ∧ 0 < f.2 ∧ gcdI f.1 f.2 = 1 := by
  cases e : frOf d with
  | none =>
    rw [isFr_none e] at h
    cases h
  | some f =>
    rw [isFr_some e] at h
    obtain ⟨h1, h2, h3⟩ := frOf_some e
    exact ⟨f, rfl, h1, h2, h3, of_decide_eq_true h⟩
theorem isRt_no {d : D} (h : isFr d = false) : isRt d = false := by
  cases e : frOf d with
  | none => exact isRt_none e
  | some f =>
    rw [isFr_some e] at h
    rw [isRt_some e, h]
    rfl
theorem frOf_2 {a b : Int} (h : 0 ≤ a ∧ 0 < b) : frOf (.tup [.int a, .int b]) = some (a, b) := if_pos h
theorem frOf_2n {a b : Int} (h : ¬ (0 ≤ a ∧ 0 < b)) : frOf (.tup [.int a, .int b]) = none := if_neg h
theorem frOf_len {xs : List D} (h : xs.length ≠ 2) : frOf (.tup xs) = none := by
  match xs, h with
  | [], _ => rfl
  | [a], _ => cases a <;> rfl
  | [_, _], h => exact absurd rfl h
  | a :: b :: _ :: _, _ => cases a <;> first
    | rfl
    | (cases b <;> rfl)
theorem frOf_num {a b : D} (h : ¬ (isNum a none = true ∧ isNum b none = true)) : frOf (.tup [a, b]) = none := by
  cases a <;> first
    | rfl
    | (cases b <;> first
        | rfl
        | (rename_i x y
           refine frOf_2n fun z => h ⟨?_, ?_⟩
           · rw [isNum_n, decide_eq_true z.1]
             rfl
           · rw [isNum_n, decide_eq_true (by omega : 0 ≤ y)]
             rfl))
theorem num_of {b : D} (h : isNum b none = true) : ∃ v, b = .int v ∧ 0 ≤ v := by
  cases b <;> first
    | exact Bool.noConfusion h
    | (rename_i v
       rw [isNum_n, Bool.and_true] at h
       exact ⟨v, rfl, of_decide_eq_true h⟩)
theorem okPr_2 {a b : D} (h : okPr (.tup [a, b]) = true) : okD a = true ∧ okD b = true ∧ (∀ v, a = .int v → -1000000000000 ≤ v ∧ v ≤ 1000000000000) ∧ ∀ v, b = .int v → -1000000000000 ≤ v ∧ v ≤ 1000000000000 := by
  unfold okPr at h
  simp only [List.all_cons, List.all_nil, Bool.and_eq_true, Bool.and_true] at h
  obtain ⟨_, ⟨h1, h2⟩, h3, h4⟩ := h
  refine ⟨h1, h3, fun v e => ?_, fun v e => ?_⟩
  · subst e
    replace h2 : (decide (-1000000000000 ≤ v) && decide (v ≤ 1000000000000)) = true := by first | exact h2 | (rw [Bool.and_eq_true]; exact h2)
    rw [Bool.and_eq_true] at h2
    exact ⟨of_decide_eq_true h2.1, of_decide_eq_true h2.2⟩
  · subst e
    replace h4 : (decide (-1000000000000 ≤ v) && decide (v ≤ 1000000000000)) = true := by first | exact h4 | (rw [Bool.and_eq_true]; exact h4)
    rw [Bool.and_eq_true] at h4
    exact ⟨of_decide_eq_true h4.1, of_decide_eq_true h4.2⟩
theorem okPr_t {a b : Int} (ha : -1000000000000 ≤ a ∧ a ≤ 1000000000000) (hb : -1000000000000 ≤ b ∧ b ≤ 1000000000000) : okPr (.tup [.int a, .int b]) = true := by
  show (true && ((true && (decide (-1000000000000 ≤ a) && decide (a ≤ 1000000000000))) && ((true && (decide (-1000000000000 ≤ b) && decide (b ≤ 1000000000000))) && true))) = true
  rw [decide_eq_true ha.1, decide_eq_true ha.2, decide_eq_true hb.1, decide_eq_true hb.2]
  rfl

def Zb (k : Nat) (x : Int) : Prop := x.natAbs < 2 ^ k
instance {k : Nat} {x : Int} : Decidable (Zb k x) := inferInstanceAs (Decidable (x.natAbs < 2 ^ k))
theorem Zb.of {k : Nat} {x : Int} (h0 : 0 ≤ x) (h : x < 2 ^ k) : Zb k x := by
  unfold Zb
  have e : ((x.natAbs : Nat) : Int) = x := Int.natAbs_of_nonneg h0
  have : ((x.natAbs : Nat) : Int) < ((2 ^ k : Nat) : Int) := by
    rw [e]
    exact_mod_cast h
  omega
theorem Zb.up {j k : Nat} {x : Int} (h : Zb j x) (hj : j ≤ k) : Zb k x := Nat.lt_of_lt_of_le h (Nat.pow_le_pow_right (by decide) hj)
theorem Zb.mul {j k l : Nat} {x y : Int} (h : Zb j x) (g : Zb k y) (e : l = j + k) : Zb l (x * y) := by
  subst e
  unfold Zb at *
  rw [Int.natAbs_mul, Nat.pow_add]
  exact Nat.mul_lt_mul'' h g
theorem Zb.sub {k l : Nat} {x y : Int} (h : Zb k x) (g : Zb k y) (e : l = k + 1) : Zb l (x - y) := by
  subst e
  unfold Zb at *
  have := Int.natAbs_sub_le x y
  rw [Nat.pow_succ]
  omega
theorem Zb.lt {k : Nat} {x : Int} (h : Zb k x) (h0 : 0 ≤ x) : x < 2 ^ k := by
  unfold Zb at h
  have e : ((x.natAbs : Nat) : Int) = x := Int.natAbs_of_nonneg h0
  have : ((x.natAbs : Nat) : Int) < ((2 ^ k : Nat) : Int) := by exact_mod_cast h
  rw [e] at this
  exact_mod_cast this
theorem mulZ {x y : Int} (h : Zb 1000 x) (g : Zb 1000 y) : MulOk x y := mulW_of (by
  have lg : ∀ {a : Int}, Zb 1000 a → a.natAbs.log2 ≤ 1000 := fun {a} z => by
    by_cases e : a.natAbs = 0
    · rw [e]
      exact Nat.zero_le _
    · exact Nat.le_of_lt ((Nat.log2_lt e).mpr z)
  have := lg h
  have := lg g
  omega)
/-! ### what is alike -/
def spSame : Nat → ASp
  | 0 => fun _ _ _ _ => False
  | n + 1 => fun ds M Φ _ => ∃ t d, ds = [t, d] ∧ (t = d ∧ shp n d = true) ∧ Φ (.bl true) M
theorem idx_non {p : Nat → Prop} (h : p 0) : (flatD .non = true ∧ [D.non, .bl true, .bl false].all flatD = true) ∧ ∃ (j : Nat) (z : D), [D.non, .bl true, .bl false][j]? = some z ∧ eqFD z .non = true ∧ (∀ m z', m < j → [D.non, .bl true, .bl false][m]? = some z' → eqFD z' .non = false) ∧ p j :=
  ⟨⟨rfl, rfl⟩, 0, _, rfl, rfl, fun m _ hm _ => absurd hm (Nat.not_lt_zero m), h⟩
theorem idx_tr {p : Nat → Prop} (h : p 1) : (flatD (.bl true) = true ∧ [D.non, .bl true, .bl false].all flatD = true) ∧ ∃ (j : Nat) (z : D), [D.non, .bl true, .bl false][j]? = some z ∧ eqFD z (.bl true) = true ∧ (∀ m z', m < j → [D.non, .bl true, .bl false][m]? = some z' → eqFD z' (.bl true) = false) ∧ p j :=
  ⟨⟨rfl, rfl⟩, 1, _, rfl, rfl, fun m z' hm hz => by
    obtain rfl : m = 0 := by omega
    cases hz
    rfl, h⟩
theorem idx_fa {p : Nat → Prop} (h : p 2) : (flatD (.bl false) = true ∧ [D.non, .bl true, .bl false].all flatD = true) ∧ ∃ (j : Nat) (z : D), [D.non, .bl true, .bl false][j]? = some z ∧ eqFD z (.bl false) = true ∧ (∀ m z', m < j → [D.non, .bl true, .bl false][m]? = some z' → eqFD z' (.bl false) = false) ∧ p j :=
  ⟨⟨rfl, rfl⟩, 2, _, rfl, rfl, fun m z' hm hz => by
    rcases (by omega : m = 0 ∨ m = 1) with rfl | rfl
    · cases hz
      rfl
    · cases hz
      rfl, h⟩
def optD (o : Option Int) : D := match o with
  | some i => .int i
  | none => .non
theorem optD_some {i : Int} : optD (some i) = .int i := rfl
theorem optD_none : optD none = .non := rfl
theorem shp_opt {n : Nat} {o : Option Int} : shp n (optD o) = true := by
  cases o <;> cases n <;> rfl
theorem num_60 {d : D} (h : isNum d (some 60) = true) : ∃ n : Int, d = .int n ∧ 0 ≤ n ∧ n ≤ 60 := by
  cases d <;> first
    | exact Bool.noConfusion h
    | (rw [isNum_s, Bool.and_eq_true] at h
       exact ⟨_, rfl, of_decide_eq_true h.1, of_decide_eq_true h.2⟩)
/-! ### the numbers -/
def goodB (d : D) : Bool := match d with
  | .int i => decide (0 < i)
  | _ => false
def goodD (d : D) : Bool := match d with
  | .int i => decide (0 < i) && decide (i ≤ 60)
  | _ => false
structure Need (CR : Addr) (r b d : D) (M : Mm) (Ψ : XD → Mm → Prop) (p : Prop) : Prop where
  r0 : okPr r = true
  r1 : isRt r = false → Ψ ⟨CR, .str "rate"⟩ M
  b0 : isRt r = true → okD b = true
  b1 : isRt r = true → goodB b = false → Ψ ⟨CR, .str "burst"⟩ M
  d0 : isRt r = true → goodB b = true → okD d = true
  d1 : isRt r = true → goodB b = true → goodD d = false → Ψ ⟨CR, .str "belts"⟩ M
  go : isRt r = true → goodB b = true → goodD d = true → p
def sp_need_numbers (CR : Addr) : ASp := fun ds M Φ Ψ => match ds with
  | [r, b, d] => Need CR r b d M Ψ (Φ .non M)
  | _ => False
def stayF (p q b n : Int) : Option Int := if p * n < q then some ((b - 1) * q / (q - p * n) + 1) else none
def tripF (p q b n : Int) : Option Int := (stayF p q b n).map (· * n)
def waitF (p q b n : Int) : Option Int := (tripF p q b n).map fun t => p * t / q + b
def Args (r b d : D) (k : Int → Int → Int → Int → Prop) : Prop := ∀ p q i n : Int, r = .tup [.int p, .int q] → b = .int i → d = .int n → 0 < p → p < q → q ≤ 1000 → 0 < i → 0 < n → n ≤ 60 → k p q i n
def sp_is_slow (CR : Addr) : ASp := fun ds M Φ Ψ => match ds with
  | [r, d] => Need CR r (.int 1) d M Ψ (Args r (.int 1) d fun p q _ n => Φ (.bl (decide (p * n < q))) M)
  | _ => False
def sp_stay_bound (CR : Addr) : ASp := fun ds M Φ Ψ => match ds with
  | [r, b, d] => Need CR r b d M Ψ (Args r b d fun p q i n => Φ (optD (stayF p q i n)) M)
  | _ => False
def sp_trip_bound (CR : Addr) : ASp := fun ds M Φ Ψ => match ds with
  | [r, b, d] => Need CR r b d M Ψ (Args r b d fun p q i n => Φ (optD (tripF p q i n)) M)
  | _ => False
def sp_wait_bound (CR : Addr) : ASp := fun ds M Φ Ψ => match ds with
  | [r, b, d] => Need CR r b d M Ψ (Args r b d fun p q i n => Φ (optD (waitF p q i n)) M)
  | _ => False
theorem rt_inv {d : D} (h : isRt d = true) : ∃ p q : Int, d = .tup [.int p, .int q] ∧ 0 < p ∧ p < q ∧ q ≤ 1000 := by
  cases e : frOf d with
  | none =>
    rw [isRt_none e] at h
    cases h
  | some f =>
    obtain ⟨rfl, f0, f1⟩ := frOf_some e
    rw [isRt_some e] at h
    simp only [Bool.and_eq_true, decide_eq_true_eq] at h
    exact ⟨f.1, f.2, rfl, h.2.1, h.2.2.1, h.2.2.2⟩
theorem rt_of {p q : Int} (hp : RP p q) (hg : gcdI p q = 1) : isRt (.tup [.int p, .int q]) = true := by
  unfold RP at hp
  rw [isRt_some (frOf_2 ⟨by omega, by omega⟩)]
  simp only [Bool.and_eq_true, decide_eq_true_eq]
  exact ⟨hg, by omega, by omega, by omega⟩
theorem goodB_inv {d : D} (h : goodB d = true) : ∃ i : Int, d = .int i ∧ 0 < i := by
  cases d <;> first
    | exact Bool.noConfusion h
    | exact ⟨_, rfl, of_decide_eq_true h⟩
theorem goodD_inv {d : D} (h : goodD d = true) : ∃ i : Int, d = .int i ∧ 0 < i ∧ i ≤ 60 := by
  cases d <;> first
    | exact Bool.noConfusion h
    | (unfold goodD at h
       simp only [Bool.and_eq_true, decide_eq_true_eq] at h
       exact ⟨_, rfl, h.1, h.2⟩)
/-- what is handed on where numbers are needed once more -/
theorem Need.on {CR : Addr} {r b d : D} {M : Mm} {Ψ Ψ' : XD → Mm → Prop} {p q : Prop} (h : Need CR r b d M Ψ p) (hΨ : ∀ x, Ψ x M → Ψ' x M) (hp : (isRt r = true → goodB b = true → goodD d = true → p) → isRt r = true → goodB b = true → goodD d = true → q) : Need CR r b d M Ψ' q :=
  ⟨h.r0, fun z => hΨ _ (h.r1 z), h.b0, fun z y => hΨ _ (h.b1 z y), h.d0, fun z y x => hΨ _ (h.d1 z y x), hp h.go⟩
theorem Need.all {CR : Addr} {r b d : D} {M : Mm} {Ψ : XD → Mm → Prop} {p : Prop} (h1 : okPr r = true) (h2 : isRt r = true) (h3 : okD b = true) (h4 : goodB b = true) (h5 : okD d = true) (h6 : goodD d = true) (h : p) : Need CR r b d M Ψ p :=
  ⟨h1, fun z => Bool.noConfusion (h2.symm.trans z), fun _ => h3, fun _ z => Bool.noConfusion (h4.symm.trans z), fun _ _ => h5, fun _ _ z => Bool.noConfusion (h6.symm.trans z), fun _ _ _ => h⟩
/-! ### draws -/
def spPick54 (b : Addr) : ASp := fun ds M Φ _ => match ds with
  | [.ref b', .lst xs] => b' = b ∧ (0 < xs.length ∧ xs.length < 1000000) ∧ ∀ d ∈ xs, Φ d M
  | _ => False
def sp__law_box : ASp := fun ds M Φ _ => match ds with
  | [.lst xs, .int k] => (0 ≤ k ∧ k ≤ 3) ∧ ∃ ns : List Int, xs = ns.map D.int ∧ ns.length ≤ 63 ∧ ∀ b a x y, Φ (.ref b) (boxM b a x y ++ M)
  | _ => False
def sp_rate54 (b : Addr) : ASp := fun ds M Φ _ => match ds with
  | [.ref b', .int d] => b' = b ∧ (1 ≤ d ∧ d ≤ 60) ∧ ∀ p q : Int, RP p q → gcdI p q = 1 → Φ (.tup [.int p, .int q]) M
  | _ => False
structure Rd (i t b : Int) : Prop where
  t1 : 1 ≤ t
  tb : t < b
  b1 : b ≤ 1000
  no : ∀ d : Int, 2 ≤ d → d < i → d ∣ t → d ∣ b → False
theorem Rd.less {i j t b : Int} (h : Rd i t b) (hj : j ≤ i) : Rd j t b := ⟨h.t1, h.tb, h.b1, fun d a c => h.no d a (by omega)⟩
theorem Rd.div {i t b : Int} (h : Rd i t b) (hi : 2 ≤ i) (ht : i ∣ t) (hb : i ∣ b) : Rd i (t / i) (b / i) ∧ (t / i).toNat < t.toNat := by
  obtain ⟨x, rfl⟩ := ht
  obtain ⟨y, rfl⟩ := hb
  rw [Int.mul_ediv_cancel_left _ (by omega), Int.mul_ediv_cancel_left _ (by omega)]
  obtain ⟨t1, tb, b1, no⟩ := h
  have x0 : 0 < x := Int.pos_of_mul_pos_right t1 (by omega)
  have xy : x < y := Int.lt_of_mul_lt_mul_left tb (by omega)
  have y1 : 1 * y ≤ i * y := Int.mul_le_mul_of_nonneg_right (by omega) (by omega)
  have x2 : 2 * x ≤ i * x := Int.mul_le_mul_of_nonneg_right hi (by omega)
  exact ⟨⟨x0, xy, by omega, fun d d2 di dx dy => no d d2 di (Int.dvd_trans dx (Int.dvd_mul_left _ _)) (Int.dvd_trans dy (Int.dvd_mul_left _ _))⟩, by omega⟩
theorem Rd.next {i t b : Int} (h : Rd i t b) (hp : ¬ (i ∣ t ∧ i ∣ b)) : Rd (i + 1) t b :=
  ⟨h.t1, h.tb, h.b1, fun d d2 di dx dy => by
    rcases Int.lt_or_eq_of_le (Int.le_of_lt_add_one di) with z | rfl
    · exact h.no d d2 z dx dy
    · exact hp ⟨dx, dy⟩⟩
theorem Rd.big {i t b : Int} (h : Rd i t b) (hi : 32 ≤ i) (ht : i ∣ t) (hb : i ∣ b) : Rd (i + 1) (t / i) (b / i) := by
  refine (h.div (by omega) ht hb).1.next fun ⟨_, dy⟩ => ?_
  obtain ⟨y, rfl⟩ := hb
  rw [Int.mul_ediv_cancel_left _ (by omega)] at dy
  obtain ⟨z, rfl⟩ := dy
  have b0 : 0 < i * (i * z) := by
    have := h.t1
    have := h.tb
    omega
  have z0 : 0 < i * z := Int.pos_of_mul_pos_right b0 (by omega)
  have z1 : 0 < z := Int.pos_of_mul_pos_right z0 (by omega)
  have a1 : i * 1 ≤ i * z := Int.mul_le_mul_of_nonneg_left (by omega) (by omega)
  have a2 : 32 * 32 ≤ i * (i * z) := Int.mul_le_mul hi (by omega) (by decide) (by omega)
  have := h.b1
  omega
theorem Rd.fin {t b : Int} (h : Rd 1000 t b) : RP t b ∧ gcdI t b = 1 := by
  refine ⟨⟨h.t1, h.tb, h.b1⟩, ?_⟩
  have g0 := Int.gcd_pos_of_ne_zero_right t (show b ≠ 0 by have := h.t1; have := h.tb; omega)
  have d1 := Int.gcd_dvd_left t b
  have d2 := Int.gcd_dvd_right t b
  have g1 := Int.le_of_dvd (by have := h.t1; omega) d1
  have h1 := h.tb
  have h2 := h.b1
  show ((Int.gcd t b : Nat) : Int) = 1
  rcases Nat.lt_or_ge (Int.gcd t b) 2 with z | z
  · omega
  · exact (h.no _ (by omega) (by omega) d1 d2).elim
/-! ### refused -/
def sp_refused (CR : Addr) : LSp := fun R ds M Φ => match ds with
  | [] => ∃ d, shp 0 d = true ∧ ∀ (Φ' : AK) (Ψ' : XD → Mm → Prop), (∀ M', Φ (.tup [.str "refused", d]) M' → Ψ' ⟨CR, d⟩ M') → R M Φ' Ψ'
  | _ => False
theorem len__law_refused_L {CR : Addr} : ∀ R ds M Φ, sp_refused CR R ds M Φ → ds.length = ([] : List Str).length := fun R ds M Φ h => by
  unfold sp_refused at h
  split at h
  · rfl
  · exact h.elim
def sp__law_right : ASp := fun ds M Φ _ => match ds with
  | [.tup [.int p, .int q], .int b, .int d] => (RP p q ∧ gcdI p q = 1) ∧ (0 < b ∧ b ≤ 1000000000000) ∧ (0 < d ∧ d ≤ 60) ∧ Φ (.bl true) M
  | _ => False
def sp__law_refusals : ASp := fun ds M Φ _ => match ds with
  | [_, .tup [.int p, .int q], .int b, .int d] => (RP p q ∧ gcdI p q = 1) ∧ (0 < b ∧ b ≤ 1000000000000) ∧ (0 < d ∧ d ≤ 60) ∧ Φ (.bl true) M
  | _ => False
def vals1 : List D := [.non, .tup [.int 1, .int 1], .tup [.int 2, .int 4], .tup [.int 0, .int 1], .tup [.int 3, .int 2], .tup [.int 1, .int 0], .lst [.int 1, .int 2], .tup [.int 1], .tup [.int 1, .int 2, .int 3], .tup [.bl true, .int 2], .tup [.str "1", .int 2], .int 1, .tup [.int 1, .int 1009], .tup [.int (-1), .int 2]]
theorem vals1_ok : ∀ v ∈ vals1, okPr v = true ∧ isRt v = false := by
  have h : vals1.all (fun v => okPr v && !isRt v) = true := by decide +kernel
  intro v hv
  have := List.all_eq_true.mp h v hv
  rw [Bool.and_eq_true, Bool.not_eq_true'] at this
  exact this
def vals2 : List D := [.int 0, .non, .int (-1), .bl true, .str "1", .tup [.int 1]]
theorem vals2_ok : ∀ v ∈ vals2, okD v = true ∧ goodB v = false := by
  have h : vals2.all (fun v => okD v && !goodB v) = true := by decide +kernel
  intro v hv
  have := List.all_eq_true.mp h v hv
  rw [Bool.and_eq_true, Bool.not_eq_true'] at this
  exact this
def vals3 : List D := [.int 0, .non, .int (-1), .bl true, .str "1", .tup [.int 1], .int 61]
theorem vals3_ok : ∀ v ∈ vals3, okD v = true ∧ goodD v = false := by
  have h : vals3.all (fun v => okD v && !goodD v) = true := by decide +kernel
  intro v hv
  have := List.all_eq_true.mp h v hv
  rw [Bool.and_eq_true, Bool.not_eq_true'] at this
  exact this
theorem Need.rate {CR : Addr} {r b d : D} {M : Mm} {Ψ : XD → Mm → Prop} {p : Prop} (h1 : okPr r = true) (h2 : isRt r = false) (h : Ψ ⟨CR, .str "rate"⟩ M) : Need CR r b d M Ψ p :=
  ⟨h1, fun _ => h, fun z => Bool.noConfusion (h2.symm.trans z), fun z => Bool.noConfusion (h2.symm.trans z), fun z => Bool.noConfusion (h2.symm.trans z), fun z => Bool.noConfusion (h2.symm.trans z), fun z => Bool.noConfusion (h2.symm.trans z)⟩
theorem Need.burst {CR : Addr} {r b d : D} {M : Mm} {Ψ : XD → Mm → Prop} {p : Prop} (h1 : okPr r = true) (h2 : isRt r = true) (h3 : okD b = true) (h4 : goodB b = false) (h : Ψ ⟨CR, .str "burst"⟩ M) : Need CR r b d M Ψ p :=
  ⟨h1, fun z => Bool.noConfusion (h2.symm.trans z), fun _ => h3, fun _ _ => h, fun _ z => Bool.noConfusion (h4.symm.trans z), fun _ z => Bool.noConfusion (h4.symm.trans z), fun _ z => Bool.noConfusion (h4.symm.trans z)⟩
theorem Need.belts {CR : Addr} {r b d : D} {M : Mm} {Ψ : XD → Mm → Prop} {p : Prop} (h1 : okPr r = true) (h2 : isRt r = true) (h3 : okD b = true) (h4 : goodB b = true) (h5 : okD d = true) (h6 : goodD d = false) (h : Ψ ⟨CR, .str "belts"⟩ M) : Need CR r b d M Ψ p :=
  ⟨h1, fun z => Bool.noConfusion (h2.symm.trans z), fun _ => h3, fun _ z => Bool.noConfusion (h4.symm.trans z), fun _ _ => h5, fun _ _ _ => h, fun _ _ z => Bool.noConfusion (h6.symm.trans z)⟩

/-! ### the promises of this law's own -/
abbrev nD (i : Nat) : D := .int (i : Nat)
abbrev wD (w : List Nat) : D := .tup (w.map nD)
def p2D (t : Nat × Nat) : D := .tup [.int (t.1 : Nat), .int (t.2 : Nat)]
theorem seqIx {j n : Nat} (h : j < n) : seqIndex? (j : Int) n = some j := by
  unfold seqIndex?
  have a : ¬ ((j : Int) < 0) := by omega
  simp [a, h]
def lsF (n : Nat) (f : Nat → D) : List D := (List.range n).map f
theorem lsF_len {n : Nat} {f : Nat → D} : (lsF n f).length = n := by
  unfold lsF
  rw [List.length_map, List.length_range]
theorem lsF_get {n k : Nat} {f : Nat → D} (h : k < n) : (lsF n f)[k]? = some (f k) := by
  unfold lsF
  rw [List.getElem?_map, List.getElem?_range h]
  rfl
theorem lsF_ix {n k : Nat} {f : Nat → D} (h : k < n) : getI (lsF n f) (k : Int) = some (f k) := getI_nat (lsF_get h)
theorem lsF_ix0 {n k : Nat} {f : Nat → D} (h : k < n) : getI (lsF n f) (0 + (k : Int)) = some (f k) := by
  rw [Int.zero_add]
  exact lsF_ix h
theorem lsF_eq {n : Nat} {f g : Nat → D} (h : ∀ i, i < n → f i = g i) : lsF n f = lsF n g := List.map_congr_left fun i hi => h i (List.mem_range.mp hi)
theorem lsF_set {n k : Nat} {f g : Nat → D} {v : D} (h : ∀ i, i < n → g i = if k = i then v else f i) : (lsF n f).set k v = lsF n g := by
  unfold lsF
  refine List.ext_getElem (by simp) fun i h1 h2 => ?_
  rw [List.getElem_set, List.getElem_map, List.getElem_map, List.getElem_range]
  have hi : i < n := by
    rw [List.length_map, List.length_range] at h2
    exact h2
  rw [h i hi]
theorem lsF_snoc {n : Nat} {f g : Nat → D} {v : D} (h : ∀ i, i < n → g i = f i) (hv : g n = v) : lsF n f ++ [v] = lsF (n + 1) g := by
  unfold lsF
  rw [List.range_succ, List.map_append, List.map_singleton, hv]
  congr 1
  exact List.map_congr_left fun i hi => (h i (List.mem_range.mp hi)).symm
/-- a rate of the menu -/
def Rt55 (p q d : Nat) : Prop := 1 ≤ p ∧ p * d < q ∧ q ≤ 20 ∧ gcdI (p : Nat) (q : Nat) = 1
instance {p q d : Nat} : Decidable (Rt55 p q d) := by
  unfold Rt55
  infer_instance
/-- belts, ways -/
def Wy55 (n d : Nat) (ws : List (List Nat)) : Prop := ∀ w ∈ ws, w.Nodup ∧ w ≠ [] ∧ w.length ≤ d ∧ ∀ e ∈ w, e < n
def spPick55 (b : Addr) : ASp := fun ds M Φ _ => match ds with
  | [.ref b', .lst xs] => b' = b ∧ (0 < xs.length ∧ xs.length < 1000000) ∧ ∀ d ∈ xs, Φ d M
  | [.ref b', .ref l] => b' = b ∧ ∃ xs, (l, MO.lst xs) ∈ M ∧ (0 < xs.length ∧ xs.length < 1000000) ∧ ∀ d ∈ xs, Φ d M
  | _ => False
def sp__law_web (b : Addr) : ASp := fun ds M Φ _ => match ds with
  | [.ref b', .int m, .int k] => (b' = b ∧ m = 6 ∧ k = 10) ∧ ∀ (n : Int) (es : List (Int × Int)), es.length ≤ 10 → Φ (.tup [.int n, .tup (es.map prD)]) M
  | _ => False
def sp__law_turns : ASp := fun ds M Φ _ => match ds with
  | [.tup xs] => ∃ es : List (Int × Int), xs = es.map prD ∧ es.length ≤ 10 ∧ ∀ ts : List (Nat × Nat), (∀ t ∈ ts, t.2 < es.length) → ts.length ≤ 100 → Φ (.lst (ts.map p2D)) M
  | _ => False
def sp__law_ways (b : Addr) : ASp := fun ds M Φ _ => match ds with
  | [.ref b', .tup xs] => b' = b ∧ ∃ es : List (Int × Int), xs = es.map prD ∧ (1 ≤ es.length ∧ es.length ≤ 10) ∧ ∀ (ws : List (List Nat)) (d : Nat), (0 < ws.length ∧ ws.length ≤ 6) → (1 ≤ d ∧ d ≤ 6) → Wy55 es.length d ws → Φ (.tup [.lst (ws.map wD), .int d]) M
  | _ => False
def sp__law_rate (b : Addr) : ASp := fun ds M Φ _ => match ds with
  | [.ref b', .int d] => b' = b ∧ (1 ≤ d ∧ d ≤ 6) ∧ ∀ p q : Nat, Rt55 p q d.toNat → Φ (.tup [.int p, .int q]) M
  | _ => False
def sp__law_room : ASp := fun ds M Φ _ => match ds with
  | [.ref l, .tup [.int p, .int q], .int b, .tup ys] => ∃ (n : Nat) (lv : Nat → Nat) (w : List Nat), (l, MO.lst (lsF n fun e => nD (lv e))) ∈ M ∧ ys = w.map nD ∧ (0 ≤ p ∧ 0 ≤ q ∧ q ≤ 1000 ∧ 0 ≤ b ∧ b ≤ 1000) ∧ w.length ≤ 1000 ∧ (∀ e ∈ w, e < n) ∧ Φ (.bl (w.all fun e => decide ((lv e : Int) + q ≤ q * b + p))) M
  | _ => False
def sp__law_going (b : Addr) : ASp := fun ds M Φ _ => match ds with
  | [.ref b', .int _, .ref lq, _, .ref lo] => b' = b ∧ ∃ (l : List Nat) (n : Nat) (ow : Nat → List Nat), (lq, MO.lst (l.map nD)) ∈ M ∧ (lo, MO.lst (lsF n fun i => wD (ow i))) ∈ M ∧ (0 < l.length ∧ l.length ≤ 100000) ∧ (∀ x ∈ l, x < n ∧ (ow x).length ≤ 1000 ∧ x < 1000000) ∧ ∀ x ∈ l, Φ (nD x) M
  | _ => False
def sp__law_played (b : Addr) : ASp := fun ds M Φ _ => match ds with
  | [.ref b', .tup xs, .lst ys, .int d, .int t] => (b' = b ∧ t = 40) ∧ ∃ (es : List (Int × Int)) (ws : List (List Nat)) (d' : Nat), xs = es.map prD ∧ ys = ws.map wD ∧ d = d' ∧ (1 ≤ es.length ∧ es.length ≤ 10) ∧ (0 < ws.length ∧ ws.length ≤ 6) ∧ (1 ≤ d' ∧ d' ≤ 6) ∧ Wy55 es.length d' ws ∧ Φ (.bl true) M
  | _ => False
/-- a comprehension whose parts are functions of the item -/
theorem aLc_pureS {ai : AI} {g : AG} {tt : AT} {te : AE} {vs : List Nat} {Γ : Gm} {M : Mm} {Φ : AK} {α : Type} (xs : List α) (emb : α → D) (f : α → Bool) (v : α → D) (hai : ∀ Φ' : List D → Mm → Prop, Φ' (xs.map emb) M → ai Γ M Φ') (hlen : xs.length ≤ 100000)
    (h : ∀ x ∈ xs, ∀ M', (∀ z ∈ M, z ∈ M') → ∃ Γ2, g (emb x) (wipeG Γ vs) = some Γ2 ∧ (∀ Φ' : Bool → Mm → Prop, Φ' (f x) M' → tt Γ2 M' Φ') ∧ (f x = true → ∀ Φ' : AK, Φ' (v x) M' → te Γ2 M' Φ'))
    (k : Φ (.lst ((xs.filter f).map v)) M) : aLc ai g tt te vs Γ M Φ := by
  unfold aLc
  refine hai _ ⟨by rw [List.length_map]; exact hlen, fun i acc M' => acc = ((xs.take i).filter f).map v ∧ M' = M, ⟨rfl, rfl⟩, ?_, ?_⟩
  · rintro i d acc M' l hd ⟨rfl, rfl⟩
    rw [List.getElem?_map] at hd
    cases hx : xs[i]? with
    | none =>
      rw [hx] at hd
      cases hd
    | some x =>
      rw [hx] at hd
      cases hd
      obtain ⟨Γ2, e, h1, h2⟩ := h x (List.mem_of_getElem? hx) ((l, .lst (((xs.take i).filter f).map v)) :: M') (fun z hz => .tail _ hz)
      rw [e]
      refine h1 _ ⟨fun hf => h2 hf _ ⟨M', .here, ?_, rfl⟩, fun hf => ⟨M', .here, ?_, rfl⟩⟩
      · rw [List.take_add_one, hx, List.filter_append, List.map_append]
        show _ ++ [v x] = _ ++ (List.filter f [x]).map v
        rw [List.filter_cons, if_pos hf]
        rfl
      · rw [List.take_add_one, hx, List.filter_append, List.map_append]
        show _ = _ ++ (List.filter f [x]).map v
        rw [List.filter_cons, if_neg (by rw [hf]; decide)]
        show _ = _ ++ []
        rw [List.append_nil]
  · rintro acc M' ⟨rfl, rfl⟩ _
    rw [List.length_map, List.take_length]
    exact k
/-- no test -/
theorem aLc_mapS {ai : AI} {g : AG} {te : AE} {vs : List Nat} {Γ : Gm} {M : Mm} {Φ : AK} {α : Type} (xs : List α) (emb : α → D) (v : α → D) (hai : ∀ Φ' : List D → Mm → Prop, Φ' (xs.map emb) M → ai Γ M Φ') (hlen : xs.length ≤ 100000)
    (h : ∀ x ∈ xs, ∀ M', (∀ z ∈ M, z ∈ M') → ∃ Γ2, g (emb x) (wipeG Γ vs) = some Γ2 ∧ (∀ Φ' : AK, Φ' (v x) M' → te Γ2 M' Φ'))
    (k : Φ (.lst (xs.map v)) M) : aLc ai g aYes te vs Γ M Φ := by
  refine aLc_pureS xs emb (fun _ => true) v hai hlen (fun x hx M' hs => ?_) ?_
  · obtain ⟨Γ2, e, h1⟩ := h x hx M' hs
    exact ⟨Γ2, e, fun _ q => q, fun _ => h1⟩
  · rw [List.filter_eq_self.mpr (fun _ _ => rfl)]
    exact k

/-! ### slow feeders: parcels by number, in plain Lean -/
structure Sl where
  n : Nat
  p : Nat
  q : Nat
  b : Nat
  d : Nat
  S : Nat
  hb : 1 ≤ b
  hd : 1 ≤ d
  hS : 1 ≤ S
  hq : (b - 1) * q + S * (p * d) < S * q
structure Sta where
  N : Nat
  way : Nat → List Nat
  beg : Nat → Nat
  came : Nat → Nat
  owed : Nat → List Nat
  que : Nat → List Nat
  lv : Nat → Nat
  liv : List Nat
  Bs : Nat → Nat
  P : Nat → List Nat
def upd {α : Type} (f : Nat → α) (k : Nat) (v : α) : Nat → α := fun i => if k = i then v else f i
theorem upd_eq {α : Type} {f : Nat → α} {k : Nat} {v : α} : upd f k v k = v := if_pos rfl
theorem upd_ne {α : Type} {f : Nat → α} {k i : Nat} {v : α} (h : k ≠ i) : upd f k v i = f i := if_neg h
def Sta.dn (s : Sta) (i : Nat) : Nat := (s.way i).length - (s.owed i).length
def inW (s : Sta) (e w i : Nat) : Bool := (s.way i).contains e && decide (w ≤ s.beg i)
def Sta.cnt (s : Sta) (e w : Nat) : Nat := ((List.range s.N).filter (inW s e w)).length
theorem nod1 {α : Type} {a : α} : [a].Nodup := List.nodup_cons.mpr ⟨List.not_mem_nil, List.nodup_nil⟩
theorem len_le_of {α : Type} [DecidableEq α] : ∀ {l l' : List α}, l.Nodup → (∀ x ∈ l, x ∈ l') → l.length ≤ l'.length
  | [], _, _, _ => Nat.zero_le _
  | a :: l, l', h, hs => by
    have ha : a ∈ l' := hs a (.head _)
    have h2 := List.nodup_cons.mp h
    have := len_le_of (l := l) (l' := l'.erase a) h2.2 fun x hx => by
      refine (List.mem_erase_of_ne ?_).mpr (hs x (.tail _ hx))
      rintro rfl
      exact h2.1 hx
    rw [List.length_erase_of_mem ha] at this
    have p := List.length_pos_of_mem ha
    show l.length + 1 ≤ _
    omega
theorem Sta.cnt_ge {s : Sta} {e w : Nat} {l : List Nat} (h : l.Nodup) (hl : ∀ x ∈ l, x < s.N ∧ e ∈ s.way x ∧ w ≤ s.beg x) : l.length ≤ s.cnt e w := len_le_of h fun x hx => by
  obtain ⟨a, b, c⟩ := hl x hx
  refine List.mem_filter.mpr ⟨List.mem_range.mpr a, ?_⟩
  unfold inW
  rw [List.contains_iff_mem.mpr b, decide_eq_true c]
  rfl
structure Inv (c : Sl) (bt T k : Nat) (mv : List Nat) (s : Sta) : Prop where
  wy : ∀ i, i < s.N → (s.way i).Nodup ∧ (s.way i).length ≤ c.d ∧ (∀ e ∈ s.way i, e < c.n) ∧ s.owed i <:+ s.way i
  cm : ∀ i, i < s.N → s.came i ≤ s.beg i + s.dn i * c.S
  bg : ∀ i, i < s.N → s.beg i ≤ T ∧ s.beg i < bt
  qu : ∀ e, e < c.n → (s.que e).Nodup ∧ ∀ x ∈ s.que e, x < s.N ∧ (s.owed x).head? = some e ∧ s.Bs e ≤ s.came x ∧ x ∉ mv
  co : ∀ i e, i < s.N → (s.owed i).head? = some e → i ∈ s.que e ∨ i ∈ mv
  mo : mv.Nodup ∧ ∀ i ∈ mv, i < s.N ∧ T + 1 ≤ s.beg i + s.dn i * c.S
  li : s.liv.Nodup ∧ ∀ x, x ∈ s.liv ↔ x < s.N ∧ s.owed x ≠ []
  bu : ∀ e, e < c.n → ∀ w, w ≤ T → c.q * s.cnt e w ≤ s.lv e + c.p * (T - w)
  lv : ∀ e, e < c.n → s.lv e ≤ c.q * c.b + c.p
  gh : ∀ e, e < c.n → (s.P e).Nodup ∧ (∀ i ∈ s.P e, i < s.N ∧ e ∈ s.way i ∧ e ∉ s.owed i ∧ s.Bs e ≤ s.beg i + (c.d - 1) * c.S) ∧ s.Bs e ≤ (if e < k then T + 1 else T) ∧ (s.P e).length = (if e < k then T + 1 else T) - s.Bs e
  st : ∀ e, e < c.n → k ≤ e → ∀ x ∈ s.que e, T + 1 ≤ s.came x + c.S
section SLOW1
variable {c : Sl} {bt T k : Nat} {mv : List Nat} {s : Sta}
/-- who still owes has more to come than gone -/
theorem dn_lt (h : Inv c bt T k mv s) {i : Nat} (hi : i < s.N) (ho : s.owed i ≠ []) : s.dn i + 1 ≤ c.d ∧ s.dn i ≤ c.d - 1 := by
  obtain ⟨_, a, _, b⟩ := h.wy i hi
  have l := b.length_le
  have p := List.length_pos_iff.mpr ho
  unfold Sta.dn
  omega
theorem head_mem {l : List Nat} {e : Nat} (h : l.head? = some e) : e ∈ l := List.mem_of_mem_head? h
theorem ne_of_head {l : List Nat} {e : Nat} (h : l.head? = some e) : l ≠ [] := by
  rintro rfl
  cases h
theorem Inv.init (c : Sl) (bt : Nat) : Inv c bt 0 0 [] ⟨0, fun _ => [], fun _ => 0, fun _ => 0, fun _ => [], fun _ => [], fun _ => 0, [], fun _ => 0, fun _ => []⟩ where
  wy := fun i hi => absurd hi (Nat.not_lt_zero i)
  cm := fun i hi => absurd hi (Nat.not_lt_zero i)
  bg := fun i hi => absurd hi (Nat.not_lt_zero i)
  qu := fun e _ => ⟨List.nodup_nil, fun x hx => nomatch hx⟩
  co := fun i e hi => absurd hi (Nat.not_lt_zero i)
  mo := ⟨List.nodup_nil, fun x hx => nomatch hx⟩
  li := ⟨List.nodup_nil, fun x => ⟨fun hx => (List.not_mem_nil hx).elim, fun hx => absurd hx.1 (Nat.not_lt_zero x)⟩⟩
  bu := fun e _ w _ => by
    show c.q * (List.filter _ (List.range 0)).length ≤ _
    rw [List.range_zero]
    show c.q * 0 ≤ _
    rw [Nat.mul_zero]
    exact Nat.zero_le _
  lv := fun e _ => Nat.zero_le _
  gh := fun e _ => ⟨List.nodup_nil, fun x hx => (List.not_mem_nil hx).elim, by split <;> exact Nat.zero_le _, by
    rw [if_neg (Nat.not_lt_zero e)]
    rfl⟩
  st := fun e _ _ x hx => (List.not_mem_nil hx).elim
/-- nobody stays longer -/
theorem stay_of {x : Nat} (hl : ∀ e, e < c.n → s.lv e ≤ c.q * c.b) {e : Nat} (he : e < c.n)
    (wy : ∀ i, i < s.N → (s.way i).Nodup ∧ (s.way i).length ≤ c.d ∧ (∀ e ∈ s.way i, e < c.n) ∧ s.owed i <:+ s.way i) (cm : ∀ i, i < s.N → s.came i ≤ s.beg i + s.dn i * c.S)
    (hx : x < s.N ∧ (s.owed x).head? = some e ∧ s.Bs e ≤ s.came x) (bu : ∀ w, w ≤ T → c.q * s.cnt e w ≤ s.lv e + c.p * (T - w))
    (gh : (s.P e).Nodup ∧ (∀ i ∈ s.P e, i < s.N ∧ e ∈ s.way i ∧ e ∉ s.owed i ∧ s.Bs e ≤ s.beg i + (c.d - 1) * c.S) ∧ s.Bs e ≤ T ∧ (s.P e).length = T - s.Bs e) : T + 1 ≤ s.came x + c.S := by
  refine Nat.le_of_not_lt fun hc => ?_
  obtain ⟨hx1, hx2, hx3⟩ := hx
  obtain ⟨g1, g2, g3, g4⟩ := gh
  obtain ⟨_, a, _, b⟩ := wy x hx1
  have l := b.length_le
  have p := List.length_pos_iff.mpr (ne_of_head hx2)
  have dx : s.dn x ≤ c.d - 1 := by unfold Sta.dn; omega
  have cx := cm x hx1
  have m1 : s.dn x * c.S ≤ (c.d - 1) * c.S := Nat.mul_le_mul_right _ dx
  have k1 := Sta.cnt_ge (s := s) (e := e) (w := s.Bs e - (c.d - 1) * c.S) (l := x :: s.P e) (List.nodup_cons.mpr ⟨fun hm => (g2 x hm).2.2.1 (head_mem hx2), g1⟩) fun i hi => by
    rcases List.mem_cons.mp hi with rfl | hi
    · exact ⟨hx1, b.subset (head_mem hx2), by omega⟩
    · obtain ⟨u1, u2, _, u4⟩ := g2 i hi
      exact ⟨u1, u2, by omega⟩
  have k2 := bu (s.Bs e - (c.d - 1) * c.S) (by omega)
  have k3 := hl e he
  have k4 : T - (s.Bs e - (c.d - 1) * c.S) ≤ (T - s.Bs e) + (c.d - 1) * c.S := by omega
  have k5 := Nat.mul_le_mul_left c.p k4
  have k6 := Nat.mul_le_mul_left c.q k1
  have e1 : (x :: s.P e).length = (T - s.Bs e) + 1 := by
    show (s.P e).length + 1 = _
    omega
  rw [e1] at k6
  have hL : c.S ≤ T - s.Bs e := by omega
  obtain ⟨L, eL⟩ : ∃ L, T - s.Bs e = c.S + L := ⟨T - s.Bs e - c.S, by omega⟩
  rw [eL] at k5 k6
  obtain ⟨d, ed⟩ : ∃ d, c.d = d + 1 := ⟨c.d - 1, by have := c.hd; omega⟩
  obtain ⟨b', eb⟩ : ∃ b, c.b = b + 1 := ⟨c.b - 1, by have := c.hb; omega⟩
  have hq := c.hq
  have hp : c.p ≤ c.q := by
    have h1 : c.S * (c.p * c.d) < c.S * c.q := by omega
    have h2 := Nat.lt_of_mul_lt_mul_left h1
    have h3 : c.p * 1 ≤ c.p * c.d := Nat.mul_le_mul_left _ c.hd
    omega
  have hpL : c.p * L ≤ c.q * L := Nat.mul_le_mul_right _ hp
  rw [ed, Nat.add_sub_cancel] at k2 k5 k6
  rw [ed, eb, Nat.add_sub_cancel] at hq
  rw [eb] at k3
  have e2 : c.p * (c.S + L + d * c.S) = c.S * (c.p * (d + 1)) + c.p * L := by
    rw [Nat.mul_add, Nat.mul_add, Nat.mul_add c.p d 1, Nat.mul_add c.S, Nat.mul_one, Nat.mul_comm c.S c.p, Nat.mul_left_comm c.S c.p d, Nat.mul_comm c.S d]
    omega
  have e3 : c.q * (c.S + L + 1) = c.S * c.q + c.q * L + c.q := by
    rw [Nat.mul_add, Nat.mul_add, Nat.mul_one, Nat.mul_comm c.q c.S]
  have e4 : c.q * (b' + 1) = b' * c.q + c.q := by
    rw [Nat.mul_add, Nat.mul_one, Nat.mul_comm]
  omega
/-- the next beat -/
theorem Inv.next (h : Inv c bt T c.n [] s) {lv' : Nat → Nat} (hl : ∀ e, e < c.n → s.lv e ≤ lv' e + c.p ∧ lv' e ≤ s.lv e - c.p) : Inv c bt (T + 1) 0 [] { s with lv := lv' } := by
  have hl' : ∀ e, e < c.n → lv' e ≤ c.q * c.b := fun e he => by
    have := (hl e he).2
    have := h.lv e he
    omega
  have bu : ∀ e, e < c.n → ∀ w, w ≤ T + 1 → c.q * s.cnt e w ≤ lv' e + c.p * (T + 1 - w) := fun e he w hw => by
    rcases Nat.lt_or_ge T w with z | z
    · have : s.cnt e w = 0 := by
        unfold Sta.cnt
        rw [List.length_eq_zero_iff, List.filter_eq_nil_iff]
        intro i hi q
        have h1 := (h.bg i (List.mem_range.mp hi)).1
        unfold inW at q
        rw [Bool.and_eq_true] at q
        have h2 := of_decide_eq_true q.2
        omega
      rw [this, Nat.mul_zero]
      exact Nat.zero_le _
    · have h1 := h.bu e he w z
      have h2 := (hl e he).1
      rw [show T + 1 - w = (T - w) + 1 by omega, Nat.mul_add, Nat.mul_one]
      omega
  have gh : ∀ e, e < c.n → (s.P e).Nodup ∧ (∀ i ∈ s.P e, i < s.N ∧ e ∈ s.way i ∧ e ∉ s.owed i ∧ s.Bs e ≤ s.beg i + (c.d - 1) * c.S) ∧ s.Bs e ≤ T + 1 ∧ (s.P e).length = T + 1 - s.Bs e := fun e he => by
    have := h.gh e he
    rw [if_pos he] at this
    exact this
  exact {
    wy := h.wy
    cm := h.cm
    bg := fun i hi => ⟨by have := (h.bg i hi).1; show s.beg i ≤ _; omega, (h.bg i hi).2⟩
    qu := h.qu
    co := h.co
    mo := ⟨List.nodup_nil, fun x hx => (List.not_mem_nil hx).elim⟩
    li := h.li
    bu := bu
    lv := fun e he => Nat.le_trans (hl' e he) (Nat.le_add_right _ _)
    gh := fun e he => by
      rw [if_neg (Nat.not_lt_zero e)]
      exact gh e he
    st := fun e he _ x hx => by
      obtain ⟨_, q⟩ := h.qu e he
      obtain ⟨q1, q2, q3, _⟩ := q x hx
      exact stay_of (s := { s with lv := lv' }) (T := T + 1) hl' he h.wy h.cm ⟨q1, q2, q3⟩ (bu e he) (gh e he) }
/-- one is put in -/
theorem Inv.put (h : Inv c bt T 0 [] s) {wy : List Nat} {f : Nat} (w1 : wy.Nodup) (w2 : wy.length ≤ c.d) (w3 : ∀ e ∈ wy, e < c.n) (w4 : wy.head? = some f) (hT : T < bt) (hr : ∀ e ∈ wy, s.lv e + c.q ≤ c.q * c.b + c.p) :
    Inv c bt T 0 [] { s with N := s.N + 1, way := upd s.way s.N wy, beg := upd s.beg s.N T, came := upd s.came s.N T, owed := upd s.owed s.N wy, que := upd s.que f (s.que f ++ [s.N]), lv := fun e => if e ∈ wy then s.lv e + c.q else s.lv e, liv := s.liv ++ [s.N] } := by
  have old : ∀ {i : Nat}, i < s.N → s.N ≠ i := fun h e => by omega
  have dnN : (upd s.way s.N wy s.N).length - (upd s.owed s.N wy s.N).length = 0 := by
    rw [upd_eq, upd_eq, Nat.sub_self]
  have two : ∀ {i : Nat}, i < s.N + 1 → i < s.N ∨ i = s.N := fun h => by omega
  have cn : ∀ e w, w ≤ T → ((List.range (s.N + 1)).filter (inW { s with N := s.N + 1, way := upd s.way s.N wy, beg := upd s.beg s.N T, came := upd s.came s.N T, owed := upd s.owed s.N wy, que := upd s.que f (s.que f ++ [s.N]), lv := fun e => if e ∈ wy then s.lv e + c.q else s.lv e, liv := s.liv ++ [s.N] } e w)).length = s.cnt e w + (if e ∈ wy then 1 else 0) := fun e w hw => by
    rw [List.range_succ, List.filter_append, List.length_append]
    congr 1
    · unfold Sta.cnt
      congr 1
      refine List.filter_congr fun i hi => ?_
      have hi := List.mem_range.mp hi
      unfold inW
      show ((upd s.way s.N wy i).contains e && decide (w ≤ upd s.beg s.N T i)) = _
      rw [upd_ne (old hi), upd_ne (old hi)]
    · have e1 : inW { s with N := s.N + 1, way := upd s.way s.N wy, beg := upd s.beg s.N T, came := upd s.came s.N T, owed := upd s.owed s.N wy, que := upd s.que f (s.que f ++ [s.N]), lv := fun e => if e ∈ wy then s.lv e + c.q else s.lv e, liv := s.liv ++ [s.N] } e w s.N = wy.contains e := by
        unfold inW
        show ((upd s.way s.N wy s.N).contains e && decide (w ≤ upd s.beg s.N T s.N)) = _
        rw [upd_eq, upd_eq, decide_eq_true hw, Bool.and_true]
      by_cases z : e ∈ wy
      · rw [List.filter_cons_of_pos (by rw [e1]; exact List.contains_iff_mem.mpr z), if_pos z]
        rfl
      · rw [List.filter_cons_of_neg (by rw [e1]; exact fun q => z (List.contains_iff_mem.mp q)), if_neg z]
        rfl
  exact {
    wy := fun i hi => by
      show (upd s.way s.N wy i).Nodup ∧ (upd s.way s.N wy i).length ≤ c.d ∧ (∀ e ∈ upd s.way s.N wy i, e < c.n) ∧ upd s.owed s.N wy i <:+ upd s.way s.N wy i
      rcases two hi with z | rfl
      · rw [upd_ne (old z), upd_ne (old z)]
        exact h.wy i z
      · rw [upd_eq, upd_eq]
        exact ⟨w1, w2, w3, List.suffix_refl _⟩
    cm := fun i hi => by
      show upd s.came s.N T i ≤ upd s.beg s.N T i + ((upd s.way s.N wy i).length - (upd s.owed s.N wy i).length) * c.S
      rcases two hi with z | rfl
      · rw [upd_ne (old z), upd_ne (old z), upd_ne (old z), upd_ne (old z)]
        exact h.cm i z
      · rw [dnN, upd_eq, upd_eq]
        exact Nat.le_add_right _ _
    bg := fun i hi => by
      show upd s.beg s.N T i ≤ T ∧ upd s.beg s.N T i < bt
      rcases two hi with z | rfl
      · rw [upd_ne (old z)]
        exact h.bg i z
      · rw [upd_eq]
        exact ⟨Nat.le_refl _, hT⟩
    qu := fun e he => by
      obtain ⟨q1, q2⟩ := h.qu e he
      have q3 : ∀ x ∈ s.que e, x < s.N + 1 ∧ (upd s.owed s.N wy x).head? = some e ∧ s.Bs e ≤ upd s.came s.N T x ∧ x ∉ [] := fun x hx => by
        obtain ⟨a1, a2, a3, a4⟩ := q2 x hx
        rw [upd_ne (old a1), upd_ne (old a1)]
        exact ⟨by omega, a2, a3, a4⟩
      show (upd s.que f (s.que f ++ [s.N]) e).Nodup ∧ ∀ x ∈ upd s.que f (s.que f ++ [s.N]) e, x < s.N + 1 ∧ (upd s.owed s.N wy x).head? = some e ∧ s.Bs e ≤ upd s.came s.N T x ∧ x ∉ []
      by_cases z : f = e
      · subst z
        rw [upd_eq]
        refine ⟨List.nodup_append.mpr ⟨q1, nod1, fun a ha b hb eq => ?_⟩, fun x hx => ?_⟩
        · rw [List.mem_singleton] at hb
          have := (q2 a ha).1
          omega
        · rcases List.mem_append.mp hx with hx | hx
          · exact q3 x hx
          · rw [List.mem_singleton] at hx
            subst hx
            rw [upd_eq, upd_eq]
            have g := (h.gh f he).2.2.1
            rw [if_neg (Nat.not_lt_zero f)] at g
            exact ⟨Nat.lt_succ_self _, w4, g, List.not_mem_nil⟩
      · rw [upd_ne z]
        exact ⟨q1, q3⟩
    co := fun i e hi ho => by
      have ho : (upd s.owed s.N wy i).head? = some e := ho
      show i ∈ upd s.que f (s.que f ++ [s.N]) e ∨ i ∈ []
      rcases two hi with z | rfl
      · rw [upd_ne (old z)] at ho
        refine .inl ?_
        have := (h.co i e z ho).resolve_right List.not_mem_nil
        by_cases y : f = e
        · subst y
          rw [upd_eq]
          exact List.mem_append_left _ this
        · rw [upd_ne y]
          exact this
      · rw [upd_eq, w4] at ho
        cases ho
        rw [upd_eq]
        exact .inl (List.mem_append_right _ (.head _))
    mo := ⟨List.nodup_nil, fun x hx => (List.not_mem_nil hx).elim⟩
    li := by
      refine ⟨List.nodup_append.mpr ⟨h.li.1, nod1, fun a ha b hb eq => ?_⟩, fun x => ?_⟩
      · rw [List.mem_singleton] at hb
        have := ((h.li.2 a).mp ha).1
        omega
      · show x ∈ s.liv ++ [s.N] ↔ x < s.N + 1 ∧ upd s.owed s.N wy x ≠ []
        rw [List.mem_append, List.mem_singleton]
        constructor
        · rintro (hx | rfl)
          · have := (h.li.2 x).mp hx
            rw [upd_ne (old this.1)]
            exact ⟨by omega, this.2⟩
          · rw [upd_eq]
            exact ⟨Nat.lt_succ_self _, ne_of_head w4⟩
        · rintro ⟨hx, ho⟩
          rcases two hx with z | z
          · rw [upd_ne (old z)] at ho
            exact .inl ((h.li.2 x).mpr ⟨z, ho⟩)
          · exact .inr z
    bu := fun e he w hw => by
      show c.q * ((List.range (s.N + 1)).filter (inW _ e w)).length ≤ (if e ∈ wy then s.lv e + c.q else s.lv e) + c.p * (T - w)
      rw [cn e w hw, Nat.mul_add]
      have := h.bu e he w hw
      by_cases z : e ∈ wy
      · rw [if_pos z, if_pos z]
        omega
      · rw [if_neg z, if_neg z]
        omega
    lv := fun e he => by
      show (if e ∈ wy then s.lv e + c.q else s.lv e) ≤ _
      by_cases z : e ∈ wy
      · rw [if_pos z]
        exact hr e z
      · rw [if_neg z]
        exact h.lv e he
    gh := fun e he => by
      obtain ⟨g1, g2, g3⟩ := h.gh e he
      refine ⟨g1, fun i hi => ?_, g3⟩
      obtain ⟨a1, a2, a3, a4⟩ := g2 i hi
      show i < s.N + 1 ∧ e ∈ upd s.way s.N wy i ∧ e ∉ upd s.owed s.N wy i ∧ s.Bs e ≤ upd s.beg s.N T i + (c.d - 1) * c.S
      rw [upd_ne (old a1), upd_ne (old a1), upd_ne (old a1)]
      exact ⟨by omega, a2, a3, a4⟩
    st := fun e he _ x hx => by
      have hx : x ∈ upd s.que f (s.que f ++ [s.N]) e := hx
      show T + 1 ≤ upd s.came s.N T x + c.S
      have := c.hS
      have d1 : ∀ {x : Nat}, x ∈ s.que e → T + 1 ≤ upd s.came s.N T x + c.S := fun hx => by
        have a := ((h.qu e he).2 _ hx).1
        rw [upd_ne (old a)]
        exact h.st e he (Nat.zero_le _) _ hx
      by_cases z : f = e
      · subst z
        rw [upd_eq] at hx
        rcases List.mem_append.mp hx with hx | hx
        · exact d1 hx
        · rw [List.mem_singleton] at hx
          subst hx
          rw [upd_eq]
          omega
      · rw [upd_ne z] at hx
        exact d1 hx }
/-- who is on its way was put in not long ago -/
theorem Inv.young (h : Inv c bt T 0 [] s) {x : Nat} (hx : x ∈ s.liv) : T + 1 ≤ s.beg x + c.d * c.S := by
  obtain ⟨a, b⟩ := (h.li.2 x).mp hx
  obtain ⟨e, he⟩ : ∃ e, (s.owed x).head? = some e := by
    cases eo : s.owed x with
    | nil => exact absurd eo b
    | cons e l => exact ⟨e, rfl⟩
  obtain ⟨_, _, w3, w4⟩ := h.wy x a
  have en := w3 e (w4.subset (head_mem he))
  have m := (h.co x e a he).resolve_right List.not_mem_nil
  have s1 := h.st e en (Nat.zero_le _) x m
  have s2 := h.cm x a
  have s3 := (dn_lt h a b).1
  have s4 := Nat.mul_le_mul_right c.S s3
  rw [Nat.add_mul, Nat.one_mul] at s4
  omega
theorem Inv.wait (h : Inv c bt T 0 [] s) {e : Nat} (he : e < c.n) : (s.liv.filter fun x => (s.owed x).contains e).length ≤ c.p * (c.d * c.S) / c.q + c.b := by
  have q0 : 0 < c.q := by
    have := c.hq
    rcases Nat.eq_zero_or_pos c.q with z | z
    · rw [z, Nat.mul_zero] at this
      omega
    · exact z
  have t1 : 1 ≤ c.d * c.S := Nat.mul_pos c.hd c.hS
  have k1 := Sta.cnt_ge (s := s) (e := e) (w := T + 1 - c.d * c.S) (l := s.liv.filter fun x => (s.owed x).contains e) (h.li.1.filter _) fun x hx => by
    obtain ⟨m1, m2⟩ := List.mem_filter.mp hx
    have y := h.young m1
    have a := ((h.li.2 x).mp m1).1
    obtain ⟨_, _, w3, w4⟩ := h.wy x a
    exact ⟨a, w4.subset (List.contains_iff_mem.mp m2), by omega⟩
  have k2 := h.bu e he (T + 1 - c.d * c.S) (by omega)
  have k3 := h.lv e he
  have k4 := Nat.mul_le_mul_left c.q k1
  have k5 : T - (T + 1 - c.d * c.S) + 1 ≤ c.d * c.S := by omega
  have k6 := Nat.mul_le_mul_left c.p k5
  rw [Nat.mul_add, Nat.mul_one] at k6
  have e1 : c.p * (c.d * c.S) / c.q + c.b = (c.p * (c.d * c.S) + c.q * c.b) / c.q := by
    rw [Nat.add_mul_div_left _ _ q0]
  rw [e1]
  refine (Nat.le_div_iff_mul_le q0).mpr ?_
  rw [Nat.mul_comm]
  omega
theorem Inv.over (h : Inv c bt (bt + c.d * c.S) 0 [] s) : s.liv = [] := by
  refine List.eq_nil_iff_forall_not_mem.mpr fun x hx => ?_
  have y := h.young hx
  have z := (h.bg x ((h.li.2 x).mp hx).1).2
  omega
/-- nobody waits there -/
theorem Inv.skip (h : Inv c bt T k mv s) (hk : k < c.n) (hq : s.que k = []) : Inv c bt T (k + 1) mv { s with Bs := upd s.Bs k (T + 1), P := upd s.P k [] } where
  wy := h.wy
  cm := h.cm
  bg := h.bg
  qu := fun e he => by
    refine ⟨(h.qu e he).1, fun x hx => ?_⟩
    have hx : x ∈ s.que e := hx
    obtain ⟨a1, a2, a3, a4⟩ := (h.qu e he).2 x hx
    by_cases z : k = e
    · subst z
      rw [hq] at hx
      exact (List.not_mem_nil hx).elim
    · show x < s.N ∧ (s.owed x).head? = some e ∧ upd s.Bs k (T + 1) e ≤ s.came x ∧ x ∉ mv
      rw [upd_ne z]
      exact ⟨a1, a2, a3, a4⟩
  co := h.co
  mo := h.mo
  li := h.li
  bu := h.bu
  lv := h.lv
  gh := fun e he => by
    show (upd s.P k [] e).Nodup ∧ (∀ i ∈ upd s.P k [] e, i < s.N ∧ e ∈ s.way i ∧ e ∉ s.owed i ∧ upd s.Bs k (T + 1) e ≤ s.beg i + (c.d - 1) * c.S) ∧ upd s.Bs k (T + 1) e ≤ (if e < k + 1 then T + 1 else T) ∧ (upd s.P k [] e).length = (if e < k + 1 then T + 1 else T) - upd s.Bs k (T + 1) e
    by_cases z : k = e
    · subst z
      rw [upd_eq, upd_eq, if_pos (Nat.lt_succ_self k), Nat.sub_self]
      exact ⟨List.nodup_nil, fun x hx => (List.not_mem_nil hx).elim, Nat.le_refl _, rfl⟩
    · rw [upd_ne z, upd_ne z]
      have := h.gh e he
      by_cases y : e < k
      · rw [if_pos y] at this
        rw [if_pos (by omega)]
        exact this
      · rw [if_neg y] at this
        rw [if_neg (by omega)]
        exact this
  st := fun e he hk x hx => h.st e he (by omega) x hx
/-- one goes -/
theorem Inv.home (h : Inv c bt T k mv s) (hk : k < c.n) {x : Nat} (hx : x ∈ s.que k) : T + 1 ≤ s.beg x + (s.dn x + 1) * c.S ∧ T + 1 ≤ s.beg x + c.d * c.S := by
  obtain ⟨a1, a2, _⟩ := (h.qu k hk).2 x hx
  have s1 := h.st k hk (Nat.le_refl _) x hx
  have s2 := h.cm x a1
  have s3 := (dn_lt h a1 (ne_of_head a2)).1
  have s4 := Nat.mul_le_mul_right c.S s3
  rw [Nat.add_mul, Nat.one_mul] at s4 ⊢
  omega
theorem Inv.go (h : Inv c bt T k mv s) (hk : k < c.n) {x : Nat} (hx : x ∈ s.que k) {q' l' : List Nat} (hq : q'.Nodup ∧ ∀ y, y ∈ q' ↔ y ∈ s.que k ∧ y ≠ x) (hl : l'.Nodup ∧ ∀ y, y ∈ l' ↔ y ∈ s.liv ∧ (y = x → (s.owed x).tail ≠ [])) :
    Inv c bt T (k + 1) (mv ++ [x]) { s with que := upd s.que k q', owed := upd s.owed x (s.owed x).tail, P := upd s.P k (x :: s.P k), liv := l' } := by
  obtain ⟨a1, a2, a3, a4⟩ := (h.qu k hk).2 x hx
  obtain ⟨w1, w2, w3, w4⟩ := h.wy x a1
  obtain ⟨tl, eo⟩ : ∃ tl, s.owed x = k :: tl := by
    cases eo : s.owed x with
    | nil => rw [eo] at a2; cases a2
    | cons e l => rw [eo] at a2; cases a2; exact ⟨l, rfl⟩
  have ho := h.home hk hx
  have len := w4.length_le
  rw [eo] at w4 len
  have ktl : k ∉ tl := (List.nodup_cons.mp (w1.sublist w4.sublist)).1
  rw [eo] at hl ⊢
  show Inv c bt T (k + 1) (mv ++ [x]) { s with que := upd s.que k q', owed := upd s.owed x tl, P := upd s.P k (x :: s.P k), liv := l' }
  have hl : l'.Nodup ∧ ∀ y, y ∈ l' ↔ y ∈ s.liv ∧ (y = x → tl ≠ []) := hl
  have dnx : (s.way x).length - tl.length = s.dn x + 1 := by
    unfold Sta.dn
    rw [eo]
    have : tl.length + 1 ≤ (s.way x).length := len
    show _ = (s.way x).length - (tl.length + 1) + 1
    omega
  have oth : ∀ {e y : Nat}, e < c.n → e ≠ k → y ∈ s.que e → x ≠ y := fun {e y} he hek hy eq => by
    subst eq
    have := ((h.qu e he).2 x hy).2.1
    rw [a2] at this
    cases this
    exact hek rfl
  exact {
    wy := fun i hi => by
      obtain ⟨b1, b2, b3, b4⟩ := h.wy i hi
      refine ⟨b1, b2, b3, ?_⟩
      show upd s.owed x tl i <:+ s.way i
      by_cases z : x = i
      · subst z
        rw [upd_eq]
        exact (List.suffix_cons k tl).trans w4
      · rw [upd_ne z]
        exact b4
    cm := fun i hi => by
      show s.came i ≤ s.beg i + ((s.way i).length - (upd s.owed x tl i).length) * c.S
      have := h.cm i hi
      by_cases z : x = i
      · subst z
        rw [upd_eq, dnx, Nat.add_mul]
        omega
      · rw [upd_ne z]
        exact this
    bg := h.bg
    qu := fun e he => by
      show (upd s.que k q' e).Nodup ∧ ∀ y ∈ upd s.que k q' e, y < s.N ∧ (upd s.owed x tl y).head? = some e ∧ s.Bs e ≤ s.came y ∧ y ∉ mv ++ [x]
      by_cases z : k = e
      · subst z
        rw [upd_eq]
        refine ⟨hq.1, fun y hy => ?_⟩
        obtain ⟨m, ne⟩ := (hq.2 y).mp hy
        obtain ⟨b1, b2, b3, b4⟩ := (h.qu k hk).2 y m
        rw [upd_ne (Ne.symm ne)]
        exact ⟨b1, b2, b3, fun hm => (List.mem_append.mp hm).elim b4 fun hm => ne (List.mem_singleton.mp hm)⟩
      · rw [upd_ne z]
        refine ⟨(h.qu e he).1, fun y hy => ?_⟩
        obtain ⟨b1, b2, b3, b4⟩ := (h.qu e he).2 y hy
        have ne := oth he (Ne.symm z) hy
        rw [upd_ne ne]
        exact ⟨b1, b2, b3, fun hm => (List.mem_append.mp hm).elim b4 fun hm => ne (List.mem_singleton.mp hm).symm⟩
    co := fun i e hi hh => by
      have hh : (upd s.owed x tl i).head? = some e := hh
      show i ∈ upd s.que k q' e ∨ i ∈ mv ++ [x]
      by_cases z : x = i
      · subst z
        exact .inr (List.mem_append_right _ (.head _))
      · rw [upd_ne z] at hh
        rcases h.co i e hi hh with m | m
        · by_cases y : k = e
          · subst y
            rw [upd_eq]
            exact .inl ((hq.2 i).mpr ⟨m, Ne.symm z⟩)
          · rw [upd_ne y]
            exact .inl m
        · exact .inr (List.mem_append_left _ m)
    mo := by
      refine ⟨List.nodup_append.mpr ⟨h.mo.1, nod1, fun a ha b hb eq => ?_⟩, fun i hi => ?_⟩
      · rw [List.mem_singleton] at hb
        subst hb
        subst eq
        exact a4 ha
      · show i < s.N ∧ T + 1 ≤ s.beg i + ((s.way i).length - (upd s.owed x tl i).length) * c.S
        by_cases z : x = i
        · subst z
          rw [upd_eq, dnx]
          exact ⟨a1, ho.1⟩
        · rw [upd_ne z]
          rcases List.mem_append.mp hi with m | m
          · exact h.mo.2 i m
          · exact absurd (List.mem_singleton.mp m).symm z
    li := by
      refine ⟨hl.1, fun y => ?_⟩
      show y ∈ l' ↔ y < s.N ∧ upd s.owed x tl y ≠ []
      rw [hl.2 y, h.li.2 y]
      by_cases z : x = y
      · subst z
        rw [upd_eq, eo]
        exact ⟨fun q => ⟨a1, q.2 rfl⟩, fun q => ⟨⟨a1, List.cons_ne_nil _ _⟩, fun _ => q.2⟩⟩
      · rw [upd_ne z]
        exact ⟨fun q => q.1, fun q => ⟨q, fun e => absurd e.symm z⟩⟩
    bu := h.bu
    lv := h.lv
    gh := fun e he => by
      obtain ⟨g1, g2, g3, g4⟩ := h.gh e he
      have g2' : ∀ i ∈ s.P e, i < s.N ∧ e ∈ s.way i ∧ e ∉ upd s.owed x tl i ∧ s.Bs e ≤ s.beg i + (c.d - 1) * c.S := fun i hi => by
        obtain ⟨b1, b2, b3, b4⟩ := g2 i hi
        refine ⟨b1, b2, fun hm => b3 ?_, b4⟩
        by_cases z : x = i
        · subst z
          rw [upd_eq] at hm
          rw [eo]
          exact .tail _ hm
        · rw [upd_ne z] at hm
          exact hm
      show (upd s.P k (x :: s.P k) e).Nodup ∧ (∀ i ∈ upd s.P k (x :: s.P k) e, i < s.N ∧ e ∈ s.way i ∧ e ∉ upd s.owed x tl i ∧ s.Bs e ≤ s.beg i + (c.d - 1) * c.S) ∧ s.Bs e ≤ (if e < k + 1 then T + 1 else T) ∧ (upd s.P k (x :: s.P k) e).length = (if e < k + 1 then T + 1 else T) - s.Bs e
      by_cases z : k = e
      · subst z
        rw [if_neg (Nat.lt_irrefl k)] at g3 g4
        rw [upd_eq, if_pos (Nat.lt_succ_self k)]
        refine ⟨List.nodup_cons.mpr ⟨fun hm => (g2 x hm).2.2.1 (by rw [eo]; exact .head _), g1⟩, fun i hi => ?_, by omega, ?_⟩
        · rcases List.mem_cons.mp hi with rfl | hi
          · rw [upd_eq]
            have m1 : s.dn i * c.S ≤ (c.d - 1) * c.S := Nat.mul_le_mul_right _ (dn_lt h a1 (ne_of_head a2)).2
            have m2 := h.cm i a1
            exact ⟨a1, w4.subset (.head _), ktl, by omega⟩
          · exact g2' i hi
        · show (s.P k).length + 1 = _
          omega
      · rw [upd_ne z]
        refine ⟨g1, g2', ?_⟩
        by_cases y : e < k
        · rw [if_pos y] at g3 g4
          rw [if_pos (by omega)]
          exact ⟨g3, g4⟩
        · rw [if_neg y] at g3 g4
          rw [if_neg (by omega)]
          exact ⟨g3, g4⟩
    st := fun e he hke y hy => by
      have hy : y ∈ upd s.que k q' e := hy
      rw [upd_ne (by omega)] at hy
      exact h.st e he (by omega) y hy }
/-- who went comes to the next -/
theorem Inv.app0 {x : Nat} (h : Inv c bt T c.n (x :: mv) s) (ho : s.owed x = []) : Inv c bt T c.n mv s where
  wy := h.wy
  cm := h.cm
  bg := h.bg
  qu := fun e he => ⟨(h.qu e he).1, fun y hy => by
    obtain ⟨b1, b2, b3, b4⟩ := (h.qu e he).2 y hy
    exact ⟨b1, b2, b3, fun hm => b4 (.tail _ hm)⟩⟩
  co := fun i e hi hh => by
    rcases h.co i e hi hh with m | m
    · exact .inl m
    · rcases List.mem_cons.mp m with rfl | m
      · rw [ho] at hh
        cases hh
      · exact .inr m
  mo := ⟨(List.nodup_cons.mp h.mo.1).2, fun i hi => h.mo.2 i (.tail _ hi)⟩
  li := h.li
  bu := h.bu
  lv := h.lv
  gh := h.gh
  st := h.st
theorem Inv.app1 {x e : Nat} (h : Inv c bt T c.n (x :: mv) s) (ho : (s.owed x).head? = some e) : Inv c bt T c.n mv { s with que := upd s.que e (s.que e ++ [x]), came := upd s.came x (T + 1) } := by
  obtain ⟨x1, x2⟩ := h.mo.2 x (.head _)
  have nm := List.nodup_cons.mp h.mo.1
  have nq : ∀ {f : Nat}, f < c.n → x ∉ s.que f := fun hf hm => ((h.qu _ hf).2 x hm).2.2.2 (.head _)
  exact {
    wy := h.wy
    cm := fun i hi => by
      show upd s.came x (T + 1) i ≤ s.beg i + s.dn i * c.S
      by_cases z : x = i
      · subst z
        rw [upd_eq]
        exact x2
      · rw [upd_ne z]
        exact h.cm i hi
    bg := h.bg
    qu := fun f hf => by
      show (upd s.que e (s.que e ++ [x]) f).Nodup ∧ ∀ y ∈ upd s.que e (s.que e ++ [x]) f, y < s.N ∧ (s.owed y).head? = some f ∧ s.Bs f ≤ upd s.came x (T + 1) y ∧ y ∉ mv
      have old : ∀ y ∈ s.que f, y < s.N ∧ (s.owed y).head? = some f ∧ s.Bs f ≤ upd s.came x (T + 1) y ∧ y ∉ mv := fun y hy => by
        obtain ⟨b1, b2, b3, b4⟩ := (h.qu f hf).2 y hy
        rw [upd_ne (fun eq => nq hf (by rw [eq]; exact hy))]
        exact ⟨b1, b2, b3, fun hm => b4 (.tail _ hm)⟩
      by_cases z : e = f
      · subst z
        rw [upd_eq]
        refine ⟨List.nodup_append.mpr ⟨(h.qu e hf).1, nod1, fun a ha b hb eq => ?_⟩, fun y hy => ?_⟩
        · rw [List.mem_singleton] at hb
          subst hb
          subst eq
          exact nq hf ha
        · rcases List.mem_append.mp hy with m | m
          · exact old y m
          · rw [List.mem_singleton] at m
            subst m
            rw [upd_eq]
            have g := (h.gh e hf).2.2.1
            rw [if_pos hf] at g
            exact ⟨x1, ho, g, nm.1⟩
      · rw [upd_ne z]
        exact ⟨(h.qu f hf).1, old⟩
    co := fun i f hi hh => by
      have hh : (s.owed i).head? = some f := hh
      show i ∈ upd s.que e (s.que e ++ [x]) f ∨ i ∈ mv
      rcases h.co i f hi hh with m | m
      · by_cases z : e = f
        · subst z
          rw [upd_eq]
          exact .inl (List.mem_append_left _ m)
        · rw [upd_ne z]
          exact .inl m
      · rcases List.mem_cons.mp m with rfl | m
        · rw [ho] at hh
          cases hh
          rw [upd_eq]
          exact .inl (List.mem_append_right _ (.head _))
        · exact .inr m
    mo := ⟨nm.2, fun i hi => h.mo.2 i (.tail _ hi)⟩
    li := h.li
    bu := h.bu
    lv := h.lv
    gh := h.gh
    st := fun f hf hk => absurd hf (by omega) }
end SLOW1

/-! ### this law's numbers -/
def st55 (p q b d : Nat) : Nat := (b - 1) * q / (q - p * d) + 1
theorem stayF_nat {p q b d : Nat} (hb : 1 ≤ b) (h : p * d < q) : stayF p q b d = some ((st55 p q b d : Nat) : Int) := by
  unfold stayF
  rw [if_pos (by exact_mod_cast h)]
  congr 1
  unfold st55
  obtain ⟨b', rfl⟩ : ∃ b', b = b' + 1 := ⟨b - 1, by omega⟩
  obtain ⟨r, rfl⟩ : ∃ r, q = p * d + r := ⟨q - p * d, by omega⟩
  rw [Nat.add_sub_cancel, Nat.add_sub_cancel_left]
  have e : ((p * d + r : Nat) : Int) - (p : Int) * (d : Int) = (r : Nat) := by
    rw [Int.natCast_add, Int.natCast_mul]
    omega
  rw [e]
  have e2 : ((b' + 1 : Nat) : Int) - 1 = (b' : Nat) := by omega
  rw [e2]
  rfl
theorem tripF_nat {p q b d : Nat} (hb : 1 ≤ b) (h : p * d < q) : tripF p q b d = some ((d * st55 p q b d : Nat) : Int) := by
  unfold tripF
  rw [stayF_nat hb h, Nat.mul_comm]
  rfl
theorem waitF_nat {p q b d : Nat} (hb : 1 ≤ b) (h : p * d < q) : waitF p q b d = some ((p * (d * st55 p q b d) / q + b : Nat) : Int) := by
  unfold waitF
  rw [tripF_nat hb h]
  rfl
theorem st55_le {p q b d : Nat} (hb : b ≤ 4) (hq : q ≤ 20) : st55 p q b d ≤ 61 := by
  unfold st55
  have h1 : (b - 1) * q ≤ 3 * 20 := Nat.mul_le_mul (by omega) hq
  have h2 := Nat.div_le_self ((b - 1) * q) (q - p * d)
  omega
def mkSl (n p q b d : Nat) (hb : 1 ≤ b) (hd : 1 ≤ d) (h : p * d < q) : Sl where
  n := n
  p := p
  q := q
  b := b
  d := d
  S := st55 p q b d
  hb := hb
  hd := hd
  hS := Nat.succ_pos _
  hq := by
    obtain ⟨r, rfl⟩ : ∃ r, q = p * d + r := ⟨q - p * d, by omega⟩
    have r0 : 0 < r := by omega
    unfold st55
    rw [Nat.add_sub_cancel_left]
    have := Nat.lt_div_mul_add (a := (b - 1) * (p * d + r)) r0
    generalize (b - 1) * (p * d + r) = y at *
    rw [Nat.mul_add (y / r + 1) (p * d) r, Nat.add_mul _ _ r, Nat.one_mul]
    omega

/-! ### mutable objects of `_law_played` -/
def qH (as : Nat → Addr) (g : Nat → MO) : Nat → Mm → Mm
  | 0, M => M
  | m + 1, M => (as m, g m) :: qH as g m M
theorem qH_congr {as as' : Nat → Addr} {g g' : Nat → MO} {M : Mm} : ∀ {m : Nat}, (∀ j, j < m → as j = as' j ∧ g j = g' j) → qH as g m M = qH as' g' m M
  | 0, _ => rfl
  | m + 1, h => by
    unfold qH
    rw [(h m (by omega)).1, (h m (by omega)).2, qH_congr fun j hj => h j (by omega)]
theorem qH_app {as : Nat → Addr} {g : Nat → MO} {M M2 : Mm} : ∀ {m : Nat}, qH as g m (M ++ M2) = qH as g m M ++ M2
  | 0 => rfl
  | m + 1 => by
    unfold qH
    rw [qH_app]
    rfl
theorem qH_up {as : Nat → Addr} {g g' : Nat → MO} {M : Mm} {k : Nat} {v : MO} (hv : g' k = v) (hg : ∀ j, j ≠ k → g' j = g j) : ∀ {m : Nat}, k < m → Up (qH as g m M) (as k) (g k) v (qH as g' m M)
  | 0, h => absurd h (Nat.not_lt_zero _)
  | m + 1, h => by
    unfold qH
    by_cases c : m = k
    · subst c
      rw [hv, qH_congr (as' := as) (g' := g) fun j hj => ⟨rfl, hg j (by omega)⟩]
      exact .here
    · rw [hg m c]
      exact .there (qH_up hv hg (by omega))
theorem qH_mem {as : Nat → Addr} {g : Nat → MO} {M : Mm} {k : Nat} : ∀ {m : Nat}, k < m → (as k, g k) ∈ qH as g m M
  | 0, h => absurd h (Nat.not_lt_zero _)
  | m + 1, h => by
    unfold qH
    by_cases c : m = k
    · subst c
      exact .head _
    · exact .tail _ (qH_mem (by omega))
theorem aLc_new {ai : AI} {g : AG} {te : AE} {vs : List Nat} {Γ : Gm} {M : Mm} {Φ : AK} {α : Type} (xs : List α) (emb : α → D) (hai : ∀ Φ' : List D → Mm → Prop, Φ' (xs.map emb) M → ai Γ M Φ') (hlen : xs.length ≤ 100000)
    (h : ∀ x ∈ xs, ∀ M', ∃ Γ2, g (emb x) (wipeG Γ vs) = some Γ2 ∧ (∀ Φ' : AK, (∀ l, Φ' (.ref l) ((l, .lst []) :: M')) → te Γ2 M' Φ'))
    (k : ∀ as : Nat → Addr, Φ (.lst (lsF xs.length fun i => .ref (as i))) (qH as (fun _ => .lst []) xs.length M)) : aLc ai g aYes te vs Γ M Φ := by
  unfold aLc
  refine hai _ ⟨by rw [List.length_map]; exact hlen, fun i acc M' => ∃ as : Nat → Addr, acc = lsF i (fun i => .ref (as i)) ∧ M' = qH as (fun _ => .lst []) i M, ⟨fun _ => default, rfl, rfl⟩, ?_, ?_⟩
  · rintro i d acc M' l hd ⟨as, rfl, rfl⟩
    rw [List.getElem?_map] at hd
    cases hx : xs[i]? with
    | none =>
      rw [hx] at hd
      cases hd
    | some x =>
      rw [hx] at hd
      cases hd
      obtain ⟨Γ2, e, h1⟩ := h x (List.mem_of_getElem? hx) ((l, .lst (lsF i fun i => .ref (as i))) :: qH as (fun _ => .lst []) i M)
      rw [e]
      refine ⟨fun _ => h1 _ fun a => ⟨_, .there .here, fun j => if j = i then a else as j, ?_, ?_⟩, fun z => Bool.noConfusion z⟩
      · exact lsF_snoc (fun j hj => by show D.ref (if j = i then a else as j) = D.ref (as j); rw [if_neg (by omega)]) (by show D.ref (if i = i then a else as i) = D.ref a; rw [if_pos rfl])
      · show (a, MO.lst []) :: qH as _ i M = ((if i = i then a else as i), MO.lst []) :: qH (fun j => if j = i then a else as j) _ i M
        rw [if_pos rfl]
        exact congrArg _ (qH_congr fun j hj => ⟨(if_neg (by omega)).symm, rfl⟩)
  · rintro acc M' ⟨as, rfl, rfl⟩ _
    rw [List.length_map]
    exact k as
theorem aLcM_map {ai : AI} {g : AG} {te : AE} {vs : List Nat} {Γ : Gm} {M : Mm} {Φ : AK} {α : Type} (xs : List α) (emb : α → D) (v : α → D) (hai : ∀ Φ' : List D → Mm → Prop, Φ' (xs.map emb) M → ai Γ M Φ') (hlen : xs.length ≤ 100000)
    (h : ∀ x ∈ xs, ∀ M', ∃ Γ2, g (emb x) (wipeG Γ vs) = some Γ2 ∧ (∀ Φ' : AK, Φ' (v x) M' → te Γ2 M' Φ'))
    (k : ∀ l, Φ (.ref l) ((l, .lst (xs.map v)) :: M)) : aLcM ai g aYes te vs Γ M Φ := by
  unfold aLcM
  refine hai _ ⟨by rw [List.length_map]; exact hlen, fun i acc M' => acc = (xs.take i).map v ∧ M' = M, ⟨rfl, rfl⟩, ?_, ?_⟩
  · rintro i d acc M' l hd ⟨rfl, rfl⟩
    rw [List.getElem?_map] at hd
    cases hx : xs[i]? with
    | none =>
      rw [hx] at hd
      cases hd
    | some x =>
      rw [hx] at hd
      cases hd
      obtain ⟨Γ2, e, h1⟩ := h x (List.mem_of_getElem? hx) ((l, .lst ((xs.take i).map v)) :: M')
      rw [e]
      refine ⟨fun _ => h1 _ ⟨M', .here, ?_, rfl⟩, fun z => Bool.noConfusion z⟩
      rw [List.take_add_one, hx, List.map_append]
      rfl
  · rintro acc M' l ⟨rfl, rfl⟩ _
    rw [List.length_map, List.take_length]
    exact k l
theorem aSeq_rel {t u : AS} {A : AEnds} {Γ : Gm} {M : Mm} (R : Gm → Mm → Prop) (h : ∀ k : Gm → Mm → Prop, (∀ Γ' M', R Γ' M' → k Γ' M') → t { A with nx := k } Γ M) (q : ∀ Γ' M', R Γ' M' → u A Γ' M') : aSeq t u A Γ M := h _ q
/-- what is there, besides what nobody asks for -/
def Hv (C X : Mm) : Prop := ∃ G, X.Perm (C ++ G)
section MEM51
variable {C C' X M : Mm} {l : Addr} {o o' : MO}
theorem Hv.mem (h : Hv C X) (m : (l, o) ∈ C) : (l, o) ∈ X ++ M := by
  obtain ⟨G, p⟩ := h
  exact List.mem_append_left _ (p.mem_iff.mpr (List.mem_append_left _ m))
theorem up_app (u : Up C l o o' C') : Up (C ++ M) l o o' (C' ++ M) := by
  induction u with
  | here => exact .here
  | there _ ih => exact .there ih
theorem dl_app (u : Dl C l o C') : Dl (C ++ M) l o (C' ++ M) := by
  induction u with
  | here => exact .here
  | there _ ih => exact .there ih
theorem Hv.up (h : Hv C X) (u : Up C l o o' C') : ∃ X', Up (X ++ M) l o o' (X' ++ M) ∧ Hv C' X' := by
  obtain ⟨G, p⟩ := h
  obtain ⟨X', u', p'⟩ := perm_up (up_app (M := G) u) p
  exact ⟨X', up_app u', G, p'⟩
theorem Hv.dl (h : Hv ((l, o) :: C) X) : ∃ X', Dl (X ++ M) l o (X' ++ M) ∧ Hv C X' := by
  obtain ⟨G, p⟩ := h
  obtain ⟨X', u', p'⟩ := perm_dl (C := C ++ G) p
  exact ⟨X', dl_app u', G, p'⟩
theorem Hv.new (h : Hv C X) : Hv ((l, o) :: C) ((l, o) :: X) := by
  obtain ⟨G, p⟩ := h
  exact ⟨G, p.cons _⟩
theorem Hv.perm (h : Hv C X) (q : C.Perm C') : Hv C' X := by
  obtain ⟨G, p⟩ := h
  exact ⟨G, p.trans (q.append_right G)⟩
theorem Hv.drop (h : Hv ((l, o) :: C) X) : Hv C X := by
  obtain ⟨G, p⟩ := h
  exact ⟨(l, o) :: G, p.trans List.perm_middle.symm⟩
end MEM51
/-- levels, owed, came, living, queues -/
def cM (n : Nat) (a : Addr × Addr × Addr × Addr) (as : Nat → Addr) (lv ow cm li : List D) (qs : Nat → List Nat) : Mm := (a.1, .lst lv) :: (a.2.1, .lst ow) :: (a.2.2.1, .lst cm) :: (a.2.2.2, .lst li) :: qH as (fun e => .lst ((qs e).map nD)) n []
section MEM52
variable {n : Nat} {a : Addr × Addr × Addr × Addr} {as : Nat → Addr} {lv ow cm li xs : List D} {qs : Nat → List Nat} {X M : Mm} {l : Addr}
theorem cM_lv (h : Hv (cM n a as lv ow cm li qs) X) : (a.1, MO.lst lv) ∈ X ++ M := h.mem (.head _)
theorem cM_ow (h : Hv (cM n a as lv ow cm li qs) X) : (a.2.1, MO.lst ow) ∈ X ++ M := h.mem (.tail _ (.head _))
theorem cM_cm (h : Hv (cM n a as lv ow cm li qs) X) : (a.2.2.1, MO.lst cm) ∈ X ++ M := h.mem (.tail _ (.tail _ (.head _)))
theorem cM_li (h : Hv (cM n a as lv ow cm li qs) X) : (a.2.2.2, MO.lst li) ∈ X ++ M := h.mem (.tail _ (.tail _ (.tail _ (.head _))))
theorem cM_q {e : Nat} (h : Hv (cM n a as lv ow cm li qs) X) (he : e < n) : (as e, MO.lst ((qs e).map nD)) ∈ X ++ M := h.mem (.tail _ (.tail _ (.tail _ (.tail _ (qH_mem (g := fun e => MO.lst ((qs e).map nD)) he)))))
theorem cM_lvU (h : Hv (cM n a as lv ow cm li qs) X) (xs : List D) : ∃ X', Up (X ++ M) a.1 (.lst lv) (.lst xs) (X' ++ M) ∧ Hv (cM n a as xs ow cm li qs) X' := h.up .here
theorem cM_owU (h : Hv (cM n a as lv ow cm li qs) X) (xs : List D) : ∃ X', Up (X ++ M) a.2.1 (.lst ow) (.lst xs) (X' ++ M) ∧ Hv (cM n a as lv xs cm li qs) X' := h.up (.there .here)
theorem cM_cmU (h : Hv (cM n a as lv ow cm li qs) X) (xs : List D) : ∃ X', Up (X ++ M) a.2.2.1 (.lst cm) (.lst xs) (X' ++ M) ∧ Hv (cM n a as lv ow xs li qs) X' := h.up (.there (.there .here))
theorem cM_liU (h : Hv (cM n a as lv ow cm li qs) X) (xs : List D) : ∃ X', Up (X ++ M) a.2.2.2 (.lst li) (.lst xs) (X' ++ M) ∧ Hv (cM n a as lv ow cm xs qs) X' := h.up (.there (.there (.there .here)))
theorem cM_qU {e : Nat} (h : Hv (cM n a as lv ow cm li qs) X) (he : e < n) (ys : List Nat) : ∃ X', Up (X ++ M) (as e) (.lst ((qs e).map nD)) (.lst (ys.map nD)) (X' ++ M) ∧ Hv (cM n a as lv ow cm li (upd qs e ys)) X' :=
  h.up (.there (.there (.there (.there (qH_up (g := fun e => MO.lst ((qs e).map nD)) (g' := fun i => MO.lst ((upd qs e ys i).map nD)) (by rw [upd_eq]) (fun j hj => by rw [upd_ne (Ne.symm hj)]) he)))))
theorem cM_new {l1 l2 : Addr} {ow' cm' : List D} (h : Hv (cM n a as lv ow cm li qs) X) : Hv (cM n (a.1, l1, l2, a.2.2.2) as lv ow' cm' li qs) ((l2, .lst cm') :: (l1, .lst ow') :: X) := by
  have h1 := (h.new (l := l1) (o := .lst ow')).new (l := l2) (o := .lst cm')
  have p : ((l2, MO.lst cm') :: (l1, MO.lst ow') :: cM n a as lv ow cm li qs).Perm ((a.2.1, .lst ow) :: (a.2.2.1, .lst cm) :: cM n (a.1, l1, l2, a.2.2.2) as lv ow' cm' li qs) := by
    show ([(l2, MO.lst cm'), (l1, MO.lst ow'), (a.1, .lst lv), (a.2.1, .lst ow), (a.2.2.1, .lst cm), (a.2.2.2, .lst li)] ++ qH as (fun e => .lst ((qs e).map nD)) n []).Perm ([(a.2.1, .lst ow), (a.2.2.1, .lst cm), (a.1, .lst lv), (l1, .lst ow'), (l2, .lst cm'), (a.2.2.2, .lst li)] ++ qH as (fun e => .lst ((qs e).map nD)) n [])
    refine List.Perm.append_right _ ?_
    generalize (l2, MO.lst cm') = x1
    generalize (l1, MO.lst ow') = x2
    generalize (a.1, MO.lst lv) = x3
    generalize (a.2.1, MO.lst ow) = x4
    generalize (a.2.2.1, MO.lst cm) = x5
    generalize (a.2.2.2, MO.lst li) = x6
    have s : ∀ {x y : Addr × MO} {l : Mm}, (x :: y :: l).Perm (y :: x :: l) := fun {x y l} => List.Perm.swap y x l
    have m1 : [x1, x2, x3, x4, x5, x6].Perm (x4 :: [x1, x2, x3, x5, x6]) := List.perm_middle (a := x4) (l₁ := [x1, x2, x3]) (l₂ := [x5, x6])
    have m2 : [x1, x2, x3, x5, x6].Perm (x5 :: [x1, x2, x3, x6]) := List.perm_middle (a := x5) (l₁ := [x1, x2, x3]) (l₂ := [x6])
    have m3 : [x1, x2, x3, x6].Perm (x3 :: [x1, x2, x6]) := List.perm_middle (a := x3) (l₁ := [x1, x2]) (l₂ := [x6])
    have m4 : [x1, x2, x6].Perm [x2, x1, x6] := s
    exact m1.trans ((m2.trans ((m3.trans (m4.cons _)).cons _)).cons _)
  exact ((h1.perm p).drop).drop
theorem cM_newlv {l : Addr} {lv' : List D} (h : Hv (cM n a as lv ow cm li qs) X) : Hv (cM n (l, a.2) as lv' ow cm li qs) ((l, .lst lv') :: X) := by
  have h1 := h.new (l := l) (o := .lst lv')
  have p : ((l, MO.lst lv') :: cM n a as lv ow cm li qs).Perm ((a.1, .lst lv) :: cM n (l, a.2) as lv' ow cm li qs) := List.Perm.swap _ _ _
  exact (h1.perm p).drop
theorem qH_subA {g : Nat → MO} : M.Sublist (X ++ M) := List.sublist_append_right X M
end MEM52
theorem init_hv {n : Nat} {lv ow cm li : Addr} {as : Nat → Addr} {L : List D} : Hv (cM n (lv, ow, cm, li) as L [] [] [] (fun _ => [])) ((li, MO.lst []) :: (cm, MO.lst []) :: (ow, MO.lst []) :: qH as (fun _ => MO.lst []) n [(lv, MO.lst L)]) := by
  refine ⟨[], ?_⟩
  have e : qH as (fun _ => MO.lst []) n [(lv, MO.lst L)] = qH as (fun _ => MO.lst []) n [] ++ [(lv, MO.lst L)] := qH_app (M := [])
  rw [e, List.append_nil]
  show ([(li, MO.lst []), (cm, MO.lst []), (ow, MO.lst [])] ++ (qH as (fun _ => MO.lst []) n [] ++ [(lv, MO.lst L)])).Perm ([(lv, MO.lst L), (ow, MO.lst []), (cm, MO.lst []), (li, MO.lst [])] ++ qH as (fun _ => MO.lst []) n [])
  refine (List.Perm.append_left _ (List.perm_append_singleton _ _)).trans ?_
  exact (List.reverse_perm [(li, MO.lst []), (cm, MO.lst []), (ow, MO.lst []), (lv, MO.lst L)]).symm.append_right _

local macro_rules | `(tactic| walk_at "ev") => `(tactic| try dsimp only [aVar, onSlot_ss, onD_s, aC, aOp, aUn, aB, aAnd, aOr, aNot, aAndV, aOrV, aNotV, aIf, aChain, aNil, aCons, aTup, aLst, aLstM, aCB, aNext, aBreak, aCont, aDrop, aRet, aRetN, aIfS, aSet, aPar, aPar3, aAug, aNever, agName, aAsg, aAsg_k, aSetIx, aItS, aRng1, aRng2, aEnum, aZip, aYes, aCall, fAdd, fSub, fMul, fDiv, fMod, fPow, fLt, fLe, fGt, fGe, fEq, fNe, fIs, fIsNot, getI_0, getI_1, getI_2, getI_3, aNoP, aP, aSl, aRev, aRevM, aApp, aPop, aIsi, fNil, aNil?, aNilV, wipeG, List.set_cons_zero, List.set_cons_succ, List.getElem?_cons_zero, List.getElem?_cons_succ, List.cons_append, List.nil_append, List.append_nil, List.map_cons, List.map_nil, List.length_cons, List.length_nil, aB_bl, aAndV_bl, aOrV_bl, aNotV_bl, aChain_bl, aPar_2, aPar3_3, onGm_s, agTup_t, agLst_t, agNil_n, agCons_c, bind_s, aSetIx_r, aItS_l, aItS_t, aRng1_i, aRng2_i, aEnum_l, aZip_l, aZip_t, fI_i, fC_i, fNeg_i, seqOf_l, seqOf_t, seqOf_r, lstOf_l, lstOf_r, fLen_1, fIx_i, aP_i, aSl_l, aSl_r, aRev_l, aRev_r, aRevM_l, aRevM_r, aApp_r, aPop_r, fEq_ii, fEq_ss, fEq_bb, fEq_nn, fEq_ni, fEq_in, fEq_ns, fEq_sn, fEq_is, fEq_si, fEq_ll, fEq_tt, fEq_tl, fEq_lt, fIs_n, fIs_b, isN_n, isN_i, isN_b, isN_s, isN_t, isN_l, isN_r, isN_o, fAbs_i, fInt_i, fInt_b, fMax2_i, fMin2_i, fTuple_1, fList_1, fListM_1, fAll_l, fAny_l, fSum_l, fMaxL_l, fMinL_l, fIsi_i, fIsi_b, fIsi_n, fIsi_s, fIsi_t, fIsi_l, aRaise, aRaise_1, aTry, aXat, aXat_x, aIsX, aIsX_x, aMake, aMakeM, aFld, aFld_i, aFld_r, aFldS, aFldS_r, aEnumA, aEnumA_l, aEnumA_t, aIsi2, fCatT_t, fCatL, fCatM, lsOf_l, lsOf_r, fRepT_t, aRevT, aRevT_t, aIns, aIns_r, fIn, aChain3, aChain3_bl, spTake, spPick55, sp_is_integer, sp_is_number, sp_common_divisor, prD, sp_is_fraction, sp_is_rate, sp_need_rate, sp_need_numbers, sp_is_slow, sp_stay_bound, sp_trip_bound, sp_wait_bound, sp__law_box, sp__law_web, sp__law_turns, sp__law_ways, sp__law_rate, sp__law_room, sp__law_going, sp__law_played, optD_some, optD_none, fMaxR_r, fMinP_l, aRem, aRem_r])
local macro_rules | `(tactic| walk_at "isi") => `(tactic| ((try simp only [isi_int_int, isi_int_bool, isi_int_str, isi_int_tuple, isi_int_list, isi_bool_int, isi_bool_bool, isi_bool_str, isi_bool_tuple, isi_bool_list, isi_NoneType_int, isi_NoneType_bool, isi_NoneType_str, isi_NoneType_tuple, isi_NoneType_list, isi_str_int, isi_str_bool, isi_str_str, isi_str_tuple, isi_str_list, isi_tuple_int, isi_tuple_bool, isi_tuple_str, isi_tuple_tuple, isi_tuple_list, isi_list_int, isi_list_bool, isi_list_str, isi_list_tuple, isi_list_list]); walk_at "ev"))
local macro_rules | `(tactic| walk_at "no") => `(tactic| (refine ⟨fun h => Bool.noConfusion h, fun _ => ?_⟩; walk_at "ev"))
local macro_rules | `(tactic| walk_at "yes") => `(tactic| (refine ⟨fun _ => ?_, fun h => Bool.noConfusion h⟩; walk_at "ev"))
local macro_rules | `(tactic| walk_at "go") => `(tactic| (repeat (first | (refine ⟨fun h => Bool.noConfusion h, fun _ => ?_⟩; walk_at "ev"; walk_at "isi") | (refine ⟨fun _ => ?_, fun h => Bool.noConfusion h⟩; walk_at "ev"; walk_at "isi") | (refine aSeq_step ?_; walk_at "ev"; walk_at "isi"))))
local macro_rules | `(tactic| walk_at "st") => `(tactic| (refine aSeq_step ?_; walk_at "ev"))
local macro_rules | `(tactic| walk_at "ok") => `(tactic| first | exact divOk_of (by omega) (by omega) | exact divOk_of (by decide +kernel) (by decide +kernel) | exact Or.inl ⟨by omega, by omega⟩ | exact Or.inr (Or.inl ⟨by omega, by omega⟩) | (show (0 : Int) < _; omega))
local macro_rules | `(tactic| walk_at "mem") => `(tactic| (repeat' (first | (refine List.forall_mem_cons.mpr ⟨?_, ?_⟩) | exact (fun _ h => absurd h List.not_mem_nil) | exact ⟨_, rfl, by omega⟩)))

section
variable {P : Program} {w : World} {K : PySem.W.Frag} {mg : Str → Option Value} {base : Heap}
theorem ok_is_integer (T : Top P K mg) {B : Bx} : FnOk P w K mg base (L2N.CX P w) 1 T.f_is_integer T.d_is_integer ["value"] (conc K B sp_is_integer) := by
  refine dfn T.F_is_integer sc_is_integer (fun ds M Φ Ψ h => ?_) (fun cdv A outer s H E hr ds M Φ Ψ h => ⟨_, (dss_one (ds_ret (de_and (de_isi (n := "int") (by rfl) T.z_isinstance (by rfl) T.z_int (by decide +kernel) (dv 0)) (de_one (de_not (de_isi (n := "bool") (by rfl) T.z_isinstance (by rfl) T.z_bool (by decide +kernel) (dv 0))))))), ?_⟩) <;> (unfold sp_is_integer at h; split at h; rotate_left; exact h.elim)
  · rfl
  · rename_i d
    obtain ⟨hd, h⟩ := h
    rw [st_is_integer]
    cases d <;> first
      | exact Bool.noConfusion hd
      | (walk_at "ev"; walk_at "isi"; walk_at "go"; exact h)
theorem ok_is_number (T : Top P K mg) {B : Bx} : FnOk P w K mg base (L2N.CX P w) 2 T.f_is_number T.d_is_number ["value", "most"] (conc K B sp_is_number) := by
  refine dfnD T.F_is_number sc_is_number (fun ds M Φ Ψ h => ?_) (fun cdv A outer s H E hr ds M Φ Ψ h => ⟨_, (dss_one (ds_ret (de_and (de_call ((ok_is_integer T).mono (by first | decide | exact Nat.le_refl _)) hr (by rfl) T.g_is_integer T.F_is_integer.kp T.b_is_integer (L2N.takes_of rfl rfl rfl rfl) (da_cons (dv 0) da_nil)) (de_and (de_ge (dv 0) de_int) (de_one (de_or (de_is (dv 1) de_non) (de_one (de_le (dv 0) (dv 1))))))))), ?_⟩)
  · unfold sp_is_number at h
    split at h
    · rfl
    · rfl
    · exact h.elim
  · unfold sp_is_number at h
    split at h
    · rename_i d
      obtain ⟨hd, h⟩ := h
      rw [st_is_number]
      walk_at "ev"
      refine ⟨hd, ?_⟩
      cases d with
      | int i =>
        walk_at "ev"
        refine ⟨fun _ => ⟨fun z => ?_, fun z => ?_⟩, fun z => Bool.noConfusion z⟩
        · refine ⟨fun _ => ?_, fun z => Bool.noConfusion z⟩
          rw [isNum_n, z] at h
          exact h
        · rw [isNum_n, z] at h
          exact h
      | _ => first
        | exact Bool.noConfusion hd
        | (walk_at "go"; exact h)
    · rename_i d k
      obtain ⟨hd, h⟩ := h
      rw [st_is_number]
      walk_at "ev"
      refine ⟨hd, ?_⟩
      cases d with
      | int i =>
        walk_at "ev"
        refine ⟨fun _ => ⟨fun z => ?_, fun z => ?_⟩, fun z => Bool.noConfusion z⟩
        · refine ⟨fun z => Bool.noConfusion z, fun _ => ?_⟩
          rw [isNum_s, z] at h
          exact h
        · rw [isNum_s, z] at h
          exact h
      | _ => first
        | exact Bool.noConfusion hd
        | (walk_at "go"; exact h)
    · exact h.elim
theorem ok_common_divisor (T : Top P K mg) {B : Bx} : FnOk P w K mg base (L2N.CX P w) 1 T.f_common_divisor T.d_common_divisor ["one", "other"] (conc K B sp_common_divisor) := by
  refine dfn T.F_common_divisor sc_common_divisor (fun ds M Φ Ψ h => ?_) (fun cdv A outer s H E hr ds M Φ Ψ h => ⟨_, (dss_cons (ds_while (passes_of rfl) (dt_gt (dv 1) de_int)
        (dss_one (ds_par (i := 0) (j := 1) rfl sc_common_divisor.nd rfl rfl (by decide) rfl rfl (da_cons (dv 1) (da_cons (de_mod (dv 0) (dv 1)) da_nil)))))
      (dss_one (ds_ret (dv 0)))), ?_⟩) <;> (unfold sp_common_divisor at h; split at h; rotate_left; exact h.elim)
  · rfl
  · rename_i a b
    obtain ⟨⟨ha, hb⟩, h⟩ := h
    rw [st_common_divisor]
    refine aSeq_step ?_
    refine aWhile_by (fun m Γ' M' => ∃ x y : Int, Γ' = [some (.int x), some (.int y)] ∧ M' = M ∧ m = y.toNat ∧ 0 ≤ x ∧ 0 ≤ y ∧ gcdI x y = gcdI a b) _ ⟨a, b, rfl, rfl, rfl, ha, hb, rfl⟩ ?_
    rintro m Γ' M' ⟨x, y, rfl, rfl, rfl, hx, hy, he⟩
    walk_at "ev"
    refine ⟨fun hb => ?_, fun hb => ?_⟩
    · have hb := of_decide_eq_true hb
      have e0 := Int.emod_nonneg x (by omega : y ≠ 0)
      have e1 := Int.emod_lt_of_pos x hb
      exact ⟨hb, _, by omega, y, x % y, rfl, rfl, rfl, hy, e0, (gcd_step hb).trans he⟩
    · have hb := of_decide_eq_false hb
      obtain rfl : y = 0 := by omega
      have e : gcdI x 0 = x := by
        unfold gcdI
        rw [Int.gcd_zero_right]
        omega
      rw [e] at he
      rw [he]
      exact h

theorem ok_is_fraction (T : Top P K mg) {B : Bx} : FnOk P w K mg base (L2N.CX P w) 3 T.f_is_fraction T.d_is_fraction ["value"] (conc K B sp_is_fraction) := by
  refine dfn T.F_is_fraction sc_is_fraction (fun ds M Φ Ψ h => ?_) (fun cdv A outer s H E hr ds M Φ Ψ h => ⟨_, (dss_cons (ds_if (dt_w (dw_or (dt_not (dt_val (de_isi (n := "tuple") (by rfl) T.z_isinstance (by rfl) T.z_tuple (by decide +kernel) (dv 0)))) (dw_or (dt_ne hr (de_len (by rfl) T.z_len (dv 0)) de_int) (dw_or1 (dt_not (dt_val (de_all rfl (by rfl) T.z_all (de_lc (own := [("one", 1)]) rfl sc_is_fraction.nd (di_seq (dv 0)) (blkOk_by (N := n_is_fraction) (sc := defScope s_is_fraction) (by decide +kernel)) (fun _ _ _ _ _ => (dg_name (i := 1) sc_is_fraction.nd rfl (.inl rfl))) (fun _ _ _ _ _ => dts_nil) (fun _ _ _ _ _ => (de_callD (dds := [D.non]) ((ok_is_number T).mono (by first | decide | exact Nat.le_refl _)) hr (by rfl) T.g_is_number T.F_is_number.kp T.b0_is_number T.v0_is_number (fun _ => (.cons (.non) .nil)) tk_calm (da_cons (dv 1) da_nil)))))))))))
        (dss_one (ds_ret de_bl))
        dss_nil)
      (dss_one (ds_ret (de_and (de_gt (de_item (dv 0) de_int) de_int) (de_one (de_eq hr (de_call ((ok_common_divisor T).mono (by first | decide | exact Nat.le_refl _)) hr (by rfl) T.g_common_divisor T.F_common_divisor.kp T.b_common_divisor (L2N.takes_of rfl rfl rfl rfl) (da_cons (de_item (dv 0) de_int) (da_cons (de_item (dv 0) de_int) da_nil))) de_int)))))), ?_⟩) <;> (unfold sp_is_fraction at h; split at h; rotate_left; exact h.elim)
  · rfl
  · rename_i d
    obtain ⟨hd, h⟩ := h
    rw [st_is_fraction]
    have ok1 : okD d = true := by
      unfold okPr at hd
      rw [Bool.and_eq_true] at hd
      exact hd.1
    cases d with
    | tup xs =>
      walk_at "st"
      walk_at "isi"
      walk_at "ev"
      refine ⟨fun z => Bool.noConfusion z, fun _ => ⟨fun z => ?_, fun z => ?_⟩⟩
      · rw [isFr_none (frOf_len fun e => by rw [e] at z; exact Bool.noConfusion z)] at h
        first
          | exact h
          | exact ⟨fun _ => h, fun z => Bool.noConfusion z⟩
      · have hl : xs.length = 2 := by
          by_cases e : xs.length = 2
          · exact e
          · have e2 : ¬ ((xs.length : Int) = 2) := by omega
            rw [decide_eq_false e2] at z
            exact Bool.noConfusion z
        match xs, hl with
        | [a, b], _ =>
          obtain ⟨ha, hb, hva, hvb⟩ := okPr_2 hd
          refine aLc_map [a, b] (fun d => d) (fun d => .bl (isNum d none)) (fun Φ' q => ?_) (by show 2 ≤ 100000; decide) (fun x hx M' => ⟨[some (.tup [a, b]), some x], rfl, fun Φ' q => ?_⟩) ?_
          · walk_at "ev"
            exact q
          · walk_at "ev"
            refine ⟨?_, q⟩
            rcases List.mem_cons.mp hx with rfl | hx
            · exact ha
            · rw [List.mem_singleton.mp hx]
              exact hb
          walk_at "ev"
          refine ⟨[isNum a none, isNum b none], rfl, ?_⟩
          cases e1 : isNum a none with
          | false =>
            rw [isFr_none (frOf_num fun z => by rw [e1] at z; exact Bool.noConfusion z.1)] at h
            exact ⟨fun _ => h, fun z => Bool.noConfusion (show true = false from z)⟩
          | true =>
            cases e2 : isNum b none with
            | false =>
              rw [isFr_none (frOf_num fun z => by rw [e2] at z; exact Bool.noConfusion z.2)] at h
              exact ⟨fun _ => h, fun z => Bool.noConfusion (show true = false from z)⟩
            | true =>
              obtain ⟨x, rfl, x0⟩ := num_of e1
              obtain ⟨y, rfl, y0⟩ := num_of e2
              refine ⟨fun z => Bool.noConfusion (show false = true from z), fun _ => ?_⟩
              walk_at "ev"
              refine ⟨fun z => ⟨⟨x0, y0⟩, ?_⟩, fun z => ?_⟩
              · rw [isFr_some (frOf_2 ⟨x0, of_decide_eq_true z⟩)] at h
                exact h
              · rw [isFr_none (frOf_2n fun q => of_decide_eq_false z q.2)] at h
                exact h
    | _ => first
      | exact Bool.noConfusion ok1
      | (walk_at "st"; walk_at "isi"; exact ⟨fun _ => ⟨fun _ => h, fun z => Bool.noConfusion z⟩, fun z => Bool.noConfusion z⟩)
      | (walk_at "st"; walk_at "isi"; exact ⟨fun _ => h, fun z => Bool.noConfusion z⟩)
theorem ok_is_rate (T : Top P K mg) {B : Bx} : FnOk P w K mg base (L2N.CX P w) 4 T.f_is_rate T.d_is_rate ["value"] (conc K B sp_is_rate) := by
  refine dfn T.F_is_rate sc_is_rate (fun ds M Φ Ψ h => ?_) (fun cdv A outer s H E hr ds M Φ Ψ h => ⟨_, (dss_one (ds_ret (de_and (de_call ((ok_is_fraction T).mono (by first | decide | exact Nat.le_refl _)) hr (by rfl) T.g_is_fraction T.F_is_fraction.kp T.b_is_fraction (L2N.takes_of rfl rfl rfl rfl) (da_cons (dv 0) da_nil)) (de_one (de_chain3 op_lt op_lt op_le ab_B0 ab_B0 ab_B0 de_int (de_item (dv 0) de_int) (de_item (dv 0) de_int) (de_const (v := .int (1000)) (d := .int (1000)) (by rfl) T.c_MOST_BOTTOM ⟨_, rfl⟩ (fun _ => .int _))))))), ?_⟩) <;> (unfold sp_is_rate at h; split at h; rotate_left; exact h.elim)
  · rfl
  · rename_i d
    obtain ⟨hd, h⟩ := h
    rw [st_is_rate]
    walk_at "ev"
    refine ⟨hd, fun z => ?_, fun z => ?_⟩
    · obtain ⟨f, e, rfl, f0, f1, fg⟩ := isFr_inv z
      rw [isRt_some e, decide_eq_true fg, Bool.true_and] at h
      walk_at "ev"
      refine ⟨fun z1 => ⟨fun z2 => ?_, fun z2 => ?_⟩, fun z1 => ?_⟩
      · rw [z1, z2, Bool.true_and, Bool.true_and] at h
        exact h
      · rw [z2, Bool.false_and, Bool.and_false] at h
        exact h
      · rw [z1, Bool.false_and] at h
        exact h
    · rw [isRt_no z] at h
      exact h
theorem ok_need_rate (T : Top P K mg) {B : Bx} : FnOk P w K mg base (L2N.CX P w) 5 T.f_need_rate T.d_need_rate ["rate"] (conc K B (sp_need_rate T.C_Refused)) := by
  refine dfn T.F_need_rate sc_need_rate (fun ds M Φ Ψ h => ?_) (fun cdv A outer s H E hr ds M Φ Ψ h => ⟨_, (dss_one (ds_if (dt_not (dt_val (de_call ((ok_is_rate T).mono (by first | decide | exact Nat.le_refl _)) hr (by rfl) T.g_is_rate T.F_is_rate.kp T.b_is_rate (L2N.takes_of rfl rfl rfl rfl) (da_cons (dv 0) da_nil))))
        (dss_one (ds_raise rfl (L2N.takes_of rfl rfl rfl rfl) T.X_Refused hr T.n_super (by rfl) T.g_Refused (da_cons de_str da_nil)))
        dss_nil)), ?_⟩) <;> (unfold sp_need_rate at h; split at h; rotate_left; exact h.elim)
  · rfl
  · rename_i d
    obtain ⟨hd, h1, h2⟩ := h
    rw [st_need_rate]
    walk_at "ev"
    exact ⟨hd, fun z => h2 (by rw [Bool.not_eq_true'] at z; exact z), fun z => h1 (by rw [Bool.not_eq_false'] at z; exact z)⟩

theorem ok_need_numbers (T : Top P K mg) {B : Bx} : FnOk P w K mg base (L2N.CX P w) 6 T.f_need_numbers T.d_need_numbers ["rate", "burst", "d"] (conc K B (sp_need_numbers T.C_Refused)) := by
  refine dfn T.F_need_numbers sc_need_numbers (fun ds M Φ Ψ h => ?_) (fun cdv A outer s H E hr ds M Φ Ψ h => ⟨_, (dss_cons (ds_expr (de_call ((ok_need_rate T).mono (by first | decide | exact Nat.le_refl _)) hr (by rfl) T.g_need_rate T.F_need_rate.kp T.b_need_rate (L2N.takes_of rfl rfl rfl rfl) (da_cons (dv 0) da_nil)))
      (dss_cons (ds_if (dt_w (dw_or (dt_not (dt_val (de_callD (dds := [D.non]) ((ok_is_number T).mono (by first | decide | exact Nat.le_refl _)) hr (by rfl) T.g_is_number T.F_is_number.kp T.b0_is_number T.v0_is_number (fun _ => (.cons (.non) .nil)) (L2N.takes_of rfl rfl rfl rfl) (da_cons (dv 1) da_nil)))) (dw_or1 (dt_eq hr (dv 1) de_int))))
        (dss_one (ds_raise rfl (L2N.takes_of rfl rfl rfl rfl) T.X_Refused hr T.n_super (by rfl) T.g_Refused (da_cons de_str da_nil)))
        dss_nil)
      (dss_one (ds_if (dt_w (dw_or (dt_not (dt_val (de_call ((ok_is_number T).mono (by first | decide | exact Nat.le_refl _)) hr (by rfl) T.g_is_number T.F_is_number.kp T.b_is_number (L2N.takes_of rfl rfl rfl rfl) (da_cons (dv 2) (da_cons (de_const (v := .int (60)) (d := .int (60)) (by rfl) T.c_MOST_BELTS_OF_WAY ⟨_, rfl⟩ (fun _ => .int _)) da_nil))))) (dw_or1 (dt_eq hr (dv 2) de_int))))
        (dss_one (ds_raise rfl (L2N.takes_of rfl rfl rfl rfl) T.X_Refused hr T.n_super (by rfl) T.g_Refused (da_cons de_str da_nil)))
        dss_nil)))), ?_⟩) <;> (unfold sp_need_numbers at h; split at h; rotate_left; exact h.elim)
  · rfl
  · rename_i r b d
    obtain ⟨r0, r1, b0, b1, d0, d1, go⟩ := h
    rw [st_need_numbers]
    walk_at "st"
    refine ⟨r0, fun z => ?_, r1⟩
    have b0 := b0 z
    have b1 := b1 z
    have d0 := d0 z
    have d1 := d1 z
    have go := go z
    walk_at "st"
    refine ⟨b0, fun zb => ⟨fun _ => b1 ?_, fun z => Bool.noConfusion z⟩, fun zb => ?_⟩
    · rw [Bool.not_eq_true'] at zb
      cases b <;> first
        | rfl
        | (rename_i i
           rw [isNum_n, Bool.and_true] at zb
           exact decide_eq_false (by have := of_decide_eq_false zb; omega))
    · rw [Bool.not_eq_false'] at zb
      obtain ⟨i, rfl, i0⟩ := num_of zb
      walk_at "ev"
      refine ⟨fun z0 => b1 (decide_eq_false (by have := of_decide_eq_true z0; omega)), fun z0 => ?_⟩
      have gb : goodB (.int i) = true := decide_eq_true (by have := of_decide_eq_false z0; omega)
      have d0 := d0 gb
      have d1 := d1 gb
      have go := go gb
      walk_at "ev"
      refine ⟨d0, fun zd => ⟨fun _ => d1 ?_, fun z => Bool.noConfusion z⟩, fun zd => ?_⟩
      · rw [Bool.not_eq_true'] at zd
        cases d <;> first
          | rfl
          | (rename_i n
             rw [isNum_s] at zd
             unfold goodD
             simp only [Bool.and_eq_false_iff, decide_eq_false_iff_not] at zd ⊢
             omega)
      · rw [Bool.not_eq_false'] at zd
        obtain ⟨n, rfl, n0, n1⟩ := num_60 zd
        walk_at "ev"
        refine ⟨fun z0 => d1 ?_, fun z0 => go ?_⟩
        · have := of_decide_eq_true z0
          unfold goodD
          simp only [Bool.and_eq_false_iff, decide_eq_false_iff_not]
          omega
        · have := of_decide_eq_false z0
          unfold goodD
          simp only [Bool.and_eq_true, decide_eq_true_eq]
          omega
theorem ok_is_slow (T : Top P K mg) {B : Bx} : FnOk P w K mg base (L2N.CX P w) 7 T.f_is_slow T.d_is_slow ["rate", "d"] (conc K B (sp_is_slow T.C_Refused)) := by
  refine dfn T.F_is_slow sc_is_slow (fun ds M Φ Ψ h => ?_) (fun cdv A outer s H E hr ds M Φ Ψ h => ⟨_, (dss_cons (ds_expr (de_call ((ok_need_numbers T).mono (by first | decide | exact Nat.le_refl _)) hr (by rfl) T.g_need_numbers T.F_need_numbers.kp T.b_need_numbers (L2N.takes_of rfl rfl rfl rfl) (da_cons (dv 0) (da_cons de_int (da_cons (dv 1) da_nil)))))
      (dss_one (ds_ret (de_lt (de_mul (de_item (dv 0) de_int) (dv 1)) (de_item (dv 0) de_int))))), ?_⟩) <;> (unfold sp_is_slow at h; split at h; rotate_left; exact h.elim)
  · rfl
  · rename_i r d
    rw [st_is_slow]
    walk_at "st"
    refine h.on (fun x q => q) fun go z1 z2 z3 => ?_
    have go := go z1 z2 z3
    obtain ⟨p, q, rfl, p0, pq, q1⟩ := rt_inv z1
    obtain ⟨n, rfl, n0, n1⟩ := goodD_inv z3
    walk_at "ev"
    exact ⟨.inl ⟨by omega, by omega⟩, go p q 1 n rfl rfl rfl p0 pq q1 (by decide) n0 n1⟩
theorem ok_stay_bound (T : Top P K mg) {B : Bx} : FnOk P w K mg base (L2N.CX P w) 8 T.f_stay_bound T.d_stay_bound ["rate", "burst", "d"] (conc K B (sp_stay_bound T.C_Refused)) := by
  refine dfn T.F_stay_bound sc_stay_bound (fun ds M Φ Ψ h => ?_) (fun cdv A outer s H E hr ds M Φ Ψ h => ⟨_, (dss_cons (ds_expr (de_call ((ok_need_numbers T).mono (by first | decide | exact Nat.le_refl _)) hr (by rfl) T.g_need_numbers T.F_need_numbers.kp T.b_need_numbers (L2N.takes_of rfl rfl rfl rfl) (da_cons (dv 0) (da_cons (dv 1) (da_cons (dv 2) da_nil)))))
      (dss_cons (ds_if (dt_not (dt_val (de_call ((ok_is_slow T).mono (by first | decide | exact Nat.le_refl _)) hr (by rfl) T.g_is_slow T.F_is_slow.kp T.b_is_slow (L2N.takes_of rfl rfl rfl rfl) (da_cons (dv 0) (da_cons (dv 2) da_nil)))))
        (dss_one (ds_ret de_non))
        dss_nil)
      (dss_one (ds_ret (de_add (de_div (de_mul (de_sub (dv 1) de_int) (de_item (dv 0) de_int)) (de_sub (de_item (dv 0) de_int) (de_mul (de_item (dv 0) de_int) (dv 2)))) de_int))))), ?_⟩) <;> (unfold sp_stay_bound at h; split at h; rotate_left; exact h.elim)
  · rfl
  · rename_i r b d
    rw [st_stay_bound]
    walk_at "st"
    refine h.on (fun x q => q) fun go z1 z2 z3 => ?_
    have go := go z1 z2 z3
    obtain ⟨p, q, rfl, p0, pq, q1⟩ := rt_inv z1
    obtain ⟨i, rfl, i0⟩ := goodB_inv z2
    obtain ⟨n, rfl, n0, n1⟩ := goodD_inv z3
    have go := go p q i n rfl rfl rfl p0 pq q1 i0 n0 n1
    have od : okD (.int n) = true := rfl
    walk_at "st"
    refine Need.all h.r0 z1 rfl (by decide) rfl z3 fun p' q' i' n' e1 e2 e3 _ _ _ _ _ _ => ?_
    cases e1
    cases e2
    cases e3
    unfold stayF at go
    dsimp only at go ⊢
    refine ⟨fun z => ?_, fun z => ?_⟩
    · rw [Bool.not_eq_true'] at z
      rw [if_neg (of_decide_eq_false z)] at go
      exact go
    · rw [Bool.not_eq_false'] at z
      have z := of_decide_eq_true z
      rw [if_pos z] at go
      walk_at "ev"
      exact ⟨.inr (.inl ⟨by omega, by omega⟩), .inl ⟨by omega, by omega⟩, divOk_of (by omega) (by have : 0 < p * n := Int.mul_pos p0 n0; omega), go⟩
theorem ok_trip_bound (T : Top P K mg) {B : Bx} : FnOk P w K mg base (L2N.CX P w) 9 T.f_trip_bound T.d_trip_bound ["rate", "burst", "d"] (conc K B (sp_trip_bound T.C_Refused)) := by
  refine dfn T.F_trip_bound sc_trip_bound (fun ds M Φ Ψ h => ?_) (fun cdv A outer s H E hr ds M Φ Ψ h => ⟨_, (dss_cons (ds_set (i := 3) sc_trip_bound.nd rfl (.inl rfl) (de_call ((ok_stay_bound T).mono (by first | decide | exact Nat.le_refl _)) hr (by rfl) T.g_stay_bound T.F_stay_bound.kp T.b_stay_bound (L2N.takes_of rfl rfl rfl rfl) (da_cons (dv 0) (da_cons (dv 1) (da_cons (dv 2) da_nil)))))
      (dss_one (ds_ret (de_if (dt_is (dv 3) de_non) de_non (de_mul (dv 3) (dv 2)))))), ?_⟩) <;> (unfold sp_trip_bound at h; split at h; rotate_left; exact h.elim)
  · rfl
  · rename_i r b d
    rw [st_trip_bound]
    walk_at "st"
    refine h.on (fun x q => q) fun go z1 z2 z3 p q i n e1 e2 e3 h1 h2 h3 h4 h5 h6 => ?_
    have g2 := go z1 z2 z3 p q i n e1 e2 e3 h1 h2 h3 h4 h5 h6
    clear go
    subst e1 e2 e3
    unfold tripF at g2
    dsimp only at g2 ⊢
    cases e : stayF p q i n with
    | none =>
      rw [e] at g2
      walk_at "ev"
      exact ⟨fun _ => g2, fun z => Bool.noConfusion z⟩
    | some t =>
      rw [e] at g2
      walk_at "ev"
      exact ⟨fun z => Bool.noConfusion z, fun _ => ⟨.inr (.inl ⟨by omega, by omega⟩), g2⟩⟩
theorem ok_wait_bound (T : Top P K mg) {B : Bx} : FnOk P w K mg base (L2N.CX P w) 10 T.f_wait_bound T.d_wait_bound ["rate", "burst", "d"] (conc K B (sp_wait_bound T.C_Refused)) := by
  refine dfn T.F_wait_bound sc_wait_bound (fun ds M Φ Ψ h => ?_) (fun cdv A outer s H E hr ds M Φ Ψ h => ⟨_, (dss_cons (ds_set (i := 3) sc_wait_bound.nd rfl (.inl rfl) (de_call ((ok_trip_bound T).mono (by first | decide | exact Nat.le_refl _)) hr (by rfl) T.g_trip_bound T.F_trip_bound.kp T.b_trip_bound (L2N.takes_of rfl rfl rfl rfl) (da_cons (dv 0) (da_cons (dv 1) (da_cons (dv 2) da_nil)))))
      (dss_one (ds_ret (de_if (dt_is (dv 3) de_non) de_non (de_add (de_div (de_mul (de_item (dv 0) de_int) (dv 3)) (de_item (dv 0) de_int)) (dv 1)))))), ?_⟩) <;> (unfold sp_wait_bound at h; split at h; rotate_left; exact h.elim)
  · rfl
  · rename_i r b d
    rw [st_wait_bound]
    walk_at "st"
    refine h.on (fun x q => q) fun go z1 z2 z3 p q i n e1 e2 e3 h1 h2 h3 h4 h5 h6 => ?_
    have g2 := go z1 z2 z3 p q i n e1 e2 e3 h1 h2 h3 h4 h5 h6
    clear go
    subst e1 e2 e3
    unfold waitF at g2
    dsimp only at g2 ⊢
    cases e : tripF p q i n with
    | none =>
      rw [e] at g2
      walk_at "ev"
      exact ⟨fun _ => g2, fun z => Bool.noConfusion z⟩
    | some t =>
      rw [e] at g2
      walk_at "ev"
      exact ⟨fun z => Bool.noConfusion z, fun _ => ⟨.inl ⟨by omega, by omega⟩, divOk_of (by omega) (by omega), g2⟩⟩

theorem ok__law_take0 (T : Top P K mg) {B : Bx} : FnOk P w K mg base (L2N.CX P w) 1 T.f__law_take T.d__law_take ["box", "many"] (conc K B spTakeM) := by
  refine dfn T.F__law_take sc__law_take (fun ds M Φ Ψ h => ?_) (fun cdv A outer s H E hr ds M Φ Ψ h => ⟨_, (dss_cons (ds_if (dt_gt (de_item (dv 0) de_int) de_int)
        (dss_cons (ds_set (i := 2) sc__law_take.nd rfl (.inl rfl) (de_mod (de_callInt (by rfl) T.z_int (de_item (dv 0) de_int)) (dv 1)))
          (dss_cons (ds_setIx (de_div (de_item (dv 0) de_int) (dv 1)) (dv 0) de_int)
          (dss_one (ds_ret (dv 2)))))
        dss_nil)
      (dss_cons (ds_setIx (de_add (de_item (dv 0) de_int) de_int) (dv 0) de_int)
      (dss_cons (ds_set (i := 3) sc__law_take.nd rfl (.inl rfl) (de_mod (de_callInt (by rfl) T.z_int (de_add (de_mul (de_add (de_item (dv 0) de_int) (de_mul de_int (de_item (dv 0) de_int))) de_int) de_int)) de_int))
      (dss_cons (ds_setIx (de_add (de_mod (de_callInt (by rfl) T.z_int (de_add (de_mul (dv 3) de_int) de_int)) de_int) de_int) (dv 0) de_int)
      (dss_one (ds_ret (de_mod (de_callInt (by rfl) T.z_int (de_div (de_add (de_mul (dv 3) de_int) (de_item (dv 0) de_int)) de_int)) (dv 1)))))))), ?_⟩) <;> obtain ⟨b, a, x, y, n, M1, rfl, rfl, hn, hq⟩ := h
  · rfl
  · rw [st__law_take]
    unfold boxM at hq ⊢
    walk_at "st"
    refine ⟨_, .head _, ?_⟩
    walk_at "ev"
    refine ⟨fun z => ?_, fun z => ?_⟩
    · walk_at "st"
      refine ⟨_, .head _, ?_⟩
      walk_at "ev"
      refine ⟨hn.1, ?_⟩
      walk_at "st"
      refine ⟨_, .head _, ?_⟩
      walk_at "ev"
      refine ⟨divOk_of hn.1 hn.2, _, 0, _, rfl, .here, ?_⟩
      walk_at "ev"
      exact hq _ _ _ _ (Int.emod_nonneg _ (by omega)) (Int.emod_lt_of_pos _ hn.1)
    · walk_at "st"
      refine ⟨_, .head _, ?_⟩
      walk_at "ev"
      refine ⟨_, 2, _, rfl, .here, ?_⟩
      walk_at "st"
      refine ⟨_, .head _, ?_⟩
      walk_at "ev"
      refine ⟨_, .head _, ?_⟩
      walk_at "ev"
      refine ⟨.inl ⟨by decide, by decide⟩, .inr (.inl ⟨by decide, by decide⟩), by walk_at "ok", ?_⟩
      walk_at "st"
      refine ⟨.inr (.inl ⟨by decide, by decide⟩), by walk_at "ok", _, 1, _, rfl, .here, ?_⟩
      walk_at "ev"
      refine ⟨.inr (.inl ⟨by decide, by decide⟩), _, .head _, ?_⟩
      walk_at "ev"
      exact ⟨divOk_of (by decide) (by decide), hn.1, hq _ _ _ _ (Int.emod_nonneg _ (by omega)) (Int.emod_lt_of_pos _ hn.1)⟩
theorem ok__law_take (T : Top P K mg) (b : Addr) {B : Bx} : FnOk P w K mg base (L2N.CX P w) 1 T.f__law_take T.d__law_take ["box", "many"] (conc K (bxAnd (bxBox b) B) (spTake b)) := take_boxB (ok__law_take0 T) b
theorem ok__law_pick (T : Top P K mg) (bb : Addr) {B : Bx} : FnOk P w K mg base (L2N.CX P w) 2 T.f__law_pick T.d__law_pick ["box", "some"] (conc K (bxAnd (bxBox bb) B) (spPick55 bb)) := by
  refine dfn T.F__law_pick sc__law_pick (fun ds M Φ Ψ h => ?_) (fun cdv A outer s H E hr ds M Φ Ψ hh => ⟨_, (dss_one (ds_ret (de_item (dv 1) (de_call ((ok__law_take T bb).mono (by first | decide | exact Nat.le_refl _)) hr (by rfl) T.g__law_take T.F__law_take.kp T.b__law_take (L2N.takes_of rfl rfl rfl rfl) (da_cons (dv 0) (da_cons (de_len (by rfl) T.z_len (dv 1)) da_nil)))))), ?_⟩) <;> (first | (unfold spPick55 at h; split at h; rotate_left; rotate_left; exact h.elim) | (unfold spPick55 at hh; split at hh; rotate_left; rotate_left; exact hh.elim))
  · rfl
  · rfl
  · rename_i h' xs
    obtain ⟨rfl, ⟨h0, h1⟩, hq⟩ := hh
    rw [st__law_pick]
    walk_at "ev"
    refine ⟨rfl, ⟨by omega, by omega⟩, fun r r0 r1 => ?_⟩
    walk_at "ev"
    have hlt : r.toNat < xs.length := by omega
    rw [getI_of r0 (List.getElem?_eq_getElem hlt)]
    exact hq _ (List.getElem_mem hlt)
  · rename_i h' l
    obtain ⟨rfl, xs, hm, ⟨h0, h1⟩, hq⟩ := hh
    rw [st__law_pick]
    walk_at "ev"
    refine ⟨xs, hm, rfl, ⟨by omega, by omega⟩, fun r r0 r1 => ?_⟩
    have hlt : r.toNat < xs.length := by omega
    refine ⟨xs, hm, ?_⟩
    rw [getI_of r0 (List.getElem?_eq_getElem hlt)]
    exact hq _ (List.getElem_mem hlt)
theorem ok__law_box (T : Top P K mg) {B : Bx} : FnOk P w K mg base (L2N.CX P w) 1 T.f__law_box T.d__law_box ["script", "k"] (conc K B sp__law_box) := by
  refine dfn T.F__law_box sc__law_box (fun ds M Φ Ψ h => ?_) (fun cdv A outer s H E hr ds M Φ Ψ h => ⟨_, (dss_cons (ds_set (i := 2) sc__law_box.nd rfl (.inl rfl) (de_add (de_mul de_int (dv 1)) de_int))
      (dss_cons (ds_if (dt_lt (dv 1) (de_len (by rfl) T.z_len (dv 0)))
        (dss_one (ds_set (i := 2) sc__law_box.nd rfl (.inl rfl) (de_mod (de_callInt (by rfl) T.z_int (de_abs (by rfl) T.z_abs (de_item (dv 0) (dv 1)))) (de_mul (de_mul (de_pow de_int de_int) (de_pow de_int de_int)) (de_pow de_int de_int)))))
        (dss_one (ds_if (dt_gt (de_len (by rfl) T.z_len (dv 0)) de_int)
            (dss_one (ds_set (i := 2) sc__law_box.nd rfl (.inl rfl) (de_add (dv 2) (de_mul (de_mod (de_callInt (by rfl) T.z_int (de_abs (by rfl) T.z_abs (de_item (dv 0) (de_mod (de_callInt (by rfl) T.z_int (dv 1)) (de_len (by rfl) T.z_len (dv 0)))))) de_int) de_int))))
            dss_nil)))
      (dss_one (ds_ret (de_lstM (da_cons (de_item (de_lst (da_cons de_int (da_cons (dv 2) da_nil))) (de_callInt (by rfl) T.z_int (de_ge (dv 2) (de_pow de_int de_int)))) (da_cons (de_add (de_mod (de_callInt (by rfl) T.z_int (de_add (de_mul (de_mod (de_callInt (by rfl) T.z_int (dv 2)) de_int) de_int) (de_mul de_int (dv 1)))) de_int) de_int) (da_cons de_int da_nil)))))))), ?_⟩) <;> (unfold sp__law_box at h; split at h; rotate_left; exact h.elim)
  · rfl
  · rename_i xs k
    obtain ⟨⟨k0, k1⟩, ns, rfl, hl, hq⟩ := h
    rw [st__law_box]
    walk_at "st"
    refine ⟨.inl ⟨by decide, by decide⟩, ?_⟩
    refine aSeq_tail (α := Int) (fun cell => [some (.lst (List.map D.int ns)), some (.int k), some (.int cell)]) M (fun cell => ?_) fun tail => ?_
    · walk_at "ev"
      have mm : DL.MulOk (cell % 2147483629) 31013 := .inr (.inl ⟨by decide, by decide⟩)
      have mk : DL.MulOk 46021 k := .inl ⟨by decide, by decide⟩
      refine ⟨by decide, ⟨by decide, by decide, by decide⟩, ?_⟩
      by_cases hc : decide (10 ^ Int.toNat 18 ≤ cell) = true
      · rw [if_pos hc]
        exact ⟨by walk_at "ok", mm, mk, by walk_at "ok", by decide, fun l => hq l _ _ _⟩
      · rw [if_neg hc]
        exact ⟨by walk_at "ok", mm, mk, by walk_at "ok", by decide, fun l => hq l _ _ _⟩
    · have lm : (List.map D.int ns).length = ns.length := List.length_map _
      have at_ : ∀ i : Int, 0 ≤ i → i < ns.length → ∃ v : Int, getI (List.map D.int ns) i = some (.int v) := fun i h0 h1 => ⟨_, getI_of h0 (by rw [List.getElem?_map, List.getElem?_eq_getElem (show i.toNat < ns.length by omega)]; rfl)⟩
      walk_at "st"
      rw [lm]
      refine ⟨fun z => ?_, fun z => ⟨fun z2 => ?_, fun z2 => tail _⟩⟩
      · obtain ⟨v, ev⟩ := at_ k k0 (by have := of_decide_eq_true z; omega)
        rw [ev]
        walk_at "ev"
        have c60 : CPow 10 60 := ⟨by decide, by decide, by decide⟩
        exact ⟨c60, c60, mulZ (by decide +kernel) (by decide +kernel), c60, mulZ (by decide +kernel) (by decide +kernel), by show (0 : Int) < _; decide +kernel, tail _⟩
      · have l0 := of_decide_eq_true z2
        obtain ⟨v, ev⟩ := at_ (k % (ns.length : Nat)) (Int.emod_nonneg _ (by omega)) (Int.emod_lt_of_pos _ l0)
        refine ⟨l0, ?_⟩
        rw [ev]
        walk_at "ev"
        exact ⟨by walk_at "ok", .inr (.inl ⟨by decide, by decide⟩), tail _⟩
theorem prs_plD {k : Nat} {es : List (Int × Int)} : (es.map prD).all (plD (k + 2)) = true := by
  rw [List.all_map]
  exact List.all_eq_true.mpr fun _ _ => rfl
theorem ns_plD {k : Nat} {es : List Nat} : (es.map nD).all (plD (k + 1)) = true := by
  rw [List.all_map]
  exact List.all_eq_true.mpr fun _ _ => rfl
theorem es_ix {es : List (Int × Int)} {k : Nat} (h : k < es.length) : getI (es.map prD) (0 + (k : Int)) = some (prD (es.getD k (0, 0))) := by
  rw [Int.zero_add]
  refine getI_nat ?_
  rw [List.getElem?_map, List.getD_eq_getElem?_getD, List.getElem?_eq_getElem h]
  rfl
theorem ok__law_rate (T : Top P K mg) (bb : Addr) {B : Bx} : FnOk P w K mg base (L2N.CX P w) 3 T.f__law_rate T.d__law_rate ["box", "d"] (conc K (bxAnd (bxBox bb) B) (sp__law_rate bb)) := by
  refine dfn T.F__law_rate sc__law_rate (fun ds M Φ Ψ h => ?_) (fun cdv A outer s H E hr ds M Φ Ψ hh => ⟨_, (dss_one (ds_ret (de_call ((ok__law_pick T bb).mono (by first | decide | exact Nat.le_refl _)) hr (by rfl) T.g__law_pick T.F__law_pick.kp T.b__law_pick (L2N.takes_of rfl rfl rfl rfl) (da_cons (dv 0) (da_cons (de_lst (da_cons (de_tup (da_cons de_int (da_cons (de_add (dv 1) de_int) da_nil))) (da_cons (de_tup (da_cons de_int (da_cons (de_add (dv 1) de_int) da_nil))) (da_cons (de_tup (da_cons de_int (da_cons (de_add (dv 1) de_int) da_nil))) (da_cons (de_tup (da_cons de_int (da_cons (de_add (de_mul de_int (dv 1)) de_int) da_nil))) (da_cons (de_tup (da_cons de_int (da_cons (de_add (de_mul de_int (dv 1)) de_int) da_nil))) da_nil)))))) da_nil))))), ?_⟩) <;> (first | (unfold sp__law_rate at h; split at h; rotate_left; exact h.elim) | (unfold sp__law_rate at hh; split at hh; rotate_left; exact hh.elim))
  · rfl
  · rename_i b' d
    obtain ⟨rfl, ⟨d1, d6⟩, hq⟩ := hh
    rw [st__law_rate]
    walk_at "ev"
    obtain ⟨d, rfl⟩ := Int.eq_ofNat_of_zero_le (show 0 ≤ d by omega)
    rw [Int.toNat_natCast] at hq
    refine ⟨by decide, by decide, by decide, .inl ⟨by decide, by decide⟩, by decide, .inl ⟨by decide, by decide⟩, by decide, by decide, rfl, ⟨by decide, by decide⟩, fun x hx => ?_⟩
    have al : ((List.range 7).all fun k => decide (1 ≤ k → Rt55 1 (k + 1) k ∧ Rt55 1 (k + 2) k ∧ Rt55 2 (2 * k + 1) k ∧ Rt55 3 (3 * k + 1) k)) = true := by decide +kernel
    obtain ⟨r1, r2, r3, r4⟩ := of_decide_eq_true (List.all_eq_true.mp al d (List.mem_range.mpr (by omega))) (by omega)
    rcases List.mem_cons.mp hx with rfl | hx
    · exact hq 1 (d + 1) r1
    rcases List.mem_cons.mp hx with rfl | hx
    · exact hq 1 (d + 1) r1
    rcases List.mem_cons.mp hx with rfl | hx
    · exact hq 1 (d + 2) r2
    rcases List.mem_cons.mp hx with rfl | hx
    · exact hq 2 (2 * d + 1) r3
    rcases List.mem_cons.mp hx with rfl | hx
    · exact hq 3 (3 * d + 1) r4
    exact (List.not_mem_nil hx).elim
theorem ok__law_room (T : Top P K mg) {B : Bx} : FnOk P w K mg base (L2N.CX P w) 1 T.f__law_room T.d__law_room ["levels", "rate", "burst", "way"] (conc K B sp__law_room) := by
  refine dfn T.F__law_room sc__law_room (fun ds M Φ Ψ h => ?_) (fun cdv A outer s H E hr ds M Φ Ψ h => ⟨_, (dss_one (ds_ret (de_all rfl (by rfl) T.z_all (de_lc (own := [("e", 4)]) rfl sc__law_room.nd (di_seq (dv 3)) (blkOk_by (N := n__law_room) (sc := defScope s__law_room) (by decide +kernel)) (fun _ _ _ _ _ => (dg_name (i := 4) sc__law_room.nd rfl (.inl rfl))) (fun _ _ _ _ _ => dts_nil) (fun _ _ _ _ _ => (de_le (de_add (de_item (dv 0) (dv 4)) (de_item (dv 1) de_int)) (de_add (de_mul (de_item (dv 1) de_int) (dv 2)) (de_item (dv 1) de_int)))))))), ?_⟩) <;> (unfold sp__law_room at h; split at h; rotate_left; exact h.elim)
  · rfl
  · rename_i l p q b ys
    obtain ⟨n, lv, wy, hm, rfl, ⟨p0, q0, q1, b0, b1⟩, hl, hw, hq⟩ := h
    rw [st__law_room]
    walk_at "ev"
    refine aLc_mapS wy nD (fun e => .bl (decide ((lv e : Int) + q ≤ q * b + p))) (fun Φ' z => ?_) (by omega) (fun x hx M' hs => ?_) ?_
    · walk_at "ev"
      exact z
    · refine ⟨[some (D.ref l), some (D.tup [D.int p, D.int q]), some (D.int b), some (D.tup (List.map nD wy)), some (nD x)], rfl, fun Φ' z => ?_⟩
      walk_at "ev"
      refine ⟨_, hs _ hm, ?_⟩
      rw [lsF_ix (hw x hx)]
      unfold nD
      walk_at "ev"
      exact ⟨mulS q0 (by omega) b0 (by omega), z⟩
    · refine ⟨wy.map fun e => decide ((lv e : Int) + q ≤ q * b + p), by rw [List.map_map]; rfl, ?_⟩
      rw [List.all_map]
      exact hq
theorem ok__law_turns (T : Top P K mg) {B : Bx} : FnOk P w K mg base (L2N.CX P w) 1 T.f__law_turns T.d__law_turns ["belts"] (conc K B sp__law_turns) := by
  refine dfn T.F__law_turns sc__law_turns (fun ds M Φ Ψ h => ?_) (fun cdv A outer s H E hr ds M Φ Ψ h => ⟨_, (dss_cons (ds_set (i := 1) sc__law_turns.nd rfl (.inl rfl) (de_lst da_nil))
      (dss_cons (ds_for (passes_of rfl) rfl (di_rng1 (by rfl) T.z_range (da_cons (de_len (by rfl) T.z_len (dv 0)) da_nil)) (dg_name (i := 2) sc__law_turns.nd rfl (.inr rfl))
        (dss_one (ds_set (i := 1) sc__law_turns.nd rfl (.inl rfl) (de_catL (dv 1) (de_lc (own := [("f", 3)]) rfl sc__law_turns.nd (di_rng1 (by rfl) T.z_range (da_cons (de_len (by rfl) T.z_len (dv 0)) da_nil)) (blkOk_by (N := n__law_turns) (sc := defScope s__law_turns) (by decide +kernel)) (fun _ _ _ _ _ => (dg_name (i := 3) sc__law_turns.nd rfl (.inl rfl))) (fun _ _ _ _ _ => (dts_one (dt_w (dw_and (dt_ne hr (dv 2) (dv 3)) (dw_and1 (dt_eq hr (de_item (de_item (dv 0) (dv 2)) de_int) (de_item (de_item (dv 0) (dv 3)) de_int))))))) (fun _ _ _ _ _ => (de_tup (da_cons (dv 2) (da_cons (dv 3) da_nil)))))))))
      (dss_one (ds_ret (dv 1))))), ?_⟩) <;> (unfold sp__law_turns at h; split at h; rotate_left; exact h.elim)
  · rfl
  · rename_i xs
    obtain ⟨es, rfl, hl, hq⟩ := h
    rw [st__law_turns]
    walk_at "st"
    refine ⟨by decide, ?_⟩
    refine aSeq_step ?_
    refine aFor_rng 0 es.length (fun k Γ' M' => ∃ (ts : List (Nat × Nat)) (x2 : Option D), Γ' = [some (.tup (es.map prD)), some (.lst (ts.map p2D)), x2, none] ∧ M' = M ∧ (∀ t ∈ ts, t.2 < es.length) ∧ ts.length ≤ 10 * k) (fun Φ' q => ?_) ⟨[], none, rfl, rfl, fun t ht => (List.not_mem_nil ht).elim, Nat.zero_le _⟩ ?_ ?_
    · walk_at "ev"
      rw [List.length_map]
      exact ⟨⟨by omega, by omega⟩, q⟩
    · rintro k Γ' M' hk ⟨ts, x2, rfl, rfl, ht, tl⟩
      refine ⟨_, rfl, ?_⟩
      walk_at "ev"
      refine aLc_pure (List.range es.length) (fun i => .int (0 + (i : Nat))) (fun i => decide (k ≠ i) && decide ((es.getD k (0, 0)).2 = (es.getD i (0, 0)).1)) (fun i => p2D (k, i)) (fun Φ' q => ?_) (by rw [List.length_range]; omega) (fun i hi M' => ⟨[some (.tup (es.map prD)), some (.lst (ts.map p2D)), some (.int (0 + (k : Nat))), some (.int (0 + (i : Nat)))], rfl, fun Φ' q => ?_, fun _ Φ' q => ?_⟩) ?_
      · walk_at "ev"
        rw [List.length_map]
        exact ⟨⟨by omega, by omega⟩, q⟩
      · walk_at "ev"
        have hi := List.mem_range.mp hi
        rw [es_ix hk, es_ix hi]
        unfold prD
        walk_at "ev"
        rw [show decide ((0 : Int) + (k : Int) = 0 + (i : Int)) = decide (k = i) from decide_eq_decide.mpr (by omega)]
        by_cases c : k = i
        · rw [decide_eq_true c, decide_eq_false (show ¬ k ≠ i from fun z => z c)] at *
          exact ⟨fun z => Bool.noConfusion z, fun _ => q⟩
        · rw [decide_eq_false c, decide_eq_true (show k ≠ i from c)] at *
          exact ⟨fun _ => q, fun z => Bool.noConfusion z⟩
      · walk_at "ev"
        rw [Int.zero_add, Int.zero_add]
        exact ⟨by decide, q⟩
      · generalize hf : (List.range es.length).filter (fun i => decide (k ≠ i) && decide ((es.getD k (0, 0)).snd = (es.getD i (0, 0)).fst)) = fs
        have fl : fs.length ≤ 10 := by
          rw [← hf]
          exact Nat.le_trans (List.length_filter_le _ _) (by rw [List.length_range]; exact hl)
        have fm : ∀ i ∈ fs, i < es.length := fun i hi => by
          rw [← hf] at hi
          exact List.mem_range.mp (List.mem_filter.mp hi).1
        refine ⟨by rw [List.length_map, List.length_map]; omega, ts ++ fs.map fun i => (k, i), some (.int (0 + (k : Nat))), ?_, rfl, fun t h => ?_, by rw [List.length_append, List.length_map]; omega⟩
        · rw [List.map_append, List.map_map]
          rfl
        · rcases List.mem_append.mp h with h | h
          · exact ht t h
          · obtain ⟨i, hi, rfl⟩ := List.mem_map.mp h
            exact fm i hi
    · rintro Γ' M' ⟨ts, x2, rfl, rfl, ht, tl⟩
      walk_at "ev"
      exact hq ts ht (by omega)
theorem ok__law_web (T : Top P K mg) (bb : Addr) {B : Bx} : FnOk P w K mg base (L2N.CX P w) 3 T.f__law_web T.d__law_web ["box", "most", "many"] (conc K (bxAnd (bxBox bb) B) (sp__law_web bb)) := by
  refine dfn T.F__law_web sc__law_web (fun ds M Φ Ψ h => ?_) (fun cdv A outer s H E hr ds M Φ Ψ hh => ⟨_, (dss_cons (ds_set (i := 3) sc__law_web.nd rfl (.inl rfl) (de_add de_int (de_call ((ok__law_take T bb).mono (by first | decide | exact Nat.le_refl _)) hr (by rfl) T.g__law_take T.F__law_take.kp T.b__law_take (L2N.takes_of rfl rfl rfl rfl) (da_cons (dv 0) (da_cons (de_sub (dv 1) de_int) da_nil)))))
      (dss_cons (ds_set (i := 4) sc__law_web.nd rfl (.inl rfl) (de_lstM da_nil))
      (dss_cons (ds_for (passes_of rfl) rfl (di_rng1 (by rfl) T.z_range (da_cons (de_add de_int (de_call ((ok__law_take T bb).mono (by first | decide | exact Nat.le_refl _)) hr (by rfl) T.g__law_take T.F__law_take.kp T.b__law_take (L2N.takes_of rfl rfl rfl rfl) (da_cons (dv 0) (da_cons (dv 2) da_nil)))) da_nil)) (dg_name (i := 5) sc__law_web.nd rfl (.inl rfl))
        (dss_cons (ds_set (i := 6) sc__law_web.nd rfl (.inl rfl) (de_call ((ok__law_take T bb).mono (by first | decide | exact Nat.le_refl _)) hr (by rfl) T.g__law_take T.F__law_take.kp T.b__law_take (L2N.takes_of rfl rfl rfl rfl) (da_cons (dv 0) (da_cons (dv 3) da_nil))))
          (dss_cons (ds_set (i := 7) sc__law_web.nd rfl (.inl rfl) (de_mod (de_callInt (by rfl) T.z_int (de_add (de_add (dv 6) de_int) (de_call ((ok__law_take T bb).mono (by first | decide | exact Nat.le_refl _)) hr (by rfl) T.g__law_take T.F__law_take.kp T.b__law_take (L2N.takes_of rfl rfl rfl rfl) (da_cons (dv 0) (da_cons (de_sub (dv 3) de_int) da_nil))))) (dv 3)))
          (dss_cons (ds_if (dt_w (dw_and (nilT hr (dv 4)) (dw_and1 (dt_eq hr (de_call ((ok__law_take T bb).mono (by first | decide | exact Nat.le_refl _)) hr (by rfl) T.g__law_take T.F__law_take.kp T.b__law_take (L2N.takes_of rfl rfl rfl rfl) (da_cons (dv 0) (da_cons de_int da_nil))) de_int))))
            (dss_one (ds_asg (de_call ((ok__law_pick T bb).mono (by first | decide | exact Nat.le_refl _)) hr (by rfl) T.g__law_pick T.F__law_pick.kp T.b__law_pick (L2N.takes_of rfl rfl rfl rfl) (da_cons (dv 0) (da_cons (de_lst (da_cons (de_item (dv 4) (de_neg de_int)) (da_cons (de_revT (de_item (dv 4) (de_neg de_int))) (da_cons (de_tup (da_cons (de_item (de_item (dv 4) (de_neg de_int)) de_int) (da_cons (de_item (de_item (dv 4) de_int) de_int) da_nil))) (da_cons (de_call ((ok__law_pick T bb).mono (by first | decide | exact Nat.le_refl _)) hr (by rfl) T.g__law_pick T.F__law_pick.kp T.b__law_pick (L2N.takes_of rfl rfl rfl rfl) (da_cons (dv 0) (da_cons (dv 4) da_nil))) da_nil))))) da_nil))) (dg_tup rfl (dgs_cons (dg_name (i := 6) sc__law_web.nd rfl (.inl rfl)) (dgs_cons (dg_name (i := 7) sc__law_web.nd rfl (.inl rfl)) dgs_nil)) (fix_cons (fix_cons fix_nil)))))
            dss_nil)
          (dss_one (ds_if (dt_ne hr (dv 6) (dv 7))
            (dss_one (ds_expr (de_app (dv 4) (de_tup (da_cons (dv 6) (da_cons (dv 7) da_nil))))))
            dss_nil))))))
      (dss_one (ds_gh (ds_ret (de_tup (da_cons (dv 3) (da_cons (de_tupleOf (by rfl) T.z_tuple (dv 4)) da_nil))))))))), ?_⟩) <;> (first | (unfold sp__law_web at h; split at h; rotate_left; exact h.elim) | (unfold sp__law_web at hh; split at hh; rotate_left; exact hh.elim))
  · rfl
  · rename_i b' m k
    obtain ⟨⟨rfl, rfl, rfl⟩, hq⟩ := hh
    rw [st__law_web]
    walk_at "st"
    refine ⟨rfl, ⟨by decide, by decide⟩, fun r r0 r1 => ?_⟩
    walk_at "st"
    refine ⟨by decide, fun l => ?_⟩
    refine aSeq_step ?_
    refine aFor_rngP (fun n => n ≤ 10) 0 (fun n k Γ' M' => ∃ (es : List (Int × Int)) (x5 x6 x7 : Option D), es.length ≤ k ∧ Γ' = [some (.ref b'), some (.int 6), some (.int 10), some (.int (2 + r)), some (.ref l), x5, x6, x7] ∧ M' = (l, .lst (es.map prD)) :: M) (fun Φ' q => ?_) (fun n hn => ⟨[], _, _, _, Nat.le_refl _, rfl, rfl⟩) ?_ ?_
    · walk_at "ev"
      exact ⟨rfl, ⟨by omega, by omega⟩, fun r r0 r1 => ⟨by omega, q _ (by omega)⟩⟩
    · rintro n k Γ' M' hn hk ⟨es, x5, x6, x7, el, rfl, rfl⟩
      refine ⟨_, rfl, ?_⟩
      refine aSeq_rel (fun Γ' M' => ∃ x : Int, Γ' = [some (.ref b'), some (.int 6), some (.int 10), some (.int (2 + r)), some (.ref l), some (.int (0 + (k : Nat))), some (.int x), x7] ∧ M' = (l, .lst (es.map prD)) :: M) (fun kk kq => ?_) ?_
      · walk_at "ev"
        exact ⟨rfl, ⟨by omega, by omega⟩, fun x _ _ => kq _ _ ⟨x, rfl, rfl⟩⟩
      rintro Γ' M' ⟨x, rfl, rfl⟩
      refine aSeq_rel (fun Γ' M' => ∃ y : Int, Γ' = [some (.ref b'), some (.int 6), some (.int 10), some (.int (2 + r)), some (.ref l), some (.int (0 + (k : Nat))), some (.int x), some (.int y)] ∧ M' = (l, .lst (es.map prD)) :: M) (fun kk kq => ?_) ?_
      · walk_at "ev"
        exact ⟨rfl, ⟨by omega, by omega⟩, fun y _ _ => ⟨by show 0 < 2 + r; omega, kq _ _ ⟨_, rfl, rfl⟩⟩⟩
      rintro Γ' M' ⟨y, rfl, rfl⟩
      refine aSeq_rel (fun Γ' M' => ∃ x y : Int, Γ' = [some (.ref b'), some (.int 6), some (.int 10), some (.int (2 + r)), some (.ref l), some (.int (0 + (k : Nat))), some (.int x), some (.int y)] ∧ M' = (l, .lst (es.map prD)) :: M) (fun kk kq => ?_) ?_
      · walk_at "ev"
        refine ⟨_, .head _, prs_plD, fun hne => ⟨rfl, ⟨by omega, by omega⟩, fun r1 _ _ => ⟨fun _ => ?_, fun _ => kq _ _ ⟨_, _, rfl, rfl⟩⟩⟩, fun _ => ⟨fun z => Bool.noConfusion z, fun _ => kq _ _ ⟨_, _, rfl, rfl⟩⟩⟩
        obtain ⟨u, f, lst, fst⟩ : ∃ u f : Int × Int, getI (es.map prD) (-1) = some (prD u) ∧ getI (es.map prD) 0 = some (prD f) := by
          cases es with
          | nil => cases hne
          | cons f t =>
            refine ⟨(f :: t).getLast (List.cons_ne_nil _ _), f, getI_last ?_, rfl⟩
            rw [List.getLast?_map, List.getLast?_eq_some_getLast (List.cons_ne_nil f t)]
            rfl
        refine ⟨_, .head _, ?_⟩
        rw [lst]
        walk_at "ev"
        refine ⟨_, .head _, ?_⟩
        rw [lst]
        walk_at "ev"
        refine ⟨_, .head _, ?_⟩
        rw [lst]
        unfold prD
        walk_at "ev"
        refine ⟨_, .head _, ?_⟩
        unfold prD at fst
        rw [fst]
        walk_at "ev"
        refine ⟨by decide, rfl, _, .head _, ⟨?_, by rw [List.length_map]; omega⟩, fun d hd => ⟨by decide, rfl, ⟨by decide, by decide⟩, fun d1 hd1 => ?_⟩⟩
        · rw [List.length_map]
          cases es with
          | nil => cases hne
          | cons _ _ => exact Nat.succ_pos _
        · obtain ⟨v, _, rfl⟩ := List.mem_map.mp hd
          rcases List.mem_cons.mp hd1 with rfl | hd1
          · exact kq _ _ ⟨_, _, rfl, rfl⟩
          rcases List.mem_cons.mp hd1 with rfl | hd1
          · exact kq _ _ ⟨_, _, rfl, rfl⟩
          rcases List.mem_cons.mp hd1 with rfl | hd1
          · exact kq _ _ ⟨_, _, rfl, rfl⟩
          rcases List.mem_cons.mp hd1 with rfl | hd1
          · exact kq _ _ ⟨_, _, rfl, rfl⟩
          exact (List.not_mem_nil hd1).elim
      clear x y
      rintro Γ' M' ⟨x, y, rfl, rfl⟩
      walk_at "ev"
      exact ⟨fun _ => ⟨⟨_, .head _⟩, by decide, _, _, .here, by rw [List.length_map]; omega, es ++ [(x, y)], _, _, _, by rw [List.length_append]; exact Nat.add_le_add_right el 1, rfl, by rw [List.map_append]; rfl⟩, fun _ => ⟨es, _, _, _, by omega, rfl, rfl⟩⟩
    · rintro n Γ' M' hn ⟨es, x5, x6, x7, el, rfl, rfl⟩
      refine ⟨_, _, .lst 4 rfl .here .refl, ?_⟩
      walk_at "ev"
      exact ⟨by decide, hq _ es (by omega)⟩
theorem ok__law_ways (T : Top P K mg) (bb : Addr) {B : Bx} : FnOk P w K mg base (L2N.CX P w) 3 T.f__law_ways T.d__law_ways ["box", "belts"] (conc K (bxAnd (bxBox bb) B) (sp__law_ways bb)) := by
  refine dfn T.F__law_ways sc__law_ways (fun ds M Φ Ψ h => ?_) (fun cdv A outer s H E hr ds M Φ Ψ hh => ⟨_, (dss_cons (ds_par (i := 2) (j := 3) rfl sc__law_ways.nd rfl rfl (by decide) rfl rfl (da_cons (de_call ((ok__law_turns T).mono (by first | decide | exact Nat.le_refl _)) hr (by rfl) T.g__law_turns T.F__law_turns.kp T.b__law_turns (L2N.takes_of rfl rfl rfl rfl) (da_cons (dv 1) da_nil)) (da_cons (de_lstM da_nil) da_nil)))
      (dss_cons (ds_for (passes_of rfl) rfl (di_rng1 (by rfl) T.z_range (da_cons (de_add de_int (de_call ((ok__law_take T bb).mono (by first | decide | exact Nat.le_refl _)) hr (by rfl) T.g__law_take T.F__law_take.kp T.b__law_take (L2N.takes_of rfl rfl rfl rfl) (da_cons (dv 0) (da_cons de_int da_nil)))) da_nil)) (dg_name (i := 4) sc__law_ways.nd rfl (.inl rfl))
        (dss_cons (ds_set (i := 5) sc__law_ways.nd rfl (.inr rfl) (de_lstM (da_cons (de_call ((ok__law_take T bb).mono (by first | decide | exact Nat.le_refl _)) hr (by rfl) T.g__law_take T.F__law_take.kp T.b__law_take (L2N.takes_of rfl rfl rfl rfl) (da_cons (dv 0) (da_cons (de_len (by rfl) T.z_len (dv 1)) da_nil))) da_nil)))
          (dss_cons (ds_for (passes_of rfl) rfl (di_rng1 (by rfl) T.z_range (da_cons (de_call ((ok__law_take T bb).mono (by first | decide | exact Nat.le_refl _)) hr (by rfl) T.g__law_take T.F__law_take.kp T.b__law_take (L2N.takes_of rfl rfl rfl rfl) (da_cons (dv 0) (da_cons de_int da_nil))) da_nil)) (dg_name (i := 6) sc__law_ways.nd rfl (.inl rfl))
            (dss_cons (ds_setLc (i := 7) (own := [("e", 9), ("f", 8)]) rfl sc__law_ways.nd rfl rfl (sw_true rfl rfl rfl (by decide +kernel)) (di_seq (dv 2)) (blkOk_by (N := n__law_ways) (sc := defScope s__law_ways) (by decide +kernel)) (fun _ _ _ _ _ => (dg_tup rfl (dgs_cons (dg_name (i := 9) sc__law_ways.nd rfl (.inl rfl)) (dgs_cons (dg_name (i := 8) sc__law_ways.nd rfl (.inl rfl)) dgs_nil)) (fix_cons (fix_cons fix_nil)))) (fun _ _ _ _ _ => (dts_one (dt_w (dw_and (dt_eq hr (dv 9) (de_item (dv 5) (de_neg de_int))) (dw_and1 (dt_notIn (dv 8) (dv 5))))))) (fun _ _ _ _ _ => (dv 8)))
              (dss_one (ds_if (nilT hr (dv 7))
                (dss_one (ds_expr (de_app (dv 5) (de_call ((ok__law_pick T bb).mono (by first | decide | exact Nat.le_refl _)) hr (by rfl) T.g__law_pick T.F__law_pick.kp T.b__law_pick (L2N.takes_of rfl rfl rfl rfl) (da_cons (dv 0) (da_cons (dv 7) da_nil))))))
                dss_nil))))
          (dss_one (ds_gh (ds_expr (de_app (dv 3) (de_tupleOf (by rfl) T.z_tuple (dv 5)))))))))
      (dss_one (ds_gh (ds_ret (de_tup (da_cons (dv 3) (da_cons (de_maxL rfl (by rfl) T.z_max (de_lc (own := [("way", 5)]) rfl sc__law_ways.nd (di_seq (dv 3)) (blkOk_by (N := n__law_ways) (sc := defScope s__law_ways) (by decide +kernel)) (fun _ _ _ _ _ => (dg_name (i := 5) sc__law_ways.nd rfl (.inl rfl))) (fun _ _ _ _ _ => dts_nil) (fun _ _ _ _ _ => (de_len (by rfl) T.z_len (dv 5))))) da_nil)))))))), ?_⟩) <;> (first | (unfold sp__law_ways at h; split at h; rotate_left; exact h.elim) | (unfold sp__law_ways at hh; split at hh; rotate_left; exact hh.elim))
  · rfl
  · rename_i b' xs
    obtain ⟨rfl, es, rfl, ⟨e1, e10⟩, hq⟩ := hh
    rw [st__law_ways]
    walk_at "st"
    refine ⟨es, rfl, e10, fun ts ht tl => ⟨by decide, fun l => ?_⟩⟩
    refine aSeq_step ?_
    refine aFor_rngP (fun n => 1 ≤ n ∧ n ≤ 6) 0 (fun n k Γ' M' => ∃ (ws : List (List Nat)) (x4 x5 x6 x7 x8 x9 : Option D), ws.length = k ∧ (∀ w ∈ ws, w.Nodup ∧ w ≠ [] ∧ w.length ≤ 6 ∧ ∀ e ∈ w, e < es.length) ∧ Γ' = [some (.ref b'), some (.tup (es.map prD)), some (.lst (ts.map p2D)), some (.ref l), x4, x5, x6, x7, x8, x9] ∧ M' = (l, .lst (ws.map wD)) :: M) (fun Φ' q => ?_) (fun n hn => ⟨[], _, _, _, _, _, _, rfl, fun w hw => (List.not_mem_nil hw).elim, rfl, rfl⟩) ?_ ?_
    · walk_at "ev"
      exact ⟨rfl, ⟨by omega, by omega⟩, fun r r0 r1 => ⟨by omega, q _ (by omega)⟩⟩
    · rintro n k Γ' M' hn hk ⟨ws, x4, x5, x6, x7, x8, x9, wl, hw, rfl, rfl⟩
      refine ⟨_, rfl, ?_⟩
      walk_at "st"
      rw [List.length_map]
      refine ⟨rfl, ⟨by omega, by omega⟩, fun r0 r00 r01 => ⟨by decide, fun lw => ?_⟩⟩
      obtain ⟨e0, rfl⟩ := Int.eq_ofNat_of_zero_le r00
      refine aSeq_step ?_
      refine aFor_rngP (fun n => n ≤ 5) 0 (fun n j Γ' M' => ∃ (w : List Nat) (x6 x7 x8 x9 : Option D), w.Nodup ∧ w ≠ [] ∧ w.length ≤ j + 1 ∧ (∀ e ∈ w, e < es.length) ∧ Γ' = [some (.ref b'), some (.tup (es.map prD)), some (.lst (ts.map p2D)), some (.ref l), some (.int (0 + (k : Nat))), some (.ref lw), x6, x7, x8, x9] ∧ M' = (lw, .lst (w.map nD)) :: (l, .lst (ws.map wD)) :: M) (fun Φ' q => ?_) (fun n hn => ⟨[e0], _, _, _, _, List.nodup_cons.mpr ⟨List.not_mem_nil, List.nodup_nil⟩, List.cons_ne_nil _ _, Nat.le_refl _, fun e he => ?_, rfl, rfl⟩) ?_ ?_
      · walk_at "ev"
        exact ⟨rfl, ⟨by omega, by omega⟩, fun r r0 r1 => ⟨⟨by omega, by omega⟩, q _ (by omega)⟩⟩
      · rw [List.mem_singleton.mp he]
        omega
      · rintro n j Γ' M' hn hj ⟨w, x6, x7, x8, x9, n1, n2, n3, n4, rfl, rfl⟩
        refine ⟨_, rfl, ?_⟩
        have wlast : getI (w.map nD) (-1) = some (nD (w.getLast n2)) := getI_last (by
          rw [List.getLast?_map, List.getLast?_eq_some_getLast n2]
          rfl)
        have win : ∀ f : Nat, ((w.map nD).any fun y => eqFD y (.int (f : Nat))) = w.contains f := fun f => by
          have e : w.map nD = (w.map fun i : Nat => (i : Int)).map D.int := by
            rw [List.map_map]
            rfl
          rw [e, in_ints]
          refine Bool.eq_iff_iff.mpr ⟨fun h => ?_, fun h => ?_⟩
          · obtain ⟨a, ha, e2⟩ := List.mem_map.mp (of_decide_eq_true h)
            rw [List.contains_iff_mem, ← Int.ofNat_inj.mp e2]
            exact ha
          · exact decide_eq_true (List.mem_map.mpr ⟨f, List.contains_iff_mem.mp h, rfl⟩)
        have wflat : (w.map nD).all flatD = true := by
          rw [List.all_map]
          exact List.all_eq_true.mpr fun _ _ => rfl
        refine aSeq_rel (fun Γ' M' => ∃ on : List Nat, (∀ f ∈ on, f < es.length ∧ f ∉ w) ∧ on.length ≤ 100 ∧ Γ' = [some (.ref b'), some (.tup (es.map prD)), some (.lst (ts.map p2D)), some (.ref l), some (.int (0 + (k : Nat))), some (.ref lw), some (.int (0 + (j : Nat))), some (.lst (on.map nD)), x8, x9] ∧ M' = (lw, .lst (w.map nD)) :: (l, .lst (ws.map wD)) :: M) (fun kk kq => ?_) ?_
        · refine aLc_pureS ts p2D (fun t => decide ((t.1 : Int) = (w.getLast n2 : Nat)) && !(w.contains t.2)) (fun t => nD t.2) (fun Φ' z => ?_) (by omega) (fun t h M' hs => ⟨[some (.ref b'), some (.tup (es.map prD)), some (.lst (ts.map p2D)), some (.ref l), some (.int (0 + (k : Nat))), some (.ref lw), some (.int (0 + (j : Nat))), x7, some (.int (t.2 : Nat)), some (.int (t.1 : Nat))], rfl, fun Φ' z => ?_, fun _ Φ' z => ?_⟩) ?_
          · walk_at "ev"
            exact z
          · walk_at "ev"
            refine ⟨_, hs _ (.head _), ?_⟩
            rw [wlast]
            unfold nD
            walk_at "ev"
            refine ⟨fun c => ⟨_, hs _ (.head _), ⟨rfl, wflat⟩, ?_⟩, fun c => ?_⟩
            · rw [win]
              rw [c, Bool.true_and] at z
              exact z
            · rw [c, Bool.false_and] at z
              exact z
          · walk_at "ev"
            exact z
          · refine kq _ _ ⟨(ts.filter fun t => decide ((t.1 : Int) = (w.getLast n2 : Nat)) && !(w.contains t.2)).map (·.2), fun f hf => ?_, ?_, ?_, rfl⟩
            · obtain ⟨t, h, rfl⟩ := List.mem_map.mp hf
              obtain ⟨h1, h2⟩ := List.mem_filter.mp h
              rw [Bool.and_eq_true, Bool.not_eq_true'] at h2
              refine ⟨ht t h1, fun hm => ?_⟩
              rw [List.contains_iff_mem.mpr hm] at h2
              exact Bool.noConfusion h2.2
            · rw [List.length_map]
              exact Nat.le_trans (List.length_filter_le _ _) tl
            · rw [List.map_map]
              rfl
        rintro Γ' M' ⟨on, o1, o2, rfl, rfl⟩
        walk_at "ev"
        refine ⟨ns_plD, fun hne => ⟨⟨_, .head _⟩, rfl, ⟨?_, by rw [List.length_map]; omega⟩, fun d hd => ?_⟩, fun _ => ⟨w, _, _, _, _, n1, n2, by omega, n4, rfl, rfl⟩⟩
        · rw [List.length_map]
          cases on with
          | nil => cases hne
          | cons _ _ => exact Nat.succ_pos _
        · obtain ⟨f, hf, rfl⟩ := List.mem_map.mp hd
          refine ⟨_, _, .here, by rw [List.length_map]; omega, w ++ [f], _, _, _, _, List.nodup_append.mpr ⟨n1, nod1, fun a ha b hb eq => ?_⟩, List.append_ne_nil_of_left_ne_nil n2 _, by rw [List.length_append]; exact Nat.add_le_add_right n3 1, fun e he => ?_, rfl, by rw [List.map_append]; rfl⟩
          · rw [List.mem_singleton.mp hb] at eq
            exact (o1 f hf).2 (eq ▸ ha)
          · rcases List.mem_append.mp he with he | he
            · exact n4 e he
            · rw [List.mem_singleton.mp he]
              exact (o1 f hf).1
      · rintro n Γ' M' hn ⟨w, x6, x7, x8, x9, n1, n2, n3, n4, rfl, rfl⟩
        refine ⟨_, _, .lst 5 rfl .here .refl, ?_⟩
        walk_at "ev"
        refine ⟨⟨_, .head _⟩, _, _, .here, by rw [List.length_map]; omega, ws ++ [w], _, _, _, _, _, _, by rw [List.length_append, wl]; rfl, fun w2 h2 => ?_, rfl, by rw [List.map_append]; rfl⟩
        rcases List.mem_append.mp h2 with h2 | h2
        · exact hw w2 h2
        · rw [List.mem_singleton.mp h2]
          exact ⟨n1, n2, by omega, n4⟩
    · rintro n Γ' M' hn ⟨ws, x4, x5, x6, x7, x8, x9, wl, hw, rfl, rfl⟩
      refine ⟨_, _, .lst 3 rfl .here .refl, ?_⟩
      walk_at "ev"
      refine aLc_map ws wD (fun w => .int (w.length : Nat)) (fun Φ' z => ?_) (by omega) (fun w hw M' => ⟨[some (D.ref b'), some (D.tup (List.map prD es)), some (D.lst (List.map p2D ts)), some (D.lst (List.map wD ws)), x4, some (wD w), x6, x7, x8, x9], rfl, fun Φ' z => ?_⟩) ?_
      · walk_at "ev"
        exact z
      · unfold wD
        walk_at "ev"
        rw [List.length_map]
        exact z
      · refine ⟨ws.map fun w => (w.length : Int), by rw [List.map_map]; rfl, by rw [List.length_map]; omega, fun m hm hmax => ?_⟩
        obtain ⟨w, hw', rfl⟩ := List.mem_map.mp hm
        refine ⟨by decide, hq ws w.length ⟨by omega, by omega⟩ ⟨?_, (hw w hw').2.2.1⟩ fun w2 h2 => ⟨(hw w2 h2).1, (hw w2 h2).2.1, ?_, (hw w2 h2).2.2.2⟩⟩
        · exact List.length_pos_iff.mpr (hw w hw').2.1
        · have := hmax _ (List.mem_map.mpr ⟨w2, h2, rfl⟩)
          omega
theorem ok__law_going (T : Top P K mg) (bb : Addr) {B : Bx} : FnOk P w K mg base (L2N.CX P w) 3 T.f__law_going T.d__law_going ["box", "rule", "queue", "stays", "owed"] (conc K (bxAnd (bxBox bb) B) (sp__law_going bb)) := by
  refine dfn T.F__law_going sc__law_going (fun ds M Φ Ψ h => ?_) (fun cdv A outer s H E hr ds M Φ Ψ hh => ⟨_, (dss_cons (ds_if (dt_eq hr (dv 1) de_int)
        (dss_one (ds_ret (de_item (dv 2) de_int)))
        dss_nil)
      (dss_cons (ds_if (dt_eq hr (dv 1) de_int)
        (dss_one (ds_ret (de_item (dv 2) (de_neg de_int))))
        dss_nil)
      (dss_cons (ds_if (dt_eq hr (dv 1) de_int)
        (dss_one (ds_ret (de_item (de_minP hr rfl (by rfl) T.z_min (de_lcR false (own := [("one", 5)]) rfl sc__law_going.nd (dv 2) (blkOk_by (N := n__law_going) (sc := defScope s__law_going) (by decide +kernel)) (fun _ _ _ _ _ => (dg_name (i := 5) sc__law_going.nd rfl (.inl rfl))) (fun _ _ _ _ _ => dts_nil) (fun _ _ _ _ _ => (de_tup (da_cons (de_len (by rfl) T.z_len (de_item (dv 4) (dv 5))) (da_cons (dv 5) da_nil)))))) de_int)))
        dss_nil)
      (dss_cons (ds_if (dt_eq hr (dv 1) de_int)
        (dss_one (ds_ret (de_item (de_minP hr rfl (by rfl) T.z_min (de_lcR false (own := [("one", 5)]) rfl sc__law_going.nd (dv 2) (blkOk_by (N := n__law_going) (sc := defScope s__law_going) (by decide +kernel)) (fun _ _ _ _ _ => (dg_name (i := 5) sc__law_going.nd rfl (.inl rfl))) (fun _ _ _ _ _ => dts_nil) (fun _ _ _ _ _ => (de_tup (da_cons (de_sub de_int (de_len (by rfl) T.z_len (de_item (dv 4) (dv 5)))) (da_cons (dv 5) da_nil)))))) de_int)))
        dss_nil)
      (dss_one (ds_ret (de_if (dt_eq hr (dv 1) de_int) (de_maxR rfl (by rfl) T.z_max (dv 2)) (de_call ((ok__law_pick T bb).mono (by first | decide | exact Nat.le_refl _)) hr (by rfl) T.g__law_pick T.F__law_pick.kp T.b__law_pick (L2N.takes_of rfl rfl rfl rfl) (da_cons (dv 0) (da_cons (dv 2) da_nil)))))))))), ?_⟩) <;> (first | (unfold sp__law_going at h; split at h; rotate_left; exact h.elim) | (unfold sp__law_going at hh; split at hh; rotate_left; exact hh.elim))
  · rfl
  · rename_i b' rule lq x lo
    obtain ⟨rfl, l, n, ow, hm, hm2, ⟨l0, l1⟩, hx, hq⟩ := hh
    rw [st__law_going]
    walk_at "st"
    have at_ : ∀ x ∈ l, (lsF n fun i => wD (ow i))[x]? = some (wD (ow x)) := fun x hx' => lsF_get (hx x hx').1
    have at_ : ∀ x ∈ l, getI (lsF n fun i => wD (ow i)) (x : Int) = some (wD (ow x)) := fun x hx' => lsF_ix (hx x hx').1
    have first : ∃ u ∈ l, getI (l.map nD) 0 = some (nD u) := by
      cases l with
      | nil => exact absurd l0 (Nat.lt_irrefl 0)
      | cons u t => exact ⟨u, .head _, rfl⟩
    have last : ∃ u ∈ l, getI (l.map nD) (-1) = some (nD u) := by
      have ne : l ≠ [] := List.length_pos_iff.mp l0
      refine ⟨l.getLast ne, List.getLast_mem ne, getI_last ?_⟩
      rw [List.getLast?_map, List.getLast?_eq_some_getLast ne]
      rfl
    refine ⟨fun _ => ⟨_, hm, ?_⟩, fun _ => ?_⟩
    · obtain ⟨u, hu, e⟩ := first
      rw [e]
      exact hq u hu
    walk_at "ev"
    refine ⟨fun _ => ⟨_, hm, ?_⟩, fun _ => ?_⟩
    · obtain ⟨u, hu, e⟩ := last
      rw [e]
      exact hq u hu
    walk_at "ev"
    have mn : ∀ (c : Nat → Int) (M2 : Mm), (∀ x ∈ l, Φ (nD x) M2) → ∃ ps : List (Int × Int), List.map (fun x => pairD (c x, ((x : Nat) : Int))) (List.filter (fun _ => true) l) = List.map pairD ps ∧ 0 < ps.length ∧ ∀ p, p ∈ ps → seqOf (pairD p) M2 fun xs => onD (getI xs 1) fun g => Φ g M2 := fun c M2 hq2 => by
      refine ⟨l.map fun x => (c x, (x : Int)), ?_, by rw [List.length_map]; exact l0, fun p hp => ?_⟩
      · rw [List.filter_eq_self.mpr (fun _ _ => rfl), List.map_map]
        rfl
      · obtain ⟨y, hy, rfl⟩ := List.mem_map.mp hp
        exact hq2 y hy
    refine aSeq_rel (fun Γ' M' => Γ' = [some (.ref b'), some (.int rule), some (.ref lq), some x, some (.ref lo), none] ∧ M' = M) (fun kk kq => ?_) ?_
    · walk_at "ev"
      refine ⟨fun _ => ?_, fun _ => kq _ _ ⟨rfl, rfl⟩⟩
      refine aLcR_pure lq l nD (fun _ => true) (fun x => pairD (((ow x).length : Nat), (x : Nat))) (fun Φ' z => ?_) hm l1 (fun y hy a acc => ⟨[some (.ref b'), some (.int rule), some (.ref lq), some x, some (.ref lo), some (nD y)], rfl, fun Φ' z => ?_, fun _ Φ' z => ?_⟩) (fun a => ?_)
      · walk_at "ev"
        exact z
      · exact z
      · unfold nD
        walk_at "ev"
        refine ⟨_, .tail _ hm2, ?_⟩
        rw [at_ y hy]
        unfold wD
        walk_at "ev"
        rw [List.length_map]
        exact ⟨by decide, z⟩
      · rw [if_neg Bool.false_ne_true]
        walk_at "ev"
        exact mn _ _ hq
    rintro Γ' M2 ⟨rfl, rfl⟩
    refine aSeq_rel (fun Γ' M' => Γ' = [some (.ref b'), some (.int rule), some (.ref lq), some x, some (.ref lo), none] ∧ M' = M2) (fun kk kq => ?_) ?_
    · walk_at "ev"
      refine ⟨fun _ => ?_, fun _ => kq _ _ ⟨rfl, rfl⟩⟩
      refine aLcR_pure lq l nD (fun _ => true) (fun x => pairD (0 - ((ow x).length : Nat), (x : Nat))) (fun Φ' z => ?_) hm l1 (fun y hy a acc => ⟨[some (.ref b'), some (.int rule), some (.ref lq), some x, some (.ref lo), some (nD y)], rfl, fun Φ' z => ?_, fun _ Φ' z => ?_⟩) (fun a => ?_)
      · walk_at "ev"
        exact z
      · exact z
      · unfold nD
        walk_at "ev"
        refine ⟨_, .tail _ hm2, ?_⟩
        rw [at_ y hy]
        unfold wD
        walk_at "ev"
        rw [List.length_map]
        exact ⟨by decide, z⟩
      · rw [if_neg Bool.false_ne_true]
        walk_at "ev"
        exact mn _ _ hq
    rintro Γ' M3 ⟨rfl, rfl⟩
    walk_at "ev"
    refine ⟨fun _ => ⟨l.map fun x : Nat => (x : Int), ?_, by rw [List.length_map]; exact l0, fun m hm' _ => ?_⟩, fun _ => ⟨rfl, _, hm, ⟨by rw [List.length_map]; exact l0, by rw [List.length_map]; omega⟩, fun d hd => ?_⟩⟩
    · rw [List.map_map]
      exact hm
    · obtain ⟨y, hy, rfl⟩ := List.mem_map.mp hm'
      exact hq y hy
    · obtain ⟨y, hy, rfl⟩ := List.mem_map.mp hd
      exact hq y hy

structure Fc where
  b0 : Addr
  es : List D
  ws : List D
  d : Int
  p : Int
  q : Int
  b : Int
  rule : Int
  S : Int
  trip : Int
  wait : Int
  qs : List D
  eager : Int
def fr (c : Fc) (a : Addr × Addr × Addr × Addr) (bg : List D) (x13 x19 x20 x21 x22 x23 x24 x25 x26 : Option D) : Gm :=
  [some (.ref c.b0), some (.tup c.es), some (.lst c.ws), some (.int c.d), some (.int 40), some (.tup [.int c.p, .int c.q]), some (.int c.b), some (.int c.rule), some (.int c.S), some (.int c.trip), some (.int c.wait), some (.ref a.1), some (.lst c.qs), x13, some (.ref a.2.1), some (.lst bg), some (.ref a.2.2.1), some (.ref a.2.2.2), some (.int c.eager), x19, x20, x21, x22, x23, x24, x25, x26]
def cS (n : Nat) (a : Addr × Addr × Addr × Addr) (as : Nat → Addr) (s : Sta) : Mm := cM n a as (lsF n fun e => nD (s.lv e)) (lsF s.N fun i => wD (s.owed i)) (lsF s.N fun i => nD (s.came i)) (s.liv.map nD) s.que
theorem snocU {α : Type} {n : Nat} {f : Nat → α} {g : α → D} {v : α} : lsF n (fun i => g (f i)) ++ [g v] = lsF (n + 1) (fun i => g (upd f n v i)) := lsF_snoc (fun i hi => by rw [upd_ne (by omega)]) (by rw [upd_eq])
theorem setU {α : Type} {n k : Nat} {f : Nat → α} {g : α → D} {v : α} : (lsF n (fun i => g (f i))).set k (g v) = lsF n (fun i => g (upd f k v i)) := lsF_set fun i _ => by
  unfold upd
  by_cases c : k = i
  · rw [if_pos c, if_pos c]
  · rw [if_neg c, if_neg c]
theorem any_nD {w : List Nat} (f : Nat) : ((w.map nD).any fun y => eqFD y (.int (f : Nat))) = w.contains f := by
  have e : w.map nD = (w.map fun i : Nat => (i : Int)).map D.int := by
    rw [List.map_map]
    rfl
  rw [e, in_ints]
  refine Bool.eq_iff_iff.mpr ⟨fun h => ?_, fun h => ?_⟩
  · obtain ⟨a, ha, e2⟩ := List.mem_map.mp (of_decide_eq_true h)
    rw [List.contains_iff_mem, ← Int.ofNat_inj.mp e2]
    exact ha
  · exact decide_eq_true (List.mem_map.mpr ⟨f, List.contains_iff_mem.mp h, rfl⟩)
theorem flat_nD {w : List Nat} : (w.map nD).all flatD = true := by
  rw [List.all_map]
  exact List.all_eq_true.mpr fun _ _ => rfl
theorem ixN_nat {n k : Nat} (h : k < n) : ixN n (k : Int) = some k := ixN_of (Int.natCast_nonneg k) (by rw [Int.toNat_natCast]; exact h)
theorem cut1 {w : List Nat} : cutD (w.map nD) (some 1) none = w.tail.map nD := by
  rw [cutD_drop (by decide), ← List.map_drop, ← List.drop_one]
  rfl
theorem eq_nilT {w : List Nat} : (plD 60 (wD w) = true ∧ plD 60 (.tup []) = true) ∧ PyData.eqv (py 60 (wD w)) (py 60 (.tup [])) = w.isEmpty := by
  refine ⟨⟨?_, rfl⟩, ?_⟩
  · show (w.map nD).all (plD 59) = true
    exact ns_plD
  · show PyData.eqv (.tuple ((w.map nD).map (py 59))) (.tuple []) = _
    cases w with
    | nil => simp [PyData.eqv, PyData.eqvAll]
    | cons a t => simp [PyData.eqv, PyData.eqvAll]
theorem rem_at {x : Nat} {B : List Nat} : ∀ A : List Nat, x ∉ A → ((A ++ x :: B).map fun i : Nat => (i : Int))[A.length]? = some (x : Int) ∧ (∀ m, m < A.length → ((A ++ x :: B).map fun i : Nat => (i : Int))[m]? ≠ some (x : Int)) ∧ (((A ++ x :: B).map fun i : Nat => (i : Int)).eraseIdx A.length).map D.int = (A ++ B).map nD
  | [], _ => ⟨rfl, fun m hm => absurd hm (Nat.not_lt_zero m), by
    show (List.map (fun i : Nat => (i : Int)) B).map D.int = _
    rw [List.map_map]
    rfl⟩
  | a :: A, h => by
    obtain ⟨h1, h2, h3⟩ := rem_at (B := B) A fun z => h (.tail _ z)
    refine ⟨h1, fun m hm => ?_, ?_⟩
    · cases m with
      | zero =>
        intro e
        have e : some (a : Int) = some (x : Int) := e
        exact h (by rw [Int.ofNat_inj.mp (Option.some.inj e)]; exact .head _)
      | succ m => exact h2 m (Nat.lt_of_succ_lt_succ hm)
    · show D.int (a : Nat) :: _ = _ :: _
      exact congrArg _ h3
theorem rem_nat {l : List Nat} {x : Nat} (hn : l.Nodup) (hx : x ∈ l) : ∃ (j : Nat) (l' : List Nat), (l'.Nodup ∧ ∀ y, y ∈ l' ↔ y ∈ l ∧ y ≠ x) ∧ (l.map fun i : Nat => (i : Int))[j]? = some (x : Int) ∧ (∀ m, m < j → (l.map fun i : Nat => (i : Int))[m]? ≠ some (x : Int)) ∧ ((l.map fun i : Nat => (i : Int)).eraseIdx j).map D.int = l'.map nD := by
  obtain ⟨A, B, rfl⟩ := List.append_of_mem hx
  have n1 := List.nodup_append.mp hn
  have n2 := List.nodup_cons.mp n1.2.1
  have xA : x ∉ A := fun h => n1.2.2 x h x (.head _) rfl
  refine ⟨A.length, A ++ B, ⟨List.nodup_append.mpr ⟨n1.1, n2.2, fun a ha b hb => n1.2.2 a ha b (.tail _ hb)⟩, fun y => ?_⟩, rem_at A xA⟩
  rw [List.mem_append, List.mem_append, List.mem_cons]
  constructor
  · rintro (h | h)
    · exact ⟨.inl h, fun e => xA (e ▸ h)⟩
    · exact ⟨.inr (.inr h), fun e => n2.1 (e ▸ h)⟩
  · rintro ⟨h | h | h, ne⟩
    · exact .inl h
    · exact absurd h ne
    · exact .inr h
theorem ok__law_played (T : Top P K mg) (bb : Addr) {B : Bx} : FnOk P w K mg base (L2N.CX P w) 13 T.f__law_played T.d__law_played ["box", "belts", "ways", "d", "beats"] (conc K (bxAnd (bxBox bb) B) (sp__law_played bb)) := by
  refine dfn T.F__law_played sc__law_played (fun ds M Φ Ψ h => ?_) (fun cdv A outer s H E hr ds M Φ Ψ hh => ⟨_, (dss_cons (ds_asg (de_tup (da_cons (de_call ((ok__law_rate T bb).mono (by first | decide | exact Nat.le_refl _)) hr (by rfl) T.g__law_rate T.F__law_rate.kp T.b__law_rate (L2N.takes_of rfl rfl rfl rfl) (da_cons (dv 0) (da_cons (dv 3) da_nil))) (da_cons (de_add de_int (de_call ((ok__law_take T bb).mono (by first | decide | exact Nat.le_refl _)) hr (by rfl) T.g__law_take T.F__law_take.kp T.b__law_take (L2N.takes_of rfl rfl rfl rfl) (da_cons (dv 0) (da_cons de_int da_nil)))) (da_cons (de_call ((ok__law_take T bb).mono (by first | decide | exact Nat.le_refl _)) hr (by rfl) T.g__law_take T.F__law_take.kp T.b__law_take (L2N.takes_of rfl rfl rfl rfl) (da_cons (dv 0) (da_cons de_int da_nil))) da_nil)))) (dg_tup rfl (dgs_cons (dg_name (i := 5) sc__law_played.nd rfl (.inr rfl)) (dgs_cons (dg_name (i := 6) sc__law_played.nd rfl (.inl rfl)) (dgs_cons (dg_name (i := 7) sc__law_played.nd rfl (.inl rfl)) dgs_nil))) (fix_cons (fix_cons (fix_cons fix_nil)))))
      (dss_cons (ds_asg (de_tup (da_cons (de_call ((ok_stay_bound T).mono (by first | decide | exact Nat.le_refl _)) hr (by rfl) T.g_stay_bound T.F_stay_bound.kp T.b_stay_bound (L2N.takes_of rfl rfl rfl rfl) (da_cons (dv 5) (da_cons (dv 6) (da_cons (dv 3) da_nil)))) (da_cons (de_call ((ok_trip_bound T).mono (by first | decide | exact Nat.le_refl _)) hr (by rfl) T.g_trip_bound T.F_trip_bound.kp T.b_trip_bound (L2N.takes_of rfl rfl rfl rfl) (da_cons (dv 5) (da_cons (dv 6) (da_cons (dv 3) da_nil)))) (da_cons (de_call ((ok_wait_bound T).mono (by first | decide | exact Nat.le_refl _)) hr (by rfl) T.g_wait_bound T.F_wait_bound.kp T.b_wait_bound (L2N.takes_of rfl rfl rfl rfl) (da_cons (dv 5) (da_cons (dv 6) (da_cons (dv 3) da_nil)))) da_nil)))) (dg_tup rfl (dgs_cons (dg_name (i := 8) sc__law_played.nd rfl (.inr rfl)) (dgs_cons (dg_name (i := 9) sc__law_played.nd rfl (.inl rfl)) (dgs_cons (dg_name (i := 10) sc__law_played.nd rfl (.inl rfl)) dgs_nil))) (fix_cons (fix_cons (fix_cons fix_nil)))))
      (dss_cons (ds_par (i := 11) (j := 12) rfl sc__law_played.nd rfl rfl (by decide) rfl rfl (da_cons (de_lcM (own := [("belt", 13)]) rfl sc__law_played.nd (di_seq (dv 1)) (blkOk_by (N := n__law_played) (sc := defScope s__law_played) (by decide +kernel)) (fun _ _ _ _ _ => (dg_name (i := 13) sc__law_played.nd rfl (.inl rfl))) (fun _ _ _ _ _ => dts_nil) (fun _ _ _ _ _ => de_int)) (da_cons (de_lc (own := [("belt", 13)]) rfl sc__law_played.nd (di_seq (dv 1)) (blkOk_by (N := n__law_played) (sc := defScope s__law_played) (by decide +kernel)) (fun _ _ _ _ _ => (dg_name (i := 13) sc__law_played.nd rfl (.inl rfl))) (fun _ _ _ _ _ => dts_nil) (fun _ _ _ _ _ => (de_lstM da_nil))) da_nil)))
      (dss_cons (ds_asg (de_tup (da_cons (de_lstM da_nil) (da_cons (de_lst da_nil) (da_cons (de_lstM da_nil) (da_cons (de_lstM da_nil) (da_cons (de_call ((ok__law_pick T bb).mono (by first | decide | exact Nat.le_refl _)) hr (by rfl) T.g__law_pick T.F__law_pick.kp T.b__law_pick (L2N.takes_of rfl rfl rfl rfl) (da_cons (dv 0) (da_cons (de_lst (da_cons de_int (da_cons de_int (da_cons de_int da_nil)))) da_nil))) da_nil)))))) (dg_tup rfl (dgs_cons (dg_name (i := 14) sc__law_played.nd rfl (.inr rfl)) (dgs_cons (dg_name (i := 15) sc__law_played.nd rfl (.inl rfl)) (dgs_cons (dg_name (i := 16) sc__law_played.nd rfl (.inr rfl)) (dgs_cons (dg_name (i := 17) sc__law_played.nd rfl (.inl rfl)) (dgs_cons (dg_name (i := 18) sc__law_played.nd rfl (.inl rfl)) dgs_nil))))) (fix_cons (fix_cons (fix_cons (fix_cons (fix_cons fix_nil)))))))
      (dss_cons (ds_for (passes_of rfl) rfl (di_rng1 (by rfl) T.z_range (da_cons (de_add (dv 4) (dv 9)) da_nil)) (dg_name (i := 19) sc__law_played.nd rfl (.inr rfl))
        (dss_cons (ds_for (passes_of rfl) rfl (di_rng1 (by rfl) T.z_range (da_cons (de_if (dt_lt (dv 19) (dv 4)) de_int de_int) da_nil)) (dg_name (i := 20) sc__law_played.nd rfl (.inl rfl))
            (dss_cons (ds_set (i := 21) sc__law_played.nd rfl (.inl rfl) (de_call ((ok__law_pick T bb).mono (by first | decide | exact Nat.le_refl _)) hr (by rfl) T.g__law_pick T.F__law_pick.kp T.b__law_pick (L2N.takes_of rfl rfl rfl rfl) (da_cons (dv 0) (da_cons (dv 2) da_nil))))
              (dss_one (ds_if (dt_w (dw_and (dt_eq hr (de_call ((ok__law_take T bb).mono (by first | decide | exact Nat.le_refl _)) hr (by rfl) T.g__law_take T.F__law_take.kp T.b__law_take (L2N.takes_of rfl rfl rfl rfl) (da_cons (dv 0) (da_cons (dv 18) da_nil))) de_int) (dw_and1 (dt_val (de_call ((ok__law_room T).mono (by first | decide | exact Nat.le_refl _)) hr (by rfl) T.g__law_room T.F__law_room.kp T.b__law_room (L2N.takes_of rfl rfl rfl rfl) (da_cons (dv 11) (da_cons (dv 5) (da_cons (dv 6) (da_cons (dv 21) da_nil)))))))))
                (dss_cons (ds_for (passes_of rfl) rfl (di_seq (dv 21)) (dg_name (i := 22) sc__law_played.nd rfl (.inr rfl))
                    (dss_one (ds_setIx (de_add (de_item (dv 11) (dv 22)) (de_item (dv 5) de_int)) (dv 11) (dv 22))))
                  (dss_cons (ds_expr (de_app (de_item (dv 12) (de_item (dv 21) de_int)) (de_len (by rfl) T.z_len (dv 14))))
                  (dss_cons (ds_expr (de_app (dv 17) (de_len (by rfl) T.z_len (dv 14))))
                  (dss_one (ds_asg (de_tup (da_cons (de_catM (dv 14) (de_lst (da_cons (dv 21) da_nil))) (da_cons (de_catL (dv 15) (de_lst (da_cons (dv 19) da_nil))) (da_cons (de_catM (dv 16) (de_lst (da_cons (dv 19) da_nil))) da_nil)))) (dg_tup rfl (dgs_cons (dg_name (i := 14) sc__law_played.nd rfl (.inr rfl)) (dgs_cons (dg_name (i := 15) sc__law_played.nd rfl (.inl rfl)) (dgs_cons (dg_name (i := 16) sc__law_played.nd rfl (.inr rfl)) dgs_nil))) (fix_cons (fix_cons (fix_cons fix_nil)))))))))
                dss_nil))))
          (dss_cons (ds_for (passes_of rfl) rfl (di_rng1 (by rfl) T.z_range (da_cons (de_len (by rfl) T.z_len (dv 1)) da_nil)) (dg_name (i := 22) sc__law_played.nd rfl (.inr rfl))
            (dss_one (ds_if (dt_gt (de_len (by rfl) T.z_len (de_lcR false (own := [("one", 23)]) rfl sc__law_played.nd (dv 17) (blkOk_by (N := n__law_played) (sc := defScope s__law_played) (by decide +kernel)) (fun _ _ _ _ _ => (dg_name (i := 23) sc__law_played.nd rfl (.inl rfl))) (fun _ _ _ _ _ => (dts_one (dt_in (dv 22) (de_item (dv 14) (dv 23))))) (fun _ _ _ _ _ => de_int))) (dv 10))
                (dss_one (ds_ret de_bl))
                dss_nil)))
          (dss_cons (ds_set (i := 24) sc__law_played.nd rfl (.inl rfl) (de_lstM da_nil))
          (dss_cons (ds_for (passes_of rfl) rfl (di_rng1 (by rfl) T.z_range (da_cons (de_len (by rfl) T.z_len (dv 1)) da_nil)) (dg_name (i := 22) sc__law_played.nd rfl (.inr rfl))
            (dss_one (ds_if (nilT hr (de_item (dv 12) (dv 22)))
                (dss_cons (ds_set (i := 23) sc__law_played.nd rfl (.inl rfl) (de_call ((ok__law_going T bb).mono (by first | decide | exact Nat.le_refl _)) hr (by rfl) T.g__law_going T.F__law_going.kp T.b__law_going (L2N.takes_of rfl rfl rfl rfl) (da_cons (dv 0) (da_cons (dv 7) (da_cons (de_item (dv 12) (dv 22)) (da_cons (dv 16) (da_cons (dv 14) da_nil)))))))
                  (dss_cons (ds_if (dt_val (de_any rfl (by rfl) T.z_any (de_lcR false (own := [("other", 25)]) rfl sc__law_played.nd (de_item (dv 12) (dv 22)) (blkOk_by (N := n__law_played) (sc := defScope s__law_played) (by decide +kernel)) (fun _ _ _ _ _ => (dg_name (i := 25) sc__law_played.nd rfl (.inl rfl))) (fun _ _ _ _ _ => dts_nil) (fun _ _ _ _ _ => (de_gt (de_add (de_sub (dv 19) (de_item (dv 16) (dv 25))) de_int) (dv 8))))))
                    (dss_one (ds_ret de_bl))
                    dss_nil)
                  (dss_cons (ds_expr (de_rem (de_item (dv 12) (dv 22)) (dv 23)))
                  (dss_cons (ds_setIx (de_slT (de_item (dv 14) (dv 23)) (do_some de_int) do_none) (dv 14) (dv 23))
                  (dss_cons (ds_expr (de_app (dv 24) (dv 23)))
                  (dss_one (ds_if (dt_eq hr (de_item (dv 14) (dv 23)) (de_tup da_nil))
                    (dss_cons (ds_expr (de_rem (dv 17) (dv 23)))
                      (dss_one (ds_if (dt_gt (de_add (de_sub (dv 19) (de_item (dv 15) (dv 23))) de_int) (dv 9))
                        (dss_one (ds_ret de_bl))
                        dss_nil)))
                    dss_nil)))))))
                dss_nil)))
          (dss_cons (ds_gh (ds_for (passes_of rfl) rfl (di_seq (dv 24)) (dg_name (i := 23) sc__law_played.nd rfl (.inl rfl))
            (dss_one (ds_if (dt_ne hr (de_item (dv 14) (dv 23)) (de_tup da_nil))
                (dss_cons (ds_expr (de_app (de_item (dv 12) (de_item (de_item (dv 14) (dv 23)) de_int)) (dv 23)))
                  (dss_one (ds_setIx (de_add (dv 19) de_int) (dv 16) (dv 23))))
                dss_nil))))
          (dss_cons (ds_setLcR true (i := 11) (own := [("level", 26)]) rfl sc__law_played.nd rfl rfl (sw_true rfl rfl rfl (by decide +kernel)) (dv 11) (blkOk_by (N := n__law_played) (sc := defScope s__law_played) (by decide +kernel)) (fun _ _ _ _ _ => (dg_name (i := 26) sc__law_played.nd rfl (.inl rfl))) (fun _ _ _ _ _ => dts_nil) (fun _ _ _ _ _ => (de_max2 rfl (by rfl) T.z_max de_int (de_sub (dv 26) (de_item (dv 5) de_int)))))
          (dss_one (ds_if (dt_w (dw_and (dt_ge (dv 19) (dv 4)) (dw_and1 (nilT' hr (dv 17)))))
            (dss_one (ds_gh (ds_ret de_bl)))
            dss_nil)))))))))
      (dss_one (ds_gh (ds_ret (de_eq hr (dv 17) (de_lst da_nil)))))))))), ?_⟩) <;> (first | (unfold sp__law_played at h; split at h; rotate_left; exact h.elim) | (unfold sp__law_played at hh; split at hh; rotate_left; exact hh.elim))
  · rfl
  · rename_i b' xs ys d' t
    obtain ⟨⟨rfl, rfl⟩, es, ws, d, rfl, rfl, rfl, ⟨e1, e10⟩, ⟨w0, w6⟩, ⟨d1, d6⟩, hw, hq⟩ := hh
    rw [st__law_played]
    walk_at "st"
    refine ⟨rfl, ⟨by omega, by omega⟩, fun p q hr => ⟨rfl, ⟨by decide, by decide⟩, fun r r0 r3 => ⟨rfl, ⟨by decide, by decide⟩, fun rule ru0 ru5 => ⟨by decide, ?_⟩⟩⟩⟩
    rw [Int.toNat_natCast] at hr
    obtain ⟨r, rfl⟩ := Int.eq_ofNat_of_zero_le r0
    have b1 : 1 ≤ 1 + r := by omega
    have b4 : 1 + r ≤ 4 := by omega
    rw [show (1 : Int) + (r : Int) = ((1 + r : Nat) : Int) from rfl]
    clear r0 r3
    generalize 1 + r = b at *
    obtain ⟨p1, pd, q20, gg⟩ := hr
    have pq : p < q := Nat.lt_of_le_of_lt (by have := Nat.mul_le_mul_left p d1; omega) pd
    have iR : isRt (D.tup [D.int p, D.int q]) = true := rt_of ⟨by omega, by omega, by omega⟩ gg
    have gB : goodB (D.int b) = true := decide_eq_true (by omega)
    have gD : goodD (D.int d) = true := by
      unfold goodD
      simp only [Bool.and_eq_true, decide_eq_true_eq]
      omega
    have sle := st55_le (p := p) (d := d) b4 q20
    have eS := stayF_nat b1 pd
    have eT := tripF_nat b1 pd
    have eW := waitF_nat b1 pd
    have hsl : (mkSl es.length p q b d b1 d1 pd).S = st55 p q b d := rfl
    generalize hSl : mkSl es.length p q b d b1 d1 pd = sl at hsl
    have s1 : sl.n = es.length ∧ sl.p = p ∧ sl.q = q ∧ sl.b = b ∧ sl.d = d := by
      rw [← hSl]
      exact ⟨rfl, rfl, rfl, rfl, rfl⟩
    obtain ⟨hn, hp, hq', hb, hd⟩ := s1
    clear hSl
    generalize st55 p q b d = S at *
    have nd : Need T.C_Refused (D.tup [D.int p, D.int q]) (D.int b) (D.int d) M Ψ True := Need.all (okPr_t (by omega) (by omega)) iR rfl gB rfl gD trivial
    refine aSeq_rel (fun Γ' M' => Γ' = [some (D.ref b'), some (D.tup (List.map prD es)), some (D.lst (List.map wD ws)), some (D.int d), some (D.int 40), some (D.tup [D.int p, D.int q]), some (D.int b), some (D.int rule), some (.int S), some (.int (d * S : Nat)), some (.int (p * (d * S) / q + b : Nat)), none, none, none, none, none, none, none, none, none, none, none, none, none, none, none, none] ∧ M' = M) (fun kk kq => ?_) ?_
    · walk_at "ev"
      refine Need.all nd.r0 iR rfl gB rfl gD fun p' q' i' n' x1 x2 x3 _ _ _ _ _ _ => ?_
      cases x1
      cases x2
      cases x3
      refine Need.all nd.r0 iR rfl gB rfl gD fun p' q' i' n' x1 x2 x3 _ _ _ _ _ _ => ?_
      cases x1
      cases x2
      cases x3
      refine Need.all nd.r0 iR rfl gB rfl gD fun p' q' i' n' x1 x2 x3 _ _ _ _ _ _ => ⟨by decide, ?_⟩
      cases x1
      cases x2
      cases x3
      rw [eS, eT, eW]
      exact kq _ _ ⟨rfl, rfl⟩
    clear eS eT eW
    have dS : d * S ≤ 6 * 61 := Nat.mul_le_mul d6 sle
    generalize hW : p * (d * S) / q + b = W at *
    rintro Γ' M2 ⟨rfl, rfl⟩
    walk_at "st"
    refine aLcM_map es prD (fun _ => .int 0) (fun Φ' z => ?_) (by omega) (fun x hx M' => ⟨_, rfl, fun Φ' z => ?_⟩) fun llv => ?_
    · walk_at "ev"
      exact z
    · walk_at "ev"
      exact z
    refine aLc_new es prD (fun Φ' z => ?_) (by omega) (fun x hx M' => ⟨_, rfl, fun Φ' z => ?_⟩) fun as => ?_
    · walk_at "ev"
      exact z
    · walk_at "ev"
      exact ⟨by decide, z⟩
    walk_at "st"
    refine ⟨by decide, fun l1 => ⟨by decide, by decide, fun l2 => ⟨by decide, fun l3 => ⟨by decide, rfl, ⟨by decide, by decide⟩, fun dd hdd => ⟨by decide, ?_⟩⟩⟩⟩⟩
    obtain ⟨eager, rfl, hea⟩ : ∃ g : Int, dd = .int g ∧ 1 ≤ g ∧ g ≤ 8 := by
      rcases List.mem_cons.mp hdd with e | hdd
      · exact ⟨1, e, by decide⟩
      rcases List.mem_cons.mp hdd with e | hdd
      · exact ⟨2, e, by decide⟩
      rcases List.mem_cons.mp hdd with e | hdd
      · exact ⟨8, e, by decide⟩
      exact absurd hdd List.not_mem_nil
    walk_at "st"
    refine aFor_rng 0 (40 + d * S) (fun T Γ' M' => ∃ (s : Sta) (a : Addr × Addr × Addr × Addr) (X : Mm) (x13 x19 x20 x21 x22 x23 x24 x25 x26 : Option D),
      Γ' = fr ⟨b', es.map prD, ws.map wD, d, p, q, b, rule, S, (d * S : Nat), W, lsF es.length (fun i => .ref (as i)), eager⟩ a (lsF s.N fun i => nD (s.beg i)) x13 x19 x20 x21 x22 x23 x24 x25 x26 ∧ M' = X ++ M2 ∧ Hv (cS es.length a as s) X ∧ Inv sl 40 T 0 [] s ∧ s.N ≤ 5 * T) (fun Φ' z => ?_) ?_ ?_ ?_
    · walk_at "ev"
      exact ⟨⟨by omega, by omega⟩, z⟩
    · refine ⟨_, (llv, l1, l2, l3), (l3, .lst []) :: (l2, .lst []) :: (l1, .lst []) :: qH as (fun _ => .lst []) es.length [(llv, .lst (es.map fun _ => .int 0))], _, _, _, _, _, _, _, _, _, rfl, ?_, ?_, Inv.init sl 40, Nat.zero_le _⟩
      · exact congrArg (fun z => (l3, MO.lst []) :: (l2, MO.lst []) :: (l1, MO.lst []) :: z) (qH_app (M := [(llv, .lst (es.map fun _ => .int 0))]) (M2 := M2))
      · have e : es.map (fun _ => D.int 0) = lsF es.length (fun _ => nD 0) := by
          unfold lsF
          refine List.ext_getElem (by simp) fun i h1 h2 => ?_
          rw [List.getElem_map, List.getElem_map]
          rfl
        rw [e]
        exact init_hv
    · rintro T Γ' M' hT ⟨s, a, X, x13, x19, x20, x21, x22, x23, x24, x25, x26, rfl, rfl, hv, hi, hN⟩
      unfold fr
      refine ⟨_, rfl, ?_⟩
      refine aSeq_step ?_
      refine aFor_rng 0 (if T < 40 then 5 else 0) (fun j Γ' M' => ∃ (s : Sta) (a : Addr × Addr × Addr × Addr) (X : Mm) (x13 x20 x21 x22 x23 x24 x25 x26 : Option D),
        Γ' = fr ⟨b', es.map prD, ws.map wD, d, p, q, b, rule, S, (d * S : Nat), W, lsF es.length (fun i => .ref (as i)), eager⟩ a (lsF s.N fun i => nD (s.beg i)) x13 (some (.int (0 + (T : Nat)))) x20 x21 x22 x23 x24 x25 x26 ∧ M' = X ++ M2 ∧ Hv (cS es.length a as s) X ∧ Inv sl 40 T 0 [] s ∧ s.N ≤ 5 * T + j) (fun Φ' z => ?_) ⟨s, a, X, _, _, _, _, _, _, _, _, rfl, rfl, hv, hi, by omega⟩ ?_ ?_
      · walk_at "ev"
        refine ⟨fun c => ?_, fun c => ?_⟩
        · rw [if_pos (by have := of_decide_eq_true c; omega)] at z
          exact ⟨by decide, z⟩
        · rw [if_neg (by have := of_decide_eq_false c; omega)] at z
          exact ⟨by decide, z⟩
      · clear hv hi hN x13 x19 x20 x21 x22 x23 x24 x25 x26 X a s
        rintro j Γ' M' hj ⟨s, a, X, x13, x20, x21, x22, x23, x24, x25, x26, rfl, rfl, hv, hi, hN⟩
        have hT4 : T < 40 := by
          by_cases c : T < 40
          · exact c
          · rw [if_neg c] at hj
            omega
        rw [if_pos hT4] at hj
        unfold fr
        refine ⟨_, rfl, ?_⟩
        walk_at "st"
        refine ⟨rfl, ⟨by rw [List.length_map]; omega, by rw [List.length_map]; omega⟩, fun dw hdw => ?_⟩
        obtain ⟨wy, hwy, rfl⟩ := List.mem_map.mp hdw
        obtain ⟨k1, k2, k3, k4⟩ := hw wy hwy
        have hv' : Hv (cM es.length a as (lsF es.length fun e => nD (s.lv e)) (lsF s.N fun i => wD (s.owed i)) (lsF s.N fun i => nD (s.came i)) (s.liv.map nD) s.que) X := hv
        walk_at "ev"
        refine ⟨rfl, ⟨by omega, by omega⟩, fun r _ _ => ⟨fun _ => ⟨es.length, s.lv, wy, cM_lv hv, rfl, ⟨by omega, by omega, by omega, by omega, by omega⟩, by omega, k4, fun hroom => ?_, fun _ => ⟨s, a, X, _, _, _, _, _, _, _, _, rfl, rfl, hv, hi, by omega⟩⟩, fun _ => ⟨fun z => Bool.noConfusion z, fun _ => ⟨s, a, X, _, _, _, _, _, _, _, _, rfl, rfl, hv, hi, by omega⟩⟩⟩⟩
        obtain ⟨f, hf⟩ : ∃ f, wy.head? = some f := by
          cases wy with
          | nil => exact absurd rfl k2
          | cons f _ => exact ⟨f, rfl⟩
        have fn : f < es.length := k4 f (head_mem hf)
        have gf : getI (wy.map nD) 0 = some (nD f) := getI_nat (n := 0) (by
          rw [← List.head?_eq_getElem?, List.head?_map, hf]
          rfl)
        refine aSeq_step ?_
        refine aFor_map wy nD (fun i Γ' M' => ∃ (X : Mm) (x22 : Option D), Γ' = fr ⟨b', es.map prD, ws.map wD, d, p, q, b, rule, S, (d * S : Nat), W, lsF es.length (fun i => .ref (as i)), eager⟩ a (lsF s.N fun i => nD (s.beg i)) x13 (some (.int (0 + (T : Nat)))) (some (.int (0 + (j : Nat)))) (some (wD wy)) x22 x23 x24 x25 x26 ∧ M' = X ++ M2 ∧ Hv (cM es.length a as (lsF es.length fun e => nD (if e ∈ wy.take i then s.lv e + q else s.lv e)) (lsF s.N fun i => wD (s.owed i)) (lsF s.N fun i => nD (s.came i)) (s.liv.map nD) s.que) X) (fun Φ' z => ?_) ⟨X, _, rfl, rfl, ?_⟩ ?_ ?_
        · walk_at "ev"
          exact z
        · rw [lsF_eq (g := fun e => nD (s.lv e)) fun e _ => by rw [List.take_zero, if_neg List.not_mem_nil]]
          exact hv'
        · clear hv hv' X x22
          rintro i e Γ' M' he ⟨X, x22, rfl, rfl, hv⟩
          unfold fr
          refine ⟨_, rfl, ?_⟩
          walk_at "ev"
          obtain ⟨hil, hie⟩ := List.getElem?_eq_some_iff.mp he
          have em : e < es.length := k4 e (List.mem_of_getElem? he)
          have ne : e ∉ wy.take i := fun hm => by
            have h2 : (wy.take i ++ e :: wy.drop (i + 1)).Nodup := by
              rw [← hie, ← List.drop_eq_getElem_cons hil, List.take_append_drop]
              exact k1
            exact (List.nodup_append.mp h2).2.2 e hm e (.head _) rfl
          refine ⟨_, cM_lv hv, ?_⟩
          rw [lsF_ix em, if_neg ne]
          walk_at "ev"
          obtain ⟨X', up, hv2⟩ := cM_lvU (M := M2) hv (lsF es.length fun e' => nD (if e' ∈ wy.take (i + 1) then s.lv e' + q else s.lv e'))
          refine ⟨lsF es.length fun e => nD (if e ∈ wy.take i then s.lv e + q else s.lv e), e, X' ++ M2, by rw [lsF_len]; exact ixN_nat em, ?_, X', _, rfl, rfl, hv2⟩
          have e2 : (lsF es.length fun e => nD (if e ∈ wy.take i then s.lv e + q else s.lv e)).set e (D.int ((s.lv e : Int) + (q : Int))) = lsF es.length fun e' => nD (if e' ∈ wy.take (i + 1) then s.lv e' + q else s.lv e') := lsF_set fun x hx => by
            rw [List.take_add_one, he, Option.toList_some]
            by_cases c : e = x
            · subst c
              rw [if_pos rfl, if_pos (List.mem_append_right _ (.head _))]
              rfl
            · rw [if_neg c]
              by_cases c2 : x ∈ wy.take i
              · rw [if_pos c2, if_pos (List.mem_append_left _ c2)]
              · rw [if_neg c2, if_neg fun h => (List.mem_append.mp h).elim c2 fun h => c (List.mem_singleton.mp h).symm]
          rw [e2]
          exact up
        rintro Γ' M' ⟨X, x22, rfl, rfl, hv⟩
        rw [List.take_length] at hv
        dsimp only
        unfold fr
        refine aSeq_step ?_
        walk_at "ev"
        rw [gf]
        walk_at "ev"
        rw [lsF_ix fn]
        walk_at "ev"
        have e3 : ∀ (l : List Nat) (k : Nat), l.map nD ++ [D.int (k : Nat)] = (l ++ [k]).map nD := fun l k => by
          rw [List.map_append]
          rfl
        have ql : (s.que f).length ≤ s.N := by
          have h := hi.qu f (by omega)
          have := len_le_of (l' := List.range s.N) h.1 fun x hx => List.mem_range.mpr (h.2 x hx).1
          rw [List.length_range] at this
          exact this
        have ll : s.liv.length ≤ s.N := by
          have := len_le_of (l' := List.range s.N) hi.li.1 fun x hx => List.mem_range.mpr ((hi.li.2 x).mp hx).1
          rw [List.length_range] at this
          exact this
        have hput := hi.put (wy := wy) (f := f) k1 (by rw [hd]; exact k3) (fun e he => by rw [hn]; exact k4 e he) hf hT4 (fun e he => by
          have := of_decide_eq_true (List.all_eq_true.mp hroom e he)
          rw [hq', hb, hp]
          exact_mod_cast this)
        rw [hq'] at hput
        obtain ⟨X2, up2, hv2⟩ := cM_qU (M := M2) hv fn (s.que f ++ [s.N])
        refine ⟨⟨_, cM_q hv fn⟩, _, cM_ow hv, _, X2 ++ M2, by rw [lsF_len, e3]; exact up2, by rw [List.length_map]; omega, ?_⟩
        obtain ⟨X3, up3, hv3⟩ := cM_liU (M := M2) hv2 ((s.liv ++ [s.N]).map nD)
        walk_at "ev"
        refine ⟨⟨_, cM_li hv2⟩, _, cM_ow hv2, _, X3 ++ M2, by rw [lsF_len, e3]; exact up3, by rw [List.length_map]; omega, ?_⟩
        walk_at "ev"
        refine ⟨by decide, _, cM_ow hv3, by rw [lsF_len]; omega, fun p1' => ⟨by decide, by rw [lsF_len]; omega, by decide, _, .tail _ (cM_cm hv3), by rw [lsF_len]; omega, fun p2' => ⟨by decide, ?_⟩⟩⟩
        rw [show D.int (0 + (T : Int)) = nD T by rw [Int.zero_add]]
        rw [snocU (f := s.owed) (g := wD), snocU (f := s.came) (g := nD), snocU (f := s.beg) (g := nD)]
        exact ⟨_, (a.1, p1', p2', a.2.2.2), _, _, _, _, _, _, _, _, _, rfl, rfl, cM_new (l1 := p1') (l2 := p2') hv3, hput, by show s.N + 1 ≤ _; omega⟩
      clear hv hi hN x13 x19 x20 x21 x22 x23 x24 x25 x26 X a s
      rintro Γ' M' ⟨s, a, X, x13, x20, x21, x22, x23, x24, x25, x26, rfl, rfl, hv, hi, hN⟩
      replace hN : s.N ≤ 5 * T + 5 := by
        by_cases c : T < 40
        · rw [if_pos c] at hN
          exact hN
        · rw [if_neg c] at hN
          omega
      dsimp only
      have que_le : ∀ e, e < es.length → (s.que e).length ≤ s.N := fun e he => by
        have h := hi.qu e (by omega)
        have := len_le_of (l' := List.range s.N) h.1 fun x hx => List.mem_range.mpr (h.2 x hx).1
        rw [List.length_range] at this
        exact this
      have liv_le : s.liv.length ≤ s.N := by
        have := len_le_of (l' := List.range s.N) hi.li.1 fun x hx => List.mem_range.mpr ((hi.li.2 x).mp hx).1
        rw [List.length_range] at this
        exact this
      refine aSeq_step ?_
      refine aFor_rng 0 es.length (fun j Γ' M' => ∃ x22 : Option D, Γ' = fr ⟨b', es.map prD, ws.map wD, d, p, q, b, rule, S, (d * S : Nat), W, lsF es.length (fun i => .ref (as i)), eager⟩ a (lsF s.N fun i => nD (s.beg i)) x13 (some (.int (0 + (T : Nat)))) x20 x21 x22 x23 x24 x25 x26 ∧ M' = X ++ M2) (fun Φ' z => ?_) ⟨_, rfl, rfl⟩ ?_ ?_
      · unfold fr
        walk_at "ev"
        rw [List.length_map]
        exact ⟨⟨by omega, by omega⟩, z⟩
      · clear x22
        rintro e Γ' M' he ⟨x22, rfl, rfl⟩
        unfold fr
        refine ⟨_, rfl, ?_⟩
        walk_at "ev"
        have fin := hi.wait (e := e) (by omega)
        rw [hp, hd, hsl, hq', hb, hW] at fin
        refine aLcR_pure a.2.2.2 s.liv nD (fun x => (s.owed x).contains e) (fun _ => .int 1) (fun Φ' z => ?_) (cM_li hv) (by omega) (fun x hx a' acc => ⟨fr ⟨b', es.map prD, ws.map wD, d, p, q, b, rule, S, (d * S : Nat), W, lsF es.length (fun i => .ref (as i)), eager⟩ a (lsF s.N fun i => nD (s.beg i)) x13 (some (.int (0 + (T : Nat)))) x20 x21 (some (.int (0 + (e : Nat)))) (some (nD x)) x24 x25 x26, rfl, fun Φ' z => ?_, fun _ Φ' z => ?_⟩) (fun a' => ?_)
        · walk_at "ev"
          exact z
        · unfold fr
          walk_at "ev"
          refine ⟨_, .tail _ (cM_ow hv), ?_⟩
          rw [lsF_ix ((hi.li.2 x).mp hx).1]
          walk_at "ev"
          refine ⟨⟨rfl, flat_nD⟩, ?_⟩
          rw [Int.zero_add, any_nD]
          exact z
        · walk_at "ev"
          exact z
        · rw [if_neg Bool.false_ne_true]
          walk_at "ev"
          rw [List.length_map]
          refine ⟨fun c => absurd (of_decide_eq_true c) (by omega), fun _ => ⟨_, rfl, rfl⟩⟩
      clear x22
      rintro Γ' M' ⟨x22, rfl, rfl⟩
      dsimp only
      unfold fr
      refine aSeq_step ?_
      walk_at "ev"
      refine ⟨by decide, fun mv => ?_⟩
      refine aSeq_step ?_
      refine aFor_rng 0 es.length (fun k Γ' M' => ∃ (s : Sta) (mvs : List Nat) (X : Mm) (x22 x23 x25 : Option D), Γ' = fr ⟨b', es.map prD, ws.map wD, d, p, q, b, rule, S, (d * S : Nat), W, lsF es.length (fun i => .ref (as i)), eager⟩ a (lsF s.N fun i => nD (s.beg i)) x13 (some (.int (0 + (T : Nat)))) x20 x21 x22 x23 (some (.ref mv)) x25 x26 ∧ M' = (mv, .lst (mvs.map nD)) :: (X ++ M2) ∧ Hv (cS es.length a as s) X ∧ Inv sl 40 T k mvs s ∧ s.N ≤ 5 * T + 5) (fun Φ' z => ?_) ⟨s, [], X, _, _, _, rfl, rfl, hv, hi, hN⟩ ?_ ?_
      · walk_at "ev"
        rw [List.length_map]
        exact ⟨⟨by omega, by omega⟩, z⟩
      · clear que_le liv_le hv hi hN x22 x23 x25 X s
        rintro k Γ' M' hk ⟨s, mvs, X, x22, x23, x25, rfl, rfl, hv, hi, hN⟩
        unfold fr
        refine ⟨_, rfl, ?_⟩
        have kn : k < sl.n := by omega
        obtain ⟨qn, qx⟩ := hi.qu k kn
        have ql : (s.que k).length ≤ s.N := by
          have := len_le_of (l' := List.range s.N) qn fun x hx => List.mem_range.mpr (qx x hx).1
          rw [List.length_range] at this
          exact this
        have ll : s.liv.length ≤ s.N := by
          have := len_le_of (l' := List.range s.N) hi.li.1 fun x hx => List.mem_range.mpr ((hi.li.2 x).mp hx).1
          rw [List.length_range] at this
          exact this
        have ml : mvs.length ≤ s.N := by
          have := len_le_of (l' := List.range s.N) hi.mo.1 fun x hx => List.mem_range.mpr (hi.mo.2 x hx).1
          rw [List.length_range] at this
          exact this
        walk_at "ev"
        rw [lsF_ix0 hk]
        walk_at "ev"
        refine ⟨_, .tail _ (cM_q hv hk), ns_plD, fun hne => ?_, fun he => ⟨{ s with Bs := upd s.Bs k (T + 1), P := upd s.P k [] }, mvs, X, _, _, _, rfl, rfl, hv, hi.skip kn ?_, hN⟩⟩
        rotate_left
        · cases hq0 : s.que k with
          | nil => rfl
          | cons y ys =>
            rw [hq0] at he
            cases he
        have len0 : 0 < (s.que k).length := by
          rcases Nat.eq_zero_or_pos (s.que k).length with z | z
          · rw [List.length_eq_zero_iff.mp z] at hne
            cases hne
          · exact z
        refine aSeq_rel (fun Γ' M' => ∃ x, x ∈ s.que k ∧ Γ' = fr ⟨b', es.map prD, ws.map wD, d, p, q, b, rule, S, (d * S : Nat), W, lsF es.length (fun i => .ref (as i)), eager⟩ a (lsF s.N fun i => nD (s.beg i)) x13 (some (.int (0 + (T : Nat)))) x20 x21 (some (.int (0 + (k : Nat)))) (some (nD x)) (some (.ref mv)) x25 x26 ∧ M' = (mv, .lst (mvs.map nD)) :: (X ++ M2)) (fun kk kq => ?_) ?_
        · walk_at "ev"
          rw [lsF_ix0 hk]
          walk_at "ev"
          refine ⟨rfl, s.que k, s.N, s.owed, .tail _ (cM_q hv hk), .tail _ (cM_ow hv), ⟨len0, by omega⟩, fun x hx => ⟨(qx x hx).1, ?_, ?_⟩, fun x hx => kq _ _ ⟨x, hx, rfl, rfl⟩⟩
          · have w := hi.wy x (qx x hx).1
            have := w.2.2.2.length_le
            omega
          · have := (qx x hx).1
            omega
        rintro Γ' M' ⟨x, hx, rfl, rfl⟩
        obtain ⟨xN, xh, xB, xm⟩ := qx x hx
        refine aSeq_rel (fun Γ' M' => Γ' = fr ⟨b', es.map prD, ws.map wD, d, p, q, b, rule, S, (d * S : Nat), W, lsF es.length (fun i => .ref (as i)), eager⟩ a (lsF s.N fun i => nD (s.beg i)) x13 (some (.int (0 + (T : Nat)))) x20 x21 (some (.int (0 + (k : Nat)))) (some (nD x)) (some (.ref mv)) x25 x26 ∧ M' = (mv, .lst (mvs.map nD)) :: (X ++ M2)) (fun kk kq => ?_) ?_
        · unfold fr
          walk_at "ev"
          refine aLcR_pure (as k) (s.que k) nD (fun _ => true) (fun y => .bl (decide ((S : Int) < 0 + (T : Int) - (s.came y : Int) + 1))) (fun Φ' z => ?_) (.tail _ (cM_q hv hk)) (by omega) (fun y hy a' acc => ⟨fr ⟨b', es.map prD, ws.map wD, d, p, q, b, rule, S, (d * S : Nat), W, lsF es.length (fun i => .ref (as i)), eager⟩ a (lsF s.N fun i => nD (s.beg i)) x13 (some (.int (0 + (T : Nat)))) x20 x21 (some (.int (0 + (k : Nat)))) (some (nD x)) (some (.ref mv)) (some (nD y)) x26, rfl, fun Φ' z => z, fun _ Φ' z => ?_⟩) (fun a' => ?_)
          · walk_at "ev"
            rw [lsF_ix0 hk]
            exact z
          · unfold fr
            walk_at "ev"
            refine ⟨_, .tail _ (.tail _ (cM_cm hv)), ?_⟩
            rw [lsF_ix (qx y hy).1]
            walk_at "ev"
            exact z
          · rw [if_neg Bool.false_ne_true, List.filter_eq_self.mpr (fun _ _ => rfl)]
            walk_at "ev"
            refine ⟨(s.que k).map fun y => decide ((S : Int) < 0 + (T : Int) - (s.came y : Int) + 1), by rw [List.map_map]; rfl, ?_⟩
            have e0 : ((s.que k).map fun y => decide ((S : Int) < 0 + (T : Int) - (s.came y : Int) + 1)).any id = false := by
              rw [List.any_map, List.any_eq_false]
              intro y hy c
              have c := of_decide_eq_true c
              have := hi.st k kn (Nat.le_refl _) y hy
              rw [hsl] at this
              omega
            rw [e0]
            exact ⟨fun z => Bool.noConfusion z, fun _ => kq _ _ ⟨rfl, rfl⟩⟩
        rintro Γ' M' ⟨rfl, rfl⟩
        unfold fr
        refine aSeq_step ?_
        walk_at "ev"
        rw [lsF_ix0 hk]
        walk_at "ev"
        obtain ⟨j, q1, hq1, g1, g2, g3⟩ := rem_nat qn hx
        obtain ⟨X2, up2, hv2⟩ := cM_qU (M := M2) hv hk q1
        refine ⟨⟨_, .tail _ (cM_q hv hk)⟩, (s.que k).map (fun i : Nat => (i : Int)), x, j, _, rfl, by rw [g3, List.map_map]; exact .there up2, g1, g2, ?_⟩
        walk_at "ev"
        refine ⟨_, .tail _ (cM_ow hv2), ?_⟩
        try dsimp only
        rw [lsF_ix xN]
        walk_at "ev"
        rw [aSlT_t, cut1]
        obtain ⟨X3, up3, hv3⟩ := cM_owU (M := M2) hv2 (lsF s.N fun i => wD (upd s.owed x (s.owed x).tail i))
        refine ⟨lsF s.N fun i => wD (s.owed i), x, _, by rw [lsF_len]; exact ixN_nat xN, by rw [setU (f := s.owed) (g := wD)]; exact .there up3, ?_⟩
        walk_at "st"
        refine ⟨⟨_, .head _⟩, _, _, .here, by rw [List.length_map]; omega, ?_⟩
        walk_at "ev"
        refine ⟨_, .tail _ (cM_ow hv3), ?_⟩
        try dsimp only
        rw [lsF_ix xN, upd_eq]
        walk_at "ev"
        refine ⟨by decide, ?_⟩
        unfold eqDeep rdM
        dsimp only
        refine ⟨eq_nilT.1, ?_⟩
        rw [eq_nilT.2]
        walk_at "ev"
        have e7 : mvs.map nD ++ [nD x] = (mvs ++ [x]).map nD := by
          rw [List.map_append]
          rfl
        have hgo := fun l' : List Nat => hi.go kn hx hq1 (l' := l')
        have hom := (hi.home kn hx).2
        rw [hd, hsl] at hom
        rw [e7]
        refine ⟨fun c => ?_, fun c => ?_⟩
        · have tn : (s.owed x).tail = [] := List.isEmpty_iff.mp c
          have xl : x ∈ s.liv := (hi.li.2 x).mpr ⟨xN, ne_of_head xh⟩
          obtain ⟨j2, l2, hl2, y1, y2, y3⟩ := rem_nat hi.li.1 xl
          obtain ⟨X4, up4, hv4⟩ := cM_liU (M := M2) hv3 (l2.map nD)
          refine aSeq_step ?_
          walk_at "ev"
          refine ⟨⟨_, .tail _ (cM_li hv3)⟩, s.liv.map (fun i : Nat => (i : Int)), x, j2, _, rfl, by rw [y3, List.map_map]; exact .there up4, y1, y2, ?_⟩
          walk_at "ev"
          rw [lsF_ix xN]
          walk_at "ev"
          refine ⟨fun c => absurd (of_decide_eq_true c) (by omega), fun _ => ⟨{ s with que := upd s.que k q1, owed := upd s.owed x (s.owed x).tail, P := upd s.P k (x :: s.P k), liv := l2 }, mvs ++ [x], X4, _, _, _, rfl, rfl, hv4, hgo l2 ⟨hl2.1, fun y => ?_⟩, hN⟩⟩
          rw [hl2.2 y, tn]
          exact ⟨fun z => ⟨z.1, fun e => absurd e z.2⟩, fun z => ⟨z.1, fun e => z.2 e rfl⟩⟩
        · have tn : (s.owed x).tail ≠ [] := fun z => by
            rw [z] at c
            cases c
          exact ⟨{ s with que := upd s.que k q1, owed := upd s.owed x (s.owed x).tail, P := upd s.P k (x :: s.P k), liv := s.liv }, mvs ++ [x], X3, _, _, _, rfl, rfl, hv3, hgo s.liv ⟨hi.li.1, fun y => ⟨fun z => ⟨z, fun _ => tn⟩, fun z => z.1⟩⟩, hN⟩
      clear que_le liv_le hv hi hN x22 x23 x25 X s
      rintro Γ' M' ⟨s, mvs, X, x22, x23, x25, rfl, rfl, hv, hi, hN⟩
      dsimp only
      unfold fr
      refine aSeq_step ?_
      refine ⟨_, _, .lst 24 rfl .here .refl, ?_⟩
      rw [← hn] at hi
      refine aFor_map mvs nD (fun i Γ' M' => ∃ (s : Sta) (X : Mm) (x22 x23 x25 : Option D), Γ' = fr ⟨b', es.map prD, ws.map wD, d, p, q, b, rule, S, (d * S : Nat), W, lsF es.length (fun i => .ref (as i)), eager⟩ a (lsF s.N fun i => nD (s.beg i)) x13 (some (.int (0 + (T : Nat)))) x20 x21 x22 x23 (some (.lst (mvs.map nD))) x25 x26 ∧ M' = X ++ M2 ∧ Hv (cS es.length a as s) X ∧ Inv sl 40 T sl.n (mvs.drop i) s ∧ s.N ≤ 5 * T + 5) (fun Φ' z => ?_) ⟨s, X, _, _, _, rfl, rfl, hv, hi, hN⟩ ?_ ?_
      · walk_at "ev"
        exact z
      · clear hv hi hN x22 x23 x25 X s
        rintro i x Γ' M' hx ⟨s, X, x22, x23, x25, rfl, rfl, hv, hi, hN⟩
        unfold fr
        refine ⟨_, rfl, ?_⟩
        obtain ⟨hix, ex⟩ := List.getElem?_eq_some_iff.mp hx
        rw [List.drop_eq_getElem_cons hix, ex] at hi
        walk_at "ev"
        have xN : x < s.N := (hi.mo.2 x (.head _)).1
        refine ⟨_, cM_ow hv, ?_⟩
        rw [lsF_ix xN]
        walk_at "ev"
        refine ⟨by decide, ?_⟩
        unfold eqDeep rdM
        dsimp only
        refine ⟨eq_nilT.1, ?_⟩
        rw [eq_nilT.2]
        walk_at "ev"
        refine ⟨fun c => ?_, fun c => ⟨s, X, _, _, _, rfl, rfl, hv, hi.app0 ?_, hN⟩⟩
        rotate_left
        · cases ho : s.owed x with
          | nil => rfl
          | cons _ _ =>
            rw [ho] at c
            cases c
        obtain ⟨f, hf⟩ : ∃ f, (s.owed x).head? = some f := by
          cases ho : s.owed x with
          | nil =>
            rw [ho] at c
            cases c
          | cons f _ => exact ⟨f, rfl⟩
        have fn : f < es.length := by
          obtain ⟨_, _, w3, w4⟩ := hi.wy x xN
          have := w3 f (w4.subset (head_mem hf))
          omega
        have gf : getI ((s.owed x).map nD) 0 = some (nD f) := getI_nat (n := 0) (by
          rw [← List.head?_eq_getElem?, List.head?_map, hf]
          rfl)
        have ql : (s.que f).length ≤ s.N := by
          have h := hi.qu f (by omega)
          have := len_le_of (l' := List.range s.N) h.1 fun x hx => List.mem_range.mpr (h.2 x hx).1
          rw [List.length_range] at this
          exact this
        obtain ⟨X2, up2, hv2⟩ := cM_qU (M := M2) hv fn (s.que f ++ [x])
        obtain ⟨X3, up3, hv3⟩ := cM_cmU (M := M2) hv2 (lsF s.N fun i => nD (upd s.came x (T + 1) i))
        refine aSeq_step ?_
        walk_at "ev"
        refine ⟨_, cM_ow hv, ?_⟩
        rw [lsF_ix xN]
        walk_at "ev"
        rw [gf]
        walk_at "ev"
        rw [lsF_ix fn]
        walk_at "ev"
        refine ⟨⟨_, cM_q hv fn⟩, _, X2 ++ M2, by rw [show (s.que f).map nD ++ [nD x] = (s.que f ++ [x]).map nD by rw [List.map_append]; rfl]; exact up2, by rw [List.length_map]; omega, ?_⟩
        walk_at "ev"
        refine ⟨lsF s.N fun i => nD (s.came i), x, _, by rw [lsF_len]; exact ixN_nat xN, by rw [show D.int (0 + (T : Int) + 1) = nD (T + 1) by rw [Int.zero_add]; rfl, setU (f := s.came) (g := nD)]; exact up3, ?_⟩
        exact ⟨{ s with que := upd s.que f (s.que f ++ [x]), came := upd s.came x (T + 1) }, X3, _, _, _, rfl, rfl, hv3, hi.app1 hf, hN⟩
      clear hv hi hN x22 x23 x25 X s
      rintro Γ' M' ⟨s, X, x22, x23, x25, rfl, rfl, hv, hi, hN⟩
      rw [List.drop_length] at hi
      dsimp only
      unfold fr
      refine aSeq_step ?_
      refine aLcR_pure a.1 (List.range es.length) (fun e => nD (s.lv e)) (fun _ => true) (fun e => nD (s.lv e - p)) (fun Φ' z => ?_) (cM_lv hv) (by rw [List.length_range]; omega) (fun e he a' acc => ⟨fr ⟨b', es.map prD, ws.map wD, d, p, q, b, rule, S, (d * S : Nat), W, lsF es.length (fun i => .ref (as i)), eager⟩ a (lsF s.N fun i => nD (s.beg i)) x13 (some (.int (0 + (T : Nat)))) x20 x21 x22 x23 (some (.lst (mvs.map nD))) x25 (some (nD (s.lv e))), rfl, fun Φ' z => z, fun _ Φ' z => ?_⟩) fun l' => ?_
      · walk_at "ev"
        exact z
      · unfold fr
        walk_at "ev"
        rw [show (max 0 ((s.lv e : Int) - (p : Int))) = ((s.lv e - p : Nat) : Int) by omega]
        exact z
      rw [if_pos rfl, List.filter_eq_self.mpr (fun _ _ => rfl)]
      have hi2 := hi.next (lv' := fun e => s.lv e - p) fun e he => ⟨by omega, by omega⟩
      have hv2 := cM_newlv (l := l') (lv' := lsF es.length fun e => nD (s.lv e - p)) hv
      generalize hs2 : ({ s with lv := fun e => s.lv e - p } : Sta) = s2 at hi2
      walk_at "ev"
      have nxt : ∃ (s' : Sta) (a' : Addr × Addr × Addr × Addr) (X' : Mm) (y13 y19 y20 y21 y22 y23 y24 y25 y26 : Option D), fr ⟨b', es.map prD, ws.map wD, d, p, q, b, rule, S, (d * S : Nat), W, lsF es.length (fun i => .ref (as i)), eager⟩ (l', a.2) (lsF s.N fun i => nD (s.beg i)) x13 (some (.int (0 + (T : Nat)))) x20 x21 x22 x23 (some (.lst (mvs.map nD))) x25 x26 = fr ⟨b', es.map prD, ws.map wD, d, p, q, b, rule, S, (d * S : Nat), W, lsF es.length (fun i => .ref (as i)), eager⟩ a' (lsF s'.N fun i => nD (s'.beg i)) y13 y19 y20 y21 y22 y23 y24 y25 y26 ∧ (l', MO.lst (lsF es.length fun e => nD (s.lv e - p))) :: (X ++ M2) = X' ++ M2 ∧ Hv (cS es.length a' as s') X' ∧ Inv sl 40 (T + 1) 0 [] s' ∧ s'.N ≤ 5 * (T + 1) := by
        refine ⟨s2, (l', a.2), (l', MO.lst (lsF es.length fun e => nD (s.lv e - p))) :: X, x13, some (.int (0 + (T : Nat))), x20, x21, x22, x23, some (.lst (mvs.map nD)), x25, x26, ?_, rfl, ?_, hi2, ?_⟩ <;> subst hs2
        · rfl
        · exact hv2
        · show s.N ≤ _
          omega
      refine ⟨fun _ => ⟨_, .tail _ (cM_li hv), ns_plD, fun _ => ?_, fun _ => nxt⟩, fun _ => ⟨fun z => Bool.noConfusion z, fun _ => nxt⟩⟩
      refine ⟨_, _, .less (.cons _ (List.sublist_append_right X M2)) .refl, ?_⟩
      walk_at "ev"
      exact hq
    · rintro Γ' M' ⟨s, a, X, x13, x19, x20, x21, x22, x23, x24, x25, x26, rfl, rfl, hv, hi, hN⟩
      unfold fr
      have hv : Hv (cM es.length a as (lsF es.length fun e => nD (s.lv e)) (lsF s.N fun i => wD (s.owed i)) (lsF s.N fun i => nD (s.came i)) (s.liv.map nD) s.que) X := hv
      rw [show 40 + d * S = 40 + sl.d * sl.S by rw [hd, hsl]] at hi
      rw [hi.over] at hv
      dsimp only
      have p5 : (cM es.length a as (lsF es.length fun e => nD (s.lv e)) (lsF s.N fun i => wD (s.owed i)) (lsF s.N fun i => nD (s.came i)) (([] : List Nat).map nD) s.que).Perm ((a.2.2.2, MO.lst []) :: ((a.1, MO.lst (lsF es.length fun e => nD (s.lv e))) :: (a.2.1, MO.lst (lsF s.N fun i => wD (s.owed i))) :: (a.2.2.1, MO.lst (lsF s.N fun i => nD (s.came i))) :: qH as (fun e => MO.lst ((s.que e).map nD)) es.length [])) := List.perm_middle (a := (a.2.2.2, MO.lst [])) (l₁ := [(a.1, MO.lst (lsF es.length fun e => nD (s.lv e))), (a.2.1, MO.lst (lsF s.N fun i => wD (s.owed i))), (a.2.2.1, MO.lst (lsF s.N fun i => nD (s.came i)))])
      obtain ⟨X', dl, _⟩ := (hv.perm p5).dl (M := M2)
      refine ⟨_, _, .lst 17 rfl dl (.less (List.sublist_append_right X' M2) .refl), ?_⟩
      walk_at "ev"
      refine ⟨by decide, ?_⟩
      unfold eqDeep rdM
      dsimp only
      refine ⟨⟨rfl, rfl⟩, ?_⟩
      have e6 : PyData.eqv (py 60 (.lst [])) (py 60 (.lst [])) = true := eqv_nil
      rw [e6]
      exact hq

theorem eq_nilP {es : List (Int × Int)} : (plD 60 (.tup (es.map prD)) = true ∧ plD 60 (.tup []) = true) ∧ PyData.eqv (py 60 (.tup (es.map prD))) (py 60 (.tup [])) = es.isEmpty := by
  refine ⟨⟨?_, rfl⟩, ?_⟩
  · show (es.map prD).all (plD 59) = true
    exact prs_plD
  · show PyData.eqv (.tuple ((es.map prD).map (py 59))) (.tuple []) = _
    cases es with
    | nil => simp [PyData.eqv, PyData.eqvAll]
    | cons a t => simp [PyData.eqv, PyData.eqvAll]
theorem ok_law (T : Top P K mg) : FnOk P w K mg base (L2N.CX P w) 14 T.f_law T.d_law ["script"] (conc K Bx.no aspLaw) := by
  refine dfn T.F_law sc_law aspLaw_len (fun cdv A outer s H E hr ds M Φ Ψ hh => ⟨_, (dss_cons (ds_for (passes_of rfl) rfl (di_rng1 (by rfl) T.z_range (da_cons de_int da_nil)) (dg_name (i := 1) sc_law.nd rfl (.inl rfl))
        (dss_cons (ds_set (i := 2) sc_law.nd rfl (.inl rfl) (de_call ((ok__law_box T).mono (by first | decide | exact Nat.le_refl _)) hr (by rfl) T.g__law_box T.F__law_box.kp T.b__law_box (L2N.takes_of rfl rfl rfl rfl) (da_cons (dv 0) (da_cons (dv 1) da_nil))))
          (dss_boxT (b1 := fun i : Addr => bxBox i) fun bi =>
          (dss_cons (ds_asg (de_call ((ok__law_web T bi).mono (by first | decide | exact Nat.le_refl _)) hr (by rfl) T.g__law_web T.F__law_web.kp T.b__law_web (L2N.takes_of rfl rfl rfl rfl) (da_cons (dv 2) (da_cons de_int (da_cons de_int da_nil)))) (dg_tup rfl (dgs_cons (dg_name (i := 3) sc_law.nd rfl (.inl rfl)) (dgs_cons (dg_name (i := 4) sc_law.nd rfl (.inl rfl)) dgs_nil)) (fix_cons (fix_cons fix_nil))))
            (dss_cons (ds_if (dt_eq hr (dv 4) (de_tup da_nil))
              (dss_one (ds_set (i := 4) sc_law.nd rfl (.inl rfl) (de_tup (da_cons (de_tup (da_cons de_int (da_cons de_int da_nil))) da_nil))))
              dss_nil)
            (dss_cons (ds_asg (de_call ((ok__law_ways T bi).mono (by first | decide | exact Nat.le_refl _)) hr (by rfl) T.g__law_ways T.F__law_ways.kp T.b__law_ways (L2N.takes_of rfl rfl rfl rfl) (da_cons (dv 2) (da_cons (dv 4) da_nil))) (dg_tup rfl (dgs_cons (dg_name (i := 5) sc_law.nd rfl (.inl rfl)) (dgs_cons (dg_name (i := 6) sc_law.nd rfl (.inl rfl)) dgs_nil)) (fix_cons (fix_cons fix_nil))))
            (dss_one (ds_if (dt_not (dt_val (de_call ((ok__law_played T bi).mono (by first | decide | exact Nat.le_refl _)) hr (by rfl) T.g__law_played T.F__law_played.kp T.b__law_played (L2N.takes_of rfl rfl rfl rfl) (da_cons (dv 2) (da_cons (dv 4) (da_cons (dv 5) (da_cons (dv 6) (da_cons de_int da_nil))))))))
              (dss_one (ds_ret de_bl))
              dss_nil))))))))
      (dss_one (ds_ret de_bl))), ?_⟩)
  obtain ⟨ns, rfl, hl, rfl, hq⟩ := hh
  rw [st_law]
  refine aSeq_step ?_
  refine aFor_rng 0 2 (fun i Γ' M' => ∃ x1 x2 x3 x4 x5 x6, Γ' = [some (.lst (List.map D.int ns)), x1, x2, x3, x4, x5, x6] ∧ M' = []) (fun Φ' q => ?_) ⟨_, _, _, _, _, _, rfl, rfl⟩ ?_ ?_
  · walk_at "ev"
    exact ⟨⟨by decide, by decide⟩, q⟩
  · rintro i Γ' M' hi ⟨x1, x2, x3, x4, x5, x6, rfl, rfl⟩
    refine ⟨_, rfl, ?_⟩
    walk_at "st"
    refine ⟨⟨by omega, by omega⟩, ns, rfl, hl, fun bx a c y => ⟨bx, [], fun K F H x => boxB_close x, ?_⟩⟩
    walk_at "st"
    refine ⟨⟨rfl, rfl, rfl⟩, fun n es el => ?_⟩
    walk_at "ev"
    refine aSeq_rel (fun Γ' M' => ∃ es : List (Int × Int), (1 ≤ es.length ∧ es.length ≤ 10) ∧ Γ' = [some (.lst (List.map D.int ns)), some (.int (0 + (i : Nat))), some (.ref bx), some (.int n), some (.tup (es.map prD)), x5, x6] ∧ M' = []) (fun kk kq => ?_) ?_
    · walk_at "ev"
      refine ⟨by decide, ?_⟩
      unfold eqDeep rdM
      dsimp only
      refine ⟨eq_nilP.1, ?_⟩
      rw [eq_nilP.2]
      walk_at "ev"
      refine ⟨fun c => ⟨by decide, by decide, kq _ _ ⟨[(0, 1)], ⟨by decide, by decide⟩, rfl, rfl⟩⟩, fun c => kq _ _ ⟨es, ⟨?_, el⟩, rfl, rfl⟩⟩
      cases es with
      | nil => cases c
      | cons _ _ => exact Nat.succ_pos _
    clear el es
    rintro Γ' M' ⟨es, e1, rfl, rfl⟩
    walk_at "st"
    refine ⟨rfl, es, rfl, e1, fun ws d hw hd wy => ?_⟩
    try walk_at "ev"
    refine ⟨⟨rfl, rfl⟩, es, ws, d, rfl, rfl, rfl, e1, hw, hd, wy, fun z => Bool.noConfusion z, fun _ => ⟨_, _, _, _, _, _, rfl, rfl⟩⟩
  · rintro Γ' M' ⟨x1, x2, x3, x4, x5, x6, rfl, rfl⟩
    walk_at "ev"
    exact hq _

end
theorem all_mk {l : PySem.W.OpenLaw} {w : World} {K : PySem.W.Frag} {h : Heap} {mg : Str → Option Value} {fa : Addr} (X : K.In h) (G : h.Ns mainGlobals mg) (hfa : mg "law" = some (.ref fa))
    {C_Refused : Addr} {f0 : Addr} {od0 an0 : Option Addr} {sl0 : Array (Option Value)} {oc0 kV0 dc0 pm0 cd0 ct0 : Value} {f1 : Addr} {od1 an1 : Option Addr} {sl1 : Array (Option Value)} {oc1 kV1 dc1 pm1 cd1 ct1 : Value} {T1 : Addr} {tc1 : Value} {td1 : Option Addr} {tn1 : Nat} {ts1 : Array (Option Value)} {f2 : Addr} {od2 an2 : Option Addr} {sl2 : Array (Option Value)} {oc2 kV2 dc2 pm2 cd2 ct2 : Value} {f3 : Addr} {od3 an3 : Option Addr} {sl3 : Array (Option Value)} {oc3 kV3 dc3 pm3 cd3 ct3 : Value} {f4 : Addr} {od4 an4 : Option Addr} {sl4 : Array (Option Value)} {oc4 kV4 dc4 pm4 cd4 ct4 : Value} {f5 : Addr} {od5 an5 : Option Addr} {sl5 : Array (Option Value)} {oc5 kV5 dc5 pm5 cd5 ct5 : Value} {f6 : Addr} {od6 an6 : Option Addr} {sl6 : Array (Option Value)} {oc6 kV6 dc6 pm6 cd6 ct6 : Value} {f7 : Addr} {od7 an7 : Option Addr} {sl7 : Array (Option Value)} {oc7 kV7 dc7 pm7 cd7 ct7 : Value} {f8 : Addr} {od8 an8 : Option Addr} {sl8 : Array (Option Value)} {oc8 kV8 dc8 pm8 cd8 ct8 : Value} {f9 : Addr} {od9 an9 : Option Addr} {sl9 : Array (Option Value)} {oc9 kV9 dc9 pm9 cd9 ct9 : Value} {f10 : Addr} {od10 an10 : Option Addr} {sl10 : Array (Option Value)} {oc10 kV10 dc10 pm10 cd10 ct10 : Value} {f11 : Addr} {od11 an11 : Option Addr} {sl11 : Array (Option Value)} {oc11 kV11 dc11 pm11 cd11 ct11 : Value} {f12 : Addr} {od12 an12 : Option Addr} {sl12 : Array (Option Value)} {oc12 kV12 dc12 pm12 cd12 ct12 : Value} {f13 : Addr} {od13 an13 : Option Addr} {sl13 : Array (Option Value)} {oc13 kV13 dc13 pm13 cd13 ct13 : Value} {f14 : Addr} {od14 an14 : Option Addr} {sl14 : Array (Option Value)} {oc14 kV14 dc14 pm14 cd14 ct14 : Value} {f15 : Addr} {od15 an15 : Option Addr} {sl15 : Array (Option Value)} {oc15 kV15 dc15 pm15 cd15 ct15 : Value} {f16 : Addr} {od16 an16 : Option Addr} {sl16 : Array (Option Value)} {oc16 kV16 dc16 pm16 cd16 ct16 : Value} {f17 : Addr} {od17 an17 : Option Addr} {sl17 : Array (Option Value)} {oc17 kV17 dc17 pm17 cd17 ct17 : Value} {f18 : Addr} {od18 an18 : Option Addr} {sl18 : Array (Option Value)} {oc18 kV18 dc18 pm18 cd18 ct18 : Value} {f19 : Addr} {od19 an19 : Option Addr} {sl19 : Array (Option Value)} {oc19 kV19 dc19 pm19 cd19 ct19 : Value} {f20 : Addr} {od20 an20 : Option Addr} {sl20 : Array (Option Value)} {oc20 kV20 dc20 pm20 cd20 ct20 : Value} {f21 : Addr} {od21 an21 : Option Addr} {sl21 : Array (Option Value)} {oc21 kV21 dc21 pm21 cd21 ct21 : Value} {x_fRefused x_ccRefused x_cdRefused x_NRefused : Addr} {x_ocRefused x_dcRefused x_pmRefused x_ctRefused x_clRefused x_cmRefused : Value} {x_odRefused x_anRefused x_cddRefused x_cldRefused x_ddRefused : Option Addr} {x_slRefused x_ccsRefused x_cslRefused : Array (Option Value)} {x_vsRefused : Array Value} {x_fileRefused x_nmRefused x_qRefused : Str} {x_tfRefused : Tok} {x_bsRefused x_bmRefused x_subRefused : List Value} {x_snRefused : List Str} {x_abRefused : Bool} {x_colRefused : Option Bool} {x_k0Refused x_k1Refused x_k2Refused x_k3Refused x_k5Refused : Option Value} {q_tMOST_BOTTOM : Tok} {q_tMOST_BELTS_OF_WAY : Tok}
    (a_Refused : PySem.W.nsIn K mainGlobals "Refused" = some (some (.ref C_Refused)))
    (a0 : PySem.W.nsIn K mainGlobals "is_integer" = some (some (.ref f0)))
    (l0 : K.lookup f0 = some ⟨oc0, od0, .func (PySem.W.fnOf "is_integer" "is_integer" (defArgs s_is_integer) (defBody s_is_integer) (defScope s_is_integer) .none kV0 dc0 pm0 an0 cd0 ct0), sl0⟩)
    (c0 : PySem.W.codeIn K cd0 "is_integer" = true)
    (k0 : PySem.W.keepIn K (.ref f0) = true)
    (a1 : PySem.W.nsIn K mainGlobals "is_number" = some (some (.ref f1)))
    (l1 : K.lookup f1 = some ⟨oc1, od1, .func (PySem.W.fnOf "is_number" "is_number" (defArgs s_is_number) (defBody s_is_number) (defScope s_is_number) (.ref T1) kV1 dc1 pm1 an1 cd1 ct1), sl1⟩)
    (c1 : PySem.W.codeIn K cd1 "is_number" = true)
    (k1 : PySem.W.keepIn K (.ref f1) = true)
    (t1 : K.lookup T1 = some ⟨tc1, td1, .seq #[Value.none] tn1, ts1⟩)
    (a2 : PySem.W.nsIn K mainGlobals "common_divisor" = some (some (.ref f2)))
    (l2 : K.lookup f2 = some ⟨oc2, od2, .func (PySem.W.fnOf "common_divisor" "common_divisor" (defArgs s_common_divisor) (defBody s_common_divisor) (defScope s_common_divisor) .none kV2 dc2 pm2 an2 cd2 ct2), sl2⟩)
    (c2 : PySem.W.codeIn K cd2 "common_divisor" = true)
    (k2 : PySem.W.keepIn K (.ref f2) = true)
    (a3 : PySem.W.nsIn K mainGlobals "is_fraction" = some (some (.ref f3)))
    (l3 : K.lookup f3 = some ⟨oc3, od3, .func (PySem.W.fnOf "is_fraction" "is_fraction" (defArgs s_is_fraction) (defBody s_is_fraction) (defScope s_is_fraction) .none kV3 dc3 pm3 an3 cd3 ct3), sl3⟩)
    (c3 : PySem.W.codeIn K cd3 "is_fraction" = true)
    (k3 : PySem.W.keepIn K (.ref f3) = true)
    (a4 : PySem.W.nsIn K mainGlobals "is_rate" = some (some (.ref f4)))
    (l4 : K.lookup f4 = some ⟨oc4, od4, .func (PySem.W.fnOf "is_rate" "is_rate" (defArgs s_is_rate) (defBody s_is_rate) (defScope s_is_rate) .none kV4 dc4 pm4 an4 cd4 ct4), sl4⟩)
    (c4 : PySem.W.codeIn K cd4 "is_rate" = true)
    (k4 : PySem.W.keepIn K (.ref f4) = true)
    (a5 : PySem.W.nsIn K mainGlobals "need_rate" = some (some (.ref f5)))
    (l5 : K.lookup f5 = some ⟨oc5, od5, .func (PySem.W.fnOf "need_rate" "need_rate" (defArgs s_need_rate) (defBody s_need_rate) (defScope s_need_rate) .none kV5 dc5 pm5 an5 cd5 ct5), sl5⟩)
    (c5 : PySem.W.codeIn K cd5 "need_rate" = true)
    (k5 : PySem.W.keepIn K (.ref f5) = true)
    (a6 : PySem.W.nsIn K mainGlobals "need_numbers" = some (some (.ref f6)))
    (l6 : K.lookup f6 = some ⟨oc6, od6, .func (PySem.W.fnOf "need_numbers" "need_numbers" (defArgs s_need_numbers) (defBody s_need_numbers) (defScope s_need_numbers) .none kV6 dc6 pm6 an6 cd6 ct6), sl6⟩)
    (c6 : PySem.W.codeIn K cd6 "need_numbers" = true)
    (k6 : PySem.W.keepIn K (.ref f6) = true)
    (a7 : PySem.W.nsIn K mainGlobals "is_slow" = some (some (.ref f7)))
    (l7 : K.lookup f7 = some ⟨oc7, od7, .func (PySem.W.fnOf "is_slow" "is_slow" (defArgs s_is_slow) (defBody s_is_slow) (defScope s_is_slow) .none kV7 dc7 pm7 an7 cd7 ct7), sl7⟩)
    (c7 : PySem.W.codeIn K cd7 "is_slow" = true)
    (k7 : PySem.W.keepIn K (.ref f7) = true)
    (a8 : PySem.W.nsIn K mainGlobals "stay_bound" = some (some (.ref f8)))
    (l8 : K.lookup f8 = some ⟨oc8, od8, .func (PySem.W.fnOf "stay_bound" "stay_bound" (defArgs s_stay_bound) (defBody s_stay_bound) (defScope s_stay_bound) .none kV8 dc8 pm8 an8 cd8 ct8), sl8⟩)
    (c8 : PySem.W.codeIn K cd8 "stay_bound" = true)
    (k8 : PySem.W.keepIn K (.ref f8) = true)
    (a9 : PySem.W.nsIn K mainGlobals "trip_bound" = some (some (.ref f9)))
    (l9 : K.lookup f9 = some ⟨oc9, od9, .func (PySem.W.fnOf "trip_bound" "trip_bound" (defArgs s_trip_bound) (defBody s_trip_bound) (defScope s_trip_bound) .none kV9 dc9 pm9 an9 cd9 ct9), sl9⟩)
    (c9 : PySem.W.codeIn K cd9 "trip_bound" = true)
    (k9 : PySem.W.keepIn K (.ref f9) = true)
    (a10 : PySem.W.nsIn K mainGlobals "wait_bound" = some (some (.ref f10)))
    (l10 : K.lookup f10 = some ⟨oc10, od10, .func (PySem.W.fnOf "wait_bound" "wait_bound" (defArgs s_wait_bound) (defBody s_wait_bound) (defScope s_wait_bound) .none kV10 dc10 pm10 an10 cd10 ct10), sl10⟩)
    (c10 : PySem.W.codeIn K cd10 "wait_bound" = true)
    (k10 : PySem.W.keepIn K (.ref f10) = true)
    (a11 : PySem.W.nsIn K mainGlobals "_law_take" = some (some (.ref f11)))
    (l11 : K.lookup f11 = some ⟨oc11, od11, .func (PySem.W.fnOf "_law_take" "_law_take" (defArgs s__law_take) (defBody s__law_take) (defScope s__law_take) .none kV11 dc11 pm11 an11 cd11 ct11), sl11⟩)
    (c11 : PySem.W.codeIn K cd11 "_law_take" = true)
    (k11 : PySem.W.keepIn K (.ref f11) = true)
    (a12 : PySem.W.nsIn K mainGlobals "_law_pick" = some (some (.ref f12)))
    (l12 : K.lookup f12 = some ⟨oc12, od12, .func (PySem.W.fnOf "_law_pick" "_law_pick" (defArgs s__law_pick) (defBody s__law_pick) (defScope s__law_pick) .none kV12 dc12 pm12 an12 cd12 ct12), sl12⟩)
    (c12 : PySem.W.codeIn K cd12 "_law_pick" = true)
    (k12 : PySem.W.keepIn K (.ref f12) = true)
    (a13 : PySem.W.nsIn K mainGlobals "_law_box" = some (some (.ref f13)))
    (l13 : K.lookup f13 = some ⟨oc13, od13, .func (PySem.W.fnOf "_law_box" "_law_box" (defArgs s__law_box) (defBody s__law_box) (defScope s__law_box) .none kV13 dc13 pm13 an13 cd13 ct13), sl13⟩)
    (c13 : PySem.W.codeIn K cd13 "_law_box" = true)
    (k13 : PySem.W.keepIn K (.ref f13) = true)
    (a14 : PySem.W.nsIn K mainGlobals "_law_web" = some (some (.ref f14)))
    (l14 : K.lookup f14 = some ⟨oc14, od14, .func (PySem.W.fnOf "_law_web" "_law_web" (defArgs s__law_web) (defBody s__law_web) (defScope s__law_web) .none kV14 dc14 pm14 an14 cd14 ct14), sl14⟩)
    (c14 : PySem.W.codeIn K cd14 "_law_web" = true)
    (k14 : PySem.W.keepIn K (.ref f14) = true)
    (a15 : PySem.W.nsIn K mainGlobals "_law_turns" = some (some (.ref f15)))
    (l15 : K.lookup f15 = some ⟨oc15, od15, .func (PySem.W.fnOf "_law_turns" "_law_turns" (defArgs s__law_turns) (defBody s__law_turns) (defScope s__law_turns) .none kV15 dc15 pm15 an15 cd15 ct15), sl15⟩)
    (c15 : PySem.W.codeIn K cd15 "_law_turns" = true)
    (k15 : PySem.W.keepIn K (.ref f15) = true)
    (a16 : PySem.W.nsIn K mainGlobals "_law_ways" = some (some (.ref f16)))
    (l16 : K.lookup f16 = some ⟨oc16, od16, .func (PySem.W.fnOf "_law_ways" "_law_ways" (defArgs s__law_ways) (defBody s__law_ways) (defScope s__law_ways) .none kV16 dc16 pm16 an16 cd16 ct16), sl16⟩)
    (c16 : PySem.W.codeIn K cd16 "_law_ways" = true)
    (k16 : PySem.W.keepIn K (.ref f16) = true)
    (a17 : PySem.W.nsIn K mainGlobals "_law_rate" = some (some (.ref f17)))
    (l17 : K.lookup f17 = some ⟨oc17, od17, .func (PySem.W.fnOf "_law_rate" "_law_rate" (defArgs s__law_rate) (defBody s__law_rate) (defScope s__law_rate) .none kV17 dc17 pm17 an17 cd17 ct17), sl17⟩)
    (c17 : PySem.W.codeIn K cd17 "_law_rate" = true)
    (k17 : PySem.W.keepIn K (.ref f17) = true)
    (a18 : PySem.W.nsIn K mainGlobals "_law_room" = some (some (.ref f18)))
    (l18 : K.lookup f18 = some ⟨oc18, od18, .func (PySem.W.fnOf "_law_room" "_law_room" (defArgs s__law_room) (defBody s__law_room) (defScope s__law_room) .none kV18 dc18 pm18 an18 cd18 ct18), sl18⟩)
    (c18 : PySem.W.codeIn K cd18 "_law_room" = true)
    (k18 : PySem.W.keepIn K (.ref f18) = true)
    (a19 : PySem.W.nsIn K mainGlobals "_law_going" = some (some (.ref f19)))
    (l19 : K.lookup f19 = some ⟨oc19, od19, .func (PySem.W.fnOf "_law_going" "_law_going" (defArgs s__law_going) (defBody s__law_going) (defScope s__law_going) .none kV19 dc19 pm19 an19 cd19 ct19), sl19⟩)
    (c19 : PySem.W.codeIn K cd19 "_law_going" = true)
    (k19 : PySem.W.keepIn K (.ref f19) = true)
    (a20 : PySem.W.nsIn K mainGlobals "_law_played" = some (some (.ref f20)))
    (l20 : K.lookup f20 = some ⟨oc20, od20, .func (PySem.W.fnOf "_law_played" "_law_played" (defArgs s__law_played) (defBody s__law_played) (defScope s__law_played) .none kV20 dc20 pm20 an20 cd20 ct20), sl20⟩)
    (c20 : PySem.W.codeIn K cd20 "_law_played" = true)
    (k20 : PySem.W.keepIn K (.ref f20) = true)
    (a21 : PySem.W.nsIn K mainGlobals "law" = some (some (.ref f21)))
    (l21 : K.lookup f21 = some ⟨oc21, od21, .func (PySem.W.fnOf "law" "law" (defArgs s_law) (defBody s_law) (defScope s_law) .none kV21 dc21 pm21 an21 cd21 ct21), sl21⟩)
    (c21 : PySem.W.codeIn K cd21 "law" = true)
    (k21 : PySem.W.keepIn K (.ref f21) = true)
    (z_super : PySem.W.nsIn K mainGlobals "super" = some none)
    (z_tpany : PySem.W.nsIn K cStatics "thirdparty.any" = some none)
    (z_top : (l.prog.main.scope.names.lookup ("super" : Str)).isSome = false)
    (x_hn : PySem.W.specialIn K (.builtin "object.__class__") "__get__" = some (some (.builtin "getset_descriptor.__get__")))
    (x_ht : PySem.W.takesIn K (.builtin "object.__class__") = some true)
    (xi_Refused : PySem.W.findIn K (.ref C_Refused) "__init__" = some (some (.ref x_fRefused)))
    (xl_Refused : K.lookup x_fRefused = some ⟨x_ocRefused, x_odRefused, .func (PySem.W.ksFn "__init__" "Refused.__init__" (defArgs s_Refused_init) (defBody s_Refused_init) (defScope s_Refused_init) .none .none x_dcRefused x_pmRefused x_anRefused (.ref x_cdRefused) x_ctRefused x_ccRefused), x_slRefused⟩)
    (xc_Refused : PySem.W.codeIn K (.ref x_cdRefused) "Refused.__init__" = true)
    (xd_Refused : K.lookup x_cdRefused = some ⟨x_clRefused, x_cddRefused, .fields x_vsRefused, x_ccsRefused⟩)
    (xv_Refused : x_vsRefused[2]? = some (.str x_fileRefused x_tfRefused))
    (xw_Refused : ((l.prog.main.file : Str) == x_fileRefused) = true)
    (xx_Refused : K.lookup x_ccRefused = some ⟨x_cmRefused, x_cldRefused, .cell (some (.ref C_Refused)), x_cslRefused⟩)
    (xt_Refused : PySem.W.typeIn K (.ref x_fRefused) = some (.type "function"))
    (xu_Refused : PySem.W.ks_superIn K C_Refused C_Refused "__init__" = some (some (.builtin "ValueError.__init__")))
    (xb_Refused : PySem.W.subIn K (.ref C_Refused) (.type "ValueError") = some true)
    (xm_Refused : PySem.W.mroIn K C_Refused (.ref C_Refused) = some true)
    (xn_Refused : PySem.W.findIn K (.ref C_Refused) "at" = some none)
    (xK_Refused : K.lookup C_Refused = some (excClassObj x_nmRefused x_qRefused C_Refused x_NRefused x_bsRefused x_bmRefused true x_snRefused x_subRefused x_abRefused x_colRefused x_ddRefused x_k0Refused x_k1Refused x_k2Refused x_k3Refused x_k5Refused "ValueError.__new__"))
    (xr_Refused : PySem.HandSPX.refsVE x_bmRefused = true)
    (xs_Refused : PySem.W.findIn K (.ref C_Refused) "__setattr__" = some (some (.builtin "object.__setattr__")))
    (xe_Refused : PySem.W.subIn K (.ref C_Refused) (.type "BaseException") = some true)
    (xy_Refused : PySem.W.typeIn K (.ref C_Refused) = some (.type "type"))
    (xk_Refused : PySem.W.keepIn K (.ref C_Refused) = true)
    (xh_Refused : PySem.W.hasDictIn K C_Refused = true)
    (xg_Refused : PySem.W.findIn K (.ref C_Refused) "__getattribute__" = some (some (.builtin "BaseException.__getattribute__")))
    (xG_Refused : PySem.W.findIn K (.ref C_Refused) "__getattr__" = some none)
    (xa_Refused : PySem.W.findIn K (.ref C_Refused) "__class__" = some (some (.builtin "object.__class__")))
    (xo_Refused : PySem.W.mroIn K C_Refused (.type "object") = some true)
    (q_MOST_BOTTOM : PySem.W.nsIn K mainGlobals "MOST_BOTTOM" = some (some (.int (1000) q_tMOST_BOTTOM)))
    (q_MOST_BELTS_OF_WAY : PySem.W.nsIn K mainGlobals "MOST_BELTS_OF_WAY" = some (some (.int (60) q_tMOST_BELTS_OF_WAY)))
    (z_isinstance : PySem.W.nsIn K mainGlobals "isinstance" = some none)
    (z_int : PySem.W.nsIn K mainGlobals "int" = some none)
    (z_bool : PySem.W.nsIn K mainGlobals "bool" = some none)
    (z_tuple : PySem.W.nsIn K mainGlobals "tuple" = some none)
    (z_len : PySem.W.nsIn K mainGlobals "len" = some none)
    (z_all : PySem.W.nsIn K mainGlobals "all" = some none)
    (z_abs : PySem.W.nsIn K mainGlobals "abs" = some none)
    (z_range : PySem.W.nsIn K mainGlobals "range" = some none)
    (z_max : PySem.W.nsIn K mainGlobals "max" = some none)
    (z_min : PySem.W.nsIn K mainGlobals "min" = some none)
    (z_any : PySem.W.nsIn K mainGlobals "any" = some none)
    : ∃ fd : FuncData, (∀ (s : Shared) (v : Value), BindsTo s fd ⟨[v], []⟩ [("script", v)]) ∧ ∀ base : Heap, K.In base → base.Ns mainGlobals mg → FnOk l.prog w K mg base (L2N.CX l.prog w) 14 fa fd ["script"] (conc K Bx.no aspLaw) := by
  have e := hfa.symm.trans (PySem.W.mg_of X G a21)
  cases e
  have F0 := fun_mk (st := s_is_integer) l0 c0 k0
  have b0 := F0.binds (ps := ["value"]) fun _ _ _ _ _ _ us hl => match us, hl with | [_], _ => rfl
  have F1 : FunD K "is_number" "is_number" (defArgs s_is_number) (defBody s_is_number) (defScope s_is_number) [V.non] [] _ _ := ⟨⟨_, _, _, _, _, _, _, _, _, _, rfl, l1, c1, .inr ⟨by decide, _, _, [Value.none], _, rfl, t1, rfl, (.cons rfl .nil)⟩, .inl rfl⟩, k1⟩
  obtain ⟨e1, ve1, b1⟩ := FunD.binds1 (ps := ["value", "most"]) F1 2 1 (by decide) rfl fun _ _ _ _ _ _ _ us its hu hi => match us, its, hu, hi with | [_, _], [_], _, _ => ⟨_, rfl, rfl⟩
  cases ve1
  obtain ⟨D0_1, v0_1, b0_1⟩ := FunD.binds1 (ps := ["value", "most"]) F1 1 0 (by decide) rfl fun _ _ _ _ _ _ _ us its hu hi => match us, its, hu, hi with | [_], [_], _, _ => ⟨_, rfl, rfl⟩
  have F2 := fun_mk (st := s_common_divisor) l2 c2 k2
  have b2 := F2.binds (ps := ["one", "other"]) fun _ _ _ _ _ _ us hl => match us, hl with | [_, _], _ => rfl
  have F3 := fun_mk (st := s_is_fraction) l3 c3 k3
  have b3 := F3.binds (ps := ["value"]) fun _ _ _ _ _ _ us hl => match us, hl with | [_], _ => rfl
  have F4 := fun_mk (st := s_is_rate) l4 c4 k4
  have b4 := F4.binds (ps := ["value"]) fun _ _ _ _ _ _ us hl => match us, hl with | [_], _ => rfl
  have F5 := fun_mk (st := s_need_rate) l5 c5 k5
  have b5 := F5.binds (ps := ["rate"]) fun _ _ _ _ _ _ us hl => match us, hl with | [_], _ => rfl
  have F6 := fun_mk (st := s_need_numbers) l6 c6 k6
  have b6 := F6.binds (ps := ["rate", "burst", "d"]) fun _ _ _ _ _ _ us hl => match us, hl with | [_, _, _], _ => rfl
  have F7 := fun_mk (st := s_is_slow) l7 c7 k7
  have b7 := F7.binds (ps := ["rate", "d"]) fun _ _ _ _ _ _ us hl => match us, hl with | [_, _], _ => rfl
  have F8 := fun_mk (st := s_stay_bound) l8 c8 k8
  have b8 := F8.binds (ps := ["rate", "burst", "d"]) fun _ _ _ _ _ _ us hl => match us, hl with | [_, _, _], _ => rfl
  have F9 := fun_mk (st := s_trip_bound) l9 c9 k9
  have b9 := F9.binds (ps := ["rate", "burst", "d"]) fun _ _ _ _ _ _ us hl => match us, hl with | [_, _, _], _ => rfl
  have F10 := fun_mk (st := s_wait_bound) l10 c10 k10
  have b10 := F10.binds (ps := ["rate", "burst", "d"]) fun _ _ _ _ _ _ us hl => match us, hl with | [_, _, _], _ => rfl
  have F11 := fun_mk (st := s__law_take) l11 c11 k11
  have b11 := F11.binds (ps := ["box", "many"]) fun _ _ _ _ _ _ us hl => match us, hl with | [_, _], _ => rfl
  have F12 := fun_mk (st := s__law_pick) l12 c12 k12
  have b12 := F12.binds (ps := ["box", "some"]) fun _ _ _ _ _ _ us hl => match us, hl with | [_, _], _ => rfl
  have F13 := fun_mk (st := s__law_box) l13 c13 k13
  have b13 := F13.binds (ps := ["script", "k"]) fun _ _ _ _ _ _ us hl => match us, hl with | [_, _], _ => rfl
  have F14 := fun_mk (st := s__law_web) l14 c14 k14
  have b14 := F14.binds (ps := ["box", "most", "many"]) fun _ _ _ _ _ _ us hl => match us, hl with | [_, _, _], _ => rfl
  have F15 := fun_mk (st := s__law_turns) l15 c15 k15
  have b15 := F15.binds (ps := ["belts"]) fun _ _ _ _ _ _ us hl => match us, hl with | [_], _ => rfl
  have F16 := fun_mk (st := s__law_ways) l16 c16 k16
  have b16 := F16.binds (ps := ["box", "belts"]) fun _ _ _ _ _ _ us hl => match us, hl with | [_, _], _ => rfl
  have F17 := fun_mk (st := s__law_rate) l17 c17 k17
  have b17 := F17.binds (ps := ["box", "d"]) fun _ _ _ _ _ _ us hl => match us, hl with | [_, _], _ => rfl
  have F18 := fun_mk (st := s__law_room) l18 c18 k18
  have b18 := F18.binds (ps := ["levels", "rate", "burst", "way"]) fun _ _ _ _ _ _ us hl => match us, hl with | [_, _, _, _], _ => rfl
  have F19 := fun_mk (st := s__law_going) l19 c19 k19
  have b19 := F19.binds (ps := ["box", "rule", "queue", "stays", "owed"]) fun _ _ _ _ _ _ us hl => match us, hl with | [_, _, _, _, _], _ => rfl
  have F20 := fun_mk (st := s__law_played) l20 c20 k20
  have b20 := F20.binds (ps := ["box", "belts", "ways", "d", "beats"]) fun _ _ _ _ _ _ us hl => match us, hl with | [_, _, _, _, _], _ => rfl
  have F21 := fun_mk (st := s_law) l21 c21 k21
  have b21 := F21.binds (ps := ["script"]) fun _ _ _ _ _ _ us hl => match us, hl with | [_], _ => rfl
  have X_Refused : XCls K l.prog C_Refused x_fRefused := ⟨⟨_, _, _, defScope s_Refused_init, _, ⟨"self", none, ⟨0, 0, 0, 0⟩⟩, ⟨"at", none, ⟨0, 0, 0, 0⟩⟩, _, _, _, _, _, _, _, _, _, _, _, _, _, _, _, _, _, _, _, _, _, _, _, _, _, _, _, _, _, fun _ => _, xl_Refused, xc_Refused, rfl, rfl, fun _ => rfl, xd_Refused, xv_Refused, xw_Refused, xx_Refused, by decide +kernel, rfl, rfl, rfl, by decide +kernel, by decide +kernel, by decide +kernel, by decide +kernel⟩, xi_Refused, xt_Refused, z_top, z_super, z_tpany, xu_Refused, xb_Refused, xm_Refused, xn_Refused, ⟨⟨_, _, _, _, _, _, _, _, _, _, _, _, _, _, _, xK_Refused, xr_Refused⟩, xs_Refused, xe_Refused, xy_Refused, xk_Refused⟩, xh_Refused, xg_Refused, xG_Refused⟩
  let T : Top l.prog K mg := { C_Refused := _, g_Refused := PySem.W.mg_of X G a_Refused, f_is_integer := _, d_is_integer := _, F_is_integer := F0, b_is_integer := b0, g_is_integer := PySem.W.mg_of X G a0, D0_is_number := D0_1, v0_is_number := v0_1, b0_is_number := b0_1, f_is_number := _, d_is_number := _, F_is_number := F1, b_is_number := b1, g_is_number := PySem.W.mg_of X G a1, f_common_divisor := _, d_common_divisor := _, F_common_divisor := F2, b_common_divisor := b2, g_common_divisor := PySem.W.mg_of X G a2, f_is_fraction := _, d_is_fraction := _, F_is_fraction := F3, b_is_fraction := b3, g_is_fraction := PySem.W.mg_of X G a3, f_is_rate := _, d_is_rate := _, F_is_rate := F4, b_is_rate := b4, g_is_rate := PySem.W.mg_of X G a4, f_need_rate := _, d_need_rate := _, F_need_rate := F5, b_need_rate := b5, g_need_rate := PySem.W.mg_of X G a5, f_need_numbers := _, d_need_numbers := _, F_need_numbers := F6, b_need_numbers := b6, g_need_numbers := PySem.W.mg_of X G a6, f_is_slow := _, d_is_slow := _, F_is_slow := F7, b_is_slow := b7, g_is_slow := PySem.W.mg_of X G a7, f_stay_bound := _, d_stay_bound := _, F_stay_bound := F8, b_stay_bound := b8, g_stay_bound := PySem.W.mg_of X G a8, f_trip_bound := _, d_trip_bound := _, F_trip_bound := F9, b_trip_bound := b9, g_trip_bound := PySem.W.mg_of X G a9, f_wait_bound := _, d_wait_bound := _, F_wait_bound := F10, b_wait_bound := b10, g_wait_bound := PySem.W.mg_of X G a10, f__law_take := _, d__law_take := _, F__law_take := F11, b__law_take := b11, g__law_take := PySem.W.mg_of X G a11, f__law_pick := _, d__law_pick := _, F__law_pick := F12, b__law_pick := b12, g__law_pick := PySem.W.mg_of X G a12, f__law_box := _, d__law_box := _, F__law_box := F13, b__law_box := b13, g__law_box := PySem.W.mg_of X G a13, f__law_web := _, d__law_web := _, F__law_web := F14, b__law_web := b14, g__law_web := PySem.W.mg_of X G a14, f__law_turns := _, d__law_turns := _, F__law_turns := F15, b__law_turns := b15, g__law_turns := PySem.W.mg_of X G a15, f__law_ways := _, d__law_ways := _, F__law_ways := F16, b__law_ways := b16, g__law_ways := PySem.W.mg_of X G a16, f__law_rate := _, d__law_rate := _, F__law_rate := F17, b__law_rate := b17, g__law_rate := PySem.W.mg_of X G a17, f__law_room := _, d__law_room := _, F__law_room := F18, b__law_room := b18, g__law_room := PySem.W.mg_of X G a18, f__law_going := _, d__law_going := _, F__law_going := F19, b__law_going := b19, g__law_going := PySem.W.mg_of X G a19, f__law_played := _, d__law_played := _, F__law_played := F20, b__law_played := b20, g__law_played := PySem.W.mg_of X G a20, f_law := _, d_law := _, F_law := F21, b_law := b21, g_law := PySem.W.mg_of X G a21, n_super := PySem.W.mg_none_of X G z_super, f_Refused_init := _, X_Refused := X_Refused, I_Refused := ⟨xg_Refused, xG_Refused, xe_Refused, xh_Refused, xa_Refused, x_hn, x_ht, xo_Refused⟩, t_MOST_BOTTOM := _, c_MOST_BOTTOM := PySem.W.mg_of X G q_MOST_BOTTOM, t_MOST_BELTS_OF_WAY := _, c_MOST_BELTS_OF_WAY := PySem.W.mg_of X G q_MOST_BELTS_OF_WAY, z_isinstance := PySem.W.mg_none_of X G z_isinstance, z_int := PySem.W.mg_none_of X G z_int, z_bool := PySem.W.mg_none_of X G z_bool, z_tuple := PySem.W.mg_none_of X G z_tuple, z_len := PySem.W.mg_none_of X G z_len, z_all := PySem.W.mg_none_of X G z_all, z_abs := PySem.W.mg_none_of X G z_abs, z_range := PySem.W.mg_none_of X G z_range, z_max := PySem.W.mg_none_of X G z_max, z_min := PySem.W.mg_none_of X G z_min, z_any := PySem.W.mg_none_of X G z_any }
  exact ⟨_, fun s v => .of_eq rfl, fun base _ _ => ok_law T⟩
end K55
open PySem PySem.W PyProof.Rows
set_option maxHeartbeats 0 in
theorem PySem.Challenge.cw_evergreedy_k55_whole_slow_feeders_in_any_holds : PySem.Challenge.rw_evergreedy_k55_whole_slow_feeders_in_any.Holds := by
  w_on; o_law; k_head; (case hw => w_witness2)
  k_fill
  refine L2.walk_of (l := PySem.Challenge.rw_evergreedy_k55_whole_slow_feeders_in_any) (n := 63) (k := 14) (x := "script") (CX := fun w => L2N.CX PySem.Challenge.rw_evergreedy_k55_whole_slow_feeders_in_any.prog w) (sp := fun w => DL.conc _ DL.Bx.no DL.aspLaw) rfl (by decide) rfl ⟨rfl, by decide, by decide⟩ (fun w h Y => PySem.W.kIn_of Y) ?F (fun _ _ a ns hl _ hS => DL.law_conc hl hS) (fun _ _ _ _ _ h => DL.law_calm h)
  case F =>
    intro w mg fa h KX G hmg
    refine' K55.all_mk KX G hmg ?a_Refused ?a0 ?l0 ?c0 ?k0 ?a1 ?l1 ?c1 ?k1 ?t1 ?a2 ?l2 ?c2 ?k2 ?a3 ?l3 ?c3 ?k3 ?a4 ?l4 ?c4 ?k4 ?a5 ?l5 ?c5 ?k5 ?a6 ?l6 ?c6 ?k6 ?a7 ?l7 ?c7 ?k7 ?a8 ?l8 ?c8 ?k8 ?a9 ?l9 ?c9 ?k9 ?a10 ?l10 ?c10 ?k10 ?a11 ?l11 ?c11 ?k11 ?a12 ?l12 ?c12 ?k12 ?a13 ?l13 ?c13 ?k13 ?a14 ?l14 ?c14 ?k14 ?a15 ?l15 ?c15 ?k15 ?a16 ?l16 ?c16 ?k16 ?a17 ?l17 ?c17 ?k17 ?a18 ?l18 ?c18 ?k18 ?a19 ?l19 ?c19 ?k19 ?a20 ?l20 ?c20 ?k20 ?a21 ?l21 ?c21 ?k21 ?z_super ?z_tpany ?z_top ?x_hn ?x_ht ?xi_Refused ?xl_Refused ?xc_Refused ?xd_Refused ?xv_Refused ?xw_Refused ?xx_Refused ?xt_Refused ?xu_Refused ?xb_Refused ?xm_Refused ?xn_Refused ?xK_Refused ?xr_Refused ?xs_Refused ?xe_Refused ?xy_Refused ?xk_Refused ?xh_Refused ?xg_Refused ?xG_Refused ?xa_Refused ?xo_Refused ?q_MOST_BOTTOM ?q_MOST_BELTS_OF_WAY ?z_isinstance ?z_int ?z_bool ?z_tuple ?z_len ?z_all ?z_abs ?z_range ?z_max ?z_min ?z_any
    (case a_Refused => k_is); (case a0 => k_is); (case l0 => k_is); (case c0 => k_is); (case k0 => k_is); (case a1 => k_is); (case l1 => k_is); (case c1 => k_is); (case k1 => k_is); (case t1 => k_is); (case a2 => k_is); (case l2 => k_is); (case c2 => k_is); (case k2 => k_is); (case a3 => k_is); (case l3 => k_is); (case c3 => k_is); (case k3 => k_is); (case a4 => k_is); (case l4 => k_is); (case c4 => k_is); (case k4 => k_is); (case a5 => k_is); (case l5 => k_is); (case c5 => k_is); (case k5 => k_is); (case a6 => k_is); (case l6 => k_is); (case c6 => k_is); (case k6 => k_is); (case a7 => k_is); (case l7 => k_is); (case c7 => k_is); (case k7 => k_is); (case a8 => k_is); (case l8 => k_is); (case c8 => k_is); (case k8 => k_is); (case a9 => k_is); (case l9 => k_is); (case c9 => k_is); (case k9 => k_is); (case a10 => k_is); (case l10 => k_is); (case c10 => k_is); (case k10 => k_is); (case a11 => k_is); (case l11 => k_is); (case c11 => k_is); (case k11 => k_is); (case a12 => k_is); (case l12 => k_is); (case c12 => k_is); (case k12 => k_is); (case a13 => k_is); (case l13 => k_is); (case c13 => k_is); (case k13 => k_is); (case a14 => k_is); (case l14 => k_is); (case c14 => k_is); (case k14 => k_is); (case a15 => k_is); (case l15 => k_is); (case c15 => k_is); (case k15 => k_is); (case a16 => k_is); (case l16 => k_is); (case c16 => k_is); (case k16 => k_is); (case a17 => k_is); (case l17 => k_is); (case c17 => k_is); (case k17 => k_is); (case a18 => k_is); (case l18 => k_is); (case c18 => k_is); (case k18 => k_is); (case a19 => k_is); (case l19 => k_is); (case c19 => k_is); (case k19 => k_is); (case a20 => k_is); (case l20 => k_is); (case c20 => k_is); (case k20 => k_is); (case a21 => k_is); (case l21 => k_is); (case c21 => k_is); (case k21 => k_is); (case z_super => k_is); (case z_tpany => k_is); (case z_top => rfl); (case x_hn => k_is); (case x_ht => k_is); (case xi_Refused => k_is); (case xl_Refused => k_is); (case xc_Refused => k_is); (case xd_Refused => k_is); (case xv_Refused => rfl); (case xw_Refused => decide +kernel); (case xx_Refused => k_is); (case xt_Refused => k_is); (case xu_Refused => ks_is); (case xb_Refused => k_is); (case xm_Refused => k_is); (case xn_Refused => k_is); (case xK_Refused => k_is); (case xr_Refused => rfl); (case xs_Refused => k_is); (case xe_Refused => k_is); (case xy_Refused => k_is); (case xk_Refused => k_is); (case xh_Refused => k_is); (case xg_Refused => k_is); (case xG_Refused => k_is); (case xa_Refused => k_is); (case xo_Refused => k_is); (case q_MOST_BOTTOM => k_is); (case q_MOST_BELTS_OF_WAY => k_is); (case z_isinstance => k_is); (case z_int => k_is); (case z_bool => k_is); (case z_tuple => k_is); (case z_len => k_is); (case z_all => k_is); (case z_abs => k_is); (case z_range => k_is); (case z_max => k_is); (case z_min => k_is); (case z_any => k_is)
