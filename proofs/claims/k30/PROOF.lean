import PyProof.Rows.All
import Wide.All
import OpenK.AllK
import Wide.FinOn
import HandS.ForMost
import HandS.ForExc
import HandS.Wide
import HandS.Style
import HandS.Flow
import HandS.IsInst
import HandS.Conv
import HandS.Defaults
import HandS.Walk
import HandS.CallSlots
import HandS.Zip
import HandS.ExcCtx
import KE.KExcSuper
import HandS.ExcInit
import HandS.ExcField
import HandS.ExcIs
import HandS.TryMany
import HandS.TryOnly
import KE.GoesEnum
import HandS.TupAny
import HandS.TupMul
import HandS.RevTup
import HandS.More
import HandS.HotCalls
import HandS.Lambda
import HandS.EndTab
import KE.KNest
import HandS.Deep
import HandS.SortRule
import HandS.SetFor
import PySem.Challenge.RW_evergreedy_k30_whole_thetas_as_forms
set_option Elab.async false
set_option linter.all false
set_option maxRecDepth 100000
set_option maxHeartbeats 2000000
/-! DL: data-level judgements over HandS. -/
namespace DL
open PySem L2

/-- what a value is, read through the heap -/
inductive D where
  | non
  | bl (b : Bool)
  | int (i : Int)
  | str (x : Str)
  | ty (n : String)
  | ref (a : Addr)
  | tup (xs : List D)
  | lst (xs : List D)
  | ins (C : Addr) (ns : List Str) (xs : List D)
  /-- a caught exception: at a, of the class at C, its dict at dd -/
  | xc (a dd C : Addr) (x : D)

/-- what is said of a datum of a kind -/
def onSlot (o : Option (Option D)) (k : D → Prop) : Prop := match o with
  | some (some d) => k d
  | _ => False
def onD (o : Option D) (k : D → Prop) : Prop := match o with
  | some d => k d
  | none => False
theorem onSlot_ss {d : D} {k : D → Prop} : onSlot (some (some d)) k = k d := rfl
theorem onD_s {d : D} {k : D → Prop} : onD (some d) k = k d := rfl
mutual
inductive Is (K : PySem.W.Frag) (F : Hp) : V → D → Prop
  | non : Is K F .non .non
  | bl (b : Bool) : Is K F (.bl b) (.bl b)
  | int (i : Int) : Is K F (.int i) (.int i)
  | str (x : Str) : Is K F (.str x) (.str x)
  | ty (n : String) : Is K F (.ty n) (.ty n)
  | ref (a : Addr) : Is K F (.ref a) (.ref a)
  | tup {a : Addr} {vs : List V} {ds : List D} : SqT K F a vs → IsL K F vs ds → Is K F (.ref a) (.tup ds)
  | lst {a : Addr} {vs : List V} {ds : List D} : SqL K F a vs → IsL K F vs ds → Is K F (.ref a) (.lst ds)
  | ins {a C dx : Addr} {fs : List (Str × V)} {ds : List D} : F a = some (.ins C dx fs) → IsL K F (fs.map (·.2)) ds → Is K F (.ref a) (.ins C (fs.map (·.1)) ds)
  | xc {a dd C : Addr} {v : V} {x : D} : F dd = some (.xd [("at", v)]) → Is K F v x → Is K F (.ref a) (.xc a dd C x)
inductive IsL (K : PySem.W.Frag) (F : Hp) : List V → List D → Prop
  | nil : IsL K F [] []
  | cons {v : V} {vs : List V} {d : D} {ds : List D} : Is K F v d → IsL K F vs ds → IsL K F (v :: vs) (d :: ds)
end

theorem same_t {K : PySem.W.Frag} {F F' : Hp} {a : Addr} {xs : List V} (e : Same F F') (h : SqT K F a xs) : SqT K F' a xs := by
  rcases h with (h | ⟨o, h⟩) | h
  · exact .inl (.inl (e _ _ h))
  · exact .inl (.inr ⟨o, e _ _ h⟩)
  · exact .inr h
mutual
theorem Is.mono {K : PySem.W.Frag} {F F' : Hp} (e : Same F F') : ∀ {v : V} {d : D}, Is K F v d → Is K F' v d
  | _, _, .non => .non
  | _, _, .bl b => .bl b
  | _, _, .int i => .int i
  | _, _, .str x => .str x
  | _, _, .ty n => .ty n
  | _, _, .ref a => .ref a
  | _, _, .tup h l => .tup (same_t e h) (IsL.mono e l)
  | _, _, .lst h l => .lst (e.seq h) (IsL.mono e l)
  | _, _, .ins h l => .ins (e _ _ h) (IsL.mono e l)
  | _, _, .xc h i => .xc (e _ _ h) (Is.mono e i)
theorem IsL.mono {K : PySem.W.Frag} {F F' : Hp} (e : Same F F') : ∀ {vs : List V} {ds : List D}, IsL K F vs ds → IsL K F' vs ds
  | _, _, .nil => .nil
  | _, _, .cons h l => .cons (Is.mono e h) (IsL.mono e l)
end
section
variable {K : PySem.W.Frag} {F : Hp}
theorem IsL.length : ∀ {vs : List V} {ds : List D}, IsL K F vs ds → vs.length = ds.length
  | _, _, .nil => rfl
  | _, _, .cons _ l => congrArg (· + 1) (IsL.length l)
theorem IsL.get : ∀ {vs : List V} {ds : List D} {i : Nat} {d : D}, IsL K F vs ds → ds[i]? = some d → ∃ v, vs[i]? = some v ∧ Is K F v d
  | _, _, _, _, .nil, e => by simp at e
  | _, _, 0, _, .cons h _, e => by
    simp at e
    subst e
    exact ⟨_, rfl, h⟩
  | _, _, i + 1, d, .cons _ t, e => by
    obtain ⟨v, h1, h2⟩ := IsL.get (i := i) (d := d) t (by simpa using e)
    exact ⟨v, by simpa using h1, h2⟩
theorem IsL.getV : ∀ {vs : List V} {ds : List D} {i : Nat} {v : V}, IsL K F vs ds → vs[i]? = some v → ∃ d, ds[i]? = some d ∧ Is K F v d
  | _, _, _, _, .nil, e => by simp at e
  | _, _, 0, _, .cons h _, e => by
    simp at e
    subst e
    exact ⟨_, rfl, h⟩
  | _, _, i + 1, d, .cons _ t, e => by
    obtain ⟨v, h1, h2⟩ := IsL.getV (i := i) (v := d) t (by simpa using e)
    exact ⟨v, by simpa using h1, h2⟩
theorem IsL.append : ∀ {vs ws : List V} {ds es : List D}, IsL K F vs ds → IsL K F ws es → IsL K F (vs ++ ws) (ds ++ es)
  | _, _, _, _, .nil, h => h
  | _, _, _, _, .cons h l, k => .cons h (IsL.append l k)
theorem IsL.take : ∀ {vs : List V} {ds : List D} (n : Nat), IsL K F vs ds → IsL K F (vs.take n) (ds.take n)
  | _, _, 0, _ => .nil
  | _, _, _ + 1, .nil => .nil
  | _, _, n + 1, .cons h l => .cons h (IsL.take n l)
theorem IsL.drop : ∀ {vs : List V} {ds : List D} (n : Nat), IsL K F vs ds → IsL K F (vs.drop n) (ds.drop n)
  | _, _, 0, h => h
  | _, _, _ + 1, .nil => .nil
  | _, _, n + 1, .cons _ l => IsL.drop n l
theorem IsL.reverse {vs : List V} {ds : List D} (h : IsL K F vs ds) : IsL K F vs.reverse ds.reverse := by
  induction vs generalizing ds with
  | nil =>
    cases h
    exact .nil
  | cons v vs ih =>
    cases h with
    | cons h l =>
      rw [List.reverse_cons, List.reverse_cons]
      exact (ih l).append (.cons h .nil)
theorem IsL.set {v : V} {d : D} (h : Is K F v d) : ∀ {vs : List V} {ds : List D} (i : Nat), IsL K F vs ds → IsL K F (vs.set i v) (ds.set i d)
  | _, _, _, .nil => .nil
  | _, _, 0, .cons _ l => .cons h l
  | _, _, i + 1, .cons k l => .cons k (IsL.set h i l)
theorem IsL.eraseIdx : ∀ {vs : List V} {ds : List D} (i : Nat), IsL K F vs ds → IsL K F (vs.eraseIdx i) (ds.eraseIdx i)
  | _, _, _, .nil => .nil
  | _, _, 0, .cons _ l => l
  | _, _, i + 1, .cons k l => .cons k (IsL.eraseIdx i l)
theorem IsL.dropLast : ∀ {vs : List V} {ds : List D}, IsL K F vs ds → IsL K F vs.dropLast ds.dropLast
  | _, _, .nil => .nil
  | _, _, .cons _ .nil => .nil
  | _, _, .cons h (.cons k l) => .cons h (IsL.dropLast (.cons k l))
theorem IsL.ints : ∀ {vs : List V} {ns : List Int}, IsL K F vs (ns.map D.int) → vs = ns.map V.int
  | vs, [], h => by
    cases h
    rfl
  | vs, n :: ns, h => by
    cases h with
    | cons h l =>
      cases h
      rw [IsL.ints l]
      rfl
theorem IsL.of_ints : ∀ (ns : List Int), IsL K F (ns.map V.int) (ns.map D.int)
  | [] => .nil
  | n :: ns => .cons (.int n) (IsL.of_ints ns)
theorem IsL.bls : ∀ {vs : List V} {bs : List Bool}, IsL K F vs (bs.map D.bl) → vs = bs.map V.bl
  | vs, [], h => by
    cases h
    rfl
  | vs, n :: ns, h => by
    cases h with
    | cons h l =>
      cases h
      rw [IsL.bls l]
      rfl
end



/-! ### mutable objects, boxes -/
inductive MO where
  | lst (xs : List D)
  | ins (C : Addr) (ns : List Str) (xs : List D)
  | dK (ks : List Key) (xs : List D)
abbrev Mm := List (Addr × MO)
def MOk (K : PySem.W.Frag) (F H : Hp) (a : Addr) : MO → Prop
  | .lst xs => ∃ vs, H a = some (.lst vs) ∧ IsL K F vs xs
  | .ins C ns xs => ∃ dx fs, H a = some (.ins C dx fs) ∧ fs.map (·.1) = ns ∧ IsL K F (fs.map (·.2)) xs
  | .dK ks xs => ∃ kv, H a = some (.dK kv) ∧ kv.map (·.1) = ks ∧ IsL K F (kv.map (·.2)) xs
/-- a hidden part of the heap: where the draws come from -/
structure Bx where
  fp : List Addr
  ok : Hp → Hp → Prop
  loc : ∀ {F H H' : Hp}, (∀ a ∈ fp, H' a = H a) → ok F H → ok F H'
  up : ∀ {F F' H : Hp}, Same F F' → ok F H → ok F' H
  low : ∀ {F H : Hp}, ok F H → ∀ a ∈ fp, ∃ o, H a = some o
def Bx.no : Bx := ⟨[], fun _ _ => True, fun _ _ => trivial, fun _ _ => trivial, fun _ a h => absurd h (by simp)⟩
structure Hs (K : PySem.W.Frag) (B : Bx) (M : Mm) (F H : Hp) : Prop where
  sub : Same F H
  mem : ∀ p ∈ M, F p.1 = none ∧ p.1 ∉ B.fp ∧ MOk K F H p.1 p.2
  nd : (M.map (·.1)).Nodup
  box : B.ok F H
  bfr : ∀ a ∈ B.fp, F a = none
  nt : ∀ b ps, F b ≠ some (.tbl ps)
abbrev Gm := List (Option D)
structure Vw (K : PySem.W.Frag) (F : Hp) (σ : St) (Γ : Gm) : Prop where
  len : σ.length = Γ.length
  get : ∀ (i : Nat) (d : D), Γ[i]? = some (some d) → ∃ v, σ[i]? = some (some v) ∧ Is K F v d
/-- one mutable object is changed -/
inductive Up : Mm → Addr → MO → MO → Mm → Prop
  | here {a : Addr} {o o' : MO} {M : Mm} : Up ((a, o) :: M) a o o' ((a, o') :: M)
  | there {q : Addr × MO} {M M' : Mm} {a : Addr} {o o' : MO} : Up M a o o' M' → Up (q :: M) a o o' (q :: M')
/-- one is taken out -/
inductive Dl : Mm → Addr → MO → Mm → Prop
  | here {a : Addr} {o : MO} {M : Mm} : Dl ((a, o) :: M) a o M
  | there {q : Addr × MO} {M M' : Mm} {a : Addr} {o : MO} : Dl M a o M' → Dl (q :: M) a o (q :: M')
section
variable {K : PySem.W.Frag} {B : Bx} {M M' : Mm} {F F' H H' : Hp} {σ : St} {Γ : Gm} {a : Addr} {o o' : MO}
theorem Up.mem (u : Up M a o o' M') : (a, o) ∈ M := by
  induction u with
  | here => exact List.mem_cons_self
  | there _ ih => exact List.mem_cons_of_mem _ ih
theorem Up.keys (u : Up M a o o' M') : M'.map (·.1) = M.map (·.1) := by
  induction u with
  | here => rfl
  | there _ ih => rw [List.map_cons, List.map_cons, ih]
theorem Up.of (u : Up M a o o' M') (nd : (M.map (·.1)).Nodup) : ∀ q ∈ M', q = (a, o') ∨ (q ∈ M ∧ q.1 ≠ a) := by
  induction u with
  | here =>
    rename_i a o o' M
    intro q hq
    rw [List.map_cons, List.nodup_cons] at nd
    rcases List.mem_cons.mp hq with e | hq
    · exact .inl e
    · exact .inr ⟨List.mem_cons_of_mem _ hq, fun e => nd.1 (by rw [← e]; exact List.mem_map.mpr ⟨q, hq, rfl⟩)⟩
  | there v ih =>
    rename_i p M M' a o o'
    intro q hq
    rw [List.map_cons, List.nodup_cons] at nd
    rcases List.mem_cons.mp hq with e | hq
    · subst e
      exact .inr ⟨List.mem_cons_self, fun e => nd.1 (by rw [e]; exact List.mem_map_of_mem v.mem)⟩
    · rcases ih nd.2 q hq with e | ⟨h1, h2⟩
      · exact .inl e
      · exact .inr ⟨List.mem_cons_of_mem _ h1, h2⟩
theorem Dl.mem (u : Dl M a o M') : (a, o) ∈ M := by
  induction u with
  | here => exact List.mem_cons_self
  | there _ ih => exact List.mem_cons_of_mem _ ih
theorem Dl.sub (u : Dl M a o M') : M'.Sublist M := by
  induction u with
  | here => exact List.sublist_cons_self _ _
  | there _ ih => exact ih.cons_cons _
theorem Dl.ne (u : Dl M a o M') (nd : (M.map (·.1)).Nodup) : ∀ q ∈ M', q.1 ≠ a := by
  induction u with
  | here =>
    intro q hq e
    rw [List.map_cons, List.nodup_cons] at nd
    exact nd.1 (by rw [← e]; exact List.mem_map.mpr ⟨q, hq, rfl⟩)
  | there v ih =>
    intro q hq e
    rw [List.map_cons, List.nodup_cons] at nd
    rcases List.mem_cons.mp hq with e' | hq
    · subst e'
      exact nd.1 (by rw [e]; exact List.mem_map_of_mem v.mem)
    · exact ih nd.2 q hq e
theorem MOk.mono (e : Same F F') : ∀ {o : MO}, MOk K F H a o → MOk K F' H a o
  | .lst _, ⟨vs, h, l⟩ => ⟨vs, h, l.mono e⟩
  | .ins _ _ _, ⟨dx, fs, h, k, l⟩ => ⟨dx, fs, h, k, l.mono e⟩
  | .dK _ _, ⟨kv, h, k, l⟩ => ⟨kv, h, k, l.mono e⟩
theorem MOk.at (e : H' a = H a) : ∀ {o : MO}, MOk K F H a o → MOk K F H' a o
  | .lst _, ⟨vs, h, l⟩ => ⟨vs, e.trans h, l⟩
  | .ins _ _ _, ⟨dx, fs, h, k, l⟩ => ⟨dx, fs, e.trans h, k, l⟩
  | .dK _ _, ⟨kv, h, k, l⟩ => ⟨kv, e.trans h, k, l⟩
theorem MOk.there : ∀ {o : MO}, MOk K F H a o → ∃ u, H a = some u
  | .lst _, ⟨_, h, _⟩ => ⟨_, h⟩
  | .ins _ _ _, ⟨_, _, h, _⟩ => ⟨_, h⟩
  | .dK _ _, ⟨_, h, _⟩ => ⟨_, h⟩
theorem Vw.mono (e : Same F F') (v : Vw K F σ Γ) : Vw K F' σ Γ := ⟨v.len, fun i d h => let ⟨x, h1, h2⟩ := v.get i d h; ⟨x, h1, h2.mono e⟩⟩
theorem Vw.set (v : Vw K F σ Γ) {x : V} {d : D} (h : Is K F x d) (i : Nat) : Vw K F (σ.set i (some x)) (Γ.set i (some d)) := by
  refine ⟨by rw [List.length_set, List.length_set, v.len], fun j e hj => ?_⟩
  by_cases hi : i = j
  · subst hi
    by_cases hl : i < Γ.length
    · rw [List.getElem?_set_self hl] at hj
      cases hj
      exact ⟨x, by rw [List.getElem?_set_self (by rw [v.len]; exact hl)], h⟩
    · rw [List.getElem?_eq_none (by rw [List.length_set]; omega)] at hj
      cases hj
  · rw [List.getElem?_set_ne hi] at hj ⊢
    exact v.get j e hj
theorem Vw.unset (v : Vw K F σ Γ) (i : Nat) : Vw K F σ (Γ.set i none) := by
  refine ⟨by rw [List.length_set, v.len], fun j e hj => ?_⟩
  by_cases hi : i = j
  · subst hi
    by_cases hl : i < Γ.length
    · rw [List.getElem?_set_self hl] at hj
      cases hj
    · rw [List.getElem?_eq_none (by rw [List.length_set]; omega)] at hj
      cases hj
  · rw [List.getElem?_set_ne hi] at hj
    exact v.get j e hj
theorem Vw.gone (v : Vw K F σ Γ) (i : Nat) : Vw K F (σ.set i none) (Γ.set i none) := by
  refine ⟨by rw [List.length_set, List.length_set, v.len], fun j e hj => ?_⟩
  by_cases hi : i = j
  · subst hi
    by_cases hl : i < Γ.length
    · rw [List.getElem?_set_self hl] at hj
      cases hj
    · rw [List.getElem?_eq_none (by rw [List.length_set]; omega)] at hj
      cases hj
  · rw [List.getElem?_set_ne hi] at hj ⊢
    exact v.get j e hj
/-- slots forgotten -/
def wipeG (Γ : Gm) : List Nat → Gm
  | [] => Γ
  | v :: vs => (wipeG Γ vs).set v none
theorem Vw.wipe (v : Vw K F σ Γ) : ∀ vs : List Nat, Vw K F (L2.wipe σ vs) (wipeG Γ vs)
  | [] => v
  | i :: vs => (Vw.wipe v vs).gone i

theorem upd_same_ext {p : Addr} {o : HO} (n : F p = none) : Same F (upd F p o) := fun b u q => by
  rw [upd_ne (ne_of_none q n)]
  exact q
theorem Hs.free (h : Hs K B M F H) {p : Addr} (n : H p = none) : F p = none := h.sub.free n
theorem Hs.boxNe (h : Hs K B M F H) {p : Addr} (n : H p = none) : p ∉ B.fp := fun hp => by
  obtain ⟨o, e⟩ := B.low h.box p hp
  rw [n] at e
  cases e
theorem Hs.memNe (h : Hs K B M F H) {p : Addr} (n : H p = none) : ∀ q ∈ M, q.1 ≠ p := fun q hq e => by
  obtain ⟨_, _, m⟩ := h.mem q hq
  obtain ⟨u, hu⟩ := m.there
  rw [e, n] at hu
  cases hu
theorem box_upd {p : Addr} {o : HO} (hp : p ∉ B.fp) (b : B.ok F H) : B.ok F (upd H p o) := B.loc (fun a ha => upd_ne fun e => hp (by rw [← e]; exact ha)) b
/-- a new immutable object -/
theorem nt_upd {p : Addr} {o : HO} (h : ∀ b ps, F b ≠ some (.tbl ps)) (ho : ∀ ps, o ≠ .tbl ps) : ∀ b ps, upd F p o b ≠ some (.tbl ps) := fun b ps z => by
  by_cases e : b = p
  · subst e
    rw [upd_same] at z
    exact ho ps (Option.some.inj z)
  · rw [upd_ne e] at z
    exact h b ps z
theorem Hs.laid {p : Addr} {o : HO} (h : Hs K B M F H) (n : H p = none) (ho : ∀ ps, o ≠ .tbl ps := by intro ps z; cases z) : Hs K B M (upd F p o) (upd H p o) := by
  have nf : F p = none := h.free n
  refine ⟨fun b u q => ?_, fun q hq => ?_, h.nd, B.up (upd_same_ext nf) (box_upd (h.boxNe n) h.box), fun c hc => ?_, nt_upd h.nt ho⟩
  · by_cases e : b = p
    · subst e
      rw [upd_same] at q ⊢
      exact q
    · rw [upd_ne e] at q ⊢
      exact h.sub b u q
  · obtain ⟨m1, m2, m3⟩ := h.mem q hq
    have ne : q.1 ≠ p := h.memNe n q hq
    exact ⟨by rw [upd_ne ne]; exact m1, m2, (m3.at (H' := upd H p o) (upd_ne ne)).mono (upd_same_ext nf)⟩
  · rw [upd_ne fun e => h.boxNe n (by rw [← e]; exact hc)]
    exact h.bfr c hc
/-- a new object that nobody speaks of -/
theorem Hs.over {p : Addr} {o : HO} (h : Hs K B M F H) (n : H p = none) : Hs K B M F (upd H p o) :=
  ⟨fun b u q => by rw [upd_ne (ne_of_none q (h.free n))]; exact h.sub b u q, fun q hq => let ⟨m1, m2, m3⟩ := h.mem q hq; ⟨m1, m2, m3.at (upd_ne (h.memNe n q hq))⟩, h.nd, box_upd (h.boxNe n) h.box, h.bfr, h.nt⟩
/-- a new mutable object -/
theorem Hs.newM {p : Addr} {u : HO} (h : Hs K B M F H) (n : H p = none) (m : MOk K F (upd H p u) p o) : Hs K B ((p, o) :: M) F (upd H p u) := by
  refine ⟨(h.over n).sub, fun q hq => ?_, ?_, (h.over n).box, h.bfr, h.nt⟩
  · rcases List.mem_cons.mp hq with e | hq
    · subst e
      exact ⟨h.free n, h.boxNe n, m⟩
    · exact (h.over n).mem q hq
  · rw [List.map_cons, List.nodup_cons]
    refine ⟨fun hm => ?_, h.nd⟩
    obtain ⟨q, hq, e⟩ := List.mem_map.mp hm
    exact h.memNe n q hq e
/-- a mutable object written -/
theorem Hs.put {u : HO} (h : Hs K B M F H) (up : Up M a o o' M') (m : MOk K F (upd H a u) a o') : Hs K B M' F (upd H a u) := by
  obtain ⟨m1, m2, m3⟩ := h.mem _ up.mem
  refine ⟨fun b v q => ?_, fun q hq => ?_, by rw [up.keys]; exact h.nd, box_upd m2 h.box, h.bfr, h.nt⟩
  · rw [upd_ne (ne_of_none q m1)]
    exact h.sub b v q
  · rcases up.of h.nd q hq with e | ⟨h1, h2⟩
    · subst e
      exact ⟨m1, m2, m⟩
    · obtain ⟨k1, k2, k3⟩ := h.mem q h1
      exact ⟨k1, k2, k3.at (upd_ne h2)⟩
theorem Hs.less (h : Hs K B M F H) (s : M'.Sublist M) : Hs K B M' F H :=
  ⟨h.sub, fun q hq => h.mem q (s.subset hq), h.nd.sublist (s.map _), h.box, h.bfr, h.nt⟩
theorem Hs.lst {xs : List D} (h : Hs K B M F H) (m : (a, MO.lst xs) ∈ M) : ∃ vs, H a = some (.lst vs) ∧ IsL K F vs xs := (h.mem _ m).2.2
/-- a mutable list is left as it is from here on -/
theorem Hs.freeze {xs : List D} (h : Hs K B M F H) (d : Dl M a (.lst xs) M') : ∃ F', Same F F' ∧ Hs K B M' F' H ∧ Is K F' (.ref a) (.lst xs) := by
  obtain ⟨m1, m2, vs, e, l⟩ := h.mem _ d.mem
  have s : Same F (upd F a (.lst vs)) := upd_same_ext m1
  refine ⟨upd F a (.lst vs), s, ⟨fun b u q => ?_, fun q hq => ?_, h.nd.sublist (d.sub.map _), B.up s h.box, fun c hc => ?_, nt_upd h.nt fun ps z => (by cases z)⟩, .lst (.inl (.inl upd_same)) (l.mono s)⟩
  · by_cases eb : b = a
    · subst eb
      rw [upd_same] at q
      rw [e]
      exact q
    · rw [upd_ne eb] at q
      exact h.sub b u q
  · obtain ⟨k1, k2, k3⟩ := h.mem q (d.sub.subset hq)
    have ne := d.ne h.nd q hq
    exact ⟨by rw [upd_ne ne]; exact k1, k2, k3.mono s⟩
  · rw [upd_ne fun e => m2 (by rw [← e]; exact hc)]
    exact h.bfr c hc
/-- an instance is left as it is from here on -/
theorem Hs.freezeI {C : Addr} {ns : List Str} {xs : List D} (h : Hs K B M F H) (d : Dl M a (.ins C ns xs) M') : ∃ F', Same F F' ∧ Hs K B M' F' H ∧ Is K F' (.ref a) (.ins C ns xs) := by
  obtain ⟨m1, m2, dx, fs, e, hn, l⟩ := h.mem _ d.mem
  have s : Same F (upd F a (.ins C dx fs)) := upd_same_ext m1
  refine ⟨upd F a (.ins C dx fs), s, ⟨fun b u q => ?_, fun q hq => ?_, h.nd.sublist (d.sub.map _), B.up s h.box, fun c hc => ?_, nt_upd h.nt fun ps z => (by cases z)⟩, by subst hn; exact .ins upd_same (l.mono s)⟩
  · by_cases eb : b = a
    · subst eb
      rw [upd_same] at q
      rw [e]
      exact q
    · rw [upd_ne eb] at q
      exact h.sub b u q
  · obtain ⟨k1, k2, k3⟩ := h.mem q (d.sub.subset hq)
    have ne := d.ne h.nd q hq
    exact ⟨by rw [upd_ne ne]; exact k1, k2, k3.mono s⟩
  · rw [upd_ne fun e => m2 (by rw [← e]; exact hc)]
    exact h.bfr c hc
end

/-! ### what is forgotten, frozen between two statements -/
inductive Fz : Gm → Mm → Gm → Mm → Prop
  | refl {Γ : Gm} {M : Mm} : Fz Γ M Γ M
  | lst {Γ Γ' : Gm} {M M1 M' : Mm} {a : Addr} {xs : List D} (i : Nat) : Γ[i]? = some (some (.ref a)) → Dl M a (.lst xs) M1 → Fz (Γ.set i (some (.lst xs))) M1 Γ' M' → Fz Γ M Γ' M'
  | ins {Γ Γ' : Gm} {M M1 M' : Mm} {a C : Addr} {ns : List Str} {xs : List D} (i : Nat) : Γ[i]? = some (some (.ref a)) → Dl M a (.ins C ns xs) M1 → Fz (Γ.set i (some (.ins C ns xs))) M1 Γ' M' → Fz Γ M Γ' M'
  | no {Γ Γ' : Gm} {M M' : Mm} (i : Nat) : Fz (Γ.set i none) M Γ' M' → Fz Γ M Γ' M'
  | less {Γ Γ' : Gm} {M M1 M' : Mm} : M1.Sublist M → Fz Γ M1 Γ' M' → Fz Γ M Γ' M'

/-! ### exceptions, contexts -/
structure XD where
  C : Addr
  x : D
def XIs (K : PySem.W.Frag) (F : Hp) (cls : Value) (d : Option Addr) (x : XD) : Prop := cls = .ref x.C ∧ ∃ dd v, d = some dd ∧ F dd = some (.xd [("at", v)]) ∧ Is K F v x.x
abbrev AX := XD → Gm → Mm → Prop
/-- the hidden part, the wish about exceptions and its reading -/
structure Ct where
  B : Bx
  W : WX
  Ψ : AX
def Lk (K : PySem.W.Frag) (T : Ct) (F : Hp) : Prop := ∀ x cls d Γ M σ F' H, Same F F' → Vw K F' σ Γ → Hs K T.B M F' H → XIs K F' cls d x → T.Ψ x Γ M → T.W cls d σ H
theorem Lk.mono {K : PySem.W.Frag} {T : Ct} {F F' : Hp} (e : Same F F') (l : Lk K T F) : Lk K T F' := fun x cls d Γ M σ F1 H s => l x cls d Γ M σ F1 H (e.trans s)
/-- nothing is raised -/
def Ct.calm (B : Bx) : Ct := ⟨B, fun _ _ _ _ => False, fun _ _ _ => False⟩
theorem lk_calm {K : PySem.W.Frag} {B : Bx} {F : Hp} : Lk K (Ct.calm B) F := fun _ _ _ _ _ _ _ _ _ _ _ _ z => z

/-! ### readings over data -/
abbrev AK := D → Mm → Prop
abbrev AE := Gm → Mm → AK → Prop
abbrev AT := Gm → Mm → (Bool → Mm → Prop) → Prop
abbrev AA := Gm → Mm → (List D → Mm → Prop) → Prop
structure AEnds where
  nx : Gm → Mm → Prop
  rt : AK
  bk : Gm → Mm → Prop := fun _ _ => False
  ct : Gm → Mm → Prop := fun _ _ => False
abbrev AS := AEnds → Gm → Mm → Prop

/-- a state is seen -/
structure See (K : PySem.W.Frag) (T : Ct) (F : Hp) (σ : St) (H : Hp) (Γ : Gm) (M : Mm) : Prop where
  v : Vw K F σ Γ
  h : Hs K T.B M F H
  l : Lk K T F
def cE (K : PySem.W.Frag) (T : Ct) (ta : AE) : TE := fun σ H Q => ∃ F Γ M Φ, See K T F σ H Γ M ∧ ta Γ M Φ ∧ ∀ d M' v F' H', Same F F' → Hs K T.B M' F' H' → Is K F' v d → Φ d M' → Q v H'
def cT (K : PySem.W.Frag) (T : Ct) (ta : AT) : TT := fun σ H Q => ∃ F Γ M Φ, See K T F σ H Γ M ∧ ta Γ M Φ ∧ ∀ b M' F' H', Same F F' → Hs K T.B M' F' H' → Φ b M' → Q b H'
def cA (K : PySem.W.Frag) (T : Ct) (ta : AA) : TA := fun σ H Q => ∃ F Γ M Φ, See K T F σ H Γ M ∧ ta Γ M Φ ∧ ∀ ds M' vs F' H', Same F F' → Hs K T.B M' F' H' → IsL K F' vs ds → Φ ds M' → Q vs H'
def cS (K : PySem.W.Frag) (T : Ct) (ta : AS) : TS := fun D σ H => ∃ F Γ M A, See K T F σ H Γ M ∧ ta A Γ M ∧
  (∀ Γ' M' σ' F' H', Same F F' → Vw K F' σ' Γ' → Hs K T.B M' F' H' → A.nx Γ' M' → D.nx σ' H') ∧
  (∀ d M' v F' H', Same F F' → Hs K T.B M' F' H' → Is K F' v d → A.rt d M' → D.rt v H') ∧
  (∀ Γ' M' σ' F' H', Same F F' → Vw K F' σ' Γ' → Hs K T.B M' F' H' → A.bk Γ' M' → D.bk σ' H') ∧
  (∀ Γ' M' σ' F' H', Same F F' → Vw K F' σ' Γ' → Hs K T.B M' F' H' → A.ct Γ' M' → D.ct σ' H')
def DE (X : Cx) (T : Ct) (e : Expr) (ta : AE) : Prop := PE X e (cE X.K T ta)
def DT (X : Cx) (T : Ct) (e : Expr) (ta : AT) : Prop := PT X e (cT X.K T ta)
def DW (X : Cx) (T : Ct) (e : Expr) (ta : AT) : Prop := PW X e (cT X.K T ta)
def DA (X : Cx) (T : Ct) (es : List Expr) (ta : AA) : Prop := PA X es (cA X.K T ta)
def DS (X : Cx) (T : Ct) (st : Stmt) (ta : AS) : Prop := PS X st (cS X.K T ta)
def DSs (X : Cx) (T : Ct) (st : List Stmt) (ta : AS) : Prop := PSs X st (cS X.K T ta)

section
variable {X : Cx} {T : Ct} {e a b c : Expr} {pos : Pos} {K : PySem.W.Frag} {F F' F1 H H' H1 : Hp} {σ : St} {Γ : Gm} {M M' : Mm}
theorem See.go (s : See K T F σ H Γ M) (e : Same F F') (h : Hs K T.B M' F' H') : See K T F' σ H' Γ M' := ⟨s.v.mono e, h, s.l.mono e⟩
theorem de_of {t : TE} {ta : AE} (h : PE X e t) (k : ∀ F σ H Γ M Φ Q, See X.K T F σ H Γ M → ta Γ M Φ → (∀ d M' v F' H', Same F F' → Hs X.K T.B M' F' H' → Is X.K F' v d → Φ d M' → Q v H') → t σ H Q) : DE X T e ta :=
  ⟨fun pins s σ H Q I ⟨F, Γ, M, Φ, w, q, z⟩ => h.run pins s σ H Q I (k F σ H Γ M Φ Q w q z)⟩
theorem dt_of {t : TT} {ta : AT} (h : PT X e t) (k : ∀ F σ H Γ M Φ Q, See X.K T F σ H Γ M → ta Γ M Φ → (∀ d M' F' H', Same F F' → Hs X.K T.B M' F' H' → Φ d M' → Q d H') → t σ H Q) : DT X T e ta :=
  ⟨fun pins s σ H Q I ⟨F, Γ, M, Φ, w, q, z⟩ => h.run pins s σ H Q I (k F σ H Γ M Φ Q w q z)⟩
theorem dw_of {t : TT} {ta : AT} (h : PW X e t) (k : ∀ F σ H Γ M Φ Q, See X.K T F σ H Γ M → ta Γ M Φ → (∀ d M' F' H', Same F F' → Hs X.K T.B M' F' H' → Φ d M' → Q d H') → t σ H Q) : DW X T e ta :=
  ⟨fun wh pins s σ H Q I ⟨F, Γ, M, Φ, w, q, z⟩ => h.run wh pins s σ H Q I (k F σ H Γ M Φ Q w q z)⟩
theorem da_of {es : List Expr} {t : TA} {ta : AA} (h : PA X es t) (k : ∀ F σ H Γ M Φ Q, See X.K T F σ H Γ M → ta Γ M Φ → (∀ d M' v F' H', Same F F' → Hs X.K T.B M' F' H' → IsL X.K F' v d → Φ d M' → Q v H') → t σ H Q) : DA X T es ta :=
  ⟨fun pos pins s σ H Q I ⟨F, Γ, M, Φ, w, q, z⟩ => h.run pos pins s σ H Q I (k F σ H Γ M Φ Q w q z)⟩
/-- the ends are met -/
structure Met (K : PySem.W.Frag) (T : Ct) (F : Hp) (A : AEnds) (D : Ends) : Prop where
  nx : ∀ Γ' M' σ' F' H', Same F F' → Vw K F' σ' Γ' → Hs K T.B M' F' H' → A.nx Γ' M' → D.nx σ' H'
  rt : ∀ d M' v F' H', Same F F' → Hs K T.B M' F' H' → Is K F' v d → A.rt d M' → D.rt v H'
  bk : ∀ Γ' M' σ' F' H', Same F F' → Vw K F' σ' Γ' → Hs K T.B M' F' H' → A.bk Γ' M' → D.bk σ' H'
  ct : ∀ Γ' M' σ' F' H', Same F F' → Vw K F' σ' Γ' → Hs K T.B M' F' H' → A.ct Γ' M' → D.ct σ' H'
theorem Met.mono {A : AEnds} {D : Ends} (e : Same F F') (m : Met K T F A D) : Met K T F' A D :=
  ⟨fun Γ M σ F1 H s => m.nx Γ M σ F1 H (e.trans s), fun d M v F1 H s => m.rt d M v F1 H (e.trans s), fun Γ M σ F1 H s => m.bk Γ M σ F1 H (e.trans s), fun Γ M σ F1 H s => m.ct Γ M σ F1 H (e.trans s)⟩
theorem cS_mk {ta : AS} {A : AEnds} {D : Ends} (s : See K T F σ H Γ M) (q : ta A Γ M) (m : Met K T F A D) : cS K T ta D σ H := ⟨F, Γ, M, A, s, q, m.nx, m.rt, m.bk, m.ct⟩
theorem ds_of {st : Stmt} {t : TS} {ta : AS} (h : PS X st t) (k : ∀ F σ H Γ M A D, See X.K T F σ H Γ M → ta A Γ M → Met X.K T F A D → t D σ H) : DS X T st ta :=
  ⟨fun pins s σ H D I ⟨F, Γ, M, A, w, q, m1, m2, m3, m4⟩ => h.run pins s σ H D I (k F σ H Γ M A D w q ⟨m1, m2, m3, m4⟩)⟩
theorem dss_of {st : List Stmt} {t : TS} {ta : AS} (h : PSs X st t) (k : ∀ F σ H Γ M A D, See X.K T F σ H Γ M → ta A Γ M → Met X.K T F A D → t D σ H) : DSs X T st ta :=
  ⟨fun pins s σ H D I ⟨F, Γ, M, A, w, q, m1, m2, m3, m4⟩ => h.run pins s σ H D I (k F σ H Γ M A D w q ⟨m1, m2, m3, m4⟩)⟩

/-! ### names, constants -/
def aVar (i : Nat) (Γ : Gm) (M : Mm) (Φ : AK) : Prop := onSlot Γ[i]? fun d => Φ d M
def aC (d : D) (Γ : Gm) (M : Mm) (Φ : AK) : Prop := Φ d M
theorem de_var {i : Nat} (h : PE X e (tVar i)) : DE X T e (aVar i) := de_of h fun F σ H Γ M Φ Q w q z => by
  unfold aVar onSlot at q
  split at q
  · rename_i d hd
    obtain ⟨x, h1, h2⟩ := w.v.get i d hd
    exact ⟨x, h1, z d M x F H (Same.refl F) w.h h2 q⟩
  · exact q.elim
theorem dv (i : Nat) {x : Str} {pos : Pos} (hN : X.N[i]? = some x := by rfl) (hv : Vis X.env.scope x := by first | exact Or.inl rfl | exact Or.inr (Or.inl rfl) | exact Or.inr (Or.inr rfl)) (hd : (x == ("__debug__" : Str)) = false := by decide)
    (hcd : (x == ("__classdict__" : Str)) = false := by decide) : DE X T (.Name x pos) (aVar i) := de_var (pe_var hN hv hd hcd)
theorem de_c {v : V} {d : D} (h : PE X e (tC v)) (i : ∀ F, Is X.K F v d) : DE X T e (aC d) := de_of h fun F σ H Γ M Φ Q w q z => z d M v F H (Same.refl F) w.h (i F) q
theorem de_int {i : Int} {j pos} : DE X T (.Constant (.int i) j pos) (aC (.int i)) := de_c pe_int fun _ => .int i
theorem de_bl {b : Bool} {j pos} : DE X T (.Constant (.bool b) j pos) (aC (.bl b)) := de_c pe_bl fun _ => .bl b
theorem de_non {j pos} : DE X T (.Constant .none j pos) (aC .non) := de_c pe_non fun _ => .non
theorem de_str {x : Str} {j pos} : DE X T (.Constant (.str x) j pos) (aC (.str x)) := de_c pe_str fun _ => .str x

/-! ### operators -/
abbrev A2 := D → D → Mm → AK → Prop
/-- an operation on values, read on data -/
def Ab2 (K : PySem.W.Frag) (B : Bx) (r : R2) (f : A2) : Prop := ∀ F H x y d g M Φ Q, Hs K B M F H → Is K F x d → Is K F y g → f d g M Φ → (∀ z M' v F' H', Same F F' → Hs K B M' F' H' → Is K F' v z → Φ z M' → Q v H') → r x y H Q
abbrev A1 := D → Mm → AK → Prop
def Ab1 (K : PySem.W.Frag) (B : Bx) (r : V → Hp → VK → Prop) (f : A1) : Prop := ∀ F H x d M Φ Q, Hs K B M F H → Is K F x d → f d M Φ → (∀ z M' v F' H', Same F F' → Hs K B M' F' H' → Is K F' v z → Φ z M' → Q v H') → r x H Q
abbrev AL := List D → Mm → AK → Prop
def AbL (K : PySem.W.Frag) (B : Bx) (r : List V → Hp → VK → Prop) (f : AL) : Prop := ∀ F H xs ds M Φ Q, Hs K B M F H → IsL K F xs ds → f ds M Φ → (∀ z M' v F' H', Same F F' → Hs K B M' F' H' → Is K F' v z → Φ z M' → Q v H') → r xs H Q
def aOp (f : A2) (ta tb : AE) (Γ : Gm) (M : Mm) (Φ : AK) : Prop := ta Γ M fun d M1 => tb Γ M1 fun g M2 => f d g M2 Φ
def aUn (f : A1) (ta : AE) (Γ : Gm) (M : Mm) (Φ : AK) : Prop := ta Γ M fun d M1 => f d M1 Φ
variable {ta tb tc : AE}
theorem cE_mk {Q : VK} {Φ : AK} (s : See K T F σ H Γ M) (q : ta Γ M Φ) (z : ∀ d M' v F' H', Same F F' → Hs K T.B M' F' H' → Is K F' v d → Φ d M' → Q v H') : cE K T ta σ H Q := ⟨F, Γ, M, Φ, s, q, z⟩
theorem op_go {r : R2} {f : A2} {Q : VK} {Φ : AK} (hr : Ab2 K T.B r f) (w : See K T F σ H Γ M) (q : aOp f ta tb Γ M Φ) (z : ∀ d M' v F' H', Same F F' → Hs K T.B M' F' H' → Is K F' v d → Φ d M' → Q v H') : tOp r (cE K T ta) (cE K T tb) σ H Q :=
  cE_mk w q fun d M1 x F1 H1 s1 h1 i1 q1 => cE_mk (w.go s1 h1) q1 fun g M2 y F2 H2 s2 h2 i2 q2 => hr F2 H2 x y d g M2 Φ Q h2 (i1.mono s2) i2 q2 fun d M3 v F3 H3 s3 h3 i3 q3 => z d M3 v F3 H3 ((s1.trans s2).trans s3) h3 i3 q3
theorem de_op {op : Operator} {r : R2} {f : A2} (ho : OpR X (binaryOp op) r) (hr : Ab2 X.K T.B r f) (ha : DE X T a ta) (hb : DE X T b tb) : DE X T (.BinOp a op b pos) (aOp f ta tb) :=
  de_of (pe_op ho ha hb) fun F σ H Γ M Φ Q w q z => op_go hr w q z
theorem de_cmp {op : CmpOp} {r : R2} {f : A2} (ho : OpR X (compareOp op) r) (hr : Ab2 X.K T.B r f) (ha : DE X T a ta) (hb : DE X T b tb) (hm : behindInMarks op b = false := by first | exact nomark _ | rfl) : DE X T (.Compare a [op] [b] pos) (aOp f ta tb) :=
  de_of (pe_cmpR ho ha hb hm) fun F σ H Γ M Φ Q w q z => op_go hr w q z
theorem de_un {op : UnaryOp} {r : V → Hp → VK → Prop} {f : A1} (ho : UnR X (unaryOp op) r) (hr : Ab1 X.K T.B r f) (ha : DE X T a ta) : DE X T (.UnaryOp op a pos) (aUn f ta) :=
  de_of (pe_un ho ha) fun F σ H Γ M Φ Q w q z => cE_mk w q fun d M1 x F1 H1 s1 h1 i1 q1 => hr F1 H1 x d M1 Φ Q h1 i1 q1 fun d M3 v F3 H3 s3 h3 i3 q3 => z d M3 v F3 H3 (s1.trans s3) h3 i3 q3
/-- x[i] -/
theorem de_ix {r : R2} {f : A2} (hi : IxR X r) (hr : Ab2 X.K T.B r f) (ha : DE X T a ta) (hb : DE X T b tb) (hs : PlainIx b := by exact fun _ _ => rfl) : DE X T (.Subscript a b pos) (aOp f ta tb) :=
  de_of (pe_ix hi ha hb hs) fun F σ H Γ M Φ Q w q z => op_go hr w q z
/-- a test -/
def aB_k (Φ : Bool → Mm → Prop)  (d : D) (M1 : Mm) : Prop := match d with
  | .bl b => Φ b M1
  | _ => False
def aB (ta : AE) (Γ : Gm) (M : Mm) (Φ : Bool → Mm → Prop) : Prop := ta Γ M fun d M1 => aB_k Φ d M1
theorem cE_b {Q : Bool → Hp → Prop} {Φ : Bool → Mm → Prop} (w : See K T F σ H Γ M) (q : aB ta Γ M Φ) (z : ∀ b M' F' H', Same F F' → Hs K T.B M' F' H' → Φ b M' → Q b H') : cE K T ta σ H fun x H1 => ∃ k, x = .bl k ∧ Q k H1 :=
  cE_mk w q fun d M1 x F1 H1 s1 h1 i1 q1 => by
    cases d with
    | bl b =>
      cases i1
      exact ⟨b, rfl, z b M1 F1 H1 s1 h1 q1⟩
    | _ => exact q1.elim
theorem dt_val {e : Expr} {te : AE} (h : DE X T e te) (he : ∀ whole, isTrue e X.env whole = (do let v ← whole; standAt e.pos; holding [v] (truthy v)) := by intro _; rfl) : DT X T e (aB te) :=
  dt_of (pt_val h he) fun F σ H Γ M Φ Q w q z => cE_b w q z
theorem dt_cmp {op : CmpOp} {r : R2} {f : A2} (ho : OpR X (compareOp op) r) (hr : Ab2 X.K T.B r f) (ha : DE X T a ta) (hb : DE X T b tb) (hm : behindInMarks op b = false := by first | exact nomark _ | rfl) : DT X T (.Compare a [op] [b] pos) (aB (aOp f ta tb)) :=
  dt_of (pt_cmpR ho ha hb hm) fun F σ H Γ M Φ Q w q z => op_go (Q := fun x H1 => ∃ k, x = .bl k ∧ Q k H1) hr w q fun d M1 x F1 H1 s1 h1 i1 q1 => by
    cases d with
    | bl b =>
      cases i1
      exact ⟨b, rfl, z b M1 F1 H1 s1 h1 q1⟩
    | _ => exact q1.elim
/-! ### and, or, not, if -/
variable {tA tB : AT}
def aAnd (t u : AT) (Γ : Gm) (M : Mm) (Φ : Bool → Mm → Prop) : Prop := t Γ M fun c M1 => (c = true → u Γ M1 Φ) ∧ (c = false → Φ false M1)
def aOr (t u : AT) (Γ : Gm) (M : Mm) (Φ : Bool → Mm → Prop) : Prop := t Γ M fun c M1 => (c = true → Φ true M1) ∧ (c = false → u Γ M1 Φ)
def aNot (t : AT) (Γ : Gm) (M : Mm) (Φ : Bool → Mm → Prop) : Prop := t Γ M fun c M1 => Φ (!c) M1
theorem cT_mk {Q : Bool → Hp → Prop} {Φ : Bool → Mm → Prop} {t : AT} (s : See K T F σ H Γ M) (q : t Γ M Φ) (z : ∀ d M' F' H', Same F F' → Hs K T.B M' F' H' → Φ d M' → Q d H') : cT K T t σ H Q := ⟨F, Γ, M, Φ, s, q, z⟩
theorem dw_and1 (ha : DT X T a tA) : DW X T (.BoolOp .And [a] pos) tA := pw_and1 ha
theorem dw_or1 (ha : DT X T a tA) : DW X T (.BoolOp .Or [a] pos) tA := pw_or1 ha
theorem dw_and {rest : List Expr} (ha : DT X T a tA) (hb : DW X T (.BoolOp .And (b :: rest) pos) tB) : DW X T (.BoolOp .And (a :: b :: rest) pos) (aAnd tA tB) :=
  dw_of (pw_and ha hb) fun F σ H Γ M Φ Q w q z => cT_mk w q fun c M1 F1 H1 s1 h1 q1 => by
    cases c with
    | true => exact cT_mk (w.go s1 h1) (q1.1 rfl) fun d M2 F2 H2 s2 h2 q2 => z d M2 F2 H2 (s1.trans s2) h2 q2
    | false => exact z false M1 F1 H1 s1 h1 (q1.2 rfl)
theorem dw_or {rest : List Expr} (ha : DT X T a tA) (hb : DW X T (.BoolOp .Or (b :: rest) pos) tB) : DW X T (.BoolOp .Or (a :: b :: rest) pos) (aOr tA tB) :=
  dw_of (pw_or ha hb) fun F σ H Γ M Φ Q w q z => cT_mk w q fun c M1 F1 H1 s1 h1 q1 => by
    cases c with
    | true => exact z true M1 F1 H1 s1 h1 (q1.1 rfl)
    | false => exact cT_mk (w.go s1 h1) (q1.2 rfl) fun d M2 F2 H2 s2 h2 q2 => z d M2 F2 H2 (s1.trans s2) h2 q2
theorem dt_w (h : DW X T e tA) : DT X T e tA := h.pt
theorem dt_not (ha : DT X T a tA) : DT X T (.UnaryOp .Not a pos) (aNot tA) :=
  dt_of (pt_not ha) fun F σ H Γ M Φ Q w q z => cT_mk w q fun c M1 F1 H1 s1 h1 q1 => z (!c) M1 F1 H1 s1 h1 q1
/-- .. as values: bools -/
def aAndV_k (tb : AE) (Γ : Gm) (Φ : AK)  (d : D) (M1 : Mm) : Prop := match d with
  | .bl c => (c = true → tb Γ M1 Φ) ∧ (c = false → Φ (.bl false) M1)
  | _ => False
def aAndV (ta tb : AE) (Γ : Gm) (M : Mm) (Φ : AK) : Prop := ta Γ M fun d M1 => aAndV_k tb Γ Φ d M1
def aOrV_k (tb : AE) (Γ : Gm) (Φ : AK)  (d : D) (M1 : Mm) : Prop := match d with
  | .bl c => (c = true → Φ (.bl true) M1) ∧ (c = false → tb Γ M1 Φ)
  | _ => False
def aOrV (ta tb : AE) (Γ : Gm) (M : Mm) (Φ : AK) : Prop := ta Γ M fun d M1 => aOrV_k tb Γ Φ d M1
def aNotV_k (Φ : AK)  (d : D) (M1 : Mm) : Prop := match d with
  | .bl c => Φ (.bl (!c)) M1
  | _ => False
def aNotV (ta : AE) (Γ : Gm) (M : Mm) (Φ : AK) : Prop := ta Γ M fun d M1 => aNotV_k Φ d M1
theorem de_one {op} (h : DE X T a ta) : DE X T (.BoolOp op [a] pos) ta := pe_one h
theorem de_and {rest : List Expr} (ha : DE X T a ta) (hb : DE X T (.BoolOp .And (b :: rest) pos) tb) : DE X T (.BoolOp .And (a :: b :: rest) pos) (aAndV ta tb) :=
  de_of (pe_and ha hb) fun F σ H Γ M Φ Q w q z => cE_mk w q fun d M1 x F1 H1 s1 h1 i1 q1 => by
    cases d with
    | bl c =>
      cases i1
      refine ⟨c, rfl, ?_⟩
      cases c with
      | true => exact cE_mk (w.go s1 h1) (q1.1 rfl) fun d M2 v F2 H2 s2 h2 i2 q2 => z d M2 v F2 H2 (s1.trans s2) h2 i2 q2
      | false => exact z _ M1 _ F1 H1 s1 h1 (.bl false) (q1.2 rfl)
    | _ => exact q1.elim
theorem de_or {rest : List Expr} (ha : DE X T a ta) (hb : DE X T (.BoolOp .Or (b :: rest) pos) tb) : DE X T (.BoolOp .Or (a :: b :: rest) pos) (aOrV ta tb) :=
  de_of (pe_or ha hb) fun F σ H Γ M Φ Q w q z => cE_mk w q fun d M1 x F1 H1 s1 h1 i1 q1 => by
    cases d with
    | bl c =>
      cases i1
      refine ⟨c, rfl, ?_⟩
      cases c with
      | true => exact z _ M1 _ F1 H1 s1 h1 (.bl true) (q1.1 rfl)
      | false => exact cE_mk (w.go s1 h1) (q1.2 rfl) fun d M2 v F2 H2 s2 h2 i2 q2 => z d M2 v F2 H2 (s1.trans s2) h2 i2 q2
    | _ => exact q1.elim
theorem de_not (ha : DE X T a ta) : DE X T (.UnaryOp .Not a pos) (aNotV ta) :=
  de_of (pe_not ha) fun F σ H Γ M Φ Q w q z => cE_mk w q fun d M1 x F1 H1 s1 h1 i1 q1 => by
    cases d with
    | bl c =>
      cases i1
      exact ⟨c, rfl, z _ M1 _ F1 H1 s1 h1 (.bl (!c)) q1⟩
    | _ => exact q1.elim
/-- a if t else b -/
def aIf (t : AT) (ta tb : AE) (Γ : Gm) (M : Mm) (Φ : AK) : Prop := t Γ M fun c M1 => (c = true → ta Γ M1 Φ) ∧ (c = false → tb Γ M1 Φ)
theorem de_if (hc : DT X T c tA) (ha : DE X T a ta) (hb : DE X T b tb) : DE X T (.IfExp c a b pos) (aIf tA ta tb) :=
  de_of (pe_ifExp hc ha hb) fun F σ H Γ M Φ Q w q z => cT_mk w q fun c M1 F1 H1 s1 h1 q1 => by
    cases c with
    | true => exact cE_mk (w.go s1 h1) (q1.1 rfl) fun d M2 v F2 H2 s2 h2 i2 q2 => z d M2 v F2 H2 (s1.trans s2) h2 i2 q2
    | false => exact cE_mk (w.go s1 h1) (q1.2 rfl) fun d M2 v F2 H2 s2 h2 i2 q2 => z d M2 v F2 H2 (s1.trans s2) h2 i2 q2
/-- a < b < c -/
def aChain_k (g : A2) (tc : AE) (Γ : Gm) (Φ : AK) (e : D) (z : D) (M3 : Mm) : Prop := match z with
  | .bl k => (k = true → tc Γ M3 fun h M4 => g e h M4 Φ) ∧ (k = false → Φ (.bl false) M3)
  | _ => False
def aChain (f g : A2) (ta tb tc : AE) (Γ : Gm) (M : Mm) (Φ : AK) : Prop := ta Γ M fun d M1 => tb Γ M1 fun e M2 => f d e M2 fun z M3 => aChain_k g tc Γ Φ e z M3
/-! ### argument lists, tuples, lists -/
def aNil (Γ : Gm) (M : Mm) (Φ : List D → Mm → Prop) : Prop := Φ [] M
def aCons (ta : AE) (tr : AA) (Γ : Gm) (M : Mm) (Φ : List D → Mm → Prop) : Prop := ta Γ M fun d M1 => tr Γ M1 fun ds M2 => Φ (d :: ds) M2
variable {es : List Expr} {tr : AA}
theorem cA_mk {Q : List V → Hp → Prop} {Φ : List D → Mm → Prop} (s : See K T F σ H Γ M) (q : tr Γ M Φ) (z : ∀ d M' v F' H', Same F F' → Hs K T.B M' F' H' → IsL K F' v d → Φ d M' → Q v H') : cA K T tr σ H Q := ⟨F, Γ, M, Φ, s, q, z⟩
theorem da_nil : DA X T [] aNil := da_of pa_nil fun F σ H Γ M Φ Q w q z => z [] M [] F H (Same.refl F) w.h .nil q
theorem da_cons (ha : DE X T e ta) (hr : DA X T es tr) (hs : starEach (e :: es) X.env = (false, eval e X.env) :: starEach es X.env := by rfl) : DA X T (e :: es) (aCons ta tr) :=
  da_of (pa_cons ha hr hs) fun F σ H Γ M Φ Q w q z => cE_mk w q fun d M1 x F1 H1 s1 h1 i1 q1 => cA_mk (w.go s1 h1) q1 fun ds M2 vs F2 H2 s2 h2 i2 q2 => z (d :: ds) M2 (x :: vs) F2 H2 (s1.trans s2) h2 (.cons (i1.mono s2) i2) q2
def aTup (tr : AA) (Γ : Gm) (M : Mm) (Φ : AK) : Prop := tr Γ M fun ds M1 => ds.length ≤ 100000 ∧ Φ (.tup ds) M1
/-- a list that will not change -/
def aLst (tr : AA) (Γ : Gm) (M : Mm) (Φ : AK) : Prop := tr Γ M fun ds M1 => ds.length ≤ 100000 ∧ Φ (.lst ds) M1
/-- a list that may change -/
def aLstM (tr : AA) (Γ : Gm) (M : Mm) (Φ : AK) : Prop := tr Γ M fun ds M1 => ds.length ≤ 100000 ∧ ∀ l, Φ (.ref l) ((l, .lst ds) :: M1)
theorem line_of {n : Nat} (h : n ≤ 100000) : n ≤ sizeLine := Nat.le_trans h (by decide)
theorem line_lt {n : Nat} (h : n < 100000) : n < sizeLine := Nat.lt_of_lt_of_le h (by decide)
theorem de_tup {x1} (h : DA X T es tr) : DE X T (.Tuple es x1 pos) (aTup tr) :=
  de_of (pe_tup h) fun F σ H Γ M Φ Q w q z => cA_mk w q fun ds M1 vs F1 H1 s1 h1 i1 q1 => ⟨by rw [i1.length]; exact line_of q1.1, fun p hp => by
    have n1 := h1.free hp
    exact z _ M1 _ _ _ (s1.trans (upd_same_ext n1)) (h1.laid hp) (.tup (.inl (.inl upd_same)) (i1.mono (upd_same_ext n1))) q1.2⟩
theorem de_lst (h : DA X T es tr) : DE X T (.List es pos) (aLst tr) :=
  de_of (pe_lst h) fun F σ H Γ M Φ Q w q z => cA_mk w q fun ds M1 vs F1 H1 s1 h1 i1 q1 => ⟨by rw [i1.length]; exact line_of q1.1, fun p hp => by
    have n1 := h1.free hp
    exact z _ M1 _ _ _ (s1.trans (upd_same_ext n1)) (h1.laid hp) (.lst (.inl (.inl upd_same)) (i1.mono (upd_same_ext n1))) q1.2⟩
theorem de_lstM (h : DA X T es tr) : DE X T (.List es pos) (aLstM tr) :=
  de_of (pe_lst h) fun F σ H Γ M Φ Q w q z => cA_mk w q fun ds M1 vs F1 H1 s1 h1 i1 q1 => ⟨by rw [i1.length]; exact line_of q1.1, fun p hp => by
    exact z (.ref p) ((p, .lst ds) :: M1) _ _ _ s1 (h1.newM (o := .lst ds) hp ⟨vs, upd_same, i1⟩) (.ref p) (q1.2 p)⟩
/-! ### calls of built-ins -/
def aCB (f : AL) (tr : AA) (Γ : Gm) (M : Mm) (Φ : AK) : Prop := tr Γ M fun ds M1 => f ds M1 Φ
theorem de_callB {id : String} {x : Str} {p : Pos} {r : List V → Hp → VK → Prop} {f : AL} (hc : CallR X (.builtin id) r) (hr : AbL X.K T.B r f) (hg : Gl X x) (hm : X.mg x = none) (hv : bootBuiltins x = some (.builtin id)) (ha : DA X T (e :: es) tr) (hn : x ≠ "__name__" := by decide) (hdb : (x == ("__debug__" : Str)) = false := by decide)
    (he : starEach (e :: es) X.env = (false, eval e X.env) :: starEach es X.env := by rfl) (hpl : (backTo pos (starEach es X.env)).any (·.1) = false := by rfl) : DE X T (.Call (.Name x p) (e :: es) [] pos) (aCB f tr) :=
  de_of (pe_callB hc hg hm hv ha hn hdb he hpl) fun F σ H Γ M Φ Q w q z => cA_mk w q fun ds M1 vs F1 H1 s1 h1 i1 q1 => hr F1 H1 vs ds M1 Φ Q h1 i1 q1 fun d M3 v F3 H3 s3 h3 i3 q3 => z d M3 v F3 H3 (s1.trans s3) h3 i3 q3
theorem de_callTy {id : String} {x : Str} {p : Pos} {r : List V → Hp → VK → Prop} {f : AL} (hc : CallR X (.type id) r) (hr : AbL X.K T.B r f) (hg : Gl X x) (hm : X.mg x = none) (hv : bootBuiltins x = some (.type id)) (ha : DA X T (e :: es) tr) (hn : x ≠ "__name__" := by decide) (hdb : (x == ("__debug__" : Str)) = false := by decide)
    (he : starEach (e :: es) X.env = (false, eval e X.env) :: starEach es X.env := by rfl) (hpl : (backTo pos (starEach es X.env)).any (·.1) = false := by rfl) : DE X T (.Call (.Name x p) (e :: es) [] pos) (aCB f tr) :=
  de_of (pe_callTy hc hg hm hv ha hn hdb he hpl) fun F σ H Γ M Φ Q w q z => cA_mk w q fun ds M1 vs F1 H1 s1 h1 i1 q1 => hr F1 H1 vs ds M1 Φ Q h1 i1 q1 fun d M3 v F3 H3 s3 h3 i3 q3 => z d M3 v F3 H3 (s1.trans s3) h3 i3 q3
end
end DL

set_option Elab.async false
set_option linter.all false
set_option maxRecDepth 100000
set_option maxHeartbeats 2000000
namespace DL
open PySem L2

section
variable {X : Cx} {T : Ct} {e a b c : Expr} {pos : Pos} {K : PySem.W.Frag} {F F' F1 H H' H1 : Hp} {σ : St} {Γ : Gm} {M M' : Mm} {ta tb tc : AE} {tA tB : AT} {es : List Expr} {tr : AA} {B : Bx}
/-! ### statements -/
variable {st : Stmt} {rest sts : List Stmt} {t u : AS}
def aNext (A : AEnds) (Γ : Gm) (M : Mm) : Prop := A.nx Γ M
def aSeq (t u : AS) (A : AEnds) (Γ : Gm) (M : Mm) : Prop := t { A with nx := u A } Γ M
def aBreak (A : AEnds) (Γ : Gm) (M : Mm) : Prop := A.bk Γ M
def aCont (A : AEnds) (Γ : Gm) (M : Mm) : Prop := A.ct Γ M
def aDrop (ta : AE) (A : AEnds) (Γ : Gm) (M : Mm) : Prop := ta Γ M fun _ M1 => A.nx Γ M1
def aRet (ta : AE) (A : AEnds) (Γ : Gm) (M : Mm) : Prop := ta Γ M A.rt
def aRetN (A : AEnds) (Γ : Gm) (M : Mm) : Prop := A.rt .non M
def aIfS (c : AT) (t u : AS) (A : AEnds) (Γ : Gm) (M : Mm) : Prop := c Γ M fun b M1 => (b = true → t A Γ M1) ∧ (b = false → u A Γ M1)
def aNever (A : AEnds) (Γ : Gm) (M : Mm) : Prop := False
def aSet (i : Nat) (ta : AE) (A : AEnds) (Γ : Gm) (M : Mm) : Prop := ta Γ M fun d M1 => A.nx (Γ.set i (some d)) M1
def aPar_k (i : Nat) (j : Nat) (A : AEnds) (Γ : Gm)  (ds : List D) (M1 : Mm) : Prop := match ds with
  | [d, e] => A.nx ((Γ.set i (some d)).set j (some e)) M1
  | _ => False
def aPar (i j : Nat) (tr : AA) (A : AEnds) (Γ : Gm) (M : Mm) : Prop := tr Γ M fun ds M1 => aPar_k i j A Γ ds M1
def aPar3_k (i : Nat) (j : Nat) (l : Nat) (A : AEnds) (Γ : Gm)  (ds : List D) (M1 : Mm) : Prop := match ds with
  | [d, e, f] => A.nx (((Γ.set i (some d)).set j (some e)).set l (some f)) M1
  | _ => False
def aPar3 (i j l : Nat) (tr : AA) (A : AEnds) (Γ : Gm) (M : Mm) : Prop := tr Γ M fun ds M1 => aPar3_k i j l A Γ ds M1
def aAug (i : Nat) (f : A2) (ta : AE) (A : AEnds) (Γ : Gm) (M : Mm) : Prop := onSlot Γ[i]? fun d => ta Γ M fun e M1 => f d e M1 fun g M2 => A.nx (Γ.set i (some g)) M2
/-- something is forgotten or frozen -/
def aGh (t : AS) (A : AEnds) (Γ : Gm) (M : Mm) : Prop := ∃ Γ' M', Fz Γ M Γ' M' ∧ t A Γ' M'

theorem dss_nil : DSs X T [] aNext := dss_of pss_nil fun F σ H Γ M A D w q m => m.nx Γ M σ F H (Same.refl F) w.v w.h q
theorem met_nx {A : AEnds} {D : Ends} {g : Gm → Mm → Prop} {k : St → Hp → Prop} (m : Met K T F A D) (h : ∀ Γ' M' σ' F' H', Same F F' → Vw K F' σ' Γ' → Hs K T.B M' F' H' → g Γ' M' → k σ' H') : Met K T F { A with nx := g } { D with nx := k } := ⟨h, m.rt, m.bk, m.ct⟩
theorem dss_cons (h1 : DS X T st t) (h2 : DSs X T rest u) : DSs X T (st :: rest) (aSeq t u) :=
  dss_of (pss_cons h1 h2) fun F σ H Γ M A D w q m => cS_mk w q (met_nx m fun Γ' M' σ' F' H' s v h q' => cS_mk ⟨v, h, w.l.mono s⟩ q' (m.mono s))
theorem dss_one (h1 : DS X T st t) : DSs X T [st] t := pss_one h1
theorem ds_pass : DS X T (.Pass pos) aNext := ds_of ps_pass fun F σ H Γ M A D w q m => m.nx Γ M σ F H (Same.refl F) w.v w.h q
theorem ds_break : DS X T (.Break pos) aBreak := ds_of ps_break fun F σ H Γ M A D w q m => m.bk Γ M σ F H (Same.refl F) w.v w.h q
theorem ds_continue : DS X T (.Continue pos) aCont := ds_of ps_continue fun F σ H Γ M A D w q m => m.ct Γ M σ F H (Same.refl F) w.v w.h q
theorem ds_never : DS X T st aNever := ds_of ps_never fun F σ H Γ M A D w q m => q
theorem dss_never : DSs X T sts aNever := dss_of pss_never fun F σ H Γ M A D w q m => q
theorem ds_expr (he : DE X T e ta) (hs : swapsWith e none pos.line X.env = pure false := by rfl) : DS X T (.Expr e pos) (aDrop ta) :=
  ds_of (ps_expr he hs) fun F σ H Γ M A D w q m => cE_mk w q fun d M1 v F1 H1 s1 h1 i1 q1 => m.nx Γ M1 σ F1 H1 s1 (w.v.mono s1) h1 q1
theorem ds_ret (he : DE X T e ta) : DS X T (.Return (some e) pos) (aRet ta) :=
  ds_of (ps_ret he) fun F σ H Γ M A D w q m => cE_mk w q fun d M1 v F1 H1 s1 h1 i1 q1 => m.rt d M1 v F1 H1 s1 h1 i1 q1
theorem ds_retN : DS X T (.Return none pos) aRetN := ds_of ps_retN fun F σ H Γ M A D w q m => m.rt .non M .non F H (Same.refl F) w.h .non q
theorem ds_if {p q : List Stmt} (hc : DT X T c tA) (ha : DSs X T p t) (hb : DSs X T q u) : DS X T (.If c p q pos) (aIfS tA t u) :=
  ds_of (ps_if hc ha hb) fun F σ H Γ M A D w q m => cT_mk w q fun b M1 F1 H1 s1 h1 q1 => by
    cases b with
    | true => exact cS_mk (w.go s1 h1) (q1.1 rfl) (m.mono s1)
    | false => exact cS_mk (w.go s1 h1) (q1.2 rfl) (m.mono s1)
theorem ds_set {i : Nat} {x : Str} {pos' : Pos} (hN : X.N.Nodup) (hi : X.N[i]? = some x) (hx : Loc X.env.scope x) (he : DE X T e ta) (hs : swapsWith e (some (.Name x pos')) pos.line X.env = pure false := by rfl) (hf : X.fn x = true ∨ X.env.scope.names.lookup x = some .local := by first | exact .inl rfl | exact .inr rfl | assumption) :
    DS X T (.Assign [.Name x pos'] e pos) (aSet i ta) :=
  ds_of (ps_set hN hi hx he hs hf) fun F σ H Γ M A D w q m => cE_mk w q fun d M1 v F1 H1 s1 h1 i1 q1 => m.nx _ M1 _ F1 H1 s1 ((w.v.mono s1).set i1 i) h1 q1
theorem ds_par {i j : Nat} {x y : Str} {px py pt : Pos} {kt k2 pt2} (hc : X.calm = true) (hN : X.N.Nodup) (hi : X.N[i]? = some x) (hj : X.N[j]? = some y) (hij : i ≠ j)
    (hx : X.env.scope.names.lookup x = some .local) (hy : X.env.scope.names.lookup y = some .local) (ha : DA X T [a, b] tr)
    (hw : swappedStores [.Tuple [.Name x px, .Name y py] kt pt] (.Tuple [a, b] k2 pt2) X.env = pure (some [x, y]) := by rfl)
    (hs : swapsWithSole [.Tuple [.Name x px, .Name y py] kt pt] (.Tuple [a, b] k2 pt2) pos.line X.env = pure false := by rfl) :
    DS X T (.Assign [.Tuple [.Name x px, .Name y py] kt pt] (.Tuple [a, b] k2 pt2) pos) (aPar i j tr) :=
  ds_of (ps_par hc hN hi hj hij hx hy ha hw hs) fun F σ H Γ M A D w q m => cA_mk w q fun ds M1 vs F1 H1 s1 h1 i1 q1 => by
    match ds, i1, q1 with
    | [d, e], .cons k1 (.cons k2 .nil), q1 => exact ⟨_, _, rfl, m.nx _ M1 _ F1 H1 s1 (((w.v.mono s1).set k1 i).set k2 j) h1 q1⟩
    | [], _, q1 => exact q1.elim
    | [_], _, q1 => exact q1.elim
    | _ :: _ :: _ :: _, _, q1 => exact q1.elim
theorem ds_par3 {i j l : Nat} {x y z : Str} {px py pz pt : Pos} {kt k2 pt2} (hc : X.calm = true) (hN : X.N.Nodup) (hi : X.N[i]? = some x) (hj : X.N[j]? = some y) (hl : X.N[l]? = some z) (hij : i ≠ j) (hil : i ≠ l) (hjl : j ≠ l)
    (hx : X.env.scope.names.lookup x = some .local) (hy : X.env.scope.names.lookup y = some .local) (hz : X.env.scope.names.lookup z = some .local) (ha : DA X T [a, b, c] tr)
    (hw : swappedStores [.Tuple [.Name x px, .Name y py, .Name z pz] kt pt] (.Tuple [a, b, c] k2 pt2) X.env = pure (some [x, y, z]) := by rfl)
    (hs : swapsWithSole [.Tuple [.Name x px, .Name y py, .Name z pz] kt pt] (.Tuple [a, b, c] k2 pt2) pos.line X.env = pure false := by rfl) :
    DS X T (.Assign [.Tuple [.Name x px, .Name y py, .Name z pz] kt pt] (.Tuple [a, b, c] k2 pt2) pos) (aPar3 i j l tr) :=
  ds_of (ps_par3 hc hN hi hj hl hij hil hjl hx hy hz ha hw hs) fun F σ H Γ M A D w q m => cA_mk w q fun ds M1 vs F1 H1 s1 h1 i1 q1 => by
    match ds, i1, q1 with
    | [d, e, f], .cons k1 (.cons k2 (.cons k3 .nil)), q1 => exact ⟨_, _, _, rfl, m.nx _ M1 _ F1 H1 s1 ((((w.v.mono s1).set k1 i).set k2 j).set k3 l) h1 q1⟩
    | [], _, q1 => exact q1.elim
    | [_], _, q1 => exact q1.elim
    | [_, _], _, q1 => exact q1.elim
    | _ :: _ :: _ :: _ :: _, _, q1 => exact q1.elim
/-- in-place operators, by values -/
def IpR (X : Cx) (op : Operator) (r : R2) : Prop := PIp X op r
theorem ipr_of {op : Operator} {r : R2} (h : OpR X (inplaceOp op) r) : PIp X op r := fun pins s σ H x y v u Q I rx ry q => h pins s σ H x y v u Q I rx ry q
theorem ds_aug {i : Nat} {x : Str} {op : Operator} {r : R2} {f : A2} {pos' : Pos} (hN : X.N.Nodup) (hi : X.N[i]? = some x) (hx : Loc X.env.scope x) (ho : PIp X op r) (hr : Ab2 X.K T.B r f) (he : DE X T e ta) (hf : X.fn x = true ∨ X.env.scope.names.lookup x = some .local := by first | exact .inl rfl | exact .inr rfl | assumption) :
    DS X T (.AugAssign (.Name x pos') op e pos) (aAug i f ta) :=
  ds_of (ps_aug hN hi hx he ho hf) fun F σ H Γ M A D w q m => by
    unfold aAug onSlot at q
    (first | split at q | (unfold aAsg_k onGm at q; split at q) | (unfold aSetIx_k at q; split at q) | (unfold aItS_k at q; split at q) | (unfold aRng1_k at q; split at q) | (unfold aRng2_k at q; split at q))
    · rename_i d hd
      obtain ⟨x, h1, h2⟩ := w.v.get i d hd
      exact ⟨x, h1, cE_mk w q fun d M1 v F1 H1 s1 h1 i1 q1 => hr F1 H1 _ _ _ _ M1 _ _ h1 (h2.mono s1) i1 q1 fun g M2 v F2 H2 s2 h2 i2 q2 => m.nx _ M2 _ F2 H2 (s1.trans s2) ((w.v.mono (s1.trans s2)).set i2 i) h2 q2⟩
    · exact q.elim
theorem Vw.reread {d0 d1 : D} (v : Vw K F σ Γ) {i : Nat} (hi : Γ[i]? = some (some d0)) (c : ∀ x, Is K F x d0 → Is K F x d1) : Vw K F σ (Γ.set i (some d1)) := by
  have hl : i < Γ.length := (List.getElem?_eq_some_iff.mp hi).1
  refine ⟨by rw [List.length_set]; exact v.len, fun j e hj => ?_⟩
  by_cases hij : i = j
  · subst hij
    rw [List.getElem?_set_self hl] at hj
    cases hj
    obtain ⟨x, h1, h2⟩ := v.get i d0 hi
    exact ⟨x, h1, c x h2⟩
  · rw [List.getElem?_set_ne hij] at hj
    exact v.get j e hj
theorem fz_see (w : See K T F σ H Γ M) {Γ' : Gm} {M' : Mm} (z : Fz Γ M Γ' M') : ∃ F', Same F F' ∧ See K T F' σ H Γ' M' := by
  induction z generalizing F with
  | refl => exact ⟨F, Same.refl F, w⟩
  | lst i hi d _ ih =>
    obtain ⟨F1, s1, h1, i1⟩ := w.h.freeze d
    obtain ⟨F2, s2, w2⟩ := ih ⟨(w.v.mono s1).reread hi fun x h => (by cases h; exact i1), h1, w.l.mono s1⟩
    exact ⟨F2, s1.trans s2, w2⟩
  | ins i hi d _ ih =>
    obtain ⟨F1, s1, h1, i1⟩ := w.h.freezeI d
    obtain ⟨F2, s2, w2⟩ := ih ⟨(w.v.mono s1).reread hi fun x h => (by cases h; exact i1), h1, w.l.mono s1⟩
    exact ⟨F2, s1.trans s2, w2⟩
  | no i _ ih => exact ih ⟨w.v.unset i, w.h, w.l⟩
  | less s _ ih => exact ih ⟨w.v, w.h.less s, w.l⟩
theorem dss_gh (h : DSs X T sts t) : DSs X T sts (aGh t) := dss_of h fun F σ H Γ M A D w q m => by
  obtain ⟨Γ', M', z, q⟩ := q
  obtain ⟨F1, s1, w1⟩ := fz_see w z
  exact cS_mk w1 q (m.mono s1)
theorem ds_gh (h : DS X T st t) : DS X T st (aGh t) := ds_of h fun F σ H Γ M A D w q m => by
  obtain ⟨Γ', M', z, q⟩ := q
  obtain ⟨F1, s1, w1⟩ := fz_see w z
  exact cS_mk w1 q (m.mono s1)

/-! ### targets -/
abbrev AG := D → Gm → Option Gm
abbrev AGs := List D → Gm → Option Gm
def cG (K : PySem.W.Frag) (vs : List Nat) (ag : AG) : TG := fun x σ H Q => ∃ F d Γ Γ', Vw K F σ Γ ∧ Same F H ∧ Is K F x d ∧ ag d Γ = some Γ' ∧ ∀ σ', Vw K F σ' Γ' → (∀ ws, (∀ i ∈ vs, i ∈ ws) → wipe σ' ws = wipe σ ws) → Q σ' H
def cGs (K : PySem.W.Frag) (n : Nat) (vs : List Nat) (ag : AGs) : TGs := fun xs σ H Q => ∃ F ds Γ Γ', Vw K F σ Γ ∧ Same F H ∧ IsL K F xs ds ∧ ag ds Γ = some Γ' ∧ ds.length = n ∧ ∀ σ', Vw K F σ' Γ' → (∀ ws, (∀ i ∈ vs, i ∈ ws) → wipe σ' ws = wipe σ ws) → Q σ' H
def DG (X : Cx) (e : Expr) (vs : List Nat) (ag : AG) : Prop := PG X e (cG X.K vs ag)
def DGs (X : Cx) (es : List Expr) (n : Nat) (vs : List Nat) (ag : AGs) : Prop := PGs X es (cGs X.K n vs ag)
theorem wipe_set {σ : St} {i : Nat} {x : Option V} : ∀ {ws : List Nat}, i ∈ ws → wipe (σ.set i x) ws = wipe σ ws
  | [], h => absurd h (by simp)
  | j :: ws, h => by
    by_cases hi : i ∈ ws
    · show (wipe (σ.set i x) ws).set j none = (wipe σ ws).set j none
      rw [wipe_set hi]
    · have e : i = j := by
        rcases List.mem_cons.mp h with e | h
        · exact e
        · exact absurd h hi
      subst e
      have go : ∀ ws : List Nat, i ∉ ws → wipe (σ.set i x) ws = (wipe σ ws).set i x := by
        intro ws
        induction ws with
        | nil => intro _; rfl
        | cons k ws ih =>
          intro hn
          show (wipe (σ.set i x) ws).set k none = ((wipe σ ws).set k none).set i x
          rw [ih fun h => hn (List.mem_cons_of_mem _ h), List.set_comm _ _ fun e => hn (by rw [e]; exact List.mem_cons_self)]
      show (wipe (σ.set i x) ws).set i none = (wipe σ ws).set i none
      rw [go ws hi, List.set_set]
theorem pg_imp {tg : Expr} {g g' : TG} (h : PG X tg g) (k : ∀ v σ H Q, g' v σ H Q → g v σ H Q) : PG X tg g' := ⟨fun pins s σ H v u Q I r q => h.run pins s σ H v u Q I r (k v σ H Q q)⟩
theorem pgs_imp {tg : List Expr} {g g' : TGs} (h : PGs X tg g) (k : ∀ v σ H Q, g' v σ H Q → g v σ H Q) : PGs X tg g' := ⟨fun pins s σ H v u Q I r q => h.run pins s σ H v u Q I r (k v σ H Q q)⟩
def agName (i : Nat) (d : D) (Γ : Gm) : Option Gm := some (Γ.set i (some d))
theorem dg_name {i : Nat} {x : Str} (hN : X.N.Nodup) (hi : X.N[i]? = some x) (hx : Loc X.env.scope x) (hf : X.fn x = true ∨ X.env.scope.names.lookup x = some .local := by first | exact .inl rfl | exact .inr rfl | assumption) : DG X (.Name x pos) [i] (agName i) :=
  pg_imp (pg_name hN hi hx hf) fun v σ H Q ⟨F, d, Γ, Γ', w, s, i1, e, k⟩ => by
    cases e
    exact k _ (w.set i1 i) fun ws hw => wipe_set (hw i (by simp))
def agNil (ds : List D) (Γ : Gm) : Option Gm := match ds with
  | [] => some Γ
  | _ => none
def agCons (g : AG) (gs : AGs) (ds : List D) (Γ : Gm) : Option Gm := match ds with
  | d :: ds => (g d Γ).bind fun Γ1 => gs ds Γ1
  | [] => none
theorem dgs_nil : DGs X [] 0 [] agNil := pgs_imp pgs_nil fun v σ H Q ⟨F, ds, Γ, Γ', w, s, i1, e, hl, k⟩ => by
  match ds, i1, e with
  | [], .nil, e =>
    cases e
    exact ⟨rfl, k σ w fun _ _ => rfl⟩
theorem dgs_cons {n : Nat} {vs ws : List Nat} {g : AG} {gs : AGs} (h1 : DG X e vs g) (h2 : DGs X es n ws gs)
    (hs : (assignEach (e :: es) X.env).map (·.2) = assign e X.env :: (assignEach es X.env).map (·.2) := by rfl) : DGs X (e :: es) (n + 1) (vs ++ ws) (agCons g gs) :=
  pgs_imp (pgs_cons h1 h2 hs) fun v σ H Q ⟨F, ds, Γ, Γ', w, s, i1, e, hl, k⟩ => by
    match ds, i1, e with
    | d :: ds, .cons k1 k2, e =>
      rename_i v vs' _
      unfold agCons at e
      split at e
      · rename_i d' ds' hds
        cases hds
        cases h1 : g d Γ with
        | some Γ1 =>
          rw [h1] at e
          exact ⟨_, _, rfl, F, d, Γ, Γ1, w, s, k1, h1, fun σ1 w1 e1 => ⟨F, ds, Γ1, Γ', w1, s, k2, e, by simpa using hl, fun σ2 w2 e2 => k σ2 w2 fun zs hz => (e2 zs fun i hi => hz i (List.mem_append_right _ hi)).trans (e1 zs fun i hi => hz i (List.mem_append_left _ hi))⟩⟩
        | none =>
          rw [h1] at e
          cases e
      · cases e
def agTup (gs : AGs) (d : D) (Γ : Gm) : Option Gm := match d with
  | .tup ds => gs ds Γ
  | _ => none
def agLst (gs : AGs) (d : D) (Γ : Gm) : Option Gm := match d with
  | .lst ds => gs ds Γ
  | _ => none
/-- the number of items is told by success -/
def AGs.Fix (gs : AGs) (n : Nat) : Prop := ∀ ds Γ Γ', gs ds Γ = some Γ' → ds.length = n
theorem fix_nil : AGs.Fix agNil 0 := fun ds Γ Γ' h => by
  cases ds with
  | nil => rfl
  | cons _ _ => cases h
theorem fix_cons {g : AG} {gs : AGs} {n : Nat} (h : AGs.Fix gs n) : AGs.Fix (agCons g gs) (n + 1) := fun ds Γ Γ' e => by
  cases ds with
  | nil => cases e
  | cons d ds =>
    unfold agCons at e
    split at e
    · rename_i d' ds' hds
      cases hds
      cases h1 : g d Γ with
      | some Γ1 =>
        rw [h1] at e
        exact congrArg (· + 1) (h ds _ _ e)
      | none =>
        rw [h1] at e
        cases e
    · cases e
theorem dg_tup {k : Nat} {n : Nat} {vs : List Nat} {gs : AGs} (hc : X.calm = true) (h : DGs X es n vs gs) (hfx : AGs.Fix gs n)
    (hn : (assignEach es X.env).length = n := by rfl) (hst : (assignEach es X.env).findIdx? (·.1) = none := by rfl) : DG X (.Tuple es k pos) vs (agTup gs) :=
  pg_imp (pg_tup hc h hn hst) fun v σ H Q ⟨F, d, Γ, Γ', w, s, i1, e, k⟩ => by
    unfold agTup at e
    split at e
    · rename_i ds
      cases i1 with
      | tup hq hl =>
        have hlen := hfx ds Γ Γ' e
        exact ⟨_, _, rfl, same_t s hq, hl.length.trans hlen, F, ds, Γ, Γ', w, s, hl, e, hlen, k⟩
    · cases e
theorem dg_lst {k : Nat} {n : Nat} {vs : List Nat} {gs : AGs} (hc : X.calm = true) (h : DGs X es n vs gs) (hfx : AGs.Fix gs n)
    (hn : (assignEach es X.env).length = n := by rfl) (hst : (assignEach es X.env).findIdx? (·.1) = none := by rfl) : DG X (.Tuple es k pos) vs (agLst gs) :=
  pg_imp (pg_lst hc h hn hst) fun v σ H Q ⟨F, d, Γ, Γ', w, s, i1, e, k⟩ => by
    unfold agLst at e
    split at e
    · rename_i ds
      cases i1 with
      | lst hq hl =>
        have hlen := hfx ds Γ Γ' e
        exact ⟨_, _, rfl, s.seq hq, hl.length.trans hlen, F, ds, Γ, Γ', w, s, hl, e, hlen, k⟩
    · cases e
/-- target = e -/
def onGm (o : Option Gm) (k : Gm → Prop) : Prop := match o with
  | some Γ => k Γ
  | none => False
def aAsg_k (g : AG) (A : AEnds) (Γ : Gm) (d : D) (M1 : Mm) : Prop := onGm (g d Γ) fun Γ' => A.nx Γ' M1
def aAsg (ta : AE) (g : AG) (A : AEnds) (Γ : Gm) (M : Mm) : Prop := ta Γ M fun d M1 => aAsg_k g A Γ d M1
theorem ds_asg {tg : Expr} {vs : List Nat} {g : AG} (he : DE X T e ta) (hg : DG X tg vs g) (hs : swapsWithSole [tg] e pos.line X.env = pure false := by rfl) (hw : swappedStores [tg] e X.env = pure none := by rfl)
    (h1 : (assignEach [tg] X.env).map (·.2) = [assign tg X.env] := by rfl) : DS X T (.Assign [tg] e pos) (aAsg ta g) :=
  ds_of (ps_asg he hg hs hw h1) fun F σ H Γ M A D w q m => cE_mk w q fun d M1 v F1 H1 s1 h1 i1 q1 => by
    (first | split at q1 | (unfold aAsg_k onGm at q1; split at q1) | (unfold aSetIx_k at q1; split at q1) | (unfold aItS_k at q1; split at q1) | (unfold aRng1_k at q1; split at q1) | (unfold aRng2_k at q1; split at q1))
    · rename_i Γ' hg
      exact ⟨F1, d, Γ, Γ', w.v.mono s1, h1.sub, i1, hg, fun σ' w' _ => m.nx Γ' M1 σ' F1 H1 s1 w' h1 q1⟩
    · exact q1.elim
/-- o[i] = e, a mutable list -/
def ixN' (n : Nat) (i : Int) : Option Nat := ixN n i
def aSetIx_k (A : AEnds) (Γ : Gm) (d : D) (o : D) (i : D) (M3 : Mm) : Prop := match o, i with
  | .ref l, .int k => ∃ xs j M4, ixN xs.length k = some j ∧ Up M3 l (.lst xs) (.lst (xs.set j d)) M4 ∧ A.nx Γ M4
  | _, _ => False
def aSetIx (ta to ti : AE) (A : AEnds) (Γ : Gm) (M : Mm) : Prop := ta Γ M fun d M1 => to Γ M1 fun o M2 => ti Γ M2 fun i M3 => aSetIx_k A Γ d o i M3
theorem hs_setL {l : Addr} {xs : List D} {j : Nat} {v : V} {d : D} {M4 : Mm} (h : Hs K B M F H) (i : Is K F v d) (u : Up M l (.lst xs) (.lst (xs.set j d)) M4) : ∃ vs, H l = some (.lst vs) ∧ IsL K F vs xs ∧ Hs K B M4 F (upd H l (.lst (vs.set j v))) := by
  obtain ⟨vs, e, z⟩ := h.lst u.mem
  exact ⟨vs, e, z, h.put u ⟨_, upd_same, z.set i j⟩⟩
theorem ds_setIx {o i : Expr} {to ti : AE} {tpos : Pos} (he : DE X T e ta) (ho : DE X T o to) (hi : DE X T i ti)
    (ha : ∀ v, assign (.Subscript o i tpos) X.env v = (do
      let ov ← holding [v] (eval o X.env)
      let iv ← holding [v, ov] (eval i X.env)
      standAt tpos
      holding [v, ov, iv] (setItem ov iv v)
      release [v, ov, iv] []) := by intro _; rfl)
    (hs : swapsWithSole [.Subscript o i tpos] e pos.line X.env = pure false := by rfl) (hw : swappedStores [.Subscript o i tpos] e X.env = pure none := by rfl)
    (h1 : (assignEach [.Subscript o i tpos] X.env).map (·.2) = [assign (.Subscript o i tpos) X.env] := by rfl) : DS X T (.Assign [.Subscript o i tpos] e pos) (aSetIx ta to ti) :=
  ds_of (ps_asg he (pg_sub ho hi set_list ha) hs hw h1) fun F σ H Γ M A D w q m => cE_mk w q fun d M1 v F1 H1 s1 h1 i1 q1 => cE_mk (w.go s1 h1) q1 fun o M2 ov F2 H2 s2 h2 i2 q2 => cE_mk ((w.go s1 h1).go s2 h2) q2 fun k M3 kv F3 H3 s3 h3 i3 q3 => by
    (first | split at q3 | (unfold aAsg_k onGm at q3; split at q3) | (unfold aSetIx_k at q3; split at q3) | (unfold aItS_k at q3; split at q3) | (unfold aRng1_k at q3; split at q3) | (unfold aRng2_k at q3; split at q3))
    · rename_i l k
      obtain ⟨xs, j, M4, e1, u, q3⟩ := q3
      cases i2
      cases i3
      obtain ⟨vs, e2, z, h4⟩ := hs_setL h3 (i1.mono (s2.trans s3)) u
      exact ⟨l, vs, k, j, rfl, rfl, e2, by rw [z.length]; exact e1, m.nx Γ M4 σ F3 _ ((s1.trans s2).trans s3) (w.v.mono ((s1.trans s2).trans s3)) h4 q3⟩
    · exact q3.elim

/-! ### while -/
def aWhile (t : AT) (tb : AS) (A : AEnds) (Γ : Gm) (M : Mm) : Prop := ∃ I : Nat → Gm → Mm → Prop, (∃ n, I n Γ M) ∧ ∀ n Γ' M', I n Γ' M' → t Γ' M' fun b M1 => (b = true → tb { nx := fun Γ2 M2 => ∃ m, m < n ∧ I m Γ2 M2, rt := A.rt, bk := A.nx, ct := fun Γ2 M2 => ∃ m, m < n ∧ I m Γ2 M2 } Γ' M1) ∧ (b = false → A.nx Γ' M1)
theorem ds_while {body : List Stmt} {tb : AS} (hp : PassesOwn (model X.prog X.w) X.A X.env X.xe) (hc : DT X T c tA) (hb : DSs X T body tb) : DS X T (.While c body [] pos) (aWhile tA tb) :=
  ds_of (ps_while hp hc hb) fun F σ H Γ M A D w q m => by
    obtain ⟨I, ⟨n, i0⟩, turn⟩ := q
    refine ⟨fun n σ' H' => ∃ F' Γ' M', Same F F' ∧ Vw X.K F' σ' Γ' ∧ Hs X.K T.B M' F' H' ∧ I n Γ' M', ⟨n, F, Γ, M, Same.refl F, w.v, w.h, i0⟩, ?_⟩
    rintro n σ' H' ⟨F', Γ', M', s', v', h', i'⟩
    have w' : See X.K T F' σ' H' Γ' M' := ⟨v', h', w.l.mono s'⟩
    refine cT_mk w' (turn n Γ' M' i') fun b M1 F1 H1 s1 h1 q1 => ?_
    cases b with
    | true =>
      rw [if_pos rfl]
      refine ⟨fun σ2 H2 => ∃ m, m < n ∧ ∃ F' Γ' M', Same F F' ∧ Vw X.K F' σ2 Γ' ∧ Hs X.K T.B M' F' H2 ∧ I m Γ' M', fun σ2 H2 z => z, ?_⟩
      refine cS_mk (w'.go s1 h1) (q1.1 rfl) ⟨fun Γ2 M2 σ2 F2 H2 s2 v2 h2 ⟨m, hm, im⟩ => ⟨m, hm, F2, Γ2, M2, (s'.trans s1).trans s2, v2, h2, im⟩, fun d M2 v F2 H2 s2 => m.rt d M2 v F2 H2 ((s'.trans s1).trans s2), fun Γ2 M2 σ2 F2 H2 s2 => m.nx Γ2 M2 σ2 F2 H2 ((s'.trans s1).trans s2), fun Γ2 M2 σ2 F2 H2 s2 v2 h2 ⟨m, hm, im⟩ => ⟨m, hm, F2, Γ2, M2, (s'.trans s1).trans s2, v2, h2, im⟩⟩
    | false =>
      rw [if_neg Bool.false_ne_true]
      exact m.nx Γ' M1 σ' F1 H1 (s'.trans s1) (v'.mono s1) h1 (q1.2 rfl)

/-! ### what is walked -/
def Walks (K : PySem.W.Frag) (B : Bx) (J : It) (F : Hp) (ds : List D) : Prop := ∀ i F' H' M', Same F F' → Hs K B M' F' H' → i ≤ ds.length →
  (∀ d, ds[i]? = some d → J.go i H' ∧ ∀ x H'', J.yld i H' x H'' → ∃ F'', Same F' F'' ∧ Hs K B M' F'' H'' ∧ Is K F'' x d) ∧ (i = ds.length → J.stop i H')
abbrev AI := Gm → Mm → (List D → Mm → Prop) → Prop
def cI (K : PySem.W.Frag) (T : Ct) (ai : AI) : TI := fun σ H R => ∃ F Γ M Φ, See K T F σ H Γ M ∧ ai Γ M Φ ∧ ∀ ds M' J F' H', Same F F' → Hs K T.B M' F' H' → Walks K T.B J F' ds → Φ ds M' → R J H'
def DI (X : Cx) (T : Ct) (tg e : Expr) (ai : AI) : Prop := PI X tg e (cI X.K T ai)
theorem di_of {tg e : Expr} {wi : TI} {ai : AI} (h : PI X tg e wi) (k : ∀ F σ H Γ M Φ R, See X.K T F σ H Γ M → ai Γ M Φ → (∀ ds M' J F' H', Same F F' → Hs X.K T.B M' F' H' → Walks X.K T.B J F' ds → Φ ds M' → R J H') → wi σ H R) : DI X T tg e ai :=
  ⟨fun pins s σ H R I ⟨F, Γ, M, Φ, w, q, z⟩ => h.run pins s σ H R I (k F σ H Γ M Φ R w q z)⟩
theorem walks_list {l : Addr} {vs : List V} {ds : List D} (h : SqL K F l vs) (z : IsL K F vs ds) : Walks K B (Itl K l) F ds := fun i F' H' M' s h' hi =>
  have q : SqL K H' l vs := h'.sub.seq (s.seq h)
  ⟨fun d hd => by
    obtain ⟨v, e, iv⟩ := z.get hd
    exact ⟨⟨vs, v, q, e⟩, fun x H'' y => by
      obtain ⟨e1, y⟩ := y
      subst e1
      have ex : x = v := Option.some.inj ((y vs q).symm.trans e)
      subst ex
      exact ⟨F', Same.refl F', h', iv.mono s⟩⟩, fun e => ⟨vs, q, by rw [z.length, e]; exact Nat.le_refl _⟩⟩
theorem walks_tup {l : Addr} {vs : List V} {ds : List D} (h : SqT K F l vs) (z : IsL K F vs ds) : Walks K B (Itt K l) F ds := fun i F' H' M' s h' hi =>
  have q : SqT K H' l vs := same_t h'.sub (same_t s h)
  ⟨fun d hd => by
    obtain ⟨v, e, iv⟩ := z.get hd
    exact ⟨⟨vs, v, q, e⟩, fun x H'' y => by
      obtain ⟨e1, y⟩ := y
      subst e1
      have ex : x = v := Option.some.inj ((y vs q).symm.trans e)
      subst ex
      exact ⟨F', Same.refl F', h', iv.mono s⟩⟩, fun e => ⟨vs, q, by rw [z.length, e]; exact Nat.le_refl _⟩⟩
def rngD (lo : Int) (n : Nat) : List D := (List.range n).map fun i => .int (lo + (i : Nat))
theorem rngD_len (lo : Int) (n : Nat) : (rngD lo n).length = n := by unfold rngD; rw [List.length_map, List.length_range]
theorem rngD_get {lo : Int} {n i : Nat} {d : D} (h : (rngD lo n)[i]? = some d) : i < n ∧ d = .int (lo + (i : Nat)) := by
  unfold rngD at h
  rw [List.getElem?_map] at h
  by_cases hi : i < n
  · rw [List.getElem?_range hi] at h
    cases h
    exact ⟨hi, rfl⟩
  · rw [List.getElem?_eq_none (by rw [List.length_range]; omega)] at h
    cases h
theorem walks_rng {lo : Int} {n : Nat} : Walks K B (Itr lo n) F (rngD lo n) := fun i F' H' M' s h' hi =>
  ⟨fun d hd => by
    obtain ⟨h1, rfl⟩ := rngD_get hd
    exact ⟨h1, fun x H'' y => by
      obtain ⟨e1, e2⟩ := y
      subst e1 e2
      exact ⟨F', Same.refl F', h', .int _⟩⟩, fun e => by
    rw [rngD_len] at e
    subst e
    exact Nat.le_refl _⟩
/-- a list or a tuple -/
def aItS_k (Φ : List D → Mm → Prop)  (d : D) (M1 : Mm) : Prop := match d with
  | .lst ds => Φ ds M1
  | .tup ds => Φ ds M1
  | _ => False
def aItS (ta : AE) (Γ : Gm) (M : Mm) (Φ : List D → Mm → Prop) : Prop := ta Γ M fun d M1 => aItS_k Φ d M1
theorem pi_or {tg e : Expr} {w1 w2 : TI} (h1 : PI X tg e w1) (h2 : PI X tg e w2) : PI X tg e (fun σ H R => w1 σ H R ∨ w2 σ H R) := ⟨fun pins s σ H R I q => q.elim (h1.run pins s σ H R I) (h2.run pins s σ H R I)⟩
/-- an expression that is a list or a tuple, walked -/
def tEither (K : PySem.W.Frag) (te : TE) : TI := fun σ H R => te σ H fun x H1 => ∃ a, x = .ref a ∧ (((∃ xs, SqL K H1 a xs) ∧ R (Itl K a) H1) ∨ ((∃ xs, SqT K H1 a xs) ∧ R (Itt K a) H1))
theorem pi_either {tg e : Expr} {te : TE} (he : PE X e te) : PI X tg e (tEither X.K te) := by
  refine ⟨fun pins s σ H R I h => ?_⟩
  refine thn (he.run pins s σ H _ I h) fun v s1 ⟨x, H1, I1, r1, q1⟩ => ?_
  obtain ⟨a, e, q⟩ := q1
  subst e
  cases r1
  rcases q with ⟨⟨xs, hq⟩, q⟩ | ⟨⟨xs, hq⟩, q⟩
  · obtain ⟨its, rv, p, hz⟩ := I1.list hq
    refine wpAny_pyIter_list p.isList ?_
    refine ⟨s1.heap.objs.size, [s1.heap.objs.size], _, _, H1, rfl, I1.kept (t' := s1.toks) fun b o e => Heap.get?_push_of_some _ e, turn_list a _, ⟨_, Heap.get?_push_size _ rfl, rfl, rfl⟩, fun b hb => ?_, q⟩
    have e : b = s1.heap.objs.size := by simpa using hb
    subst e
    exact I1.fpOk (Nat.le_refl _) (I1.hok.fresh (Nat.le_refl _))
  · obtain ⟨its, rv, p, hz⟩ := I1.tuple hq
    refine wpAny_pyIter_tuple (show s1.heap.IsTuple a its.toArray from p) ?_
    refine ⟨s1.heap.objs.size, [s1.heap.objs.size], _, _, H1, rfl, I1.kept (t' := s1.toks) fun b o e => Heap.get?_push_of_some _ e, turn_tuple a _, ⟨_, Heap.get?_push_size _ rfl, rfl, rfl⟩, fun b hb => ?_, q⟩
    have e : b = s1.heap.objs.size := by simpa using hb
    subst e
    exact I1.fpOk (Nat.le_refl _) (I1.hok.fresh (Nat.le_refl _))
theorem di_seq {tg : Expr} (h : DE X T e ta) : DI X T tg e (aItS ta) :=
  di_of (pi_either h) fun F σ H Γ M Φ R w q z => cE_mk w q fun d M1 x F1 H1 s1 h1 i1 q1 => by
    cases d with
    | lst ds =>
      cases i1 with
      | lst hq hl => exact ⟨_, rfl, .inl ⟨⟨_, h1.sub.seq hq⟩, z ds M1 _ F1 H1 s1 h1 (walks_list hq hl) q1⟩⟩
    | tup ds =>
      cases i1 with
      | tup hq hl => exact ⟨_, rfl, .inr ⟨⟨_, same_t h1.sub hq⟩, z ds M1 _ F1 H1 s1 h1 (walks_tup hq hl) q1⟩⟩
    | _ => exact q1.elim
def aRng1_k (Φ : List D → Mm → Prop)  (ds : List D) (M1 : Mm) : Prop := match ds with
  | [.int j] => (-4611686018427387904 ≤ j ∧ j < 4611686018427387904) ∧ Φ (rngD 0 j.toNat) M1
  | _ => False
def aRng1 (tr : AA) (Γ : Gm) (M : Mm) (Φ : List D → Mm → Prop) : Prop := tr Γ M fun ds M1 => aRng1_k Φ ds M1
def aRng2_k (Φ : List D → Mm → Prop)  (ds : List D) (M1 : Mm) : Prop := match ds with
  | [.int i, .int j] => (-4611686018427387904 ≤ i ∧ i < 4611686018427387904 ∧ -4611686018427387904 ≤ j ∧ j < 4611686018427387904) ∧ Φ (rngD i (j - i).toNat) M1
  | _ => False
def aRng2 (tr : AA) (Γ : Gm) (M : Mm) (Φ : List D → Mm → Prop) : Prop := tr Γ M fun ds M1 => aRng2_k Φ ds M1
theorem di_rng2 {tg a b : Expr} {p : Pos} (hg : Gl X "range") (hm : X.mg "range" = none) (ha : DA X T [a, b] tr) (hs : starEach [a, b] X.env = [(false, eval a X.env), (false, eval b X.env)] := by rfl) (hs2 : starEach [b] X.env = [(false, eval b X.env)] := by rfl) :
    DI X T tg (.Call (.Name "range" p) [a, b] [] pos) (aRng2 tr) :=
  di_of (pi_range2 hg hm ha hs hs2) fun F σ H Γ M Φ R w q z => cA_mk w q fun ds M1 vs F1 H1 s1 h1 i1 q1 => by
    match ds, i1, q1 with
    | [.int i, .int j], .cons k1 (.cons k2 .nil), q1 =>
      cases k1
      cases k2
      exact ⟨i, j, rfl, by obtain ⟨⟨q1, q2, q3, q4⟩, _⟩ := q1; exact ⟨by omega, by omega, by omega, by omega⟩, z _ M1 _ F1 H1 s1 h1 walks_rng q1.2⟩
theorem di_rng1 {tg a : Expr} {p : Pos} (hg : Gl X "range") (hm : X.mg "range" = none) (ha : DA X T [a] tr) (hs : starEach [a] X.env = [(false, eval a X.env)] := by rfl) :
    DI X T tg (.Call (.Name "range" p) [a] [] pos) (aRng1 tr) :=
  di_of (pi_range1 hg hm ha hs) fun F σ H Γ M Φ R w q z => cA_mk w q fun ds M1 vs F1 H1 s1 h1 i1 q1 => by
    match ds, i1, q1 with
    | [.int j], .cons k1 .nil, q1 =>
      cases k1
      exact ⟨j, rfl, by have := q1.1; omega, by have := q1.1; omega, z _ M1 _ F1 H1 s1 h1 walks_rng q1.2⟩

end
end DL

set_option Elab.async false
set_option linter.all false
set_option maxRecDepth 100000
set_option maxHeartbeats 2000000
namespace DL
open PySem L2
open RZ (ItzT pi_zipA)

section
variable {X : Cx} {T : Ct} {e a b c : Expr} {pos : Pos} {K : PySem.W.Frag} {F F' F1 H H' H1 : Hp} {σ : St} {Γ : Gm} {M M' : Mm} {ta tb tc : AE} {tA tB : AT} {es : List Expr} {tr : AA} {B : Bx} {st : Stmt} {rest sts : List Stmt} {t u : AS}
/-- new pairs -/
theorem walks_pair {J : It} {G : Hp → Prop} {xs ys : Nat → Option V} {ds : List D} (w : Walk J ds.length G (YPair xs ys)) (hG : ∀ F' M' H', Same F F' → Hs K B M' F' H' → G H')
    (hd : ∀ (i : Nat) d, ds[i]? = some d → ∃ p q, d = .tup [p, q] ∧ ∀ x y, xs i = some x → ys i = some y → Is K F x p ∧ Is K F y q) : Walks K B J F ds := fun i F' H' M' s h' hi =>
  have g := hG F' M' H' s h'
  ⟨fun d hdd => by
    have hlt : i < ds.length := (List.getElem?_eq_some_iff.mp hdd).1
    obtain ⟨p, q, rfl, hpq⟩ := hd i d hdd
    refine ⟨w.goes i H' hlt g, fun x H'' y => ?_⟩
    obtain ⟨T, x1, y1, rfl, hT, rfl, e1, e2⟩ := w.yields i H' x H'' hlt g y
    obtain ⟨i1, i2⟩ := hpq x1 y1 e1 e2
    have nT := h'.free hT
    exact ⟨_, upd_same_ext nT, h'.laid hT, .tup (.inl (.inl upd_same)) (.cons ((i1.mono s).mono (upd_same_ext nT)) (.cons ((i2.mono s).mono (upd_same_ext nT)) .nil))⟩, fun e => by
    subst e
    exact w.stops H' g⟩
def enumD (ds : List D) : List D := (List.range ds.length).zipWith (fun i d => .tup [.int (i : Nat), d]) ds
theorem enumD_len (ds : List D) : (enumD ds).length = ds.length := by unfold enumD; rw [List.length_zipWith, List.length_range, Nat.min_self]
theorem enumD_get {ds : List D} {i : Nat} {d : D} (h : (enumD ds)[i]? = some d) : ∃ x, ds[i]? = some x ∧ d = .tup [.int (i : Nat), x] := by
  unfold enumD at h
  rw [List.getElem?_zipWith] at h
  by_cases hi : i < ds.length
  · rw [List.getElem?_range hi, List.getElem?_eq_getElem hi] at h
    exact ⟨ds[i], List.getElem?_eq_getElem hi, (Option.some.inj h).symm⟩
  · rw [List.getElem?_eq_none (by rw [List.length_range]; omega)] at h
    simp at h
theorem walks_enum {l : Addr} {vs : List V} {ds : List D} (h : SqL K F l vs) (z : IsL K F vs ds) : Walks K B (Ite K l) F (enumD ds) := by
  have w := walk_enum (K := K) (a := l) (xs := vs)
  rw [z.length, ← enumD_len ds] at w
  refine walks_pair w (fun F' M' H' s h' => h'.sub.seq (s.seq h)) fun i d hd => ?_
  obtain ⟨x, hx, rfl⟩ := enumD_get hd
  refine ⟨_, _, rfl, fun p q hp hq => ?_⟩
  cases hp
  obtain ⟨v, e, iv⟩ := z.get hx
  rw [show vs[i]? = some q from hq] at e
  cases e
  exact ⟨.int _, iv⟩
def aEnum_k (Φ : List D → Mm → Prop)  (ds : List D) (M1 : Mm) : Prop := match ds with
  | [.lst xs] => Φ (enumD xs) M1
  | _ => False
def aEnum (tr : AA) (Γ : Gm) (M : Mm) (Φ : List D → Mm → Prop) : Prop := tr Γ M fun ds M1 => aEnum_k Φ ds M1
theorem di_enum {p tpos : Pos} {elts : List Expr} {kk : Nat} (hg : Gl X "enumerate") (hm : X.mg "enumerate" = none) (ha : DA X T [e] tr) (hs : starEach [e] X.env = [(false, eval e X.env)] := by rfl) :
    DI X T (.Tuple elts kk tpos) (.Call (.Name "enumerate" p) [e] [] pos) (aEnum tr) :=
  di_of (pi_enum hg hm ha hs) fun F σ H Γ M Φ R w q z => cA_mk w q fun ds M1 vs F1 H1 s1 h1 i1 q1 => by
    match ds, i1, q1 with
    | [.lst xs], .cons k1 .nil, q1 =>
      cases k1 with
      | lst hq hl => exact ⟨_, _, rfl, h1.sub.seq hq, z _ M1 _ F1 H1 s1 h1 (walks_enum hq hl) q1⟩
def zipD (xs ys : List D) : List D := xs.zipWith (fun x y => .tup [x, y]) ys
theorem zipD_get {xs ys : List D} {i : Nat} {d : D} (h : (zipD xs ys)[i]? = some d) : ∃ x y, xs[i]? = some x ∧ ys[i]? = some y ∧ d = .tup [x, y] := by
  unfold zipD at h
  rw [List.getElem?_zipWith] at h
  split at h
  · rename_i x y hx hy
    exact ⟨x, y, hx, hy, (Option.some.inj h).symm⟩
  · cases h
theorem walks_zipL {l m : Addr} {vs ws : List V} {xs ys : List D} (h : SqL K F l vs) (z : IsL K F vs xs) (h2 : SqL K F m ws) (z2 : IsL K F ws ys) : Walks K B (Itz K l m) F (zipD xs ys) := by
  have w := walk_zip (K := K) (a := l) (b := m) (xs := vs) (ys := ws) (n := (zipD xs ys).length) (by unfold zipD; rw [List.length_zipWith, z.length, z2.length])
  refine walks_pair w (fun F' M' H' s h' => ⟨h'.sub.seq (s.seq h), h'.sub.seq (s.seq h2)⟩) fun i d hd => ?_
  obtain ⟨x, y, hx, hy, rfl⟩ := zipD_get hd
  refine ⟨_, _, rfl, fun p q hp hq => ?_⟩
  obtain ⟨v, e, iv⟩ := z.get hx
  obtain ⟨v', e', iv'⟩ := z2.get hy
  rw [show vs[i]? = some p from hp] at e
  rw [show ws[i]? = some q from hq] at e'
  cases e
  cases e'
  exact ⟨iv, iv'⟩
theorem walk_zipT' {a b : Addr} {xs ys : List V} {n : Nat} (hn : n = min xs.length ys.length) : Walk (ItzT K a b) n (fun H => SqT K H a xs ∧ SqT K H b ys) (YPair (fun i => xs[i]?) (fun i => ys[i]?)) := by
  subst hn
  refine ⟨fun i _ hi q => ?_, fun _ q => ⟨xs, ys, q.1, q.2, by omega⟩, fun i H v H' _ q y => ?_⟩
  · have h1 : i < xs.length := by omega
    have h2 : i < ys.length := by omega
    exact ⟨xs, ys, xs[i], ys[i], q.1, q.2, by simp [h1], by simp [h2]⟩
  · obtain ⟨T, x, z, h1, h2, h3, h4, h5⟩ := y
    exact ⟨T, x, z, h1, h2, h3, h4 xs q.1, h5 ys q.2⟩
theorem walks_zipT {l m : Addr} {vs ws : List V} {xs ys : List D} (h : SqT K F l vs) (z : IsL K F vs xs) (h2 : SqT K F m ws) (z2 : IsL K F ws ys) : Walks K B (ItzT K l m) F (zipD xs ys) := by
  have w := walk_zipT' (K := K) (a := l) (b := m) (xs := vs) (ys := ws) (n := (zipD xs ys).length) (by unfold zipD; rw [List.length_zipWith, z.length, z2.length])
  refine walks_pair w (fun F' M' H' s h' => ⟨same_t h'.sub (same_t s h), same_t h'.sub (same_t s h2)⟩) fun i d hd => ?_
  obtain ⟨x, y, hx, hy, rfl⟩ := zipD_get hd
  refine ⟨_, _, rfl, fun p q hp hq => ?_⟩
  obtain ⟨v, e, iv⟩ := z.get hx
  obtain ⟨v', e', iv'⟩ := z2.get hy
  rw [show vs[i]? = some p from hp] at e
  rw [show ws[i]? = some q from hq] at e'
  cases e
  cases e'
  exact ⟨iv, iv'⟩
def aZip_k (Φ : List D → Mm → Prop)  (ds : List D) (M1 : Mm) : Prop := match ds with
  | [.lst xs, .lst ys] => Φ (zipD xs ys) M1
  | [.tup xs, .tup ys] => Φ (zipD xs ys) M1
  | _ => False
def aZip (tr : AA) (Γ : Gm) (M : Mm) (Φ : List D → Mm → Prop) : Prop := tr Γ M fun ds M1 => aZip_k Φ ds M1
theorem di_zip {e2 : Expr} {p tpos : Pos} {elts : List Expr} {kk : Nat} (hg : Gl X "zip") (hm : X.mg "zip" = none) (ha : DA X T [e, e2] tr)
    (hs : starEach [e, e2] X.env = (false, eval e X.env) :: starEach [e2] X.env := by rfl) (hpl : (backTo pos (starEach [e2] X.env)).any (·.1) = false := by rfl) :
    DI X T (.Tuple elts kk tpos) (.Call (.Name "zip" p) [e, e2] [] pos) (aZip tr) :=
  di_of (pi_zipA hg hm ha hs hpl) fun F σ H Γ M Φ R w q z => cA_mk w q fun ds M1 vs F1 H1 s1 h1 i1 q1 => by
    match ds, i1, q1 with
    | [.lst xs, .lst ys], .cons k1 (.cons k2 .nil), q1 =>
      cases k1 with
      | lst hq hl =>
        cases k2 with
        | lst hq2 hl2 => exact ⟨_, _, _, _, rfl, .inl ⟨h1.sub.seq hq, h1.sub.seq hq2, z _ M1 _ F1 H1 s1 h1 (walks_zipL hq hl hq2 hl2) q1⟩⟩
    | [.tup xs, .tup ys], .cons k1 (.cons k2 .nil), q1 =>
      cases k1 with
      | tup hq hl =>
        cases k2 with
        | tup hq2 hl2 => exact ⟨_, _, _, _, rfl, .inr ⟨same_t h1.sub hq, same_t h1.sub hq2, z _ M1 _ F1 H1 s1 h1 (walks_zipT hq hl hq2 hl2) q1⟩⟩

/-! ### for -/
def aFor (ai : AI) (g : AG) (tb : AS) (A : AEnds) (Γ : Gm) (M : Mm) : Prop := ai Γ M fun ds M1 => ∃ I : Nat → Gm → Mm → Prop, I 0 Γ M1 ∧
  (∀ i d Γ' M', ds[i]? = some d → I i Γ' M' → match g d Γ' with
    | some Γ2 => tb { nx := I (i + 1), rt := A.rt, bk := A.nx, ct := I (i + 1) } Γ2 M'
    | none => False) ∧
  ∀ Γ' M', I ds.length Γ' M' → A.nx Γ' M'
theorem ds_for {tg iter : Expr} {body : List Stmt} {ai : AI} {vs : List Nat} {g : AG} {tb : AS} (hp : PassesOwn (model X.prog X.w) X.A X.env X.xe) (hc : X.calm = true) (hi : DI X T tg iter ai) (hg : DG X tg vs g) (hb : DSs X T body tb)
    (hs : ∀ x, foldedSetIterable iter X.env x = pure x := by intro _; rfl) : DS X T (.For tg iter body [] pos) (aFor ai g tb) :=
  ds_of (ps_for hp hc hi hg hb hs) fun F σ H Γ M A D w q m => ⟨F, Γ, M, _, w, q, fun ds M1 J F1 H1 s1 h1 wk q1 => by
    obtain ⟨I, i0, turn, fin⟩ := q1
    refine ⟨fun i n σ' H' => n = ds.length - i ∧ i ≤ ds.length ∧ ∃ F' Γ' M', Same F1 F' ∧ Vw X.K F' σ' Γ' ∧ Hs X.K T.B M' F' H' ∧ I i Γ' M', ⟨ds.length, by simp, Nat.zero_le _, F1, Γ, M1, Same.refl F1, w.v.mono s1, h1, i0⟩, ?_⟩
    rintro i n σ' H' ⟨rfl, hi, F', Γ', M', s', v', h', i'⟩
    obtain ⟨go, stop⟩ := wk i F' H' M' s' h' hi
    by_cases hlt : i < ds.length
    · obtain ⟨g1, g2⟩ := go ds[i] (List.getElem?_eq_getElem hlt)
      refine .inr ⟨g1, fun σ2 H2 => ∃ F' Γ' M', Same F1 F' ∧ Vw X.K F' σ2 Γ' ∧ Hs X.K T.B M' F' H2 ∧ I (i + 1) Γ' M', fun σ2 H2 z => ⟨ds.length - (i + 1), by omega, rfl, hlt, z⟩, fun x H2 y => ?_⟩
      obtain ⟨F2, s2, h2, ix⟩ := g2 x H2 y
      have t := turn i ds[i] Γ' M' (List.getElem?_eq_getElem hlt) i'
      split at t
      · rename_i Γ2 hg2
        refine ⟨F2, ds[i], Γ', Γ2, v'.mono s2, h2.sub, ix, hg2, fun σ3 v3 _ => cS_mk (T := T) ⟨v3, h2, w.l.mono ((s1.trans s').trans s2)⟩ t ⟨?_, ?_, ?_, ?_⟩⟩
        · exact fun Γ4 M4 σ4 F4 H4 s4 v4 h4 q4 => ⟨F4, Γ4, M4, (s'.trans s2).trans s4, v4, h4, q4⟩
        · exact fun d M4 v F4 H4 s4 => m.rt d M4 v F4 H4 (((s1.trans s').trans s2).trans s4)
        · exact fun Γ4 M4 σ4 F4 H4 s4 => m.nx Γ4 M4 σ4 F4 H4 (((s1.trans s').trans s2).trans s4)
        · exact fun Γ4 M4 σ4 F4 H4 s4 v4 h4 q4 => ⟨F4, Γ4, M4, (s'.trans s2).trans s4, v4, h4, q4⟩
      · exact t.elim
    · have e : i = ds.length := by omega
      subst e
      exact .inl ⟨stop rfl, m.nx Γ' M' σ' F' H' (s1.trans s') v' h' (fin Γ' M' i')⟩⟩

/-! ### list comprehensions -/
def aYes (Γ : Gm) (M : Mm) (Φ : Bool → Mm → Prop) : Prop := Φ true M
/-- ai: the source; g: the target; l: the list under way, seen as one more mutable object -/
def aLc (ai : AI) (g : AG) (tt : AT) (te : AE) (vs : List Nat) (Γ : Gm) (M : Mm) (Φ : AK) : Prop := ai Γ M fun ds M1 => ds.length ≤ 100000 ∧ ∃ I : Nat → List D → Mm → Prop, I 0 [] M1 ∧
  (∀ i d acc M' l, ds[i]? = some d → I i acc M' → match g d (wipeG Γ vs) with
    | some Γ2 => tt Γ2 ((l, .lst acc) :: M') fun b M2 => (b = true → te Γ2 M2 fun y M3 => ∃ M4, Dl M3 l (.lst acc) M4 ∧ I (i + 1) (acc ++ [y]) M4) ∧ (b = false → ∃ M4, Dl M2 l (.lst acc) M4 ∧ I (i + 1) acc M4)
    | none => False) ∧
  ∀ acc M', I ds.length acc M' → acc.length ≤ ds.length → Φ (.lst acc) M'
theorem Hs.redo {a : Addr} {o o' : MO} {u : HO} {M4 : Mm} (h : Hs K B M F H) (d : Dl M a o M4) (m : MOk K F (upd H a u) a o') : Hs K B ((a, o') :: M4) F (upd H a u) := by
  obtain ⟨m1, m2, m3⟩ := h.mem _ d.mem
  have ne := d.ne h.nd
  refine ⟨fun b v q => ?_, fun q hq => ?_, ?_, box_upd m2 h.box, h.bfr, h.nt⟩
  · rw [upd_ne (ne_of_none q m1)]
    exact h.sub b v q
  · rcases List.mem_cons.mp hq with e | hq
    · subst e
      exact ⟨m1, m2, m⟩
    · obtain ⟨k1, k2, k3⟩ := h.mem q (d.sub.subset hq)
      exact ⟨k1, k2, k3.at (upd_ne (ne q hq))⟩
  · rw [List.map_cons, List.nodup_cons]
    refine ⟨fun hm => ?_, h.nd.sublist (d.sub.map _)⟩
    obtain ⟨q, hq, e⟩ := List.mem_map.mp hm
    exact ne q hq e
theorem Hs.front {a : Addr} {o : MO} {M4 : Mm} (h : Hs K B M F H) (d : Dl M a o M4) : Hs K B ((a, o) :: M4) F H := by
  have ne := d.ne h.nd
  refine ⟨h.sub, fun q hq => ?_, ?_, h.box, h.bfr, h.nt⟩
  · rcases List.mem_cons.mp hq with e | hq
    · subst e
      exact h.mem _ d.mem
    · exact h.mem q (d.sub.subset hq)
  · rw [List.map_cons, List.nodup_cons]
    refine ⟨fun hm => ?_, h.nd.sublist (d.sub.map _)⟩
    obtain ⟨q, hq, e⟩ := List.mem_map.mp hm
    exact ne q hq e
theorem wipe_set_out {σ : St} {i : Nat} {x : Option V} : ∀ ws : List Nat, i ∉ ws → wipe (σ.set i x) ws = (wipe σ ws).set i x
  | [], _ => rfl
  | k :: ws, hn => by
    show (wipe (σ.set i x) ws).set k none = ((wipe σ ws).set k none).set i x
    rw [wipe_set_out ws fun h => hn (List.mem_cons_of_mem _ h), List.set_comm _ _ fun e => hn (by rw [e]; exact List.mem_cons_self)]
theorem wipe_sub {σ : St} {ws : List Nat} : ∀ {vs : List Nat}, (∀ i ∈ vs, i ∈ ws) → wipe (wipe σ vs) ws = wipe σ ws
  | [], _ => rfl
  | i :: vs, h => by
    show wipe ((wipe σ vs).set i none) ws = wipe σ ws
    rw [wipe_set (h i (by simp)), wipe_sub fun j hj => h j (List.mem_cons_of_mem _ hj)]
theorem lc_go {ai : AI} {vs ws : List Nat} {g : AG} {tt : AT} {te : AE} {T' : Ct} {Q : VK} {Φ : AK} (hT : T'.B = T.B) (hl : ∀ F, Lk K T' F) (hv : ∀ i ∈ ws, i ∈ vs) (w : See K T F σ H Γ M) (q : aLc ai g tt te vs Γ M Φ)
    (z : ∀ d M' v F' H', Same F F' → Hs K T.B M' F' H' → Is K F' v d → Φ d M' → Q v H') : tLc (cI K T ai) (cG K ws g) (cT K T' tt) (cE K T' te) vs σ H Q := ⟨F, Γ, M, _, w, q, fun ds M1 J F1 H1 s1 h1 wk q1 => by
  obtain ⟨hsz, I, i0, turn, fin⟩ := q1
  intro L hL
  refine ⟨fun i n H' => n = ds.length - i ∧ i ≤ ds.length ∧ ∃ F' acc M', Same F1 F' ∧ Hs K T.B ((L, .lst acc) :: M') F' H' ∧ acc.length ≤ i ∧ I i acc M', ⟨ds.length, by simp, Nat.zero_le _, F1, [], M1, Same.refl F1, h1.newM (o := .lst []) hL ⟨[], upd_same, .nil⟩, by simp, i0⟩, ?_⟩
  rintro i n H' ⟨rfl, hi, F', acc, M', s', h', hacc, i'⟩
  obtain ⟨go, stop⟩ := wk i F' H' _ s' h' hi
  by_cases hlt : i < ds.length
  · obtain ⟨g1, g2⟩ := go ds[i] (List.getElem?_eq_getElem hlt)
    refine .inr ⟨g1, fun H2 => ∃ F' acc M', Same F1 F' ∧ Hs K T.B ((L, .lst acc) :: M') F' H2 ∧ acc.length ≤ i + 1 ∧ I (i + 1) acc M', fun H2 y => ⟨ds.length - (i + 1), by omega, rfl, hlt, y⟩, fun x H2 y => ?_⟩
    obtain ⟨F2, s2, h2, ix⟩ := g2 x H2 y
    have t := turn i ds[i] acc M' L (List.getElem?_eq_getElem hlt) i'
    split at t
    · rename_i Γ2 hg2
      refine ⟨F2, ds[i], wipeG Γ vs, Γ2, (w.v.mono ((s1.trans s').trans s2)).wipe vs, h2.sub, ix, hg2, fun σ3 v3 e3 => ⟨(e3 vs hv).trans (wipe_sub fun _ h => h), ?_⟩⟩
      refine cT_mk (T := T') ⟨v3, by rw [hT]; exact h2, hl _⟩ t fun b M3 F3 H3 s3 h3 q3 => ?_
      cases b with
      | true =>
        rw [if_pos rfl]
        refine cE_mk (T := T') ⟨v3.mono s3, h3, hl _⟩ (q3.1 rfl) fun y M4 yv F4 H4 s4 h4 i4 ⟨M5, dl, q5⟩ => ?_
        rw [hT] at h4
        obtain ⟨vs4, e4, z4⟩ := h4.lst dl.mem
        refine ⟨vs4, e4, by rw [z4.length]; exact line_lt (by omega), F4, acc ++ [y], M5, ((s'.trans s2).trans s3).trans s4, h4.redo dl ⟨_, upd_same, z4.append (.cons i4 .nil)⟩, by simp; omega, q5⟩
      | false =>
        rw [if_neg Bool.false_ne_true]
        obtain ⟨M5, dl, q5⟩ := q3.2 rfl
        rw [hT] at h3
        exact ⟨F3, acc, M5, (s'.trans s2).trans s3, h3.front dl, by omega, q5⟩
    · exact t.elim
  · have e : i = ds.length := by omega
    subst e
    obtain ⟨F2, s2, h2, i2⟩ := h'.freeze (M' := M') .here
    exact .inl ⟨stop rfl, z _ M' _ F2 H' ((s1.trans s').trans s2) h2 i2 (fin acc M' i' hacc)⟩⟩
def DTs (X : Cx) (T : Ct) (ifs : List Expr) (ta : AT) : Prop := PTs X ifs (cT X.K T ta)
theorem dts_nil : DTs X T [] aYes := ⟨fun pins s σ H Q I ⟨F, Γ, M, Φ, w, q, z⟩ => pts_nil.run pins s σ H Q I (z true M F H (Same.refl F) w.h q)⟩
theorem dts_one {t : AT} (h : DT X T c t) : DTs X T [c] t := pts_one h
theorem de_lc {elt tg iter : Expr} {ifs : List Expr} {scope : Scope} {own : List (Str × Nat)} {ai : AI} {ws : List Nat} {g : AG} {tt : AT} {te : AE} (hc : X.calm = true) (hN : X.N.Nodup) (hi : DI X T tg iter ai) (ok : BlkOk X.N X.env.scope scope own)
    (hg : ∀ (s : Shared) (H : Hp) (C : Addr) (cl : List (Str × Addr)) (fp : List Addr), DG (X.blk s H scope (compEnvC scope cl C X.env) fp) tg ws g) (ht : ∀ (s : Shared) (H : Hp) (C : Addr) (cl : List (Str × Addr)) (fp : List Addr), DTs (X.blk s H scope (compEnvC scope cl C X.env) fp) (.calm T.B) ifs tt)
    (he : ∀ (s : Shared) (H : Hp) (C : Addr) (cl : List (Str × Addr)) (fp : List Addr), DE (X.blk s H scope (compEnvC scope cl C X.env) fp) (.calm T.B) elt te) (hv : ∀ i ∈ ws, i ∈ own.map (·.2) := by decide) (hs : ∀ x, foldedSetIterable iter X.env x = pure x := by intro _; rfl) :
    DE X T (.ListComp elt [⟨tg, iter, ifs, 0⟩] scope pos) (aLc ai g tt te (own.map (·.2))) :=
  de_of (pe_lc (g := cG X.K ws g) (tt := cT X.K (.calm T.B) tt) (te := cE X.K (.calm T.B) te) hc hN hi ok hg ht he hs) fun F σ H Γ M Φ Q w q z => lc_go (T' := .calm T.B) rfl (fun _ => lk_calm) hv w q z
theorem ds_setLc {i : Nat} {y : Str} {py spos : Pos} {elt tg iter : Expr} {ifs : List Expr} {scope : Scope} {own : List (Str × Nat)} {ai : AI} {ws : List Nat} {g : AG} {tt : AT} {te : AE} (hc : X.calm = true) (hN : X.N.Nodup) (hy : X.N[i]? = some y) (hyl : X.env.scope.names.lookup y = some .local)
    (hsw : swapsWith (.ListComp elt [⟨tg, iter, ifs, 0⟩] scope pos) (some (.Name y py)) spos.line X.env = pure true) (hi : DI X T tg iter ai) (ok : BlkOk X.N X.env.scope scope own)
    (hg : ∀ (s : Shared) (H : Hp) (C : Addr) (cl : List (Str × Addr)) (fp : List Addr), DG (X.blk s H scope (compEnvC scope cl C X.env) fp) tg ws g) (ht : ∀ (s : Shared) (H : Hp) (C : Addr) (cl : List (Str × Addr)) (fp : List Addr), DTs (X.blk s H scope (compEnvC scope cl C X.env) fp) (.calm T.B) ifs tt)
    (he : ∀ (s : Shared) (H : Hp) (C : Addr) (cl : List (Str × Addr)) (fp : List Addr), DE (X.blk s H scope (compEnvC scope cl C X.env) fp) (.calm T.B) elt te) (hv : ∀ i ∈ ws, i ∈ own.map (·.2) := by decide) (hs : ∀ x, foldedSetIterable iter X.env x = pure x := by intro _; rfl) :
    DS X T (.Assign [.Name y py] (.ListComp elt [⟨tg, iter, ifs, 0⟩] scope pos) spos) (aSet i (aLc ai g tt te (own.map (·.2)))) :=
  ds_of (ps_setLc (g := cG X.K ws g) (tt := cT X.K (.calm T.B) tt) (te := cE X.K (.calm T.B) te) hc hN hy hyl hsw hi ok hg ht he hs) fun F σ H Γ M A D w q m => lc_go (T' := .calm T.B) rfl (fun _ => lk_calm) hv w q fun d M1 v F1 H1 s1 h1 i1 q1 => m.nx _ M1 _ F1 H1 s1 ((w.v.mono s1).set i1 i) h1 q1
end
end DL

set_option Elab.async false
set_option linter.all false
set_option maxRecDepth 100000
set_option maxHeartbeats 2000000
namespace DL
open PySem L2
open PyProof.Rows (envOfC)

/-! ### promises over data -/
abbrev ASp := List D → Mm → AK → (XD → Mm → Prop) → Prop
def conc (K : PySem.W.Frag) (B : Bx) (asp : ASp) : Sp := fun vs H Q E => ∃ ds F M Φ Ψ, IsL K F vs ds ∧ Hs K B M F H ∧ asp ds M Φ Ψ ∧
  (∀ d M' v F' H', Same F F' → Hs K B M' F' H' → Is K F' v d → Φ d M' → Q v H') ∧ (∀ x cls d M' F' H', Same F F' → Hs K B M' F' H' → XIs K F' cls d x → Ψ x M' → E cls d H')
def startD (N : List Str) (ds : List D) : Gm := ds.map some ++ List.replicate (N.length - ds.length) none
theorem vw_start {K : PySem.W.Frag} {F : Hp} {N : List Str} {vs : List V} {ds : List D} (h : IsL K F vs ds) : Vw K F (L2.start N vs) (startD N ds) := by
  unfold L2.start startD
  refine ⟨by rw [List.length_append, List.length_append, List.length_map, List.length_map, h.length, List.length_replicate, List.length_replicate], fun i d hd => ?_⟩
  by_cases hi : i < ds.length
  · rw [List.getElem?_append_left (by rw [List.length_map]; exact hi), List.getElem?_map] at hd
    rw [List.getElem?_append_left (by rw [List.length_map, h.length]; exact hi), List.getElem?_map]
    cases e : ds[i]? with
    | none =>
      rw [e] at hd
      cases hd
    | some g =>
      rw [e] at hd
      cases hd
      obtain ⟨v, h1, h2⟩ := h.get e
      exact ⟨v, by rw [h1]; rfl, h2⟩
  · rw [List.getElem?_append_right (by rw [List.length_map]; omega), List.getElem?_replicate] at hd
    split at hd <;> cases hd
section
variable {P : Program} {w : World} {K : PySem.W.Frag} {mg : Str → Option Value} {base : Heap} {B : Bx}
/-- the context of a body under way -/
abbrev cxD (P : Program) (w : World) (K : PySem.W.Frag) (mg : Str → Option Value) (base : Heap) (N : List Str) (qual : Str) (sc : Scope) (f : Addr) (cdv : Value) (A : Around) (outer : List Env) (s : Shared) (H : Hp) (E : XK) : Cx := cxOf (L2N.CX P w) P w K mg base N qual sc f cdv A outer s H E
abbrev ctD (B : Bx) (E : XK) (Ψ : XD → Mm → Prop) : Ct := ⟨B, fun cls d _ H => E cls d H, fun x _ M => Ψ x M⟩
theorem body_go {N : List Str} {X : Cx} {E : XK} {body : List Stmt} {asp : ASp} (hX : X.K = K) {vs : List V} {H : Hp} {Q : VK} (h : conc K B asp vs H Q E)
    (hb : ∀ ds M Φ Ψ, asp ds M Φ Ψ → ∃ ta, DSs X (ctD B E Ψ) body ta ∧ ta { nx := fun _ M => Φ .non M, rt := Φ } (startD N ds) M) :
    ∃ t, PSs X body t ∧ t { nx := fun _ H' => Q .non H', rt := Q } (L2.start N vs) H := by
  obtain ⟨ds, F, M, Φ, Ψ, hv, hh, ha, hq, he⟩ := h
  obtain ⟨ta, d, r⟩ := hb ds M Φ Ψ ha
  subst hX
  refine ⟨_, d, cS_mk (T := ctD B E Ψ) ⟨vw_start hv, hh, fun x cls dd Γ' M' σ' F' H' s v h2 hx hp => he x cls dd M' F' H' s h2 hx hp⟩ r ⟨fun Γ' M' σ' F' H' s v h2 q => hq _ M' _ F' H' s h2 .non q, fun d M' v F' H' s h2 i q => hq d M' v F' H' s h2 i q, fun _ _ _ _ _ _ _ _ q => q, fun _ _ _ _ _ _ _ _ q => q⟩⟩
theorem conc_len {asp : ASp} {ps : List Str} (hlen : ∀ ds M Φ Ψ, asp ds M Φ Ψ → ds.length = ps.length) : ∀ vs H Q E, conc K B asp vs H Q E → vs.length = ps.length := fun vs H Q E ⟨ds, F, M, Φ, Ψ, hv, _, ha, _⟩ => hv.length.trans (hlen ds M Φ Ψ ha)
theorem fun_okN {x qual : Str} {st : Stmt} {f : Addr} {fd : FuncData} {N ps : List Str} {k : Nat} {sp : Sp} (F : Fun K x qual st f fd) (S : FnScope N ps (defScope st)) (len : ∀ vs H Q E, sp vs H Q E → vs.length = ps.length)
    (hbody : ∀ (cdv : Value) (A : Around) (outer : List Env) (s : Shared) (H : Hp) (vs : List V) (Q : VK) (E : XK), Room k (A.deeper (envOfC qual (defScope st) s.heap.objs.size f cdv)) → sp vs H Q E →
      ∃ t, PSs (cxOf (L2N.CX P w) P w K mg base N qual (defScope st) f cdv A outer s H E) (defBody st) t ∧ t { nx := fun _ H' => Q .non H', rt := Q } (L2.start N vs) H) : FnOk P w K mg base (L2N.CX P w) (k + 1) f fd ps sp := by
  obtain ⟨oc, od, kV, doc, pm, an, cdv, ct, osl, rfl, lk, hcd⟩ := F.ex
  exact fn_of lk hcd S len fun A outer s H vs Q E hr hsp => hbody cdv A outer s H vs Q E hr hsp
/-- THE RULE for a def -/
theorem dfn {x qual : Str} {st : Stmt} {f : Addr} {fd : FuncData} {N ps : List Str} {k : Nat} {asp : ASp} (F : Fun K x qual st f fd) (S : FnScope N ps (defScope st)) (hlen : ∀ ds M Φ Ψ, asp ds M Φ Ψ → ds.length = ps.length)
    (hb : ∀ (cdv : Value) (A : Around) (outer : List Env) (s : Shared) (H : Hp) (E : XK), Room k (A.deeper (envOfC qual (defScope st) s.heap.objs.size f cdv)) → ∀ ds M Φ Ψ, asp ds M Φ Ψ →
      ∃ ta, DSs (cxD P w K mg base N qual (defScope st) f cdv A outer s H E) (ctD B E Ψ) (defBody st) ta ∧ ta { nx := fun _ M => Φ .non M, rt := Φ } (startD N ds) M) : FnOk P w K mg base (L2N.CX P w) (k + 1) f fd ps (conc K B asp) :=
  fun_okN F S (conc_len hlen) fun cdv A outer s H vs Q E hr h => body_go rfl h (hb cdv A outer s H E hr)
theorem dfnD {x qual : Str} {params : Arguments} {body : List Stmt} {scope : Scope} {dvs : List V} {kws : List (Str × V)} {f : Addr} {fd : FuncData} {N ps : List Str} {k : Nat} {asp : ASp} (F : FunD K x qual params body scope dvs kws f fd) (S : FnScope N ps scope) (hlen : ∀ ds M Φ Ψ, asp ds M Φ Ψ → ds.length = ps.length)
    (hb : ∀ (cdv : Value) (A : Around) (outer : List Env) (s : Shared) (H : Hp) (E : XK), Room k (A.deeper (envOfC qual scope s.heap.objs.size f cdv)) → ∀ ds M Φ Ψ, asp ds M Φ Ψ →
      ∃ ta, DSs (cxD P w K mg base N qual scope f cdv A outer s H E) (ctD B E Ψ) body ta ∧ ta { nx := fun _ M => Φ .non M, rt := Φ } (startD N ds) M) : FnOk P w K mg base (L2N.CX P w) (k + 1) f fd ps (conc K B asp) :=
  F.ok S (conc_len hlen) fun cdv A outer s H vs Q E hr h => body_go rfl h (hb cdv A outer s H E hr)
end
/-- a call: dds the defaults -/
def aCall (asp : ASp) (dds : List D) (Ψ : AX) (tr : AA) (Γ : Gm) (M : Mm) (Φ : AK) : Prop := tr Γ M fun ds M1 => asp (ds ++ dds) M1 Φ (fun x M2 => Ψ x Γ M2)
section
variable {X : Cx} {T : Ct} {e a b c : Expr} {pos : Pos} {K : PySem.W.Frag} {F F' F1 H H' H1 : Hp} {σ : St} {Γ : Gm} {M M' : Mm} {ta tb tc : AE} {tA tB : AT} {es : List Expr} {tr : AA} {B : Bx}
theorem de_callD {x : Str} {p : Pos} {k : Nat} {f : Addr} {fd : FuncData} {ps : List Str} {asp : ASp} {dds : List D} {dvs : List V} {dvals : List Value} (G : FnOk X.prog X.w X.K X.mg X.base (L2N.CX X.prog X.w) k f fd ps (conc X.K T.B asp)) (hr : Room k X.A) (hg : Gl X x) (hm : X.mg x = some (.ref f)) (hk : PySem.W.keepIn X.K (.ref f) = true)
    (hb : Binds X.K fd ps dvals) (hd : Vals dvs dvals) (hi : ∀ F, IsL X.K F dvs dds) (tk : L2N.Takes X T.W) (ha : DA X T (e :: es) tr)
    (hdb : (x == ("__debug__" : Str)) = false := by decide) (he : starEach (e :: es) X.env = (false, eval e X.env) :: starEach es X.env := by rfl) (hpl : (backTo pos (starEach es X.env)).any (·.1) = false := by rfl) :
    DE X T (.Call (.Name x p) (e :: es) [] pos) (aCall asp dds T.Ψ tr) :=
  de_of (pe_callSD G hr hg hm hk hb hd (fun σ => L2N.passAt tk σ) ha hdb he hpl) fun F σ H Γ M Φ Q w q z => cA_mk w q fun ds M1 vs F1 H1 s1 h1 i1 q1 =>
    ⟨ds ++ dds, F1, M1, Φ, fun x M2 => T.Ψ x Γ M2, i1.append (hi F1), h1, q1, fun d M2 v F2 H2 s2 h2 i2 q2 => z d M2 v F2 H2 (s1.trans s2) h2 i2 q2, fun y cls d M2 F2 H2 s2 h2 xi q2 => w.l y cls d Γ M2 σ F2 H2 (s1.trans s2) (w.v.mono (s1.trans s2)) h2 xi q2⟩
theorem de_call {x : Str} {p : Pos} {k : Nat} {f : Addr} {fd : FuncData} {ps : List Str} {asp : ASp} (G : FnOk X.prog X.w X.K X.mg X.base (L2N.CX X.prog X.w) k f fd ps (conc X.K T.B asp)) (hr : Room k X.A) (hg : Gl X x) (hm : X.mg x = some (.ref f)) (hk : PySem.W.keepIn X.K (.ref f) = true)
    (hb : Binds X.K fd ps []) (tk : L2N.Takes X T.W) (ha : DA X T (e :: es) tr)
    (hdb : (x == ("__debug__" : Str)) = false := by decide) (he : starEach (e :: es) X.env = (false, eval e X.env) :: starEach es X.env := by rfl) (hpl : (backTo pos (starEach es X.env)).any (·.1) = false := by rfl) :
    DE X T (.Call (.Name x p) (e :: es) [] pos) (aCall asp [] T.Ψ tr) :=
  de_callD G hr hg hm hk hb .nil (fun _ => .nil) tk ha hdb he hpl
/-- nothing is raised in a block -/
theorem tk_calm {X : Cx} {B : Bx} : L2N.Takes X (Ct.calm B).W := fun _ _ ⟨_, _, _, _, _, _, _, _, _, _, _, _, _, _, _, _, w⟩ => w.elim

/-! ### a hidden part made -/
/-- from here on a hidden part bx i stands for some mutable objects -/
def aBox {ι : Type} (bx : ι → Bx) (t : ι → AS) (A : AEnds) (Γ : Gm) (M : Mm) : Prop := ∃ i M', (∀ K F H, Hs K Bx.no M F H → Hs K (bx i) M' F H) ∧ t i A Γ M'
theorem Hs.unbox (h : Hs K B M F H) : Hs K Bx.no M F H := ⟨h.sub, fun q hq => let ⟨m1, _, m3⟩ := h.mem q hq; ⟨m1, List.not_mem_nil, m3⟩, h.nd, trivial, fun _ hb => absurd hb List.not_mem_nil, h.nt⟩
theorem dss_box {ι : Type} {bx : ι → Bx} {W : WX} {Ψ : AX} {sts : List Stmt} {t : ι → AS} (h : ∀ i, DSs X ⟨bx i, W, fun _ _ _ => False⟩ sts (t i)) : DSs X ⟨Bx.no, W, Ψ⟩ sts (aBox bx t) :=
  ⟨fun pins s σ H D I ⟨F, Γ, M, A, w, q, m1, m2, m3, m4⟩ => by
    obtain ⟨i, M', cv, q⟩ := q
    refine (h i).run pins s σ H D I (cS_mk (T := ⟨bx i, W, fun _ _ _ => False⟩) ⟨w.v, cv _ _ _ w.h, fun _ _ _ _ _ _ _ _ _ _ _ _ z => z.elim⟩ q ⟨?_, ?_, ?_, ?_⟩)
    · exact fun Γ2 M2 σ2 F2 H2 s2 v2 h2 q2 => m1 Γ2 M2 σ2 F2 H2 s2 v2 h2.unbox q2
    · exact fun d M2 v F2 H2 s2 h2 i2 q2 => m2 d M2 v F2 H2 s2 h2.unbox i2 q2
    · exact fun Γ2 M2 σ2 F2 H2 s2 v2 h2 q2 => m3 Γ2 M2 σ2 F2 H2 s2 v2 h2.unbox q2
    · exact fun Γ2 M2 σ2 F2 H2 s2 v2 h2 q2 => m4 Γ2 M2 σ2 F2 H2 s2 v2 h2.unbox q2⟩
end
end DL

set_option Elab.async false
set_option linter.all false
set_option maxRecDepth 100000
set_option maxHeartbeats 2000000
namespace DL
open PySem L2

section
variable {X : Cx} {T : Ct} {e a b c : Expr} {pos : Pos} {K : PySem.W.Frag} {F F' F1 H H' H1 : Hp} {σ : St} {Γ : Gm} {M M' : Mm} {ta tb tc : AE} {tA tB : AT} {es : List Expr} {tr : AA} {B : Bx}
/-! ### ints -/
def fI (g : Int → Int → D) (d e : D) (M : Mm) (Φ : AK) : Prop := match d, e with
  | .int i, .int j => Φ (g i j) M
  | _, _ => False
def fC (C : Int → Int → Prop) (g : Int → Int → D) (d e : D) (M : Mm) (Φ : AK) : Prop := match d, e with
  | .int i, .int j => C i j ∧ Φ (g i j) M
  | _, _ => False
theorem ab_I0 {g : Int → Int → Int} : Ab2 K B (rI0 fun i j => .int (g i j)) (fI fun i j => .int (g i j)) := fun F H x y d e M Φ Q h i1 i2 q z => by
  unfold fI at q
  (first | split at q | (unfold aChain_k at q; split at q))
  · cases i1
    cases i2
    exact ⟨_, _, rfl, rfl, z _ M _ F H (Same.refl F) h (.int _) q⟩
  · exact q.elim
theorem ab_B0 {g : Int → Int → Bool} : Ab2 K B (rI0 fun i j => .bl (g i j)) (fI fun i j => .bl (g i j)) := fun F H x y d e M Φ Q h i1 i2 q z => by
  unfold fI at q
  (first | split at q | (unfold aChain_k at q; split at q))
  · cases i1
    cases i2
    exact ⟨_, _, rfl, rfl, z _ M _ F H (Same.refl F) h (.bl _) q⟩
  · exact q.elim
theorem ab_C {C C' : Int → Int → Prop} {g : Int → Int → Int} (hc : ∀ i j, C' i j → C i j) : Ab2 K B (rI C fun i j => .int (g i j)) (fC C' fun i j => .int (g i j)) := fun F H x y d e M Φ Q h i1 i2 q z => by
  unfold fC at q
  (first | split at q | (unfold aChain_k at q; split at q))
  · cases i1
    cases i2
    exact ⟨_, _, rfl, rfl, hc _ _ q.1, z _ M _ F H (Same.refl F) h (.int _) q.2⟩
  · exact q.elim
/-- a factor is small, or both are not too great -/
def MulOk (i j : Int) : Prop := (-18446744073709551616 < i ∧ i < 18446744073709551616) ∨ (-18446744073709551616 < j ∧ j < 18446744073709551616) ∨ CMulW i j
/-- the divisor -/
def DivOk (_ j : Int) : Prop := 0 < j ∧ j.natAbs.log2 < 9000
def ModOk (_ j : Int) : Prop := 0 < j
theorem op_mulA : OpR X (binaryOp .Mult) (rI MulOk fun i j => .int (i * j)) := fun pins s σ H x y u v Q I rx ry q => by
  obtain ⟨i, j, rfl, rfl, hc, q⟩ := q
  rcases hc with hc | hc | hc
  · exact op_mul pins s σ H _ _ u v Q I rx ry ⟨i, j, rfl, rfl, .inl (by omega), q⟩
  · exact op_mul pins s σ H _ _ u v Q I rx ry ⟨i, j, rfl, rfl, .inr (by omega), q⟩
  · exact op_mulW pins s σ H _ _ u v Q I rx ry ⟨i, j, rfl, rfl, hc, q⟩
theorem divOk_of {i j : Int} (h : 0 < j) (h2 : j < 18446744073709551616) : DivOk i j := ⟨h, (wide_div (i := i) (b := 64) h (by omega) (by decide) (by decide)).2⟩
abbrev fAdd : A2 := fI fun i j => .int (i + j)
abbrev fSub : A2 := fI fun i j => .int (i - j)
abbrev fMul : A2 := fC MulOk fun i j => .int (i * j)
abbrev fDiv : A2 := fC DivOk fun i j => .int (i / j)
abbrev fMod : A2 := fC ModOk fun i j => .int (i % j)
abbrev fPow : A2 := fC CPow fun i j => .int (i ^ j.toNat)
abbrev fLt : A2 := fI fun i j => .bl (decide (i < j))
abbrev fLe : A2 := fI fun i j => .bl (decide (i ≤ j))
abbrev fGt : A2 := fI fun i j => .bl (decide (j < i))
abbrev fGe : A2 := fI fun i j => .bl (decide (j ≤ i))
theorem de_add (ha : DE X T a ta) (hb : DE X T b tb) : DE X T (.BinOp a .Add b pos) (aOp fAdd ta tb) := de_op op_add ab_I0 ha hb
theorem de_sub (ha : DE X T a ta) (hb : DE X T b tb) : DE X T (.BinOp a .Sub b pos) (aOp fSub ta tb) := de_op op_sub ab_I0 ha hb
theorem de_mul (ha : DE X T a ta) (hb : DE X T b tb) : DE X T (.BinOp a .Mult b pos) (aOp fMul ta tb) := de_op op_mulA (ab_C fun _ _ h => h) ha hb
theorem de_div (ha : DE X T a ta) (hb : DE X T b tb) : DE X T (.BinOp a .FloorDiv b pos) (aOp fDiv ta tb) := de_op op_fdivW (ab_C fun _ _ h => h) ha hb
theorem de_mod (ha : DE X T a ta) (hb : DE X T b tb) : DE X T (.BinOp a .Mod b pos) (aOp fMod ta tb) := de_op op_mod (ab_C fun _ _ h => h) ha hb
theorem de_pow (ha : DE X T a ta) (hb : DE X T b tb) : DE X T (.BinOp a .Pow b pos) (aOp fPow ta tb) := de_op op_pow (ab_C fun _ _ h => h) ha hb
def fNeg (d : D) (M : Mm) (Φ : AK) : Prop := match d with
  | .int i => Φ (.int (-i)) M
  | _ => False
theorem de_neg (ha : DE X T a ta) : DE X T (.UnaryOp .USub a pos) (aUn fNeg ta) := de_un un_neg (fun F H x d M Φ Q h i q z => by
  unfold fNeg at q
  (first | split at q | (unfold aChain_k at q; split at q))
  · cases i
    exact ⟨_, rfl, z _ M _ F H (Same.refl F) h (.int _) q⟩
  · exact q.elim) ha
theorem de_lt (ha : DE X T a ta) (hb : DE X T b tb) : DE X T (.Compare a [.Lt] [b] pos) (aOp fLt ta tb) := de_cmp op_lt ab_B0 ha hb
theorem de_le (ha : DE X T a ta) (hb : DE X T b tb) : DE X T (.Compare a [.LtE] [b] pos) (aOp fLe ta tb) := de_cmp op_le ab_B0 ha hb
theorem de_gt (ha : DE X T a ta) (hb : DE X T b tb) : DE X T (.Compare a [.Gt] [b] pos) (aOp fGt ta tb) := de_cmp op_gt ab_B0 ha hb
theorem de_ge (ha : DE X T a ta) (hb : DE X T b tb) : DE X T (.Compare a [.GtE] [b] pos) (aOp fGe ta tb) := de_cmp op_ge ab_B0 ha hb
/-- two comparisons in a chain -/
theorem chain_go {r r' : R2} {f g : A2} {Q : VK} {Φ : AK} (hr : Ab2 K T.B r f) (hr' : Ab2 K T.B r' g) (w : See K T F σ H Γ M) (q : aChain f g ta tb tc Γ M Φ) (z : ∀ d M' v F' H', Same F F' → Hs K T.B M' F' H' → Is K F' v d → Φ d M' → Q v H') :
    tChain r r' (cE K T ta) (cE K T tb) (cE K T tc) σ H Q :=
  cE_mk w q fun d M1 x F1 H1 s1 h1 i1 q1 => cE_mk (w.go s1 h1) q1 fun e M2 y F2 H2 s2 h2 i2 q2 => hr F2 H2 x y d e M2 _ _ h2 (i1.mono s2) i2 q2 fun k M3 v F3 H3 s3 h3 i3 q3 => by
    (first | split at q3 | (unfold aChain_k at q3; split at q3))
    · rename_i k
      cases i3
      refine ⟨k, rfl, ?_⟩
      cases k with
      | true => exact cE_mk (((w.go s1 h1).go s2 h2).go s3 h3) (q3.1 rfl) fun c M4 u F4 H4 s4 h4 i4 q4 => hr' F4 H4 y u e c M4 Φ Q h4 ((i2.mono s3).mono s4) i4 q4 fun d M5 v F5 H5 s5 h5 i5 q5 => z d M5 v F5 H5 ((((s1.trans s2).trans s3).trans s4).trans s5) h5 i5 q5
      | false => exact z _ M3 _ F3 H3 ((s1.trans s2).trans s3) h3 (.bl false) (q3.2 rfl)
    · exact q3.elim
end
end DL

set_option Elab.async false
set_option linter.all false
set_option maxRecDepth 100000
set_option maxHeartbeats 2000000
namespace DL
open PySem L2

section
variable {X : Cx} {T : Ct} {e a b c : Expr} {pos : Pos} {K : PySem.W.Frag} {F F' F1 H H' H1 : Hp} {σ : St} {Γ : Gm} {M M' : Mm} {ta tb tc : AE} {tA tB : AT} {es : List Expr} {tr : AA} {B : Bx}
theorem de_chain {op op' : CmpOp} {r r' : R2} {f g : A2} (ho : OpR X (compareOp op) r) (ho' : OpR X (compareOp op') r') (hr : Ab2 X.K T.B r f) (hr' : Ab2 X.K T.B r' g) (ha : DE X T a ta) (hb : DE X T b tb) (hc : DE X T c tc)
    (hm : lastMarks [op, op'] [b, c] = false := by with_unfolding_all rfl) : DE X T (.Compare a [op, op'] [b, c] pos) (aChain f g ta tb tc) :=
  de_of (pe_chain ho ho' ha hb hc hm) fun F σ H Γ M Φ Q w q z => chain_go hr hr' w q z
theorem dt_chain {op op' : CmpOp} {r r' : R2} {f g : A2} (ho : OpR X (compareOp op) r) (ho' : OpR X (compareOp op') r') (hr : Ab2 X.K T.B r f) (hr' : Ab2 X.K T.B r' g) (ha : DE X T a ta) (hb : DE X T b tb) (hc : DE X T c tc)
    (hm : lastMarks [op, op'] [b, c] = false := by with_unfolding_all rfl) : DT X T (.Compare a [op, op'] [b, c] pos) (aB (aChain f g ta tb tc)) :=
  dt_of (pt_chain ho ho' ha hb hc hm) fun F σ H Γ M Φ Q w q z => chain_go hr hr' w q fun d M1 x F1 H1 s1 h1 i1 q1 => by
    cases d with
    | bl b =>
      cases i1
      exact ⟨b, rfl, z b M1 F1 H1 s1 h1 q1⟩
    | _ => exact q1.elim

/-! ### sequences, read -/
/-- the items of a list or a tuple, a mutable list too -/
def seqOf (d : D) (M : Mm) (k : List D → Prop) : Prop := match d with
  | .lst xs => k xs
  | .tup xs => k xs
  | .ref l => ∃ xs, (l, MO.lst xs) ∈ M ∧ k xs
  | _ => False
theorem seq_at {d : D} {k : List D → Prop} {x : V} (h : Hs K B M F H) (i : Is K F x d) (q : seqOf d M k) : ∃ l vs xs, x = .ref l ∧ (SqL K H l vs ∨ SqT K H l vs) ∧ IsL K F vs xs ∧ k xs := by
  unfold seqOf at q
  (first | split at q | (unfold aChain_k at q; split at q) | (unfold aP_k at q; split at q) | (unfold aSl_k at q; split at q) | (unfold aRev_k at q; split at q) | (unfold aRevM_k at q; split at q) | (unfold aApp_k at q; split at q) | (unfold aPop_k at q; split at q) | (unfold aPopAt_k at q; split at q) | (unfold fIx onD at q; split at q) | (unfold onD at q; split at q))
  · cases i with
    | lst hq hl => exact ⟨_, _, _, rfl, .inl (h.sub.seq hq), hl, q⟩
  · cases i with
    | tup hq hl => exact ⟨_, _, _, rfl, .inr (same_t h.sub hq), hl, q⟩
  · obtain ⟨xs, hm, q⟩ := q
    cases i
    obtain ⟨vs, e, z⟩ := h.lst hm
    exact ⟨_, vs, xs, rfl, .inl (.inl (.inl e)), z, q⟩
  · exact q.elim
def fLen (ds : List D) (M : Mm) (Φ : AK) : Prop := match ds with
  | [d] => seqOf d M fun xs => Φ (.int (xs.length : Nat)) M
  | _ => False
theorem ab_len : AbL K B (fun xs H Q => ∃ p ys, xs = [.ref p] ∧ (SqL K H p ys ∨ SqT K H p ys) ∧ Q (.int ys.length) H) fLen := fun F H vs ds M Φ Q h i q z => by
  unfold fLen at q
  (first | split at q | (unfold aChain_k at q; split at q) | (unfold aP_k at q; split at q) | (unfold aSl_k at q; split at q) | (unfold aRev_k at q; split at q) | (unfold aRevM_k at q; split at q) | (unfold aApp_k at q; split at q) | (unfold aPop_k at q; split at q) | (unfold aPopAt_k at q; split at q) | (unfold fIx onD at q; split at q) | (unfold onD at q; split at q))
  · cases i with
    | cons i1 i2 =>
      cases i2
      obtain ⟨l, ws, xs, rfl, hq, hl, q⟩ := seq_at h i1 q
      refine ⟨l, ws, rfl, hq, z _ M _ F H (Same.refl F) h ?_ q⟩
      rw [hl.length]
      exact .int _
  · exact q.elim
theorem de_len {p : Pos} (hg : Gl X "len") (hm : X.mg "len" = none) (ha : DE X T a ta) (hs : starEach [a] X.env = (false, eval a X.env) :: starEach [] X.env := by rfl) (hpl : (backTo pos (starEach [] X.env)).any (·.1) = false := by rfl) : DE X T (.Call (.Name "len" p) [a] [] pos) (aCB fLen (aCons ta aNil)) :=
  de_callB call_len_seq ab_len hg hm PySem.boot_len (da_cons ha da_nil hs) (by decide) (by decide) hs hpl
/-- x[i] -/
def getI (xs : List D) : Int → Option D
  | .ofNat n => xs[n]?
  | .negSucc n => if n < xs.length then xs[xs.length - 1 - n]? else none
theorem getI_0 {x : D} {xs : List D} : getI (x :: xs) 0 = some x := rfl
theorem getI_1 {x y : D} {xs : List D} : getI (x :: y :: xs) 1 = some y := rfl
theorem getI_2 {x y z : D} {xs : List D} : getI (x :: y :: z :: xs) 2 = some z := rfl
theorem getI_3 {x y z u : D} {xs : List D} : getI (x :: y :: z :: u :: xs) 3 = some u := rfl
theorem getI_nat {xs : List D} {n : Nat} {d : D} (h : xs[n]? = some d) : getI xs (n : Int) = some d := h
theorem getI_of {xs : List D} {i : Int} (h : 0 ≤ i) {d : D} (e : xs[i.toNat]? = some d) : getI xs i = some d := by
  obtain ⟨n, rfl⟩ := Int.eq_ofNat_of_zero_le h
  exact e
theorem getI_last {xs : List D} {d : D} (h : xs.getLast? = some d) : getI xs (-1) = some d := by
  rw [List.getLast?_eq_getElem?] at h
  show (if 0 < xs.length then xs[xs.length - 1 - 0]? else none) = some d
  rw [if_pos, Nat.sub_zero]
  · exact h
  · cases xs with
    | nil => cases h
    | cons x xs => exact Nat.succ_pos _
theorem getI_at {xs : List D} {i : Int} {d : D} (h : getI xs i = some d) : atI xs i = some d := by
  cases i with
  | ofNat n => exact atI_nat h
  | negSucc n =>
    have h : (if n < xs.length then xs[xs.length - 1 - n]? else none) = some d := h
    split at h
    · rename_i hn
      unfold atI ixN
      rw [if_neg (by omega), if_pos (by omega)]
      show xs[(Int.negSucc n + (xs.length : Int)).toNat]? = some d
      rw [show (Int.negSucc n + (xs.length : Int)).toNat = xs.length - 1 - n by omega]
      exact h
    · cases h
def fIx (d e : D) (M : Mm) (Φ : AK) : Prop := match e with
  | .int i => seqOf d M fun xs => onD (getI xs i) fun g => Φ g M
  | _ => False
theorem atI_map {vs : List V} {xs : List D} {i : Int} {g : D} (h : IsL K F vs xs) (e : atI xs i = some g) : ∃ v, atI vs i = some v ∧ Is K F v g := by
  unfold atI at e ⊢
  rw [h.length]
  cases q : ixN xs.length i with
  | none =>
    rw [q] at e
    cases e
  | some j =>
    rw [q] at e
    exact h.get e
theorem ab_ix : Ab2 K B (rIx K) fIx := fun F H x y d e M Φ Q h i1 i2 q z => by
  unfold fIx at q
  (first | split at q | (unfold aChain_k at q; split at q) | (unfold aP_k at q; split at q) | (unfold aSl_k at q; split at q) | (unfold aRev_k at q; split at q) | (unfold aRevM_k at q; split at q) | (unfold aApp_k at q; split at q) | (unfold aPop_k at q; split at q) | (unfold aPopAt_k at q; split at q) | (unfold fIx onD at q; split at q) | (unfold onD at q; split at q))
  · rename_i i
    cases i2
    obtain ⟨l, vs, xs, rfl, hq, hl, q⟩ := seq_at h i1 q
    (first | split at q | (unfold aChain_k at q; split at q) | (unfold aP_k at q; split at q) | (unfold aSl_k at q; split at q) | (unfold aRev_k at q; split at q) | (unfold aRevM_k at q; split at q) | (unfold aApp_k at q; split at q) | (unfold aPop_k at q; split at q) | (unfold aPopAt_k at q; split at q) | (unfold fIx onD at q; split at q) | (unfold onD at q; split at q))
    · rename_i g hg
      obtain ⟨v, e1, iv⟩ := atI_map hl (getI_at hg)
      have fin := z g M v F H (Same.refl F) h iv q
      rcases hq with hq | hq
      · exact .inl ⟨l, vs, i, v, rfl, rfl, hq, e1, fin⟩
      · exact .inr (.inl ⟨l, vs, i, v, rfl, rfl, hq, e1, fin⟩)
    · exact q.elim
  · exact q.elim
theorem de_item (ha : DE X T a ta) (hb : DE X T b tb) (hs : PlainIx b := by exact fun _ _ => rfl) : DE X T (.Subscript a b pos) (aOp fIx ta tb) := de_ix ix_seq ab_ix ha hb hs
/-- xs[a:b] of a list -/
abbrev AO := Gm → Mm → (Option Int → Mm → Prop) → Prop
def cO (K : PySem.W.Frag) (T : Ct) (ta : AO) : TO := fun σ H Q => ∃ F Γ M Φ, See K T F σ H Γ M ∧ ta Γ M Φ ∧ ∀ o M' F' H', Same F F' → Hs K T.B M' F' H' → Φ o M' → Q o H'
def DO (X : Cx) (T : Ct) (e : Option Expr) (ta : AO) : Prop := PO X e (cO X.K T ta)
def aNoP (Γ : Gm) (M : Mm) (Φ : Option Int → Mm → Prop) : Prop := Φ none M
def aP_k (Φ : Option Int → Mm → Prop)  (d : D) (M1 : Mm) : Prop := match d with
  | .int i => Φ (some i) M1
  | _ => False
def aP (ta : AE) (Γ : Gm) (M : Mm) (Φ : Option Int → Mm → Prop) : Prop := ta Γ M fun d M1 => aP_k Φ d M1
theorem do_none : DO X T none aNoP := ⟨fun pins s σ H Q I ⟨F, Γ, M, Φ, w, q, z⟩ => po_none.run pins s σ H Q I (z none M F H (Same.refl F) w.h q)⟩
theorem do_some (h : DE X T e ta) : DO X T (some e) (aP ta) := ⟨fun pins s σ H Q I ⟨F, Γ, M, Φ, w, q, z⟩ => (po_some h).run pins s σ H Q I (cE_mk w q fun d M1 x F1 H1 s1 h1 i1 q1 => by
    (first | split at q1 | (unfold aChain_k at q1; split at q1) | (unfold aP_k at q1; split at q1) | (unfold aSl_k at q1; split at q1) | (unfold aRev_k at q1; split at q1) | (unfold aRevM_k at q1; split at q1) | (unfold aApp_k at q1; split at q1) | (unfold aPop_k at q1; split at q1) | (unfold aPopAt_k at q1; split at q1) | (unfold fIx onD at q1; split at q1) | (unfold onD at q1; split at q1))
    · cases i1
      exact ⟨_, rfl, z _ M1 F1 H1 s1 h1 q1⟩
    · exact q1.elim)⟩
def cutD (xs : List D) (lo hi : Option Int) : List D := (xs.drop (HT.sIx xs.length 0 lo)).take (HT.sIx xs.length xs.length hi - HT.sIx xs.length 0 lo)
def aSl_k (Φ : AK) (d : D) (lo : Option Int) (hi : Option Int) (M3 : Mm) : Prop := match d with
  | .lst xs => Φ (.lst (cutD xs lo hi)) M3
  | .ref l => ∃ xs, (l, MO.lst xs) ∈ M3 ∧ Φ (.lst (cutD xs lo hi)) M3
  | _ => False
def aSl (ta : AE) (tl th : AO) (Γ : Gm) (M : Mm) (Φ : AK) : Prop := ta Γ M fun d M1 => tl Γ M1 fun lo M2 => th Γ M2 fun hi M3 => aSl_k Φ d lo hi M3
theorem cut_isL {vs : List V} {xs : List D} {lo hi : Option Int} (h : IsL K F vs xs) : IsL K F (cutV vs lo hi) (cutD xs lo hi) := by
  unfold cutV cutD
  rw [h.length]
  exact (h.drop _).take _
theorem cO_mk {t : AO} {Q : Option Int → Hp → Prop} {Φ : Option Int → Mm → Prop} (s : See K T F σ H Γ M) (q : t Γ M Φ) (z : ∀ d M' F' H', Same F F' → Hs K T.B M' F' H' → Φ d M' → Q d H') : cO K T t σ H Q := ⟨F, Γ, M, Φ, s, q, z⟩
theorem de_slL {lo hi : Option Expr} {p2 : Pos} {tl th : AO} (ha : DE X T a ta) (hl : DO X T lo tl) (hu : DO X T hi th) : DE X T (.Subscript a (.Slice lo hi none p2) pos) (aSl ta tl th) :=
  de_of (pe_slice sl_list ha hl hu) fun F σ H Γ M Φ Q w q z => cE_mk w q fun d M1 x F1 H1 s1 h1 i1 q1 => cO_mk (w.go s1 h1) q1 fun lo M2 F2 H2 s2 h2 q2 => cO_mk ((w.go s1 h1).go s2 h2) q2 fun hi M3 F3 H3 s3 h3 q3 => by
    have i3 := (i1.mono s2).mono s3
    have fin : ∀ {l : Addr} {vs : List V} {xs : List D}, SqL X.K H3 l vs → IsL X.K F3 vs xs → Φ (.lst (cutD xs lo hi)) M3 → rSlL X.K (.ref l) lo hi H3 Q := fun {l vs xs} hq hl q => ⟨l, vs, rfl, hq, fun p hp => by
      have n3 := h3.free hp
      exact z _ M3 _ _ _ (((s1.trans s2).trans s3).trans (upd_same_ext n3)) (h3.laid hp) (.lst (.inl (.inl upd_same)) ((cut_isL hl).mono (upd_same_ext n3))) q⟩
    (first | split at q3 | (unfold aChain_k at q3; split at q3) | (unfold aP_k at q3; split at q3) | (unfold aSl_k at q3; split at q3) | (unfold aRev_k at q3; split at q3) | (unfold aRevM_k at q3; split at q3) | (unfold aApp_k at q3; split at q3) | (unfold aPop_k at q3; split at q3) | (unfold aPopAt_k at q3; split at q3) | (unfold fIx onD at q3; split at q3) | (unfold onD at q3; split at q3))
    · cases i3 with
      | lst hq hl => exact fin (h3.sub.seq hq) hl q3
    · obtain ⟨xs, hm, q3⟩ := q3
      cases i3
      obtain ⟨vs, e, zz⟩ := h3.lst hm
      exact fin (.inl (.inl e)) zz q3
    · exact q3.elim
/-- xs[::-1]: new, not changed; new, to be changed -/
def aRev_k (Φ : AK)  (d : D) (M1 : Mm) : Prop := match d with
  | .lst xs => Φ (.lst xs.reverse) M1
  | .ref l => ∃ xs, (l, MO.lst xs) ∈ M1 ∧ Φ (.lst xs.reverse) M1
  | _ => False
def aRev (ta : AE) (Γ : Gm) (M : Mm) (Φ : AK) : Prop := ta Γ M fun d M1 => aRev_k Φ d M1
def aRevM_k (Φ : AK)  (d : D) (M1 : Mm) : Prop := match d with
  | .lst xs => ∀ p, Φ (.ref p) ((p, .lst xs.reverse) :: M1)
  | .ref l => ∃ xs, (l, MO.lst xs) ∈ M1 ∧ ∀ p, Φ (.ref p) ((p, .lst xs.reverse) :: M1)
  | _ => False
def aRevM (ta : AE) (Γ : Gm) (M : Mm) (Φ : AK) : Prop := ta Γ M fun d M1 => aRevM_k Φ d M1
theorem de_rev {k : Nat} {p1 p2 p3 : Pos} (ha : DE X T a ta) : DE X T (.Subscript a (.Slice none none (some (.UnaryOp .USub (.Constant (.int 1) k p1) p2)) p3) pos) (aRev ta) :=
  de_of (pe_revL ha) fun F σ H Γ M Φ Q w q z => cE_mk w q fun d M1 x F1 H1 s1 h1 i1 q1 => by
    have fin : ∀ {l : Addr} {vs : List V} {xs : List D}, SqL X.K H1 l vs → IsL X.K F1 vs xs → Φ (.lst xs.reverse) M1 → ∃ a ys, V.ref l = .ref a ∧ SqL X.K H1 a ys ∧ ∀ p, H1 p = none → Q (.ref p) (upd H1 p (.lst ys.reverse)) := fun {l vs xs} hq hl q => ⟨l, vs, rfl, hq, fun p hp => by
      have n3 := h1.free hp
      exact z _ M1 _ _ _ (s1.trans (upd_same_ext n3)) (h1.laid hp) (.lst (.inl (.inl upd_same)) (hl.reverse.mono (upd_same_ext n3))) q⟩
    (first | split at q1 | (unfold aChain_k at q1; split at q1) | (unfold aP_k at q1; split at q1) | (unfold aSl_k at q1; split at q1) | (unfold aRev_k at q1; split at q1) | (unfold aRevM_k at q1; split at q1) | (unfold aApp_k at q1; split at q1) | (unfold aPop_k at q1; split at q1) | (unfold aPopAt_k at q1; split at q1) | (unfold fIx onD at q1; split at q1) | (unfold onD at q1; split at q1))
    · cases i1 with
      | lst hq hl => exact fin (h1.sub.seq hq) hl q1
    · obtain ⟨xs, hm, q1⟩ := q1
      cases i1
      obtain ⟨vs, e, zz⟩ := h1.lst hm
      exact fin (.inl (.inl e)) zz q1
    · exact q1.elim
theorem de_revM {k : Nat} {p1 p2 p3 : Pos} (ha : DE X T a ta) : DE X T (.Subscript a (.Slice none none (some (.UnaryOp .USub (.Constant (.int 1) k p1) p2)) p3) pos) (aRevM ta) :=
  de_of (pe_revL ha) fun F σ H Γ M Φ Q w q z => cE_mk w q fun d M1 x F1 H1 s1 h1 i1 q1 => by
    have fin : ∀ {l : Addr} {vs : List V} {xs : List D}, SqL X.K H1 l vs → IsL X.K F1 vs xs → (∀ p, Φ (.ref p) ((p, .lst xs.reverse) :: M1)) → ∃ a ys, V.ref l = .ref a ∧ SqL X.K H1 a ys ∧ ∀ p, H1 p = none → Q (.ref p) (upd H1 p (.lst ys.reverse)) := fun {l vs xs} hq hl q => ⟨l, vs, rfl, hq, fun p hp =>
      z (.ref p) ((p, .lst xs.reverse) :: M1) _ _ _ s1 (h1.newM (o := .lst xs.reverse) hp ⟨_, upd_same, hl.reverse⟩) (.ref p) (q p)⟩
    (first | split at q1 | (unfold aChain_k at q1; split at q1) | (unfold aP_k at q1; split at q1) | (unfold aSl_k at q1; split at q1) | (unfold aRev_k at q1; split at q1) | (unfold aRevM_k at q1; split at q1) | (unfold aApp_k at q1; split at q1) | (unfold aPop_k at q1; split at q1) | (unfold aPopAt_k at q1; split at q1) | (unfold fIx onD at q1; split at q1) | (unfold onD at q1; split at q1))
    · cases i1 with
      | lst hq hl => exact fin (h1.sub.seq hq) hl q1
    · obtain ⟨xs, hm, q1⟩ := q1
      cases i1
      obtain ⟨vs, e, zz⟩ := h1.lst hm
      exact fin (.inl (.inl e)) zz q1
    · exact q1.elim

/-! ### methods of a mutable list -/
theorem tyV_lst {l : Addr} {vs : List V} (h : H l = some (.lst vs)) : tyV K "list" (.ref l) H := .inl ⟨rfl, _, .inl (.inl h)⟩
def aApp_k (tb : AE) (Γ : Gm) (Φ : AK)  (d : D) (M1 : Mm) : Prop := match d with
  | .ref l => (∃ xs, (l, MO.lst xs) ∈ M1) ∧ tb Γ M1 fun e M2 => ∃ xs M3, Up M2 l (.lst xs) (.lst (xs ++ [e])) M3 ∧ xs.length < 100000 ∧ Φ .non M3
  | _ => False
def aApp (ta tb : AE) (Γ : Gm) (M : Mm) (Φ : AK) : Prop := ta Γ M fun d M1 => aApp_k tb Γ Φ d M1
theorem de_app {p2 : Pos} (ha : DE X T a ta) (hb : DE X T b tb) (hst : starEach [b] X.env = (false, eval b X.env) :: starEach [] X.env := by rfl)
    (hbase : attributeBase a "append" X.env (eval a X.env) = eval a X.env := by rfl)
    (hfew : ((backTo pos (starEach [b] X.env)).all (fun x => !x.1) && (backToKw pos (keywordEach [] X.env)).all (fun x => x.1.isSome) && decide ([b].length + ([] : List Keyword).length + (if ([] : List Keyword).isEmpty then 0 else 1) < 30)) = true := by rfl)
    (hline : (p2.endLine == pos.line) = true := by rfl) (hplain : (backTo pos (starEach [] X.env)).any (·.1) = false := by rfl) : DE X T (.Call (.Attribute a "append" p2) [b] [] pos) (aApp ta tb) :=
  de_of (pe_bm PySem.F.plainAttrs_list PySem.F.slot_list_append PySem.F.type_list_append mt_append ha (pa_cons hb pa_nil hst) hbase hfew hline hst hplain) fun F σ H Γ M Φ Q w q z => cE_mk w q fun d M1 x F1 H1 s1 h1 i1 q1 => by
    (first | split at q1 | (unfold aChain_k at q1; split at q1) | (unfold aP_k at q1; split at q1) | (unfold aSl_k at q1; split at q1) | (unfold aRev_k at q1; split at q1) | (unfold aRevM_k at q1; split at q1) | (unfold aApp_k at q1; split at q1) | (unfold aPop_k at q1; split at q1) | (unfold aPopAt_k at q1; split at q1) | (unfold fIx onD at q1; split at q1) | (unfold onD at q1; split at q1))
    · rename_i l
      obtain ⟨⟨xs0, hm⟩, q1⟩ := q1
      cases i1
      obtain ⟨vs0, e0, _⟩ := h1.lst hm
      refine ⟨tyV_lst e0, cE_mk (w.go s1 h1) q1 fun e M2 y F2 H2 s2 h2 i2 q2 => ?_⟩
      obtain ⟨xs, M3, up, hn, q2⟩ := q2
      obtain ⟨vs, e1, zz⟩ := h2.lst up.mem
      exact ⟨l, vs, y, rfl, rfl, e1, by rw [zz.length]; exact line_lt hn, z .non M3 _ F2 _ (s1.trans s2) (h2.put up ⟨_, upd_same, zz.append (.cons i2 .nil)⟩) .non q2⟩
    · exact q1.elim
def aPop_k (Φ : AK)  (d : D) (M1 : Mm) : Prop := match d with
  | .ref l => ∃ xs y M2, Up M1 l (.lst xs) (.lst xs.dropLast) M2 ∧ xs[xs.length - 1]? = some y ∧ Φ y M2
  | _ => False
def aPop (ta : AE) (Γ : Gm) (M : Mm) (Φ : AK) : Prop := ta Γ M fun d M1 => aPop_k Φ d M1
theorem de_pop {p2 : Pos} (ha : DE X T a ta) (hbase : attributeBase a "pop" X.env (eval a X.env) = eval a X.env := by rfl) (hline : (p2.endLine == pos.line) = true := by rfl) : DE X T (.Call (.Attribute a "pop" p2) [] [] pos) (aPop ta) :=
  de_of (pe_bm0 PySem.F.plainAttrs_list PySem.F.slot_list_pop PySem.F.type_list_pop mt_pop ha hbase hline) fun F σ H Γ M Φ Q w q z => cE_mk w q fun d M1 x F1 H1 s1 h1 i1 q1 => by
    (first | split at q1 | (unfold aChain_k at q1; split at q1) | (unfold aP_k at q1; split at q1) | (unfold aSl_k at q1; split at q1) | (unfold aRev_k at q1; split at q1) | (unfold aRevM_k at q1; split at q1) | (unfold aApp_k at q1; split at q1) | (unfold aPop_k at q1; split at q1) | (unfold aPopAt_k at q1; split at q1) | (unfold fIx onD at q1; split at q1) | (unfold onD at q1; split at q1))
    · rename_i l
      obtain ⟨xs, y, M2, up, hy, q1⟩ := q1
      cases i1
      obtain ⟨vs, e1, zz⟩ := h1.lst up.mem
      obtain ⟨v, hv, iv⟩ := zz.get hy
      exact ⟨tyV_lst e1, l, vs, v, rfl, rfl, e1, by rw [zz.length]; exact hv, z y M2 v F1 _ s1 (h1.put up ⟨_, upd_same, zz.dropLast⟩) iv q1⟩
    · exact q1.elim
def aPopAt_k (tb : AE) (Γ : Gm) (Φ : AK)  (d : D) (M1 : Mm) : Prop := match d with
  | .ref l => (∃ xs, (l, MO.lst xs) ∈ M1) ∧ tb Γ M1 fun e M2 => match e with
    | .int i => ∃ xs k y M3, Up M2 l (.lst xs) (.lst (xs.eraseIdx k)) M3 ∧ (-9223372036854775808 ≤ i ∧ i < 9223372036854775808) ∧ seqIndex? i xs.length = some k ∧ xs[k]? = some y ∧ Φ y M3
    | _ => False
  | _ => False
def aPopAt (ta tb : AE) (Γ : Gm) (M : Mm) (Φ : AK) : Prop := ta Γ M fun d M1 => aPopAt_k tb Γ Φ d M1
theorem de_popAt {p2 : Pos} (ha : DE X T a ta) (hb : DE X T b tb) (hst : starEach [b] X.env = (false, eval b X.env) :: starEach [] X.env := by rfl)
    (hbase : attributeBase a "pop" X.env (eval a X.env) = eval a X.env := by rfl)
    (hfew : ((backTo pos (starEach [b] X.env)).all (fun x => !x.1) && (backToKw pos (keywordEach [] X.env)).all (fun x => x.1.isSome) && decide ([b].length + ([] : List Keyword).length + (if ([] : List Keyword).isEmpty then 0 else 1) < 30)) = true := by rfl)
    (hline : (p2.endLine == pos.line) = true := by rfl) (hplain : (backTo pos (starEach [] X.env)).any (·.1) = false := by rfl) : DE X T (.Call (.Attribute a "pop" p2) [b] [] pos) (aPopAt ta tb) :=
  de_of (pe_bm PySem.F.plainAttrs_list PySem.F.slot_list_pop PySem.F.type_list_pop mt_popAt ha (pa_cons hb pa_nil hst) hbase hfew hline hst hplain) fun F σ H Γ M Φ Q w q z => cE_mk w q fun d M1 x F1 H1 s1 h1 i1 q1 => by
    (first | split at q1 | (unfold aChain_k at q1; split at q1) | (unfold aP_k at q1; split at q1) | (unfold aSl_k at q1; split at q1) | (unfold aRev_k at q1; split at q1) | (unfold aRevM_k at q1; split at q1) | (unfold aApp_k at q1; split at q1) | (unfold aPop_k at q1; split at q1) | (unfold aPopAt_k at q1; split at q1) | (unfold fIx onD at q1; split at q1) | (unfold onD at q1; split at q1))
    · rename_i l
      obtain ⟨⟨xs0, hm⟩, q1⟩ := q1
      cases i1
      obtain ⟨vs0, e0, _⟩ := h1.lst hm
      refine ⟨tyV_lst e0, cE_mk (w.go s1 h1) q1 fun e M2 y F2 H2 s2 h2 i2 q2 => ?_⟩
      (first | split at q2 | (unfold aChain_k at q2; split at q2) | (unfold aP_k at q2; split at q2) | (unfold aSl_k at q2; split at q2) | (unfold aRev_k at q2; split at q2) | (unfold aRevM_k at q2; split at q2) | (unfold aApp_k at q2; split at q2) | (unfold aPop_k at q2; split at q2) | (unfold aPopAt_k at q2; split at q2) | (unfold fIx onD at q2; split at q2) | (unfold onD at q2; split at q2))
      · rename_i i
        obtain ⟨xs, k, y, M3, up, hn, hk, hy, q2⟩ := q2
        cases i2
        obtain ⟨vs, e1, zz⟩ := h2.lst up.mem
        obtain ⟨v, hv, iv⟩ := zz.get hy
        exact ⟨l, vs, i, k, v, rfl, rfl, e1, by omega, by omega, by rw [zz.length]; exact hk, hv, z y M3 v F2 _ (s1.trans s2) (h2.put up ⟨_, upd_same, zz.eraseIdx k⟩) iv q2⟩
      · exact q2.elim
    · exact q1.elim
end
end DL

set_option Elab.async false
set_option linter.all false
set_option maxRecDepth 100000
set_option maxHeartbeats 2000000
namespace DL
open PySem L2
open PySem.PyData (strOk)

/-! ### == on data -/
def plD : Nat → D → Bool
  | _, .non => true
  | _, .bl _ => true
  | _, .int _ => true
  | _, .str x => strOk x
  | n + 1, .tup xs => xs.all (plD n)
  | n + 1, .lst xs => xs.all (plD n)
  | _, _ => false
def py : Nat → D → PyData
  | _, .non => .none
  | _, .bl b => .bool b
  | _, .int i => .int i
  | _, .str x => .str x
  | n + 1, .tup xs => .tuple (xs.map (py n))
  | n + 1, .lst xs => .list (xs.map (py n))
  | _, _ => .none
section
variable {n : Nat}
theorem plD_non : plD n .non = true := by cases n <;> rfl
theorem plD_bl {b : Bool} : plD n (.bl b) = true := by cases n <;> rfl
theorem plD_int {i : Int} : plD n (.int i) = true := by cases n <;> rfl
theorem plD_str {x : Str} : plD n (.str x) = strOk x := by cases n <;> rfl
theorem py_non : py n .non = .none := by cases n <;> rfl
theorem py_bl {b : Bool} : py n (.bl b) = .bool b := by cases n <;> rfl
theorem py_int {i : Int} : py n (.int i) = .int i := by cases n <;> rfl
theorem py_str {x : Str} : py n (.str x) = .str x := by cases n <;> rfl
theorem plD_ints {ns : List Int} : plD (n + 1) (.lst (ns.map D.int)) = true := by
  show (ns.map D.int).all (plD n) = true
  rw [List.all_eq_true]
  intro d hd
  obtain ⟨i, _, rfl⟩ := List.mem_map.mp hd
  exact plD_int
theorem eqv_nil {xs : List PyData} : PyData.eqv (.list xs) (.list []) = xs.isEmpty := by
  cases xs <;> rfl
end
theorem dpAll_of {K : PySem.W.Frag} {F H : Hp} {n : Nat} (ih : ∀ (d : D) (v : V), plD n d = true → Is K F v d → Dp K H v (py n d)) : ∀ {xs : List D} {vs : List V}, xs.all (plD n) = true → IsL K F vs xs → DpAll K H vs (xs.map (py n))
  | [], _, _, .nil => .nil
  | x :: xs, _, h, .cons i l => by
    rw [List.all_cons, Bool.and_eq_true] at h
    exact .cons (ih x _ h.1 i) (dpAll_of ih h.2 l)
theorem dp_of {K : PySem.W.Frag} {F H : Hp} (s : Same F H) : ∀ (n : Nat) (d : D) (v : V), plD n d = true → Is K F v d → Dp K H v (py n d)
  | n, .non, _, _, i => by
    cases i
    rw [py_non]
    exact .non
  | n, .bl b, _, _, i => by
    cases i
    rw [py_bl]
    exact .bl b
  | n, .int j, _, _, i => by
    cases i
    rw [py_int]
    exact .int j
  | n, .str x, _, _, i => by
    cases i
    rw [py_str]
    exact .str x
  | n + 1, .tup xs, _, h, i => by
    cases i with
    | tup hq hl => exact .tup (same_t s hq) (dpAll_of (dp_of s n) h hl)
  | n + 1, .lst xs, _, h, i => by
    cases i with
    | lst hq hl => exact .lst (s.seq hq) (dpAll_of (dp_of s n) h hl)
  | 0, .tup _, _, h, _ => by cases h
  | 0, .lst _, _, h, _ => by cases h
  | 0, .ref _, _, h, _ => by cases h
  | 0, .ty _, _, h, _ => by cases h
  | 0, .ins _ _ _, _, h, _ => by cases h
  | 0, .xc _ _ _ _, _, h, _ => by cases h
  | _ + 1, .ref _, _, h, _ => by cases h
  | _ + 1, .ty _, _, h, _ => by cases h
  | _ + 1, .ins _ _ _, _, h, _ => by cases h
  | _ + 1, .xc _ _ _ _, _, h, _ => by cases h
theorem canAll_of {n : Nat} (ih : ∀ d : D, plD n d = true → (py n d).canLay0 = true) : ∀ {xs : List D}, xs.all (plD n) = true → PyData.canLayAll0 (xs.map (py n)) = true
  | [], _ => rfl
  | x :: xs, h => by
    rw [List.all_cons, Bool.and_eq_true] at h
    show ((py n x).canLay0 && PyData.canLayAll0 (xs.map (py n))) = true
    rw [ih x h.1, canAll_of ih h.2]
    rfl
theorem depAll_of {n : Nat} (ih : ∀ d : D, plD n d = true → (py n d).depth ≤ n) : ∀ {xs : List D}, xs.all (plD n) = true → PyData.depthAll (xs.map (py n)) ≤ n
  | [], _ => Nat.zero_le _
  | x :: xs, h => by
    rw [List.all_cons, Bool.and_eq_true] at h
    show max (py n x).depth (PyData.depthAll (xs.map (py n))) ≤ n
    have h1 := ih x h.1
    have h2 := depAll_of ih h.2
    omega
theorem can_of : ∀ (n : Nat) (d : D), plD n d = true → (py n d).canLay0 = true ∧ (py n d).depth ≤ n
  | n, .non, _ => by rw [py_non]; exact ⟨rfl, Nat.zero_le _⟩
  | n, .bl b, _ => by rw [py_bl]; exact ⟨rfl, Nat.zero_le _⟩
  | n, .int j, _ => by rw [py_int]; exact ⟨rfl, Nat.zero_le _⟩
  | n, .str x, h => by
    rw [py_str]
    rw [plD_str] at h
    exact ⟨h, Nat.zero_le _⟩
  | n + 1, .tup xs, h => ⟨canAll_of (fun d hd => (can_of n d hd).1) h, Nat.succ_le_succ (depAll_of (fun d hd => (can_of n d hd).2) h)⟩
  | n + 1, .lst xs, h => ⟨canAll_of (fun d hd => (can_of n d hd).1) h, Nat.succ_le_succ (depAll_of (fun d hd => (can_of n d hd).2) h)⟩
  | 0, .tup _, h => by cases h
  | 0, .lst _, h => by cases h
  | 0, .ref _, h => by cases h
  | 0, .ty _, h => by cases h
  | 0, .ins _ _ _, h => by cases h
  | 0, .xc _ _ _ _, h => by cases h
  | _ + 1, .ref _, h => by cases h
  | _ + 1, .ty _, h => by cases h
  | _ + 1, .ins _ _ _, h => by cases h
  | _ + 1, .xc _ _ _ _, h => by cases h
theorem shaped_of {n : Nat} (hn : n ≤ 64) {d : D} (h : plD n d = true) : SeqAt.shaped (py n d) = true := by
  obtain ⟨h1, h2⟩ := can_of n d h
  unfold SeqAt.shaped
  rw [h1, decide_eq_true (Nat.le_trans h2 hn)]
  rfl
section
variable {X : Cx} {T : Ct} {e a b c : Expr} {pos : Pos} {K : PySem.W.Frag} {F F' F1 H H' H1 : Hp} {σ : St} {Γ : Gm} {M M' : Mm} {ta tb tc : AE} {tA tB : AT} {es : List Expr} {tr : AA} {B : Bx}
/-- read through -/
def rdM (d : D) (M : Mm) (k : D → Prop) : Prop := match d with
  | .ref l => ∃ xs, (l, MO.lst xs) ∈ M ∧ k (.lst xs)
  | d => k d
theorem rdM_is {d : D} {k : D → Prop} {v : V} (h : Hs K B M F H) (i : Is K F v d) (q : rdM d M k) : ∃ d', Is K H v d' ∧ k d' := by
  unfold rdM at q
  (first | split at q)
  · obtain ⟨xs, hm, q⟩ := q
    cases i
    obtain ⟨vs, e, z⟩ := h.lst hm
    exact ⟨_, .lst (.inl (.inl e)) (z.mono h.sub), q⟩
  · exact ⟨_, i.mono h.sub, q⟩
def eqS : D → D → Option Bool
  | .int i, .int j => some (decide (i = j))
  | .bl i, .bl j => some (decide (i = j))
  | .str x, .str y => some (decide (x = y))
  | .non, .non => some true
  | .non, .int _ => some false
  | .int _, .non => some false
  | .non, .bl _ => some false
  | .bl _, .non => some false
  | .non, .str _ => some false
  | .str _, .non => some false
  | .int _, .str _ => some false
  | .str _, .int _ => some false
  | .bl _, .str _ => some false
  | .str _, .bl _ => some false
  | _, _ => none
def fEqB (neg : Bool → Bool) (d e : D) (M : Mm) (Φ : AK) : Prop := match eqS d e with
  | some b => Φ (.bl (neg b)) M
  | none => rdM d M fun d' => rdM e M fun e' => (plD 60 d' = true ∧ plD 60 e' = true) ∧ Φ (.bl (neg (PyData.eqv (py 60 d') (py 60 e')))) M
abbrev fEq : A2 := fEqB fun b => b
abbrev fNe : A2 := fEqB fun b => !b
theorem eqS_of {d e : D} {x y : V} {b : Bool} (i1 : Is K F x d) (i2 : Is K F y e) (h : eqS d e = some b) : scal x y = true ∧ decide (x = y) = b := by
  cases d <;> cases e <;> (first | cases h) <;> (cases i1; cases i2; refine ⟨rfl, ?_⟩; simp)
theorem ab_eqG {neg : Bool → Bool} : Ab2 K B (fun x y H Q => (scal x y = true ∧ Q (.bl (neg (decide (x = y)))) H) ∨ (∃ d e, Dp K H x d ∧ Dp K H y e ∧ SeqAt.shaped d = true ∧ SeqAt.shaped e = true ∧ Q (.bl (neg (PyData.eqv d e))) H)) (fEqB neg) := fun F H x y d e M Φ Q h i1 i2 q z => by
  unfold fEqB at q
  (first | split at q)
  · rename_i b hb
    obtain ⟨h1, h2⟩ := eqS_of i1 i2 hb
    exact .inl ⟨h1, by rw [h2]; exact z _ M _ F H (Same.refl F) h (.bl _) q⟩
  · obtain ⟨d', j1, q⟩ := rdM_is h i1 q
    obtain ⟨e', j2, q⟩ := rdM_is h i2 q
    exact .inr ⟨_, _, dp_of (Same.refl H) 60 d' x q.1.1 j1, dp_of (Same.refl H) 60 e' y q.1.2 j2, shaped_of (by decide) q.1.1, shaped_of (by decide) q.1.2, z _ M _ F H (Same.refl F) h (.bl _) q.2⟩
theorem op_eqA {k : Nat} (hr : Room k X.A) : OpR X (compareOp .Eq) (fun x y H Q => (scal x y = true ∧ Q (.bl (decide (x = y))) H) ∨ (∃ d e, Dp X.K H x d ∧ Dp X.K H y e ∧ SeqAt.shaped d = true ∧ SeqAt.shaped e = true ∧ Q (.bl (PyData.eqv d e)) H)) := op_eq.or (op_eqD hr.units)
theorem op_neA {k : Nat} (hr : Room k X.A) : OpR X (compareOp .NotEq) (fun x y H Q => (scal x y = true ∧ Q (.bl (!decide (x = y))) H) ∨ (∃ d e, Dp X.K H x d ∧ Dp X.K H y e ∧ SeqAt.shaped d = true ∧ SeqAt.shaped e = true ∧ Q (.bl (!PyData.eqv d e)) H)) := op_ne.or (op_neD hr.units)
theorem de_eq {k : Nat} (hr : Room k X.A) (ha : DE X T a ta) (hb : DE X T b tb) : DE X T (.Compare a [.Eq] [b] pos) (aOp fEq ta tb) := de_cmp (op_eqA hr) (ab_eqG (neg := fun b => b)) ha hb
theorem de_ne {k : Nat} (hr : Room k X.A) (ha : DE X T a ta) (hb : DE X T b tb) : DE X T (.Compare a [.NotEq] [b] pos) (aOp fNe ta tb) := de_cmp (op_neA hr) (ab_eqG (neg := fun b => !b)) ha hb
/-- is None, is True -/
def isN : D → Bool
  | .non => true
  | _ => false
theorem isN_of {d : D} {x : V} (i : Is K F x d) : decide (x = .non) = isN d := by cases i <;> rfl
def fIsB (neg : Bool → Bool) (d e : D) (M : Mm) (Φ : AK) : Prop := match e with
  | .non => Φ (.bl (neg (isN d))) M
  | .bl b => match d with
    | .bl c => Φ (.bl (neg (decide (c = b)))) M
    | _ => False
  | _ => False
abbrev fIs : A2 := fIsB fun b => b
abbrev fIsNot : A2 := fIsB fun b => !b
theorem ab_isG {neg : Bool → Bool} : Ab2 K B (fun x y H Q => (y = .non ∧ Q (.bl (neg (decide (x = .non)))) H) ∨ (∃ a b : Bool, x = .bl a ∧ y = .bl b ∧ Q (.bl (neg (decide (a = b)))) H)) (fIsB neg) := fun F H x y d e M Φ Q h i1 i2 q z => by
  unfold fIsB at q
  (first | split at q)
  · cases i2
    exact .inl ⟨rfl, by rw [isN_of i1]; exact z _ M _ F H (Same.refl F) h (.bl _) q⟩
  · (first | split at q)
    · cases i1
      cases i2
      exact .inr ⟨_, _, rfl, rfl, z _ M _ F H (Same.refl F) h (.bl _) q⟩
    · exact q.elim
  · exact q.elim
theorem de_is (ha : DE X T a ta) (hb : DE X T b tb) : DE X T (.Compare a [.Is] [b] pos) (aOp fIs ta tb) := de_cmp (op_isN.or op_isBl) (ab_isG (neg := fun b => b)) ha hb
theorem de_isNot (ha : DE X T a ta) (hb : DE X T b tb) : DE X T (.Compare a [.IsNot] [b] pos) (aOp fIsNot ta tb) := de_cmp (op_notN.or op_notBl) (ab_isG (neg := fun b => !b)) ha hb

/-! ### built-ins upon ints -/
def fAbs (ds : List D) (M : Mm) (Φ : AK) : Prop := match ds with
  | [.int i] => Φ (.int (if i < 0 then -i else i)) M
  | _ => False
def fInt (ds : List D) (M : Mm) (Φ : AK) : Prop := match ds with
  | [.int i] => Φ (.int i) M
  | [.bl b] => Φ (.int (if b then 1 else 0)) M
  | _ => False
def fMax2 (ds : List D) (M : Mm) (Φ : AK) : Prop := match ds with
  | [.int i, .int j] => Φ (.int (max i j)) M
  | _ => False
def fMin2 (ds : List D) (M : Mm) (Φ : AK) : Prop := match ds with
  | [.int i, .int j] => Φ (.int (min i j)) M
  | _ => False
variable {p : Pos}
theorem de_abs (hg : Gl X "abs") (hm : X.mg "abs" = none) (ha : DE X T a ta) (hs : starEach [a] X.env = (false, eval a X.env) :: starEach [] X.env := by rfl) (hpl : (backTo pos (starEach [] X.env)).any (·.1) = false := by rfl) : DE X T (.Call (.Name "abs" p) [a] [] pos) (aCB fAbs (aCons ta aNil)) :=
  de_callB call_abs (fun F H vs ds M Φ Q h i q z => by
    unfold fAbs at q
    (first | split at q)
    · match vs, i with
      | [_], .cons i1 .nil =>
        cases i1
        exact ⟨_, rfl, z _ M _ F H (Same.refl F) h (.int _) q⟩
    · exact q.elim) hg hm PyProof.Rows.boot_abs (da_cons ha da_nil hs) (by decide) (by decide) hs hpl
theorem de_callInt (hg : Gl X "int") (hm : X.mg "int" = none) (ha : DE X T a ta) (hs : starEach [a] X.env = (false, eval a X.env) :: starEach [] X.env := by rfl) (hpl : (backTo pos (starEach [] X.env)).any (·.1) = false := by rfl) : DE X T (.Call (.Name "int" p) [a] [] pos) (aCB fInt (aCons ta aNil)) :=
  de_callTy call_int1 (fun F H vs ds M Φ Q h i q z => by
    unfold fInt at q
    (first | split at q)
    · match vs, i with
      | [_], .cons i1 .nil =>
        cases i1
        exact .inl ⟨_, rfl, z _ M _ F H (Same.refl F) h (.int _) q⟩
    · match vs, i with
      | [_], .cons i1 .nil =>
        cases i1
        exact .inr ⟨_, rfl, z _ M _ F H (Same.refl F) h (.int _) q⟩
    · exact q.elim) hg hm PyProof.Rows.boot_int (da_cons ha da_nil hs) (by decide) (by decide) hs hpl
theorem de_max2 (hc : X.calm = true) (hg : Gl X "max") (hm : X.mg "max" = none) (ha : DE X T a ta) (hb : DE X T b tb) (hs : starEach [a, b] X.env = (false, eval a X.env) :: starEach [b] X.env := by rfl) (hs2 : starEach [b] X.env = (false, eval b X.env) :: starEach [] X.env := by rfl) (hpl : (backTo pos (starEach [b] X.env)).any (·.1) = false := by rfl) : DE X T (.Call (.Name "max" p) [a, b] [] pos) (aCB fMax2 (aCons ta (aCons tb aNil))) :=
  de_callB (call_max2 hc) (fun F H vs ds M Φ Q h i q z => by
    unfold fMax2 at q
    (first | split at q)
    · match vs, i with
      | [_, _], .cons i1 (.cons i2 .nil) =>
        cases i1
        cases i2
        rename_i i' j'
        refine ⟨_, _, rfl, ?_⟩
        have e : (if j' > i' then j' else i') = max i' j' := by split <;> omega
        rw [e]
        exact z _ M _ F H (Same.refl F) h (.int _) q
    · exact q.elim) hg hm PyProof.Rows.boot_max (da_cons ha (da_cons hb da_nil hs2) hs) (by decide) (by decide) hs hpl
theorem de_min2 (hc : X.calm = true) (hg : Gl X "min") (hm : X.mg "min" = none) (ha : DE X T a ta) (hb : DE X T b tb) (hs : starEach [a, b] X.env = (false, eval a X.env) :: starEach [b] X.env := by rfl) (hs2 : starEach [b] X.env = (false, eval b X.env) :: starEach [] X.env := by rfl) (hpl : (backTo pos (starEach [b] X.env)).any (·.1) = false := by rfl) : DE X T (.Call (.Name "min" p) [a, b] [] pos) (aCB fMin2 (aCons ta (aCons tb aNil))) :=
  de_callB (call_min2 hc) (fun F H vs ds M Φ Q h i q z => by
    unfold fMin2 at q
    (first | split at q)
    · match vs, i with
      | [_, _], .cons i1 (.cons i2 .nil) =>
        cases i1
        cases i2
        rename_i i' j'
        refine ⟨_, _, rfl, ?_⟩
        have e : (if j' < i' then j' else i') = min i' j' := by split <;> omega
        rw [e]
        exact z _ M _ F H (Same.refl F) h (.int _) q
    · exact q.elim) hg hm (by decide +kernel) (da_cons ha (da_cons hb da_nil hs2) hs) (by decide) (by decide) hs hpl
/-! ### isinstance -/
def tyD : D → Mm → Option String
  | .non, _ => some "NoneType"
  | .bl _, _ => some "bool"
  | .int _, _ => some "int"
  | .str _, _ => some "str"
  | .tup _, _ => some "tuple"
  | .lst _, _ => some "list"
  | _, _ => none
theorem tyX_of {K : PySem.W.Frag} {F H : Hp} {M : Mm} {d : D} {x : V} {t : String} (s : Same F H) (i : Is K F x d) (h : tyD d M = some t) : TyX K H x (.type t) := by
  cases d <;> cases h <;> cases i
  · exact .base .non
  · exact .base (.bl _)
  · exact .base (.int _)
  · exact .base (.str _)
  · rename_i hq hl
    rcases same_t s hq with (q | ⟨o, q⟩) | ⟨o, its, n, q, c, _⟩
    · exact .base (.tup q)
    · exact .fTuple q
    · exact .kTuple q c
  · rename_i hq hl
    rcases s.seq hq with (q | ⟨o, q⟩) | ⟨o, its, n, q, c, _⟩
    · exact .base (.lst q)
    · exact .base (.frz q)
    · exact .kList q c
def fIsi (n : String) (d : D) (M : Mm) (Φ : AK) : Prop := match tyD d M with
  | some t => match kitB t n with
    | some b => Φ (.bl b) M
    | none => False
  | none => False
def aIsi (n : String) (ta : AE) (Γ : Gm) (M : Mm) (Φ : AK) : Prop := ta Γ M fun d M1 => fIsi n d M1 Φ
theorem de_isi {x : Str} {n : String} {p' : Pos} (hg : Gl X "isinstance") (hm : X.mg "isinstance" = none) (hg2 : Gl X x) (hm2 : X.mg x = none) (hv : bootBuiltins x = some (.type n)) (ha : DE X T a ta) (hn : x ≠ "__name__" := by decide) (hd : (x == ("__debug__" : Str)) = false := by decide)
    (hs : starEach [a, .Name x p'] X.env = (false, eval a X.env) :: starEach [.Name x p'] X.env := by rfl) (hs2 : starEach [.Name x p'] X.env = (false, eval (.Name x p') X.env) :: starEach [] X.env := by rfl) (hpl : (backTo pos (starEach [.Name x p'] X.env)).any (·.1) = false := by rfl) :
    DE X T (.Call (.Name "isinstance" p) [a, .Name x p'] [] pos) (aIsi n ta) :=
  de_of (pe_callB call_isi hg hm PyProof.Rows.boot_isinstance (pa_cons ha (pa_cons (pe_bltn hg2 hm2 hv (v := .ty n) rfl hn hd) pa_nil hs2) hs) (by decide) (by decide) hs hpl) fun F σ H Γ M Φ Q w q z => cE_mk w q fun d M1 v F1 H1 s1 h1 i1 q1 => by
    unfold fIsi at q1
    (first | split at q1)
    · rename_i t ht
      (first | split at q1)
      · rename_i b hb
        exact ⟨v, .ty n, _, _, b, rfl, .ty n, tyX_of h1.sub i1 ht, kit_ty hb, z _ M1 _ F1 H1 s1 h1 (.bl b) q1⟩
      · exact q1.elim
    · exact q1.elim
/-! ### sequences made of sequences -/
def fTuple (ds : List D) (M : Mm) (Φ : AK) : Prop := match ds with
  | [d] => seqOf d M fun xs => Φ (.tup xs) M
  | _ => False
theorem de_tupleOf (hg : Gl X "tuple") (hm : X.mg "tuple" = none) (ha : DE X T a ta) (hs : starEach [a] X.env = (false, eval a X.env) :: starEach [] X.env := by rfl) (hpl : (backTo pos (starEach [] X.env)).any (·.1) = false := by rfl) : DE X T (.Call (.Name "tuple" p) [a] [] pos) (aCB fTuple (aCons ta aNil)) :=
  de_callTy call_tuple_of (fun F H vs ds M Φ Q h i q z => by
    unfold fTuple at q
    (first | split at q)
    · match vs, i with
      | [_], .cons i1 .nil =>
        have fin : ∀ {l : Addr} {ws : List V} {xs : List D}, SqL X.K H l ws → IsL X.K F ws xs → Φ (.tup xs) M → ∃ p ys, [V.ref l] = [.ref p] ∧ ((SqL X.K H p ys ∧ ∀ l, H l = none → Q (.ref l) (upd H l (.tup ys))) ∨ (SqT X.K H p ys ∧ Q (.ref p) H)) := fun {l ws xs} hq hl q => ⟨l, ws, rfl, .inl ⟨hq, fun p hp => by
          have n1 := h.free hp
          exact z _ M _ _ _ (upd_same_ext n1) (h.laid hp) (.tup (.inl (.inl upd_same)) (hl.mono (upd_same_ext n1))) q⟩⟩
        unfold seqOf at q
        (first | split at q)
        · cases i1 with
          | lst hq hl => exact fin (h.sub.seq hq) hl q
        · cases i1 with
          | tup hq hl => exact ⟨_, _, rfl, .inr ⟨same_t h.sub hq, z _ M _ F H (Same.refl F) h (.tup hq hl) q⟩⟩
        · obtain ⟨xs, hm, q⟩ := q
          cases i1
          obtain ⟨vs, e, zz⟩ := h.lst hm
          exact fin (.inl (.inl e)) zz q
        · exact q.elim
    · exact q.elim) hg hm (by decide +kernel) (da_cons ha da_nil hs) (by decide) (by decide) hs hpl
/-- list(x): not changed; changed later -/
def fList (ds : List D) (M : Mm) (Φ : AK) : Prop := match ds with
  | [d] => seqOf d M fun xs => Φ (.lst xs) M
  | _ => False
def fListM (ds : List D) (M : Mm) (Φ : AK) : Prop := match ds with
  | [d] => seqOf d M fun xs => ∀ l, Φ (.ref l) ((l, .lst xs) :: M)
  | _ => False
theorem de_listOf (hg : Gl X "list") (hm : X.mg "list" = none) (ha : DE X T a ta) (hs : starEach [a] X.env = (false, eval a X.env) :: starEach [] X.env := by rfl) (hpl : (backTo pos (starEach [] X.env)).any (·.1) = false := by rfl) : DE X T (.Call (.Name "list" p) [a] [] pos) (aCB fList (aCons ta aNil)) :=
  de_callTy call_list_of (fun F H vs ds M Φ Q h i q z => by
    unfold fList at q
    (first | split at q)
    · match vs, i with
      | [_], .cons i1 .nil =>
        obtain ⟨l, ws, xs, rfl, hq, hl, q⟩ := seq_at h i1 q
        refine ⟨l, ws, rfl, hq, fun p hp => ?_⟩
        have n1 := h.free hp
        exact z _ M _ _ _ (upd_same_ext n1) (h.laid hp) (.lst (.inl (.inl upd_same)) (hl.mono (upd_same_ext n1))) q
    · exact q.elim) hg hm (by decide +kernel) (da_cons ha da_nil hs) (by decide) (by decide) hs hpl
theorem de_listOfM (hg : Gl X "list") (hm : X.mg "list" = none) (ha : DE X T a ta) (hs : starEach [a] X.env = (false, eval a X.env) :: starEach [] X.env := by rfl) (hpl : (backTo pos (starEach [] X.env)).any (·.1) = false := by rfl) : DE X T (.Call (.Name "list" p) [a] [] pos) (aCB fListM (aCons ta aNil)) :=
  de_callTy call_list_of (fun F H vs ds M Φ Q h i q z => by
    unfold fListM at q
    (first | split at q)
    · match vs, i with
      | [_], .cons i1 .nil =>
        obtain ⟨l, ws, xs, rfl, hq, hl, q⟩ := seq_at h i1 q
        refine ⟨l, ws, rfl, hq, fun p hp => ?_⟩
        exact z (.ref p) ((p, .lst xs) :: M) _ _ _ (Same.refl F) (h.newM (o := .lst xs) hp ⟨_, upd_same, hl⟩) (.ref p) (q p)
    · exact q.elim) hg hm (by decide +kernel) (da_cons ha da_nil hs) (by decide) (by decide) hs hpl
/-! ### sums, all, any, the greatest -/
def fAll (ds : List D) (M : Mm) (Φ : AK) : Prop := match ds with
  | [.lst xs] => ∃ bs : List Bool, xs = bs.map D.bl ∧ Φ (.bl (bs.all id)) M
  | _ => False
def fAny (ds : List D) (M : Mm) (Φ : AK) : Prop := match ds with
  | [.lst xs] => ∃ bs : List Bool, xs = bs.map D.bl ∧ Φ (.bl (bs.any id)) M
  | _ => False
def fSum (ds : List D) (M : Mm) (Φ : AK) : Prop := match ds with
  | [.lst xs] => ∃ ns : List Int, xs = ns.map D.int ∧ Φ (.int ns.sum) M
  | _ => False
def fMaxL (ds : List D) (M : Mm) (Φ : AK) : Prop := match ds with
  | [.lst xs] => ∃ ns : List Int, xs = ns.map D.int ∧ 0 < ns.length ∧ ∀ m, m ∈ ns → (∀ y, y ∈ ns → y ≤ m) → Φ (.int m) M
  | _ => False
def fMinL (ds : List D) (M : Mm) (Φ : AK) : Prop := match ds with
  | [.lst xs] => ∃ ns : List Int, xs = ns.map D.int ∧ 0 < ns.length ∧ ∀ m, m ∈ ns → (∀ y, y ∈ ns → m ≤ y) → Φ (.int m) M
  | _ => False
theorem de_all (hc : X.calm = true) (hg : Gl X "all") (hm : X.mg "all" = none) (ha : DE X T a ta) (hs : starEach [a] X.env = (false, eval a X.env) :: starEach [] X.env := by rfl) (hpl : (backTo pos (starEach [] X.env)).any (·.1) = false := by rfl) : DE X T (.Call (.Name "all" p) [a] [] pos) (aCB fAll (aCons ta aNil)) :=
  de_callB (cr_all hc) (fun F H vs ds M Φ Q h i q z => by
    unfold fAll at q
    (first | split at q)
    · match vs, i with
      | [_], .cons (.lst hq hl) .nil =>
        obtain ⟨bs, rfl, q⟩ := q
        rw [hl.bls] at hq
        exact ⟨_, bs, rfl, h.sub.seq hq, z _ M _ F H (Same.refl F) h (.bl _) q⟩
    · exact q.elim) hg hm (by decide +kernel) (da_cons ha da_nil hs) (by decide) (by decide) hs hpl
theorem de_any (hc : X.calm = true) (hg : Gl X "any") (hm : X.mg "any" = none) (ha : DE X T a ta) (hs : starEach [a] X.env = (false, eval a X.env) :: starEach [] X.env := by rfl) (hpl : (backTo pos (starEach [] X.env)).any (·.1) = false := by rfl) : DE X T (.Call (.Name "any" p) [a] [] pos) (aCB fAny (aCons ta aNil)) :=
  de_callB (cr_any hc) (fun F H vs ds M Φ Q h i q z => by
    unfold fAny at q
    (first | split at q)
    · match vs, i with
      | [_], .cons (.lst hq hl) .nil =>
        obtain ⟨bs, rfl, q⟩ := q
        rw [hl.bls] at hq
        exact ⟨_, bs, rfl, h.sub.seq hq, z _ M _ F H (Same.refl F) h (.bl _) q⟩
    · exact q.elim) hg hm (by decide +kernel) (da_cons ha da_nil hs) (by decide) (by decide) hs hpl
theorem de_sum (hc : X.calm = true) (hg : Gl X "sum") (hm : X.mg "sum" = none) (ha : DE X T a ta) (hs : starEach [a] X.env = (false, eval a X.env) :: starEach [] X.env := by rfl) (hpl : (backTo pos (starEach [] X.env)).any (·.1) = false := by rfl) : DE X T (.Call (.Name "sum" p) [a] [] pos) (aCB fSum (aCons ta aNil)) :=
  de_callB (cr_sum hc) (fun F H vs ds M Φ Q h i q z => by
    unfold fSum at q
    (first | split at q)
    · match vs, i with
      | [_], .cons (.lst hq hl) .nil =>
        obtain ⟨bs, rfl, q⟩ := q
        rw [hl.ints] at hq
        exact ⟨_, bs, rfl, h.sub.seq hq, z _ M _ F H (Same.refl F) h (.int _) q⟩
    · exact q.elim) hg hm (by decide +kernel) (da_cons ha da_nil hs) (by decide) (by decide) hs hpl
theorem de_maxL (hc : X.calm = true) (hg : Gl X "max") (hm : X.mg "max" = none) (ha : DE X T a ta) (hs : starEach [a] X.env = (false, eval a X.env) :: starEach [] X.env := by rfl) (hpl : (backTo pos (starEach [] X.env)).any (·.1) = false := by rfl) : DE X T (.Call (.Name "max" p) [a] [] pos) (aCB fMaxL (aCons ta aNil)) :=
  de_callB (cr_max hc) (fun F H vs ds M Φ Q h i q z => by
    unfold fMaxL at q
    (first | split at q)
    · match vs, i with
      | [_], .cons (.lst hq hl) .nil =>
        obtain ⟨bs, rfl, h0, q⟩ := q
        rw [hl.ints] at hq
        exact ⟨_, bs, rfl, h.sub.seq hq, h0, fun m hm hle => z _ M _ F H (Same.refl F) h (.int _) (q m hm hle)⟩
    · exact q.elim) hg hm PyProof.Rows.boot_max (da_cons ha da_nil hs) (by decide) (by decide) hs hpl
theorem de_minL (hc : X.calm = true) (hg : Gl X "min") (hm : X.mg "min" = none) (ha : DE X T a ta) (hs : starEach [a] X.env = (false, eval a X.env) :: starEach [] X.env := by rfl) (hpl : (backTo pos (starEach [] X.env)).any (·.1) = false := by rfl) : DE X T (.Call (.Name "min" p) [a] [] pos) (aCB fMinL (aCons ta aNil)) :=
  de_callB (cr_min hc) (fun F H vs ds M Φ Q h i q z => by
    unfold fMinL at q
    (first | split at q)
    · match vs, i with
      | [_], .cons (.lst hq hl) .nil =>
        obtain ⟨bs, rfl, h0, q⟩ := q
        rw [hl.ints] at hq
        exact ⟨_, bs, rfl, h.sub.seq hq, h0, fun m hm hle => z _ M _ F H (Same.refl F) h (.int _) (q m hm hle)⟩
    · exact q.elim) hg hm (by decide +kernel) (da_cons ha da_nil hs) (by decide) (by decide) hs hpl
end
end DL

set_option Elab.async false
set_option linter.all false
set_option maxRecDepth 100000
set_option maxHeartbeats 2000000
namespace DL
open PySem L2
section
variable {X : Cx} {T : Ct} {a b : Expr} {pos : Pos} {ta tb : AE}
theorem dt_lt (ha : DE X T a ta) (hb : DE X T b tb) : DT X T (.Compare a [.Lt] [b] pos) (aB (aOp fLt ta tb)) := dt_cmp op_lt ab_B0 ha hb
theorem dt_le (ha : DE X T a ta) (hb : DE X T b tb) : DT X T (.Compare a [.LtE] [b] pos) (aB (aOp fLe ta tb)) := dt_cmp op_le ab_B0 ha hb
theorem dt_gt (ha : DE X T a ta) (hb : DE X T b tb) : DT X T (.Compare a [.Gt] [b] pos) (aB (aOp fGt ta tb)) := dt_cmp op_gt ab_B0 ha hb
theorem dt_ge (ha : DE X T a ta) (hb : DE X T b tb) : DT X T (.Compare a [.GtE] [b] pos) (aB (aOp fGe ta tb)) := dt_cmp op_ge ab_B0 ha hb
theorem dt_eq {k : Nat} (hr : Room k X.A) (ha : DE X T a ta) (hb : DE X T b tb) : DT X T (.Compare a [.Eq] [b] pos) (aB (aOp fEq ta tb)) := dt_cmp (op_eqA hr) (ab_eqG (neg := fun b => b)) ha hb
theorem dt_ne {k : Nat} (hr : Room k X.A) (ha : DE X T a ta) (hb : DE X T b tb) : DT X T (.Compare a [.NotEq] [b] pos) (aB (aOp fNe ta tb)) := dt_cmp (op_neA hr) (ab_eqG (neg := fun b => !b)) ha hb
theorem dt_is (ha : DE X T a ta) (hb : DE X T b tb) : DT X T (.Compare a [.Is] [b] pos) (aB (aOp fIs ta tb)) := dt_cmp (op_isN.or op_isBl) (ab_isG (neg := fun b => b)) ha hb
theorem dt_isNot (ha : DE X T a ta) (hb : DE X T b tb) : DT X T (.Compare a [.IsNot] [b] pos) (aB (aOp fIsNot ta tb)) := dt_cmp (op_notN.or op_notBl) (ab_isG (neg := fun b => !b)) ha hb
end
theorem all_ints {n : Nat} {ns : List Int} : (ns.map D.int).all (plD n) = true := by
  rw [List.all_eq_true]
  intro d hd
  obtain ⟨i, _, rfl⟩ := List.mem_map.mp hd
  exact plD_int
section
variable {X : Cx} {T : Ct} {a : Expr} {pos lpos : Pos} {ta ta' : AE} {tt tt' : AT}
theorem de_imp (h : DE X T a ta) (k : ∀ Γ M Φ, ta' Γ M Φ → ta Γ M Φ) : DE X T a ta' := ⟨fun pins s σ H Q I ⟨F, Γ, M, Φ, w, q, z⟩ => h.run pins s σ H Q I ⟨F, Γ, M, Φ, w, k Γ M Φ q, z⟩⟩
theorem dt_imp (h : DT X T a tt) (k : ∀ Γ M Φ, tt' Γ M Φ → tt Γ M Φ) : DT X T a tt' := ⟨fun pins s σ H Q I ⟨F, Γ, M, Φ, w, q, z⟩ => h.run pins s σ H Q I ⟨F, Γ, M, Φ, w, k Γ M Φ q, z⟩⟩
/-- x != [], x == [] -/
def lstOf (d : D) (M : Mm) (k : List D → Prop) : Prop := match d with
  | .lst xs => k xs
  | .ref l => ∃ xs, (l, MO.lst xs) ∈ M ∧ k xs
  | _ => False
def fNil (neg : Bool → Bool) (d : D) (M : Mm) (k : Bool → Mm → Prop) : Prop := lstOf d M fun xs => xs.all (plD 59) = true ∧ k (neg xs.isEmpty) M
theorem nil_go {neg : Bool → Bool} {d : D} {M : Mm} {k : Bool → Mm → Prop} (h : fNil neg d M k) : fEqB neg d (.lst []) M fun d M => match d with
  | .bl b => k b M
  | _ => False := by
  unfold fNil lstOf at h
  unfold fEqB
  split at h
  · rename_i xs
    refine ⟨⟨h.1, rfl⟩, ?_⟩
    have e : PyData.eqv (py 60 (.lst xs)) (py 60 (.lst [])) = xs.isEmpty := (eqv_nil).trans (by cases xs <;> rfl)
    show k (neg _) M
    rw [e]
    exact h.2
  · obtain ⟨xs, hm, h⟩ := h
    refine ⟨xs, hm, ⟨h.1, rfl⟩, ?_⟩
    have e : PyData.eqv (py 60 (.lst xs)) (py 60 (.lst [])) = xs.isEmpty := (eqv_nil).trans (by cases xs <;> rfl)
    show k (neg _) M
    rw [e]
    exact h.2
  · exact h.elim
theorem fEqB_mono {neg : Bool → Bool} {d e : D} {M : Mm} {Φ Φ' : AK} (h : ∀ b, Φ (.bl b) M → Φ' (.bl b) M) (q : fEqB neg d e M Φ) : fEqB neg d e M Φ' := by
  unfold fEqB at q ⊢
  (first | split at q)
  · exact h _ q
  · unfold rdM at q ⊢
    (first | split at q)
    · obtain ⟨xs, hm, q⟩ := q
      refine ⟨xs, hm, ?_⟩
      (first | split at q)
      · obtain ⟨ys, hm2, q⟩ := q
        exact ⟨ys, hm2, q.1, h _ q.2⟩
      · exact ⟨q.1, h _ q.2⟩
    · (first | split at q)
      · obtain ⟨ys, hm2, q⟩ := q
        exact ⟨ys, hm2, q.1, h _ q.2⟩
      · exact ⟨q.1, h _ q.2⟩
def aNil? (neg : Bool → Bool) (ta : AE) (Γ : Gm) (M : Mm) (Φ : Bool → Mm → Prop) : Prop := ta Γ M fun d M1 => fNil neg d M1 Φ
def aNilV (neg : Bool → Bool) (ta : AE) (Γ : Gm) (M : Mm) (Φ : AK) : Prop := ta Γ M fun d M1 => fNil neg d M1 fun b M2 => Φ (.bl b) M2
end
/-- a reading is monotone in what is wanted: expressions made of our rules are -/
theorem nilT {X : Cx} {T : Ct} {a : Expr} {pos lpos : Pos} {ta : AE} {k : Nat} (hr : Room k X.A) (ha : DE X T a ta) : DT X T (.Compare a [.NotEq] [.List [] lpos] pos) (aNil? (fun b => !b) ta) :=
  dt_of (pt_cmpR (op_neA hr) ha (de_lst (T := T) da_nil) (nomark _)) fun F σ H Γ M Φ Q w q z =>
    cE_mk w q fun d M1 x F1 H1 s1 h1 i1 q1 => cE_mk (Φ := fun e M2 => e = .lst [] ∧ M2 = M1) (w.go s1 h1) ⟨by decide, rfl, rfl⟩ fun e M2 y F2 H2 s2 h2 i2 ⟨e1, e2⟩ => by
      subst e1 e2
      exact ab_eqG (neg := fun b => !b) F2 H2 x y d (.lst []) M2 _ (fun x H' => ∃ k, x = V.bl k ∧ Q k H') h2 (i1.mono s2) i2 (nil_go q1) fun g M3 v F3 H3 s3 h3 i3 q3 => by
        cases g with
        | bl b =>
          cases i3
          exact ⟨b, rfl, z b M3 F3 H3 ((s1.trans s2).trans s3) h3 q3⟩
        | _ => exact q3.elim
theorem nilT' {X : Cx} {T : Ct} {a : Expr} {pos lpos : Pos} {ta : AE} {k : Nat} (hr : Room k X.A) (ha : DE X T a ta) : DT X T (.Compare a [.Eq] [.List [] lpos] pos) (aNil? (fun b => b) ta) :=
  dt_of (pt_cmpR (op_eqA hr) ha (de_lst (T := T) da_nil) (nomark _)) fun F σ H Γ M Φ Q w q z =>
    cE_mk w q fun d M1 x F1 H1 s1 h1 i1 q1 => cE_mk (Φ := fun e M2 => e = .lst [] ∧ M2 = M1) (w.go s1 h1) ⟨by decide, rfl, rfl⟩ fun e M2 y F2 H2 s2 h2 i2 ⟨e1, e2⟩ => by
      subst e1 e2
      exact ab_eqG (neg := fun b => b) F2 H2 x y d (.lst []) M2 _ (fun x H' => ∃ k, x = V.bl k ∧ Q k H') h2 (i1.mono s2) i2 (nil_go q1) fun g M3 v F3 H3 s3 h3 i3 q3 => by
        cases g with
        | bl b =>
          cases i3
          exact ⟨b, rfl, z b M3 F3 H3 ((s1.trans s2).trans s3) h3 q3⟩
        | _ => exact q3.elim
/-! ### the law's own end -/
def aspLaw : ASp := fun ds M Φ Ψ => ∃ ns : List Int, ds = [.lst (ns.map D.int)] ∧ ns.length ≤ 63 ∧ M = [] ∧ ∀ M', Φ (.bl true) M'
theorem aspLaw_len : ∀ ds M Φ Ψ, aspLaw ds M Φ Ψ → ds.length = 1 := fun ds M Φ Ψ ⟨ns, e, _⟩ => by rw [e]; rfl
/-- what is known, without the tables -/
def cutT (H : Hp) : Hp := fun b => match H b with
  | some (.tbl _) => none
  | o => o
theorem cutT_sub {H : Hp} : Same (cutT H) H := fun b o e => by
  unfold cutT at e
  split at e
  · cases e
  · exact e
theorem cutT_nt {H : Hp} : ∀ b ps, cutT H b ≠ some (.tbl ps) := fun b ps e => by
  unfold cutT at e
  split at e
  · cases e
  · rename_i h
    exact h ps e
theorem cutT_at {H : Hp} {b : Addr} {o : HO} (e : H b = some o) (ho : ∀ ps, o ≠ .tbl ps) : cutT H b = some o := by
  unfold cutT
  split
  · rename_i ps h
    rw [e] at h
    exact absurd (Option.some.inj h) (ho ps)
  · exact e
theorem cutT_sq {K : PySem.W.Frag} {H : Hp} {a : Addr} {vs : List V} (h : SqL K H a vs) : SqL K (cutT H) a vs := by
  rcases h with (h | ⟨o, h⟩) | h
  · exact .inl (.inl (cutT_at h fun ps z => by cases z))
  · exact .inl (.inr ⟨o, cutT_at h fun ps z => by cases z⟩)
  · exact .inr h
theorem law_conc {K : PySem.W.Frag} {H : Hp} {a : Addr} {ns : List Int} (hl : ns.length ≤ 63) (hS : SqL K H a (ns.map V.int)) : conc K Bx.no aspLaw [.ref a] H (fun v _ => v = .bl true) fun _ _ _ => False :=
  ⟨[.lst (ns.map D.int)], cutT H, [], fun d _ => d = .bl true, fun _ _ => False, .cons (.lst (cutT_sq hS) (IsL.of_ints ns)) .nil, ⟨cutT_sub, fun _ h => absurd h List.not_mem_nil, List.nodup_nil, trivial, fun _ h => absurd h List.not_mem_nil, cutT_nt⟩, ⟨ns, rfl, hl, rfl, fun _ => rfl⟩,
    fun d M' v F' H' _ _ i e => by
      subst e
      cases i
      rfl, fun _ _ _ _ _ _ _ _ _ z => z⟩
theorem law_calm {P : Program} {w : World} {l : List Env} {H : Hp} {s s' : Shared} {e : Value} (h : L2N.CX P w l H s (fun _ _ _ => False) e s') : False := by
  obtain ⟨_, _, _, _, _, _, _, _, _, _, _, _, z⟩ := h
  exact z
/-! ### reading on -/
theorem aSeq_step {t u : AS} {A : AEnds} {Γ : Gm} {M : Mm} (h : t { A with nx := u A } Γ M) : aSeq t u A Γ M := h
/-- a word between two statements -/
theorem aSeq_cut {t u : AS} {A : AEnds} {Γ : Gm} {M : Mm} (R : Gm → Mm → Prop) (mono : ∀ g : Gm → Mm → Prop, (∀ Γ' M', R Γ' M' → g Γ' M') → t { A with nx := R } Γ M → t { A with nx := g } Γ M) (h : t { A with nx := R } Γ M) (k : ∀ Γ' M', R Γ' M' → u A Γ' M') : aSeq t u A Γ M := mono _ k h
/-- loops by a word and a measure -/
theorem aWhile_by {t : AT} {tb : AS} {A : AEnds} {Γ : Gm} {M : Mm} (I : Nat → Gm → Mm → Prop) (n : Nat) (h0 : I n Γ M)
    (hs : ∀ n Γ' M', I n Γ' M' → t Γ' M' fun b M1 => (b = true → tb { nx := fun Γ2 M2 => ∃ m, m < n ∧ I m Γ2 M2, rt := A.rt, bk := A.nx, ct := fun Γ2 M2 => ∃ m, m < n ∧ I m Γ2 M2 } Γ' M1) ∧ (b = false → A.nx Γ' M1)) : aWhile t tb A Γ M := ⟨I, ⟨n, h0⟩, hs⟩

/-! ### where the draws come from: [cells, stir] -/
def bxHeap (h c : Addr) : Bx where
  fp := [h, c]
  ok := fun _ H => h ≠ c ∧ ∃ (cs : List Int) (s : Int), H h = some (.lst [.ref c, .int s]) ∧ H c = some (.lst (cs.map V.int)) ∧ cs.length ≤ 1000
  up := fun _ x => x
  loc := fun {_ H H'} e ⟨n, cs, s, h1, h2, h3⟩ => ⟨n, cs, s, (e h (by simp)).trans h1, (e c (by simp)).trans h2, h3⟩
  low := fun {_ H} ⟨n, cs, s, h1, h2, _⟩ a ha => by
    rcases List.mem_cons.mp ha with e | ha
    · subst e
      exact ⟨_, h1⟩
    · rcases List.mem_cons.mp ha with e | ha
      · subst e
        exact ⟨_, h2⟩
      · exact absurd ha List.not_mem_nil
/-- the box as two mutable lists -/
abbrev heapM (h c : Addr) (cs : List Int) (s : Int) : Mm := [(h, .lst [.ref c, .int s]), (c, .lst (cs.map D.int))]
section
variable {K : PySem.W.Frag} {M : Mm} {F H : Hp} {h c : Addr}
theorem heap_open (x : Hs K (bxHeap h c) M F H) : ∃ cs s, cs.length ≤ 1000 ∧ Hs K Bx.no (heapM h c cs s ++ M) F H := by
  obtain ⟨n, cs, s, h1, h2, h3⟩ := x.box
  have nh : ∀ q ∈ M, q.1 ≠ h := fun q hq e => (x.mem q hq).2.1 (by rw [e]; exact List.mem_cons_self)
  have nc : ∀ q ∈ M, q.1 ≠ c := fun q hq e => (x.mem q hq).2.1 (by rw [e]; exact List.mem_cons_of_mem _ List.mem_cons_self)
  refine ⟨cs, s, h3, x.sub, fun q hq => ?_, ?_, trivial, fun _ hb => absurd hb List.not_mem_nil, x.nt⟩
  · rcases List.mem_cons.mp hq with e | hq
    · subst e
      exact ⟨x.bfr h List.mem_cons_self, List.not_mem_nil, _, h1, .cons (.ref c) (.cons (.int s) .nil)⟩
    · rcases List.mem_cons.mp hq with e | hq
      · subst e
        exact ⟨x.bfr c (List.mem_cons_of_mem _ List.mem_cons_self), List.not_mem_nil, _, h2, IsL.of_ints cs⟩
      · obtain ⟨m1, m2, m3⟩ := x.mem q hq
        exact ⟨m1, List.not_mem_nil, m3⟩
  · show (h :: c :: M.map (·.1)).Nodup
    rw [List.nodup_cons, List.nodup_cons]
    refine ⟨fun hm => ?_, fun hm => ?_, x.nd⟩
    · rcases List.mem_cons.mp hm with e | hm
      · exact n e
      · obtain ⟨q, hq, e⟩ := List.mem_map.mp hm
        exact nh q hq e
    · obtain ⟨q, hq, e⟩ := List.mem_map.mp hm
      exact nc q hq e
theorem heap_close {cs : List Int} {s : Int} (hl : cs.length ≤ 1000) (x : Hs K Bx.no (heapM h c cs s ++ M) F H) : Hs K (bxHeap h c) M F H := by
  have nd : (h :: c :: M.map (·.1)).Nodup := x.nd
  rw [List.nodup_cons, List.nodup_cons] at nd
  obtain ⟨n1, n2, nd⟩ := nd
  obtain ⟨f1, _, vs1, e1, l1⟩ := x.mem (h, .lst [.ref c, .int s]) List.mem_cons_self
  obtain ⟨f2, _, vs2, e2, l2⟩ := x.mem (c, .lst (cs.map D.int)) (List.mem_cons_of_mem _ List.mem_cons_self)
  refine ⟨x.sub, fun q hq => ?_, nd, ⟨fun e => n1 (by rw [e]; exact List.mem_cons_self), cs, s, ?_, ?_, hl⟩, fun a ha => ?_, x.nt⟩
  · obtain ⟨m1, _, m3⟩ := x.mem q (List.mem_cons_of_mem _ (List.mem_cons_of_mem _ hq))
    refine ⟨m1, fun hm => ?_, m3⟩
    rcases List.mem_cons.mp hm with e | hm
    · exact n1 (by rw [← e]; exact List.mem_cons_of_mem _ (List.mem_map.mpr ⟨q, hq, rfl⟩))
    · rcases List.mem_cons.mp hm with e | hm
      · exact n2 (by rw [← e]; exact List.mem_map.mpr ⟨q, hq, rfl⟩)
      · exact absurd hm List.not_mem_nil
  · cases l1 with
    | cons i1 i2 =>
      cases i2 with
      | cons i2 i3 =>
        cases i1
        cases i2
        cases i3
        exact e1
  · rw [e2, l2.ints]
  · rcases List.mem_cons.mp ha with e | ha
    · subst e
      exact f1
    · rcases List.mem_cons.mp ha with e | ha
      · subst e
        exact f2
      · exact absurd ha List.not_mem_nil
end
/-- a draw: of the hidden part; of the two lists -/
def spDraw (h : Addr) : ASp := fun ds M Φ _ => match ds with
  | [.ref h', .int n] => h' = h ∧ DivOk 0 n ∧ ∀ r : Int, 0 ≤ r → r < n → Φ (.int r) M
  | _ => False
def spDrawM : ASp := fun ds M Φ _ => ∃ (h c : Addr) (cs : List Int) (s n : Int) (M1 : Mm), ds = [.ref h, .int n] ∧ M = heapM h c cs s ++ M1 ∧ DivOk 0 n ∧ cs.length ≤ 1000 ∧ ∀ (r : Int) (cs' : List Int) (s' : Int), cs'.length ≤ 1000 → 0 ≤ r → r < n → Φ (.int r) (heapM h c cs' s' ++ M1)
theorem draw_box {P : Program} {w : World} {K : PySem.W.Frag} {mg : Str → Option Value} {base : Heap} {k : Nat} {f : Addr} {fd : FuncData} {ps : List Str} {CX : CXT} (G : FnOk P w K mg base CX k f fd ps (conc K Bx.no spDrawM)) (h c : Addr) :
    FnOk P w K mg base CX k f fd ps (conc K (bxHeap h c) (spDraw h)) := G.imp fun vs H Q E ⟨ds, F, M, Φ, Ψ, hv, hh, ha, hq, he⟩ => by
  unfold spDraw at ha
  split at ha
  rotate_left
  · exact ha.elim
  rename_i h' n
  obtain ⟨rfl, hn, ha⟩ := ha
  obtain ⟨cs, s, hl, ho⟩ := heap_open hh
  refine ⟨_, F, heapM h' c cs s ++ M, fun d M' => ∃ r cs' s', d = .int r ∧ 0 ≤ r ∧ r < n ∧ cs'.length ≤ 1000 ∧ M' = heapM h' c cs' s' ++ M, fun _ _ => False, hv, ho, ⟨h', c, cs, s, n, M, rfl, rfl, hn, hl, fun r cs' s' hl' h0 h1 => ⟨r, cs', s', rfl, h0, h1, hl', rfl⟩⟩, fun d M' v F' H' s2 h2 i2 q2 => ?_, fun _ _ _ _ _ _ _ _ _ z => z.elim⟩
  obtain ⟨r, cs', s', rfl, h0, h1, hl', rfl⟩ := q2
  exact hq _ M v F' H' s2 (heap_close hl' h2) i2 (ha r h0 h1)
theorem last_or {α : Type} (xs : List α) : xs = [] ∨ ∃ ys y, xs = ys ++ [y] := by
  cases h : xs.reverse with
  | nil => exact .inl (List.reverse_eq_nil_iff.mp h)
  | cons y ys => exact .inr ⟨ys.reverse, y, by rw [← List.reverse_reverse xs, h, List.reverse_cons]⟩
theorem isE_append {α : Type} {ys : List α} {y : α} : (ys ++ [y]).isEmpty = false := by cases ys <;> rfl
/-- one of some things -/
def spPick (h : Addr) : ASp := fun ds M Φ _ => match ds with
  | [.ref h', .lst xs] => h' = h ∧ (0 < xs.length ∧ xs.length < 1000000) ∧ ∀ d ∈ xs, Φ d M
  | [.ref h', .tup xs] => h' = h ∧ (0 < xs.length ∧ xs.length < 1000000) ∧ ∀ d ∈ xs, Φ d M
  | _ => False
theorem pick_as {α : Type} {emb : α → D} {R : α → Prop} {ds : List D} {P : D → Prop} (h : ∀ d ∈ ds, ∃ x, d = emb x ∧ R x) (k : ∀ x, R x → P (emb x)) : ∀ d ∈ ds, P d := fun d hd => by
  obtain ⟨x, rfl, r⟩ := h d hd
  exact k x r
/-! ### loops of known make -/
def rngI (lo : Int) (n : Nat) : List Int := (List.range n).map fun i => lo + (i : Nat)
theorem rngD_eq (lo : Int) (n : Nat) : rngD lo n = (rngI lo n).map D.int := by
  unfold rngD rngI
  rw [List.map_map]
  rfl
theorem rngI_len (lo : Int) (n : Nat) : (rngI lo n).length = n := by unfold rngI; rw [List.length_map, List.length_range]
theorem mem_rngI {lo x : Int} {n : Nat} (h : x ∈ rngI lo n) : lo ≤ x ∧ x < lo + n := by
  unfold rngI at h
  obtain ⟨i, hi, rfl⟩ := List.mem_map.mp h
  have := List.mem_range.mp hi
  omega
section
variable {ai : AI} {g : AG} {tt : AT} {te : AE} {vs : List Nat} {Γ : Gm} {M : Mm} {Φ : AK}
/-- a comprehension whose parts are functions of the item -/
theorem aLc_pure {α : Type} (xs : List α) (emb : α → D) (f : α → Bool) (v : α → D) (hai : ∀ Φ' : List D → Mm → Prop, Φ' (xs.map emb) M → ai Γ M Φ') (hlen : xs.length ≤ 100000)
    (h : ∀ x ∈ xs, ∀ M', ∃ Γ2, g (emb x) (wipeG Γ vs) = some Γ2 ∧ (∀ Φ' : Bool → Mm → Prop, Φ' (f x) M' → tt Γ2 M' Φ') ∧ (f x = true → ∀ Φ' : AK, Φ' (v x) M' → te Γ2 M' Φ'))
    (k : Φ (.lst ((xs.filter f).map v)) M) : aLc ai g tt te vs Γ M Φ := by
  unfold aLc
  refine hai _ ⟨by rw [List.length_map]; exact hlen, fun i acc M' => acc = ((xs.take i).filter f).map v ∧ M' = M, ⟨rfl, rfl⟩, ?_, ?_⟩
  · rintro i d acc M' l hd ⟨rfl, rfl⟩
    rw [List.getElem?_map] at hd
    cases hx : xs[i]? with
    | none =>
      rw [hx] at hd
      cases hd
    | some x =>
      rw [hx] at hd
      cases hd
      obtain ⟨Γ2, e, h1, h2⟩ := h x (List.mem_of_getElem? hx) ((l, .lst (((xs.take i).filter f).map v)) :: M')
      rw [e]
      refine h1 _ ⟨fun hf => h2 hf _ ⟨M', .here, ?_, rfl⟩, fun hf => ⟨M', .here, ?_, rfl⟩⟩
      · rw [List.take_add_one, hx, List.filter_append, List.map_append]
        show _ ++ [v x] = _ ++ (List.filter f [x]).map v
        rw [List.filter_cons, if_pos hf]
        rfl
      · rw [List.take_add_one, hx, List.filter_append, List.map_append]
        show _ = _ ++ (List.filter f [x]).map v
        rw [List.filter_cons, if_neg (by rw [hf]; decide)]
        show _ = _ ++ []
        rw [List.append_nil]
  · rintro acc M' ⟨rfl, rfl⟩ _
    rw [List.length_map, List.take_length]
    exact k
/-- no test -/
theorem aLc_map {α : Type} (xs : List α) (emb : α → D) (v : α → D) (hai : ∀ Φ' : List D → Mm → Prop, Φ' (xs.map emb) M → ai Γ M Φ') (hlen : xs.length ≤ 100000)
    (h : ∀ x ∈ xs, ∀ M', ∃ Γ2, g (emb x) (wipeG Γ vs) = some Γ2 ∧ (∀ Φ' : AK, Φ' (v x) M' → te Γ2 M' Φ'))
    (k : Φ (.lst (xs.map v)) M) : aLc ai g aYes te vs Γ M Φ := by
  refine aLc_pure xs emb (fun _ => true) v hai hlen (fun x hx M' => ?_) ?_
  · obtain ⟨Γ2, e, h1⟩ := h x hx M'
    exact ⟨Γ2, e, fun _ q => q, fun _ => h1⟩
  · rw [List.filter_eq_self.mpr (fun _ _ => rfl)]
    exact k
end
end DL

set_option Elab.async false
set_option linter.all false
set_option maxRecDepth 100000
set_option maxHeartbeats 2000000
namespace DL
open PySem L2
/-! ### what the readings compute to, by the kind of the data -/
section
variable {Φ : AK} {Φb : Bool → Mm → Prop} {Φl : List D → Mm → Prop} {Φo : Option Int → Mm → Prop} {Γ : Gm} {M : Mm} {A : AEnds} {ta tb tc : AE} {f g : A2} {i j : Int} {b c : Bool} {x y : Str} {d e : D} {xs ys ds : List D} {l : Addr} {neg : Bool → Bool}
theorem aB_bl : aB_k Φb (.bl b) M = Φb b M := rfl
theorem aAndV_bl : aAndV_k tb Γ Φ (.bl c) M = ((c = true → tb Γ M Φ) ∧ (c = false → Φ (.bl false) M)) := rfl
theorem aOrV_bl : aOrV_k tb Γ Φ (.bl c) M = ((c = true → Φ (.bl true) M) ∧ (c = false → tb Γ M Φ)) := rfl
theorem aNotV_bl : aNotV_k Φ (.bl c) M = Φ (.bl (!c)) M := rfl
theorem aChain_bl : aChain_k g tc Γ Φ e (.bl b) M = ((b = true → tc Γ M fun h M4 => g e h M4 Φ) ∧ (b = false → Φ (.bl false) M)) := rfl
theorem aPar_2 {p q : Nat} : aPar_k p q A Γ [d, e] M = A.nx ((Γ.set p (some d)).set q (some e)) M := rfl
theorem aPar3_3 {p q r : Nat} {u : D} : aPar3_k p q r A Γ [d, e, u] M = A.nx (((Γ.set p (some d)).set q (some e)).set r (some u)) M := rfl
theorem onGm_s {k : Gm → Prop} : onGm (some Γ) k = k Γ := rfl
theorem agTup_t {gs : AGs} : agTup gs (.tup ds) Γ = gs ds Γ := rfl
theorem agLst_t {gs : AGs} : agLst gs (.lst ds) Γ = gs ds Γ := rfl
theorem agNil_n : agNil [] Γ = some Γ := rfl
theorem agCons_c {g : AG} {gs : AGs} : agCons g gs (d :: ds) Γ = (g d Γ).bind fun Γ1 => gs ds Γ1 := rfl
theorem bind_s {α β : Type} {a : α} {k : α → Option β} : (some a).bind k = k a := rfl
theorem aSetIx_r : aSetIx_k A Γ d (.ref l) (.int i) M = ∃ xs j M4, ixN xs.length i = some j ∧ Up M l (.lst xs) (.lst (xs.set j d)) M4 ∧ A.nx Γ M4 := rfl
theorem aItS_l : aItS_k Φl (.lst xs) M = Φl xs M := rfl
theorem aItS_t : aItS_k Φl (.tup xs) M = Φl xs M := rfl
theorem aRng1_i : aRng1_k Φl [.int j] M = ((-4611686018427387904 ≤ j ∧ j < 4611686018427387904) ∧ Φl (rngD 0 j.toNat) M) := rfl
theorem aRng2_i : aRng2_k Φl [.int i, .int j] M = ((-4611686018427387904 ≤ i ∧ i < 4611686018427387904 ∧ -4611686018427387904 ≤ j ∧ j < 4611686018427387904) ∧ Φl (rngD i (j - i).toNat) M) := rfl
theorem aEnum_l : aEnum_k Φl [.lst xs] M = Φl (enumD xs) M := rfl
theorem aZip_l : aZip_k Φl [.lst xs, .lst ys] M = Φl (zipD xs ys) M := rfl
theorem aZip_t : aZip_k Φl [.tup xs, .tup ys] M = Φl (zipD xs ys) M := rfl
theorem fI_i {g : Int → Int → D} : fI g (.int i) (.int j) M Φ = Φ (g i j) M := rfl
theorem fC_i {C : Int → Int → Prop} {g : Int → Int → D} : fC C g (.int i) (.int j) M Φ = (C i j ∧ Φ (g i j) M) := rfl
theorem fNeg_i : fNeg (.int i) M Φ = Φ (.int (-i)) M := rfl
theorem seqOf_l {k : List D → Prop} : seqOf (.lst xs) M k = k xs := rfl
theorem seqOf_t {k : List D → Prop} : seqOf (.tup xs) M k = k xs := rfl
theorem seqOf_r {k : List D → Prop} : seqOf (.ref l) M k = ∃ xs, (l, MO.lst xs) ∈ M ∧ k xs := rfl
theorem lstOf_l {k : List D → Prop} : lstOf (.lst xs) M k = k xs := rfl
theorem lstOf_r {k : List D → Prop} : lstOf (.ref l) M k = ∃ xs, (l, MO.lst xs) ∈ M ∧ k xs := rfl
theorem fLen_1 : fLen [d] M Φ = seqOf d M fun xs => Φ (.int (xs.length : Nat)) M := rfl
theorem fIx_i : fIx d (.int i) M Φ = seqOf d M fun xs => onD (getI xs i) fun g => Φ g M := rfl
theorem aP_i : aP_k Φo (.int i) M = Φo (some i) M := rfl
theorem aSl_l {lo hi : Option Int} : aSl_k Φ (.lst xs) lo hi M = Φ (.lst (cutD xs lo hi)) M := rfl
theorem aSl_r {lo hi : Option Int} : aSl_k Φ (.ref l) lo hi M = ∃ xs, (l, MO.lst xs) ∈ M ∧ Φ (.lst (cutD xs lo hi)) M := rfl
theorem aRev_l : aRev_k Φ (.lst xs) M = Φ (.lst xs.reverse) M := rfl
theorem aRev_r : aRev_k Φ (.ref l) M = ∃ xs, (l, MO.lst xs) ∈ M ∧ Φ (.lst xs.reverse) M := rfl
theorem aRevM_l : aRevM_k Φ (.lst xs) M = ∀ p, Φ (.ref p) ((p, .lst xs.reverse) :: M) := rfl
theorem aRevM_r : aRevM_k Φ (.ref l) M = ∃ xs, (l, MO.lst xs) ∈ M ∧ ∀ p, Φ (.ref p) ((p, .lst xs.reverse) :: M) := rfl
theorem aApp_r : aApp_k tb Γ Φ (.ref l) M = ((∃ xs, (l, MO.lst xs) ∈ M) ∧ tb Γ M fun e M2 => ∃ xs M3, Up M2 l (.lst xs) (.lst (xs ++ [e])) M3 ∧ xs.length < 100000 ∧ Φ .non M3) := rfl
theorem aPop_r : aPop_k Φ (.ref l) M = ∃ xs y M2, Up M l (.lst xs) (.lst xs.dropLast) M2 ∧ xs[xs.length - 1]? = some y ∧ Φ y M2 := rfl
def eqDeep (neg : Bool → Bool) (d e : D) (M : Mm) (Φ : AK) : Prop := rdM d M fun d' => rdM e M fun e' => (plD 60 d' = true ∧ plD 60 e' = true) ∧ Φ (.bl (neg (PyData.eqv (py 60 d') (py 60 e')))) M
theorem fEq_ii : fEqB neg (.int i) (.int j) M Φ = Φ (.bl (neg (decide (i = j)))) M := rfl
theorem fEq_ss : fEqB neg (.str x) (.str y) M Φ = Φ (.bl (neg (decide (x = y)))) M := rfl
theorem fEq_bb : fEqB neg (.bl b) (.bl c) M Φ = Φ (.bl (neg (decide (b = c)))) M := rfl
theorem fEq_nn : fEqB neg .non .non M Φ = Φ (.bl (neg true)) M := rfl
theorem fEq_ni : fEqB neg .non (.int i) M Φ = Φ (.bl (neg false)) M := rfl
theorem fEq_in : fEqB neg (.int i) .non M Φ = Φ (.bl (neg false)) M := rfl
theorem fEq_ns : fEqB neg .non (.str x) M Φ = Φ (.bl (neg false)) M := rfl
theorem fEq_sn : fEqB neg (.str x) .non M Φ = Φ (.bl (neg false)) M := rfl
theorem fEq_is : fEqB neg (.int i) (.str x) M Φ = Φ (.bl (neg false)) M := rfl
theorem fEq_si : fEqB neg (.str x) (.int i) M Φ = Φ (.bl (neg false)) M := rfl
theorem fEq_ll : fEqB neg (.lst xs) (.lst ys) M Φ = eqDeep neg (.lst xs) (.lst ys) M Φ := rfl
theorem fEq_tt : fEqB neg (.tup xs) (.tup ys) M Φ = eqDeep neg (.tup xs) (.tup ys) M Φ := rfl
theorem fEq_tl : fEqB neg (.tup xs) (.lst ys) M Φ = eqDeep neg (.tup xs) (.lst ys) M Φ := rfl
theorem fEq_lt : fEqB neg (.lst xs) (.tup ys) M Φ = eqDeep neg (.lst xs) (.tup ys) M Φ := rfl
theorem fIs_n : fIsB neg d .non M Φ = Φ (.bl (neg (isN d))) M := rfl
theorem fIs_b : fIsB neg (.bl c) (.bl b) M Φ = Φ (.bl (neg (decide (c = b)))) M := rfl
theorem isN_n : isN .non = true := rfl
theorem isN_i : isN (.int i) = false := rfl
theorem isN_b : isN (.bl b) = false := rfl
theorem isN_s : isN (.str x) = false := rfl
theorem isN_t : isN (.tup xs) = false := rfl
theorem isN_l : isN (.lst xs) = false := rfl
theorem isN_r : isN (.ref l) = false := rfl
theorem isN_o {C : Addr} {ns : List Str} : isN (.ins C ns xs) = false := rfl
theorem fAbs_i : fAbs [.int i] M Φ = Φ (.int (if i < 0 then -i else i)) M := rfl
theorem fInt_i : fInt [.int i] M Φ = Φ (.int i) M := rfl
theorem fInt_b : fInt [.bl b] M Φ = Φ (.int (if b then 1 else 0)) M := rfl
theorem fMax2_i : fMax2 [.int i, .int j] M Φ = Φ (.int (max i j)) M := rfl
theorem fMin2_i : fMin2 [.int i, .int j] M Φ = Φ (.int (min i j)) M := rfl
theorem fTuple_1 : fTuple [d] M Φ = seqOf d M fun xs => Φ (.tup xs) M := rfl
theorem fList_1 : fList [d] M Φ = seqOf d M fun xs => Φ (.lst xs) M := rfl
theorem fListM_1 : fListM [d] M Φ = seqOf d M fun xs => ∀ l, Φ (.ref l) ((l, .lst xs) :: M) := rfl
theorem fAll_l : fAll [.lst xs] M Φ = ∃ bs : List Bool, xs = bs.map D.bl ∧ Φ (.bl (bs.all id)) M := rfl
theorem fAny_l : fAny [.lst xs] M Φ = ∃ bs : List Bool, xs = bs.map D.bl ∧ Φ (.bl (bs.any id)) M := rfl
theorem fSum_l : fSum [.lst xs] M Φ = ∃ ns : List Int, xs = ns.map D.int ∧ Φ (.int ns.sum) M := rfl
theorem fMaxL_l : fMaxL [.lst xs] M Φ = ∃ ns : List Int, xs = ns.map D.int ∧ 0 < ns.length ∧ ∀ m, m ∈ ns → (∀ y, y ∈ ns → y ≤ m) → Φ (.int m) M := rfl
theorem fMinL_l : fMinL [.lst xs] M Φ = ∃ ns : List Int, xs = ns.map D.int ∧ 0 < ns.length ∧ ∀ m, m ∈ ns → (∀ y, y ∈ ns → m ≤ y) → Φ (.int m) M := rfl
/-- isinstance, by the class's name and the datum's -/
def isiK (t n : String) (M : Mm) (Φ : AK) : Prop := match kitB t n with
  | some b => Φ (.bl b) M
  | none => False
theorem fIsi_i {n : String} : fIsi n (.int i) M Φ = isiK "int" n M Φ := rfl
theorem fIsi_b {n : String} : fIsi n (.bl b) M Φ = isiK "bool" n M Φ := rfl
theorem fIsi_n {n : String} : fIsi n .non M Φ = isiK "NoneType" n M Φ := rfl
theorem fIsi_s {n : String} : fIsi n (.str x) M Φ = isiK "str" n M Φ := rfl
theorem fIsi_t {n : String} : fIsi n (.tup xs) M Φ = isiK "tuple" n M Φ := rfl
theorem fIsi_l {n : String} : fIsi n (.lst xs) M Φ = isiK "list" n M Φ := rfl
theorem isi_of {t n : String} {r : Bool} (h : kitB t n = some r) : isiK t n M Φ = Φ (.bl r) M := by unfold isiK; rw [h]
end
theorem isi_int_int {M : Mm} {Φ : AK} : isiK "int" "int" M Φ = Φ (.bl true) M := isi_of (by decide +kernel)
theorem isi_int_bool {M : Mm} {Φ : AK} : isiK "int" "bool" M Φ = Φ (.bl false) M := isi_of (by decide +kernel)
theorem isi_int_str {M : Mm} {Φ : AK} : isiK "int" "str" M Φ = Φ (.bl false) M := isi_of (by decide +kernel)
theorem isi_int_tuple {M : Mm} {Φ : AK} : isiK "int" "tuple" M Φ = Φ (.bl false) M := isi_of (by decide +kernel)
theorem isi_int_list {M : Mm} {Φ : AK} : isiK "int" "list" M Φ = Φ (.bl false) M := isi_of (by decide +kernel)
theorem isi_bool_int {M : Mm} {Φ : AK} : isiK "bool" "int" M Φ = Φ (.bl true) M := isi_of (by decide +kernel)
theorem isi_bool_bool {M : Mm} {Φ : AK} : isiK "bool" "bool" M Φ = Φ (.bl true) M := isi_of (by decide +kernel)
theorem isi_bool_str {M : Mm} {Φ : AK} : isiK "bool" "str" M Φ = Φ (.bl false) M := isi_of (by decide +kernel)
theorem isi_bool_tuple {M : Mm} {Φ : AK} : isiK "bool" "tuple" M Φ = Φ (.bl false) M := isi_of (by decide +kernel)
theorem isi_bool_list {M : Mm} {Φ : AK} : isiK "bool" "list" M Φ = Φ (.bl false) M := isi_of (by decide +kernel)
theorem isi_NoneType_int {M : Mm} {Φ : AK} : isiK "NoneType" "int" M Φ = Φ (.bl false) M := isi_of (by decide +kernel)
theorem isi_NoneType_bool {M : Mm} {Φ : AK} : isiK "NoneType" "bool" M Φ = Φ (.bl false) M := isi_of (by decide +kernel)
theorem isi_NoneType_str {M : Mm} {Φ : AK} : isiK "NoneType" "str" M Φ = Φ (.bl false) M := isi_of (by decide +kernel)
theorem isi_NoneType_tuple {M : Mm} {Φ : AK} : isiK "NoneType" "tuple" M Φ = Φ (.bl false) M := isi_of (by decide +kernel)
theorem isi_NoneType_list {M : Mm} {Φ : AK} : isiK "NoneType" "list" M Φ = Φ (.bl false) M := isi_of (by decide +kernel)
theorem isi_str_int {M : Mm} {Φ : AK} : isiK "str" "int" M Φ = Φ (.bl false) M := isi_of (by decide +kernel)
theorem isi_str_bool {M : Mm} {Φ : AK} : isiK "str" "bool" M Φ = Φ (.bl false) M := isi_of (by decide +kernel)
theorem isi_str_str {M : Mm} {Φ : AK} : isiK "str" "str" M Φ = Φ (.bl true) M := isi_of (by decide +kernel)
theorem isi_str_tuple {M : Mm} {Φ : AK} : isiK "str" "tuple" M Φ = Φ (.bl false) M := isi_of (by decide +kernel)
theorem isi_str_list {M : Mm} {Φ : AK} : isiK "str" "list" M Φ = Φ (.bl false) M := isi_of (by decide +kernel)
theorem isi_tuple_int {M : Mm} {Φ : AK} : isiK "tuple" "int" M Φ = Φ (.bl false) M := isi_of (by decide +kernel)
theorem isi_tuple_bool {M : Mm} {Φ : AK} : isiK "tuple" "bool" M Φ = Φ (.bl false) M := isi_of (by decide +kernel)
theorem isi_tuple_str {M : Mm} {Φ : AK} : isiK "tuple" "str" M Φ = Φ (.bl false) M := isi_of (by decide +kernel)
theorem isi_tuple_tuple {M : Mm} {Φ : AK} : isiK "tuple" "tuple" M Φ = Φ (.bl true) M := isi_of (by decide +kernel)
theorem isi_tuple_list {M : Mm} {Φ : AK} : isiK "tuple" "list" M Φ = Φ (.bl false) M := isi_of (by decide +kernel)
theorem isi_list_int {M : Mm} {Φ : AK} : isiK "list" "int" M Φ = Φ (.bl false) M := isi_of (by decide +kernel)
theorem isi_list_bool {M : Mm} {Φ : AK} : isiK "list" "bool" M Φ = Φ (.bl false) M := isi_of (by decide +kernel)
theorem isi_list_str {M : Mm} {Φ : AK} : isiK "list" "str" M Φ = Φ (.bl false) M := isi_of (by decide +kernel)
theorem isi_list_tuple {M : Mm} {Φ : AK} : isiK "list" "tuple" M Φ = Φ (.bl false) M := isi_of (by decide +kernel)
theorem isi_list_list {M : Mm} {Φ : AK} : isiK "list" "list" M Φ = Φ (.bl true) M := isi_of (by decide +kernel)
section
variable {ai : AI} {g : AG} {tb : AS} {A : AEnds} {Γ : Gm} {M : Mm}
/-- a for over known things, by a word -/
theorem aFor_map {α : Type} (xs : List α) (emb : α → D) (I : Nat → Gm → Mm → Prop) (hai : ∀ Φ' : List D → Mm → Prop, Φ' (xs.map emb) M → ai Γ M Φ') (h0 : I 0 Γ M)
    (hs : ∀ i x Γ' M', xs[i]? = some x → I i Γ' M' → ∃ Γ2, g (emb x) Γ' = some Γ2 ∧ tb { nx := I (i + 1), rt := A.rt, bk := A.nx, ct := I (i + 1) } Γ2 M')
    (hd : ∀ Γ' M', I xs.length Γ' M' → A.nx Γ' M') : aFor ai g tb A Γ M := by
  unfold aFor
  refine hai _ ⟨I, h0, fun i d Γ' M' hd hi => ?_, fun Γ' M' hi => ?_⟩
  · rw [List.getElem?_map] at hd
    cases hx : xs[i]? with
    | none =>
      rw [hx] at hd
      cases hd
    | some x =>
      rw [hx] at hd
      cases hd
      obtain ⟨Γ2, e, q⟩ := hs i x Γ' M' hx hi
      rw [e]
      exact q
  · rw [List.length_map] at hi
    exact hd Γ' M' hi
/-- over a range -/
theorem aFor_rng (lo : Int) (n : Nat) (I : Nat → Gm → Mm → Prop) (hai : ∀ Φ' : List D → Mm → Prop, Φ' (rngD lo n) M → ai Γ M Φ') (h0 : I 0 Γ M)
    (hs : ∀ (i : Nat) Γ' M', i < n → I i Γ' M' → ∃ Γ2, g (.int (lo + (i : Nat))) Γ' = some Γ2 ∧ tb { nx := I (i + 1), rt := A.rt, bk := A.nx, ct := I (i + 1) } Γ2 M')
    (hd : ∀ Γ' M', I n Γ' M' → A.nx Γ' M') : aFor ai g tb A Γ M := by
  unfold aFor
  refine hai _ ⟨I, h0, fun i d Γ' M' hd hi => ?_, fun Γ' M' hi => ?_⟩
  · obtain ⟨hlt, rfl⟩ := rngD_get hd
    obtain ⟨Γ2, e, q⟩ := hs i Γ' M' hlt hi
    rw [e]
    exact q
  · rw [rngD_len] at hi
    exact hd Γ' M' hi
end
theorem cutD_take {xs : List D} {i : Int} (h : 0 ≤ i) : cutD xs none (some i) = xs.take i.toNat := by
  obtain ⟨n, rfl⟩ := Int.eq_ofNat_of_zero_le h
  unfold cutD
  rw [HT.sIx_none, HT.sIx_nat, List.drop_zero, Nat.sub_zero, Int.toNat_natCast]
  rcases Nat.le_total n xs.length with hn | hn
  · rw [Nat.min_eq_left hn]
  · rw [Nat.min_eq_right hn, List.take_length, List.take_of_length_le hn]
theorem cutD_drop {xs : List D} {i : Int} (h : 0 ≤ i) : cutD xs (some i) none = xs.drop i.toNat := by
  obtain ⟨n, rfl⟩ := Int.eq_ofNat_of_zero_le h
  unfold cutD
  rw [HT.sIx_none, HT.sIx_nat, Int.toNat_natCast]
  rcases Nat.le_total n xs.length with hn | hn
  · rw [Nat.min_eq_left hn, List.take_of_length_le (by rw [List.length_drop]; exact Nat.le_refl _)]
  · rw [Nat.min_eq_right hn, List.drop_length, List.drop_eq_nil_of_le hn, List.take_nil]
theorem mulW_of {i j : Int} (h : i.natAbs.log2 + j.natAbs.log2 < 1000000) : MulOk i j := .inr (.inr h)
theorem divW_of {i j : Int} (h : 0 < j) (h2 : j.natAbs.log2 < 9000) : DivOk i j := ⟨h, h2⟩
section
variable {ai : AI} {g : AG} {tt : AT} {te : AE} {vs : List Nat} {Γ : Gm} {M : Mm} {Φ : AK}
theorem map_int {α : Type} (f : α → Int) (l : List α) : l.map (fun x => D.int (f x)) = (l.map f).map D.int := by
  rw [List.map_map]
  rfl
/-- comprehensions of ints -/
theorem aLc_int {α : Type} (xs : List α) (emb : α → D) (f : α → Int) (hai : ∀ Φ' : List D → Mm → Prop, Φ' (xs.map emb) M → ai Γ M Φ') (hlen : xs.length ≤ 100000)
    (h : ∀ x ∈ xs, ∀ M', ∃ Γ2, g (emb x) (wipeG Γ vs) = some Γ2 ∧ (∀ Φ' : AK, Φ' (.int (f x)) M' → te Γ2 M' Φ'))
    (k : Φ (.lst ((xs.map f).map D.int)) M) : aLc ai g aYes te vs Γ M Φ := aLc_map xs emb (fun x => .int (f x)) hai hlen h (by rw [map_int]; exact k)
theorem aLc_ifint {α : Type} (xs : List α) (emb : α → D) (p : α → Bool) (f : α → Int) (hai : ∀ Φ' : List D → Mm → Prop, Φ' (xs.map emb) M → ai Γ M Φ') (hlen : xs.length ≤ 100000)
    (h : ∀ x ∈ xs, ∀ M', ∃ Γ2, g (emb x) (wipeG Γ vs) = some Γ2 ∧ (∀ Φ' : Bool → Mm → Prop, Φ' (p x) M' → tt Γ2 M' Φ') ∧ (p x = true → ∀ Φ' : AK, Φ' (.int (f x)) M' → te Γ2 M' Φ'))
    (k : Φ (.lst (((xs.filter p).map f).map D.int)) M) : aLc ai g tt te vs Γ M Φ := aLc_pure xs emb p (fun x => .int (f x)) hai hlen h (by rw [map_int]; exact k)
theorem aLc_ifid {α : Type} (xs : List α) (emb : α → D) (p : α → Bool) (hai : ∀ Φ' : List D → Mm → Prop, Φ' (xs.map emb) M → ai Γ M Φ') (hlen : xs.length ≤ 100000)
    (h : ∀ x ∈ xs, ∀ M', ∃ Γ2, g (emb x) (wipeG Γ vs) = some Γ2 ∧ (∀ Φ' : Bool → Mm → Prop, Φ' (p x) M' → tt Γ2 M' Φ') ∧ (p x = true → ∀ Φ' : AK, Φ' (emb x) M' → te Γ2 M' Φ'))
    (k : Φ (.lst ((xs.filter p).map emb)) M) : aLc ai g tt te vs Γ M Φ := aLc_pure xs emb p emb hai hlen h k
end
/-- a check that holds, one that doesn't -/
theorem ck {p : Prop} [Decidable p] (h : p) {X Y : Prop} (y : Y) : ((!decide p) = true → X) ∧ ((!decide p) = false → Y) := ⟨fun hb => (by rw [decide_eq_true h] at hb; cases hb), fun _ => y⟩
theorem ckT {p : Prop} [Decidable p] (h : p) {X Y : Prop} (x : X) : (decide p = true → X) ∧ (decide p = false → Y) := ⟨fun _ => x, fun hb => (by rw [decide_eq_true h] at hb; cases hb)⟩
theorem ckF {p : Prop} [Decidable p] (h : ¬ p) {X Y : Prop} (y : Y) : (decide p = true → X) ∧ (decide p = false → Y) := ⟨fun hb => absurd (of_decide_eq_true hb) h, fun _ => y⟩
/-- what comes after the next (two) statements, shown once for every way there -/
theorem aSeq_tail {α : Type} {a b : AS} {A : AEnds} {Γ : Gm} {M : Mm} (Γf : α → Gm) (M0 : Mm) (h : ∀ x, b A (Γf x) M0) (k : (∀ x, b A (Γf x) M0) → aSeq a b A Γ M) : aSeq a b A Γ M := k h
theorem aSeq_tail2 {α : Type} {a c b : AS} {A : AEnds} {Γ : Gm} {M : Mm} (Γf : α → Gm) (M0 : Mm) (h : ∀ x, b A (Γf x) M0) (k : (∀ x, b A (Γf x) M0) → aSeq a (aSeq c b) A Γ M) : aSeq a (aSeq c b) A Γ M := k h
end DL

set_option Elab.async false
set_option linter.all false
set_option maxRecDepth 100000
set_option maxHeartbeats 2000000
/-! DX1: an own exception class over ValueError whose __init__ says super().__init__(at); self.at = at. -/
namespace DL
open PySem L2

/-- what such a class says -/
structure XCls (K : PySem.W.Frag) (P : Program) (C f : Addr) : Prop where
  fn : ∃ (cc cda : Addr) (qual : Str) (scope : Scope) (params : Arguments) (a0 a1 : Arg) (body : List Stmt) (doc pm ct oc : Value) (an od : Option Addr) (osl : Array (Option Value)) (ccl cl : Value) (cdd cld : Option Addr) (ccs csl : Array (Option Value)) (vs : Array Value) (file : Str) (tf : Tok) (p0 p1 p2 p3 p4 p5 p6 p7 p8 p9 q1 q2 : Pos) (pl : Addr → Sem Bool),
    K.lookup f = some ⟨oc, od, .func (PySem.W.ksFn "__init__" qual params body scope .none .none doc pm an (.ref cda) ct cc), osl⟩ ∧ PySem.W.codeIn K (.ref cda) qual = true ∧
    body = [.Expr (.Call (.Attribute (.Call (.Name "super" p0) [] [] p1) "__init__" p2) [.Name "at" p3] [] p4) p5, .Assign [.Attribute (.Name "self" p6) "at" p7] (.Name "at" p8) p9] ∧
    params = ⟨[], [⟨"self", none, q1⟩, ⟨"at", none, q2⟩], none, [], [], none, []⟩ ∧
    (∀ L : Addr, let env := callEnv (PySem.W.ksFn "__init__" qual params body scope .none .none doc pm an (.ref cda) ct cc) L f
      eval (.Call (.Attribute (.Call (.Name "super" p0) [] [] p1) "__init__" p2) [.Name "at" p3] [] p4) env = (do
        let ov ← attributeBase (.Call (.Name "super" p0) [] [] p1) "__init__" env (eval (.Call (.Name "super" p0) [] [] p1) env)
        standAt p2.atName
        let (f, first) ← holding [ov] (getMethod ov "__init__" (pl L))
        callWith p4 f first (backTo p4 (starEach [.Name "at" p3] env)) [])) ∧
    K.lookup cda = some ⟨ccl, cdd, .fields vs, ccs⟩ ∧ vs[2]? = some (.str file tf) ∧ ((P.main.file : Str) == file) = true ∧
    K.lookup cc = some ⟨cl, cld, .cell (some (.ref C)), csl⟩ ∧
    (∀ x ∈ scope.names, x.2 ≠ .cell) ∧ scope.isCoroutine = false ∧ scope.isGenerator = false ∧ scope.kind = .function ∧
    scope.names.lookup ("super" : Str) = some .globalImplicit ∧ scope.names.lookup ("__class__" : Str) = some .free ∧ scope.names.lookup ("self" : Str) = some .local ∧ scope.names.lookup ("at" : Str) = some .local
  init : PySem.W.findIn K (.ref C) "__init__" = some (some (.ref f))
  tf : PySem.W.typeIn K (.ref f) = some (.type "function")
  top : (P.main.scope.names.lookup ("super" : Str)).isSome = false
  nosup : PySem.W.nsIn K mainGlobals "super" = some none
  noany : PySem.W.nsIn K cStatics "thirdparty.any" = some none
  sup : PySem.W.ks_superIn K C C "__init__" = some (some (.builtin "ValueError.__init__"))
  sub : PySem.W.subIn K (.ref C) (.type "ValueError") = some true
  mro : PySem.W.mroIn K C (.ref C) = some true
  at_ : PySem.W.findIn K (.ref C) "at" = some none
  oex : OexC K C
  hd : PySem.W.hasDictIn K C = true
  ga : PySem.W.findIn K (.ref C) "__getattribute__" = some (some (.builtin "BaseException.__getattribute__"))
  gg : PySem.W.findIn K (.ref C) "__getattr__" = some none

section
open PySem.W PySem.Calls PyProof.Rows
variable {P : Program} {w : World} {A : Around} {R : Result → Shared → Prop} {h : Heap} {g : Array GenState} {d : Drawn} {t : Nat} {os : OsState} {K : Frag} {mg mb : Str → Option Value} {C f e t0 : Addr} {v : Value}
theorem init_run (Y : XCls K P C f) (X : K.In h) (hg : h.Ns mainGlobals mg) (hb : h.Ns builtinsNs mb) (hmg : mg "super" = none) (hmb : mb "super" = some (.type "super")) (nl : h.NoLimit) (room : A.depth < recursionLimit)
    (he : h.get? e = some (PySem.HandSPX.excO C t0)) (hne : ∀ o, K.lookup e ≠ some o)
    (hq : ∀ h' tk dx t1, (∀ b o, b ≠ e → h.get? b = some o → h'.get? b = some o) → h.objs.size ≤ dx → dx ≠ e →
      h'.get? e = some ({ cls := .ref C, dict := some dx, data := .fields #[.ref t1, .none, .none, .none, .bool false, .none] } : Obj) → h'.Ns1 dx (fun y => if y = "at" then some v else none) → R (.ok (.ret .none)) ⟨h', g, d, tk, os⟩) :
    codeAny (model P w) A (.call (.ref f) ⟨[.ref e, v], []⟩) R ⟨h, g, d, t, os⟩ := by
  obtain ⟨cc, cda, qual, scope, params, a0, a1, body, doc, pm, ct, oc, an, od, osl, ccl, cl, cdd, cld, ccs, csl, vs, file, tf, p0, p1, p2, p3, p4, p5, p6, p7, p8, p9, q1, q2, pl, lf, hcd, rfl, rfl, hev, lcda, hvs, hfile, lcc, hcell, hco, hgen, hk, hks, hkc, hself, hat⟩ := Y.fn
  obtain ⟨nm, q, N, bs, bm, sn, sub, ab, col, dd, k0, k1, k2, k3, k5, hC, hbm⟩ := Y.oex.cls
  have hcl : clsIn K C = some { name := nm, bases := bs, mro := .ref C :: bm, ns := N, qualname := q, hasDict := true, slotNames := sn, subclasses := sub, abstract := ab, collection := col, hasDel := false } := by unfold clsIn; rw [hC] <;> rfl
  refine ks_codeAny_call_defAt (fd := ksFn "__init__" qual ⟨[], [⟨"self", none, q1⟩, ⟨"at", none, q2⟩], none, [], [], none, []⟩ _ scope .none .none doc pm an (.ref cda) ct cc) (binds := [("self", .ref e), ("at", v)]) room (X _ _ lf) rfl nl (codeRec_of X hcd) rfl (.of_eq rfl) hcell
    (fun y hy => ?_) (fun h0 hns kp => ?_) hco hgen hk
  · rcases List.mem_cons.mp hy with rfl | hy
    · exact hself
    · rcases List.mem_cons.mp hy with rfl | hy
      · exact hat
      · cases hy
  have X0 : K.In h0 := X.keeps kp
  have he0 := kp _ _ he
  have hC0 := X0 _ _ hC
  refine ks_wpAt_execs_cons (ks_wpAt_Expr_any (ks_wpAt_MethodCall ?_ (hev _)) (by show (scope.kind == .module && _) = false; rw [hk]; rfl))
  refine ks_wpAt_super_base (of := ⟨oc, od, _, osl⟩) (fd := ksFn "__init__" qual ⟨[], [⟨"self", none, q1⟩, ⟨"at", none, q2⟩], none, [], [], none, []⟩ _ scope .none .none doc pm an (.ref cda) ct cc) hks hkc (by decide) rfl (X0 _ _ lf) rfl rfl rfl (X0 _ _ lcda) rfl hvs hfile Y.top ?_
  refine ks_loadName_global hk hks (loadGlobal_builtin (hg.keeps kp) hmg (hb.keeps kp) hmb ⟨rfl, ?_⟩)
  refine wpAny_loadName_free hk hkc rfl ⟨_, X0 _ _ lcc, rfl⟩ ?_
  refine wpAny_loadName_local hk hself hns rfl ?_
  refine ks_wpAny_isType_cls hC0 rfl ⟨rfl, ?_⟩
  refine ks_wpAny_call_super hC0 rfl he0 rfl (fun c z => nomatch z) (looks_mroIn X0 Y.mro) (fun h1 e1 k1 => ?_)
  have X1 : K.In h1 := X0.keeps k1
  have he1 := k1 _ _ he0
  have I1 : InstAt h1 e (PySem.HandSPX.excO C t0) C none := ⟨he1, rfl, rfl, trivial⟩
  have hsup := Y.sup
  unfold ks_superIn at hsup
  rw [hcl, Option.bind_some] at hsup
  refine kxs_getMethod kxs_ValueError e1 (looks_opaque X1 Y.noany) (l₀ := .ref C :: bm) (fun A Q E s k q => wpAny_bind ((looks_clsIn X1 hcl) A _ E s k (wpAny_pure q))) rfl X1 hsup (I1.type.andThen (looks_subIn X1 Y.sub)) (ks_ne X1 I1 hcl) (by decide) ?_
  have k2 : ∀ b o, h1.get? b = some o → (h1.push (kxs_mw "ValueError.__init__" e)).get? b = some o := fun b o z => Heap.get?_push_of_some _ z
  have hu2 : (h1.push (kxs_mw "ValueError.__init__" e)).get? h1.objs.size = some (kxs_mw "ValueError.__init__" e) := Heap.get?_push_at rfl rfl
  have X2 := X1.keeps k2
  have he2 := k2 _ _ he1
  have hns2 := hns.keeps fun b o z => k2 b o (k1 b o z)
  show wpAny _ _ (callWith p4 (.ref h1.objs.size) [] (backTo p4 (starEach [.Name "at" p3] _)) []) _ _ _
  refine kxs_callWith (i := "ValueError.__init__") (x := e) (by rfl) ?_
  refine evalArgs_plain (spliced_cons (wpAny_Name (wpAny_loadName_local hk hat hns2 rfl ?_)))
  refine spliced_nil ⟨hu2, ?_⟩
  show wpAny _ _ (call (.ref h1.objs.size) [v]) _ _ _
  refine wpAny_call (codeAny_of_tree ?_)
  show wpAny _ (Around.in1 _) (callAny (.ref h1.objs.size) ⟨[v], []⟩) _ _ _
  simp only [callAny]
  refine wpAny_bind (wpAny_load hu2 ?_)
  simp only [kxs_mw, show (Value.type "method-wrapper" == Value.type "method" || Value.type "method-wrapper" == Value.type "builtin_function_or_method" || Value.type "method-wrapper" == Value.type "method-wrapper") = true by decide, if_true]
  refine KFB.if_so (by decide) ?_
  refine wpAny_bind (check_bound_init F.excBase_ValueError.toExcCallFacts (k2 _ _ (k1 _ _ hC0)) he2 rfl ?_)
  refine wpAny_bind (wpAny_pure (wpAny_pure ?_))
  refine ⟨plainId_quiet F.excBase_ValueError.init.plain _, ?_⟩
  refine codeAny_builtin F.excBase_ValueError.initEntry ?_
  refine exc_init_tree (cls := .ref C) (t0 := t0) (dv := none) (c2 := .none) (c3 := .none) (b4 := .bool false) (rest := [v]) he2 (by rw [sizeLine_eq, List.length_singleton]; decide) (fun h3 k3 he3 _ => ?_)
  have n2 : ∀ b, h.get? b ≠ none → b ≠ h.objs.size := fun b z y => z (by rw [y]; exact Heap.get?_none_of_le (Nat.le_refl _))
  have eL : h.objs.size ≠ e := Nat.ne_of_gt (Heap.lt_size he)
  have k4 : ∀ b o, b ≠ e → h.get? b = some o → h3.get? b = some o := fun b o ne z => k3 b o ne (k2 b o (k1 b o (kp b o z)))
  have X3 : K.In h3 := fun b o z => k3 b o (fun y => hne o (by rw [← y]; exact z)) (X2 b o z)
  have hns3 : h3.Ns h.objs.size (fun x => ([("self", Value.ref e), ("at", v)] : List (Str × Value)).reverse.lookup x) := by
    obtain ⟨o, es, ep, z, r⟩ := hns2
    exact ⟨o, es, ep, k3 _ _ eL z, r⟩
  show PySem.wpAt _ _ _ (execs [_] _) _ _ _
  refine ks_wpAt_execs_cons (wpAt_of_wpAny (plainObj_wpAny_Assign_Attribute ?_))
  refine wpAny_Name (wpAny_loadName_local hk hat hns3 rfl ?_)
  refine wpAny_Name (wpAny_loadName_local hk hself hns3 rfl ?_)
  refine set_plain X3 (ox := excRec (.ref C) _ none .none .none (.bool false)) (od := none) ⟨he3, rfl, rfl, trivial⟩ Y.oex.sa ?_
  refine PySem.HandSPX.exc_osa X3 he3 hcl (show PySem.HandSPX.refsVE (.ref C :: bm) = true from hbm) rfl Y.at_ (fun h5 tk dx k5 dn dne hx hn => ?_)
  have sz : h.objs.size ≤ h3.objs.size := by
    obtain ⟨o, es, ep, z, r⟩ := hns3
    exact Nat.le_of_lt (Heap.lt_size z)
  exact wpAt_of_wpAny (wpAny_execs_nil (hq h5 _ dx _ (fun b o ne z => k5 b o ne (k4 b o ne z)) (Nat.le_trans sz dn) dne hx hn))
end
end DL

set_option Elab.async false
set_option linter.all false
set_option maxRecDepth 100000
set_option maxHeartbeats 2000000
/-! DX2: raise C(e). -/
namespace DL
open PySem L2 PyProof.Rows

def tMkS (C : Addr) (ta : TA) : L2.St → Hp → XK → Prop := fun σ H Q => ta σ H fun vs H1 => ∃ v, vs = [v] ∧ ∀ d, H1 d = none → Q (.ref C) (some d) (upd H1 d (.xd [("at", v)]))
section
variable {X : Cx} {pins : List (Addr × Obj)} {σ : L2.St} {H : Hp} {s : Shared}
theorem mk_endN {H1 H2 : Hp} {Q : XK} {hp hp2 h2 : Heap} {g1 g2 : Array GenState} {d1 d2 : Drawn} {t1 t2 : Nat} {os1 os2 : OsState} {a C d : Addr} {fs : List (Str × V)} (T : Raises X (.ref C)) (I1 : Inv X pins σ H1 ⟨hp, g1, d1, t1, os1⟩)
    (ha : hp.objs.size ≤ a) (k : ∀ b o, hp.get? b = some o → hp2.get? b = some o) (un : Un (frs X.stack) [] (upd H1 a (exo a C none)) H2 hp2 h2) (hok : HOk X.prog X.w H2 h2) (ho : os2 = os1) (hb : AllBare g2)
    (ea : H2 a = some (exo a C (some d))) (ed : H2 d = some (exd d fs)) (hd1 : H1 d = none) (q : Q (.ref C) (some d) (upd (del H2 a) d (.xd fs))) : L2N.MkP X pins σ Q (.ref a) ⟨h2, g2, d2, t2, os2⟩ := by
  obtain ⟨t0, G, J, kG, ge, hoe, na⟩ := mk_end0 (d2 := d2) (t2 := t2) I1 ha k un hok ho hb ea ed hd1
  exact ⟨a, _, _, ⟨G, g2, d2, t2, os2⟩, _, .ref C, some d, rfl, J, kG, ge, hoe, ⟨rfl, rfl, fun vs e => by cases e; rfl⟩, rfl, rfl, na, rfl, hb, T, q⟩
theorem sup_end {Q : XK} {hp hp2 h2 : Heap} {g1 : Array GenState} {d1 : Drawn} {t1 t2 t3 : Nat} {os1 : OsState} {a C dx t0 : Addr} {H1 : Hp} {v : V} {u : Value} (T : Raises X (.ref C)) (I1 : Inv X pins σ H1 ⟨hp, g1, d1, t1, os1⟩) (I2 : Inv X pins σ (upd H1 a (exo a C none)) ⟨hp2, g1, d1, t2, os1⟩)
    (ha : hp.objs.size ≤ a) (k : ∀ b o, hp.get? b = some o → hp2.get? b = some o) (dne : dx ≠ a) (hnd : H1 dx = none) (nd : ∀ {b : Addr} {o : Obj}, hp2.get? b = some o → b ≠ dx) (kp : ∀ b o, b ≠ a → hp2.get? b = some o → h2.get? b = some o)
    (hx : h2.get? a = some ({ cls := .ref C, dict := some dx, data := .fields #[.ref t0, .none, .none, .none, .bool false, .none] } : Obj)) (hn : h2.Ns1 dx (fun y => if y = "at" then some u else none)) (rv : RelV v u)
    (q : Q (.ref C) (some dx) (upd H1 dx (.xd [("at", v)]))) : L2N.MkP X pins σ Q (.ref a) ⟨h2, g1, d1, t3, os1⟩ := by
  have hna : H1 a = none := I1.hok.fresh ha
  have na : ∀ {b : Addr}, upd H1 a (exo a C none) b = none → b ≠ a := fun {b} n z => by
    rw [z, upd_same] at n
    cases n
  have e : upd H1 a (exo a C none) a = some (exo a C none) := upd_same
  have hnd' : upd H1 a (exo a C none) dx = none := by rw [upd_ne dne]; exact hnd
  have Un1 : Un (frs X.stack) [] (upd H1 a (exo a C none)) (upd (upd (upd H1 a (exo a C none)) dx (exd dx [("at", v)])) a (exo a C (some dx))) hp2 h2 := {
    keep := fun b o q n _ _ => kp b o (na n) q
    slot := fun b o q n _ _ => ⟨o.slots, kp b o (na n) q⟩
    free := fun b o q n _ => by rw [upd_ne (na n), upd_ne (nd q)]; exact n
    there := fun b o q _ => by
      by_cases hb : b = a
      · exact ⟨_, by rw [hb]; exact hx⟩
      · exact ⟨o, kp b o hb q⟩
    tups := fun b xs q => by rw [upd_ne (at_ne e q exo_tup), upd_ne (ne_of_none q hnd')]; exact q
    frzs := fun b o v q => by rw [upd_ne (at_ne e q exo_frz), upd_ne (ne_of_none q hnd')]; exact q
    tbls := fun b ps q => ⟨#[], by rw [upd_ne (at_ne e q exo_tbl), upd_ne (ne_of_none q hnd'), q]; simp⟩ }
  have hok : HOk X.prog X.w (upd (upd (upd H1 a (exo a C none)) dx (exd dx [("at", v)])) a (exo a C (some dx))) h2 := fun b o q => by
    by_cases hb : b = a
    · subst hb
      rw [upd_same] at q
      cases q
      exact exo_ok hx
    · rw [upd_ne hb] at q
      by_cases hd : b = dx
      · subst hd
        rw [upd_same] at q
        cases q
        exact exd_ok hn (relO_put (fs := []) rv fun g => True.intro)
      · rw [upd_ne hd] at q
        exact (I2.hok b o q).stay (fun c v hc z => kp c v (by
            rcases hc with hc | hc
            · rw [hc]
              exact hb
            · exact at_ne e hc exo_own) z)
          (fun c hc => by rw [upd_ne (at_ne e hc exo_own), upd_ne (ne_of_none hc hnd')]; exact hc) (fun c xs hc => by rw [upd_ne (at_ne e hc exo_tup), upd_ne (ne_of_none hc hnd')]; exact hc)
  refine mk_endN T I1 ha k Un1 hok rfl I1.bare (d := dx) (fs := [("at", v)]) upd_same (by rw [upd_ne dne, upd_same]) hnd ?_
  have eq : upd (del (upd (upd (upd H1 a (exo a C none)) dx (exd dx [("at", v)])) a (exo a C (some dx))) a) dx (.xd [("at", v)]) = upd H1 dx (.xd [("at", v)]) := by
    funext b
    by_cases hb : b = dx
    · rw [hb, upd_same, upd_same]
    · rw [upd_ne hb, upd_ne hb]
      by_cases ha : b = a
      · rw [ha, del_same, hna]
      · rw [del_ne ha, upd_ne ha, upd_ne hb, upd_ne ha]
  rw [eq]
  exact q
theorem pmk_sup {x : Str} {C fI : Addr} {k : Nat} {e : Expr} {es : List Expr} {ta : TA} {p pos : Pos} (Y : XCls X.K X.prog C fI) (hr : Room (k + 1) X.A) (hms : X.mg "super" = none) (hg : Gl X x) (hm : X.mg x = some (.ref C)) (ha : PA X (e :: es) ta)
    (hdb : (x == ("__debug__" : Str)) = false := by decide) (he : starEach (e :: es) X.env = (false, eval e X.env) :: starEach es X.env := by rfl) (hpl : (backTo pos (starEach es X.env)).any (·.1) = false := by rfl) :
    L2N.PMk X (.Call (.Name x p) (e :: es) [] pos) (tMkS C ta) := by
  intro pins s σ H Q I h
  have T := Y.oex
  obtain ⟨nm, q, N, bs, bm, sn, sub, ab, col, dd, k0, k1, k2, k3, k5, hC, hbm⟩ := T.cls
  refine wpAny_Call_Name_kw (ld_glob I hg hm ?_ hdb)
  refine PySem.W.callWith_K (h₀ := X.base) I.ok.mod.kin T.kC (thn (ha.run pos pins s σ H _ I h) fun us s1 hh => ?_) he hpl
  obtain ⟨vs, H1, I1, r1, v, ev, q1⟩ := hh
  refine ⟨I1.kIn, ?_⟩
  subst ev
  cases r1 with
  | @cons _ u _ ur rv r2 =>
  cases r2
  show wpAny _ _ (call (.ref C) [u]) _ _ _
  obtain ⟨hp, g, dr, tk, os⟩ := s1
  have hsz : hp.objs.size ≤ hp.objs.size + 1 := Nat.le_succ _
  have hn : H1 (hp.objs.size + 1) = none := I1.hok.fresh hsz
  have kk : ∀ b o, hp.get? b = some o → ((hp.push (PySem.W.kdv_tup [u])).push (PySem.HandSPX.excO C hp.objs.size)).get? b = some o := fun b o e => Heap.get?_push_of_some _ (Heap.get?_push_of_some _ e)
  have hget : ((hp.push (PySem.W.kdv_tup [u])).push (PySem.HandSPX.excO C hp.objs.size)).get? (hp.objs.size + 1) = some (PySem.HandSPX.excO C hp.objs.size) := by heap_get
  have I2 : Inv X pins σ (upd H1 (hp.objs.size + 1) (exo (hp.objs.size + 1) C none)) ⟨(hp.push (PySem.W.kdv_tup [u])).push (PySem.HandSPX.excO C hp.objs.size), g, dr, tk, os⟩ :=
    I1.laid (t' := tk) (a := hp.objs.size + 1) (o := exo (hp.objs.size + 1) C none) (h' := (hp.push (PySem.W.kdv_tup [u])).push (PySem.HandSPX.excO C hp.objs.size)) kk hsz (exo_ok hget)
  obtain ⟨mb, hb1, hb2⟩ := I2.mod.blt
  refine wpAny_call (PySem.HandSPX.call_own F.excBase_ValueError (fun Y => PySem.HandSPX.refsVE_contains Y bm hbm) (I1.kIn _ _ hC) (PySem.W.looks_findIn I1.kIn Y.init) (fun self => PySem.W.bind_fn I1.kIn self Y.tf) (by rw [sizeLine_eq, List.length_singleton]; decide)
    (init_run Y I2.kIn (I2.mod.glob.keeps I2.bk) (hb1.keeps I2.bk) hms ((hb2 "super" (by decide)).trans PyProof.Rows.Boot.«super») I2.nolimit (hr.make C [u] []).depth hget (fun o z => absurd (Heap.lt_size (I1.kIn _ _ z)) (Nat.not_lt.mpr hsz)) (fun h' tk' dx t1 kp dn dne hx hns => ?_)))
  refine ⟨rfl, ?_⟩
  have hsz2 : ((hp.push (PySem.W.kdv_tup [u])).push (PySem.HandSPX.excO C hp.objs.size)).objs.size = hp.objs.size + 2 := by simp [Heap.push]
  have hnd1 : H1 dx = none := I1.hok.fresh (show hp.objs.size ≤ dx by omega)
  have nd : ∀ {b : Addr} {o : Obj}, ((hp.push (PySem.W.kdv_tup [u])).push (PySem.HandSPX.excO C hp.objs.size)).get? b = some o → b ≠ dx := fun {b o} q => Nat.ne_of_lt (Nat.lt_of_lt_of_le (Heap.lt_size q) dn)
  exact sup_end (raises_own T.exC T.tyC) I1 I2 hsz kk dne hnd1 nd kp hx hns rv (q1 dx hnd1)
end
end DL

set_option Elab.async false
set_option linter.all false
set_option maxRecDepth 100000
set_option maxHeartbeats 2000000
/-! DX3: raise, try .. except X as e, e.at, isinstance(e, X) over data. -/
namespace DL
open PySem L2
section
variable {X : Cx} {T : Ct} {e : Expr} {pos : Pos}
def aRaise_k (C : Addr) (Ψ : AX) (Γ : Gm) (ds : List D) (M : Mm) : Prop := match ds with
  | [d] => Ψ ⟨C, d⟩ Γ M
  | _ => False
def aRaise (C : Addr) (Ψ : AX) (tr : AA) (_ : AEnds) (Γ : Gm) (M : Mm) : Prop := tr Γ M fun ds M1 => aRaise_k C Ψ Γ ds M1
theorem aRaise_1 {C : Addr} {Ψ : AX} {Γ : Gm} {d : D} {M : Mm} : aRaise_k C Ψ Γ [d] M = Ψ ⟨C, d⟩ Γ M := rfl
theorem ds_raise {x : Str} {C fI : Addr} {k : Nat} {es : List Expr} {tr : AA} {p pos' : Pos} (hc : X.calm = true) (tk : L2N.Takes X T.W) (Y : XCls X.K X.prog C fI) (hr : Room (k + 1) X.A) (hms : X.mg "super" = none) (hg : Gl X x) (hm : X.mg x = some (.ref C)) (ha : DA X T (e :: es) tr)
    (hdb : (x == ("__debug__" : Str)) = false := by decide) (he : starEach (e :: es) X.env = (false, eval e X.env) :: starEach es X.env := by rfl) (hpl : (backTo pos (starEach es X.env)).any (·.1) = false := by rfl) :
    DS X T (.Raise (some (.Call (.Name x p) (e :: es) [] pos)) none pos') (aRaise C T.Ψ tr) :=
  ds_of (L2N.ps_raise hc tk (pmk_sup Y hr hms hg hm ha hdb he hpl)) fun F σ H Γ M A D w q m => cA_mk w q fun ds M1 vs F1 H1 s1 h1 i1 q1 => by
    unfold aRaise_k at q1
    split at q1
    · rename_i d
      cases i1 with
      | @cons v _ _ _ iv it =>
        cases it
        refine ⟨v, rfl, fun dx hdx => ?_⟩
        have nf := h1.free hdx
        exact w.l ⟨C, d⟩ _ _ Γ M1 σ _ _ (s1.trans (upd_same_ext nf)) (w.v.mono (s1.trans (upd_same_ext nf))) (h1.laid hdx) ⟨rfl, dx, v, rfl, upd_same, iv.mono (upd_same_ext nf)⟩ q1
    · exact q1.elim

/-! ### try .. except x as n -/
/-- what the clause wishes of an exception of the body -/
def aCatch (K : PySem.W.Frag) (c : Value) (i : Nat) (ts : Addr → Addr → Addr → AS) (Ψ : AX) (A : AEnds) : AX := fun x Γ M => ∃ b, PySem.W.exmOne K (.ref x.C) c = some b ∧
  (b = true → ∀ a dd, ts a dd x.C { nx := fun Γ' M' => A.nx (Γ'.set i none) M', rt := A.rt, bk := fun Γ' M' => A.bk (Γ'.set i none) M', ct := fun Γ' M' => A.ct (Γ'.set i none) M' } (Γ.set i (some (.xc a dd x.C x.x))) M) ∧ (b = false → Ψ x Γ M)
def aTry (K : PySem.W.Frag) (c : Value) (i : Nat) (tb : AX → AS) (ts : Addr → Addr → Addr → AS) (Ψ : AX) (A : AEnds) (Γ : Gm) (M : Mm) : Prop := tb (aCatch K c i ts Ψ A) A Γ M
/-- the hidden part of a suite -/
abbrev Ct.no (T : Ct) : Ct := Ct.calm T.B
theorem ds_try {x n : Str} {c : Value} {i : Nat} {body suite : List Stmt} {b₀ : Stmt} {np pos pos' : Pos} {tb : AX → AS} {ts : Addr → Addr → Addr → AS} (hs : X.stack = X.env :: X.outer) (hf : X.env.frame = some X.env.locals) (hN : X.N.Nodup) (hi : X.N[i]? = some n) (hln : X.env.kindOf n = some .local) (hc : Names X x c) (tk : L2N.Takes X T.W)
    (hb : ∀ (W : WX) (Ψ : AX) (pn : List (Addr × Obj)) (xe : Value → Shared → Prop), L2N.Takes (X.tr pn xe) W → DSs (X.tr pn xe) ⟨T.B, W, Ψ⟩ body (tb Ψ))
    (hsu : ∀ (a dd C : Addr) (oe : Obj) (pn : List (Addr × Obj)), L2N.Zn (.ref C) (some dd) oe → (∃ vs, oe.data = .fields vs) → DSs (X.suite a ((a, oe) :: pn)) T.no (b₀ :: suite) (ts a dd C)) :
    DS X T (.Try body [.ExceptHandler (some (.Name x np)) (some n) (b₀ :: suite) pos'] [] [] pos) (aTry X.K c i tb ts T.Ψ) := by
  have hp := L2N.ps_try_as (body := body) (pos := pos) (np := np) (pos' := pos') (tb := fun W D σ H => ∃ Ψ : AX, cS X.K ⟨T.B, W, Ψ⟩ (tb Ψ) D σ H) (ts := fun a cls d D σ H => ∃ C dd : Addr, cls = .ref C ∧ d = some dd ∧ cS X.K T.no (ts a dd C) D σ H) hs hf hN hi hln hc tk
    (fun W pn xe tk' _ => ⟨fun pins s σ H D I ⟨Ψ, h⟩ => (hb W Ψ pn xe tk').run pins s σ H D I h⟩)
    (fun a oe cls d pn hz hv => ⟨fun pins s σ H D I ⟨C, dd, e1, e2, h⟩ => by
      subst e1 e2
      exact (hsu a dd C oe pn hz hv).run pins s σ H D I h⟩)
  refine ds_of hp fun F σ H Γ M A D w q m => ⟨_, cS_mk (T := ⟨T.B, _, aCatch X.K c i ts T.Ψ A⟩) ⟨w.v, w.h, fun y cls d Γ' M' σ' F' H' s v h xi hc => ?_⟩ q ⟨m.nx, m.rt, m.bk, m.ct⟩⟩
  obtain ⟨b, e1, e2, e3⟩ := hc
  obtain ⟨rfl, dd, v0, rfl, hF, hI⟩ := xi
  refine ⟨b, e1, fun hb a ha => ⟨y.C, dd, rfl, rfl, cS_mk (T := T.no) ⟨v.set (.xc hF hI) i, h, lk_calm⟩ (e2 hb a dd) ⟨fun Γ2 M2 σ2 F2 H2 s2 v2 h2 q2 => m.nx _ _ _ _ _ (s.trans s2) (v2.gone i) h2 q2, fun d2 M2 v2 F2 H2 s2 h2 i2 q2 => m.rt _ _ _ _ _ (s.trans s2) h2 i2 q2,
    fun Γ2 M2 σ2 F2 H2 s2 v2 h2 q2 => m.bk _ _ _ _ _ (s.trans s2) (v2.gone i) h2 q2, fun Γ2 M2 σ2 F2 H2 s2 v2 h2 q2 => m.ct _ _ _ _ _ (s.trans s2) (v2.gone i) h2 q2⟩⟩, fun hb => w.l y _ _ Γ' M' σ' F' H' s v h ⟨rfl, dd, v0, rfl, hF, hI⟩ (e3 hb)⟩
/-- e.at -/
def aXat_k (a dd C : Addr) (Φ : AK) (d : D) (M : Mm) : Prop := match d with
  | .xc a' dd' C' x => (a' = a ∧ dd' = dd ∧ C' = C) ∧ Φ x M
  | _ => False
def aXat (K : PySem.W.Frag) (a dd C : Addr) (ta : AE) (Γ : Gm) (M : Mm) (Φ : AK) : Prop := (XfC K C ∧ PySem.W.findIn K (.ref C) "at" = some none) ∧ ta Γ M fun d M1 => aXat_k a dd C Φ d M1
theorem aXat_x {a dd C a' dd' C' : Addr} {Φ : AK} {x : D} {M : Mm} : aXat_k a dd C Φ (.xc a' dd' C' x) M = ((a' = a ∧ dd' = dd ∧ C' = C) ∧ Φ x M) := rfl
theorem de_xat {a dd C : Addr} {oe : Obj} {pn : List (Addr × Obj)} {B : Bx} {ta : AE} (hz : L2N.Zn (.ref C) (some dd) oe) (hf : ∃ vs, oe.data = .fields vs) (ha : DE (X.suite a ((a, oe) :: pn)) (Ct.calm B) e ta) (hb : attributeBase e "at" X.env (eval e X.env) = eval e X.env := by rfl) :
    DE (X.suite a ((a, oe) :: pn)) (Ct.calm B) (.Attribute e "at" pos) (aXat X.K a dd C ta) :=
  ⟨fun pins s σ H Q I ⟨F, Γ, M, Φ, w, ⟨hT, q⟩, z⟩ => by
    refine (pe_xf (cls := .ref C) (d := some dd) hT.1 hT.2 hz.zc hf ha hb).run pins s σ H Q I (cE_mk w q fun d M1 x F1 H1 s1 h1 i1 q1 => ?_)
    unfold aXat_k at q1
    split at q1
    · obtain ⟨⟨rfl, rfl, rfl⟩, q1⟩ := q1
      cases i1 with
      | @xc _ _ _ v _ hF hI =>
        exact ⟨rfl, rfl, _, _, v, rfl, h1.sub _ _ hF, rfl, z _ _ _ _ _ s1 h1 hI q1⟩
    · exact q1.elim⟩
end
end DL

set_option Elab.async false
set_option linter.all false
set_option maxRecDepth 100000
set_option maxHeartbeats 4000000
/-! DX4: isinstance of a caught error that has a dict. -/
namespace DL
open PySem L2
section
open PySem.W PySem.Calls PyProof.Rows
variable {prog : Program} {w : World} {A : Around} {E : Value → Shared → Prop} {s : Shared} {K : Frag} {x D : Addr} {ox : Obj} {odx : Option Obj}
theorem findData {C : Addr} {name : Str} {a g : Value} {od : Option Obj} (hc : (clsIn K C).isSome = true) (ha : findIn K (.ref C) name = some (some a)) (hg : specialIn K a "__get__" = some (some g)) (ht : takesIn K a = some true) : findObj K C od name = some (.bind g a) := by
  obtain ⟨cd, hc⟩ := Option.isSome_iff_exists.mp hc
  unfold findObj
  rw [hc, Option.bind_some, ha, Option.bind_some]
  simp [hg, ht]
theorem class_of (Z : ExcC K D) {Q : Option Value → Shared → Prop} (X : K.In s.heap) (I : InstAt s.heap x ox D odx) (h : Q (some (.ref D)) { s with toks := s.toks + 1 }) : wpAny (model prog w) A (getAttr? (.ref x) "__class__") Q E s := by
  have hf : findObj K D odx "__class__" = some (.bind (.builtin "getset_descriptor.__get__") (.builtin "object.__class__")) := findData (by obtain ⟨cd, hc, _⟩ := any_some Z.hd; rw [hc]; rfl) Z.ha Z.hn Z.ht
  obtain ⟨hp, g, d, t, os⟩ := s
  have Lt := I.type (M := model prog w)
  have Lg := looks_findIn (M := model prog w) X Z.hg
  have Lk := looks_findIn (M := model prog w) X Z.hk
  have Lf := looks_find (M := model prog w) X I hf
  have Ls : Looks (model prog w) hp (isInstance (.ref x) (.type "BaseException")) true := Lt.andThen (looks_subIn X Z.hs)
  have n0 : (false && onTheHeap (Value.builtin "BaseException.__getattribute__")) = false := rfl
  have n2 : (Value.builtin "BaseException.__getattribute__" == Value.builtin "object.__getattribute__") = false := by decide +kernel
  have n1 : (onTheHeap (Value.ref D) && Value.builtin "BaseException.__getattribute__" == Value.builtin "object.__getattribute__") = false := by rw [n2]; rfl
  unfold getAttr? getAttrBy? getAttrBy
  refine wpAny_bind (wpAny_mkText (wpAny_bind (wpAny_attempt (wpAny_holding (wpAny_bind (Lt.at (wpAny_bind (Lg.at ?_))))))))
  show wpAny _ _ (if (onTheHeap (Value.ref D) && Value.builtin "BaseException.__getattribute__" == Value.builtin "object.__getattribute__") = true then _ else _) _ _ _
  rw [n1, if_neg Bool.false_ne_true]
  unfold getAttrByItsOwn hookBefore
  refine wpAny_bind ?_
  rw [if_pos (show onTheHeap (Value.ref D) = true from rfl)]
  refine Lk.at (wpAny_bind (wpAny_attempt (wpAny_holding ?_)))
  unfold callGetattribute
  rw [n0, if_neg Bool.false_ne_true]
  unfold boundAndCalled
  rw [PySem.F.excAttr_ValueError.ga.bind (.ref x)]
  refine wpAny_bind (wpAny_pure ?_)
  show wpAny _ _ (call (.builtin "BaseException.__getattribute__") [.ref x, .str "__class__" t]) _ _ _
  refine wpAny_call (codeAny_call_builtin PySem.F.excAttr_ValueError.ga.plain PySem.F.entry_bexc_ga ?_)
  refine @check_slot (model prog w) _ _ ⟨hp, g, d, t + 1, os⟩ "BaseException.__getattribute__" "BaseException" "__getattribute__" (.ref x) [.str "__class__" t] [] _ (by decide +kernel) (by decide +kernel) Ls (PySem.F.args_bexc_ga (.ref x) (.str "__class__" t)) ?_
  unfold Builtin.«object.__getattribute__»
  refine wpAny_bind (wpAny_of_eq (a := ((Value.ref x : Value), [Value.str "__class__" t])) (by first | rfl | (simp only [slotArgs]; rfl)) ?_)
  refine wpAny_bind (wpAny_pure (wpAny_bind (Lt.at (wpAny_bind (Lf.at ?_)))))
  show wpAny _ _ (holding [Value.builtin "object.__class__"] (call (.builtin "getset_descriptor.__get__") [.builtin "object.__class__", .ref x, .ref D]) >>= ret) _ _ _
  refine wpAny_bind (wpAny_holding (wpAny_call (class_get (s := ⟨hp, g, d, t + 1, os⟩) (ox := ox) (od := odx) X I Z.hm (wpAny_pure ?_))))
  show wpAny _ _ (handedOut (.ref D)) _ _ _
  rw [handedOut_of (v := .ref D) rfl]
  first
    | exact wpAny_pure (wpAny_pure h)
    | exact wpAny_pure h
    | exact wpAny_pure (wpAny_bind (wpAny_pure (wpAny_pure h)))
theorem kit_exc (Z : ExcC K D) : KitX K (.ref x) (.ref D) (fun h => ∃ odx, InstAt h x ox D odx) where
  ty := fun _ _ _ ⟨_, I⟩ => I.type
  it := fun _ _ X _ => by
    obtain ⟨cdD, hcD, _⟩ := any_some Z.hd
    unfold clsIn at hcD
    split at hcD
    · rename_i c' d' cd' sl' ho
      intro A' Q' E' s' k q
      unfold isType loadHead
      exact wpAny_bind (wpAny_loadPart (k _ _ (X _ _ ho)) (wpAny_pure q))
    · cases hcD
  ne := fun h tp dd its n sl X htp => by
    obtain ⟨cdD, hcD, _⟩ := any_some Z.hd
    refine Bool.eq_false_iff.mpr fun q => ?_
    have e : D = tp := Value.ref.inj (beq_iff_eq.mp q)
    subst e
    unfold clsIn at hcD
    split at hcD
    · rename_i c' d' cd' sl' ho
      have z := (X _ _ ho).symm.trans htp
      cases z
    · cases hcD
  ca := fun X ⟨_, I⟩ k => class_of Z X I k
end
/-- isinstance(e, c), e the exception that the suite holds, c one class -/
def rIsX (K : PySem.W.Frag) (D a dd : Addr) : List V → Hp → VK → Prop := fun xs H Q => ∃ (c : V) (cv : Value) (b : Bool) (fs : List (Str × V)), xs = [.ref a, c] ∧ (∀ u, RelV c u → u = cv) ∧ PySem.W.kitOne K (.ref D) cv = some b ∧ H dd = some (.xd fs) ∧ Q (.bl b) H
theorem call_isX {X : Cx} {a D dd : Addr} {oe : Obj} {pn : List (Addr × Obj)} (C : ExcC X.K D) (hz : L2N.Zn (.ref D) (some dd) oe) (hf : ∃ vs, oe.data = .fields vs) : CallR (X.suite a ((a, oe) :: pn)) (.builtin "isinstance") (rIsX X.K D a dd) := by
  intro pins s σ H xs us Q I r h
  obtain ⟨c, cv, b, fs, rfl, hcv, e, hdd, q⟩ := h
  cases r with
  | cons rx rr =>
    cases rr with
    | cons rt rr =>
      cases rr
      cases rx
      have ec := hcv _ rt
      subst ec
      obtain ⟨hget, _⟩ := I.pin (a, oe) (List.mem_append.mpr (.inl List.mem_cons_self))
      obtain ⟨vs, hv⟩ := hf
      have hx : ObjOk X.prog X.w H s.heap dd (.xd fs) := I.hok dd _ hdd
      obtain ⟨mA, hns, _⟩ := hx
      obtain ⟨od, es, ep, ho, hl⟩ := hns
      have J : PySem.W.InstAt s.heap a oe D (some od) := by
        obtain ⟨oc, oda, odt, osl⟩ := oe
        obtain ⟨h1, h2, _⟩ := hz
        dsimp only at h1 h2 hv
        subst h1 h2 hv
        exact ⟨hget, rfl, rfl, ho⟩
      exact PySem.W.kia_one (kit_exc C) I.kIn ⟨_, J⟩ e (fun z => nomatch z) fun tk => ⟨.bl b, H, I.kept (t' := tk) fun _ _ z => z, rfl, q⟩
/-- over data: c a class of the program -/
def aIsX_k (K : PySem.W.Frag) (a dd C C2 : Addr) (Φ : AK) (d : DL.D) (M : Mm) : Prop := match d with
  | .xc a' dd' C' _ => (a' = a ∧ dd' = dd ∧ C' = C) ∧ ∃ b, PySem.W.kitOne K (.ref C) (.ref C2) = some b ∧ Φ (.bl b) M
  | _ => False
def aIsX (K : PySem.W.Frag) (a dd C C2 : Addr) (ta : AE) (Γ : Gm) (M : Mm) (Φ : AK) : Prop := ExcC K C ∧ ta Γ M fun d M1 => aIsX_k K a dd C C2 Φ d M1
theorem aIsX_x {K : PySem.W.Frag} {a dd C C2 a' dd' C' : Addr} {Φ : AK} {x : DL.D} {M : Mm} : aIsX_k K a dd C C2 Φ (.xc a' dd' C' x) M = ((a' = a ∧ dd' = dd ∧ C' = C) ∧ ∃ b, PySem.W.kitOne K (.ref C) (.ref C2) = some b ∧ Φ (.bl b) M) := rfl
theorem de_isX {X : Cx} {a dd C C2 : Addr} {oe : Obj} {pn : List (Addr × Obj)} {B : Bx} {x : Str} {e : Expr} {ta : AE} {p p' pos : Pos} (hz : L2N.Zn (.ref C) (some dd) oe) (hf : ∃ vs, oe.data = .fields vs) (hg : Gl X "isinstance") (hm : X.mg "isinstance" = none) (hg2 : Gl X x) (hm2 : X.mg x = some (.ref C2)) (ha : DE (X.suite a ((a, oe) :: pn)) (Ct.calm B) e ta)
    (hd : (x == ("__debug__" : Str)) = false := by decide) (hs : starEach [e, .Name x p'] X.env = (false, eval e X.env) :: starEach [.Name x p'] X.env := by rfl)
    (hs2 : starEach [.Name x p'] X.env = (false, eval (.Name x p') X.env) :: starEach [] X.env := by rfl) (hpl : (backTo pos (starEach [.Name x p'] X.env)).any (·.1) = false := by rfl) :
    DE (X.suite a ((a, oe) :: pn)) (Ct.calm B) (.Call (.Name "isinstance" p) [e, .Name x p'] [] pos) (aIsX X.K a dd C C2 ta) :=
  ⟨fun pins s σ H Q I ⟨F, Γ, M, Φ, w, ⟨hT, q⟩, z⟩ => by
    refine (pe_callB (X := X.suite a ((a, oe) :: pn)) (call_isX hT hz hf) hg hm PyProof.Rows.boot_isinstance (pa_cons ha (pa_cons (pe_glob (X := X.suite a ((a, oe) :: pn)) hg2 hm2 (v := .ref C2) rfl hd) pa_nil hs2) hs) (by decide) (by decide) hs hpl).run pins s σ H Q I (cE_mk w q fun d M1 v F1 H1 s1 h1 i1 q1 => ?_)
    unfold aIsX_k at q1
    split at q1
    · obtain ⟨⟨rfl, rfl, rfl⟩, b, hb, q1⟩ := q1
      cases i1 with
      | @xc _ _ _ v _ hF hI =>
        exact ⟨.ref C2, .ref C2, b, _, rfl, fun u r => r, hb, h1.sub _ _ hF, z _ _ _ _ _ s1 h1 (.bl b) q1⟩
    · exact q1.elim⟩
end DL

set_option Elab.async false
set_option linter.all false
set_option maxRecDepth 100000
set_option maxHeartbeats 2000000
/-! DC1: instances of own classes over data. -/
namespace DL
open PySem L2
section
variable {X : Cx} {CX : CXT} {k : Nat} {f C : Addr} {fd : FuncData} {ps : List Str} {sp : Sp} {dvs : List V} {ds : List Value} {E : L2.St → XK} {p pos : Pos} {e : Expr} {es : List Expr} {t : TA}
theorem run_makeS {pins : List (Addr × Obj)} {σ : L2.St} {H : Hp} {s : Shared} {Q : VK} {us : List Value} {vs : List V} (M : Mk X.K C f) (F : FnOk X.prog X.w X.K X.mg X.base CX k f fd ps sp) (hr : Room (k + 1) X.A) (hb : Binds X.K fd ps ds) (hd : Vals dvs ds)
    (hx : PassesAt CX X σ (E σ)) (I : Inv X pins σ H s) (r : Vals vs us)
    (h : ∀ x dx, H x = none → H dx = none → dx ≠ x → sp (.ref x :: (vs ++ dvs)) (upd (upd H dx (.own x)) x (.ins C dx [])) (fun v H2 => v = .non ∧ Q (.ref x) H2) (E σ)) :
    wpAny (model X.prog X.w) X.A (call (.ref C) us) (EP X pins σ Q) X.xe s := by
  have hq := h (s.heap.objs.size + 1) s.heap.objs.size (I.hok.fresh (Nat.le_succ _)) (I.hok.fresh (Nat.le_refl _)) (Nat.ne_of_lt (Nat.lt_succ_self _))
  have J := Inv.made (C := C) I
  have rr : Vals (V.ref (s.heap.objs.size + 1) :: (vs ++ dvs)) (Value.ref (s.heap.objs.size + 1) :: (us ++ ds)) := .cons rfl (r.append hd)
  have hl : (Value.ref (s.heap.objs.size + 1) :: us ++ ds).length = ps.length := by
    have z := rr.length
    rw [F.len _ _ _ _ hq] at z
    exact z.symm
  refine wpAny_call (make_map (f := f) I.kIn M.makes M.init (beq_iff_eq.mp M.fn) (codeAny_mono (F.run _ X.stack _ _ ⟨Value.ref (s.heap.objs.size + 1) :: us, []⟩ (Value.ref (s.heap.objs.size + 1) :: (us ++ ds)) _ _ (E σ) (hr.make C us []) (J.env0.make C us []) (hb _ (Value.ref (s.heap.objs.size + 1) :: us) J.kIn hl) rr hq) fun r s' hq' => ?_))
  cases r with
  | error er => exact hx pins _ _ er s' J hq'
  | ok fl =>
    cases fl with
    | ret u =>
      obtain ⟨v, H', J2, rv, ev, q3⟩ := J.after hq'
      subst ev
      exact ⟨rv, ⟨V.ref (s.heap.objs.size + 1), H', J2, rfl, q3⟩⟩
    | next => exact False.elim hq'
    | brk => exact False.elim hq'
    | cont => exact False.elim hq'
def tMakeS (C : Addr) (sp : Sp) (dvs : List V) (E : L2.St → XK) (t : TA) : TE := fun σ H Q => t σ H fun vs H1 => ∀ x dx, H1 x = none → H1 dx = none → dx ≠ x → sp (.ref x :: (vs ++ dvs)) (upd (upd H1 dx (.own x)) x (.ins C dx [])) (fun v H2 => v = .non ∧ Q (.ref x) H2) (E σ)
theorem pe_makeS {x : Str} (M : Mk X.K C f) (F : FnOk X.prog X.w X.K X.mg X.base CX k f fd ps sp) (hr : Room (k + 1) X.A) (hg : Gl X x) (hm : X.mg x = some (.ref C)) (hb : Binds X.K fd ps ds) (hd : Vals dvs ds) (hx : ∀ σ, PassesAt CX X σ (E σ))
    (ha : PA X (e :: es) t) (hdb : (x == ("__debug__" : Str)) = false := by decide) (he : starEach (e :: es) X.env = (false, eval e X.env) :: starEach es X.env := by rfl) (hpl : (backTo pos (starEach es X.env)).any (·.1) = false := by rfl) :
    PE X (.Call (.Name x p) (e :: es) [] pos) (tMakeS C sp dvs E t) :=
  ⟨fun pins s σ H Q I h => wpAny_Call_Name_kw (ld_glob I hg hm (PySem.W.callWith_K (h₀ := X.base) I.ok.mod.kin M.kp (thn (ha.run pos pins s σ H _ I h) fun us s1 hh => by
    obtain ⟨vs, H1, I1, r, q⟩ := hh
    exact ⟨I1.kIn, run_makeS M F hr hb hd (hx σ) I1 r q⟩) he hpl) hdb)⟩
end
section
variable {X : Cx} {T : Ct} {e o : Expr} {pos p : Pos} {es : List Expr} {tr : AA} {ta to tv : AE}
/-- a new instance, to be left as it is -/
def aMake (C : Addr) (asp : ASp) (dds : List D) (Ψ : AX) (tr : AA) (Γ : Gm) (M : Mm) (Φ : AK) : Prop := tr Γ M fun ds M1 => ∀ x, asp (.ref x :: (ds ++ dds)) ((x, .ins C [] []) :: M1) (fun d M2 => d = .non ∧ ∃ ns xs M3, Dl M2 x (.ins C ns xs) M3 ∧ Φ (.ins C ns xs) M3) (fun y M2 => Ψ y Γ M2)
/-- one that may change -/
def aMakeM (C : Addr) (asp : ASp) (dds : List D) (Ψ : AX) (tr : AA) (Γ : Gm) (M : Mm) (Φ : AK) : Prop := tr Γ M fun ds M1 => ∀ x, asp (.ref x :: (ds ++ dds)) ((x, .ins C [] []) :: M1) (fun d M2 => d = .non ∧ Φ (.ref x) M2) (fun y M2 => Ψ y Γ M2)
theorem hs_made {K : PySem.W.Frag} {B : Bx} {M : Mm} {F H : Hp} {C x dx : Addr} (h : Hs K B M F H) (hx : H x = none) (hd : H dx = none) (ne : dx ≠ x) : Hs K B ((x, .ins C [] []) :: M) F (upd (upd H dx (.own x)) x (.ins C dx [])) :=
  (h.over hd).newM (by rw [upd_ne (Ne.symm ne)]; exact hx) ⟨dx, [], upd_same, rfl, .nil⟩
theorem de_makeM {x : Str} {k : Nat} {C f : Addr} {fd : FuncData} {ps : List Str} {asp : ASp} {dds : List D} {dvs : List V} {dvals : List Value} (Mc : Mk X.K C f) (G : FnOk X.prog X.w X.K X.mg X.base (L2N.CX X.prog X.w) k f fd ps (conc X.K T.B asp)) (hr : Room (k + 1) X.A) (hg : Gl X x) (hm : X.mg x = some (.ref C))
    (hb : Binds X.K fd ps dvals) (hd : Vals dvs dvals) (hi : ∀ F, IsL X.K F dvs dds) (tk : L2N.Takes X T.W) (ha : DA X T (e :: es) tr)
    (hdb : (x == ("__debug__" : Str)) = false := by decide) (he : starEach (e :: es) X.env = (false, eval e X.env) :: starEach es X.env := by rfl) (hpl : (backTo pos (starEach es X.env)).any (·.1) = false := by rfl) :
    DE X T (.Call (.Name x p) (e :: es) [] pos) (aMakeM C asp dds T.Ψ tr) :=
  de_of (pe_makeS Mc G hr hg hm hb hd (fun σ => L2N.passAt tk σ) ha hdb he hpl) fun F σ H Γ M Φ Q w q z => cA_mk w q fun ds M1 vs F1 H1 s1 h1 i1 q1 => fun x dx n1 n2 ne =>
    ⟨.ref x :: (ds ++ dds), F1, (x, .ins C [] []) :: M1, _, fun y M2 => T.Ψ y Γ M2, .cons (.ref x) (i1.append (hi F1)), hs_made h1 n1 n2 ne, q1 x, fun d M2 v F2 H2 s2 h2 i2 q2 => by
      obtain ⟨rfl, q2⟩ := q2
      cases i2
      exact ⟨rfl, z _ M2 _ F2 H2 (s1.trans s2) h2 (.ref x) q2⟩, fun y cls d M2 F2 H2 s2 h2 xi q2 => w.l y cls d Γ M2 σ F2 H2 (s1.trans s2) (w.v.mono (s1.trans s2)) h2 xi q2⟩
theorem de_make {x : Str} {k : Nat} {C f : Addr} {fd : FuncData} {ps : List Str} {asp : ASp} {dds : List D} {dvs : List V} {dvals : List Value} (Mc : Mk X.K C f) (G : FnOk X.prog X.w X.K X.mg X.base (L2N.CX X.prog X.w) k f fd ps (conc X.K T.B asp)) (hr : Room (k + 1) X.A) (hg : Gl X x) (hm : X.mg x = some (.ref C))
    (hb : Binds X.K fd ps dvals) (hd : Vals dvs dvals) (hi : ∀ F, IsL X.K F dvs dds) (tk : L2N.Takes X T.W) (ha : DA X T (e :: es) tr)
    (hdb : (x == ("__debug__" : Str)) = false := by decide) (he : starEach (e :: es) X.env = (false, eval e X.env) :: starEach es X.env := by rfl) (hpl : (backTo pos (starEach es X.env)).any (·.1) = false := by rfl) :
    DE X T (.Call (.Name x p) (e :: es) [] pos) (aMake C asp dds T.Ψ tr) :=
  de_of (pe_makeS Mc G hr hg hm hb hd (fun σ => L2N.passAt tk σ) ha hdb he hpl) fun F σ H Γ M Φ Q w q z => cA_mk w q fun ds M1 vs F1 H1 s1 h1 i1 q1 => fun x dx n1 n2 ne =>
    ⟨.ref x :: (ds ++ dds), F1, (x, .ins C [] []) :: M1, _, fun y M2 => T.Ψ y Γ M2, .cons (.ref x) (i1.append (hi F1)), hs_made h1 n1 n2 ne, q1 x, fun d M2 v F2 H2 s2 h2 i2 q2 => by
      obtain ⟨rfl, ns, xs, M3, dl, q2⟩ := q2
      cases i2
      obtain ⟨F3, s3, h3, i3⟩ := h2.freezeI dl
      exact ⟨rfl, z _ M3 _ F3 H2 ((s1.trans s2).trans s3) h3 i3 q2⟩, fun y cls d M2 F2 H2 s2 h2 xi q2 => w.l y cls d Γ M2 σ F2 H2 (s1.trans s2) (w.v.mono (s1.trans s2)) h2 xi q2⟩
/-- the field f -/
def fld (f : Str) : List Str → List D → Option D
  | n :: ns, x :: xs => if f = n then some x else fld f ns xs
  | _, _ => none
def putN (f : Str) : List Str → List Str
  | [] => [f]
  | n :: ns => if n = f then n :: ns else n :: putN f ns
def putX (f : Str) (y : D) : List Str → List D → List D
  | n :: ns, x :: xs => if n = f then y :: xs else x :: putX f y ns xs
  | _, _ => [y]
theorem fld_of {K : PySem.W.Frag} {F : Hp} {f : Str} {d : D} : ∀ {fs : List (Str × V)} {xs : List D}, IsL K F (fs.map (·.2)) xs → fld f (fs.map (·.1)) xs = some d → ∃ v, fs.lookup f = some v ∧ Is K F v d
  | [], _, h, e => by cases e
  | (n, v) :: fs, _, .cons i l, e => by
    unfold fld at e
    rw [List.map_cons] at e
    by_cases h : f = n
    · subst h
      simp at e
      subst e
      exact ⟨v, by simp [List.lookup], i⟩
    · simp only [if_neg h] at e
      obtain ⟨u, h1, h2⟩ := fld_of l e
      exact ⟨u, by simp [List.lookup, beq_false_of_ne h, h1], h2⟩
theorem put_names (f : Str) (y : V) : ∀ fs : List (Str × V), (putF f y fs).map (·.1) = putN f (fs.map (·.1))
  | [] => rfl
  | (n, v) :: fs => by
    unfold putF putN
    rw [List.map_cons]
    by_cases h : n = f
    · simp only [if_pos h, List.map_cons]
    · simp only [if_neg h, List.map_cons, put_names f y fs]
theorem put_vals {K : PySem.W.Frag} {F : Hp} {f : Str} {y : V} {d : D} (i : Is K F y d) : ∀ {fs : List (Str × V)} {xs : List D}, IsL K F (fs.map (·.2)) xs → IsL K F ((putF f y fs).map (·.2)) (putX f d (fs.map (·.1)) xs)
  | [], _, .nil => .cons i .nil
  | (n, v) :: fs, _, .cons j l => by
    unfold putF putX
    rw [List.map_cons]
    by_cases h : n = f
    · simp only [if_pos h, List.map_cons]
      exact .cons i l
    · simp only [if_neg h, List.map_cons]
      exact .cons j (put_vals i l)
def aFld_k (K : PySem.W.Frag) (f : Str) (Φ : AK) (d : D) (M : Mm) : Prop := match d with
  | .ins C ns xs => (Cls K C ∧ NoAttr K C f) ∧ onD (fld f ns xs) fun x => Φ x M
  | .ref a => ∃ C ns xs, (a, MO.ins C ns xs) ∈ M ∧ (Cls K C ∧ NoAttr K C f) ∧ onD (fld f ns xs) fun x => Φ x M
  | _ => False
def aFld (K : PySem.W.Frag) (f : Str) (ta : AE) (Γ : Gm) (M : Mm) (Φ : AK) : Prop := ta Γ M fun d M1 => aFld_k K f Φ d M1
theorem aFld_i {K : PySem.W.Frag} {f : Str} {Φ : AK} {C : Addr} {ns : List Str} {xs : List D} {M : Mm} : aFld_k K f Φ (.ins C ns xs) M = ((Cls K C ∧ NoAttr K C f) ∧ onD (fld f ns xs) fun x => Φ x M) := rfl
theorem aFld_r {K : PySem.W.Frag} {f : Str} {Φ : AK} {a : Addr} {M : Mm} : aFld_k K f Φ (.ref a) M = ∃ C ns xs, (a, MO.ins C ns xs) ∈ M ∧ (Cls K C ∧ NoAttr K C f) ∧ onD (fld f ns xs) fun x => Φ x M := rfl
theorem de_fld {f : Str} (he : DE X T e ta) (hb : attributeBase e f X.env (eval e X.env) = eval e X.env := by rfl) : DE X T (.Attribute e f pos) (aFld X.K f ta) :=
  de_of (pe_fld he hb) fun F σ H Γ M Φ Q w q z => cE_mk w q fun d M1 v F1 H1 s1 h1 i1 q1 => by
    unfold aFld_k at q1
    split at q1
    · rename_i C ns xs
      obtain ⟨⟨c1, c2⟩, q1⟩ := q1
      cases i1 with
      | @ins a _ dx fs _ hF hl =>
        cases e1 : fld f (fs.map (·.1)) xs with
        | none =>
          rw [e1] at q1
          exact q1.elim
        | some d =>
          rw [e1] at q1
          obtain ⟨v, h2, h3⟩ := fld_of hl e1
          exact ⟨a, C, dx, fs, v, rfl, h1.sub _ _ hF, c1, c2, h2, z _ _ _ _ _ s1 h1 h3 q1⟩
    · rename_i a
      obtain ⟨C, ns, xs, hm, ⟨c1, c2⟩, q1⟩ := q1
      cases i1
      obtain ⟨_, _, dx, fs, e2, rfl, hl⟩ := h1.mem _ hm
      cases e1 : fld f (fs.map (·.1)) xs with
      | none =>
        rw [e1] at q1
        exact q1.elim
      | some d =>
        rw [e1] at q1
        obtain ⟨v, h2, h3⟩ := fld_of hl e1
        exact ⟨a, C, dx, fs, v, rfl, e2, c1, c2, h2, z _ _ _ _ _ s1 h1 h3 q1⟩
    · exact q1.elim
def aFldS_k (K : PySem.W.Frag) (f : Str) (y : D) (A : AEnds) (Γ : Gm) (d : D) (M : Mm) : Prop := match d with
  | .ref a => ∃ C ns xs M3, Up M a (.ins C ns xs) (.ins C (putN f ns) (putX f y ns xs)) M3 ∧ (Cls K C ∧ NoAttr K C f) ∧ ns.length < 1000 ∧ A.nx Γ M3
  | _ => False
def aFldS (K : PySem.W.Frag) (f : Str) (to tv : AE) (A : AEnds) (Γ : Gm) (M : Mm) : Prop := tv Γ M fun y M1 => to Γ M1 fun d M2 => aFldS_k K f y A Γ d M2
theorem aFldS_r {K : PySem.W.Frag} {f : Str} {y : D} {A : AEnds} {Γ : Gm} {a : Addr} {M : Mm} : aFldS_k K f y A Γ (.ref a) M = ∃ C ns xs M3, Up M a (.ins C ns xs) (.ins C (putN f ns) (putX f y ns xs)) M3 ∧ (Cls K C ∧ NoAttr K C f) ∧ ns.length < 1000 ∧ A.nx Γ M3 := rfl
theorem ds_fld {f : Str} {p' : Pos} (ho : DE X T o to) (hv : DE X T e tv) (hs : swapsWith e (some (.Attribute o f p')) pos.line X.env = pure false := by rfl) : DS X T (.Assign [.Attribute o f p'] e pos) (aFldS X.K f to tv) :=
  ds_of (ps_fld ho hv hs) fun F σ H Γ M A D w q m => cE_mk w q fun y M1 v F1 H1 s1 h1 i1 q1 => cE_mk (w.go s1 h1) q1 fun d M2 u F2 H2 s2 h2 i2 q2 => by
    unfold aFldS_k at q2
    split at q2
    · rename_i a
      obtain ⟨C, ns, xs, M3, up, ⟨c1, c2⟩, hl, q2⟩ := q2
      cases i2
      obtain ⟨_, _, dx, fs, e2, rfl, hl2⟩ := h2.mem _ up.mem
      refine ⟨a, C, dx, fs, rfl, e2, c1, c2, by rw [List.length_map] at hl; exact hl, ?_⟩
      exact m.nx _ _ _ _ _ (s1.trans s2) (w.v.mono (s1.trans s2)) (h2.put up ⟨dx, _, upd_same, put_names f v fs, put_vals (i1.mono s2) hl2⟩) q2
    · exact q2.elim
end
end DL

set_option Elab.async false
set_option linter.all false
set_option maxRecDepth 100000
set_option maxHeartbeats 4000000
/-! DR1: enumerate over a tuple. -/
namespace DL
open PySem L2
set_option maxHeartbeats 4000000 in
theorem meets_enum1 {v : Value} {o : Obj} {H : Heap → Prop} (B : Begins v o H) :
    Meets (Builtin.«enumerate.__new__» ⟨[.type "enumerate", v], []⟩) (fun _ R s => H s.heap ∧
      R (.ok (.ret (.ref (s.heap.push o).objs.size))) { s with heap := (s.heap.push o).push { cls := .type "enumerate", data := .fields #[.none, .bool false, .ref s.heap.objs.size, rawInt 0, .none, .none] } }) :=
  .of_wp fun prog w A R s h => by
    obtain ⟨hp, g, d, tk, os⟩ := s
    obtain ⟨h1, h⟩ := h
    have hsub := sub_enumerate
    have q1 : ∀ {A' : Around} {E : Value → Shared → Prop} {Q : Value → Shared → Prop}, Q (.ref hp.objs.size) ⟨hp.push o, g, d, tk, os⟩ → wpAny (model prog w) A' (pyIter v) Q E ⟨hp, g, d, tk, os⟩ :=
      fun q => B.iter prog w _ _ ⟨hp, g, d, tk, os⟩ _ h1 q
    wp_walk using q1
    refine wpAny_stack_any fun st => wpAny_pure ?_
    split
    · rename_i c _ _ _ _ _
      cases (c == Value.type "enumerate")
      · wp_walk using q1
        exact ⟨_, rfl, h⟩
      · wp_walk using q1
        exact ⟨_, rfl, h⟩
    · wp_walk using q1
      exact ⟨_, rfl, h⟩
section
variable {prog : Program} {w : World} {A : Around} {E : Value → Shared → Prop} {s : Shared}
theorem enum1_begins {v : Value} {o : Obj} {H : Heap → Prop} {Q : Value → Shared → Prop} (B : Begins v o H) (h1 : H s.heap)
    (h : ∀ h', IsEnum h' (s.heap.objs.size + 1) s.heap.objs.size 0 .none → h'.get? s.heap.objs.size = some o → h'.objs.size = s.heap.objs.size + 2 →
      (∀ b o, s.heap.get? b = some o → h'.get? b = some o) → Q (.ref (s.heap.objs.size + 1)) { s with heap := h' }) :
    wpAny (model prog w) A (call (.type "enumerate") [v]) Q E s := by
  refine callType_new F.called_enumerate (by decide) (F.typeCall_enumerate_1 _) (F.newCall_enumerate_1 _) (fun obj => F.args_object_init_2 obj _) F.entry_enumerate_new (meets_enum1 B) ⟨h1, ?_⟩
  have hz : (s.heap.push o).objs.size = s.heap.objs.size + 1 := Heap.size_push ..
  show _ ∧ _
  rw [hz]
  have he : IsEnum ((s.heap.push o).push { cls := .type "enumerate", data := .fields #[.none, .bool false, .ref s.heap.objs.size, rawInt 0, .none, .none] }) (s.heap.objs.size + 1) s.heap.objs.size 0 .none := by
    have z := Heap.get?_push_size (s.heap.push o) (o := { cls := .type "enumerate", data := .fields #[.none, .bool false, .ref s.heap.objs.size, rawInt 0, .none, .none] }) rfl
    rw [hz] at z
    exact z
  exact ⟨⟨_, he, rfl⟩, h _ he (Heap.get?_push_of_some _ (Heap.get?_push_size _ B.free)) (by rw [Heap.size_push, hz]) fun b o x => Heap.get?_push_of_some _ (Heap.get?_push_of_some _ x)⟩
end
theorem enumT_end {prog : Program} {w : World} {A : Around} {E : Value → Shared → Prop} {s : Shared} {e it a : Addr} {i : Nat} {j : Int} {items : Array Value} {old : Value} {Q : Option Value → Shared → Prop} (hh : A.handled = none)
    (he : IsEnum s.heap e it j old) (hit : s.heap.IsTupleIter it a i) (hl : s.heap.IsTuple a items) (hx : items[i]? = none) (hQ : ∀ h', Heap.ExtBut it s.heap h' → Q none { s with heap := h' }) : wpAny (model prog w) A (pyNext (.ref e)) Q E s := by
  have hT : s.TypeIs (.ref e) "enumerate" := ⟨_, he, rfl⟩
  unfold pyNext
  refine wpAny_bind (wpAny_attempt (wpAny_callSpecial?_slot (name := Str.ofString "__next__") hT F.slot_enumerate_next (wpAny_call_entry F.slot_enumerate_next hT F.entry_enumerate_next ?_ (F.args_enumerate_next_1 _))))
  show wpAny _ _ (field (.ref e) 2 >>= _) _ _ _
  refine wpAny_bind (wpAny_field he rfl (x := .ref it) rfl ?_)
  refine wpAny_bind (wpAny_nextOf_tuple_end (by exact hh) hit hl hx fun h' x hx1 hx2 => ?_)
  obtain ⟨o, ho, hc⟩ := hx2
  exact wpAny_bind (wpAny_isInstance (T := "StopIteration") (b := true) ⟨o, ho, hc⟩ isSubtype_stop (wpAny_pure (hQ _ hx1)))
/-- the tuple at a, each item in a new pair -/
def IteT (K : PySem.W.Frag) (a : Addr) : It :=
  ⟨fun i H => ∃ (xs : List V) (x : V), SqT K H a xs ∧ xs[i]? = some x, fun i H v H' => ∃ T x, v = .ref T ∧ H T = none ∧ H' = upd H T (.tup [.int (i : Nat), x]) ∧ ∀ xs, SqT K H a xs → xs[i]? = some x, fun i H => ∃ xs : List V, SqT K H a xs ∧ xs.length ≤ i⟩
theorem turn_enumT {P : Program} {w : World} {K : PySem.W.Frag} {elts : List Expr} {kk : Nat} {tpos : Pos} (a e it : Addr) :
    Turn P w K (.Tuple elts kk tpos) (IteT K a) [e, it] e (fun i h => (∃ old, IsEnum h e it ((i : Nat) : Int) old) ∧ h.IsTupleIter it a i ∧ e ≠ it ∧ a ≠ it ∧ a ≠ e) where
  mem := by simp
  obj := fun i h st b hb => by
    obtain ⟨⟨old, he⟩, ⟨o, ho, hc, hd⟩, _⟩ := st
    have e' : b = e ∨ b = it := by simpa using hb
    rcases e' with rfl | rfl
    · exact ⟨_, he, fun v q => nomatch q⟩
    · exact ⟨o, ho, fun v q => by rw [hd] at q; cases q⟩
  keep := fun i h h' st k => let ⟨⟨old, he⟩, hi, hne⟩ := st; ⟨⟨old, k e (by simp) _ he⟩, hi.at fun o q => k it (by simp) o q, hne⟩
  item := by
    intro X hP hw hK hc i pins s σ H E I hf st hg
    subst hP hw hK
    obtain ⟨⟨old, he⟩, hit, hne, ne2, ne3⟩ := st
    obtain ⟨xs, x, hq, hx⟩ := hg
    obtain ⟨its, rv, p, hz⟩ := I.tuple hq
    obtain ⟨u, hu, ru⟩ := rv.get hx
    have hel : e < s.heap.objs.size := Heap.lt_size he
    have hil : it < s.heap.objs.size := by obtain ⟨_, q, _⟩ := hit; exact Heap.lt_size q
    have pt : s.heap.IsTuple a its.toArray := p
    refine wpAny_pyNext_enum_itemD (Draws.tuple (A := X.A.in1) (show X.A.in1.handled = none from I.ok.hd hc) it a ne2 its.toArray) he ⟨hit, pt⟩ (by rw [List.size_toArray]; exact (List.getElem?_eq_some_iff.mp hu).1) hne (by simp [hne, Ne.symm ne3]) fun y h' tk hy ho hit' hT hsz hk => ?_
    have ey : y = u := by
      rw [List.getElem?_toArray] at hy
      rw [hu] at hy
      exact (Option.some.inj hy).symm
    subst ey
    refine ⟨_, rfl, wpAny_letOwnedTupleGo_enum (s := { s with heap := h', toks := tk + 1 }) ho fun h'' he' sb => ?_⟩
    have hT2 : h''.get? s.heap.objs.size = some { cls := .type "tuple", data := .seq #[.int i tk, y] } := (sb.2 _ (Nat.ne_of_gt hel)).trans hT
    have new : ObjOk X.prog X.w (upd H s.heap.objs.size (.tup [.int (i : Nat), x])) h'' s.heap.objs.size (.tup [.int (i : Nat), x]) :=
      ⟨by show 2 ≤ sizeLine; decide, [.int i tk, y], .cons ⟨_, rfl⟩ (.cons ru .nil), ⟨_, hT2, rfl, _, rfl⟩⟩
    have J : Inv X pins σ (upd H s.heap.objs.size (.tup [.int (i : Nat), x])) { s with heap := h'', toks := tk + 1 } :=
      I.turnedNew (ch := [e, it]) (fun b ob hb q => (sb.2 b (fun z => hb (by simp [z]))).trans (hk b ob (fun z => hb (by simp [z])) (fun z => hb (by simp [z])) q)) hf (Nat.le_refl _) new
    refine ⟨.ref s.heap.objs.size, _, J, rfl, ⟨_, x, rfl, I.hok.fresh (Nat.le_refl _), rfl, fun ys hy => by rw [I.tuple_inj hy hq]; exact hx⟩, ⟨⟨y, ?_⟩, hit'.1.at fun o q => (sb.2 it (Ne.symm hne)).trans q, hne, ne2, ne3⟩, fun b hb => ?_⟩
    · have q1 : ((i + 1 : Nat) : Int) = (i : Int) + 1 := by omega
      rw [q1]
      exact he'
    · have hb' : b < s.heap.objs.size := by
        have e' : b = e ∨ b = it := by simpa using hb
        rcases e' with rfl | rfl
        · exact hel
        · exact hil
      rw [upd_ne (Nat.ne_of_lt hb')]
      exact (hf b hb).1
  done := by
    intro X hP hw hK hc i pins s σ H E I hf st hg
    subst hP hw hK
    obtain ⟨⟨old, he⟩, hit, hne, ne2, ne3⟩ := st
    obtain ⟨xs, hq, hx⟩ := hg
    obtain ⟨its, rv, p, hz⟩ := I.tuple hq
    obtain ⟨f0, f1, f2, f3, f4, f5⟩ := hf it (by simp)
    have hl := rv.length
    exact enumT_end (I.ok.hd hc) he hit p (by simp; omega) fun h' eb => ⟨rfl, I.turned (t' := s.toks) (fun b o hb q => eb b o hb q) f0 f1 f3 f4 f5⟩
  self := fun A i s Q E st h => let ⟨⟨_, he⟩, _⟩ := st; wpAny_pyIter_enum he h
def iEnumA (K : PySem.W.Frag) (ta : TA) : TI := fun σ H R => ta σ H fun vs H1 => ∃ a, vs = [.ref a] ∧ ((∃ xs, SqL K H1 a xs ∧ R (Ite K a) H1) ∨ ∃ xs, SqT K H1 a xs ∧ R (IteT K a) H1)
theorem pi_enumA {X : Cx} {e : Expr} {ta : TA} {p pos tpos : Pos} {elts : List Expr} {kk : Nat} (hg : Gl X "enumerate") (hm : X.mg "enumerate" = none) (ha : PA X [e] ta) (hs : starEach [e] X.env = [(false, eval e X.env)] := by rfl) :
    PI X (.Tuple elts kk tpos) (.Call (.Name "enumerate" p) [e] [] pos) (iEnumA X.K ta) := by
  refine ⟨fun pins s σ H R I h => PyProof.Rows.Call_ (ld_blt I hg hm PyProof.Rows.boot_enumerate (PyProof.Rows.callWith_type1 (thn (ha.run pos pins s σ H _ I h) fun us s1 hh => ?_) hs rfl))⟩
  obtain ⟨vs, H1, J, r1, a, rfl, q1⟩ := hh
  cases r1 with
  | cons r rr =>
    cases rr
    cases r
    have fin : ∀ {h' : Heap}, (∀ b o, s1.heap.get? b = some o → h'.get? b = some o) → ∀ b ∈ [s1.heap.objs.size + 1, s1.heap.objs.size], FpOk X pins H1 b := fun {h'} hk b hb => by
      have hle : s1.heap.objs.size ≤ b := by
        rcases List.mem_cons.mp hb with rfl | hb
        · exact Nat.le_add_right _ _
        · rw [List.mem_singleton.mp hb]
          exact Nat.le_refl _
      exact J.fpOk hle (J.hok.fresh hle)
    rcases q1 with ⟨xs, hq, q⟩ | ⟨xs, hq, q⟩
    · obtain ⟨its, rv, p', hz⟩ := J.list hq
      exact call_enumerate_list p'.isList fun h' he hit hsz hk => wpAny_pyIter_enum he ⟨_, _, _, _, H1, rfl, J.kept (t' := s1.toks) hk, turn_enum a (s1.heap.objs.size + 1) s1.heap.objs.size, ⟨⟨.none, he⟩, hit, Nat.succ_ne_self _⟩, fin hk, q⟩
    · obtain ⟨its, rv, p', hz⟩ := J.tuple hq
      have la : a < s1.heap.objs.size := by
        obtain ⟨o, ho, _⟩ := p'
        exact Heap.lt_size ho
      have pt : s1.heap.IsTuple a its.toArray := p'
      exact enum1_begins (begins_tuple a its.toArray) pt fun h' he ho hsz hk => wpAny_pyIter_enum he ⟨_, _, _, _, H1, rfl, J.kept (t' := s1.toks) hk, turn_enumT a (s1.heap.objs.size + 1) s1.heap.objs.size, ⟨⟨.none, he⟩, ⟨_, ho, rfl, rfl⟩, Nat.succ_ne_self _, Nat.ne_of_lt la, Nat.ne_of_lt (Nat.lt_succ_of_lt la)⟩, fin hk, q⟩
section
variable {X : Cx} {T : Ct} {K : PySem.W.Frag} {B : Bx} {F : Hp} {e a b : Expr} {pos p : Pos} {tr : AA} {ta tb : AE}
theorem walks_enumT {l : Addr} {vs : List V} {ds : List D} (h : SqT K F l vs) (z : IsL K F vs ds) : Walks K B (IteT K l) F (enumD ds) := by
  have w : Walk (IteT K l) vs.length (fun H => SqT K H l vs) (YPair (fun i => some (.int (i : Nat))) (fun i => vs[i]?)) :=
    ⟨fun i _ hi q => ⟨vs, vs[i], q, by simp [hi]⟩, fun _ q => ⟨vs, q, Nat.le_refl _⟩, fun i H v H' _ q y => let ⟨T, x, h1, h2, h3, h4⟩ := y; ⟨T, .int (i : Nat), x, h1, h2, h3, rfl, h4 vs q⟩⟩
  rw [z.length, ← enumD_len ds] at w
  refine walks_pair w (fun F' M' H' s h' => same_t h'.sub (same_t s h)) fun i d hd => ?_
  obtain ⟨x, hx, rfl⟩ := enumD_get hd
  refine ⟨_, _, rfl, fun p q hp hq => ?_⟩
  cases hp
  obtain ⟨v, e, iv⟩ := z.get hx
  rw [show vs[i]? = some q from hq] at e
  cases e
  exact ⟨.int _, iv⟩
def aEnumA_k (Φ : List D → Mm → Prop) (ds : List D) (M1 : Mm) : Prop := match ds with
  | [.lst xs] => Φ (enumD xs) M1
  | [.tup xs] => Φ (enumD xs) M1
  | _ => False
def aEnumA (tr : AA) (Γ : Gm) (M : Mm) (Φ : List D → Mm → Prop) : Prop := tr Γ M fun ds M1 => aEnumA_k Φ ds M1
theorem aEnumA_l {Φ : List D → Mm → Prop} {xs : List D} {M : Mm} : aEnumA_k Φ [.lst xs] M = Φ (enumD xs) M := rfl
theorem aEnumA_t {Φ : List D → Mm → Prop} {xs : List D} {M : Mm} : aEnumA_k Φ [.tup xs] M = Φ (enumD xs) M := rfl
theorem di_enumA {tpos : Pos} {elts : List Expr} {kk : Nat} (hg : Gl X "enumerate") (hm : X.mg "enumerate" = none) (ha : DA X T [e] tr) (hs : starEach [e] X.env = [(false, eval e X.env)] := by rfl) :
    DI X T (.Tuple elts kk tpos) (.Call (.Name "enumerate" p) [e] [] pos) (aEnumA tr) :=
  di_of (pi_enumA hg hm ha hs) fun F σ H Γ M Φ R w q z => cA_mk w q fun ds M1 vs F1 H1 s1 h1 i1 q1 => by
    match ds, i1, q1 with
    | [.lst xs], .cons k1 .nil, q1 =>
      cases k1 with
      | lst hq hl => exact ⟨_, rfl, .inl ⟨_, h1.sub.seq hq, z _ M1 _ F1 H1 s1 h1 (walks_enum hq hl) q1⟩⟩
    | [.tup xs], .cons k1 .nil, q1 =>
      cases k1 with
      | tup hq hl => exact ⟨_, rfl, .inr ⟨_, same_t h1.sub hq, z _ M1 _ F1 H1 s1 h1 (walks_enumT hq hl) q1⟩⟩
end
end DL

set_option Elab.async false
set_option linter.all false
set_option maxRecDepth 100000
set_option maxHeartbeats 4000000
/-! DR2: isinstance of two types, sums of lists and tuples, a tuple many times, constants, insert. -/
namespace DL
open PySem L2
section
variable {X : Cx} {T : Ct} {K : PySem.W.Frag} {B : Bx} {F : Hp} {e a b : Expr} {pos p : Pos} {es : List Expr} {tr : AA} {ta tb : AE}
/-! ### isinstance(a, (n1, n2)) -/
def fIsi2 (n1 n2 : String) (d : D) (M : Mm) (Φ : AK) : Prop := match tyD d M with
  | some t => match kitB t n1, kitB t n2 with
    | some b1, some b2 => Φ (.bl (b1 || b2)) M
    | _, _ => False
  | none => False
def aIsi2 (n1 n2 : String) (ta : AE) (Γ : Gm) (M : Mm) (Φ : AK) : Prop := ta Γ M fun d M1 => fIsi2 n1 n2 d M1 Φ
theorem kitAny_two {K : PySem.W.Frag} {t n1 n2 : String} {b1 b2 : Bool} (h1 : kitB t n1 = some b1) (h2 : kitB t n2 = some b2) : PySem.W.kitAny K (.type t) [.type n1, .type n2] = some (b1 || b2) :=
  kitAny_cons (kit_ty h1) (fun e => by
    subst e
    exact kitAny_cons (kit_ty h2) (fun e => by subst e; exact kitAny_nil) fun e => by subst e; rfl) fun e => by subst e; rfl
theorem de_isi2 {x y : Str} {n1 n2 : String} {p1 p2 p3 : Pos} {kk} (hg : Gl X "isinstance") (hm : X.mg "isinstance" = none) (hg2 : Gl X x) (hm2 : X.mg x = none) (hv : bootBuiltins x = some (.type n1)) (hg3 : Gl X y) (hm3 : X.mg y = none) (hv3 : bootBuiltins y = some (.type n2)) (ha : DE X T a ta)
    (hn : x ≠ "__name__" := by decide) (hd : (x == ("__debug__" : Str)) = false := by decide) (hn3 : y ≠ "__name__" := by decide) (hd3 : (y == ("__debug__" : Str)) = false := by decide)
    (hs : starEach [a, .Tuple [.Name x p1, .Name y p2] kk p3] X.env = (false, eval a X.env) :: starEach [.Tuple [.Name x p1, .Name y p2] kk p3] X.env := by rfl)
    (hs2 : starEach [.Tuple [.Name x p1, .Name y p2] kk p3] X.env = (false, eval (.Tuple [.Name x p1, .Name y p2] kk p3) X.env) :: starEach [] X.env := by rfl)
    (hs3 : starEach [.Name x p1, .Name y p2] X.env = (false, eval (.Name x p1) X.env) :: starEach [.Name y p2] X.env := by rfl) (hs4 : starEach [.Name y p2] X.env = (false, eval (.Name y p2) X.env) :: starEach [] X.env := by rfl)
    (hpl : (backTo pos (starEach [.Tuple [.Name x p1, .Name y p2] kk p3] X.env)).any (·.1) = false := by rfl) :
    DE X T (.Call (.Name "isinstance" p) [a, .Tuple [.Name x p1, .Name y p2] kk p3] [] pos) (aIsi2 n1 n2 ta) :=
  de_of (pe_callB call_isiT hg hm PyProof.Rows.boot_isinstance (pa_cons ha (pa_cons (pe_tup (pa_cons (pe_bltn hg2 hm2 hv (v := .ty n1) rfl hn hd) (pa_cons (pe_bltn hg3 hm3 hv3 (v := .ty n2) rfl hn3 hd3) pa_nil hs4) hs3)) pa_nil hs2) hs) (by decide) (by decide) hs hpl) fun F σ H Γ M Φ Q w q z => cE_mk w q fun d M1 v F1 H1 s1 h1 i1 q1 => by
    unfold fIsi2 at q1
    split at q1
    · rename_i t ht
      split at q1
      · rename_i b1 b2 e1 e2
        refine ⟨by rw [sizeLine_eq]; show (2 : Nat) ≤ _; decide, fun tp htp => ?_⟩
        have nf := h1.free htp
        exact ⟨v, tp, [.ty n1, .ty n2], _, [.type n1, .type n2], b1 || b2, rfl, upd_same, .cons (.ty n1) (.cons (.ty n2) .nil), tyX_of ((h1.laid htp).sub) (i1.mono (upd_same_ext nf)) ht, kitAny_two e1 e2, z _ M1 _ _ _ (s1.trans (upd_same_ext nf)) (h1.laid htp) (.bl _) q1⟩
      · exact q1.elim
    · exact q1.elim
/-! ### sums -/
def fCatT (x y : D) (M : Mm) (Φ : AK) : Prop := match x, y with
  | .tup xs, .tup ys => xs.length + ys.length ≤ 100000 ∧ Φ (.tup (xs ++ ys)) M
  | _, _ => False
theorem fCatT_t {xs ys : List D} {M : Mm} {Φ : AK} : fCatT (.tup xs) (.tup ys) M Φ = (xs.length + ys.length ≤ 100000 ∧ Φ (.tup (xs ++ ys)) M) := rfl
theorem ab_catT : Ab2 K B (rCatA K) fCatT := fun F H x y d g M Φ Q h i1 i2 q z => by
  unfold fCatT at q
  split at q
  · rename_i xs ys
    obtain ⟨hl, q⟩ := q
    cases i1 with
    | @tup a vs _ hq il =>
      cases i2 with
      | @tup b ws _ hq2 il2 =>
        refine ⟨a, b, vs, ws, rfl, rfl, same_t h.sub hq, same_t h.sub hq2, by rw [il.length, il2.length]; exact line_of hl, fun e => ?_, fun _ e => ?_, fun _ _ p hp => ?_⟩
        · subst e
          cases il
          exact z _ M _ F H (Same.refl F) h (.tup hq2 il2) q
        · subst e
          cases il2
          rw [List.append_nil] at q
          exact z _ M _ F H (Same.refl F) h (.tup hq il) q
        · have nf := h.free hp
          exact z _ M _ _ _ (upd_same_ext nf) (h.laid hp) (.tup (.inl (.inl upd_same)) ((il.append il2).mono (upd_same_ext nf))) q
  · exact q.elim
theorem de_catT (ha : DE X T a ta) (hb : DE X T b tb) : DE X T (.BinOp a .Add b pos) (aOp fCatT ta tb) := de_op op_catA ab_catT ha hb
def rCatS (K : PySem.W.Frag) : R2 := fun x y H Q => ∃ l b xs zs, x = .ref l ∧ y = .ref b ∧ SqL K H l xs ∧ SqL K H b zs ∧ xs.length + zs.length ≤ sizeLine ∧ ∀ p, H p = none → Q (.ref p) (upd H p (.lst (xs ++ zs)))
theorem op_catS : OpR X (binaryOp .Add) (rCatS X.K) := by
  intro pins s σ H x y v u Q I rx ry h
  obtain ⟨l, b, xs, zs, rfl, rfl, hH, hB, hz, q⟩ := h
  cases rx
  cases ry
  obtain ⟨its, r, p1, _⟩ := I.list hH
  obtain ⟨its2, r2, p2, _⟩ := I.list hB
  obtain ⟨⟨cls, dd, data, sl⟩, ho, hc, n, hd⟩ := p1.isList
  obtain ⟨⟨cls2, dd2, data2, sl2⟩, ho2, hc2, n2, hd2⟩ := p2.isList
  simp only at hc hd hc2 hd2
  subst hc hd hc2 hd2
  have eq : its.toArray ++ its2.toArray = (its ++ its2).toArray := by simp
  have l1 := r.length
  have l2 := r2.length
  refine PySem.concat_meets ⟨_, ho, rfl⟩ ⟨_, ho2, rfl⟩ PySem.noFill_list_add PySem.seq_list_add PySem.F.slot_list_add PySem.F.entry_list_add (PySem.F.args_list_add_2 _ _) (PyProof.Rows.list_addW l b its.toArray its2.toArray n n2 dd dd2 sl sl2 (by rw [List.size_toArray, List.size_toArray]; omega)) ⟨ho, ho2, ?_⟩
  rw [eq]
  exact ⟨.ref _, _, I.lnew (t' := s.toks) (r.append r2) (by rw [List.length_append]; omega), rfl, q _ I.fresh⟩
/-- what may be walked as a list: as it is, or one that may change -/
def lsOf (d : D) (M : Mm) (k : List D → Prop) : Prop := match d with
  | .lst xs => k xs
  | .ref l => ∃ xs, (l, MO.lst xs) ∈ M ∧ k xs
  | _ => False
theorem lsOf_l {xs : List D} {M : Mm} {k : List D → Prop} : lsOf (.lst xs) M k = k xs := rfl
theorem lsOf_r {l : Addr} {M : Mm} {k : List D → Prop} : lsOf (.ref l) M k = ∃ xs, (l, MO.lst xs) ∈ M ∧ k xs := rfl
theorem ls_at {d : D} {H : Hp} {M : Mm} {k : List D → Prop} {x : V} (h : Hs K B M F H) (i : Is K F x d) (q : lsOf d M k) : ∃ l vs xs, x = .ref l ∧ SqL K H l vs ∧ IsL K F vs xs ∧ k xs := by
  unfold lsOf at q
  split at q
  · cases i with
    | lst hq hl => exact ⟨_, _, _, rfl, h.sub.seq hq, hl, q⟩
  · obtain ⟨xs, hm, q⟩ := q
    cases i
    obtain ⟨vs, e, zz⟩ := h.lst hm
    exact ⟨_, _, _, rfl, .inl (.inl e), zz, q⟩
  · exact q.elim
def fCatL (x y : D) (M : Mm) (Φ : AK) : Prop := lsOf x M fun xs => lsOf y M fun ys => xs.length + ys.length ≤ 100000 ∧ Φ (.lst (xs ++ ys)) M
def fCatM (x y : D) (M : Mm) (Φ : AK) : Prop := lsOf x M fun xs => lsOf y M fun ys => xs.length + ys.length ≤ 100000 ∧ ∀ p, Φ (.ref p) ((p, .lst (xs ++ ys)) :: M)
theorem ab_catL : Ab2 K B (rCatS K) fCatL := fun F H x y d g M Φ Q h i1 i2 q z => by
  obtain ⟨l, vs, xs, rfl, hq, il, q⟩ := ls_at h i1 q
  obtain ⟨l2, ws, ys, rfl, hq2, il2, hl, q⟩ := ls_at h i2 q
  exact ⟨l, l2, vs, ws, rfl, rfl, hq, hq2, by rw [il.length, il2.length]; exact line_of hl, fun p hp => z _ M _ _ _ (upd_same_ext (h.free hp)) (h.laid hp) (.lst (.inl (.inl upd_same)) ((il.append il2).mono (upd_same_ext (h.free hp)))) q⟩
theorem ab_catM : Ab2 K B (rCatS K) fCatM := fun F H x y d g M Φ Q h i1 i2 q z => by
  obtain ⟨l, vs, xs, rfl, hq, il, q⟩ := ls_at h i1 q
  obtain ⟨l2, ws, ys, rfl, hq2, il2, hl, q⟩ := ls_at h i2 q
  exact ⟨l, l2, vs, ws, rfl, rfl, hq, hq2, by rw [il.length, il2.length]; exact line_of hl, fun p hp => z (.ref p) _ _ _ _ (Same.refl F) (h.newM (o := .lst (xs ++ ys)) hp ⟨_, upd_same, il.append il2⟩) (.ref p) (q p)⟩
theorem de_catL (ha : DE X T a ta) (hb : DE X T b tb) : DE X T (.BinOp a .Add b pos) (aOp fCatL ta tb) := de_op op_catS ab_catL ha hb
theorem de_catM (ha : DE X T a ta) (hb : DE X T b tb) : DE X T (.BinOp a .Add b pos) (aOp fCatM ta tb) := de_op op_catS ab_catM ha hb
/-! ### a tuple many times -/
def fRepT (x y : D) (M : Mm) (Φ : AK) : Prop := match x, y with
  | .tup xs, .int k => (xs ≠ [] ∧ 2 ≤ k ∧ k ≤ 1000 ∧ xs.length ≤ 1000) ∧ Φ (.tup (List.replicate k.toNat xs).flatten) M
  | _, _ => False
theorem fRepT_t {xs : List D} {k : Int} {M : Mm} {Φ : AK} : fRepT (.tup xs) (.int k) M Φ = ((xs ≠ [] ∧ 2 ≤ k ∧ k ≤ 1000 ∧ xs.length ≤ 1000) ∧ Φ (.tup (List.replicate k.toNat xs).flatten) M) := rfl
theorem IsL.rep {vs : List V} {ds : List D} (h : IsL K F vs ds) : ∀ n : Nat, IsL K F (List.replicate n vs).flatten (List.replicate n ds).flatten
  | 0 => .nil
  | n + 1 => by
    rw [List.replicate_succ, List.replicate_succ, List.flatten_cons, List.flatten_cons]
    exact h.append (IsL.rep h n)
theorem ab_repT : Ab2 K B (rRepT K) fRepT := fun F H x y d g M Φ Q h i1 i2 q z => by
  unfold fRepT at q
  split at q
  · rename_i xs k
    obtain ⟨⟨c1, c2, c3, c4⟩, q⟩ := q
    cases i2
    cases i1 with
    | @tup a vs _ hq il =>
      exact ⟨a, k, vs, rfl, rfl, same_t h.sub hq, fun e => c1 (by subst e; cases il; rfl), c2, c3, by rw [il.length]; exact c4, fun p hp => z _ M _ _ _ (upd_same_ext (h.free hp)) (h.laid hp) (.tup (.inl (.inl upd_same)) ((il.rep k.toNat).mono (upd_same_ext (h.free hp)))) q⟩
  · exact q.elim
theorem de_repT (ha : DE X T a ta) (hb : DE X T b tb) : DE X T (.BinOp a .Mult b pos) (aOp fRepT ta tb) := de_op op_repT ab_repT ha hb
/-! ### a module's constant -/
theorem de_const {x : Str} {v : V} {u : Value} {d : D} (hg : Gl X x) (hm : X.mg x = some u) (r : RelV v u) (i : ∀ F, Is X.K F v d) (hd : (x == ("__debug__" : Str)) = false := by decide) : DE X T (.Name x pos) (aC d) := de_c (pe_glob hg hm r hd) i
end
end DL

set_option Elab.async false
set_option linter.all false
set_option maxRecDepth 100000
set_option maxHeartbeats 4000000
/-! DR3: t[::-1] of a tuple. -/
namespace DL
open PySem L2
section
open PySem.W PySem.Calls PyProof.Rows
variable {prog : Program} {w : World} {A : Around} {E : Value → Shared → Prop} {s : Shared}
theorem applied_rev {sl : Addr} {vs : Value} {n : Nat} {Q : Int × Int × Nat → Shared → Prop} (hs : s.heap.IsSliceOf sl .none .none vs) (ps : IsPart vs (some (-1))) (h : Q ((n : Int) - 1, -1, n) s) : wpAny (model prog w) A (Builtin.Slice.sliceApplied (.ref sl) (pure (n : Int))) Q E s := by
  obtain ⟨os, hos, hcs, hds⟩ := id hs
  unfold Builtin.Slice.sliceApplied Builtin.Slice.sliceFields
  refine wpAny_bind (wpAny_bind (wpAny_field hos hds (x := .none) rfl (wpAny_bind (wpAny_field hos hds (x := .none) rfl (wpAny_bind (wpAny_field hos hds (x := vs) rfl (wpAny_pure ?_)))))))
  refine wpAny_bind (HT.slicePart_ ps ?_)
  show wpAny _ _ (if ((-1 : Int) == 0) = true then _ else _) _ _ s
  rw [if_neg (by decide)]
  refine wpAny_bind (HT.slicePart_ .none (wpAny_bind (HT.slicePart_ .none (wpAny_bind (wpAny_pure ?_)))))
  show wpAny _ _ (pure ((n : Int) - 1, (-1 : Int), Builtin.Slice.slicePlaces ((n : Int) - 1) (-1) (-1))) _ _ s
  have e : Builtin.Slice.slicePlaces ((n : Int) - 1) (-1) (-1) = n := by
    unfold Builtin.Slice.slicePlaces
    rw [if_neg (by decide)]
    by_cases z : (n : Int) - 1 > -1
    · rw [if_pos z, show (- -1 : Int) = 1 by decide, Int.ediv_one]
      omega
    · rw [if_neg z]
      omega
  rw [e]
  exact wpAny_pure h
theorem fm_congr {α β : Type} {f g : α → Option β} : ∀ {l : List α}, (∀ x ∈ l, f x = g x) → l.filterMap f = l.filterMap g
  | [], _ => rfl
  | x :: l, h => by rw [List.filterMap_cons, List.filterMap_cons, h x List.mem_cons_self, fm_congr fun y hy => h y (List.mem_cons_of_mem _ hy)]
theorem pick_rev (xs : Array Value) : ((List.range xs.size).filterMap fun (m : Nat) => xs[(((xs.size : Int) - 1) + (m : Int) * (-1)).toNat]?).toArray = xs.toList.reverse.toArray := by
  have e : ∀ m ∈ List.range xs.size, xs[(((xs.size : Int) - 1) + (m : Int) * (-1)).toNat]? = (fun k : Nat => xs[k]?) (xs.size - 1 - m) := fun m hm => by
    have := List.mem_range.mp hm
    show xs[_]? = xs[_]?
    congr 1
    omega
  rw [fm_congr e]
  have e2 : (List.range xs.size).filterMap (fun m => (fun k : Nat => xs[k]?) (xs.size - 1 - m)) = ((List.range xs.size).map fun k => xs.size - 1 - k).filterMap (fun k : Nat => xs[k]?) := by rw [List.filterMap_map]; rfl
  rw [e2, krv_range, List.filterMap_reverse, krv_all]
theorem getItem_tuple_rev {t sl : Addr} {items : Array Value} {vs : Value} {Q : Value → Shared → Prop} (ht : IsTup s.heap t items) (hs : s.heap.IsSliceOf sl .none .none vs) (ps : IsPart vs (some (-1)))
    (h : Q (.ref s.heap.objs.size) { s with heap := s.heap.push { cls := .type "tuple", data := .seq items.toList.reverse.toArray } }) (hsz : items.size ≤ sizeLine) : wpAny (model prog w) A (getItem (.ref t) (.ref sl)) Q E s := by
  have htake : sizeOk (.seq items.toList.reverse.toArray) := by
    show items.toList.reverse.toArray.size ≤ sizeLine
    rw [List.size_toArray, List.length_reverse, Array.length_toList]
    exact hsz
  obtain ⟨os, hos, hcs, hds⟩ := id hs
  have hTs : s.TypeIs (.ref sl) "slice" := ⟨os, hos, hcs⟩
  unfold getItem
  try with_reducible refine wpAny_holding ?_
  first | refine wpAny_bind (wpAny_pure ?_) | skip
  refine wpAny_bind (wpAny_sequenceKey ht.typeIs (by decide) ?_)
  refine wpAny_bind (wpAny_callSpecial?_slot (name := Str.ofString "__getitem__") ht.typeIs PyProof.Rows.slot_tuple_getitem (wpAny_call_entry PyProof.Rows.slot_tuple_getitem ht.typeIs entry_tuple_getitem ?_ (args_tuple_getitem _ _)))
  show wpAny _ _ (Builtin.Tuple.tupleItemsOf (.ref t) >>= _) _ _ s
  refine wpAny_bind (tupleItemsOf_ ht (wpAny_bind (wpAny_typeOf hTs ?_)))
  rw [if_pos (by decide)]
  refine wpAny_bind (applied_rev hs ps ?_)
  have hno : ¬ ((((items.size : Int) - 1) == 0 && (-1 : Int) == 1 && items.size == items.size) = true) := by
    rw [show ((-1 : Int) == 1) = false from rfl, Bool.and_false, Bool.false_and]
    exact Bool.false_ne_true
  show wpAny _ _ (if (((items.size : Int) - 1) == 0 && (-1 : Int) == 1 && items.size == items.size) = true then _ else _) _ _ s
  rw [if_neg hno, pick_rev]
  first
    | exact wpAny_bind (m := Builtin.Tuple.tupleExact _) (wpAny_newObj_type (wpAny_pure ⟨_, rfl, wpAny_pure h⟩) htake)
    | exact wpAny_bind (m := Builtin.Tuple.tupleExact _) (wpAny_newObj_type (wpAny_bind (wpAny_pure (wpAny_pure ⟨_, rfl, wpAny_pure h⟩))) htake)
    | exact wpAny_bind (wpAny_bind (m := Builtin.Tuple.tupleExact _) (wpAny_newObj_type (wpAny_pure (wpAny_pure ⟨_, rfl, wpAny_pure h⟩)) htake))
    | exact wpAny_bind (wpAny_bind (m := Builtin.Tuple.tupleExact _) (wpAny_newObj_type (wpAny_pure ⟨_, rfl, wpAny_pure h⟩) htake))
end
section
variable {X : Cx} {T : Ct} {a : Expr} {pos : Pos} {ta : AE}
def tRevA (K : PySem.W.Frag) (te : TE) : TE := fun σ H Q => te σ H fun x H1 => ∃ a xs, x = .ref a ∧ SqT K H1 a xs ∧ ∀ p, H1 p = none → Q (.ref p) (upd H1 p (.tup xs.reverse))
theorem pe_revT {e : Expr} {te : TE} {k : Nat} {p1 p2 p3 pos : Pos} (he : PE X e te) : PE X (.Subscript e (.Slice none none (some (.UnaryOp .USub (.Constant (.int 1) k p1) p2)) p3) pos) (tRevA X.K te) := by
  refine ⟨fun pins s σ H Q I h => PyProof.Rows.Subscript_ (thn (he.run pins s σ H _ I h) fun v s1 hh => ?_)⟩
  obtain ⟨x, H1, I1, r1, a, xs, rfl, hx, q⟩ := hh
  cases r1
  have hst : PO X (some (.UnaryOp .USub (.Constant (.int 1) k p1) p2)) (tPart (tUn (rU fun i => .int (-i)) (tC (.int 1)))) := po_some (pe_un un_neg pe_int)
  refine wpAny_Slice (thn (po_none.run pins s1 σ H1 (fun o H2 => o = none ∧ H2 = H1) I1 ⟨rfl, rfl⟩) fun vl s2 ⟨l, H2, I2, pl, el, e2⟩ => ?_)
  subst el e2
  refine thn (po_none.run pins s2 σ H2 (fun o H3 => o = none ∧ H3 = H2) I2 ⟨rfl, rfl⟩) fun vu s3 ⟨u, H3, I3, pu, eu, e3⟩ => ?_
  subst eu e3
  refine thn (hst.run pins s3 σ H3 (fun o H4 => o = some (-1) ∧ H4 = H3) I3 ⟨1, rfl, -1, rfl, rfl, rfl⟩) fun vs s4 ⟨o, H4, I4, ps, eo, e4⟩ => ?_
  subst eo e4
  cases pl
  cases pu
  have J : Inv X pins σ H4 { s4 with heap := s4.heap.push { cls := .type "slice", data := .fields #[.none, .none, vs] } } := I4.kept (t' := s4.toks) fun b ob q => Heap.get?_push_of_some _ q
  obtain ⟨its, r, ht, hz⟩ := J.tuple hx
  have hlen := r.length
  show wpAny (model X.prog X.w) X.A (PyProof.Rows.subscriptTail e (.Slice none none (some (.UnaryOp .USub (.Constant (.int 1) k p1) p2)) p3) (.ref a) (.ref s4.heap.objs.size)) (EP X pins σ Q) X.xe { s4 with heap := s4.heap.push { cls := .type "slice", data := .fields #[.none, .none, vs] } }
  refine PyProof.Rows.tail_any (ops := [.ref a, .ref s4.heap.objs.size]) ht.typeIs (PyProof.Rows.slot_tuple_getitem.lookup) ?_ (by with_unfolding_all rfl)
  refine getItem_tuple_rev ht (Heap.IsSliceOf.new _ .none .none vs) ps ?_ (by rw [List.size_toArray]; omega)
  refine ⟨.ref _, _, J.laid (t' := s4.toks) (o := .tup xs.reverse) (fun b ob q => Heap.get?_push_of_some _ q) (Nat.le_refl _) ?_, rfl, q _ (J.hok.fresh (Nat.le_refl _))⟩
  exact ⟨by rw [List.length_reverse]; exact hz, _, r.reverse, PyProof.Rows.IsTup.new _ _⟩
def aRevT_k (Φ : AK) (d : D) (M : Mm) : Prop := match d with
  | .tup xs => Φ (.tup xs.reverse) M
  | _ => False
def aRevT (ta : AE) (Γ : Gm) (M : Mm) (Φ : AK) : Prop := ta Γ M fun d M1 => aRevT_k Φ d M1
theorem aRevT_t {Φ : AK} {xs : List D} {M : Mm} : aRevT_k Φ (.tup xs) M = Φ (.tup xs.reverse) M := rfl
theorem de_revT {k : Nat} {p1 p2 p3 : Pos} (ha : DE X T a ta) : DE X T (.Subscript a (.Slice none none (some (.UnaryOp .USub (.Constant (.int 1) k p1) p2)) p3) pos) (aRevT ta) :=
  de_of (pe_revT ha) fun F σ H Γ M Φ Q w q z => cE_mk w q fun d M1 x F1 H1 s1 h1 i1 q1 => by
    unfold aRevT_k at q1
    split at q1
    · cases i1 with
      | @tup l vs xs hq hl => exact ⟨l, vs, rfl, same_t h1.sub hq, fun p hp => z _ M1 _ _ _ (s1.trans (upd_same_ext (h1.free hp))) (h1.laid hp) (.tup (.inl (.inl upd_same)) (hl.reverse.mono (upd_same_ext (h1.free hp)))) q1⟩
    · exact q1.elim
end
end DL

set_option Elab.async false
set_option linter.all false
set_option maxRecDepth 100000
set_option maxHeartbeats 4000000
/-! DR4: l.insert(i, y). -/
namespace DL
open PySem L2
section
variable {X : Cx} {T : Ct} {a b c : Expr} {pos p2 : Pos} {ta tb tc : AE}
def aIns_k (tb tc : AE) (Γ : Gm) (Φ : AK) (d : D) (M1 : Mm) : Prop := match d with
  | .ref l => (∃ xs, (l, MO.lst xs) ∈ M1) ∧ tb Γ M1 fun e M2 => tc Γ M2 fun y M3 => match e with
    | .int i => ∃ xs M4, Up M3 l (.lst xs) (.lst (xs.take i.toNat ++ [y] ++ xs.drop i.toNat)) M4 ∧ xs.length < 100000 ∧ (0 ≤ i ∧ i < 9223372036854775808) ∧ Φ .non M4
    | _ => False
  | _ => False
def aIns (ta tb tc : AE) (Γ : Gm) (M : Mm) (Φ : AK) : Prop := ta Γ M fun d M1 => aIns_k tb tc Γ Φ d M1
theorem aIns_r {Γ : Gm} {Φ : AK} {l : Addr} {M1 : Mm} : aIns_k tb tc Γ Φ (.ref l) M1 = ((∃ xs, (l, MO.lst xs) ∈ M1) ∧ tb Γ M1 fun e M2 => tc Γ M2 fun y M3 => match e with
    | .int i => ∃ xs M4, Up M3 l (.lst xs) (.lst (xs.take i.toNat ++ [y] ++ xs.drop i.toNat)) M4 ∧ xs.length < 100000 ∧ (0 ≤ i ∧ i < 9223372036854775808) ∧ Φ .non M4
    | _ => False) := rfl
theorem de_ins (ha : DE X T a ta) (hb : DE X T b tb) (hc : DE X T c tc) (hst : starEach [b, c] X.env = (false, eval b X.env) :: starEach [c] X.env := by rfl) (hst2 : starEach [c] X.env = (false, eval c X.env) :: starEach [] X.env := by rfl)
    (hbase : attributeBase a "insert" X.env (eval a X.env) = eval a X.env := by rfl)
    (hfew : ((backTo pos (starEach [b, c] X.env)).all (fun x => !x.1) && (backToKw pos (keywordEach [] X.env)).all (fun x => x.1.isSome) && decide ([b, c].length + ([] : List Keyword).length + (if ([] : List Keyword).isEmpty then 0 else 1) < 30)) = true := by rfl)
    (hline : (p2.endLine == pos.line) = true := by rfl) (hplain : (backTo pos (starEach [c] X.env)).any (·.1) = false := by rfl) : DE X T (.Call (.Attribute a "insert" p2) [b, c] [] pos) (aIns ta tb tc) :=
  de_of (pe_bm PySem.F.plainAttrs_list PySem.F.slot_list_insert PySem.F.type_list_insert mt_insert ha (pa_cons hb (pa_cons hc pa_nil hst2) hst) hbase hfew hline hst hplain) fun F σ H Γ M Φ Q w q z => cE_mk w q fun d M1 x F1 H1 s1 h1 i1 q1 => by
    unfold aIns_k at q1
    split at q1
    · rename_i l
      obtain ⟨⟨xs0, hm⟩, q1⟩ := q1
      cases i1
      obtain ⟨vs0, e0, _⟩ := h1.lst hm
      refine ⟨tyV_lst e0, cE_mk (w.go s1 h1) q1 fun e M2 y F2 H2 s2 h2 i2 q2 => cE_mk ((w.go s1 h1).go s2 h2) q2 fun g M3 u F3 H3 s3 h3 i3 q3 => ?_⟩
      split at q3
      · rename_i i
        obtain ⟨xs, M4, up, hl, ⟨k0, k1⟩, q3⟩ := q3
        cases i2
        obtain ⟨vs, e1, zz⟩ := h3.lst up.mem
        exact ⟨l, vs, i, u, rfl, rfl, e1, by rw [zz.length]; exact line_lt hl, k0, k1, z _ M4 _ F3 _ ((s1.trans s2).trans s3) (h3.put up ⟨_, upd_same, ((zz.take i.toNat).append (.cons i3 .nil)).append (zz.drop i.toNat)⟩) .non q3⟩
      · exact q3.elim
    · exact q1.elim
end
end DL

set_option Elab.async false
set_option linter.all false
set_option maxRecDepth 100000
/-! DX5: what a class statement holds. -/
namespace DL
open PySem L2
/-- the statement at j in a class's body -/
def clsAt (st : Stmt) (j : Nat) : Stmt := match st with
  | .ClassDef (body := b) .. => b.getD j (.Pass ⟨0, 0, 0, 0⟩)
  | _ => .Pass ⟨0, 0, 0, 0⟩
theorem XCls.xf {K : PySem.W.Frag} {P : Program} {C f : Addr} (Y : XCls K P C f) : XfC K C ∧ PySem.W.findIn K (.ref C) "at" = some none := ⟨⟨Y.ga, Y.gg, Y.oex.exC, Y.hd⟩, Y.at_⟩
/-- caught, not caught -/
theorem catch_yes {K : PySem.W.Frag} {C : Addr} {c : Value} {A : Prop} {B : Prop} (h : PySem.W.exmOne K (.ref C) c = some true) (a : A) : ∃ b, PySem.W.exmOne K (.ref C) c = some b ∧ (b = true → A) ∧ (b = false → B) := ⟨true, h, fun _ => a, fun z => Bool.noConfusion z⟩
theorem catch_no {K : PySem.W.Frag} {C : Addr} {c : Value} {A : Prop} {B : Prop} (h : PySem.W.exmOne K (.ref C) c = some false) (a : B) : ∃ b, PySem.W.exmOne K (.ref C) c = some b ∧ (b = true → A) ∧ (b = false → B) := ⟨false, h, fun z => Bool.noConfusion z, fun _ => a⟩
end DL
namespace DL
open PySem L2
theorem fIsi2_of {n1 n2 t : String} {d : D} {M : Mm} {Φ : AK} {b1 b2 : Bool} (ht : tyD d M = some t) (h1 : kitB t n1 = some b1) (h2 : kitB t n2 = some b2) : fIsi2 n1 n2 d M Φ = Φ (.bl (b1 || b2)) M := by
  unfold fIsi2
  rw [ht]
  show (match kitB t n1, kitB t n2 with
    | some b1, some b2 => Φ (.bl (b1 || b2)) M
    | _, _ => False) = _
  rw [h1, h2]
section
variable {M : Mm} {Φ : AK}
theorem isi2_n : fIsi2 "list" "tuple" .non M Φ = Φ (.bl false) M := fIsi2_of rfl (b1 := false) (b2 := false) (by decide +kernel) (by decide +kernel)
theorem isi2_b {b : Bool} : fIsi2 "list" "tuple" (.bl b) M Φ = Φ (.bl false) M := fIsi2_of rfl (b1 := false) (b2 := false) (by decide +kernel) (by decide +kernel)
theorem isi2_i {i : Int} : fIsi2 "list" "tuple" (.int i) M Φ = Φ (.bl false) M := fIsi2_of rfl (b1 := false) (b2 := false) (by decide +kernel) (by decide +kernel)
theorem isi2_s {x : Str} : fIsi2 "list" "tuple" (.str x) M Φ = Φ (.bl false) M := fIsi2_of rfl (b1 := false) (b2 := false) (by decide +kernel) (by decide +kernel)
theorem isi2_t {xs : List D} : fIsi2 "list" "tuple" (.tup xs) M Φ = Φ (.bl true) M := fIsi2_of rfl (b1 := false) (b2 := true) (by decide +kernel) (by decide +kernel)
theorem isi2_l {xs : List D} : fIsi2 "list" "tuple" (.lst xs) M Φ = Φ (.bl true) M := fIsi2_of rfl (b1 := true) (b2 := false) (by decide +kernel) (by decide +kernel)
end
end DL
namespace DL
open PySem L2
/-- for i, x in enumerate(xs) -/
theorem aFor_enum {ai : AI} {g : AG} {tb : AS} {A : AEnds} {Γ : Gm} {M : Mm} (xs : List D) (I : Nat → Gm → Mm → Prop) (hai : ∀ Φ' : List D → Mm → Prop, Φ' (enumD xs) M → ai Γ M Φ') (h0 : I 0 Γ M)
    (hs : ∀ i x Γ' M', xs[i]? = some x → I i Γ' M' → ∃ Γ2, g (.tup [.int (i : Nat), x]) Γ' = some Γ2 ∧ tb { nx := I (i + 1), rt := A.rt, bk := A.nx, ct := I (i + 1) } Γ2 M')
    (hd : ∀ Γ' M', I xs.length Γ' M' → A.nx Γ' M') : aFor ai g tb A Γ M := by
  unfold aFor
  refine hai _ ⟨I, h0, fun i d Γ' M' hdd hi => ?_, fun Γ' M' hi => hd Γ' M' (by rw [enumD_len] at hi; exact hi)⟩
  obtain ⟨x, hx, rfl⟩ := enumD_get hdd
  obtain ⟨Γ2, e, q⟩ := hs i x Γ' M' hx hi
  rw [e]
  exact q
end DL
namespace DL
open PySem L2
/-- [e for x in xs] where e's values are only known to be v y with R y -/
theorem aLc_any {ai : AI} {g : AG} {te : AE} {vs : List Nat} {Γ : Gm} {M : Mm} {Φ : AK} {α β : Type} (xs : List α) (emb : α → D) (R : β → Prop) (v : β → D) (hai : ∀ Φ' : List D → Mm → Prop, Φ' (xs.map emb) M → ai Γ M Φ') (hlen : xs.length ≤ 100000)
    (h : ∀ x ∈ xs, ∀ M', ∃ Γ2, g (emb x) (wipeG Γ vs) = some Γ2 ∧ (∀ Φ' : AK, (∀ y, R y → Φ' (v y) M') → te Γ2 M' Φ'))
    (k : ∀ ys : List β, ys.length = xs.length → (∀ y ∈ ys, R y) → Φ (.lst (ys.map v)) M) : aLc ai g aYes te vs Γ M Φ := by
  unfold aLc
  refine hai _ ⟨by rw [List.length_map]; exact hlen, fun i acc M' => ∃ ys : List β, acc = ys.map v ∧ ys.length = i ∧ (∀ y ∈ ys, R y) ∧ M' = M, ⟨[], rfl, rfl, fun y hy => absurd hy List.not_mem_nil, rfl⟩, ?_, ?_⟩
  · rintro i d acc M' l hd ⟨ys, rfl, hy1, hy2, rfl⟩
    rw [List.getElem?_map] at hd
    cases hx : xs[i]? with
    | none =>
      rw [hx] at hd
      cases hd
    | some x =>
      rw [hx] at hd
      cases hd
      obtain ⟨Γ2, e, h1⟩ := h x (List.mem_of_getElem? hx) ((l, .lst (ys.map v)) :: M')
      rw [e]
      refine ⟨fun _ => h1 _ fun y hy => ⟨M', .here, ys ++ [y], by rw [List.map_append]; rfl, by rw [List.length_append, hy1]; rfl, fun z hz => ?_, rfl⟩, fun z => Bool.noConfusion z⟩
      rcases List.mem_append.mp hz with hz | hz
      · exact hy2 z hz
      · rw [List.mem_singleton.mp hz]
        exact hy
  · rintro acc M' ⟨ys, rfl, hy1, hy2, rfl⟩ _
    rw [List.length_map] at hy1
    exact k ys hy1 hy2
end DL
namespace DL
open PySem L2
/-- the same where what is walked is only known to keep P -/
theorem aLc_anyP {ai : AI} {g : AG} {te : AE} {vs : List Nat} {Γ : Gm} {M : Mm} {Φ : AK} {α β : Type} (P : List α → Prop) (emb : α → D) (R : β → Prop) (v : β → D) (hai : ∀ Φ' : List D → Mm → Prop, (∀ xs, P xs → Φ' (xs.map emb) M) → ai Γ M Φ') (hlen : ∀ xs, P xs → xs.length ≤ 100000)
    (h : ∀ xs x, P xs → x ∈ xs → ∀ M', ∃ Γ2, g (emb x) (wipeG Γ vs) = some Γ2 ∧ (∀ Φ' : AK, (∀ y, R y → Φ' (v y) M') → te Γ2 M' Φ'))
    (k : ∀ xs, P xs → ∀ ys : List β, ys.length = xs.length → (∀ y ∈ ys, R y) → Φ (.lst (ys.map v)) M) : aLc ai g aYes te vs Γ M Φ :=
  hai _ fun xs hP => aLc_any (ai := fun _ M Φ' => Φ' (xs.map emb) M) xs emb R v (fun _ q => q) (hlen xs hP) (fun x hx => h xs x hP hx) (k xs hP)
end DL
namespace DL
open PySem L2
/-- for x in range(..) where how far is only known to keep P -/
theorem aFor_rngP {ai : AI} {g : AG} {tb : AS} {A : AEnds} {Γ : Gm} {M : Mm} (P : Nat → Prop) (lo : Int) (I : Nat → Nat → Gm → Mm → Prop) (hai : ∀ Φ' : List D → Mm → Prop, (∀ n, P n → Φ' (rngD lo n) M) → ai Γ M Φ') (h0 : ∀ n, P n → I n 0 Γ M)
    (hs : ∀ (n i : Nat) Γ' M', P n → i < n → I n i Γ' M' → ∃ Γ2, g (.int (lo + (i : Nat))) Γ' = some Γ2 ∧ tb { nx := I n (i + 1), rt := A.rt, bk := A.nx, ct := I n (i + 1) } Γ2 M')
    (hd : ∀ n Γ' M', P n → I n n Γ' M' → A.nx Γ' M') : aFor ai g tb A Γ M :=
  hai _ fun n hn => aFor_rng (ai := fun _ M Φ' => Φ' (rngD lo n) M) lo n (I n) (fun _ q => q) (h0 n hn) (fun i Γ' M' => hs n i Γ' M' hn) (fun Γ' M' => hd n Γ' M' hn)
/-- for x in xs where xs is only known to keep P -/
theorem aFor_mapP {ai : AI} {g : AG} {tb : AS} {A : AEnds} {Γ : Gm} {M : Mm} {α : Type} (P : List α → Prop) (emb : α → D) (I : List α → Nat → Gm → Mm → Prop) (hai : ∀ Φ' : List D → Mm → Prop, (∀ xs, P xs → Φ' (xs.map emb) M) → ai Γ M Φ') (h0 : ∀ xs, P xs → I xs 0 Γ M)
    (hs : ∀ xs i x Γ' M', P xs → xs[i]? = some x → I xs i Γ' M' → ∃ Γ2, g (emb x) Γ' = some Γ2 ∧ tb { nx := I xs (i + 1), rt := A.rt, bk := A.nx, ct := I xs (i + 1) } Γ2 M')
    (hd : ∀ xs Γ' M', P xs → I xs xs.length Γ' M' → A.nx Γ' M') : aFor ai g tb A Γ M :=
  hai _ fun xs hP => aFor_map (ai := fun _ M Φ' => Φ' (xs.map emb) M) xs emb (I xs) (fun _ q => q) (h0 xs hP) (fun i x Γ' M' => hs xs i x Γ' M' hP) (fun Γ' M' => hd xs Γ' M' hP)
end DL

set_option Elab.async false
set_option linter.all false
set_option maxRecDepth 100000
set_option maxHeartbeats 2000000
/-! DH1: defs called within an except suite. -/
namespace DL
open PySem L2
open PyProof.Rows (envOfC)
open L2H (FnH RoomH Hot1 HotC PinOk cxH fn_ofH pe_callH roomH_of)
section
variable {P : Program} {w : World} {K : PySem.W.Frag} {mg : Str → Option Value} {base : Heap} {B : Bx}
theorem FnH_mono {CX : CXT} {j k : Nat} {f : Addr} {fd : FuncData} {ps : List Str} {sp : Sp} (F : FnH P w K mg base CX j f fd ps sp) (h : j ≤ k) : FnH P w K mg base CX k f fd ps sp :=
  ⟨F.len, fun A outer s H args us vs Q E p hr => F.run A outer s H args us vs Q E p (hr.mono h)⟩
abbrev cxDH (P : Program) (w : World) (K : PySem.W.Frag) (mg : Str → Option Value) (base : Heap) (N : List Str) (qual : Str) (sc : Scope) (f : Addr) (cdv : Value) (A : Around) (outer : List Env) (s : Shared) (H : Hp) (E : XK) (p : Addr × Obj) : Cx := cxH (L2N.CX P w) P w K mg base N qual sc f cdv A outer s H E p
theorem dfnH {x qual : Str} {st : Stmt} {f : Addr} {fd : FuncData} {N ps : List Str} {k : Nat} {asp : ASp} (F : Fun K x qual st f fd) (S : FnScope N ps (defScope st)) (hlen : ∀ ds M Φ Ψ, asp ds M Φ Ψ → ds.length = ps.length)
    (hb : ∀ (cdv : Value) (A : Around) (outer : List Env) (s : Shared) (H : Hp) (E : XK) (p : Addr × Obj), Hot1 A p → RoomH k (A.deeper (envOfC qual (defScope st) s.heap.objs.size f cdv)) → ∀ ds M Φ Ψ, asp ds M Φ Ψ →
      ∃ ta, DSs (cxDH P w K mg base N qual (defScope st) f cdv A outer s H E p) (ctD B E Ψ) (defBody st) ta ∧ ta { nx := fun _ M => Φ .non M, rt := Φ } (startD N ds) M) : FnH P w K mg base (L2N.CX P w) (k + 1) f fd ps (conc K B asp) := by
  obtain ⟨oc, od, kV, doc, pm, an, cdv, ct, osl, rfl, lk, hcd⟩ := F.ex
  exact fn_ofH lk hcd S (conc_len hlen) fun A outer s H vs Q E p hot hr h => body_go rfl h (hb cdv A outer s H E p hot hr)
/-- the body's context bears what is handled -/
theorem hot_cx {N : List Str} {qual : Str} {sc : Scope} {f : Addr} {cdv : Value} {A : Around} {outer : List Env} {s : Shared} {H : Hp} {E : XK} {p : Addr × Obj} (h : Hot1 A p) : HotC (cxDH P w K mg base N qual sc f cdv A outer s H E p) :=
  ⟨p, ⟨h.1, h.2⟩, List.mem_cons_self⟩
end
section
variable {X : Cx} {T : Ct} {e : Expr} {pos : Pos} {es : List Expr} {tr : AA}
theorem hot_suite {C dd : Addr} {a : Addr} {oe : Obj} {pn : List (Addr × Obj)} (hz : L2N.Zn (.ref C) (some dd) oe) (hf : ∃ vs, oe.data = .fields vs) : HotC (X.suite a ((a, oe) :: pn)) := by
  obtain ⟨vs, e⟩ := hf
  exact ⟨(a, oe), ⟨rfl, vs, e, hz.2.2 vs e⟩, List.mem_cons_self⟩
theorem room_suite {k : Nat} {a : Addr} {pn : List (Addr × Obj)} (hr : Room k X.A) : RoomH k (X.suite a pn).A := ⟨hr.dp, hr.un⟩
theorem de_callH {x : Str} {p : Pos} {k : Nat} {f : Addr} {fd : FuncData} {ps : List Str} {asp : ASp} (G : FnH X.prog X.w X.K X.mg X.base (L2N.CX X.prog X.w) k f fd ps (conc X.K T.B asp)) (hr : RoomH k X.A) (hc : HotC X) (hg : Gl X x) (hm : X.mg x = some (.ref f)) (hk : PySem.W.keepIn X.K (.ref f) = true)
    (hb : Binds X.K fd ps []) (tk : L2N.Takes X T.W) (ha : DA X T (e :: es) tr)
    (hdb : (x == ("__debug__" : Str)) = false := by decide) (he : starEach (e :: es) X.env = (false, eval e X.env) :: starEach es X.env := by rfl) (hpl : (backTo pos (starEach es X.env)).any (·.1) = false := by rfl) :
    DE X T (.Call (.Name x p) (e :: es) [] pos) (aCall asp [] T.Ψ tr) :=
  de_of (pe_callH G hr hc hg hm hk hb (fun σ => L2N.passAt tk σ) ha hdb he hpl) fun F σ H Γ M Φ Q w q z => cA_mk w q fun ds M1 vs F1 H1 s1 h1 i1 q1 =>
    ⟨ds ++ [], F1, M1, Φ, fun x M2 => T.Ψ x Γ M2, (by rw [List.append_nil]; exact i1), h1, q1, fun d M2 v F2 H2 s2 h2 i2 q2 => z d M2 v F2 H2 (s1.trans s2) h2 i2 q2, fun y cls d M2 F2 H2 s2 h2 xi q2 => w.l y cls d Γ M2 σ F2 H2 (s1.trans s2) (w.v.mono (s1.trans s2)) h2 xi q2⟩
end
end DL

set_option Elab.async false
set_option linter.all false
set_option maxRecDepth 100000
set_option maxHeartbeats 2000000
/-! DR5: x in xs, of flat data; == within an except suite. -/
namespace DL
open PySem L2
open L2H (RoomH)
section
variable {X : Cx} {T : Ct} {K : PySem.W.Frag} {B : Bx} {F : Hp} {e a b : Expr} {pos p : Pos} {ta tb : AE}
def flatD : D → Bool
  | .non => true
  | .bl _ => true
  | .int _ => true
  | .str _ => true
  | _ => false
def eqFD : D → D → Bool
  | .non, .non => true
  | .bl a, .bl b => a == b
  | .bl a, .int b => (if a then 1 else 0) == b
  | .int a, .bl b => a == (if b then 1 else 0)
  | .int a, .int b => a == b
  | .str a, .str b => a == b
  | _, _ => false
theorem flat_of {d : D} {v : V} (i : Is K F v d) (h : flatD d = true) : flatV v = true := by
  cases d <;> first
    | exact Bool.noConfusion h
    | (cases i; rfl)
theorem flat_all : ∀ {vs : List V} {ds : List D}, IsL K F vs ds → ds.all flatD = true → vs.all flatV = true
  | _, _, .nil, _ => rfl
  | _, _, .cons i l, h => by
    rw [List.all_cons, Bool.and_eq_true] at h
    rw [List.all_cons, flat_of i h.1, flat_all l h.2]
    rfl
theorem eqF_of {d e : D} {u v : V} (i : Is K F u d) (j : Is K F v e) (h1 : flatD d = true) (h2 : flatD e = true) : eqV u v = eqFD d e := by
  cases d <;> cases e <;> first
    | exact Bool.noConfusion h1
    | exact Bool.noConfusion h2
    | (cases i; cases j; rfl)
theorem in_of {d : D} {v : V} (j : Is K F v d) (hd : flatD d = true) : ∀ {vs : List V} {ds : List D}, IsL K F vs ds → ds.all flatD = true → inV v vs = ds.any fun y => eqFD y d
  | _, _, .nil, _ => rfl
  | _, _, .cons i l, h => by
    rw [List.all_cons, Bool.and_eq_true] at h
    have := in_of j hd l h.2
    unfold inV at this ⊢
    rw [List.any_cons, List.any_cons, eqF_of i j h.1 hd, this]
/-- x in xs, x not in xs -/
def fIn (neg : Bool → Bool) (d e : D) (M : Mm) (Φ : AK) : Prop := seqOf e M fun xs => (flatD d = true ∧ xs.all flatD = true) ∧ Φ (.bl (neg (xs.any fun y => eqFD y d))) M
theorem ab_in : Ab2 K B (rIn K false) (fIn fun b => b) := fun F H x y d g M Φ Q h i1 i2 q z => by
  obtain ⟨l, vs, xs, rfl, hq, il, ⟨h1, h2⟩, q⟩ := seq_at h i2 q
  refine ⟨l, vs, rfl, hq, flat_of i1 h1, flat_all il h2, ?_⟩
  rw [in_of i1 h1 il h2]
  exact z _ M _ F H (Same.refl F) h (.bl _) q
theorem ab_notIn : Ab2 K B (rIn K true) (fIn fun b => !b) := fun F H x y d g M Φ Q h i1 i2 q z => by
  obtain ⟨l, vs, xs, rfl, hq, il, ⟨h1, h2⟩, q⟩ := seq_at h i2 q
  refine ⟨l, vs, rfl, hq, flat_of i1 h1, flat_all il h2, ?_⟩
  rw [in_of i1 h1 il h2]
  exact z _ M _ F H (Same.refl F) h (.bl _) q
theorem de_in (ha : DE X T a ta) (hb : DE X T b tb) (hm : behindInMarks .In b = false := by rfl) : DE X T (.Compare a [.In] [b] pos) (aOp (fIn fun b => b) ta tb) := de_cmp op_in_seq ab_in ha hb hm
theorem de_notIn (ha : DE X T a ta) (hb : DE X T b tb) (hm : behindInMarks .NotIn b = false := by rfl) : DE X T (.Compare a [.NotIn] [b] pos) (aOp (fIn fun b => !b) ta tb) := de_cmp op_notIn_seq ab_notIn ha hb hm
theorem dt_in (ha : DE X T a ta) (hb : DE X T b tb) (hm : behindInMarks .In b = false := by rfl) : DT X T (.Compare a [.In] [b] pos) (aB (aOp (fIn fun b => b) ta tb)) := dt_cmp op_in_seq ab_in ha hb hm
theorem dt_notIn (ha : DE X T a ta) (hb : DE X T b tb) (hm : behindInMarks .NotIn b = false := by rfl) : DT X T (.Compare a [.NotIn] [b] pos) (aB (aOp (fIn fun b => !b) ta tb)) := dt_cmp op_notIn_seq ab_notIn ha hb hm
theorem in_ints {ns : List Int} {i : Int} : ((ns.map D.int).any fun y => eqFD y (.int i)) = decide (i ∈ ns) := by
  rw [List.any_map]
  induction ns with
  | nil => rfl
  | cons n ns ih =>
    rw [List.any_cons, ih]
    show ((n == i) || decide (i ∈ ns)) = _
    by_cases h : n = i
    · subst h
      simp
    · have h2 : ¬ i = n := fun z => h z.symm
      simp [h, h2]
theorem flat_ints {ns : List Int} : (ns.map D.int).all flatD = true := by
  rw [List.all_eq_true]
  intro d hd
  obtain ⟨x, _, rfl⟩ := List.mem_map.mp hd
  rfl
theorem fIn_ints {neg : Bool → Bool} {i : Int} {ns : List Int} {M : Mm} {Φ : AK} : fIn neg (.int i) (.lst (ns.map D.int)) M Φ = ((flatD (.int i) = true ∧ (ns.map D.int).all flatD = true) ∧ Φ (.bl (neg ((ns.map D.int).any fun y => eqFD y (.int i)))) M) := rfl
/-! == where an exception is handled -/
theorem units_H {k : Nat} (hr : RoomH k X.A) : X.A.units + 64 < cLine := by have := hr.un; omega
theorem op_eqHH {k : Nat} (hr : RoomH k X.A) : OpR X (compareOp .Eq) (fun x y H Q => (scal x y = true ∧ Q (.bl (decide (x = y))) H) ∨ (∃ d e, Dp X.K H x d ∧ Dp X.K H y e ∧ SeqAt.shaped d = true ∧ SeqAt.shaped e = true ∧ Q (.bl (PyData.eqv d e)) H)) := op_eq.or (op_eqD (units_H hr))
theorem op_neHH {k : Nat} (hr : RoomH k X.A) : OpR X (compareOp .NotEq) (fun x y H Q => (scal x y = true ∧ Q (.bl (!decide (x = y))) H) ∨ (∃ d e, Dp X.K H x d ∧ Dp X.K H y e ∧ SeqAt.shaped d = true ∧ SeqAt.shaped e = true ∧ Q (.bl (!PyData.eqv d e)) H)) := op_ne.or (op_neD (units_H hr))
theorem de_eqH {k : Nat} (hr : RoomH k X.A) (ha : DE X T a ta) (hb : DE X T b tb) : DE X T (.Compare a [.Eq] [b] pos) (aOp fEq ta tb) := de_cmp (op_eqHH hr) (ab_eqG (neg := fun b => b)) ha hb
theorem de_neH {k : Nat} (hr : RoomH k X.A) (ha : DE X T a ta) (hb : DE X T b tb) : DE X T (.Compare a [.NotEq] [b] pos) (aOp fNe ta tb) := de_cmp (op_neHH hr) (ab_eqG (neg := fun b => !b)) ha hb
theorem dt_eqH {k : Nat} (hr : RoomH k X.A) (ha : DE X T a ta) (hb : DE X T b tb) : DT X T (.Compare a [.Eq] [b] pos) (aB (aOp fEq ta tb)) := dt_cmp (op_eqHH hr) (ab_eqG (neg := fun b => b)) ha hb
theorem dt_neH {k : Nat} (hr : RoomH k X.A) (ha : DE X T a ta) (hb : DE X T b tb) : DT X T (.Compare a [.NotEq] [b] pos) (aB (aOp fNe ta tb)) := dt_cmp (op_neHH hr) (ab_eqG (neg := fun b => !b)) ha hb
end
end DL

set_option Elab.async false
set_option linter.all false
set_option maxRecDepth 100000
set_option maxHeartbeats 2000000
/-! DR6: a op b op c op d. -/
namespace DL
open PySem L2 PyProof.Rows
section
variable {X : Cx} {T : Ct} {a b c d : Expr} {pos : Pos} {ta tb tc td : AE}
def tChain3 (r r' r2 : R2) (ta tb tc td : TE) : TE := fun σ H Q => ta σ H fun x H1 => tb σ H1 fun y H2 => r x y H2 fun z H3 => ∃ k, z = .bl k ∧
  (if k = true then tc σ H3 fun w' H4 => r' y w' H4 (fun z2 H5 => ∃ k2, z2 = .bl k2 ∧ (if k2 = true then td σ H5 fun u' H6 => r2 w' u' H6 Q else Q (.bl false) H5)) else Q (.bl false) H3)
theorem pe_chain3 {op op' op2 : CmpOp} {r r' r2 : R2} {ta tb tc td : TE} (ho : OpR X (compareOp op) r) (ho' : OpR X (compareOp op') r') (ho2 : OpR X (compareOp op2) r2) (ha : PE X a ta) (hb : PE X b tb) (hc : PE X c tc) (hd : PE X d td)
    (hm : lastMarks [op, op', op2] [b, c, d] = false := by with_unfolding_all rfl) : PE X (.Compare a [op, op', op2] [b, c, d] pos) (tChain3 r r' r2 ta tb tc td) := by
  refine ⟨fun pins s σ H Q I h => ?_⟩
  refine Compare_chain (thn (ha.run pins s σ H _ I h) fun v s1 ⟨x, H1, I1, r1, q1⟩ => chain_link (thn (hb.run pins s1 σ H1 _ I1 q1) fun u s2 ⟨y, H2, I2, r2, q2⟩ =>
    thn (ho pins s2 σ H2 x y v u _ I2 r1 r2 q2) fun d s3 ⟨z, H3, I3, r3, k, e, q3⟩ => ?_)) hm
  subst e
  cases r3
  refine wpAny_truthy_bool ?_
  cases k with
  | false => exact ite_ff ⟨.bl false, H3, I3, rfl, q3⟩
  | true =>
    refine ite_tt (chain_link (thn (hc.run pins s3 σ H3 _ I3 q3) fun w' s4 ⟨z', H4, I4, r4, q4⟩ => thn (ho' pins s4 σ H4 y z' u w' _ I4 r2 r4 q4) fun d5 s5 ⟨z5, H5, I5, r5, k5, e5, q5⟩ => ?_))
    subst e5
    cases r5
    refine wpAny_truthy_bool ?_
    cases k5 with
    | false => exact ite_ff ⟨.bl false, H5, I5, rfl, q5⟩
    | true => exact ite_tt (chain_last (thn (hd.run pins s5 σ H5 _ I5 q5) fun w6 s6 ⟨z6, H6, I6, r6, q6⟩ => ho2 pins s6 σ H6 z' z6 w' w6 Q I6 r4 r6 q6))
def aChain3_k (g g2 : A2) (tc td : AE) (Γ : Gm) (Φ : AK) (e : D) (z : D) (M3 : Mm) : Prop := match z with
  | .bl k => (k = true → tc Γ M3 fun h M4 => g e h M4 fun z2 M5 => aChain_k g2 td Γ Φ h z2 M5) ∧ (k = false → Φ (.bl false) M3)
  | _ => False
def aChain3 (f g g2 : A2) (ta tb tc td : AE) (Γ : Gm) (M : Mm) (Φ : AK) : Prop := ta Γ M fun d M1 => tb Γ M1 fun e M2 => f d e M2 fun z M3 => aChain3_k g g2 tc td Γ Φ e z M3
theorem aChain3_bl {g g2 : A2} {tc td : AE} {Γ : Gm} {Φ : AK} {e : D} {b : Bool} {M : Mm} : aChain3_k g g2 tc td Γ Φ e (.bl b) M = ((b = true → tc Γ M fun h M4 => g e h M4 fun z2 M5 => aChain_k g2 td Γ Φ h z2 M5) ∧ (b = false → Φ (.bl false) M)) := rfl
theorem de_chain3 {op op' op2 : CmpOp} {r r' r2 : R2} {f g g2 : A2} (ho : OpR X (compareOp op) r) (ho' : OpR X (compareOp op') r') (ho2 : OpR X (compareOp op2) r2) (hr : Ab2 X.K T.B r f) (hr' : Ab2 X.K T.B r' g) (hr2 : Ab2 X.K T.B r2 g2) (ha : DE X T a ta) (hb : DE X T b tb) (hc : DE X T c tc) (hd : DE X T d td)
    (hm : lastMarks [op, op', op2] [b, c, d] = false := by with_unfolding_all rfl) : DE X T (.Compare a [op, op', op2] [b, c, d] pos) (aChain3 f g g2 ta tb tc td) :=
  de_of (pe_chain3 ho ho' ho2 ha hb hc hd hm) fun F σ H Γ M Φ Q w q z => cE_mk w q fun d M1 x F1 H1 s1 h1 i1 q1 => cE_mk (w.go s1 h1) q1 fun e M2 y F2 H2 s2 h2 i2 q2 => hr F2 H2 x y d e M2 _ _ h2 (i1.mono s2) i2 q2 fun k M3 v F3 H3 s3 h3 i3 q3 => by
    unfold aChain3_k at q3
    split at q3
    · rename_i k
      cases i3
      refine ⟨k, rfl, ?_⟩
      cases k with
      | true =>
        exact cE_mk (((w.go s1 h1).go s2 h2).go s3 h3) (q3.1 rfl) fun c M4 u F4 H4 s4 h4 i4 q4 => hr' F4 H4 y u e c M4 _ _ h4 ((i2.mono s3).mono s4) i4 q4 fun k5 M5 v5 F5 H5 s5 h5 i5 q5 => by
          unfold aChain_k at q5
          split at q5
          · rename_i k5
            cases i5
            refine ⟨k5, rfl, ?_⟩
            cases k5 with
            | true => exact cE_mk (((((w.go s1 h1).go s2 h2).go s3 h3).go s4 h4).go s5 h5) (q5.1 rfl) fun e6 M6 u6 F6 H6 s6 h6 i6 q6 => hr2 F6 H6 u u6 c e6 M6 Φ Q h6 ((i4.mono s5).mono s6) i6 q6 fun d M7 v F7 H7 s7 h7 i7 q7 => z d M7 v F7 H7 ((((((s1.trans s2).trans s3).trans s4).trans s5).trans s6).trans s7) h7 i7 q7
            | false => exact z _ M5 _ F5 H5 ((((s1.trans s2).trans s3).trans s4).trans s5) h5 (.bl false) (q5.2 rfl)
          · exact q5.elim
      | false => exact z _ M3 _ F3 H3 ((s1.trans s2).trans s3) h3 (.bl false) (q3.2 rfl)
    · exact q3.elim
end
end DL

set_option Elab.async false
set_option linter.all false
set_option maxRecDepth 100000
set_option maxHeartbeats 2000000
/-! DN1: g(lambda: e, ..), where g calls what it gets. -/
namespace DL
open PySem L2 PyProof.Rows
open LamX (CodeO TabB LamS lamEnv lamCx lam_start2 lam_make2 ExtN Tabs TabS)
/-- the context of the lambda's body -/
abbrev lamXe (X : Cx) (A : Around) (outer : List Env) (s : Shared) (H : Hp) (E : XK) (scope : Scope) (f c' : Addr) : Value → Shared → Prop := fun e s' =>
  wpAny (model X.prog X.w) (A.deeper (lamEnv X scope s.heap.objs.size f c')) (leaving (lamEnv X scope s.heap.objs.size f c') e) (fun _ s'' => L2N.CX X.prog X.w outer H s E e s'') (fun e' s'' => L2N.CX X.prog X.w outer H s E e' s'') s'
abbrev lamN (X : Cx) (A : Around) (outer : List Env) (s : Shared) (H : Hp) (E : XK) (scope : Scope) (f c' : Addr) : Cx := (lamCx X A outer s H E scope f c').tr [] (lamXe X A outer s H E scope f c')
section
variable {X : Cx} {pins : List (Addr × Obj)} {σ : L2.St} {H HZ : Hp} {s : Shared}
/-- a(), in the def that got the lambda as a -/
theorem pe_actN {Eg : XK} {Ng : List Str} {qg : Str} {sg : Scope} {g f c' : Addr} {cdg pm ctv : Value} {params : Arguments} {body : Expr} {scope : Scope} {k i : Nat} {a : Str} {pn : List (Addr × Obj)} {xe : Value → Shared → Prop} {W : WX} {tb : XK → TE} {p1 p2 : Pos}
    (I : Inv X pins σ H s) (L : LamS X.env.scope scope) (of : s.heap.get? f = some (PySem.W.kla_obj "<lambda>" (X.env.qual ++ "<lambda>") params body scope (cloFrom X.env.cells scope.names []) pm c' ctv)) (nf : H f = none) (nfr : f ∉ frs X.stack)
    (hbind : bindArgs (PySem.W.kla_fn "<lambda>" (X.env.qual ++ "<lambda>") params body scope (cloFrom X.env.cells scope.names []) pm (.ref c') ctv) ⟨[], []⟩ = pure [])
    (tk : L2N.Takes ((cxOf (L2N.CX X.prog X.w) X.prog X.w X.K X.mg X.base Ng qg sg g cdg X.A X.stack s H Eg).tr pn xe) W) (hr : Room (k + 1) (X.A.deeper (envOfC qg sg s.heap.objs.size g cdg)))
    (hbody : ∀ (E : XK) (A : Around) (outer : List Env) (s1 : Shared) (H1 : Hp), Room k (A.deeper (lamEnv X scope s1.heap.objs.size f c')) → PE (lamN X A outer s1 H1 E scope f c') body (tb E))
    (hN : Ng[i]? = some a) (hv : Vis sg a) (hd : (a == ("__debug__" : Str)) = false) (hcd : (a == ("__classdict__" : Str)) = false) :
    PE ((cxOf (L2N.CX X.prog X.w) X.prog X.w X.K X.mg X.base Ng qg sg g cdg X.A X.stack s H Eg).tr pn xe) (.Call (.Name a p1) [] [] p2)
      (fun σZ HZ Q => σZ[i]? = some (some (.ref f)) ∧ HZ c' = some (CodeO c' (X.env.qual ++ "<lambda>")) ∧ tb (WE W σZ) σ HZ Q) := by
  refine ⟨fun pinsZ sZ σZ HZ Q IZ ⟨hs, hc, ht⟩ => ?_⟩
  have look := (pe_var (pos := p1) (i := i) hN hv hd hcd).run pinsZ sZ σZ HZ (fun v H1 => v = .ref f ∧ H1 = HZ) IZ ⟨.ref f, hs, rfl, rfl⟩
  refine wpAny_Call_Name_kw (thn look fun u s1 ⟨v, H1, I1, r1, ev, eH⟩ => ?_)
  subst ev eH
  cases r1
  have of1 := I1.base.keep f _ of nf nfr (fun z => nomatch (show f ∈ ([] : List Addr) from z))
  have un : Un (frs X.stack) [] H H1 s.heap s1.heap := I1.base
  obtain ⟨⟨oc, vs, t, hoc, hdc, hvc⟩, _, _⟩ := I1.hok c' _ hc
  refine PySem.W.callWith_F0 ⟨_, _, _, _, of1⟩ (wpAny_call (codeAny_mono (?rc : codeAny (model X.prog X.w) (X.A.deeper (envOfC qg sg s.heap.objs.size g cdg)) (.call (.ref f) ⟨[], []⟩) (CR (L2N.CX X.prog X.w) (envOfC qg sg s.heap.objs.size g cdg :: X.stack) X.prog X.w H1 s1 Q (WE W σZ)) s1) fun r s' hq => ?_))
  case rc =>
    refine PySem.W.kla_callFunE hr.depth of1 rfl L.co L.gen rfl ⟨c', oc, vs, t, rfl, hoc, hdc, hvc⟩ ?_
    rw [hbind]
    refine wpAny_pure (wpAny_newFunctionEnv (fun y hy => (L.own y hy).2) (fun y hy => absurd hy (by simp)) (fun h₁ hns hsb => ⟨I1.nolimit.fresh _ hsb, ?_⟩) L.kind)
    have kp : ∀ b o, s1.heap.get? b = some o → h₁.get? b = some o := fun b o e => hsb.extBut b o (Nat.ne_of_lt (Heap.lt_size e)) (Heap.get?_push_of_some _ e)
    have J0 := lam_start2 (E := WE W σZ) (f := f) (c' := c') (tk := s1.toks) I L I1.env0 hr.hd un hns kp
    have J := J0.toTry (lamXe X (X.A.deeper (envOfC qg sg s.heap.objs.size g cdg)) (envOfC qg sg s.heap.objs.size g cdg :: X.stack) s1 H1 (WE W σZ) scope f c')
    have run := (hbody (WE W σZ) (X.A.deeper (envOfC qg sg s.heap.objs.size g cdg)) (envOfC qg sg s.heap.objs.size g cdg :: X.stack) s1 H1 (hr.deeper _)).run [] _ _ H1 Q J ht
    refine PySem.W.kla_codeExpr (wpAny_mono run (fun v s' hq => ?_) fun e s' hq => hq)
    obtain ⟨w', H', J', rv, q⟩ := hq
    exact ⟨w', H', J'.os, J'.bare, J'.base, J'.hok, rv, q⟩
  cases r with
  | error e => exact L2N.passAt tk σZ pinsZ H1 s1 e s' I1 hq
  | ok fl =>
    cases fl with
    | ret u => exact I1.after hq
    | next => exact False.elim hq
    | brk => exact False.elim hq
    | cont => exact False.elim hq
end
/-! ### what is frozen, code objects with it -/
open Classical in
noncomputable def withCode (F H1 : Hp) : Hp := fun b => match F b with
  | some o => some o
  | none => if (∃ q, H1 b = some (CodeO b q)) then H1 b else none
theorem wc_same {F H1 : Hp} : Same F (withCode F H1) := fun b o e => by
  unfold withCode
  rw [e]
theorem wc_sub {F H1 : Hp} (h : Same F H1) : Same (withCode F H1) H1 := fun b o e => by
  unfold withCode at e
  split at e
  · rename_i u hu
    rw [← e]
    exact h b u hu
  · split at e
    · exact e
    · cases e
theorem wc_none {F H1 : Hp} {b : Addr} (h : F b = none) (hn : ∀ φ, H1 b ≠ some (.ext φ)) : withCode F H1 b = none := by
  unfold withCode
  rw [h]
  refine if_neg fun ⟨q, e⟩ => ?_
  exact hn _ e
theorem wc_at {F H1 : Hp} {c : Addr} {q : Str} (h : Same F H1) (e : H1 c = some (CodeO c q)) : withCode F H1 c = some (CodeO c q) := by
  unfold withCode
  split
  · rename_i u hu
    have := h c u hu
    rw [e] at this
    exact this.symm
  · rw [if_pos ⟨q, e⟩]
    exact e
theorem wc_nt {F H1 : Hp} (h : ∀ b ps, F b ≠ some (.tbl ps)) : ∀ b ps, withCode F H1 b ≠ some (.tbl ps) := fun b ps e => by
  unfold withCode at e
  split at e
  · rename_i u hu
    exact h b ps (hu.trans e)
  · split at e
    · rename_i z
      obtain ⟨q, z⟩ := z
      rw [z] at e
      unfold CodeO at e
      cases e
    · cases e
/-- a table whose code objects are frozen -/
def TabF (F H : Hp) (p : Addr × Str) : Prop := ∃ ps : Array Value, H p.1 = some (.tbl ps) ∧ TriplesOk ps.toList ∧ ∀ (pos : Pos) (cv : Value), codeAmong pos ps.toList = some cv → ∃ c, cv = .ref c ∧ F c = some (CodeO c p.2)
/-- a box that holds tables -/
structure HasT (B : Bx) (Tb : List (Addr × Str)) : Prop where
  get : ∀ {F H : Hp}, B.ok F H → ∀ p ∈ Tb, TabF F H p
  put : ∀ {F F1 H H1 : Hp}, B.ok F H → Same F F1 → ExtN H H1 → (∀ p ∈ Tb, TabF F1 H1 p) → B.ok F1 H1
  noext : ∀ {F H : Hp}, B.ok F H → ∀ a ∈ B.fp, ∀ φ, H a ≠ some (.ext φ)
theorem tabs_get {K : PySem.W.Frag} {B : Bx} {M : Mm} {F H : Hp} {Tb : List (Addr × Str)} (hT : HasT B Tb) (h : Hs K B M F H) : Tabs Tb H := fun p hp => by
  obtain ⟨ps, e1, e2, e3⟩ := hT.get h.box p hp
  refine ⟨ps, e1, e2, fun pos cv hc => ?_⟩
  obtain ⟨c, e4, e5⟩ := e3 pos cv hc
  exact ⟨c, e4, h.sub c _ e5⟩
theorem same_ext {K : PySem.W.Frag} {B : Bx} {M : Mm} {F H H1 : Hp} (h : Hs K B M F H) (eN : ExtN H H1) : Same F H1 := fun b o e => eN b o (h.sub b o e) fun ps z => h.nt b ps (by rw [e, z])
theorem mo_kind {K : PySem.W.Frag} {F H : Hp} {a : Addr} : ∀ {o : MO}, MOk K F H a o → ∃ u, H a = some u ∧ (∀ ps, u ≠ .tbl ps) ∧ ∀ φ, u ≠ .ext φ
  | .lst _, ⟨vs, h, _⟩ => ⟨_, h, fun _ z => (by cases z), fun _ z => (by cases z)⟩
  | .ins _ _ _, ⟨dx, fs, h, _⟩ => ⟨_, h, fun _ z => (by cases z), fun _ z => (by cases z)⟩
  | .dK _ _, ⟨kv, h, _⟩ => ⟨_, h, fun _ z => (by cases z), fun _ z => (by cases z)⟩
theorem hs_lam {K : PySem.W.Frag} {B : Bx} {M : Mm} {F H H1 : Hp} {Tb : List (Addr × Str)} (hT : HasT B Tb) (h : Hs K B M F H) (eN : ExtN H H1) (T1 : Tabs Tb H1) : Hs K B M (withCode F H1) H1 := by
  have s1 := same_ext h eN
  have b1 : B.ok (withCode F H1) H1 := hT.put h.box wc_same eN fun p hp => by
    obtain ⟨ps, e1, e2, e3⟩ := T1 p hp
    refine ⟨ps, e1, e2, fun pos cv hc => ?_⟩
    obtain ⟨c, e4, e5⟩ := e3 pos cv hc
    exact ⟨c, e4, wc_at s1 e5⟩
  refine ⟨wc_sub s1, fun p hp => ?_, h.nd, b1, fun a ha => wc_none (h.bfr a ha) (hT.noext b1 a ha), wc_nt h.nt⟩
  obtain ⟨m1, m2, m3⟩ := h.mem p hp
  obtain ⟨u, e, n1, n2⟩ := mo_kind m3
  have e1 : H1 p.1 = H p.1 := (eN _ u e n1).trans e.symm
  exact ⟨wc_none m1 fun φ z => (by rw [e1, e] at z; exact n2 φ (Option.some.inj z)), m2, (m3.at e1).mono wc_same⟩
/-- the same box, what was frozen at some time is -/
def bxAt (B : Bx) (F2 : Hp) : Bx where
  fp := B.fp
  ok := fun F H => B.ok F H ∧ Same F2 F
  loc := fun e h => ⟨B.loc e h.1, h.2⟩
  up := fun s h => ⟨B.up s h.1, h.2.trans s⟩
  low := fun h => B.low h.1
section
variable {K : PySem.W.Frag} {B : Bx} {M : Mm} {F F2 H : Hp}
theorem at_in (h : Hs K B M F H) (e : Same F2 F) : Hs K (bxAt B F2) M F H := ⟨h.sub, h.mem, h.nd, ⟨h.box, e⟩, h.bfr, h.nt⟩
theorem at_out (h : Hs K (bxAt B F2) M F H) : Hs K B M F H := ⟨h.sub, h.mem, h.nd, h.box.1, h.bfr, h.nt⟩
end
/-- what a lambda makes of the mutable objects -/
abbrev LRead := Mm → AK → (XD → Mm → Prop) → Prop
/-- a() -/
def aAct (R : LRead) (f : Addr) (Ψ : AX) (Γ : Gm) (M : Mm) (Φ : AK) : Prop := Γ[0]? = some (some (.ref f)) ∧ R M Φ fun y M2 => Ψ y Γ M2
abbrev E0 : XK := fun _ _ _ => False
abbrev LSp := LRead → List D → Mm → AK → Prop
/-- a def that calls what it gets as a -/
def LamFn (P : Program) (w : World) (K : PySem.W.Frag) (mg : Str → Option Value) (base : Heap) (k : Nat) (x : Str) (st : Stmt) (g : Addr) (N : List Str) (a : Str) (lsp : LSp) : Prop :=
  ∀ (B : Bx) (cdv : Value) (A : Around) (outer : List Env) (s : Shared) (H : Hp) (f : Addr) (R : LRead), Room k (A.deeper (envOfC x (defScope st) s.heap.objs.size g cdv)) →
    (∀ (W : WX) (Ψ : AX) (pn : List (Addr × Obj)) (xe : Value → Shared → Prop) (p1 p2 : Pos), L2N.Takes ((cxD P w K mg base N x (defScope st) g cdv A outer s H E0).tr pn xe) W →
      DE ((cxD P w K mg base N x (defScope st) g cdv A outer s H E0).tr pn xe) ⟨B, W, Ψ⟩ (.Call (.Name a p1) [] [] p2) (aAct R f Ψ)) →
    ∀ ds M Φ, lsp R ds M Φ → ∃ tg, DSs (cxD P w K mg base N x (defScope st) g cdv A outer s H E0) (ctD B E0 fun _ _ => False) (defBody st) tg ∧ tg { nx := fun _ M => Φ .non M, rt := Φ } (startD N (.ref f :: ds)) M
def aLam (lsp : LSp) (ta : (XD → Mm → Prop) → AE) (tr : AA) (Γ : Gm) (M : Mm) (Φ : AK) : Prop := tr Γ M fun ds M1 => lsp (fun M' Φ' Ψ' => ta Ψ' Γ M' Φ') ds M1 Φ
section
variable {X : Cx} {T : Ct}
theorem de_lam {x a : Str} {st : Stmt} {g c Pt : Addr} {gd : FuncData} {Ng ps : List Str} {k : Nat} {lsp : LSp} {Tb : List (Addr × Str)} {params : Arguments} {body : Expr} {scope : Scope} {ta : (XD → Mm → Prop) → AE} {es : List Expr} {tr : AA} {p lpos pos : Pos}
    (G : Fun X.K x x st g gd) (S : FnScope Ng (a :: ps) (defScope st)) (hN0 : Ng[0]? = some a) (hva : Vis (defScope st) a) (hb : L2.Binds X.K gd (a :: ps) []) (hG : LamFn X.prog X.w X.K X.mg X.base (k + 1) x st g Ng a lsp) (hlen : ∀ R ds M Φ, lsp R ds M Φ → ds.length = ps.length)
    (hT : HasT T.B Tb) (TB : TabB X.base X.mg c Pt) (hcode : X.env.code = .ref c) (hmT : (Pt, X.env.qual ++ "<lambda>") ∈ Tb) (hu : ∀ p ∈ Tb, p.1 = Pt → p.2 = X.env.qual ++ "<lambda>") (hr : Room (k + 2) X.A) (L : LamS X.env.scope scope)
    (hs : X.stack = X.env :: X.outer) (hf : X.env.frame = some X.env.locals) (hg : Gl X x) (hm : X.mg x = some (.ref g)) (hk : PySem.W.keepIn X.K (.ref g) = true)
    (hbody : ∀ (E : XK) (Ψ : XD → Mm → Prop) (A : Around) (outer : List Env) (s : Shared) (H : Hp) (f c' : Addr), Room k (A.deeper (lamEnv X scope s.heap.objs.size f c')) → DE (lamN X A outer s H E scope f c') ⟨T.B, fun cls d _ H => E cls d H, fun y _ M => Ψ y M⟩ body (ta Ψ))
    (ha : DA X T es tr) (hdef : defaultsOf params X.env = ([], []) := by rfl) (hbind : ∀ (q : Str) (cl : List (Str × Addr)) (pm cv ctv : Value), bindArgs (PySem.W.kla_fn "<lambda>" q params body scope cl pm cv ctv) ⟨[], []⟩ = pure [] := by intros; rfl)
    (hdb : (x == ("__debug__" : Str)) = false := by decide) (had : (a == ("__debug__" : Str)) = false := by decide) (hac : (a == ("__classdict__" : Str)) = false := by decide)
    (he : starEach (.Lambda params body scope lpos :: es) X.env = (false, eval (.Lambda params body scope lpos) X.env) :: starEach es X.env := by rfl) (hpl : (backTo pos (starEach es X.env)).any (·.1) = false := by rfl) :
    DE X T (.Call (.Name x p) (.Lambda params body scope lpos :: es) [] pos) (aLam lsp ta tr) := by
  refine ⟨fun pins s σ H Q I ⟨F, Γ, M, Φ, w, q, z⟩ => ?_⟩
  obtain ⟨oc, od, kV, doc, pm, an, cdv, ct, osl, rfl, lk, hcd⟩ := G.ex
  refine wpAny_Call_Name_kw (ld_glob I hg hm (PySem.W.callWith_K (h₀ := X.base) I.ok.mod.kin hk ?_ he hpl) hdb)
  rw [he]
  refine Calls.spliced_cons (lam_make2 I TB hcode hmT hu (tabs_get hT w.h) hdef (L.has I.ok) fun f c' pm' ctv H1 s' I1 eN T1 of nf nfr hco => ?_)
  have hfr : f ≠ X.env.locals ∧ f ∉ frs X.outer := by
    rw [hs] at nfr
    have e : frs (X.env :: X.outer) = X.env.locals :: frs X.outer := by
      show List.filterMap _ (X.env :: X.outer) = _
      rw [List.filterMap_cons, hf]
      rfl
    rw [e] at nfr
    exact ⟨fun z => nfr (by rw [z]; exact List.mem_cons_self), fun z => nfr (List.mem_cons_of_mem _ z)⟩
  have h1 := hs_lam hT w.h eN T1
  have hc1 := wc_at (same_ext w.h eN) hco
  have J1 : L2.Inv X ((f, _) :: pins) σ H1 s' := I1.pins_of fun p hp => by
    rcases List.mem_cons.mp hp with rfl | hp
    · exact ⟨of, nf, hfr.1, hfr.2, fun v z => by cases z⟩
    · exact I1.pin p (List.mem_append_right _ hp)
  have args := ha.run pos _ s' σ H1 (fun vs H2 => ∃ F2 M2 ds, Same (withCode F H1) F2 ∧ Hs X.K T.B M2 F2 H2 ∧ IsL X.K F2 vs ds ∧ lsp (fun M' Φ' Ψ' => ta Ψ' Γ M' Φ') ds M2 Φ) J1 (cA_mk (w.go wc_same h1) q fun ds M2 vs F2 H2 s2 h2 i2 q2 => ⟨F2, M2, ds, s2, h2, i2, q2⟩)
  refine thn args fun us s2 ⟨vs, H2, J2, rv, F2, M2, ds, sF, h2, i2, q2⟩ => ?_
  obtain ⟨of2, nf2, _⟩ := J2.pin (f, _) (List.mem_append_right _ List.mem_cons_self)
  have I2 : L2.Inv X pins σ H2 s2 := J2.pins_of fun p hp => J2.pin p (List.mem_append_right _ (List.mem_cons_of_mem _ hp))
  refine ⟨I2.kIn, ?_⟩
  have hl : (Value.ref f :: us).length = (a :: ps).length := by
    rw [List.length_cons, List.length_cons, ← rv.length, i2.length, hlen _ _ _ _ q2]
  have b := hb s2 (.ref f :: us) I2.kIn (by rw [List.append_nil]; exact hl)
  rw [List.append_nil] at b
  have rc : codeAny (model X.prog X.w) X.A (.call (.ref g) ⟨.ref f :: us, []⟩) (CR (L2N.CX X.prog X.w) X.stack X.prog X.w H2 s2 Q E0) s2 := by
    refine LamX.run_ofS (N := Ng) (ps := a :: ps) (us := .ref f :: us) (vs := .ref f :: vs) lk hcd S hr I2.env0 b (.cons rfl rv) (by rw [← hl, List.length_cons, List.length_cons, rv.length]) fun hr' => ?_
    have acts : ∀ (W : WX) (Ψ : AX) (pn : List (Addr × Obj)) (xe : Value → Shared → Prop) (p1 p2 : Pos), L2N.Takes ((cxD X.prog X.w X.K X.mg X.base Ng x (defScope st) g cdv X.A X.stack s2 H2 E0).tr pn xe) W →
        DE ((cxD X.prog X.w X.K X.mg X.base Ng x (defScope st) g cdv X.A X.stack s2 H2 E0).tr pn xe) ⟨bxAt T.B F2, W, Ψ⟩ (.Call (.Name a p1) [] [] p2) (aAct (fun M' Φ' Ψ' => ta Ψ' Γ M' Φ') f Ψ) := fun W Ψ pn xe p1 p2 tk => by
      refine ⟨fun pz sz σz Hz Qz Iz ⟨Fz, Γz, Mz, Φz, wz, ⟨g0, gR⟩, zz⟩ => ?_⟩
      have sz2 : Same F2 Fz := wz.h.box.2
      have act := pe_actN (tb := fun E σ H Q => ∃ Ψ : XD → Mm → Prop, cE X.K ⟨T.B, fun cls d _ H => E cls d H, fun y _ M => Ψ y M⟩ (ta Ψ) σ H Q) (i := 0) (p1 := p1) (p2 := p2) I2 L of2 nf2 nfr (hbind _ _ _ _ _) tk hr' (fun E A outer s H hr2 => ⟨fun pins s' σ Hx Q I ⟨Ψ, h⟩ => (hbody E Ψ A outer s H f c' hr2).run pins s' σ Hx Q I h⟩) hN0 hva had hac
      obtain ⟨v, ev, iv⟩ := wz.v.get 0 _ g0
      cases iv
      refine act.run pz sz σz Hz Qz Iz ⟨ev, wz.h.sub _ _ (sz2 _ _ (sF _ _ hc1)), fun y M2 => Ψ y Γz M2, cE_mk ⟨(w.v.mono (wc_same.trans sF)).mono sz2, at_out wz.h, fun y cls d Γl M' σl F' H' s _ h xi hp => ?_⟩ gR fun d M' v F' H' s h i q => zz d M' v F' H' s (at_in h (sz2.trans s)) i q⟩
      exact wz.l y cls d Γz M' σz F' H' s (wz.v.mono s) (at_in h (sz2.trans s)) xi hp
    obtain ⟨tg, d, r⟩ := hG (bxAt T.B F2) cdv X.A X.stack s2 H2 f (fun M' Φ' Ψ' => ta Ψ' Γ M' Φ') hr' (fun W Ψ pn xe p1 p2 tk => acts W Ψ pn xe p1 p2 tk) ds M2 Φ q2
    exact ⟨_, d, cS_mk (T := ctD (bxAt T.B F2) E0 fun _ _ => False) ⟨vw_start (.cons (.ref f) i2), at_in h2 (Same.refl F2), fun _ _ _ _ _ _ _ _ _ _ _ _ z => z.elim⟩ r ⟨fun Γ' M' σ' F' H' s v h q => z _ M' _ F' H' ((wc_same.trans sF).trans s) (at_out h) .non q, fun d M' v F' H' s h i q => z d M' v F' H' ((wc_same.trans sF).trans s) (at_out h) i q, fun _ _ _ _ _ _ _ _ q => q.elim, fun _ _ _ _ _ _ _ _ q => q.elim⟩⟩
  refine wpAny_call (codeAny_mono rc fun r s3 hq => ?_)
  cases r with
  | error e =>
    obtain ⟨_, _, _, _, _, _, _, _, _, _, _, _, z⟩ := hq
    exact z.elim
  | ok fl =>
    cases fl with
    | ret u => exact I2.after hq
    | next => exact False.elim hq
    | brk => exact False.elim hq
    | cont => exact False.elim hq
end
end DL

set_option Elab.async false
set_option linter.all false
set_option maxRecDepth 100000
set_option maxHeartbeats 2000000
/-! DN2: the law's walk with tables of code objects. -/
namespace DL
open PySem L2 PyProof.Rows
open LamX (CodeO TabB ExtN Tabs TabS LawAtS)
/-! ### boxes -/
/-- the tables -/
def bxTab (Tb : List (Addr × Str)) : Bx where
  fp := Tb.map (·.1)
  ok := fun F H => ∀ p ∈ Tb, TabF F H p
  loc := fun {F H H'} e h p hp => by
    obtain ⟨ps, e1, e2⟩ := h p hp
    exact ⟨ps, (e p.1 (List.mem_map.mpr ⟨p, hp, rfl⟩)).trans e1, e2⟩
  up := fun {F F' H} s h p hp => by
    obtain ⟨ps, e1, e2, e3⟩ := h p hp
    refine ⟨ps, e1, e2, fun pos cv hc => ?_⟩
    obtain ⟨c, e4, e5⟩ := e3 pos cv hc
    exact ⟨c, e4, s _ _ e5⟩
  low := fun {F H} h a ha => by
    obtain ⟨p, hp, rfl⟩ := List.mem_map.mp ha
    obtain ⟨ps, e1, _⟩ := h p hp
    exact ⟨_, e1⟩
theorem hasT_tab {Tb : List (Addr × Str)} : HasT (bxTab Tb) Tb := ⟨fun h => h, fun _ _ _ h => h, fun {F H} h a ha φ z => by
  obtain ⟨p, hp, rfl⟩ := List.mem_map.mp ha
  obtain ⟨ps, e1, _⟩ := h p hp
  rw [z] at e1
  cases e1⟩
/-- two boxes side by side -/
def bxAnd (B1 B2 : Bx) : Bx where
  fp := B1.fp ++ B2.fp
  ok := fun F H => B1.ok F H ∧ B2.ok F H ∧ ∀ a ∈ B1.fp, a ∉ B2.fp
  loc := fun e h => ⟨B1.loc (fun a ha => e a (List.mem_append_left _ ha)) h.1, B2.loc (fun a ha => e a (List.mem_append_right _ ha)) h.2.1, h.2.2⟩
  up := fun s h => ⟨B1.up s h.1, B2.up s h.2.1, h.2.2⟩
  low := fun h a ha => (List.mem_append.mp ha).elim (B1.low h.1 a) (B2.low h.2.1 a)
theorem hasT_heap {h c : Addr} {B : Bx} {Tb : List (Addr × Str)} (hT : HasT B Tb) : HasT (bxAnd (bxHeap h c) B) Tb := by
  refine ⟨fun x => hT.get x.2.1, fun {F F1 H H1} x s e t => ⟨?_, hT.put x.2.1 s e t, x.2.2⟩, fun {F H} x a ha φ z => ?_⟩
  · obtain ⟨n, cs, st, h1, h2, h3⟩ := x.1
    exact ⟨n, cs, st, e _ _ h1 fun ps z => (by cases z), e _ _ h2 fun ps z => (by cases z), h3⟩
  · rcases List.mem_append.mp ha with ha | ha
    · obtain ⟨n, cs, st, h1, h2, h3⟩ := x.1
      rcases List.mem_cons.mp ha with rfl | ha
      · rw [z] at h1
        cases h1
      · rw [List.mem_singleton.mp ha] at z
        rw [z] at h2
        cases h2
    · exact hT.noext x.2.1 a ha φ z
section
variable {K : PySem.W.Frag} {M : Mm} {F H : Hp} {h c : Addr} {B : Bx}
theorem heapB_open (x : Hs K (bxAnd (bxHeap h c) B) M F H) : ∃ cs s, cs.length ≤ 1000 ∧ Hs K B (heapM h c cs s ++ M) F H := by
  obtain ⟨⟨n, cs, s, h1, h2, h3⟩, xb, xd⟩ := x.box
  have mh : h ∈ (bxHeap h c).fp := List.mem_cons_self
  have mc : c ∈ (bxHeap h c).fp := List.mem_cons_of_mem _ List.mem_cons_self
  have out : ∀ a, a ∈ (bxHeap h c).fp → ∀ q ∈ M, q.1 ≠ a := fun a ha q hq e => (x.mem q hq).2.1 (List.mem_append_left _ (by rw [e]; exact ha))
  refine ⟨cs, s, h3, x.sub, fun q hq => ?_, ?_, xb, fun a ha => x.bfr a (List.mem_append_right _ ha), x.nt⟩
  · rcases List.mem_cons.mp hq with rfl | hq
    · exact ⟨x.bfr h (List.mem_append_left _ mh), xd h mh, _, h1, .cons (.ref c) (.cons (.int s) .nil)⟩
    · rcases List.mem_cons.mp hq with rfl | hq
      · exact ⟨x.bfr c (List.mem_append_left _ mc), xd c mc, _, h2, IsL.of_ints cs⟩
      · obtain ⟨m1, m2, m3⟩ := x.mem q hq
        exact ⟨m1, fun z => m2 (List.mem_append_right _ z), m3⟩
  · show (h :: c :: M.map (·.1)).Nodup
    have no : ∀ a, a ∈ (bxHeap h c).fp → a ∉ M.map (·.1) := fun a ha hm => by
      obtain ⟨q, hq, e⟩ := List.mem_map.mp hm
      exact out a ha q hq e
    refine List.nodup_cons.mpr ⟨fun hm => ?_, List.nodup_cons.mpr ⟨no c mc, x.nd⟩⟩
    rcases List.mem_cons.mp hm with e | hm
    · exact n e
    · exact no h mh hm
theorem heapB_close {cs : List Int} {s : Int} (hl : cs.length ≤ 1000) (x : Hs K B (heapM h c cs s ++ M) F H) : Hs K (bxAnd (bxHeap h c) B) M F H := by
  have nd : (h :: c :: M.map (·.1)).Nodup := x.nd
  obtain ⟨n1, nd⟩ := List.nodup_cons.mp nd
  obtain ⟨n2, nd⟩ := List.nodup_cons.mp nd
  obtain ⟨f1, b1, vs1, e1, l1⟩ := x.mem (h, .lst [.ref c, .int s]) List.mem_cons_self
  obtain ⟨f2, b2, vs2, e2, l2⟩ := x.mem (c, .lst (cs.map D.int)) (List.mem_cons_of_mem _ List.mem_cons_self)
  have both : ∀ a ∈ (bxHeap h c).fp, a = h ∨ a = c := fun a ha => by
    rcases List.mem_cons.mp ha with e | ha
    · exact .inl e
    · exact .inr (List.mem_singleton.mp ha)
  have hv : vs1 = [.ref c, .int s] := by
    cases l1 with
    | cons i1 i2 =>
      cases i2 with
      | cons i2 i3 =>
        cases i1
        cases i2
        cases i3
        rfl
  refine ⟨x.sub, fun q hq => ?_, nd, ⟨⟨fun e => n1 (by rw [e]; exact List.mem_cons_self), cs, s, by rw [← hv]; exact e1, by rw [← l2.ints]; exact e2, hl⟩, x.box, fun a ha => ?_⟩, fun a ha => ?_, x.nt⟩
  · obtain ⟨m1, m2, m3⟩ := x.mem q (List.mem_cons_of_mem _ (List.mem_cons_of_mem _ hq))
    have hk : q.1 ∈ M.map (·.1) := List.mem_map.mpr ⟨q, hq, rfl⟩
    refine ⟨m1, fun hm => ?_, m3⟩
    rcases List.mem_append.mp hm with hm | hm
    · rcases both _ hm with e | e
      · exact n1 (by rw [← e]; exact List.mem_cons_of_mem _ hk)
      · exact n2 (by rw [← e]; exact hk)
    · exact m2 hm
  · rcases both a ha with rfl | rfl
    · exact b1
    · exact b2
  · rcases List.mem_append.mp ha with ha | ha
    · rcases both a ha with rfl | rfl
      · exact f1
      · exact f2
    · exact x.bfr a ha
end
theorem draw_boxB {P : Program} {w : World} {K : PySem.W.Frag} {mg : Str → Option Value} {base : Heap} {k : Nat} {f : Addr} {fd : FuncData} {ps : List Str} {CX : CXT} {B : Bx} (G : FnOk P w K mg base CX k f fd ps (conc K B spDrawM)) (h c : Addr) :
    FnOk P w K mg base CX k f fd ps (conc K (bxAnd (bxHeap h c) B) (spDraw h)) := G.imp fun vs H Q E ⟨ds, F, M, Φ, Ψ, hv, hh, ha, hq, he⟩ => by
  unfold spDraw at ha
  split at ha
  rotate_left
  · exact ha.elim
  rename_i h' n
  obtain ⟨rfl, hn, ha⟩ := ha
  obtain ⟨cs, s, hl, ho⟩ := heapB_open hh
  refine ⟨_, F, heapM h' c cs s ++ M, fun d M' => ∃ cs' s' M1, cs'.length ≤ 1000 ∧ M' = heapM h' c cs' s' ++ M1 ∧ Φ d M1, fun _ _ => False, hv, ho, ⟨h', c, cs, s, n, M, rfl, rfl, hn, hl, fun r cs' s' h1 h2 h3 => ⟨cs', s', M, h1, rfl, ha r h2 h3⟩⟩, fun d M' v F' H' s1 h1 i1 q1 => ?_, fun _ _ _ _ _ _ _ _ _ z => z.elim⟩
  obtain ⟨cs', s', M1, c1, rfl, q1⟩ := q1
  exact hq d M1 v F' H' s1 (heapB_close c1 h1) i1 q1
end DL

set_option Elab.async false
set_option linter.all false
set_option maxRecDepth 100000
set_option maxHeartbeats 2000000
/-! DN3: defs that bear lambdas; the law's end with tables. -/
namespace DL
open PySem L2 PyProof.Rows
open LamX (CodeO TabB ExtN Tabs TabS LawAtS)
/-- a hidden part more -/
def aBoxT {ι : Type} (B0 : Bx) (bx : ι → Bx) (t : ι → AS) (A : AEnds) (Γ : Gm) (M : Mm) : Prop := ∃ i M', (∀ K F H, Hs K B0 M F H → Hs K (bx i) M' F H) ∧ t i A Γ M'
theorem un_and {K : PySem.W.Frag} {M : Mm} {F H : Hp} {B1 B0 : Bx} (x : Hs K (bxAnd B1 B0) M F H) : Hs K B0 M F H :=
  ⟨x.sub, fun q hq => let ⟨m1, m2, m3⟩ := x.mem q hq; ⟨m1, fun z => m2 (List.mem_append_right _ z), m3⟩, x.nd, x.box.2.1, fun a ha => x.bfr a (List.mem_append_right _ ha), x.nt⟩
section
variable {X : Cx}
theorem dss_boxT {ι : Type} {B0 : Bx} {b1 : ι → Bx} {W : WX} {Ψ : AX} {sts : List Stmt} {t : ι → AS} (h : ∀ i, DSs X ⟨bxAnd (b1 i) B0, W, fun _ _ _ => False⟩ sts (t i)) : DSs X ⟨B0, W, Ψ⟩ sts (aBoxT B0 (fun i => bxAnd (b1 i) B0) t) :=
  ⟨fun pins s σ H D I ⟨F, Γ, M, A, w, q, m1, m2, m3, m4⟩ => by
    obtain ⟨i, M', cv, q⟩ := q
    refine (h i).run pins s σ H D I (cS_mk (T := ⟨bxAnd (b1 i) B0, W, fun _ _ _ => False⟩) ⟨w.v, cv _ _ _ w.h, fun _ _ _ _ _ _ _ _ _ _ _ _ z => z.elim⟩ q ⟨?_, ?_, ?_, ?_⟩)
    · exact fun Γ2 M2 σ2 F2 H2 s2 v2 h2 q2 => m1 Γ2 M2 σ2 F2 H2 s2 v2 (un_and h2) q2
    · exact fun d M2 v F2 H2 s2 h2 i2 q2 => m2 d M2 v F2 H2 s2 (un_and h2) i2 q2
    · exact fun Γ2 M2 σ2 F2 H2 s2 v2 h2 q2 => m3 Γ2 M2 σ2 F2 H2 s2 v2 (un_and h2) q2
    · exact fun Γ2 M2 σ2 F2 H2 s2 v2 h2 q2 => m4 Γ2 M2 σ2 F2 H2 s2 v2 (un_and h2) q2⟩
end
section
variable {P : Program} {w : World} {K : PySem.W.Frag} {mg : Str → Option Value} {base : Heap} {B : Bx}
/-- THE RULE for a def whose code object is known -/
theorem dfnC {x qual : Str} {st : Stmt} {f c : Addr} {fd : FuncData} {N ps : List Str} {k : Nat} {asp : ASp} (F : Fun K x qual st f fd) (S : FnScope N ps (defScope st)) (hc : fd.code = .ref c) (hlen : ∀ ds M Φ Ψ, asp ds M Φ Ψ → ds.length = ps.length)
    (hb : ∀ (A : Around) (outer : List Env) (s : Shared) (H : Hp) (E : XK), Room k (A.deeper (envOfC qual (defScope st) s.heap.objs.size f (.ref c))) → ∀ ds M Φ Ψ, asp ds M Φ Ψ →
      ∃ ta, DSs (cxD P w K mg base N qual (defScope st) f (.ref c) A outer s H E) (ctD B E Ψ) (defBody st) ta ∧ ta { nx := fun _ M => Φ .non M, rt := Φ } (startD N ds) M) : FnOk P w K mg base (L2N.CX P w) (k + 1) f fd ps (conc K B asp) := by
  obtain ⟨oc, od, kV, doc, pm, an, cdv, ct, osl, e, lk, hcd⟩ := F.ex
  subst e
  have hc : cdv = .ref c := hc
  subst hc
  exact fn_of lk hcd S (conc_len hlen) fun A outer s H vs Q E hr hsp => body_go rfl hsp (hb A outer s H E hr)
end
theorem LamFn.mono {P : Program} {w : World} {K : PySem.W.Frag} {mg : Str → Option Value} {base : Heap} {k k' : Nat} {x : Str} {st : Stmt} {g : Addr} {N : List Str} {a : Str} {lsp : LSp} (h : LamFn P w K mg base k x st g N a lsp) (e : k ≤ k') : LamFn P w K mg base k' x st g N a lsp :=
  fun B cdv A outer s H f R hr => h B cdv A outer s H f R (hr.mono e)
theorem hu_of : ∀ {Tb : List (Addr × Str)} {P : Addr} {q : Str}, (Tb.map (·.1)).Nodup → (P, q) ∈ Tb → ∀ p ∈ Tb, p.1 = P → p.2 = q
  | [], _, _, _, h, _, _, _ => nomatch h
  | a :: Tb, P, q, nd, h, p, hp, e => by
    obtain ⟨n1, n2⟩ := List.nodup_cons.mp nd
    rcases List.mem_cons.mp h with rfl | h2
    · rcases List.mem_cons.mp hp with rfl | hp
      · rfl
      · exact absurd (List.mem_map.mpr ⟨p, hp, e⟩) n1
    · rcases List.mem_cons.mp hp with rfl | hp2
      · exact absurd (show p.1 ∈ Tb.map (·.1) from List.mem_map.mpr ⟨(P, q), h2, e.symm⟩) n1
      · exact hu_of n2 h2 p hp2 e
theorem law_concT {K : PySem.W.Frag} {H : Hp} {a : Addr} {ns : List Int} {Tb : List (Addr × Str)} (hl : ns.length ≤ 63) (hT : ∀ p ∈ Tb, H p.1 = some (.tbl #[])) (hS : SqL K H a (ns.map V.int)) : conc K (bxTab Tb) aspLaw [.ref a] H (fun v _ => v = .bl true) fun _ _ _ => False := by
  have hf : ∀ b ∈ (bxTab Tb).fp, cutT H b = none := fun b hb => by
    obtain ⟨p, hp, e⟩ := List.mem_map.mp hb
    unfold cutT
    rw [← e, hT p hp]
  have hb : (bxTab Tb).ok (cutT H) H := fun p hp => ⟨#[], hT p hp, True.intro, fun pos cv hc => by cases hc⟩
  exact ⟨[.lst (ns.map D.int)], cutT H, [], fun d _ => d = .bl true, fun _ _ => False, .cons (.lst (cutT_sq hS) (IsL.of_ints ns)) .nil, ⟨cutT_sub, fun _ h => absurd h List.not_mem_nil, List.nodup_nil, hb, hf, cutT_nt⟩, ⟨ns, rfl, hl, rfl, fun _ => rfl⟩,
    fun d M' v F' H' _ _ i e => by
      subst e
      cases i
      rfl, fun _ _ _ _ _ _ _ _ _ z => z⟩
theorem tabIn_of {K : PySem.W.Frag} {x : Str} {f c Pt : Addr} {o1 o3 : Value} {d1 d3 : Option Addr} {fd : FuncData} {s1 s3 : Array (Option Value)} {vs : Array Value} (a : PySem.W.nsIn K mainGlobals x = some (some (.ref f))) (l : K.lookup f = some ⟨o1, d1, .func fd, s1⟩) (hc : fd.code = .ref c) (lc : K.lookup c = some ⟨o3, d3, .fields vs, s3⟩) (hv : vs[11]? = some (.ref Pt)) :
    PySem.W.tabIn K x = some (c, Pt) := by
  unfold PySem.W.tabIn
  rw [a]
  dsimp only
  rw [l]
  dsimp only
  rw [hc]
  dsimp only
  rw [lc]
  dsimp only
  rw [hv]
/-- what is known of the top's own code objects at the head -/
def TopT (q : Program) (K : PySem.W.Frag) (h : Heap) : Prop := ∀ (x : Str) (c Pt : Addr), ((recsOf q).find? (fun e => e.name == x)).isSome = true → PySem.W.tabIn K x = some (c, Pt) → PySem.W.CodeHd h c Pt ∧ h.get? Pt = some { cls := .none, data := .fields #[] }
theorem walk_lam {l : PySem.W.OpenLaw} {n k : Nat} {q : Program} {loose : List Str} {XP : (Str → Option Value) → Heap → Prop} {YP : World → Heap → Prop} {d : DefRec} {K : Params → PySem.W.Frag} {CX : World → CXT} {x : Str}
    (hn : l.most = some n) (hn2 : n ≤ sizeLine) (hdf : d.params.defaults = []) (hr : Room k callerA) (hY : ∀ (w : World) (h : Heap), YP w h → (K w.params).In h)
    (F : ∀ (w : World) (mg : Str → Option Value) (fa : Addr) (h : Heap), YP w h → (K w.params).In h → h.Ns mainGlobals mg → mg d.name = some (.ref fa) → TopT q (K w.params) h → LawAtS l w (K w.params) (CX w) k n x mg fa h)
    (hCX : ∀ (w : World) (H : Hp) (s : Shared) (e : Value) (s' : Shared), CX w [] H s (fun _ _ _ => False) e s' → False) :
    PySem.W.WalkO q loose XP YP l.row.toRowW d [] (fun f vs => PySem.call f vs) := by
  refine Att.attach_callB hn hdf fun w s₀ s₁ mg mb fa o pm cd doc a vs ns G Y ho hd hcd hmg hobj hints hlen hbits hg => ?_
  have KX := hY w _ Y
  have tops : TopT q (K w.params) s₁.heap := fun x c Pt hs ht => by
    obtain ⟨d', hr'⟩ := Option.isSome_iff_exists.mp hs
    exact PySem.W.tab_of G.T KX hr' ht
  obtain ⟨fd, cs, sp, hT, nT, C, hb, hsp, hF⟩ := F w mg fa _ Y KX G.T.g hmg tops
  exact LamX.law_callTs KX G.T.g G.T.b G.T.builtins G.T.nolimit hg hT nT C G.T.bmain hobj hints (Nat.le_trans hlen hn2) hr hF hb (fun H hH hS => hsp H a ns hlen hbits hH hS) fun H e s' => hCX w H s₁ e s'
end DL

set_option Elab.async false
set_option linter.all false
set_option maxRecDepth 100000
set_option maxHeartbeats 2000000
/-! DN4: a local name called; xs.index(y); draws from [cell, x, y]. -/
namespace L2
open PySem PyProof.Rows
section
variable {X : Cx} {K : PySem.W.Frag} {e : Expr} {es : List Expr} {t : TA} {pos p : Pos} {x : Str} {i k : Nat} {f : Addr} {fd : FuncData} {ps : List Str} {sp : Sp} {CX : CXT} {ds : List Value} {dvs : List V} {E : St → XK}
theorem pe_callV (F : FnOk X.prog X.w X.K X.mg X.base CX k f fd ps sp) (hr : Room k X.A) (hk : PySem.W.keepIn X.K (.ref f) = true) (hb : Binds X.K fd ps ds) (hd : Vals dvs ds) (hx : ∀ σ, PassesAt CX X σ (E σ))
    (hN : X.N[i]? = some x) (hv : Vis X.env.scope x) (ha : PA X (e :: es) t) (hdb : (x == ("__debug__" : Str)) = false := by decide) (hcd : (x == ("__classdict__" : Str)) = false := by decide) (he : starEach (e :: es) X.env = (false, eval e X.env) :: starEach es X.env := by rfl) (hpl : (backTo pos (starEach es X.env)).any (·.1) = false := by rfl) :
    PE X (.Call (.Name x p) (e :: es) [] pos) (fun σ H Q => σ[i]? = some (some (.ref f)) ∧ tCallSD sp dvs E t σ H Q) := by
  refine ⟨fun pins s σ H Q I ⟨hs, h⟩ => ?_⟩
  have look := (pe_var (pos := p) (i := i) hN hv hdb hcd).run pins s σ H (fun v H1 => v = .ref f ∧ H1 = H) I ⟨.ref f, hs, rfl, rfl⟩
  refine wpAny_Call_Name_kw (thn look fun u s1 ⟨v, H1, I1, r1, ev, eH⟩ => ?_)
  subst ev eH
  cases r1
  refine PySem.W.callWith_K (h₀ := X.base) I1.ok.mod.kin hk (thn (ha.run pos pins s1 σ H1 _ I1 h) fun us s2 ⟨vs, H2, I2, r, q⟩ => ⟨I2.kIn, ?_⟩) he hpl
  exact run_fnSD F hr hb hd (hx σ) I2 r q
end
end L2
namespace DL
open PySem L2 PyProof.Rows
section
variable {X : Cx} {T : Ct} {e a b : Expr} {pos p2 : Pos} {K : PySem.W.Frag} {ta tb : AE} {es : List Expr} {tr : AA} {Γ : Gm} {M : Mm}
/-- g(..), where the local g is f -/
def aCallV (i : Nat) (f : Addr) (asp : ASp) (dds : List D) (Ψ : AX) (tr : AA) (Γ : Gm) (M : Mm) (Φ : AK) : Prop := Γ[i]? = some (some (.ref f)) ∧ aCall asp dds Ψ tr Γ M Φ
theorem de_callV {x : Str} {p : Pos} {i k : Nat} {f : Addr} {fd : FuncData} {ps : List Str} {asp : ASp} (G : FnOk X.prog X.w X.K X.mg X.base (L2N.CX X.prog X.w) k f fd ps (conc X.K T.B asp)) (hr : Room k X.A) (hk : PySem.W.keepIn X.K (.ref f) = true)
    (hb : Binds X.K fd ps []) (tk : L2N.Takes X T.W) (ha : DA X T (e :: es) tr) (hN : X.N[i]? = some x := by rfl) (hv : Vis X.env.scope x := by first | exact Or.inl rfl | exact Or.inr (Or.inl rfl) | exact Or.inr (Or.inr rfl))
    (hdb : (x == ("__debug__" : Str)) = false := by decide) (hcd : (x == ("__classdict__" : Str)) = false := by decide) (he : starEach (e :: es) X.env = (false, eval e X.env) :: starEach es X.env := by rfl) (hpl : (backTo pos (starEach es X.env)).any (·.1) = false := by rfl) :
    DE X T (.Call (.Name x p) (e :: es) [] pos) (aCallV i f asp [] T.Ψ tr) :=
  de_of (pe_callV (i := i) G hr hk hb .nil (fun σ => L2N.passAt tk σ) hN hv ha hdb hcd he hpl) fun F σ H Γ M Φ Q w ⟨hg, q⟩ z => by
    obtain ⟨v, ev, iv⟩ := w.v.get i _ hg
    cases iv
    exact ⟨ev, cA_mk w q fun ds M1 vs F1 H1 s1 h1 i1 q1 =>
      ⟨ds ++ [], F1, M1, Φ, fun x M2 => T.Ψ x Γ M2, i1.append .nil, h1, q1, fun d M2 v F2 H2 s2 h2 i2 q2 => z d M2 v F2 H2 (s1.trans s2) h2 i2 q2, fun y cls d M2 F2 H2 s2 h2 xi q2 => w.l y cls d Γ M2 σ F2 H2 (s1.trans s2) (w.v.mono (s1.trans s2)) h2 xi q2⟩⟩
/-- one of two rules -/
def aOr2 (t u : AE) (Γ : Gm) (M : Mm) (Φ : AK) : Prop := t Γ M Φ ∨ u Γ M Φ
theorem de_or2 {t u : AE} (h1 : DE X T e t) (h2 : DE X T e u) : DE X T e (aOr2 t u) := ⟨fun pins s σ H Q I ⟨F, Γ, M, Φ, w, q, z⟩ => by
  rcases q with q | q
  · exact h1.run pins s σ H Q I ⟨F, Γ, M, Φ, w, q, z⟩
  · exact h2.run pins s σ H Q I ⟨F, Γ, M, Φ, w, q, z⟩⟩
/-! ### xs.index(y), of flat data -/
def aIdx_k (tb : AE) (Γ : Gm) (Φ : AK) (d : D) (M1 : Mm) : Prop := match d with
  | .lst xs => tb Γ M1 fun e M2 => (flatD e = true ∧ xs.all flatD = true) ∧ ∃ (j : Nat) (z : D), xs[j]? = some z ∧ eqFD z e = true ∧ (∀ m z', m < j → xs[m]? = some z' → eqFD z' e = false) ∧ Φ (.int (j : Nat)) M2
  | _ => False
def aIdx (ta tb : AE) (Γ : Gm) (M : Mm) (Φ : AK) : Prop := ta Γ M fun d M1 => aIdx_k tb Γ Φ d M1
theorem de_idx (ha : DE X T a ta) (hb : DE X T b tb)
    (hbase : attributeBase a "index" X.env (eval a X.env) = eval a X.env := by rfl)
    (hfew : ((backTo pos (starEach [b] X.env)).all (fun x => !x.1) && (backToKw pos (keywordEach [] X.env)).all (fun x => x.1.isSome) && decide ([b].length + ([] : List Keyword).length + (if ([] : List Keyword).isEmpty then 0 else 1) < 30)) = true := by rfl)
    (hline : (p2.endLine == pos.line) = true := by rfl) (hst : starEach [b] X.env = (false, eval b X.env) :: starEach [] X.env := by rfl) (hplain : (backTo pos (starEach [] X.env)).any (·.1) = false := by rfl) : DE X T (.Call (.Attribute a "index" p2) [b] [] pos) (aIdx ta tb) :=
  de_of (pe_bm PySem.F.plainAttrs_list PySem.F.slot_list_index PySem.F.type_list_index mt_index ha (pa_cons hb pa_nil hst) hbase hfew hline hst hplain) fun F σ H Γ M Φ Q w q z => cE_mk w q fun d M1 x F1 H1 s1 h1 i1 q1 => by
    unfold aIdx_k at q1
    split at q1
    · rename_i xs
      cases i1 with
      | @lst l vs _ hq hl =>
        refine ⟨.inl ⟨rfl, _, (h1.sub.seq hq)⟩, cE_mk (w.go s1 h1) q1 fun e M2 y F2 H2 s2 h2 i2 ⟨⟨f1, f2⟩, j, z0, hz, hz1, hz2, q2⟩ => ?_⟩
        have hl2 := hl.mono s2
        obtain ⟨v, hv, iv⟩ := hl2.get hz
        refine ⟨l, vs, y, j, v, rfl, rfl, h2.sub.seq (s2.seq hq), flat_of i2 f1, flat_all hl2 f2, hv, ?_, fun m v' hm hv' => ?_, z _ M2 _ F2 H2 (s1.trans s2) h2 (.int _) q2⟩
        · rw [eqF_of iv i2 (List.all_eq_true.mp f2 _ (List.mem_of_getElem? hz)) f1]
          exact hz1
        · have hmx : m < xs.length := by
            have := (List.getElem?_eq_some_iff.mp hv').1
            rw [hl2.length] at this
            exact this
          have e1 := List.getElem?_eq_getElem hmx
          obtain ⟨v2, hv2, iv2⟩ := hl2.get e1
          rw [hv'] at hv2
          cases hv2
          rw [eqF_of iv2 i2 (List.all_eq_true.mp f2 _ (List.mem_of_getElem? e1)) f1]
          exact hz2 m _ hm e1
    · exact q1.elim
end
/-! ### x is True, whatever x -/
theorem op_isAny {X : Cx} : OpR X (compareOp .Is) (fun x y H Q => ∃ b : Bool, y = .bl b ∧ Q (.bl (decide (x = .bl b))) H) := by
  intro pins s σ H x y v u Q I rx ry h
  obtain ⟨b, rfl, q⟩ := h
  cases (show u = Value.bool b from ry)
  by_cases e : x = .bl b
  · subst e
    cases (show v = Value.bool b from rx)
    exact wpAny_is_self rfl ⟨.bl true, H, I, rfl, by simpa using q⟩
  · have fin : ∃ w H1, Inv X pins σ H1 s ∧ RelV w (Value.bool false) ∧ Q w H1 := ⟨.bl false, H, I, rfl, by simpa [e] using q⟩
    cases x with
    | bl c =>
      cases (show v = Value.bool c from rx)
      exact wpAny_is_other rfl (fun z => e (by rw [Value.bool.inj z])) fin
    | non =>
      cases (show v = Value.none from rx)
      exact wpAny_is_other rfl (fun z => by cases z) fin
    | ref a =>
      cases (show v = Value.ref a from rx)
      exact wpAny_is_other rfl (fun z => by cases z) fin
    | ty n =>
      cases (show v = Value.type n from rx)
      exact wpAny_is_other rfl (fun z => by cases z) fin
    | int i =>
      obtain ⟨t, rfl⟩ := rx
      exact wpAny_is_other rfl (fun z => by cases z) fin
    | str i =>
      obtain ⟨t, rfl⟩ := rx
      exact wpAny_is_other rfl (fun z => by cases z) fin
    | byt i =>
      obtain ⟨t, rfl⟩ := rx
      exact wpAny_is_other rfl (fun z => by cases z) fin
    | flt i =>
      obtain ⟨t, rfl⟩ := rx
      exact wpAny_is_other rfl (fun z => by cases z) fin
def isB (b : Bool) : D → Bool
  | .bl c => decide (c = b)
  | _ => false
theorem isB_of {K : PySem.W.Frag} {F : Hp} {b : Bool} {d : D} {x : V} (i : Is K F x d) : decide (x = .bl b) = isB b d := by
  cases i <;> first
    | rfl
    | (simp [isB])
def fIsT (d e : D) (M : Mm) (Φ : AK) : Prop := match e with
  | .bl b => Φ (.bl (isB b d)) M
  | _ => False
theorem fIsT_b {d : D} {b : Bool} {M : Mm} {Φ : AK} : fIsT d (.bl b) M Φ = Φ (.bl (isB b d)) M := rfl
section
variable {X : Cx} {T : Ct} {a b : Expr} {pos : Pos} {ta tb : AE} {K : PySem.W.Frag} {B : Bx}
theorem ab_isT : Ab2 K B (fun x y H Q => ∃ b : Bool, y = .bl b ∧ Q (.bl (decide (x = .bl b))) H) fIsT := fun F H x y d e M Φ Q h i1 i2 q z => by
  unfold fIsT at q
  split at q
  · cases i2
    exact ⟨_, rfl, by rw [isB_of i1]; exact z _ M _ F H (Same.refl F) h (.bl _) q⟩
  · exact q.elim
theorem de_isT (ha : DE X T a ta) (hb : DE X T b tb) : DE X T (.Compare a [.Is] [b] pos) (aOp fIsT ta tb) := de_cmp op_isAny ab_isT ha hb
theorem dt_isT (ha : DE X T a ta) (hb : DE X T b tb) : DT X T (.Compare a [.Is] [b] pos) (aB (aOp fIsT ta tb)) := dt_cmp op_isAny ab_isT ha hb
end
/-! ### draws from [cell, x, y] -/
def boxM (b : Addr) (a x y : Int) : Mm := [(b, .lst [.int a, .int x, .int y])]
def bxBox (b : Addr) : Bx where
  fp := [b]
  ok := fun _ H => ∃ a x y : Int, H b = some (.lst [.int a, .int x, .int y])
  up := fun _ x => x
  loc := fun {_ H H'} e ⟨a, x, y, h⟩ => ⟨a, x, y, (e b (by simp)).trans h⟩
  low := fun {_ H} ⟨a, x, y, h⟩ c hc => by
    rw [List.mem_singleton.mp hc]
    exact ⟨_, h⟩
theorem hasT_box {b : Addr} {B : Bx} {Tb : List (Addr × Str)} (hT : HasT B Tb) : HasT (bxAnd (bxBox b) B) Tb := by
  refine ⟨fun x => hT.get x.2.1, fun {F F1 H H1} x s e t => ⟨?_, hT.put x.2.1 s e t, x.2.2⟩, fun {F H} x a ha φ z => ?_⟩
  · obtain ⟨a, c, y, h1⟩ := x.1
    exact ⟨a, c, y, e _ _ h1 fun ps z => (by cases z)⟩
  · rcases List.mem_append.mp ha with ha | ha
    · obtain ⟨a, c, y, h1⟩ := x.1
      rw [List.mem_singleton.mp ha] at z
      rw [z] at h1
      cases h1
    · exact hT.noext x.2.1 a ha φ z
section
variable {K : PySem.W.Frag} {M : Mm} {F H : Hp} {b : Addr} {B : Bx}
theorem boxB_open (x : Hs K (bxAnd (bxBox b) B) M F H) : ∃ a c y, Hs K B (boxM b a c y ++ M) F H := by
  obtain ⟨⟨a, c, y, h1⟩, xb, xd⟩ := x.box
  have mb : b ∈ (bxBox b).fp := List.mem_singleton.mpr rfl
  refine ⟨a, c, y, x.sub, fun q hq => ?_, ?_, xb, fun a ha => x.bfr a (List.mem_append_right _ ha), x.nt⟩
  · rcases List.mem_cons.mp hq with rfl | hq
    · exact ⟨x.bfr b (List.mem_append_left _ mb), xd b mb, _, h1, .cons (.int a) (.cons (.int c) (.cons (.int y) .nil))⟩
    · obtain ⟨m1, m2, m3⟩ := x.mem q hq
      exact ⟨m1, fun z => m2 (List.mem_append_right _ z), m3⟩
  · show (b :: M.map (·.1)).Nodup
    refine List.nodup_cons.mpr ⟨fun hm => ?_, x.nd⟩
    obtain ⟨q, hq, e⟩ := List.mem_map.mp hm
    exact (x.mem q hq).2.1 (List.mem_append_left _ (by rw [e]; exact mb))
theorem boxB_close {a c y : Int} (x : Hs K B (boxM b a c y ++ M) F H) : Hs K (bxAnd (bxBox b) B) M F H := by
  have nd : (b :: M.map (·.1)).Nodup := x.nd
  obtain ⟨n1, nd⟩ := List.nodup_cons.mp nd
  obtain ⟨f1, b1, vs1, e1, l1⟩ := x.mem (b, .lst [.int a, .int c, .int y]) List.mem_cons_self
  have hv : vs1 = [.int a, .int c, .int y] := by
    cases l1 with
    | cons i1 i2 =>
      cases i2 with
      | cons i2 i3 =>
        cases i3 with
        | cons i3 i4 =>
          cases i1
          cases i2
          cases i3
          cases i4
          rfl
  refine ⟨x.sub, fun q hq => ?_, nd, ⟨⟨a, c, y, by rw [← hv]; exact e1⟩, x.box, fun a ha => ?_⟩, fun a ha => ?_, x.nt⟩
  · obtain ⟨m1, m2, m3⟩ := x.mem q (List.mem_cons_of_mem _ hq)
    have hk : q.1 ∈ M.map (·.1) := List.mem_map.mpr ⟨q, hq, rfl⟩
    refine ⟨m1, fun hm => ?_, m3⟩
    rcases List.mem_append.mp hm with hm | hm
    · exact n1 (by rw [← List.mem_singleton.mp hm]; exact hk)
    · exact m2 hm
  · rw [List.mem_singleton.mp ha]
    exact b1
  · rcases List.mem_append.mp ha with ha | ha
    · rw [List.mem_singleton.mp ha]
      exact f1
    · exact x.bfr a ha
end
def spTakeM : ASp := fun ds M Φ _ => ∃ (b : Addr) (a x y n : Int) (M1 : Mm), ds = [.ref b, .int n] ∧ M = boxM b a x y ++ M1 ∧ (0 < n ∧ n < 18446744073709551616) ∧ ∀ r a' x' y' : Int, 0 ≤ r → r < n → Φ (.int r) (boxM b a' x' y' ++ M1)
def spTake (b : Addr) : ASp := fun ds M Φ _ => match ds with
  | [.ref b', .int n] => b' = b ∧ (0 < n ∧ n < 18446744073709551616) ∧ ∀ r : Int, 0 ≤ r → r < n → Φ (.int r) M
  | _ => False
theorem take_boxB {P : Program} {w : World} {K : PySem.W.Frag} {mg : Str → Option Value} {base : Heap} {k : Nat} {f : Addr} {fd : FuncData} {ps : List Str} {CX : CXT} {B : Bx} (G : FnOk P w K mg base CX k f fd ps (conc K B spTakeM)) (b : Addr) :
    FnOk P w K mg base CX k f fd ps (conc K (bxAnd (bxBox b) B) (spTake b)) := G.imp fun vs H Q E ⟨ds, F, M, Φ, Ψ, hv, hh, ha, hq, he⟩ => by
  unfold spTake at ha
  split at ha
  rotate_left
  · exact ha.elim
  rename_i b' n
  obtain ⟨rfl, hn, ha⟩ := ha
  obtain ⟨a, x, y, ho⟩ := boxB_open hh
  refine ⟨_, F, boxM b' a x y ++ M, fun d M' => ∃ a' x' y' M1, M' = boxM b' a' x' y' ++ M1 ∧ Φ d M1, fun _ _ => False, hv, ho, ⟨b', a, x, y, n, M, rfl, rfl, hn, fun r a' x' y' h1 h2 => ⟨a', x', y', M, rfl, ha r h1 h2⟩⟩, fun d M' v F' H' s1 h1 i1 q1 => ?_, fun _ _ _ _ _ _ _ _ _ z => z.elim⟩
  obtain ⟨a', x', y', M1, rfl, q1⟩ := q1
  exact hq d M1 v F' H' s1 (boxB_close h1) i1 q1
end DL

set_option Elab.async false
set_option linter.all false
set_option maxRecDepth 100000
set_option maxHeartbeats 2000000
/-! DN5: parts of tuples, tuple(range(a, b)). -/
namespace DL
open PySem L2 PyProof.Rows
section
variable {X : Cx} {T : Ct} {a b : Expr} {pos p p2 : Pos} {ta tb : AE}
def aSlT_k (Φ : AK) (d : D) (lo hi : Option Int) (M3 : Mm) : Prop := match d with
  | .tup xs => Φ (.tup (cutD xs lo hi)) M3
  | _ => False
def aSlT (ta : AE) (tl th : AO) (Γ : Gm) (M : Mm) (Φ : AK) : Prop := ta Γ M fun d M1 => tl Γ M1 fun lo M2 => th Γ M2 fun hi M3 => aSlT_k Φ d lo hi M3
theorem aSlT_t {Φ : AK} {xs : List D} {lo hi : Option Int} {M : Mm} : aSlT_k Φ (.tup xs) lo hi M = Φ (.tup (cutD xs lo hi)) M := rfl
theorem de_slT {lo hi : Option Expr} {tl th : AO} (ha : DE X T a ta) (hl : DO X T lo tl) (hu : DO X T hi th) : DE X T (.Subscript a (.Slice lo hi none p2) pos) (aSlT ta tl th) :=
  de_of (pe_slice sl_tupA ha hl hu) fun F σ H Γ M Φ Q w q z => cE_mk w q fun d M1 x F1 H1 s1 h1 i1 q1 => cO_mk (w.go s1 h1) q1 fun lo M2 F2 H2 s2 h2 q2 => cO_mk ((w.go s1 h1).go s2 h2) q2 fun hi M3 F3 H3 s3 h3 q3 => by
    have i3 := (i1.mono s2).mono s3
    unfold aSlT_k at q3
    split at q3
    · rename_i xs
      cases i3 with
      | @tup l vs _ hq hl =>
        refine ⟨l, vs, rfl, same_t h3.sub hq, fun ⟨e1, e2⟩ => ?_, fun _ p hp => ?_⟩
        · have e : cutD xs lo hi = xs := by
            rw [hl.length] at e1 e2
            unfold cutD
            rw [e1, e2, List.drop_zero, Nat.sub_zero, List.take_length]
          rw [e] at q3
          exact z _ M3 _ _ _ ((s1.trans s2).trans s3) h3 (.tup hq hl) q3
        · have n3 := h3.free hp
          exact z _ M3 _ _ _ (((s1.trans s2).trans s3).trans (upd_same_ext n3)) (h3.laid hp) (.tup (.inl (.inl upd_same)) ((cut_isL hl).mono (upd_same_ext n3))) q3
    · exact q3.elim
def aTupRg_k (Φ : AK) (d e : D) (M : Mm) : Prop := match d, e with
  | .int i, .int j => RgOk i j ∧ Φ (.tup (rngD i (j - i).toNat)) M
  | _, _ => False
def aTupRg (ta tb : AE) (Γ : Gm) (M : Mm) (Φ : AK) : Prop := ta Γ M fun d M1 => tb Γ M1 fun e M2 => aTupRg_k Φ d e M2
theorem aTupRg_i {Φ : AK} {i j : Int} {M : Mm} : aTupRg_k Φ (.int i) (.int j) M = (RgOk i j ∧ Φ (.tup (rngD i (j - i).toNat)) M) := rfl
theorem rg_isL {K : PySem.W.Frag} {F : Hp} {a : Int} : ∀ l : List Nat, IsL K F (l.map fun i => V.int (a + (i : Nat))) (l.map fun i => D.int (a + (i : Nat)))
  | [] => .nil
  | _ :: l => .cons (.int _) (rg_isL l)
theorem rgV_is {K : PySem.W.Frag} {F : Hp} {i j : Int} : IsL K F (rgV i j) (rngD i (j - i).toNat) := rg_isL _
theorem de_tupRg {q1 q2 : Pos} (hc : X.calm = true) (hg : Gl X "tuple") (hm : X.mg "tuple" = none) (hg2 : Gl X "range") (hm2 : X.mg "range" = none) (ha : DE X T a ta) (hb : DE X T b tb)
    (na : starEach [a, b] X.env = (false, eval a X.env) :: starEach [b] X.env := by rfl) (nb : starEach [b] X.env = (false, eval b X.env) :: starEach [] X.env := by rfl) (hp : (backTo q2 (starEach [b] X.env)).any (·.1) = false := by rfl)
    (nn : starEach [Expr.Call (.Name "range" q1) [a, b] [] q2] X.env = (false, eval (.Call (.Name "range" q1) [a, b] [] q2) X.env) :: starEach [] X.env := by rfl) :
    DE X T (.Call (.Name "tuple" p) [.Call (.Name "range" q1) [a, b] [] q2] [] pos) (aTupRg ta tb) :=
  de_of (pe_tupRg hc hg hm (prg_2 hg2 hm2 ha hb na nb hp) nn) fun F σ H Γ M Φ Q w q z => cE_mk w q fun d M1 x F1 H1 s1 h1 i1 q1 => cE_mk (w.go s1 h1) q1 fun e M2 y F2 H2 s2 h2 i2 q2 => by
    unfold aTupRg_k at q2
    split at q2
    · obtain ⟨ok, q2⟩ := q2
      cases i1
      cases i2
      refine ⟨_, _, rfl, rfl, ok, fun p hp => ?_⟩
      have n2 := h2.free hp
      exact z _ M2 _ _ _ ((s1.trans s2).trans (upd_same_ext n2)) (h2.laid hp) (.tup (.inl (.inl upd_same)) rgV_is) q2
    · exact q2.elim
end
end DL

set_option Elab.async false
set_option linter.all false
set_option maxRecDepth 100000
set_option maxHeartbeats 2000000
/-! DN6: x in xs of data of any depth, sorted of pairs that are in order, len(set(t)) of unlike ints, list(range(a, b)). -/
namespace DL
open PySem L2 PyProof.Rows
section
variable {X : Cx} {T : Ct} {a b : Expr} {pos p p2 : Pos} {ta tb : AE} {K : PySem.W.Frag} {B : Bx}
/-! ### x in xs -/
def fInD (neg : Bool → Bool) (d e : D) (M : Mm) (Φ : AK) : Prop := rdM e M fun e' => match e' with
  | .lst xs => (plD 60 d = true ∧ plD 60 (.lst xs) = true) ∧ Φ (.bl (neg ((xs.map (py 59)).any fun z => PyData.eqv z (py 60 d)))) M
  | _ => False
theorem ab_inD {neg : Bool → Bool} : Ab2 K B (fun x y H Q => ∃ d ds, Dp K H x d ∧ Dp K H y (.list ds) ∧ SeqAt.shaped d = true ∧ SeqAt.shaped (.list ds) = true ∧ Q (.bl (neg (ds.any fun z => PyData.eqv z d))) H) (fInD neg) := fun F H x y d e M Φ Q h i1 i2 q z => by
  unfold fInD at q
  obtain ⟨e', j2, q⟩ := rdM_is h i2 q
  split at q
  · rename_i xs
    obtain ⟨⟨q1, q2⟩, q3⟩ := q
    exact ⟨_, _, dp_of h.sub 60 d x q1 i1, dp_of (Same.refl H) 60 (.lst xs) y q2 j2, shaped_of (by decide) q1, shaped_of (n := 60) (by decide) q2, z _ M _ F H (Same.refl F) h (.bl _) q3⟩
  · exact q.elim
theorem de_inD {k : Nat} (hr : Room k X.A) (ha : DE X T a ta) (hb : DE X T b tb) (hm : behindInMarks .In b = false := by rfl) : DE X T (.Compare a [.In] [b] pos) (aOp (fInD fun b => b) ta tb) := de_cmp (op_inD (by have := hr.un; omega)) (ab_inD (neg := fun b => b)) ha hb hm
theorem fInD_l {neg : Bool → Bool} {d : D} {xs : List D} {M : Mm} {Φ : AK} : fInD neg d (.lst xs) M Φ = ((plD 60 d = true ∧ plD 60 (.lst xs) = true) ∧ Φ (.bl (neg ((xs.map (py 59)).any fun z => PyData.eqv z (py 60 d)))) M) := rfl
/-! ### list(range(..)) -/
def aLstRg1_k (Φ : AK) (d : D) (M : Mm) : Prop := match d with
  | .int j => RgOk 0 j ∧ Φ (.lst (rngD 0 j.toNat)) M
  | _ => False
def aLstRg1 (ta : AE) (Γ : Gm) (M : Mm) (Φ : AK) : Prop := ta Γ M fun d M1 => aLstRg1_k Φ d M1
theorem aLstRg1_i {Φ : AK} {j : Int} {M : Mm} : aLstRg1_k Φ (.int j) M = (RgOk 0 j ∧ Φ (.lst (rngD 0 j.toNat)) M) := rfl
theorem de_listRg1 {q1 q2 : Pos} (hc : X.calm = true) (hg : Gl X "list") (hm : X.mg "list" = none) (hg2 : Gl X "range") (hm2 : X.mg "range" = none) (ha : DE X T a ta)
    (na : starEach [a] X.env = (false, eval a X.env) :: starEach [] X.env := by rfl)
    (nn : starEach [Expr.Call (.Name "range" q1) [a] [] q2] X.env = (false, eval (.Call (.Name "range" q1) [a] [] q2) X.env) :: starEach [] X.env := by rfl) :
    DE X T (.Call (.Name "list" p) [.Call (.Name "range" q1) [a] [] q2] [] pos) (aLstRg1 ta) :=
  de_of (pe_listRg hc hg hm (prg_1 hg2 hm2 ha na) nn) fun F σ H Γ M Φ Q w q z => cE_mk w q fun d M1 x F1 H1 s1 h1 i1 q1 => by
    unfold aLstRg1_k at q1
    split at q1
    · obtain ⟨ok, q1⟩ := q1
      cases i1
      refine ⟨_, rfl, ok, fun p hp => ?_⟩
      have n2 := h1.free hp
      refine z _ M1 _ _ _ (s1.trans (upd_same_ext n2)) (h1.laid hp) (.lst (.inl (.inl upd_same)) ?_) q1
      have e := rgV_is (K := X.K) (F := upd F1 p (.lst (rgV 0 ‹Int›))) (i := 0) (j := ‹Int›)
      rw [Int.sub_zero] at e
      exact e
    · exact q1.elim
/-! ### len(set(t)) -/
theorem setR_size {w : World} {h : Heap} {d : Addr} {ns : List Int} {c : Nat} (R : SetR w h d (fun j => decide (j ∈ ns)) c) (nd : ns.Nodup) : c = ns.length := by
  obtain ⟨o, es, ep, t, _, _, _, _, nk, mem, _, _, rfl, _⟩ := R
  have pm : (es.toList.map keyOf).Perm ns := (List.perm_ext_iff_of_nodup nk nd).mpr fun k => by rw [← mem k, decide_eq_true_iff]
  have e := pm.length_eq
  rw [List.length_map, Array.length_toList] at e
  exact e
def tSizeT (K : PySem.W.Frag) (ta : TE) : TE := fun σ H Q => ta σ H fun x H1 => ∃ (l : Addr) (ns : List Int), x = .ref l ∧ SqT K H1 l (ns.map V.int) ∧ (ns.Nodup ∧ ns.length ≤ 4000) ∧ Q (.int (ns.length : Nat)) H1
theorem ints_vals : ∀ {ns : List Int} {us : List Value}, Vals (ns.map V.int) us → PyProof.Rows.IntsAre us ns
  | [], _, .nil => .nil
  | n :: ns, _, .cons ⟨k, e⟩ t => by
    subst e
    exact .cons n k (ints_vals t)
theorem pe_sizeT {q : Pos} (calm : X.calm = true) (gl : Gl X "len") (ml : X.mg "len" = none) (gs : Gl X "set") (ms : X.mg "set" = none) {te : TE} (arg : PE X a te)
    (st : starEach [a] X.env = (false, eval a X.env) :: starEach [] X.env := by rfl) : PE X (.Call (.Name "len" p) [.Call (.Name "set" p2) [a] [] q] [] pos) (tSizeT X.K te) :=
  ⟨fun pins s σ H Q I h => by
    refine Call_ (ld_blt I gl ml PySem.boot_len (PyProof.Rows.callWith_builtin1 (PyProof.Rows.args_cons (Call_ (ld_blt I gs ms PyProof.Rows.boot_set ?_)) rfl) rfl rfl))
    refine PyProof.Rows.callWith_type1 (PyProof.Rows.args_cons (thn (arg.run pins s σ H _ I h) fun v s1 ⟨x, H1, J, rx, z⟩ => PyProof.Rows.args_nil ?_) st) st rfl
    obtain ⟨l, ns, rfl, sq, ⟨nd, short⟩, z⟩ := z
    cases rx
    obtain ⟨its, rv, tup, _⟩ := J.tuple sq
    refine call_set_tupI ns (J.ok.hd calm) tup (by rw [List.toList_toArray]; exact ints_vals rv) (by unfold scanBound; omega) fun h' tk c R _ keep => PyProof.Rows.args_nil ?_
    have ec := setR_size R nd
    have J2 : Inv X pins σ H1 { s1 with heap := h', toks := tk } := J.kept fun b o e => keep b o e
    obtain ⟨o, es, ep, t, ho, ex, hd, _, _, _, _, fits, en, _⟩ := R
    exact call_len_set ho ex hd fits (by omega) ⟨.int ns.length, H1, J2.tok _, ⟨_, by rw [en, ec]⟩, z⟩⟩
def aSizeT_k (Φ : AK) (d : D) (M : Mm) : Prop := match d with
  | .tup xs => ∃ ns : List Int, xs = ns.map D.int ∧ (ns.Nodup ∧ ns.length ≤ 4000) ∧ Φ (.int (ns.length : Nat)) M
  | _ => False
def aSizeT (ta : AE) (Γ : Gm) (M : Mm) (Φ : AK) : Prop := ta Γ M fun d M1 => aSizeT_k Φ d M1
theorem aSizeT_t {Φ : AK} {xs : List D} {M : Mm} : aSizeT_k Φ (.tup xs) M = ∃ ns : List Int, xs = ns.map D.int ∧ (ns.Nodup ∧ ns.length ≤ 4000) ∧ Φ (.int (ns.length : Nat)) M := rfl
theorem de_sizeT {q : Pos} (calm : X.calm = true) (gl : Gl X "len") (ml : X.mg "len" = none) (gs : Gl X "set") (ms : X.mg "set" = none) (arg : DE X T a ta)
    (st : starEach [a] X.env = (false, eval a X.env) :: starEach [] X.env := by rfl) : DE X T (.Call (.Name "len" p) [.Call (.Name "set" p2) [a] [] q] [] pos) (aSizeT ta) :=
  de_of (pe_sizeT calm gl ml gs ms arg st) fun F σ H Γ M Φ Q w q z => cE_mk w q fun d M1 x F1 H1 s1 h1 i1 q1 => by
    unfold aSizeT_k at q1
    split at q1
    · obtain ⟨ns, rfl, nd, q1⟩ := q1
      cases i1 with
      | tup sq il =>
        rw [il.ints] at sq
        exact ⟨_, ns, rfl, same_t h1.sub sq, nd, z _ M1 _ F1 H1 s1 h1 (.int _) q1⟩
    · exact q1.elim
/-! ### sorted(pairs that are in order) -/
def pairD (f : Int × Int) : D := .tup [.int f.1, .int f.2]
def Inc (x y : Int × Int) : Prop := x.1 < y.1 ∨ (x.1 = y.1 ∧ x.2 ≤ y.2)
def rInc (K : PySem.W.Frag) : List V → Hp → VK → Prop := fun vs H Q => ∃ (a : Addr) (xs : List V) (ps : List (Int × Int)), vs = [V.ref a] ∧ SqL K H a xs ∧ xs.length = ps.length ∧
  (∀ (i : Nat) (x : V) (f : Int × Int), xs[i]? = some x → ps[i]? = some f → ∃ t, x = V.ref t ∧ SqT K H t [.int f.1, .int f.2]) ∧ ps.Pairwise Inc ∧ ∀ p, H p = none → Q (.ref p) (upd H p (.lst xs))
open Classical in
noncomputable def pairOf (h : Heap) (v : Value) : Int × Int := if e : ∃ f : Int × Int, Srt.IsPair h v f.1 f.2 then choose e else (0, 0)
theorem pair_one {h : Heap} {v : Value} {f g : Int × Int} (e1 : Srt.IsPair h v f.1 f.2) (e2 : Srt.IsPair h v g.1 g.2) : f = g := by
  obtain ⟨f1, f2⟩ := f
  obtain ⟨g1, g2⟩ := g
  obtain ⟨a, o, t, u, n, rfl, ho, _, d1⟩ := e1
  obtain ⟨a', o', t', u', n', e, ho', _, d2⟩ := e2
  cases e
  rw [ho] at ho'
  cases ho'
  rw [d1] at d2
  cases d2
  rfl
theorem pairOf_eq {h : Heap} {v : Value} {f : Int × Int} (e : Srt.IsPair h v f.1 f.2) : pairOf h v = f := by
  unfold pairOf
  rw [dif_pos ⟨f, e⟩]
  exact pair_one (Classical.choose_spec (p := fun f : Int × Int => Srt.IsPair h v f.1 f.2) ⟨f, e⟩) e
theorem cr_inc : CallR X (.builtin "sorted") (rInc X.K) := by
  intro pins s σ H vs us Q I r h
  obtain ⟨a, xs, ps, rfl, sq, el, hx, inc, q⟩ := h
  obtain ⟨its, rv, pl, short⟩ := I.list sq
  obtain ⟨u, rfl, ru⟩ := vals1 r
  cases ru
  have pr : ∀ (i : Nat) (v : Value), its[i]? = some v → ∃ f, ps[i]? = some f ∧ Srt.IsPair s.heap v f.1 f.2 := fun i v hi => by
    have li : i < its.length := (List.getElem?_eq_some_iff.mp hi).1
    have lx : i < xs.length := by rw [rv.length]; exact li
    have ep := List.getElem?_eq_getElem (show i < ps.length by omega)
    have ex := List.getElem?_eq_getElem lx
    obtain ⟨t, et, st⟩ := hx i _ _ ex ep
    obtain ⟨v', hv', rl⟩ := rv.get ex
    rw [hi] at hv'
    cases hv'
    rw [et] at rl
    cases rl
    obtain ⟨two, r2, ⟨o, ho, hc, n, hd⟩, _⟩ := I.tuple st
    obtain ⟨t1, t2, rfl⟩ := r2.int2
    exact ⟨_, ep, t, o, t1, t2, n, rfl, ho, hc, hd⟩
  refine SrtO.sorted_pairsO (k := pairOf s.heap) pl.isList (by rw [← rv.length]; exact short) (fun v hv => ?_) fun h' d out h1 h2 kp hd hn => ?_
  · obtain ⟨i, hi⟩ := List.mem_iff_getElem?.mp hv
    obtain ⟨f, _, e⟩ := pr i v hi
    rw [pairOf_eq e]
    exact e
  · have h3 : SrtO.Srtd (fun v u => SrtO.lexB (pairOf s.heap v) (pairOf s.heap u)) its := by
      refine List.pairwise_iff_getElem.mpr fun i j hi hj hij => ?_
      obtain ⟨f, ef, pf⟩ := pr i _ (List.getElem?_eq_getElem hi)
      obtain ⟨g, eg, pg⟩ := pr j _ (List.getElem?_eq_getElem hj)
      show SrtO.lexB (pairOf s.heap its[j]) (pairOf s.heap its[i]) = false
      rw [pairOf_eq pf, pairOf_eq pg]
      refine SrtO.lexB_no.mpr fun z => ?_
      obtain ⟨l1, rfl⟩ := List.getElem?_eq_some_iff.mp ef
      obtain ⟨l2, rfl⟩ := List.getElem?_eq_some_iff.mp eg
      have y := List.pairwise_iff_getElem.mp inc i j l1 l2 hij
      unfold Inc at y
      omega
    have eo : out = its := SrtO.stb_uniq (SrtO.swo_lex _) h1 h3 h2
    subst eo
    obtain ⟨n, hn⟩ := hn
    exact ⟨.ref d, upd H d (.lst xs), I.laid (t' := s.toks) kp hd ⟨short, out, n, rv, hn⟩, rfl, q d (I.hok.fresh hd)⟩
theorem pairs_at {F : Hp} : ∀ {vs : List V} {ps : List (Int × Int)}, IsL K F vs (ps.map pairD) → vs.length = ps.length ∧ ∀ (i : Nat) (x : V) (f : Int × Int), vs[i]? = some x → ps[i]? = some f → ∃ t, x = V.ref t ∧ SqT K F t [.int f.1, .int f.2]
  | [], [], _ => ⟨rfl, fun i x f e => by cases e⟩
  | v :: vs, p :: ps, .cons i1 l => by
    obtain ⟨e, h⟩ := pairs_at l
    refine ⟨congrArg (· + 1) e, fun i x f ex ep => ?_⟩
    cases i with
    | zero =>
      cases ex
      cases ep
      cases i1 with
      | tup sq il =>
        rw [il.ints (ns := [p.1, p.2])] at sq
        exact ⟨_, rfl, sq⟩
    | succ i => exact h i x f ex ep
def fSortP (ds : List D) (M : Mm) (Φ : AK) : Prop := match ds with
  | [.lst xs] => ∃ ps : List (Int × Int), xs = ps.map pairD ∧ ps.Pairwise Inc ∧ Φ (.lst xs) M
  | _ => False
theorem fSortP_l {xs : List D} {M : Mm} {Φ : AK} : fSortP [.lst xs] M Φ = ∃ ps : List (Int × Int), xs = ps.map pairD ∧ ps.Pairwise Inc ∧ Φ (.lst xs) M := rfl
theorem de_sortP (hg : Gl X "sorted") (hm : X.mg "sorted" = none) (ha : DE X T a ta) (hs : starEach [a] X.env = (false, eval a X.env) :: starEach [] X.env := by rfl) (hpl : (backTo pos (starEach [] X.env)).any (·.1) = false := by rfl) : DE X T (.Call (.Name "sorted" p) [a] [] pos) (aCB fSortP (aCons ta aNil)) :=
  de_callB cr_inc (fun F H vs ds M Φ Q h i q z => by
    unfold fSortP at q
    split at q
    · obtain ⟨ps, rfl, inc, q⟩ := q
      match vs, i with
      | [_], .cons i1 .nil =>
        cases i1 with
        | @lst l ws _ sq il =>
          obtain ⟨el, at'⟩ := pairs_at il
          refine ⟨l, ws, ps, rfl, h.sub.seq sq, el, fun j x f ex ep => ?_, inc, fun p hp => ?_⟩
          · obtain ⟨t, e, st⟩ := at' j x f ex ep
            exact ⟨t, e, same_t h.sub st⟩
          · have n1 := h.free hp
            exact z _ M _ _ _ (upd_same_ext n1) (h.laid hp) (.lst (.inl (.inl upd_same)) (il.mono (upd_same_ext n1))) q
    · exact q.elim) hg hm (by decide +kernel) (da_cons ha da_nil hs) (by decide) (by decide) hs hpl
end
end DL

set_option Elab.async false
set_option linter.all false
set_option maxRecDepth 100000
set_option maxHeartbeats 4000000
namespace K30
open PySem L2 DL
def topS (i : Nat) : Stmt := PySem.Challenge.pw_evergreedy_k30_whole_thetas_as_forms.main.body.getD i (.Pass ⟨0, 0, 0, 0⟩)
abbrev s_is_integer : Stmt := topS 5
abbrev n_is_integer : List Str := ["value"]
theorem st_is_integer (a0 : D) : startD n_is_integer [a0] = [some a0] := rfl
theorem sc_is_integer : FnScope n_is_integer ["value"] (defScope s_is_integer) := ⟨rfl, rfl, rfl, by decide +kernel, rfl, by decide +kernel, by decide +kernel⟩
abbrev s_is_number : Stmt := topS 6
abbrev n_is_number : List Str := ["value", "most"]
theorem st_is_number (a0 a1 : D) : startD n_is_number [a0, a1] = [some a0, some a1] := rfl
theorem sc_is_number : FnScope n_is_number ["value", "most"] (defScope s_is_number) := ⟨rfl, rfl, rfl, by decide +kernel, rfl, by decide +kernel, by decide +kernel⟩
abbrev s_is_sequence : Stmt := topS 7
abbrev n_is_sequence : List Str := ["value"]
theorem st_is_sequence (a0 : D) : startD n_is_sequence [a0] = [some a0] := rfl
theorem sc_is_sequence : FnScope n_is_sequence ["value"] (defScope s_is_sequence) := ⟨rfl, rfl, rfl, by decide +kernel, rfl, by decide +kernel, by decide +kernel⟩
abbrev s_is_link : Stmt := topS 12
abbrev n_is_link : List Str := ["value"]
theorem st_is_link (a0 : D) : startD n_is_link [a0] = [some a0] := rfl
theorem sc_is_link : FnScope n_is_link ["value"] (defScope s_is_link) := ⟨rfl, rfl, rfl, by decide +kernel, rfl, by decide +kernel, by decide +kernel⟩
abbrev s_Chain_init : Stmt := clsAt (topS 13) 0
abbrev n_Chain_init : List Str := ["self", "links", "place", "link"]
theorem st_Chain_init (a0 a1 : D) : startD n_Chain_init [a0, a1] = [some a0, some a1, none, none] := rfl
theorem sc_Chain_init : FnScope n_Chain_init ["self", "links"] (defScope s_Chain_init) := ⟨rfl, rfl, rfl, by decide +kernel, rfl, by decide +kernel, by decide +kernel⟩
abbrev s_slots_in : Stmt := topS 15
abbrev n_slots_in : List Str := ["rate", "beats"]
theorem st_slots_in (a0 a1 : D) : startD n_slots_in [a0, a1] = [some a0, some a1] := rfl
theorem sc_slots_in : FnScope n_slots_in ["rate", "beats"] (defScope s_slots_in) := ⟨rfl, rfl, rfl, by decide +kernel, rfl, by decide +kernel, by decide +kernel⟩
abbrev s_late_in : Stmt := topS 16
abbrev n_late_in : List Str := ["rate", "beats", "late", "last"]
theorem st_late_in (a0 a1 a2 : D) : startD n_late_in [a0, a1, a2] = [some a0, some a1, some a2, none] := rfl
theorem sc_late_in : FnScope n_late_in ["rate", "beats", "late"] (defScope s_late_in) := ⟨rfl, rfl, rfl, by decide +kernel, rfl, by decide +kernel, by decide +kernel⟩
abbrev s_Plan_init : Stmt := clsAt (topS 19) 0
abbrev n_Plan_init : List Str := ["self", "rate", "order", "gate", "way", "streams", "length", "late", "gap"]
theorem st_Plan_init (a0 a1 a2 a3 a4 a5 a6 a7 a8 : D) : startD n_Plan_init [a0, a1, a2, a3, a4, a5, a6, a7, a8] = [some a0, some a1, some a2, some a3, some a4, some a5, some a6, some a7, some a8] := rfl
theorem sc_Plan_init : FnScope n_Plan_init ["self", "rate", "order", "gate", "way", "streams", "length", "late", "gap"] (defScope s_Plan_init) := ⟨rfl, rfl, rfl, by decide +kernel, rfl, by decide +kernel, by decide +kernel⟩
abbrev s_counts_of : Stmt := topS 20
abbrev n_counts_of : List Str := ["plan", "s", "y", "z", "u"]
theorem st_counts_of (a0 a1 : D) : startD n_counts_of [a0, a1] = [some a0, some a1, none, none, none] := rfl
theorem sc_counts_of : FnScope n_counts_of ["plan", "s"] (defScope s_counts_of) := ⟨rfl, rfl, rfl, by decide +kernel, rfl, by decide +kernel, by decide +kernel⟩
abbrev s_worth_of : Stmt := topS 21
abbrev n_worth_of : List Str := ["form", "counts", "number", "at"]
theorem st_worth_of (a0 a1 : D) : startD n_worth_of [a0, a1] = [some a0, some a1, none, none] := rfl
theorem sc_worth_of : FnScope n_worth_of ["form", "counts"] (defScope s_worth_of) := ⟨rfl, rfl, rfl, by decide +kernel, rfl, by decide +kernel, by decide +kernel⟩
abbrev s_next_of : Stmt := topS 22
abbrev n_next_of : List Str := ["plan", "s"]
theorem st_next_of (a0 a1 : D) : startD n_next_of [a0, a1] = [some a0, some a1] := rfl
theorem sc_next_of : FnScope n_next_of ["plan", "s"] (defScope s_next_of) := ⟨rfl, rfl, rfl, by decide +kernel, rfl, by decide +kernel, by decide +kernel⟩
abbrev s_length_of : Stmt := topS 23
abbrev n_length_of : List Str := ["plan", "s"]
theorem st_length_of (a0 a1 : D) : startD n_length_of [a0, a1] = [some a0, some a1] := rfl
theorem sc_length_of : FnScope n_length_of ["plan", "s"] (defScope s_length_of) := ⟨rfl, rfl, rfl, by decide +kernel, rfl, by decide +kernel, by decide +kernel⟩
abbrev s_spans_of : Stmt := topS 24
abbrev n_spans_of : List Str := ["plan", "begin", "s", "counts", "found", "way", "first", "beats"]
theorem st_spans_of (a0 a1 a2 : D) : startD n_spans_of [a0, a1, a2] = [some a0, some a1, some a2, none, none, none, none, none] := rfl
theorem sc_spans_of : FnScope n_spans_of ["plan", "begin", "s"] (defScope s_spans_of) := ⟨rfl, rfl, rfl, by decide +kernel, rfl, by decide +kernel, by decide +kernel⟩
abbrev s_plan_chain : Stmt := topS 25
abbrev n_plan_chain : List Str := ["plan", "top", "bottom"]
theorem st_plan_chain (a0 : D) : startD n_plan_chain [a0] = [some a0, none, none] := rfl
theorem sc_plan_chain : FnScope n_plan_chain ["plan"] (defScope s_plan_chain) := ⟨rfl, rfl, rfl, by decide +kernel, rfl, by decide +kernel, by decide +kernel⟩
abbrev s_phase_of : Stmt := topS 26
abbrev n_phase_of : List Str := ["plan", "s", "many", "beat", "turn"]
theorem st_phase_of (a0 a1 a2 : D) : startD n_phase_of [a0, a1, a2] = [some a0, some a1, some a2, none, none] := rfl
theorem sc_phase_of : FnScope n_phase_of ["plan", "s", "many"] (defScope s_phase_of) := ⟨rfl, rfl, rfl, by decide +kernel, rfl, by decide +kernel, by decide +kernel⟩
abbrev s_burst_of : Stmt := topS 27
abbrev n_burst_of : List Str := ["s"]
theorem st_burst_of (a0 : D) : startD n_burst_of [a0] = [some a0] := rfl
theorem sc_burst_of : FnScope n_burst_of ["s"] (defScope s_burst_of) := ⟨rfl, rfl, rfl, by decide +kernel, rfl, by decide +kernel, by decide +kernel⟩
abbrev s_Theta_init : Stmt := clsAt (topS 35) 0
abbrev n_Theta_init : List Str := ["self", "first", "second", "back"]
theorem st_Theta_init (a0 a1 a2 a3 : D) : startD n_Theta_init [a0, a1, a2, a3] = [some a0, some a1, some a2, some a3] := rfl
theorem sc_Theta_init : FnScope n_Theta_init ["self", "first", "second", "back"] (defScope s_Theta_init) := ⟨rfl, rfl, rfl, by decide +kernel, rfl, by decide +kernel, by decide +kernel⟩
abbrev s_theta_ways : Stmt := topS 30
abbrev n_theta_ways : List Str := ["theta", "first", "second", "back", "singles"]
theorem st_theta_ways (a0 : D) : startD n_theta_ways [a0] = [some a0, none, none, none, none] := rfl
theorem sc_theta_ways : FnScope n_theta_ways ["theta"] (defScope s_theta_ways) := ⟨rfl, rfl, rfl, by decide +kernel, rfl, by decide +kernel, by decide +kernel⟩
abbrev s_theta_order : Stmt := topS 31
abbrev n_theta_order : List Str := ["theta", "ways"]
theorem st_theta_order (a0 : D) : startD n_theta_order [a0] = [some a0, none] := rfl
theorem sc_theta_order : FnScope n_theta_order ["theta"] (defScope s_theta_order) := ⟨rfl, rfl, rfl, by decide +kernel, rfl, by decide +kernel, by decide +kernel⟩
abbrev s_theta_streams : Stmt := topS 32
abbrev n_theta_streams : List Str := ["theta", "one", "other", "first_on", "second_on", "back_first", "back_second", "back", "low"]
theorem st_theta_streams (a0 : D) : startD n_theta_streams [a0] = [some a0, none, none, none, none, none, none, none, none] := rfl
theorem sc_theta_streams : FnScope n_theta_streams ["theta"] (defScope s_theta_streams) := ⟨rfl, rfl, rfl, by decide +kernel, rfl, by decide +kernel, by decide +kernel⟩
abbrev s_theta_plan : Stmt := topS 33
abbrev n_theta_plan : List Str := ["theta", "rate", "many", "more", "length", "way", "order"]
theorem st_theta_plan (a0 a1 : D) : startD n_theta_plan [a0, a1] = [some a0, some a1, none, none, none, none, none] := rfl
theorem sc_theta_plan : FnScope n_theta_plan ["theta", "rate"] (defScope s_theta_plan) := ⟨rfl, rfl, rfl, by decide +kernel, rfl, by decide +kernel, by decide +kernel⟩
abbrev s__law_heap : Stmt := topS 37
abbrev n__law_heap : List Str := ["script", "cells", "stir", "cell"]
theorem st__law_heap (a0 : D) : startD n__law_heap [a0] = [some a0, none, none, none] := rfl
theorem sc__law_heap : FnScope n__law_heap ["script"] (defScope s__law_heap) := ⟨rfl, rfl, rfl, by decide +kernel, rfl, by decide +kernel, by decide +kernel⟩
abbrev s__law_draw : Stmt := topS 38
abbrev n__law_draw : List Str := ["heap", "many", "rest"]
theorem st__law_draw (a0 a1 : D) : startD n__law_draw [a0, a1] = [some a0, some a1, none] := rfl
theorem sc__law_draw : FnScope n__law_draw ["heap", "many"] (defScope s__law_draw) := ⟨rfl, rfl, rfl, by decide +kernel, rfl, by decide +kernel, by decide +kernel⟩
abbrev s__law_pick : Stmt := topS 39
abbrev n__law_pick : List Str := ["heap", "some"]
theorem st__law_pick (a0 a1 : D) : startD n__law_pick [a0, a1] = [some a0, some a1] := rfl
theorem sc__law_pick : FnScope n__law_pick ["heap", "some"] (defScope s__law_pick) := ⟨rfl, rfl, rfl, by decide +kernel, rfl, by decide +kernel, by decide +kernel⟩
abbrev s__law_like : Stmt := topS 40
abbrev n__law_like : List Str := ["told", "due", "at"]
theorem st__law_like (a0 a1 : D) : startD n__law_like [a0, a1] = [some a0, some a1, none] := rfl
theorem sc__law_like : FnScope n__law_like ["told", "due"] (defScope s__law_like) := ⟨rfl, rfl, rfl, by decide +kernel, rfl, by decide +kernel, by decide +kernel⟩
abbrev s__law_mixed : Stmt := topS 41
abbrev n__law_mixed : List Str := ["heap", "some", "left", "found", "turn"]
theorem st__law_mixed (a0 a1 : D) : startD n__law_mixed [a0, a1] = [some a0, some a1, none, none, none] := rfl
theorem sc__law_mixed : FnScope n__law_mixed ["heap", "some"] (defScope s__law_mixed) := ⟨rfl, rfl, rfl, by decide +kernel, rfl, by decide +kernel, by decide +kernel⟩
abbrev s__law_divisor : Stmt := topS 42
abbrev n__law_divisor : List Str := ["one", "other", "turn"]
theorem st__law_divisor (a0 a1 : D) : startD n__law_divisor [a0, a1] = [some a0, some a1, none] := rfl
theorem sc__law_divisor : FnScope n__law_divisor ["one", "other"] (defScope s__law_divisor) := ⟨rfl, rfl, rfl, by decide +kernel, rfl, by decide +kernel, by decide +kernel⟩
abbrev s__law_rate : Stmt := topS 43
abbrev n__law_rate : List Str := ["heap", "least", "bottom", "top", "by"]
theorem st__law_rate (a0 a1 : D) : startD n__law_rate [a0, a1] = [some a0, some a1, none, none, none] := rfl
theorem sc__law_rate : FnScope n__law_rate ["heap", "least"] (defScope s__law_rate) := ⟨rfl, rfl, rfl, by decide +kernel, rfl, by decide +kernel, by decide +kernel⟩
abbrev s__law_theta : Stmt := topS 44
abbrev n__law_theta : List Str := ["heap", "sizes", "turn", "belts", "first", "second"]
theorem st__law_theta (a0 : D) : startD n__law_theta [a0] = [some a0, none, none, none, none, none] := rfl
theorem sc__law_theta : FnScope n__law_theta ["heap"] (defScope s__law_theta) := ⟨rfl, rfl, rfl, by decide +kernel, rfl, by decide +kernel, by decide +kernel⟩
abbrev s__law_counts : Stmt := topS 45
abbrev n__law_counts : List Str := ["rate", "first", "second", "s", "top", "bottom", "y", "z", "u", "late", "at"]
theorem st__law_counts (a0 a1 a2 a3 : D) : startD n__law_counts [a0, a1, a2, a3] = [some a0, some a1, some a2, some a3, none, none, none, none, none, none, none] := rfl
theorem sc__law_counts : FnScope n__law_counts ["rate", "first", "second", "s"] (defScope s__law_counts) := ⟨rfl, rfl, rfl, by decide +kernel, rfl, by decide +kernel, by decide +kernel⟩
abbrev s__law_spans : Stmt := topS 46
abbrev n__law_spans : List Str := ["rate", "rows", "begin", "s", "first", "second", "back", "y", "z", "u", "late", "e", "g", "f", "two", "three", "four", "found"]
theorem st__law_spans (a0 a1 a2 a3 : D) : startD n__law_spans [a0, a1, a2, a3] = [some a0, some a1, some a2, some a3, none, none, none, none, none, none, none, none, none, none, none, none, none, none] := rfl
theorem sc__law_spans : FnScope n__law_spans ["rate", "rows", "begin", "s"] (defScope s__law_spans) := ⟨rfl, rfl, rfl, by decide +kernel, rfl, by decide +kernel, by decide +kernel⟩
abbrev s__law_is_way : Stmt := topS 47
abbrev n__law_is_way : List Str := ["rows", "way", "first", "second", "back", "turns", "row", "at"]
theorem st__law_is_way (a0 a1 : D) : startD n__law_is_way [a0, a1] = [some a0, some a1, none, none, none, none, none, none] := rfl
theorem sc__law_is_way : FnScope n__law_is_way ["rows", "way"] (defScope s__law_is_way) := ⟨rfl, rfl, rfl, by decide +kernel, rfl, by decide +kernel, by decide +kernel⟩
abbrev s__law_apart : Stmt := topS 48
abbrev n__law_apart : List Str := ["rows", "spans", "belt", "end", "first", "beats", "way"]
theorem st__law_apart (a0 a1 : D) : startD n__law_apart [a0, a1] = [some a0, some a1, none, none, none, none, none] := rfl
theorem sc__law_apart : FnScope n__law_apart ["rows", "spans"] (defScope s__law_apart) := ⟨rfl, rfl, rfl, by decide +kernel, rfl, by decide +kernel, by decide +kernel⟩
abbrev s__law_right : Stmt := topS 49
abbrev n__law_right : List Str := ["heap", "rate", "rows", "plan", "s", "begin", "found", "now", "turn", "due", "end", "y", "z", "u", "late", "counts", "form", "at"]
theorem st__law_right (a0 a1 a2 a3 a4 : D) : startD n__law_right [a0, a1, a2, a3, a4] = [some a0, some a1, some a2, some a3, some a4, none, none, none, none, none, none, none, none, none, none, none, none, none] := rfl
theorem sc__law_right : FnScope n__law_right ["heap", "rate", "rows", "plan", "s"] (defScope s__law_right) := ⟨rfl, rfl, rfl, by decide +kernel, rfl, by decide +kernel, by decide +kernel⟩
abbrev s_law : Stmt := topS 50
abbrev n_law : List Str := ["script", "heap", "turn", "rows", "rate", "first", "second", "back", "theta", "plan", "e", "g", "f", "ways", "order", "way", "gap", "top", "bottom", "s"]
theorem st_law (a0 : D) : startD n_law [a0] = [some a0, none, none, none, none, none, none, none, none, none, none, none, none, none, none, none, none, none, none, none] := rfl
theorem sc_law : FnScope n_law ["script"] (defScope s_law) := ⟨rfl, rfl, rfl, by decide +kernel, rfl, by decide +kernel, by decide +kernel⟩
abbrev s_InvalidChain_init : Stmt := clsAt (topS 3) 0
abbrev s_Refused_init : Stmt := clsAt (topS 2) 0
/-- what the top has laid -/
structure Top (P : Program) (K : PySem.W.Frag) (mg : Str → Option Value) where
  f_is_integer : Addr
  d_is_integer : FuncData
  F_is_integer : Fun K "is_integer" "is_integer" s_is_integer f_is_integer d_is_integer
  b_is_integer : Binds K d_is_integer ["value"] []
  g_is_integer : mg "is_integer" = some (.ref f_is_integer)
  f_is_number : Addr
  d_is_number : FuncData
  F_is_number : FunD K "is_number" "is_number" (defArgs s_is_number) (defBody s_is_number) (defScope s_is_number) [V.non] [] f_is_number d_is_number
  b_is_number : Binds K d_is_number ["value", "most"] []
  D0_is_number : List Value
  v0_is_number : Vals [V.non] D0_is_number
  b0_is_number : Binds K d_is_number ["value", "most"] D0_is_number
  g_is_number : mg "is_number" = some (.ref f_is_number)
  f_is_sequence : Addr
  d_is_sequence : FuncData
  F_is_sequence : Fun K "is_sequence" "is_sequence" s_is_sequence f_is_sequence d_is_sequence
  b_is_sequence : Binds K d_is_sequence ["value"] []
  g_is_sequence : mg "is_sequence" = some (.ref f_is_sequence)
  f_is_link : Addr
  d_is_link : FuncData
  F_is_link : Fun K "is_link" "is_link" s_is_link f_is_link d_is_link
  b_is_link : Binds K d_is_link ["value"] []
  g_is_link : mg "is_link" = some (.ref f_is_link)
  f_Chain_init : Addr
  d_Chain_init : FuncData
  F_Chain_init : Fun K "__init__" "Chain.__init__" s_Chain_init f_Chain_init d_Chain_init
  b_Chain_init : Binds K d_Chain_init ["self", "links"] []
  f_slots_in : Addr
  d_slots_in : FuncData
  F_slots_in : Fun K "slots_in" "slots_in" s_slots_in f_slots_in d_slots_in
  b_slots_in : Binds K d_slots_in ["rate", "beats"] []
  g_slots_in : mg "slots_in" = some (.ref f_slots_in)
  f_late_in : Addr
  d_late_in : FuncData
  F_late_in : Fun K "late_in" "late_in" s_late_in f_late_in d_late_in
  b_late_in : Binds K d_late_in ["rate", "beats", "late"] []
  g_late_in : mg "late_in" = some (.ref f_late_in)
  f_Plan_init : Addr
  d_Plan_init : FuncData
  F_Plan_init : Fun K "__init__" "Plan.__init__" s_Plan_init f_Plan_init d_Plan_init
  b_Plan_init : Binds K d_Plan_init ["self", "rate", "order", "gate", "way", "streams", "length", "late", "gap"] []
  f_counts_of : Addr
  d_counts_of : FuncData
  F_counts_of : Fun K "counts_of" "counts_of" s_counts_of f_counts_of d_counts_of
  b_counts_of : Binds K d_counts_of ["plan", "s"] []
  g_counts_of : mg "counts_of" = some (.ref f_counts_of)
  f_worth_of : Addr
  d_worth_of : FuncData
  F_worth_of : Fun K "worth_of" "worth_of" s_worth_of f_worth_of d_worth_of
  b_worth_of : Binds K d_worth_of ["form", "counts"] []
  g_worth_of : mg "worth_of" = some (.ref f_worth_of)
  f_next_of : Addr
  d_next_of : FuncData
  F_next_of : Fun K "next_of" "next_of" s_next_of f_next_of d_next_of
  b_next_of : Binds K d_next_of ["plan", "s"] []
  g_next_of : mg "next_of" = some (.ref f_next_of)
  f_length_of : Addr
  d_length_of : FuncData
  F_length_of : Fun K "length_of" "length_of" s_length_of f_length_of d_length_of
  b_length_of : Binds K d_length_of ["plan", "s"] []
  g_length_of : mg "length_of" = some (.ref f_length_of)
  f_spans_of : Addr
  d_spans_of : FuncData
  F_spans_of : Fun K "spans_of" "spans_of" s_spans_of f_spans_of d_spans_of
  b_spans_of : Binds K d_spans_of ["plan", "begin", "s"] []
  g_spans_of : mg "spans_of" = some (.ref f_spans_of)
  f_plan_chain : Addr
  d_plan_chain : FuncData
  F_plan_chain : Fun K "plan_chain" "plan_chain" s_plan_chain f_plan_chain d_plan_chain
  b_plan_chain : Binds K d_plan_chain ["plan"] []
  g_plan_chain : mg "plan_chain" = some (.ref f_plan_chain)
  f_phase_of : Addr
  d_phase_of : FuncData
  F_phase_of : Fun K "phase_of" "phase_of" s_phase_of f_phase_of d_phase_of
  b_phase_of : Binds K d_phase_of ["plan", "s", "many"] []
  g_phase_of : mg "phase_of" = some (.ref f_phase_of)
  f_burst_of : Addr
  d_burst_of : FuncData
  F_burst_of : Fun K "burst_of" "burst_of" s_burst_of f_burst_of d_burst_of
  b_burst_of : Binds K d_burst_of ["s"] []
  g_burst_of : mg "burst_of" = some (.ref f_burst_of)
  f_Theta_init : Addr
  d_Theta_init : FuncData
  F_Theta_init : Fun K "__init__" "Theta.__init__" s_Theta_init f_Theta_init d_Theta_init
  b_Theta_init : Binds K d_Theta_init ["self", "first", "second", "back"] []
  f_theta_ways : Addr
  d_theta_ways : FuncData
  F_theta_ways : Fun K "theta_ways" "theta_ways" s_theta_ways f_theta_ways d_theta_ways
  b_theta_ways : Binds K d_theta_ways ["theta"] []
  g_theta_ways : mg "theta_ways" = some (.ref f_theta_ways)
  f_theta_order : Addr
  d_theta_order : FuncData
  F_theta_order : Fun K "theta_order" "theta_order" s_theta_order f_theta_order d_theta_order
  b_theta_order : Binds K d_theta_order ["theta"] []
  g_theta_order : mg "theta_order" = some (.ref f_theta_order)
  f_theta_streams : Addr
  d_theta_streams : FuncData
  F_theta_streams : Fun K "theta_streams" "theta_streams" s_theta_streams f_theta_streams d_theta_streams
  b_theta_streams : Binds K d_theta_streams ["theta"] []
  g_theta_streams : mg "theta_streams" = some (.ref f_theta_streams)
  f_theta_plan : Addr
  d_theta_plan : FuncData
  F_theta_plan : Fun K "theta_plan" "theta_plan" s_theta_plan f_theta_plan d_theta_plan
  b_theta_plan : Binds K d_theta_plan ["theta", "rate"] []
  g_theta_plan : mg "theta_plan" = some (.ref f_theta_plan)
  f__law_heap : Addr
  d__law_heap : FuncData
  F__law_heap : Fun K "_law_heap" "_law_heap" s__law_heap f__law_heap d__law_heap
  b__law_heap : Binds K d__law_heap ["script"] []
  g__law_heap : mg "_law_heap" = some (.ref f__law_heap)
  f__law_draw : Addr
  d__law_draw : FuncData
  F__law_draw : Fun K "_law_draw" "_law_draw" s__law_draw f__law_draw d__law_draw
  b__law_draw : Binds K d__law_draw ["heap", "many"] []
  g__law_draw : mg "_law_draw" = some (.ref f__law_draw)
  f__law_pick : Addr
  d__law_pick : FuncData
  F__law_pick : Fun K "_law_pick" "_law_pick" s__law_pick f__law_pick d__law_pick
  b__law_pick : Binds K d__law_pick ["heap", "some"] []
  g__law_pick : mg "_law_pick" = some (.ref f__law_pick)
  f__law_like : Addr
  d__law_like : FuncData
  F__law_like : Fun K "_law_like" "_law_like" s__law_like f__law_like d__law_like
  b__law_like : Binds K d__law_like ["told", "due"] []
  g__law_like : mg "_law_like" = some (.ref f__law_like)
  f__law_mixed : Addr
  d__law_mixed : FuncData
  F__law_mixed : Fun K "_law_mixed" "_law_mixed" s__law_mixed f__law_mixed d__law_mixed
  b__law_mixed : Binds K d__law_mixed ["heap", "some"] []
  g__law_mixed : mg "_law_mixed" = some (.ref f__law_mixed)
  f__law_divisor : Addr
  d__law_divisor : FuncData
  F__law_divisor : Fun K "_law_divisor" "_law_divisor" s__law_divisor f__law_divisor d__law_divisor
  b__law_divisor : Binds K d__law_divisor ["one", "other"] []
  g__law_divisor : mg "_law_divisor" = some (.ref f__law_divisor)
  f__law_rate : Addr
  d__law_rate : FuncData
  F__law_rate : Fun K "_law_rate" "_law_rate" s__law_rate f__law_rate d__law_rate
  b__law_rate : Binds K d__law_rate ["heap", "least"] []
  g__law_rate : mg "_law_rate" = some (.ref f__law_rate)
  f__law_theta : Addr
  d__law_theta : FuncData
  F__law_theta : Fun K "_law_theta" "_law_theta" s__law_theta f__law_theta d__law_theta
  b__law_theta : Binds K d__law_theta ["heap"] []
  g__law_theta : mg "_law_theta" = some (.ref f__law_theta)
  f__law_counts : Addr
  d__law_counts : FuncData
  F__law_counts : Fun K "_law_counts" "_law_counts" s__law_counts f__law_counts d__law_counts
  b__law_counts : Binds K d__law_counts ["rate", "first", "second", "s"] []
  g__law_counts : mg "_law_counts" = some (.ref f__law_counts)
  f__law_spans : Addr
  d__law_spans : FuncData
  F__law_spans : Fun K "_law_spans" "_law_spans" s__law_spans f__law_spans d__law_spans
  b__law_spans : Binds K d__law_spans ["rate", "rows", "begin", "s"] []
  g__law_spans : mg "_law_spans" = some (.ref f__law_spans)
  f__law_is_way : Addr
  d__law_is_way : FuncData
  F__law_is_way : Fun K "_law_is_way" "_law_is_way" s__law_is_way f__law_is_way d__law_is_way
  b__law_is_way : Binds K d__law_is_way ["rows", "way"] []
  g__law_is_way : mg "_law_is_way" = some (.ref f__law_is_way)
  f__law_apart : Addr
  d__law_apart : FuncData
  F__law_apart : Fun K "_law_apart" "_law_apart" s__law_apart f__law_apart d__law_apart
  b__law_apart : Binds K d__law_apart ["rows", "spans"] []
  g__law_apart : mg "_law_apart" = some (.ref f__law_apart)
  f__law_right : Addr
  d__law_right : FuncData
  F__law_right : Fun K "_law_right" "_law_right" s__law_right f__law_right d__law_right
  b__law_right : Binds K d__law_right ["heap", "rate", "rows", "plan", "s"] []
  g__law_right : mg "_law_right" = some (.ref f__law_right)
  f_law : Addr
  d_law : FuncData
  F_law : Fun K "law" "law" s_law f_law d_law
  b_law : Binds K d_law ["script"] []
  g_law : mg "law" = some (.ref f_law)
  C_Chain : Addr
  g_Chain : mg "Chain" = some (.ref C_Chain)
  k_Chain : Cls K C_Chain
  M_Chain : Mk K C_Chain f_Chain_init
  a_Chain_links : NoAttr K C_Chain "links"
  C_Plan : Addr
  g_Plan : mg "Plan" = some (.ref C_Plan)
  k_Plan : Cls K C_Plan
  M_Plan : Mk K C_Plan f_Plan_init
  a_Plan_rate : NoAttr K C_Plan "rate"
  a_Plan_order : NoAttr K C_Plan "order"
  a_Plan_gate : NoAttr K C_Plan "gate"
  a_Plan_way : NoAttr K C_Plan "way"
  a_Plan_streams : NoAttr K C_Plan "streams"
  a_Plan_length : NoAttr K C_Plan "length"
  a_Plan_late : NoAttr K C_Plan "late"
  a_Plan_gap : NoAttr K C_Plan "gap"
  C_Theta : Addr
  g_Theta : mg "Theta" = some (.ref C_Theta)
  k_Theta : Cls K C_Theta
  M_Theta : Mk K C_Theta f_Theta_init
  a_Theta_first : NoAttr K C_Theta "first"
  a_Theta_second : NoAttr K C_Theta "second"
  a_Theta_back : NoAttr K C_Theta "back"
  C_InvalidChain : Addr
  f_InvalidChain_init : Addr
  g_InvalidChain : mg "InvalidChain" = some (.ref C_InvalidChain)
  X_InvalidChain : XCls K P C_InvalidChain f_InvalidChain_init
  I_InvalidChain : ExcC K C_InvalidChain
  C_Refused : Addr
  f_Refused_init : Addr
  g_Refused : mg "Refused" = some (.ref C_Refused)
  X_Refused : XCls K P C_Refused f_Refused_init
  I_Refused : ExcC K C_Refused
  t_MOST_LINKS : Tok
  c_MOST_LINKS : mg "MOST_LINKS" = some (.int (12) t_MOST_LINKS)
  t_MOST_TOP : Tok
  c_MOST_TOP : mg "MOST_TOP" = some (.int (2000) t_MOST_TOP)
  t_MOST_LESS : Tok
  c_MOST_LESS : mg "MOST_LESS" = some (.int (1000) t_MOST_LESS)
  t_MOST_PHASES : Tok
  c_MOST_PHASES : mg "MOST_PHASES" = some (.int (200) t_MOST_PHASES)
  N_NONE : Addr
  g_NONE : mg "NONE" = some (.ref N_NONE)
  i_NONE : ∀ F, Is K F (.ref N_NONE) (.tup [.int (0), .int (0), .int (0), .int (0), .int (0), .int (0)])
  n_super : mg "super" = none
  z_isinstance : mg "isinstance" = none
  z_int : mg "int" = none
  z_bool : mg "bool" = none
  z_list : mg "list" = none
  z_tuple : mg "tuple" = none
  z_len : mg "len" = none
  z_enumerate : mg "enumerate" = none
  z_min : mg "min" = none
  z_sum : mg "sum" = none
  z_range : mg "range" = none
  z_max : mg "max" = none
  z_abs : mg "abs" = none
  z_all : mg "all" = none
  z_str : mg "str" = none
  z_set : mg "set" = none
  z_sorted : mg "sorted" = none
/-! ### plain values -/
def okD : D → Bool
  | .non => true
  | .bl _ => true
  | .int _ => true
  | .str _ => true
  | .tup _ => true
  | .lst _ => true
  | _ => false
def isI : D → Bool
  | .int _ => true
  | _ => false
def isNum (d : D) (m : Option Int) : Bool := match d with
  | .int i => decide (0 ≤ i) && (match m with
    | some k => decide (i ≤ k)
    | none => true)
  | _ => false
theorem isNum_n {i : Int} : isNum (.int i) none = (decide (0 ≤ i) && true) := rfl
theorem isNum_s {i k : Int} : isNum (.int i) (some k) = (decide (0 ≤ i) && decide (i ≤ k)) := rfl
def isSq : D → Bool
  | .tup _ => true
  | .lst _ => true
  | _ => false
/-! ### sizes -/
theorem log_of {a : Int} {k : Nat} (h0 : 0 ≤ a) (h : a < 2 ^ (k + 1)) : a.natAbs.log2 ≤ k := by
  by_cases z : a.natAbs = 0
  · rw [z]
    exact Nat.zero_le _
  · have : a.natAbs < 2 ^ (k + 1) := by
      have e : ((a.natAbs : Nat) : Int) = a := Int.natAbs_of_nonneg h0
      have : ((a.natAbs : Nat) : Int) < ((2 ^ (k + 1) : Nat) : Int) := by
        rw [e]
        exact_mod_cast h
      omega
    exact Nat.le_of_lt_succ ((Nat.log2_lt z).mpr this)
theorem mulS {a b : Int} (ha : 0 ≤ a) (ha2 : a < 2 ^ 1000) (hb : 0 ≤ b) (hb2 : b < 2 ^ 1000) : MulOk a b := mulW_of (by
  have := log_of (k := 999) ha ha2
  have := log_of (k := 999) hb hb2
  omega)
theorem divS {a b : Int} (hb : 0 < b) (hb2 : b < 2 ^ 1000) : DivOk a b := divW_of hb (by
  have := log_of (k := 999) (by omega) hb2
  omega)
def gcdI (a b : Int) : Int := ((Int.gcd a b : Nat) : Int)
def low (a b : Int) : Int × Int := (a / gcdI a b, b / gcdI a b)
def prD (f : Int × Int) : D := .tup [.int f.1, .int f.2]
def sumF (f g : Int × Int) : Int × Int := low (f.1 * g.2 + g.1 * f.2) (f.2 * g.2)
def mulF (f g : Int × Int) : Int × Int := low (f.1 * g.1) (f.2 * g.2)
theorem gcd_step {a b : Int} (hb : 0 < b) : gcdI b (a % b) = gcdI a b := by
  unfold gcdI
  rw [Int.emod_def, Int.gcd_sub_mul_left_right, Int.gcd_comm]
theorem mul_lt {a b : Int} {j k l : Nat} (ha : 0 ≤ a) (hb : 0 ≤ b) (h1 : a < 2 ^ j) (h2 : b < 2 ^ k) (e : l = j + k) : a * b < 2 ^ l := by
  subst e
  rw [Int.pow_add]
  rcases Int.lt_or_eq_of_le ha with z | z
  · exact Int.lt_of_le_of_lt (Int.mul_le_mul_of_nonneg_left (Int.le_of_lt h2) ha) (Int.mul_lt_mul_of_pos_right h1 (Int.pow_pos (by decide)))
  · subst z
    rw [Int.zero_mul]
    exact Int.mul_pos (Int.pow_pos (by decide)) (Int.pow_pos (by decide))
theorem pow_up {j k : Nat} (hj : j ≤ k) : (2 : Int) ^ j ≤ 2 ^ k := by
  obtain ⟨n, rfl⟩ := Nat.le.dest hj
  rw [Int.pow_add]
  have h1 : (0 : Int) < 2 ^ j := Int.pow_pos (by decide)
  have h2 : (0 : Int) < 2 ^ n := Int.pow_pos (by decide)
  have h3 : (2 : Int) ^ j * 1 ≤ 2 ^ j * 2 ^ n := Int.mul_le_mul_of_nonneg_left (by omega) (by omega)
  omega
theorem big {a : Int} {j : Nat} (h : a < 2 ^ j) (hj : j ≤ 1000) : a < 2 ^ 1000 := Int.lt_of_lt_of_le h (pow_up hj)
/-! ### the promises -/
def sp_is_integer : ASp := fun ds M Φ _ => match ds with
  | [d] => okD d = true ∧ Φ (.bl (isI d)) M
  | _ => False
def sp_is_number : ASp := fun ds M Φ _ => match ds with
  | [d, .non] => okD d = true ∧ Φ (.bl (isNum d none)) M
  | [d, .int k] => okD d = true ∧ Φ (.bl (isNum d (some k))) M
  | _ => False
def sp_is_sequence : ASp := fun ds M Φ _ => match ds with
  | [d] => okD d = true ∧ Φ (.bl (isSq d)) M
  | _ => False
def sp_common_divisor : ASp := fun ds M Φ _ => match ds with
  | [.int a, .int b] => (0 ≤ a ∧ 0 ≤ b) ∧ Φ (.int (gcdI a b)) M
  | _ => False
def sp_lowest : ASp := fun ds M Φ _ => match ds with
  | [.int a, .int b] => (0 ≤ a ∧ 0 < b ∧ b < 2 ^ 1000) ∧ Φ (prD (low a b)) M
  | _ => False
def sp_sum_of : ASp := fun ds M Φ _ => match ds with
  | [.tup [.int a, .int b], .tup [.int c, .int d]] => (0 ≤ a ∧ 0 < b ∧ 0 ≤ c ∧ 0 < d ∧ a < 2 ^ 480 ∧ b < 2 ^ 480 ∧ c < 2 ^ 480 ∧ d < 2 ^ 480) ∧ Φ (prD (sumF (a, b) (c, d))) M
  | _ => False
def sp_product_of : ASp := fun ds M Φ _ => match ds with
  | [.tup [.int a, .int b], .tup [.int c, .int d]] => (0 ≤ a ∧ 0 < b ∧ 0 ≤ c ∧ 0 < d ∧ a < 2 ^ 480 ∧ b < 2 ^ 480 ∧ c < 2 ^ 480 ∧ d < 2 ^ 480) ∧ Φ (prD (mulF (a, b) (c, d))) M
  | _ => False

/-! ### links, chains -/
abbrev Lk3 := Int × Int × Int
def linkD (l : Lk3) : D := .tup [.int l.1, .int l.2.1, .int l.2.2]
def Good (l : Lk3) : Prop := (1 ≤ l.1 ∧ l.1 ≤ 2000) ∧ (1 ≤ l.2.1 ∧ l.2.1 ≤ 2000) ∧ (0 ≤ l.2.2 ∧ l.2.2 ≤ 1000)
instance (l : Lk3) : Decidable (Good l) := by unfold Good; exact inferInstance
def seqD : D → Option (List D)
  | .tup xs => some xs
  | .lst xs => some xs
  | _ => none
def linkOf3 (a b c : D) : Option Lk3 := match a, b, c with
  | .int x, .int y, .int z => if Good (x, y, z) then some (x, y, z) else none
  | _, _, _ => none
def linkOf (d : D) : Option Lk3 := match seqD d with
  | some [a, b, c] => linkOf3 a b c
  | _ => none
def okLink (d : D) : Bool := okD d && (match seqD d with
  | some xs => xs.all okD
  | none => true)
def okChain (g : D) : Bool := okD g && (match seqD g with
  | some xs => xs.all okLink
  | none => true)
theorem isNum_iff {d : D} {k : Int} : isNum d (some k) = true ↔ ∃ i, d = .int i ∧ 0 ≤ i ∧ i ≤ k := by
  cases d <;> simp [isNum]
theorem linkOf3_some {a b c : D} {l : Lk3} : linkOf3 a b c = some l ↔ (a = .int l.1 ∧ b = .int l.2.1 ∧ c = .int l.2.2) ∧ Good l := by
  unfold linkOf3
  split
  · rename_i x y z
    split
    · rename_i hg
      constructor
      · intro h
        cases h
        exact ⟨⟨rfl, rfl, rfl⟩, hg⟩
      · rintro ⟨⟨h1, h2, h3⟩, h⟩
        cases h1
        cases h2
        cases h3
        rfl
    · rename_i hg
      constructor
      · intro h
        cases h
      · rintro ⟨⟨h1, h2, h3⟩, h⟩
        cases h1
        cases h2
        cases h3
        exact absurd h hg
  · rename_i hn
    constructor
    · intro h
      cases h
    · rintro ⟨⟨h1, h2, h3⟩, h⟩
      exact absurd h3 (hn _ _ _ h1 h2)
theorem linkOf_some {d : D} {l : Lk3} : linkOf d = some l ↔ seqD d = some [.int l.1, .int l.2.1, .int l.2.2] ∧ Good l := by
  unfold linkOf
  split
  · rename_i a b c h
    rw [h, linkOf3_some]
    simp
  · rename_i hn
    constructor
    · intro h
      cases h
    · rintro ⟨h, _⟩
      exact absurd h (hn _ _ _)
theorem nums_of {a b c : D} {l : Lk3} (h : linkOf3 a b c = some l) : isNum a (some 2000) = true ∧ isNum b (some 2000) = true ∧ isNum c (some 1000) = true := by
  obtain ⟨⟨rfl, rfl, rfl⟩, g⟩ := linkOf3_some.mp h
  unfold Good at g
  exact ⟨isNum_iff.mpr ⟨_, rfl, by omega, by omega⟩, isNum_iff.mpr ⟨_, rfl, by omega, by omega⟩, isNum_iff.mpr ⟨_, rfl, by omega, by omega⟩⟩
theorem pos_of {x y z : Int} (hx : 0 ≤ x ∧ x ≤ 2000) (hy : 0 ≤ y ∧ y ≤ 2000) (hz : 0 ≤ z ∧ z ≤ 1000) : (linkOf3 (.int x) (.int y) (.int z)).isSome = (decide (0 < x) && decide (0 < y)) := by
  have e : linkOf3 (.int x) (.int y) (.int z) = if Good (x, y, z) then some (x, y, z) else none := rfl
  rw [e]
  by_cases h : 0 < x ∧ 0 < y
  · rw [if_pos (by unfold Good; dsimp only; omega), decide_eq_true h.1, decide_eq_true h.2]
    rfl
  · rw [if_neg (by unfold Good; dsimp only; omega)]
    by_cases h1 : 0 < x
    · rw [decide_eq_true h1, decide_eq_false (by omega : ¬ 0 < y)]
      rfl
    · rw [decide_eq_false h1]
      rfl
def stepL (l : Lk3) (s : Int) : Int := l.1 * max 0 (s - l.2.2) / l.2.1
def fin (ls : List Lk3) (s : Int) : Int := ls.foldl (fun s l => stepL l s) s
def vals : List Lk3 → Int → List Int
  | [], _ => []
  | l :: ls, s => stepL l s :: vals ls (stepL l s)
theorem vals_app (ks ls : List Lk3) (s : Int) : vals (ks ++ ls) s = vals ks s ++ vals ls (fin ks s) := by
  induction ks generalizing s with
  | nil => rfl
  | cons k ks ih =>
    show _ :: vals (ks ++ ls) _ = _ :: (vals ks _ ++ _)
    rw [ih]
    rfl
theorem fin_app (ks ls : List Lk3) (s : Int) : fin (ks ++ ls) s = fin ls (fin ks s) := List.foldl_append
theorem vals_last {ls : List Lk3} (h : ls ≠ []) (s : Int) : (vals ls s).getLast? = some (fin ls s) := by
  induction ls generalizing s with
  | nil => exact absurd rfl h
  | cons l ls ih =>
    cases ls with
    | nil => rfl
    | cons m ls =>
      show (stepL l s :: vals (m :: ls) (stepL l s)).getLast? = _
      have e : vals (m :: ls) (stepL l s) = stepL m (stepL l s) :: vals ls (stepL m (stepL l s)) := rfl
      have z := ih (by simp) (stepL l s)
      rw [e] at z ⊢
      rw [List.getLast?_cons_cons, z]
      rfl
theorem vals_len (ls : List Lk3) (s : Int) : (vals ls s).length = ls.length := by
  induction ls generalizing s with
  | nil => rfl
  | cons l ls ih =>
    show (vals ls _).length + 1 = _
    rw [ih]
    rfl
theorem take_next {α : Type} {xs : List α} {i : Nat} {x : α} (h : xs[i]? = some x) : xs.take (i + 1) = xs.take i ++ [x] := by
  rw [List.take_add_one, h]
  rfl
/-! ### the promises -/
def sp_is_link : ASp := fun ds M Φ _ => match ds with
  | [d] => okLink d = true ∧ Φ (.bl (linkOf d).isSome) M
  | _ => False
def sp_Chain_init (CC CI : Addr) : ASp := fun ds M Φ Ψ => match ds with
  | [.ref x, g] => okChain g = true ∧ ∃ M1, M = (x, .ins CC [] []) :: M1 ∧ ((seqD g = none ∨ seqD g = some []) → Ψ ⟨CI, .int (-1)⟩ M) ∧
      ∀ xs, seqD g = some xs → xs ≠ [] → (∀ i d, xs[i]? = some d → i ≤ 12 → (∀ j e, j < i → xs[j]? = some e → (linkOf e).isSome = true) → (i = 12 ∨ linkOf d = none) → Ψ ⟨CI, .int (i : Nat)⟩ M) ∧
        (∀ ls : List Lk3, xs.map linkOf = ls.map some → ls.length ≤ 12 → (∀ l ∈ ls, Good l) → Φ .non ((x, .ins CC ["links"] [.tup (ls.map linkD)]) :: M1))
  | _ => False
def sp_behind_link : ASp := fun ds M Φ _ => match ds with
  | [.tup [.int t, .int b, .int e], .int s] => Good (t, b, e) ∧ Φ (.int (stepL (t, b, e) s)) M
  | _ => False
def sp_values_of (CC : Addr) : ASp := fun ds M Φ _ => match ds with
  | [.ins C ns [.tup xs], .int s] => C = CC ∧ ns = [("links" : Str)] ∧ ∃ ls : List Lk3, xs = ls.map linkD ∧ (∀ l ∈ ls, Good l) ∧ ls.length ≤ 12 ∧ Φ (.tup ((vals ls s).map D.int)) M
  | _ => False
def sp_step_of (CC : Addr) : ASp := fun ds M Φ _ => match ds with
  | [.ins C ns [.tup xs], .int s] => C = CC ∧ ns = [("links" : Str)] ∧ ∃ ls : List Lk3, xs = ls.map linkD ∧ ls ≠ [] ∧ (∀ l ∈ ls, Good l) ∧ ls.length ≤ 12 ∧ Φ (.int (fin ls s)) M
  | _ => False
theorem sq_cases {g : D} (h : isSq g = true) : ∃ xs, seqD g = some xs ∧ (g = .tup xs ∨ g = .lst xs) := by
  cases g <;> first
    | exact Bool.noConfusion h
    | exact ⟨_, rfl, .inl rfl⟩
    | exact ⟨_, rfl, .inr rfl⟩
theorem isSq_of {g : D} (h : isSq g = false) : seqD g = none := by
  cases g <;> first
    | rfl
    | exact Bool.noConfusion h
theorem all_links : ∀ {xs : List D}, (∀ e ∈ xs, (linkOf e).isSome = true) → ∃ ls : List Lk3, xs.map linkOf = ls.map some
  | [], _ => ⟨[], rfl⟩
  | x :: xs, h => by
    obtain ⟨ls, e⟩ := all_links fun e he => h e (List.mem_cons_of_mem _ he)
    obtain ⟨l, hl⟩ := Option.isSome_iff_exists.mp (h x List.mem_cons_self)
    exact ⟨l :: ls, by rw [List.map_cons, List.map_cons, e, hl]⟩
def linkDo (d : D) : D := match linkOf d with
  | some l => linkD l
  | none => .non
theorem linkDo_of {d : D} {l : Lk3} (h : linkOf d = some l) : linkDo d = linkD l := by
  unfold linkDo
  rw [h]
theorem links_do : ∀ {xs : List D} {ls : List Lk3}, xs.map linkOf = ls.map some → xs.map linkDo = ls.map linkD
  | [], [], _ => rfl
  | [], _ :: _, h => by cases h
  | _ :: _, [], h => by cases h
  | x :: xs, l :: ls, h => by
    rw [List.map_cons, List.map_cons] at h
    obtain ⟨h1, h2⟩ := List.cons.inj h
    rw [List.map_cons, List.map_cons, linkDo_of h1, links_do h2]
theorem good_all {xs : List D} {ls : List Lk3} (h : xs.map linkOf = ls.map some) : ∀ l ∈ ls, Good l := fun l hl => by
  have : some l ∈ xs.map linkOf := by
    rw [h]
    exact List.mem_map_of_mem hl
  obtain ⟨d, _, e⟩ := List.mem_map.mp this
  exact (linkOf_some.mp e).2
theorem seq_link {d : D} {l : Lk3} (h : linkOf d = some l) : d = .tup [.int l.1, .int l.2.1, .int l.2.2] ∨ d = .lst [.int l.1, .int l.2.1, .int l.2.2] := by
  have e := (linkOf_some.mp h).1
  cases d <;> first
    | (cases e; exact .inl rfl)
    | (cases e; exact .inr rfl)
    | cases e
def sh (l : Lk3) : Int × Int := low l.1 l.2.1
def facF (ls : List Lk3) : Int × Int := ls.foldl (fun f l => mulF f (sh l)) (1, 1)
def lostF (l : Lk3) : Int × Int := low ((sh l).1 * l.2.2 + (sh l).2 - 1) (sh l).2
def losF (ls : List Lk3) : Int × Int := ls.foldl (fun f l => sumF (mulF f (sh l)) (lostF l)) (0, 1)
def sp_factor_of (CC : Addr) : ASp := fun ds M Φ _ => match ds with
  | [.ins C ns [.tup xs]] => C = CC ∧ ns = [("links" : Str)] ∧ ∃ ls : List Lk3, xs = ls.map linkD ∧ (∀ l ∈ ls, Good l) ∧ ls.length ≤ 12 ∧ Φ (prD (facF ls)) M
  | _ => False
def sp_loss_of (CC : Addr) : ASp := fun ds M Φ _ => match ds with
  | [.ins C ns [.tup xs]] => C = CC ∧ ns = [("links" : Str)] ∧ ∃ ls : List Lk3, xs = ls.map linkD ∧ (∀ l ∈ ls, Good l) ∧ ls.length ≤ 12 ∧ Φ (prD (losF ls)) M
  | _ => False
/-- a pair that may be multiplied -/
structure Pr (f : Int × Int) (j k : Nat) : Prop where
  n : 0 ≤ f.1
  p : 0 < f.2
  a : f.1 < 2 ^ j
  b : f.2 < 2 ^ k
theorem low_pr {a b : Int} {j k : Nat} (ha : 0 ≤ a) (hb : 0 < b) (h1 : a < 2 ^ j) (h2 : b < 2 ^ k) : Pr (low a b) j k := by
  have g0 : 0 < gcdI a b := by
    unfold gcdI
    have := Int.gcd_pos_of_ne_zero_right a (by omega : b ≠ 0)
    omega
  have e1 : gcdI a b * (b / gcdI a b) = b := Int.mul_ediv_cancel' (Int.gcd_dvd_right a b)
  have l1 : a / gcdI a b ≤ a := Int.ediv_le_self _ ha
  have l2 : b / gcdI a b ≤ b := Int.ediv_le_self _ (by omega)
  refine ⟨Int.ediv_nonneg ha (by omega), ?_, Int.lt_of_le_of_lt l1 h1, Int.lt_of_le_of_lt l2 h2⟩
  show 0 < b / gcdI a b
  rcases Int.lt_or_le 0 (b / gcdI a b) with z | z
  · exact z
  · have : gcdI a b * (b / gcdI a b) ≤ 0 := Int.mul_nonpos_of_nonneg_of_nonpos (by omega) z
    omega
theorem Pr.up {f : Int × Int} {j k j' k' : Nat} (h : Pr f j k) (h1 : j ≤ j') (h2 : k ≤ k') : Pr f j' k' := ⟨h.n, h.p, Int.lt_of_lt_of_le h.a (pow_up h1), Int.lt_of_lt_of_le h.b (pow_up h2)⟩
theorem Pr.mul {f g : Int × Int} {j k j' k' : Nat} (h : Pr f j k) (z : Pr g j' k') : Pr (mulF f g) (j + j') (k + k') :=
  low_pr (Int.mul_nonneg h.n z.n) (Int.mul_pos h.p z.p) (mul_lt h.n z.n h.a z.a rfl) (mul_lt (Int.le_of_lt h.p) (Int.le_of_lt z.p) h.b z.b rfl)
theorem Pr.add {f g : Int × Int} {j k j' k' l : Nat} (h : Pr f j k) (z : Pr g j' k') (h1 : j + k' < l) (h2 : j' + k < l) : Pr (sumF f g) l (k + k') := by
  refine low_pr (Int.add_nonneg (Int.mul_nonneg h.n (Int.le_of_lt z.p)) (Int.mul_nonneg z.n (Int.le_of_lt h.p))) (Int.mul_pos h.p z.p) ?_ (mul_lt (Int.le_of_lt h.p) (Int.le_of_lt z.p) h.b z.b rfl)
  have e1 : f.1 * g.2 < 2 ^ (j + k') := mul_lt h.n (Int.le_of_lt z.p) h.a z.b rfl
  have e2 : g.1 * f.2 < 2 ^ (j' + k) := mul_lt z.n (Int.le_of_lt h.p) z.a h.b rfl
  obtain ⟨m, rfl⟩ : ∃ m, l = m + 1 := ⟨l - 1, by omega⟩
  have e3 := pow_up (show j + k' ≤ m by omega)
  have e4 := pow_up (show j' + k ≤ m by omega)
  have e5 : (2 : Int) ^ (m + 1) = 2 ^ m * 2 := Int.pow_succ 2 m
  omega
theorem sh_pr {l : Lk3} (h : Good l) : Pr (sh l) 11 11 := by
  unfold Good at h
  exact low_pr (by omega) (by omega) (by omega) (by omega)
theorem lost_pr {l : Lk3} (h : Good l) : Pr (lostF l) 22 11 := by
  have z := sh_pr h
  unfold Good at h
  obtain ⟨n, p, a, b⟩ := z
  have e0 : 0 ≤ (sh l).1 * l.2.2 := Int.mul_nonneg n (by omega)
  have e1 : (sh l).1 * l.2.2 ≤ 2047 * 1000 := Int.mul_le_mul (by omega) (by omega) (by omega) (by decide)
  exact low_pr (by omega) p (by omega) b
theorem fac_next {ls : List Lk3} {i : Nat} {l : Lk3} (h : ls[i]? = some l) : facF (ls.take (i + 1)) = mulF (facF (ls.take i)) (sh l) := by
  rw [take_next h]
  unfold facF
  rw [List.foldl_append]
  rfl
theorem los_next {ls : List Lk3} {i : Nat} {l : Lk3} (h : ls[i]? = some l) : losF (ls.take (i + 1)) = sumF (mulF (losF (ls.take i)) (sh l)) (lostF l) := by
  rw [take_next h]
  unfold losF
  rw [List.foldl_append]
  rfl
theorem fac_pr {ls : List Lk3} (hg : ∀ l ∈ ls, Good l) : ∀ i, i ≤ ls.length → Pr (facF (ls.take i)) (11 * i + 1) (11 * i + 1)
  | 0, _ => by
    rw [List.take_zero]
    exact ⟨by decide, by decide, by decide, by decide⟩
  | i + 1, hi => by
    have hx := List.getElem?_eq_getElem (show i < ls.length by omega)
    rw [fac_next hx]
    exact ((fac_pr hg i (by omega)).mul (sh_pr (hg _ (List.getElem_mem _)))).up (by omega) (by omega)
theorem los_pr {ls : List Lk3} (hg : ∀ l ∈ ls, Good l) : ∀ i, i ≤ ls.length → Pr (losF (ls.take i)) (40 * i + 1) (22 * i + 1)
  | 0, _ => by
    rw [List.take_zero]
    exact ⟨by decide, by decide, by decide, by decide⟩
  | i + 1, hi => by
    have hx := List.getElem?_eq_getElem (show i < ls.length by omega)
    have g := hg _ (List.getElem_mem (show i < ls.length by omega))
    rw [los_next hx]
    exact (((los_pr hg i (by omega)).mul (sh_pr g)).add (l := 40 * (i + 1) + 1) (lost_pr g) (by omega) (by omega)).up (Nat.le_refl _) (by omega)

/-! ### what is alike: ints, None, bools, strings, tuples -/
def shp : Nat → D → Bool
  | _, .int _ => true
  | _, .non => true
  | _, .bl _ => true
  | _, .str _ => true
  | n + 1, .tup ds => decide (ds.length ≤ 1000) && ds.all (shp n)
  | _, _ => false
def spLike : Nat → ASp
  | 0 => fun _ _ _ _ => False
  | n + 1 => fun ds M Φ _ => ∃ t d, ds = [t, d] ∧ (t = d ∧ shp n d = true) ∧ Φ (.bl true) M
theorem fn_false {P : Program} {w : World} {K : PySem.W.Frag} {mg : Str → Option Value} {base : Heap} {CX : CXT} {k : Nat} {f : Addr} {fd : FuncData} {ps : List Str} {B : Bx} : FnOk P w K mg base CX k f fd ps (conc K B fun _ _ _ _ => False) :=
  ⟨fun _ _ _ _ ⟨_, _, _, _, _, _, _, z, _⟩ => z.elim, fun _ _ _ _ _ _ _ _ _ _ _ _ _ ⟨_, _, _, _, _, _, _, z, _⟩ => z.elim⟩
theorem spLike_s {n : Nat} {t d : D} {M : Mm} {Φ : AK} {Ψ : XD → Mm → Prop} (h : t = d) (hs : shp n d = true) (k : Φ (.bl true) M) : spLike (n + 1) [t, d] M Φ Ψ := ⟨t, d, rfl, ⟨h, hs⟩, k⟩
theorem all_true : ∀ n : Nat, (List.replicate n true).all id = true
  | 0 => rfl
  | n + 1 => by
    rw [List.replicate_succ, List.all_cons, all_true n]
    rfl

def sp__law_heap : ASp := fun ds M Φ _ => match ds with
  | [.lst xs] => ∃ ns : List Int, xs = ns.map D.int ∧ ns.length ≤ 63 ∧ ∀ h c (cs : List Int) s, cs.length ≤ 1000 → Φ (.ref h) (heapM h c cs s ++ M)
  | _ => False
theorem okChain_tup {ls : List Lk3} : okChain (.tup (ls.map linkD)) = true := by
  show (true && (ls.map linkD).all okLink) = true
  rw [Bool.true_and, List.all_eq_true]
  intro d hd
  obtain ⟨l, _, rfl⟩ := List.mem_map.mp hd
  rfl
theorem linkOf_D {l : Lk3} (h : Good l) : linkOf (linkD l) = some l := linkOf_some.mpr ⟨rfl, h⟩
theorem linksOf_D {ls : List Lk3} (hg : ∀ l ∈ ls, Good l) : (ls.map linkD).map linkOf = ls.map some := by
  rw [List.map_map]
  exact List.map_congr_left fun l hl => linkOf_D (hg l hl)

theorem euclid_step {x y : Int} {i : Nat} {c : Int} (hy : 0 < y) (h : y < x) (hi : 0 < i) (hz : x * y * 2 ^ (i - 1) ≤ c) : x % y < y ∧ y * (x % y) * 2 ^ (i + 1 - 1) ≤ c := by
  have r0 := Int.emod_nonneg x (by omega : y ≠ 0)
  have r1 := Int.emod_lt_of_pos x hy
  refine ⟨r1, ?_⟩
  have e := Int.emod_add_mul_ediv x y
  have q1 : 1 ≤ x / y := by
    rcases Int.lt_or_le (x / y) 1 with z | z
    · have : y * (x / y) ≤ 0 := Int.mul_nonpos_of_nonneg_of_nonpos (by omega) (by omega)
      omega
    · exact z
  have q2 : y * 1 ≤ y * (x / y) := Int.mul_le_mul_of_nonneg_left q1 (by omega)
  have r2 : 2 * (x % y) ≤ x := by omega
  obtain ⟨j, rfl⟩ : ∃ j, i = j + 1 := ⟨i - 1, by omega⟩
  show y * (x % y) * 2 ^ (j + 1) ≤ c
  have p0 : (0 : Int) < 2 ^ j := Int.pow_pos (by decide)
  have a1 : y * (x % y) * 2 ^ (j + 1) = y * (2 * (x % y)) * 2 ^ j := by
    rw [Int.pow_succ, ← Int.mul_assoc, Int.mul_comm (y * (x % y) * 2 ^ j) 2, ← Int.mul_assoc, ← Int.mul_assoc, Int.mul_left_comm y 2, ← Int.mul_assoc]
  have a2 : y * (2 * (x % y)) ≤ x * y := by
    rw [Int.mul_comm x y]
    exact Int.mul_le_mul_of_nonneg_left r2 (by omega)
  rw [a1]
  exact Int.le_trans (Int.mul_le_mul_of_nonneg_right a2 (by omega)) hz

/-! ### thetas: the plain facts -/
def RP (p q : Int) : Prop := 1 ≤ p ∧ p < q ∧ q ≤ 1000
theorem rp_good {p q : Int} (h : RP p q) : Good (p, q, 0) ∧ Good (2 * p, q, 0) := by
  unfold RP at h
  unfold Good
  dsimp only
  omega
def l4 (p q : Int) : List Lk3 := [(p, q, 0), (p, q, 0), (p, q, 0), (2 * p, q, 0)]
theorem l4_good {p q : Int} (h : RP p q) : ∀ l ∈ l4 p q, Good l := by
  intro l hl
  obtain ⟨g1, g2⟩ := rp_good h
  unfold l4 at hl
  simp only [List.mem_cons, List.not_mem_nil, or_false] at hl
  rcases hl with rfl | rfl | rfl | rfl <;> assumption
def u3 (p q s : Int) : Int := p * (p * (p * s / q) / q) / q
def nxt (p q s : Int) : Int := p * (2 * u3 p q s) / q
def lateI (p q z d : Int) : Int := min d z - p * z / q + p * (z - min d z) / q
theorem fl_nn {p q s : Int} (h : RP p q) (hs : 0 ≤ s) : 0 ≤ p * s / q := by
  unfold RP at h
  exact Int.ediv_nonneg (Int.mul_nonneg (by omega) hs) (by omega)
theorem fl_le {p q s : Int} (h : RP p q) (hs : 0 ≤ s) : p * s / q ≤ s := by
  unfold RP at h
  refine Int.ediv_le_of_le_mul (by omega) ?_
  have := Int.mul_le_mul_of_nonneg_right (show p ≤ q by omega) hs
  have := Int.mul_comm q s
  omega
theorem u3_nn {p q s : Int} (h : RP p q) (hs : 0 ≤ s) : 0 ≤ u3 p q s := fl_nn h (fl_nn h (fl_nn h hs))
theorem u3_le {p q s : Int} (h : RP p q) (hs : 0 ≤ s) : u3 p q s ≤ s := Int.le_trans (fl_le h (fl_nn h (fl_nn h hs))) (Int.le_trans (fl_le h (fl_nn h hs)) (fl_le h hs))
theorem nxt_nn {p q s : Int} (h : RP p q) (hs : 0 ≤ s) : 0 ≤ nxt p q s := fl_nn h (by have := u3_nn h hs; omega)
theorem nxt_le {p q s : Int} (h : RP p q) (hs : 0 ≤ s) : nxt p q s ≤ 2 * s := by
  have a := u3_nn h hs
  have b := u3_le h hs
  have := fl_le h (s := 2 * u3 p q s) (by omega)
  unfold nxt
  omega
/-- one beat more: a slot or none -/
theorem fl_next {p q a : Int} (h : RP p q) : p * (a + 1) / q = p * a / q + (if p * a % q + p < q then 0 else 1) := by
  unfold RP at h
  have e := Int.emod_add_mul_ediv (p * a) q
  have r0 := Int.emod_nonneg (p * a) (show q ≠ 0 by omega)
  have r1 := Int.emod_lt_of_pos (p * a) (show 0 < q by omega)
  have e2 : p * (a + 1) = p * a + p := by grind
  rw [e2]
  generalize p * a % q = r at *
  generalize p * a / q = d at *
  generalize p * a = x at *
  subst e
  split
  · rw [Int.add_zero, show r + q * d + p = (r + p) + q * d by omega, Int.add_mul_ediv_left _ _ (show q ≠ 0 by omega), Int.ediv_eq_zero_of_lt (by omega) (by omega)]
    omega
  · rw [show r + q * d + p = (r + p - q) + q * (d + 1) by grind, Int.add_mul_ediv_left _ _ (show q ≠ 0 by omega), Int.ediv_eq_zero_of_lt (by omega) (by omega)]
    omega
/-- a theta's rows -/
structure Th (F G B : List Int) : Prop where
  f0 : 1 ≤ F.length
  f1 : F.length ≤ 20
  g0 : 1 ≤ G.length
  g1 : G.length ≤ 20
  b0 : 1 ≤ B.length
  b1 : B.length ≤ 20
  nd : (F ++ (G ++ B)).Nodup
def waysL (F G B : List Int) : List (List Int) := [F.take 1, G.take 1, F ++ B.take 1, G ++ B.take 1, B ++ F.take 1, B ++ G.take 1]
def orderL (F G B : List Int) : List (List Int) := [F.take 1, G.take 1, B.take 1, F ++ B.take 1, G ++ B.take 1, B ++ F.take 1, B ++ G.take 1]
abbrev lowI (F G : List Int) : Int := min (F.length : Int) (G.length : Int)
abbrev dI (F G : List Int) : Int := max 0 ((F.length : Int) - (G.length : Int))
abbrev Sp := List Int × Int × Int
abbrev yI (p q s : Int) : Int := p * s / q
abbrev zI (p q s : Int) : Int := p * (p * s / q) / q
abbrev hI (F G : List Int) (p q s : Int) : Int := lateI p q (zI p q s) (dI F G)
def t2 (B : List Int) (b s : Int) : Int := b + (B.length : Int) + s
def t3 (B : List Int) (p q b s : Int) : Int := t2 B b s + yI p q s
def t4 (F G B : List Int) (p q b s : Int) : Int := t3 B p q b s + zI p q s + lowI F G + hI F G p q s
def te (F G B : List Int) (p q b s : Int) : Int := t4 F G B p q b s + 2 * u3 p q s
def spL (F G B : List Int) (p q b s : Int) : List Sp := [(B ++ G.take 1, b, s), (F.take 1, b + (B.length : Int), s), (F ++ B.take 1, t2 B b s, yI p q s), (G.take 1, t2 B b s, yI p q s),
  (F.take 1, t3 B p q b s, zI p q s), (G ++ B.take 1, t3 B p q b s, zI p q s), (B ++ F.take 1, t4 F G B p q b s, 2 * u3 p q s)]
/-- forms and counts -/
def wF (f c : List Int) : Int := (List.zipWith (· * ·) f c).sum
def cnt (F G : List Int) (p q s : Int) : List Int := [1, s, yI p q s, zI p q s, u3 p q s, hI F G p q s]
def lenF (F G B : List Int) : List Int := [(B.length : Int) + lowI F G, 1, 1, 1, 2, 1]
def stL (F G B : List Int) : List (List Int × List Int × List Int) := [(B ++ G.take 1, [0, 0, 0, 0, 0, 0], [0, 1, 0, 0, 0, 0]), (F.take 1, [(B.length : Int), 0, 0, 0, 0, 0], [0, 1, 0, 0, 0, 0]),
  (F ++ B.take 1, [(B.length : Int), 1, 0, 0, 0, 0], [0, 0, 1, 0, 0, 0]), (G.take 1, [(B.length : Int), 1, 0, 0, 0, 0], [0, 0, 1, 0, 0, 0]), (F.take 1, [(B.length : Int), 1, 1, 0, 0, 0], [0, 0, 0, 1, 0, 0]),
  (G ++ B.take 1, [(B.length : Int), 1, 1, 0, 0, 0], [0, 0, 0, 1, 0, 0]), (B ++ F.take 1, [(B.length : Int) + lowI F G, 1, 1, 1, 0, 1], [0, 0, 0, 0, 2, 0])]
theorem wF6 {a0 a1 a2 a3 a4 a5 b0 b1 b2 b3 b4 b5 : Int} : wF [a0, a1, a2, a3, a4, a5] [b0, b1, b2, b3, b4, b5] = a0 * b0 + (a1 * b1 + (a2 * b2 + (a3 * b3 + (a4 * b4 + (a5 * b5 + 0))))) := rfl
theorem spans_eq {F G B : List Int} {p q b s : Int} : (stL F G B).map (fun x => ((x.1, b + wF x.2.1 (cnt F G p q s), wF x.2.2 (cnt F G p q s)) : Sp)) = spL F G B p q b s := by
  unfold stL spL cnt t4 t3 t2
  simp only [List.map_cons, List.map_nil, wF6, Int.zero_mul, Int.one_mul, Int.mul_one, Int.add_zero, Int.zero_add]
  rw [← Int.add_assoc, ← Int.add_assoc, ← Int.add_assoc, ← Int.add_assoc]
  simp only [Int.add_assoc, Int.add_left_comm, Int.add_comm]
theorem len_eq {F G B : List Int} {p q b s : Int} : te F G B p q b s - b = wF (lenF F G B) (cnt F G p q s) := by
  unfold te t4 t3 t2 lenF cnt
  rw [wF6]
  omega
def SmallI (a : Int) : Prop := -1000 ≤ a ∧ a ≤ 1000
theorem stL_ok {F G B : List Int} (h : Th F G B) : ∀ x ∈ stL F G B, (x.2.1.length = 6 ∧ x.2.2.length = 6) ∧ (∀ a ∈ x.2.1, SmallI a) ∧ (∀ a ∈ x.2.2, SmallI a) ∧ x.1.length ≤ 21 := by
  obtain ⟨f0, f1, g0, g1, b0, b1, _⟩ := h
  have e1 : ∀ xs : List Int, (xs.take 1).length ≤ 1 := fun xs => by rw [List.length_take]; omega
  unfold stL
  simp only [List.forall_mem_cons, List.length_cons, List.length_nil, List.length_append]
  have ef := e1 F
  have eg := e1 G
  have eb := e1 B
  have lw : 0 ≤ lowI F G ∧ lowI F G ≤ 20 := by unfold lowI; omega
  refine ⟨?_, ?_, ?_, ?_, ?_, ?_, ?_, fun _ z => absurd z List.not_mem_nil⟩ <;> refine ⟨by decide, ?_, ?_, by omega⟩ <;> (refine ⟨?_, ?_, ?_, ?_, ?_, ?_, fun _ z => absurd z List.not_mem_nil⟩ <;> (unfold SmallI; omega))
/-! ### apart -/
def After (x y : Int × Int) : Prop := x.1 + x.2 ≤ y.1
def onB (e : Int) (xs : List Sp) : List (Int × Int) := (xs.filter fun x => decide (e ∈ x.1)).map (·.2)
/-- the spans in which e is wanted lie behind one another between a and b -/
structure Apart (e : Int) (xs : List Sp) (a b : Int) : Prop where
  pw : (onB e xs).Pairwise After
  lo : ∀ x ∈ onB e xs, a ≤ x.1
  hi : ∀ x ∈ onB e xs, x.1 + x.2 ≤ b
  nn : ∀ x ∈ onB e xs, 0 ≤ x.2
theorem Apart.join {e : Int} {xs ys : List Sp} {a b c : Int} (h1 : Apart e xs a b) (h2 : Apart e ys b c) (ab : a ≤ b) (bc : b ≤ c) : Apart e (xs ++ ys) a c := by
  have ea : onB e (xs ++ ys) = onB e xs ++ onB e ys := by
    unfold onB
    rw [List.filter_append, List.map_append]
  refine ⟨?_, ?_, ?_, ?_⟩
  · rw [ea]
    refine List.pairwise_append.mpr ⟨h1.pw, h2.pw, fun x hx y hy => ?_⟩
    have := h1.hi x hx
    have := h2.lo y hy
    unfold After
    omega
  all_goals
    rw [ea]
    intro x hx
    rcases List.mem_append.mp hx with hx | hx
  · exact h1.lo x hx
  · have := h2.lo x hx
    omega
  · have := h1.hi x hx
    omega
  · exact h2.hi x hx
  · exact h1.nn x hx
  · exact h2.nn x hx
theorem apart_nil {e a : Int} : Apart e [] a a := ⟨.nil, fun _ z => absurd z List.not_mem_nil, fun _ z => absurd z List.not_mem_nil, fun _ z => absurd z List.not_mem_nil⟩
theorem late_nn {p q z d : Int} (h : RP p q) (hz : 0 ≤ z) (hd : 0 ≤ d) : 0 ≤ lateI p q z d := by
  have key : ∀ n : Nat, ∀ a : Int, p * (a + n) / q ≤ p * a / q + n := fun n => by
    induction n with
    | zero => intro a; rw [show a + ((0 : Nat) : Int) = a by omega]; omega
    | succ n ih =>
      intro a
      have e := fl_next (a := a + n) h
      rw [show a + ((n + 1 : Nat) : Int) = a + n + 1 by omega, e]
      have := ih a
      split <;> omega
  unfold lateI
  have k := key (min d z).toNat (z - min d z)
  rw [show z - min d z + ((min d z).toNat : Int) = z by omega] at k
  omega
theorem spL_apart {F G B : List Int} (h : Th F G B) {p q b s : Int} (hp : RP p q) (hs : 0 ≤ s) (e : Int) : Apart e (spL F G B p q b s) b (te F G B p q b s) := by
  have y0 := fl_nn hp hs
  have z0 := fl_nn hp y0
  have u0 := u3_nn hp hs
  have l0 : 0 ≤ hI F G p q s := late_nn hp z0 (by unfold dI; omega)
  have nd := h.nd
  have tk : ∀ xs : List Int, e ∈ xs.take 1 → e ∈ xs := fun xs m => List.mem_of_mem_take m
  have x1 : e ∈ F → e ∉ G ∧ e ∉ B := fun m => by
    have := (List.nodup_append.mp nd).2.2 e m
    exact ⟨fun g => this e (List.mem_append_left _ g) rfl, fun g => this e (List.mem_append_right _ g) rfl⟩
  have x2 : e ∈ G → e ∉ B := fun m g => (List.nodup_append.mp (List.nodup_append.mp nd).2.1).2.2 e m e g rfl
  have nb : 0 ≤ (B.length : Int) := by omega
  have lw : 0 ≤ lowI F G := by unfold lowI; omega
  have q2 : t2 B b s = b + (B.length : Int) + s := rfl
  have q3 : t3 B p q b s = t2 B b s + yI p q s := rfl
  have q4 : t4 F G B p q b s = t3 B p q b s + zI p q s + lowI F G + hI F G p q s := rfl
  have q5 : te F G B p q b s = t4 F G B p q b s + 2 * u3 p q s := rfl
  have yz : yI p q s = p * s / q := rfl
  have zz : zI p q s = p * (p * s / q) / q := rfl
  rw [← yz] at y0
  rw [← zz] at z0
  have c01 : e ∈ B ++ G.take 1 → e ∈ F.take 1 → False := fun m1 m2 => by
    have q := x1 (tk _ m2)
    rcases List.mem_append.mp m1 with m | m
    · exact q.2 m
    · exact q.1 (tk _ m)
  have c23 : e ∈ F ++ B.take 1 → e ∈ G.take 1 → False := fun m1 m2 => by
    rcases List.mem_append.mp m1 with m | m
    · exact (x1 m).1 (tk _ m2)
    · exact x2 (tk _ m2) (tk _ m)
  have c45 : e ∈ F.take 1 → e ∈ G ++ B.take 1 → False := fun m1 m2 => by
    have q := x1 (tk _ m1)
    rcases List.mem_append.mp m2 with m | m
    · exact q.1 m
    · exact q.2 (tk _ m)
  have mem : ∀ {P : Int × Int → Prop}, (∀ x ∈ spL F G B p q b s, P x.2) → ∀ x ∈ onB e (spL F G B p q b s), P x := fun {P} hh x hx => by
    obtain ⟨y, hy, rfl⟩ := List.mem_map.mp hx
    exact hh y (List.mem_filter.mp hy).1
  refine ⟨?_, mem ?_, mem ?_, mem ?_⟩
  · refine List.pairwise_map.mpr (List.pairwise_filter.mpr ?_)
    unfold spL
    simp only [List.pairwise_cons, List.forall_mem_cons, decide_eq_true_eq]
    have no : ∀ {P : Sp → Prop}, ∀ x ∈ ([] : List Sp), P x := fun _ z => absurd z List.not_mem_nil
    unfold After
    dsimp only
    refine ⟨⟨fun m1 m2 => (c01 m1 m2).elim, fun _ _ => ?_, fun _ _ => ?_, fun _ _ => ?_, fun _ _ => ?_, fun _ _ => ?_, no⟩, ⟨fun _ _ => ?_, fun _ _ => ?_, fun _ _ => ?_, fun _ _ => ?_, fun _ _ => ?_, no⟩,
      ⟨fun m1 m2 => (c23 m1 m2).elim, fun _ _ => ?_, fun _ _ => ?_, fun _ _ => ?_, no⟩, ⟨fun _ _ => ?_, fun _ _ => ?_, fun _ _ => ?_, no⟩, ⟨fun m1 m2 => (c45 m1 m2).elim, fun _ _ => ?_, no⟩, ⟨fun _ _ => ?_, no⟩, no, .nil⟩ <;> omega
  all_goals
    unfold spL
    simp only [List.forall_mem_cons]
    refine ⟨?_, ?_, ?_, ?_, ?_, ?_, ?_, fun _ z => absurd z List.not_mem_nil⟩ <;> omega

/-! ### thetas and plans: the promises -/
theorem pl_rate {a b c d e f g h : D} : fld "rate" ["rate", "order", "gate", "way", "streams", "length", "late", "gap"] [a, b, c, d, e, f, g, h] = some a := rfl
theorem pl_order {a b c d e f g h : D} : fld "order" ["rate", "order", "gate", "way", "streams", "length", "late", "gap"] [a, b, c, d, e, f, g, h] = some b := rfl
theorem pl_gate {a b c d e f g h : D} : fld "gate" ["rate", "order", "gate", "way", "streams", "length", "late", "gap"] [a, b, c, d, e, f, g, h] = some c := rfl
theorem pl_way {a b c d e f g h : D} : fld "way" ["rate", "order", "gate", "way", "streams", "length", "late", "gap"] [a, b, c, d, e, f, g, h] = some d := rfl
theorem pl_streams {a b c d e f g h : D} : fld "streams" ["rate", "order", "gate", "way", "streams", "length", "late", "gap"] [a, b, c, d, e, f, g, h] = some e := rfl
theorem pl_length {a b c d e f g h : D} : fld "length" ["rate", "order", "gate", "way", "streams", "length", "late", "gap"] [a, b, c, d, e, f, g, h] = some f := rfl
theorem pl_late {a b c d e f g h : D} : fld "late" ["rate", "order", "gate", "way", "streams", "length", "late", "gap"] [a, b, c, d, e, f, g, h] = some g := rfl
theorem pl_gap {a b c d e f g h : D} : fld "gap" ["rate", "order", "gate", "way", "streams", "length", "late", "gap"] [a, b, c, d, e, f, g, h] = some h := rfl
theorem th_first {a b c : D} : fld "first" ["first", "second", "back"] [a, b, c] = some a := rfl
theorem th_second {a b c : D} : fld "second" ["first", "second", "back"] [a, b, c] = some b := rfl
theorem th_back {a b c : D} : fld "back" ["first", "second", "back"] [a, b, c] = some c := rfl
theorem ch_links {a : D} : fld "links" ["links"] [a] = some a := rfl
theorem getI_4 {x y z u v : D} {xs : List D} : getI (x :: y :: z :: u :: v :: xs) 4 = some v := rfl
theorem getI_5 {x y z u v w : D} {xs : List D} : getI (x :: y :: z :: u :: v :: w :: xs) 5 = some w := rfl
theorem aPopAt_r {tb : AE} {Γ : Gm} {Φ : AK} {l : Addr} {M1 : Mm} : aPopAt_k tb Γ Φ (.ref l) M1 = ((∃ xs, (l, MO.lst xs) ∈ M1) ∧ tb Γ M1 fun e M2 => match e with
    | .int i => ∃ xs k y M3, Up M2 l (.lst xs) (.lst (xs.eraseIdx k)) M3 ∧ (-9223372036854775808 ≤ i ∧ i < 9223372036854775808) ∧ seqIndex? i xs.length = some k ∧ xs[k]? = some y ∧ Φ y M3
    | _ => False) := rfl
theorem cut1 {xs : List Int} : cutD (xs.map D.int) none (some 1) = (xs.take 1).map D.int := by
  rw [cutD_take (i := 1) (by decide), List.map_take]; rfl
theorem putN_new {f : Str} : ∀ {ns : List Str}, f ∉ ns → putN f ns = ns ++ [f]
  | [], _ => rfl
  | n :: ns, h => by
    rw [List.mem_cons, not_or] at h
    unfold putN
    rw [if_neg (fun e => h.1 e.symm), putN_new h.2]
    rfl
theorem putX_new {f : Str} {y : D} : ∀ {ns : List Str} {xs : List D}, f ∉ ns → ns.length = xs.length → putX f y ns xs = xs ++ [y]
  | [], [], _, _ => rfl
  | n :: ns, x :: xs, h, e => by
    rw [List.mem_cons, not_or] at h
    unfold putX
    rw [if_neg (fun e => h.1 e.symm), putX_new h.2 (Nat.succ.inj e)]
    rfl
theorem fld_new {K : PySem.W.Frag} {f : Str} {y : D} {a : Addr} {C : Addr} {ns : List Str} {xs : List D} {M : Mm} {Q : Mm → Prop} (h : f ∉ ns) (hl : ns.length = xs.length) (c : Cls K C ∧ NoAttr K C f) (n : ns.length < 1000) (q : Q ((a, .ins C (ns ++ [f]) (xs ++ [y])) :: M)) :
    ∃ C' ns' xs' M3, Up ((a, .ins C ns xs) :: M) a (.ins C' ns' xs') (.ins C' (putN f ns') (putX f y ns' xs')) M3 ∧ (Cls K C' ∧ NoAttr K C' f) ∧ ns'.length < 1000 ∧ Q M3 :=
  ⟨C, ns, xs, _, .here, c, n, by rw [putN_new h, putX_new h hl]; exact q⟩
theorem chain_go {CC CI : Addr} {ls : List Lk3} (hl : 1 ≤ ls.length ∧ ls.length ≤ 12) (hg : ∀ l ∈ ls, Good l) {x : Addr} {M1 : Mm} {Φ : AK} {Ψ : XD → Mm → Prop}
    (q : Φ .non ((x, .ins CC ["links"] [.tup (ls.map linkD)]) :: M1)) : sp_Chain_init CC CI [.ref x, .tup (ls.map linkD)] ((x, .ins CC [] []) :: M1) Φ Ψ := by
  have nn : ls.map linkD ≠ [] := List.ne_nil_of_length_pos (by rw [List.length_map]; exact hl.1)
  refine ⟨okChain_tup, M1, rfl, fun z => ?_, fun xs' e1' e2' => ⟨fun i d h1 h2 h3 h4 => ?_, fun ls' h1 h2 h3 => ?_⟩⟩
  · rcases z with z | z
    · cases z
    · exact absurd (Option.some.inj z) nn
  · cases e1'
    have hm : linkOf d ∈ ls.map some := by
      rw [← linksOf_D hg]
      exact List.mem_map_of_mem (List.mem_of_getElem? h1)
    obtain ⟨l, _, el⟩ := List.mem_map.mp hm
    have hi := (List.getElem?_eq_some_iff.mp h1).1
    rw [List.length_map] at hi
    rcases h4 with h4 | h4
    · have := hl.2
      omega
    · rw [h4] at el
      cases el
  · cases e1'
    have els : ls' = ls := by
      have : ls'.map some = ls.map some := h1.symm.trans (linksOf_D hg)
      exact (List.map_inj_right fun a b h => Option.some.inj h).mp this
    subst els
    exact q
abbrev iT (xs : List Int) : D := .tup (xs.map D.int)
abbrev sgD (x : Sp) : D := .tup [iT x.1, .int x.2.1, .int x.2.2]
abbrev stD (x : List Int × List Int × List Int) : D := .tup [iT x.1, iT x.2.1, iT x.2.2]
abbrev gapI (a b : Int) : Int := if a - b < 0 then -(a - b) else a - b
def rD (p q : Int) : D := .tup [.int p, .int q]
def rowD (F G B : List Int) : D := .tup [iT F, iT G, iT B]
def thD (CT : Addr) (F G B : List Int) : D := .ins CT ["first", "second", "back"] [iT F, iT G, iT B]
def planD (CP : Addr) (F G B : List Int) (p q : Int) : D := .ins CP ["rate", "order", "gate", "way", "streams", "length", "late", "gap"]
  [.tup [.int p, .int q], .tup ((orderL F G B).map iT), .int (B.getD 0 0), iT (B ++ F.take 1), .tup ((stL F G B).map stD), iT (lenF F G B), .int (dI F G), .int (gapI F.length G.length)]
def sp_slots_in : ASp := fun ds M Φ _ => match ds with
  | [.tup [.int p, .int q], .int s] => RP p q ∧ Φ (.int (p * s / q)) M
  | _ => False
def sp_late_in : ASp := fun ds M Φ _ => match ds with
  | [.tup [.int p, .int q], .int b, .int l] => RP p q ∧ Φ (.int (min l b - p * b / q + p * (b - min l b) / q)) M
  | _ => False
def sp_Plan_init (CP : Addr) : ASp := fun ds M Φ _ => match ds with
  | [.ref x, a, b, c, d, e, f, g, h] => ∃ M1, M = (x, .ins CP [] []) :: M1 ∧ Φ .non ((x, .ins CP ["rate", "order", "gate", "way", "streams", "length", "late", "gap"] [a, b, c, d, e, f, g, h]) :: M1)
  | _ => False
def sp_Theta_init (CT : Addr) : ASp := fun ds M Φ _ => match ds with
  | [.ref x, a, b, c] => ∃ M1, M = (x, .ins CT [] []) :: M1 ∧ Φ .non ((x, .ins CT ["first", "second", "back"] [a, b, c]) :: M1)
  | _ => False
/-- a plan of a theta -/
structure Pl (F G B : List Int) (p q : Int) : Prop where
  th : Th F G B
  rp : RP p q
def sp_counts_of (CP : Addr) : ASp := fun ds M Φ _ => match ds with
  | [d, .int s] => ∃ F G B p q, d = planD CP F G B p q ∧ Pl F G B p q ∧ Φ (iT (cnt F G p q s)) M
  | _ => False
def sp_worth_of : ASp := fun ds M Φ _ => match ds with
  | [.tup xs, .tup ys] => ∃ f c : List Int, xs = f.map D.int ∧ ys = c.map D.int ∧ (f.length = 6 ∧ c.length = 6) ∧ (∀ a ∈ f, SmallI a) ∧ Φ (.int (wF f c)) M
  | _ => False
def sp_next_of (CP : Addr) : ASp := fun ds M Φ _ => match ds with
  | [d, .int s] => ∃ F G B p q, d = planD CP F G B p q ∧ Pl F G B p q ∧ Φ (.int (nxt p q s)) M
  | _ => False
def sp_length_of (CP : Addr) : ASp := fun ds M Φ _ => match ds with
  | [d, .int s] => ∃ F G B p q, d = planD CP F G B p q ∧ Pl F G B p q ∧ Φ (.int (wF (lenF F G B) (cnt F G p q s))) M
  | _ => False
def sp_spans_of (CP : Addr) : ASp := fun ds M Φ _ => match ds with
  | [d, .int b, .int s] => ∃ F G B p q, d = planD CP F G B p q ∧ Pl F G B p q ∧ Φ (.tup ((spL F G B p q b s).map sgD)) M
  | _ => False
def sp_plan_chain (CC CP : Addr) : ASp := fun ds M Φ _ => match ds with
  | [d] => ∃ F G B p q, d = planD CP F G B p q ∧ Pl F G B p q ∧ Φ (.ins CC ["links"] [.tup ((l4 p q).map linkD)]) M
  | _ => False
/-- the phases -/
def phF (F G B : List Int) (p q s : Int) : Nat → Int × Int
  | 0 => (0, s)
  | n + 1 => ((phF F G B p q s n).1 + wF (lenF F G B) (cnt F G p q (phF F G B p q s n).2), nxt p q (phF F G B p q s n).2)
def sp_phase_of (CP : Addr) : ASp := fun ds M Φ _ => match ds with
  | [d, .int s, .int many] => ∃ F G B p q, d = planD CP F G B p q ∧ Pl F G B p q ∧ (0 ≤ many ∧ many ≤ 200) ∧ Φ (.tup [.int (phF F G B p q s many.toNat).1, .int (phF F G B p q s many.toNat).2]) M
  | _ => False
def sp_burst_of : ASp := fun ds M Φ _ => match ds with
  | [.int s] => Φ (.int (max 1 s)) M
  | _ => False
def sp_theta_ways (CT : Addr) : ASp := fun ds M Φ _ => match ds with
  | [d] => ∃ F G B, d = thD CT F G B ∧ Th F G B ∧ Φ (.tup ((waysL F G B).map iT)) M
  | _ => False
def sp_theta_order (CT : Addr) : ASp := fun ds M Φ _ => match ds with
  | [d] => ∃ F G B, d = thD CT F G B ∧ Th F G B ∧ Φ (.tup ((orderL F G B).map iT)) M
  | _ => False
def sp_theta_streams (CT : Addr) : ASp := fun ds M Φ _ => match ds with
  | [d] => ∃ F G B, d = thD CT F G B ∧ Th F G B ∧ Φ (.tup ((stL F G B).map stD)) M
  | _ => False
def sp_theta_plan (CP CT : Addr) : ASp := fun ds M Φ _ => match ds with
  | [d, .tup [.int p, .int q]] => ∃ F G B, d = thD CT F G B ∧ Th F G B ∧ RP p q ∧ Φ (planD CP F G B p q) M
  | _ => False
/-! ### the law's own functions -/
def sp__law_mixed (h : Addr) : ASp := fun ds M Φ _ => match ds with
  | [.ref h', .lst xs] => h' = h ∧ ∃ ns : List Int, xs = ns.map D.int ∧ ns.length ≤ 1000 ∧ ∀ ys : List Int, ys.Perm ns → Φ (iT ys) M
  | _ => False
def sp_divisor33 : ASp := fun ds M Φ _ => match ds with
  | [.int a, .int b] => (0 ≤ a ∧ 0 ≤ b ∧ b ≤ 1000) ∧ Φ (.int (gcdI a b)) M
  | _ => False
def sp_rate30 (h : Addr) : ASp := fun ds M Φ _ => match ds with
  | [.ref h', .int l] => h' = h ∧ l = 0 ∧ ∀ p q, RP p q → Φ (.tup [.int p, .int q]) M
  | _ => False
def sp__law_theta (h : Addr) : ASp := fun ds M Φ _ => match ds with
  | [.ref h'] => h' = h ∧ ∀ F G B, Th F G B → Φ (rowD F G B) M
  | _ => False
def Far (s : Int) : Prop := 0 ≤ s ∧ s ≤ 1000000000000
def sp__law_counts : ASp := fun ds M Φ _ => match ds with
  | [.tup [.int p, .int q], .tup xs, .tup ys, .int s] => ∃ F G : List Int, xs = F.map D.int ∧ ys = G.map D.int ∧ (F.length ≤ 20 ∧ G.length ≤ 20) ∧ RP p q ∧ Far s ∧ Φ (.tup [.int (yI p q s), .int (zI p q s), .int (u3 p q s), .int (hI F G p q s)]) M
  | _ => False
def sp__law_spans : ASp := fun ds M Φ _ => match ds with
  | [.tup [.int p, .int q], d, .int b, .int s] => ∃ F G B, d = rowD F G B ∧ Pl F G B p q ∧ Far s ∧ Φ (.tup [.tup ((spL F G B p q b s).map sgD), .int (te F G B p q b s)]) M
  | _ => False
def sp__law_is_way : ASp := fun ds M Φ _ => match ds with
  | [d, .tup xs] => ∃ F G B w, d = rowD F G B ∧ xs = w.map D.int ∧ Th F G B ∧ w ∈ waysL F G B ∧ Φ (.bl true) M
  | _ => False
def sp__law_apart : ASp := fun ds M Φ _ => match ds with
  | [d, .tup xs] => ∃ F G B sps, d = rowD F G B ∧ xs = (sps.map sgD) ∧ Th F G B ∧ sps.length ≤ 1000 ∧ (∃ b, ∀ e, Apart e sps 0 b) ∧ Φ (.bl true) M
  | _ => False
def sp__law_right (h CP : Addr) : ASp := fun ds M Φ _ => match ds with
  | [.ref h', .tup [.int p, .int q], r, d, .int s] => h' = h ∧ ∃ F G B, r = rowD F G B ∧ d = planD CP F G B p q ∧ Pl F G B p q ∧ (0 ≤ s ∧ s ≤ 1000000000) ∧ Φ (.bl true) M
  | _ => False
theorem pow4_le {p : Int} (h0 : 0 ≤ p) (h1 : p ≤ 1000) : p ^ Int.toNat 4 ≤ 1000000000000 := by
  have a : p * p ≤ 1000 * 1000 := Int.mul_le_mul h1 h1 h0 (by decide)
  have b : p * p * (p * p) ≤ 1000000 * 1000000 := Int.mul_le_mul a a (Int.mul_nonneg h0 h0) (by decide)
  have e : p ^ Int.toNat 4 = p * p * (p * p) := by
    show p ^ 4 = _
    grind
  omega
theorem shp_iT {n : Nat} {xs : List Int} (h : xs.length ≤ 1000) : shp (n + 1) (iT xs) = true := by
  show (decide ((xs.map D.int).length ≤ 1000) && (xs.map D.int).all (shp n)) = true
  rw [List.length_map, decide_eq_true h, Bool.true_and, List.all_eq_true]
  intro d hd
  obtain ⟨i, _, rfl⟩ := List.mem_map.mp hd
  cases n <;> rfl
theorem shp_tup {n : Nat} {ds : List D} (h : ds.length ≤ 1000) (a : ∀ d ∈ ds, shp n d = true) : shp (n + 1) (.tup ds) = true := by
  show (decide (ds.length ≤ 1000) && ds.all (shp n)) = true
  rw [decide_eq_true h, Bool.true_and, List.all_eq_true]
  exact a
theorem shp_int {n : Nat} {i : Int} : shp n (.int i) = true := by cases n <;> rfl

local macro_rules | `(tactic| walk_at "ev") => `(tactic| try dsimp only [aVar, onSlot_ss, onD_s, aC, aOp, aUn, aB, aAnd, aOr, aNot, aAndV, aOrV, aNotV, aIf, aChain, aNil, aCons, aTup, aLst, aLstM, aCB, aNext, aBreak, aCont, aDrop, aRet, aRetN, aIfS, aSet, aPar, aPar3, aAug, aNever, agName, aAsg, aAsg_k, aSetIx, aItS, aRng1, aRng2, aEnum, aZip, aYes, aCall, fAdd, fSub, fMul, fDiv, fMod, fPow, fLt, fLe, fGt, fGe, fEq, fNe, fIs, fIsNot, getI_0, getI_1, getI_2, getI_3, aNoP, aP, aSl, aRev, aRevM, aApp, aPop, aIsi, fNil, aNil?, aNilV, wipeG, List.set_cons_zero, List.set_cons_succ, List.getElem?_cons_zero, List.getElem?_cons_succ, List.cons_append, List.nil_append, List.append_nil, List.map_cons, List.map_nil, List.length_cons, List.length_nil, aB_bl, aAndV_bl, aOrV_bl, aNotV_bl, aChain_bl, aPar_2, aPar3_3, onGm_s, agTup_t, agLst_t, agNil_n, agCons_c, bind_s, aSetIx_r, aItS_l, aItS_t, aRng1_i, aRng2_i, aEnum_l, aZip_l, aZip_t, fI_i, fC_i, fNeg_i, seqOf_l, seqOf_t, seqOf_r, lstOf_l, lstOf_r, fLen_1, fIx_i, aP_i, aSl_l, aSl_r, aRev_l, aRev_r, aRevM_l, aRevM_r, aApp_r, aPop_r, fEq_ii, fEq_ss, fEq_bb, fEq_nn, fEq_ni, fEq_in, fEq_ns, fEq_sn, fEq_is, fEq_si, fEq_ll, fEq_tt, fEq_tl, fEq_lt, fIs_n, fIs_b, isN_n, isN_i, isN_b, isN_s, isN_t, isN_l, isN_r, isN_o, fAbs_i, fInt_i, fInt_b, fMax2_i, fMin2_i, fTuple_1, fList_1, fListM_1, fAll_l, fAny_l, fSum_l, fMaxL_l, fMinL_l, fIsi_i, fIsi_b, fIsi_n, fIsi_s, fIsi_t, fIsi_l, aRaise, aRaise_1, aTry, aXat, aXat_x, aIsX, aIsX_x, aMake, aMakeM, aFld, aFld_i, aFld_r, aFldS, aFldS_r, aEnumA, aEnumA_l, aEnumA_t, aIsi2, fCatT_t, fCatL, fCatM, lsOf_l, lsOf_r, fRepT_t, aRevT, aRevT_t, aIns, aIns_r, fIn, aChain3, aChain3_bl, spPick, spDraw, sp_is_integer, sp_is_number, sp_is_sequence, sp_is_link, linkD, prD, spLike, sp__law_heap, sp_divisor33, aSlT, aSlT_t, aTupRg, aTupRg_i, aLstRg1, aLstRg1_i, aSizeT, aSizeT_t, fSortP_l, fInD_l, sp_slots_in, sp_late_in, sp_Plan_init, sp_counts_of, sp_worth_of, sp_next_of, sp_length_of, sp_spans_of, sp_plan_chain, sp_phase_of, sp_burst_of, sp_Theta_init, sp_theta_ways, sp_theta_order, sp_theta_streams, sp_theta_plan, sp__law_mixed, sp_rate30, sp__law_theta, sp__law_counts, sp__law_spans, sp__law_is_way, sp__law_apart, sp__law_right, pl_rate, pl_order, pl_gate, pl_way, pl_streams, pl_length, pl_late, pl_gap, th_first, th_second, th_back, ch_links, getI_4, getI_5, aPopAt, aPopAt_r])
local macro_rules | `(tactic| walk_at "isi") => `(tactic| ((try simp only [isi_int_int, isi_int_bool, isi_int_str, isi_int_tuple, isi_int_list, isi_bool_int, isi_bool_bool, isi_bool_str, isi_bool_tuple, isi_bool_list, isi_NoneType_int, isi_NoneType_bool, isi_NoneType_str, isi_NoneType_tuple, isi_NoneType_list, isi_str_int, isi_str_bool, isi_str_str, isi_str_tuple, isi_str_list, isi_tuple_int, isi_tuple_bool, isi_tuple_str, isi_tuple_tuple, isi_tuple_list, isi_list_int, isi_list_bool, isi_list_str, isi_list_tuple, isi_list_list]); walk_at "ev"))
local macro_rules | `(tactic| walk_at "no") => `(tactic| (refine ⟨fun h => Bool.noConfusion h, fun _ => ?_⟩; walk_at "ev"))
local macro_rules | `(tactic| walk_at "yes") => `(tactic| (refine ⟨fun _ => ?_, fun h => Bool.noConfusion h⟩; walk_at "ev"))
local macro_rules | `(tactic| walk_at "go") => `(tactic| (repeat (first | (refine ⟨fun h => Bool.noConfusion h, fun _ => ?_⟩; walk_at "ev"; walk_at "isi") | (refine ⟨fun _ => ?_, fun h => Bool.noConfusion h⟩; walk_at "ev"; walk_at "isi") | (refine aSeq_step ?_; walk_at "ev"; walk_at "isi"))))
local macro_rules | `(tactic| walk_at "st") => `(tactic| (refine aSeq_step ?_; walk_at "ev"))
local macro_rules | `(tactic| walk_at "ok") => `(tactic| first | exact divOk_of (by omega) (by omega) | exact divOk_of (by decide +kernel) (by decide +kernel) | exact Or.inl ⟨by omega, by omega⟩ | exact Or.inr (Or.inl ⟨by omega, by omega⟩) | (show (0 : Int) < _; omega))
local macro_rules | `(tactic| walk_at "mem") => `(tactic| (repeat' (first | (refine List.forall_mem_cons.mpr ⟨?_, ?_⟩) | exact (fun _ h => absurd h List.not_mem_nil) | exact ⟨_, rfl, by omega⟩)))

section
variable {P : Program} {w : World} {K : PySem.W.Frag} {mg : Str → Option Value} {base : Heap}
theorem ok_is_integer (T : Top P K mg) {B : Bx} : FnOk P w K mg base (L2N.CX P w) 1 T.f_is_integer T.d_is_integer ["value"] (conc K B sp_is_integer) := by
  refine dfn T.F_is_integer sc_is_integer (fun ds M Φ Ψ h => ?_) (fun cdv A outer s H E hr ds M Φ Ψ h => ⟨_, (dss_one (ds_ret (de_and (de_isi (n := "int") (by rfl) T.z_isinstance (by rfl) T.z_int (by decide +kernel) (dv 0)) (de_one (de_not (de_isi (n := "bool") (by rfl) T.z_isinstance (by rfl) T.z_bool (by decide +kernel) (dv 0))))))), ?_⟩) <;> (unfold sp_is_integer at h; split at h; rotate_left; exact h.elim)
  · rfl
  · rename_i d
    obtain ⟨hd, h⟩ := h
    rw [st_is_integer]
    cases d <;> first
      | exact Bool.noConfusion hd
      | (walk_at "ev"; walk_at "isi"; walk_at "go"; exact h)
theorem ok_is_number (T : Top P K mg) {B : Bx} : FnOk P w K mg base (L2N.CX P w) 2 T.f_is_number T.d_is_number ["value", "most"] (conc K B sp_is_number) := by
  refine dfnD T.F_is_number sc_is_number (fun ds M Φ Ψ h => ?_) (fun cdv A outer s H E hr ds M Φ Ψ h => ⟨_, (dss_one (ds_ret (de_and (de_call ((ok_is_integer T).mono (by first | decide | exact Nat.le_refl _)) hr (by rfl) T.g_is_integer T.F_is_integer.kp T.b_is_integer (L2N.takes_of rfl rfl rfl rfl) (da_cons (dv 0) da_nil)) (de_and (de_ge (dv 0) de_int) (de_one (de_or (de_is (dv 1) de_non) (de_one (de_le (dv 0) (dv 1))))))))), ?_⟩)
  · unfold sp_is_number at h
    split at h
    · rfl
    · rfl
    · exact h.elim
  · unfold sp_is_number at h
    split at h
    · rename_i d
      obtain ⟨hd, h⟩ := h
      rw [st_is_number]
      walk_at "ev"
      refine ⟨hd, ?_⟩
      cases d with
      | int i =>
        walk_at "ev"
        refine ⟨fun _ => ⟨fun z => ?_, fun z => ?_⟩, fun z => Bool.noConfusion z⟩
        · refine ⟨fun _ => ?_, fun z => Bool.noConfusion z⟩
          rw [isNum_n, z] at h
          exact h
        · rw [isNum_n, z] at h
          exact h
      | _ => first
        | exact Bool.noConfusion hd
        | (walk_at "go"; exact h)
    · rename_i d k
      obtain ⟨hd, h⟩ := h
      rw [st_is_number]
      walk_at "ev"
      refine ⟨hd, ?_⟩
      cases d with
      | int i =>
        walk_at "ev"
        refine ⟨fun _ => ⟨fun z => ?_, fun z => ?_⟩, fun z => Bool.noConfusion z⟩
        · refine ⟨fun z => Bool.noConfusion z, fun _ => ?_⟩
          rw [isNum_s, z] at h
          exact h
        · rw [isNum_s, z] at h
          exact h
      | _ => first
        | exact Bool.noConfusion hd
        | (walk_at "go"; exact h)
    · exact h.elim
theorem ok_is_sequence (T : Top P K mg) {B : Bx} : FnOk P w K mg base (L2N.CX P w) 1 T.f_is_sequence T.d_is_sequence ["value"] (conc K B sp_is_sequence) := by
  refine dfn T.F_is_sequence sc_is_sequence (fun ds M Φ Ψ h => ?_) (fun cdv A outer s H E hr ds M Φ Ψ h => ⟨_, (dss_one (ds_ret (de_isi2 (n1 := "list") (n2 := "tuple") (by rfl) T.z_isinstance (by rfl) T.z_list (by decide +kernel) (by rfl) T.z_tuple (by decide +kernel) (dv 0)))), ?_⟩) <;> (unfold sp_is_sequence at h; split at h; rotate_left; exact h.elim)
  · rfl
  · rename_i d
    obtain ⟨hd, h⟩ := h
    rw [st_is_sequence]
    cases d <;> first
      | exact Bool.noConfusion hd
      | (walk_at "ev"; simp only [isi2_n, isi2_b, isi2_i, isi2_s, isi2_t, isi2_l]; exact h)
theorem ok_is_link (T : Top P K mg) {B : Bx} : FnOk P w K mg base (L2N.CX P w) 3 T.f_is_link T.d_is_link ["value"] (conc K B sp_is_link) := by
  refine dfn T.F_is_link sc_is_link (fun ds M Φ Ψ h => ?_) (fun cdv A outer s H E hr ds M Φ Ψ h => ⟨_, (dss_cons (ds_if (dt_w (dw_or (dt_not (dt_val (de_call ((ok_is_sequence T).mono (by first | decide | exact Nat.le_refl _)) hr (by rfl) T.g_is_sequence T.F_is_sequence.kp T.b_is_sequence (L2N.takes_of rfl rfl rfl rfl) (da_cons (dv 0) da_nil)))) (dw_or1 (dt_ne hr (de_len (by rfl) T.z_len (dv 0)) de_int))))
        (dss_one (ds_ret de_bl))
        dss_nil)
      (dss_cons (ds_if (dt_w (dw_or (dt_not (dt_val (de_call ((ok_is_number T).mono (by first | decide | exact Nat.le_refl _)) hr (by rfl) T.g_is_number T.F_is_number.kp T.b_is_number (L2N.takes_of rfl rfl rfl rfl) (da_cons (de_item (dv 0) de_int) (da_cons (de_const (v := .int (2000)) (d := .int (2000)) (by rfl) T.c_MOST_TOP ⟨_, rfl⟩ (fun _ => .int _)) da_nil))))) (dw_or (dt_not (dt_val (de_call ((ok_is_number T).mono (by first | decide | exact Nat.le_refl _)) hr (by rfl) T.g_is_number T.F_is_number.kp T.b_is_number (L2N.takes_of rfl rfl rfl rfl) (da_cons (de_item (dv 0) de_int) (da_cons (de_const (v := .int (2000)) (d := .int (2000)) (by rfl) T.c_MOST_TOP ⟨_, rfl⟩ (fun _ => .int _)) da_nil))))) (dw_or1 (dt_not (dt_val (de_call ((ok_is_number T).mono (by first | decide | exact Nat.le_refl _)) hr (by rfl) T.g_is_number T.F_is_number.kp T.b_is_number (L2N.takes_of rfl rfl rfl rfl) (da_cons (de_item (dv 0) de_int) (da_cons (de_const (v := .int (1000)) (d := .int (1000)) (by rfl) T.c_MOST_LESS ⟨_, rfl⟩ (fun _ => .int _)) da_nil)))))))))
        (dss_one (ds_ret de_bl))
        dss_nil)
      (dss_one (ds_ret (de_and (de_gt (de_item (dv 0) de_int) de_int) (de_one (de_gt (de_item (dv 0) de_int) de_int))))))), ?_⟩) <;> (unfold sp_is_link at h; split at h; rotate_left; exact h.elim)
  · rfl
  · rename_i d
    obtain ⟨hd, h⟩ := h
    unfold okLink at hd
    rw [Bool.and_eq_true] at hd
    obtain ⟨hd, hx⟩ := hd
    rw [st_is_link]
    have key : ∀ xs : List D, seqD d = some xs → xs.length ≠ 3 → linkOf d = none := fun xs e hl => by
      cases z : linkOf d with
      | none => rfl
      | some l =>
        have := (linkOf_some.mp z).1
        rw [e] at this
        cases this
        exact absurd rfl hl
    cases d <;> first
      | exact Bool.noConfusion hd
      | (walk_at "st"; refine ⟨rfl, ?_⟩; walk_at "go"; exact h)
      | (rename_i xs
         replace hx : xs.all okD = true := hx
         replace key := key xs rfl
         walk_at "st"
         refine ⟨rfl, ?_⟩
         walk_at "ev"
         refine ⟨fun z => Bool.noConfusion z, fun _ => ⟨fun z => ?_, fun z => ?_⟩⟩
         · rw [key fun e => by rw [e] at z; exact Bool.noConfusion z] at h
           exact h
         · have hl : xs.length = 3 := by
             by_cases e : xs.length = 3
             · exact e
             · have e2 : ¬ ((xs.length : Int) = 3) := by omega
               rw [decide_eq_false e2] at z
               exact Bool.noConfusion z
           match xs, hl with
           | [a, b, c], _ =>
             replace h : Φ (.bl (linkOf3 a b c).isSome) M := h
             rw [List.all_cons, List.all_cons, List.all_cons, Bool.and_eq_true, Bool.and_eq_true, Bool.and_eq_true] at hx
             obtain ⟨ha, hb, hc, _⟩ := hx
             have no : (∀ l, linkOf3 a b c ≠ some l) → Φ (.bl false) M := fun q => by
               cases e : linkOf3 a b c with
               | none =>
                 rw [e] at h
                 exact h
               | some l => exact absurd e (q l)
             walk_at "st"
             refine ⟨ha, fun z1 => ⟨fun _ => no fun l e => ?_, fun z => Bool.noConfusion z⟩, fun z1 => ⟨hb, fun z2 => ⟨fun _ => no fun l e => ?_, fun z => Bool.noConfusion z⟩, fun z2 => ⟨hc, fun z3 => no fun l e => ?_, fun z3 => ?_⟩⟩⟩
             · rw [(nums_of e).1] at z1
               exact Bool.noConfusion z1
             · rw [(nums_of e).2.1] at z2
               exact Bool.noConfusion z2
             · rw [(nums_of e).2.2] at z3
               exact Bool.noConfusion z3
             · rw [Bool.not_eq_false'] at z1 z2 z3
               obtain ⟨x, rfl, x0, x1⟩ := isNum_iff.mp z1
               obtain ⟨y, rfl, y0, y1⟩ := isNum_iff.mp z2
               obtain ⟨u, rfl, u0, u1⟩ := isNum_iff.mp z3
               rw [pos_of ⟨x0, x1⟩ ⟨y0, y1⟩ ⟨u0, u1⟩] at h
               walk_at "ev"
               refine ⟨fun z => ?_, fun z => ?_⟩
               · rw [z] at h
                 exact h
               · rw [z] at h
                 exact h)
theorem ok_Chain_init (T : Top P K mg) {B : Bx} : FnOk P w K mg base (L2N.CX P w) 5 T.f_Chain_init T.d_Chain_init ["self", "links"] (conc K B (sp_Chain_init T.C_Chain T.C_InvalidChain)) := by
  refine dfn T.F_Chain_init sc_Chain_init (fun ds M Φ Ψ h => ?_) (fun cdv A outer s H E hr ds M Φ Ψ h => ⟨_, (dss_cons (ds_if (dt_w (dw_or (dt_not (dt_val (de_call ((ok_is_sequence T).mono (by first | decide | exact Nat.le_refl _)) hr (by rfl) T.g_is_sequence T.F_is_sequence.kp T.b_is_sequence (L2N.takes_of rfl rfl rfl rfl) (da_cons (dv 1) da_nil)))) (dw_or1 (dt_eq hr (de_len (by rfl) T.z_len (dv 1)) de_int))))
        (dss_one (ds_raise rfl (L2N.takes_of rfl rfl rfl rfl) T.X_InvalidChain hr T.n_super (by rfl) T.g_InvalidChain (da_cons (de_neg de_int) da_nil)))
        dss_nil)
      (dss_cons (ds_for (passes_of rfl) rfl (di_enumA (by rfl) T.z_enumerate (da_cons (dv 1) da_nil)) (dg_tup rfl (dgs_cons (dg_name (i := 2) sc_Chain_init.nd rfl (.inl rfl)) (dgs_cons (dg_name (i := 3) sc_Chain_init.nd rfl (.inl rfl)) dgs_nil)) (fix_cons (fix_cons fix_nil)))
        (dss_one (ds_if (dt_w (dw_or (dt_eq hr (dv 2) (de_const (v := .int (12)) (d := .int (12)) (by rfl) T.c_MOST_LINKS ⟨_, rfl⟩ (fun _ => .int _))) (dw_or1 (dt_not (dt_val (de_call ((ok_is_link T).mono (by first | decide | exact Nat.le_refl _)) hr (by rfl) T.g_is_link T.F_is_link.kp T.b_is_link (L2N.takes_of rfl rfl rfl rfl) (da_cons (dv 3) da_nil)))))))
            (dss_one (ds_raise rfl (L2N.takes_of rfl rfl rfl rfl) T.X_InvalidChain hr T.n_super (by rfl) T.g_InvalidChain (da_cons (dv 2) da_nil)))
            dss_nil)))
      (dss_one (ds_fld (dv 0) (de_tupleOf (by rfl) T.z_tuple (de_lc (own := [("link", 3)]) rfl sc_Chain_init.nd (di_seq (dv 1)) (blkOk_by (N := n_Chain_init) (sc := defScope s_Chain_init) (by decide +kernel)) (fun _ _ _ _ _ => (dg_name (i := 3) sc_Chain_init.nd rfl (.inl rfl))) (fun _ _ _ _ _ => dts_nil) (fun _ _ _ _ _ => (de_tup (da_cons (de_item (dv 3) de_int) (da_cons (de_item (dv 3) de_int) (da_cons (de_item (dv 3) de_int) da_nil))))))))))), ?_⟩) <;> (unfold sp_Chain_init at h; split at h; rotate_left; exact h.elim)
  · rfl
  · rename_i x g
    obtain ⟨hg, M1, rfl, hb, h⟩ := h
    rw [st_Chain_init]
    unfold okChain at hg
    rw [Bool.and_eq_true] at hg
    obtain ⟨hg, hel⟩ := hg
    walk_at "st"
    refine ⟨hg, fun z => ⟨fun _ => hb (.inl (isSq_of (by rw [Bool.not_eq_true'] at z; exact z))), fun z => Bool.noConfusion z⟩, fun z => ?_⟩
    rw [Bool.not_eq_false'] at z
    obtain ⟨xs, hsq, hgx⟩ := sq_cases z
    rw [hsq] at hel
    replace hel : ∀ d ∈ xs, okLink d = true := fun d hd => List.all_eq_true.mp hel d hd
    rcases hgx with rfl | rfl
    all_goals
      walk_at "ev"
      refine ⟨fun z => hb (.inr ?_), fun z => ?_⟩
      · have := of_decide_eq_true z
        cases xs with
        | nil => rfl
        | cons _ _ => exact absurd this (by rw [List.length_cons]; omega)
      have hne : xs ≠ [] := fun e => by
        subst e
        exact Bool.noConfusion z
      obtain ⟨h1, h2⟩ := h xs rfl hne
      refine aSeq_step ?_
      refine aFor_enum xs (fun i Γ' M' => ∃ y u, Γ' = [some (.ref x), some _, y, u] ∧ M' = (x, MO.ins T.C_Chain [] []) :: M1 ∧ i ≤ 12 ∧ ∀ j e, j < i → xs[j]? = some e → (linkOf e).isSome = true) (fun Φ' q => ?_) ⟨_, _, rfl, rfl, by decide, fun j e hj => absurd hj (by omega)⟩ ?_ ?_
      · walk_at "ev"
        exact q
      · rintro i d Γ' M' hx ⟨y, u, rfl, rfl, hi, hp⟩
        refine ⟨_, rfl, ?_⟩
        walk_at "ev"
        refine ⟨fun z => ⟨fun _ => h1 i d hx hi hp (.inl (by have := of_decide_eq_true z; omega)), fun z => Bool.noConfusion z⟩, fun z => ⟨hel d (List.mem_of_getElem? hx), fun z2 => h1 i d hx hi hp (.inr ?_), fun z2 => ?_⟩⟩
        · cases e : linkOf d with
          | none => rfl
          | some l =>
            rw [e] at z2
            exact Bool.noConfusion z2
        · have z := of_decide_eq_false z
          rw [Bool.not_eq_false'] at z2
          refine ⟨_, _, rfl, rfl, by omega, fun j e hj hje => ?_⟩
          by_cases ej : j = i
          · subst ej
            rw [hx] at hje
            cases hje
            exact z2
          · exact hp j e (by omega) hje
      · rintro Γ' M' ⟨y, u, rfl, rfl, hi, hp⟩
        obtain ⟨ls, els⟩ := all_links (xs := xs) fun e he => by
          obtain ⟨j, hj, ej⟩ := List.getElem_of_mem he
          exact hp j e hj (by rw [List.getElem?_eq_getElem hj, ej])
        have gl := good_all els
        have ln : ls.length = xs.length := by
          have := congrArg List.length els
          rw [List.length_map, List.length_map] at this
          exact this.symm
        walk_at "ev"
        refine aLc_map xs (fun d => d) linkDo (fun Φ' q => ?_) (by omega) (fun d hd M' => ⟨_, rfl, fun Φ' q => ?_⟩) ?_
        · walk_at "ev"
          rw [List.map_id'] at q
          exact q
        · have hm : linkOf d ∈ ls.map some := by
            rw [← els]
            exact List.mem_map_of_mem hd
          obtain ⟨l, _, el⟩ := List.mem_map.mp hm
          rw [linkDo_of el.symm] at q
          rcases seq_link el.symm with rfl | rfl
          · walk_at "ev"
            exact ⟨by decide, q⟩
          · walk_at "ev"
            exact ⟨by decide, q⟩
        walk_at "ev"
        rw [links_do els]
        exact ⟨_, _, _, _, .here, ⟨T.k_Chain, T.a_Chain_links⟩, by decide, h2 ls els (by omega) gl⟩

theorem ok__law_draw (T : Top P K mg) {B : Bx} : FnOk P w K mg base (L2N.CX P w) 1 T.f__law_draw T.d__law_draw ["heap", "many"] (conc K B spDrawM) := by
  refine dfn T.F__law_draw sc__law_draw (fun ds M Φ Ψ h => ?_) (fun cdv A outer s H E hr ds M Φ Ψ h => ⟨_, (dss_cons (ds_while (passes_of rfl) (dt_w (dw_and (nilT hr (de_item (dv 0) de_int)) (dw_and1 (dt_eq hr (de_item (de_item (dv 0) de_int) (de_neg de_int)) de_int))))
        (dss_one (ds_expr (de_pop (de_item (dv 0) de_int)))))
      (dss_cons (ds_if (nilT hr (de_item (dv 0) de_int))
        (dss_cons (ds_set (i := 2) sc__law_draw.nd rfl (.inl rfl) (de_pop (de_item (dv 0) de_int)))
          (dss_cons (ds_expr (de_app (de_item (dv 0) de_int) (de_div (dv 2) (dv 1))))
          (dss_one (ds_ret (de_mod (de_callInt (by rfl) T.z_int (dv 2)) (dv 1))))))
        dss_nil)
      (dss_cons (ds_setIx (de_mod (de_callInt (by rfl) T.z_int (de_add (de_mul (de_item (dv 0) de_int) de_int) de_int)) de_int) (dv 0) de_int)
      (dss_one (ds_ret (de_mod (de_callInt (by rfl) T.z_int (de_div (de_item (dv 0) de_int) de_int)) (dv 1))))))), ?_⟩) <;> obtain ⟨h, c, cs, s, n, M1, rfl, rfl, hn, hl, hq⟩ := h
  · rfl
  · rw [st__law_draw]
    refine aSeq_step ?_
    refine aWhile_by (fun m Γ' M' => ∃ cs', Γ' = [some (.ref h), some (.int n), none] ∧ M' = heapM h c cs' s ++ M1 ∧ m = cs'.length ∧ cs'.length ≤ 1000) _ ⟨cs, rfl, rfl, rfl, hl⟩ ?_
    rintro m Γ' M' ⟨cs, rfl, rfl, rfl, hl⟩
    have rest : aSeq
        (aIfS (aNil? (fun b => !b) (aOp fIx (aVar 0) (aC (D.int 0))))
          (aSeq (aSet 2 (aPop (aOp fIx (aVar 0) (aC (D.int 0)))))
            (aSeq (aDrop (aApp (aOp fIx (aVar 0) (aC (D.int 0))) (aOp fDiv (aVar 2) (aVar 1))))
              (aRet (aOp fMod (aCB fInt (aCons (aVar 2) aNil)) (aVar 1))))) aNext)
        (aSeq (aSetIx (aOp fMod (aCB fInt (aCons (aOp fAdd (aOp fMul (aOp fIx (aVar 0) (aC (D.int 1))) (aC (D.int 48271))) (aC (D.int 17))) aNil)) (aC (D.int 2147483647))) (aVar 0) (aC (D.int 1)))
          (aRet (aOp fMod (aCB fInt (aCons (aOp fDiv (aOp fIx (aVar 0) (aC (D.int 1))) (aC (D.int 32))) aNil)) (aVar 1))))
        { nx := fun _ M => Φ D.non M, rt := Φ } [some (D.ref h), some (D.int n), none] ((h, MO.lst [D.ref c, D.int s]) :: (c, MO.lst (List.map D.int cs)) :: M1) := by
      walk_at "st"
      refine ⟨_, .head _, ?_⟩
      walk_at "ev"
      refine ⟨_, .tail _ (.head _), all_ints, fun hb => ?_, fun hb => ?_⟩
      · walk_at "st"
        refine ⟨_, .head _, ?_⟩
        walk_at "ev"
        rcases last_or cs with rfl | ⟨cs, x, rfl⟩
        · cases hb
        · refine ⟨_, .int x, _, .there .here, ?_, ?_⟩
          · simp
          · walk_at "st"
            refine ⟨_, .head _, ?_⟩
            walk_at "ev"
            refine ⟨⟨_, .tail _ (.head _)⟩, hn, _, _, .there .here, ?_, ?_⟩
            · rw [List.map_append, List.map_singleton, List.dropLast_concat, List.length_map]
              rw [List.length_append, List.length_singleton] at hl
              omega
            · walk_at "ev"
              refine ⟨hn.1, ?_⟩
              have e : (List.map D.int (cs ++ [x])).dropLast ++ [D.int (x / n)] = List.map D.int (cs ++ [x / n]) := by
                rw [List.map_append, List.map_singleton, List.dropLast_concat, List.map_append]
                rfl
              rw [e]
              refine hq _ _ _ ?_ (Int.emod_nonneg _ (by have := hn.1; omega)) (Int.emod_lt_of_pos _ hn.1)
              rw [List.length_append] at hl ⊢
              exact hl
      · walk_at "st"
        refine ⟨_, .head _, ?_⟩
        walk_at "ev"
        refine ⟨by walk_at "ok", by walk_at "ok", _, 1, _, rfl, .here, _, .head _, ?_⟩
        walk_at "ev"
        exact ⟨by walk_at "ok", hn.1, hq _ _ _ hl (Int.emod_nonneg _ (by have := hn.1; omega)) (Int.emod_lt_of_pos _ hn.1)⟩
    walk_at "ev"
    refine ⟨_, .head _, ?_⟩
    walk_at "ev"
    refine ⟨_, .tail _ (.head _), all_ints, fun hb => ?_, fun hb => ?_⟩
    · refine ⟨_, .head _, ?_⟩
      walk_at "ev"
      refine ⟨_, .tail _ (.head _), ?_⟩
      rcases last_or cs with rfl | ⟨cs, x, rfl⟩
      · cases hb
      · rw [getI_last (d := .int x) (by simp)]
        walk_at "ev"
        refine ⟨fun h0 => ?_, fun h0 => rest⟩
        refine ⟨_, .head _, ?_⟩
        walk_at "ev"
        refine ⟨_, .int x, _, .there .here, by simp, cs.length, ?_, cs, rfl, ?_, rfl, ?_⟩
        · simp
        · rw [List.map_append, List.map_singleton, List.dropLast_concat]
        · simp at hl
          omega
    · walk_at "no"
      exact rest
theorem ok__law_draw_box (T : Top P K mg) (h c : Addr) {B : Bx} : FnOk P w K mg base (L2N.CX P w) 1 T.f__law_draw T.d__law_draw ["heap", "many"] (conc K (bxAnd (bxHeap h c) B) (spDraw h)) := draw_boxB (ok__law_draw T) h c
theorem ok__law_pick (T : Top P K mg) (h c : Addr) {B : Bx} : FnOk P w K mg base (L2N.CX P w) 2 T.f__law_pick T.d__law_pick ["heap", "some"] (conc K (bxAnd (bxHeap h c) B) (spPick h)) := by
  refine dfn T.F__law_pick sc__law_pick (fun ds M Φ Ψ h => ?_) (fun cdv A outer s H E hr ds M Φ Ψ hh => ⟨_, (dss_one (ds_ret (de_item (dv 1) (de_call ((ok__law_draw_box T h c).mono (by first | decide | exact Nat.le_refl _)) hr (by rfl) T.g__law_draw T.F__law_draw.kp T.b__law_draw (L2N.takes_of rfl rfl rfl rfl) (da_cons (dv 0) (da_cons (de_len (by rfl) T.z_len (dv 1)) da_nil)))))), ?_⟩)
  · unfold spPick at h
    split at h
    · rfl
    · rfl
    · exact h.elim
  · unfold spPick at hh
    split at hh
    · rename_i h' xs
      obtain ⟨rfl, ⟨h0, h1⟩, hq⟩ := hh
      rw [st__law_pick]
      walk_at "ev"
      refine ⟨rfl, divOk_of (by omega) (by omega), fun r r0 r1 => ?_⟩
      walk_at "ev"
      have hlt : r.toNat < xs.length := by omega
      rw [getI_of r0 (List.getElem?_eq_getElem hlt)]
      exact hq _ (List.getElem_mem hlt)
    · rename_i h' xs
      obtain ⟨rfl, ⟨h0, h1⟩, hq⟩ := hh
      rw [st__law_pick]
      walk_at "ev"
      refine ⟨rfl, divOk_of (by omega) (by omega), fun r r0 r1 => ?_⟩
      walk_at "ev"
      have hlt : r.toNat < xs.length := by omega
      rw [getI_of r0 (List.getElem?_eq_getElem hlt)]
      exact hq _ (List.getElem_mem hlt)
    · exact hh.elim

theorem ok__law_heap (T : Top P K mg) {B : Bx} : FnOk P w K mg base (L2N.CX P w) 1 T.f__law_heap T.d__law_heap ["script"] (conc K B sp__law_heap) := by
  refine dfn T.F__law_heap sc__law_heap (fun ds M Φ Ψ h => ?_) (fun cdv A outer s H E hr ds M Φ Ψ hh => ⟨_, (dss_cons (ds_par (i := 1) (j := 2) rfl sc__law_heap.nd rfl rfl (by decide) rfl rfl (da_cons (de_lc (own := [("cell", 3)]) rfl sc__law_heap.nd (di_seq (de_slL (dv 0) do_none (do_some de_int))) (blkOk_by (N := n__law_heap) (sc := defScope s__law_heap) (by decide +kernel)) (fun _ _ _ _ _ => (dg_name (i := 3) sc__law_heap.nd rfl (.inl rfl))) (fun _ _ _ _ _ => dts_nil) (fun _ _ _ _ _ => (de_mod (de_callInt (by rfl) T.z_int (de_add (de_mul de_int (de_abs (by rfl) T.z_abs (dv 3))) (de_callInt (by rfl) T.z_int (de_lt (dv 3) de_int)))) (de_pow de_int de_int)))) (da_cons de_int da_nil)))
      (dss_cons (ds_for (passes_of rfl) rfl (di_seq (dv 1)) (dg_name (i := 3) sc__law_heap.nd rfl (.inl rfl))
        (dss_one (ds_set (i := 2) sc__law_heap.nd rfl (.inl rfl) (de_mod (de_callInt (by rfl) T.z_int (de_add (de_add (de_mul (dv 2) de_int) (de_mod (de_callInt (by rfl) T.z_int (dv 3)) de_int)) de_int)) de_int))))
      (dss_one (ds_ret (de_lstM (da_cons (de_revM (de_lc (own := [("cell", 3)]) rfl sc__law_heap.nd (di_seq (dv 1)) (blkOk_by (N := n__law_heap) (sc := defScope s__law_heap) (by decide +kernel)) (fun _ _ _ _ _ => (dg_name (i := 3) sc__law_heap.nd rfl (.inl rfl))) (fun _ _ _ _ _ => (dts_one (dt_ge (dv 3) (de_pow de_int de_int)))) (fun _ _ _ _ _ => (dv 3)))) (da_cons (dv 2) da_nil))))))), ?_⟩) <;> (first | (unfold sp__law_heap at h; split at h; rotate_left; exact h.elim) | (unfold sp__law_heap at hh; split at hh; rotate_left; exact hh.elim))
  · rfl
  · rename_i xs
    obtain ⟨ns, rfl, hl, hq⟩ := hh
    rw [st__law_heap]
    walk_at "st"
    refine aLc_int (ns.take 60) D.int (fun x => (2 * (if x < 0 then -x else x) + (if decide (x < 0) = true then 1 else 0)) % (10 ^ Int.toNat 60)) (fun Φ' q => ?_) (by rw [List.length_take]; omega) (fun x hx M' => ⟨_, rfl, fun Φ' q => ?_⟩) ?_
    · walk_at "ev"
      rw [cutD_take (by decide), ← List.map_take]
      exact q
    · walk_at "ev"
      exact ⟨by walk_at "ok", ⟨by decide, by decide, by decide⟩, by show (0 : Int) < _; decide +kernel, q⟩
    walk_at "ev"
    have hlen : ((ns.take 60).map (fun x : Int => (2 * (if x < 0 then -x else x) + (if decide (x < 0) = true then 1 else 0)) % (10 ^ Int.toNat 60))).length ≤ 1000 := by
      rw [List.length_map, List.length_take]
      omega
    generalize (ns.take 60).map (fun x : Int => (2 * (if x < 0 then -x else x) + (if decide (x < 0) = true then 1 else 0)) % (10 ^ Int.toNat 60)) = cells at hlen ⊢
    refine aSeq_step ?_
    refine aFor_map cells D.int (fun i Γ' M' => ∃ z x, Γ' = [some (.lst (List.map D.int ns)), some (.lst (List.map D.int cells)), some (.int z), x] ∧ M' = M) (fun Φ' q => ?_) ⟨_, _, rfl, rfl⟩ ?_ ?_
    · walk_at "ev"
      exact q
    · rintro i x Γ' M' hx ⟨z, u, rfl, rfl⟩
      refine ⟨_, rfl, ?_⟩
      walk_at "ev"
      exact ⟨by walk_at "ok", by walk_at "ok", by walk_at "ok", _, _, rfl, rfl⟩
    · rintro Γ' M' ⟨z, x, rfl, rfl⟩
      walk_at "ev"
      refine aLc_ifid cells D.int (fun x => decide (10 ^ Int.toNat 18 ≤ x)) (fun Φ' q => ?_) (by omega) (fun x hx M' => ⟨_, rfl, fun Φ' q => ?_, fun hf Φ' q => ?_⟩) ?_
      · walk_at "ev"
        exact q
      · walk_at "ev"
        exact ⟨⟨by decide, by decide, by decide⟩, q⟩
      · walk_at "ev"
        exact q
      walk_at "ev"
      intro c
      refine ⟨by decide, fun h => ?_⟩
      rw [← List.map_reverse]
      refine hq h c _ z ?_
      rw [List.length_reverse]
      exact Nat.le_trans (List.length_filter_le _ _) hlen

theorem ok__law_like (T : Top P K mg) {B : Bx} : ∀ n, FnOk P w K mg base (L2N.CX P w) n T.f__law_like T.d__law_like ["told", "due"] (conc K B (spLike n))
  | 0 => fn_false
  | n + 1 => by
    have ih := ok__law_like T (B := B) n
    refine dfn T.F__law_like sc__law_like (fun ds M Φ Ψ h => ?_) (fun cdv A outer s H E hr ds M Φ Ψ h => ⟨_, (dss_cons (ds_if (dt_val (de_isi (n := "tuple") (by rfl) T.z_isinstance (by rfl) T.z_tuple (by decide +kernel) (dv 1)))
        (dss_one (ds_ret (de_and (de_isi (n := "tuple") (by rfl) T.z_isinstance (by rfl) T.z_tuple (by decide +kernel) (dv 0)) (de_and (de_eq hr (de_len (by rfl) T.z_len (dv 0)) (de_len (by rfl) T.z_len (dv 1))) (de_one (de_all rfl (by rfl) T.z_all (de_lc (own := [("at", 2)]) rfl sc__law_like.nd (di_rng1 (by rfl) T.z_range (da_cons (de_len (by rfl) T.z_len (dv 1)) da_nil)) (blkOk_by (N := n__law_like) (sc := defScope s__law_like) (by decide +kernel)) (fun _ _ _ _ _ => (dg_name (i := 2) sc__law_like.nd rfl (.inl rfl))) (fun _ _ _ _ _ => dts_nil) (fun _ _ _ _ _ => (de_call ((ih).mono (by first | decide | exact Nat.le_refl _)) hr (by rfl) T.g__law_like T.F__law_like.kp T.b__law_like tk_calm (da_cons (de_item (dv 0) (dv 2)) (da_cons (de_item (dv 1) (dv 2)) da_nil)))))))))))
        dss_nil)
      (dss_cons (ds_if (dt_is (dv 1) de_non)
        (dss_one (ds_ret (de_is (dv 0) de_non)))
        dss_nil)
      (dss_cons (ds_if (dt_val (de_isi (n := "bool") (by rfl) T.z_isinstance (by rfl) T.z_bool (by decide +kernel) (dv 1)))
        (dss_one (ds_ret (de_if (dt_val (dv 1)) (de_is (dv 0) de_bl) (de_is (dv 0) de_bl))))
        dss_nil)
      (dss_cons (ds_if (dt_val (de_isi (n := "int") (by rfl) T.z_isinstance (by rfl) T.z_int (by decide +kernel) (dv 1)))
        (dss_one (ds_ret (de_and (de_isi (n := "int") (by rfl) T.z_isinstance (by rfl) T.z_int (by decide +kernel) (dv 0)) (de_and (de_not (de_isi (n := "bool") (by rfl) T.z_isinstance (by rfl) T.z_bool (by decide +kernel) (dv 0))) (de_one (de_eq hr (dv 0) (dv 1)))))))
        dss_nil)
      (dss_one (ds_ret (de_and (de_isi (n := "str") (by rfl) T.z_isinstance (by rfl) T.z_str (by decide +kernel) (dv 0)) (de_one (de_eq hr (dv 0) (dv 1)))))))))), ?_⟩) <;> obtain ⟨t, d, rfl, ⟨rfl, hs⟩, h⟩ := h
    · rfl
    · rw [st__law_like]
      cases t with
      | int i =>
        walk_at "go"
        exact h
      | non =>
        walk_at "go"
        exact h
      | bl b =>
        cases b <;> (walk_at "go"; exact h)
      | str x =>
        walk_at "go"
        simp only [decide_true]
        exact h
      | tup ds =>
        cases n with
        | zero => exact Bool.noConfusion hs
        | succ n =>
          have hs2 : (decide (ds.length ≤ 1000) && ds.all (shp n)) = true := hs
          rw [Bool.and_eq_true] at hs2
          obtain ⟨hl, ha⟩ := hs2
          have hl := of_decide_eq_true hl
          walk_at "st"
          walk_at "isi"
          refine ⟨fun _ => ⟨fun _ => ⟨fun _ => ?_, fun z => ?_⟩, fun z => Bool.noConfusion z⟩, fun z => Bool.noConfusion z⟩
          · refine aLc_map (rngI 0 ds.length) D.int (fun _ => .bl true) (fun Φ' q => ?_) (by rw [rngI_len]; omega) (fun x hx M' => ⟨[some (.tup ds), some (.tup ds), some (.int x)], rfl, fun Φ' q => ?_⟩) ?_
            · walk_at "ev"
              rw [rngD_eq]
              exact ⟨by omega, q⟩
            · obtain ⟨x0, x1⟩ := mem_rngI hx
              have hlt : x.toNat < ds.length := by omega
              walk_at "ev"
              rw [getI_of x0 (List.getElem?_eq_getElem hlt)]
              walk_at "ev"
              exact ⟨_, _, rfl, ⟨rfl, List.all_eq_true.mp ha _ (List.getElem_mem hlt)⟩, q⟩
            walk_at "ev"
            refine ⟨List.replicate (rngI 0 ds.length).length true, by rw [List.map_const', List.map_replicate], ?_⟩
            rw [all_true]
            exact h
          · rw [decide_eq_true rfl] at z
            exact Bool.noConfusion z
      | _ => exact Bool.noConfusion (show false = true by cases n <;> exact hs)

theorem ok_slots_in (T : Top P K mg) {B : Bx} : FnOk P w K mg base (L2N.CX P w) 1 T.f_slots_in T.d_slots_in ["rate", "beats"] (conc K B sp_slots_in) := by
  refine dfn T.F_slots_in sc_slots_in (fun ds M Φ Ψ h => ?_) (fun cdv A outer s H E hr ds M Φ Ψ h => ⟨_, (dss_one (ds_ret (de_div (de_mul (de_item (dv 0) de_int) (dv 1)) (de_item (dv 0) de_int)))), ?_⟩) <;> (unfold sp_slots_in at h; split at h; rotate_left; exact h.elim)
  · rfl
  · rename_i p q s
    obtain ⟨hp, h⟩ := h
    unfold RP at hp
    rw [st_slots_in]
    walk_at "ev"
    exact ⟨.inl ⟨by omega, by omega⟩, divOk_of (by omega) (by omega), h⟩
theorem ok_late_in (T : Top P K mg) {B : Bx} : FnOk P w K mg base (L2N.CX P w) 2 T.f_late_in T.d_late_in ["rate", "beats", "late"] (conc K B sp_late_in) := by
  refine dfn T.F_late_in sc_late_in (fun ds M Φ Ψ h => ?_) (fun cdv A outer s H E hr ds M Φ Ψ h => ⟨_, (dss_cons (ds_set (i := 3) sc_late_in.nd rfl (.inl rfl) (de_min2 rfl (by rfl) T.z_min (dv 2) (dv 1)))
      (dss_one (ds_ret (de_add (de_sub (dv 3) (de_call ((ok_slots_in T).mono (by first | decide | exact Nat.le_refl _)) hr (by rfl) T.g_slots_in T.F_slots_in.kp T.b_slots_in (L2N.takes_of rfl rfl rfl rfl) (da_cons (dv 0) (da_cons (dv 1) da_nil)))) (de_call ((ok_slots_in T).mono (by first | decide | exact Nat.le_refl _)) hr (by rfl) T.g_slots_in T.F_slots_in.kp T.b_slots_in (L2N.takes_of rfl rfl rfl rfl) (da_cons (dv 0) (da_cons (de_sub (dv 1) (dv 3)) da_nil))))))), ?_⟩) <;> (unfold sp_late_in at h; split at h; rotate_left; exact h.elim)
  · rfl
  · rename_i p q b l
    obtain ⟨hp, h⟩ := h
    rw [st_late_in]
    walk_at "st"
    exact ⟨hp, hp, h⟩
theorem ok_Plan_init (T : Top P K mg) {B : Bx} : FnOk P w K mg base (L2N.CX P w) 1 T.f_Plan_init T.d_Plan_init ["self", "rate", "order", "gate", "way", "streams", "length", "late", "gap"] (conc K B (sp_Plan_init T.C_Plan)) := by
  refine dfn T.F_Plan_init sc_Plan_init (fun ds M Φ Ψ h => ?_) (fun cdv A outer s H E hr ds M Φ Ψ h => ⟨_, (dss_cons (ds_fld (dv 0) (dv 1))
      (dss_cons (ds_fld (dv 0) (dv 2))
      (dss_cons (ds_fld (dv 0) (dv 3))
      (dss_cons (ds_fld (dv 0) (dv 4))
      (dss_cons (ds_fld (dv 0) (dv 5))
      (dss_cons (ds_fld (dv 0) (dv 6))
      (dss_cons (ds_fld (dv 0) (dv 7))
      (dss_one (ds_fld (dv 0) (dv 8)))))))))), ?_⟩) <;> (unfold sp_Plan_init at h; split at h; rotate_left; exact h.elim)
  · rfl
  · obtain ⟨M1, rfl, h⟩ := h
    rw [st_Plan_init]
    walk_at "st"
    refine fld_new (by decide +kernel) rfl ⟨T.k_Plan, T.a_Plan_rate⟩ (by decide) ?_
    walk_at "st"
    refine fld_new (by decide +kernel) rfl ⟨T.k_Plan, T.a_Plan_order⟩ (by decide) ?_
    walk_at "st"
    refine fld_new (by decide +kernel) rfl ⟨T.k_Plan, T.a_Plan_gate⟩ (by decide) ?_
    walk_at "st"
    refine fld_new (by decide +kernel) rfl ⟨T.k_Plan, T.a_Plan_way⟩ (by decide) ?_
    walk_at "st"
    refine fld_new (by decide +kernel) rfl ⟨T.k_Plan, T.a_Plan_streams⟩ (by decide) ?_
    walk_at "st"
    refine fld_new (by decide +kernel) rfl ⟨T.k_Plan, T.a_Plan_length⟩ (by decide) ?_
    walk_at "st"
    refine fld_new (by decide +kernel) rfl ⟨T.k_Plan, T.a_Plan_late⟩ (by decide) ?_
    walk_at "ev"
    exact fld_new (by decide +kernel) rfl ⟨T.k_Plan, T.a_Plan_gap⟩ (by decide) h
theorem ok_Theta_init (T : Top P K mg) {B : Bx} : FnOk P w K mg base (L2N.CX P w) 1 T.f_Theta_init T.d_Theta_init ["self", "first", "second", "back"] (conc K B (sp_Theta_init T.C_Theta)) := by
  refine dfn T.F_Theta_init sc_Theta_init (fun ds M Φ Ψ h => ?_) (fun cdv A outer s H E hr ds M Φ Ψ h => ⟨_, (dss_cons (ds_fld (dv 0) (dv 1))
      (dss_cons (ds_fld (dv 0) (dv 2))
      (dss_one (ds_fld (dv 0) (dv 3))))), ?_⟩) <;> (unfold sp_Theta_init at h; split at h; rotate_left; exact h.elim)
  · rfl
  · obtain ⟨M1, rfl, h⟩ := h
    rw [st_Theta_init]
    walk_at "st"
    refine fld_new (by decide +kernel) rfl ⟨T.k_Theta, T.a_Theta_first⟩ (by decide) ?_
    walk_at "st"
    refine fld_new (by decide +kernel) rfl ⟨T.k_Theta, T.a_Theta_second⟩ (by decide) ?_
    walk_at "ev"
    exact fld_new (by decide +kernel) rfl ⟨T.k_Theta, T.a_Theta_back⟩ (by decide) h
theorem ok_counts_of (T : Top P K mg) {B : Bx} : FnOk P w K mg base (L2N.CX P w) 3 T.f_counts_of T.d_counts_of ["plan", "s"] (conc K B (sp_counts_of T.C_Plan)) := by
  refine dfn T.F_counts_of sc_counts_of (fun ds M Φ Ψ h => ?_) (fun cdv A outer s H E hr ds M Φ Ψ h => ⟨_, (dss_cons (ds_set (i := 2) sc_counts_of.nd rfl (.inl rfl) (de_call ((ok_slots_in T).mono (by first | decide | exact Nat.le_refl _)) hr (by rfl) T.g_slots_in T.F_slots_in.kp T.b_slots_in (L2N.takes_of rfl rfl rfl rfl) (da_cons (de_fld (dv 0)) (da_cons (dv 1) da_nil))))
      (dss_cons (ds_set (i := 3) sc_counts_of.nd rfl (.inl rfl) (de_call ((ok_slots_in T).mono (by first | decide | exact Nat.le_refl _)) hr (by rfl) T.g_slots_in T.F_slots_in.kp T.b_slots_in (L2N.takes_of rfl rfl rfl rfl) (da_cons (de_fld (dv 0)) (da_cons (dv 2) da_nil))))
      (dss_cons (ds_set (i := 4) sc_counts_of.nd rfl (.inl rfl) (de_call ((ok_slots_in T).mono (by first | decide | exact Nat.le_refl _)) hr (by rfl) T.g_slots_in T.F_slots_in.kp T.b_slots_in (L2N.takes_of rfl rfl rfl rfl) (da_cons (de_fld (dv 0)) (da_cons (dv 3) da_nil))))
      (dss_one (ds_ret (de_tup (da_cons de_int (da_cons (dv 1) (da_cons (dv 2) (da_cons (dv 3) (da_cons (dv 4) (da_cons (de_call ((ok_late_in T).mono (by first | decide | exact Nat.le_refl _)) hr (by rfl) T.g_late_in T.F_late_in.kp T.b_late_in (L2N.takes_of rfl rfl rfl rfl) (da_cons (de_fld (dv 0)) (da_cons (dv 3) (da_cons (de_fld (dv 0)) da_nil)))) da_nil)))))))))))), ?_⟩) <;> (unfold sp_counts_of at h; split at h; rotate_left; exact h.elim)
  · rfl
  · rename_i d s
    obtain ⟨F, G, B', p, q, rfl, ⟨hT, hp⟩, h⟩ := h
    unfold planD
    rw [st_counts_of]
    walk_at "st"
    refine ⟨⟨T.k_Plan, T.a_Plan_rate⟩, hp, ?_⟩
    walk_at "st"
    refine ⟨⟨T.k_Plan, T.a_Plan_rate⟩, hp, ?_⟩
    walk_at "st"
    refine ⟨⟨T.k_Plan, T.a_Plan_rate⟩, hp, ?_⟩
    walk_at "ev"
    exact ⟨⟨T.k_Plan, T.a_Plan_rate⟩, ⟨T.k_Plan, T.a_Plan_late⟩, hp, by decide, h⟩
theorem ok_worth_of (T : Top P K mg) {B : Bx} : FnOk P w K mg base (L2N.CX P w) 1 T.f_worth_of T.d_worth_of ["form", "counts"] (conc K B sp_worth_of) := by
  refine dfn T.F_worth_of sc_worth_of (fun ds M Φ Ψ h => ?_) (fun cdv A outer s H E hr ds M Φ Ψ h => ⟨_, (dss_one (ds_ret (de_sum rfl (by rfl) T.z_sum (de_lc (own := [("at", 3), ("number", 2)]) rfl sc_worth_of.nd (di_enumA (by rfl) T.z_enumerate (da_cons (dv 0) da_nil)) (blkOk_by (N := n_worth_of) (sc := defScope s_worth_of) (by decide +kernel)) (fun _ _ _ _ _ => (dg_tup rfl (dgs_cons (dg_name (i := 3) sc_worth_of.nd rfl (.inl rfl)) (dgs_cons (dg_name (i := 2) sc_worth_of.nd rfl (.inl rfl)) dgs_nil)) (fix_cons (fix_cons fix_nil)))) (fun _ _ _ _ _ => dts_nil) (fun _ _ _ _ _ => (de_mul (dv 2) (de_item (dv 1) (dv 3)))))))), ?_⟩) <;> (unfold sp_worth_of at h; split at h; rotate_left; exact h.elim)
  · rfl
  · rename_i xs ys
    obtain ⟨f, c, rfl, rfl, ⟨lf, lc⟩, hs, h⟩ := h
    match f, c, lf, lc with
    | [a0, a1, a2, a3, a4, a5], [b0, b1, b2, b3, b4, b5], _, _ =>
      rw [st_worth_of]
      walk_at "ev"
      refine aLc_map [((0 : Int), a0, a0 * b0), (1, a1, a1 * b1), (2, a2, a2 * b2), (3, a3, a3 * b3), (4, a4, a4 * b4), (5, a5, a5 * b5)] (fun x : Int × Int × Int => .tup [.int x.1, .int x.2.1]) (fun x => .int x.2.2) (fun Φ' q => ?_) (Nat.le_of_ble_eq_true rfl) ?_ ?_
      · walk_at "ev"
        exact q
      · have h0 := hs a0 (by simp)
        have h1 := hs a1 (by simp)
        have h2 := hs a2 (by simp)
        have h3 := hs a3 (by simp)
        have h4 := hs a4 (by simp)
        have h5 := hs a5 (by simp)
        unfold SmallI at h0 h1 h2 h3 h4 h5
        refine List.forall_mem_cons.mpr ⟨fun M' => ⟨_, rfl, fun Φ' q => ?_⟩, List.forall_mem_cons.mpr ⟨fun M' => ⟨_, rfl, fun Φ' q => ?_⟩, List.forall_mem_cons.mpr ⟨fun M' => ⟨_, rfl, fun Φ' q => ?_⟩, List.forall_mem_cons.mpr ⟨fun M' => ⟨_, rfl, fun Φ' q => ?_⟩, List.forall_mem_cons.mpr ⟨fun M' => ⟨_, rfl, fun Φ' q => ?_⟩, List.forall_mem_cons.mpr ⟨fun M' => ⟨_, rfl, fun Φ' q => ?_⟩, fun _ z => absurd z List.not_mem_nil⟩⟩⟩⟩⟩⟩ <;> (walk_at "ev"; exact ⟨.inl ⟨by omega, by omega⟩, q⟩)
      · walk_at "ev"
        exact ⟨[a0 * b0, a1 * b1, a2 * b2, a3 * b3, a4 * b4, a5 * b5], rfl, h⟩
theorem ok_next_of (T : Top P K mg) {B : Bx} : FnOk P w K mg base (L2N.CX P w) 4 T.f_next_of T.d_next_of ["plan", "s"] (conc K B (sp_next_of T.C_Plan)) := by
  refine dfn T.F_next_of sc_next_of (fun ds M Φ Ψ h => ?_) (fun cdv A outer s H E hr ds M Φ Ψ h => ⟨_, (dss_one (ds_ret (de_call ((ok_slots_in T).mono (by first | decide | exact Nat.le_refl _)) hr (by rfl) T.g_slots_in T.F_slots_in.kp T.b_slots_in (L2N.takes_of rfl rfl rfl rfl) (da_cons (de_fld (dv 0)) (da_cons (de_mul de_int (de_item (de_call ((ok_counts_of T).mono (by first | decide | exact Nat.le_refl _)) hr (by rfl) T.g_counts_of T.F_counts_of.kp T.b_counts_of (L2N.takes_of rfl rfl rfl rfl) (da_cons (dv 0) (da_cons (dv 1) da_nil))) de_int)) da_nil))))), ?_⟩) <;> (unfold sp_next_of at h; split at h; rotate_left; exact h.elim)
  · rfl
  · rename_i d s
    obtain ⟨F, G, B', p, q, rfl, ⟨hT, hp⟩, h⟩ := h
    rw [st_next_of]
    walk_at "ev"
    unfold planD
    walk_at "ev"
    refine ⟨⟨T.k_Plan, T.a_Plan_rate⟩, F, G, B', p, q, rfl, ⟨hT, hp⟩, ?_⟩
    unfold cnt
    walk_at "ev"
    exact ⟨.inl ⟨by decide, by decide⟩, hp, h⟩
theorem ok_length_of (T : Top P K mg) {B : Bx} : FnOk P w K mg base (L2N.CX P w) 4 T.f_length_of T.d_length_of ["plan", "s"] (conc K B (sp_length_of T.C_Plan)) := by
  refine dfn T.F_length_of sc_length_of (fun ds M Φ Ψ h => ?_) (fun cdv A outer s H E hr ds M Φ Ψ h => ⟨_, (dss_one (ds_ret (de_call ((ok_worth_of T).mono (by first | decide | exact Nat.le_refl _)) hr (by rfl) T.g_worth_of T.F_worth_of.kp T.b_worth_of (L2N.takes_of rfl rfl rfl rfl) (da_cons (de_fld (dv 0)) (da_cons (de_call ((ok_counts_of T).mono (by first | decide | exact Nat.le_refl _)) hr (by rfl) T.g_counts_of T.F_counts_of.kp T.b_counts_of (L2N.takes_of rfl rfl rfl rfl) (da_cons (dv 0) (da_cons (dv 1) da_nil))) da_nil))))), ?_⟩) <;> (unfold sp_length_of at h; split at h; rotate_left; exact h.elim)
  · rfl
  · rename_i d s
    obtain ⟨F, G, B', p, q, rfl, ⟨hT, hp⟩, h⟩ := h
    rw [st_length_of]
    unfold planD
    walk_at "ev"
    refine ⟨⟨T.k_Plan, T.a_Plan_length⟩, F, G, B', p, q, rfl, ⟨hT, hp⟩, _, _, rfl, rfl, ⟨rfl, rfl⟩, ?_, h⟩
    obtain ⟨f0, f1, g0, g1, b0, b1, _⟩ := hT
    have lw : 0 ≤ lowI F G ∧ lowI F G ≤ 20 := by unfold lowI; omega
    unfold lenF
    simp only [List.forall_mem_cons]
    refine ⟨?_, ?_, ?_, ?_, ?_, ?_, fun _ z => absurd z List.not_mem_nil⟩ <;> (unfold SmallI; omega)
theorem ok_spans_of (T : Top P K mg) {B : Bx} : FnOk P w K mg base (L2N.CX P w) 4 T.f_spans_of T.d_spans_of ["plan", "begin", "s"] (conc K B (sp_spans_of T.C_Plan)) := by
  refine dfn T.F_spans_of sc_spans_of (fun ds M Φ Ψ h => ?_) (fun cdv A outer s H E hr ds M Φ Ψ h => ⟨_, (dss_cons (ds_par (i := 3) (j := 4) rfl sc_spans_of.nd rfl rfl (by decide) rfl rfl (da_cons (de_call ((ok_counts_of T).mono (by first | decide | exact Nat.le_refl _)) hr (by rfl) T.g_counts_of T.F_counts_of.kp T.b_counts_of (L2N.takes_of rfl rfl rfl rfl) (da_cons (dv 0) (da_cons (dv 2) da_nil))) (da_cons (de_lstM da_nil) da_nil)))
      (dss_cons (ds_for (passes_of rfl) rfl (di_seq (de_fld (dv 0))) (dg_tup rfl (dgs_cons (dg_name (i := 5) sc_spans_of.nd rfl (.inl rfl)) (dgs_cons (dg_name (i := 6) sc_spans_of.nd rfl (.inl rfl)) (dgs_cons (dg_name (i := 7) sc_spans_of.nd rfl (.inl rfl)) dgs_nil))) (fix_cons (fix_cons (fix_cons fix_nil))))
        (dss_one (ds_expr (de_app (dv 4) (de_tup (da_cons (dv 5) (da_cons (de_add (dv 1) (de_call ((ok_worth_of T).mono (by first | decide | exact Nat.le_refl _)) hr (by rfl) T.g_worth_of T.F_worth_of.kp T.b_worth_of (L2N.takes_of rfl rfl rfl rfl) (da_cons (dv 6) (da_cons (dv 3) da_nil)))) (da_cons (de_call ((ok_worth_of T).mono (by first | decide | exact Nat.le_refl _)) hr (by rfl) T.g_worth_of T.F_worth_of.kp T.b_worth_of (L2N.takes_of rfl rfl rfl rfl) (da_cons (dv 7) (da_cons (dv 3) da_nil))) da_nil))))))))
      (dss_one (ds_gh (ds_ret (de_tupleOf (by rfl) T.z_tuple (dv 4))))))), ?_⟩) <;> (unfold sp_spans_of at h; split at h; rotate_left; exact h.elim)
  · rfl
  · rename_i d b s
    obtain ⟨F, G, B', p, q, rfl, ⟨hT, hp⟩, h⟩ := h
    have so := stL_ok hT
    rw [st_spans_of]
    walk_at "st"
    refine ⟨F, G, B', p, q, rfl, ⟨hT, hp⟩, ?_⟩
    walk_at "ev"
    refine ⟨by decide, fun a => ?_⟩
    refine aSeq_step ?_
    refine aFor_map (stL F G B') stD (fun i Γ' M' => ∃ x y z, Γ' = [some (planD T.C_Plan F G B' p q), some (.int b), some (.int s), some (iT (cnt F G p q s)), some (.ref a), x, y, z] ∧ M' = (a, .lst ((((stL F G B').map (fun x => ((x.1, b + wF x.2.1 (cnt F G p q s), wF x.2.2 (cnt F G p q s)) : Sp))).take i).map sgD)) :: M) (fun Φ' q => ?_) ⟨_, _, _, rfl, rfl⟩ ?_ ?_
    · unfold planD
      walk_at "ev"
      exact ⟨⟨T.k_Plan, T.a_Plan_streams⟩, q⟩
    · rintro i x Γ' M' hx ⟨x1, x2, x3, rfl, rfl⟩
      refine ⟨_, rfl, ?_⟩
      obtain ⟨⟨e1, e2⟩, s1, s2, e3⟩ := so x (List.mem_of_getElem? hx)
      have hx2 : ((stL F G B').map (fun x => ((x.1, b + wF x.2.1 (cnt F G p q s), wF x.2.2 (cnt F G p q s)) : Sp)))[i]? = some (x.1, b + wF x.2.1 (cnt F G p q s), wF x.2.2 (cnt F G p q s)) := by
        rw [List.getElem?_map, hx]
        rfl
      have hi := (List.getElem?_eq_some_iff.mp hx).1
      have l7 : (stL F G B').length = 7 := rfl
      walk_at "ev"
      refine ⟨⟨_, .head _⟩, _, _, rfl, rfl, ⟨e1, rfl⟩, s1, _, _, rfl, rfl, ⟨e2, rfl⟩, s2, by decide, _, _, .here, ?_, _, _, _, rfl, ?_⟩
      · rw [List.length_map, List.length_take]
        omega
      · rw [take_next hx2, List.map_append]
        rfl
    · rintro Γ' M' ⟨x1, x2, x3, rfl, rfl⟩
      rw [← List.length_map (as := stL F G B') (f := fun x => ((x.1, b + wF x.2.1 (cnt F G p q s), wF x.2.2 (cnt F G p q s)) : Sp)), List.take_length, spans_eq]
      refine ⟨_, _, .lst 4 rfl .here .refl, ?_⟩
      walk_at "ev"
      exact h
theorem ok_plan_chain (T : Top P K mg) {B : Bx} : FnOk P w K mg base (L2N.CX P w) 7 T.f_plan_chain T.d_plan_chain ["plan"] (conc K B (sp_plan_chain T.C_Chain T.C_Plan)) := by
  refine dfn T.F_plan_chain sc_plan_chain (fun ds M Φ Ψ h => ?_) (fun cdv A outer s H E hr ds M Φ Ψ h => ⟨_, (dss_cons (ds_asg (de_fld (dv 0)) (dg_tup rfl (dgs_cons (dg_name (i := 1) sc_plan_chain.nd rfl (.inl rfl)) (dgs_cons (dg_name (i := 2) sc_plan_chain.nd rfl (.inl rfl)) dgs_nil)) (fix_cons (fix_cons fix_nil))))
      (dss_one (ds_ret (de_make T.M_Chain ((ok_Chain_init T).mono (by first | decide | exact Nat.le_refl _)) hr (by rfl) T.g_Chain T.b_Chain_init .nil (fun _ => .nil) (L2N.takes_of rfl rfl rfl rfl) (da_cons (de_tup (da_cons (de_tup (da_cons (dv 1) (da_cons (dv 2) (da_cons de_int da_nil)))) (da_cons (de_tup (da_cons (dv 1) (da_cons (dv 2) (da_cons de_int da_nil)))) (da_cons (de_tup (da_cons (dv 1) (da_cons (dv 2) (da_cons de_int da_nil)))) (da_cons (de_tup (da_cons (de_mul de_int (dv 1)) (da_cons (dv 2) (da_cons de_int da_nil)))) da_nil))))) da_nil))))), ?_⟩) <;> (unfold sp_plan_chain at h; split at h; rotate_left; exact h.elim)
  · rfl
  · rename_i d
    obtain ⟨F, G, B', p, q, rfl, ⟨hT, hp⟩, h⟩ := h
    rw [st_plan_chain]
    unfold planD
    walk_at "st"
    refine ⟨⟨T.k_Plan, T.a_Plan_rate⟩, ?_⟩
    walk_at "ev"
    refine ⟨by decide, by decide, by decide, .inl ⟨by decide, by decide⟩, by decide, by decide, fun x => ?_⟩
    exact chain_go (ls := l4 p q) ⟨by show 1 ≤ 4; decide, by show 4 ≤ 12; decide⟩ (l4_good hp) ⟨rfl, _, _, _, .here, h⟩
theorem ok_phase_of (T : Top P K mg) {B : Bx} : FnOk P w K mg base (L2N.CX P w) 6 T.f_phase_of T.d_phase_of ["plan", "s", "many"] (conc K B (sp_phase_of T.C_Plan)) := by
  refine dfn T.F_phase_of sc_phase_of (fun ds M Φ Ψ h => ?_) (fun cdv A outer s H E hr ds M Φ Ψ h => ⟨_, (dss_cons (ds_if (dt_gt (dv 2) (de_const (v := .int (200)) (d := .int (200)) (by rfl) T.c_MOST_PHASES ⟨_, rfl⟩ (fun _ => .int _)))
        (dss_one (ds_raise rfl (L2N.takes_of rfl rfl rfl rfl) T.X_Refused hr T.n_super (by rfl) T.g_Refused (da_cons de_str da_nil)))
        dss_nil)
      (dss_cons (ds_set (i := 3) sc_phase_of.nd rfl (.inl rfl) de_int)
      (dss_cons (ds_for (passes_of rfl) rfl (di_rng1 (by rfl) T.z_range (da_cons (dv 2) da_nil)) (dg_name (i := 4) sc_phase_of.nd rfl (.inl rfl))
        (dss_one (ds_par (i := 3) (j := 1) rfl sc_phase_of.nd rfl rfl (by decide) rfl rfl (da_cons (de_add (dv 3) (de_call ((ok_length_of T).mono (by first | decide | exact Nat.le_refl _)) hr (by rfl) T.g_length_of T.F_length_of.kp T.b_length_of (L2N.takes_of rfl rfl rfl rfl) (da_cons (dv 0) (da_cons (dv 1) da_nil)))) (da_cons (de_call ((ok_next_of T).mono (by first | decide | exact Nat.le_refl _)) hr (by rfl) T.g_next_of T.F_next_of.kp T.b_next_of (L2N.takes_of rfl rfl rfl rfl) (da_cons (dv 0) (da_cons (dv 1) da_nil))) da_nil)))))
      (dss_one (ds_ret (de_tup (da_cons (dv 3) (da_cons (dv 1) da_nil)))))))), ?_⟩) <;> (unfold sp_phase_of at h; split at h; rotate_left; exact h.elim)
  · rfl
  · rename_i d s m
    obtain ⟨F, G, B', p, q, rfl, hP, ⟨m0, m1⟩, h⟩ := h
    rw [st_phase_of]
    walk_at "st"
    refine ⟨fun z => by have := of_decide_eq_true z; omega, fun _ => ?_⟩
    walk_at "st"
    refine aSeq_step ?_
    refine aFor_rng 0 m.toNat (fun i Γ' M' => ∃ x, Γ' = [some (planD T.C_Plan F G B' p q), some (.int (phF F G B' p q s i).2), some (.int m), some (.int (phF F G B' p q s i).1), x] ∧ M' = M) (fun Φ' q => ?_) ⟨_, rfl, rfl⟩ ?_ ?_
    · walk_at "ev"
      exact ⟨by omega, q⟩
    · rintro i Γ' M' hi ⟨x, rfl, rfl⟩
      refine ⟨_, rfl, ?_⟩
      walk_at "ev"
      exact ⟨F, G, B', p, q, rfl, hP, F, G, B', p, q, rfl, hP, _, rfl, rfl⟩
    · rintro Γ' M' ⟨x, rfl, rfl⟩
      walk_at "ev"
      exact ⟨by decide, h⟩
theorem ok_burst_of (T : Top P K mg) {B : Bx} : FnOk P w K mg base (L2N.CX P w) 1 T.f_burst_of T.d_burst_of ["s"] (conc K B sp_burst_of) := by
  refine dfn T.F_burst_of sc_burst_of (fun ds M Φ Ψ h => ?_) (fun cdv A outer s H E hr ds M Φ Ψ h => ⟨_, (dss_one (ds_ret (de_max2 rfl (by rfl) T.z_max de_int (dv 0)))), ?_⟩) <;> (unfold sp_burst_of at h; split at h; rotate_left; exact h.elim)
  · rfl
  · rw [st_burst_of]
    walk_at "ev"
    exact h
theorem ok_theta_ways (T : Top P K mg) {B : Bx} : FnOk P w K mg base (L2N.CX P w) 1 T.f_theta_ways T.d_theta_ways ["theta"] (conc K B (sp_theta_ways T.C_Theta)) := by
  refine dfn T.F_theta_ways sc_theta_ways (fun ds M Φ Ψ h => ?_) (fun cdv A outer s H E hr ds M Φ Ψ h => ⟨_, (dss_cons (ds_par3 (i := 1) (j := 2) (l := 3) rfl sc_theta_ways.nd rfl rfl rfl (by decide) (by decide) (by decide) rfl rfl rfl (da_cons (de_fld (dv 0)) (da_cons (de_fld (dv 0)) (da_cons (de_fld (dv 0)) da_nil))))
      (dss_cons (ds_set (i := 4) sc_theta_ways.nd rfl (.inl rfl) (de_tup (da_cons (de_slT (dv 1) do_none (do_some de_int)) (da_cons (de_slT (dv 2) do_none (do_some de_int)) da_nil))))
      (dss_one (ds_ret (de_catT (dv 4) (de_tup (da_cons (de_catT (dv 1) (de_slT (dv 3) do_none (do_some de_int))) (da_cons (de_catT (dv 2) (de_slT (dv 3) do_none (do_some de_int))) (da_cons (de_catT (dv 3) (de_slT (dv 1) do_none (do_some de_int))) (da_cons (de_catT (dv 3) (de_slT (dv 2) do_none (do_some de_int))) da_nil)))))))))), ?_⟩) <;> (unfold sp_theta_ways at h; split at h; rotate_left; exact h.elim)
  · rfl
  · rename_i d
    obtain ⟨F, G, B', rfl, ⟨f0, f1, g0, g1, b0, b1, _⟩, h⟩ := h
    unfold thD
    have l1 : ∀ xs : List Int, (xs.take 1).length ≤ 1 := fun xs => by rw [List.length_take]; omega
    have lf := l1 F
    have lg := l1 G
    have lb := l1 B'
    unfold waysL at h
    simp only [List.map_cons, List.map_nil] at h
    rw [st_theta_ways]
    walk_at "st"
    refine ⟨⟨T.k_Theta, T.a_Theta_first⟩, ⟨T.k_Theta, T.a_Theta_second⟩, ⟨T.k_Theta, T.a_Theta_back⟩, ?_⟩
    walk_at "st"
    refine ⟨by decide, ?_⟩
    walk_at "ev"
    simp only [cut1, ← List.map_append, List.length_map]
    exact ⟨by omega, by omega, by omega, by omega, by decide, by decide, h⟩
theorem ok_theta_order (T : Top P K mg) {B : Bx} : FnOk P w K mg base (L2N.CX P w) 2 T.f_theta_order T.d_theta_order ["theta"] (conc K B (sp_theta_order T.C_Theta)) := by
  refine dfn T.F_theta_order sc_theta_order (fun ds M Φ Ψ h => ?_) (fun cdv A outer s H E hr ds M Φ Ψ h => ⟨_, (dss_cons (ds_set (i := 1) sc_theta_order.nd rfl (.inl rfl) (de_call ((ok_theta_ways T).mono (by first | decide | exact Nat.le_refl _)) hr (by rfl) T.g_theta_ways T.F_theta_ways.kp T.b_theta_ways (L2N.takes_of rfl rfl rfl rfl) (da_cons (dv 0) da_nil)))
      (dss_one (ds_ret (de_catT (de_catT (de_slT (dv 1) do_none (do_some de_int)) (de_tup (da_cons (de_slT (de_fld (dv 0)) do_none (do_some de_int)) da_nil))) (de_slT (dv 1) (do_some de_int) do_none))))), ?_⟩) <;> (unfold sp_theta_order at h; split at h; rotate_left; exact h.elim)
  · rfl
  · rename_i d
    obtain ⟨F, G, B', rfl, hT, h⟩ := h
    unfold orderL at h
    simp only [List.map_cons, List.map_nil] at h
    rw [st_theta_order]
    walk_at "st"
    refine ⟨F, G, B', rfl, hT, ?_⟩
    unfold waysL thD
    walk_at "ev"
    rw [cut1]
    exact ⟨⟨T.k_Theta, T.a_Theta_back⟩, by decide, Nat.le_of_ble_eq_true rfl, Nat.le_of_ble_eq_true rfl, h⟩
theorem ok_theta_streams (T : Top P K mg) {B : Bx} : FnOk P w K mg base (L2N.CX P w) 2 T.f_theta_streams T.d_theta_streams ["theta"] (conc K B (sp_theta_streams T.C_Theta)) := by
  refine dfn T.F_theta_streams sc_theta_streams (fun ds M Φ Ψ h => ?_) (fun cdv A outer s H E hr ds M Φ Ψ h => ⟨_, (dss_cons (ds_asg (de_call ((ok_theta_ways T).mono (by first | decide | exact Nat.le_refl _)) hr (by rfl) T.g_theta_ways T.F_theta_ways.kp T.b_theta_ways (L2N.takes_of rfl rfl rfl rfl) (da_cons (dv 0) da_nil)) (dg_tup rfl (dgs_cons (dg_name (i := 1) sc_theta_streams.nd rfl (.inl rfl)) (dgs_cons (dg_name (i := 2) sc_theta_streams.nd rfl (.inl rfl)) (dgs_cons (dg_name (i := 3) sc_theta_streams.nd rfl (.inl rfl)) (dgs_cons (dg_name (i := 4) sc_theta_streams.nd rfl (.inl rfl)) (dgs_cons (dg_name (i := 5) sc_theta_streams.nd rfl (.inl rfl)) (dgs_cons (dg_name (i := 6) sc_theta_streams.nd rfl (.inl rfl)) dgs_nil)))))) (fix_cons (fix_cons (fix_cons (fix_cons (fix_cons (fix_cons fix_nil))))))))
      (dss_cons (ds_par (i := 7) (j := 8) rfl sc_theta_streams.nd rfl rfl (by decide) rfl rfl (da_cons (de_len (by rfl) T.z_len (de_fld (dv 0))) (da_cons (de_min2 rfl (by rfl) T.z_min (de_len (by rfl) T.z_len (de_fld (dv 0))) (de_len (by rfl) T.z_len (de_fld (dv 0)))) da_nil)))
      (dss_one (ds_ret (de_tup (da_cons (de_tup (da_cons (dv 6) (da_cons (de_const (v := .ref T.N_NONE) (d := .tup [.int (0), .int (0), .int (0), .int (0), .int (0), .int (0)]) (by rfl) T.g_NONE rfl T.i_NONE) (da_cons (de_tup (da_cons de_int (da_cons de_int (da_cons de_int (da_cons de_int (da_cons de_int (da_cons de_int da_nil))))))) da_nil)))) (da_cons (de_tup (da_cons (dv 1) (da_cons (de_tup (da_cons (dv 7) (da_cons de_int (da_cons de_int (da_cons de_int (da_cons de_int (da_cons de_int da_nil))))))) (da_cons (de_tup (da_cons de_int (da_cons de_int (da_cons de_int (da_cons de_int (da_cons de_int (da_cons de_int da_nil))))))) da_nil)))) (da_cons (de_tup (da_cons (dv 3) (da_cons (de_tup (da_cons (dv 7) (da_cons de_int (da_cons de_int (da_cons de_int (da_cons de_int (da_cons de_int da_nil))))))) (da_cons (de_tup (da_cons de_int (da_cons de_int (da_cons de_int (da_cons de_int (da_cons de_int (da_cons de_int da_nil))))))) da_nil)))) (da_cons (de_tup (da_cons (dv 2) (da_cons (de_tup (da_cons (dv 7) (da_cons de_int (da_cons de_int (da_cons de_int (da_cons de_int (da_cons de_int da_nil))))))) (da_cons (de_tup (da_cons de_int (da_cons de_int (da_cons de_int (da_cons de_int (da_cons de_int (da_cons de_int da_nil))))))) da_nil)))) (da_cons (de_tup (da_cons (dv 1) (da_cons (de_tup (da_cons (dv 7) (da_cons de_int (da_cons de_int (da_cons de_int (da_cons de_int (da_cons de_int da_nil))))))) (da_cons (de_tup (da_cons de_int (da_cons de_int (da_cons de_int (da_cons de_int (da_cons de_int (da_cons de_int da_nil))))))) da_nil)))) (da_cons (de_tup (da_cons (dv 4) (da_cons (de_tup (da_cons (dv 7) (da_cons de_int (da_cons de_int (da_cons de_int (da_cons de_int (da_cons de_int da_nil))))))) (da_cons (de_tup (da_cons de_int (da_cons de_int (da_cons de_int (da_cons de_int (da_cons de_int (da_cons de_int da_nil))))))) da_nil)))) (da_cons (de_tup (da_cons (dv 5) (da_cons (de_tup (da_cons (de_add (dv 7) (dv 8)) (da_cons de_int (da_cons de_int (da_cons de_int (da_cons de_int (da_cons de_int da_nil))))))) (da_cons (de_tup (da_cons de_int (da_cons de_int (da_cons de_int (da_cons de_int (da_cons de_int (da_cons de_int da_nil))))))) da_nil)))) da_nil)))))))))))), ?_⟩) <;> (unfold sp_theta_streams at h; split at h; rotate_left; exact h.elim)
  · rfl
  · rename_i d
    obtain ⟨F, G, B', rfl, hT, h⟩ := h
    unfold stL at h
    simp only [List.map_cons, List.map_nil] at h
    rw [st_theta_streams]
    walk_at "st"
    refine ⟨F, G, B', rfl, hT, ?_⟩
    unfold waysL thD
    walk_at "ev"
    simp only [List.map_cons, List.map_nil]
    walk_at "ev"
    walk_at "st"
    refine ⟨⟨T.k_Theta, T.a_Theta_back⟩, ⟨T.k_Theta, T.a_Theta_first⟩, ⟨T.k_Theta, T.a_Theta_second⟩, ?_⟩
    walk_at "ev"
    repeat (refine ⟨by decide, ?_⟩)
    simp only [List.length_map]
    exact h
theorem ok_theta_plan (T : Top P K mg) {B : Bx} : FnOk P w K mg base (L2N.CX P w) 3 T.f_theta_plan T.d_theta_plan ["theta", "rate"] (conc K B (sp_theta_plan T.C_Plan T.C_Theta)) := by
  refine dfn T.F_theta_plan sc_theta_plan (fun ds M Φ Ψ h => ?_) (fun cdv A outer s H E hr ds M Φ Ψ h => ⟨_, (dss_cons (ds_par (i := 2) (j := 3) rfl sc_theta_plan.nd rfl rfl (by decide) rfl rfl (da_cons (de_len (by rfl) T.z_len (de_fld (dv 0))) (da_cons (de_len (by rfl) T.z_len (de_fld (dv 0))) da_nil)))
      (dss_cons (ds_set (i := 4) sc_theta_plan.nd rfl (.inl rfl) (de_tup (da_cons (de_add (de_len (by rfl) T.z_len (de_fld (dv 0))) (de_min2 rfl (by rfl) T.z_min (dv 2) (dv 3))) (da_cons de_int (da_cons de_int (da_cons de_int (da_cons de_int (da_cons de_int da_nil))))))))
      (dss_cons (ds_par (i := 5) (j := 6) rfl sc_theta_plan.nd rfl rfl (by decide) rfl rfl (da_cons (de_catT (de_fld (dv 0)) (de_slT (de_fld (dv 0)) do_none (do_some de_int))) (da_cons (de_call ((ok_theta_order T).mono (by first | decide | exact Nat.le_refl _)) hr (by rfl) T.g_theta_order T.F_theta_order.kp T.b_theta_order (L2N.takes_of rfl rfl rfl rfl) (da_cons (dv 0) da_nil)) da_nil)))
      (dss_one (ds_ret (de_make T.M_Plan ((ok_Plan_init T).mono (by first | decide | exact Nat.le_refl _)) hr (by rfl) T.g_Plan T.b_Plan_init .nil (fun _ => .nil) (L2N.takes_of rfl rfl rfl rfl) (da_cons (dv 1) (da_cons (dv 6) (da_cons (de_item (de_fld (dv 0)) de_int) (da_cons (dv 5) (da_cons (de_call ((ok_theta_streams T).mono (by first | decide | exact Nat.le_refl _)) hr (by rfl) T.g_theta_streams T.F_theta_streams.kp T.b_theta_streams (L2N.takes_of rfl rfl rfl rfl) (da_cons (dv 0) da_nil)) (da_cons (dv 4) (da_cons (de_max2 rfl (by rfl) T.z_max de_int (de_sub (dv 2) (dv 3))) (da_cons (de_abs (by rfl) T.z_abs (de_sub (dv 2) (dv 3))) da_nil)))))))))))))), ?_⟩) <;> (unfold sp_theta_plan at h; split at h; rotate_left; exact h.elim)
  · rfl
  · rename_i d p q
    obtain ⟨F, G, B', rfl, hT, hp, h⟩ := h
    have hT' := hT
    obtain ⟨f0, f1, g0, g1, b0, b1, _⟩ := hT'
    have l1 : (F.take 1).length ≤ 1 := by rw [List.length_take]; omega
    obtain ⟨b, bs, rfl⟩ := List.exists_cons_of_length_pos b0
    rw [st_theta_plan]
    unfold thD
    walk_at "st"
    refine ⟨⟨T.k_Theta, T.a_Theta_first⟩, ⟨T.k_Theta, T.a_Theta_second⟩, ?_⟩
    walk_at "st"
    refine ⟨⟨T.k_Theta, T.a_Theta_back⟩, by decide, ?_⟩
    walk_at "st"
    refine ⟨⟨T.k_Theta, T.a_Theta_back⟩, ⟨T.k_Theta, T.a_Theta_first⟩, ?_⟩
    simp only [cut1, ← List.map_append, List.length_map]
    refine ⟨?_, F, G, b :: bs, rfl, hT, ⟨T.k_Theta, T.a_Theta_back⟩, ?_⟩
    · omega
    · walk_at "ev"
      exact ⟨F, G, b :: bs, rfl, hT, fun x => ⟨M, rfl, trivial, _, _, _, .here, h⟩⟩

theorem ok__law_divisor33 (T : Top P K mg) {B : Bx} : FnOk P w K mg base (L2N.CX P w) 1 T.f__law_divisor T.d__law_divisor ["one", "other"] (conc K B sp_divisor33) := by
  refine dfn T.F__law_divisor sc__law_divisor (fun ds M Φ Ψ h => ?_) (fun cdv A outer s H E hr ds M Φ Ψ h => ⟨_, (dss_cons (ds_for (passes_of rfl) rfl (di_rng1 (by rfl) T.z_range (da_cons de_int da_nil)) (dg_name (i := 2) sc__law_divisor.nd rfl (.inl rfl))
        (dss_cons (ds_if (dt_eq hr (dv 1) de_int)
            (dss_one (ds_ret (dv 0)))
            dss_nil)
          (dss_one (ds_par (i := 0) (j := 1) rfl sc__law_divisor.nd rfl rfl (by decide) rfl rfl (da_cons (dv 1) (da_cons (de_mod (de_callInt (by rfl) T.z_int (dv 0)) (dv 1)) da_nil))))))
      (dss_one (ds_ret (dv 0)))), ?_⟩) <;> (unfold sp_divisor33 at h; split at h; rotate_left; exact h.elim)
  · rfl
  · rename_i a b
    obtain ⟨⟨ha, hb, hb2⟩, h⟩ := h
    rw [st__law_divisor]
    refine aSeq_step ?_
    refine aFor_rng 0 60 (fun i Γ' M' => ∃ (x y : Int) (t : Option D), Γ' = [some (.int x), some (.int y), t] ∧ M' = M ∧ 0 ≤ x ∧ 0 ≤ y ∧ gcdI x y = gcdI a b ∧ ((i = 0 ∧ x = a ∧ y = b) ∨ (0 < i ∧ y < x ∧ x * y * 2 ^ (i - 1) ≤ b * b))) (fun Φ' q => ?_) ⟨a, b, _, rfl, rfl, ha, hb, rfl, .inl ⟨rfl, rfl, rfl⟩⟩ ?_ ?_
    · walk_at "ev"
      exact ⟨⟨by decide, by decide⟩, q⟩
    · rintro i Γ' M' hi ⟨x, y, t, rfl, rfl, hx, hy, he, hz⟩
      refine ⟨_, rfl, ?_⟩
      have fin0 : y = 0 → Φ (D.int x) M' := fun e => by
        subst e
        have e2 : gcdI x 0 = x := by
          unfold gcdI
          rw [Int.gcd_zero_right]
          omega
        rw [e2] at he
        rw [he]
        exact h
      walk_at "st"
      refine ⟨fun z => fin0 (of_decide_eq_true z), fun z => ?_⟩
      have z := of_decide_eq_false z
      have y0 : 0 < y := by omega
      have m0 := Int.emod_nonneg x z
      refine ⟨y0, _, _, _, rfl, rfl, hy, m0, (gcd_step y0).trans he, .inr ⟨Nat.succ_pos i, ?_⟩⟩
      rcases hz with ⟨rfl, rfl, rfl⟩ | ⟨i0, hxy, hz⟩
      · have m1 := Int.emod_lt_of_pos x y0
        refine ⟨m1, ?_⟩
        show y * (x % y) * 1 ≤ y * y
        rw [Int.mul_one]
        exact Int.mul_le_mul_of_nonneg_left (by omega) (by omega)
      · exact euclid_step y0 hxy i0 hz
    · rintro Γ' M' ⟨x, y, t, rfl, rfl, hx, hy, he, hz⟩
      have y0 : y = 0 := by
        rcases hz with ⟨z, _⟩ | ⟨_, hxy, hz⟩
        · exact absurd z (by decide)
        · rcases Int.lt_or_eq_of_le hy with q | q
          · exfalso
            have a1 : 1 * 1 ≤ x * y := Int.mul_le_mul (by omega) (by omega) (by decide) (by omega)
            have a2 : 1 * 2 ^ (60 - 1) ≤ x * y * (2 : Int) ^ (60 - 1) := Int.mul_le_mul_of_nonneg_right (by omega) (Int.le_of_lt (Int.pow_pos (by decide)))
            have a3 : b * b ≤ 1000 * 1000 := Int.mul_le_mul hb2 hb2 hb (by decide)
            have a4 : (1000 * 1000 : Int) < 1 * 2 ^ (60 - 1) := by decide +kernel
            omega
          · exact q.symm
      subst y0
      have e2 : gcdI x 0 = x := by
        unfold gcdI
        rw [Int.gcd_zero_right]
        omega
      rw [e2] at he
      rw [← he] at h
      walk_at "ev"
      exact h
theorem map_erase {α β : Type} (f : α → β) : ∀ (xs : List α) (k : Nat), (xs.eraseIdx k).map f = (xs.map f).eraseIdx k
  | [], _ => rfl
  | _ :: _, 0 => rfl
  | x :: xs, k + 1 => by
    show f x :: (xs.eraseIdx k).map f = f x :: (xs.map f).eraseIdx k
    rw [map_erase f xs k]
theorem erase_perm {α : Type} : ∀ {xs : List α} {k : Nat} (h : k < xs.length), (xs[k] :: xs.eraseIdx k).Perm xs
  | x :: xs, 0, _ => .refl _
  | x :: xs, k + 1, h => by
    have hk : k < xs.length := Nat.lt_of_succ_lt_succ h
    show (xs[k] :: x :: xs.eraseIdx k).Perm (x :: xs)
    exact (List.Perm.swap x xs[k] _).trans ((erase_perm hk).cons x)
theorem ok__law_mixed (T : Top P K mg) (h c : Addr) {B : Bx} : FnOk P w K mg base (L2N.CX P w) 2 T.f__law_mixed T.d__law_mixed ["heap", "some"] (conc K (bxAnd (bxHeap h c) B) (sp__law_mixed h)) := by
  refine dfn T.F__law_mixed sc__law_mixed (fun ds M Φ Ψ h => ?_) (fun cdv A outer s H E hr ds M Φ Ψ hh => ⟨_, (dss_cons (ds_par (i := 2) (j := 3) rfl sc__law_mixed.nd rfl rfl (by decide) rfl rfl (da_cons (de_listOfM (by rfl) T.z_list (dv 1)) (da_cons (de_lstM da_nil) da_nil)))
      (dss_cons (ds_for (passes_of rfl) rfl (di_rng1 (by rfl) T.z_range (da_cons (de_len (by rfl) T.z_len (dv 1)) da_nil)) (dg_name (i := 4) sc__law_mixed.nd rfl (.inl rfl))
        (dss_one (ds_expr (de_app (dv 3) (de_popAt (dv 2) (de_call ((ok__law_draw_box T h c).mono (by first | decide | exact Nat.le_refl _)) hr (by rfl) T.g__law_draw T.F__law_draw.kp T.b__law_draw (L2N.takes_of rfl rfl rfl rfl) (da_cons (dv 0) (da_cons (de_len (by rfl) T.z_len (dv 2)) da_nil))))))))
      (dss_one (ds_gh (ds_ret (de_tupleOf (by rfl) T.z_tuple (dv 3))))))), ?_⟩) <;> (first | (unfold sp__law_mixed at h; split at h; rotate_left; exact h.elim) | (unfold sp__law_mixed at hh; split at hh; rotate_left; exact hh.elim))
  · rfl
  · rename_i h' xs
    obtain ⟨rfl, ns, rfl, hl, hq⟩ := hh
    rw [st__law_mixed]
    walk_at "st"
    refine fun a => ⟨by decide, fun b => ?_⟩
    refine aSeq_step ?_
    refine aFor_rng 0 ns.length (fun i Γ' M' => ∃ ys zs x, Γ' = [some (.ref h'), some (.lst (ns.map D.int)), some (.ref a), some (.ref b), x] ∧ M' = (b, .lst (ys.map D.int)) :: (a, .lst (zs.map D.int)) :: M ∧ (ys ++ zs).Perm ns ∧ ys.length = i) (fun Φ' q => ?_) ⟨[], ns, _, rfl, rfl, .refl _, rfl⟩ ?_ ?_
    · walk_at "ev"
      rw [List.length_map]
      exact ⟨by omega, q⟩
    · rintro i Γ' M' hi ⟨ys, zs, x, rfl, rfl, pm, ly⟩
      refine ⟨_, rfl, ?_⟩
      have el := pm.length_eq
      rw [List.length_append] at el
      walk_at "ev"
      refine ⟨⟨_, .head _⟩, ⟨_, .tail _ (.head _)⟩, _, .tail _ (.head _), rfl, ?_, fun r r0 r1 => ?_⟩
      · rw [List.length_map]
        exact divOk_of (by omega) (by omega)
      rw [List.length_map] at r1
      have hk : r.toNat < zs.length := by omega
      refine ⟨_, r.toNat, .int zs[r.toNat], _, .there .here, ⟨by omega, by omega⟩, PySem.StrLaws.seqIndex_nonneg r0 (by rw [List.length_map]; omega), ?_, _, _, .here, ?_, ys ++ [zs[r.toNat]], zs.eraseIdx r.toNat, _, rfl, ?_, ?_, ?_⟩
      · rw [List.getElem?_map, List.getElem?_eq_getElem hk]
        rfl
      · rw [List.length_map]
        omega
      · rw [List.map_append, map_erase]
        rfl
      · rw [List.append_assoc]
        exact ((erase_perm hk).append_left ys).trans pm
      · rw [List.length_append, ly]
        rfl
    · rintro Γ' M' ⟨ys, zs, x, rfl, rfl, pm, ly⟩
      have el := pm.length_eq
      rw [List.length_append] at el
      obtain rfl : zs = [] := List.eq_nil_of_length_eq_zero (by omega)
      rw [List.append_nil] at pm
      refine ⟨_, _, .lst 3 rfl .here (.lst 2 rfl .here .refl), ?_⟩
      walk_at "ev"
      exact hq ys pm
theorem rp_low {t b : Int} (h0 : 1 ≤ t) (h1 : t < b) (h2 : b ≤ 1000) : 0 < gcdI t b ∧ gcdI t b ≤ 1000 ∧ RP (t / gcdI t b) (b / gcdI t b) := by
  have g0 : 0 < gcdI t b := by
    have := Int.gcd_pos_of_ne_zero_right t (show b ≠ 0 by omega)
    unfold gcdI
    omega
  have gb : gcdI t b ≤ b := Int.le_of_dvd (by omega) (Int.gcd_dvd_right t b)
  have et : gcdI t b * (t / gcdI t b) = t := Int.mul_ediv_cancel' (Int.gcd_dvd_left t b)
  have eb : gcdI t b * (b / gcdI t b) = b := Int.mul_ediv_cancel' (Int.gcd_dvd_right t b)
  refine ⟨g0, by omega, ?_⟩
  generalize t / gcdI t b = x at *
  generalize b / gcdI t b = y at *
  generalize gcdI t b = g at *
  have x0 : 0 < x := by
    rcases Int.lt_or_le 0 x with z | z
    · exact z
    · have := Int.mul_nonpos_of_nonneg_of_nonpos (show 0 ≤ g by omega) z
      omega
  have xy : x < y := Int.lt_of_mul_lt_mul_left (a := g) (by omega) (by omega)
  have yb : 1 * y ≤ g * y := Int.mul_le_mul_of_nonneg_right (by omega) (by omega)
  exact ⟨by omega, xy, by omega⟩
theorem ok__law_rate (T : Top P K mg) (h c : Addr) {B : Bx} : FnOk P w K mg base (L2N.CX P w) 3 T.f__law_rate T.d__law_rate ["heap", "least"] (conc K (bxAnd (bxHeap h c) B) (sp_rate30 h)) := by
  refine dfn T.F__law_rate sc__law_rate (fun ds M Φ Ψ h => ?_) (fun cdv A outer s H E hr ds M Φ Ψ hh => ⟨_, (dss_cons (ds_set (i := 2) sc__law_rate.nd rfl (.inl rfl) (de_call ((ok__law_pick T h c).mono (by first | decide | exact Nat.le_refl _)) hr (by rfl) T.g__law_pick T.F__law_pick.kp T.b__law_pick (L2N.takes_of rfl rfl rfl rfl) (da_cons (dv 0) (da_cons (de_lst (da_cons de_int (da_cons de_int (da_cons de_int (da_cons de_int (da_cons de_int (da_cons de_int (da_cons de_int (da_cons de_int (da_cons (de_add de_int (de_call ((ok__law_draw_box T h c).mono (by first | decide | exact Nat.le_refl _)) hr (by rfl) T.g__law_draw T.F__law_draw.kp T.b__law_draw (L2N.takes_of rfl rfl rfl rfl) (da_cons (dv 0) (da_cons de_int da_nil)))) (da_cons de_int da_nil))))))))))) da_nil))))
      (dss_cons (ds_set (i := 3) sc__law_rate.nd rfl (.inl rfl) (de_call ((ok__law_pick T h c).mono (by first | decide | exact Nat.le_refl _)) hr (by rfl) T.g__law_pick T.F__law_pick.kp T.b__law_pick (L2N.takes_of rfl rfl rfl rfl) (da_cons (dv 0) (da_cons (de_lst (da_cons de_int (da_cons (de_sub (dv 2) de_int) (da_cons (de_add de_int (de_call ((ok__law_draw_box T h c).mono (by first | decide | exact Nat.le_refl _)) hr (by rfl) T.g__law_draw T.F__law_draw.kp T.b__law_draw (L2N.takes_of rfl rfl rfl rfl) (da_cons (dv 0) (da_cons (de_sub (dv 2) de_int) da_nil)))) (da_cons (de_max2 rfl (by rfl) T.z_max de_int (de_sub (de_sub (dv 2) de_int) (de_call ((ok__law_draw_box T h c).mono (by first | decide | exact Nat.le_refl _)) hr (by rfl) T.g__law_draw T.F__law_draw.kp T.b__law_draw (L2N.takes_of rfl rfl rfl rfl) (da_cons (dv 0) (da_cons (de_add de_int (de_div (dv 2) de_int)) da_nil))))) da_nil))))) da_nil))))
      (dss_cons (ds_if (dt_lt (de_mul (dv 3) de_int) (de_mul (dv 1) (dv 2)))
        (dss_one (ds_par (i := 3) (j := 2) rfl sc__law_rate.nd rfl rfl (by decide) rfl rfl (da_cons (dv 1) (da_cons de_int da_nil))))
        dss_nil)
      (dss_cons (ds_set (i := 4) sc__law_rate.nd rfl (.inl rfl) (de_call ((ok__law_divisor33 T).mono (by first | decide | exact Nat.le_refl _)) hr (by rfl) T.g__law_divisor T.F__law_divisor.kp T.b__law_divisor (L2N.takes_of rfl rfl rfl rfl) (da_cons (dv 3) (da_cons (dv 2) da_nil))))
      (dss_one (ds_ret (de_tup (da_cons (de_div (dv 3) (dv 4)) (da_cons (de_div (dv 2) (dv 4)) da_nil))))))))), ?_⟩) <;> (first | (unfold sp_rate30 at h; split at h; rotate_left; exact h.elim) | (unfold sp_rate30 at hh; split at hh; rotate_left; exact hh.elim))
  · rfl
  · rename_i h' l
    obtain ⟨rfl, rfl, hq⟩ := hh
    rw [st__law_rate]
    walk_at "st"
    refine ⟨rfl, by walk_at "ok", fun r r0 r1 => ⟨by decide, rfl, by decide, pick_as (emb := D.int) (R := fun x => 2 ≤ x ∧ x ≤ 1000) (by walk_at "mem") fun b ⟨b0, b1⟩ => ?_⟩⟩
    walk_at "st"
    refine ⟨rfl, divOk_of (by omega) (by omega), fun r r0 r1 => ⟨divOk_of (by decide) (by decide), rfl, divOk_of (by omega) (by omega), fun r' r0' r1' => ⟨by decide, rfl, by decide, pick_as (emb := D.int) (R := fun x => 1 ≤ x ∧ x ≤ b - 1) (by walk_at "mem") fun t ⟨t0, t1⟩ => ?_⟩⟩⟩
    obtain ⟨g0, g1, hrp⟩ := rp_low t0 (show t < b by omega) b1
    walk_at "st"
    refine ⟨.inl ⟨by omega, by omega⟩, .inl ⟨by decide, by decide⟩, fun z => by have := of_decide_eq_true z; omega, fun _ => ?_⟩
    walk_at "st"
    refine ⟨⟨by omega, by omega, by omega⟩, ?_⟩
    walk_at "ev"
    exact ⟨divOk_of (by omega) (by omega), divOk_of (by omega) (by omega), by decide, hq _ _ hrp⟩
theorem cut_mid {xs : List Int} {i j : Int} (h0 : 0 ≤ i) (h1 : i ≤ j) (h2 : j ≤ xs.length) : cutD (xs.map D.int) (some i) (some j) = ((xs.drop i.toNat).take (j - i).toNat).map D.int := by
  obtain ⟨a, rfl⟩ := Int.eq_ofNat_of_zero_le h0
  obtain ⟨b, rfl⟩ := Int.eq_ofNat_of_zero_le (Int.le_trans h0 h1)
  unfold cutD
  rw [HT.sIx_nat, HT.sIx_nat, List.length_map, ← List.map_drop, ← List.map_take]
  rw [show min a xs.length = a by omega, show min b xs.length = b by omega, show ((b : Int) - (a : Int)).toNat = b - a by omega, Int.toNat_natCast]
theorem th_of {ys : List Int} {n : Nat} {a b c : Int} (pm : ys.Perm (rngI 0 n)) (ha : 1 ≤ a ∧ a ≤ 20) (hb : 1 ≤ b ∧ b ≤ 20) (hc : 1 ≤ c ∧ c ≤ 20) (hn : a + b + c ≤ n) :
    Th (ys.take a.toNat) ((ys.drop a.toNat).take b.toNat) ((ys.drop (a + b).toNat).take c.toNat) := by
  have el : ys.length = n := by
    rw [pm.length_eq]
    exact rngI_len _ _
  have nr : (rngI 0 n).Nodup := by
    unfold rngI
    refine List.pairwise_map.mpr (List.Pairwise.imp (fun {x y} h e => h ?_) List.nodup_range)
    omega
  have nd := pm.nodup_iff.mpr nr
  have e : ys.take a.toNat ++ ((ys.drop a.toNat).take b.toNat ++ (ys.drop (a + b).toNat).take c.toNat) = ys.take (a.toNat + (b.toNat + c.toNat)) := by
    rw [List.take_add, List.take_add, List.drop_drop, show (a + b).toNat = a.toNat + b.toNat by omega]
  refine ⟨?_, ?_, ?_, ?_, ?_, ?_, ?_⟩
  · rw [List.length_take]; omega
  · rw [List.length_take]; omega
  · rw [List.length_take, List.length_drop]; omega
  · rw [List.length_take, List.length_drop]; omega
  · rw [List.length_take, List.length_drop]; omega
  · rw [List.length_take, List.length_drop]; omega
  · rw [e]
    exact nd.sublist (List.take_sublist _ _)
theorem ok__law_theta (T : Top P K mg) (h c : Addr) {B : Bx} : FnOk P w K mg base (L2N.CX P w) 3 T.f__law_theta T.d__law_theta ["heap"] (conc K (bxAnd (bxHeap h c) B) (sp__law_theta h)) := by
  refine dfn T.F__law_theta sc__law_theta (fun ds M Φ Ψ h => ?_) (fun cdv A outer s H E hr ds M Φ Ψ hh => ⟨_, (dss_cons (ds_setLc (i := 1) (own := [("turn", 2)]) rfl sc__law_theta.nd rfl rfl (sw_true rfl rfl rfl (by decide +kernel)) (di_rng1 (by rfl) T.z_range (da_cons de_int da_nil)) (blkOk_by (N := n__law_theta) (sc := defScope s__law_theta) (by decide +kernel)) (fun _ _ _ _ _ => (dg_name (i := 2) sc__law_theta.nd rfl (.inl rfl))) (fun _ _ _ _ _ => dts_nil) (fun _ _ _ _ _ => (de_call ((ok__law_pick T h c).mono (by first | decide | exact Nat.le_refl _)) hr (by rfl) T.g__law_pick T.F__law_pick.kp T.b__law_pick tk_calm (da_cons (dv 0) (da_cons (de_lst (da_cons de_int (da_cons de_int (da_cons de_int (da_cons de_int (da_cons (de_add de_int (de_call ((ok__law_draw_box T h c).mono (by first | decide | exact Nat.le_refl _)) hr (by rfl) T.g__law_draw T.F__law_draw.kp T.b__law_draw tk_calm (da_cons (dv 0) (da_cons de_int da_nil)))) (da_cons (de_add de_int (de_call ((ok__law_draw_box T h c).mono (by first | decide | exact Nat.le_refl _)) hr (by rfl) T.g__law_draw T.F__law_draw.kp T.b__law_draw tk_calm (da_cons (dv 0) (da_cons de_int da_nil)))) da_nil))))))) da_nil)))))
      (dss_cons (ds_set (i := 3) sc__law_theta.nd rfl (.inl rfl) (de_call ((ok__law_mixed T h c).mono (by first | decide | exact Nat.le_refl _)) hr (by rfl) T.g__law_mixed T.F__law_mixed.kp T.b__law_mixed (L2N.takes_of rfl rfl rfl rfl) (da_cons (dv 0) (da_cons (de_listRg1 rfl (by rfl) T.z_list (by rfl) T.z_range (de_add (de_sum rfl (by rfl) T.z_sum (dv 1)) (de_call ((ok__law_draw_box T h c).mono (by first | decide | exact Nat.le_refl _)) hr (by rfl) T.g__law_draw T.F__law_draw.kp T.b__law_draw (L2N.takes_of rfl rfl rfl rfl) (da_cons (dv 0) (da_cons de_int da_nil))))) da_nil))))
      (dss_cons (ds_par (i := 4) (j := 5) rfl sc__law_theta.nd rfl rfl (by decide) rfl rfl (da_cons (de_slT (dv 3) do_none (do_some (de_item (dv 1) de_int))) (da_cons (de_slT (dv 3) (do_some (de_item (dv 1) de_int)) (do_some (de_add (de_item (dv 1) de_int) (de_item (dv 1) de_int)))) da_nil)))
      (dss_one (ds_ret (de_tup (da_cons (dv 4) (da_cons (dv 5) (da_cons (de_slT (dv 3) (do_some (de_add (de_item (dv 1) de_int) (de_item (dv 1) de_int))) (do_some (de_sum rfl (by rfl) T.z_sum (dv 1)))) da_nil))))))))), ?_⟩) <;> (first | (unfold sp__law_theta at h; split at h; rotate_left; exact h.elim) | (unfold sp__law_theta at hh; split at hh; rotate_left; exact hh.elim))
  · rfl
  · rename_i h'
    obtain ⟨rfl, hq⟩ := hh
    rw [st__law_theta]
    walk_at "st"
    refine aLc_any (rngI 0 3) D.int (fun x : Int => 1 ≤ x ∧ x ≤ 20) D.int (fun Φ' qq => ?_) (by decide) (fun x hx M' => ⟨[some (.ref h'), none, some (.int x), none, none, none], rfl, fun Φ' qq => ?_⟩) (fun ys hy hR => ?_)
    · walk_at "ev"
      exact ⟨⟨by decide, by decide⟩, qq⟩
    · walk_at "ev"
      exact ⟨rfl, by walk_at "ok", fun r r0 r1 => ⟨rfl, by walk_at "ok", fun r' r0' r1' => ⟨by decide, rfl, by decide, pick_as (emb := D.int) (R := fun x => 1 ≤ x ∧ x ≤ 20) (by walk_at "mem") fun y hy => qq y hy⟩⟩⟩
    match ys, hy with
    | [a, b, c'], _ =>
      have ha : 1 ≤ a ∧ a ≤ 20 := hR a (by simp)
      have hb : 1 ≤ b ∧ b ≤ 20 := hR b (by simp)
      have hc : 1 ≤ c' ∧ c' ≤ 20 := hR c' (by simp)
      have s3 : ([a, b, c'] : List Int).sum = a + b + c' := by simp; omega
      walk_at "st"
      refine ⟨[a, b, c'], rfl, rfl, by walk_at "ok", fun r r0 r1 => ⟨.of_le (by decide) (by rw [s3]; omega) (by decide) (by rw [s3]; omega), rfl, rngI 0 (([a, b, c'] : List Int).sum + r).toNat, rngD_eq _ _, ?_, fun ys pm => ?_⟩⟩
      · rw [rngI_len, s3]
        omega
      have el := pm.length_eq
      rw [rngI_len] at el
      have hth := th_of pm ha hb hc (by rw [s3]; omega)
      walk_at "st"
      simp only [List.map_cons, List.map_nil]
      walk_at "ev"
      refine ⟨[a, b, c'], rfl, by decide, ?_⟩
      rw [cutD_take (show 0 ≤ a by omega), cut_mid (show 0 ≤ a by omega) (show a ≤ a + b by omega) (by omega), cut_mid (show 0 ≤ a + b by omega) (by omega) (by omega), ← List.map_take, s3, show (a + b - a).toNat = b.toNat by omega, show (a + b + c' - (a + b)).toNat = c'.toNat by omega]
      exact hq _ _ _ hth
theorem ok__law_counts (T : Top P K mg) {B : Bx} : FnOk P w K mg base (L2N.CX P w) 1 T.f__law_counts T.d__law_counts ["rate", "first", "second", "s"] (conc K B sp__law_counts) := by
  refine dfn T.F__law_counts sc__law_counts (fun ds M Φ Ψ h => ?_) (fun cdv A outer s H E hr ds M Φ Ψ h => ⟨_, (dss_cons (ds_asg (dv 0) (dg_tup rfl (dgs_cons (dg_name (i := 4) sc__law_counts.nd rfl (.inl rfl)) (dgs_cons (dg_name (i := 5) sc__law_counts.nd rfl (.inl rfl)) dgs_nil)) (fix_cons (fix_cons fix_nil))))
      (dss_cons (ds_set (i := 6) sc__law_counts.nd rfl (.inl rfl) (de_div (de_mul (dv 4) (dv 3)) (dv 5)))
      (dss_cons (ds_set (i := 7) sc__law_counts.nd rfl (.inl rfl) (de_div (de_mul (dv 4) (dv 6)) (dv 5)))
      (dss_cons (ds_set (i := 8) sc__law_counts.nd rfl (.inl rfl) (de_div (de_mul (dv 4) (dv 7)) (dv 5)))
      (dss_cons (ds_set (i := 9) sc__law_counts.nd rfl (.inl rfl) de_int)
      (dss_cons (ds_for (passes_of rfl) rfl (di_rng2 (by rfl) T.z_range (da_cons (de_max2 rfl (by rfl) T.z_max de_int (de_sub (dv 7) (de_max2 rfl (by rfl) T.z_max de_int (de_sub (de_len (by rfl) T.z_len (dv 1)) (de_len (by rfl) T.z_len (dv 2)))))) (da_cons (dv 7) da_nil))) (dg_name (i := 10) sc__law_counts.nd rfl (.inl rfl))
        (dss_one (ds_if (dt_lt (de_add (de_mod (de_callInt (by rfl) T.z_int (de_mul (dv 4) (dv 10))) (dv 5)) (dv 4)) (dv 5))
            (dss_one (ds_set (i := 9) sc__law_counts.nd rfl (.inl rfl) (de_add (dv 9) de_int)))
            dss_nil)))
      (dss_one (ds_ret (de_tup (da_cons (dv 6) (da_cons (dv 7) (da_cons (dv 8) (da_cons (dv 9) da_nil))))))))))))), ?_⟩) <;> (unfold sp__law_counts at h; split at h; rotate_left; exact h.elim)
  · rfl
  · rename_i p q xs ys s
    obtain ⟨F, G, rfl, rfl, ⟨f1, g1⟩, hp, ⟨s0, s1⟩, h⟩ := h
    have hp' := hp
    unfold RP at hp'
    have y0 := fl_nn hp s0
    have y1 := fl_le hp s0
    have z0 := fl_nn hp y0
    have z1 := fl_le hp y0
    have dq : ∀ a, DivOk a q := fun a => divOk_of (by omega) (by omega)
    have mp : ∀ a, MulOk p a := fun a => .inl ⟨by omega, by omega⟩
    rw [st__law_counts]
    walk_at "st"
    walk_at "st"
    refine ⟨mp _, dq _, ?_⟩
    walk_at "st"
    refine ⟨mp _, dq _, ?_⟩
    walk_at "st"
    refine ⟨mp _, dq _, ?_⟩
    walk_at "st"
    refine aSeq_step ?_
    have z0' : 0 ≤ zI p q s := z0
    have z1' : zI p q s ≤ p * s / q := z1
    have d0 : 0 ≤ dI F G ∧ dI F G ≤ 20 := by unfold dI; omega
    refine aFor_rng (max 0 (zI p q s - dI F G)) (zI p q s - max 0 (zI p q s - dI F G)).toNat (fun i Γ' M' => ∃ x, Γ' = [some (.tup [.int p, .int q]), some (.tup (F.map D.int)), some (.tup (G.map D.int)), some (.int s), some (.int p), some (.int q), some (.int (yI p q s)), some (.int (zI p q s)), some (.int (u3 p q s)), some (.int ((i : Nat) - (p * (max 0 (zI p q s - dI F G) + (i : Nat)) / q - p * max 0 (zI p q s - dI F G) / q))), x] ∧ M' = M) (fun Φ' q' => ?_) ⟨none, ?_, rfl⟩ ?_ ?_
    · walk_at "ev"
      rw [List.length_map, List.length_map]
      exact ⟨⟨by omega, by omega, by omega, by omega⟩, q'⟩
    · rw [show max 0 (zI p q s - dI F G) + ((0 : Nat) : Int) = max 0 (zI p q s - dI F G) by omega, Int.sub_self]
      rfl
    · rintro i Γ' M' hi ⟨x, rfl, rfl⟩
      refine ⟨_, rfl, ?_⟩
      have fn := fl_next (a := max 0 (zI p q s - dI F G) + (i : Nat)) hp
      walk_at "ev"
      refine ⟨mp _, by walk_at "ok", fun z => ?_, fun z => ?_⟩
      · rw [if_pos (of_decide_eq_true z)] at fn
        refine ⟨some (.int (max 0 (zI p q s - dI F G) + (i : Nat))), ?_, rfl⟩
        rw [show max 0 (zI p q s - dI F G) + ((i + 1 : Nat) : Int) = max 0 (zI p q s - dI F G) + (i : Nat) + 1 by omega, fn, show ((i + 1 : Nat) : Int) - (p * (max 0 (zI p q s - dI F G) + (i : Nat)) / q + 0 - p * max 0 (zI p q s - dI F G) / q) = (i : Nat) - (p * (max 0 (zI p q s - dI F G) + (i : Nat)) / q - p * max 0 (zI p q s - dI F G) / q) + 1 by omega]
      · rw [if_neg (of_decide_eq_false z)] at fn
        refine ⟨some (.int (max 0 (zI p q s - dI F G) + (i : Nat))), ?_, rfl⟩
        rw [show max 0 (zI p q s - dI F G) + ((i + 1 : Nat) : Int) = max 0 (zI p q s - dI F G) + (i : Nat) + 1 by omega, fn, show ((i + 1 : Nat) : Int) - (p * (max 0 (zI p q s - dI F G) + (i : Nat)) / q + 1 - p * max 0 (zI p q s - dI F G) / q) = (i : Nat) - (p * (max 0 (zI p q s - dI F G) + (i : Nat)) / q - p * max 0 (zI p q s - dI F G) / q) by omega]
    · rintro Γ' M' ⟨x, rfl, rfl⟩
      walk_at "ev"
      refine ⟨by decide, ?_⟩
      have e : hI F G p q s = ((zI p q s - max 0 (zI p q s - dI F G)).toNat : Int) - (p * (max 0 (zI p q s - dI F G) + ((zI p q s - max 0 (zI p q s - dI F G)).toNat : Int)) / q - p * max 0 (zI p q s - dI F G) / q) := by
        unfold hI lateI
        rw [show zI p q s - min (dI F G) (zI p q s) = max 0 (zI p q s - dI F G) by omega, show max 0 (zI p q s - dI F G) + ((zI p q s - max 0 (zI p q s - dI F G)).toNat : Int) = zI p q s by omega]
        omega
      rw [← e]
      exact h

theorem onGm_go {o : Option Gm} {Γ' : Gm} {k : Gm → Prop} (h : o = some Γ') (q : k Γ') : onGm o k := by
  subst h
  exact q
theorem aSeq_cut {t u : AS} {A : AEnds} {Γ : Gm} {M : Mm} (Γ' : Gm) (M' : Mm) (h : ∀ k : Gm → Mm → Prop, k Γ' M' → t { A with nx := k } Γ M) (q : u A Γ' M') : aSeq t u A Γ M := h _ q
theorem ok__law_spans (T : Top P K mg) {B : Bx} : FnOk P w K mg base (L2N.CX P w) 2 T.f__law_spans T.d__law_spans ["rate", "rows", "begin", "s"] (conc K B sp__law_spans) := by
  refine dfn T.F__law_spans sc__law_spans (fun ds M Φ Ψ h => ?_) (fun cdv A outer s H E hr ds M Φ Ψ h => ⟨_, (dss_cons (ds_asg (dv 1) (dg_tup rfl (dgs_cons (dg_name (i := 4) sc__law_spans.nd rfl (.inl rfl)) (dgs_cons (dg_name (i := 5) sc__law_spans.nd rfl (.inl rfl)) (dgs_cons (dg_name (i := 6) sc__law_spans.nd rfl (.inl rfl)) dgs_nil))) (fix_cons (fix_cons (fix_cons fix_nil)))))
      (dss_cons (ds_asg (de_call ((ok__law_counts T).mono (by first | decide | exact Nat.le_refl _)) hr (by rfl) T.g__law_counts T.F__law_counts.kp T.b__law_counts (L2N.takes_of rfl rfl rfl rfl) (da_cons (dv 0) (da_cons (dv 4) (da_cons (dv 5) (da_cons (dv 3) da_nil))))) (dg_tup rfl (dgs_cons (dg_name (i := 7) sc__law_spans.nd rfl (.inl rfl)) (dgs_cons (dg_name (i := 8) sc__law_spans.nd rfl (.inl rfl)) (dgs_cons (dg_name (i := 9) sc__law_spans.nd rfl (.inl rfl)) (dgs_cons (dg_name (i := 10) sc__law_spans.nd rfl (.inl rfl)) dgs_nil)))) (fix_cons (fix_cons (fix_cons (fix_cons fix_nil))))))
      (dss_cons (ds_par3 (i := 11) (j := 12) (l := 13) rfl sc__law_spans.nd rfl rfl rfl (by decide) (by decide) (by decide) rfl rfl rfl (da_cons (de_item (dv 4) de_int) (da_cons (de_item (dv 5) de_int) (da_cons (de_item (dv 6) de_int) da_nil))))
      (dss_cons (ds_set (i := 14) sc__law_spans.nd rfl (.inl rfl) (de_add (de_add (dv 2) (de_len (by rfl) T.z_len (dv 6))) (dv 3)))
      (dss_cons (ds_set (i := 15) sc__law_spans.nd rfl (.inl rfl) (de_add (dv 14) (dv 7)))
      (dss_cons (ds_set (i := 16) sc__law_spans.nd rfl (.inl rfl) (de_add (de_add (de_add (dv 15) (dv 8)) (de_min2 rfl (by rfl) T.z_min (de_len (by rfl) T.z_len (dv 4)) (de_len (by rfl) T.z_len (dv 5)))) (dv 10)))
      (dss_cons (ds_set (i := 17) sc__law_spans.nd rfl (.inl rfl) (de_lst (da_cons (de_tup (da_cons (de_catT (dv 6) (de_tup (da_cons (dv 12) da_nil))) (da_cons (dv 2) (da_cons (dv 3) da_nil)))) (da_cons (de_tup (da_cons (de_tup (da_cons (dv 11) da_nil)) (da_cons (de_add (dv 2) (de_len (by rfl) T.z_len (dv 6))) (da_cons (dv 3) da_nil)))) (da_cons (de_tup (da_cons (de_catT (dv 4) (de_tup (da_cons (dv 13) da_nil))) (da_cons (dv 14) (da_cons (dv 7) da_nil)))) (da_cons (de_tup (da_cons (de_tup (da_cons (dv 12) da_nil)) (da_cons (dv 14) (da_cons (dv 7) da_nil)))) da_nil))))))
      (dss_cons (ds_set (i := 17) sc__law_spans.nd rfl (.inl rfl) (de_catL (dv 17) (de_lst (da_cons (de_tup (da_cons (de_tup (da_cons (dv 11) da_nil)) (da_cons (dv 15) (da_cons (dv 8) da_nil)))) (da_cons (de_tup (da_cons (de_catT (dv 5) (de_tup (da_cons (dv 13) da_nil))) (da_cons (dv 15) (da_cons (dv 8) da_nil)))) (da_cons (de_tup (da_cons (de_catT (dv 6) (de_tup (da_cons (dv 11) da_nil))) (da_cons (dv 16) (da_cons (de_mul de_int (dv 9)) da_nil)))) da_nil))))))
      (dss_one (ds_ret (de_tup (da_cons (de_tupleOf (by rfl) T.z_tuple (dv 17)) (da_cons (de_add (dv 16) (de_mul de_int (dv 9))) da_nil))))))))))))), ?_⟩) <;> (unfold sp__law_spans at h; split at h; rotate_left; exact h.elim)
  · rfl
  · rename_i p q d b s
    obtain ⟨F, G, B', rfl, ⟨hT, hp⟩, hs, h⟩ := h
    have hT' := hT
    obtain ⟨f0, f1, g0, g1, b0, b1, nd⟩ := hT'
    obtain ⟨e, es, rfl⟩ := List.exists_cons_of_length_pos f0
    obtain ⟨g, gs, rfl⟩ := List.exists_cons_of_length_pos g0
    obtain ⟨f, fs, rfl⟩ := List.exists_cons_of_length_pos b0
    rw [st__law_spans]
    unfold rowD
    walk_at "st"
    refine aSeq_step ?_
    dsimp only [aAsg, aCall, aCons, aNil, aVar, onSlot_ss, List.getElem?_cons_zero, List.getElem?_cons_succ]
    dsimp only [sp__law_counts]
    refine ⟨e :: es, g :: gs, rfl, rfl, ⟨f1, g1⟩, hp, hs, ?_⟩
    refine onGm_go (Γ' := [some (.tup [.int p, .int q]), some (.tup [iT (e :: es), iT (g :: gs), iT (f :: fs)]), some (.int b), some (.int s), some (.tup (.int e :: es.map D.int)), some (.tup (.int g :: gs.map D.int)), some (.tup (.int f :: fs.map D.int)), some (.int (yI p q s)), some (.int (zI p q s)), some (.int (u3 p q s)), some (.int (hI (e :: es) (g :: gs) p q s)), none, none, none, none, none, none, none]) rfl ?_
    dsimp only
    refine aSeq_cut ?G1 ?M1 (fun k q => ?h1) ?q1
    case h1 => walk_at "ev"; exact q
    refine aSeq_cut ?G2 ?M2 (fun k q => ?h2) ?q2
    case h2 => walk_at "ev"; exact q
    refine aSeq_cut ?G3 ?M3 (fun k q => ?h3) ?q3
    case h3 => walk_at "ev"; exact q
    refine aSeq_cut ?G4 ?M4 (fun k q => ?h4) ?q4
    case h4 => walk_at "ev"; exact q
    have lf : (List.map D.int fs).length ≤ 20 := by rw [List.length_map]; rw [List.length_cons] at b1; omega
    have le : (List.map D.int es).length ≤ 20 := by rw [List.length_map]; rw [List.length_cons] at f1; omega
    have lg : (List.map D.int gs).length ≤ 20 := by rw [List.length_map]; rw [List.length_cons] at g1; omega
    refine aSeq_cut ?G5 ?M5 (fun k q => ?h5) ?q5
    case h5 =>
      walk_at "ev"
      repeat (first | refine ⟨by decide, ?_⟩ | refine ⟨by omega, ?_⟩ | refine ⟨.inl ⟨by decide, by decide⟩, ?_⟩)
      exact q
    refine aSeq_cut ?G6 ?M6 (fun k q => ?h6) ?q6
    case h6 =>
      walk_at "ev"
      repeat (first | refine ⟨by decide, ?_⟩ | refine ⟨by omega, ?_⟩ | refine ⟨.inl ⟨by decide, by decide⟩, ?_⟩)
      exact q
    walk_at "ev"
    refine ⟨.inl ⟨by decide, by decide⟩, by decide, ?_⟩
    unfold spL te t4 t3 t2 at h
    simp only [sgD, iT, List.map_cons, List.map_nil, List.take_succ_cons, List.take_zero, List.map_append, List.length_map, List.length_cons, List.cons_append, lowI] at h ⊢
    exact h
/-- neighbours in a row -/
def adj (xs : List Int) : List (Int × Int) := (List.range (xs.length - 1)).map fun i => (xs.getD i 0, xs.getD (i + 1) 0)
theorem adj_take {row : List Int} {m : Nat} {x : Int × Int} (h : x ∈ adj (row.take m)) : x ∈ adj row := by
  unfold adj at h ⊢
  obtain ⟨i, hi, rfl⟩ := List.mem_map.mp h
  have hi := List.mem_range.mp hi
  rw [List.length_take] at hi
  refine List.mem_map.mpr ⟨i, List.mem_range.mpr (by omega), ?_⟩
  rw [List.getD_eq_getElem?_getD, List.getD_eq_getElem?_getD, List.getD_eq_getElem?_getD, List.getD_eq_getElem?_getD, List.getElem?_take, List.getElem?_take, if_pos (by omega), if_pos (by omega)]
def rowsL (F G B : List Int) : List (List Int) := [F ++ B, G ++ B, B ++ F, B ++ G]
theorem way_ok {F G B : List Int} (h : Th F G B) {w : List Int} (hw : w ∈ waysL F G B) : w.Nodup ∧ w.length ≤ 40 ∧ ∃ row ∈ rowsL F G B, ∃ m, w = row.take m := by
  obtain ⟨f0, f1, g0, g1, b0, b1, nd⟩ := h
  obtain ⟨nf, nr, df⟩ := List.nodup_append.mp nd
  obtain ⟨ng, nb, dg⟩ := List.nodup_append.mp nr
  have fb : (F ++ B).Nodup := List.nodup_append.mpr ⟨nf, nb, fun x hx y hy => df x hx y (List.mem_append_right _ hy)⟩
  have gb : (G ++ B).Nodup := nr
  have bf : (B ++ F).Nodup := List.nodup_append.mpr ⟨nb, nf, fun x hx y hy e => df y hy x (List.mem_append_right _ hx) e.symm⟩
  have bg : (B ++ G).Nodup := List.nodup_append.mpr ⟨nb, ng, fun x hx y hy e => dg y hy x hx e.symm⟩
  have t1 : ∀ xs ys : List Int, 1 ≤ xs.length → xs.take 1 = (xs ++ ys).take 1 := fun xs ys hx => by
    rw [List.take_append_of_le_length hx]
  have t2 : ∀ xs ys : List Int, xs ++ ys.take 1 = (xs ++ ys).take (xs.length + 1) := fun xs ys => by
    rw [List.take_length_add_append]
  have go : ∀ row ∈ rowsL F G B, ∀ m, (row.take m).Nodup ∧ (row.take m).length ≤ 40 ∧ ∃ row' ∈ rowsL F G B, ∃ m', row.take m = row'.take m' := fun row hr m => by
    refine ⟨?_, ?_, row, hr, m, rfl⟩
    · refine List.Nodup.sublist (List.take_sublist _ _) ?_
      unfold rowsL at hr
      simp only [List.mem_cons, List.not_mem_nil, or_false] at hr
      rcases hr with rfl | rfl | rfl | rfl <;> assumption
    · rw [List.length_take]
      unfold rowsL at hr
      simp only [List.mem_cons, List.not_mem_nil, or_false] at hr
      rcases hr with rfl | rfl | rfl | rfl <;> (rw [List.length_append]; omega)
  have r1 : F ++ B ∈ rowsL F G B := by simp [rowsL]
  have r2 : G ++ B ∈ rowsL F G B := by simp [rowsL]
  have r3 : B ++ F ∈ rowsL F G B := by simp [rowsL]
  have r4 : B ++ G ∈ rowsL F G B := by simp [rowsL]
  unfold waysL at hw
  simp only [List.mem_cons, List.not_mem_nil, or_false] at hw
  rcases hw with rfl | rfl | rfl | rfl | rfl | rfl
  · rw [t1 F B f0]
    exact go _ r1 _
  · rw [t1 G B g0]
    exact go _ r2 _
  · rw [t2]
    exact go _ r1 _
  · rw [t2]
    exact go _ r2 _
  · rw [t2]
    exact go _ r3 _
  · rw [t2]
    exact go _ r4 _
theorem in_pairs {ps : List (Int × Int)} {x : Int × Int} (h : x ∈ ps) : (plD 60 (pairD x) = true ∧ plD 60 (.lst (ps.map pairD)) = true) ∧ (((ps.map pairD).map (py 59)).any fun z => PyData.eqv z (py 60 (pairD x))) = true := by
  refine ⟨⟨rfl, ?_⟩, ?_⟩
  · show (ps.map pairD).all (plD 59) = true
    rw [List.all_eq_true]
    intro d hd
    obtain ⟨y, _, rfl⟩ := List.mem_map.mp hd
    rfl
  · rw [List.any_eq_true]
    refine ⟨py 59 (pairD x), List.mem_map_of_mem (List.mem_map_of_mem h), ?_⟩
    show PyData.eqv (.tuple [.int x.1, .int x.2]) (.tuple [.int x.1, .int x.2]) = true
    simp [PyData.eqv, PyData.eqvAll]
theorem flat_len {rs : List (List Int)} (h : ∀ r ∈ rs, r.length ≤ 40) (hl : rs.length ≤ 4) : (rs.flatMap adj).length ≤ 1000 := by
  have key : ∀ rs : List (List Int), (∀ r ∈ rs, r.length ≤ 40) → (rs.flatMap adj).length ≤ 40 * rs.length := fun rs => by
    induction rs with
    | nil => intro _; exact Nat.le_refl _
    | cons r rs ih =>
      intro h
      have a := h r (List.mem_cons_self ..)
      have b := ih fun x hx => h x (List.mem_cons_of_mem _ hx)
      have c : (adj r).length = r.length - 1 := by
        unfold adj
        rw [List.length_map, List.length_range]
      rw [List.flatMap_cons, List.length_append, List.length_cons, c]
      omega
  have := key rs h
  omega
theorem pair_at {xs : List Int} {i : Int} (h0 : 0 ≤ i) (h : i.toNat < xs.length) : getI (xs.map D.int) i = some (.int (xs.getD i.toNat 0)) := by
  refine getI_of h0 ?_
  rw [List.getElem?_map, List.getD_eq_getElem?_getD, List.getElem?_eq_getElem h]
  rfl
theorem ok__law_is_way (T : Top P K mg) {B : Bx} : FnOk P w K mg base (L2N.CX P w) 1 T.f__law_is_way T.d__law_is_way ["rows", "way"] (conc K B sp__law_is_way) := by
  refine dfn T.F__law_is_way sc__law_is_way (fun ds M Φ Ψ h => ?_) (fun cdv A outer s H E hr ds M Φ Ψ h => ⟨_, (dss_cons (ds_asg (dv 0) (dg_tup rfl (dgs_cons (dg_name (i := 2) sc__law_is_way.nd rfl (.inl rfl)) (dgs_cons (dg_name (i := 3) sc__law_is_way.nd rfl (.inl rfl)) (dgs_cons (dg_name (i := 4) sc__law_is_way.nd rfl (.inl rfl)) dgs_nil))) (fix_cons (fix_cons (fix_cons fix_nil)))))
      (dss_cons (ds_set (i := 5) sc__law_is_way.nd rfl (.inr rfl) (de_lst da_nil))
      (dss_cons (ds_for (passes_of rfl) rfl (di_seq (de_lst (da_cons (de_catT (dv 2) (dv 4)) (da_cons (de_catT (dv 3) (dv 4)) (da_cons (de_catT (dv 4) (dv 2)) (da_cons (de_catT (dv 4) (dv 3)) da_nil)))))) (dg_name (i := 6) sc__law_is_way.nd rfl (.inr rfl))
        (dss_one (ds_set (i := 5) sc__law_is_way.nd rfl (.inr rfl) (de_catL (dv 5) (de_lc (own := [("at", 7)]) rfl sc__law_is_way.nd (di_rng2 (by rfl) T.z_range (da_cons de_int (da_cons (de_len (by rfl) T.z_len (dv 6)) da_nil))) (blkOk_by (N := n__law_is_way) (sc := defScope s__law_is_way) (by decide +kernel)) (fun _ _ _ _ _ => (dg_name (i := 7) sc__law_is_way.nd rfl (.inl rfl))) (fun _ _ _ _ _ => dts_nil) (fun _ _ _ _ _ => (de_tup (da_cons (de_item (dv 6) (de_sub (dv 7) de_int)) (da_cons (de_item (dv 6) (dv 7)) da_nil)))))))))
      (dss_cons (ds_if (dt_ne hr (de_len (by rfl) T.z_len (dv 1)) (de_sizeT rfl (by rfl) T.z_len (by rfl) T.z_set (dv 1)))
        (dss_one (ds_ret de_bl))
        dss_nil)
      (dss_one (ds_ret (de_all rfl (by rfl) T.z_all (de_lc (own := [("at", 7)]) rfl sc__law_is_way.nd (di_rng2 (by rfl) T.z_range (da_cons de_int (da_cons (de_len (by rfl) T.z_len (dv 1)) da_nil))) (blkOk_by (N := n__law_is_way) (sc := defScope s__law_is_way) (by decide +kernel)) (fun _ _ _ _ _ => (dg_name (i := 7) sc__law_is_way.nd rfl (.inl rfl))) (fun _ _ _ _ _ => dts_nil) (fun _ _ _ _ _ => (de_inD hr (de_tup (da_cons (de_item (dv 1) (de_sub (dv 7) de_int)) (da_cons (de_item (dv 1) (dv 7)) da_nil))) (dv 5))))))))))), ?_⟩) <;> (unfold sp__law_is_way at h; split at h; rotate_left; exact h.elim)
  · rfl
  · rename_i d xs
    obtain ⟨F, G, B', w, rfl, rfl, hT, hw, h⟩ := h
    obtain ⟨nd, wl, row0, hrow, m, ew⟩ := way_ok hT hw
    obtain ⟨f0, f1, g0, g1, b0, b1, _⟩ := hT
    rw [st__law_is_way]
    unfold rowD
    walk_at "st"
    walk_at "st"
    refine ⟨by decide, ?_⟩
    refine aSeq_step ?_
    refine aFor_map (rowsL F G B') iT (fun i Γ' M' => ∃ x6 x7, Γ' = [some (.tup [iT F, iT G, iT B']), some (iT w), some (iT F), some (iT G), some (iT B'), some (.lst ((((rowsL F G B').take i).flatMap adj).map pairD)), x6, x7] ∧ M' = M) (fun Φ' q => ?_) ⟨_, _, rfl, rfl⟩ ?_ ?_
    · walk_at "ev"
      simp only [List.length_map]
      refine ⟨by omega, by omega, by omega, by omega, by decide, ?_⟩
      simp only [← List.map_append]
      exact q
    · rintro i row Γ' M' hx ⟨x6, x7, rfl, rfl⟩
      refine ⟨_, rfl, ?_⟩
      have rl : 1 ≤ row.length ∧ row.length ≤ 40 := by
        have hm := List.mem_of_getElem? hx
        unfold rowsL at hm
        simp only [List.mem_cons, List.not_mem_nil, or_false] at hm
        rcases hm with rfl | rfl | rfl | rfl <;> (rw [List.length_append]; omega)
      have hi := (List.getElem?_eq_some_iff.mp hx).1
      have l4 : (rowsL F G B').length = 4 := rfl
      have tl : (((rowsL F G B').take i).flatMap adj).length ≤ 1000 := flat_len (fun r hr => by
        have hm := List.mem_of_mem_take hr
        unfold rowsL at hm
        simp only [List.mem_cons, List.not_mem_nil, or_false] at hm
        rcases hm with rfl | rfl | rfl | rfl <;> (rw [List.length_append]; omega)) (by rw [List.length_take]; omega)
      walk_at "ev"
      refine aLc_map (List.range (row.length - 1)) (fun j => .int (1 + (j : Nat))) (fun j => pairD (row.getD j 0, row.getD (j + 1) 0)) (fun Φ' q => ?_) (by rw [List.length_range]; omega) (fun j hj M2 => ⟨[some (.tup [iT F, iT G, iT B']), some (iT w), some (iT F), some (iT G), some (iT B'), some (.lst ((((rowsL F G B').take i).flatMap adj).map pairD)), some (iT row), some (.int (1 + (j : Nat)))], rfl, fun Φ' q => ?_⟩) ?_
      · walk_at "ev"
        rw [List.length_map]
        refine ⟨⟨by decide, by decide, by omega, by omega⟩, ?_⟩
        rw [show ((row.length : Int) - 1).toNat = row.length - 1 by omega]
        exact q
      · have hj := List.mem_range.mp hj
        walk_at "ev"
        rw [pair_at (show 0 ≤ 1 + (j : Int) - 1 by omega) (show (1 + (j : Int) - 1).toNat < row.length by omega), pair_at (show 0 ≤ 1 + (j : Int) by omega) (show (1 + (j : Int)).toNat < row.length by omega), show (1 + (j : Int) - 1).toNat = j by omega, show (1 + (j : Int)).toNat = j + 1 by omega]
        exact ⟨by decide, q⟩
      · walk_at "ev"
        refine ⟨?_, some (iT row), x7, ?_, rfl⟩
        · rw [List.length_map, List.length_map, List.length_range]
          omega
        · rw [take_next hx, List.flatMap_append, List.map_append, List.flatMap_singleton]
          unfold adj
          rw [List.map_map]
          rfl
    · rintro Γ' M' ⟨x6, x7, rfl, rfl⟩
      rw [List.take_length]
      walk_at "ev"
      walk_at "st"
      refine ⟨w, rfl, ⟨nd, by omega⟩, fun z => ?_, fun _ => ?_⟩
      · rw [List.length_map, decide_eq_true rfl] at z
        exact Bool.noConfusion z
      refine aLc_map (List.range (w.length - 1)) (fun j => .int (1 + (j : Nat))) (fun _ => .bl true) (fun Φ' q => ?_) (by rw [List.length_range]; omega) (fun j hj M2 => ⟨[some (.tup [iT F, iT G, iT B']), some (iT w), some (iT F), some (iT G), some (iT B'), some (.lst (((rowsL F G B').flatMap adj).map pairD)), x6, some (.int (1 + (j : Nat)))], rfl, fun Φ' q => ?_⟩) ?_
      · walk_at "ev"
        rw [List.length_map]
        refine ⟨⟨by decide, by decide, by omega, by omega⟩, ?_⟩
        rw [show ((w.length : Int) - 1).toNat = w.length - 1 by omega]
        exact q
      · have hj := List.mem_range.mp hj
        have hm : (w.getD j 0, w.getD (j + 1) 0) ∈ (rowsL F G B').flatMap adj := by
          refine List.mem_flatMap.mpr ⟨row0, hrow, adj_take (m := m) ?_⟩
          rw [← ew]
          exact List.mem_map.mpr ⟨j, List.mem_range.mpr hj, rfl⟩
        have ip := in_pairs hm
        walk_at "ev"
        rw [pair_at (show 0 ≤ 1 + (j : Int) - 1 by omega) (show (1 + (j : Int) - 1).toNat < w.length by omega), pair_at (show 0 ≤ 1 + (j : Int) by omega) (show (1 + (j : Int)).toNat < w.length by omega), show (1 + (j : Int) - 1).toNat = j by omega, show (1 + (j : Int)).toNat = j + 1 by omega]
        walk_at "ev"
        exact ⟨by decide, ip.1, (congrArg (fun b => Φ' (.bl b) M2) ip.2).mpr q⟩
      · walk_at "ev"
        refine ⟨List.replicate (List.range (w.length - 1)).length true, by rw [List.map_const', List.map_replicate], ?_⟩
        rw [all_true]
        exact h
theorem ok__law_apart (T : Top P K mg) {B : Bx} : FnOk P w K mg base (L2N.CX P w) 1 T.f__law_apart T.d__law_apart ["rows", "spans"] (conc K B sp__law_apart) := by
  refine dfn T.F__law_apart sc__law_apart (fun ds M Φ Ψ h => ?_) (fun cdv A outer s H E hr ds M Φ Ψ h => ⟨_, (dss_cons (ds_for (passes_of rfl) rfl (di_seq (de_catT (de_catT (de_item (dv 0) de_int) (de_item (dv 0) de_int)) (de_item (dv 0) de_int))) (dg_name (i := 2) sc__law_apart.nd rfl (.inr rfl))
        (dss_cons (ds_set (i := 3) sc__law_apart.nd rfl (.inl rfl) de_int)
          (dss_one (ds_for (passes_of rfl) rfl (di_seq (de_sortP (by rfl) T.z_sorted (de_lc (own := [("way", 6), ("first", 4), ("beats", 5)]) rfl sc__law_apart.nd (di_seq (dv 1)) (blkOk_by (N := n__law_apart) (sc := defScope s__law_apart) (by decide +kernel)) (fun _ _ _ _ _ => (dg_tup rfl (dgs_cons (dg_name (i := 6) sc__law_apart.nd rfl (.inl rfl)) (dgs_cons (dg_name (i := 4) sc__law_apart.nd rfl (.inl rfl)) (dgs_cons (dg_name (i := 5) sc__law_apart.nd rfl (.inl rfl)) dgs_nil))) (fix_cons (fix_cons (fix_cons fix_nil))))) (fun _ _ _ _ _ => (dts_one (dt_w (dw_and (dt_in (dv 2) (dv 6)) (dw_and1 (dt_gt (dv 5) de_int)))))) (fun _ _ _ _ _ => (de_tup (da_cons (dv 4) (da_cons (dv 5) da_nil))))))) (dg_tup rfl (dgs_cons (dg_name (i := 4) sc__law_apart.nd rfl (.inl rfl)) (dgs_cons (dg_name (i := 5) sc__law_apart.nd rfl (.inl rfl)) dgs_nil)) (fix_cons (fix_cons fix_nil)))
            (dss_cons (ds_if (dt_lt (dv 4) (dv 3))
                (dss_one (ds_ret de_bl))
                dss_nil)
              (dss_one (ds_set (i := 3) sc__law_apart.nd rfl (.inl rfl) (de_add (dv 4) (dv 5)))))))))
      (dss_one (ds_ret de_bl))), ?_⟩) <;> (unfold sp__law_apart at h; split at h; rotate_left; exact h.elim)
  · rfl
  · rename_i d xs
    obtain ⟨F, G, B', sps, rfl, rfl, hT, hl, ⟨b, hA⟩, h⟩ := h
    obtain ⟨f0, f1, g0, g1, b0, b1, _⟩ := hT
    rw [st__law_apart]
    unfold rowD
    refine aSeq_step ?_
    refine aFor_map (F ++ G ++ B') D.int (fun i Γ' M' => ∃ x2 x3 x4 x5 x6, Γ' = [some (.tup [iT F, iT G, iT B']), some (.tup (sps.map sgD)), x2, x3, x4, x5, x6] ∧ M' = M) (fun Φ' q => ?_) ⟨_, _, _, _, _, rfl, rfl⟩ ?_ ?_
    · walk_at "ev"
      simp only [List.length_map, List.length_append]
      refine ⟨by omega, by omega, ?_⟩
      simp only [← List.map_append]
      exact q
    · rintro i e Γ' M' hx ⟨x2, x3, x4, x5, x6, rfl, rfl⟩
      refine ⟨_, rfl, ?_⟩
      have ap := hA e
      walk_at "st"
      have es : ((sps.filter fun x => decide (e ∈ x.1) && decide (0 < x.2.2)).map (·.2)) = (onB e sps).filter fun x => decide (0 < x.2) := by
        unfold onB
        rw [List.filter_map, List.filter_filter]
        congr 1
        refine List.filter_congr fun x _ => ?_
        exact Bool.and_comm _ _
      refine aFor_map ((onB e sps).filter fun x => decide (0 < x.2)) pairD (fun j Γ2 M2 => ∃ en x4 x5 x6, Γ2 = [some (.tup [iT F, iT G, iT B']), some (.tup (sps.map sgD)), some (.int e), some (.int en), x4, x5, x6] ∧ M2 = M' ∧ ∀ x ∈ ((onB e sps).filter fun x => decide (0 < x.2)).drop j, en ≤ x.1) (fun Φ' q => ?_) ⟨0, _, _, _, rfl, rfl, fun x hx => ap.lo x (List.mem_filter.mp (by rw [List.drop_zero] at hx; exact hx)).1⟩ ?_ ?_
      · walk_at "ev"
        refine aLc_pure sps sgD (fun x => decide (e ∈ x.1) && decide (0 < x.2.2)) (fun x => pairD x.2) (fun Φ' q => ?_) (by omega) (fun x hx M3 => ⟨[some (.tup [iT F, iT G, iT B']), some (.tup (sps.map sgD)), some (.int e), some (.int 0), some (.int x.2.1), some (.int x.2.2), some (iT x.1)], rfl, fun Φ' q => ?_, fun _ Φ' q => ?_⟩) ?_
        · walk_at "ev"
          exact q
        · walk_at "ev"
          refine ⟨⟨rfl, flat_ints⟩, ?_⟩
          rw [in_ints]
          refine ⟨fun z => ?_, fun z => ?_⟩
          · rw [z] at q
            exact q
          · rw [z] at q
            exact q
        · walk_at "ev"
          exact ⟨by decide, q⟩
        · walk_at "ev"
          refine ⟨(onB e sps).filter fun x => decide (0 < x.2), ?_, ?_, ?_⟩
          · rw [← es, List.map_map]
            rfl
          · refine List.pairwise_filter.mpr (ap.pw.imp fun {x y} hxy hx hy => ?_)
            have hx := of_decide_eq_true hx
            unfold After at hxy
            exact .inl (by omega)
          · rw [← es, List.map_map] at q
            exact q
      · rintro j x Γ2 M2 hx ⟨en, x4, x5, x6, rfl, rfl, hen⟩
        refine ⟨_, rfl, ?_⟩
        obtain ⟨hj, rfl⟩ := List.getElem?_eq_some_iff.mp hx
        have ed := List.drop_eq_getElem_cons hj
        have pw : (((onB e sps).filter fun x => decide (0 < x.2)).drop j).Pairwise After := (List.Pairwise.filter _ ap.pw).drop
        rw [ed] at hen pw
        have h0 := hen _ (List.mem_cons_self ..)
        have h1 := (List.pairwise_cons.mp pw).1
        walk_at "st"
        exact ⟨fun z => absurd (of_decide_eq_true z) (by omega), fun _ => ⟨_, _, _, _, rfl, rfl, fun y hy => h1 y hy⟩⟩
      · rintro Γ2 M2 ⟨en, x4, x5, x6, rfl, rfl, hen⟩
        exact ⟨_, _, _, _, _, rfl, rfl⟩
    · rintro Γ' M' ⟨x2, x3, x4, x5, x6, rfl, rfl⟩
      walk_at "ev"
      exact h

theorem te_ge {F G B : List Int} (h : Th F G B) {p q b s : Int} (hp : RP p q) (hs : 0 ≤ s) : b ≤ te F G B p q b s := by
  have y0 : 0 ≤ yI p q s := fl_nn hp hs
  have z0 : 0 ≤ zI p q s := fl_nn hp y0
  have u0 := u3_nn hp hs
  have l0 : 0 ≤ hI F G p q s := late_nn hp z0 (by unfold dI; omega)
  have lw : 0 ≤ lowI F G := by unfold lowI; omega
  unfold te t4 t3 t2
  omega
theorem shp_sp {F G B : List Int} (h : Th F G B) {p q b s : Int} : shp 3 (.tup ((spL F G B p q b s).map sgD)) = true := by
  obtain ⟨f0, f1, g0, g1, b0, b1, _⟩ := h
  have l1 : ∀ xs : List Int, (xs.take 1).length ≤ 1 := fun xs => by rw [List.length_take]; omega
  have lf := l1 F
  have lg := l1 G
  have lb := l1 B
  have key : ∀ x ∈ spL F G B p q b s, x.1.length ≤ 1000 := by
    unfold spL
    simp only [List.forall_mem_cons, List.length_append]
    exact ⟨by omega, by omega, by omega, by omega, by omega, by omega, by omega, fun _ z => absurd z List.not_mem_nil⟩
  refine shp_tup (by rw [List.length_map]; show 7 ≤ 1000; decide) fun d hd => ?_
  obtain ⟨x, hx, rfl⟩ := List.mem_map.mp hd
  refine shp_tup (by show 3 ≤ 1000; decide) fun d hd => ?_
  simp only [List.mem_cons, List.not_mem_nil, or_false] at hd
  rcases hd with rfl | rfl | rfl
  · exact shp_iT (key x hx)
  · rfl
  · rfl
theorem ok__law_right (T : Top P K mg) (h c : Addr) {B : Bx} : FnOk P w K mg base (L2N.CX P w) 7 T.f__law_right T.d__law_right ["heap", "rate", "rows", "plan", "s"] (conc K (bxAnd (bxHeap h c) B) (sp__law_right h T.C_Plan)) := by
  refine dfn T.F__law_right sc__law_right (fun ds M Φ Ψ h => ?_) (fun cdv A outer s H E hr ds M Φ Ψ hh => ⟨_, (dss_cons (ds_par3 (i := 5) (j := 6) (l := 7) rfl sc__law_right.nd rfl rfl rfl (by decide) (by decide) (by decide) rfl rfl rfl (da_cons de_int (da_cons (de_tup da_nil) (da_cons (dv 4) da_nil))))
      (dss_cons (ds_for (passes_of rfl) rfl (di_rng1 (by rfl) T.z_range (da_cons de_int da_nil)) (dg_name (i := 8) sc__law_right.nd rfl (.inl rfl))
        (dss_cons (ds_if (dt_not (dt_val (de_call ((ok__law_like T 4).mono (by first | decide | exact Nat.le_refl _)) hr (by rfl) T.g__law_like T.F__law_like.kp T.b__law_like (L2N.takes_of rfl rfl rfl rfl) (da_cons (de_call ((ok_phase_of T).mono (by first | decide | exact Nat.le_refl _)) hr (by rfl) T.g_phase_of T.F_phase_of.kp T.b_phase_of (L2N.takes_of rfl rfl rfl rfl) (da_cons (dv 3) (da_cons (dv 4) (da_cons (dv 8) da_nil)))) (da_cons (de_tup (da_cons (dv 5) (da_cons (dv 7) da_nil))) da_nil)))))
            (dss_one (ds_ret de_bl))
            dss_nil)
          (dss_cons (ds_asg (de_call ((ok__law_spans T).mono (by first | decide | exact Nat.le_refl _)) hr (by rfl) T.g__law_spans T.F__law_spans.kp T.b__law_spans (L2N.takes_of rfl rfl rfl rfl) (da_cons (dv 1) (da_cons (dv 2) (da_cons (dv 5) (da_cons (dv 7) da_nil))))) (dg_tup rfl (dgs_cons (dg_name (i := 9) sc__law_right.nd rfl (.inl rfl)) (dgs_cons (dg_name (i := 10) sc__law_right.nd rfl (.inl rfl)) dgs_nil)) (fix_cons (fix_cons fix_nil))))
          (dss_cons (ds_asg (de_call ((ok__law_counts T).mono (by first | decide | exact Nat.le_refl _)) hr (by rfl) T.g__law_counts T.F__law_counts.kp T.b__law_counts (L2N.takes_of rfl rfl rfl rfl) (da_cons (dv 1) (da_cons (de_item (dv 2) de_int) (da_cons (de_item (dv 2) de_int) (da_cons (dv 7) da_nil))))) (dg_tup rfl (dgs_cons (dg_name (i := 11) sc__law_right.nd rfl (.inl rfl)) (dgs_cons (dg_name (i := 12) sc__law_right.nd rfl (.inl rfl)) (dgs_cons (dg_name (i := 13) sc__law_right.nd rfl (.inl rfl)) (dgs_cons (dg_name (i := 14) sc__law_right.nd rfl (.inl rfl)) dgs_nil)))) (fix_cons (fix_cons (fix_cons (fix_cons fix_nil))))))
          (dss_cons (ds_set (i := 15) sc__law_right.nd rfl (.inr rfl) (de_tup (da_cons de_int (da_cons (dv 7) (da_cons (dv 11) (da_cons (dv 12) (da_cons (dv 13) (da_cons (dv 14) da_nil))))))))
          (dss_cons (ds_if (dt_w (dw_or (dt_not (dt_val (de_call ((ok__law_like T 4).mono (by first | decide | exact Nat.le_refl _)) hr (by rfl) T.g__law_like T.F__law_like.kp T.b__law_like (L2N.takes_of rfl rfl rfl rfl) (da_cons (de_call ((ok_spans_of T).mono (by first | decide | exact Nat.le_refl _)) hr (by rfl) T.g_spans_of T.F_spans_of.kp T.b_spans_of (L2N.takes_of rfl rfl rfl rfl) (da_cons (dv 3) (da_cons (dv 5) (da_cons (dv 7) da_nil)))) (da_cons (dv 9) da_nil))))) (dw_or1 (dt_not (dt_val (de_call ((ok__law_like T 4).mono (by first | decide | exact Nat.le_refl _)) hr (by rfl) T.g__law_like T.F__law_like.kp T.b__law_like (L2N.takes_of rfl rfl rfl rfl) (da_cons (de_call ((ok_counts_of T).mono (by first | decide | exact Nat.le_refl _)) hr (by rfl) T.g_counts_of T.F_counts_of.kp T.b_counts_of (L2N.takes_of rfl rfl rfl rfl) (da_cons (dv 3) (da_cons (dv 7) da_nil))) (da_cons (dv 15) da_nil))))))))
            (dss_one (ds_ret de_bl))
            dss_nil)
          (dss_cons (ds_if (dt_not (dt_val (de_call ((ok__law_like T 4).mono (by first | decide | exact Nat.le_refl _)) hr (by rfl) T.g__law_like T.F__law_like.kp T.b__law_like (L2N.takes_of rfl rfl rfl rfl) (da_cons (de_tup (da_cons (de_call ((ok_length_of T).mono (by first | decide | exact Nat.le_refl _)) hr (by rfl) T.g_length_of T.F_length_of.kp T.b_length_of (L2N.takes_of rfl rfl rfl rfl) (da_cons (dv 3) (da_cons (dv 7) da_nil))) (da_cons (de_call ((ok_next_of T).mono (by first | decide | exact Nat.le_refl _)) hr (by rfl) T.g_next_of T.F_next_of.kp T.b_next_of (L2N.takes_of rfl rfl rfl rfl) (da_cons (dv 3) (da_cons (dv 7) da_nil))) da_nil))) (da_cons (de_tup (da_cons (de_sub (dv 10) (dv 5)) (da_cons (de_div (de_mul (de_mul (de_item (dv 1) de_int) de_int) (dv 13)) (de_item (dv 1) de_int)) da_nil))) da_nil)))))
            (dss_one (ds_ret de_bl))
            dss_nil)
          (dss_cons (ds_set (i := 16) sc__law_right.nd rfl (.inr rfl) (de_tupleOf (by rfl) T.z_tuple (de_lc (own := [("at", 17)]) rfl sc__law_right.nd (di_rng1 (by rfl) T.z_range (da_cons de_int da_nil)) (blkOk_by (N := n__law_right) (sc := defScope s__law_right) (by decide +kernel)) (fun _ _ _ _ _ => (dg_name (i := 17) sc__law_right.nd rfl (.inl rfl))) (fun _ _ _ _ _ => dts_nil) (fun _ _ _ _ _ => (de_call ((ok__law_draw_box T h c).mono (by first | decide | exact Nat.le_refl _)) hr (by rfl) T.g__law_draw T.F__law_draw.kp T.b__law_draw tk_calm (da_cons (dv 0) (da_cons de_int da_nil)))))))
          (dss_cons (ds_if (dt_not (dt_val (de_call ((ok__law_like T 4).mono (by first | decide | exact Nat.le_refl _)) hr (by rfl) T.g__law_like T.F__law_like.kp T.b__law_like (L2N.takes_of rfl rfl rfl rfl) (da_cons (de_call ((ok_worth_of T).mono (by first | decide | exact Nat.le_refl _)) hr (by rfl) T.g_worth_of T.F_worth_of.kp T.b_worth_of (L2N.takes_of rfl rfl rfl rfl) (da_cons (dv 16) (da_cons (dv 15) da_nil))) (da_cons (de_sum rfl (by rfl) T.z_sum (de_lc (own := [("at", 17)]) rfl sc__law_right.nd (di_rng1 (by rfl) T.z_range (da_cons de_int da_nil)) (blkOk_by (N := n__law_right) (sc := defScope s__law_right) (by decide +kernel)) (fun _ _ _ _ _ => (dg_name (i := 17) sc__law_right.nd rfl (.inl rfl))) (fun _ _ _ _ _ => dts_nil) (fun _ _ _ _ _ => (de_mul (de_item (dv 16) (dv 17)) (de_item (dv 15) (dv 17)))))) da_nil)))))
            (dss_one (ds_ret de_bl))
            dss_nil)
          (dss_one (ds_par3 (i := 6) (j := 5) (l := 7) rfl sc__law_right.nd rfl rfl rfl (by decide) (by decide) (by decide) rfl rfl rfl (da_cons (de_catT (dv 6) (dv 9)) (da_cons (dv 10) (da_cons (de_div (de_mul (de_mul (de_item (dv 1) de_int) de_int) (dv 13)) (de_item (dv 1) de_int)) da_nil))))))))))))))
      (dss_one (ds_ret (de_and (de_call ((ok__law_apart T).mono (by first | decide | exact Nat.le_refl _)) hr (by rfl) T.g__law_apart T.F__law_apart.kp T.b__law_apart (L2N.takes_of rfl rfl rfl rfl) (da_cons (dv 2) (da_cons (dv 6) da_nil))) (de_one (de_call ((ok__law_like T 4).mono (by first | decide | exact Nat.le_refl _)) hr (by rfl) T.g__law_like T.F__law_like.kp T.b__law_like (L2N.takes_of rfl rfl rfl rfl) (da_cons (de_call ((ok_burst_of T).mono (by first | decide | exact Nat.le_refl _)) hr (by rfl) T.g_burst_of T.F_burst_of.kp T.b_burst_of (L2N.takes_of rfl rfl rfl rfl) (da_cons (dv 4) da_nil)) (da_cons (de_max2 rfl (by rfl) T.z_max de_int (dv 4)) da_nil))))))))), ?_⟩) <;> (first | (unfold sp__law_right at h; split at h; rotate_left; exact h.elim) | (unfold sp__law_right at hh; split at hh; rotate_left; exact hh.elim))
  · rfl
  · rename_i h' p q r d s
    obtain ⟨rfl, F, G, B', rfl, rfl, ⟨hT, hp⟩, ⟨s0, s1⟩, hq⟩ := hh
    have hT' := hT
    obtain ⟨f0, f1, g0, g1, b0, b1, nd⟩ := hT'
    have hp' := hp
    unfold RP at hp'
    rw [st__law_right]
    unfold rowD
    refine aSeq_cut ?Ga ?Ma (fun k kq => ?ha) ?qa
    case ha =>
      walk_at "ev"
      refine ⟨by decide, ?_⟩
      exact kq
    refine aSeq_step ?_
    refine aFor_rng 0 3 (fun i Γ' M' => ∃ (sps : List Sp) (x8 x9 x10 x11 x12 x13 x14 x15 x16 x17 : Option D), Γ' = [some (.ref h'), some (.tup [.int p, .int q]), some (.tup [iT F, iT G, iT B']), some (planD T.C_Plan F G B' p q), some (.int s), some (.int (phF F G B' p q s i).1), some (.tup (sps.map sgD)), some (.int (phF F G B' p q s i).2), x8, x9, x10, x11, x12, x13, x14, x15, x16, x17] ∧ M' = M ∧ sps.length = 7 * i ∧ (∀ e, Apart e sps 0 (phF F G B' p q s i).1) ∧ 0 ≤ (phF F G B' p q s i).1 ∧ 0 ≤ (phF F G B' p q s i).2 ∧ (phF F G B' p q s i).2 ≤ 1000000000 * 2 ^ i) (fun Φ' q' => ?_) ⟨[], _, _, _, _, _, _, _, _, _, _, rfl, rfl, rfl, fun e => apart_nil, Int.le_refl 0, s0, by show s ≤ 1000000000 * 1; omega⟩ ?_ ?_
    · walk_at "ev"
      exact ⟨⟨by decide, by decide⟩, q'⟩
    · rintro i Γ' M' hi ⟨sps, x8, x9, x10, x11, x12, x13, x14, x15, x16, x17, rfl, rfl, sl, ap, h0, n0, n1⟩
      refine ⟨_, rfl, ?_⟩
      have far : Far (phF F G B' p q s i).2 := by
        have : (2 : Int) ^ i ≤ 2 ^ 3 := pow_up (by omega)
        refine ⟨n0, ?_⟩
        have e : (2 : Int) ^ 3 = 8 := by decide
        omega
      rw [Int.zero_add]
      walk_at "st"
      refine ⟨F, G, B', p, q, rfl, ⟨hT, hp⟩, ⟨by omega, by omega⟩, by decide, _, _, rfl, ⟨rfl, rfl⟩, fun z => Bool.noConfusion z, fun _ => ?_⟩
      generalize eb : (phF F G B' p q s i).1 = b at *
      generalize en : (phF F G B' p q s i).2 = n at *
      refine aSeq_cut ?Gb ?Mb (fun k kq => ?hb) ?qb
      case hb =>
        walk_at "ev"
        refine ⟨F, G, B', rfl, ⟨hT, hp⟩, far, ?_⟩
        exact kq
      refine aSeq_cut ?Gc ?Mc (fun k kq => ?hc) ?qc
      case hc =>
        walk_at "ev"
        refine ⟨F, G, rfl, rfl, ⟨f1, g1⟩, hp, far, ?_⟩
        exact kq
      refine aSeq_cut ?Gd ?Md (fun k kq => ?hd) ?qd
      case hd =>
        walk_at "ev"
        refine ⟨by decide, ?_⟩
        exact kq
      have dq : ∀ a, DivOk a q := fun a => divOk_of (by omega) (by omega)
      have en2 : p * 2 * u3 p q n / q = nxt p q n := by
        unfold nxt
        rw [Int.mul_assoc]
      have nx1 := nxt_nn hp n0
      have nx2 := nxt_le hp n0
      have le1 := len_eq (F := F) (G := G) (B := B') (p := p) (q := q) (b := b) (s := n)
      walk_at "st"
      refine ⟨F, G, B', p, q, rfl, ⟨hT, hp⟩, _, _, rfl, ⟨rfl, shp_sp hT⟩, fun z => Bool.noConfusion z, fun _ => ⟨F, G, B', p, q, rfl, ⟨hT, hp⟩, _, _, rfl, ⟨rfl, rfl⟩, fun z => Bool.noConfusion z, fun _ => ?_⟩⟩
      walk_at "st"
      refine ⟨F, G, B', p, q, rfl, ⟨hT, hp⟩, F, G, B', p, q, rfl, ⟨hT, hp⟩, by decide, .inl ⟨by omega, by omega⟩, .inl ⟨by omega, by omega⟩, dq _, by decide, _, _, rfl, ⟨?_, rfl⟩, fun z => Bool.noConfusion z, fun _ => ?_⟩
      · rw [le1, en2]
      walk_at "st"
      refine aLc_any (rngI 0 6) D.int (fun x : Int => 0 ≤ x ∧ x ≤ 8) D.int (fun Φ' qq => ?_) (by decide) (fun x hx M2 => ⟨[some (.ref h'), some (.tup [.int p, .int q]), some (.tup [iT F, iT G, iT B']), some (planD T.C_Plan F G B' p q), some (.int s), some (.int b), some (.tup (sps.map sgD)), some (.int n), some (.int i), some (.tup ((spL F G B' p q b n).map sgD)), some (.int (te F G B' p q b n)), some (.int (yI p q n)), some (.int (zI p q n)), some (.int (u3 p q n)), some (.int (hI F G p q n)), some (iT (cnt F G p q n)), x16, some (.int x)], rfl, fun Φ' qq => ?_⟩) (fun ys hy hR => ?_)
      · walk_at "ev"
        exact ⟨⟨by decide, by decide⟩, qq⟩
      · walk_at "ev"
        exact ⟨rfl, by walk_at "ok", fun r r0 r1 => qq r ⟨r0, by omega⟩⟩
      match ys, hy with
      | [a0, a1, a2, a3, a4, a5], _ =>
        walk_at "ev"
        walk_at "st"
        refine ⟨[a0, a1, a2, a3, a4, a5], cnt F G p q n, rfl, rfl, ⟨rfl, rfl⟩, fun a ha => by have := hR a ha; unfold SmallI; omega, ?_⟩
        have k0 := hR a0 (by simp)
        have k1 := hR a1 (by simp)
        have k2 := hR a2 (by simp)
        have k3 := hR a3 (by simp)
        have k4 := hR a4 (by simp)
        have k5 := hR a5 (by simp)
        have e1 : phF F G B' p q s (i + 1) = (te F G B' p q b n, nxt p q n) := by
          show ((phF F G B' p q s i).1 + wF (lenF F G B') (cnt F G p q (phF F G B' p q s i).2), nxt p q (phF F G B' p q s i).2) = _
          rw [eb, en, ← le1, show b + (te F G B' p q b n - b) = te F G B' p q b n by omega]
        rw [e1]
        have sa : ∀ e, Apart e (sps ++ spL F G B' p q b n) 0 (te F G B' p q b n) := fun e => (ap e).join (spL_apart hT hp n0 e) h0 (te_ge hT hp n0)
        have tg := te_ge (b := b) hT hp n0
        refine aLc_map [((0 : Int), a0 * 1), (1, a1 * n), (2, a2 * yI p q n), (3, a3 * zI p q n), (4, a4 * u3 p q n), (5, a5 * hI F G p q n)] (fun x : Int × Int => .int x.1) (fun x => .int x.2) (fun Φ' qq => ?_) (Nat.le_of_ble_eq_true rfl) ?_ ?_
        · walk_at "ev"
          exact ⟨⟨by decide, by decide⟩, qq⟩
        · refine List.forall_mem_cons.mpr ⟨fun M2 => ⟨[some (.ref h'), some (.tup [.int p, .int q]), some (.tup [iT F, iT G, iT B']), some (planD T.C_Plan F G B' p q), some (.int s), some (.int b), some (.tup (sps.map sgD)), some (.int n), some (.int i), some (.tup ((spL F G B' p q b n).map sgD)), some (.int (te F G B' p q b n)), some (.int (yI p q n)), some (.int (zI p q n)), some (.int (u3 p q n)), some (.int (hI F G p q n)), some (.tup [.int 1, .int n, .int (yI p q n), .int (zI p q n), .int (u3 p q n), .int (hI F G p q n)]), some (.tup [.int a0, .int a1, .int a2, .int a3, .int a4, .int a5]), some (.int 0)], rfl, fun Φ' qq => ?_⟩, List.forall_mem_cons.mpr ⟨fun M2 => ⟨[some (.ref h'), some (.tup [.int p, .int q]), some (.tup [iT F, iT G, iT B']), some (planD T.C_Plan F G B' p q), some (.int s), some (.int b), some (.tup (sps.map sgD)), some (.int n), some (.int i), some (.tup ((spL F G B' p q b n).map sgD)), some (.int (te F G B' p q b n)), some (.int (yI p q n)), some (.int (zI p q n)), some (.int (u3 p q n)), some (.int (hI F G p q n)), some (.tup [.int 1, .int n, .int (yI p q n), .int (zI p q n), .int (u3 p q n), .int (hI F G p q n)]), some (.tup [.int a0, .int a1, .int a2, .int a3, .int a4, .int a5]), some (.int 1)], rfl, fun Φ' qq => ?_⟩, List.forall_mem_cons.mpr ⟨fun M2 => ⟨[some (.ref h'), some (.tup [.int p, .int q]), some (.tup [iT F, iT G, iT B']), some (planD T.C_Plan F G B' p q), some (.int s), some (.int b), some (.tup (sps.map sgD)), some (.int n), some (.int i), some (.tup ((spL F G B' p q b n).map sgD)), some (.int (te F G B' p q b n)), some (.int (yI p q n)), some (.int (zI p q n)), some (.int (u3 p q n)), some (.int (hI F G p q n)), some (.tup [.int 1, .int n, .int (yI p q n), .int (zI p q n), .int (u3 p q n), .int (hI F G p q n)]), some (.tup [.int a0, .int a1, .int a2, .int a3, .int a4, .int a5]), some (.int 2)], rfl, fun Φ' qq => ?_⟩, List.forall_mem_cons.mpr ⟨fun M2 => ⟨[some (.ref h'), some (.tup [.int p, .int q]), some (.tup [iT F, iT G, iT B']), some (planD T.C_Plan F G B' p q), some (.int s), some (.int b), some (.tup (sps.map sgD)), some (.int n), some (.int i), some (.tup ((spL F G B' p q b n).map sgD)), some (.int (te F G B' p q b n)), some (.int (yI p q n)), some (.int (zI p q n)), some (.int (u3 p q n)), some (.int (hI F G p q n)), some (.tup [.int 1, .int n, .int (yI p q n), .int (zI p q n), .int (u3 p q n), .int (hI F G p q n)]), some (.tup [.int a0, .int a1, .int a2, .int a3, .int a4, .int a5]), some (.int 3)], rfl, fun Φ' qq => ?_⟩, List.forall_mem_cons.mpr ⟨fun M2 => ⟨[some (.ref h'), some (.tup [.int p, .int q]), some (.tup [iT F, iT G, iT B']), some (planD T.C_Plan F G B' p q), some (.int s), some (.int b), some (.tup (sps.map sgD)), some (.int n), some (.int i), some (.tup ((spL F G B' p q b n).map sgD)), some (.int (te F G B' p q b n)), some (.int (yI p q n)), some (.int (zI p q n)), some (.int (u3 p q n)), some (.int (hI F G p q n)), some (.tup [.int 1, .int n, .int (yI p q n), .int (zI p q n), .int (u3 p q n), .int (hI F G p q n)]), some (.tup [.int a0, .int a1, .int a2, .int a3, .int a4, .int a5]), some (.int 4)], rfl, fun Φ' qq => ?_⟩, List.forall_mem_cons.mpr ⟨fun M2 => ⟨[some (.ref h'), some (.tup [.int p, .int q]), some (.tup [iT F, iT G, iT B']), some (planD T.C_Plan F G B' p q), some (.int s), some (.int b), some (.tup (sps.map sgD)), some (.int n), some (.int i), some (.tup ((spL F G B' p q b n).map sgD)), some (.int (te F G B' p q b n)), some (.int (yI p q n)), some (.int (zI p q n)), some (.int (u3 p q n)), some (.int (hI F G p q n)), some (.tup [.int 1, .int n, .int (yI p q n), .int (zI p q n), .int (u3 p q n), .int (hI F G p q n)]), some (.tup [.int a0, .int a1, .int a2, .int a3, .int a4, .int a5]), some (.int 5)], rfl, fun Φ' qq => ?_⟩, fun _ z => absurd z List.not_mem_nil⟩⟩⟩⟩⟩⟩ <;> (walk_at "ev"; exact ⟨.inl ⟨by omega, by omega⟩, qq⟩)
        · walk_at "ev"
          refine ⟨[a0 * 1, a1 * n, a2 * yI p q n, a3 * zI p q n, a4 * u3 p q n, a5 * hI F G p q n], rfl, _, _, rfl, ⟨rfl, rfl⟩, fun z => Bool.noConfusion z, fun _ => ⟨?_, .inl ⟨by omega, by omega⟩, .inl ⟨by omega, by omega⟩, dq _, ?_⟩⟩
          · rw [List.length_map, List.length_map, sl]
            show 7 * i + 7 ≤ 100000
            omega
          · rw [← List.map_append, en2]
            refine ⟨sps ++ spL F G B' p q b n, _, _, _, _, _, _, _, _, _, _, rfl, rfl, ?_, sa, Int.le_trans h0 tg, nx1, ?_⟩
            · rw [List.length_append, sl]
              show 7 * i + 7 = _
              omega
            · rw [Int.pow_succ]
              show nxt p q n ≤ _
              omega
    · rintro Γ' M' ⟨sps, x8, x9, x10, x11, x12, x13, x14, x15, x16, x17, rfl, rfl, sl, ap, h0, n0, n1⟩
      walk_at "ev"
      exact ⟨F, G, B', sps, rfl, rfl, hT, by omega, ⟨_, ap⟩, fun _ => ⟨_, _, rfl, ⟨rfl, rfl⟩, hq⟩, fun z => Bool.noConfusion z⟩

theorem onD_go {o : Option D} {x : D} {k : D → Prop} (h : o = some x) (q : k x) : onD o k := by
  subst h
  exact q
theorem shp_ws {F G B : List Int} (h : Th F G B) : shp 3 (.tup ((waysL F G B).map iT)) = true ∧ shp 2 (.tup ((orderL F G B).map iT)) = true := by
  obtain ⟨f0, f1, g0, g1, b0, b1, _⟩ := h
  have l1 : ∀ xs : List Int, (xs.take 1).length ≤ 1 := fun xs => by rw [List.length_take]; omega
  have lf := l1 F
  have lg := l1 G
  have lb := l1 B
  have k1 : ∀ x ∈ waysL F G B, x.length ≤ 1000 := by
    unfold waysL
    simp only [List.forall_mem_cons, List.length_append]
    exact ⟨by omega, by omega, by omega, by omega, by omega, by omega, fun _ z => absurd z List.not_mem_nil⟩
  have k2 : ∀ x ∈ orderL F G B, x.length ≤ 1000 := by
    unfold orderL
    simp only [List.forall_mem_cons, List.length_append]
    exact ⟨by omega, by omega, by omega, by omega, by omega, by omega, by omega, fun _ z => absurd z List.not_mem_nil⟩
  refine ⟨shp_tup (by rw [List.length_map]; show 6 ≤ 1000; decide) fun d hd => ?_, shp_tup (by rw [List.length_map]; show 7 ≤ 1000; decide) fun d hd => ?_⟩
  · obtain ⟨x, hx, rfl⟩ := List.mem_map.mp hd
    exact shp_iT (k1 x hx)
  · obtain ⟨x, hx, rfl⟩ := List.mem_map.mp hd
    exact shp_iT (k2 x hx)
theorem ok_law (T : Top P K mg) {B : Bx} : FnOk P w K mg base (L2N.CX P w) 16 T.f_law T.d_law ["script"] (conc K B aspLaw) := by
  refine dfn T.F_law sc_law aspLaw_len (fun cdv A outer s H E hr ds M Φ Ψ hh => ⟨_, (dss_cons (ds_set (i := 1) sc_law.nd rfl (.inl rfl) (de_call ((ok__law_heap T).mono (by first | decide | exact Nat.le_refl _)) hr (by rfl) T.g__law_heap T.F__law_heap.kp T.b__law_heap (L2N.takes_of rfl rfl rfl rfl) (da_cons (dv 0) da_nil)))
      (dss_boxT (b1 := fun i : Addr × Addr => bxHeap i.1 i.2) fun bi =>
      (dss_cons (ds_for (passes_of rfl) rfl (di_rng1 (by rfl) T.z_range (da_cons de_int da_nil)) (dg_name (i := 2) sc_law.nd rfl (.inl rfl))
          (dss_cons (ds_asg (de_tup (da_cons (de_call ((ok__law_theta T bi.1 bi.2).mono (by first | decide | exact Nat.le_refl _)) hr (by rfl) T.g__law_theta T.F__law_theta.kp T.b__law_theta (L2N.takes_of rfl rfl rfl rfl) (da_cons (dv 1) da_nil)) (da_cons (de_call ((ok__law_rate T bi.1 bi.2).mono (by first | decide | exact Nat.le_refl _)) hr (by rfl) T.g__law_rate T.F__law_rate.kp T.b__law_rate (L2N.takes_of rfl rfl rfl rfl) (da_cons (dv 1) (da_cons de_int da_nil))) da_nil))) (dg_tup rfl (dgs_cons (dg_name (i := 3) sc_law.nd rfl (.inr rfl)) (dgs_cons (dg_name (i := 4) sc_law.nd rfl (.inl rfl)) dgs_nil)) (fix_cons (fix_cons fix_nil))))
            (dss_cons (ds_asg (dv 3) (dg_tup rfl (dgs_cons (dg_name (i := 5) sc_law.nd rfl (.inl rfl)) (dgs_cons (dg_name (i := 6) sc_law.nd rfl (.inl rfl)) (dgs_cons (dg_name (i := 7) sc_law.nd rfl (.inl rfl)) dgs_nil))) (fix_cons (fix_cons (fix_cons fix_nil)))))
            (dss_cons (ds_set (i := 8) sc_law.nd rfl (.inl rfl) (de_make T.M_Theta ((ok_Theta_init T).mono (by first | decide | exact Nat.le_refl _)) hr (by rfl) T.g_Theta T.b_Theta_init .nil (fun _ => .nil) (L2N.takes_of rfl rfl rfl rfl) (da_cons (dv 5) (da_cons (dv 6) (da_cons (dv 7) da_nil)))))
            (dss_cons (ds_set (i := 9) sc_law.nd rfl (.inl rfl) (de_call ((ok_theta_plan T).mono (by first | decide | exact Nat.le_refl _)) hr (by rfl) T.g_theta_plan T.F_theta_plan.kp T.b_theta_plan (L2N.takes_of rfl rfl rfl rfl) (da_cons (dv 8) (da_cons (dv 4) da_nil))))
            (dss_cons (ds_par3 (i := 10) (j := 11) (l := 12) rfl sc_law.nd rfl rfl rfl (by decide) (by decide) (by decide) rfl rfl rfl (da_cons (de_slT (dv 5) do_none (do_some de_int)) (da_cons (de_slT (dv 6) do_none (do_some de_int)) (da_cons (de_slT (dv 7) do_none (do_some de_int)) da_nil))))
            (dss_cons (ds_set (i := 13) sc_law.nd rfl (.inl rfl) (de_tup (da_cons (dv 10) (da_cons (dv 11) (da_cons (de_catT (dv 5) (dv 12)) (da_cons (de_catT (dv 6) (dv 12)) (da_cons (de_catT (dv 7) (dv 10)) (da_cons (de_catT (dv 7) (dv 11)) da_nil))))))))
            (dss_cons (ds_set (i := 14) sc_law.nd rfl (.inl rfl) (de_tup (da_cons (dv 10) (da_cons (dv 11) (da_cons (dv 12) (da_cons (de_catT (dv 5) (dv 12)) (da_cons (de_catT (dv 6) (dv 12)) (da_cons (de_catT (dv 7) (dv 10)) (da_cons (de_catT (dv 7) (dv 11)) da_nil)))))))))
            (dss_cons (ds_if (dt_w (dw_or (dt_not (dt_val (de_call ((ok__law_like T 4).mono (by first | decide | exact Nat.le_refl _)) hr (by rfl) T.g__law_like T.F__law_like.kp T.b__law_like (L2N.takes_of rfl rfl rfl rfl) (da_cons (de_call ((ok_theta_ways T).mono (by first | decide | exact Nat.le_refl _)) hr (by rfl) T.g_theta_ways T.F_theta_ways.kp T.b_theta_ways (L2N.takes_of rfl rfl rfl rfl) (da_cons (dv 8) da_nil)) (da_cons (dv 13) da_nil))))) (dw_or1 (dt_not (dt_val (de_call ((ok__law_like T 4).mono (by first | decide | exact Nat.le_refl _)) hr (by rfl) T.g__law_like T.F__law_like.kp T.b__law_like (L2N.takes_of rfl rfl rfl rfl) (da_cons (de_tup (da_cons (de_call ((ok_theta_order T).mono (by first | decide | exact Nat.le_refl _)) hr (by rfl) T.g_theta_order T.F_theta_order.kp T.b_theta_order (L2N.takes_of rfl rfl rfl rfl) (da_cons (dv 8) da_nil)) (da_cons (de_fld (dv 9)) da_nil))) (da_cons (de_tup (da_cons (dv 14) (da_cons (dv 14) da_nil))) da_nil))))))))
              (dss_one (ds_ret de_bl))
              dss_nil)
            (dss_cons (ds_if (dt_not (dt_val (de_all rfl (by rfl) T.z_all (de_lc (own := [("way", 15)]) rfl sc_law.nd (di_seq (dv 13)) (blkOk_by (N := n_law) (sc := defScope s_law) (by decide +kernel)) (fun _ _ _ _ _ => (dg_name (i := 15) sc_law.nd rfl (.inl rfl))) (fun _ _ _ _ _ => dts_nil) (fun _ _ _ _ _ => (de_call ((ok__law_is_way T).mono (by first | decide | exact Nat.le_refl _)) hr (by rfl) T.g__law_is_way T.F__law_is_way.kp T.b__law_is_way tk_calm (da_cons (dv 3) (da_cons (dv 15) da_nil))))))))
              (dss_one (ds_ret de_bl))
              dss_nil)
            (dss_cons (ds_if (dt_not (dt_val (de_call ((ok__law_like T 4).mono (by first | decide | exact Nat.le_refl _)) hr (by rfl) T.g__law_like T.F__law_like.kp T.b__law_like (L2N.takes_of rfl rfl rfl rfl) (da_cons (de_tup (da_cons (de_fld (dv 9)) (da_cons (de_fld (dv 9)) (da_cons (de_fld (dv 9)) da_nil)))) (da_cons (de_tup (da_cons (dv 4) (da_cons (de_item (dv 7) de_int) (da_cons (de_catT (dv 7) (dv 10)) da_nil)))) da_nil)))))
              (dss_one (ds_ret de_bl))
              dss_nil)
            (dss_cons (ds_set (i := 16) sc_law.nd rfl (.inl rfl) (de_sub (de_len (by rfl) T.z_len (dv 5)) (de_len (by rfl) T.z_len (dv 6))))
            (dss_cons (ds_if (dt_not (dt_val (de_call ((ok__law_like T 4).mono (by first | decide | exact Nat.le_refl _)) hr (by rfl) T.g__law_like T.F__law_like.kp T.b__law_like (L2N.takes_of rfl rfl rfl rfl) (da_cons (de_tup (da_cons (de_fld (dv 9)) (da_cons (de_fld (dv 9)) da_nil))) (da_cons (de_tup (da_cons (de_max2 rfl (by rfl) T.z_max de_int (dv 16)) (da_cons (de_abs (by rfl) T.z_abs (dv 16)) da_nil))) da_nil)))))
              (dss_one (ds_ret de_bl))
              dss_nil)
            (dss_cons (ds_asg (dv 4) (dg_tup rfl (dgs_cons (dg_name (i := 17) sc_law.nd rfl (.inl rfl)) (dgs_cons (dg_name (i := 18) sc_law.nd rfl (.inl rfl)) dgs_nil)) (fix_cons (fix_cons fix_nil))))
            (dss_cons (ds_if (dt_not (dt_val (de_call ((ok__law_like T 4).mono (by first | decide | exact Nat.le_refl _)) hr (by rfl) T.g__law_like T.F__law_like.kp T.b__law_like (L2N.takes_of rfl rfl rfl rfl) (da_cons (de_fld (de_call ((ok_plan_chain T).mono (by first | decide | exact Nat.le_refl _)) hr (by rfl) T.g_plan_chain T.F_plan_chain.kp T.b_plan_chain (L2N.takes_of rfl rfl rfl rfl) (da_cons (dv 9) da_nil))) (da_cons (de_catT (de_repT (de_tup (da_cons (de_tup (da_cons (dv 17) (da_cons (dv 18) (da_cons de_int da_nil)))) da_nil)) de_int) (de_tup (da_cons (de_tup (da_cons (de_mul de_int (dv 17)) (da_cons (dv 18) (da_cons de_int da_nil)))) da_nil))) da_nil)))))
              (dss_one (ds_ret de_bl))
              dss_nil)
            (dss_one (ds_for (passes_of rfl) rfl (di_seq (de_lst (da_cons (de_call ((ok__law_draw_box T bi.1 bi.2).mono (by first | decide | exact Nat.le_refl _)) hr (by rfl) T.g__law_draw T.F__law_draw.kp T.b__law_draw (L2N.takes_of rfl rfl rfl rfl) (da_cons (dv 1) (da_cons de_int da_nil))) (da_cons (de_call ((ok__law_draw_box T bi.1 bi.2).mono (by first | decide | exact Nat.le_refl _)) hr (by rfl) T.g__law_draw T.F__law_draw.kp T.b__law_draw (L2N.takes_of rfl rfl rfl rfl) (da_cons (dv 1) (da_cons (de_call ((ok__law_pick T bi.1 bi.2).mono (by first | decide | exact Nat.le_refl _)) hr (by rfl) T.g__law_pick T.F__law_pick.kp T.b__law_pick (L2N.takes_of rfl rfl rfl rfl) (da_cons (dv 1) (da_cons (de_lst (da_cons de_int (da_cons de_int (da_cons (de_pow de_int de_int) (da_cons (de_pow de_int de_int) da_nil))))) da_nil))) da_nil))) da_nil)))) (dg_name (i := 19) sc_law.nd rfl (.inl rfl))
              (dss_one (ds_if (dt_not (dt_val (de_call ((ok__law_right T bi.1 bi.2).mono (by first | decide | exact Nat.le_refl _)) hr (by rfl) T.g__law_right T.F__law_right.kp T.b__law_right (L2N.takes_of rfl rfl rfl rfl) (da_cons (dv 1) (da_cons (dv 4) (da_cons (dv 3) (da_cons (dv 9) (da_cons (dv 19) da_nil))))))))
                  (dss_one (ds_ret de_bl))
                  dss_nil)))))))))))))))))))
        (dss_one (ds_ret de_bl))))), ?_⟩)
  obtain ⟨ns, rfl, hl, rfl, hq⟩ := hh
  rw [st_law]
  walk_at "st"
  refine ⟨ns, rfl, hl, fun h c cs s hcs => ⟨(h, c), [], fun K F H x => heapB_close hcs x, ?_⟩⟩
  refine aSeq_step ?_
  refine aFor_rng 0 2 (fun i Γ' M' => ∃ x2 x3 x4 x5 x6 x7 x8 x9 x10 x11 x12 x13 x14 x15 x16 x17 x18 x19, Γ' = [some (.lst (List.map D.int ns)), some (.ref h), x2, x3, x4, x5, x6, x7, x8, x9, x10, x11, x12, x13, x14, x15, x16, x17, x18, x19] ∧ M' = []) (fun Φ' q => ?_) ⟨_, _, _, _, _, _, _, _, _, _, _, _, _, _, _, _, _, _, rfl, rfl⟩ ?_ ?_
  · walk_at "ev"
    exact ⟨⟨by decide, by decide⟩, q⟩
  · rintro i Γ' M' hi ⟨x2, x3, x4, x5, x6, x7, x8, x9, x10, x11, x12, x13, x14, x15, x16, x17, x18, x19, rfl, rfl⟩
    refine ⟨_, rfl, ?_⟩
    walk_at "st"
    refine ⟨rfl, fun F G B' hT => ⟨rfl, rfl, fun p q hp => ?_⟩⟩
    have hT' := hT
    obtain ⟨f0, f1, g0, g1, b0, b1, nd⟩ := hT'
    have l1 : ∀ xs : List Int, (xs.take 1).length ≤ 1 := fun xs => by rw [List.length_take]; omega
    have lf := l1 F
    have lg := l1 G
    have lb := l1 B'
    obtain ⟨sw, so⟩ := shp_ws hT
    have so2 : shp 3 (.tup [.tup ((orderL F G B').map iT), .tup ((orderL F G B').map iT)]) = true := shp_tup (by show 2 ≤ 1000; decide) fun d hd => by
      simp only [List.mem_cons, List.not_mem_nil, or_false] at hd
      rcases hd with rfl | rfl <;> exact so
    unfold rowD
    refine ⟨by decide, ?_⟩
    refine aSeq_cut ?Ga ?Ma (fun k kq => ?ha) ?qa
    case ha =>
      walk_at "ev"
      exact kq
    refine aSeq_cut ?Gb ?Mb (fun k kq => ?hb) ?qb
    case hb =>
      walk_at "ev"
      refine fun x => ⟨[], rfl, rfl, _, _, _, .here, ?_⟩
      exact kq
    refine aSeq_cut ?Gc ?Mc (fun k kq => ?hc) ?qc
    case hc =>
      walk_at "ev"
      refine ⟨F, G, B', rfl, hT, hp, ?_⟩
      exact kq
    refine aSeq_cut ?Gd ?Md (fun k kq => ?hd) ?qd
    case hd =>
      walk_at "ev"
      rw [cut1, cut1, cut1]
      exact kq
    refine aSeq_cut ?Ge ?Me (fun k kq => ?he) ?qe
    case he =>
      walk_at "ev"
      simp only [← List.map_append, List.length_map]
      refine ⟨by omega, by omega, by omega, by omega, by decide, ?_⟩
      exact kq
    refine aSeq_cut ?Gf ?Mf (fun k kq => ?hf) ?qf
    case hf =>
      walk_at "ev"
      simp only [← List.map_append, List.length_map]
      refine ⟨by omega, by omega, by omega, by omega, by decide, ?_⟩
      exact kq
    walk_at "st"
    refine ⟨F, G, B', rfl, hT, _, _, rfl, ⟨rfl, sw⟩, fun z => Bool.noConfusion z, fun _ => ⟨F, G, B', rfl, hT, ?_⟩⟩
    unfold planD
    walk_at "ev"
    refine ⟨⟨T.k_Plan, T.a_Plan_order⟩, by decide, by decide, _, _, rfl, ⟨rfl, so2⟩, fun z => Bool.noConfusion z, fun _ => ?_⟩
    walk_at "st"
    refine aLc_map (waysL F G B') iT (fun _ => .bl true) (fun Φ' q => ?_) (by show 6 ≤ 100000; decide) (fun w hw M2 => ⟨[some (.lst (List.map D.int ns)), some (.ref h), some (.int (0 + (i : Nat))), some (.tup [iT F, iT G, iT B']), some (.tup [.int p, .int q]), some (iT F), some (iT G), some (iT B'), some (.ins T.C_Theta ["first", "second", "back"] [iT F, iT G, iT B']), some (planD T.C_Plan F G B' p q), some (iT (F.take 1)), some (iT (G.take 1)), some (iT (B'.take 1)), some (.tup ((waysL F G B').map iT)), some (.tup ((orderL F G B').map iT)), some (iT w), x16, x17, x18, x19], rfl, fun Φ' q => ?_⟩) ?_
    · walk_at "ev"
      exact q
    · walk_at "ev"
      exact ⟨F, G, B', w, rfl, rfl, hT, hw, q⟩
    walk_at "ev"
    refine ⟨List.replicate (waysL F G B').length true, by rw [List.map_const', List.map_replicate], ?_⟩
    rw [all_true]
    refine ⟨fun z => Bool.noConfusion z, fun _ => ?_⟩
    obtain ⟨f, fs, rfl⟩ := List.exists_cons_of_length_pos b0
    walk_at "st"
    refine ⟨⟨T.k_Plan, T.a_Plan_rate⟩, ⟨T.k_Plan, T.a_Plan_gate⟩, ⟨T.k_Plan, T.a_Plan_way⟩, by decide, onD_go (x := .int f) rfl ?_⟩
    rw [← List.map_append, List.length_map, List.length_map]
    refine ⟨by omega, by decide, _, _, rfl, ⟨rfl, ?_⟩, fun z => Bool.noConfusion z, fun _ => ?_⟩
    · refine shp_tup (by show 3 ≤ 1000; decide) fun d hd => ?_
      simp only [List.mem_cons, List.not_mem_nil, or_false] at hd
      rcases hd with rfl | rfl | rfl
      · rfl
      · rfl
      · refine shp_iT ?_
        rw [List.length_append]
        omega
    refine aSeq_cut ?Gg ?Mg (fun k kq => ?hg) ?qg
    case hg =>
      walk_at "ev"
      simp only [List.length_map]
      exact kq
    walk_at "st"
    refine ⟨⟨T.k_Plan, T.a_Plan_late⟩, ⟨T.k_Plan, T.a_Plan_gap⟩, by decide, by decide, _, _, rfl, ⟨rfl, rfl⟩, fun z => Bool.noConfusion z, fun _ => ?_⟩
    refine aSeq_cut ?Gh ?Mh (fun k kq => ?hh) ?qh
    case hh =>
      walk_at "ev"
      exact kq
    walk_at "st"
    refine ⟨F, G, f :: fs, p, q, rfl, ⟨hT, hp⟩, ⟨T.k_Chain, T.a_Chain_links⟩, by decide, by decide, ⟨List.cons_ne_nil _ _, by decide, by decide, by decide⟩, .inl ⟨by decide, by decide⟩, by decide, by decide, Nat.le_of_ble_eq_true rfl, _, _, rfl, ⟨rfl, rfl⟩, fun z => Bool.noConfusion z, fun _ => ?_⟩
    refine aFor_mapP (fun xs : List Int => ∀ x ∈ xs, 0 ≤ x ∧ x ≤ 1000000000) D.int (fun xs k Γ' M' => ∃ y2 y5 y6 y7 y8 y10 y11 y12 y13 y14 y15 y16 y17 y18 y19, Γ' = [some (.lst (List.map D.int ns)), some (.ref h), y2, some (.tup [iT F, iT G, iT (f :: fs)]), some (.tup [.int p, .int q]), y5, y6, y7, y8, some (planD T.C_Plan F G (f :: fs) p q), y10, y11, y12, y13, y14, y15, y16, y17, y18, y19] ∧ M' = []) (fun Φ' qq => ?_) (fun xs hx => ⟨_, _, _, _, _, _, _, _, _, _, _, _, _, _, _, rfl, rfl⟩) ?_ ?_
    · walk_at "ev"
      rw [show (10 : Int) ^ Int.toNat 6 = 1000000 by decide +kernel, show (10 : Int) ^ Int.toNat 9 = 1000000000 by decide +kernel]
      refine ⟨rfl, by walk_at "ok", fun r r0 r1 => ⟨⟨by decide, by decide, by decide⟩, ⟨by decide, by decide, by decide⟩, by decide, rfl, by decide, pick_as (emb := D.int) (R := fun x => 1 ≤ x ∧ x ≤ 1000000000) (by walk_at "mem") fun y hy => ⟨rfl, divOk_of (by omega) (by omega), fun r' r0' r1' => ⟨by decide, qq [r, r'] fun x hx => ?_⟩⟩⟩⟩
      simp only [List.mem_cons, List.not_mem_nil, or_false] at hx
      omega
    · rintro xs k s Γ' M' hx hs ⟨y2, y5, y6, y7, y8, y10, y11, y12, y13, y14, y15, y16, y17, y18, y19, rfl, rfl⟩
      refine ⟨_, rfl, ?_⟩
      have hs := hx s (List.mem_of_getElem? hs)
      walk_at "ev"
      exact ⟨rfl, F, G, f :: fs, rfl, rfl, ⟨hT, hp⟩, hs, fun z => Bool.noConfusion z, fun _ => ⟨_, _, _, _, _, _, _, _, _, _, _, _, _, _, _, rfl, rfl⟩⟩
    · rintro xs Γ' M' hx ⟨y2, y5, y6, y7, y8, y10, y11, y12, y13, y14, y15, y16, y17, y18, y19, rfl, rfl⟩
      exact ⟨_, _, _, _, _, _, _, _, _, _, _, _, _, _, _, _, _, _, rfl, rfl⟩
  · rintro Γ' M' ⟨x2, x3, x4, x5, x6, x7, x8, x9, x10, x11, x12, x13, x14, x15, x16, x17, x18, x19, rfl, rfl⟩
    walk_at "ev"
    exact hq _

end
theorem all_mk {l : PySem.W.OpenLaw} {w : World} {K : PySem.W.Frag} {h : Heap} {mg : Str → Option Value} {fa : Addr} (X : K.In h) (G : h.Ns mainGlobals mg) (hfa : mg "law" = some (.ref fa))
    {C_Chain : Addr} {C_Plan : Addr} {C_Theta : Addr} {C_InvalidChain : Addr} {C_Refused : Addr} {f0 : Addr} {od0 an0 : Option Addr} {sl0 : Array (Option Value)} {oc0 kV0 dc0 pm0 cd0 ct0 : Value} {f1 : Addr} {od1 an1 : Option Addr} {sl1 : Array (Option Value)} {oc1 kV1 dc1 pm1 cd1 ct1 : Value} {T1 : Addr} {tc1 : Value} {td1 : Option Addr} {tn1 : Nat} {ts1 : Array (Option Value)} {f2 : Addr} {od2 an2 : Option Addr} {sl2 : Array (Option Value)} {oc2 kV2 dc2 pm2 cd2 ct2 : Value} {f3 : Addr} {od3 an3 : Option Addr} {sl3 : Array (Option Value)} {oc3 kV3 dc3 pm3 cd3 ct3 : Value} {f4 : Addr} {od4 an4 : Option Addr} {sl4 : Array (Option Value)} {oc4 kV4 dc4 pm4 cd4 ct4 : Value} {f5 : Addr} {od5 an5 : Option Addr} {sl5 : Array (Option Value)} {oc5 kV5 dc5 pm5 cd5 ct5 : Value} {f6 : Addr} {od6 an6 : Option Addr} {sl6 : Array (Option Value)} {oc6 kV6 dc6 pm6 cd6 ct6 : Value} {f7 : Addr} {od7 an7 : Option Addr} {sl7 : Array (Option Value)} {oc7 kV7 dc7 pm7 cd7 ct7 : Value} {f8 : Addr} {od8 an8 : Option Addr} {sl8 : Array (Option Value)} {oc8 kV8 dc8 pm8 cd8 ct8 : Value} {f9 : Addr} {od9 an9 : Option Addr} {sl9 : Array (Option Value)} {oc9 kV9 dc9 pm9 cd9 ct9 : Value} {f10 : Addr} {od10 an10 : Option Addr} {sl10 : Array (Option Value)} {oc10 kV10 dc10 pm10 cd10 ct10 : Value} {f11 : Addr} {od11 an11 : Option Addr} {sl11 : Array (Option Value)} {oc11 kV11 dc11 pm11 cd11 ct11 : Value} {f12 : Addr} {od12 an12 : Option Addr} {sl12 : Array (Option Value)} {oc12 kV12 dc12 pm12 cd12 ct12 : Value} {f13 : Addr} {od13 an13 : Option Addr} {sl13 : Array (Option Value)} {oc13 kV13 dc13 pm13 cd13 ct13 : Value} {f14 : Addr} {od14 an14 : Option Addr} {sl14 : Array (Option Value)} {oc14 kV14 dc14 pm14 cd14 ct14 : Value} {f15 : Addr} {od15 an15 : Option Addr} {sl15 : Array (Option Value)} {oc15 kV15 dc15 pm15 cd15 ct15 : Value} {f16 : Addr} {od16 an16 : Option Addr} {sl16 : Array (Option Value)} {oc16 kV16 dc16 pm16 cd16 ct16 : Value} {f17 : Addr} {od17 an17 : Option Addr} {sl17 : Array (Option Value)} {oc17 kV17 dc17 pm17 cd17 ct17 : Value} {f18 : Addr} {od18 an18 : Option Addr} {sl18 : Array (Option Value)} {oc18 kV18 dc18 pm18 cd18 ct18 : Value} {f19 : Addr} {od19 an19 : Option Addr} {sl19 : Array (Option Value)} {oc19 kV19 dc19 pm19 cd19 ct19 : Value} {f20 : Addr} {od20 an20 : Option Addr} {sl20 : Array (Option Value)} {oc20 kV20 dc20 pm20 cd20 ct20 : Value} {f21 : Addr} {od21 an21 : Option Addr} {sl21 : Array (Option Value)} {oc21 kV21 dc21 pm21 cd21 ct21 : Value} {f22 : Addr} {od22 an22 : Option Addr} {sl22 : Array (Option Value)} {oc22 kV22 dc22 pm22 cd22 ct22 : Value} {f23 : Addr} {od23 an23 : Option Addr} {sl23 : Array (Option Value)} {oc23 kV23 dc23 pm23 cd23 ct23 : Value} {f24 : Addr} {od24 an24 : Option Addr} {sl24 : Array (Option Value)} {oc24 kV24 dc24 pm24 cd24 ct24 : Value} {f25 : Addr} {od25 an25 : Option Addr} {sl25 : Array (Option Value)} {oc25 kV25 dc25 pm25 cd25 ct25 : Value} {f26 : Addr} {od26 an26 : Option Addr} {sl26 : Array (Option Value)} {oc26 kV26 dc26 pm26 cd26 ct26 : Value} {f27 : Addr} {od27 an27 : Option Addr} {sl27 : Array (Option Value)} {oc27 kV27 dc27 pm27 cd27 ct27 : Value} {f28 : Addr} {od28 an28 : Option Addr} {sl28 : Array (Option Value)} {oc28 kV28 dc28 pm28 cd28 ct28 : Value} {f29 : Addr} {od29 an29 : Option Addr} {sl29 : Array (Option Value)} {oc29 kV29 dc29 pm29 cd29 ct29 : Value} {f30 : Addr} {od30 an30 : Option Addr} {sl30 : Array (Option Value)} {oc30 kV30 dc30 pm30 cd30 ct30 : Value} {f31 : Addr} {od31 an31 : Option Addr} {sl31 : Array (Option Value)} {oc31 kV31 dc31 pm31 cd31 ct31 : Value} {f32 : Addr} {od32 an32 : Option Addr} {sl32 : Array (Option Value)} {oc32 kV32 dc32 pm32 cd32 ct32 : Value} {f33 : Addr} {od33 an33 : Option Addr} {sl33 : Array (Option Value)} {oc33 kV33 dc33 pm33 cd33 ct33 : Value} {f34 : Addr} {od34 an34 : Option Addr} {sl34 : Array (Option Value)} {oc34 kV34 dc34 pm34 cd34 ct34 : Value} {x_fInvalidChain x_ccInvalidChain x_cdInvalidChain x_NInvalidChain : Addr} {x_ocInvalidChain x_dcInvalidChain x_pmInvalidChain x_ctInvalidChain x_clInvalidChain x_cmInvalidChain : Value} {x_odInvalidChain x_anInvalidChain x_cddInvalidChain x_cldInvalidChain x_ddInvalidChain : Option Addr} {x_slInvalidChain x_ccsInvalidChain x_cslInvalidChain : Array (Option Value)} {x_vsInvalidChain : Array Value} {x_fileInvalidChain x_nmInvalidChain x_qInvalidChain : Str} {x_tfInvalidChain : Tok} {x_bsInvalidChain x_bmInvalidChain x_subInvalidChain : List Value} {x_snInvalidChain : List Str} {x_abInvalidChain : Bool} {x_colInvalidChain : Option Bool} {x_k0InvalidChain x_k1InvalidChain x_k2InvalidChain x_k3InvalidChain x_k5InvalidChain : Option Value} {x_fRefused x_ccRefused x_cdRefused x_NRefused : Addr} {x_ocRefused x_dcRefused x_pmRefused x_ctRefused x_clRefused x_cmRefused : Value} {x_odRefused x_anRefused x_cddRefused x_cldRefused x_ddRefused : Option Addr} {x_slRefused x_ccsRefused x_cslRefused : Array (Option Value)} {x_vsRefused : Array Value} {x_fileRefused x_nmRefused x_qRefused : Str} {x_tfRefused : Tok} {x_bsRefused x_bmRefused x_subRefused : List Value} {x_snRefused : List Str} {x_abRefused : Bool} {x_colRefused : Option Bool} {x_k0Refused x_k1Refused x_k2Refused x_k3Refused x_k5Refused : Option Value} {q_tMOST_LINKS : Tok} {q_tMOST_TOP : Tok} {q_tMOST_LESS : Tok} {q_tMOST_PHASES : Tok} {o_NONE : Addr} {od_NONE : Option Addr} {on_NONE : Nat} {os_NONE : Array (Option Value)} {q0_NONE q1_NONE q2_NONE q3_NONE q4_NONE q5_NONE : Tok}
    (a_Chain : PySem.W.nsIn K mainGlobals "Chain" = some (some (.ref C_Chain)))
    (a_Plan : PySem.W.nsIn K mainGlobals "Plan" = some (some (.ref C_Plan)))
    (a_Theta : PySem.W.nsIn K mainGlobals "Theta" = some (some (.ref C_Theta)))
    (a_InvalidChain : PySem.W.nsIn K mainGlobals "InvalidChain" = some (some (.ref C_InvalidChain)))
    (a_Refused : PySem.W.nsIn K mainGlobals "Refused" = some (some (.ref C_Refused)))
    (a0 : PySem.W.nsIn K mainGlobals "is_integer" = some (some (.ref f0)))
    (l0 : K.lookup f0 = some ⟨oc0, od0, .func (PySem.W.fnOf "is_integer" "is_integer" (defArgs s_is_integer) (defBody s_is_integer) (defScope s_is_integer) .none kV0 dc0 pm0 an0 cd0 ct0), sl0⟩)
    (c0 : PySem.W.codeIn K cd0 "is_integer" = true)
    (k0 : PySem.W.keepIn K (.ref f0) = true)
    (a1 : PySem.W.nsIn K mainGlobals "is_number" = some (some (.ref f1)))
    (l1 : K.lookup f1 = some ⟨oc1, od1, .func (PySem.W.fnOf "is_number" "is_number" (defArgs s_is_number) (defBody s_is_number) (defScope s_is_number) (.ref T1) kV1 dc1 pm1 an1 cd1 ct1), sl1⟩)
    (c1 : PySem.W.codeIn K cd1 "is_number" = true)
    (k1 : PySem.W.keepIn K (.ref f1) = true)
    (t1 : K.lookup T1 = some ⟨tc1, td1, .seq #[Value.none] tn1, ts1⟩)
    (a2 : PySem.W.nsIn K mainGlobals "is_sequence" = some (some (.ref f2)))
    (l2 : K.lookup f2 = some ⟨oc2, od2, .func (PySem.W.fnOf "is_sequence" "is_sequence" (defArgs s_is_sequence) (defBody s_is_sequence) (defScope s_is_sequence) .none kV2 dc2 pm2 an2 cd2 ct2), sl2⟩)
    (c2 : PySem.W.codeIn K cd2 "is_sequence" = true)
    (k2 : PySem.W.keepIn K (.ref f2) = true)
    (a3 : PySem.W.nsIn K mainGlobals "is_link" = some (some (.ref f3)))
    (l3 : K.lookup f3 = some ⟨oc3, od3, .func (PySem.W.fnOf "is_link" "is_link" (defArgs s_is_link) (defBody s_is_link) (defScope s_is_link) .none kV3 dc3 pm3 an3 cd3 ct3), sl3⟩)
    (c3 : PySem.W.codeIn K cd3 "is_link" = true)
    (k3 : PySem.W.keepIn K (.ref f3) = true)
    (a4 : PySem.W.findIn K (.ref C_Chain) "__init__" = some (some (.ref f4)))
    (l4 : K.lookup f4 = some ⟨oc4, od4, .func (PySem.W.fnOf "__init__" "Chain.__init__" (defArgs s_Chain_init) (defBody s_Chain_init) (defScope s_Chain_init) .none kV4 dc4 pm4 an4 cd4 ct4), sl4⟩)
    (c4 : PySem.W.codeIn K cd4 "Chain.__init__" = true)
    (k4 : PySem.W.keepIn K (.ref f4) = true)
    (a5 : PySem.W.nsIn K mainGlobals "slots_in" = some (some (.ref f5)))
    (l5 : K.lookup f5 = some ⟨oc5, od5, .func (PySem.W.fnOf "slots_in" "slots_in" (defArgs s_slots_in) (defBody s_slots_in) (defScope s_slots_in) .none kV5 dc5 pm5 an5 cd5 ct5), sl5⟩)
    (c5 : PySem.W.codeIn K cd5 "slots_in" = true)
    (k5 : PySem.W.keepIn K (.ref f5) = true)
    (a6 : PySem.W.nsIn K mainGlobals "late_in" = some (some (.ref f6)))
    (l6 : K.lookup f6 = some ⟨oc6, od6, .func (PySem.W.fnOf "late_in" "late_in" (defArgs s_late_in) (defBody s_late_in) (defScope s_late_in) .none kV6 dc6 pm6 an6 cd6 ct6), sl6⟩)
    (c6 : PySem.W.codeIn K cd6 "late_in" = true)
    (k6 : PySem.W.keepIn K (.ref f6) = true)
    (a7 : PySem.W.findIn K (.ref C_Plan) "__init__" = some (some (.ref f7)))
    (l7 : K.lookup f7 = some ⟨oc7, od7, .func (PySem.W.fnOf "__init__" "Plan.__init__" (defArgs s_Plan_init) (defBody s_Plan_init) (defScope s_Plan_init) .none kV7 dc7 pm7 an7 cd7 ct7), sl7⟩)
    (c7 : PySem.W.codeIn K cd7 "Plan.__init__" = true)
    (k7 : PySem.W.keepIn K (.ref f7) = true)
    (a8 : PySem.W.nsIn K mainGlobals "counts_of" = some (some (.ref f8)))
    (l8 : K.lookup f8 = some ⟨oc8, od8, .func (PySem.W.fnOf "counts_of" "counts_of" (defArgs s_counts_of) (defBody s_counts_of) (defScope s_counts_of) .none kV8 dc8 pm8 an8 cd8 ct8), sl8⟩)
    (c8 : PySem.W.codeIn K cd8 "counts_of" = true)
    (k8 : PySem.W.keepIn K (.ref f8) = true)
    (a9 : PySem.W.nsIn K mainGlobals "worth_of" = some (some (.ref f9)))
    (l9 : K.lookup f9 = some ⟨oc9, od9, .func (PySem.W.fnOf "worth_of" "worth_of" (defArgs s_worth_of) (defBody s_worth_of) (defScope s_worth_of) .none kV9 dc9 pm9 an9 cd9 ct9), sl9⟩)
    (c9 : PySem.W.codeIn K cd9 "worth_of" = true)
    (k9 : PySem.W.keepIn K (.ref f9) = true)
    (a10 : PySem.W.nsIn K mainGlobals "next_of" = some (some (.ref f10)))
    (l10 : K.lookup f10 = some ⟨oc10, od10, .func (PySem.W.fnOf "next_of" "next_of" (defArgs s_next_of) (defBody s_next_of) (defScope s_next_of) .none kV10 dc10 pm10 an10 cd10 ct10), sl10⟩)
    (c10 : PySem.W.codeIn K cd10 "next_of" = true)
    (k10 : PySem.W.keepIn K (.ref f10) = true)
    (a11 : PySem.W.nsIn K mainGlobals "length_of" = some (some (.ref f11)))
    (l11 : K.lookup f11 = some ⟨oc11, od11, .func (PySem.W.fnOf "length_of" "length_of" (defArgs s_length_of) (defBody s_length_of) (defScope s_length_of) .none kV11 dc11 pm11 an11 cd11 ct11), sl11⟩)
    (c11 : PySem.W.codeIn K cd11 "length_of" = true)
    (k11 : PySem.W.keepIn K (.ref f11) = true)
    (a12 : PySem.W.nsIn K mainGlobals "spans_of" = some (some (.ref f12)))
    (l12 : K.lookup f12 = some ⟨oc12, od12, .func (PySem.W.fnOf "spans_of" "spans_of" (defArgs s_spans_of) (defBody s_spans_of) (defScope s_spans_of) .none kV12 dc12 pm12 an12 cd12 ct12), sl12⟩)
    (c12 : PySem.W.codeIn K cd12 "spans_of" = true)
    (k12 : PySem.W.keepIn K (.ref f12) = true)
    (a13 : PySem.W.nsIn K mainGlobals "plan_chain" = some (some (.ref f13)))
    (l13 : K.lookup f13 = some ⟨oc13, od13, .func (PySem.W.fnOf "plan_chain" "plan_chain" (defArgs s_plan_chain) (defBody s_plan_chain) (defScope s_plan_chain) .none kV13 dc13 pm13 an13 cd13 ct13), sl13⟩)
    (c13 : PySem.W.codeIn K cd13 "plan_chain" = true)
    (k13 : PySem.W.keepIn K (.ref f13) = true)
    (a14 : PySem.W.nsIn K mainGlobals "phase_of" = some (some (.ref f14)))
    (l14 : K.lookup f14 = some ⟨oc14, od14, .func (PySem.W.fnOf "phase_of" "phase_of" (defArgs s_phase_of) (defBody s_phase_of) (defScope s_phase_of) .none kV14 dc14 pm14 an14 cd14 ct14), sl14⟩)
    (c14 : PySem.W.codeIn K cd14 "phase_of" = true)
    (k14 : PySem.W.keepIn K (.ref f14) = true)
    (a15 : PySem.W.nsIn K mainGlobals "burst_of" = some (some (.ref f15)))
    (l15 : K.lookup f15 = some ⟨oc15, od15, .func (PySem.W.fnOf "burst_of" "burst_of" (defArgs s_burst_of) (defBody s_burst_of) (defScope s_burst_of) .none kV15 dc15 pm15 an15 cd15 ct15), sl15⟩)
    (c15 : PySem.W.codeIn K cd15 "burst_of" = true)
    (k15 : PySem.W.keepIn K (.ref f15) = true)
    (a16 : PySem.W.findIn K (.ref C_Theta) "__init__" = some (some (.ref f16)))
    (l16 : K.lookup f16 = some ⟨oc16, od16, .func (PySem.W.fnOf "__init__" "Theta.__init__" (defArgs s_Theta_init) (defBody s_Theta_init) (defScope s_Theta_init) .none kV16 dc16 pm16 an16 cd16 ct16), sl16⟩)
    (c16 : PySem.W.codeIn K cd16 "Theta.__init__" = true)
    (k16 : PySem.W.keepIn K (.ref f16) = true)
    (a17 : PySem.W.nsIn K mainGlobals "theta_ways" = some (some (.ref f17)))
    (l17 : K.lookup f17 = some ⟨oc17, od17, .func (PySem.W.fnOf "theta_ways" "theta_ways" (defArgs s_theta_ways) (defBody s_theta_ways) (defScope s_theta_ways) .none kV17 dc17 pm17 an17 cd17 ct17), sl17⟩)
    (c17 : PySem.W.codeIn K cd17 "theta_ways" = true)
    (k17 : PySem.W.keepIn K (.ref f17) = true)
    (a18 : PySem.W.nsIn K mainGlobals "theta_order" = some (some (.ref f18)))
    (l18 : K.lookup f18 = some ⟨oc18, od18, .func (PySem.W.fnOf "theta_order" "theta_order" (defArgs s_theta_order) (defBody s_theta_order) (defScope s_theta_order) .none kV18 dc18 pm18 an18 cd18 ct18), sl18⟩)
    (c18 : PySem.W.codeIn K cd18 "theta_order" = true)
    (k18 : PySem.W.keepIn K (.ref f18) = true)
    (a19 : PySem.W.nsIn K mainGlobals "theta_streams" = some (some (.ref f19)))
    (l19 : K.lookup f19 = some ⟨oc19, od19, .func (PySem.W.fnOf "theta_streams" "theta_streams" (defArgs s_theta_streams) (defBody s_theta_streams) (defScope s_theta_streams) .none kV19 dc19 pm19 an19 cd19 ct19), sl19⟩)
    (c19 : PySem.W.codeIn K cd19 "theta_streams" = true)
    (k19 : PySem.W.keepIn K (.ref f19) = true)
    (a20 : PySem.W.nsIn K mainGlobals "theta_plan" = some (some (.ref f20)))
    (l20 : K.lookup f20 = some ⟨oc20, od20, .func (PySem.W.fnOf "theta_plan" "theta_plan" (defArgs s_theta_plan) (defBody s_theta_plan) (defScope s_theta_plan) .none kV20 dc20 pm20 an20 cd20 ct20), sl20⟩)
    (c20 : PySem.W.codeIn K cd20 "theta_plan" = true)
    (k20 : PySem.W.keepIn K (.ref f20) = true)
    (a21 : PySem.W.nsIn K mainGlobals "_law_heap" = some (some (.ref f21)))
    (l21 : K.lookup f21 = some ⟨oc21, od21, .func (PySem.W.fnOf "_law_heap" "_law_heap" (defArgs s__law_heap) (defBody s__law_heap) (defScope s__law_heap) .none kV21 dc21 pm21 an21 cd21 ct21), sl21⟩)
    (c21 : PySem.W.codeIn K cd21 "_law_heap" = true)
    (k21 : PySem.W.keepIn K (.ref f21) = true)
    (a22 : PySem.W.nsIn K mainGlobals "_law_draw" = some (some (.ref f22)))
    (l22 : K.lookup f22 = some ⟨oc22, od22, .func (PySem.W.fnOf "_law_draw" "_law_draw" (defArgs s__law_draw) (defBody s__law_draw) (defScope s__law_draw) .none kV22 dc22 pm22 an22 cd22 ct22), sl22⟩)
    (c22 : PySem.W.codeIn K cd22 "_law_draw" = true)
    (k22 : PySem.W.keepIn K (.ref f22) = true)
    (a23 : PySem.W.nsIn K mainGlobals "_law_pick" = some (some (.ref f23)))
    (l23 : K.lookup f23 = some ⟨oc23, od23, .func (PySem.W.fnOf "_law_pick" "_law_pick" (defArgs s__law_pick) (defBody s__law_pick) (defScope s__law_pick) .none kV23 dc23 pm23 an23 cd23 ct23), sl23⟩)
    (c23 : PySem.W.codeIn K cd23 "_law_pick" = true)
    (k23 : PySem.W.keepIn K (.ref f23) = true)
    (a24 : PySem.W.nsIn K mainGlobals "_law_like" = some (some (.ref f24)))
    (l24 : K.lookup f24 = some ⟨oc24, od24, .func (PySem.W.fnOf "_law_like" "_law_like" (defArgs s__law_like) (defBody s__law_like) (defScope s__law_like) .none kV24 dc24 pm24 an24 cd24 ct24), sl24⟩)
    (c24 : PySem.W.codeIn K cd24 "_law_like" = true)
    (k24 : PySem.W.keepIn K (.ref f24) = true)
    (a25 : PySem.W.nsIn K mainGlobals "_law_mixed" = some (some (.ref f25)))
    (l25 : K.lookup f25 = some ⟨oc25, od25, .func (PySem.W.fnOf "_law_mixed" "_law_mixed" (defArgs s__law_mixed) (defBody s__law_mixed) (defScope s__law_mixed) .none kV25 dc25 pm25 an25 cd25 ct25), sl25⟩)
    (c25 : PySem.W.codeIn K cd25 "_law_mixed" = true)
    (k25 : PySem.W.keepIn K (.ref f25) = true)
    (a26 : PySem.W.nsIn K mainGlobals "_law_divisor" = some (some (.ref f26)))
    (l26 : K.lookup f26 = some ⟨oc26, od26, .func (PySem.W.fnOf "_law_divisor" "_law_divisor" (defArgs s__law_divisor) (defBody s__law_divisor) (defScope s__law_divisor) .none kV26 dc26 pm26 an26 cd26 ct26), sl26⟩)
    (c26 : PySem.W.codeIn K cd26 "_law_divisor" = true)
    (k26 : PySem.W.keepIn K (.ref f26) = true)
    (a27 : PySem.W.nsIn K mainGlobals "_law_rate" = some (some (.ref f27)))
    (l27 : K.lookup f27 = some ⟨oc27, od27, .func (PySem.W.fnOf "_law_rate" "_law_rate" (defArgs s__law_rate) (defBody s__law_rate) (defScope s__law_rate) .none kV27 dc27 pm27 an27 cd27 ct27), sl27⟩)
    (c27 : PySem.W.codeIn K cd27 "_law_rate" = true)
    (k27 : PySem.W.keepIn K (.ref f27) = true)
    (a28 : PySem.W.nsIn K mainGlobals "_law_theta" = some (some (.ref f28)))
    (l28 : K.lookup f28 = some ⟨oc28, od28, .func (PySem.W.fnOf "_law_theta" "_law_theta" (defArgs s__law_theta) (defBody s__law_theta) (defScope s__law_theta) .none kV28 dc28 pm28 an28 cd28 ct28), sl28⟩)
    (c28 : PySem.W.codeIn K cd28 "_law_theta" = true)
    (k28 : PySem.W.keepIn K (.ref f28) = true)
    (a29 : PySem.W.nsIn K mainGlobals "_law_counts" = some (some (.ref f29)))
    (l29 : K.lookup f29 = some ⟨oc29, od29, .func (PySem.W.fnOf "_law_counts" "_law_counts" (defArgs s__law_counts) (defBody s__law_counts) (defScope s__law_counts) .none kV29 dc29 pm29 an29 cd29 ct29), sl29⟩)
    (c29 : PySem.W.codeIn K cd29 "_law_counts" = true)
    (k29 : PySem.W.keepIn K (.ref f29) = true)
    (a30 : PySem.W.nsIn K mainGlobals "_law_spans" = some (some (.ref f30)))
    (l30 : K.lookup f30 = some ⟨oc30, od30, .func (PySem.W.fnOf "_law_spans" "_law_spans" (defArgs s__law_spans) (defBody s__law_spans) (defScope s__law_spans) .none kV30 dc30 pm30 an30 cd30 ct30), sl30⟩)
    (c30 : PySem.W.codeIn K cd30 "_law_spans" = true)
    (k30 : PySem.W.keepIn K (.ref f30) = true)
    (a31 : PySem.W.nsIn K mainGlobals "_law_is_way" = some (some (.ref f31)))
    (l31 : K.lookup f31 = some ⟨oc31, od31, .func (PySem.W.fnOf "_law_is_way" "_law_is_way" (defArgs s__law_is_way) (defBody s__law_is_way) (defScope s__law_is_way) .none kV31 dc31 pm31 an31 cd31 ct31), sl31⟩)
    (c31 : PySem.W.codeIn K cd31 "_law_is_way" = true)
    (k31 : PySem.W.keepIn K (.ref f31) = true)
    (a32 : PySem.W.nsIn K mainGlobals "_law_apart" = some (some (.ref f32)))
    (l32 : K.lookup f32 = some ⟨oc32, od32, .func (PySem.W.fnOf "_law_apart" "_law_apart" (defArgs s__law_apart) (defBody s__law_apart) (defScope s__law_apart) .none kV32 dc32 pm32 an32 cd32 ct32), sl32⟩)
    (c32 : PySem.W.codeIn K cd32 "_law_apart" = true)
    (k32 : PySem.W.keepIn K (.ref f32) = true)
    (a33 : PySem.W.nsIn K mainGlobals "_law_right" = some (some (.ref f33)))
    (l33 : K.lookup f33 = some ⟨oc33, od33, .func (PySem.W.fnOf "_law_right" "_law_right" (defArgs s__law_right) (defBody s__law_right) (defScope s__law_right) .none kV33 dc33 pm33 an33 cd33 ct33), sl33⟩)
    (c33 : PySem.W.codeIn K cd33 "_law_right" = true)
    (k33 : PySem.W.keepIn K (.ref f33) = true)
    (a34 : PySem.W.nsIn K mainGlobals "law" = some (some (.ref f34)))
    (l34 : K.lookup f34 = some ⟨oc34, od34, .func (PySem.W.fnOf "law" "law" (defArgs s_law) (defBody s_law) (defScope s_law) .none kV34 dc34 pm34 an34 cd34 ct34), sl34⟩)
    (c34 : PySem.W.codeIn K cd34 "law" = true)
    (k34 : PySem.W.keepIn K (.ref f34) = true)
    (po_Chain : PySem.W.plainGet K C_Chain Str.empty = true)
    (hd_Chain : PySem.W.hasDictIn K C_Chain = true)
    (pv_Chain : PySem.W.plainOver K C_Chain = true)
    (sa_Chain : PySem.W.findIn K (.ref C_Chain) "__setattr__" = some (some (.builtin "object.__setattr__")))
    (mk_Chain : PySem.W.makesIn K C_Chain = true)
    (fn_Chain : PySem.W.isFn K (.ref f4) = true)
    (kp_Chain : PySem.W.keepIn K (.ref C_Chain) = true)
    (n_Chain_links : PySem.W.findIn K (.ref C_Chain) "links" = some none)
    (po_Plan : PySem.W.plainGet K C_Plan Str.empty = true)
    (hd_Plan : PySem.W.hasDictIn K C_Plan = true)
    (pv_Plan : PySem.W.plainOver K C_Plan = true)
    (sa_Plan : PySem.W.findIn K (.ref C_Plan) "__setattr__" = some (some (.builtin "object.__setattr__")))
    (mk_Plan : PySem.W.makesIn K C_Plan = true)
    (fn_Plan : PySem.W.isFn K (.ref f7) = true)
    (kp_Plan : PySem.W.keepIn K (.ref C_Plan) = true)
    (n_Plan_rate : PySem.W.findIn K (.ref C_Plan) "rate" = some none)
    (n_Plan_order : PySem.W.findIn K (.ref C_Plan) "order" = some none)
    (n_Plan_gate : PySem.W.findIn K (.ref C_Plan) "gate" = some none)
    (n_Plan_way : PySem.W.findIn K (.ref C_Plan) "way" = some none)
    (n_Plan_streams : PySem.W.findIn K (.ref C_Plan) "streams" = some none)
    (n_Plan_length : PySem.W.findIn K (.ref C_Plan) "length" = some none)
    (n_Plan_late : PySem.W.findIn K (.ref C_Plan) "late" = some none)
    (n_Plan_gap : PySem.W.findIn K (.ref C_Plan) "gap" = some none)
    (po_Theta : PySem.W.plainGet K C_Theta Str.empty = true)
    (hd_Theta : PySem.W.hasDictIn K C_Theta = true)
    (pv_Theta : PySem.W.plainOver K C_Theta = true)
    (sa_Theta : PySem.W.findIn K (.ref C_Theta) "__setattr__" = some (some (.builtin "object.__setattr__")))
    (mk_Theta : PySem.W.makesIn K C_Theta = true)
    (fn_Theta : PySem.W.isFn K (.ref f16) = true)
    (kp_Theta : PySem.W.keepIn K (.ref C_Theta) = true)
    (n_Theta_first : PySem.W.findIn K (.ref C_Theta) "first" = some none)
    (n_Theta_second : PySem.W.findIn K (.ref C_Theta) "second" = some none)
    (n_Theta_back : PySem.W.findIn K (.ref C_Theta) "back" = some none)
    (z_super : PySem.W.nsIn K mainGlobals "super" = some none)
    (z_any : PySem.W.nsIn K cStatics "thirdparty.any" = some none)
    (z_top : (l.prog.main.scope.names.lookup ("super" : Str)).isSome = false)
    (x_hn : PySem.W.specialIn K (.builtin "object.__class__") "__get__" = some (some (.builtin "getset_descriptor.__get__")))
    (x_ht : PySem.W.takesIn K (.builtin "object.__class__") = some true)
    (xi_InvalidChain : PySem.W.findIn K (.ref C_InvalidChain) "__init__" = some (some (.ref x_fInvalidChain)))
    (xl_InvalidChain : K.lookup x_fInvalidChain = some ⟨x_ocInvalidChain, x_odInvalidChain, .func (PySem.W.ksFn "__init__" "InvalidChain.__init__" (defArgs s_InvalidChain_init) (defBody s_InvalidChain_init) (defScope s_InvalidChain_init) .none .none x_dcInvalidChain x_pmInvalidChain x_anInvalidChain (.ref x_cdInvalidChain) x_ctInvalidChain x_ccInvalidChain), x_slInvalidChain⟩)
    (xc_InvalidChain : PySem.W.codeIn K (.ref x_cdInvalidChain) "InvalidChain.__init__" = true)
    (xd_InvalidChain : K.lookup x_cdInvalidChain = some ⟨x_clInvalidChain, x_cddInvalidChain, .fields x_vsInvalidChain, x_ccsInvalidChain⟩)
    (xv_InvalidChain : x_vsInvalidChain[2]? = some (.str x_fileInvalidChain x_tfInvalidChain))
    (xw_InvalidChain : ((l.prog.main.file : Str) == x_fileInvalidChain) = true)
    (xx_InvalidChain : K.lookup x_ccInvalidChain = some ⟨x_cmInvalidChain, x_cldInvalidChain, .cell (some (.ref C_InvalidChain)), x_cslInvalidChain⟩)
    (xt_InvalidChain : PySem.W.typeIn K (.ref x_fInvalidChain) = some (.type "function"))
    (xu_InvalidChain : PySem.W.ks_superIn K C_InvalidChain C_InvalidChain "__init__" = some (some (.builtin "ValueError.__init__")))
    (xb_InvalidChain : PySem.W.subIn K (.ref C_InvalidChain) (.type "ValueError") = some true)
    (xm_InvalidChain : PySem.W.mroIn K C_InvalidChain (.ref C_InvalidChain) = some true)
    (xn_InvalidChain : PySem.W.findIn K (.ref C_InvalidChain) "at" = some none)
    (xK_InvalidChain : K.lookup C_InvalidChain = some (excClassObj x_nmInvalidChain x_qInvalidChain C_InvalidChain x_NInvalidChain x_bsInvalidChain x_bmInvalidChain true x_snInvalidChain x_subInvalidChain x_abInvalidChain x_colInvalidChain x_ddInvalidChain x_k0InvalidChain x_k1InvalidChain x_k2InvalidChain x_k3InvalidChain x_k5InvalidChain "ValueError.__new__"))
    (xr_InvalidChain : PySem.HandSPX.refsVE x_bmInvalidChain = true)
    (xs_InvalidChain : PySem.W.findIn K (.ref C_InvalidChain) "__setattr__" = some (some (.builtin "object.__setattr__")))
    (xe_InvalidChain : PySem.W.subIn K (.ref C_InvalidChain) (.type "BaseException") = some true)
    (xy_InvalidChain : PySem.W.typeIn K (.ref C_InvalidChain) = some (.type "type"))
    (xk_InvalidChain : PySem.W.keepIn K (.ref C_InvalidChain) = true)
    (xh_InvalidChain : PySem.W.hasDictIn K C_InvalidChain = true)
    (xg_InvalidChain : PySem.W.findIn K (.ref C_InvalidChain) "__getattribute__" = some (some (.builtin "BaseException.__getattribute__")))
    (xG_InvalidChain : PySem.W.findIn K (.ref C_InvalidChain) "__getattr__" = some none)
    (xa_InvalidChain : PySem.W.findIn K (.ref C_InvalidChain) "__class__" = some (some (.builtin "object.__class__")))
    (xo_InvalidChain : PySem.W.mroIn K C_InvalidChain (.type "object") = some true)
    (xi_Refused : PySem.W.findIn K (.ref C_Refused) "__init__" = some (some (.ref x_fRefused)))
    (xl_Refused : K.lookup x_fRefused = some ⟨x_ocRefused, x_odRefused, .func (PySem.W.ksFn "__init__" "Refused.__init__" (defArgs s_Refused_init) (defBody s_Refused_init) (defScope s_Refused_init) .none .none x_dcRefused x_pmRefused x_anRefused (.ref x_cdRefused) x_ctRefused x_ccRefused), x_slRefused⟩)
    (xc_Refused : PySem.W.codeIn K (.ref x_cdRefused) "Refused.__init__" = true)
    (xd_Refused : K.lookup x_cdRefused = some ⟨x_clRefused, x_cddRefused, .fields x_vsRefused, x_ccsRefused⟩)
    (xv_Refused : x_vsRefused[2]? = some (.str x_fileRefused x_tfRefused))
    (xw_Refused : ((l.prog.main.file : Str) == x_fileRefused) = true)
    (xx_Refused : K.lookup x_ccRefused = some ⟨x_cmRefused, x_cldRefused, .cell (some (.ref C_Refused)), x_cslRefused⟩)
    (xt_Refused : PySem.W.typeIn K (.ref x_fRefused) = some (.type "function"))
    (xu_Refused : PySem.W.ks_superIn K C_Refused C_Refused "__init__" = some (some (.builtin "ValueError.__init__")))
    (xb_Refused : PySem.W.subIn K (.ref C_Refused) (.type "ValueError") = some true)
    (xm_Refused : PySem.W.mroIn K C_Refused (.ref C_Refused) = some true)
    (xn_Refused : PySem.W.findIn K (.ref C_Refused) "at" = some none)
    (xK_Refused : K.lookup C_Refused = some (excClassObj x_nmRefused x_qRefused C_Refused x_NRefused x_bsRefused x_bmRefused true x_snRefused x_subRefused x_abRefused x_colRefused x_ddRefused x_k0Refused x_k1Refused x_k2Refused x_k3Refused x_k5Refused "ValueError.__new__"))
    (xr_Refused : PySem.HandSPX.refsVE x_bmRefused = true)
    (xs_Refused : PySem.W.findIn K (.ref C_Refused) "__setattr__" = some (some (.builtin "object.__setattr__")))
    (xe_Refused : PySem.W.subIn K (.ref C_Refused) (.type "BaseException") = some true)
    (xy_Refused : PySem.W.typeIn K (.ref C_Refused) = some (.type "type"))
    (xk_Refused : PySem.W.keepIn K (.ref C_Refused) = true)
    (xh_Refused : PySem.W.hasDictIn K C_Refused = true)
    (xg_Refused : PySem.W.findIn K (.ref C_Refused) "__getattribute__" = some (some (.builtin "BaseException.__getattribute__")))
    (xG_Refused : PySem.W.findIn K (.ref C_Refused) "__getattr__" = some none)
    (xa_Refused : PySem.W.findIn K (.ref C_Refused) "__class__" = some (some (.builtin "object.__class__")))
    (xo_Refused : PySem.W.mroIn K C_Refused (.type "object") = some true)
    (q_MOST_LINKS : PySem.W.nsIn K mainGlobals "MOST_LINKS" = some (some (.int (12) q_tMOST_LINKS)))
    (q_MOST_TOP : PySem.W.nsIn K mainGlobals "MOST_TOP" = some (some (.int (2000) q_tMOST_TOP)))
    (q_MOST_LESS : PySem.W.nsIn K mainGlobals "MOST_LESS" = some (some (.int (1000) q_tMOST_LESS)))
    (q_MOST_PHASES : PySem.W.nsIn K mainGlobals "MOST_PHASES" = some (some (.int (200) q_tMOST_PHASES)))
    (q_NONE : PySem.W.nsIn K mainGlobals "NONE" = some (some (.ref o_NONE)))
    (ql_NONE : K.lookup o_NONE = some ⟨.type "tuple", od_NONE, .seq #[.int (0) q0_NONE, .int (0) q1_NONE, .int (0) q2_NONE, .int (0) q3_NONE, .int (0) q4_NONE, .int (0) q5_NONE] on_NONE, os_NONE⟩)
    (z_isinstance : PySem.W.nsIn K mainGlobals "isinstance" = some none)
    (z_int : PySem.W.nsIn K mainGlobals "int" = some none)
    (z_bool : PySem.W.nsIn K mainGlobals "bool" = some none)
    (z_list : PySem.W.nsIn K mainGlobals "list" = some none)
    (z_tuple : PySem.W.nsIn K mainGlobals "tuple" = some none)
    (z_len : PySem.W.nsIn K mainGlobals "len" = some none)
    (z_enumerate : PySem.W.nsIn K mainGlobals "enumerate" = some none)
    (z_min : PySem.W.nsIn K mainGlobals "min" = some none)
    (z_sum : PySem.W.nsIn K mainGlobals "sum" = some none)
    (z_range : PySem.W.nsIn K mainGlobals "range" = some none)
    (z_max : PySem.W.nsIn K mainGlobals "max" = some none)
    (z_abs : PySem.W.nsIn K mainGlobals "abs" = some none)
    (z_all : PySem.W.nsIn K mainGlobals "all" = some none)
    (z_str : PySem.W.nsIn K mainGlobals "str" = some none)
    (z_set : PySem.W.nsIn K mainGlobals "set" = some none)
    (z_sorted : PySem.W.nsIn K mainGlobals "sorted" = some none)
    : ∃ fd : FuncData, (∀ (s : Shared) (v : Value), BindsTo s fd ⟨[v], []⟩ [("script", v)]) ∧ ∀ base : Heap, K.In base → base.Ns mainGlobals mg → FnOk l.prog w K mg base (L2N.CX l.prog w) 16 fa fd ["script"] (conc K Bx.no aspLaw) := by
  have e := hfa.symm.trans (PySem.W.mg_of X G a34)
  cases e
  have F0 := fun_mk (st := s_is_integer) l0 c0 k0
  have b0 := F0.binds (ps := ["value"]) fun _ _ _ _ _ _ us hl => match us, hl with | [_], _ => rfl
  have F1 : FunD K "is_number" "is_number" (defArgs s_is_number) (defBody s_is_number) (defScope s_is_number) [V.non] [] _ _ := ⟨⟨_, _, _, _, _, _, _, _, _, _, rfl, l1, c1, .inr ⟨by decide, _, _, [Value.none], _, rfl, t1, rfl, (.cons rfl .nil)⟩, .inl rfl⟩, k1⟩
  obtain ⟨e1, ve1, b1⟩ := FunD.binds1 (ps := ["value", "most"]) F1 2 1 (by decide) rfl fun _ _ _ _ _ _ _ us its hu hi => match us, its, hu, hi with | [_, _], [_], _, _ => ⟨_, rfl, rfl⟩
  cases ve1
  obtain ⟨D0_1, v0_1, b0_1⟩ := FunD.binds1 (ps := ["value", "most"]) F1 1 0 (by decide) rfl fun _ _ _ _ _ _ _ us its hu hi => match us, its, hu, hi with | [_], [_], _, _ => ⟨_, rfl, rfl⟩
  have F2 := fun_mk (st := s_is_sequence) l2 c2 k2
  have b2 := F2.binds (ps := ["value"]) fun _ _ _ _ _ _ us hl => match us, hl with | [_], _ => rfl
  have F3 := fun_mk (st := s_is_link) l3 c3 k3
  have b3 := F3.binds (ps := ["value"]) fun _ _ _ _ _ _ us hl => match us, hl with | [_], _ => rfl
  have F4 := fun_mk (st := s_Chain_init) l4 c4 k4
  have b4 := F4.binds (ps := ["self", "links"]) fun _ _ _ _ _ _ us hl => match us, hl with | [_, _], _ => rfl
  have F5 := fun_mk (st := s_slots_in) l5 c5 k5
  have b5 := F5.binds (ps := ["rate", "beats"]) fun _ _ _ _ _ _ us hl => match us, hl with | [_, _], _ => rfl
  have F6 := fun_mk (st := s_late_in) l6 c6 k6
  have b6 := F6.binds (ps := ["rate", "beats", "late"]) fun _ _ _ _ _ _ us hl => match us, hl with | [_, _, _], _ => rfl
  have F7 := fun_mk (st := s_Plan_init) l7 c7 k7
  have b7 := F7.binds (ps := ["self", "rate", "order", "gate", "way", "streams", "length", "late", "gap"]) fun _ _ _ _ _ _ us hl => match us, hl with | [_, _, _, _, _, _, _, _, _], _ => rfl
  have F8 := fun_mk (st := s_counts_of) l8 c8 k8
  have b8 := F8.binds (ps := ["plan", "s"]) fun _ _ _ _ _ _ us hl => match us, hl with | [_, _], _ => rfl
  have F9 := fun_mk (st := s_worth_of) l9 c9 k9
  have b9 := F9.binds (ps := ["form", "counts"]) fun _ _ _ _ _ _ us hl => match us, hl with | [_, _], _ => rfl
  have F10 := fun_mk (st := s_next_of) l10 c10 k10
  have b10 := F10.binds (ps := ["plan", "s"]) fun _ _ _ _ _ _ us hl => match us, hl with | [_, _], _ => rfl
  have F11 := fun_mk (st := s_length_of) l11 c11 k11
  have b11 := F11.binds (ps := ["plan", "s"]) fun _ _ _ _ _ _ us hl => match us, hl with | [_, _], _ => rfl
  have F12 := fun_mk (st := s_spans_of) l12 c12 k12
  have b12 := F12.binds (ps := ["plan", "begin", "s"]) fun _ _ _ _ _ _ us hl => match us, hl with | [_, _, _], _ => rfl
  have F13 := fun_mk (st := s_plan_chain) l13 c13 k13
  have b13 := F13.binds (ps := ["plan"]) fun _ _ _ _ _ _ us hl => match us, hl with | [_], _ => rfl
  have F14 := fun_mk (st := s_phase_of) l14 c14 k14
  have b14 := F14.binds (ps := ["plan", "s", "many"]) fun _ _ _ _ _ _ us hl => match us, hl with | [_, _, _], _ => rfl
  have F15 := fun_mk (st := s_burst_of) l15 c15 k15
  have b15 := F15.binds (ps := ["s"]) fun _ _ _ _ _ _ us hl => match us, hl with | [_], _ => rfl
  have F16 := fun_mk (st := s_Theta_init) l16 c16 k16
  have b16 := F16.binds (ps := ["self", "first", "second", "back"]) fun _ _ _ _ _ _ us hl => match us, hl with | [_, _, _, _], _ => rfl
  have F17 := fun_mk (st := s_theta_ways) l17 c17 k17
  have b17 := F17.binds (ps := ["theta"]) fun _ _ _ _ _ _ us hl => match us, hl with | [_], _ => rfl
  have F18 := fun_mk (st := s_theta_order) l18 c18 k18
  have b18 := F18.binds (ps := ["theta"]) fun _ _ _ _ _ _ us hl => match us, hl with | [_], _ => rfl
  have F19 := fun_mk (st := s_theta_streams) l19 c19 k19
  have b19 := F19.binds (ps := ["theta"]) fun _ _ _ _ _ _ us hl => match us, hl with | [_], _ => rfl
  have F20 := fun_mk (st := s_theta_plan) l20 c20 k20
  have b20 := F20.binds (ps := ["theta", "rate"]) fun _ _ _ _ _ _ us hl => match us, hl with | [_, _], _ => rfl
  have F21 := fun_mk (st := s__law_heap) l21 c21 k21
  have b21 := F21.binds (ps := ["script"]) fun _ _ _ _ _ _ us hl => match us, hl with | [_], _ => rfl
  have F22 := fun_mk (st := s__law_draw) l22 c22 k22
  have b22 := F22.binds (ps := ["heap", "many"]) fun _ _ _ _ _ _ us hl => match us, hl with | [_, _], _ => rfl
  have F23 := fun_mk (st := s__law_pick) l23 c23 k23
  have b23 := F23.binds (ps := ["heap", "some"]) fun _ _ _ _ _ _ us hl => match us, hl with | [_, _], _ => rfl
  have F24 := fun_mk (st := s__law_like) l24 c24 k24
  have b24 := F24.binds (ps := ["told", "due"]) fun _ _ _ _ _ _ us hl => match us, hl with | [_, _], _ => rfl
  have F25 := fun_mk (st := s__law_mixed) l25 c25 k25
  have b25 := F25.binds (ps := ["heap", "some"]) fun _ _ _ _ _ _ us hl => match us, hl with | [_, _], _ => rfl
  have F26 := fun_mk (st := s__law_divisor) l26 c26 k26
  have b26 := F26.binds (ps := ["one", "other"]) fun _ _ _ _ _ _ us hl => match us, hl with | [_, _], _ => rfl
  have F27 := fun_mk (st := s__law_rate) l27 c27 k27
  have b27 := F27.binds (ps := ["heap", "least"]) fun _ _ _ _ _ _ us hl => match us, hl with | [_, _], _ => rfl
  have F28 := fun_mk (st := s__law_theta) l28 c28 k28
  have b28 := F28.binds (ps := ["heap"]) fun _ _ _ _ _ _ us hl => match us, hl with | [_], _ => rfl
  have F29 := fun_mk (st := s__law_counts) l29 c29 k29
  have b29 := F29.binds (ps := ["rate", "first", "second", "s"]) fun _ _ _ _ _ _ us hl => match us, hl with | [_, _, _, _], _ => rfl
  have F30 := fun_mk (st := s__law_spans) l30 c30 k30
  have b30 := F30.binds (ps := ["rate", "rows", "begin", "s"]) fun _ _ _ _ _ _ us hl => match us, hl with | [_, _, _, _], _ => rfl
  have F31 := fun_mk (st := s__law_is_way) l31 c31 k31
  have b31 := F31.binds (ps := ["rows", "way"]) fun _ _ _ _ _ _ us hl => match us, hl with | [_, _], _ => rfl
  have F32 := fun_mk (st := s__law_apart) l32 c32 k32
  have b32 := F32.binds (ps := ["rows", "spans"]) fun _ _ _ _ _ _ us hl => match us, hl with | [_, _], _ => rfl
  have F33 := fun_mk (st := s__law_right) l33 c33 k33
  have b33 := F33.binds (ps := ["heap", "rate", "rows", "plan", "s"]) fun _ _ _ _ _ _ us hl => match us, hl with | [_, _, _, _, _], _ => rfl
  have F34 := fun_mk (st := s_law) l34 c34 k34
  have b34 := F34.binds (ps := ["script"]) fun _ _ _ _ _ _ us hl => match us, hl with | [_], _ => rfl
  have X_InvalidChain : XCls K l.prog C_InvalidChain x_fInvalidChain := ⟨⟨_, _, _, defScope s_InvalidChain_init, _, ⟨"self", none, ⟨0, 0, 0, 0⟩⟩, ⟨"at", none, ⟨0, 0, 0, 0⟩⟩, _, _, _, _, _, _, _, _, _, _, _, _, _, _, _, _, _, _, _, _, _, _, _, _, _, _, _, _, _, fun _ => _, xl_InvalidChain, xc_InvalidChain, rfl, rfl, fun _ => rfl, xd_InvalidChain, xv_InvalidChain, xw_InvalidChain, xx_InvalidChain, by decide +kernel, rfl, rfl, rfl, by decide +kernel, by decide +kernel, by decide +kernel, by decide +kernel⟩, xi_InvalidChain, xt_InvalidChain, z_top, z_super, z_any, xu_InvalidChain, xb_InvalidChain, xm_InvalidChain, xn_InvalidChain, ⟨⟨_, _, _, _, _, _, _, _, _, _, _, _, _, _, _, xK_InvalidChain, xr_InvalidChain⟩, xs_InvalidChain, xe_InvalidChain, xy_InvalidChain, xk_InvalidChain⟩, xh_InvalidChain, xg_InvalidChain, xG_InvalidChain⟩
  have X_Refused : XCls K l.prog C_Refused x_fRefused := ⟨⟨_, _, _, defScope s_Refused_init, _, ⟨"self", none, ⟨0, 0, 0, 0⟩⟩, ⟨"at", none, ⟨0, 0, 0, 0⟩⟩, _, _, _, _, _, _, _, _, _, _, _, _, _, _, _, _, _, _, _, _, _, _, _, _, _, _, _, _, _, fun _ => _, xl_Refused, xc_Refused, rfl, rfl, fun _ => rfl, xd_Refused, xv_Refused, xw_Refused, xx_Refused, by decide +kernel, rfl, rfl, rfl, by decide +kernel, by decide +kernel, by decide +kernel, by decide +kernel⟩, xi_Refused, xt_Refused, z_top, z_super, z_any, xu_Refused, xb_Refused, xm_Refused, xn_Refused, ⟨⟨_, _, _, _, _, _, _, _, _, _, _, _, _, _, _, xK_Refused, xr_Refused⟩, xs_Refused, xe_Refused, xy_Refused, xk_Refused⟩, xh_Refused, xg_Refused, xG_Refused⟩
  let T : Top l.prog K mg := { C_Chain := _, g_Chain := PySem.W.mg_of X G a_Chain, C_Plan := _, g_Plan := PySem.W.mg_of X G a_Plan, C_Theta := _, g_Theta := PySem.W.mg_of X G a_Theta, C_InvalidChain := _, g_InvalidChain := PySem.W.mg_of X G a_InvalidChain, C_Refused := _, g_Refused := PySem.W.mg_of X G a_Refused, f_is_integer := _, d_is_integer := _, F_is_integer := F0, b_is_integer := b0, g_is_integer := PySem.W.mg_of X G a0, D0_is_number := D0_1, v0_is_number := v0_1, b0_is_number := b0_1, f_is_number := _, d_is_number := _, F_is_number := F1, b_is_number := b1, g_is_number := PySem.W.mg_of X G a1, f_is_sequence := _, d_is_sequence := _, F_is_sequence := F2, b_is_sequence := b2, g_is_sequence := PySem.W.mg_of X G a2, f_is_link := _, d_is_link := _, F_is_link := F3, b_is_link := b3, g_is_link := PySem.W.mg_of X G a3, f_Chain_init := _, d_Chain_init := _, F_Chain_init := F4, b_Chain_init := b4, f_slots_in := _, d_slots_in := _, F_slots_in := F5, b_slots_in := b5, g_slots_in := PySem.W.mg_of X G a5, f_late_in := _, d_late_in := _, F_late_in := F6, b_late_in := b6, g_late_in := PySem.W.mg_of X G a6, f_Plan_init := _, d_Plan_init := _, F_Plan_init := F7, b_Plan_init := b7, f_counts_of := _, d_counts_of := _, F_counts_of := F8, b_counts_of := b8, g_counts_of := PySem.W.mg_of X G a8, f_worth_of := _, d_worth_of := _, F_worth_of := F9, b_worth_of := b9, g_worth_of := PySem.W.mg_of X G a9, f_next_of := _, d_next_of := _, F_next_of := F10, b_next_of := b10, g_next_of := PySem.W.mg_of X G a10, f_length_of := _, d_length_of := _, F_length_of := F11, b_length_of := b11, g_length_of := PySem.W.mg_of X G a11, f_spans_of := _, d_spans_of := _, F_spans_of := F12, b_spans_of := b12, g_spans_of := PySem.W.mg_of X G a12, f_plan_chain := _, d_plan_chain := _, F_plan_chain := F13, b_plan_chain := b13, g_plan_chain := PySem.W.mg_of X G a13, f_phase_of := _, d_phase_of := _, F_phase_of := F14, b_phase_of := b14, g_phase_of := PySem.W.mg_of X G a14, f_burst_of := _, d_burst_of := _, F_burst_of := F15, b_burst_of := b15, g_burst_of := PySem.W.mg_of X G a15, f_Theta_init := _, d_Theta_init := _, F_Theta_init := F16, b_Theta_init := b16, f_theta_ways := _, d_theta_ways := _, F_theta_ways := F17, b_theta_ways := b17, g_theta_ways := PySem.W.mg_of X G a17, f_theta_order := _, d_theta_order := _, F_theta_order := F18, b_theta_order := b18, g_theta_order := PySem.W.mg_of X G a18, f_theta_streams := _, d_theta_streams := _, F_theta_streams := F19, b_theta_streams := b19, g_theta_streams := PySem.W.mg_of X G a19, f_theta_plan := _, d_theta_plan := _, F_theta_plan := F20, b_theta_plan := b20, g_theta_plan := PySem.W.mg_of X G a20, f__law_heap := _, d__law_heap := _, F__law_heap := F21, b__law_heap := b21, g__law_heap := PySem.W.mg_of X G a21, f__law_draw := _, d__law_draw := _, F__law_draw := F22, b__law_draw := b22, g__law_draw := PySem.W.mg_of X G a22, f__law_pick := _, d__law_pick := _, F__law_pick := F23, b__law_pick := b23, g__law_pick := PySem.W.mg_of X G a23, f__law_like := _, d__law_like := _, F__law_like := F24, b__law_like := b24, g__law_like := PySem.W.mg_of X G a24, f__law_mixed := _, d__law_mixed := _, F__law_mixed := F25, b__law_mixed := b25, g__law_mixed := PySem.W.mg_of X G a25, f__law_divisor := _, d__law_divisor := _, F__law_divisor := F26, b__law_divisor := b26, g__law_divisor := PySem.W.mg_of X G a26, f__law_rate := _, d__law_rate := _, F__law_rate := F27, b__law_rate := b27, g__law_rate := PySem.W.mg_of X G a27, f__law_theta := _, d__law_theta := _, F__law_theta := F28, b__law_theta := b28, g__law_theta := PySem.W.mg_of X G a28, f__law_counts := _, d__law_counts := _, F__law_counts := F29, b__law_counts := b29, g__law_counts := PySem.W.mg_of X G a29, f__law_spans := _, d__law_spans := _, F__law_spans := F30, b__law_spans := b30, g__law_spans := PySem.W.mg_of X G a30, f__law_is_way := _, d__law_is_way := _, F__law_is_way := F31, b__law_is_way := b31, g__law_is_way := PySem.W.mg_of X G a31, f__law_apart := _, d__law_apart := _, F__law_apart := F32, b__law_apart := b32, g__law_apart := PySem.W.mg_of X G a32, f__law_right := _, d__law_right := _, F__law_right := F33, b__law_right := b33, g__law_right := PySem.W.mg_of X G a33, f_law := _, d_law := _, F_law := F34, b_law := b34, g_law := PySem.W.mg_of X G a34, k_Chain := ⟨po_Chain, hd_Chain, pv_Chain, sa_Chain⟩, M_Chain := ⟨mk_Chain, a4, fn_Chain, kp_Chain⟩, a_Chain_links := n_Chain_links, k_Plan := ⟨po_Plan, hd_Plan, pv_Plan, sa_Plan⟩, M_Plan := ⟨mk_Plan, a7, fn_Plan, kp_Plan⟩, a_Plan_rate := n_Plan_rate, a_Plan_order := n_Plan_order, a_Plan_gate := n_Plan_gate, a_Plan_way := n_Plan_way, a_Plan_streams := n_Plan_streams, a_Plan_length := n_Plan_length, a_Plan_late := n_Plan_late, a_Plan_gap := n_Plan_gap, k_Theta := ⟨po_Theta, hd_Theta, pv_Theta, sa_Theta⟩, M_Theta := ⟨mk_Theta, a16, fn_Theta, kp_Theta⟩, a_Theta_first := n_Theta_first, a_Theta_second := n_Theta_second, a_Theta_back := n_Theta_back, n_super := PySem.W.mg_none_of X G z_super, f_InvalidChain_init := _, X_InvalidChain := X_InvalidChain, I_InvalidChain := ⟨xg_InvalidChain, xG_InvalidChain, xe_InvalidChain, xh_InvalidChain, xa_InvalidChain, x_hn, x_ht, xo_InvalidChain⟩, f_Refused_init := _, X_Refused := X_Refused, I_Refused := ⟨xg_Refused, xG_Refused, xe_Refused, xh_Refused, xa_Refused, x_hn, x_ht, xo_Refused⟩, t_MOST_LINKS := _, c_MOST_LINKS := PySem.W.mg_of X G q_MOST_LINKS, t_MOST_TOP := _, c_MOST_TOP := PySem.W.mg_of X G q_MOST_TOP, t_MOST_LESS := _, c_MOST_LESS := PySem.W.mg_of X G q_MOST_LESS, t_MOST_PHASES := _, c_MOST_PHASES := PySem.W.mg_of X G q_MOST_PHASES, N_NONE := _, g_NONE := PySem.W.mg_of X G q_NONE, i_NONE := fun F => .tup (.inr ⟨_, _, _, ql_NONE, rfl, rfl, (by show 6 ≤ sizeLine; rw [sizeLine_eq]; decide), (show Vals [V.int (0), V.int (0), V.int (0), V.int (0), V.int (0), V.int (0)] [Value.int (0) q0_NONE, Value.int (0) q1_NONE, Value.int (0) q2_NONE, Value.int (0) q3_NONE, Value.int (0) q4_NONE, Value.int (0) q5_NONE] from (.cons ⟨_, rfl⟩ (.cons ⟨_, rfl⟩ (.cons ⟨_, rfl⟩ (.cons ⟨_, rfl⟩ (.cons ⟨_, rfl⟩ (.cons ⟨_, rfl⟩ .nil)))))))⟩) (.cons (.int _) (.cons (.int _) (.cons (.int _) (.cons (.int _) (.cons (.int _) (.cons (.int _) .nil)))))), z_isinstance := PySem.W.mg_none_of X G z_isinstance, z_int := PySem.W.mg_none_of X G z_int, z_bool := PySem.W.mg_none_of X G z_bool, z_list := PySem.W.mg_none_of X G z_list, z_tuple := PySem.W.mg_none_of X G z_tuple, z_len := PySem.W.mg_none_of X G z_len, z_enumerate := PySem.W.mg_none_of X G z_enumerate, z_min := PySem.W.mg_none_of X G z_min, z_sum := PySem.W.mg_none_of X G z_sum, z_range := PySem.W.mg_none_of X G z_range, z_max := PySem.W.mg_none_of X G z_max, z_abs := PySem.W.mg_none_of X G z_abs, z_all := PySem.W.mg_none_of X G z_all, z_str := PySem.W.mg_none_of X G z_str, z_set := PySem.W.mg_none_of X G z_set, z_sorted := PySem.W.mg_none_of X G z_sorted }
  exact ⟨_, fun s v => .of_eq rfl, fun base _ _ => ok_law T⟩
end K30
open PySem PySem.W PyProof.Rows
set_option maxHeartbeats 0 in
theorem PySem.Challenge.cw_evergreedy_k30_whole_thetas_as_forms_holds : PySem.Challenge.rw_evergreedy_k30_whole_thetas_as_forms.Holds := by
  w_on; o_law; k_head; (case hw => w_witness2)
  k_fill
  refine L2.walk_of (l := PySem.Challenge.rw_evergreedy_k30_whole_thetas_as_forms) (n := 63) (k := 16) (x := "script") (CX := fun w => L2N.CX PySem.Challenge.rw_evergreedy_k30_whole_thetas_as_forms.prog w) (sp := fun w => DL.conc _ DL.Bx.no DL.aspLaw) rfl (by decide) rfl ⟨rfl, by decide, by decide⟩ (fun w h Y => PySem.W.kIn_of Y) ?F (fun _ _ a ns hl _ hS => DL.law_conc hl hS) (fun _ _ _ _ _ h => DL.law_calm h)
  case F =>
    intro w mg fa h KX G hmg
    refine' K30.all_mk KX G hmg ?a_Chain ?a_Plan ?a_Theta ?a_InvalidChain ?a_Refused ?a0 ?l0 ?c0 ?k0 ?a1 ?l1 ?c1 ?k1 ?t1 ?a2 ?l2 ?c2 ?k2 ?a3 ?l3 ?c3 ?k3 ?a4 ?l4 ?c4 ?k4 ?a5 ?l5 ?c5 ?k5 ?a6 ?l6 ?c6 ?k6 ?a7 ?l7 ?c7 ?k7 ?a8 ?l8 ?c8 ?k8 ?a9 ?l9 ?c9 ?k9 ?a10 ?l10 ?c10 ?k10 ?a11 ?l11 ?c11 ?k11 ?a12 ?l12 ?c12 ?k12 ?a13 ?l13 ?c13 ?k13 ?a14 ?l14 ?c14 ?k14 ?a15 ?l15 ?c15 ?k15 ?a16 ?l16 ?c16 ?k16 ?a17 ?l17 ?c17 ?k17 ?a18 ?l18 ?c18 ?k18 ?a19 ?l19 ?c19 ?k19 ?a20 ?l20 ?c20 ?k20 ?a21 ?l21 ?c21 ?k21 ?a22 ?l22 ?c22 ?k22 ?a23 ?l23 ?c23 ?k23 ?a24 ?l24 ?c24 ?k24 ?a25 ?l25 ?c25 ?k25 ?a26 ?l26 ?c26 ?k26 ?a27 ?l27 ?c27 ?k27 ?a28 ?l28 ?c28 ?k28 ?a29 ?l29 ?c29 ?k29 ?a30 ?l30 ?c30 ?k30 ?a31 ?l31 ?c31 ?k31 ?a32 ?l32 ?c32 ?k32 ?a33 ?l33 ?c33 ?k33 ?a34 ?l34 ?c34 ?k34 ?po_Chain ?hd_Chain ?pv_Chain ?sa_Chain ?mk_Chain ?fn_Chain ?kp_Chain ?n_Chain_links ?po_Plan ?hd_Plan ?pv_Plan ?sa_Plan ?mk_Plan ?fn_Plan ?kp_Plan ?n_Plan_rate ?n_Plan_order ?n_Plan_gate ?n_Plan_way ?n_Plan_streams ?n_Plan_length ?n_Plan_late ?n_Plan_gap ?po_Theta ?hd_Theta ?pv_Theta ?sa_Theta ?mk_Theta ?fn_Theta ?kp_Theta ?n_Theta_first ?n_Theta_second ?n_Theta_back ?z_super ?z_any ?z_top ?x_hn ?x_ht ?xi_InvalidChain ?xl_InvalidChain ?xc_InvalidChain ?xd_InvalidChain ?xv_InvalidChain ?xw_InvalidChain ?xx_InvalidChain ?xt_InvalidChain ?xu_InvalidChain ?xb_InvalidChain ?xm_InvalidChain ?xn_InvalidChain ?xK_InvalidChain ?xr_InvalidChain ?xs_InvalidChain ?xe_InvalidChain ?xy_InvalidChain ?xk_InvalidChain ?xh_InvalidChain ?xg_InvalidChain ?xG_InvalidChain ?xa_InvalidChain ?xo_InvalidChain ?xi_Refused ?xl_Refused ?xc_Refused ?xd_Refused ?xv_Refused ?xw_Refused ?xx_Refused ?xt_Refused ?xu_Refused ?xb_Refused ?xm_Refused ?xn_Refused ?xK_Refused ?xr_Refused ?xs_Refused ?xe_Refused ?xy_Refused ?xk_Refused ?xh_Refused ?xg_Refused ?xG_Refused ?xa_Refused ?xo_Refused ?q_MOST_LINKS ?q_MOST_TOP ?q_MOST_LESS ?q_MOST_PHASES ?q_NONE ?ql_NONE ?z_isinstance ?z_int ?z_bool ?z_list ?z_tuple ?z_len ?z_enumerate ?z_min ?z_sum ?z_range ?z_max ?z_abs ?z_all ?z_str ?z_set ?z_sorted
    (case a_Chain => k_is); (case a_Plan => k_is); (case a_Theta => k_is); (case a_InvalidChain => k_is); (case a_Refused => k_is); (case a0 => k_is); (case l0 => k_is); (case c0 => k_is); (case k0 => k_is); (case a1 => k_is); (case l1 => k_is); (case c1 => k_is); (case k1 => k_is); (case t1 => k_is); (case a2 => k_is); (case l2 => k_is); (case c2 => k_is); (case k2 => k_is); (case a3 => k_is); (case l3 => k_is); (case c3 => k_is); (case k3 => k_is); (case a4 => k_is); (case l4 => k_is); (case c4 => k_is); (case k4 => k_is); (case a5 => k_is); (case l5 => k_is); (case c5 => k_is); (case k5 => k_is); (case a6 => k_is); (case l6 => k_is); (case c6 => k_is); (case k6 => k_is); (case a7 => k_is); (case l7 => k_is); (case c7 => k_is); (case k7 => k_is); (case a8 => k_is); (case l8 => k_is); (case c8 => k_is); (case k8 => k_is); (case a9 => k_is); (case l9 => k_is); (case c9 => k_is); (case k9 => k_is); (case a10 => k_is); (case l10 => k_is); (case c10 => k_is); (case k10 => k_is); (case a11 => k_is); (case l11 => k_is); (case c11 => k_is); (case k11 => k_is); (case a12 => k_is); (case l12 => k_is); (case c12 => k_is); (case k12 => k_is); (case a13 => k_is); (case l13 => k_is); (case c13 => k_is); (case k13 => k_is); (case a14 => k_is); (case l14 => k_is); (case c14 => k_is); (case k14 => k_is); (case a15 => k_is); (case l15 => k_is); (case c15 => k_is); (case k15 => k_is); (case a16 => k_is); (case l16 => k_is); (case c16 => k_is); (case k16 => k_is); (case a17 => k_is); (case l17 => k_is); (case c17 => k_is); (case k17 => k_is); (case a18 => k_is); (case l18 => k_is); (case c18 => k_is); (case k18 => k_is); (case a19 => k_is); (case l19 => k_is); (case c19 => k_is); (case k19 => k_is); (case a20 => k_is); (case l20 => k_is); (case c20 => k_is); (case k20 => k_is); (case a21 => k_is); (case l21 => k_is); (case c21 => k_is); (case k21 => k_is); (case a22 => k_is); (case l22 => k_is); (case c22 => k_is); (case k22 => k_is); (case a23 => k_is); (case l23 => k_is); (case c23 => k_is); (case k23 => k_is); (case a24 => k_is); (case l24 => k_is); (case c24 => k_is); (case k24 => k_is); (case a25 => k_is); (case l25 => k_is); (case c25 => k_is); (case k25 => k_is); (case a26 => k_is); (case l26 => k_is); (case c26 => k_is); (case k26 => k_is); (case a27 => k_is); (case l27 => k_is); (case c27 => k_is); (case k27 => k_is); (case a28 => k_is); (case l28 => k_is); (case c28 => k_is); (case k28 => k_is); (case a29 => k_is); (case l29 => k_is); (case c29 => k_is); (case k29 => k_is); (case a30 => k_is); (case l30 => k_is); (case c30 => k_is); (case k30 => k_is); (case a31 => k_is); (case l31 => k_is); (case c31 => k_is); (case k31 => k_is); (case a32 => k_is); (case l32 => k_is); (case c32 => k_is); (case k32 => k_is); (case a33 => k_is); (case l33 => k_is); (case c33 => k_is); (case k33 => k_is); (case a34 => k_is); (case l34 => k_is); (case c34 => k_is); (case k34 => k_is); (case po_Chain => k_is); (case hd_Chain => k_is); (case pv_Chain => k_is); (case sa_Chain => k_is); (case mk_Chain => k_is); (case fn_Chain => k_is); (case kp_Chain => k_is); (case n_Chain_links => k_is); (case po_Plan => k_is); (case hd_Plan => k_is); (case pv_Plan => k_is); (case sa_Plan => k_is); (case mk_Plan => k_is); (case fn_Plan => k_is); (case kp_Plan => k_is); (case n_Plan_rate => k_is); (case n_Plan_order => k_is); (case n_Plan_gate => k_is); (case n_Plan_way => k_is); (case n_Plan_streams => k_is); (case n_Plan_length => k_is); (case n_Plan_late => k_is); (case n_Plan_gap => k_is); (case po_Theta => k_is); (case hd_Theta => k_is); (case pv_Theta => k_is); (case sa_Theta => k_is); (case mk_Theta => k_is); (case fn_Theta => k_is); (case kp_Theta => k_is); (case n_Theta_first => k_is); (case n_Theta_second => k_is); (case n_Theta_back => k_is); (case z_super => k_is); (case z_any => k_is); (case z_top => rfl); (case x_hn => k_is); (case x_ht => k_is); (case xi_InvalidChain => k_is); (case xl_InvalidChain => k_is); (case xc_InvalidChain => k_is); (case xd_InvalidChain => k_is); (case xv_InvalidChain => rfl); (case xw_InvalidChain => decide +kernel); (case xx_InvalidChain => k_is); (case xt_InvalidChain => k_is); (case xu_InvalidChain => ks_is); (case xb_InvalidChain => k_is); (case xm_InvalidChain => k_is); (case xn_InvalidChain => k_is); (case xK_InvalidChain => k_is); (case xr_InvalidChain => rfl); (case xs_InvalidChain => k_is); (case xe_InvalidChain => k_is); (case xy_InvalidChain => k_is); (case xk_InvalidChain => k_is); (case xh_InvalidChain => k_is); (case xg_InvalidChain => k_is); (case xG_InvalidChain => k_is); (case xa_InvalidChain => k_is); (case xo_InvalidChain => k_is); (case xi_Refused => k_is); (case xl_Refused => k_is); (case xc_Refused => k_is); (case xd_Refused => k_is); (case xv_Refused => rfl); (case xw_Refused => decide +kernel); (case xx_Refused => k_is); (case xt_Refused => k_is); (case xu_Refused => ks_is); (case xb_Refused => k_is); (case xm_Refused => k_is); (case xn_Refused => k_is); (case xK_Refused => k_is); (case xr_Refused => rfl); (case xs_Refused => k_is); (case xe_Refused => k_is); (case xy_Refused => k_is); (case xk_Refused => k_is); (case xh_Refused => k_is); (case xg_Refused => k_is); (case xG_Refused => k_is); (case xa_Refused => k_is); (case xo_Refused => k_is); (case q_MOST_LINKS => k_is); (case q_MOST_TOP => k_is); (case q_MOST_LESS => k_is); (case q_MOST_PHASES => k_is); (case q_NONE => k_is); (case ql_NONE => k_is); (case z_isinstance => k_is); (case z_int => k_is); (case z_bool => k_is); (case z_list => k_is); (case z_tuple => k_is); (case z_len => k_is); (case z_enumerate => k_is); (case z_min => k_is); (case z_sum => k_is); (case z_range => k_is); (case z_max => k_is); (case z_abs => k_is); (case z_all => k_is); (case z_str => k_is); (case z_set => k_is); (case z_sorted => k_is)
