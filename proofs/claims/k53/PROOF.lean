import PyProof.Rows.All
import Wide.All
import OpenK.AllK
import Wide.FinOn
import KE.KStateDown
import HandS.Head0
import HandS.Head1
import HandS.Head2
import HandS.HeadEnd
import HandS.HeadHook1
import HandS.HeadHook2
import HandS.ForMost
import HandS.Deep
import HandS.TupSets
import HandS.Conv
import HandS.Flow
import HandS.Style
import KE.KDictKeyed
import KE.DataEq
import HandS.Defaults
import HandS.TupAny
import HandS.SortKw
import KE.DataCmp
import KE.SortData
import KE.DataMinMax
import HandS.Star
import HandS.TupLen
import HandS.More
import HandS.IsInst
import KE.KIndexOf
import PySem.Challenge.RW_trellis_k53_whole_symmetries_and_copies
set_option Elab.async false
set_option linter.all false
set_option maxRecDepth 100000
set_option maxHeartbeats 4000000
/-! THE MIRROR LAYER, part 1: heaps that keep, data that values stand for, environments. -/
namespace Mx
open PySem L2

abbrev D := PyData
abbrev En := List (Option D)

/-! ### heaps that keep all but some -/
structure Kp (O : List Addr) (G G' : Hp) : Prop where
  obj : ∀ b u, G b = some u → b ∉ O → G' b = some u
  tup : ∀ b us, G b = some (.tup us) → G' b = some (.tup us)
  frz : ∀ b ob u, G b = some (.frz ob u) → G' b = some (.frz ob u)
  al : ∀ b, G b ≠ none → G' b ≠ none
section
variable {O O' : List Addr} {G G' G1 G2 : Hp} {a b p : Addr} {u : HO}
theorem Kp.same (e : Same G G') : Kp O G G' :=
  ⟨fun b u h _ => e b u h, fun b us h => e b _ h, fun b ob u h => e b _ h, fun b h => by
    cases q : G b with
    | none => exact absurd q h
    | some u => rw [e b u q]; exact fun z => (nomatch z)⟩
theorem Kp.refl : Kp O G G := Kp.same (Same.refl G)
theorem Kp.to_same (h : Kp [] G G') : Same G G' := fun b u q => h.obj b u q (by simp)
theorem Kp.trans (h : Kp O G G1) (k : Kp O G1 G2) : Kp O G G2 :=
  ⟨fun b u q n => k.obj b u (h.obj b u q n) n, fun b us q => k.tup b us (h.tup b us q), fun b ob u q => k.frz b ob u (h.frz b ob u q), fun b q => k.al b (h.al b q)⟩
theorem Kp.mono (h : Kp O G G') (s : ∀ x ∈ O, x ∈ O') : Kp O' G G' :=
  ⟨fun b u q n => h.obj b u q (fun z => n (s b z)), h.tup, h.frz, h.al⟩
/-- what did not stand before need not be told -/
theorem Kp.narrow (h : Kp O G G') (s : ∀ x ∈ O, x ∈ O' ∨ G x = none) : Kp O' G G' :=
  ⟨fun b u q n => h.obj b u q (fun z => (s b z).elim n (fun r => by rw [r] at q; cases q)), h.tup, h.frz, h.al⟩
def Soft (o : Option HO) : Prop := (∀ us, o ≠ some (.tup us)) ∧ ∀ ob u, o ≠ some (.frz ob u)
theorem Kp.upd (ha : a ∈ O) (hs : Soft (G a)) : Kp O G (upd G a u) := by
  refine ⟨fun b w q n => ?_, fun b us q => ?_, fun b ob w q => ?_, fun b q => ?_⟩
  · rw [upd_ne (fun e : b = a => n (by rw [e]; exact ha))]; exact q
  · rw [upd_ne (fun e => by rw [e] at q; exact hs.1 _ q)]; exact q
  · rw [upd_ne (fun e => by rw [e] at q; exact hs.2 _ _ q)]; exact q
  · by_cases e : b = a
    · rw [e, upd_same]; exact fun z => (nomatch z)
    · rw [upd_ne e]; exact q
theorem same_new {H : Hp} {q : Addr} (h : H q = none) (o : HO) : Same H (L2.upd H q o) := fun b w e => by
  rw [upd_ne (ne_of_none e h)]; exact e
end
theorem soft_lst {G : Hp} {a : Addr} {xs : List V} (h : G a = some (.lst xs)) : Soft (G a) := by
  rw [h]; exact ⟨fun _ z => (nomatch z), fun _ _ z => (nomatch z)⟩
theorem soft_dK {G : Hp} {a : Addr} {xs : List (Key × V)} (h : G a = some (.dK xs)) : Soft (G a) := by
  rw [h]; exact ⟨fun _ z => (nomatch z), fun _ _ z => (nomatch z)⟩
theorem soft_ext {G : Hp} {a : Addr} {φ : Heap → Prop} (h : G a = some (.ext φ)) : Soft (G a) := by
  rw [h]; exact ⟨fun _ z => (nomatch z), fun _ _ z => (nomatch z)⟩
theorem soft_dT {G : Hp} {a : Addr} {xs : List (List Key × V)} (h : G a = some (.dT xs)) : Soft (G a) := by
  rw [h]; exact ⟨fun _ z => (nomatch z), fun _ _ z => (nomatch z)⟩
theorem SqT.kp {K : PySem.W.Frag} {O : List Addr} {H H' : Hp} {a : Addr} {xs : List V} (k : Kp O H H') (h : SqT K H a xs) : SqT K H' a xs := by
  rcases h with (h | ⟨ob, h⟩) | h
  · exact .inl (.inl (k.tup _ _ h))
  · exact .inl (.inr ⟨ob, k.frz _ _ _ h⟩)
  · exact .inr h

/-- a tuple as this layer makes them: its object is known, and has no dict -/
def Tp (H : Hp) (a : Addr) (xs : List V) : Prop := ∃ ob : Obj, ob.dict = none ∧ H a = some (.frz ob (.tup xs))
theorem Tp.kp {O : List Addr} {H H' : Hp} {a : Addr} {xs : List V} (k : Kp O H H') (h : Tp H a xs) : Tp H' a xs := let ⟨ob, d, q⟩ := h; ⟨ob, d, k.frz a ob _ q⟩
theorem Tp.sq {K : PySem.W.Frag} {H : Hp} {a : Addr} {xs : List V} (h : Tp H a xs) : SqT K H a xs := let ⟨ob, _, q⟩ := h; .inl (.inr ⟨ob, q⟩)

/-! ### what a value stands for: B are the addresses that may change -/
mutual
def Rp (K : PySem.W.Frag) (B : List Addr) (H : Hp) : D → V → Prop
  | .none, v => v = .non
  | .bool b, v => v = .bl b
  | .int i, v => v = .int i
  | .str x, v => v = .str x
  | .list ds, v => ∃ a xs, v = .ref a ∧ a ∉ B ∧ H a = some (.lst xs) ∧ RpA K B H ds xs
  | .tuple ds, v => ∃ a xs, v = .ref a ∧ Tp H a xs ∧ RpA K B H ds xs
  | .dict _, _ => False
def RpA (K : PySem.W.Frag) (B : List Addr) (H : Hp) : List D → List V → Prop
  | [], xs => xs = []
  | d :: ds, xs => ∃ x r, xs = x :: r ∧ Rp K B H d x ∧ RpA K B H ds r
end
section
variable {K : PySem.W.Frag} {B B' O : List Addr} {H H' : Hp}
mutual
theorem Rp.kp (k : Kp O H H') (s : ∀ x ∈ O, x ∈ B) : ∀ (d : D) (v : V), Rp K B H d v → Rp K B H' d v
  | .none, _, h => by unfold Rp at h ⊢; exact h
  | .bool b, _, h => by unfold Rp at h ⊢; exact h
  | .int i, _, h => by unfold Rp at h ⊢; exact h
  | .str x, _, h => by unfold Rp at h ⊢; exact h
  | .list ds, _, h => by
    unfold Rp at h ⊢
    obtain ⟨a, xs, e, n, q, r⟩ := h
    exact ⟨a, xs, e, n, k.obj a _ q fun z => n (s a z), RpA.kp k s ds xs r⟩
  | .tuple ds, _, h => by
    unfold Rp at h ⊢
    obtain ⟨a, xs, e, q, r⟩ := h
    exact ⟨a, xs, e, q.kp k, RpA.kp k s ds xs r⟩
  | .dict _, _, h => by unfold Rp at h; exact h.elim
theorem RpA.kp (k : Kp O H H') (s : ∀ x ∈ O, x ∈ B) : ∀ (ds : List D) (xs : List V), RpA K B H ds xs → RpA K B H' ds xs
  | [], _, h => by unfold RpA at h ⊢; exact h
  | d :: ds, _, h => by
    unfold RpA at h ⊢
    obtain ⟨x, r, e, h1, h2⟩ := h
    exact ⟨x, r, e, Rp.kp k s d x h1, RpA.kp k s ds r h2⟩
end
mutual
/-- other addresses may change: fewer, or such as nothing stands at -/
theorem Rp.grow (s : ∀ x ∈ B', x ∈ B ∨ H x = none) : ∀ (d : D) (v : V), Rp K B H d v → Rp K B' H d v
  | .none, _, h => by unfold Rp at h ⊢; exact h
  | .bool b, _, h => by unfold Rp at h ⊢; exact h
  | .int i, _, h => by unfold Rp at h ⊢; exact h
  | .str x, _, h => by unfold Rp at h ⊢; exact h
  | .list ds, _, h => by
    unfold Rp at h ⊢
    obtain ⟨a, xs, e, n, q, r⟩ := h
    refine ⟨a, xs, e, fun z => ?_, q, RpA.grow s ds xs r⟩
    rcases s a z with w | w
    · exact n w
    · rw [q] at w; cases w
  | .tuple ds, _, h => by
    unfold Rp at h ⊢
    obtain ⟨a, xs, e, q, r⟩ := h
    exact ⟨a, xs, e, q, RpA.grow s ds xs r⟩
  | .dict _, _, h => by unfold Rp at h; exact h.elim
theorem RpA.grow (s : ∀ x ∈ B', x ∈ B ∨ H x = none) : ∀ (ds : List D) (xs : List V), RpA K B H ds xs → RpA K B' H ds xs
  | [], _, h => by unfold RpA at h ⊢; exact h
  | d :: ds, _, h => by
    unfold RpA at h ⊢
    obtain ⟨x, r, e, h1, h2⟩ := h
    exact ⟨x, r, e, Rp.grow s d x h1, RpA.grow s ds r h2⟩
end
theorem Rp.same (e : Same H H') {d : D} {v : V} (h : Rp K B H d v) : Rp K B H' d v := Rp.kp (O := []) (Kp.same e) (fun _ z => by cases z) d v h
theorem RpA.same (e : Same H H') {d : List D} {v : List V} (h : RpA K B H d v) : RpA K B H' d v := RpA.kp (O := []) (Kp.same e) (fun _ z => by cases z) d v h
theorem RpA.nil : RpA K B H [] [] := by unfold RpA; rfl
theorem RpA.cons {d : D} {ds : List D} {x : V} {xs : List V} (h : Rp K B H d x) (t : RpA K B H ds xs) : RpA K B H (d :: ds) (x :: xs) := by
  unfold RpA; exact ⟨x, xs, rfl, h, t⟩
theorem RpA.length : ∀ {ds : List D} {xs : List V}, RpA K B H ds xs → xs.length = ds.length
  | [], _, h => by unfold RpA at h; rw [h]; rfl
  | d :: ds, _, h => by
    unfold RpA at h
    obtain ⟨x, r, rfl, _, h2⟩ := h
    simp only [List.length_cons, RpA.length h2]
theorem RpA.append : ∀ {ds es : List D} {xs ys : List V}, RpA K B H ds xs → RpA K B H es ys → RpA K B H (ds ++ es) (xs ++ ys)
  | [], _, _, _, h, k => by unfold RpA at h; rw [h]; exact k
  | d :: ds, _, _, _, h, k => by
    unfold RpA at h
    obtain ⟨x, r, rfl, h1, h2⟩ := h
    exact RpA.cons h1 (RpA.append h2 k)
theorem RpA.get : ∀ {ds : List D} {xs : List V} {i : Nat} {d : D}, RpA K B H ds xs → ds[i]? = some d → ∃ x, xs[i]? = some x ∧ Rp K B H d x
  | [], _, i, _, _, e => by simp at e
  | d :: ds, _, i, d', h, e => by
    unfold RpA at h
    obtain ⟨x, r, rfl, h1, h2⟩ := h
    cases i with
    | zero => simp at e; subst e; exact ⟨x, by simp, h1⟩
    | succ i => exact (RpA.get (i := i) h2 (by simpa using e)).imp fun y q => ⟨by simpa using q.1, q.2⟩
theorem RpA.getV {ds : List D} {xs : List V} {i : Nat} {x : V} (h : RpA K B H ds xs) (e : xs[i]? = some x) : ∃ d, ds[i]? = some d ∧ Rp K B H d x := by
  obtain ⟨l, q⟩ := List.getElem?_eq_some_iff.mp e
  have l2 : i < ds.length := by rw [← h.length]; exact l
  obtain ⟨y, r, s⟩ := h.get (List.getElem?_eq_getElem l2)
  rw [e] at r; cases r
  exact ⟨_, List.getElem?_eq_getElem l2, s⟩
theorem RpA.take : ∀ {ds : List D} {xs : List V} (n : Nat), RpA K B H ds xs → RpA K B H (ds.take n) (xs.take n)
  | _, _, 0, _ => by simp; exact RpA.nil
  | [], _, n + 1, h => by unfold RpA at h; rw [h]; exact RpA.nil
  | d :: ds, _, n + 1, h => by
    unfold RpA at h
    obtain ⟨x, r, rfl, h1, h2⟩ := h
    exact RpA.cons h1 (RpA.take n h2)
theorem RpA.drop : ∀ {ds : List D} {xs : List V} (n : Nat), RpA K B H ds xs → RpA K B H (ds.drop n) (xs.drop n)
  | _, _, 0, h => h
  | [], _, n + 1, h => by unfold RpA at h; rw [h]; exact RpA.nil
  | d :: ds, _, n + 1, h => by
    unfold RpA at h
    obtain ⟨x, r, rfl, h1, h2⟩ := h
    exact RpA.drop n h2
theorem RpA.set : ∀ {ds : List D} {xs : List V} (n : Nat) {d : D} {x : V}, RpA K B H ds xs → Rp K B H d x → RpA K B H (ds.set n d) (xs.set n x)
  | [], _, n, _, _, h, _ => by unfold RpA at h; rw [h]; exact RpA.nil
  | d :: ds, _, 0, _, _, h, k => by
    unfold RpA at h
    obtain ⟨x, r, rfl, h1, h2⟩ := h
    exact RpA.cons k h2
  | d :: ds, _, n + 1, _, _, h, k => by
    unfold RpA at h
    obtain ⟨x, r, rfl, h1, h2⟩ := h
    exact RpA.cons h1 (RpA.set n h2 k)
theorem RpA.eraseIdx : ∀ {ds : List D} {xs : List V} (n : Nat), RpA K B H ds xs → RpA K B H (ds.eraseIdx n) (xs.eraseIdx n)
  | [], _, n, h => by unfold RpA at h; rw [h]; exact RpA.nil
  | d :: ds, _, 0, h => by
    unfold RpA at h
    obtain ⟨x, r, rfl, h1, h2⟩ := h
    exact h2
  | d :: ds, _, n + 1, h => by
    unfold RpA at h
    obtain ⟨x, r, rfl, h1, h2⟩ := h
    exact RpA.cons h1 (RpA.eraseIdx n h2)
theorem RpA.reverse : ∀ {ds : List D} {xs : List V}, RpA K B H ds xs → RpA K B H ds.reverse xs.reverse
  | [], _, h => by unfold RpA at h; rw [h]; exact RpA.nil
  | d :: ds, _, h => by
    unfold RpA at h
    obtain ⟨x, r, rfl, h1, h2⟩ := h
    rw [List.reverse_cons, List.reverse_cons]
    exact (RpA.reverse h2).append (RpA.cons h1 RpA.nil)
/-- plain numbers -/
theorem RpA.ints : ∀ {ns : List Int} {xs : List V}, RpA K B H (ns.map PyData.int) xs → xs = ns.map V.int
  | [], _, h => by simpa [RpA] using h
  | n :: ns, _, h => by
    rw [List.map_cons] at h
    unfold RpA at h
    obtain ⟨x, r, rfl, h1, h2⟩ := h
    unfold Rp at h1
    rw [h1, RpA.ints h2]; rfl
theorem RpA.of_ints : ∀ (ns : List Int), RpA K B H (ns.map PyData.int) (ns.map V.int)
  | [] => RpA.nil
  | n :: ns => RpA.cons (by unfold Rp; rfl) (RpA.of_ints ns)
end

/-! ### dicts whose keys are tuples: of numbers, None and such tuples -/
abbrev NK := NestedKey
mutual
def h0 : NK → Int
  | .none => reduceHash 0xFCA86420
  | .num i => hashInt i
  | .text _ => 0
  | .tup ks => reduceHash (Builtin.Tuple.tupleHashOf (h0s ks))
def h0s : List NK → List Int
  | [] => []
  | k :: ks => h0 k :: h0s ks
end
mutual
def noTx : NK → Bool
  | .none => true
  | .num _ => true
  | .text _ => false
  | .tup ks => noTxs ks
def noTxs : List NK → Bool
  | [] => true
  | k :: ks => noTx k && noTxs ks
end
mutual
theorem h0_eq (w : World) : ∀ k : NK, noTx k = true → k.hash w = h0 k
  | .none, _ => by unfold NestedKey.hash h0; rfl
  | .num i, _ => by unfold NestedKey.hash h0; rfl
  | .text x, h => by unfold noTx at h; cases h
  | .tup ks, h => by unfold noTx at h; unfold NestedKey.hash h0; rw [h0s_eq w ks h]
theorem h0s_eq (w : World) : ∀ ks : List NK, noTxs ks = true → NestedKey.hashes w ks = h0s ks
  | [], _ => by unfold NestedKey.hashes h0s; rfl
  | k :: ks, h => by
    unfold noTxs at h
    rw [Bool.and_eq_true] at h
    unfold NestedKey.hashes h0s
    rw [h0_eq w k h.1, h0s_eq w ks h.2]
end
def NRow (p : NK × Addr × V) (q : NK × Addr × Value) : Prop := p.1 = q.1 ∧ p.2.1 = q.2.1 ∧ RelV p.2.2 q.2.2
def NDic (a : Addr) (xs : List (NK × Addr × V)) : HO := .ext fun h => xs.length ≤ sizeLine ∧ (a == sysModules) = false ∧ ∃ ys, Paired NRow xs ys ∧ (ys.map (·.1)).Nodup ∧
  ∃ o es ep, h.get? a = some o ∧ o.ExactDict ∧ o.data = .dict es ep ∧ es.toList = ys.map fun y => (⟨h0 y.1, .ref y.2.1, y.2.2⟩ : DictEntry)
mutual
def NkV (H : Hp) : NK → V → Prop
  | .none, v => v = .non
  | .num i, v => v = .int i
  | .text _, _ => False
  | .tup ks, v => ∃ a xs, v = .ref a ∧ Tp H a xs ∧ NkVs H ks xs
def NkVs (H : Hp) : List NK → List V → Prop
  | [], xs => xs = []
  | k :: ks, xs => ∃ x r, xs = x :: r ∧ NkV H k x ∧ NkVs H ks r
end
mutual
theorem NkV.kp {O : List Addr} {H H' : Hp} (k : Kp O H H') : ∀ (n : NK) (v : V), NkV H n v → NkV H' n v
  | .none, _, h => by unfold NkV at h ⊢; exact h
  | .num i, _, h => by unfold NkV at h ⊢; exact h
  | .text i, _, h => by unfold NkV at h; exact h.elim
  | .tup ks, _, h => by
    unfold NkV at h ⊢
    obtain ⟨a, xs, e, q, r⟩ := h
    exact ⟨a, xs, e, q.kp k, NkVs.kp k ks xs r⟩
theorem NkVs.kp {O : List Addr} {H H' : Hp} (k : Kp O H H') : ∀ (n : List NK) (v : List V), NkVs H n v → NkVs H' n v
  | [], _, h => by unfold NkVs at h ⊢; exact h
  | n :: ns, _, h => by
    unfold NkVs at h ⊢
    obtain ⟨x, r, e, h1, h2⟩ := h
    exact ⟨x, r, e, NkV.kp k n x h1, NkVs.kp k ns r h2⟩
end
structure RpN (K : PySem.W.Frag) (B : List Addr) (H : Hp) (kvs : List (D × D)) (xs : List (NK × Addr × V)) : Prop where
  ks : kvs.map (·.1) = xs.map fun x => x.1.data
  ok : ∀ x ∈ xs, noTx x.1 = true ∧ x.1.depth ≤ 8 ∧ NkV H x.1 (.ref x.2.1)
  vs : RpA K B H (kvs.map (·.2)) (xs.map (·.2.2))

/-- what a walk gives: as above, or any tuple of such -/
def Rq (K : PySem.W.Frag) (B : List Addr) (H : Hp) (d : D) (v : V) : Bool → Prop
  | false => Rp K B H d v
  | true => ∃ a xs ds, d = .tuple ds ∧ v = .ref a ∧ SqT K H a xs ∧ RpA K B H ds xs

/-! ### a list, a dict at an address -/
def kD : Key → D
  | .inl i => .int i
  | .inr x => .str x
def RpK (K : PySem.W.Frag) (B : List Addr) (H : Hp) (kvs : List (D × D)) (ps : List (Key × V)) : Prop :=
  kvs.map (·.1) = ps.map (fun p => kD p.1) ∧ RpA K B H (kvs.map (·.2)) (ps.map (·.2))
def RpM (K : PySem.W.Frag) (B : List Addr) (H : Hp) : D → Addr → Prop
  | .list ds, a => ∃ xs, H a = some (.lst xs) ∧ RpA K B H ds xs
  | .dict kvs, a => (∃ ps, H a = some (.dK ps) ∧ RpK K B H kvs ps) ∨ ∃ p ps, H a = some (NDic a (p :: ps)) ∧ RpN K B H kvs (p :: ps)
  | _, _ => False
section
variable {K : PySem.W.Frag} {B B' O : List Addr} {H H' : Hp}
theorem RpM.kp (k : Kp O H H') (s : ∀ x ∈ O, x ∈ B) {d : D} {a : Addr} (n : a ∉ O) (h : RpM K B H d a) : RpM K B H' d a := by
  cases d with
  | list ds => obtain ⟨xs, q, r⟩ := h; exact ⟨xs, k.obj a _ q n, RpA.kp k s _ _ r⟩
  | dict kvs =>
    rcases h with ⟨ps, q, e, r⟩ | ⟨p, ps, q, e, o, r⟩
    · exact .inl ⟨ps, k.obj a _ q n, e, RpA.kp k s _ _ r⟩
    · exact .inr ⟨p, ps, k.obj a _ q n, e, fun x hx => ⟨(o x hx).1, (o x hx).2.1, NkV.kp k _ _ (o x hx).2.2⟩, RpA.kp k s _ _ r⟩
  | none => exact h.elim
  | bool _ => exact h.elim
  | int _ => exact h.elim
  | str _ => exact h.elim
  | tuple _ => exact h.elim
theorem RpM.same (e : Same H H') {d : D} {a : Addr} (h : RpM K B H d a) : RpM K B H' d a := RpM.kp (O := []) (Kp.same e) (fun _ z => by cases z) (by simp) h
theorem RpM.grow (s : ∀ x ∈ B', x ∈ B ∨ H x = none) {d : D} {a : Addr} (h : RpM K B H d a) : RpM K B' H d a := by
  cases d with
  | list ds => obtain ⟨xs, q, r⟩ := h; exact ⟨xs, q, RpA.grow s _ _ r⟩
  | dict kvs =>
    rcases h with ⟨ps, q, e, r⟩ | ⟨p, ps, q, e, o, r⟩
    · exact .inl ⟨ps, q, e, RpA.grow s _ _ r⟩
    · exact .inr ⟨p, ps, q, e, o, RpA.grow s _ _ r⟩
  | none => exact h.elim
  | bool _ => exact h.elim
  | int _ => exact h.elim
  | str _ => exact h.elim
  | tuple _ => exact h.elim
theorem RpM.soft {d : D} {a : Addr} (h : RpM K B H d a) : Soft (H a) := by
  cases d with
  | list ds => obtain ⟨xs, q, r⟩ := h; exact soft_lst q
  | dict kvs =>
    rcases h with ⟨ps, q, e, r⟩ | ⟨p, ps, q, r⟩
    · exact soft_dK q
    · exact soft_ext q
  | none => exact h.elim
  | bool _ => exact h.elim
  | int _ => exact h.elim
  | str _ => exact h.elim
  | tuple _ => exact h.elim
theorem RpM.there {d : D} {a : Addr} (h : RpM K B H d a) : H a ≠ none := by
  cases d with
  | list ds => obtain ⟨xs, q, r⟩ := h; rw [q]; exact fun z => (nomatch z)
  | dict kvs =>
    rcases h with ⟨ps, q, e, r⟩ | ⟨p, ps, q, r⟩ <;> (rw [q]; exact fun z => (nomatch z))
  | none => exact h.elim
  | bool _ => exact h.elim
  | int _ => exact h.elim
  | str _ => exact h.elim
  | tuple _ => exact h.elim
end
/-- a value as it may be read: as above, or a list, a dict that others may change -/
def RpV (K : PySem.W.Frag) (B : List Addr) (H : Hp) (d : D) (v : V) : Prop := Rp K B H d v ∨ ∃ a, v = .ref a ∧ RpM K B H d a
theorem RpV.same {K : PySem.W.Frag} {B : List Addr} {H H' : Hp} {d : D} {v : V} (e : Same H H') (h : RpV K B H d v) : RpV K B H' d v :=
  h.imp (fun r => r.same e) fun ⟨a, q, r⟩ => ⟨a, q, r.same e⟩
def RpVs (K : PySem.W.Frag) (B : List Addr) (H : Hp) : List D → List V → Prop
  | [], xs => xs = []
  | d :: ds, xs => ∃ x r, xs = x :: r ∧ RpV K B H d x ∧ RpVs K B H ds r
theorem RpVs.same {K : PySem.W.Frag} {B : List Addr} {H H' : Hp} (e : Same H H') : ∀ {ds : List D} {vs : List V}, RpVs K B H ds vs → RpVs K B H' ds vs
  | [], _, h => h
  | d :: ds, _, h => by
    obtain ⟨x, r, q, h1, h2⟩ := h
    exact ⟨x, r, q, h1.same e, RpVs.same e h2⟩
theorem RpVs.length {K : PySem.W.Frag} {B : List Addr} {H : Hp} : ∀ {ds : List D} {vs : List V}, RpVs K B H ds vs → vs.length = ds.length
  | [], _, h => by rw [show _ = [] from h]; rfl
  | d :: ds, _, h => by
    obtain ⟨x, r, rfl, h1, h2⟩ := h
    simp only [List.length_cons, RpVs.length h2]
theorem RpVs.get {K : PySem.W.Frag} {B : List Addr} {H : Hp} : ∀ {ds : List D} {vs : List V} {i : Nat} {d : D}, RpVs K B H ds vs → ds[i]? = some d → ∃ x, vs[i]? = some x ∧ RpV K B H d x
  | [], _, i, _, _, e => by simp at e
  | d :: ds, _, i, d', h, e => by
    obtain ⟨x, r, rfl, h1, h2⟩ := h
    cases i with
    | zero => simp at e; subst e; exact ⟨x, by simp, h1⟩
    | succ i => exact (RpVs.get (i := i) h2 (by simpa using e)).imp fun y q => ⟨by simpa using q.1, q.2⟩

/-! ### environments: st a value that stays, wk a parameter that is read, mu an own list or dict, mp a parameter that is changed, fz the script -/
inductive SK where
  | st | wk | mu | mp | fz
  deriving DecidableEq
def SlotOk (K : PySem.W.Frag) (B O P : List Addr) (H : Hp) (k : SK) (d : D) (v : V) : Prop :=
  match k with
  | .st => Rp K B H d v
  | .wk => Rp K B H d v ∨ ∃ a, v = .ref a ∧ a ∉ O ∧ a ∉ P ∧ RpM K B H d a
  | .mu => ∃ a, v = .ref a ∧ a ∈ O ∧ RpM K B H d a
  | .mp => ∃ a, v = .ref a ∧ a ∈ P ∧ RpM K B H d a
  | .fz => ∃ (a : Addr) (ns : List Int), v = .ref a ∧ d = .list (ns.map PyData.int) ∧ SqL K H a (ns.map V.int) ∧ (a ∉ O ∧ a ∉ P ∨ ∀ H', SqL K H' a (ns.map V.int))
def chg : SK → Bool
  | .mu => true
  | .mp => true
  | _ => false
structure Rho (K : PySem.W.Frag) (B O P : List Addr) (kd : Nat → SK) (ρ : En) (σ : St) (H : Hp) : Prop where
  subO : ∀ x ∈ O, x ∈ B
  subP : ∀ x ∈ P, x ∈ B
  al : ∀ x ∈ B, H x ≠ none
  len : σ.length = ρ.length
  slot : ∀ i d, ρ[i]? = some (some d) → ∃ v, σ[i]? = some (some v) ∧ SlotOk K B O P H (kd i) d v
  sep : ∀ i j a d e, chg (kd i) = true → chg (kd j) = true → ρ[i]? = some (some d) → ρ[j]? = some (some e) → σ[i]? = some (some (.ref a)) → σ[j]? = some (some (.ref a)) → i = j
section
variable {K : PySem.W.Frag} {B B' O O' P : List Addr} {H H' : Hp} {kd : Nat → SK} {ρ : En} {σ : St}
theorem SqL.same {a : Addr} {xs : List V} (e : Same H H') (h : SqL K H a xs) : SqL K H' a xs := L2.Same.seq e h
theorem SlotOk.same {k : SK} {d : D} {v : V} (e : Same H H') (h : SlotOk K B O P H k d v) : SlotOk K B O P H' k d v := by
  cases k with
  | st => exact Rp.same e h
  | wk => exact h.imp (fun r => Rp.same e r) fun ⟨a, q, n, m, r⟩ => ⟨a, q, n, m, r.same e⟩
  | mu => obtain ⟨a, q, n, r⟩ := h; exact ⟨a, q, n, r.same e⟩
  | mp => obtain ⟨a, q, n, r⟩ := h; exact ⟨a, q, n, r.same e⟩
  | fz => obtain ⟨a, ns, q, n, r, z⟩ := h; exact ⟨a, ns, q, n, Mx.SqL.same e r, z⟩
theorem Rho.same (e : Same H H') (R : Rho K B O P kd ρ σ H) : Rho K B O P kd ρ σ H' :=
  ⟨R.subO, R.subP, fun x h => (Kp.same (O := []) e).al x (R.al x h), R.len, fun i d h => by
    obtain ⟨v, q, s⟩ := R.slot i d h
    exact ⟨v, q, s.same e⟩, R.sep⟩
theorem SlotOk.val {k : SK} {d : D} {v : V} (h : SlotOk K B O P H k d v) (n : k ≠ .fz) : RpV K B H d v := by
  cases k with
  | st => exact .inl h
  | wk => exact h.imp (fun r => r) fun ⟨a, q, _, _, r⟩ => ⟨a, q, r⟩
  | mu => obtain ⟨a, q, _, r⟩ := h; exact .inr ⟨a, q, r⟩
  | mp => obtain ⟨a, q, _, r⟩ := h; exact .inr ⟨a, q, r⟩
  | fz => exact absurd rfl n
end
end Mx

/-! THE MIRROR LAYER, part 2: expressions. -/
namespace Mx
open PySem PySem.Spec L2 PyProof.Rows

/-! ### what a reading gives -/
abbrev Fx := En → Option D
def EvE (K : PySem.W.Frag) (kd : Nat → SK) (t : TE) (f : Fx) : Prop := ∀ B O P ρ σ H d (Q : VK), Rho K B O P kd ρ σ H → f ρ = some d → (∀ v H', Same H H' → Rp K B H' d v → Q v H') → t σ H Q
def EvV (K : PySem.W.Frag) (kd : Nat → SK) (t : TE) (f : Fx) : Prop := ∀ B O P ρ σ H d (Q : VK), Rho K B O P kd ρ σ H → f ρ = some d → (∀ v H', Same H H' → RpV K B H' d v → Q v H') → t σ H Q
/-- a new list or dict -/
def EvN (K : PySem.W.Frag) (kd : Nat → SK) (t : TE) (f : Fx) : Prop := ∀ B O P ρ σ H d (Q : VK), Rho K B O P kd ρ σ H → f ρ = some d → (∀ p H', H p = none → Same H H' → RpM K (B ++ [p]) H' d p → Q (.ref p) H') → t σ H Q
def EvT (K : PySem.W.Frag) (kd : Nat → SK) (t : TT) (f : En → Option Bool) : Prop := ∀ B O P ρ σ H b (Q : Bool → Hp → Prop), Rho K B O P kd ρ σ H → f ρ = some b → (∀ H', Same H H' → Q b H') → t σ H Q
def EvA (K : PySem.W.Frag) (kd : Nat → SK) (t : TA) (f : En → Option (List D)) : Prop := ∀ B O P ρ σ H ds (Q : List V → Hp → Prop), Rho K B O P kd ρ σ H → f ρ = some ds → (∀ vs H', Same H H' → RpVs K B H' ds vs → Q vs H') → t σ H Q
def EvS (K : PySem.W.Frag) (kd : Nat → SK) (t : TA) (f : En → Option (List D)) : Prop := ∀ B O P ρ σ H ds (Q : List V → Hp → Prop), Rho K B O P kd ρ σ H → f ρ = some ds → (∀ vs H', Same H H' → RpA K B H' ds vs → Q vs H') → t σ H Q
structure ME (X : Cx) (kd : Nat → SK) (e : Expr) (t : TE) (f : Fx) : Prop where
  pe : PE X e t
  ev : EvE X.K kd t f
structure MV (X : Cx) (kd : Nat → SK) (e : Expr) (t : TE) (f : Fx) : Prop where
  pe : PE X e t
  ev : EvV X.K kd t f
structure MN (X : Cx) (kd : Nat → SK) (e : Expr) (t : TE) (f : Fx) : Prop where
  pe : PE X e t
  ev : EvN X.K kd t f
structure MT (X : Cx) (kd : Nat → SK) (e : Expr) (t : TT) (f : En → Option Bool) : Prop where
  pe : PT X e t
  ev : EvT X.K kd t f
structure MW (X : Cx) (kd : Nat → SK) (e : Expr) (t : TT) (f : En → Option Bool) : Prop where
  pe : PW X e t
  ev : EvT X.K kd t f
structure MA (X : Cx) (kd : Nat → SK) (es : List Expr) (t : TA) (f : En → Option (List D)) : Prop where
  pe : PA X es t
  ev : EvA X.K kd t f
structure MS (X : Cx) (kd : Nat → SK) (es : List Expr) (t : TA) (f : En → Option (List D)) : Prop where
  pe : PA X es t
  ev : EvS X.K kd t f

/-! ### the functions -/
def fVar (i : Nat) : Fx := fun ρ => match ρ[i]? with
  | some (some d) => some d
  | _ => none
def fC (d : D) : Fx := fun _ => some d
def f1 (g : D → Option D) (a : Fx) : Fx := fun ρ => (a ρ).bind g
def f2 (g : D → D → Option D) (a b : Fx) : Fx := fun ρ => (a ρ).bind fun x => (b ρ).bind fun y => g x y
def fNil : En → Option (List D) := fun _ => some []
def fCons (a : Fx) (r : En → Option (List D)) : En → Option (List D) := fun ρ => (a ρ).bind fun x => (r ρ).map fun xs => x :: xs
def fCall (g : List D → Option D) (a : En → Option (List D)) : Fx := fun ρ => (a ρ).bind g
def fTup (a : En → Option (List D)) : Fx := fun ρ => (a ρ).bind fun ds => if ds.length ≤ 100000 then some (.tuple ds) else none
def fLst (a : En → Option (List D)) : Fx := fun ρ => (a ρ).bind fun ds => if ds.length ≤ 100000 then some (.list ds) else none
def notL : D → Option D
  | .list _ => none
  | .dict _ => none
  | d => some d
def isL : D → Option D
  | .list ds => some (.list ds)
  | _ => none
def fTest (a : Fx) : En → Option Bool := fun ρ => (a ρ).bind fun d => match d with
  | .bool b => some b
  | _ => none
def fAnd (a b : En → Option Bool) : En → Option Bool := fun ρ => (a ρ).bind fun x => if x = true then b ρ else some false
def fOr (a b : En → Option Bool) : En → Option Bool := fun ρ => (a ρ).bind fun x => if x = true then some true else b ρ
def fNot (a : En → Option Bool) : En → Option Bool := fun ρ => (a ρ).map fun x => !x
def fIf (c : En → Option Bool) (a b : Fx) : Fx := fun ρ => (c ρ).bind fun x => if x = true then a ρ else b ρ
def fBool (c : En → Option Bool) : Fx := fun ρ => (c ρ).map PyData.bool

theorem bind_some {α β : Type} {o : Option α} {g : α → Option β} {b : β} (h : o.bind g = some b) : ∃ a, o = some a ∧ g a = some b := by
  cases o with
  | none => cases h
  | some a => exact ⟨a, rfl, h⟩
theorem map_some {α β : Type} {o : Option α} {g : α → β} {b : β} (h : o.map g = some b) : ∃ a, o = some a ∧ g a = b := by
  cases o with
  | none => cases h
  | some a => exact ⟨a, rfl, by simpa using h⟩
theorem fVar_at {i : Nat} {ρ : En} {d : D} (h : fVar i ρ = some d) : ρ[i]? = some (some d) := by
  unfold fVar at h
  split at h
  · rename_i e; rw [e, h]
  · cases h

section
variable {X : Cx} {kd : Nat → SK} {e a b : Expr} {es : List Expr} {t ta tb te : TE} {tt tu : TT} {tl : TA} {f fa fb : Fx} {c c' : En → Option Bool} {g : En → Option (List D)} {pos : Pos}

theorem mv_var {i : Nat} {x : Str} (h : PE X (.Name x pos) (tVar i)) (hk : kd i ≠ .fz) : MV X kd (.Name x pos) (tVar i) (fVar i) := by
  refine ⟨h, fun B O P ρ σ H d Q R hf k => ?_⟩
  obtain ⟨v, q, s⟩ := R.slot i d (fVar_at hf)
  exact ⟨v, q, k v H (Same.refl H) (s.val hk)⟩
theorem me_var {i : Nat} {x : Str} (h : PE X (.Name x pos) (tVar i)) (hk : kd i = .st) : ME X kd (.Name x pos) (tVar i) (fVar i) := by
  refine ⟨h, fun B O P ρ σ H d Q R hf k => ?_⟩
  obtain ⟨v, q, s⟩ := R.slot i d (fVar_at hf)
  rw [hk] at s
  exact ⟨v, q, k v H (Same.refl H) s⟩
theorem ME.mv (h : ME X kd e t f) : MV X kd e t f := ⟨h.pe, fun B O P ρ σ H d Q R hf k => h.ev B O P ρ σ H d Q R hf fun v H' s r => k v H' s (.inl r)⟩
theorem MV.me (h : MV X kd e t f) : ME X kd e t (f1 notL f) := by
  refine ⟨h.pe, fun B O P ρ σ H d Q R hf k => ?_⟩
  obtain ⟨d', h1, h2⟩ := bind_some hf
  refine h.ev B O P ρ σ H d' Q R h1 fun v H' s r => k v H' s ?_
  have e : d' = d := by cases d' <;> simp_all [notL]
  subst e
  rcases r with r | ⟨a, q, r⟩
  · exact r
  · cases d' <;> first | exact r.elim | (simp [notL] at h2)
theorem rp_new {K : PySem.W.Frag} {B : List Addr} {H H' : Hp} {p : Addr} {ds : List D} (al : ∀ x ∈ B, H x ≠ none) (hp : H p = none) (r : RpM K (B ++ [p]) H' (.list ds) p) : Rp K B H' (.list ds) (.ref p) := by
  obtain ⟨xs, q, z⟩ := r
  unfold Rp
  exact ⟨p, xs, rfl, fun w => al p w hp, q, RpA.grow (fun x hx => .inl (List.mem_append_left _ hx)) _ _ z⟩
theorem MN.me (h : MN X kd e t f) : ME X kd e t (f1 isL f) := by
  refine ⟨h.pe, fun B O P ρ σ H d Q R hf k => ?_⟩
  obtain ⟨d', h1, h2⟩ := bind_some hf
  refine h.ev B O P ρ σ H d' Q R h1 fun p H' hp s r => k _ H' s ?_
  cases d' with
  | list ds =>
    cases h2
    exact rp_new R.al hp r
  | _ => cases h2
theorem MN.mv (h : MN X kd e t f) : MV X kd e t f := by
  refine ⟨h.pe, fun B O P ρ σ H d Q R hf k => ?_⟩
  exact h.ev B O P ρ σ H d Q R hf fun p H' hp s r => k _ H' s (.inr ⟨p, rfl, r.grow fun x hx => .inl (List.mem_append_left _ hx)⟩)

theorem me_int {i j} : ME X kd (.Constant (.int i) j pos) (tC (.int i)) (fC (.int i)) := ⟨pe_int, fun B O P ρ σ H d Q R hf k => by cases hf; exact k _ H (Same.refl H) (by unfold Rp; rfl)⟩
theorem me_bl {i j} : ME X kd (.Constant (.bool i) j pos) (tC (.bl i)) (fC (.bool i)) := ⟨pe_bl, fun B O P ρ σ H d Q R hf k => by cases hf; exact k _ H (Same.refl H) (by unfold Rp; rfl)⟩
theorem me_non {j} : ME X kd (.Constant .none j pos) (tC .non) (fC .none) := ⟨pe_non, fun B O P ρ σ H d Q R hf k => by cases hf; exact k _ H (Same.refl H) (by unfold Rp; rfl)⟩
theorem me_str {i j} : ME X kd (.Constant (.str i) j pos) (tC (.str i)) (fC (.str i)) := ⟨pe_str, fun B O P ρ σ H d Q R hf k => by cases hf; exact k _ H (Same.refl H) (by unfold Rp; rfl)⟩

/-! ### arguments, displays -/
theorem ma_nil : MA X kd [] tNil fNil := ⟨pa_nil, fun B O P ρ σ H ds Q R hf k => by cases hf; exact k [] H (Same.refl H) rfl⟩
theorem ma_cons (h : MV X kd e t f) (hr : MA X kd es tl g) (hs : starEach (e :: es) X.env = (false, eval e X.env) :: starEach es X.env := by rfl) : MA X kd (e :: es) (tCons t tl) (fCons f g) := by
  refine ⟨pa_cons h.pe hr.pe hs, fun B O P ρ σ H ds Q R hf k => ?_⟩
  obtain ⟨d, h1, h2⟩ := bind_some hf
  obtain ⟨ds', h3, h4⟩ := map_some h2
  subst h4
  refine h.ev B O P ρ σ H d _ R h1 fun v H1 s1 r1 => ?_
  refine hr.ev B O P ρ σ H1 ds' _ (R.same s1) h3 fun vs H2 s2 r2 => ?_
  exact k _ H2 (s1.trans s2) ⟨v, vs, rfl, r1.same s2, r2⟩
theorem ms_nil : MS X kd [] tNil fNil := ⟨pa_nil, fun B O P ρ σ H ds Q R hf k => by cases hf; exact k [] H (Same.refl H) RpA.nil⟩
theorem ms_cons (h : ME X kd e t f) (hr : MS X kd es tl g) (hs : starEach (e :: es) X.env = (false, eval e X.env) :: starEach es X.env := by rfl) : MS X kd (e :: es) (tCons t tl) (fCons f g) := by
  refine ⟨pa_cons h.pe hr.pe hs, fun B O P ρ σ H ds Q R hf k => ?_⟩
  obtain ⟨d, h1, h2⟩ := bind_some hf
  obtain ⟨ds', h3, h4⟩ := map_some h2
  subst h4
  refine h.ev B O P ρ σ H d _ R h1 fun v H1 s1 r1 => ?_
  refine hr.ev B O P ρ σ H1 ds' _ (R.same s1) h3 fun vs H2 s2 r2 => ?_
  exact k _ H2 (s1.trans s2) (RpA.cons (r1.same s2) r2)
theorem big_ok {n : Nat} (h : n ≤ 100000) : n ≤ sizeLine := Nat.le_trans h (by decide)
theorem big_lt {n : Nat} (h : n < 100000) : n < sizeLine := Nat.lt_of_lt_of_le h (by decide)
theorem rp_tup {K : PySem.W.Frag} {B : List Addr} {H : Hp} {p : Addr} {ds : List D} {xs : List V} (hp : Tp H p xs) (r : RpA K B H ds xs) : Rp K B H (.tuple ds) (.ref p) := by
  unfold Rp; exact ⟨p, xs, rfl, hp, r⟩
theorem fresh_of {H H' : Hp} {p : Addr} (s : Same H H') (h : H' p = none) : H p = none := s.free h
/-- a tuple display: the new object is known -/
def tTupF (t : TA) : TE := fun σ H Q => t σ H fun xs H1 => xs.length ≤ sizeLine ∧ ∀ p ob, H1 p = none → ob.dict = none → Q (.ref p) (upd H1 p (.frz ob (.tup xs)))
theorem pe_tupF {x1} {t : TA} (h : PA X es t) : PE X (.Tuple es x1 pos) (tTupF t) := by
  refine ⟨fun pn s0 sg G Q J hq => ?_⟩
  refine wpAny_Tuple_spliced (thn (h.run pos pn s0 sg G _ J hq) fun us s1 ⟨xs, G1, J1, r, z, q⟩ => ⟨by rw [← r.length]; exact z, ?_⟩)
  have e0 := Heap.get?_push_size s1.heap (o := { cls := .type "tuple", data := .seq us.toArray }) rfl
  refine ⟨.ref s1.heap.objs.size, upd G1 s1.heap.objs.size (.frz _ (.tup xs)), J1.laid (t' := s1.toks) (fun b u e => Heap.get?_push_of_some _ e) (Nat.le_refl _) ⟨e0, z, us, r, ⟨_, e0, rfl, _, rfl⟩⟩, rfl, q _ _ (J1.hok.fresh (Nat.le_refl _)) rfl⟩
theorem me_tup {x1} (h : MS X kd es tl g) : ME X kd (.Tuple es x1 pos) (tTupF tl) (fTup g) := by
  refine ⟨pe_tupF h.pe, fun B O P ρ σ H d Q R hf k => ?_⟩
  obtain ⟨ds, h1, h2⟩ := bind_some hf
  split at h2
  · rename_i hz
    cases h2
    refine h.ev B O P ρ σ H ds _ R h1 fun vs H1 s1 r1 => ⟨by rw [r1.length]; exact big_ok hz, fun p ob hp hd => ?_⟩
    exact k _ _ (s1.trans (same_new hp _)) (rp_tup ⟨ob, hd, upd_same⟩ (r1.same (same_new hp _)))
  · cases h2
theorem mn_lst (h : MS X kd es tl g) : MN X kd (.List es pos) (tLst tl) (fLst g) := by
  refine ⟨pe_lst h.pe, fun B O P ρ σ H d Q R hf k => ?_⟩
  obtain ⟨ds, h1, h2⟩ := bind_some hf
  split at h2
  · rename_i hz
    cases h2
    refine h.ev B O P ρ σ H ds _ R h1 fun vs H1 s1 r1 => ⟨by rw [r1.length]; exact big_ok hz, fun p hp => ?_⟩
    refine k p _ (fresh_of s1 hp) (s1.trans (same_new hp _)) ⟨vs, upd_same, ?_⟩
    exact (RpA.grow (fun x hx => by
      rcases List.mem_append.mp hx with z | z
      · exact .inl z
      · simp at z; subst z; exact .inr hp) _ _ r1).same (same_new hp _)
  · cases h2

/-! ### operations by values -/
def V1 (K : PySem.W.Frag) (r : V → Hp → VK → Prop) (g : D → Option D) : Prop := ∀ B H x dx d (Q : VK), (∀ z ∈ B, H z ≠ none) → RpV K B H dx x → g dx = some d → (∀ v H', Same H H' → Rp K B H' d v → Q v H') → r x H Q
def V2 (K : PySem.W.Frag) (r : R2) (g : D → D → Option D) : Prop := ∀ B H x y dx dy d (Q : VK), (∀ z ∈ B, H z ≠ none) → RpV K B H dx x → RpV K B H dy y → g dx dy = some d → (∀ v H', Same H H' → Rp K B H' d v → Q v H') → r x y H Q
def N2 (K : PySem.W.Frag) (r : R2) (g : D → D → Option D) : Prop := ∀ B H x y dx dy d (Q : VK), (∀ z ∈ B, H z ≠ none) → RpV K B H dx x → RpV K B H dy y → g dx dy = some d → (∀ p H', H p = none → Same H H' → RpM K (B ++ [p]) H' d p → Q (.ref p) H') → r x y H Q
def VN (K : PySem.W.Frag) (r : List V → Hp → VK → Prop) (g : List D → Option D) : Prop := ∀ B H xs ds d (Q : VK), (∀ z ∈ B, H z ≠ none) → RpVs K B H ds xs → g ds = some d → (∀ v H', Same H H' → Rp K B H' d v → Q v H') → r xs H Q
def NN (K : PySem.W.Frag) (r : List V → Hp → VK → Prop) (g : List D → Option D) : Prop := ∀ B H xs ds d (Q : VK), (∀ z ∈ B, H z ≠ none) → RpVs K B H ds xs → g ds = some d → (∀ p H', H p = none → Same H H' → RpM K (B ++ [p]) H' d p → Q (.ref p) H') → r xs H Q
theorem ev2 {r : R2} {g : D → D → Option D} (hv : V2 X.K r g) (ha : EvV X.K kd ta fa) (hb : EvV X.K kd tb fb) : EvE X.K kd (tOp r ta tb) (f2 g fa fb) := by
  intro B O P ρ σ H d Q R hf k
  obtain ⟨dx, h1, h2⟩ := bind_some hf
  obtain ⟨dy, h3, h4⟩ := bind_some h2
  refine ha B O P ρ σ H dx _ R h1 fun x H1 s1 r1 => ?_
  refine hb B O P ρ σ H1 dy _ (R.same s1) h3 fun y H2 s2 r2 => ?_
  exact hv B H2 x y dx dy d Q (R.same (s1.trans s2)).al (r1.same s2) r2 h4 fun v H3 s3 r3 => k v H3 ((s1.trans s2).trans s3) r3
theorem evN2 {r : R2} {g : D → D → Option D} (hv : N2 X.K r g) (ha : EvV X.K kd ta fa) (hb : EvV X.K kd tb fb) : EvN X.K kd (tOp r ta tb) (f2 g fa fb) := by
  intro B O P ρ σ H d Q R hf k
  obtain ⟨dx, h1, h2⟩ := bind_some hf
  obtain ⟨dy, h3, h4⟩ := bind_some h2
  refine ha B O P ρ σ H dx _ R h1 fun x H1 s1 r1 => ?_
  refine hb B O P ρ σ H1 dy _ (R.same s1) h3 fun y H2 s2 r2 => ?_
  exact hv B H2 x y dx dy d Q (R.same (s1.trans s2)).al (r1.same s2) r2 h4 fun p H3 hp s3 r3 => k p H3 (fresh_of (s1.trans s2) hp) ((s1.trans s2).trans s3) r3
theorem me_op {op : Operator} {r : R2} {g : D → D → Option D} (ho : OpR X (binaryOp op) r) (hv : V2 X.K r g) (ha : MV X kd a ta fa) (hb : MV X kd b tb fb) : ME X kd (.BinOp a op b pos) (tOp r ta tb) (f2 g fa fb) :=
  ⟨pe_op ho ha.pe hb.pe, ev2 hv ha.ev hb.ev⟩
theorem mn_op {op : Operator} {r : R2} {g : D → D → Option D} (ho : OpR X (binaryOp op) r) (hv : N2 X.K r g) (ha : MV X kd a ta fa) (hb : MV X kd b tb fb) : MN X kd (.BinOp a op b pos) (tOp r ta tb) (f2 g fa fb) :=
  ⟨pe_op ho ha.pe hb.pe, evN2 hv ha.ev hb.ev⟩
theorem me_un {op : UnaryOp} {r : V → Hp → VK → Prop} {g : D → Option D} (ho : UnR X (unaryOp op) r) (hv : V1 X.K r g) (ha : MV X kd a ta fa) : ME X kd (.UnaryOp op a pos) (tUn r ta) (f1 g fa) := by
  refine ⟨pe_un ho ha.pe, fun B O P ρ σ H d Q R hf k => ?_⟩
  obtain ⟨dx, h1, h2⟩ := bind_some hf
  refine ha.ev B O P ρ σ H dx _ R h1 fun x H1 s1 r1 => ?_
  exact hv B H1 x dx d Q (R.same s1).al r1 h2 fun v H2 s2 r2 => k v H2 (s1.trans s2) r2
theorem me_cmp {op : CmpOp} {r : R2} {g : D → D → Option D} (ho : OpR X (compareOp op) r) (hv : V2 X.K r g) (ha : MV X kd a ta fa) (hb : MV X kd b tb fb) (hm : behindInMarks op b = false) : ME X kd (.Compare a [op] [b] pos) (tOp r ta tb) (f2 g fa fb) :=
  ⟨pe_cmpR ho ha.pe hb.pe hm, ev2 hv ha.ev hb.ev⟩
theorem evTest {t : TE} {f : Fx} (h : EvE X.K kd t f) : EvT X.K kd (tTest t) (fTest f) := by
  intro B O P ρ σ H b Q R hf k
  obtain ⟨d, h1, h2⟩ := bind_some hf
  refine h B O P ρ σ H d _ R h1 fun v H' s r => ?_
  cases d with
  | bool z =>
    cases h2
    unfold Rp at r
    exact ⟨b, r, k H' s⟩
  | _ => cases h2
theorem mt_cmp {op : CmpOp} {r : R2} {g : D → D → Option D} (ho : OpR X (compareOp op) r) (hv : V2 X.K r g) (ha : MV X kd a ta fa) (hb : MV X kd b tb fb) (hm : behindInMarks op b = false) : MT X kd (.Compare a [op] [b] pos) (tTest (tOp r ta tb)) (fTest (f2 g fa fb)) :=
  ⟨pt_cmpR ho ha.pe hb.pe hm, evTest (ev2 hv ha.ev hb.ev)⟩
theorem mt_val (h : ME X kd e t f) (he : ∀ whole, isTrue e X.env whole = (do let v ← whole; standAt e.pos; holding [v] (truthy v)) := by intro _; rfl) : MT X kd e (tB t) (fTest f) :=
  ⟨pt_val h.pe he, evTest h.ev⟩
theorem me_ix {r : R2} {g : D → D → Option D} (ho : IxR X r) (hv : V2 X.K r g) (ha : MV X kd a ta fa) (hb : MV X kd b tb fb) (hs : PlainIx b) : ME X kd (.Subscript a b pos) (tOp r ta tb) (f2 g fa fb) :=
  ⟨pe_ix ho ha.pe hb.pe hs, ev2 hv ha.ev hb.ev⟩

/-! ### and, or, not, if -/
theorem mw_and1 (h : MT X kd a tt c) : MW X kd (.BoolOp .And [a] pos) tt c := ⟨pw_and1 h.pe, h.ev⟩
theorem mw_or1 (h : MT X kd a tt c) : MW X kd (.BoolOp .Or [a] pos) tt c := ⟨pw_or1 h.pe, h.ev⟩
theorem mw_and {rest : List Expr} (h : MT X kd a tt c) (k : MW X kd (.BoolOp .And (b :: rest) pos) tu c') : MW X kd (.BoolOp .And (a :: b :: rest) pos) (tAnd tt tu) (fAnd c c') := by
  refine ⟨pw_and h.pe k.pe, fun B O P ρ σ H z Q R hf q => ?_⟩
  obtain ⟨x, h1, h2⟩ := bind_some hf
  refine h.ev B O P ρ σ H x _ R h1 fun H1 s1 => ?_
  cases x with
  | true => exact iteT (k.ev B O P ρ σ H1 z Q (R.same s1) h2 fun H2 s2 => q H2 (s1.trans s2))
  | false => cases h2; exact iteF (q H1 s1)
theorem mw_or {rest : List Expr} (h : MT X kd a tt c) (k : MW X kd (.BoolOp .Or (b :: rest) pos) tu c') : MW X kd (.BoolOp .Or (a :: b :: rest) pos) (tOr tt tu) (fOr c c') := by
  refine ⟨pw_or h.pe k.pe, fun B O P ρ σ H z Q R hf q => ?_⟩
  obtain ⟨x, h1, h2⟩ := bind_some hf
  refine h.ev B O P ρ σ H x _ R h1 fun H1 s1 => ?_
  cases x with
  | true => cases h2; exact iteT (q H1 s1)
  | false => exact iteF (k.ev B O P ρ σ H1 z Q (R.same s1) h2 fun H2 s2 => q H2 (s1.trans s2))
theorem MW.mt (h : MW X kd e tt c) : MT X kd e tt c := ⟨h.pe.pt, h.ev⟩
theorem mt_not (h : MT X kd a tt c) : MT X kd (.UnaryOp .Not a pos) (tNot tt) (fNot c) := by
  refine ⟨pt_not h.pe, fun B O P ρ σ H z Q R hf q => ?_⟩
  obtain ⟨x, h1, h2⟩ := map_some hf
  subst h2
  exact h.ev B O P ρ σ H x _ R h1 fun H1 s1 => q H1 s1
theorem me_if {x : Expr} (hc : MT X kd x tt c) (ha : ME X kd a ta fa) (hb : ME X kd b tb fb) : ME X kd (.IfExp x a b pos) (tIf tt ta tb) (fIf c fa fb) := by
  refine ⟨pe_ifExp hc.pe ha.pe hb.pe, fun B O P ρ σ H d Q R hf k => ?_⟩
  obtain ⟨z, h1, h2⟩ := bind_some hf
  refine hc.ev B O P ρ σ H z _ R h1 fun H1 s1 => ?_
  cases z with
  | true => exact iteT (ha.ev B O P ρ σ H1 d Q (R.same s1) h2 fun v H2 s2 r => k v H2 (s1.trans s2) r)
  | false => exact iteF (hb.ev B O P ρ σ H1 d Q (R.same s1) h2 fun v H2 s2 r => k v H2 (s1.trans s2) r)
/-- and, or, not of truth values, as a value -/
def fAndV (a b : Fx) : Fx := fun ρ => (a ρ).bind fun x => match x with
  | .bool true => b ρ
  | .bool false => some (.bool false)
  | _ => none
def fOrV (a b : Fx) : Fx := fun ρ => (a ρ).bind fun x => match x with
  | .bool true => some (.bool true)
  | .bool false => b ρ
  | _ => none
def fNotV (a : Fx) : Fx := fun ρ => (a ρ).bind fun x => match x with
  | .bool z => some (.bool (!z))
  | _ => none
theorem me_one {op} (h : ME X kd a ta fa) : ME X kd (.BoolOp op [a] pos) ta fa := ⟨pe_one h.pe, h.ev⟩
theorem me_and {rest : List Expr} (h : ME X kd a ta fa) (k : ME X kd (.BoolOp .And (b :: rest) pos) tb fb) : ME X kd (.BoolOp .And (a :: b :: rest) pos) (tAndV ta tb) (fAndV fa fb) := by
  refine ⟨pe_and h.pe k.pe, fun B O P ρ σ H d Q R hf q => ?_⟩
  obtain ⟨x, h1, h2⟩ := bind_some hf
  refine h.ev B O P ρ σ H x _ R h1 fun v H1 s1 r => ?_
  split at h2
  · unfold Rp at r
    exact ⟨true, r, iteT (k.ev B O P ρ σ H1 d Q (R.same s1) h2 fun v H2 s2 r => q v H2 (s1.trans s2) r)⟩
  · unfold Rp at r
    cases h2
    exact ⟨false, r, iteF (q _ H1 s1 (by unfold Rp; rfl))⟩
  · cases h2
theorem me_or {rest : List Expr} (h : ME X kd a ta fa) (k : ME X kd (.BoolOp .Or (b :: rest) pos) tb fb) : ME X kd (.BoolOp .Or (a :: b :: rest) pos) (tOrV ta tb) (fOrV fa fb) := by
  refine ⟨pe_or h.pe k.pe, fun B O P ρ σ H d Q R hf q => ?_⟩
  obtain ⟨x, h1, h2⟩ := bind_some hf
  refine h.ev B O P ρ σ H x _ R h1 fun v H1 s1 r => ?_
  split at h2
  · unfold Rp at r
    cases h2
    exact ⟨true, r, iteT (q _ H1 s1 (by unfold Rp; rfl))⟩
  · unfold Rp at r
    exact ⟨false, r, iteF (k.ev B O P ρ σ H1 d Q (R.same s1) h2 fun v H2 s2 r => q v H2 (s1.trans s2) r)⟩
  · cases h2
theorem me_not (h : ME X kd a ta fa) : ME X kd (.UnaryOp .Not a pos) (tNotV ta) (fNotV fa) := by
  refine ⟨pe_not h.pe, fun B O P ρ σ H d Q R hf q => ?_⟩
  obtain ⟨x, h1, h2⟩ := bind_some hf
  refine h.ev B O P ρ σ H x _ R h1 fun v H1 s1 r => ?_
  split at h2
  · unfold Rp at r
    cases h2
    exact ⟨_, r, q _ H1 s1 (by unfold Rp; rfl)⟩
  · cases h2

/-! ### calls of built-ins -/
theorem evCB {r : List V → Hp → VK → Prop} {h : List D → Option D} (hv : VN X.K r h) (ha : EvA X.K kd tl g) : EvE X.K kd (tCB r tl) (fCall h g) := by
  intro B O P ρ σ H d Q R hf k
  obtain ⟨ds, h1, h2⟩ := bind_some hf
  refine ha B O P ρ σ H ds _ R h1 fun vs H1 s1 r1 => ?_
  exact hv B H1 vs ds d Q (R.same s1).al r1 h2 fun v H2 s2 r2 => k v H2 (s1.trans s2) r2
theorem evCN {r : List V → Hp → VK → Prop} {h : List D → Option D} (hv : NN X.K r h) (ha : EvA X.K kd tl g) : EvN X.K kd (tCB r tl) (fCall h g) := by
  intro B O P ρ σ H d Q R hf k
  obtain ⟨ds, h1, h2⟩ := bind_some hf
  refine ha B O P ρ σ H ds _ R h1 fun vs H1 s1 r1 => ?_
  exact hv B H1 vs ds d Q (R.same s1).al r1 h2 fun p H2 hp s2 r2 => k p H2 (fresh_of s1 hp) (s1.trans s2) r2
theorem me_b {x : Str} {p : Pos} {id : String} {r : List V → Hp → VK → Prop} {h : List D → Option D} (hc : CallR X (.builtin id) r) (hv : VN X.K r h) (hg : Gl X x) (hm : X.mg x = none) (hb : bootBuiltins x = some (.builtin id)) (ha : MA X kd (e :: es) tl g) (hn : x ≠ "__name__" := by decide) (hdb : (x == ("__debug__" : Str)) = false := by decide)
    (he : starEach (e :: es) X.env = (false, eval e X.env) :: starEach es X.env := by rfl) (hpl : (backTo pos (starEach es X.env)).any (·.1) = false := by rfl) : ME X kd (.Call (.Name x p) (e :: es) [] pos) (tCB r tl) (fCall h g) :=
  ⟨pe_callB hc hg hm hb ha.pe hn hdb he hpl, evCB hv ha.ev⟩
theorem mn_b {x : Str} {p : Pos} {id : String} {r : List V → Hp → VK → Prop} {h : List D → Option D} (hc : CallR X (.builtin id) r) (hv : NN X.K r h) (hg : Gl X x) (hm : X.mg x = none) (hb : bootBuiltins x = some (.builtin id)) (ha : MA X kd (e :: es) tl g) (hn : x ≠ "__name__" := by decide) (hdb : (x == ("__debug__" : Str)) = false := by decide)
    (he : starEach (e :: es) X.env = (false, eval e X.env) :: starEach es X.env := by rfl) (hpl : (backTo pos (starEach es X.env)).any (·.1) = false := by rfl) : MN X kd (.Call (.Name x p) (e :: es) [] pos) (tCB r tl) (fCall h g) :=
  ⟨pe_callB hc hg hm hb ha.pe hn hdb he hpl, evCN hv ha.ev⟩
theorem me_ty {x : Str} {p : Pos} {id : String} {r : List V → Hp → VK → Prop} {h : List D → Option D} (hc : CallR X (.type id) r) (hv : VN X.K r h) (hg : Gl X x) (hm : X.mg x = none) (hb : bootBuiltins x = some (.type id)) (ha : MA X kd (e :: es) tl g) (hn : x ≠ "__name__" := by decide) (hdb : (x == ("__debug__" : Str)) = false := by decide)
    (he : starEach (e :: es) X.env = (false, eval e X.env) :: starEach es X.env := by rfl) (hpl : (backTo pos (starEach es X.env)).any (·.1) = false := by rfl) : ME X kd (.Call (.Name x p) (e :: es) [] pos) (tCB r tl) (fCall h g) :=
  ⟨pe_callTy hc hg hm hb ha.pe hn hdb he hpl, evCB hv ha.ev⟩
theorem mn_ty {x : Str} {p : Pos} {id : String} {r : List V → Hp → VK → Prop} {h : List D → Option D} (hc : CallR X (.type id) r) (hv : NN X.K r h) (hg : Gl X x) (hm : X.mg x = none) (hb : bootBuiltins x = some (.type id)) (ha : MA X kd (e :: es) tl g) (hn : x ≠ "__name__" := by decide) (hdb : (x == ("__debug__" : Str)) = false := by decide)
    (he : starEach (e :: es) X.env = (false, eval e X.env) :: starEach es X.env := by rfl) (hpl : (backTo pos (starEach es X.env)).any (·.1) = false := by rfl) : MN X kd (.Call (.Name x p) (e :: es) [] pos) (tCB r tl) (fCall h g) :=
  ⟨pe_callTy hc hg hm hb ha.pe hn hdb he hpl, evCN hv ha.ev⟩
end

/-! ### calls of defs -/
/-- the promise of a def that changes nothing: its answer stands for g of what its arguments stand for -/
def spD (K : PySem.W.Frag) (g : List D → Option D) : Sp := fun vs H Q _ => ∃ B ds d, (∀ z ∈ B, H z ≠ none) ∧ RpVs K B H ds vs ∧ g ds = some d ∧ ∀ v H', Same H H' → Rp K B H' d v → Q v H'
/-- .. and it is a new list or dict -/
def spN (K : PySem.W.Frag) (g : List D → Option D) : Sp := fun vs H Q _ => ∃ B ds d, (∀ z ∈ B, H z ≠ none) ∧ RpVs K B H ds vs ∧ g ds = some d ∧ ∀ p H', H p = none → Same H H' → RpM K (B ++ [p]) H' d p → Q (.ref p) H'
section
variable {X : Cx} {kd : Nat → SK} {e : Expr} {es : List Expr} {tl : TA} {g : En → Option (List D)} {pos p : Pos} {x : Str} {k : Nat} {fn : Addr} {fd : FuncData} {ps : List Str} {h : List D → Option D}
theorem me_call (F : FnOk X.prog X.w X.K X.mg X.base CX0 k fn fd ps (spD X.K h)) (hr : Room k X.A) (hg : Gl X x) (hm : X.mg x = some (.ref fn)) (hk : PySem.W.keepIn X.K (.ref fn) = true) (hb : Binds X.K fd ps []) (ha : MA X kd (e :: es) tl g)
    (hdb : (x == ("__debug__" : Str)) = false := by decide) (he : starEach (e :: es) X.env = (false, eval e X.env) :: starEach es X.env := by rfl) (hpl : (backTo pos (starEach es X.env)).any (·.1) = false := by rfl) :
    ME X kd (.Call (.Name x p) (e :: es) [] pos) (tCall (spD X.K h) [] E0 tl) (fCall h g) := by
  refine ⟨pe_call F hr hg hm hk hb .nil pass0 ha.pe hdb he hpl, fun B O P ρ σ H d Q R hf q => ?_⟩
  obtain ⟨ds, h1, h2⟩ := bind_some hf
  refine ha.ev B O P ρ σ H ds _ R h1 fun vs H1 s1 r1 => ?_
  show spD X.K h (vs ++ []) H1 Q E0
  rw [List.append_nil]
  exact ⟨B, ds, d, (R.same s1).al, r1, h2, fun v H' s2 r2 => q v H' (s1.trans s2) r2⟩
theorem mn_call (F : FnOk X.prog X.w X.K X.mg X.base CX0 k fn fd ps (spN X.K h)) (hr : Room k X.A) (hg : Gl X x) (hm : X.mg x = some (.ref fn)) (hk : PySem.W.keepIn X.K (.ref fn) = true) (hb : Binds X.K fd ps []) (ha : MA X kd (e :: es) tl g)
    (hdb : (x == ("__debug__" : Str)) = false := by decide) (he : starEach (e :: es) X.env = (false, eval e X.env) :: starEach es X.env := by rfl) (hpl : (backTo pos (starEach es X.env)).any (·.1) = false := by rfl) :
    MN X kd (.Call (.Name x p) (e :: es) [] pos) (tCall (spN X.K h) [] E0 tl) (fCall h g) := by
  refine ⟨pe_call F hr hg hm hk hb .nil pass0 ha.pe hdb he hpl, fun B O P ρ σ H d Q R hf q => ?_⟩
  obtain ⟨ds, h1, h2⟩ := bind_some hf
  refine ha.ev B O P ρ σ H ds _ R h1 fun vs H1 s1 r1 => ?_
  show spN X.K h (vs ++ []) H1 Q E0
  rw [List.append_nil]
  exact ⟨B, ds, d, (R.same s1).al, r1, h2, fun p H' hp s2 r2 => q p H' (fresh_of s1 hp) (s1.trans s2) r2⟩
end
end Mx

/-! THE MIRROR LAYER, part 3: what is walked, targets, list comprehensions. -/
namespace Mx
open PySem PySem.Spec L2 PyProof.Rows

/-! ### a list or a tuple, walked -/
def iSeq (K : PySem.W.Frag) (tl : TE) : TI := fun σ H R => tl σ H fun x H1 => ∃ a, x = .ref a ∧ ((∃ xs, SqL K H1 a xs) ∧ R (Itl K a) H1 ∨ (∃ xs, SqT K H1 a xs) ∧ R (Itt K a) H1)
theorem pi_seq {X : Cx} {tg l : Expr} {tl : TE} (hl : PE X l tl) : PI X tg l (iSeq X.K tl) := by
  refine ⟨fun pn s0 sg G R J w => ?_⟩
  refine thn (hl.run pn s0 sg G _ J w) fun v s1 ⟨x, G1, J1, rx, a, ex, w1⟩ => ?_
  subst ex
  cases rx
  rcases w1 with ⟨⟨xs, hq⟩, w1⟩ | ⟨⟨xs, hq⟩, w1⟩
  · obtain ⟨us, rv, pl, _⟩ := J1.list hq
    refine wpAny_pyIter_list pl.isList ⟨s1.heap.objs.size, [s1.heap.objs.size], _, _, G1, rfl, J1.kept (t' := s1.toks) (fun c ob z => Heap.get?_push_of_some _ z), turn_list a _, ⟨_, Heap.get?_push_size _ rfl, rfl, rfl⟩, fun c hc => ?_, w1⟩
    rw [List.mem_singleton.mp hc]
    exact J1.fpOk (Nat.le_refl _) (J1.hok.fresh (Nat.le_refl _))
  · obtain ⟨us, rv, pl, _⟩ := J1.tuple hq
    refine wpAny_pyIter_tuple (show s1.heap.IsTuple a us.toArray from pl) ⟨s1.heap.objs.size, [s1.heap.objs.size], _, _, G1, rfl, J1.kept (t' := s1.toks) (fun c ob z => Heap.get?_push_of_some _ z), turn_tuple a _, ⟨_, Heap.get?_push_size _ rfl, rfl, rfl⟩, fun c hc => ?_, w1⟩
    rw [List.mem_singleton.mp hc]
    exact J1.fpOk (Nat.le_refl _) (J1.hok.fresh (Nat.le_refl _))

/-- the walk J gives ds, as long as all but M stays as in H -/
def Walk (rr : Bool) (K : PySem.W.Frag) (B M : List Addr) (J : It) (ds : List D) (H : Hp) : Prop :=
  ∀ B' H2 i, (∀ z ∈ B, z ∈ B') → (∀ z ∈ B', z ∈ B ∨ H z = none) → Kp M H H2 →
    (∀ d, ds[i]? = some d → J.go i H2 ∧ ∀ x H3, J.yld i H2 x H3 → Same H2 H3 ∧ Rq K B' H3 d x rr) ∧ (ds.length ≤ i → J.stop i H2)
structure MI (X : Cx) (kd : Nat → SK) (mv rr : Bool) (tg iter : Expr) (wi : TI) (f : En → Option (List D)) : Prop where
  pe : PI X tg iter wi
  ev : ∀ B O P ρ σ H ds (R : It → Hp → Prop), Rho X.K B O P kd ρ σ H → f ρ = some ds → (∀ J H', Same H H' → Walk rr X.K B (if mv = true then O ++ P else []) J ds H' → R J H') → wi σ H R
def items : D → Option (List D)
  | .list ds => some ds
  | .tuple ds => some ds
  | _ => none
def fItems (f : Fx) : En → Option (List D) := fun ρ => (f ρ).bind items
section
variable {K : PySem.W.Frag} {B M : List Addr} {H H2 : Hp} {a : Addr} {xs : List V} {ds : List D}
theorem walk_lst (hM : ∀ z ∈ M, z ∈ B) (ha : a ∉ M) (h : H a = some (.lst xs)) (r : RpA K B H ds xs) : Walk false K B M (Itl K a) ds H := by
  intro B' H2 i hB hB' k
  have h2 : SqL K H2 a xs := SqL.of (k.obj a _ h ha)
  have r2 : RpA K B' H2 ds xs := RpA.kp k (fun z hz => hB z (hM z hz)) _ _ (RpA.grow hB' _ _ r)
  refine ⟨fun d hd => ?_, fun hl => ⟨xs, h2, by rw [r.length]; exact hl⟩⟩
  obtain ⟨x, hx, rx⟩ := r2.get hd
  refine ⟨⟨xs, x, h2, hx⟩, fun y H3 hy => ?_⟩
  obtain ⟨e, hy⟩ := hy
  subst e
  have := hy xs h2
  rw [hx] at this
  cases this
  exact ⟨Same.refl _, rx⟩
theorem walk_tup (hM : ∀ z ∈ M, z ∈ B) (h : SqT K H a xs) (r : RpA K B H ds xs) : Walk false K B M (Itt K a) ds H := by
  intro B' H2 i hB hB' k
  have h2 : SqT K H2 a xs := SqT.kp k h
  have r2 : RpA K B' H2 ds xs := RpA.kp k (fun z hz => hB z (hM z hz)) _ _ (RpA.grow hB' _ _ r)
  refine ⟨fun d hd => ?_, fun hl => ⟨xs, h2, by rw [r.length]; exact hl⟩⟩
  obtain ⟨x, hx, rx⟩ := r2.get hd
  refine ⟨⟨xs, x, h2, hx⟩, fun y H3 hy => ?_⟩
  obtain ⟨e, hy⟩ := hy
  subst e
  have := hy xs h2
  rw [hx] at this
  cases this
  exact ⟨Same.refl _, rx⟩
end
section
variable {X : Cx} {kd : Nat → SK} {e a b tg : Expr} {es : List Expr} {t ta tb te : TE} {tl : TA} {f fa fb : Fx} {g : En → Option (List D)} {pos : Pos} {mv : Bool}
theorem in_m {mv : Bool} {B O P : List Addr} (h1 : ∀ z ∈ O, z ∈ B) (h2 : ∀ z ∈ P, z ∈ B) : ∀ z ∈ (if mv = true then O ++ P else []), z ∈ B := by
  intro z hz
  cases mv with
  | false => simp at hz
  | true =>
    rw [if_pos rfl] at hz
    exact (List.mem_append.mp hz).elim (h1 z) (h2 z)
/-- a list or tuple that stays -/
theorem mi_seq (h : ME X kd e t f) : MI X kd mv false tg e (iSeq X.K t) (fItems f) := by
  refine ⟨pi_seq h.pe, fun B O P ρ σ H ds R R0 hf k => ?_⟩
  obtain ⟨d, h1, h2⟩ := bind_some hf
  refine h.ev B O P ρ σ H d _ R0 h1 fun v H1 s1 r => ?_
  have hM := in_m (mv := mv) R0.subO R0.subP
  cases d with
  | list es =>
    cases h2
    unfold Rp at r
    obtain ⟨a, xs, rfl, n, q, r⟩ := r
    exact ⟨a, rfl, .inl ⟨⟨xs, SqL.of q⟩, k _ H1 s1 (walk_lst hM (fun z => n (hM a z)) q r)⟩⟩
  | tuple es =>
    cases h2
    unfold Rp at r
    obtain ⟨a, xs, rfl, q, r⟩ := r
    exact ⟨a, rfl, .inr ⟨⟨xs, q.sq⟩, k _ H1 s1 (walk_tup hM (q.sq) r)⟩⟩
  | _ => cases h2
/-- any list or tuple, for a comprehension -/
theorem mi_seqV (h : MV X kd e t f) : MI X kd false false tg e (iSeq X.K t) (fItems f) := by
  refine ⟨pi_seq h.pe, fun B O P ρ σ H ds R R0 hf k => ?_⟩
  obtain ⟨d, h1, h2⟩ := bind_some hf
  refine h.ev B O P ρ σ H d _ R0 h1 fun v H1 s1 r => ?_
  have hM : ∀ z ∈ ([] : List Addr), z ∈ B := fun z hz => by cases hz
  cases d with
  | list es =>
    cases h2
    rcases r with r | ⟨a, rfl, xs, q, r⟩
    · unfold Rp at r
      obtain ⟨a, xs, rfl, n, q, r⟩ := r
      exact ⟨a, rfl, .inl ⟨⟨xs, SqL.of q⟩, k _ H1 s1 (walk_lst hM (by simp) q r)⟩⟩
    · exact ⟨a, rfl, .inl ⟨⟨xs, SqL.of q⟩, k _ H1 s1 (walk_lst hM (by simp) q r)⟩⟩
  | tuple es =>
    cases h2
    rcases r with r | ⟨a, rfl, r⟩
    · unfold Rp at r
      obtain ⟨a, xs, rfl, q, r⟩ := r
      exact ⟨a, rfl, .inr ⟨⟨xs, q.sq⟩, k _ H1 s1 (walk_tup hM (q.sq) r)⟩⟩
    · exact r.elim
  | _ => cases h2
/-- a parameter that is read -/
theorem mi_wk {i : Nat} {x : Str} (h : PE X (.Name x pos) (tVar i)) (hk : kd i = .wk) : MI X kd mv false tg (.Name x pos) (iSeq X.K (tVar i)) (fItems (fVar i)) := by
  refine ⟨pi_seq h, fun B O P ρ σ H ds R R0 hf k => ?_⟩
  obtain ⟨d, h1, h2⟩ := bind_some hf
  obtain ⟨v, q, s⟩ := R0.slot i d (fVar_at h1)
  have hM := in_m (mv := mv) R0.subO R0.subP
  rw [hk] at s
  refine ⟨v, q, ?_⟩
  rcases s with s | ⟨a, rfl, nO, nP, s⟩
  · cases d with
    | list es =>
      cases h2
      unfold Rp at s
      obtain ⟨a, xs, rfl, n, q, r⟩ := s
      exact ⟨a, rfl, .inl ⟨⟨xs, SqL.of q⟩, k _ H (Same.refl H) (walk_lst hM (fun z => n (hM a z)) q r)⟩⟩
    | tuple es =>
      cases h2
      unfold Rp at s
      obtain ⟨a, xs, rfl, q, r⟩ := s
      exact ⟨a, rfl, .inr ⟨⟨xs, q.sq⟩, k _ H (Same.refl H) (walk_tup hM (q.sq) r)⟩⟩
    | _ => cases h2
  · have nM : a ∉ (if mv = true then O ++ P else []) := by
      cases mv with
      | false => simp
      | true => simpa using ⟨nO, nP⟩
    cases d with
    | list es =>
      cases h2
      obtain ⟨xs, q, r⟩ := s
      exact ⟨a, rfl, .inl ⟨⟨xs, SqL.of q⟩, k _ H (Same.refl H) (walk_lst hM nM q r)⟩⟩
    | dict es => cases h2
    | _ => exact s.elim
/-! ranges -/
def upTo (lo n : Int) : List D := (List.range (n - lo).toNat).map fun (i : Nat) => PyData.int (lo + i)
def rng1 : List D → Option (List D)
  | [.int n] => if -100000 ≤ n ∧ n ≤ 100000 then some (upTo 0 n) else none
  | _ => none
def rng2 : List D → Option (List D)
  | [.int a, .int n] => if (-100000 ≤ n ∧ n ≤ 100000) ∧ -100000 ≤ a ∧ a ≤ 100000 then some (upTo a n) else none
  | _ => none
theorem upTo_len (lo n : Int) : (upTo lo n).length = (n - lo).toNat := by simp [upTo]
theorem upTo_get {lo n : Int} {i : Nat} {d : D} (h : (upTo lo n)[i]? = some d) : i < (n - lo).toNat ∧ d = .int (lo + i) := by
  unfold upTo at h
  rw [List.getElem?_map] at h
  obtain ⟨j, h1, h2⟩ := map_some h
  obtain ⟨l, q⟩ := List.getElem?_eq_some_iff.mp h1
  simp at l q
  exact ⟨by omega, by rw [← h2, ← q]⟩
theorem rp_int0 {K : PySem.W.Frag} {B : List Addr} {H : Hp} {n : Int} : Rp K B H (.int n) (.int n) := by unfold Rp; rfl
theorem walk_rng {K : PySem.W.Frag} {B M : List Addr} {H : Hp} {lo n : Int} : Walk false K B M (Itr lo (n - lo).toNat) (upTo lo n) H := by
  intro B' H2 i _ _ k
  refine ⟨fun d hd => ?_, fun hl => by rw [upTo_len] at hl; exact hl⟩
  obtain ⟨l, rfl⟩ := upTo_get hd
  refine ⟨l, fun y H3 hy => ?_⟩
  obtain ⟨rfl, rfl⟩ := hy
  exact ⟨Same.refl _, rp_int0 (K := K) (B := B') (H := H3)⟩
theorem vs_int1 {K : PySem.W.Frag} {B : List Addr} {H : Hp} {n : Int} {vs : List V} (h : RpVs K B H [.int n] vs) : vs = [.int n] := by
  obtain ⟨x, r, rfl, h1, h2⟩ := h
  rcases h1 with h1 | ⟨a, rfl, h1⟩
  · unfold Rp at h1
    rw [h1, show r = [] from h2]
  · exact h1.elim
theorem v_int {K : PySem.W.Frag} {B : List Addr} {H : Hp} {n : Int} {v : V} (h : RpV K B H (.int n) v) : v = .int n := by
  rcases h with h1 | ⟨a, rfl, h1⟩
  · unfold Rp at h1; exact h1
  · exact h1.elim
theorem mi_range1 {p : Pos} (hg : Gl X "range") (hm : X.mg "range" = none) (ha : MA X kd [a] tl g) (hs : starEach [a] X.env = [(false, eval a X.env)] := by rfl) : MI X kd mv false tg (.Call (.Name "range" p) [a] [] pos) (iRng1 tl) (fun ρ => (g ρ).bind rng1) := by
  refine ⟨pi_range1 hg hm ha.pe hs, fun B O P ρ σ H ds R R0 hf k => ?_⟩
  obtain ⟨es, h1, h2⟩ := bind_some hf
  refine ha.ev B O P ρ σ H es _ R0 h1 fun vs H1 s1 r => ?_
  unfold rng1 at h2
  split at h2
  · rename_i n
    split at h2
    · rename_i hn
      cases h2
      refine ⟨n, vs_int1 r, by omega, by omega, ?_⟩
      have q := k (Itr 0 (n - 0).toNat) H1 s1 walk_rng
      rw [Int.sub_zero] at q
      exact q
    · cases h2
  · cases h2
theorem mi_range2 {p : Pos} (hg : Gl X "range") (hm : X.mg "range" = none) (ha : MA X kd [a, b] tl g) (hs : starEach [a, b] X.env = [(false, eval a X.env), (false, eval b X.env)] := by rfl) (hs2 : starEach [b] X.env = [(false, eval b X.env)] := by rfl) :
    MI X kd mv false tg (.Call (.Name "range" p) [a, b] [] pos) (iRng2 tl) (fun ρ => (g ρ).bind rng2) := by
  refine ⟨pi_range2 hg hm ha.pe hs hs2, fun B O P ρ σ H ds R R0 hf k => ?_⟩
  obtain ⟨es, h1, h2⟩ := bind_some hf
  refine ha.ev B O P ρ σ H es _ R0 h1 fun vs H1 s1 r => ?_
  unfold rng2 at h2
  split at h2
  · rename_i lo n
    split at h2
    · rename_i hn
      cases h2
      obtain ⟨x, r1, rfl, r2, y, r3, rfl, r4, r5⟩ := r
      refine ⟨lo, n, by rw [v_int r2, v_int r4, show r3 = [] from r5], ⟨by omega, by omega, by omega, by omega⟩, k _ H1 s1 walk_rng⟩
    · cases h2
  · cases h2
/-! enumerate -/
def enumD (ds : List D) : List D := ds.mapIdx fun i d => .tuple [.int i, d]
theorem mi_enum {p tpos : Pos} {elts : List Expr} {kk : Nat} (hg : Gl X "enumerate") (hm : X.mg "enumerate" = none) (ha : ME X kd e t f) (he : starEach [e] X.env = (false, eval e X.env) :: starEach [] X.env := by rfl) (hs : starEach [e] X.env = [(false, eval e X.env)] := by rfl) :
    MI X kd mv true (.Tuple elts kk tpos) (.Call (.Name "enumerate" p) [e] [] pos) (iEnum X.K (tCons t tNil)) (fun ρ => ((f ρ).bind fun d => match d with
      | .list ds => some (enumD ds)
      | _ => none)) := by
  refine ⟨pi_enum hg hm (pa_cons ha.pe pa_nil he) hs, fun B O P ρ σ H ds R R0 hf k => ?_⟩
  obtain ⟨d, h1, h2⟩ := bind_some hf
  refine ha.ev B O P ρ σ H d _ R0 h1 fun v H1 s1 r => ?_
  have hM := in_m (mv := mv) R0.subO R0.subP
  split at h2
  · rename_i es'
    cases h2
    unfold Rp at r
    obtain ⟨a, xs, rfl, n, q, r⟩ := r
    refine ⟨a, xs, rfl, SqL.of q, k _ H1 s1 ?_⟩
    intro B' H2 i hB hB' kk
    have h2 : SqL X.K H2 a xs := SqL.of (kk.obj a _ q fun z => n (hM a z))
    have r2 : RpA X.K B' H2 es' xs := RpA.kp kk (fun z hz => hB z (hM z hz)) _ _ (RpA.grow hB' _ _ r)
    refine ⟨fun d hd => ?_, fun hl => ⟨xs, h2, by rw [r.length]; simpa [enumD] using hl⟩⟩
    unfold enumD at hd
    rw [List.getElem?_mapIdx] at hd
    obtain ⟨d', hd1, hd2⟩ := map_some hd
    subst hd2
    obtain ⟨x, hx, rx⟩ := r2.get hd1
    refine ⟨⟨xs, x, h2, hx⟩, fun y H3 hy => ?_⟩
    obtain ⟨T, x', rfl, hT, rfl, hy⟩ := hy
    have := hy xs h2
    rw [hx] at this
    cases this
    exact ⟨same_new hT _, T, _, _, rfl, rfl, SqT.of upd_same, RpA.cons (by unfold Rp; rfl) (RpA.cons (rx.same (same_new hT _)) RpA.nil)⟩
  · cases h2
end

/-! ### targets -/
theorem wipe_set {x : Option V} {i : Nat} : ∀ {vs : List Nat} {σ : L2.St}, i ∈ vs → wipe (σ.set i x) vs = wipe σ vs
  | [], _, h => by cases h
  | v :: vs, σ, h => by
    unfold wipe
    by_cases hi : i ∈ vs
    · rw [wipe_set hi]
    · have e : i = v := by simpa [hi] using h
      subst e
      have : ∀ (vs : List Nat) (σ : L2.St), i ∉ vs → wipe (σ.set i x) vs = (wipe σ vs).set i x := by
        intro vs
        induction vs with
        | nil => intro σ _; rfl
        | cons w vs ih =>
          intro σ hn
          unfold wipe
          rw [ih σ (fun z => hn (List.mem_cons_of_mem _ z)), List.set_comm _ _ (fun z => hn (by rw [z]; exact List.mem_cons_self))]
      rw [this vs σ hi, List.set_set]
theorem wipe_at {σ : L2.St} : ∀ {vs : List Nat} {i : Nat}, i ∈ vs → i < σ.length → (wipe σ vs)[i]? = some none
  | [], _, h, _ => by cases h
  | v :: vs, i, h, hl => by
    unfold wipe
    by_cases e : i = v
    · subst e
      exact List.getElem?_set_self (by rw [wipe_length]; exact hl)
    · rw [List.getElem?_set_ne (Ne.symm e)]
      exact wipe_at (by simpa [e] using h) hl
theorem wipe_off {σ : L2.St} : ∀ {vs : List Nat} {i : Nat}, i ∉ vs → (wipe σ vs)[i]? = σ[i]?
  | [], _, _ => rfl
  | v :: vs, i, h => by
    unfold wipe
    rw [List.getElem?_set_ne (fun z => h (by rw [z]; exact List.mem_cons_self))]
    exact wipe_off fun z => h (List.mem_cons_of_mem _ z)
theorem wipe_wipe (σ : L2.St) (vs : List Nat) : wipe (wipe σ vs) vs = wipe σ vs := by
  refine List.ext_getElem? fun i => ?_
  by_cases hi : i ∈ vs
  · by_cases hl : i < σ.length
    · rw [wipe_at hi (by rw [wipe_length]; exact hl), wipe_at hi hl]
    · rw [List.getElem?_eq_none (by rw [wipe_length, wipe_length]; omega), List.getElem?_eq_none (by rw [wipe_length]; omega)]
  · rw [wipe_off hi]
structure MG (X : Cx) (kd : Nat → SK) (rr : Bool) (tg : Expr) (g : TG) (ws : List Nat) (st : D → En → Option En) : Prop where
  pe : PG X tg g
  ev : ∀ B O P d v ρ ρ' σ H (Q : L2.St → Hp → Prop), Rho X.K B O P kd ρ σ H → Rq X.K B H d v rr → st d ρ = some ρ' → (∀ σ', Rho X.K B O P kd ρ' σ' H → (∀ vs, (∀ w ∈ ws, w ∈ vs) → wipe σ' vs = wipe σ vs) → Q σ' H) → g v σ H Q
structure MGs (X : Cx) (kd : Nat → SK) (es : List Expr) (g : TGs) (n : Nat) (ws : List Nat) (st : List D → En → Option En) : Prop where
  pe : PGs X es g
  len : ∀ ds ρ ρ', st ds ρ = some ρ' → ds.length = n
  ev : ∀ B O P ds vs ρ ρ' σ H (Q : L2.St → Hp → Prop), Rho X.K B O P kd ρ σ H → RpA X.K B H ds vs → st ds ρ = some ρ' → (∀ σ', Rho X.K B O P kd ρ' σ' H → (∀ vs, (∀ w ∈ ws, w ∈ vs) → wipe σ' vs = wipe σ vs) → Q σ' H) → g vs σ H Q
def setN (i : Nat) : D → En → Option En := fun d ρ => some (ρ.set i (some d))
def setNil : List D → En → Option En := fun ds ρ => match ds with
  | [] => some ρ
  | _ => none
def setCons (s : D → En → Option En) (r : List D → En → Option En) : List D → En → Option En := fun ds ρ => match ds with
  | d :: ds => (s d ρ).bind fun ρ' => r ds ρ'
  | [] => none
def setTup (r : List D → En → Option En) : D → En → Option En := fun d ρ => match d with
  | .tuple ds => r ds ρ
  | _ => none
section
variable {K : PySem.W.Frag} {B O P : List Addr} {kd : Nat → SK} {ρ : En} {σ : L2.St} {H : Hp}
/-- slot i gets a value of its kind -/
theorem Rho.put (R : Rho K B O P kd ρ σ H) {i : Nat} {d : D} {v : V} (h : SlotOk K B O P H (kd i) d v)
    (hs : chg (kd i) = true → ∀ j a e, j ≠ i → chg (kd j) = true → ρ[j]? = some (some e) → v = .ref a → σ[j]? ≠ some (some (.ref a))) : Rho K B O P kd (ρ.set i (some d)) (σ.set i (some v)) H := by
  have look : ∀ j e, (ρ.set i (some d))[j]? = some (some e) → (j = i ∧ e = d ∧ i < ρ.length) ∨ (j ≠ i ∧ ρ[j]? = some (some e)) := fun j e q => by
    by_cases hj : j = i
    · subst hj
      by_cases hl : j < ρ.length
      · rw [List.getElem?_set_self hl] at q; cases q; exact .inl ⟨rfl, rfl, hl⟩
      · rw [List.getElem?_eq_none (by rw [List.length_set]; omega)] at q; cases q
    · rw [List.getElem?_set_ne (Ne.symm hj)] at q; exact .inr ⟨hj, q⟩
  refine ⟨R.subO, R.subP, R.al, by simp [R.len], fun j e q => ?_, fun j k a x y cj ck qj qk sj sk => ?_⟩
  · rcases look j e q with ⟨rfl, rfl, hl⟩ | ⟨hj, q⟩
    · exact ⟨v, List.getElem?_set_self (by rw [R.len]; exact hl), h⟩
    · obtain ⟨w, q1, q2⟩ := R.slot j e q
      exact ⟨w, by rw [List.getElem?_set_ne (Ne.symm hj)]; exact q1, q2⟩
  · rcases look j x qj with ⟨rfl, rfl, hl⟩ | ⟨hj, qj'⟩
    · rcases look k y qk with ⟨rfl, rfl, _⟩ | ⟨hk, qk'⟩
      · rfl
      · rw [List.getElem?_set_self (by rw [R.len]; exact hl)] at sj
        rw [List.getElem?_set_ne (Ne.symm hk)] at sk
        exact absurd sk (hs cj k a y hk ck qk' (by simpa using sj))
    · rw [List.getElem?_set_ne (Ne.symm hj)] at sj
      rcases look k y qk with ⟨rfl, rfl, hl⟩ | ⟨hk, qk'⟩
      · rw [List.getElem?_set_self (by rw [R.len]; exact hl)] at sk
        exact absurd sj (hs ck j a x hj cj qj' (by simpa using sk))
      · rw [List.getElem?_set_ne (Ne.symm hk)] at sk
        exact R.sep j k a x y cj ck qj' qk' sj sk
theorem Rho.putS (R : Rho K B O P kd ρ σ H) {i : Nat} {d : D} {v : V} (hk : kd i = .st) (h : Rp K B H d v) : Rho K B O P kd (ρ.set i (some d)) (σ.set i (some v)) H :=
  R.put (by rw [hk]; exact h) (fun c => by rw [hk] at c; cases c)
/-- a slot forgotten -/
theorem Rho.drop (R : Rho K B O P kd ρ σ H) (i : Nat) : Rho K B O P kd (ρ.set i none) (σ.set i none) H := by
  have look : ∀ j e, (ρ.set i none)[j]? = some (some e) → j ≠ i ∧ ρ[j]? = some (some e) := fun j e q => by
    by_cases hj : j = i
    · subst hj
      by_cases hl : j < ρ.length
      · rw [List.getElem?_set_self hl] at q; cases q
      · rw [List.getElem?_eq_none (by rw [List.length_set]; omega)] at q; cases q
    · rw [List.getElem?_set_ne (Ne.symm hj)] at q; exact ⟨hj, q⟩
  refine ⟨R.subO, R.subP, R.al, by simp [R.len], fun j e q => ?_, fun j k a x y cj ck qj qk sj sk => ?_⟩
  · obtain ⟨hj, q⟩ := look j e q
    obtain ⟨w, q1, q2⟩ := R.slot j e q
    exact ⟨w, by rw [List.getElem?_set_ne (Ne.symm hj)]; exact q1, q2⟩
  · obtain ⟨hj, qj⟩ := look j x qj
    obtain ⟨hk, qk⟩ := look k y qk
    rw [List.getElem?_set_ne (Ne.symm hj)] at sj
    rw [List.getElem?_set_ne (Ne.symm hk)] at sk
    exact R.sep j k a x y cj ck qj qk sj sk
end
def wipeE (ρ : En) : List Nat → En
  | [] => ρ
  | v :: vs => (wipeE ρ vs).set v none
theorem Rho.wiped {K : PySem.W.Frag} {B O P : List Addr} {kd : Nat → SK} {ρ : En} {σ : L2.St} {H : Hp} (R : Rho K B O P kd ρ σ H) : ∀ vs : List Nat, Rho K B O P kd (wipeE ρ vs) (wipe σ vs) H
  | [] => R
  | v :: vs => by
    unfold wipeE wipe
    exact (R.wiped vs).drop v
section
variable {X : Cx} {kd : Nat → SK} {pos : Pos}
theorem mg_name {i : Nat} {x : Str} (h : PG X (.Name x pos) (gName i)) (hk : kd i = .st) : MG X kd false (.Name x pos) (gName i) [i] (setN i) := by
  refine ⟨h, fun B O P d v ρ ρ' σ H Q R r e k => ?_⟩
  cases e
  exact k _ (R.putS hk r) fun vs hv => wipe_set (hv i List.mem_cons_self)
theorem mgs_nil : MGs X kd [] gNil 0 [] setNil := by
  refine ⟨pgs_nil, fun ds ρ ρ' e => ?_, fun B O P ds vs ρ ρ' σ H Q R r e k => ?_⟩
  · cases ds with
    | nil => rfl
    | cons _ _ => cases e
  · cases ds with
    | nil =>
      cases e
      unfold RpA at r
      exact ⟨r, k σ R fun _ _ => rfl⟩
    | cons _ _ => cases e
theorem mgs_cons {e : Expr} {es : List Expr} {t : TG} {u : TGs} {n : Nat} {ws ws' : List Nat} {s : D → En → Option En} {r : List D → En → Option En} (h1 : MG X kd false e t ws s) (h2 : MGs X kd es u n ws' r)
    (hs : (assignEach (e :: es) X.env).map (·.2) = assign e X.env :: (assignEach es X.env).map (·.2) := by rfl) : MGs X kd (e :: es) (gCons t u) (n + 1) (ws ++ ws') (setCons s r) := by
  refine ⟨pgs_cons h1.pe h2.pe hs, fun ds ρ ρ' q => ?_, fun B O P ds vs ρ ρ' σ H Q R rr q k => ?_⟩
  · cases ds with
    | nil => cases q
    | cons d ds =>
      obtain ⟨ρ1, q1, q2⟩ := bind_some q
      rw [List.length_cons, h2.len ds _ _ q2]
  · cases ds with
    | nil => cases q
    | cons d ds =>
      obtain ⟨ρ1, q1, q2⟩ := bind_some q
      unfold RpA at rr
      obtain ⟨x, xs, rfl, r1, r2⟩ := rr
      refine ⟨x, xs, rfl, h1.ev B O P d x ρ ρ1 σ H _ R r1 q1 fun σ1 R1 w1 => ?_⟩
      refine h2.ev B O P ds xs ρ1 ρ' σ1 H _ R1 r2 q2 fun σ2 R2 w2 => k σ2 R2 fun vs hv => ?_
      rw [w2 vs fun w hw => hv w (List.mem_append_right _ hw), w1 vs fun w hw => hv w (List.mem_append_left _ hw)]
theorem mg_tup {rr : Bool} {es : List Expr} {kk : Nat} {t : TGs} {n : Nat} {ws : List Nat} {r : List D → En → Option En} (hc : X.calm = true) (h : MGs X kd es t n ws r)
    (hn : (assignEach es X.env).length = n := by rfl) (hst : (assignEach es X.env).findIdx? (·.1) = none := by rfl) : MG X kd rr (.Tuple es kk pos) (gTup X.K n t) ws (setTup r) := by
  refine ⟨pg_tup hc h.pe hn hst, fun B O P d v ρ ρ' σ H Q R ra q k => ?_⟩
  cases d with
  | tuple ds =>
    obtain ⟨a, xs, rfl, hq, rr⟩ : ∃ a xs, v = .ref a ∧ SqT X.K H a xs ∧ RpA X.K B H ds xs := by
      cases rr with
      | false =>
        have r0 : Rp X.K B H (.tuple ds) v := ra
        unfold Rp at r0
        obtain ⟨a, xs, e, hq, r1⟩ := r0
        exact ⟨a, xs, e, hq.sq, r1⟩
      | true =>
        obtain ⟨a, xs, ds', e, e2, hq, r1⟩ := ra
        cases e
        exact ⟨a, xs, e2, hq, r1⟩
    exact ⟨a, xs, rfl, hq, by rw [rr.length]; exact h.len ds _ _ q, h.ev B O P ds xs ρ ρ' σ H Q R rr q k⟩
  | _ => cases q
end

/-! ### list comprehensions -/
def lcGo (st : D → En → Option En) (c : En → Option Bool) (fe : Fx) (ρ : En) : List D → Option (List D)
  | [] => some []
  | d :: ds => (st d ρ).bind fun ρ1 => (c ρ1).bind fun b => if b = true then (fe ρ1).bind fun x => (lcGo st c fe ρ ds).map fun r => x :: r else lcGo st c fe ρ ds
def fLc (fi : En → Option (List D)) (st : D → En → Option En) (c : En → Option Bool) (fe : Fx) (vs : List Nat) : Fx := fun ρ =>
  (fi ρ).bind fun ds => if ds.length ≤ 100000 then (lcGo st c fe (wipeE ρ vs) ds).map PyData.list else none
structure MTs (X : Cx) (kd : Nat → SK) (es : List Expr) (t : TT) (f : En → Option Bool) : Prop where
  pe : PTs X es t
  ev : EvT X.K kd t f
theorem mts_nil {X : Cx} {kd : Nat → SK} : MTs X kd [] tYes (fun _ => some true) := ⟨pts_nil, fun B O P ρ σ H b Q R hf k => by cases hf; exact k H (Same.refl H)⟩
theorem mts_one {X : Cx} {kd : Nat → SK} {e : Expr} {t : TT} {f : En → Option Bool} (h : MT X kd e t f) : MTs X kd [e] t f := ⟨pts_one h.pe, h.ev⟩
theorem Rho.with {K : PySem.W.Frag} {B O P : List Addr} {kd : Nat → SK} {ρ : En} {σ : L2.St} {H H' : Hp} {p : Addr} (R : Rho K B O P kd ρ σ H) (hp : H p = none) (s : Same H H') (hp' : H' p ≠ none) : Rho K (B ++ [p]) O P kd ρ σ H' := by
  have g : ∀ x ∈ B ++ [p], x ∈ B ∨ H x = none := fun x hx => (List.mem_append.mp hx).imp (fun z => z) fun z => by rw [List.mem_singleton.mp z]; exact hp
  refine ⟨fun x hx => List.mem_append_left _ (R.subO x hx), fun x hx => List.mem_append_left _ (R.subP x hx), fun x hx => ?_, R.len, fun i d q => ?_, R.sep⟩
  · rcases List.mem_append.mp hx with z | z
    · exact (Kp.same (O := []) s).al x (R.al x z)
    · rw [List.mem_singleton.mp z]; exact hp'
  · obtain ⟨v, q1, q2⟩ := R.slot i d q
    refine ⟨v, q1, SlotOk.same s ?_⟩
    generalize kd i = k at q2
    cases k with
    | st => exact Rp.grow g _ _ q2
    | wk => exact q2.imp (fun r => Rp.grow g _ _ r) fun ⟨a, e, n, m, r⟩ => ⟨a, e, n, m, r.grow g⟩
    | mu => obtain ⟨a, e, n, r⟩ := q2; exact ⟨a, e, n, r.grow g⟩
    | mp => obtain ⟨a, e, n, r⟩ := q2; exact ⟨a, e, n, r.grow g⟩
    | fz => exact q2
section
variable {K : PySem.W.Frag} {kd : Nat → SK} {wi : TI} {g : TG} {tt : TT} {te : TE} {vs ws : List Nat} {fi : En → Option (List D)} {st : D → En → Option En} {c : En → Option Bool} {fe : Fx}
theorem evLc {rr : Bool} (hi : ∀ B O P ρ σ H ds (R : It → Hp → Prop), Rho K B O P kd ρ σ H → fi ρ = some ds → (∀ J H', Same H H' → Walk rr K B [] J ds H' → R J H') → wi σ H R)
    (hg : ∀ B O P d v ρ ρ' σ H (Q : L2.St → Hp → Prop), Rho K B O P kd ρ σ H → Rq K B H d v rr → st d ρ = some ρ' → (∀ σ', Rho K B O P kd ρ' σ' H → (∀ vs, (∀ w ∈ ws, w ∈ vs) → wipe σ' vs = wipe σ vs) → Q σ' H) → g v σ H Q)
    (ht : EvT K kd tt c) (he : EvE K kd te fe) (hw : ∀ w ∈ ws, w ∈ vs) : EvN K kd (tLc wi g tt te vs) (fLc fi st c fe vs) := by
  intro B O P ρ σ H d Q R hf k
  obtain ⟨ds, h1, h2⟩ := bind_some hf
  split at h2
  · rename_i hz
    obtain ⟨out, h3, h4⟩ := map_some h2
    subst h4
    refine hi B O P ρ σ H ds _ R h1 fun J H1 s1 wk p hp => ?_
    have R1 := (R.same s1).wiped vs
    have gB : ∀ z ∈ B, z ∈ B ++ [p] := fun z hz => List.mem_append_left _ hz
    have gB' : ∀ z ∈ B ++ [p], z ∈ B ∨ H1 z = none := fun z hz => (List.mem_append.mp hz).imp (fun z => z) fun z => by rw [List.mem_singleton.mp z]; exact hp
    refine ⟨fun i m G => m = ds.length - i ∧ i ≤ ds.length ∧ Same H1 G ∧ ∃ acc o1 o2, G p = some (.lst acc) ∧ acc.length ≤ i ∧ RpA K (B ++ [p]) G o1 acc ∧ lcGo st c fe (wipeE ρ vs) (ds.drop i) = some o2 ∧ out = o1 ++ o2,
      ⟨ds.length, by simp, Nat.zero_le _, same_new hp _, [], [], out, upd_same, Nat.le_refl _, RpA.nil, by simpa using h3, by simp⟩, ?_⟩
    rintro i m G ⟨rfl, hi, sG, acc, o1, o2, hG, hacc, rG, hgo, rfl⟩
    have W := wk (B ++ [p]) G i gB gB' (Kp.same sG)
    by_cases hlt : i < ds.length
    · have hd : ds[i]? = some ds[i] := List.getElem?_eq_getElem hlt
      obtain ⟨go, yl⟩ := W.1 _ hd
      have RG : ∀ G2, Same G G2 → Rho K (B ++ [p]) O P kd (wipeE ρ vs) (wipe σ vs) G2 := fun G2 s2 => R1.with hp (sG.trans s2) (by rw [s2 p _ hG]; exact fun z => (nomatch z))
      rw [List.drop_eq_getElem_cons hlt] at hgo
      obtain ⟨ρ1, g1, g2⟩ := bind_some hgo
      obtain ⟨b, g3, g4⟩ := bind_some g2
      refine .inr ⟨go, fun G' => Same H1 G' ∧ ∃ acc o1' o2', G' p = some (.lst acc) ∧ acc.length ≤ i + 1 ∧ RpA K (B ++ [p]) G' o1' acc ∧ lcGo st c fe (wipeE ρ vs) (ds.drop (i + 1)) = some o2' ∧ o1 ++ o2 = o1' ++ o2',
        fun G' ⟨q1, q2⟩ => ⟨ds.length - (i + 1), by omega, rfl, hlt, q1, q2⟩, fun x G2 hy => ?_⟩
      obtain ⟨s2, rx⟩ := yl x G2 hy
      refine hg (B ++ [p]) O P _ x _ ρ1 _ G2 _ (RG G2 s2) rx g1 fun σ1 R2 w1 => ⟨by rw [w1 vs hw]; exact wipe_wipe σ vs, ?_⟩
      refine ht (B ++ [p]) O P ρ1 σ1 G2 b _ R2 g3 fun G3 s3 => ?_
      cases b with
      | true =>
        rw [if_pos rfl] at g4
        refine iteT ?_
        obtain ⟨y, g5, g6⟩ := bind_some g4
        obtain ⟨o3, g7, g8⟩ := map_some g6
        refine he (B ++ [p]) O P ρ1 σ1 G3 y _ (R2.same s3) g5 fun v G4 s4 ry => ?_
        have sA : Same G G4 := (s2.trans s3).trans s4
        refine ⟨acc, sA p _ hG, Nat.lt_of_le_of_lt hacc (big_lt (by omega)), fun a u e => ?_, acc ++ [v], o1 ++ [y], o3, upd_same, by simp; omega, ?_, g7, by rw [← g8]; simp⟩
        · rw [upd_ne (ne_of_none e hp)]; exact sA a u (sG a u e)
        · have kk : Kp [p] G4 (upd G4 p (.lst (acc ++ [v]))) := Kp.upd (by simp) (soft_lst (sA p _ hG))
          exact RpA.kp kk (fun z hz => List.mem_append_right _ hz) _ _ ((rG.same sA).append (RpA.cons ry RpA.nil))
      | false =>
        rw [if_neg Bool.false_ne_true] at g4
        refine iteF ?_
        have sA : Same G G3 := s2.trans s3
        exact ⟨sG.trans sA, acc, o1, o2, sA p _ hG, by omega, rG.same sA, g4, rfl⟩
    · have e : i = ds.length := by omega
      subst e
      refine .inl ⟨W.2 (Nat.le_refl _), ?_⟩
      rw [List.drop_length] at hgo
      cases hgo
      exact k p G (fresh_of s1 hp) (s1.trans sG) ⟨acc, hG, by simpa using rG⟩
  · cases h2
end
end Mx

/-! THE MIRROR LAYER, part 4: statements, loops, defs. -/
namespace Mx
open PySem PySem.Spec L2 PyProof.Rows

inductive Out where
  | nx (ρ : En)
  | rt (d : D) (ρ : En)
  | bk (ρ : En)
  | ct (ρ : En)
abbrev Fs := En → Option Out

/-- where a body stands: B0 what the callers may change, O own lists and dicts -/
structure Sk (K : PySem.W.Frag) (B0 P : List Addr) (kd : Nat → SK) (O : List Addr) (ρ : En) (σ : L2.St) (H : Hp) : Prop where
  rho : Rho K (B0 ++ O) O P kd ρ σ H
  dis : ∀ x ∈ O, x ∉ B0
/-- a step of the heap: own things and P may change -/
structure Stp (P O : List Addr) (H : Hp) (O' : List Addr) (H' : Hp) : Prop where
  sub : ∀ x ∈ O, x ∈ O'
  new : ∀ x ∈ O', x ∈ O ∨ H x = none
  kp : Kp (O ++ P) H H'
section
variable {P O O1 O2 : List Addr} {H H1 H2 : Hp}
theorem Stp.same (e : Same H H1) : Stp P O H O H1 := ⟨fun _ h => h, fun _ h => .inl h, Kp.same e⟩
theorem Stp.refl : Stp P O H O H := Stp.same (Same.refl H)
theorem Stp.back (a : Stp P O H O1 H1) {x : Addr} (h : x ∈ O1 ∨ H1 x = none) : x ∈ O ∨ H x = none := by
  rcases h with h | h
  · exact a.new x h
  · exact .inr (Classical.byContradiction fun n => a.kp.al x n h)
theorem Stp.trans (a : Stp P O H O1 H1) (b : Stp P O1 H1 O2 H2) : Stp P O H O2 H2 := by
  refine ⟨fun x h => b.sub x (a.sub x h), fun x h => a.back (b.new x h), ?_⟩
  refine ⟨fun c u q n => ?_, fun c us q => b.kp.tup c us (a.kp.tup c us q), fun c ob u q => b.kp.frz c ob u (a.kp.frz c ob u q), fun c q => b.kp.al c (a.kp.al c q)⟩
  refine b.kp.obj c u (a.kp.obj c u q n) fun z => ?_
  rcases List.mem_append.mp z with z | z
  · rcases a.new c z with w | w
    · exact n (List.mem_append_left _ w)
    · rw [w] at q; cases q
  · exact n (List.mem_append_right _ z)
end
def RetOk (K : PySem.W.Frag) (rk : Bool) (B0 O : List Addr) (H : Hp) (d : D) (v : V) (H' : Hp) : Prop :=
  match rk with
  | true => ∃ p, v = .ref p ∧ (p ∈ O ∨ H p = none) ∧ p ∉ B0 ∧ RpM K (B0 ++ [p]) H' d p
  | false => Rp K B0 H' d v
def DOk (K : PySem.W.Frag) (rk : Bool) (B0 P : List Addr) (kd : Nat → SK) (O : List Addr) (H : Hp) (Dn : Ends) : Out → Prop
  | .nx ρ => ∀ O' σ' H', Stp P O H O' H' → Sk K B0 P kd O' ρ σ' H' → Dn.nx σ' H'
  | .rt d ρ => ∀ v O' σ' H', Stp P O H O' H' → Sk K B0 P kd O' ρ σ' H' → RetOk K rk B0 O H d v H' → Dn.rt v H'
  | .bk ρ => ∀ O' σ' H', Stp P O H O' H' → Sk K B0 P kd O' ρ σ' H' → Dn.bk σ' H'
  | .ct ρ => ∀ O' σ' H', Stp P O H O' H' → Sk K B0 P kd O' ρ σ' H' → Dn.ct σ' H'
theorem RetOk.back {K : PySem.W.Frag} {rk : Bool} {B0 P O O1 : List Addr} {H H1 H' : Hp} {d : D} {v : V} (a : Stp P O H O1 H1) (h : RetOk K rk B0 O1 H1 d v H') : RetOk K rk B0 O H d v H' := by
  cases rk with
  | true =>
    obtain ⟨p, e, q, n, r⟩ := h
    exact ⟨p, e, a.back q, n, r⟩
  | false => exact h
theorem DOk.step {K : PySem.W.Frag} {rk : Bool} {B0 P O O1 : List Addr} {kd : Nat → SK} {H H1 : Hp} {Dn : Ends} {o : Out} (a : Stp P O H O1 H1) (h : DOk K rk B0 P kd O H Dn o) : DOk K rk B0 P kd O1 H1 Dn o := by
  cases o with
  | nx ρ => exact fun O' σ' H' s k => h O' σ' H' (a.trans s) k
  | rt d ρ => exact fun v O' σ' H' s k r => h v O' σ' H' (a.trans s) k (r.back a)
  | bk ρ => exact fun O' σ' H' s k => h O' σ' H' (a.trans s) k
  | ct ρ => exact fun O' σ' H' s k => h O' σ' H' (a.trans s) k
def EvSt (K : PySem.W.Frag) (kd : Nat → SK) (rk : Bool) (t : TS) (F : Fs) : Prop :=
  ∀ B0 P O ρ σ H o Dn, Sk K B0 P kd O ρ σ H → F ρ = some o → DOk K rk B0 P kd O H Dn o → t Dn σ H
structure MX (X : Cx) (kd : Nat → SK) (rk : Bool) (st : Stmt) (t : TS) (F : Fs) : Prop where
  pe : PS X st t
  ev : EvSt X.K kd rk t F
structure MXs (X : Cx) (kd : Nat → SK) (rk : Bool) (st : List Stmt) (t : TS) (F : Fs) : Prop where
  pe : PSs X st t
  ev : EvSt X.K kd rk t F

section
variable {K : PySem.W.Frag} {B0 P O : List Addr} {kd : Nat → SK} {ρ : En} {σ : L2.St} {H H' : Hp}
theorem Sk.same (e : Same H H') (S : Sk K B0 P kd O ρ σ H) : Sk K B0 P kd O ρ σ H' := ⟨S.rho.same e, S.dis⟩
/-- an own list or dict more -/
theorem Sk.own {p : Addr} (S : Sk K B0 P kd O ρ σ H) (hp : H p = none) (s : Same H H') (hp' : H' p ≠ none) : Sk K B0 P kd (O ++ [p]) ρ σ H' := by
  have R := S.rho
  have g : ∀ x ∈ B0 ++ (O ++ [p]), x ∈ B0 ++ O ∨ H x = none := fun x hx => by
    rw [← List.append_assoc] at hx
    exact (List.mem_append.mp hx).imp (fun z => z) fun z => by rw [List.mem_singleton.mp z]; exact hp
  refine ⟨⟨fun x hx => List.mem_append_right _ hx, fun x hx => ?_, fun x hx => ?_, R.len, fun i d q => ?_, R.sep⟩, fun x hx => ?_⟩
  · rw [← List.append_assoc]; exact List.mem_append_left _ (R.subP x hx)
  · rw [← List.append_assoc] at hx
    rcases List.mem_append.mp hx with z | z
    · exact (Kp.same (O := []) s).al x (R.al x z)
    · rw [List.mem_singleton.mp z]; exact hp'
  · obtain ⟨v, q1, q2⟩ := R.slot i d q
    refine ⟨v, q1, SlotOk.same s ?_⟩
    generalize kd i = k at q2
    have np : ∀ a, H a ≠ none → a ∉ O → a ∉ O ++ [p] := fun a ha hn z => by
      rcases List.mem_append.mp z with z | z
      · exact hn z
      · rw [List.mem_singleton.mp z] at ha; exact ha hp
    cases k with
    | st => exact Rp.grow g _ _ q2
    | wk => exact q2.imp (fun r => Rp.grow g _ _ r) fun ⟨a, e, n, m, r⟩ => ⟨a, e, np a r.there n, m, r.grow g⟩
    | mu => obtain ⟨a, e, n, r⟩ := q2; exact ⟨a, e, List.mem_append_left _ n, r.grow g⟩
    | mp => obtain ⟨a, e, n, r⟩ := q2; exact ⟨a, e, n, r.grow g⟩
    | fz =>
      obtain ⟨a, ns, e1, e2, q, z⟩ := q2
      refine ⟨a, ns, e1, e2, q, ?_⟩
      rcases z with ⟨z1, z2⟩ | z
      · rcases id q with q' | q'
        · refine .inl ⟨np a ?_ z1, z2⟩
          rcases q' with q' | ⟨ob, q'⟩ <;> (rw [q']; exact fun z => (nomatch z))
        · exact .inr fun H' => .inr q'
      · exact .inr z
  · rcases List.mem_append.mp hx with z | z
    · exact S.dis x z
    · rw [List.mem_singleton.mp z]
      exact fun w => R.al p (List.mem_append_left _ w) hp
/-- the content of slot i changes in its place -/
theorem Rho.mut {B : List Addr} {i : Nat} {a : Addr} {u : HO} {d d' : D} (R : Rho K B O P kd ρ σ H) (hc : chg (kd i) = true) (hi : ρ[i]? = some (some d)) (hs : σ[i]? = some (some (.ref a))) (ha : a ∈ O ++ P) (so : Soft (H a))
    (ok : RpM K B (upd H a u) d' a) : Rho K B O P kd (ρ.set i (some d')) σ (upd H a u) := by
  have kO : Kp (O ++ P) H (upd H a u) := Kp.upd ha so
  have kA : Kp [a] H (upd H a u) := Kp.upd (by simp) so
  have aB : a ∈ B := (List.mem_append.mp ha).elim (R.subO a) (R.subP a)
  have sB : ∀ x ∈ O ++ P, x ∈ B := fun x hx => (List.mem_append.mp hx).elim (R.subO x) (R.subP x)
  have look : ∀ j e, (ρ.set i (some d'))[j]? = some (some e) → (j = i ∧ e = d') ∨ (j ≠ i ∧ ρ[j]? = some (some e)) := fun j e q => by
    by_cases hj : j = i
    · subst hj
      rw [List.getElem?_set_self (List.getElem?_eq_some_iff.mp hi).1] at q
      cases q; exact .inl ⟨rfl, rfl⟩
    · rw [List.getElem?_set_ne (Ne.symm hj)] at q; exact .inr ⟨hj, q⟩
  refine ⟨R.subO, R.subP, fun x hx => kA.al x (R.al x hx), by simp [R.len], fun j e q => ?_, fun j k b x y cj ck qj qk sj sk => ?_⟩
  · rcases look j e q with ⟨rfl, rfl⟩ | ⟨hj, q⟩
    · refine ⟨_, hs, ?_⟩
      obtain ⟨v, q1, q2⟩ := R.slot j d hi
      rw [hs] at q1
      cases q1
      generalize kd j = k at hc q2
      cases k with
      | mu => obtain ⟨b, e1, e2, e3⟩ := q2; cases e1; exact ⟨a, rfl, e2, ok⟩
      | mp => obtain ⟨b, e1, e2, e3⟩ := q2; cases e1; exact ⟨a, rfl, e2, ok⟩
      | st => cases hc
      | wk => cases hc
      | fz => cases hc
    · obtain ⟨v, q1, q2⟩ := R.slot j e q
      refine ⟨v, q1, ?_⟩
      have sp : ∀ b, chg (kd j) = true → v = .ref b → b ∉ [a] := fun b cj ev z => by
        rw [List.mem_singleton.mp z] at ev
        subst ev
        exact hj (R.sep j i a e d cj hc q hi q1 hs)
      have sA : ∀ x ∈ [a], x ∈ B := fun x hx => by rw [List.mem_singleton.mp hx]; exact aB
      generalize hk : kd j = k at q2 sp
      cases k with
      | st => exact Rp.kp kO sB _ _ q2
      | wk => exact q2.imp (fun r => Rp.kp kO sB _ _ r) fun ⟨b, e1, n, m, r⟩ => ⟨b, e1, n, m, r.kp kO sB (by simpa using ⟨n, m⟩)⟩
      | mu => obtain ⟨b, e1, e2, e3⟩ := q2; exact ⟨b, e1, e2, e3.kp kA sA (sp b rfl e1)⟩
      | mp => obtain ⟨b, e1, e2, e3⟩ := q2; exact ⟨b, e1, e2, e3.kp kA sA (sp b rfl e1)⟩
      | fz =>
        obtain ⟨b, ns, e1, e2, q, z⟩ := q2
        refine ⟨b, ns, e1, e2, ?_, z⟩
        rcases z with ⟨z1, z2⟩ | z
        · rcases q with (q | ⟨ob, q⟩) | q
          · exact .inl (.inl (kO.obj b _ q (by simpa using ⟨z1, z2⟩)))
          · exact .inl (.inr ⟨ob, kO.frz b _ _ q⟩)
          · exact .inr q
        · exact z _
  · rcases look j x qj with ⟨rfl, rfl⟩ | ⟨hj, qj'⟩
    · rcases look k y qk with ⟨rfl, rfl⟩ | ⟨hk, qk'⟩
      · rfl
      · exact R.sep j k b d y cj ck hi qk' sj sk
    · rcases look k y qk with ⟨rfl, rfl⟩ | ⟨hk, qk'⟩
      · exact R.sep j k b x d cj ck qj' hi sj sk
      · exact R.sep j k b x y cj ck qj' qk' sj sk
/-- where slot i's list or dict stands -/
theorem Rho.at {B : List Addr} {i : Nat} {d : D} (R : Rho K B O P kd ρ σ H) (hc : chg (kd i) = true) (hi : ρ[i]? = some (some d)) : ∃ a, σ[i]? = some (some (.ref a)) ∧ a ∈ O ++ P ∧ RpM K B H d a := by
  obtain ⟨v, q1, q2⟩ := R.slot i d hi
  generalize kd i = k at hc q2
  cases k with
  | mu => obtain ⟨b, e1, e2, e3⟩ := q2; subst e1; exact ⟨b, q1, List.mem_append_left _ e2, e3⟩
  | mp => obtain ⟨b, e1, e2, e3⟩ := q2; subst e1; exact ⟨b, q1, List.mem_append_right _ e2, e3⟩
  | st => cases hc
  | wk => cases hc
  | fz => cases hc
theorem Stp.mut {a : Addr} {u : HO} (ha : a ∈ O ++ P) (so : Soft (H a)) : Stp P O H O (upd H a u) := ⟨fun _ h => h, fun _ h => .inl h, Kp.upd ha so⟩
theorem Stp.own {p : Addr} (hp : H p = none) (s : Same H H') : Stp P O H (O ++ [p]) H' :=
  ⟨fun x h => List.mem_append_left _ h, fun x h => (List.mem_append.mp h).imp (fun z => z) fun z => by rw [List.mem_singleton.mp z]; exact hp, Kp.same s⟩
end

/-! ### small statements -/
def fNx : Fs := fun ρ => some (.nx ρ)
def fSeq (F G : Fs) : Fs := fun ρ => (F ρ).bind fun o => match o with
  | .nx ρ' => G ρ'
  | o => some o
def fSet (i : Nat) (f : Fx) : Fs := fun ρ => (f ρ).map fun d => .nx (ρ.set i (some d))
def fAsg (st : D → En → Option En) (f : Fx) : Fs := fun ρ => (f ρ).bind fun d => (st d ρ).map Out.nx
def fIfS (c : En → Option Bool) (F G : Fs) : Fs := fun ρ => (c ρ).bind fun b => if b = true then F ρ else G ρ
def fRet (f : Fx) : Fs := fun ρ => (f ρ).map fun d => .rt d ρ
def fBk : Fs := fun ρ => some (.bk ρ)
def fCt : Fs := fun ρ => some (.ct ρ)
def fNo : Fs := fun _ => none
section
variable {X : Cx} {kd : Nat → SK} {rk : Bool} {st : Stmt} {rest : List Stmt} {e : Expr} {t u : TS} {te : TE} {F G : Fs} {f : Fx} {pos : Pos}
theorem mxs_nil : MXs X kd rk [] tNext fNx := ⟨pss_nil, fun B0 P O ρ σ H o Dn S hf k => by cases hf; exact k O σ H Stp.refl S⟩
theorem mxs_one (h : MX X kd rk st t F) : MXs X kd rk [st] t F := ⟨pss_one h.pe, h.ev⟩
theorem mxs_cons (h : MX X kd rk st t F) (h2 : MXs X kd rk rest u G) : MXs X kd rk (st :: rest) (tSeq t u) (fSeq F G) := by
  refine ⟨pss_cons h.pe h2.pe, fun B0 P O ρ σ H o Dn S hf k => ?_⟩
  obtain ⟨o1, h3, h4⟩ := bind_some hf
  refine h.ev B0 P O ρ σ H o1 _ S h3 ?_
  cases o1 with
  | nx ρ' => exact fun O' σ' H' s S' => h2.ev B0 P O' ρ' σ' H' o Dn S' h4 (k.step s)
  | rt d ρ' => cases h4; exact k
  | bk ρ' => cases h4; exact k
  | ct ρ' => cases h4; exact k
theorem mx_pass : MX X kd rk (.Pass pos) tNext fNx := ⟨ps_pass, fun B0 P O ρ σ H o Dn S hf k => by cases hf; exact k O σ H Stp.refl S⟩
theorem mx_break : MX X kd rk (.Break pos) tBreak fBk := ⟨ps_break, fun B0 P O ρ σ H o Dn S hf k => by cases hf; exact k O σ H Stp.refl S⟩
theorem mx_cont : MX X kd rk (.Continue pos) tCont fCt := ⟨ps_continue, fun B0 P O ρ σ H o Dn S hf k => by cases hf; exact k O σ H Stp.refl S⟩
theorem mx_never : MX X kd rk st tNever fNo := ⟨ps_never, fun B0 P O ρ σ H o Dn S hf k => by cases hf⟩
theorem mxs_never : MXs X kd rk rest tNever fNo := ⟨pss_never, fun B0 P O ρ σ H o Dn S hf k => by cases hf⟩
theorem mx_set {i : Nat} (hp : PS X st (tAsg te (gName i))) (he : EvE X.K kd te f) (hk : kd i = .st) : MX X kd rk st (tAsg te (gName i)) (fSet i f) := by
  refine ⟨hp, fun B0 P O ρ σ H o Dn S hf k => ?_⟩
  obtain ⟨d, h1, h2⟩ := map_some hf
  subst h2
  refine he (B0 ++ O) O P ρ σ H d _ S.rho h1 fun v H1 s1 r => ?_
  exact k O _ H1 (Stp.same s1) ⟨(S.same s1).rho.putS hk r, S.dis⟩
/-- a name for a new list or dict -/
theorem mx_setN {i : Nat} (hp : PS X st (tAsg te (gName i))) (he : EvN X.K kd te f) (hk : kd i = .mu) : MX X kd rk st (tAsg te (gName i)) (fSet i f) := by
  refine ⟨hp, fun B0 P O ρ σ H o Dn S hf k => ?_⟩
  obtain ⟨d, h1, h2⟩ := map_some hf
  subst h2
  refine he (B0 ++ O) O P ρ σ H d _ S.rho h1 fun p H1 hp s1 r => ?_
  have S1 := S.own hp s1 r.there
  refine k (O ++ [p]) _ H1 (Stp.own hp s1) ⟨S1.rho.put ?_ fun _ j a e hj cj qj ea sj => ?_, S1.dis⟩
  · rw [hk]
    exact ⟨p, rfl, by simp, by rw [List.append_assoc] at r; exact r⟩
  · cases ea
    obtain ⟨b, q1, q2, q3⟩ := S.rho.at cj qj
    rw [sj] at q1
    cases q1
    exact q3.there hp
theorem mx_asg {tg : Expr} {g : TG} {ws : List Nat} {s : D → En → Option En} (he : ME X kd e te f) (hg : MG X kd false tg g ws s) (hs : swapsWithSole [tg] e pos.line X.env = pure false := by rfl) (hw : swappedStores [tg] e X.env = pure none := by rfl)
    (h1 : (assignEach [tg] X.env).map (·.2) = [assign tg X.env] := by rfl) : MX X kd rk (.Assign [tg] e pos) (tAsg te g) (fAsg s f) := by
  refine ⟨ps_asg he.pe hg.pe hs hw h1, fun B0 P O ρ σ H o Dn S hf k => ?_⟩
  obtain ⟨d, h1, h2⟩ := bind_some hf
  obtain ⟨ρ', h3, h4⟩ := map_some h2
  subst h4
  refine he.ev (B0 ++ O) O P ρ σ H d _ S.rho h1 fun v H1 s1 r => ?_
  exact hg.ev (B0 ++ O) O P d v ρ ρ' σ H1 _ (S.same s1).rho r h3 fun σ' R' _ => k O σ' H1 (Stp.same s1) ⟨R', S.dis⟩
theorem mx_if {c : Expr} {a b : List Stmt} {tc : TT} {fc : En → Option Bool} (hc : MT X kd c tc fc) (ha : MXs X kd rk a t F) (hb : MXs X kd rk b u G) : MX X kd rk (.If c a b pos) (tIfS tc t u) (fIfS fc F G) := by
  refine ⟨ps_if hc.pe ha.pe hb.pe, fun B0 P O ρ σ H o Dn S hf k => ?_⟩
  obtain ⟨z, h1, h2⟩ := bind_some hf
  refine hc.ev (B0 ++ O) O P ρ σ H z _ S.rho h1 fun H1 s1 => ?_
  cases z with
  | true => exact iteT (ha.ev B0 P O ρ σ H1 o Dn (S.same s1) h2 (k.step (Stp.same s1)))
  | false => exact iteF (hb.ev B0 P O ρ σ H1 o Dn (S.same s1) h2 (k.step (Stp.same s1)))
theorem mx_ret (he : ME X kd e te f) : MX X kd false (.Return (some e) pos) (tRet te) (fRet f) := by
  refine ⟨ps_ret he.pe, fun B0 P O ρ σ H o Dn S hf k => ?_⟩
  obtain ⟨d, h1, h2⟩ := map_some hf
  subst h2
  refine he.ev (B0 ++ O) O P ρ σ H d _ S.rho h1 fun v H1 s1 r => ?_
  exact k v O σ H1 (Stp.same s1) (S.same s1) (Rp.grow (fun x hx => .inl (List.mem_append_left _ hx)) _ _ r)
theorem new_at {K : PySem.W.Frag} {B0 P O : List Addr} {ρ : En} {σ : L2.St} {H H1 : Hp} {p : Addr} {d : D} (S : Sk K B0 P kd O ρ σ H) (hp : H p = none) (r : RpM K (B0 ++ O ++ [p]) H1 d p) : RetOk K true B0 O H d (.ref p) H1 :=
  ⟨p, rfl, .inr hp, fun z => S.rho.al p (List.mem_append_left _ z) hp, r.grow fun x hx => .inl ((List.mem_append.mp hx).elim (fun z => List.mem_append_left _ (List.mem_append_left _ z)) fun z => List.mem_append_right _ z)⟩
/-- return of something new -/
theorem mx_retN (he : MN X kd e te f) : MX X kd true (.Return (some e) pos) (tRet te) (fRet f) := by
  refine ⟨ps_ret he.pe, fun B0 P O ρ σ H o Dn S hf k => ?_⟩
  obtain ⟨d, h1, h2⟩ := map_some hf
  subst h2
  refine he.ev (B0 ++ O) O P ρ σ H d _ S.rho h1 fun p H1 hp s1 r => ?_
  exact k _ O σ H1 (Stp.same s1) (S.same s1) (new_at S hp r)
/-- return of an own list -/
theorem mx_retM {i : Nat} {x : Str} {pos'} (h : PE X (.Name x pos') (tVar i)) (hk : kd i = .mu) : MX X kd true (.Return (some (.Name x pos')) pos) (tRet (tVar i)) (fRet (fVar i)) := by
  refine ⟨ps_ret h, fun B0 P O ρ σ H o Dn S hf k => ?_⟩
  obtain ⟨d, h1, h2⟩ := map_some hf
  subst h2
  obtain ⟨v, q, s⟩ := S.rho.slot i d (fVar_at h1)
  rw [hk] at s
  obtain ⟨a, rfl, ha, r⟩ := s
  refine ⟨_, q, k _ O σ H Stp.refl S ⟨a, rfl, .inl ha, S.dis a ha, r.grow fun x hx => .inl ?_⟩⟩
  exact (List.mem_append.mp hx).elim (fun z => List.mem_append_left _ z) fun z => by rw [List.mem_singleton.mp z]; exact List.mem_append_right _ ha
theorem mx_retML {i : Nat} {x : Str} {pos'} (h : PE X (.Name x pos') (tVar i)) (hk : kd i = .mu) : MX X kd false (.Return (some (.Name x pos')) pos) (tRet (tVar i)) (fRet (f1 isL (fVar i))) := by
  refine ⟨ps_ret h, fun B0 P O ρ σ H o Dn S hf k => ?_⟩
  obtain ⟨d, h1, h2⟩ := map_some hf
  subst h2
  obtain ⟨d', h1, h3⟩ := bind_some h1
  obtain ⟨v, q, s⟩ := S.rho.slot i d' (fVar_at h1)
  rw [hk] at s
  obtain ⟨a, rfl, ha, r⟩ := s
  refine ⟨_, q, k _ O σ H Stp.refl S ?_⟩
  cases d' with
  | list ds =>
    cases h3
    obtain ⟨xs, q1, q2⟩ := r
    show Rp X.K B0 H (.list ds) (.ref a)
    unfold Rp
    exact ⟨a, xs, rfl, S.dis a ha, q1, RpA.grow (fun x hx => .inl (List.mem_append_left _ hx)) _ _ q2⟩
  | _ => cases h3
def fRetN : Fs := fun ρ => some (.rt .none ρ)
theorem mx_retNone : MX X kd false (.Return none pos) tRetN fRetN := by
  refine ⟨ps_retN, fun B0 P O ρ σ H o Dn S hf k => ?_⟩
  cases hf
  exact k _ O σ H Stp.refl S (by show Rp _ _ _ _ _; unfold Rp; rfl)
/-- from here on slot i is not changed any more -/
def fFrz (F : Fs) : Fs := fun ρ => (F ρ).bind fun o => match o with
  | .rt d ρ => some (.rt d ρ)
  | _ => none
end

/-! ### lists changed -/
def fApp (i : Nat) (f : Fx) : Fs := fun ρ => (f ρ).bind fun d => match ρ[i]? with
  | some (some (.list ds)) => if ds.length < 100000 then some (.nx (ρ.set i (some (.list (ds ++ [d]))))) else none
  | _ => none
def fExt (i : Nat) (f : Fx) : Fs := fun ρ => (f ρ).bind fun d => match ρ[i]?, d with
  | some (some (.list ds)), .list es => if ds.length + es.length ≤ 100000 then some (.nx (ρ.set i (some (.list (ds ++ es))))) else none
  | _, _ => none
section
variable {X : Cx} {kd : Nat → SK} {rk : Bool} {st : Stmt} {e : Expr} {te : TE} {f : Fx} {i : Nat}
theorem mx_app (hp : PS X st (tDrop (tBM X.K "list" rAppend (tVar i) (tCons te tNil)))) (he : EvE X.K kd te f) (hc : chg (kd i) = true) : MX X kd rk st (tDrop (tBM X.K "list" rAppend (tVar i) (tCons te tNil))) (fApp i f) := by
  refine ⟨hp, fun B0 P O ρ σ H o Dn S hf k => ?_⟩
  obtain ⟨d, h1, h2⟩ := bind_some hf
  split at h2
  · rename_i ds hi
    split at h2
    · rename_i hz
      cases h2
      obtain ⟨a, q1, q2, xs, q3, q4⟩ := S.rho.at hc hi
      refine ⟨.ref a, q1, .inl ⟨rfl, xs, SqL.of q3⟩, ?_⟩
      refine he (B0 ++ O) O P ρ σ H d _ S.rho h1 fun v H1 s1 r => ?_
      have so := soft_lst (s1 a _ q3)
      have kO : Kp (O ++ P) H1 (upd H1 a (.lst (xs ++ [v]))) := Kp.upd q2 so
      have sB : ∀ x ∈ O ++ P, x ∈ B0 ++ O := fun x hx => (List.mem_append.mp hx).elim (S.rho.subO x) (S.rho.subP x)
      refine ⟨a, xs, v, rfl, rfl, s1 a _ q3, by rw [q4.length]; exact big_lt hz, k O σ _ ((Stp.same s1).trans (Stp.mut q2 so)) ⟨(S.same s1).rho.mut hc hi q1 q2 so ?_, S.dis⟩⟩
      exact ⟨_, upd_same, (RpA.kp kO sB _ _ (q4.same s1)).append (RpA.cons (Rp.kp kO sB _ _ r) RpA.nil)⟩
    · cases h2
  · cases h2
theorem mx_ext (hp : PS X st (tDrop (tBM X.K "list" rExtend (tVar i) (tCons te tNil)))) (he : EvV X.K kd te f) (hc : chg (kd i) = true) : MX X kd rk st (tDrop (tBM X.K "list" rExtend (tVar i) (tCons te tNil))) (fExt i f) := by
  refine ⟨hp, fun B0 P O ρ σ H o Dn S hf k => ?_⟩
  obtain ⟨d, h1, h2⟩ := bind_some hf
  split at h2
  · rename_i ds es hi
    split at h2
    · rename_i hz
      cases h2
      obtain ⟨a, q1, q2, xs, q3, q4⟩ := S.rho.at hc hi
      refine ⟨.ref a, q1, .inl ⟨rfl, xs, SqL.of q3⟩, ?_⟩
      refine he (B0 ++ O) O P ρ σ H _ _ S.rho h1 fun v H1 s1 r => ?_
      obtain ⟨b, zs, rfl, hb, rb⟩ : ∃ b zs, v = .ref b ∧ H1 b = some (.lst zs) ∧ RpA X.K (B0 ++ O) H1 es zs := by
        rcases r with r | ⟨b, rfl, zs, w1, w2⟩
        · unfold Rp at r
          obtain ⟨b, zs, e1, _, e2, e3⟩ := r
          exact ⟨b, zs, e1, e2, e3⟩
        · exact ⟨b, zs, rfl, w1, w2⟩
      have so := soft_lst (s1 a _ q3)
      have kO : Kp (O ++ P) H1 (upd H1 a (.lst (xs ++ zs))) := Kp.upd q2 so
      have sB : ∀ x ∈ O ++ P, x ∈ B0 ++ O := fun x hx => (List.mem_append.mp hx).elim (S.rho.subO x) (S.rho.subP x)
      refine ⟨a, b, xs, zs, rfl, rfl, s1 a _ q3, hb, by rw [q4.length, rb.length]; exact big_ok hz, k O σ _ ((Stp.same s1).trans (Stp.mut q2 so)) ⟨(S.same s1).rho.mut hc hi q1 q2 so ?_, S.dis⟩⟩
      exact ⟨_, upd_same, (RpA.kp kO sB _ _ (q4.same s1)).append (RpA.kp kO sB _ _ rb)⟩
    · cases h2
  · cases h2
end

/-! ### loops -/
def loopF (st : D → En → Option En) (body : Fs) : List D → Fs
  | [], ρ => some (.nx ρ)
  | d :: ds, ρ => (st d ρ).bind fun ρ1 => (body ρ1).bind fun o => match o with
    | .nx ρ2 => loopF st body ds ρ2
    | .ct ρ2 => loopF st body ds ρ2
    | .bk ρ2 => some (.nx ρ2)
    | .rt d ρ2 => some (.rt d ρ2)
def fFor (fi : En → Option (List D)) (st : D → En → Option En) (body : Fs) : Fs := fun ρ => (fi ρ).bind fun ds => loopF st body ds ρ
def whileF (c : En → Option Bool) (body : Fs) : Nat → Fs
  | 0, _ => none
  | n + 1, ρ => (c ρ).bind fun b => if b = true then (body ρ).bind fun o => match o with
    | .nx ρ2 => whileF c body n ρ2
    | .ct ρ2 => whileF c body n ρ2
    | .bk ρ2 => some (.nx ρ2)
    | .rt d ρ2 => some (.rt d ρ2) else some (.nx ρ)
section
variable {X : Cx} {kd : Nat → SK} {rk : Bool} {body : List Stmt} {tb : TS} {F : Fs} {pos : Pos}
theorem mx_for {rr : Bool} {tg iter : Expr} {wi : TI} {g : TG} {ws : List Nat} {st : D → En → Option En} {fi : En → Option (List D)} (hp : PassesOwn (model X.prog X.w) X.A X.env X.xe) (hc : X.calm = true) (hi : MI X kd true rr tg iter wi fi) (hg : MG X kd rr tg g ws st) (hb : MXs X kd rk body tb F)
    (hs : ∀ x, foldedSetIterable iter X.env x = pure x := by intro _; rfl) : MX X kd rk (.For tg iter body [] pos) (tFor wi g tb) (fFor fi st F) := by
  refine ⟨ps_for hp hc hi.pe hg.pe hb.pe hs, fun B0 P O ρ σ H o Dn S hf k => ?_⟩
  obtain ⟨ds, h1, h2⟩ := bind_some hf
  refine hi.ev (B0 ++ O) O P ρ σ H ds _ S.rho h1 fun J H1 s1 wk => ?_
  rw [if_pos rfl] at wk
  refine ⟨fun i m σ' G => m = ds.length - i ∧ i ≤ ds.length ∧ ∃ O' ρ', Stp P O H1 O' G ∧ Sk X.K B0 P kd O' ρ' σ' G ∧ loopF st F (ds.drop i) ρ' = some o,
    ⟨ds.length, by simp, Nat.zero_le _, O, ρ, Stp.refl, S.same s1, by simpa using h2⟩, ?_⟩
  rintro i m σ' G ⟨rfl, hi', O', ρ', sp, S', hl⟩
  have W := wk (B0 ++ O') G i (fun z hz => (List.mem_append.mp hz).elim (fun w => List.mem_append_left _ w) fun w => List.mem_append_right _ (sp.sub z w))
    (fun z hz => (List.mem_append.mp hz).elim (fun w => .inl (List.mem_append_left _ w)) fun w => (sp.new z w).imp (fun y => List.mem_append_right _ y) fun y => y) sp.kp
  by_cases hlt : i < ds.length
  · have hd : ds[i]? = some ds[i] := List.getElem?_eq_getElem hlt
    obtain ⟨go, yl⟩ := W.1 _ hd
    rw [List.drop_eq_getElem_cons hlt] at hl
    obtain ⟨ρ1, g1, g2⟩ := bind_some hl
    obtain ⟨o1, g3, g4⟩ := bind_some g2
    refine .inr ⟨go, fun σ2 G2 => ∃ O2 ρ2, Stp P O H1 O2 G2 ∧ Sk X.K B0 P kd O2 ρ2 σ2 G2 ∧ loopF st F (ds.drop (i + 1)) ρ2 = some o,
      fun σ2 G2 q => ⟨ds.length - (i + 1), by omega, rfl, hlt, q⟩, fun x G2 hy => ?_⟩
    obtain ⟨s2, rx⟩ := yl x G2 hy
    refine hg.ev (B0 ++ O') O' P _ x _ ρ1 _ G2 _ (S'.same s2).rho rx g1 fun σ1 R1 _ => ?_
    have sp2 : Stp P O H1 O' G2 := sp.trans (Stp.same s2)
    refine hb.ev B0 P O' ρ1 σ1 G2 o1 _ ⟨R1, S'.dis⟩ g3 ?_
    cases o1 with
    | nx ρ2 => exact fun O3 σ3 G3 s3 S3 => ⟨O3, ρ2, sp2.trans s3, S3, g4⟩
    | ct ρ2 => exact fun O3 σ3 G3 s3 S3 => ⟨O3, ρ2, sp2.trans s3, S3, g4⟩
    | bk ρ2 =>
      cases g4
      exact fun O3 σ3 G3 s3 S3 => k O3 σ3 G3 ((Stp.same s1).trans (sp2.trans s3)) S3
    | rt d ρ2 =>
      cases g4
      exact fun v O3 σ3 G3 s3 S3 r => k v O3 σ3 G3 ((Stp.same s1).trans (sp2.trans s3)) S3 (r.back ((Stp.same s1).trans sp2))
  · have e : i = ds.length := by omega
    subst e
    refine .inl ⟨W.2 (Nat.le_refl _), ?_⟩
    rw [List.drop_length] at hl
    cases hl
    exact k O' σ' G ((Stp.same s1).trans sp) S'
theorem mx_while {c : Expr} {tc : TT} {fc : En → Option Bool} (n : Nat) (hp : PassesOwn (model X.prog X.w) X.A X.env X.xe) (hc : MT X kd c tc fc) (hb : MXs X kd rk body tb F) : MX X kd rk (.While c body [] pos) (tWhile tc tb) (whileF fc F n) := by
  refine ⟨ps_while hp hc.pe hb.pe, fun B0 P O ρ σ H o Dn S hf k => ?_⟩
  refine ⟨fun m σ' G => ∃ O' ρ', Stp P O H O' G ∧ Sk X.K B0 P kd O' ρ' σ' G ∧ whileF fc F m ρ' = some o, ⟨n, O, ρ, Stp.refl, S, hf⟩, ?_⟩
  rintro m σ' G ⟨O', ρ', sp, S', hl⟩
  cases m with
  | zero => cases hl
  | succ m =>
    obtain ⟨b, g1, g2⟩ := bind_some hl
    refine hc.ev (B0 ++ O') O' P ρ' σ' G b _ S'.rho g1 fun G1 s1 => ?_
    have sp1 : Stp P O H O' G1 := sp.trans (Stp.same s1)
    cases b with
    | true =>
      rw [if_pos rfl] at g2
      obtain ⟨o1, g3, g4⟩ := bind_some g2
      refine iteT ⟨fun σ2 G2 => ∃ O2 ρ2, Stp P O H O2 G2 ∧ Sk X.K B0 P kd O2 ρ2 σ2 G2 ∧ whileF fc F m ρ2 = some o, fun σ2 G2 q => ⟨m, Nat.lt_succ_self m, q⟩, ?_⟩
      refine hb.ev B0 P O' ρ' σ' G1 o1 _ (S'.same s1) g3 ?_
      cases o1 with
      | nx ρ2 => exact fun O3 σ3 G3 s3 S3 => ⟨O3, ρ2, sp1.trans s3, S3, g4⟩
      | ct ρ2 => exact fun O3 σ3 G3 s3 S3 => ⟨O3, ρ2, sp1.trans s3, S3, g4⟩
      | bk ρ2 =>
        cases g4
        exact fun O3 σ3 G3 s3 S3 => k O3 σ3 G3 (sp1.trans s3) S3
      | rt d ρ2 =>
        cases g4
        exact fun v O3 σ3 G3 s3 S3 r => k v O3 σ3 G3 (sp1.trans s3) S3 (r.back sp1)
    | false =>
      rw [if_neg Bool.false_ne_true] at g2
      cases g2
      exact iteF (k O' σ' G1 sp1 (S'.same s1))
end

/-! ### defs -/
def argE (n m : Nat) (ds : List D) : En := ds.map some ++ List.replicate (n - m) none
def defF (n m : Nat) (F : Fs) : List D → Option D := fun ds => if ds.length = m then (F (argE n m ds)).bind (fun o => match o with
  | .rt d _ => some d
  | .nx _ => some .none
  | _ => none) else none
def defN (n m : Nat) (F : Fs) : List D → Option D := fun ds => if ds.length = m then (F (argE n m ds)).bind (fun o => match o with
  | .rt d _ => some d
  | _ => none) else none
theorem argE_at {n m : Nat} {ds : List D} {i : Nat} {d : D} (h : (argE n m ds)[i]? = some (some d)) : ds[i]? = some d := by
  unfold argE at h
  by_cases hi : i < ds.length
  · rw [List.getElem?_append_left (by simpa using hi), List.getElem?_map] at h
    obtain ⟨d', q1, q2⟩ := map_some h
    rw [q1]; exact q2
  · rw [List.getElem?_append_right (by simpa using Nat.le_of_not_lt hi), List.getElem?_replicate] at h
    split at h <;> cases h
theorem start_at {N : List Str} {vs : List V} {i : Nat} {v : V} (h : vs[i]? = some v) : (L2.start N vs)[i]? = some (some v) := by
  unfold L2.start
  have hi := (List.getElem?_eq_some_iff.mp h).1
  rw [List.getElem?_append_left (by simpa using hi), List.getElem?_map, h]; rfl
section
variable {P : Program} {w : World} {K : PySem.W.Frag} {mg : Str → Option Value} {base : Heap} {kd : Nat → SK} {F : Fs} {N ps : List Str} {x qual : Str} {st : Stmt} {f : Addr} {fd : FuncData} {k : Nat}
theorem sk_start {B : List Addr} {ds : List D} {vs : List V} {H : Hp} {m : Nat} (hm : ds.length = m) (hn : m ≤ N.length) (al : ∀ z ∈ B, H z ≠ none) (r : RpVs K B H ds vs) (hk : ∀ i, i < m → kd i = .wk) : Sk K B [] kd [] (argE N.length m ds) (L2.start N vs) H := by
  refine ⟨⟨fun z hz => (by cases hz), fun z hz => (by cases hz), fun z hz => al z (by simpa using hz), ?_, fun i d q => ?_, fun i j a d e ci cj qi qj _ _ => ?_⟩, fun z hz => by cases hz⟩
  · have := r.length
    simp [L2.start, argE, this, hm]
  · have q := argE_at q
    obtain ⟨v, q1, q2⟩ := r.get q
    refine ⟨v, start_at q1, ?_⟩
    rw [hk i (by rw [← hm]; exact (List.getElem?_eq_some_iff.mp q).1), List.append_nil]
    exact q2.imp (fun z => z) fun ⟨a, e1, e2⟩ => ⟨a, e1, by simp, by simp, e2⟩
  · have q := argE_at qi
    rw [hk i (by rw [← hm]; exact (List.getElem?_eq_some_iff.mp q).1)] at ci
    cases ci
/-- a def whose answer stays -/
theorem fn_d (Fu : FunD K x qual (defArgs st) (defBody st) (defScope st) [] [] f fd) (S : FnScope N ps (defScope st)) (hn : ps.length ≤ N.length) (hk : ∀ i, i < ps.length → kd i = .wk)
    (body : ∀ (cdv : Value) (A : Around) (outer : List Env) (s : Shared) (H : Hp) (E : XK), Room k (A.deeper (envOfC qual (defScope st) s.heap.objs.size f cdv)) → ∃ t, MXs (cxOf CX0 P w K mg base N qual (defScope st) f cdv A outer s H E).nox kd false (defBody st) t F) :
    FnOk P w K mg base CX0 (k + 1) f fd ps (spD K (defF N.length ps.length F)) := by
  have ln : ∀ {ds : List D} {d : D}, defF N.length ps.length F ds = some d → ds.length = ps.length := fun {ds d} e => by
    unfold defF at e
    split at e
    · assumption
    · cases e
  refine Fu.ok S (fun vs H Q E ⟨B, ds, d, al, r, e, _⟩ => by rw [r.length]; exact ln e) fun cdv A outer s H vs Q E hr ⟨B, ds, d, al, r, e, q⟩ => ?_
  obtain ⟨t, m⟩ := body cdv A outer s H E hr
  have hl := ln e
  unfold defF at e
  rw [if_pos hl] at e
  obtain ⟨o, e1, e2⟩ := bind_some e
  refine ⟨t, m.pe.nox, m.ev B [] [] _ _ H o _ (sk_start hl hn al r hk) e1 ?_⟩
  cases o with
  | rt d' ρ' =>
    cases e2
    exact fun v O' σ' H' sp _ r => q v H' sp.kp.to_same r
  | nx ρ' =>
    cases e2
    exact fun O' σ' H' sp _ => q .non H' sp.kp.to_same (by unfold Rp; rfl)
  | bk _ => cases e2
  | ct _ => cases e2
/-- a def whose answer is a new list or dict -/
theorem fn_n (Fu : FunD K x qual (defArgs st) (defBody st) (defScope st) [] [] f fd) (S : FnScope N ps (defScope st)) (hn : ps.length ≤ N.length) (hk : ∀ i, i < ps.length → kd i = .wk)
    (body : ∀ (cdv : Value) (A : Around) (outer : List Env) (s : Shared) (H : Hp) (E : XK), Room k (A.deeper (envOfC qual (defScope st) s.heap.objs.size f cdv)) → ∃ t, MXs (cxOf CX0 P w K mg base N qual (defScope st) f cdv A outer s H E).nox kd true (defBody st) t F) :
    FnOk P w K mg base CX0 (k + 1) f fd ps (spN K (defN N.length ps.length F)) := by
  have ln : ∀ {ds : List D} {d : D}, defN N.length ps.length F ds = some d → ds.length = ps.length := fun {ds d} e => by
    unfold defN at e
    split at e
    · assumption
    · cases e
  refine Fu.ok S (fun vs H Q E ⟨B, ds, d, al, r, e, _⟩ => by rw [r.length]; exact ln e) fun cdv A outer s H vs Q E hr ⟨B, ds, d, al, r, e, q⟩ => ?_
  obtain ⟨t, m⟩ := body cdv A outer s H E hr
  have hl := ln e
  unfold defN at e
  rw [if_pos hl] at e
  obtain ⟨o, e1, e2⟩ := bind_some e
  refine ⟨t, m.pe.nox, m.ev B [] [] _ _ H o _ (sk_start hl hn al r hk) e1 ?_⟩
  cases o with
  | rt d' ρ' =>
    cases e2
    rintro v O' σ' H' sp _ ⟨p, rfl, hp, _, r⟩
    exact q p H' (hp.elim (fun z => by cases z) fun z => z) sp.kp.to_same r
  | nx ρ' => cases e2
  | bk _ => cases e2
  | ct _ => cases e2
end

/-! ### a def as others know it -/
structure OkD (P : Program) (w : World) (K : PySem.W.Frag) (mg : Str → Option Value) (base : Heap) (k : Nat) (f : Addr) (ps : List Str) (fd : FuncData) (sp : Sp) : Prop where
  ok : FnOk P w K mg base CX0 k f fd ps sp
  bd : Binds K fd ps []
  kp : PySem.W.keepIn K (.ref f) = true

/-! ### comprehensions, for the generator -/
section
variable {X : Cx} {kd : Nat → SK} {rk : Bool} {tg iter elt : Expr} {ifs : List Expr} {scope : Scope} {own : List (Str × Nat)} {ws : List Nat} {pos : Pos} {wi : TI} {g : TG} {tt : TT} {te : TE} {fi : En → Option (List D)} {st : D → En → Option En} {c : En → Option Bool} {fe : Fx}
theorem mn_lc {rr : Bool} (hc : X.calm = true) (hN : X.N.Nodup) (hi : MI X kd false rr tg iter wi fi) (ok : BlkOk X.N X.env.scope scope own)
    (hg : ∀ (s : Shared) (H : Hp) (C : Addr) (cl : List (Str × Addr)) (fp : List Addr), MG (X.blk s H scope (compEnvC scope cl C X.env) fp) kd rr tg g ws st)
    (ht : ∀ (s : Shared) (H : Hp) (C : Addr) (cl : List (Str × Addr)) (fp : List Addr), MTs (X.blk s H scope (compEnvC scope cl C X.env) fp) kd ifs tt c)
    (he : ∀ (s : Shared) (H : Hp) (C : Addr) (cl : List (Str × Addr)) (fp : List Addr), ME (X.blk s H scope (compEnvC scope cl C X.env) fp) kd elt te fe)
    (hw : ∀ w ∈ ws, w ∈ own.map (·.2)) (hs : ∀ x, foldedSetIterable iter X.env x = pure x := by intro _; rfl) :
    MN X kd (.ListComp elt [⟨tg, iter, ifs, 0⟩] scope pos) (tLc wi g tt te (own.map (·.2))) (fLc fi st c fe (own.map (·.2))) :=
  ⟨pe_lc hc hN hi.pe ok (fun s H C cl fp => (hg s H C cl fp).pe) (fun s H C cl fp => (ht s H C cl fp).pe) (fun s H C cl fp => (he s H C cl fp).pe) hs,
    evLc (fun B O P ρ σ H ds R R0 hf k => hi.ev B O P ρ σ H ds R R0 hf (by simpa using k)) (hg X.s_0 X.H_0 0 [] []).ev (ht X.s_0 X.H_0 0 [] []).ev (he X.s_0 X.H_0 0 [] []).ev hw⟩
/-- y = [..] -/
theorem mx_setLc {rr : Bool} {i : Nat} {y : Str} {py spos : Pos} (hk : kd i = .mu) (hc : X.calm = true) (hN : X.N.Nodup) (hy : X.N[i]? = some y) (hyl : X.env.scope.names.lookup y = some .local)
    (hsw : swapsWith (.ListComp elt [⟨tg, iter, ifs, 0⟩] scope pos) (some (.Name y py)) spos.line X.env = pure true) (hi : MI X kd false rr tg iter wi fi) (ok : BlkOk X.N X.env.scope scope own)
    (hg : ∀ (s : Shared) (H : Hp) (C : Addr) (cl : List (Str × Addr)) (fp : List Addr), MG (X.blk s H scope (compEnvC scope cl C X.env) fp) kd rr tg g ws st)
    (ht : ∀ (s : Shared) (H : Hp) (C : Addr) (cl : List (Str × Addr)) (fp : List Addr), MTs (X.blk s H scope (compEnvC scope cl C X.env) fp) kd ifs tt c)
    (he : ∀ (s : Shared) (H : Hp) (C : Addr) (cl : List (Str × Addr)) (fp : List Addr), ME (X.blk s H scope (compEnvC scope cl C X.env) fp) kd elt te fe)
    (hw : ∀ w ∈ ws, w ∈ own.map (·.2)) (hs : ∀ x, foldedSetIterable iter X.env x = pure x := by intro _; rfl) :
    MX X kd rk (.Assign [.Name y py] (.ListComp elt [⟨tg, iter, ifs, 0⟩] scope pos) spos) (tAsg (tLc wi g tt te (own.map (·.2))) (gName i)) (fSet i (fLc fi st c fe (own.map (·.2)))) :=
  mx_setN (ps_setLc hc hN hy hyl hsw hi.pe ok (fun s H C cl fp => (hg s H C cl fp).pe) (fun s H C cl fp => (ht s H C cl fp).pe) (fun s H C cl fp => (he s H C cl fp).pe) hs) (mn_lc (pos := pos) hc hN hi ok hg ht he hw hs).ev hk
theorem mx_setLcS {rr : Bool} {i : Nat} {y : Str} {py spos : Pos} (hk : kd i = .st) (hc : X.calm = true) (hN : X.N.Nodup) (hy : X.N[i]? = some y) (hyl : X.env.scope.names.lookup y = some .local)
    (hsw : swapsWith (.ListComp elt [⟨tg, iter, ifs, 0⟩] scope pos) (some (.Name y py)) spos.line X.env = pure true) (hi : MI X kd false rr tg iter wi fi) (ok : BlkOk X.N X.env.scope scope own)
    (hg : ∀ (s : Shared) (H : Hp) (C : Addr) (cl : List (Str × Addr)) (fp : List Addr), MG (X.blk s H scope (compEnvC scope cl C X.env) fp) kd rr tg g ws st)
    (ht : ∀ (s : Shared) (H : Hp) (C : Addr) (cl : List (Str × Addr)) (fp : List Addr), MTs (X.blk s H scope (compEnvC scope cl C X.env) fp) kd ifs tt c)
    (he : ∀ (s : Shared) (H : Hp) (C : Addr) (cl : List (Str × Addr)) (fp : List Addr), ME (X.blk s H scope (compEnvC scope cl C X.env) fp) kd elt te fe)
    (hw : ∀ w ∈ ws, w ∈ own.map (·.2)) (hs : ∀ x, foldedSetIterable iter X.env x = pure x := by intro _; rfl) :
    MX X kd rk (.Assign [.Name y py] (.ListComp elt [⟨tg, iter, ifs, 0⟩] scope pos) spos) (tAsg (tLc wi g tt te (own.map (·.2))) (gName i)) (fSet i (f1 isL (fLc fi st c fe (own.map (·.2))))) :=
  mx_set (ps_setLc hc hN hy hyl hsw hi.pe ok (fun s H C cl fp => (hg s H C cl fp).pe) (fun s H C cl fp => (ht s H C cl fp).pe) (fun s H C cl fp => (he s H C cl fp).pe) hs) (MN.me (mn_lc (pos := pos) hc hN hi ok hg ht he hw hs)).ev hk
/-- x = e, with the name's own premises -/
theorem mx_setE {i : Nat} {x : Str} {e : Expr} {te : TE} {f : Fx} {pos' : Pos} (hN : X.N.Nodup) (hi : X.N[i]? = some x) (hx : Loc X.env.scope x) (he : ME X kd e te f) (hk : kd i = .st) (hs : swapsWith e (some (.Name x pos')) pos.line X.env = pure false := by rfl) (hf : X.fn x = true ∨ X.env.scope.names.lookup x = some .local := by first | exact .inl rfl | exact .inr rfl) :
    MX X kd rk (.Assign [.Name x pos'] e pos) (tAsg te (gName i)) (fSet i f) := mx_set (ps_set hN hi hx he.pe hs hf) he.ev hk
theorem mx_setNE {i : Nat} {x : Str} {e : Expr} {te : TE} {f : Fx} {pos' : Pos} (hN : X.N.Nodup) (hi : X.N[i]? = some x) (hx : Loc X.env.scope x) (he : MN X kd e te f) (hk : kd i = .mu) (hs : swapsWith e (some (.Name x pos')) pos.line X.env = pure false := by rfl) (hf : X.fn x = true ∨ X.env.scope.names.lookup x = some .local := by first | exact .inl rfl | exact .inr rfl) :
    MX X kd rk (.Assign [.Name x pos'] e pos) (tAsg te (gName i)) (fSet i f) := mx_setN (ps_set hN hi hx he.pe hs hf) he.ev hk
end
end Mx

/-! THE MIRROR LAYER, part 5: operations by values. -/
namespace Mx
open PySem PySem.Spec L2 PyProof.Rows

/-! ### small facts -/
section
variable {K : PySem.W.Frag} {B : List Addr} {H : Hp} {v : V}
theorem v_bool {b : Bool} (h : RpV K B H (.bool b) v) : v = .bl b := by
  rcases h with h1 | ⟨a, rfl, h1⟩
  · unfold Rp at h1; exact h1
  · exact h1.elim
theorem v_str {b : Str} (h : RpV K B H (.str b) v) : v = .str b := by
  rcases h with h1 | ⟨a, rfl, h1⟩
  · unfold Rp at h1; exact h1
  · exact h1.elim
theorem v_none (h : RpV K B H .none v) : v = .non := by
  rcases h with h1 | ⟨a, rfl, h1⟩
  · unfold Rp at h1; exact h1
  · exact h1.elim
theorem v_tup {ds : List D} (h : RpV K B H (.tuple ds) v) : ∃ a xs, v = .ref a ∧ SqT K H a xs ∧ RpA K B H ds xs := by
  rcases h with h1 | ⟨a, rfl, h1⟩
  · unfold Rp at h1
    obtain ⟨a, xs, e, q, r⟩ := h1
    exact ⟨a, xs, e, q.sq, r⟩
  · exact h1.elim
theorem v_tupH {ds : List D} (h : RpV K B H (.tuple ds) v) : ∃ a xs, v = .ref a ∧ Tp H a xs ∧ RpA K B H ds xs := by
  rcases h with h1 | ⟨a, rfl, h1⟩
  · unfold Rp at h1; exact h1
  · exact h1.elim
theorem v_lst {ds : List D} (h : RpV K B H (.list ds) v) : ∃ a xs, v = .ref a ∧ H a = some (.lst xs) ∧ RpA K B H ds xs := by
  rcases h with h1 | ⟨a, rfl, xs, h1, h2⟩
  · unfold Rp at h1
    obtain ⟨a, xs, e, _, h1, h2⟩ := h1
    exact ⟨a, xs, e, h1, h2⟩
  · exact ⟨a, xs, rfl, h1, h2⟩
theorem v_dict {kvs : List (D × D)} (h : RpV K B H (.dict kvs) v) : ∃ a, v = .ref a ∧ RpM K B H (.dict kvs) a := by
  rcases h with h1 | h1
  · unfold Rp at h1; exact h1.elim
  · exact h1
theorem rp_int {n : Int} : Rp K B H (.int n) (.int n) := by unfold Rp; rfl
theorem rp_bool {b : Bool} : Rp K B H (.bool b) (.bl b) := by unfold Rp; rfl
theorem rp_none : Rp K B H .none .non := by unfold Rp; rfl
mutual
theorem Rp.dp : ∀ (d : D) (v : V), Rp K B H d v → Dp K H v d
  | .none, _, h => by unfold Rp at h; subst h; exact .non
  | .bool b, _, h => by unfold Rp at h; subst h; exact .bl b
  | .int i, _, h => by unfold Rp at h; subst h; exact .int i
  | .str x, _, h => by unfold Rp at h; subst h; exact .str x
  | .list ds, _, h => by
    unfold Rp at h
    obtain ⟨a, xs, rfl, n, q, r⟩ := h
    exact .lst (SqL.of q) (RpA.dp ds xs r)
  | .tuple ds, _, h => by
    unfold Rp at h
    obtain ⟨a, xs, rfl, q, r⟩ := h
    exact .tup q.sq (RpA.dp ds xs r)
  | .dict _, _, h => by unfold Rp at h; exact h.elim
theorem RpA.dp : ∀ (ds : List D) (xs : List V), RpA K B H ds xs → DpAll K H xs ds
  | [], _, h => by unfold RpA at h; subst h; exact .nil
  | d :: ds, _, h => by
    unfold RpA at h
    obtain ⟨x, r, rfl, h1, h2⟩ := h
    exact .cons (Rp.dp d x h1) (RpA.dp ds r h2)
end
mutual
theorem Rp.plain : ∀ (d : D) (v : V), Rp K B H d v → d.plain = true
  | .none, _, _ => rfl
  | .bool b, _, _ => rfl
  | .int i, _, _ => rfl
  | .str x, _, _ => rfl
  | .list ds, _, h => by
    unfold Rp at h
    obtain ⟨a, xs, rfl, n, q, r⟩ := h
    rw [PyData.plain]
    exact RpA.plain ds xs r
  | .tuple ds, _, h => by
    unfold Rp at h
    obtain ⟨a, xs, rfl, q, r⟩ := h
    rw [PyData.plain]
    exact RpA.plain ds xs r
  | .dict _, _, h => by unfold Rp at h; exact h.elim
theorem RpA.plain : ∀ (ds : List D) (xs : List V), RpA K B H ds xs → PyData.plainAll ds = true
  | [], _, _ => rfl
  | d :: ds, _, h => by
    unfold RpA at h
    obtain ⟨x, r, rfl, h1, h2⟩ := h
    rw [PyData.plainAll, Rp.plain d x h1, RpA.plain ds r h2]; rfl
end
def nd : D → Bool
  | .dict _ => false
  | _ => true
theorem RpV.dp {d : D} (h : RpV K B H d v) (n : nd d = true) : Dp K H v d ∧ d.plain = true := by
  cases d with
  | dict _ => cases n
  | list ds =>
    obtain ⟨a, xs, rfl, h1, h2⟩ := v_lst h
    exact ⟨.lst (SqL.of h1) (RpA.dp _ _ h2), by rw [PyData.plain]; exact RpA.plain _ _ h2⟩
  | tuple ds =>
    obtain ⟨a, xs, rfl, h1, h2⟩ := v_tup h
    exact ⟨.tup h1 (RpA.dp _ _ h2), by rw [PyData.plain]; exact RpA.plain _ _ h2⟩
  | none => rw [v_none h]; exact ⟨.non, rfl⟩
  | bool b => rw [v_bool h]; exact ⟨.bl b, rfl⟩
  | int b => rw [v_int h]; exact ⟨.int b, rfl⟩
  | str b => rw [v_str h]; exact ⟨.str b, rfl⟩
end
def shal (d : D) : Bool := decide (d.depth ≤ 60)

/-! ### arithmetic -/
def dAdd : D → D → Option D
  | .int i, .int j => some (.int (i + j))
  | .tuple xs, .tuple ys => if xs.length + ys.length ≤ 100000 then some (.tuple (xs ++ ys)) else none
  | _, _ => none
def dSub : D → D → Option D
  | .int i, .int j => some (.int (i - j))
  | _, _ => none
def dMul : D → D → Option D
  | .int i, .int j => if CMul' i j then some (.int (i * j)) else none
  | _, _ => none
where CMul' (i j : Int) : Bool := decide ((-(2 ^ 64) < i ∧ i < 2 ^ 64) ∨ (-(2 ^ 64) < j ∧ j < 2 ^ 64))
def dMod : D → D → Option D
  | .int i, .int j => if 0 < j then some (.int (i % j)) else none
  | _, _ => none
def dDiv : D → D → Option D
  | .int i, .int j => if 0 < j ∧ j < 1073741824 then some (.int (i / j)) else none
  | _, _ => none
def dCat : D → D → Option D
  | .list xs, .list ys => if xs.length + ys.length ≤ 100000 then some (.list (xs ++ ys)) else none
  | _, _ => none
def rCatF (K : PySem.W.Frag) : R2 := fun x y H Q => ∃ a b xs ys, x = .ref a ∧ y = .ref b ∧ SqT K H a xs ∧ SqT K H b ys ∧ xs.length + ys.length ≤ sizeLine ∧
  (xs = [] → Q (.ref b) H) ∧ (xs ≠ [] → ys = [] → Q (.ref a) H) ∧ (xs ≠ [] → ys ≠ [] → ∀ p ob, H p = none → ob.dict = none → Q (.ref p) (upd H p (.frz ob (.tup (xs ++ ys)))))
theorem op_catF {X : Cx} : OpR X (binaryOp .Add) (rCatF X.K) := by
  intro pn s0 sg G x y v u Q J rx ry ⟨a, b, xs, ys, e1, e2, ha, hb, hz, q0, q1, q2⟩
  subst e1 e2
  by_cases hx : xs = []
  · exact op_catA pn s0 sg G _ _ v u Q J rx ry ⟨a, b, xs, ys, rfl, rfl, ha, hb, hz, q0, q1, fun n => absurd hx n⟩
  · cases rx
    cases ry
    obtain ⟨us, r1, p1, _⟩ := J.tuple ha
    obtain ⟨ws, r2, p2, _⟩ := J.tuple hb
    refine HT.cat_tup p1 p2 (fun z => hx (r1.nil_iff.mp z)) (fun z => ⟨.ref a, G, J, rfl, q1 hx (r2.nil_iff.mp z)⟩) (fun z => ?_) (by rw [← r1.length, ← r2.length]; exact hz)
    have e0 := Heap.get?_push_size s0.heap (o := { cls := .type "tuple", data := .seq (us ++ ws).toArray }) rfl
    have n0 : ObjOk X.prog X.w (upd G s0.heap.objs.size (.frz { cls := .type "tuple", data := .seq (us ++ ws).toArray } (.tup (xs ++ ys)))) (s0.heap.push { cls := .type "tuple", data := .seq (us ++ ws).toArray }) s0.heap.objs.size (.frz { cls := .type "tuple", data := .seq (us ++ ws).toArray } (.tup (xs ++ ys))) :=
      ⟨e0, by rw [List.length_append]; exact hz, _, r1.append r2, IsTup.new _ _⟩
    exact ⟨.ref s0.heap.objs.size, _, J.laid (t' := s0.toks) (fun b ob q => Heap.get?_push_of_some _ q) (Nat.le_refl _) n0, rfl, q2 hx (fun w => z (r2.nil_iff.mpr w)) _ _ (J.hok.fresh (Nat.le_refl _)) rfl⟩
def rAddD (K : PySem.W.Frag) : R2 := fun x y H Q => (rI0 fun i j => .int (i + j)) x y H Q ∨ rCatF K x y H Q
section
variable {X : Cx} {K : PySem.W.Frag}
theorem op_addD : OpR X (binaryOp .Add) (rAddD X.K) := OpR.or op_add op_catF
theorem v2_add : V2 K (rAddD K) dAdd := by
  intro B H x y dx dy d Q al hx hy e k
  unfold dAdd at e
  split at e
  · cases e
    exact .inl ⟨_, _, v_int hx, v_int hy, k _ H (Same.refl H) rp_int⟩
  · split at e
    · rename_i hz
      cases e
      obtain ⟨a, xs, rfl, h1, h2⟩ := v_tupH hx
      obtain ⟨b, ys, rfl, h3, h4⟩ := v_tupH hy
      refine .inr ⟨a, b, xs, ys, rfl, rfl, h1.sq, h3.sq, by rw [h2.length, h4.length]; exact big_ok hz, fun ex => ?_, fun _ ey => ?_, fun _ _ p ob hp hd => ?_⟩
      · subst ex
        refine k _ H (Same.refl H) ?_
        have e0 := h2.length
        rw [List.length_nil] at e0
        rw [List.eq_nil_of_length_eq_zero e0.symm, List.nil_append]
        unfold Rp; exact ⟨b, ys, rfl, h3, h4⟩
      · subst ey
        refine k _ H (Same.refl H) ?_
        have e0 := h4.length
        rw [List.length_nil] at e0
        rw [List.eq_nil_of_length_eq_zero e0.symm, List.append_nil]
        unfold Rp; exact ⟨a, xs, rfl, h1, h2⟩
      · exact k _ _ (same_new hp _) (rp_tup ⟨ob, hd, upd_same⟩ ((h2.append h4).same (same_new hp _)))
    · cases e
  · cases e
theorem v2_sub : V2 K (rI0 fun i j => .int (i - j)) dSub := by
  intro B H x y dx dy d Q al hx hy e k
  unfold dSub at e
  split at e
  · cases e; exact ⟨_, _, v_int hx, v_int hy, k _ H (Same.refl H) rp_int⟩
  · cases e
theorem v2_mul : V2 K (rI CMul fun i j => .int (i * j)) dMul := by
  intro B H x y dx dy d Q al hx hy e k
  unfold dMul at e
  split at e
  · split at e
    · rename_i hc
      cases e
      have hc' := of_decide_eq_true hc
      exact ⟨_, _, v_int hx, v_int hy, hc', k _ H (Same.refl H) rp_int⟩
    · cases e
  · cases e
theorem v2_mod : V2 K (rI (fun _ j => 0 < j) fun i j => .int (i % j)) dMod := by
  intro B H x y dx dy d Q al hx hy e k
  unfold dMod at e
  split at e
  · split at e
    · rename_i hc
      cases e
      exact ⟨_, _, v_int hx, v_int hy, hc, k _ H (Same.refl H) rp_int⟩
    · cases e
  · cases e
theorem v2_div : V2 K (rI CDiv fun i j => .int (i / j)) dDiv := by
  intro B H x y dx dy d Q al hx hy e k
  unfold dDiv at e
  split at e
  · split at e
    · rename_i hc
      cases e
      exact ⟨_, _, v_int hx, v_int hy, hc, k _ H (Same.refl H) rp_int⟩
    · cases e
  · cases e
theorem n2_cat : N2 K rCat dCat := by
  intro B H x y dx dy d Q al hx hy e k
  unfold dCat at e
  split at e
  · split at e
    · rename_i hz
      cases e
      obtain ⟨a, xs, rfl, h1, h2⟩ := v_lst hx
      obtain ⟨b, ys, rfl, h3, h4⟩ := v_lst hy
      refine ⟨a, b, xs, ys, rfl, rfl, h1, h3, by rw [h2.length, h4.length]; exact big_ok hz, fun p hp => ?_⟩
      refine k p _ hp (same_new hp _) ⟨_, upd_same, ?_⟩
      refine (RpA.grow (fun z hz => ?_) _ _ (h2.append h4)).same (same_new hp _)
      exact (List.mem_append.mp hz).imp (fun w => w) fun w => by rw [List.mem_singleton.mp w]; exact hp
    · cases e
  · cases e

/-! ### comparisons -/
def dEq : D → D → Option D := fun a b => if (nd a && nd b && (shal a || shal b)) = true then some (.bool (PyData.eqv a b)) else none
def dNe : D → D → Option D := fun a b => if (nd a && nd b && (shal a || shal b)) = true then some (.bool (!PyData.eqv a b)) else none
def rEqX (K : PySem.W.Frag) : R2 := fun x y H Q => ∃ B d e, RpV K B H d x ∧ RpV K B H e y ∧ (nd d && nd e && (shal d || shal e)) = true ∧ Q (.bl (PyData.eqv d e)) H
def rNeX (K : PySem.W.Frag) : R2 := fun x y H Q => ∃ B d e, RpV K B H d x ∧ RpV K B H e y ∧ (nd d && nd e && (shal d || shal e)) = true ∧ Q (.bl (!PyData.eqv d e)) H
theorem shal_min {a b : D} (h : (shal a || shal b) = true) : min a.depth b.depth ≤ 60 := by
  unfold shal at h
  simp only [Bool.or_eq_true, decide_eq_true_eq] at h
  omega
theorem op_eqX (hu : X.A.units + 64 < cLine) : OpR X (compareOp .Eq) (rEqX X.K) := by
  intro pn s0 sg G x y v u Q J rx ry ⟨B, d, e, hd, he, hn, q⟩
  simp only [Bool.and_eq_true] at hn
  obtain ⟨⟨n1, n2⟩, n3⟩ := hn
  obtain ⟨p1, q1⟩ := hd.dp n1
  obtain ⟨p2, q2⟩ := he.dp n2
  obtain ⟨as, r1⟩ := Dp.reads J d x v p1 rx
  obtain ⟨bs, r2⟩ := Dp.reads J e y u p2 ry
  exact SeqAt.eq_plain r1 r2 q1 q2 (by have := shal_min n3; omega) ⟨.bl _, G, J, rfl, q⟩
theorem op_neX (hu : X.A.units + 64 < cLine) : OpR X (compareOp .NotEq) (rNeX X.K) := by
  intro pn s0 sg G x y v u Q J rx ry ⟨B, d, e, hd, he, hn, q⟩
  simp only [Bool.and_eq_true] at hn
  obtain ⟨⟨n1, n2⟩, n3⟩ := hn
  obtain ⟨p1, q1⟩ := hd.dp n1
  obtain ⟨p2, q2⟩ := he.dp n2
  obtain ⟨as, r1⟩ := Dp.reads J d x v p1 rx
  obtain ⟨bs, r2⟩ := Dp.reads J e y u p2 ry
  exact SeqAt.ne_plain r1 r2 q1 q2 (by have := shal_min n3; omega) ⟨.bl _, G, J, rfl, q⟩
theorem v2_eq : V2 K (rEqX K) dEq := by
  intro B H x y dx dy d Q al hx hy e k
  unfold dEq at e
  split at e
  · rename_i hn
    cases e
    exact ⟨B, dx, dy, hx, hy, hn, k _ H (Same.refl H) rp_bool⟩
  · cases e
theorem v2_ne : V2 K (rNeX K) dNe := by
  intro B H x y dx dy d Q al hx hy e k
  unfold dNe at e
  split at e
  · rename_i hn
    cases e
    exact ⟨B, dx, dy, hx, hy, hn, k _ H (Same.refl H) rp_bool⟩
  · cases e
def dIn : D → D → Option D := fun a c => (items c).bind fun ds => if (nd a && shal a) = true then some (.bool (ds.any fun z => PyData.eqv z a)) else none
def dNotIn : D → D → Option D := fun a c => (items c).bind fun ds => if (nd a && shal a) = true then some (.bool (!ds.any fun z => PyData.eqv z a)) else none
def rInX (K : PySem.W.Frag) (neg : Bool) : R2 := fun x y H Q => ∃ B d c ds, RpV K B H d x ∧ RpV K B H c y ∧ items c = some ds ∧ (nd d && shal d) = true ∧ Q (.bl (if neg then !ds.any fun z => PyData.eqv z d else ds.any fun z => PyData.eqv z d)) H
theorem op_inX (hu : X.A.units + 64 < cLine) : OpR X (compareOp .In) (rInX X.K false) := by
  intro pn s0 sg G x y v u Q J rx ry ⟨B, d, c, ds, hd, he, hi, hn, q⟩
  simp only [Bool.and_eq_true] at hn
  obtain ⟨n1, n3⟩ := hn
  have n3 : d.depth ≤ 60 := of_decide_eq_true n3
  obtain ⟨p1, q1⟩ := hd.dp n1
  obtain ⟨as, r1⟩ := Dp.reads J d x v p1 rx
  cases c with
  | list es =>
    cases hi
    obtain ⟨p2, q2⟩ := he.dp rfl
    obtain ⟨bs, r2⟩ := Dp.reads J _ y u p2 ry
    rw [PyData.plain] at q2
    exact SeqAt.in_list_data r2 r1 q2 q1 (by omega) ⟨.bl _, G, J, rfl, q⟩
  | tuple es =>
    cases hi
    obtain ⟨p2, q2⟩ := he.dp rfl
    obtain ⟨bs, r2⟩ := Dp.reads J _ y u p2 ry
    rw [PyData.plain] at q2
    exact SeqAt.in_tuple_data r2 r1 q2 q1 (by omega) ⟨.bl _, G, J, rfl, q⟩
  | _ => cases hi
theorem op_notInX (hu : X.A.units + 64 < cLine) : OpR X (compareOp .NotIn) (rInX X.K true) := by
  intro pn s0 sg G x y v u Q J rx ry ⟨B, d, c, ds, hd, he, hi, hn, q⟩
  simp only [Bool.and_eq_true] at hn
  obtain ⟨n1, n3⟩ := hn
  have n3 : d.depth ≤ 60 := of_decide_eq_true n3
  obtain ⟨p1, q1⟩ := hd.dp n1
  obtain ⟨as, r1⟩ := Dp.reads J d x v p1 rx
  cases c with
  | list es =>
    cases hi
    obtain ⟨p2, q2⟩ := he.dp rfl
    obtain ⟨bs, r2⟩ := Dp.reads J _ y u p2 ry
    rw [PyData.plain] at q2
    exact SeqAt.notIn_list_data r2 r1 q2 q1 (by omega) ⟨.bl _, G, J, rfl, q⟩
  | tuple es =>
    cases hi
    obtain ⟨p2, q2⟩ := he.dp rfl
    obtain ⟨bs, r2⟩ := Dp.reads J _ y u p2 ry
    rw [PyData.plain] at q2
    exact SeqAt.notIn_tuple_data r2 r1 q2 q1 (by omega) ⟨.bl _, G, J, rfl, q⟩
  | _ => cases hi
theorem v2_in : V2 K (rInX K false) dIn := by
  intro B H x y dx dy d Q al hx hy e k
  obtain ⟨ds, h1, h2⟩ := bind_some e
  split at h2
  · rename_i hn
    cases h2
    exact ⟨B, dx, dy, ds, hx, hy, h1, hn, k _ H (Same.refl H) rp_bool⟩
  · cases h2
theorem v2_notIn : V2 K (rInX K true) dNotIn := by
  intro B H x y dx dy d Q al hx hy e k
  obtain ⟨ds, h1, h2⟩ := bind_some e
  split at h2
  · rename_i hn
    cases h2
    exact ⟨B, dx, dy, ds, hx, hy, h1, hn, k _ H (Same.refl H) rp_bool⟩
  · cases h2
def dLt : D → D → Option D
  | .int i, .int j => some (.bool (decide (i < j)))
  | _, _ => none
def dLe : D → D → Option D
  | .int i, .int j => some (.bool (decide (i ≤ j)))
  | _, _ => none
def dGt : D → D → Option D
  | .int i, .int j => some (.bool (decide (j < i)))
  | _, _ => none
def dGe : D → D → Option D
  | .int i, .int j => some (.bool (decide (j ≤ i)))
  | _, _ => none
theorem v2_lt : V2 K (rI0 fun i j => .bl (decide (i < j))) dLt := by
  intro B H x y dx dy d Q al hx hy e k
  unfold dLt at e
  split at e
  · cases e; exact ⟨_, _, v_int hx, v_int hy, k _ H (Same.refl H) rp_bool⟩
  · cases e
theorem v2_le : V2 K (rI0 fun i j => .bl (decide (i ≤ j))) dLe := by
  intro B H x y dx dy d Q al hx hy e k
  unfold dLe at e
  split at e
  · cases e; exact ⟨_, _, v_int hx, v_int hy, k _ H (Same.refl H) rp_bool⟩
  · cases e
theorem v2_gt : V2 K (rI0 fun i j => .bl (decide (j < i))) dGt := by
  intro B H x y dx dy d Q al hx hy e k
  unfold dGt at e
  split at e
  · cases e; exact ⟨_, _, v_int hx, v_int hy, k _ H (Same.refl H) rp_bool⟩
  · cases e
theorem v2_ge : V2 K (rI0 fun i j => .bl (decide (j ≤ i))) dGe := by
  intro B H x y dx dy d Q al hx hy e k
  unfold dGe at e
  split at e
  · cases e; exact ⟨_, _, v_int hx, v_int hy, k _ H (Same.refl H) rp_bool⟩
  · cases e
def isNo : D → Bool
  | .none => true
  | _ => false
def dIsN : D → D → Option D
  | a, .none => some (.bool (isNo a))
  | _, _ => none
def dNotN : D → D → Option D
  | a, .none => some (.bool (!isNo a))
  | _, _ => none
theorem isNo_iff {B : List Addr} {H : Hp} {d : D} {x : V} (h : RpV K B H d x) : decide (x = .non) = isNo d := by
  cases d with
  | none => rw [v_none h]; rfl
  | bool b => rw [v_bool h]; rfl
  | int b => rw [v_int h]; rfl
  | str b => rw [v_str h]; rfl
  | list ds => obtain ⟨a, xs, rfl, _⟩ := v_lst h; rfl
  | tuple ds => obtain ⟨a, xs, rfl, _⟩ := v_tup h; rfl
  | dict ds => obtain ⟨a, rfl, _⟩ := v_dict h; rfl
theorem v2_isN : V2 K (fun x y H Q => y = .non ∧ Q (.bl (decide (x = .non))) H) dIsN := by
  intro B H x y dx dy d Q al hx hy e k
  unfold dIsN at e
  split at e
  · cases e
    refine ⟨v_none hy, ?_⟩
    rw [isNo_iff hx]
    exact k _ H (Same.refl H) rp_bool
  · cases e
theorem v2_notN : V2 K (fun x y H Q => y = .non ∧ Q (.bl (!decide (x = .non))) H) dNotN := by
  intro B H x y dx dy d Q al hx hy e k
  unfold dNotN at e
  split at e
  · cases e
    refine ⟨v_none hy, ?_⟩
    rw [isNo_iff hx]
    exact k _ H (Same.refl H) rp_bool
  · cases e

/-! ### items, lengths -/
def dIx : D → D → Option D := fun c i => (items c).bind fun ds => match i with
  | .int n => atI ds n
  | _ => none
theorem atI_rel {B : List Addr} {H : Hp} {ds : List D} {xs : List V} {n : Int} {d : D} (r : RpA K B H ds xs) (h : atI ds n = some d) : ∃ x, atI xs n = some x ∧ Rp K B H d x := by
  unfold atI at h ⊢
  rw [r.length]
  obtain ⟨j, h1, h2⟩ := bind_some h
  obtain ⟨x, q1, q2⟩ := r.get h2
  exact ⟨x, by rw [h1]; exact q1, q2⟩
def rIxD (K : PySem.W.Frag) : R2 := fun x y H Q => rIxL K x y H Q ∨ rIxT K x y H Q
theorem ix_D : IxR X (rIxD X.K) := IxR.or ix_list ix_tup
theorem v2_ix : V2 K (rIxD K) dIx := by
  intro B H x y dx dy d Q al hx hy e k
  obtain ⟨ds, h1, h2⟩ := bind_some e
  cases dy with
  | int n =>
    cases dx with
    | list es =>
      cases h1
      obtain ⟨a, xs, rfl, q1, q2⟩ := v_lst hx
      obtain ⟨v, q3, q4⟩ := atI_rel q2 h2
      exact .inl ⟨a, xs, n, v, rfl, v_int hy, SqL.of q1, q3, k v H (Same.refl H) q4⟩
    | tuple es =>
      cases h1
      obtain ⟨a, xs, rfl, q1, q2⟩ := v_tup hx
      obtain ⟨v, q3, q4⟩ := atI_rel q2 h2
      exact .inr ⟨a, xs, n, v, rfl, v_int hy, q1, q3, k v H (Same.refl H) q4⟩
    | _ => cases h1
  | _ => cases h2
def dLen : List D → Option D
  | [.list ds] => some (.int ds.length)
  | [.tuple ds] => some (.int ds.length)
  | [.dict ds] => some (.int ds.length)
  | _ => none
theorem vs_one {B : List Addr} {H : Hp} {d : D} {vs : List V} (h : RpVs K B H [d] vs) : ∃ x, vs = [x] ∧ RpV K B H d x := by
  obtain ⟨x, r, rfl, h1, h2⟩ := h
  exact ⟨x, by rw [show r = [] from h2], h1⟩
theorem vs_two {B : List Addr} {H : Hp} {d e : D} {vs : List V} (h : RpVs K B H [d, e] vs) : ∃ x y, vs = [x, y] ∧ RpV K B H d x ∧ RpV K B H e y := by
  obtain ⟨x, r, rfl, h1, y, r2, rfl, h3, h4⟩ := h
  exact ⟨x, y, by rw [show r2 = [] from h4], h1, h3⟩
def rLenQ (K : PySem.W.Frag) : List V → Hp → VK → Prop := fun xs H Q => ∃ p ys, xs = [.ref p] ∧ (SqL K H p ys ∨ SqT K H p ys) ∧ Q (.int ys.length) H
def dLenS : List D → Option D
  | [.list ds] => some (.int ds.length)
  | [.tuple ds] => some (.int ds.length)
  | _ => none
theorem vn_lenS : VN K (rLenQ K) dLenS := by
  intro B H xs ds d Q al hx e k
  unfold dLenS at e
  split at e
  · cases e
    obtain ⟨x, rfl, h1⟩ := vs_one hx
    obtain ⟨a, ys, rfl, q1, q2⟩ := v_lst h1
    refine ⟨a, ys, rfl, .inl (SqL.of q1), ?_⟩
    rw [q2.length]
    exact k _ H (Same.refl H) rp_int
  · cases e
    obtain ⟨x, rfl, h1⟩ := vs_one hx
    obtain ⟨a, ys, rfl, q1, q2⟩ := v_tup h1
    refine ⟨a, ys, rfl, .inr q1, ?_⟩
    rw [q2.length]
    exact k _ H (Same.refl H) rp_int
  · cases e
def dInt : List D → Option D
  | [.int n] => some (.int n)
  | [.bool b] => some (.int (if b then 1 else 0))
  | _ => none
theorem vn_int : VN K (fun xs H Q => (∃ i, xs = [.int i] ∧ Q (.int i) H) ∨ ∃ k, xs = [.bl k] ∧ Q (.int (if k then 1 else 0)) H) dInt := by
  intro B H xs ds d Q al hx e k
  unfold dInt at e
  split at e
  · cases e
    obtain ⟨x, rfl, h1⟩ := vs_one hx
    exact .inl ⟨_, by rw [v_int h1], k _ H (Same.refl H) rp_int⟩
  · cases e
    obtain ⟨x, rfl, h1⟩ := vs_one hx
    exact .inr ⟨_, by rw [v_bool h1], k _ H (Same.refl H) rp_int⟩
  · cases e
def dMin2 : List D → Option D
  | [.int i, .int j] => some (.int (if j < i then j else i))
  | _ => none
def dMax2 : List D → Option D
  | [.int i, .int j] => some (.int (if j > i then j else i))
  | _ => none
theorem vn_min2 : VN K (fun xs H Q => ∃ i j, xs = [.int i, .int j] ∧ Q (.int (if j < i then j else i)) H) dMin2 := by
  intro B H xs ds d Q al hx e k
  unfold dMin2 at e
  split at e
  · cases e
    obtain ⟨x, y, rfl, h1, h2⟩ := vs_two hx
    exact ⟨_, _, by rw [v_int h1, v_int h2], k _ H (Same.refl H) rp_int⟩
  · cases e
theorem vn_max2 : VN K (fun xs H Q => ∃ i j, xs = [.int i, .int j] ∧ Q (.int (if j > i then j else i)) H) dMax2 := by
  intro B H xs ds d Q al hx e k
  unfold dMax2 at e
  split at e
  · cases e
    obtain ⟨x, y, rfl, h1, h2⟩ := vs_two hx
    exact ⟨_, _, by rw [v_int h1, v_int h2], k _ H (Same.refl H) rp_int⟩
  · cases e
/-! tuple(..), list(..) -/
def dTuple : List D → Option D
  | [.list ds] => some (.tuple ds)
  | [.tuple ds] => some (.tuple ds)
  | _ => none
def rTupQ (K : PySem.W.Frag) : List V → Hp → VK → Prop := fun xs H Q => ∃ p ys, xs = [.ref p] ∧ ((SqL K H p ys ∧ ∀ l ob, H l = none → ob.dict = none → Q (.ref l) (upd H l (.frz ob (.tup ys)))) ∨ (SqT K H p ys ∧ Q (.ref p) H))
theorem call_tupF {X : Cx} : CallR X (.type "tuple") (rTupQ X.K) := by
  intro pn s0 sg G xs us Q J r ⟨p, ys, e, h⟩
  subst e
  rcases h with ⟨hq, q⟩ | ⟨hq, q⟩
  · obtain ⟨u, rfl, rx⟩ := vals1 r
    cases rx
    obtain ⟨ws, r1, pl, hz⟩ := J.list hq
    have hlen := r1.length
    refine call_tuple_list pl.isList (fun h' kp => ?_) (by simp only [List.size_toArray] <;> omega)
    have J1 : Inv X pn sg G { s0 with heap := h' } := J.kept (t' := s0.toks) kp
    have e0 := Heap.get?_push_size h' (o := { cls := .type "tuple", data := .seq ws.toArray }) rfl
    have n0 : ObjOk X.prog X.w (upd G h'.objs.size (.frz { cls := .type "tuple", data := .seq ws.toArray } (.tup ys))) (h'.push { cls := .type "tuple", data := .seq ws.toArray }) h'.objs.size (.frz { cls := .type "tuple", data := .seq ws.toArray } (.tup ys)) :=
      ⟨e0, hz, ws, r1, IsTup.new _ _⟩
    exact ⟨.ref h'.objs.size, _, J1.laid (t' := s0.toks) (fun b o e => Heap.get?_push_of_some _ e) (Nat.le_refl _) n0, rfl, q _ _ (J1.hok.fresh (Nat.le_refl _)) rfl⟩
  · exact call_tuple_of pn s0 sg G _ us Q J r ⟨p, ys, rfl, .inr ⟨hq, q⟩⟩
theorem vn_tuple : VN K (rTupQ K) dTuple := by
  intro B H xs ds d Q al hx e k
  unfold dTuple at e
  split at e
  · cases e
    obtain ⟨x, rfl, h1⟩ := vs_one hx
    obtain ⟨a, ys, rfl, q1, q2⟩ := v_lst h1
    exact ⟨a, ys, rfl, .inl ⟨SqL.of q1, fun l ob hl hd => k _ _ (same_new hl _) (rp_tup ⟨ob, hd, upd_same⟩ (q2.same (same_new hl _)))⟩⟩
  · cases e
    obtain ⟨x, rfl, h1⟩ := vs_one hx
    obtain ⟨a, ys, rfl, q1, q2⟩ := v_tupH h1
    exact ⟨a, ys, rfl, .inr ⟨q1.sq, k _ H (Same.refl H) (by unfold Rp; exact ⟨a, ys, rfl, q1, q2⟩)⟩⟩
  · cases e
def dList : List D → Option D
  | [.list ds] => some (.list ds)
  | [.tuple ds] => some (.list ds)
  | _ => none
theorem rpm_new {B : List Addr} {H : Hp} {p : Addr} {ds : List D} {ys : List V} (hp : H p = none) (r : RpA K B H ds ys) : RpM K (B ++ [p]) (upd H p (.lst ys)) (.list ds) p := by
  refine ⟨ys, upd_same, (RpA.grow (fun z hz => ?_) _ _ r).same (same_new hp _)⟩
  exact (List.mem_append.mp hz).imp (fun w => w) fun w => by rw [List.mem_singleton.mp w]; exact hp
theorem nn_list : NN K (fun xs H Q => ∃ p ys, xs = [.ref p] ∧ (SqL K H p ys ∨ SqT K H p ys) ∧ ∀ l, H l = none → Q (.ref l) (upd H l (.lst ys))) dList := by
  intro B H xs ds d Q al hx e k
  unfold dList at e
  split at e
  · cases e
    obtain ⟨x, rfl, h1⟩ := vs_one hx
    obtain ⟨a, ys, rfl, q1, q2⟩ := v_lst h1
    exact ⟨a, ys, rfl, .inl (SqL.of q1), fun l hl => k _ _ hl (same_new hl _) (rpm_new hl q2)⟩
  · cases e
    obtain ⟨x, rfl, h1⟩ := vs_one hx
    obtain ⟨a, ys, rfl, q1, q2⟩ := v_tup h1
    exact ⟨a, ys, rfl, .inr q1, fun l hl => k _ _ hl (same_new hl _) (rpm_new hl q2)⟩
  · cases e
/-! all, any, sum -/
def boolsOf : List D → Option (List Bool)
  | [] => some []
  | .bool b :: r => (boolsOf r).map fun bs => b :: bs
  | _ => none
def intsOf : List D → Option (List Int)
  | [] => some []
  | .int b :: r => (intsOf r).map fun bs => b :: bs
  | _ => none
theorem bools_rel {B : List Addr} {H : Hp} : ∀ {ds : List D} {xs : List V} {bs : List Bool}, RpA K B H ds xs → boolsOf ds = some bs → xs = bs.map V.bl
  | [], _, _, h, e => by unfold RpA at h; cases e; rw [h]; rfl
  | .bool b :: ds, _, _, h, e => by
    unfold RpA at h
    obtain ⟨x, r, rfl, h1, h2⟩ := h
    obtain ⟨bs, e1, e2⟩ := map_some e
    subst e2
    unfold Rp at h1
    rw [h1, bools_rel h2 e1]; rfl
  | .none :: _, _, _, _, e => by cases e
  | .int _ :: _, _, _, _, e => by cases e
  | .str _ :: _, _, _, _, e => by cases e
  | .list _ :: _, _, _, _, e => by cases e
  | .tuple _ :: _, _, _, _, e => by cases e
  | .dict _ :: _, _, _, _, e => by cases e
theorem ints_rel {B : List Addr} {H : Hp} : ∀ {ds : List D} {xs : List V} {bs : List Int}, RpA K B H ds xs → intsOf ds = some bs → xs = bs.map V.int
  | [], _, _, h, e => by unfold RpA at h; cases e; rw [h]; rfl
  | .int b :: ds, _, _, h, e => by
    unfold RpA at h
    obtain ⟨x, r, rfl, h1, h2⟩ := h
    obtain ⟨bs, e1, e2⟩ := map_some e
    subst e2
    unfold Rp at h1
    rw [h1, ints_rel h2 e1]; rfl
  | .none :: _, _, _, _, e => by cases e
  | .bool _ :: _, _, _, _, e => by cases e
  | .str _ :: _, _, _, _, e => by cases e
  | .list _ :: _, _, _, _, e => by cases e
  | .tuple _ :: _, _, _, _, e => by cases e
  | .dict _ :: _, _, _, _, e => by cases e
def dAll : List D → Option D
  | [.list ds] => (boolsOf ds).map fun bs => .bool (bs.all id)
  | _ => none
def dAny : List D → Option D
  | [.list ds] => (boolsOf ds).map fun bs => .bool (bs.any id)
  | _ => none
def dSum : List D → Option D
  | [.list ds] => (intsOf ds).map fun bs => .int bs.sum
  | _ => none
theorem vn_all : VN K (rAll K) dAll := by
  intro B H xs ds d Q al hx e k
  unfold dAll at e
  split at e
  · obtain ⟨bs, e1, e2⟩ := map_some e
    subst e2
    obtain ⟨x, rfl, h1⟩ := vs_one hx
    obtain ⟨a, ys, rfl, q1, q2⟩ := v_lst h1
    rw [bools_rel q2 e1] at q1
    exact ⟨a, bs, rfl, SqL.of q1, k _ H (Same.refl H) rp_bool⟩
  · cases e
theorem vn_any : VN K (rAny K) dAny := by
  intro B H xs ds d Q al hx e k
  unfold dAny at e
  split at e
  · obtain ⟨bs, e1, e2⟩ := map_some e
    subst e2
    obtain ⟨x, rfl, h1⟩ := vs_one hx
    obtain ⟨a, ys, rfl, q1, q2⟩ := v_lst h1
    rw [bools_rel q2 e1] at q1
    exact ⟨a, bs, rfl, SqL.of q1, k _ H (Same.refl H) rp_bool⟩
  · cases e
theorem vn_sum : VN K (rSum K) dSum := by
  intro B H xs ds d Q al hx e k
  unfold dSum at e
  split at e
  · obtain ⟨bs, e1, e2⟩ := map_some e
    subst e2
    obtain ⟨x, rfl, h1⟩ := vs_one hx
    obtain ⟨a, ys, rfl, q1, q2⟩ := v_lst h1
    rw [ints_rel q2 e1] at q1
    exact ⟨a, bs, rfl, SqL.of q1, k _ H (Same.refl H) rp_int⟩
  · cases e
end

/-! ### slices -/
def EvO (K : PySem.W.Frag) (kd : Nat → SK) (t : TO) (f : En → Option (Option Int)) : Prop := ∀ B O P ρ σ H d (Q : Option Int → Hp → Prop), Rho K B O P kd ρ σ H → f ρ = some d → (∀ H', Same H H' → Q d H') → t σ H Q
structure MO (X : Cx) (kd : Nat → SK) (e : Option Expr) (t : TO) (f : En → Option (Option Int)) : Prop where
  pe : PO X e t
  ev : EvO X.K kd t f
def fPart (f : Fx) : En → Option (Option Int) := fun ρ => (f ρ).bind fun d => match d with
  | .int n => some (some n)
  | _ => none
def cutD (xs : List D) (lo hi : Option Int) : List D := (xs.drop (HT.sIx xs.length 0 lo)).take (HT.sIx xs.length xs.length hi - HT.sIx xs.length 0 lo)
def fCut (f : Fx) (lo hi : En → Option (Option Int)) : Fx := fun ρ => (f ρ).bind fun d => (lo ρ).bind fun l => (hi ρ).bind fun h => match d with
  | .list ds => some (.list (cutD ds l h))
  | _ => none
def fCutT (f : Fx) (lo hi : En → Option (Option Int)) : Fx := fun ρ => (f ρ).bind fun d => (lo ρ).bind fun l => (hi ρ).bind fun h => match d with
  | .tuple ds => some (.tuple (cutD ds l h))
  | _ => none
section
variable {X : Cx} {kd : Nat → SK} {e : Expr} {te : TE} {lo hi : Option Expr} {tl th : TO} {f : Fx} {fl fh : En → Option (Option Int)} {pos p2 : Pos}
theorem mo_none : MO X kd none tNoPart (fun _ => some none) := ⟨po_none, fun B O P ρ σ H d Q R hf k => by cases hf; exact k H (Same.refl H)⟩
theorem mo_some (h : MV X kd e te f) : MO X kd (some e) (tPart te) (fPart f) := by
  refine ⟨po_some h.pe, fun B O P ρ σ H d Q R hf k => ?_⟩
  obtain ⟨d', h1, h2⟩ := bind_some hf
  refine h.ev B O P ρ σ H d' _ R h1 fun v H1 s1 r => ?_
  cases d' with
  | int n => cases h2; exact ⟨n, v_int r, k H1 s1⟩
  | _ => cases h2
theorem cut_rel {K : PySem.W.Frag} {B : List Addr} {H : Hp} {ds : List D} {xs : List V} (r : RpA K B H ds xs) (l h : Option Int) : RpA K B H (cutD ds l h) (cutV xs l h) := by
  unfold cutD cutV
  rw [r.length]
  exact (r.drop _).take _
theorem mn_cut (h : MV X kd e te f) (hl : MO X kd lo tl fl) (hh : MO X kd hi th fh) : MN X kd (.Subscript e (.Slice lo hi none p2) pos) (tSl (rSlL X.K) te tl th) (fCut f fl fh) := by
  refine ⟨pe_slice sl_list h.pe hl.pe hh.pe, fun B O P ρ σ H d Q R hf k => ?_⟩
  obtain ⟨d', h1, h2⟩ := bind_some hf
  obtain ⟨l, h3, h4⟩ := bind_some h2
  obtain ⟨u, h5, h6⟩ := bind_some h4
  refine h.ev B O P ρ σ H d' _ R h1 fun v H1 s1 r => ?_
  refine hl.ev B O P ρ σ H1 l _ (R.same s1) h3 fun H2 s2 => ?_
  refine hh.ev B O P ρ σ H2 u _ (R.same (s1.trans s2)) h5 fun H3 s3 => ?_
  cases d' with
  | list ds =>
    cases h6
    obtain ⟨a, xs, rfl, q1, q2⟩ := v_lst (r.same (s2.trans s3))
    exact ⟨a, xs, rfl, SqL.of q1, fun p hp => k p _ (fresh_of ((s1.trans s2).trans s3) hp) (((s1.trans s2).trans s3).trans (same_new hp _)) (rpm_new hp (cut_rel q2 l u))⟩
  | _ => cases h6
theorem cut_whole (ds : List D) (l h : Option Int) (c : HT.sIx ds.length 0 l = 0 ∧ HT.sIx ds.length ds.length h = ds.length) : cutD ds l h = ds := by
  unfold cutD
  rw [c.1, c.2, List.drop_zero, Nat.sub_zero, List.take_length]
def rSlF (K : PySem.W.Frag) : V → Option Int → Option Int → Hp → VK → Prop := fun x lo hi H Q => ∃ a xs, x = .ref a ∧ SqT K H a xs ∧
  (HT.sIx xs.length 0 lo = 0 ∧ HT.sIx xs.length xs.length hi = xs.length → Q (.ref a) H) ∧ (¬ (HT.sIx xs.length 0 lo = 0 ∧ HT.sIx xs.length xs.length hi = xs.length) → ∀ p ob, H p = none → ob.dict = none → Q (.ref p) (upd H p (.frz ob (.tup (cutV xs lo hi)))))
theorem sl_tupF {X : Cx} : SlR X (rSlF X.K) := by
  intro pn s0 sg G x v vl vu lo hi sl Q J rx hs pl pu ⟨a, xs, e, hx, q1, q2⟩
  subst e
  by_cases hw : HT.sIx xs.length 0 lo = 0 ∧ HT.sIx xs.length xs.length hi = xs.length
  · exact sl_tupA pn s0 sg G _ v vl vu lo hi sl Q J rx hs pl pu ⟨a, xs, rfl, hx, q1, fun n => absurd hw n⟩
  · cases rx
    obtain ⟨us, r, ht, hz⟩ := J.tuple hx
    have hlen : us.toArray.size = xs.length := by rw [List.size_toArray]; exact r.length.symm
    refine ⟨"tuple", _, PyProof.Rows.slot_tuple_getitem.lookup, ht.typeIs, ?_⟩
    refine HT.getItem_tuple_cut ht hs pl pu (by rw [hlen]; exact hw) ?_ (by rw [hlen]; exact hz)
    rw [hlen]
    have rr := (r.drop (HT.sIx xs.length 0 lo)).take (HT.sIx xs.length xs.length hi - HT.sIx xs.length 0 lo)
    have n0 : ∀ ob : Obj, ob = { cls := .type "tuple", data := .seq (((us.drop (HT.sIx xs.length 0 lo)).take (HT.sIx xs.length xs.length hi - HT.sIx xs.length 0 lo)).toArray) } → ObjOk X.prog X.w (upd G s0.heap.objs.size (.frz ob (.tup (cutV xs lo hi)))) (s0.heap.push ob) s0.heap.objs.size (.frz ob (.tup (cutV xs lo hi))) := fun ob eb => by
      subst eb
      exact ⟨Heap.get?_push_size _ rfl, Nat.le_trans (cutV_length xs lo hi) hz, _, rr, IsTup.new _ _⟩
    exact ⟨.ref s0.heap.objs.size, _, J.laid (t' := s0.toks) (fun b ob q => Heap.get?_push_of_some _ q) (Nat.le_refl _) (n0 _ rfl), rfl, q2 hw _ _ (J.hok.fresh (Nat.le_refl _)) rfl⟩
theorem me_cutT (h : MV X kd e te f) (hl : MO X kd lo tl fl) (hh : MO X kd hi th fh) : ME X kd (.Subscript e (.Slice lo hi none p2) pos) (tSl (rSlF X.K) te tl th) (fCutT f fl fh) := by
  refine ⟨pe_slice sl_tupF h.pe hl.pe hh.pe, fun B O P ρ σ H d Q R hf k => ?_⟩
  obtain ⟨d', h1, h2⟩ := bind_some hf
  obtain ⟨l, h3, h4⟩ := bind_some h2
  obtain ⟨u, h5, h6⟩ := bind_some h4
  refine h.ev B O P ρ σ H d' _ R h1 fun v H1 s1 r => ?_
  refine hl.ev B O P ρ σ H1 l _ (R.same s1) h3 fun H2 s2 => ?_
  refine hh.ev B O P ρ σ H2 u _ (R.same (s1.trans s2)) h5 fun H3 s3 => ?_
  cases d' with
  | tuple ds =>
    cases h6
    obtain ⟨a, xs, rfl, q1, q2⟩ := v_tupH (r.same (s2.trans s3))
    refine ⟨a, xs, rfl, q1.sq, fun c => ?_, fun _ p ob hp hd => ?_⟩
    · rw [q2.length] at c
      refine k _ H3 ((s1.trans s2).trans s3) ?_
      rw [cut_whole ds l u c]
      unfold Rp; exact ⟨a, xs, rfl, q1, q2⟩
    · exact k _ _ (((s1.trans s2).trans s3).trans (same_new hp _)) (rp_tup ⟨ob, hd, upd_same⟩ ((cut_rel q2 l u).same (same_new hp _)))
  | _ => cases h6
end

/-! ### sorted, min of data -/
def dataOk (ds : List D) : Bool := ds.all fun d => ds.all fun e => PySem.W.alike d e
def tupsOrNot (ds : List D) : Bool := (ds.all fun d => match d with
  | .tuple (_ :: _) => true
  | _ => false) || ds.all fun d => match d with
  | .none => false
  | .tuple _ => false
  | _ => true
def sortD (ds : List D) : List D := ds.mergeSort (PySem.W.dataLe false fun d => d)
def dSorted : List D → Option D
  | [.list ds] => if (dataOk ds && tupsOrNot ds && ds.all shal && decide (ds.length ≤ 100000)) = true then some (.list (sortD ds)) else none
  | _ => none
section
variable {X : Cx} {K : PySem.W.Frag}
theorem allAlike_of {ds : List D} (h : dataOk ds = true) : PySem.W.AllAlike ds := by
  intro d hd e he
  exact List.all_eq_true.mp (List.all_eq_true.mp h d hd) e he
theorem sortable_of {ds : List D} (h : tupsOrNot ds = true) : PySem.W.Sortable ds := by
  unfold tupsOrNot at h
  rcases Bool.or_eq_true_iff.mp h with h | h
  · refine .inl fun d hd => ?_
    have q := List.all_eq_true.mp h d hd
    split at q
    · exact ⟨_, _, rfl⟩
    · cases q
  · refine .inr fun d hd => ?_
    have q := List.all_eq_true.mp h d hd
    cases d <;> first | (cases q; done) | exact ⟨fun z => (nomatch z), fun _ z => (nomatch z)⟩
def EachV (K : PySem.W.Frag) (B : List Addr) (H : Hp) (u : Value) (d : D) : Prop := ∃ x, RelV x u ∧ Rp K B H d x
theorem each_of {B : List Addr} {H : Hp} : ∀ {ds : List D} {xs : List V} {us : List Value}, RpA K B H ds xs → Vals xs us → PySem.W.EachIs (EachV K B H) us ds
  | [], _, _, h, r => by
    unfold RpA at h
    subst h
    cases r
    exact .nil
  | d :: ds, _, _, h, r => by
    unfold RpA at h
    obtain ⟨x, t, rfl, h1, h2⟩ := h
    cases r with
    | cons r1 r2 => exact .cons ⟨x, r1, h1⟩ (each_of h2 r2)
theorem of_each {B : List Addr} {H : Hp} : ∀ {ds : List D} {us : List Value}, PySem.W.EachIs (EachV K B H) us ds → ∃ xs, Vals xs us ∧ RpA K B H ds xs
  | _, _, .nil => ⟨[], .nil, RpA.nil⟩
  | _, _, .cons ⟨x, r1, h1⟩ t => by
    obtain ⟨xs, r, h⟩ := of_each t
    exact ⟨x :: xs, .cons r1 r, RpA.cons h1 h⟩
theorem each_reads {pn : List (Addr × Obj)} {sg : L2.St} {G : Hp} {s0 : Shared} {B : List Addr} (J : Inv X pn sg G s0) : ∀ {ds : List D} {us : List Value}, PySem.W.EachIs (EachV X.K B G) us ds → PySem.W.EachIs (fun v b => ∃ as, Reads s0.heap v ((fun d => d) b) as) us ds
  | _, _, .nil => .nil
  | _, _, .cons ⟨x, r1, h1⟩ t => .cons (Dp.reads J _ x _ (Rp.dp _ _ h1) r1) (each_reads J t)
def rSortedX (K : PySem.W.Frag) : List V → Hp → VK → Prop := fun vs H Q => ∃ B a ds, vs = [.ref a] ∧ RpV K B H (.list ds) (.ref a) ∧ (dataOk ds && tupsOrNot ds && ds.all shal && decide (ds.length ≤ 100000)) = true ∧
  ∀ p xs, H p = none → RpA K B H (sortD ds) xs → Q (.ref p) (upd H p (.lst xs))
theorem cr_sortedX (hu : X.A.units + 64 < cLine) : CallR X (.builtin "sorted") (rSortedX X.K) := by
  intro pn s0 sg G vs us Q J r ⟨B, a, ds, e, hr, hn, q⟩
  subst e
  simp only [Bool.and_eq_true, decide_eq_true_eq] at hn
  obtain ⟨⟨⟨n1, n2⟩, n3⟩, n4⟩ := hn
  obtain ⟨b, xs, eb, h1, h2⟩ := v_lst hr
  cases eb
  obtain ⟨its, rv, pl, _⟩ := J.list (SqL.of h1)
  rw [Vals.ref1 r]
  have e := each_of h2 rv
  have m : ds.map (fun d => d) = ds := List.map_id' ds
  refine PySem.W.sorted_data (enc := fun d => d) pl.isList e (each_reads J e) (by rw [m]; exact allAlike_of n1) (by rw [m]; exact sortable_of n2) (big_ok n4) (fun d hd => ?_) fun out ho eo => ?_
  · have := of_decide_eq_true (List.all_eq_true.mp n3 d hd)
    show X.A.units + 2 + d.depth < _
    omega
  · obtain ⟨ys, ry, hy⟩ := of_each eo
    obtain ⟨c, hc⟩ := PyProof.Rows.sortedAll_at s0.heap its out.toArray
    have lz : ys.length ≤ sizeLine := by rw [hy.length, List.length_mergeSort]; exact big_ok n4
    exact ⟨.ref _, upd G (s0.heap.objs.size + 1) (.lst ys), J.laid (t' := s0.toks) (fun _ _ => PyProof.Rows.sortedAll_old) (Nat.le_succ _) ⟨lz, out, c, ry, hc⟩, rfl, q _ _ (J.hok.fresh (Nat.le_succ _)) hy⟩
theorem nn_sorted : NN K (rSortedX K) dSorted := by
  intro B H xs ds d Q al hx e k
  unfold dSorted at e
  split at e
  · split at e
    · rename_i hn
      cases e
      obtain ⟨x, rfl, h1⟩ := vs_one hx
      obtain ⟨a, ys, rfl, q1, q2⟩ := v_lst h1
      exact ⟨B, a, _, rfl, h1, hn, fun p zs hp rz => k p _ hp (same_new hp _) (rpm_new hp rz)⟩
    · cases e
  · cases e
end
end Mx

/-! THE MIRROR LAYER, part 6: the rules with the written part K by name (for blocks within blocks), and some more. -/
namespace Mx
open PySem PySem.Spec L2 PyProof.Rows

section
variable {X : Cx} {kd : Nat → SK} {rk mv : Bool} {e a b c' tg : Expr} {es : List Expr} {t ta tb tc te : TE} {tl : TA} {f fa fb fc : Fx} {g : En → Option (List D)} {pos : Pos}
/-! operators -/
theorem op_addK (K : PySem.W.Frag) (hK : X.K = K := by rfl) : OpR X (binaryOp .Add) (rAddD K) := hK ▸ op_addD
theorem op_eqK (K : PySem.W.Frag) (hu : X.A.units + 64 < cLine) (hK : X.K = K := by rfl) : OpR X (compareOp .Eq) (rEqX K) := hK ▸ op_eqX hu
theorem op_neK (K : PySem.W.Frag) (hu : X.A.units + 64 < cLine) (hK : X.K = K := by rfl) : OpR X (compareOp .NotEq) (rNeX K) := hK ▸ op_neX hu
theorem op_inK (K : PySem.W.Frag) (hu : X.A.units + 64 < cLine) (hK : X.K = K := by rfl) : OpR X (compareOp .In) (rInX K false) := hK ▸ op_inX hu
theorem op_notInK (K : PySem.W.Frag) (hu : X.A.units + 64 < cLine) (hK : X.K = K := by rfl) : OpR X (compareOp .NotIn) (rInX K true) := hK ▸ op_notInX hu
theorem ix_K (K : PySem.W.Frag) (hK : X.K = K := by rfl) : IxR X (rIxD K) := hK ▸ ix_D
theorem call_lenK (K : PySem.W.Frag) (hK : X.K = K := by rfl) : CallR X (.builtin "len") (rLenQ K) := hK ▸ call_len_seq
theorem cr_allK (K : PySem.W.Frag) (hc : X.calm = true) (hK : X.K = K := by rfl) : CallR X (.builtin "all") (rAll K) := hK ▸ cr_all hc
theorem cr_anyK (K : PySem.W.Frag) (hc : X.calm = true) (hK : X.K = K := by rfl) : CallR X (.builtin "any") (rAny K) := hK ▸ cr_any hc
theorem cr_sumK (K : PySem.W.Frag) (hc : X.calm = true) (hK : X.K = K := by rfl) : CallR X (.builtin "sum") (rSum K) := hK ▸ cr_sum hc
theorem cr_sortedK (K : PySem.W.Frag) (hu : X.A.units + 64 < cLine) (hK : X.K = K := by rfl) : CallR X (.builtin "sorted") (rSortedX K) := hK ▸ cr_sortedX hu
def rLstQ (K : PySem.W.Frag) : List V → Hp → VK → Prop := fun xs H Q => ∃ p ys, xs = [.ref p] ∧ (SqL K H p ys ∨ SqT K H p ys) ∧ ∀ l, H l = none → Q (.ref l) (upd H l (.lst ys))
theorem call_tupleK (K : PySem.W.Frag) (hK : X.K = K := by rfl) : CallR X (.type "tuple") (rTupQ K) := hK ▸ call_tupF
theorem call_listK (K : PySem.W.Frag) (hK : X.K = K := by rfl) : CallR X (.type "list") (rLstQ K) := hK ▸ call_list_of
theorem vn_tupleK {K : PySem.W.Frag} : VN K (rTupQ K) dTuple := vn_tuple
theorem nn_listK {K : PySem.W.Frag} : NN K (rLstQ K) dList := nn_list
def dNeg : D → Option D
  | .int n => some (.int (-n))
  | _ => none
theorem v1_neg {K : PySem.W.Frag} : V1 K (rU fun i => .int (-i)) dNeg := by
  intro B H x dx d Q al hx e k
  unfold dNeg at e
  split at e
  · cases e; exact ⟨_, v_int hx, k _ H (Same.refl H) rp_int⟩
  · cases e
/-! walks, targets -/
theorem mi_seqK (K : PySem.W.Frag) (h : ME X kd e t f) (hK : X.K = K := by rfl) : MI X kd mv false tg e (iSeq K t) (fItems f) := hK ▸ mi_seq h
theorem mi_seqVK (K : PySem.W.Frag) (h : MV X kd e t f) (hK : X.K = K := by rfl) : MI X kd false false tg e (iSeq K t) (fItems f) := hK ▸ mi_seqV h
theorem mi_wkK (K : PySem.W.Frag) {i : Nat} {x : Str} (h : PE X (.Name x pos) (tVar i)) (hk : kd i = .wk) (hK : X.K = K := by rfl) : MI X kd mv false tg (.Name x pos) (iSeq K (tVar i)) (fItems (fVar i)) := hK ▸ mi_wk h hk
theorem mg_tupK {rr : Bool} (K : PySem.W.Frag) {kk : Nat} {u : TGs} {n : Nat} {ws : List Nat} {r : List D → En → Option En} (hc : X.calm = true) (h : MGs X kd es u n ws r) (hK : X.K = K := by rfl)
    (hn : (assignEach es X.env).length = n := by rfl) (hst : (assignEach es X.env).findIdx? (·.1) = none := by rfl) : MG X kd rr (.Tuple es kk pos) (gTup K n u) ws (setTup r) := hK ▸ mg_tup hc h hn hst
def dEnum : D → Option (List D)
  | .list ds => some (enumD ds)
  | _ => none
theorem walk_enum {K : PySem.W.Frag} {B M : List Addr} {H : Hp} {a : Addr} {xs : List V} {ds : List D} (hM : ∀ z ∈ M, z ∈ B) (ha : a ∉ M) (q : H a = some (.lst xs)) (r : RpA K B H ds xs) : Walk true K B M (Ite K a) (enumD ds) H := by
  intro B' H2 i hB hB' kk
  have h2 : SqL K H2 a xs := SqL.of (kk.obj a _ q ha)
  have r2 : RpA K B' H2 ds xs := RpA.kp kk (fun z hz => hB z (hM z hz)) _ _ (RpA.grow hB' _ _ r)
  refine ⟨fun d hd => ?_, fun hl => ⟨xs, h2, by rw [r.length]; simpa [enumD] using hl⟩⟩
  unfold enumD at hd
  rw [List.getElem?_mapIdx] at hd
  obtain ⟨d', hd1, hd2⟩ := map_some hd
  subst hd2
  obtain ⟨x, hx, rx⟩ := r2.get hd1
  refine ⟨⟨xs, x, h2, hx⟩, fun y H3 hy => ?_⟩
  obtain ⟨T, x', rfl, hT, rfl, hy⟩ := hy
  have := hy xs h2
  rw [hx] at this
  cases this
  exact ⟨same_new hT _, T, _, _, rfl, rfl, SqT.of upd_same, RpA.cons (by unfold Rp; rfl) (RpA.cons (rx.same (same_new hT _)) RpA.nil)⟩
theorem mi_enumK (K : PySem.W.Frag) {p tpos : Pos} {elts : List Expr} {kk : Nat} (hg : Gl X "enumerate") (hm : X.mg "enumerate" = none) (ha : ME X kd e t f) (hK : X.K = K := by rfl) (he : starEach [e] X.env = (false, eval e X.env) :: starEach [] X.env := by rfl) (hs : starEach [e] X.env = [(false, eval e X.env)] := by rfl) :
    MI X kd mv true (.Tuple elts kk tpos) (.Call (.Name "enumerate" p) [e] [] pos) (iEnum K (tCons t tNil)) (fun ρ => (f ρ).bind dEnum) := by
  subst hK
  refine ⟨pi_enum hg hm (pa_cons ha.pe pa_nil he) hs, fun B O P ρ σ H ds R R0 hf k => ?_⟩
  obtain ⟨d, h1, h2⟩ := bind_some hf
  refine ha.ev B O P ρ σ H d _ R0 h1 fun v H1 s1 r => ?_
  have hM := in_m (mv := mv) R0.subO R0.subP
  cases d with
  | list ds' =>
    cases h2
    unfold Rp at r
    obtain ⟨a, xs, rfl, n, q, r⟩ := r
    exact ⟨a, xs, rfl, SqL.of q, k _ H1 s1 (walk_enum hM (fun z => n (hM a z)) q r)⟩
  | _ => cases h2
theorem mi_enumW (K : PySem.W.Frag) {p tpos pos' : Pos} {elts : List Expr} {kk i : Nat} {x : Str} (hg : Gl X "enumerate") (hm : X.mg "enumerate" = none) (h : PE X (.Name x pos') (tVar i)) (hk : kd i = .wk) (hK : X.K = K := by rfl)
    (he : starEach [.Name x pos'] X.env = (false, eval (.Name x pos') X.env) :: starEach [] X.env := by rfl) (hs : starEach [.Name x pos'] X.env = [(false, eval (.Name x pos') X.env)] := by rfl) :
    MI X kd mv true (.Tuple elts kk tpos) (.Call (.Name "enumerate" p) [.Name x pos'] [] pos) (iEnum K (tCons (tVar i) tNil)) (fun ρ => (fVar i ρ).bind dEnum) := by
  subst hK
  refine ⟨pi_enum hg hm (pa_cons h pa_nil he) hs, fun B O P ρ σ H ds R R0 hf k => ?_⟩
  obtain ⟨d, h1, h2⟩ := bind_some hf
  obtain ⟨v, q, s⟩ := R0.slot i d (fVar_at h1)
  have hM := in_m (mv := mv) R0.subO R0.subP
  rw [hk] at s
  cases d with
  | list ds' =>
    cases h2
    obtain ⟨a, xs, rfl, nM, q2, r⟩ : ∃ a xs, v = .ref a ∧ a ∉ (if mv = true then O ++ P else []) ∧ H a = some (.lst xs) ∧ RpA X.K B H ds' xs := by
      rcases s with s | ⟨a, rfl, nO, nP, xs, q2, r⟩
      · unfold Rp at s
        obtain ⟨a, xs, rfl, n, q2, r⟩ := s
        exact ⟨a, xs, rfl, fun z => n (hM a z), q2, r⟩
      · refine ⟨a, xs, rfl, ?_, q2, r⟩
        cases mv with
        | false => simp
        | true => simpa using ⟨nO, nP⟩
    refine ⟨_, q, ?_⟩
    exact ⟨a, xs, rfl, SqL.of q2, k _ H (Same.refl H) (walk_enum hM nM q2 r)⟩
  | _ => cases h2
/-! slices, calls -/
theorem mn_cutK (K : PySem.W.Frag) {lo hi : Option Expr} {tlo thi : TO} {fl fh : En → Option (Option Int)} {p2 : Pos} (h : MV X kd e te f) (hl : MO X kd lo tlo fl) (hh : MO X kd hi thi fh) (hK : X.K = K := by rfl) : MN X kd (.Subscript e (.Slice lo hi none p2) pos) (tSl (rSlL K) te tlo thi) (fCut f fl fh) := hK ▸ mn_cut h hl hh
theorem me_cutTK (K : PySem.W.Frag) {lo hi : Option Expr} {tlo thi : TO} {fl fh : En → Option (Option Int)} {p2 : Pos} (h : MV X kd e te f) (hl : MO X kd lo tlo fl) (hh : MO X kd hi thi fh) (hK : X.K = K := by rfl) : ME X kd (.Subscript e (.Slice lo hi none p2) pos) (tSl (rSlF K) te tlo thi) (fCutT f fl fh) := hK ▸ me_cutT h hl hh
theorem me_callK (K : PySem.W.Frag) {P : Program} {w : World} {mg : Str → Option Value} {base : Heap} {p : Pos} {x : Str} {k : Nat} {fn : Addr} {fd : FuncData} {ps : List Str} {h : List D → Option D} (O : OkD P w K mg base k fn ps fd (spD K h)) (hr : Room k X.A) (hg : Gl X x) (hm : X.mg x = some (.ref fn)) (ha : MA X kd (e :: es) tl g)
    (hP : X.prog = P := by rfl) (hW : X.w = w := by rfl) (hK : X.K = K := by rfl) (hM : X.mg = mg := by rfl) (hB : X.base = base := by rfl)
    (hdb : (x == ("__debug__" : Str)) = false := by decide) (he : starEach (e :: es) X.env = (false, eval e X.env) :: starEach es X.env := by rfl) (hpl : (backTo pos (starEach es X.env)).any (·.1) = false := by rfl) :
    ME X kd (.Call (.Name x p) (e :: es) [] pos) (tCall (spD K h) [] E0 tl) (fCall h g) := by
  subst hP hW hK hM hB
  exact me_call O.ok hr hg hm O.kp O.bd ha hdb he hpl
theorem mn_callK (K : PySem.W.Frag) {P : Program} {w : World} {mg : Str → Option Value} {base : Heap} {p : Pos} {x : Str} {k : Nat} {fn : Addr} {fd : FuncData} {ps : List Str} {h : List D → Option D} (O : OkD P w K mg base k fn ps fd (spN K h)) (hr : Room k X.A) (hg : Gl X x) (hm : X.mg x = some (.ref fn)) (ha : MA X kd (e :: es) tl g)
    (hP : X.prog = P := by rfl) (hW : X.w = w := by rfl) (hK : X.K = K := by rfl) (hM : X.mg = mg := by rfl) (hB : X.base = base := by rfl)
    (hdb : (x == ("__debug__" : Str)) = false := by decide) (he : starEach (e :: es) X.env = (false, eval e X.env) :: starEach es X.env := by rfl) (hpl : (backTo pos (starEach es X.env)).any (·.1) = false := by rfl) :
    MN X kd (.Call (.Name x p) (e :: es) [] pos) (tCall (spN K h) [] E0 tl) (fCall h g) := by
  subst hP hW hK hM hB
  exact mn_call O.ok hr hg hm O.kp O.bd ha hdb he hpl
theorem me_globI {x : Str} {n : Int} {tk : Tok} (hg : Gl X x) (hm : X.mg x = some (.int n tk)) (hd : (x == ("__debug__" : Str)) = false := by decide) : ME X kd (.Name x pos) (tC (.int n)) (fC (.int n)) :=
  ⟨pe_glob hg hm ⟨_, rfl⟩ hd, fun B O P ρ σ H d Q R hf k => by cases hf; exact k _ H (Same.refl H) rp_int⟩
/-! a < b < c -/
def fChain (g1 g2 : D → D → Option D) (a b c : Fx) : Fx := fun ρ => (a ρ).bind fun x => (b ρ).bind fun y => (g1 x y).bind fun z => match z with
  | .bool true => (c ρ).bind fun w => g2 y w
  | .bool false => some (.bool false)
  | _ => none
theorem evChain {K : PySem.W.Frag} {r r' : R2} {g1 g2 : D → D → Option D} (hv : V2 K r g1) (hv' : V2 K r' g2) (ha : EvV K kd ta fa) (hb : EvV K kd tb fb) (hc : EvV K kd tc fc) : EvE K kd (tChain r r' ta tb tc) (fChain g1 g2 fa fb fc) := by
  intro B O P ρ σ H d Q R hf k
  obtain ⟨dx, h1, h2⟩ := bind_some hf
  obtain ⟨dy, h3, h4⟩ := bind_some h2
  obtain ⟨z, h5, h6⟩ := bind_some h4
  refine ha B O P ρ σ H dx _ R h1 fun x H1 s1 r1 => ?_
  refine hb B O P ρ σ H1 dy _ (R.same s1) h3 fun y H2 s2 r2 => ?_
  refine hv B H2 x y dx dy z _ (R.same (s1.trans s2)).al (r1.same s2) r2 h5 fun v H3 s3 r3 => ?_
  split at h6
  · unfold Rp at r3
    refine ⟨true, r3, iteT ?_⟩
    obtain ⟨dw, h7, h8⟩ := bind_some h6
    refine hc B O P ρ σ H3 dw _ (R.same ((s1.trans s2).trans s3)) h7 fun w H4 s4 r4 => ?_
    exact hv' B H4 y w dy dw d Q (R.same (((s1.trans s2).trans s3).trans s4)).al (r2.same (s3.trans s4)) r4 h8 fun v H5 s5 r5 => k v H5 ((((s1.trans s2).trans s3).trans s4).trans s5) r5
  · unfold Rp at r3
    cases h6
    exact ⟨false, r3, iteF (k _ H3 ((s1.trans s2).trans s3) rp_bool)⟩
  · cases h6
theorem me_chain {op op' : CmpOp} {r r' : R2} {g1 g2 : D → D → Option D} (ho : OpR X (compareOp op) r) (hv : V2 X.K r g1) (ho' : OpR X (compareOp op') r') (hv' : V2 X.K r' g2) (ha : MV X kd a ta fa) (hb : MV X kd b tb fb) (hc : MV X kd c' tc fc)
    (hm : lastMarks [op, op'] [b, c'] = false := by with_unfolding_all rfl) : ME X kd (.Compare a [op, op'] [b, c'] pos) (tChain r r' ta tb tc) (fChain g1 g2 fa fb fc) :=
  ⟨pe_chain ho ho' ha.pe hb.pe hc.pe hm, evChain hv hv' ha.ev hb.ev hc.ev⟩
theorem mt_chain {op op' : CmpOp} {r r' : R2} {g1 g2 : D → D → Option D} (ho : OpR X (compareOp op) r) (hv : V2 X.K r g1) (ho' : OpR X (compareOp op') r') (hv' : V2 X.K r' g2) (ha : MV X kd a ta fa) (hb : MV X kd b tb fb) (hc : MV X kd c' tc fc)
    (hm : lastMarks [op, op'] [b, c'] = false := by with_unfolding_all rfl) : MT X kd (.Compare a [op, op'] [b, c'] pos) (tTest (tChain r r' ta tb tc)) (fTest (fChain g1 g2 fa fb fc)) :=
  ⟨pt_chain ho ho' ha.pe hb.pe hc.pe hm, evTest (evChain hv hv' ha.ev hb.ev hc.ev)⟩
/-! a star in a display -/
def fStar (f : Fx) (g : En → Option (List D)) : En → Option (List D) := fun ρ => (f ρ).bind fun d => (items d).bind fun ds => (g ρ).map fun es => ds ++ es
theorem ms_star (K : PySem.W.Frag) {p : Pos} (h : ME X kd e te f) (hr : MS X kd es tl g) (hK : X.K = K := by rfl) (hs : starEach (.Starred e p :: es) X.env = (true, eval e X.env) :: starEach es X.env := by rfl) : MS X kd (.Starred e p :: es) (StX.tStar K te tl) (fStar f g) := by
  subst hK
  refine ⟨StX.pa_star h.pe hr.pe hs, fun B O P ρ σ H ds Q R hf k => ?_⟩
  obtain ⟨d, h1, h2⟩ := bind_some hf
  obtain ⟨es', h3, h4⟩ := bind_some h2
  obtain ⟨fs, h5, h6⟩ := map_some h4
  subst h6
  refine h.ev B O P ρ σ H d _ R h1 fun v H1 s1 r1 => ?_
  cases d with
  | list _ =>
    cases h3
    obtain ⟨a, xs, rfl, q1, q2⟩ := v_lst (.inl r1)
    exact ⟨a, xs, rfl, .inr (SqL.of q1), hr.ev B O P ρ σ H1 fs _ (R.same s1) h5 fun vs H2 s2 r2 => k _ H2 (s1.trans s2) ((q2.same s2).append r2)⟩
  | tuple _ =>
    cases h3
    obtain ⟨a, xs, rfl, q1, q2⟩ := v_tup (.inl r1)
    exact ⟨a, xs, rfl, .inl q1, hr.ev B O P ρ σ H1 fs _ (R.same s1) h5 fun vs H2 s2 r2 => k _ H2 (s1.trans s2) ((q2.same s2).append r2)⟩
  | _ => cases h3
/-! two names at once -/
def fPar (i j : Nat) (g : En → Option (List D)) : Fs := fun ρ => (g ρ).bind fun ds => match ds with
  | [d, e] => some (.nx ((ρ.set i (some d)).set j (some e)))
  | _ => none
theorem mx_par {i j : Nat} {x y : Str} {px py pt : Pos} {kt k2 pt2} (ki : kd i = .st) (kj : kd j = .st) (hc : X.calm = true) (hN : X.N.Nodup) (hi : X.N[i]? = some x) (hj : X.N[j]? = some y) (hij : i ≠ j)
    (hx : X.env.scope.names.lookup x = some .local) (hy : X.env.scope.names.lookup y = some .local) (ha : MS X kd [a, b] tl g)
    (hw : swappedStores [.Tuple [.Name x px, .Name y py] kt pt] (.Tuple [a, b] k2 pt2) X.env = pure (some [x, y]))
    (hs : swapsWithSole [.Tuple [.Name x px, .Name y py] kt pt] (.Tuple [a, b] k2 pt2) pos.line X.env = pure false := by rfl) :
    MX X kd rk (.Assign [.Tuple [.Name x px, .Name y py] kt pt] (.Tuple [a, b] k2 pt2) pos) (tPar i j tl) (fPar i j g) := by
  refine ⟨ps_par hc hN hi hj hij hx hy ha.pe hw hs, fun B0 P O ρ σ H o Dn S hf k => ?_⟩
  obtain ⟨ds, h1, h2⟩ := bind_some hf
  split at h2
  · cases h2
    refine ha.ev (B0 ++ O) O P ρ σ H _ _ S.rho h1 fun vs H1 s1 r => ?_
    unfold RpA at r
    obtain ⟨v, vs, rfl, r1, r2⟩ := r
    unfold RpA at r2
    obtain ⟨w, ws, rfl, r2, r3⟩ := r2
    unfold RpA at r3
    subst r3
    exact ⟨v, w, rfl, k O _ H1 (Stp.same s1) ⟨((S.same s1).rho.putS ki r1).putS kj r2, S.dis⟩⟩
  · cases h2
def isIntD : D → Option D
  | .int n => some (.int n)
  | _ => none
/-! x += e -/
theorem mx_augadd {i : Nat} {x : Str} {pos' : Pos} (hN : X.N.Nodup) (hi : X.N[i]? = some x) (hx : Loc X.env.scope x) (he : MV X kd e te f) (hk : kd i = .st) (hf : X.fn x = true ∨ X.env.scope.names.lookup x = some .local := by first | exact .inl rfl | exact .inr rfl) :
    MX X kd rk (.AugAssign (.Name x pos') .Add e pos) (tAug i te (ipI fun i j => i + j)) (fSet i (f2 dAdd (f1 isIntD (fVar i)) f)) := by
  refine ⟨ps_aug hN hi hx he.pe ip_add hf, fun B0 P O ρ σ H o Dn S hq k => ?_⟩
  obtain ⟨d, h1, h2⟩ := map_some hq
  subst h2
  obtain ⟨dx, h3, h4⟩ := bind_some h1
  obtain ⟨dy, h5, h6⟩ := bind_some h4
  obtain ⟨dz, h7, h8⟩ := bind_some h3
  obtain ⟨v, q1, q2⟩ := S.rho.slot i dz (fVar_at h7)
  rw [hk] at q2
  refine ⟨v, q1, he.ev (B0 ++ O) O P ρ σ H dy _ S.rho h5 fun u H1 s1 r => ?_⟩
  cases dz with
  | int n =>
    cases h8
    cases dy with
    | int m =>
      cases h6
      have q2' : Rp X.K (B0 ++ O) H (.int n) v := q2
      exact ⟨n, m, v_int (.inl q2'), v_int r, k O _ H1 (Stp.same s1) ⟨(S.same s1).rho.putS hk rp_int, S.dis⟩⟩
    | _ => cases h6
  | _ => cases h8
/-! append, extend -/
theorem mx_appE (K : PySem.W.Frag) (i : Nat) {x : Str} {p apos cpos : Pos} (h : PE X (.Name x p) (tVar i)) (he : ME X kd e te f) (hc : chg (kd i) = true) (hK : X.K = K := by rfl)
    (hbase : attributeBase (.Name x p) "append" X.env (eval (.Name x p) X.env) = eval (.Name x p) X.env := by rfl)
    (hfew : ((backTo cpos (starEach [e] X.env)).all (fun x => !x.1) && (backToKw cpos (keywordEach [] X.env)).all (fun x => x.1.isSome)
      && decide (([e] : List Expr).length + ([] : List Keyword).length + (if ([] : List Keyword).isEmpty then 0 else 1) < 30)) = true := by rfl)
    (hline : (apos.endLine == cpos.line) = true := by rfl) (hs : starEach [e] X.env = (false, eval e X.env) :: starEach [] X.env := by rfl) (hplain : (backTo cpos (starEach [] X.env)).any (·.1) = false := by rfl)
    (hsw : swapsWith (.Call (.Attribute (.Name x p) "append" apos) [e] [] cpos) none pos.line X.env = pure false := by rfl) :
    MX X kd rk (.Expr (.Call (.Attribute (.Name x p) "append" apos) [e] [] cpos) pos) (tDrop (tBM K "list" rAppend (tVar i) (tCons te tNil))) (fApp i f) := by
  subst hK
  exact mx_app (ps_expr (pe_bm PySem.F.plainAttrs_list PySem.F.slot_list_append PySem.F.type_list_append mt_append h (pa_cons he.pe pa_nil hs) hbase hfew hline hs hplain) hsw) he.ev hc
theorem mx_extE (K : PySem.W.Frag) (i : Nat) {x : Str} {p apos cpos : Pos} (h : PE X (.Name x p) (tVar i)) (he : MV X kd e te f) (hc : chg (kd i) = true) (hK : X.K = K := by rfl)
    (hbase : attributeBase (.Name x p) "extend" X.env (eval (.Name x p) X.env) = eval (.Name x p) X.env := by rfl)
    (hfew : ((backTo cpos (starEach [e] X.env)).all (fun x => !x.1) && (backToKw cpos (keywordEach [] X.env)).all (fun x => x.1.isSome)
      && decide (([e] : List Expr).length + ([] : List Keyword).length + (if ([] : List Keyword).isEmpty then 0 else 1) < 30)) = true := by rfl)
    (hline : (apos.endLine == cpos.line) = true := by rfl) (hs : starEach [e] X.env = (false, eval e X.env) :: starEach [] X.env := by rfl) (hplain : (backTo cpos (starEach [] X.env)).any (·.1) = false := by rfl)
    (hsw : swapsWith (.Call (.Attribute (.Name x p) "extend" apos) [e] [] cpos) none pos.line X.env = pure false := by rfl) :
    MX X kd rk (.Expr (.Call (.Attribute (.Name x p) "extend" apos) [e] [] cpos) pos) (tDrop (tBM K "list" rExtend (tVar i) (tCons te tNil))) (fExt i f) := by
  subst hK
  exact mx_ext (ps_expr (pe_bm PySem.F.plainAttrs_list PySem.F.slot_list_extend PySem.F.type_list_extend mt_extend h (pa_cons he.pe pa_nil hs) hbase hfew hline hs hplain) hsw) he.ev hc
end
end Mx

/-! THE MIRROR LAYER, part 7: defs that change their first argument, expressions that call such. -/
namespace Mx
open PySem PySem.Spec L2 PyProof.Rows

section
variable {K : PySem.W.Frag} {B0 P O : List Addr} {kd : Nat → SK} {ρ : En} {σ : L2.St} {H H' : Hp}
/-- what stands at slot i's address changes, and new things may come -/
theorem Rho.mutK {B : List Addr} {i : Nat} {a : Addr} {d d' : D} (R : Rho K B O P kd ρ σ H) (hc : chg (kd i) = true) (hi : ρ[i]? = some (some d)) (hs : σ[i]? = some (some (.ref a))) (ha : a ∈ O ++ P) (kA : Kp [a] H H')
    (ok : RpM K B H' d' a) : Rho K B O P kd (ρ.set i (some d')) σ H' := by
  have aB : a ∈ B := (List.mem_append.mp ha).elim (R.subO a) (R.subP a)
  have kO : Kp (O ++ P) H H' := kA.mono fun x hx => by rw [List.mem_singleton.mp hx]; exact ha
  have sB : ∀ x ∈ O ++ P, x ∈ B := fun x hx => (List.mem_append.mp hx).elim (R.subO x) (R.subP x)
  have look : ∀ j e, (ρ.set i (some d'))[j]? = some (some e) → (j = i ∧ e = d') ∨ (j ≠ i ∧ ρ[j]? = some (some e)) := fun j e q => by
    by_cases hj : j = i
    · subst hj
      rw [List.getElem?_set_self (List.getElem?_eq_some_iff.mp hi).1] at q
      cases q; exact .inl ⟨rfl, rfl⟩
    · rw [List.getElem?_set_ne (Ne.symm hj)] at q; exact .inr ⟨hj, q⟩
  refine ⟨R.subO, R.subP, fun x hx => kA.al x (R.al x hx), by simp [R.len], fun j e q => ?_, fun j k b x y cj ck qj qk sj sk => ?_⟩
  · rcases look j e q with ⟨rfl, rfl⟩ | ⟨hj, q⟩
    · refine ⟨_, hs, ?_⟩
      obtain ⟨v, q1, q2⟩ := R.slot j d hi
      rw [hs] at q1
      cases q1
      generalize kd j = k at hc q2
      cases k with
      | mu => obtain ⟨b, e1, e2, e3⟩ := q2; cases e1; exact ⟨a, rfl, e2, ok⟩
      | mp => obtain ⟨b, e1, e2, e3⟩ := q2; cases e1; exact ⟨a, rfl, e2, ok⟩
      | st => cases hc
      | wk => cases hc
      | fz => cases hc
    · obtain ⟨v, q1, q2⟩ := R.slot j e q
      refine ⟨v, q1, ?_⟩
      have sp : ∀ b, chg (kd j) = true → v = .ref b → b ∉ [a] := fun b cj ev z => by
        rw [List.mem_singleton.mp z] at ev
        subst ev
        exact hj (R.sep j i a e d cj hc q hi q1 hs)
      have sA : ∀ x ∈ [a], x ∈ B := fun x hx => by rw [List.mem_singleton.mp hx]; exact aB
      generalize hk : kd j = k at q2 sp
      cases k with
      | st => exact Rp.kp kO sB _ _ q2
      | wk => exact q2.imp (fun r => Rp.kp kO sB _ _ r) fun ⟨b, e1, n, m, r⟩ => ⟨b, e1, n, m, r.kp kO sB (by simpa using ⟨n, m⟩)⟩
      | mu => obtain ⟨b, e1, e2, e3⟩ := q2; exact ⟨b, e1, e2, e3.kp kA sA (sp b rfl e1)⟩
      | mp => obtain ⟨b, e1, e2, e3⟩ := q2; exact ⟨b, e1, e2, e3.kp kA sA (sp b rfl e1)⟩
      | fz =>
        obtain ⟨b, ns, e1, e2, q, z⟩ := q2
        refine ⟨b, ns, e1, e2, ?_, z⟩
        rcases z with ⟨z1, z2⟩ | z
        · rcases q with (q | ⟨ob, q⟩) | q
          · exact .inl (.inl (kO.obj b _ q (by simpa using ⟨z1, z2⟩)))
          · exact .inl (.inr ⟨ob, kO.frz b _ _ q⟩)
          · exact .inr q
        · exact z _
  · rcases look j x qj with ⟨rfl, rfl⟩ | ⟨hj, qj'⟩
    · rcases look k y qk with ⟨rfl, rfl⟩ | ⟨hk, qk'⟩
      · rfl
      · exact R.sep j k b d y cj ck hi qk' sj sk
    · rcases look k y qk with ⟨rfl, rfl⟩ | ⟨hk, qk'⟩
      · exact R.sep j k b x d cj ck qj' hi sj sk
      · exact R.sep j k b x y cj ck qj' qk' sj sk
end

/-! ### the promise -/
abbrev GP := List D → Option (D × D)
/-- the first argument, a list, becomes what g says -/
def spP (K : PySem.W.Frag) (g : GP) : Sp := fun vs H Q _ => ∃ B a ws d0 ds r d1, vs = .ref a :: ws ∧ (∀ z ∈ B, H z ≠ none) ∧ a ∈ B ∧ RpM K B H d0 a ∧ RpA K B H ds ws ∧ g (d0 :: ds) = some (r, d1) ∧
  ∀ v H', Kp [a] H H' → RpM K B H' d1 a → Rp K B H' r v → Q v H'
def defP (n m : Nat) (F : Fs) : GP := fun ds => if ds.length = m then (F (argE n m ds)).bind (fun o => match o with
  | .rt d ρ => match ρ[0]? with
    | some (some e) => some (d, e)
    | _ => none
  | .nx ρ => match ρ[0]? with
    | some (some e) => some (.none, e)
    | _ => none
  | _ => none) else none
section
variable {P : Program} {w : World} {K : PySem.W.Frag} {mg : Str → Option Value} {base : Heap} {kd : Nat → SK} {F : Fs} {N ps : List Str} {x qual : Str} {st : Stmt} {f : Addr} {fd : FuncData} {k : Nat}
theorem sk_startP {B : List Addr} {a : Addr} {d0 : D} {ds : List D} {ws : List V} {H : Hp} {m : Nat} (hm : (d0 :: ds).length = m) (hn : m ≤ N.length) (al : ∀ z ∈ B, H z ≠ none) (ha : a ∈ B) (r0 : RpM K B H d0 a) (r : RpA K B H ds ws) (h0 : kd 0 = .mp) (hk : ∀ i, i < m → i ≠ 0 → kd i = .st) :
    Sk K B [a] kd [] (argE N.length m (d0 :: ds)) (L2.start N (.ref a :: ws)) H := by
  have hl := r.length
  refine ⟨⟨fun z hz => (by cases hz), fun z hz => ?_, fun z hz => al z (by simpa using hz), ?_, fun i d q => ?_, fun i j b d e ci cj qi qj si sj => ?_⟩, fun z hz => by cases hz⟩
  · rw [List.mem_singleton.mp hz]; simpa using ha
  · simp only [List.length_cons] at hm
    rw [← hm]
    simp [L2.start, argE, hl]
  · have q := argE_at q
    cases i with
    | zero =>
      simp at q
      subst q
      refine ⟨.ref a, start_at (by simp), ?_⟩
      rw [h0, List.append_nil]
      exact ⟨a, rfl, by simp, r0⟩
    | succ i =>
      have q' : ds[i]? = some d := by simpa using q
      obtain ⟨v, q1, q2⟩ := r.get q'
      refine ⟨v, start_at (by simpa using q1), ?_⟩
      rw [hk (i + 1) (by rw [← hm]; exact (List.getElem?_eq_some_iff.mp q).1) (by omega), List.append_nil]
      exact q2
  · have z : ∀ i d, (argE N.length m (d0 :: ds))[i]? = some (some d) → chg (kd i) = true → i = 0 := fun i d q c => Classical.byContradiction fun n => by
      have q := argE_at q
      rw [hk i (by rw [← hm]; exact (List.getElem?_eq_some_iff.mp q).1) n] at c
      cases c
    rw [z i d qi ci, z j e qj cj]
theorem fn_p (Fu : FunD K x qual (defArgs st) (defBody st) (defScope st) [] [] f fd) (S : FnScope N ps (defScope st)) (hn : ps.length ≤ N.length) (h0 : kd 0 = .mp) (hk : ∀ i, i < ps.length → i ≠ 0 → kd i = .st)
    (body : ∀ (cdv : Value) (A : Around) (outer : List Env) (s : Shared) (H : Hp) (E : XK), Room k (A.deeper (envOfC qual (defScope st) s.heap.objs.size f cdv)) → ∃ t, MXs (cxOf CX0 P w K mg base N qual (defScope st) f cdv A outer s H E).nox kd false (defBody st) t F) :
    FnOk P w K mg base CX0 (k + 1) f fd ps (spP K (defP N.length ps.length F)) := by
  have ln : ∀ {ds : List D} {d : D × D}, defP N.length ps.length F ds = some d → ds.length = ps.length := fun {ds d} e => by
    unfold defP at e
    split at e
    · assumption
    · cases e
  refine Fu.ok S (fun vs H Q E ⟨B, a, ws, d0, ds, r, d1, e0, al, ha, r0, rr, e, _⟩ => by rw [e0, List.length_cons, rr.length]; exact ln e) fun cdv A outer s H vs Q E hr ⟨B, a, ws, d0, ds, r, d1, e0, al, ha, r0, rr, e, q⟩ => ?_
  subst e0
  obtain ⟨t, m⟩ := body cdv A outer s H E hr
  have hl := ln e
  unfold defP at e
  rw [if_pos hl] at e
  obtain ⟨o, e1, e2⟩ := bind_some e
  have fin : ∀ {O' : List Addr} {ρ' : En} {σ' : L2.St} {H' : Hp} {e : D}, Stp [a] [] H O' H' → Sk K B [a] kd O' ρ' σ' H' → ρ'[0]? = some (some e) → Kp [a] H H' ∧ RpM K B H' e a := by
    intro O' ρ' σ' H' e sp S' q0
    refine ⟨sp.kp, ?_⟩
    obtain ⟨v, q1, q2⟩ := S'.rho.slot 0 e q0
    rw [h0] at q2
    obtain ⟨b, _, hb, r⟩ := q2
    rw [List.mem_singleton.mp hb] at r
    exact r.grow fun x hx => .inl (List.mem_append_left _ hx)
  refine ⟨t, m.pe.nox, m.ev B [a] [] _ _ H o _ (sk_startP hl hn al ha r0 rr h0 hk) e1 ?_⟩
  cases o with
  | rt d' ρ' =>
    intro v O' σ' H' sp S' r
    cases q0 : ρ'[0]? with
    | none => simp [q0] at e2
    | some z =>
      cases z with
      | none => simp [q0] at e2
      | some z =>
        simp [q0] at e2
        obtain ⟨e3, e4⟩ := e2
        subst e3 e4
        obtain ⟨k1, k2⟩ := fin sp S' q0
        exact q v H' k1 k2 r
  | nx ρ' =>
    intro O' σ' H' sp S'
    cases q0 : ρ'[0]? with
    | none => simp [q0] at e2
    | some z =>
      cases z with
      | none => simp [q0] at e2
      | some z =>
        simp [q0] at e2
        obtain ⟨e3, e4⟩ := e2
        subst e3 e4
        obtain ⟨k1, k2⟩ := fin sp S' q0
        exact q .non H' k1 k2 (by unfold Rp; rfl)
  | bk _ => cases e2
  | ct _ => cases e2
end

/-! ### expressions that change slots -/
abbrev Fe := En → Option (D × En)
def EvX (K : PySem.W.Frag) (kd : Nat → SK) (t : TE) (f : Fe) : Prop :=
  ∀ B0 P O ρ σ H d ρ' (Q : VK), Sk K B0 P kd O ρ σ H → f ρ = some (d, ρ') → (∀ v O' H', Stp P O H O' H' → Sk K B0 P kd O' ρ' σ H' → Rp K (B0 ++ O') H' d v → Q v H') → t σ H Q
structure MXE (X : Cx) (kd : Nat → SK) (e : Expr) (t : TE) (f : Fe) : Prop where
  pe : PE X e t
  ev : EvX X.K kd t f
def EvXA (K : PySem.W.Frag) (kd : Nat → SK) (t : TA) (f : En → Option (List D × En)) : Prop :=
  ∀ B0 P O ρ σ H ds ρ' (Q : List V → Hp → Prop), Sk K B0 P kd O ρ σ H → f ρ = some (ds, ρ') → (∀ vs O' H', Stp P O H O' H' → Sk K B0 P kd O' ρ' σ H' → RpA K (B0 ++ O') H' ds vs → Q vs H') → t σ H Q
structure MXA (X : Cx) (kd : Nat → SK) (es : List Expr) (t : TA) (f : En → Option (List D × En)) : Prop where
  pe : PA X es t
  ev : EvXA X.K kd t f
def xPure (f : Fx) : Fe := fun ρ => (f ρ).map fun d => (d, ρ)
def x2 (g : D → D → Option D) (a b : Fe) : Fe := fun ρ => (a ρ).bind fun (x, ρ1) => (b ρ1).bind fun (y, ρ2) => (g x y).map fun z => (z, ρ2)
def xNil : En → Option (List D × En) := fun ρ => some ([], ρ)
def xCons (a : Fe) (r : En → Option (List D × En)) : En → Option (List D × En) := fun ρ => (a ρ).bind fun (x, ρ1) => (r ρ1).map fun (xs, ρ2) => (x :: xs, ρ2)
def xCall (g : GP) (i : Nat) (a : En → Option (List D × En)) : Fe := fun ρ => (fVar i ρ).bind fun _ => (a ρ).bind fun (ds, ρ1) => (fVar i ρ1).bind fun d0 => (g (d0 :: ds)).map fun (r, d1) => (r, ρ1.set i (some d1))
def x1 (g : D → Option D) (a : Fe) : Fe := fun ρ => (a ρ).bind fun (x, ρ1) => (g x).map fun z => (z, ρ1)
def boolOf : D → Option Bool
  | .bool b => some b
  | _ => none
def pairOf : List D → Option (D × D)
  | [d, e] => some (d, e)
  | _ => none
def xTest (a : Fe) : En → Option (Bool × En) := fun ρ => (a ρ).bind fun p => (boolOf p.1).map fun b => (b, p.2)
section
variable {X : Cx} {kd : Nat → SK} {e a b : Expr} {es : List Expr} {t ta tb te : TE} {tl : TA} {f : Fx} {fe fa fb : Fe} {g : En → Option (List D × En)} {pos : Pos}
theorem ME.x (h : ME X kd e t f) : MXE X kd e t (xPure f) := by
  refine ⟨h.pe, fun B0 P O ρ σ H d ρ' Q S hf k => ?_⟩
  obtain ⟨d', h1, h2⟩ := map_some hf
  cases h2
  exact h.ev (B0 ++ O) O P ρ σ H d _ S.rho h1 fun v H1 s1 r => k v O H1 (Stp.same s1) (S.same s1) r
theorem rp_stp {K : PySem.W.Frag} {B0 P O O' : List Addr} {ρ : En} {σ : L2.St} {H H' : Hp} {d : D} {v : V} (S : Sk K B0 P kd O ρ σ H) (s : Stp P O H O' H') (h : Rp K (B0 ++ O) H d v) : Rp K (B0 ++ O') H' d v := by
  have g : Rp K (B0 ++ O') H d v := Rp.grow (fun x hx => (List.mem_append.mp hx).elim (fun z => .inl (List.mem_append_left _ z)) fun z => (s.new x z).imp (fun y => List.mem_append_right _ y) fun y => y) _ _ h
  refine Rp.kp s.kp (fun x hx => ?_) _ _ g
  rcases List.mem_append.mp hx with z | z
  · exact List.mem_append_right _ (s.sub x z)
  · rcases List.mem_append.mp (S.rho.subP x z) with y | y
    · exact List.mem_append_left _ y
    · exact List.mem_append_right _ (s.sub x y)
theorem evX2 {K : PySem.W.Frag} {r : R2} {g : D → D → Option D} (hv : V2 K r g) (ha : EvX K kd ta fa) (hb : EvX K kd tb fb) : EvX K kd (tOp r ta tb) (x2 g fa fb) := by
  intro B0 P O ρ σ H d ρ' Q S hf k
  obtain ⟨⟨dx, ρ1⟩, h1, h2⟩ := bind_some hf
  obtain ⟨⟨dy, ρ2⟩, h3, h4⟩ := bind_some h2
  obtain ⟨z, h5, h6⟩ := map_some h4
  cases h6
  refine ha B0 P O ρ σ H dx ρ1 _ S h1 fun x O1 H1 s1 S1 r1 => ?_
  refine hb B0 P O1 ρ1 σ H1 dy _ _ S1 h3 fun y O2 H2 s2 S2 r2 => ?_
  exact hv (B0 ++ O2) H2 x y dx dy d Q S2.rho.al (.inl (rp_stp S1 s2 r1)) (.inl r2) h5 fun v H3 s3 r3 => k v O2 H3 ((s1.trans s2).trans (Stp.same s3)) (S2.same s3) r3
theorem mxe_op {op : Operator} {r : R2} {g : D → D → Option D} (ho : OpR X (binaryOp op) r) (hv : V2 X.K r g) (ha : MXE X kd a ta fa) (hb : MXE X kd b tb fb) : MXE X kd (.BinOp a op b pos) (tOp r ta tb) (x2 g fa fb) := ⟨pe_op ho ha.pe hb.pe, evX2 hv ha.ev hb.ev⟩
theorem mxe_cmp {op : CmpOp} {r : R2} {g : D → D → Option D} (ho : OpR X (compareOp op) r) (hv : V2 X.K r g) (ha : MXE X kd a ta fa) (hb : MXE X kd b tb fb) (hm : behindInMarks op b = false) : MXE X kd (.Compare a [op] [b] pos) (tOp r ta tb) (x2 g fa fb) := ⟨pe_cmpR ho ha.pe hb.pe hm, evX2 hv ha.ev hb.ev⟩
theorem mxe_ix {r : R2} {g : D → D → Option D} (ho : IxR X r) (hv : V2 X.K r g) (ha : MXE X kd a ta fa) (hb : MXE X kd b tb fb) (hs : PlainIx b) : MXE X kd (.Subscript a b pos) (tOp r ta tb) (x2 g fa fb) := ⟨pe_ix ho ha.pe hb.pe hs, evX2 hv ha.ev hb.ev⟩
theorem mxa_nil : MXA X kd [] tNil xNil := ⟨pa_nil, fun B0 P O ρ σ H ds ρ' Q S hf k => by cases hf; exact k [] O H Stp.refl S RpA.nil⟩
theorem rpa_stp {K : PySem.W.Frag} {B0 P O O' : List Addr} {ρ : En} {σ : L2.St} {H H' : Hp} (S : Sk K B0 P kd O ρ σ H) (s : Stp P O H O' H') : ∀ {ds : List D} {vs : List V}, RpA K (B0 ++ O) H ds vs → RpA K (B0 ++ O') H' ds vs
  | [], _, h => by unfold RpA at h ⊢; exact h
  | d :: ds, _, h => by
    unfold RpA at h ⊢
    obtain ⟨x, r, e, h1, h2⟩ := h
    exact ⟨x, r, e, rp_stp S s h1, rpa_stp S s h2⟩
theorem mxa_cons (h : MXE X kd e t fe) (hr : MXA X kd es tl g) (hs : starEach (e :: es) X.env = (false, eval e X.env) :: starEach es X.env := by rfl) : MXA X kd (e :: es) (tCons t tl) (xCons fe g) := by
  refine ⟨pa_cons h.pe hr.pe hs, fun B0 P O ρ σ H ds ρ' Q S hf k => ?_⟩
  obtain ⟨⟨d, ρ1⟩, h1, h2⟩ := bind_some hf
  obtain ⟨⟨ds', ρ2⟩, h3, h4⟩ := map_some h2
  cases h4
  refine h.ev B0 P O ρ σ H d ρ1 _ S h1 fun v O1 H1 s1 S1 r1 => ?_
  refine hr.ev B0 P O1 ρ1 σ H1 ds' _ _ S1 h3 fun vs O2 H2 s2 S2 r2 => ?_
  exact k _ O2 H2 (s1.trans s2) S2 (RpA.cons (rp_stp S1 s2 r1) r2)
def xTup (g : En → Option (List D × En)) : Fe := fun ρ => (g ρ).bind fun p => if p.1.length ≤ 100000 then some (.tuple p.1, p.2) else none
theorem mxe_tup {x1} (h : MXA X kd es tl g) : MXE X kd (.Tuple es x1 pos) (tTupF tl) (xTup g) := by
  refine ⟨pe_tupF h.pe, fun B0 P O ρ σ H d ρ' Q S hf k => ?_⟩
  obtain ⟨⟨ds, ρ1⟩, h1, h2⟩ := bind_some hf
  have h2 : (if ds.length ≤ 100000 then some (PyData.tuple ds, ρ1) else none) = some (d, ρ') := h2
  split at h2
  · rename_i hz
    cases h2
    refine h.ev B0 P O ρ σ H ds _ _ S h1 fun vs O1 H1 s1 S1 r1 => ⟨by rw [r1.length]; exact big_ok hz, fun p ob hp hd => ?_⟩
    exact k _ O1 _ (s1.trans (Stp.same (same_new hp _))) (S1.same (same_new hp _)) (rp_tup ⟨ob, hd, upd_same⟩ (r1.same (same_new hp _)))
  · cases h2
/-- f(x, ..), x a list of this frame that f changes -/
theorem mxe_call (K : PySem.W.Frag) {P : Program} {w : World} {mg : Str → Option Value} {base : Heap} {p pos' : Pos} {x y : Str} {i k : Nat} {fn : Addr} {fd : FuncData} {ps : List Str} {h : GP} (O : OkD P w K mg base k fn ps fd (spP K h)) (hr : Room k X.A) (hg : Gl X x) (hm : X.mg x = some (.ref fn))
    (hy : PE X (.Name y pos') (tVar i)) (hc : chg (kd i) = true) (ha : MXA X kd es tl g) (hP : X.prog = P := by rfl) (hW : X.w = w := by rfl) (hK : X.K = K := by rfl) (hM : X.mg = mg := by rfl) (hB : X.base = base := by rfl)
    (hdb : (x == ("__debug__" : Str)) = false := by decide) (he : starEach (.Name y pos' :: es) X.env = (false, eval (.Name y pos') X.env) :: starEach es X.env := by rfl) (hpl : (backTo pos (starEach es X.env)).any (·.1) = false := by rfl) :
    MXE X kd (.Call (.Name x p) (.Name y pos' :: es) [] pos) (tCall (spP K h) [] E0 (tCons (tVar i) tl)) (xCall h i g) := by
  subst hP hW hK hM hB
  refine ⟨pe_call O.ok hr hg hm O.kp O.bd .nil pass0 (pa_cons hy ha.pe he) hdb he hpl, fun B0 P O' ρ σ H d ρ' Q S hf q => ?_⟩
  obtain ⟨dz, h0, h7⟩ := bind_some hf
  obtain ⟨⟨ds, ρ1⟩, h1, h2⟩ := bind_some h7
  obtain ⟨d0, h3, h4⟩ := bind_some h2
  obtain ⟨⟨r, d1⟩, h5, h6⟩ := map_some h4
  cases h6
  obtain ⟨v0, hi, _⟩ := S.rho.slot i dz (fVar_at h0)
  refine ⟨v0, hi, ha.ev B0 P O' ρ σ H ds ρ1 _ S h1 fun vs O1 H1 s1 S1 r1 => ?_⟩
  obtain ⟨a, q1, q2, q3⟩ := S1.rho.at hc (fVar_at h3)
  rw [hi] at q1
  cases q1
  have aB : a ∈ B0 ++ O1 := (List.mem_append.mp q2).elim (S1.rho.subO a) (S1.rho.subP a)
  show spP X.K h ((.ref a :: vs) ++ []) H1 Q E0
  rw [List.append_nil]
  refine ⟨B0 ++ O1, a, vs, d0, ds, d, d1, rfl, S1.rho.al, aB, q3, r1, h5, fun v H2 kA rm rr => ?_⟩
  refine q v O1 H2 (s1.trans ⟨fun _ z => z, fun _ z => .inl z, kA.mono fun y hy => by rw [List.mem_singleton.mp hy]; exact q2⟩) ⟨S1.rho.mutK hc (fVar_at h3) hi q2 kA rm, S1.dis⟩ rr

/-! statements with such expressions -/
def xSet (i : Nat) (f : Fe) : Fs := fun ρ => (f ρ).map fun (d, ρ1) => .nx (ρ1.set i (some d))
def xIfS (c : En → Option (Bool × En)) (F G : Fs) : Fs := fun ρ => (c ρ).bind fun (b, ρ1) => if b = true then F ρ1 else G ρ1
def xAsg (st : D → En → Option En) (f : Fe) : Fs := fun ρ => (f ρ).bind fun (d, ρ1) => (st d ρ1).map Out.nx
def xPar (i j : Nat) (g : En → Option (List D × En)) : Fs := fun ρ => (g ρ).bind fun p => (pairOf p.1).map fun q => .nx ((p.2.set i (some q.1)).set j (some q.2))
variable {rk : Bool} {F G : Fs} {tt : TT} {tu tw : TS} {xa xb : List Stmt} {tp : Pos}
theorem mx_setX {i : Nat} {x : Str} (hN : X.N.Nodup) (hi : X.N[i]? = some x) (hx : Loc X.env.scope x) (he : MXE X kd e te fe) (hk : kd i = .st) (hs : swapsWith e (some (.Name x tp)) pos.line X.env = pure false := by rfl) (hf : X.fn x = true ∨ X.env.scope.names.lookup x = some .local := by first | exact .inl rfl | exact .inr rfl) :
    MX X kd rk (.Assign [.Name x tp] e pos) (tAsg te (gName i)) (xSet i fe) := by
  refine ⟨ps_set hN hi hx he.pe hs hf, fun B0 P O ρ σ H o Dn S hq k => ?_⟩
  obtain ⟨⟨d, ρ1⟩, h1, h2⟩ := map_some hq
  subst h2
  exact he.ev B0 P O ρ σ H d ρ1 _ S h1 fun v O1 H1 s1 S1 r => k O1 _ H1 s1 ⟨S1.rho.putS hk r, S1.dis⟩
theorem mx_asgX {tg : Expr} {g : TG} {ws : List Nat} {s : D → En → Option En} (he : MXE X kd e te fe) (hg : MG X kd false tg g ws s) (hs : swapsWithSole [tg] e pos.line X.env = pure false := by rfl) (hw : swappedStores [tg] e X.env = pure none := by rfl)
    (h1 : (assignEach [tg] X.env).map (·.2) = [assign tg X.env] := by rfl) : MX X kd rk (.Assign [tg] e pos) (tAsg te g) (xAsg s fe) := by
  refine ⟨ps_asg he.pe hg.pe hs hw h1, fun B0 P O ρ σ H o Dn S hf k => ?_⟩
  obtain ⟨⟨d, ρ1⟩, h1, h2⟩ := bind_some hf
  obtain ⟨ρ', h3, h4⟩ := map_some h2
  subst h4
  refine he.ev B0 P O ρ σ H d ρ1 _ S h1 fun v O1 H1 s1 S1 r => ?_
  exact hg.ev (B0 ++ O1) O1 P d v ρ1 ρ' σ H1 _ S1.rho r h3 fun σ' R' _ => k O1 σ' H1 s1 ⟨R', S1.dis⟩
theorem mx_ifX {c : Expr} {fc : En → Option (Bool × En)} (hc : PT X c tt) (hv : ∀ B0 P O ρ σ H b ρ' (Q : Bool → Hp → Prop), Sk X.K B0 P kd O ρ σ H → fc ρ = some (b, ρ') → (∀ O' H', Stp P O H O' H' → Sk X.K B0 P kd O' ρ' σ H' → Q b H') → tt σ H Q)
    (ha : MXs X kd rk xa tu F) (hb : MXs X kd rk xb tw G) : MX X kd rk (.If c xa xb pos) (tIfS tt tu tw) (xIfS fc F G) := by
  refine ⟨ps_if hc ha.pe hb.pe, fun B0 P O ρ σ H o Dn S hf k => ?_⟩
  obtain ⟨⟨z, ρ1⟩, h1, h2⟩ := bind_some hf
  refine hv B0 P O ρ σ H z ρ1 _ S h1 fun O1 H1 s1 S1 => ?_
  cases z with
  | true => exact iteT (ha.ev B0 P O1 ρ1 σ H1 o Dn S1 h2 (k.step s1))
  | false => exact iteF (hb.ev B0 P O1 ρ1 σ H1 o Dn S1 h2 (k.step s1))
/-- if a op b: .. -/
theorem mx_ifC {op : CmpOp} {r : R2} {g : D → D → Option D} {pos2 : Pos} (ho : OpR X (compareOp op) r) (hv : V2 X.K r g) (ha : MXE X kd a ta fa) (hb : MXE X kd b tb fb) (hm : behindInMarks op b = false) (h1 : MXs X kd rk xa tu F) (h2 : MXs X kd rk xb tw G) :
    MX X kd rk (.If (.Compare a [op] [b] pos2) xa xb pos) (tIfS (tTest (tOp r ta tb)) tu tw) (xIfS (xTest (x2 g fa fb)) F G) := by
  refine mx_ifX (pt_cmpR ho ha.pe hb.pe hm) (fun B0 P O ρ σ H b' ρ' Q S hf k => ?_) h1 h2
  obtain ⟨⟨d, ρ1⟩, q1, q2⟩ := bind_some hf
  obtain ⟨b2, q3, q4⟩ := map_some q2
  cases q4
  refine evX2 hv ha.ev hb.ev B0 P O ρ σ H d ρ1 _ S q1 fun v O1 H1 s1 S1 r => ?_
  cases d with
  | bool z =>
    cases q3
    unfold Rp at r
    exact ⟨_, r, k O1 H1 s1 S1⟩
  | _ => cases q3
theorem mx_parX {i j : Nat} {x y : Str} {px py pt : Pos} {kt k2 pt2} (ki : kd i = .st) (kj : kd j = .st) (hc : X.calm = true) (hN : X.N.Nodup) (hi : X.N[i]? = some x) (hj : X.N[j]? = some y) (hij : i ≠ j)
    (hx : X.env.scope.names.lookup x = some .local) (hy : X.env.scope.names.lookup y = some .local) (ha : MXA X kd [a, b] tl g)
    (hw : swappedStores [.Tuple [.Name x px, .Name y py] kt pt] (.Tuple [a, b] k2 pt2) X.env = pure (some [x, y]))
    (hs : swapsWithSole [.Tuple [.Name x px, .Name y py] kt pt] (.Tuple [a, b] k2 pt2) pos.line X.env = pure false := by rfl) :
    MX X kd rk (.Assign [.Tuple [.Name x px, .Name y py] kt pt] (.Tuple [a, b] k2 pt2) pos) (tPar i j tl) (xPar i j g) := by
  refine ⟨ps_par hc hN hi hj hij hx hy ha.pe hw hs, fun B0 P O ρ σ H o Dn S hf k => ?_⟩
  obtain ⟨⟨ds, ρ1⟩, q1, q2⟩ := bind_some hf
  obtain ⟨⟨d, e⟩, q3, q4⟩ := map_some q2
  subst q4
  have e3 : ds = [d, e] := by
    have q3 : pairOf ds = some (d, e) := q3
    unfold pairOf at q3
    split at q3
    · cases q3; rfl
    · cases q3
  subst e3
  refine ha.ev B0 P O ρ σ H _ ρ1 _ S q1 fun vs O1 H1 s1 S1 r => ?_
  unfold RpA at r
  obtain ⟨v, vs, rfl, r1, r2⟩ := r
  unfold RpA at r2
  obtain ⟨w, ws, rfl, r2, r3⟩ := r2
  unfold RpA at r3
  subst r3
  exact ⟨v, w, rfl, k O1 _ H1 s1 ⟨(S1.rho.putS ki r1).putS kj r2, S1.dis⟩⟩
/-- l[k] = e, l a list of this frame -/
def fSetL (i : Nat) (fk fv : Fx) : Fs := fun ρ => (fv ρ).bind fun d => (fk ρ).bind fun n => match ρ[i]?, n with
  | some (some (.list ds)), .int z => (ixN ds.length z).map fun j => .nx (ρ.set i (some (.list (ds.set j d))))
  | _, _ => none
theorem mx_setL {i : Nat} {x : Str} {px : Pos} {kx v : Expr} {tk tv : TE} {fk fv : Fx} {spos : Pos} (h : PE X (.Name x px) (tVar i)) (hc : chg (kd i) = true) (hk : MV X kd kx tk fk) (hv : ME X kd v tv fv)
    (hs : swapsWithSole [.Subscript (.Name x px) kx spos] v pos.line X.env = pure false := by rfl) (hw : swappedStores [.Subscript (.Name x px) kx spos] v X.env = pure none := by rfl)
    (h1 : (assignEach [.Subscript (.Name x px) kx spos] X.env).map (·.2) = [assign (.Subscript (.Name x px) kx spos) X.env] := by rfl)
    (hsub : ∀ v, assign (.Subscript (.Name x px) kx spos) X.env v = (do
      let ov ← holding [v] (eval (.Name x px) X.env)
      let iv ← holding [v, ov] (eval kx X.env)
      standAt spos
      holding [v, ov, iv] (setItem ov iv v)
      release [v, ov, iv] []) := by intro _; rfl) :
    MX X kd rk (.Assign [.Subscript (.Name x px) kx spos] v pos) (tAsg tv (gSub (tVar i) tk rSetL)) (fSetL i fk fv) := by
  refine ⟨ps_asg hv.pe (pg_sub h hk.pe set_list hsub) hs hw h1, fun B0 P O ρ σ H o Dn S hf k => ?_⟩
  obtain ⟨d, q1, q2⟩ := bind_some hf
  obtain ⟨n, q3, q4⟩ := bind_some q2
  split at q4
  · rename_i ds z hi
    obtain ⟨j, q5, q6⟩ := map_some q4
    subst q6
    refine hv.ev (B0 ++ O) O P ρ σ H d _ S.rho q1 fun u H1 s1 r => ?_
    obtain ⟨a, w1, w2, xs, w3, w4⟩ := (S.same s1).rho.at hc hi
    refine ⟨_, w1, hk.ev (B0 ++ O) O P ρ σ H1 _ _ (S.same s1).rho q3 fun iv H2 s2 r2 => ?_⟩
    have so := soft_lst (s2 a _ w3)
    have kA : Kp [a] H2 (upd H2 a (.lst (xs.set j u))) := Kp.upd (by simp) so
    have sA : ∀ y ∈ [a], y ∈ B0 ++ O := fun y hy => by rw [List.mem_singleton.mp hy]; exact (List.mem_append.mp w2).elim (S.rho.subO a) (S.rho.subP a)
    refine ⟨a, xs, z, j, rfl, v_int r2, s2 a _ w3, by rw [w4.length]; exact q5, k O σ _ ((Stp.same (s1.trans s2)).trans (Stp.mut w2 so)) ⟨(S.same (s1.trans s2)).rho.mutK hc hi w1 w2 kA ?_, S.dis⟩⟩
    exact ⟨_, upd_same, RpA.kp kA sA _ _ (RpA.set j (w4.same s2) (r.same s2))⟩
  · cases q4
end
end Mx

/-! THE MIRROR LAYER, part 8: further rules. -/
namespace Mx
open PySem PySem.Spec L2 PyProof.Rows

/-! no call is allowed -/
section
variable {P : Program} {w : World} {K : PySem.W.Frag} {mg : Str → Option Value} {base : Heap} {N ps : List Str} {x qual : Str} {st : Stmt} {f : Addr} {fd : FuncData} {k : Nat}
theorem fn_none_spD (Fu : FunD K x qual (defArgs st) (defBody st) (defScope st) [] [] f fd) (S : FnScope N ps (defScope st)) : FnOk P w K mg base CX0 k f fd ps (spD K fun _ => none) :=
  ⟨fun vs H Q E ⟨B, ds, d, al, r, e, _⟩ => (nomatch e), fun A outer s H args us vs Q E _ _ _ _ ⟨B, ds, d, al, r, e, _⟩ => (nomatch e)⟩
theorem fn_none_spN (Fu : FunD K x qual (defArgs st) (defBody st) (defScope st) [] [] f fd) (S : FnScope N ps (defScope st)) : FnOk P w K mg base CX0 k f fd ps (spN K fun _ => none) :=
  ⟨fun vs H Q E ⟨B, ds, d, al, r, e, _⟩ => (nomatch e), fun A outer s H args us vs Q E _ _ _ _ ⟨B, ds, d, al, r, e, _⟩ => (nomatch e)⟩
end

section
variable {X : Cx} {kd : Nat → SK} {e a b : Expr} {es : List Expr} {t ta tb te : TE} {f fa fb : Fx} {pos : Pos}
/-! list(range(n)), tuple(range(n)) -/
theorem rg_rel {K : PySem.W.Frag} {B : List Addr} {H : Hp} (lo hi : Int) : RpA K B H (upTo lo hi) (rgV lo hi) := by
  have e1 : upTo lo hi = ((List.range (hi - lo).toNat).map fun (i : Nat) => lo + (i : Int)).map PyData.int := by unfold upTo; rw [List.map_map]; rfl
  have e2 : rgV lo hi = ((List.range (hi - lo).toNat).map fun (i : Nat) => lo + (i : Int)).map V.int := by unfold rgV; rw [List.map_map]; rfl
  rw [e1, e2]
  exact RpA.of_ints _
def dLstRg : D → Option D
  | .int n => if 0 ≤ n ∧ n ≤ 100000 then some (.list (upTo 0 n)) else none
  | _ => none
def dTupRg : D → Option D
  | .int n => if 0 ≤ n ∧ n ≤ 100000 then some (.tuple (upTo 0 n)) else none
  | _ => none
theorem mn_lstRg {p p2 pos2 : Pos} (hg : Gl X "list") (hm : X.mg "list" = none) (hg2 : Gl X "range") (hm2 : X.mg "range" = none) (ha : MV X kd a ta fa) (hc : X.calm = true := by rfl) (na : starEach [a] X.env = (false, eval a X.env) :: starEach [] X.env := by rfl)
    (nb : starEach [.Call (.Name "range" p2) [a] [] pos2] X.env = (false, eval (.Call (.Name "range" p2) [a] [] pos2) X.env) :: starEach [] X.env := by rfl) :
    MN X kd (.Call (.Name "list" p) [.Call (.Name "range" p2) [a] [] pos2] [] pos) (tLstRg (tRg1 ta)) (f1 dLstRg fa) := by
  refine ⟨pe_listRg hc hg hm (prg_1 hg2 hm2 ha.pe na) nb, fun B O P ρ σ H d Q R hf k => ?_⟩
  obtain ⟨d', h1, h2⟩ := bind_some hf
  refine ha.ev B O P ρ σ H d' _ R h1 fun v H1 s1 r => ?_
  cases d' with
  | int n =>
    have h2 : (if 0 ≤ n ∧ n ≤ 100000 then some (PyData.list (upTo 0 n)) else none) = some d := h2
    split at h2
    · rename_i hn
      cases h2
      refine ⟨n, v_int r, RgOk.of_le (by omega) (by omega) (by omega) (by omega), fun q hq => ?_⟩
      exact k q _ (fresh_of s1 hq) (s1.trans (same_new hq _)) (rpm_new hq (rg_rel 0 n))
    · cases h2
  | _ => cases h2
def tTupRgF (te : L2.St → Hp → (Int → Int → Hp → Prop) → Prop) : TE := fun σ H Q => te σ H fun a b H1 => RgOk a b ∧ ∀ q ob, H1 q = none → ob.dict = none → Q (.ref q) (upd H1 q (.frz ob (.tup (rgV a b))))
theorem pe_tupRgF {te : L2.St → Hp → (Int → Int → Hp → Prop) → Prop} {e : Expr} {p pos : Pos} (hc : X.calm = true) (hg : Gl X "tuple") (hm : X.mg "tuple" = none) (he : PRg X e te) (na : starEach [e] X.env = (false, eval e X.env) :: starEach [] X.env := by rfl) : PE X (.Call (.Name "tuple" p) [e] [] pos) (tTupRgF te) := by
  refine ⟨fun pn s0 sg G Q J h => ?_⟩
  refine Call_ (ld_blt J hg hm boot_tuple (PyProof.Rows.callWith_type1 (args_cons (thn (he pn s0 sg G _ J h) fun x s1 ⟨r, a, b, t, u, v, G1, ex, hr, J1, ok, q⟩ => args_nil ?_) na) na))
  subst ex
  obtain ⟨b1, b2, b3, b4, b5⟩ := ok
  refine call_tuple_range (n := (b - a).toNat) (J1.ok.hd hc) hr (small_one b1 b2 b3 b4) (rangeSize_nat a b) b5 fun h' tk acc hk hi => ?_
  have J2 : Inv X pn sg G1 { s1 with heap := h', toks := tk } := J1.kept hk
  have n0 : ∀ ob : Obj, ob = { cls := .type "tuple", data := .seq acc.toList.toArray } → ObjOk X.prog X.w (upd G1 h'.objs.size (.frz ob (.tup (rgV a b)))) (h'.push ob) h'.objs.size (.frz ob (.tup (rgV a b))) := fun ob eb => by
    subst eb
    exact ⟨Heap.get?_push_size _ rfl, by rw [rgV_length, sizeLine_eq]; omega, acc.toList, vals_rg hi, IsTup.new _ _⟩
  exact ⟨.ref h'.objs.size, _, J2.laid (t' := tk) (fun c o e => Heap.get?_push_of_some _ e) (Nat.le_refl _) (n0 _ (by rw [Array.toArray_toList])), rfl, q _ _ (J2.hok.fresh (Nat.le_refl _)) rfl⟩
theorem me_tupRg {p p2 pos2 : Pos} (hg : Gl X "tuple") (hm : X.mg "tuple" = none) (hg2 : Gl X "range") (hm2 : X.mg "range" = none) (ha : MV X kd a ta fa) (hc : X.calm = true := by rfl) (na : starEach [a] X.env = (false, eval a X.env) :: starEach [] X.env := by rfl)
    (nb : starEach [.Call (.Name "range" p2) [a] [] pos2] X.env = (false, eval (.Call (.Name "range" p2) [a] [] pos2) X.env) :: starEach [] X.env := by rfl) :
    ME X kd (.Call (.Name "tuple" p) [.Call (.Name "range" p2) [a] [] pos2] [] pos) (tTupRgF (tRg1 ta)) (f1 dTupRg fa) := by
  refine ⟨pe_tupRgF hc hg hm (prg_1 hg2 hm2 ha.pe na) nb, fun B O P ρ σ H d Q R hf k => ?_⟩
  obtain ⟨d', h1, h2⟩ := bind_some hf
  refine ha.ev B O P ρ σ H d' _ R h1 fun v H1 s1 r => ?_
  cases d' with
  | int n =>
    have h2 : (if 0 ≤ n ∧ n ≤ 100000 then some (PyData.tuple (upTo 0 n)) else none) = some d := h2
    split at h2
    · rename_i hn
      cases h2
      refine ⟨n, v_int r, RgOk.of_le (by omega) (by omega) (by omega) (by omega), fun q ob hq hd => ?_⟩
      exact k _ _ (s1.trans (same_new hq _)) (rp_tup ⟨ob, hd, upd_same⟩ (rg_rel 0 n))
    · cases h2
  | _ => cases h2
/-! min of a list of data -/
def dMin : List D → Option D
  | [.list (x :: xs)] => if (dataOk (x :: xs) && (x :: xs).all (fun d => !isNo d) && (x :: xs).all shal) = true then some (PySem.W.minD x xs) else none
  | _ => none
end
end Mx

/-! THE MIRROR LAYER, part 9: dicts whose keys are tuples. -/
namespace Mx
open PySem PySem.Spec L2 PyProof.Rows

/-! ### keys -/
mutual
def keyD : D → Option NK
  | .none => some .none
  | .int i => some (.num i)
  | .tuple ds => (keyDs ds).map .tup
  | _ => none
def keyDs : List D → Option (List NK)
  | [] => some []
  | d :: ds => (keyD d).bind fun k => (keyDs ds).map fun ks => k :: ks
end
mutual
theorem keyD_data : ∀ (d : D) (k : NK), keyD d = some k → k.data = d ∧ noTx k = true
  | .none, k, h => by unfold keyD at h; cases h; unfold NestedKey.data noTx; exact ⟨rfl, rfl⟩
  | .int i, k, h => by unfold keyD at h; cases h; unfold NestedKey.data noTx; exact ⟨rfl, rfl⟩
  | .tuple ds, k, h => by
    unfold keyD at h
    obtain ⟨ks, h1, h2⟩ := map_some h
    subst h2
    obtain ⟨e1, e2⟩ := keyDs_data ds ks h1
    unfold NestedKey.data noTx
    rw [e1]; exact ⟨rfl, e2⟩
  | .bool _, k, h => by unfold keyD at h; cases h
  | .str _, k, h => by unfold keyD at h; cases h
  | .list _, k, h => by unfold keyD at h; cases h
  | .dict _, k, h => by unfold keyD at h; cases h
theorem keyDs_data : ∀ (ds : List D) (ks : List NK), keyDs ds = some ks → NestedKey.datas ks = ds ∧ noTxs ks = true
  | [], k, h => by unfold keyDs at h; cases h; unfold NestedKey.datas noTxs; exact ⟨rfl, rfl⟩
  | d :: ds, k, h => by
    unfold keyDs at h
    obtain ⟨k1, h1, h2⟩ := bind_some h
    obtain ⟨ks, h3, h4⟩ := map_some h2
    subst h4
    obtain ⟨e1, e2⟩ := keyD_data d k1 h1
    obtain ⟨e3, e4⟩ := keyDs_data ds ks h3
    unfold NestedKey.datas noTxs
    rw [e1, e3, e2, e4]; exact ⟨rfl, rfl⟩
end
mutual
theorem keyD_of : ∀ (k : NK), noTx k = true → keyD k.data = some k
  | .none, _ => by unfold NestedKey.data keyD; rfl
  | .num i, _ => by unfold NestedKey.data keyD; rfl
  | .text _, h => by unfold noTx at h; cases h
  | .tup ks, h => by unfold noTx at h; unfold NestedKey.data keyD; rw [keyDs_of ks h]; rfl
theorem keyDs_of : ∀ (ks : List NK), noTxs ks = true → keyDs (NestedKey.datas ks) = some ks
  | [], _ => by unfold NestedKey.datas keyDs; rfl
  | k :: ks, h => by
    unfold noTxs at h
    rw [Bool.and_eq_true] at h
    unfold NestedKey.datas keyDs
    rw [keyD_of k h.1, keyDs_of ks h.2]; rfl
end
section
variable {K : PySem.W.Frag} {B : List Addr} {H : Hp}
mutual
theorem nkv_of : ∀ (d : D) (k : NK) (v : V), keyD d = some k → Rp K B H d v → NkV H k v
  | .none, k, v, h, r => by unfold keyD at h; cases h; unfold Rp at r; unfold NkV; exact r
  | .int i, k, v, h, r => by unfold keyD at h; cases h; unfold Rp at r; unfold NkV; exact r
  | .tuple ds, k, v, h, r => by
    unfold keyD at h
    obtain ⟨ks, h1, h2⟩ := map_some h
    subst h2
    unfold Rp at r
    obtain ⟨a, xs, e, q, r⟩ := r
    unfold NkV
    exact ⟨a, xs, e, q, nkvs_of ds ks xs h1 r⟩
  | .bool _, k, v, h, r => by unfold keyD at h; cases h
  | .str _, k, v, h, r => by unfold keyD at h; cases h
  | .list _, k, v, h, r => by unfold keyD at h; cases h
  | .dict _, k, v, h, r => by unfold keyD at h; cases h
theorem nkvs_of : ∀ (ds : List D) (ks : List NK) (xs : List V), keyDs ds = some ks → RpA K B H ds xs → NkVs H ks xs
  | [], k, v, h, r => by unfold keyDs at h; cases h; unfold RpA at r; unfold NkVs; exact r
  | d :: ds, k, v, h, r => by
    unfold keyDs at h
    obtain ⟨k1, h1, h2⟩ := bind_some h
    obtain ⟨ks, h3, h4⟩ := map_some h2
    subst h4
    unfold RpA at r
    obtain ⟨x, t, e, r1, r2⟩ := r
    unfold NkVs
    exact ⟨x, t, e, nkv_of d k1 x h1 r1, nkvs_of ds ks t h3 r2⟩
end
mutual
/-- a key's value as data again -/
theorem rp_of_nkv : ∀ (k : NK) (v : V), NkV H k v → Rp K B H k.data v
  | .none, v, h => by unfold NkV at h; unfold NestedKey.data Rp; exact h
  | .num i, v, h => by unfold NkV at h; unfold NestedKey.data Rp; exact h
  | .text x, v, h => by unfold NkV at h; exact h.elim
  | .tup ks, v, h => by
    unfold NkV at h
    obtain ⟨a, xs, e, q, r⟩ := h
    unfold NestedKey.data Rp
    exact ⟨a, xs, e, q, rpa_of_nkv ks xs r⟩
theorem rpa_of_nkv : ∀ (ks : List NK) (vs : List V), NkVs H ks vs → RpA K B H (NestedKey.datas ks) vs
  | [], v, h => by unfold NkVs at h; unfold NestedKey.datas RpA; exact h
  | k :: ks, v, h => by
    unfold NkVs at h
    obtain ⟨x, t, e, r1, r2⟩ := h
    unfold NestedKey.datas RpA
    exact ⟨x, t, e, rp_of_nkv k x r1, rpa_of_nkv ks t r2⟩
end
end
section
variable {P : Program} {w : World} {H : Hp} {h : Heap}
mutual
theorem nested_of (ok : HOk P w H h) : ∀ (k : NK) (v : V) (u : Value), NkV H k v → RelV v u → NestedIs h k u
  | .none, v, u, r, e => by unfold NkV at r; subst r; cases e; exact .none
  | .num i, v, u, r, e => by unfold NkV at r; subst r; obtain ⟨t, rfl⟩ := e; exact .int i t
  | .text i, v, u, r, e => by unfold NkV at r; exact r.elim
  | .tup ks, v, u, r, e => by
    unfold NkV at r
    obtain ⟨a, xs, rfl, q, r⟩ := r
    cases e
    obtain ⟨ob, _, q⟩ := q
    obtain ⟨_, _, its, rv, o, h1, h2, n, h3⟩ := (show ObjOk P w H h a (.frz ob (.tup xs)) from ok a _ q)
    exact .tup h1 h2 h3 (by simpa using nestedAll_of ok ks xs its r rv)
theorem nestedAll_of (ok : HOk P w H h) : ∀ (ks : List NK) (vs : List V) (us : List Value), NkVs H ks vs → Vals vs us → NestedAll h ks us
  | [], v, u, r, e => by unfold NkVs at r; subst r; cases e; exact .nil
  | k :: ks, v, u, r, e => by
    unfold NkVs at r
    obtain ⟨x, t, rfl, r1, r2⟩ := r
    cases e with
    | cons e1 e2 => exact .cons (nested_of ok k x _ r1 e1) (nestedAll_of ok ks t _ r2 e2)
end
end

/-! ### what stands there -/
abbrev NRs := List (NK × Addr × V)
def NAt (H : Hp) (a : Addr) (xs : NRs) : Prop := ((∃ p ps, xs = p :: ps ∧ H a = some (NDic a xs)) ∨ (xs = [] ∧ H a = some (.dK []))) ∧ ∀ x ∈ xs, noTx x.1 = true ∧ x.1.depth ≤ 8 ∧ NkV H x.1 (.ref x.2.1)
def atN (xs : NRs) (k : NK) : Option V := (xs.find? fun x => decide (x.1 = k)).map (·.2.2)
def putN (xs : NRs) (k : NK) (b : Addr) (v : V) : NRs := if (atN xs k).isSome then xs.map fun x => if x.1 = k then (x.1, x.2.1, v) else x else xs ++ [(k, b, v)]
theorem putN_ne {xs : NRs} {k : NK} {b : Addr} {v : V} : putN xs k b v ≠ [] := by
  unfold putN
  split
  · rename_i h
    intro e
    rw [List.map_eq_nil_iff] at e
    subst e
    cases h
  · simp
section
variable {P : Program} {w : World} {H : Hp} {h : Heap} {xs : NRs} {ys : List (NK × Addr × Value)} {k : NK}
theorem nrow_at (r : Paired NRow xs ys) (k : NK) : RelO (atN xs k) ((atKey ys k).map (·.2)) := by
  induction r with
  | nil => exact True.intro
  | @cons p q ps qs hq t ih =>
    by_cases e : p.1 = k
    · have e2 : q.1 = k := hq.1 ▸ e
      simp [atN, atKey, e, e2]
      exact hq.2.2
    · have e2 : ¬ q.1 = k := hq.1 ▸ e
      simpa [atN, atKey, e, e2] using ih
theorem nrow_put {v : V} {u : Value} {b : Addr} (r : Paired NRow xs ys) (k : NK) (rv : RelV v u) : Paired NRow (putN xs k b v) (storedH ys k b u) := by
  have e := (nrow_at r k).isSome_eq
  rw [Option.isSome_map] at e
  unfold putN storedH
  rw [e]
  split
  · clear e
    rename_i z
    clear z
    induction r with
    | nil => exact .nil
    | @cons p q ps qs hq t ih =>
      refine .cons ?_ ih
      by_cases e : p.1 = k
      · have e2 : q.1 = k := hq.1 ▸ e
        simp [putAt, e, e2, NRow, hq.2.1]
        exact rv
      · have e2 : ¬ q.1 = k := hq.1 ▸ e
        simp [putAt, e, e2]
        exact hq
  · exact Paired.snoc r ⟨rfl, rfl, rv⟩
theorem rows_is (ok : HOk P w H h) (r : Paired NRow xs ys) (q : ∀ x ∈ xs, noTx x.1 = true ∧ x.1.depth ≤ 8 ∧ NkV H x.1 (.ref x.2.1)) : ∀ y ∈ ys, noTx y.1 = true ∧ (nestedKind P w).is h y.1 y.2.1 := by
  induction r with
  | nil => intro y hy; cases hy
  | @cons p z ps qs hq t ih =>
    intro y hy
    rcases List.mem_cons.mp hy with e | hy
    · subst e
      obtain ⟨q1, q2, q3⟩ := q p (by simp)
      rw [← hq.1, ← hq.2.1]
      exact ⟨q1, nested_of ok _ _ _ q3 rfl, q2⟩
    · exact ih (fun x hx => q x (by simp [hx])) y hy
theorem entries_eq (hy : ∀ y ∈ ys, noTx y.1 = true) : (ys.map fun y => (⟨h0 y.1, .ref y.2.1, y.2.2⟩ : DictEntry)) = ys.map (entryOfKey (nestedKind P w)) := by
  refine List.map_congr_left fun y m => ?_
  show _ = (⟨NestedKey.hash w y.1, .ref y.2.1, y.2.2⟩ : DictEntry)
  rw [h0_eq w _ (hy y m)]
theorem nat_ok {a : Addr} (ok : HOk P w H h) (n : NAt H a xs) : xs.length ≤ sizeLine ∧ (a == sysModules) = false ∧ ∃ ys, Paired NRow xs ys ∧ h.DictOfH (nestedKind P w) a ys := by
  obtain ⟨n, q⟩ := n
  rcases n with ⟨p, ps, e, n⟩ | ⟨rfl, n⟩
  · obtain ⟨⟨z, hd, ys, r, nd, o, es, ep, h1, h2, h3, h4⟩, _⟩ := (show ObjOk P w H h a (NDic a xs) from ok a _ n)
    have s := rows_is ok r q
    exact ⟨z, hd, ys, r, o, es, ep, h1, h2, h3, by rw [h4]; exact entries_eq fun y m => (s y m).1, fun y m => (s y m).2, nd⟩
  · obtain ⟨z, hd, vs, r, dd⟩ := dk_of ok n
    cases r
    obtain ⟨o, es, ep, h1, h2, h3, h4⟩ := dd
    refine ⟨z, hd, [], .nil, o, es, ep, h1, h2, h3, ?_, fun y m => (by cases m), List.nodup_nil⟩
    cases hl : es.toList with
    | nil => rfl
    | cons x t =>
      have e2 := h4.2.1
      rw [hl] at e2
      cases e2
end

/-! ### k in d, d[k], d[k] = v -/
def findD (kvs : List (D × D)) (k : NK) : Option D := (kvs.find? fun p => decide (keyD p.1 = some k)).map (·.2)
def putD (kvs : List (D × D)) (dk : D) (k : NK) (v : D) : List (D × D) := if (findD kvs k).isSome then kvs.map fun p => if keyD p.1 = some k then (p.1, v) else p else kvs ++ [(dk, v)]
/-- a tuple that may be a key -/
def keyT (d : D) : Option NK := (keyD d).bind fun k => match k with
  | .tup ks => if (NestedKey.tup ks).depth ≤ 8 then some (.tup ks) else none
  | _ => none
theorem keyT_at {d : D} {k : NK} (h : keyT d = some k) : keyD d = some k ∧ (∃ ks, k = .tup ks) ∧ k.depth ≤ 8 := by
  unfold keyT at h
  obtain ⟨k', h1, h2⟩ := bind_some h
  split at h2
  · split at h2
    · rename_i hd
      cases h2
      exact ⟨h1, ⟨_, rfl⟩, hd⟩
    · cases h2
  · cases h2
def asDict : D → Option (List (D × D))
  | .dict kvs => some kvs
  | _ => none
/-- a dict whose keys are all tuples -/
def tupKeys (kvs : List (D × D)) : Bool := kvs.all fun p => match p.1 with
  | .tuple _ => true
  | _ => false
def dInN (neg : Bool) : D → D → Option D := fun dk dd => (asDict dd).bind fun kvs => (keyT dk).bind fun k => if tupKeys kvs = true then some (.bool (if neg then !(findD kvs k).isSome else (findD kvs k).isSome)) else none
def dIxN : D → D → Option D := fun dd dk => (asDict dd).bind fun kvs => (keyT dk).bind fun k => if tupKeys kvs = true then findD kvs k else none
def dPutN : D → D → D → Option D := fun dd dk dv => (asDict dd).bind fun kvs => (keyT dk).bind fun k => if (tupKeys kvs && decide (kvs.length < 100000)) = true then some (.dict (putD kvs dk k dv)) else none
section
variable {K : PySem.W.Frag} {B : List Addr} {H : Hp} {kvs : List (D × D)} {a : Addr}
theorem nat_of (h : RpM K B H (.dict kvs) a) (t : tupKeys kvs = true) : ∃ xs, NAt H a xs ∧ RpN K B H kvs xs := by
  rcases h with ⟨ps, q, e, r⟩ | ⟨p, ps, q, r⟩
  · cases kvs with
    | nil =>
      cases ps with
      | nil => exact ⟨[], ⟨.inr ⟨rfl, q⟩, fun x hx => nomatch hx⟩, ⟨rfl, fun x hx => (nomatch hx), RpA.nil⟩⟩
      | cons _ _ => simp at e
    | cons kv kvs =>
      cases ps with
      | nil => simp at e
      | cons p ps =>
        rw [List.map_cons, List.map_cons] at e
        injection e with e1 e2
        unfold tupKeys at t
        rw [List.all_cons, Bool.and_eq_true, e1] at t
        rcases p with ⟨i | i, v⟩
        · exact absurd t.1 (by simp [kD])
        · exact absurd t.1 (by simp [kD])
  · exact ⟨p :: ps, ⟨.inl ⟨p, ps, rfl, q⟩, r.ok⟩, r⟩
theorem find_rel {xs : NRs} (r : RpN K B H kvs xs) (k : NK) : (findD kvs k = none ∧ atN xs k = none) ∨ ∃ d v, findD kvs k = some d ∧ atN xs k = some v ∧ Rp K B H d v := by
  obtain ⟨e, ok, vs⟩ := r
  induction xs generalizing kvs with
  | nil =>
    cases kvs with
    | nil => exact .inl ⟨rfl, rfl⟩
    | cons _ _ => simp at e
  | cons x xs ih =>
    cases kvs with
    | nil => simp at e
    | cons p kvs =>
      rw [List.map_cons, List.map_cons] at e vs
      injection e with e1 e2
      unfold RpA at vs
      obtain ⟨y, t, e3, r1, r2⟩ := vs
      injection e3 with e3 e4
      have kx : keyD p.1 = some x.1 := by rw [e1]; exact keyD_of _ (ok x (by simp)).1
      by_cases c : x.1 = k
      · refine .inr ⟨p.2, x.2.2, ?_, ?_, by rw [e3]; exact r1⟩
        · simp [findD, kx, c]
        · simp [atN, c]
      · have := ih (kvs := kvs) e2 (fun z hz => ok z (by simp [hz])) (by rw [e4]; exact r2)
        simpa [findD, atN, kx, c] using this
theorem isSome_rel {xs : NRs} (r : RpN K B H kvs xs) (k : NK) : (findD kvs k).isSome = (atN xs k).isSome := by
  rcases find_rel r k with ⟨h1, h2⟩ | ⟨d, v, h1, h2, _⟩ <;> rw [h1, h2] <;> rfl
theorem put_rel {xs : NRs} {dk dv : D} {k : NK} {b : Addr} {v : V} (r : RpN K B H kvs xs) (hk : keyD dk = some k) (dp : k.depth ≤ 8) (kb : NkV H k (.ref b)) (rv : Rp K B H dv v) : RpN K B H (putD kvs dk k dv) (putN xs k b v) := by
  have e := isSome_rel r k
  unfold putD putN
  rw [e]
  by_cases c : (atN xs k).isSome = true
  · rw [if_pos c, if_pos c]
    clear e c
    obtain ⟨e, ok, vs⟩ := r
    induction xs generalizing kvs with
    | nil =>
      cases kvs with
      | nil => exact ⟨rfl, fun x hx => (nomatch hx), RpA.nil⟩
      | cons _ _ => simp at e
    | cons x xs ih =>
      cases kvs with
      | nil => simp at e
      | cons p kvs =>
        rw [List.map_cons, List.map_cons] at e vs
        injection e with e1 e2
        unfold RpA at vs
        obtain ⟨y, t, e3, r1, r2⟩ := vs
        injection e3 with e3 e4
        obtain ⟨i1, i2, i3⟩ := ih (kvs := kvs) e2 (fun z hz => ok z (by simp [hz])) (by rw [e4]; exact r2)
        have kx : keyD p.1 = some x.1 := by rw [e1]; exact keyD_of _ (ok x (by simp)).1
        have ox := ok x (by simp)
        by_cases c : x.1 = k
        · refine ⟨?_, ?_, ?_⟩
          · rw [List.map_cons, List.map_cons, List.map_cons, List.map_cons, i1, if_pos c, if_pos (by rw [kx, c])]
            show p.1 :: _ = x.1.data :: _
            rw [e1]
          · intro z hz
            rcases List.mem_cons.mp hz with q | q
            · rw [q]
              show noTx (if x.1 = k then (x.1, x.2.1, v) else x).1 = true ∧ (if x.1 = k then (x.1, x.2.1, v) else x).1.depth ≤ 8 ∧ NkV H (if x.1 = k then (x.1, x.2.1, v) else x).1 (.ref (if x.1 = k then (x.1, x.2.1, v) else x).2.1)
              rw [if_pos c]; exact ox
            · exact i2 z q
          · rw [List.map_cons, List.map_cons, List.map_cons, List.map_cons, if_pos c, if_pos (by rw [kx, c])]
            exact RpA.cons rv i3
        · have c2 : ¬ (keyD p.1 = some k) := by rw [kx]; simpa using c
          refine ⟨?_, ?_, ?_⟩
          · rw [List.map_cons, List.map_cons, List.map_cons, List.map_cons, i1, if_neg c, if_neg c2, e1]
          · intro z hz
            rcases List.mem_cons.mp hz with q | q
            · rw [q]
              show noTx (if x.1 = k then (x.1, x.2.1, v) else x).1 = true ∧ (if x.1 = k then (x.1, x.2.1, v) else x).1.depth ≤ 8 ∧ NkV H (if x.1 = k then (x.1, x.2.1, v) else x).1 (.ref (if x.1 = k then (x.1, x.2.1, v) else x).2.1)
              rw [if_neg c]; exact ox
            · exact i2 z q
          · rw [List.map_cons, List.map_cons, List.map_cons, List.map_cons, if_neg c, if_neg c2]
            exact RpA.cons (by rw [e3]; exact r1) i3
  · rw [if_neg c, if_neg c]
    refine ⟨?_, ?_, ?_⟩
    · rw [List.map_append, List.map_append, r.ks]
      simp [(keyD_data dk k hk).1]
    · intro x hx
      rcases List.mem_append.mp hx with q | q
      · exact r.ok x q
      · rw [List.mem_singleton.mp q]; exact ⟨(keyD_data dk k hk).2, dp, kb⟩
    · rw [List.map_append, List.map_append]
      exact r.vs.append (RpA.cons rv RpA.nil)
end

def NGet (H : Hp) (a : Addr) (y : V) (o : Option V) : Prop := ∃ xs k b, NAt H a xs ∧ y = .ref b ∧ NkV H k y ∧ k.depth ≤ 8 ∧ o = atN xs k
section
variable {X : Cx}
theorem room8 {A : Around} (hu : A.units + 64 < cLine) (P : Program) (w : World) : (nestedKind P w).room A.in1 := by
  show A.in1.units + 8 < cLine
  have : A.in1.units = A.units + 1 := rfl
  omega
def rInN (neg : Bool) : R2 := fun y x H Q => ∃ a o, x = .ref a ∧ NGet H a y o ∧ Q (.bl (if neg then !o.isSome else o.isSome)) H
theorem op_inN (hu : X.A.units + 64 < cLine) : OpR X (compareOp .In) (rInN false) := by
  intro pn s0 sg G y x v u Q J ry rx ⟨a, o, e, ⟨xs, k, b, n, e2, kv, dp, e3⟩, q⟩
  subst e e2 e3
  cases rx
  obtain rfl : v = Value.ref b := ry
  obtain ⟨z, hd, ys, r, dd⟩ := nat_ok J.hok n
  have e4 : (atN xs k).isSome = (valueAt (pairsH ys) k).isSome := by rw [valueAt_pairsH]; exact (nrow_at r k).isSome_eq
  refine in_keyed (room8 hu _ _) (k := k) ⟨nested_of J.hok k _ _ kv rfl, dp⟩ hd ⟨ys, dd, rfl⟩ ⟨.bl ((atN xs k).isSome), G, J.tok _, ?_, q⟩
  rw [e4]; rfl
theorem op_notInN (hu : X.A.units + 64 < cLine) : OpR X (compareOp .NotIn) (rInN true) := by
  intro pn s0 sg G y x v u Q J ry rx ⟨a, o, e, ⟨xs, k, b, n, e2, kv, dp, e3⟩, q⟩
  subst e e2 e3
  cases rx
  obtain rfl : v = Value.ref b := ry
  obtain ⟨z, hd, ys, r, dd⟩ := nat_ok J.hok n
  have e4 : (atN xs k).isSome = (valueAt (pairsH ys) k).isSome := by rw [valueAt_pairsH]; exact (nrow_at r k).isSome_eq
  refine notIn_keyed (room8 hu _ _) (k := k) ⟨nested_of J.hok k _ _ kv rfl, dp⟩ hd ⟨ys, dd, rfl⟩ ⟨.bl (!(atN xs k).isSome), G, J.tok _, ?_, q⟩
  rw [e4]; rfl
def rIxN : R2 := fun x y H Q => ∃ a v, x = .ref a ∧ NGet H a y (some v) ∧ Q v H
theorem ix_N (hu : X.A.units + 64 < cLine) : IxR X rIxN := by
  intro value slice pn s0 sg G x y v u Q J rx ry ⟨a, z, e, ⟨xs, k, b, n, e2, kv, dp, e3⟩, q⟩ hs
  subst e e2
  cases rx
  obtain rfl : u = Value.ref b := ry
  obtain ⟨_, hd, ys, r, dd⟩ := nat_ok J.hok n
  have ra := nrow_at r k
  rw [← e3] at ra
  obtain ⟨w', hw, rw'⟩ := RelO.some_of ra
  exact subscriptTail_builtinR (x := w') dd.typeIs PySem.F.slot_dict_getitem.lookup
    (getItem_keyed (room8 hu _ _) (k := k) ⟨nested_of J.hok k _ _ kv rfl, dp⟩ ⟨ys, dd, rfl⟩ (by rw [valueAt_pairsH]; exact hw) ⟨rfl, z, G, J.tok _, rw', q⟩) hs
end
theorem rp_tup_of {K : PySem.W.Frag} {B : List Addr} {H : Hp} {d : D} {k : NK} {v : V} (h : keyT d = some k) (r : RpV K B H d v) : ∃ b, v = .ref b ∧ NkV H k v ∧ noTx k = true ∧ k.depth ≤ 8 := by
  obtain ⟨h1, ⟨ks, h2⟩, h3⟩ := keyT_at h
  have r' : Rp K B H d v := by
    rcases r with r | ⟨a, e, r⟩
    · exact r
    · cases d with
      | tuple ds => exact r.elim
      | list ds => unfold keyD at h1; cases h1
      | dict ds => unfold keyD at h1; cases h1
      | none => exact r.elim
      | bool _ => exact r.elim
      | int _ => exact r.elim
      | str _ => exact r.elim
  have n := nkv_of d k v h1 r'
  have n2 := n
  rw [h2] at n2
  unfold NkV at n2
  obtain ⟨b, xs, e, _⟩ := n2
  exact ⟨b, e, n, (keyD_data d k h1).2, h3⟩
section
variable {K : PySem.W.Frag}
theorem v2_inN (neg : Bool) : V2 K (rInN neg) (dInN neg) := by
  intro B H x y dx dy d Q al hx hy e k
  obtain ⟨kvs, h1, h2⟩ := bind_some e
  obtain ⟨key, h3, h4⟩ := bind_some h2
  split at h4
  · rename_i ht
    cases h4
    cases dy with
    | dict kvs' =>
      cases h1
      obtain ⟨a, rfl, q⟩ := v_dict hy
      obtain ⟨xs, n, r⟩ := nat_of q ht
      obtain ⟨b, e1, e2, e3, e4⟩ := rp_tup_of h3 hx
      refine ⟨a, _, rfl, ⟨xs, key, b, n, e1, e2, e4, rfl⟩, ?_⟩
      rw [← isSome_rel r key]
      exact k _ H (Same.refl H) rp_bool
    | _ => cases h1
  · cases h4
theorem v2_ixN : V2 K rIxN dIxN := by
  intro B H x y dx dy d Q al hx hy e k
  obtain ⟨kvs, h1, h2⟩ := bind_some e
  obtain ⟨key, h3, h4⟩ := bind_some h2
  split at h4
  · rename_i ht
    cases dx with
    | dict kvs' =>
      cases h1
      obtain ⟨a, rfl, q⟩ := v_dict hx
      obtain ⟨xs, n, r⟩ := nat_of q ht
      obtain ⟨b, e1, e2, e3, e4⟩ := rp_tup_of h3 hy
      rcases find_rel r key with ⟨f1, f2⟩ | ⟨d', v, f1, f2, f3⟩
      · rw [f1] at h4; cases h4
      · rw [f1] at h4; cases h4
        exact ⟨a, v, rfl, ⟨xs, key, b, n, e1, e2, e4, f2.symm⟩, k _ H (Same.refl H) f3⟩
    | _ => cases h1
  · cases h4
end
/-! {} -/
theorem mn_dict0 {X : Cx} {kd : Nat → SK} {pos : Pos} : MN X kd (.Dict [] [] pos) tDNewK (fC (.dict [])) := by
  refine ⟨pe_dnewK, fun B O P ρ σ H d Q R hf k p hp => ?_⟩
  cases hf
  exact k p _ hp (same_new hp _) (.inl ⟨[], upd_same, rfl, RpA.nil⟩)
/-! d[k] = v -/
def rSetN : V → V → V → Hp → (Hp → Prop) → Prop := fun o i v H Q => ∃ a xs k b, o = .ref a ∧ i = .ref b ∧ NAt H a xs ∧ NkV H k i ∧ noTx k = true ∧ k.depth ≤ 8 ∧ xs.length < sizeLine ∧ Q (upd H a (NDic a (putN xs k b v)))
theorem putN_len (xs : NRs) (k : NK) (b : Addr) (v : V) : (putN xs k b v).length ≤ xs.length + 1 := by
  unfold putN
  split <;> simp
theorem set_N {X : Cx} (hu : X.A.units + 64 < cLine) : PSet X rSetN := by
  intro pn s0 sg G o i v ov iv u Q J ro ri rv ⟨a, xs, k, b, e1, e2, n, kv, nt, dp, hl, q⟩
  subst e1 e2
  cases ro
  cases ri
  obtain ⟨z, hd, ys, r, dd⟩ := nat_ok J.hok n
  have mu : Mut (G a) := by
    rcases n.1 with ⟨p, ps, e, m⟩ | ⟨rfl, m⟩
    · rw [m]; exact True.intro
    · rw [m]; exact True.intro
  have hy : ∀ y ∈ ys, noTx y.1 = true := fun y m => (rows_is J.hok r n.2 y m).1
  refine wpAny_setItem_heap (hsz := by rw [← Paired.length r]; exact z) (room8 hu _ _) (k := k) ⟨nested_of J.hok k _ _ kv rfl, dp⟩ dd fun h' dd' hs => ?_
  obtain ⟨ob, es, ep, w1, w2, w3, w4, w5, w6⟩ := dd'
  have hy2 : ∀ y ∈ storedH ys k b u, noTx y.1 = true := by
    intro y m
    unfold storedH at m
    split at m
    · obtain ⟨y', m', e⟩ := List.mem_map.mp m
      subst e
      unfold putAt
      split
      · exact hy y' m'
      · exact hy y' m'
    · rcases List.mem_append.mp m with m | m
      · exact hy y m
      · rw [List.mem_singleton.mp m]; exact nt
  have new : ObjOk X.prog X.w (upd G a (NDic a (putN xs k b v))) h' a (NDic a (putN xs k b v)) := by
    refine (show ObjOk X.prog X.w (upd G a (NDic a (putN xs k b v))) h' a (.ext _) from ⟨⟨by have := putN_len xs k b v; omega, hd, _, nrow_put r k rv, w6, ob, es, ep, w1, w2, w3, by rw [w4]; exact (entries_eq hy2).symm⟩, ⟨ob, w1⟩, ?_⟩)
    rintro h1 h2 ⟨c1, c2, ys', c3, c4, o', es', ep', c5, c6⟩ st
    exact ⟨c1, c2, ys', c3, c4, o', es', ep', st _ c5, c6⟩
  exact ⟨_, d_write J mu hs ⟨ob, w1⟩ new, q⟩
def fPutN (i : Nat) (fk fv : Fx) : Fs := fun ρ => (fv ρ).bind fun d => (fk ρ).bind fun n => match ρ[i]? with
  | some (some dd) => (dPutN dd n d).map fun z => .nx (ρ.set i (some z))
  | _ => none
section
variable {X : Cx} {kd : Nat → SK} {rk : Bool} {pos : Pos}
theorem mx_putN {i : Nat} {x : Str} {px : Pos} {kx v : Expr} {tk tv : TE} {fk fv : Fx} {spos : Pos} (hu : X.A.units + 64 < cLine) (h : PE X (.Name x px) (tVar i)) (hc : chg (kd i) = true) (hk : MV X kd kx tk fk) (hv : ME X kd v tv fv)
    (hs : swapsWithSole [.Subscript (.Name x px) kx spos] v pos.line X.env = pure false := by rfl) (hw : swappedStores [.Subscript (.Name x px) kx spos] v X.env = pure none := by rfl)
    (h1 : (assignEach [.Subscript (.Name x px) kx spos] X.env).map (·.2) = [assign (.Subscript (.Name x px) kx spos) X.env] := by rfl)
    (hsub : ∀ v, assign (.Subscript (.Name x px) kx spos) X.env v = (do
      let ov ← holding [v] (eval (.Name x px) X.env)
      let iv ← holding [v, ov] (eval kx X.env)
      standAt spos
      holding [v, ov, iv] (setItem ov iv v)
      release [v, ov, iv] []) := by intro _; rfl) :
    MX X kd rk (.Assign [.Subscript (.Name x px) kx spos] v pos) (tAsg tv (gSub (tVar i) tk rSetN)) (fPutN i fk fv) := by
  refine ⟨ps_asg hv.pe (pg_sub h hk.pe (set_N hu) hsub) hs hw h1, fun B0 P O ρ σ H o Dn S hf k => ?_⟩
  obtain ⟨d, q1, q2⟩ := bind_some hf
  obtain ⟨n, q3, q4⟩ := bind_some q2
  split at q4
  · rename_i dd hi
    obtain ⟨z, q5, q6⟩ := map_some q4
    subst q6
    obtain ⟨kvs, g1, g2⟩ := bind_some q5
    obtain ⟨key, g3, g4⟩ := bind_some g2
    split at g4
    · rename_i ht
      rw [Bool.and_eq_true, decide_eq_true_eq] at ht
      cases g4
      cases dd with
      | dict kvs' =>
        cases g1
        refine hv.ev (B0 ++ O) O P ρ σ H d _ S.rho q1 fun u H1 s1 r => ?_
        obtain ⟨v0, w1, w0⟩ := (S.same s1).rho.slot i _ hi
        obtain ⟨a, w2, w3⟩ : ∃ a, v0 = .ref a ∧ a ∈ O ++ P ∧ RpM X.K (B0 ++ O) H1 (.dict kvs) a := by
          generalize kd i = c at hc w0
          cases c with
          | mu => obtain ⟨b, e1, e2, e3⟩ := w0; exact ⟨b, e1, List.mem_append_left _ e2, e3⟩
          | mp => obtain ⟨b, e1, e2, e3⟩ := w0; exact ⟨b, e1, List.mem_append_right _ e2, e3⟩
          | st => cases hc
          | wk => cases hc
          | fz => cases hc
        subst w2
        obtain ⟨w2, w3⟩ := w3
        refine ⟨_, w1, hk.ev (B0 ++ O) O P ρ σ H1 _ _ (S.same s1).rho q3 fun iv H2 s2 r2 => ?_⟩
        have w3' := w3.same s2
        have so := w3'.soft
        obtain ⟨xs, n2, rn⟩ := nat_of w3' ht.1
        obtain ⟨b, e1, e2, e3, e4⟩ := rp_tup_of g3 r2
        have kA : Kp [a] H2 (upd H2 a (NDic a (putN xs key b u))) := Kp.upd (by simp) so
        have sA : ∀ y ∈ [a], y ∈ B0 ++ O := fun y hy => by rw [List.mem_singleton.mp hy]; exact (List.mem_append.mp w2).elim (S.rho.subO a) (S.rho.subP a)
        have rn2 := put_rel (dk := n) rn (keyT_at g3).1 e4 (e1 ▸ e2) (r.same s2)
        refine ⟨a, xs, key, b, rfl, e1, n2, e2, e3, e4, ?_, k O σ _ ((Stp.same (s1.trans s2)).trans (Stp.mut w2 so)) ⟨(S.same (s1.trans s2)).rho.mutK hc hi w1 w2 kA ?_, S.dis⟩⟩
        · have : xs.length = kvs.length := by
            have e := congrArg List.length rn.ks
            simpa using e.symm
          rw [this]; exact big_lt ht.2
        · cases hp : putN xs key b u with
          | nil => exact absurd hp putN_ne
          | cons p ps =>
            rw [hp] at rn2 kA
            exact .inr ⟨p, ps, upd_same, rn2.ks, fun x hx => ⟨(rn2.ok x hx).1, (rn2.ok x hx).2.1, NkV.kp kA _ _ (rn2.ok x hx).2.2⟩, RpA.kp kA sA _ _ rn2.vs⟩
      | _ => cases g1
    · cases g4
  · cases q4
end
/-! len(d) -/
def rLenN : List V → Hp → VK → Prop := fun vs H Q => ∃ a xs, vs = [.ref a] ∧ NAt H a xs ∧ Q (.int ((xs.length : Nat) : Int)) H
theorem call_lenN {X : Cx} : CallR X (.builtin "len") rLenN := by
  intro pn s0 sg G vs us Q J r ⟨a, xs, e, n, q⟩
  subst e
  obtain ⟨u, rfl, rx⟩ := vals1 r
  obtain rfl : u = .ref a := rx
  obtain ⟨z, hd, ys, rel, dd⟩ := nat_ok J.hok n
  have hl : xs.length = ys.length := Paired.length rel
  refine call_len_dictH hd dd (by rw [← hl]; rw [sizeLine_eq] at z; omega) ?_
  rw [← hl]
  exact ⟨.int ((xs.length : Nat) : Int), G, J.tok _, ⟨_, rfl⟩, q⟩
def dLenN : List D → Option D
  | [.dict kvs] => if tupKeys kvs = true then some (.int kvs.length) else none
  | _ => none
theorem vn_lenN {K : PySem.W.Frag} : VN K rLenN dLenN := by
  intro B H xs ds d Q al hx e k
  unfold dLenN at e
  split at e
  · split at e
    · rename_i ht
      cases e
      obtain ⟨x, rfl, h1⟩ := vs_one hx
      obtain ⟨a, rfl, q⟩ := v_dict h1
      obtain ⟨ys, n, r⟩ := nat_of q ht
      refine ⟨a, ys, rfl, n, ?_⟩
      have e := congrArg List.length r.ks
      rw [List.length_map, List.length_map] at e
      rw [← e]
      exact k _ H (Same.refl H) rp_int
    · cases e
  · cases e
/-! sorted(d) -/
section
variable {P : Program} {w : World} {H : Hp} {h : Heap}
mutual
theorem nk_reads (ok : HOk P w H h) : ∀ (k : NK) (v : V) (u : Value), NkV H k v → RelV v u → Reads h u k.data []
  | .none, v, u, r, e => by unfold NkV at r; subst r; cases e; unfold NestedKey.data; exact .none
  | .num i, v, u, r, e => by unfold NkV at r; subst r; obtain ⟨t, rfl⟩ := e; unfold NestedKey.data; exact .int i t
  | .text i, v, u, r, e => by unfold NkV at r; exact r.elim
  | .tup ks, v, u, r, e => by
    unfold NkV at r
    obtain ⟨a, xs, rfl, q, r⟩ := r
    cases e
    obtain ⟨ob, _, q⟩ := q
    obtain ⟨_, _, its, rv, o, h1, h2, n, h3⟩ := (show ObjOk P w H h a (.frz ob (.tup xs)) from ok a _ q)
    unfold NestedKey.data
    exact .tuple h1 h2 h3 (by simpa using nks_reads ok ks xs its r rv)
theorem nks_reads (ok : HOk P w H h) : ∀ (ks : List NK) (vs : List V) (us : List Value), NkVs H ks vs → Vals vs us → ReadsAll h us (NestedKey.datas ks) []
  | [], v, u, r, e => by unfold NkVs at r; subst r; cases e; unfold NestedKey.datas; exact .nil
  | k :: ks, v, u, r, e => by
    unfold NkVs at r
    obtain ⟨x, t, rfl, r1, r2⟩ := r
    unfold NestedKey.datas
    cases e with
    | cons e1 e2 => exact .cons (as := []) (nk_reads ok k x _ r1 e1) (nks_reads ok ks t _ r2 e2)
end
end
def NkU (H : Hp) (u : Value) (k : NK) : Prop := ∃ x, RelV x u ∧ NkV H k x
theorem nku_out {H : Hp} : ∀ {us : List Value} {ks : List NK}, PySem.W.EachIs (NkU H) us ks → ∃ xs, Vals xs us ∧ ∀ K B, RpA K B H (ks.map NestedKey.data) xs
  | _, _, .nil => ⟨[], .nil, fun _ _ => RpA.nil⟩
  | _, _, .cons ⟨x, r1, h1⟩ t => by
    obtain ⟨xs, r, h⟩ := nku_out t
    exact ⟨x :: xs, .cons r1 r, fun K B => RpA.cons (rp_of_nkv _ x h1) (h K B)⟩
def dSortedN : List D → Option D
  | [.dict kvs] => if (tupKeys kvs && dataOk (kvs.map (·.1)) && tupsOrNot (kvs.map (·.1)) && (kvs.map (·.1)).all shal && decide (kvs.length ≤ 100000)) = true then some (.list (sortD (kvs.map (·.1)))) else none
  | _ => none
def rSortedN : List V → Hp → VK → Prop := fun vs H Q => ∃ a xs, vs = [.ref a] ∧ NAt H a xs ∧ (dataOk (xs.map fun x => x.1.data) && tupsOrNot (xs.map fun x => x.1.data) && (xs.map fun x => x.1.data).all shal && decide (xs.length ≤ 100000)) = true ∧
  ∀ p ys zs, H p = none → zs = sortD (xs.map fun x => x.1.data) → (∀ K B, RpA K B H zs ys) → Q (.ref p) (upd H p (.lst ys))
theorem map_sortD (ks : List NK) : (ks.mergeSort (PySem.W.dataLe false NestedKey.data)).map NestedKey.data = sortD (ks.map NestedKey.data) := by
  unfold sortD
  rw [List.map_mergeSort]
  intro a _ b _
  rfl
theorem cr_sortedN {X : Cx} (hcalm : X.calm = true) (hu : X.A.units + 64 < cLine) : CallR X (.builtin "sorted") rSortedN := by
  intro pn s0 sg G vs us Q J r ⟨a, xs, e, n, hn, q⟩
  subst e
  simp only [Bool.and_eq_true, decide_eq_true_eq] at hn
  obtain ⟨⟨⟨n1, n2⟩, n3⟩, n4⟩ := hn
  obtain ⟨u, rfl, rx⟩ := vals1 r
  obtain rfl : u = .ref a := rx
  obtain ⟨z, hd, ys, rel, dd⟩ := nat_ok J.hok n
  have his := rows_is J.hok rel n.2
  obtain ⟨o, es, ep, ho, hx, hdt, he, _, hnd⟩ := dd
  have l1 : es.size = ys.length := size_of_entries he
  have l2 : xs.length = ys.length := Paired.length rel
  refine Calls.call_function_entry PyProof.Rows.kind_sorted PyProof.Rows.plain_sorted PyProof.Rows.entry_sorted (PyProof.Rows.args_sorted1 _) ?_
  unfold Builtin.«sorted»
  refine wpAny_bind (m := checkCount "sorted" 1 1 _) (wpAny_pure ?_)
  refine wpAny_bind (PySem.W.kdu_collect (A := X.A.in1) (kdl_raw hd hx hdt) (J.ok.hd hcalm) ho (by omega) fun h' tk acc hk hacc => ?_)
  have ea : acc.toList = ys.map fun x => Value.ref x.2.1 := by
    have hl : acc.toList.length = ys.length := by rw [Array.length_toList, hacc.1]; exact l1
    apply List.ext_getElem?
    intro j
    rw [List.getElem?_map]
    cases hj : acc.toList[j]? with
    | none =>
      have h1 := List.getElem?_eq_none_iff.mp hj
      rw [List.getElem?_eq_none (by omega)]; rfl
    | some v =>
      obtain ⟨en, hen, hv⟩ := hacc.2 j v (by rw [← Array.getElem?_toList]; exact hj)
      have qe := entry_at he j
      rw [hen] at qe
      cases hb : ys[j]? with
      | none => rw [hb] at qe; exact nomatch (show some en = none from qe)
      | some b =>
        rw [hb] at qe
        have e2 : en = entryOfKey (nestedKind X.prog X.w) b := Option.some.inj qe
        rw [hv, e2]; rfl
  have J1 : Inv X pn sg G { s0 with heap := h', toks := tk } := J.kept hk
  have hal : acc.toList.length = xs.length := by rw [ea, List.length_map, l2]
  refine wpAny_bind (wpAny_newList ?_ (by rw [hal]; exact z))
  have hoL : (h'.push (seqObj "list" acc.toList.toArray 0)).get? h'.objs.size = some (seqObj "list" acc.toList.toArray 0) := Heap.get?_push_size _ rfl
  show wpAny _ _ _ _ _ { s0 with heap := h'.push (seqObj "list" acc.toList.toArray 0), toks := tk }
  have e0 : PySem.W.EachIs (NkU G) acc.toList (xs.map (·.1)) := by
    rw [ea]
    have q2 := n.2
    clear n hnd he ea hal l1 l2 his n1 n2 n3 n4 q z
    induction rel with
    | nil => exact .nil
    | @cons p y ps qs hq t ih =>
      refine .cons ⟨.ref p.2.1, ?_, (q2 p (by simp)).2.2⟩ (ih (fun x hx => (by assumption : ∀ x ∈ y :: qs, (nestedKind X.prog X.w).is s0.heap x.1 x.2.1) x (List.mem_cons_of_mem _ hx)) fun x hx => q2 x (by simp [hx]))
      rw [hq.2.1]; rfl
  have J2 : HOk X.prog X.w G (h'.push (seqObj "list" acc.toList.toArray 0)) := J1.hok.kept fun b o e => Heap.get?_push_of_some _ e
  have er : PySem.W.EachIs (fun v k => ∃ as, Reads (h'.push (seqObj "list" acc.toList.toArray 0)) v (NestedKey.data k) as ∧ h'.objs.size ∉ as) acc.toList (xs.map (·.1)) := e0.mono fun v k ⟨x, r1, r2⟩ => ⟨[], nk_reads J2 k x v r2 r1, by simp⟩
  have m : (xs.map (·.1)).map NestedKey.data = xs.map fun x => x.1.data := by rw [List.map_map]; rfl
  refine wpAny_bind (wpAny_holding (PySem.W.list_sort_data (enc := NestedKey.data) (s := { s0 with heap := h'.push (seqObj "list" acc.toList.toArray 0), toks := tk }) hoL e0 er (by rw [m]; exact allAlike_of n1) (by rw [m]; exact sortable_of n2) (by rw [List.length_map]; exact z) (fun k hk => ?_) fun out ho eo => ?_))
  · have h1 : NestedKey.data k ∈ xs.map fun x => x.1.data := by rw [← m]; exact List.mem_map_of_mem hk
    have := of_decide_eq_true (List.all_eq_true.mp n3 _ h1)
    show X.A.units + 1 + 1 + (NestedKey.data k).depth < _
    omega
  · obtain ⟨e', he'⟩ := PyProof.Rows.sortedHeap_at (vs := acc.toList) (out := List.toArray out) hoL
    obtain ⟨ws, w1, w2⟩ := nku_out eo
    rw [map_sortD, m] at w2
    have lz : ws.length ≤ sizeLine := by
      rw [(w2 X.K []).length]
      unfold sortD
      rw [List.length_mergeSort, List.length_map]
      exact z
    refine wpAny_pure ⟨_, rfl, .ref h'.objs.size, upd G h'.objs.size (.lst ws), J1.laid (t' := tk) (fun b u e => ?_) (Nat.le_refl _)
      (show ObjOk X.prog X.w _ _ _ (.lst ws) from ⟨lz, out, e', w1, he'⟩), rfl, q _ ws _ (J1.hok.fresh (Nat.le_refl _)) rfl w2⟩
    have hb : b < h'.objs.size := Heap.lt_size e
    rw [PyProof.Rows.sortedHeap_old (Nat.ne_of_lt hb) (by rw [size_push']; exact Nat.lt_succ_of_lt hb)]
    exact Heap.get?_push_of_some _ e
theorem nn_sortedN {K : PySem.W.Frag} : NN K rSortedN dSortedN := by
  intro B H xs ds d Q al hx e k
  unfold dSortedN at e
  split at e
  · rename_i kvs
    split at e
    · rename_i hn
      cases e
      obtain ⟨x, rfl, h1⟩ := vs_one hx
      obtain ⟨a, rfl, q⟩ := v_dict h1
      have ht : tupKeys kvs = true := by
        simp only [Bool.and_eq_true] at hn
        exact hn.1.1.1.1
      obtain ⟨ys, n, r⟩ := nat_of q ht
      have e := congrArg List.length r.ks
      rw [List.length_map, List.length_map] at e
      refine ⟨a, ys, rfl, n, ?_, fun p us zs hp ez rz => k p _ hp (same_new hp _) (rpm_new hp ?_)⟩
      · rw [← r.ks, ← e]
        simp only [Bool.and_eq_true] at hn ⊢
        exact ⟨⟨⟨hn.1.1.1.2, hn.1.1.2⟩, hn.1.2⟩, hn.2⟩
      · rw [r.ks, ← ez]
        exact rz K B
    · cases e
  · cases e
end Mx

/-! THE MIRROR LAYER, part 10: isinstance, min of data, len(set(ints)), t.index(n), the script. -/
namespace Mx
open PySem PySem.Spec L2 PyProof.Rows

/-! ### isinstance(x, T), T a built-in type -/
def tyN : D → Option String
  | .none => some "NoneType"
  | .bool _ => some "bool"
  | .int _ => some "int"
  | .str _ => some "str"
  | .list _ => some "list"
  | .tuple _ => some "tuple"
  | .dict _ => none
def dIsa (T : String) : D → Option D := fun d => (tyN d).bind fun n => (kitB n T).map PyData.bool
theorem tyx_of {K : PySem.W.Frag} {B : List Addr} {H : Hp} {d : D} {v : V} {n : String} (r : RpV K B H d v) (h : tyN d = some n) : TyX K H v (.type n) := by
  cases d with
  | none => cases h; rw [v_none r]; exact .base .non
  | bool b => cases h; rw [v_bool r]; exact .base (.bl b)
  | int b => cases h; rw [v_int r]; exact .base (.int b)
  | str b => cases h; rw [v_str r]; exact .base (.str b)
  | list ds => cases h; obtain ⟨a, xs, rfl, q, _⟩ := v_lst r; exact .base (.lst q)
  | tuple ds => cases h; obtain ⟨a, xs, rfl, ⟨ob, _, q⟩, _⟩ := v_tupH r; exact .fTuple q
  | dict _ => cases h
section
variable {X : Cx} {kd : Nat → SK} {e a b : Expr} {es : List Expr} {t ta tb te : TE} {f fa fb : Fx} {pos : Pos}
theorem call_isiK (K : PySem.W.Frag) (hK : X.K = K := by rfl) : CallR X (.builtin "isinstance") (rIsi K) := hK ▸ call_isi
theorem me_isi (K : PySem.W.Frag) {x : Str} {T : String} {p px : Pos} (hg : Gl X "isinstance") (hm : X.mg "isinstance" = none) (hgx : Gl X x) (hmx : X.mg x = none) (hbx : bootBuiltins x = some (.type T)) (he : MV X kd e te f) (hK : X.K = K := by rfl)
    (hn : x ≠ "__name__" := by decide) (hd : (x == ("__debug__" : Str)) = false := by decide)
    (s1 : starEach [e, .Name x px] X.env = (false, eval e X.env) :: starEach [.Name x px] X.env := by rfl) (s2 : starEach [.Name x px] X.env = (false, eval (.Name x px) X.env) :: starEach [] X.env := by rfl)
    (hpl : (backTo pos (starEach [.Name x px] X.env)).any (·.1) = false := by rfl) : ME X kd (.Call (.Name "isinstance" p) [e, .Name x px] [] pos) (tCB (rIsi K) (tCons te (tCons (tC (.ty T)) tNil))) (f1 (dIsa T) f) := by
  subst hK
  refine ⟨pe_callB (call_isiK X.K) hg hm (by decide +kernel) (pa_cons he.pe (pa_cons (pe_bltn (v := .ty T) hgx hmx hbx rfl hn hd) pa_nil s2) s1) (by decide) (by decide) s1 hpl, fun B O P ρ σ H d Q R hf k => ?_⟩
  obtain ⟨d', h1, h2⟩ := bind_some hf
  obtain ⟨n, h3, h4⟩ := bind_some h2
  obtain ⟨z, h5, h6⟩ := map_some h4
  subst h6
  refine he.ev B O P ρ σ H d' _ R h1 fun v H1 s1 r => ?_
  exact ⟨v, .ty T, .type n, .type T, z, rfl, .ty T, tyx_of r h3, kit_ty h5, k _ H1 s1 rp_bool⟩
end

/-! ### min(xs), xs a list of data -/
def rMinX (K : PySem.W.Frag) : List V → Hp → VK → Prop := fun vs H Q => ∃ B a x xs, vs = [.ref a] ∧ RpV K B H (.list (x :: xs)) (.ref a) ∧ (dataOk (x :: xs) && (x :: xs).all (fun d => !isNo d) && (x :: xs).all shal) = true ∧ ∀ v H', Same H H' → Rp K B H' (PySem.W.minD x xs) v → Q v H'
theorem minD_mem (x : D) (xs : List D) : PySem.W.minD x xs ∈ x :: xs := by
  unfold PySem.W.minD
  induction xs generalizing x with
  | nil => simp
  | cons y ys ih =>
    rw [List.foldl_cons]
    have := ih (if PySem.W.dataLt y x = true then y else x)
    rcases List.mem_cons.mp this with e | e
    · rw [e]
      split <;> simp
    · simp [e]
theorem readsAll_of {X : Cx} {pn : List (Addr × Obj)} {sg : L2.St} {G : Hp} {s0 : Shared} {B : List Addr} (J : Inv X pn sg G s0) {ds : List D} {us : List Value} {xs : List V} (h : RpA X.K B G ds xs) (r : Vals xs us) : ∃ as, ReadsAll s0.heap us ds as :=
  Dp.readsAll J ds xs us (RpA.dp ds xs h) r
theorem cr_minX {X : Cx} (hcalm : X.calm = true) (hu : X.A.units + 64 < cLine) : CallR X (.builtin "min") (rMinX X.K) := by
  intro pn s0 sg G vs us Q J r ⟨B, a, x, xs, e, hr, hn, q⟩
  subst e
  simp only [Bool.and_eq_true] at hn
  obtain ⟨⟨n1, n2⟩, n3⟩ := hn
  obtain ⟨b, ys, eb, h1, h2⟩ := v_lst hr
  cases eb
  obtain ⟨its, rv, pl, _⟩ := J.list (SqL.of h1)
  rw [Vals.ref1 r]
  obtain ⟨as, ra⟩ := readsAll_of J h2 rv
  have dp : ∀ ds : List D, ds.all shal = true → PyData.depthAll ds ≤ 60 := by
    intro ds
    induction ds with
    | nil => intro _; simp [PyData.depthAll]
    | cons d ds ih =>
      intro h
      rw [List.all_cons, Bool.and_eq_true] at h
      have := of_decide_eq_true h.1
      have := ih h.2
      simp only [PyData.depthAll]
      omega
  have dpx := dp _ n3
  refine PySem.W.min_list_data (J.ok.hd hcalm) pl.isList (by simpa using ra) ?_ (by omega) fun i v h' tk bs hv hrd hk => ?_
  · refine ⟨allAlike_of n1, fun d hd e => ?_⟩
    subst e
    exact absurd (List.all_eq_true.mp n2 _ hd) (by decide)
  · have hv' : its[i]? = some v := by simpa using hv
    have hl := rv.length
    have hi : i < ys.length := by
      have := (List.getElem?_eq_some_iff.mp hv').1
      omega
    obtain ⟨u, hu, ru⟩ := rv.get (List.getElem?_eq_getElem hi)
    rw [hv'] at hu
    cases hu
    obtain ⟨d, hd, rd⟩ := h2.getV (List.getElem?_eq_getElem hi)
    obtain ⟨as', r1⟩ := Dp.reads J d _ v (Rp.dp _ _ rd) ru
    obtain ⟨e1, _⟩ := reads_det (fun b o e _ => hk b o e) r1 hrd
    exact ⟨_, G, J.kept (t' := tk) hk, ru, q _ G (Same.refl G) (e1 ▸ rd)⟩
theorem vn_min {K : PySem.W.Frag} : VN K (rMinX K) dMin := by
  intro B H xs ds d Q al hx e k
  unfold dMin at e
  split at e
  · split at e
    · rename_i hn
      cases e
      obtain ⟨x, rfl, h1⟩ := vs_one hx
      obtain ⟨a, ys, rfl, q1, q2⟩ := v_lst h1
      exact ⟨B, a, _, _, rfl, h1, hn, k⟩
    · cases e
  · cases e
theorem cr_minK {X : Cx} (K : PySem.W.Frag) (hcalm : X.calm = true) (hu : X.A.units + 64 < cLine) (hK : X.K = K := by rfl) : CallR X (.builtin "min") (rMinX K) := hK ▸ cr_minX hcalm hu

/-! ### len(set(xs)), xs a list of few ints -/
theorem intsOf_eq : ∀ {ds : List D} {ns : List Int}, intsOf ds = some ns → ds = ns.map PyData.int
  | [], _, h => by cases h; rfl
  | .int n :: ds, _, h => by
    obtain ⟨ms, h1, h2⟩ := map_some (show (intsOf ds).map (fun ns => n :: ns) = some _ from h)
    subst h2
    rw [intsOf_eq h1]; rfl
  | .none :: _, _, h => by cases h
  | .bool _ :: _, _, h => by cases h
  | .str _ :: _, _, h => by cases h
  | .list _ :: _, _, h => by cases h
  | .tuple _ :: _, _, h => by cases h
  | .dict _ :: _, _, h => by cases h
def metN (ns : List Int) : Nat := (firstMet (fun i => ns.getD i 0) ns.length).length
def dLenSet : D → Option D
  | .list ds => (intsOf ds).bind fun ns => if ns.length < 64 then some (.int (metN ns)) else none
  | _ => none
def tLenSetF (K : PySem.W.Frag) (ta : TE) : TE := fun σ H Q => ta σ H fun x H1 => ∃ (l : Addr) (ns : List Int), x = V.ref l ∧ SqL K H1 l (ns.map V.int) ∧ ns.length < 64 ∧ Q (.int ((metN ns : Nat) : Int)) H1
theorem met_le (f : Nat → Int) : ∀ n, (firstMet f n).length ≤ n
  | 0 => Nat.le_refl _
  | n + 1 => by
    rw [firstMet_succ]
    unfold step_dedup
    have := met_le f n
    split
    · omega
    · simp; exact this
section
variable {X : Cx} {kd : Nat → SK} {e a b : Expr} {es : List Expr} {t ta tb te : TE} {f fa fb : Fx} {pos : Pos}
theorem pe_lenSetF (K : PySem.W.Frag) {p p2 q : Pos} (hc : X.calm = true) (hg : Gl X "len") (hm : X.mg "len" = none) (hg2 : Gl X "set") (hm2 : X.mg "set" = none) (ha : PE X a ta) (hK : X.K = K := by rfl)
    (na : starEach [a] X.env = (false, eval a X.env) :: starEach [] X.env := by rfl) : PE X (.Call (.Name "len" p) [.Call (.Name "set" p2) [a] [] q] [] pos) (tLenSetF K ta) := by
  subst hK
  refine ⟨fun pn s0 sg G Q J h => ?_⟩
  refine Call_ (ld_blt J hg hm PySem.boot_len ?_)
  refine PyProof.Rows.callWith_builtin1 (PyProof.Rows.args_cons ?_ rfl) rfl rfl
  refine Call_ (ld_blt J hg2 hm2 PyProof.Rows.boot_set ?_)
  refine PyProof.Rows.callWith_type1 (PyProof.Rows.args_cons (thn (ha.run pn s0 sg G _ J h) fun v s1 ⟨x, G1, J1, r1, q1⟩ => PyProof.Rows.args_nil ?_) na) na rfl
  obtain ⟨l, ns, rfl, hq, h1, q1⟩ := q1
  cases r1
  obtain ⟨its, r, pl, hz⟩ := J1.list hq
  have hl : its.toArray.size = ns.length := by rw [List.size_toArray, ← r.length, List.length_map]
  refine call_set_list (J1.ok.hd hc) pl.isList (ns := ns) (by simpa using r.ints) (by unfold scanBound; omega) fun h' tk hS hk => ?_
  rw [hl] at hS
  refine PyProof.Rows.args_nil ?_
  obtain ⟨o, es, ep, t, ho, hex, hd, _, _, _, hf, hn⟩ := hS
  have J2 : Inv X pn sg G1 { s1 with heap := h', toks := tk } := J1.kept fun b o e => hk b o (Heap.lt_size e) e
  have hle := met_le (fun i => ns.getD i 0) ns.length
  refine call_len_set ho hex hd hf (by rw [hn] <;> omega) ⟨.int ((metN ns : Nat) : Int), G1, J2.tok _, ⟨_, by rw [hn]; rfl⟩, q1⟩
theorem me_lenSet (K : PySem.W.Frag) {p p2 q : Pos} (hc : X.calm = true) (hg : Gl X "len") (hm : X.mg "len" = none) (hg2 : Gl X "set") (hm2 : X.mg "set" = none) (ha : MV X kd a ta fa) (hK : X.K = K := by rfl)
    (na : starEach [a] X.env = (false, eval a X.env) :: starEach [] X.env := by rfl) : ME X kd (.Call (.Name "len" p) [.Call (.Name "set" p2) [a] [] q] [] pos) (tLenSetF K ta) (f1 dLenSet fa) := by
  subst hK
  refine ⟨pe_lenSetF X.K hc hg hm hg2 hm2 ha.pe rfl na, fun B O P ρ σ H d Q R hf k => ?_⟩
  obtain ⟨d', h1, h2⟩ := bind_some hf
  refine ha.ev B O P ρ σ H d' _ R h1 fun v H1 s1 r => ?_
  cases d' with
  | list ds =>
    obtain ⟨ns, h3, h4⟩ := bind_some (show (intsOf ds).bind (fun ns => if ns.length < 64 then some (PyData.int (metN ns)) else none) = some d from h2)
    split at h4
    · rename_i hz
      cases h4
      obtain ⟨a, xs, rfl, q1, q2⟩ := v_lst r
      rw [intsOf_eq h3] at q2
      exact ⟨a, ns, rfl, SqL.of (by rw [q1, q2.ints]), hz, k _ H1 s1 rp_int⟩
    · cases h4
  | _ => cases h2

/-! ### t.index(n) -/
def dIndex : D → D → Option D
  | .tuple ds, .int n => (intsOf ds).bind fun ns => if n ∈ ns then some (.int (ns.idxOf n : Nat)) else none
  | _, _ => none
def tTupIx (to ti : TE) : TE := fun σ H Q => to σ H fun x H1 => ∃ (a : Addr) (ns : List Int), x = .ref a ∧ Tp H1 a (ns.map V.int) ∧ ti σ H1 fun y H2 => Tp H2 a (ns.map V.int) ∧ ∃ n : Int, y = .int n ∧ n ∈ ns ∧ Q (.int ((ns.idxOf n : Nat) : Int)) H2
theorem pe_tupIx {o : Expr} {to ti : TE} {apos cpos : Pos} (ho : PE X o to) (ha : PE X e ti)
    (hbase : attributeBase o "index" X.env (eval o X.env) = eval o X.env := by rfl)
    (hfew : ((backTo cpos (starEach [e] X.env)).all (fun x => !x.1) && (backToKw cpos (keywordEach [] X.env)).all (fun x => x.1.isSome)
      && decide (([e] : List Expr).length + ([] : List Keyword).length + (if ([] : List Keyword).isEmpty then 0 else 1) < 30)) = true := by rfl)
    (hline : (apos.endLine == cpos.line) = true := by rfl) (hs : starEach [e] X.env = (false, eval e X.env) :: starEach [] X.env := by rfl) (hplain : (backTo cpos (starEach [] X.env)).any (·.1) = false := by rfl) :
    PE X (.Call (.Attribute o "index" apos) [e] [] cpos) (tTupIx to ti) := by
  refine ⟨fun pn s0 sg G Q J h => ?_⟩
  refine wpAny_Call_method_late hbase hfew hline rfl (thn (ho.run pn s0 sg G _ J h) fun v s1 ⟨x, G1, J1, r1, a, ns, ex, ⟨ob, hd, hq⟩, q1⟩ => ?_)
  subst ex
  obtain rfl : v = Value.ref a := r1
  obtain ⟨h1, _, its, rv, o2, h3, h4, _⟩ := (show ObjOk X.prog X.w G1 s1.heap a (.frz ob (.tup (ns.map V.int))) from J1.hok a _ hq)
  have eo : o2 = ob := by rw [h1] at h3; exact (Option.some.inj h3).symm
  subst eo
  refine ⟨"tuple", "tuple.index", PySem.F.plainAttrs_tuple, PySem.F.slot_tuple_index, PySem.F.type_tuple_index, ⟨o2, h3, h4⟩, fun b eb => (by cases eb; exact ⟨o2, h3, hd⟩), ?_⟩
  have hA := (pa_cons ha pa_nil hs).run cpos pn s1 sg G1 (fun vs H2 => match vs with
    | [y] => Tp H2 a (ns.map V.int) ∧ ∃ n : Int, y = .int n ∧ n ∈ ns ∧ Q (.int ((ns.idxOf n : Nat) : Int)) H2
    | _ => False) J1 q1
  rw [hs] at hA ⊢
  refine Calls.callWith_builtin (by show (false || (backTo cpos (starEach [] X.env)).any (·.1)) = false; rw [hplain] <;> rfl) (Calls.evalArgs_plain ?_)
  refine thn hA fun us s2 ⟨vs, G2, J2, r2, q2⟩ => ?_
  obtain ⟨y, rfl, ⟨ob2, hd2, hq2⟩, n, en, hn, q3⟩ : ∃ y, vs = [y] ∧ Tp G2 a (ns.map V.int) ∧ ∃ n : Int, y = .int n ∧ n ∈ ns ∧ Q (.int ((ns.idxOf n : Nat) : Int)) G2 := by
    match vs, q2 with
    | [y], q2 => exact ⟨y, rfl, q2⟩
  subst en
  obtain ⟨u, rfl, t, rfl⟩ := vals1 r2
  obtain ⟨_, _, its2, rv2, ht2⟩ := (show ObjOk X.prog X.w G2 s2.heap a (.frz ob2 (.tup (ns.map V.int))) from J2.hok a _ hq2)
  exact SeqAt.tuple_index_ints (vs := its2) ht2 (intsAre_of rv2) hn ⟨.int ((ns.idxOf n : Nat) : Int), G2, J2.tok _, ⟨_, rfl⟩, q3⟩
theorem me_tupIx {o : Expr} {to ti : TE} {fo fi : Fx} {apos cpos : Pos} (ho : MV X kd o to fo) (ha : MV X kd e ti fi)
    (hbase : attributeBase o "index" X.env (eval o X.env) = eval o X.env := by rfl)
    (hfew : ((backTo cpos (starEach [e] X.env)).all (fun x => !x.1) && (backToKw cpos (keywordEach [] X.env)).all (fun x => x.1.isSome)
      && decide (([e] : List Expr).length + ([] : List Keyword).length + (if ([] : List Keyword).isEmpty then 0 else 1) < 30)) = true := by rfl)
    (hline : (apos.endLine == cpos.line) = true := by rfl) (hs : starEach [e] X.env = (false, eval e X.env) :: starEach [] X.env := by rfl) (hplain : (backTo cpos (starEach [] X.env)).any (·.1) = false := by rfl) :
    ME X kd (.Call (.Attribute o "index" apos) [e] [] cpos) (tTupIx to ti) (f2 dIndex fo fi) := by
  refine ⟨pe_tupIx ho.pe ha.pe hbase hfew hline hs hplain, fun B O P ρ σ H d Q R hf k => ?_⟩
  obtain ⟨dx, h1, h2⟩ := bind_some hf
  obtain ⟨dy, h3, h4⟩ := bind_some h2
  refine ho.ev B O P ρ σ H dx _ R h1 fun x H1 s1 r1 => ?_
  cases dx with
  | tuple ds =>
    cases dy with
    | int n =>
      obtain ⟨ns, h5, h6⟩ := bind_some (show (intsOf ds).bind (fun ns => if n ∈ ns then some (PyData.int (ns.idxOf n : Nat)) else none) = some d from h4)
      split at h6
      · rename_i hn
        cases h6
        obtain ⟨a, xs, rfl, q1, q2⟩ := v_tupH r1
        have e1 := ints_rel q2 h5
        subst e1
        refine ⟨a, ns, rfl, q1, ha.ev B O P ρ σ H1 _ _ (R.same s1) h3 fun y H2 s2 r2 => ?_⟩
        exact ⟨q1.kp (Kp.same (O := []) s2), n, v_int r2, hn, k _ H2 (s1.trans s2) rp_int⟩
      · cases h6
    | _ => cases h4
  | _ => cases h4
end
end Mx

/-! THE MIRROR LAYER, part 11: the script. -/
namespace Mx
open PySem PySem.Spec L2 PyProof.Rows

section
variable {X : Cx} {kd : Nat → SK} {e a b : Expr} {es : List Expr} {t ta tb te : TE} {f fa fb : Fx} {pos : Pos}
theorem fz_at {K : PySem.W.Frag} {B O P : List Addr} {ρ : En} {σ : L2.St} {H : Hp} {i : Nat} {d : D} (R : Rho K B O P kd ρ σ H) (hk : kd i = .fz) (h : fVar i ρ = some d) : ∃ (a : Addr) (ns : List Int), σ[i]? = some (some (.ref a)) ∧ d = .list (ns.map PyData.int) ∧ SqL K H a (ns.map V.int) := by
  obtain ⟨v, q, s⟩ := R.slot i d (fVar_at h)
  rw [hk] at s
  obtain ⟨a, ns, e1, e2, e3, _⟩ := s
  subst e1
  exact ⟨a, ns, q, e2, e3⟩
/-- script[lo:hi] -/
theorem mn_cutZ (K : PySem.W.Frag) {i : Nat} {x : Str} {px p2 : Pos} {lo hi : Option Expr} {tl th : TO} {fl fh : En → Option (Option Int)} (h : PE X (.Name x px) (tVar i)) (hk : kd i = .fz) (hl : MO X kd lo tl fl) (hh : MO X kd hi th fh) (hK : X.K = K := by rfl) :
    MN X kd (.Subscript (.Name x px) (.Slice lo hi none p2) pos) (tSl (rSlL K) (tVar i) tl th) (fCut (fVar i) fl fh) := by
  subst hK
  refine ⟨pe_slice sl_list h hl.pe hh.pe, fun B O P ρ σ H d Q R hf k => ?_⟩
  obtain ⟨d', h1, h2⟩ := bind_some hf
  obtain ⟨l, h3, h4⟩ := bind_some h2
  obtain ⟨u, h5, h6⟩ := bind_some h4
  obtain ⟨a, ns, q1, rfl, q2⟩ := fz_at R hk h1
  cases h6
  refine ⟨_, q1, hl.ev B O P ρ σ H l _ R h3 fun H2 s2 => hh.ev B O P ρ σ H2 u _ (R.same s2) h5 fun H3 s3 => ?_⟩
  refine ⟨a, _, rfl, Mx.SqL.same (s2.trans s3) q2, fun p hp => k p _ (fresh_of (s2.trans s3) hp) ((s2.trans s3).trans (same_new hp _)) (rpm_new hp ?_)⟩
  exact cut_rel (RpA.of_ints ns) l u
/-- list(script) -/
theorem mn_listZ (K : PySem.W.Frag) {i : Nat} {x : Str} {p px : Pos} (hg : Gl X "list") (hm : X.mg "list" = none) (h : PE X (.Name x px) (tVar i)) (hk : kd i = .fz) (hK : X.K = K := by rfl)
    (he : starEach [.Name x px] X.env = (false, eval (.Name x px) X.env) :: starEach [] X.env := by rfl) (hpl : (backTo pos (starEach [] X.env)).any (·.1) = false := by rfl) :
    MN X kd (.Call (.Name "list" p) [.Name x px] [] pos) (tCB (rLstQ K) (tCons (tVar i) tNil)) (fVar i) := by
  refine ⟨pe_callTy (call_listK K hK) hg hm (by decide +kernel) (pa_cons h pa_nil he) (by decide) (by decide) he hpl, fun B O P ρ σ H d Q R hf k => ?_⟩
  subst hK
  obtain ⟨a, ns, q1, rfl, q2⟩ := fz_at R hk hf
  exact ⟨_, q1, a, _, rfl, .inl q2, fun l hl => k l _ hl (same_new hl _) (rpm_new hl (RpA.of_ints ns))⟩
end

/-! ### a def that is given the script -/
def spZ (K : PySem.W.Frag) (g : List D → Option D) : Sp := fun vs H Q _ => ∃ (B : List Addr) (a : Addr) (ns : List Int) (d : D), (∀ z ∈ B, H z ≠ none) ∧ vs = [.ref a] ∧ SqL K H a (ns.map V.int) ∧ g [.list (ns.map PyData.int)] = some d ∧
  ∀ p H', H p = none → Same H H' → RpM K (B ++ [p]) H' d p → Q (.ref p) H'
section
variable {P : Program} {w : World} {K : PySem.W.Frag} {mg : Str → Option Value} {base : Heap} {kd : Nat → SK} {F : Fs} {N ps : List Str} {x qual : Str} {st : Stmt} {f : Addr} {fd : FuncData} {k : Nat}
theorem sk_startZ {B : List Addr} {a : Addr} {ns : List Int} {H : Hp} (hn : 1 ≤ N.length) (al : ∀ z ∈ B, H z ≠ none) (r : SqL K H a (ns.map V.int)) (h0 : kd 0 = .fz) :
    Sk K B [] kd [] (argE N.length 1 [.list (ns.map PyData.int)]) (L2.start N [.ref a]) H := by
  refine ⟨⟨fun z hz => (by cases hz), fun z hz => (by cases hz), fun z hz => al z (by simpa using hz), ?_, fun i d q => ?_, fun i j a d e ci cj qi qj _ _ => ?_⟩, fun z hz => by cases hz⟩
  · simp [L2.start, argE]
  · have q := argE_at q
    cases i with
    | zero =>
      simp at q
      subst q
      exact ⟨.ref a, start_at (by simp), by rw [h0]; exact ⟨a, ns, rfl, rfl, r, .inl ⟨by simp, by simp⟩⟩⟩
    | succ i => simp at q
  · have q := argE_at qi
    cases i with
    | zero => rw [h0] at ci; cases ci
    | succ i => simp at q
theorem fn_z (Fu : FunD K x qual (defArgs st) (defBody st) (defScope st) [] [] f fd) (S : FnScope N ps (defScope st)) (hn : ps.length ≤ N.length) (h1 : ps.length = 1) (h0 : kd 0 = .fz)
    (body : ∀ (cdv : Value) (A : Around) (outer : List Env) (s : Shared) (H : Hp) (E : XK), Room k (A.deeper (envOfC qual (defScope st) s.heap.objs.size f cdv)) → ∃ t, MXs (cxOf CX0 P w K mg base N qual (defScope st) f cdv A outer s H E).nox kd true (defBody st) t F) :
    FnOk P w K mg base CX0 (k + 1) f fd ps (spZ K (defN N.length ps.length F)) := by
  refine Fu.ok S (fun vs H Q E ⟨B, a, ns, d, al, e, _⟩ => by rw [e, h1]; rfl) fun cdv A outer s H vs Q E hr ⟨B, a, ns, d, al, ev, r, e, q⟩ => ?_
  subst ev
  obtain ⟨t, m⟩ := body cdv A outer s H E hr
  unfold defN at e
  rw [h1] at e
  rw [if_pos (by rfl)] at e
  obtain ⟨o, e1, e2⟩ := bind_some e
  refine ⟨t, m.pe.nox, m.ev B [] [] _ _ H o _ (sk_startZ (by omega) al r h0) e1 ?_⟩
  cases o with
  | rt d' ρ' =>
    cases e2
    rintro v O' σ' H' sp _ ⟨p, rfl, hp, _, r⟩
    exact q p H' (hp.elim (fun z => by cases z) fun z => z) sp.kp.to_same r
  | nx ρ' => cases e2
  | bk _ => cases e2
  | ct _ => cases e2
end
/-- the law itself -/
def spW (K : PySem.W.Frag) (g : List D → Option D) : Sp := fun vs H Q _ => ∃ (a : Addr) (ns : List Int), vs = [.ref a] ∧ SqL K H a (ns.map V.int) ∧ g [.list (ns.map PyData.int)] = some (.bool true) ∧ ∀ H', Q (.bl true) H'
section
variable {P : Program} {w : World} {K : PySem.W.Frag} {mg : Str → Option Value} {base : Heap} {kd : Nat → SK} {F : Fs} {N ps : List Str} {x qual : Str} {st : Stmt} {f : Addr} {fd : FuncData} {k : Nat}
theorem fn_w (Fu : FunD K x qual (defArgs st) (defBody st) (defScope st) [] [] f fd) (S : FnScope N ps (defScope st)) (hn : ps.length ≤ N.length) (h1 : ps.length = 1) (h0 : kd 0 = .fz)
    (body : ∀ (cdv : Value) (A : Around) (outer : List Env) (s : Shared) (H : Hp) (E : XK), Room k (A.deeper (envOfC qual (defScope st) s.heap.objs.size f cdv)) → ∃ t, MXs (cxOf CX0 P w K mg base N qual (defScope st) f cdv A outer s H E).nox kd false (defBody st) t F) :
    FnOk P w K mg base CX0 (k + 1) f fd ps (spW K (defF N.length ps.length F)) := by
  refine Fu.ok S (fun vs H Q E ⟨a, ns, e, _⟩ => by rw [e, h1]; rfl) fun cdv A outer s H vs Q E hr ⟨a, ns, ev, r, e, q⟩ => ?_
  subst ev
  obtain ⟨t, m⟩ := body cdv A outer s H E hr
  unfold defF at e
  rw [h1] at e
  rw [if_pos (by rfl)] at e
  obtain ⟨o, e1, e2⟩ := bind_some e
  refine ⟨t, m.pe.nox, m.ev [] [] [] _ _ H o _ (sk_startZ (by omega) (fun z hz => by cases hz) r h0) e1 ?_⟩
  cases o with
  | rt d' ρ' =>
    cases e2
    intro v O' σ' H' sp _ r
    have r' : Rp K ([] ++ O') H' (.bool true) v := r
    unfold Rp at r'
    rw [r']
    exact q H'
  | nx ρ' => cases e2
  | bk _ => cases e2
  | ct _ => cases e2
end
section
variable {X : Cx} {kd : Nat → SK} {pos p px : Pos} {x y : Str} {i : Nat}
theorem mn_callZ (K : PySem.W.Frag) {P : Program} {w : World} {mg : Str → Option Value} {base : Heap} {k : Nat} {fn : Addr} {fd : FuncData} {ps : List Str} {h : List D → Option D} (O : OkD P w K mg base k fn ps fd (spZ K h)) (hr : Room k X.A) (hg : Gl X x) (hm : X.mg x = some (.ref fn)) (hy : PE X (.Name y px) (tVar i)) (hk : kd i = .fz)
    (hP : X.prog = P := by rfl) (hW : X.w = w := by rfl) (hK : X.K = K := by rfl) (hM : X.mg = mg := by rfl) (hB : X.base = base := by rfl)
    (hdb : (x == ("__debug__" : Str)) = false := by decide) (he : starEach [.Name y px] X.env = (false, eval (.Name y px) X.env) :: starEach [] X.env := by rfl) (hpl : (backTo pos (starEach [] X.env)).any (·.1) = false := by rfl) :
    MN X kd (.Call (.Name x p) [.Name y px] [] pos) (tCall (spZ K h) [] E0 (tCons (tVar i) tNil)) (fCall h (fCons (fVar i) fNil)) := by
  subst hP hW hK hM hB
  refine ⟨pe_call O.ok hr hg hm O.kp O.bd .nil pass0 (pa_cons hy pa_nil he) hdb he hpl, fun B O P ρ σ H d Q R hf q => ?_⟩
  obtain ⟨ds, h1, h2⟩ := bind_some hf
  obtain ⟨d0, h3, h4⟩ := bind_some h1
  obtain ⟨ds', h5, h6⟩ := map_some h4
  cases h5
  subst h6
  obtain ⟨a, ns, q1, rfl, q2⟩ := fz_at R hk h3
  refine ⟨_, q1, ?_⟩
  show spZ X.K h ([.ref a] ++ []) H Q E0
  rw [List.append_nil]
  exact ⟨B, a, ns, d, R.al, rfl, q2, h2, fun p H' hp s2 r2 => q p H' hp s2 r2⟩
end
end Mx

/-! THE MIRROR LAYER, part 12: sets of nested tuples of numbers, and sorted(set(xs)). It leans on HandS.TupSets for the tables. -/
namespace Mx
open PySem PySem.Spec L2 PyProof.Rows

/-- the value v is the keyF k, without texts, not deep -/
def NsI (h : Heap) (k : NK) (v : Value) : Prop := NestedIs h k v ∧ noTx k = true ∧ k.depth ≤ 8
theorem nsi_keep {h h' : Heap} {k : NK} {v : Value} (x : NsI h k v) (jk : ∀ c o, h.get? c = some o → h'.get? c = some o) : NsI h' k v := ⟨NestedIs.at (fun a o _ _ e _ => jk a o e) k v x.1, x.2⟩
theorem nsi_same {h h' : Heap} {k : NK} {v : Value} {a : Addr} {o : Obj} {es : Array (Int × Value)} {ep : Nat} {t : SetTable} (jb : NsI h k v) (jo : h.get? a = some o) (jd : o.data = .set es ep t) (hs : Heap.SameBut a h h') : NsI h' k v := by
  refine ⟨NestedIs.at (fun b ob vs n e q => ?_) k v jb.1, jb.2⟩
  have jne : b ≠ a := by
    rintro rfl
    rw [jo] at e
    cases e
    rw [jd] at q
    cases q
  exact (hs.2 b jne).trans e
theorem nsi_inj {h : Heap} {k k' : NK} {v : Value} (x : NsI h k v) (y : NsI h k' v) : k = k' := NestedIs.inj _ _ _ x.1 y.1
section
variable {P : Program} {w : World} {A : Around} {E : Value → Shared → Prop} {s : Shared}
mutual
theorem hashBy_ns : ∀ (k : NK) (v : Value) (n : Nat) (Q : Bool → Shared → Prop), NestedIs s.heap k v → noTx k = true → k.depth ≤ n → Q true s → wpAny (model P w) A (hashByValue n v) Q E s
  | .none, _, n, Q, x, _, _, h => by cases x; cases n <;> exact wpAny_pure h
  | .num i, _, n, Q, x, _, _, h => by cases x <;> cases n <;> exact wpAny_pure h
  | .text _, _, n, Q, x, t, _, h => by unfold noTx at t; cases t
  | .tup ks, v, n, Q, x, t, d, h => by
    unfold noTx at t
    simp only [NestedKey.depth] at d
    cases n with
    | zero => omega
    | succ n =>
      cases x with
      | @tup a o vs m _ z1 z2 z3 z4 =>
        have good := hashBys_ns ks vs.toList n z4 t (by omega)
        unfold hashByValue
        refine wpAny_bind (wpAny_specialOf (⟨o, z1, z2⟩ : s.TypeIs (.ref a) "tuple") F.slot_tuple_hash.lookup ?_)
        show wpAny _ _ (seqItems? (.ref a) >>= _) _ _ s
        refine wpAny_bind (wpAny_seqItems z1 z3 ?_)
        refine wpAny_bind ?_
        show wpAny _ _ (forIn vs _ _) _ _ s
        rw [← Array.forIn_toList]
        refine wpAny_forIn_list _ (fun rest r s' => r.1 = none ∧ s' = s ∧ ∀ u ∈ rest, u ∈ vs.toList) _ ?_ ?_ _ _ ⟨rfl, rfl, fun u ju => ju⟩
        · rintro u rest r s' ⟨jr, rfl, jall⟩
          refine wpAny_bind (good u (jall u (by simp)) _ ?_)
          simp only [Bool.not_true, Bool.false_eq_true, if_false]
          exact wpAny_pure ⟨rfl, rfl, fun y hy => jall y (by simp [hy])⟩
        · rintro ⟨r1, r2⟩ s' ⟨jr, rfl, _⟩
          simp only at jr
          subst jr
          exact wpAny_pure h
theorem hashBys_ns : ∀ (ks : List NK) (vs : List Value) (n : Nat), NestedAll s.heap ks vs → noTxs ks = true → NestedKey.depthAll ks ≤ n → ∀ u ∈ vs, ∀ (Q : Bool → Shared → Prop), Q true s → wpAny (model P w) A (hashByValue n u) Q E s
  | [], _, n, x, _, _, u, ju, Q, h => by cases x; cases ju
  | k :: ks, _, n, x, t, d, u, ju, Q, h => by
    unfold noTxs at t
    rw [Bool.and_eq_true] at t
    simp only [NestedKey.depthAll] at d
    cases x with
    | cons x1 x2 =>
      rcases List.mem_cons.mp ju with e | ju
      · rw [e]; exact hashBy_ns k _ n Q x1 t.1 (by omega) h
      · exact hashBys_ns ks _ n x2 t.2 (by omega) u ju Q h
end
mutual
theorem ofA_ns : ∀ (k : NK) (v : Value) (n : Nat) (Q : Bool → Shared → Prop), NestedIs s.heap k v → k.depth ≤ n → Q false s → wpAny (model P w) A (ofAClassStatement n v) Q E s
  | .none, _, n, Q, x, _, h => by cases x; cases n <;> exact wpAny_pure h
  | .num i, _, n, Q, x, _, h => by cases x <;> cases n <;> exact wpAny_pure h
  | .text _, _, n, Q, x, _, h => by cases x; cases n <;> exact wpAny_pure h
  | .tup ks, v, n, Q, x, d, h => by
    simp only [NestedKey.depth] at d
    cases n with
    | zero => omega
    | succ n =>
      cases x with
      | @tup a o vs m _ z1 z2 z3 z4 =>
        have good := ofAs_ns ks vs.toList n z4 (by omega)
        unfold ofAClassStatement
        refine wpAny_bind (wpAny_typeOf (⟨o, z1, z2⟩ : s.TypeIs (.ref a) "tuple") ?_)
        dsimp only
        have e : (("tuple" : String) == "tuple") = true := by decide
        simp only [e, if_true, Bool.not_true, Bool.false_eq_true, if_false]
        try refine wpAny_bind (wpAny_pure ?_)
        try simp only [Bool.not_true, Bool.false_eq_true, if_false]
        show wpAny _ _ (seqItems? (.ref a) >>= _) _ _ s
        refine wpAny_bind (wpAny_seqItems z1 z3 ?_)
        dsimp only
        refine wpAny_bind ?_
        show wpAny _ _ (forIn vs _ _) _ _ s
        rw [← Array.forIn_toList]
        refine wpAny_forIn_list _ (fun rest r s' => r.1 = none ∧ s' = s ∧ ∀ u ∈ rest, u ∈ vs.toList) _ ?_ ?_ _ _ ⟨rfl, rfl, fun u ju => ju⟩
        · rintro u rest r s' ⟨jr, rfl, jall⟩
          refine wpAny_bind (good u (jall u (by simp)) _ ?_)
          simp only [Bool.false_eq_true, if_false]
          exact wpAny_pure ⟨rfl, rfl, fun y hy => jall y (by simp [hy])⟩
        · rintro ⟨r1, r2⟩ s' ⟨jr, rfl, _⟩
          simp only at jr
          subst jr
          exact wpAny_pure h
theorem ofAs_ns : ∀ (ks : List NK) (vs : List Value) (n : Nat), NestedAll s.heap ks vs → NestedKey.depthAll ks ≤ n → ∀ u ∈ vs, ∀ (Q : Bool → Shared → Prop), Q false s → wpAny (model P w) A (ofAClassStatement n u) Q E s
  | [], _, n, x, _, u, ju, Q, h => by cases x; cases ju
  | k :: ks, _, n, x, d, u, ju, Q, h => by
    simp only [NestedKey.depthAll] at d
    cases x with
    | cons x1 x2 =>
      rcases List.mem_cons.mp ju with e | ju
      · rw [e]; exact ofA_ns k _ n Q x1 (by omega) h
      · exact ofAs_ns ks _ n x2 (by omega) u ju Q h
end
theorem seen_ns {k : NK} {b : Addr} {Q : Bool → Shared → Prop} (jk : NsI s.heap k (.ref b)) {stored : List Value} (hy : ∀ y ∈ stored, ∃ k' c, y = Value.ref c ∧ NsI s.heap k' (.ref c)) (h : Q false s) :
    wpAny (model P w) A (searchCouldBeSeen (.ref b) stored) Q E s := by
  unfold searchCouldBeSeen
  refine wpAny_bind ?_
  refine wpAny_forIn_list _ (fun rest r s' => r.1 = none ∧ s' = s ∧ ∀ y ∈ rest, ∃ k' c, y = Value.ref c ∧ NsI s.heap k' (.ref c)) _ ?_ ?_ _ _ ⟨rfl, rfl, hy⟩
  · rintro v rest r s' ⟨jr, rfl, jall⟩
    obtain ⟨k', c, rfl, jc⟩ := jall v (by simp)
    have left : ∀ y ∈ rest, ∃ k' c, y = Value.ref c ∧ NsI s'.heap k' (.ref c) := fun u m => jall u (by simp [m])
    dsimp only
    by_cases jv : (b == c || (carriedByValue (.ref b) && carriedByValue (.ref c))) = true
    · exact wp_if_pos jv (wpAny_pure ⟨rfl, rfl, left⟩)
    · refine wp_if_neg jv (wpAny_bind (quiet_key _ _ 8 _ jk.1 jk.2.2 A E _ ?_))
      simp only [Bool.not_true, Bool.false_eq_true, if_false]
      refine wpAny_bind (quiet_key _ _ 8 _ jc.1 jc.2.2 A E _ ?_)
      simp only [Bool.not_true, Bool.false_eq_true, if_false]
      refine wpAny_bind (ofA_ns _ _ 8 _ jk.1 jk.2.2 ?_)
      simp only [Bool.false_eq_true, if_false]
      refine wpAny_bind (ofA_ns _ _ 8 _ jc.1 jc.2.2 ?_)
      simp only [Bool.false_eq_true, if_false]
      exact wpAny_pure ⟨rfl, rfl, left⟩
  · rintro ⟨r1, r2⟩ s' ⟨jr, rfl, _⟩
    simp only at jr
    subst jr
    exact wpAny_pure h
theorem eqB_ns {x y : NK} {a b : Addr} {Q : Bool → Shared → Prop} (ju : A.units + 8 < cLine) (jx : NsI s.heap x (.ref a)) (hy : NsI s.heap y (.ref b)) (h : Q (decide (x = y)) s) : wpAny (model P w) A (eqBool (.ref a) (.ref b)) Q E s :=
  (nestedKind P w).eqBool ju ⟨jx.1, jx.2.2⟩ ⟨hy.1, hy.2.2⟩ h
theorem hash_ns {k : NK} {a : Addr} {Q : Int → Shared → Prop} (ju : A.units + 8 < cLine) (jk : NsI s.heap k (.ref a)) (h : Q (h0 k) { s with toks := s.toks + k.draws }) : wpAny (model P w) A (PySem.pyHash (.ref a)) Q E s :=
  (nestedKind P w).pyHash ju ⟨jk.1, jk.2.2⟩ (by
    show Q (k.hash w) _
    rw [h0_eq w k jk.2.1]
    exact h)
def rowsN (L : List (Addr × NK)) : List (Int × Value) := L.map fun p => (h0 p.2, Value.ref p.1)
structure NSet (w : World) (h : Heap) (a : Addr) (L : List (Addr × NK)) (es : Array (Int × Value)) (ep : Nat) (t : SetTable) : Prop where
  ob : ∃ o, h.get? a = some o ∧ o.ExactSet ∧ o.data = .set es ep t
  rows : es.toList = rowsN L
  tab : TabOk t (L.map fun p => h0 p.2)
  nd : (L.map (·.2)).Nodup
  tup : ∀ p ∈ L, NsI h p.2 (.ref p.1)
  plain : t.plain = true
  led : w.params.followText "set-order" = true ∨ t.led = true
  room : L.length * 5 < t.mask * 3
  few : L.length < 64
variable {a : Addr} {L : List (Addr × NK)} {es : Array (Int × Value)} {ep : Nat} {t : SetTable}
theorem NSet.size (R : NSet w s.heap a L es ep t) : es.size = L.length := by
  have h := congrArg List.length R.rows
  unfold rowsN at h
  rw [Array.length_toList, List.length_map] at h
  exact h
theorem NSet.fits (R : NSet w s.heap a L es ep t) : t.fits es.size = true := by
  have z1 := R.tab.sz
  rw [List.length_map] at z1
  have z2 := R.size
  have z3 := R.room
  unfold SetTable.fits SetTable.fill
  rw [R.tab.dm, Bool.and_eq_true, beq_iff_eq, decide_eq_true_eq]
  show t.place.size = es.size ∧ t.place.size + 0 ≤ t.mask
  omega
theorem NSet.entry (R : NSet w s.heap a L es ep t) {i : Nat} {p : Addr × NK} (h : L[i]? = some p) : es[i]? = some (h0 p.2, Value.ref p.1) := by
  rw [← Array.getElem?_toList, R.rows]
  unfold rowsN
  rw [List.getElem?_map, h] <;> rfl
theorem NSet.gw (R : NSet w s.heap a L es ep t) : ¬ t.gaveWay = true := by
  unfold SetTable.gaveWay
  rw [mask_odd R.tab.mok]
  decide

/-- THE SEARCH: from the c-th step of the way on -/
theorem nsearch_from (R : NSet w s.heap a L es ep t) {x : Addr} {k : NK} (jx : NsI s.heap k (.ref x)) (ju : A.units + 8 < cLine) {K : Nat} (jKf : K < 10 * SetTable.turns t.mask)
    (jK : way t.mask (h0 k) K ∉ t.place.toList) (jKb : ∀ c, c < K → way t.mask (h0 k) c ∈ t.place.toList) {Q : SetFound → Shared → Prop}
    (jin : k ∈ L.map (·.2) → Q (.there none) s) (jout : k ∉ L.map (·.2) → Q (.free (way t.mask (h0 k) K) false) s) :
    ∀ (f c : Nat) (stand : Option SetTable.Probe), stand.getD (t.probeStart (h0 k)) = nth t.mask (runAt t.mask (SetTable.bits (h0 k) % (t.mask + 1)) (SetTable.bits (h0 k))) c → c ≤ K → K - c < f →
      (∀ (i : Nat) p, L[i]? = some p → p.2 = k → ∃ c', c ≤ c' ∧ c' < K ∧ t.place.toList[i]? = some (way t.mask (h0 k) c')) →
      wpAny (model P w) A (setSearchFrom a (.ref x) (h0 k) true f stand) Q E s
  | 0, c, stand, _, _, jf, _ => absurd jf (Nat.not_lt_zero _)
  | f + 1, c, stand, jst, jc, jf, jre => by
    obtain ⟨o, jo, jex, jd⟩ := R.ob
    rw [setSearchFrom_succ]
    refine wpAny_bind (wpAny_setState_of jo jd R.fits ?_)
    dsimp only
    refine wp_if_neg R.gw ?_
    try refine wpAny_bind (wpAny_pure ?_)
    have jnd : (nth t.mask (runAt t.mask (SetTable.bits (h0 k) % (t.mask + 1)) (SetTable.bits (h0 k))) c).dummy = none := by
      have keyF : ∀ (n : Nat) (p : SetTable.Probe), p.dummy = none → (nth t.mask p n).dummy = none := by
        intro n
        induction n with
        | zero => intro p h; exact h
        | succ n ih =>
          intro p h
          refine ih (adv t.mask p) ?_
          unfold adv
          split <;> exact h
      exact keyF c _ rfl
    have sh : ∀ q, nth t.mask (nth t.mask (runAt t.mask (SetTable.bits (h0 k) % (t.mask + 1)) (SetTable.bits (h0 k))) c) q = nth t.mask (runAt t.mask (SetTable.bits (h0 k) % (t.mask + 1)) (SetTable.bits (h0 k))) (c + q) := fun q => (nth_add t.mask c _ q).symm
    have v1 : ∀ q, (nth t.mask (nth t.mask (runAt t.mask (SetTable.bits (h0 k) % (t.mask + 1)) (SetTable.bits (h0 k))) c) q).j = way t.mask (h0 k) (c + q) := fun q => congrArg SetTable.Probe.j (sh q)
    have spec := go_spec t R.tab.ris R.tab.dm (fun i => (es[i]?.map (·.1)).getD 0) (h0 k) (10 * SetTable.turns t.mask) (K - c) _ jnd (by omega)
      (fun q jq => by rw [v1]; exact jKb (c + q) (by omega)) (by rw [v1, show c + (K - c) = K by omega]; exact jK)
    have hashAt : ∀ (i : Nat) p, L[i]? = some p → (fun i => (es[i]?.map (·.1)).getD 0) i = h0 p.2 := fun i p jp => by
      show (es[i]?.map (·.1)).getD 0 = _
      rw [R.entry jp] <;> rfl
    rcases spec with ⟨q, i, jq, ji, jh, jno, jpr⟩ | ⟨jno, jpr⟩
    · -- a candidate
      have hpr' : t.probe (fun i => (es[i]?.map (·.1)).getD 0) (h0 k) (stand.getD (t.probeStart (h0 k))) = some (.candidate (way t.mask (h0 k) (c + q)) i (nth t.mask (runAt t.mask (SetTable.bits (h0 k) % (t.mask + 1)) (SetTable.bits (h0 k))) (c + (q + 1)))) := by
        rw [jst, ← v1, ← sh]
        exact jpr
      rw [hpr']
      dsimp only
      rw [v1] at ji
      -- the entry
      have jil : i < L.length := by
        have z1 : i < t.place.toList.length := (List.getElem?_eq_some_iff.mp ji).1
        have z2 := R.tab.sz
        rw [List.length_map] at z2
        rw [Array.length_toList] at z1
        omega
      have jp : L[i]? = some L[i] := List.getElem?_eq_getElem jil
      generalize jpe : L[i] = p at jp
      have jmem : p ∈ L := List.mem_of_getElem? jp
      have jpt := R.tup p jmem
      have rest : wpAny (model P w) A (searchRest a (.ref x) (h0 k) true f es t (way t.mask (h0 k) (c + q)) i (nth t.mask (runAt t.mask (SetTable.bits (h0 k) % (t.mask + 1)) (SetTable.bits (h0 k))) (c + (q + 1)))) Q E s := by
        unfold searchRest
        rw [R.entry jp]
        dsimp only
        refine wpAny_bind (wpAny_holding (eqB_ns ju jpt jx ?_))
        refine wpAny_bind (wpAny_setState_of jo jd R.fits ?_)
        dsimp only
        by_cases jkk : p.2 = k
        · refine wp_if_pos (by simp [jkk]) ?_
          refine wpAny_pure (jin ?_)
          exact List.mem_map.mpr ⟨p, jmem, jkk⟩
        · refine wp_if_neg (by simp [jkk]) ?_
          try refine wpAny_bind (wpAny_pure ?_)
          rw [sameMem]
          dsimp only
          have jsl : t.slot (way t.mask (h0 k) (c + q)) = .live i := slot_live R.tab.ris ji
          simp only [if_true, jsl, R.entry jp]
          refine wpAny_bind (wpAny_isSame_ref_self (wpAny_bind (wpAny_pure ?_)))
          simp only [if_true]
          refine wp_if_neg (by simp [jkk]) ?_
          refine nsearch_from R jx ju jKf jK jKb jin jout f (c + (q + 1)) _ rfl (by omega) (by omega) fun ix0 pr0 h0 hk0 => ?_
          obtain ⟨c', a1, a2, bef3⟩ := jre ix0 pr0 h0 hk0
          refine ⟨c', ?_, a2, bef3⟩
          -- it isn't passed
          rcases Nat.lt_or_ge c' (c + q) with z | z
          · exfalso
            refine jno (c' - c) ix0 (by omega) (by rw [v1, show c + (c' - c) = c' by omega]; exact bef3) ?_
            exact (hashAt ix0 pr0 h0).trans (congrArg (Mx.h0) hk0)
          · rcases Nat.lt_or_ge (c + q) c' with y | y
            · omega
            · exfalso
              have same1 : c' = c + q := Nat.le_antisymm y z
              rw [same1] at bef3
              have sl0 := slot_live R.tab.ris bef3
              rw [jsl] at sl0
              injection sl0 with sl0
              rw [← sl0, jp] at h0
              exact jkk ((congrArg Prod.snd (Option.some.inj h0)).trans hk0)
      by_cases jl : t.led = true
      · refine wp_if_neg (by simp [jl]) ?_
        try refine wpAny_bind (wpAny_pure ?_)
        exact rest
      · refine wp_if_pos (by simp [jl]) ?_
        refine wpAny_bind (seen_ns jx (fun y hy => ?_) ?_)
        · obtain ⟨e, je, ee⟩ := List.mem_map.mp hy
          have je1 : e ∈ es ∧ e.1 = h0 k := by simpa using je
          have je2 : e ∈ es.toList := by simpa using je1.1
          rw [R.rows] at je2
          obtain ⟨p2, jp2, v2⟩ := List.mem_map.mp je2
          refine ⟨p2.2, p2.1, ?_, R.tup p2 jp2⟩
          rw [← ee, ← v2]
        · refine wp_if_neg (by decide) ?_
          try refine wpAny_bind (wpAny_pure ?_)
          exact rest
    · -- the empty slot
      have hpr' : t.probe (fun i => (es[i]?.map (·.1)).getD 0) (h0 k) (stand.getD (t.probeStart (h0 k))) = some (.empty (way t.mask (h0 k) K) none) := by
        have v2 : way t.mask (h0 k) K = (nth t.mask (nth t.mask (runAt t.mask (SetTable.bits (h0 k) % (t.mask + 1)) (SetTable.bits (h0 k))) c) (K - c)).j := by
          rw [v1, show c + (K - c) = K by omega]
        rw [jst, v2]
        exact jpr
      rw [hpr']
      dsimp only
      refine wpAny_pure (jout fun jm => ?_)
      obtain ⟨pr0, h0, hk0⟩ := List.mem_map.mp jm
      obtain ⟨ix0, ji0, ve0⟩ := List.getElem_of_mem h0
      have zz0 : L[ix0]? = some pr0 := by rw [List.getElem?_eq_getElem ji0, ve0]
      obtain ⟨c', a1, a2, bef3⟩ := jre ix0 pr0 zz0 hk0
      refine jno (c' - c) ix0 (by omega) (by rw [v1, show c + (c' - c) = c' by omega]; exact bef3) ?_
      exact (hashAt ix0 pr0 zz0).trans (congrArg (Mx.h0) hk0)

/-- the search as adding asks for it -/
theorem nsearch_at (R : NSet w s.heap a L es ep t) {x : Addr} {k : NK} (jx : NsI s.heap k (.ref x)) (ju : A.units + 8 < cLine) {Q : SetFound → Shared → Prop}
    (jin : k ∈ L.map (·.2) → Q (.there none) s)
    (jout : ∀ K, k ∉ L.map (·.2) → way t.mask (h0 k) K ∉ t.place.toList → (∀ c, c < K → way t.mask (h0 k) c ∈ t.place.toList) → Q (.free (way t.mask (h0 k) K) false) s) :
    wpAny (model P w) A (setSearch a (.ref x) (h0 k) true) Q E s := by
  have jroom := R.room
  obtain ⟨K, jKf, jK, jKb⟩ := R.tab.first (by rw [List.length_map]; omega) (h0 k)
  have jbig : K < 100000 := by
    have : 10 * SetTable.turns t.mask ≤ 1420 := by
      unfold SetTable.turns
      rcases R.tab.mok with e | e | e <;> omega
    omega
  unfold setSearch
  refine nsearch_from R jx ju jKf jK jKb jin (fun jn => jout K jn jK jKb) 100000 0 none rfl (Nat.zero_le _) (by omega) fun i p jp jk => ?_
  have ji : (L.map fun p => h0 p.2)[i]? = some (h0 k) := by rw [List.getElem?_map, jp, ← jk] <;> rfl
  have jil : i < t.place.toList.length := by
    have z1 : i < L.length := (List.getElem?_eq_some_iff.mp jp).1
    have z2 := R.tab.sz
    rw [List.length_map] at z2
    rw [Array.length_toList]
    omega
  have jj := List.getElem?_eq_getElem jil
  obtain ⟨c, jc, e⟩ := R.tab.before jK ji jj
  exact ⟨c, Nat.zero_le _, jc, by rw [jj, e]⟩

theorem nrows_put (L : List (Addr × NK)) (p : Nat) (x : Addr) (k : NK) : rowsN (L.take p ++ (x, k) :: L.drop p) = (rowsN L).take p ++ (h0 k, Value.ref x) :: (rowsN L).drop p := by
  unfold rowsN
  rw [List.map_append, List.map_cons, List.map_take, List.map_drop]

theorem norder_rows (L : List (Addr × NK)) (es : Array (Int × Value)) (order : Array Nat) (jr : es.toList = rowsN L) (jp : order.toList.Perm (List.range L.length)) :
    ∃ Ln, (order.filterMap (es[·]?)).toList = rowsN Ln ∧ Ln.Perm L ∧ (Ln.map fun p => h0 p.2) = order.toList.map fun i => (es.map (·.1)).getD i 0 := by
  have jsz : es.size = L.length := by
    have h := congrArg List.length jr
    unfold rowsN at h
    rw [Array.length_toList, List.length_map] at h
    exact h
  have entF : ∀ i (h : i < L.length), es[i]? = some (h0 (L[i]).2, Value.ref (L[i]).1) := fun i h => by
    rw [← Array.getElem?_toList, jr]
    unfold rowsN
    rw [List.getElem?_map, List.getElem?_eq_getElem h] <;> rfl
  have keyF : ∀ l : List Nat, (∀ i ∈ l, i < L.length) → ∃ Ln : List (Addr × NK), l.filterMap (fun i => es[i]?) = rowsN Ln ∧ Ln = l.filterMap (fun i => L[i]?) ∧ (Ln.map fun p => h0 p.2) = l.map fun i => (es.map (·.1)).getD i 0 := by
    intro l
    induction l with
    | nil => intro _; exact ⟨[], rfl, rfl, rfl⟩
    | cons i l ih =>
      intro jl
      have ji := jl i List.mem_cons_self
      obtain ⟨Ln, v1, v2, v3⟩ := ih fun j jj => jl j (List.mem_cons_of_mem _ jj)
      refine ⟨L[i] :: Ln, ?_, ?_, ?_⟩
      · rw [List.filterMap_cons_some (entF i ji), v1] <;> rfl
      · rw [List.filterMap_cons_some (List.getElem?_eq_getElem ji), v2]
      · rw [List.map_cons, List.map_cons, v3]
        have hi2 : i < (es.map (·.1)).size := by rw [Array.size_map, jsz]; exact ji
        have v4 : (es.map (·.1)).getD i 0 = h0 (L[i]).2 := by
          have v5 : (es.map (·.1))[i]? = some (h0 (L[i]).2) := by rw [Array.getElem?_map, entF i ji] <;> rfl
          simp [Array.getD_eq_getD_getElem?, v5]
        rw [v4]
  obtain ⟨Ln, v1, v2, v3⟩ := keyF order.toList fun i ji => List.mem_range.mp (jp.mem_iff.mp ji)
  refine ⟨Ln, by first | (rw [Array.toList_filterMap]; exact v1) | simpa using v1, ?_, v3⟩
  have z1 : Ln.Perm ((List.range L.length).filterMap fun i => L[i]?) := by
    rw [v2]
    exact jp.filterMap _
  have z2 : (List.range L.length).filterMap (fun i => L[i]?) = L := by
    have takeF : ∀ n, n ≤ L.length → (List.range n).filterMap (fun i => L[i]?) = L.take n := by
      intro n
      induction n with
      | zero => intro _; rfl
      | succ n ih =>
        intro jn
        have jlt : n < L.length := jn
        rw [List.range_succ, List.filterMap_append, ih (Nat.le_of_lt jlt), List.take_succ, List.getElem?_eq_getElem jlt]
        rw [List.filterMap_cons_some (List.getElem?_eq_getElem jlt)] <;> rfl
    rw [takeF L.length (Nat.le_refl _), List.take_length]
  rw [z2] at z1
  exact z1

variable {a : Addr} {L : List (Addr × NK)} {es : Array (Int × Value)} {ep : Nat} {t : SetTable}
/-- the table laid anew, larger -/
theorem nrelay_at {o : Obj} (jo : s.heap.get? a = some o) (jex : o.ExactSet) (jd : o.data = .set es ep t) (jrows : es.toList = rowsN L) (jsz : t.place.size = es.size) (jdm : t.dummies = #[]) (jfl : es.size ≤ t.mask)
    (nd : (L.map (·.2)).Nodup) (tup : ∀ p ∈ L, NsI s.heap p.2 (.ref p.1)) (pl : t.plain = true) (ld : w.params.followText "set-order" = true ∨ t.led = true) (few : L.length < 64) {wanted M : Nat}
    (hw : SetTable.sizeAbove wanted - 1 = M) (jM : MaskOk M) (jw2 : SetTable.sizeAbove wanted ≤ 128) (jn : L.length * 5 < M * 3) {Q : Unit → Shared → Prop}
    (jQ : ∀ h' L' es' ep' t', Heap.SameBut a s.heap h' → NSet w h' a L' es' ep' t' → L'.Perm L → Q () { s with heap := h' }) : wpAny (model P w) A (setRelay a wanted) Q E s := by
  have jsl : es.size = L.length := by
    have h := congrArg List.length jrows
    unfold rowsN at h
    rw [Array.length_toList, List.length_map] at h
    exact h
  have jfits : t.fits es.size = true := by
    unfold SetTable.fits SetTable.fill
    rw [jdm, Bool.and_eq_true, beq_iff_eq, decide_eq_true_eq]
    show t.place.size = es.size ∧ t.place.size + 0 ≤ t.mask
    omega
  obtain ⟨t', order, e, jp, T, em, el, ep', ed⟩ := relaid_ok t (hs := es.map (·.1)) (wanted := wanted) hw jM (by rw [Array.size_map, jsl]; omega)
  rw [Array.size_map, jsl] at jp
  obtain ⟨Ln, r1, r2, r3⟩ := norder_rows L es order jrows jp
  rw [← r3] at T
  have js2 : (order.filterMap (es[·]?)).size = es.size := by
    have h := congrArg List.length r1
    unfold rowsN at h
    rw [Array.length_toList, List.length_map, r2.length_eq] at h
    rw [h, jsl]
  rw [setRelay_eq]
  refine wpAny_bind (wpAny_setState_of jo jd jfits ?_)
  dsimp only
  refine wp_if_neg (by rw [sizeLine_eq]; omega) ?_
  try refine wpAny_bind (wpAny_pure ?_)
  rw [e]
  dsimp only
  refine wpAny_bind ?_
  refine wp_if_neg (by rw [js2]; simp) ?_
  try refine wpAny_bind (wpAny_pure ?_)
  refine wpAny_pure ?_
  dsimp only
  refine wpAny_storeSet_of jo jd ?_ (by rw [js2, jsl, sizeLine_eq]; omega)
  have butA : Heap.SameBut a s.heap (s.heap.update a (Obj.putSet (order.filterMap (es[·]?)) t')) := Heap.SameBut.update ..
  refine jQ _ Ln (order.filterMap (es[·]?)) (ep + 1) t' butA ?_ r2
  refine ⟨⟨_, store_at jo jd, ⟨jex.1, jex.2.1, jex.2.2⟩, rfl⟩, r1, T, ?_, fun p hpm => nsi_same (tup p (r2.mem_iff.mp hpm)) jo jd butA, by rw [ep']; exact pl, by rw [el]; exact ld, ?_, by rw [r2.length_eq]; exact few⟩
  · exact (r2.map (·.2)).nodup_iff.mpr nd
  · rw [r2.length_eq, em]
    exact jn

/-- ADDING -/
theorem nadd_at (R : NSet w s.heap a L es ep t) {x : Addr} {k : NK} (jx : NsI s.heap k (.ref x)) (ju : A.units + 8 < cLine) (jfew : k ∉ L.map (·.2) → L.length + 1 < 64) {Q : Bool → Shared → Prop}
    (jQ : ∀ b h' L' es' ep' t', Heap.SameBut a s.heap h' → NSet w h' a L' es' ep' t' → (k ∈ L.map (·.2) → L' = L) → (k ∉ L.map (·.2) → L'.Perm ((x, k) :: L)) → Q b { s with heap := h' }) :
    wpAny (model P w) A (setAddHashed a (.ref x) (h0 k)) Q E s := by
  obtain ⟨o, jo, jex, jd⟩ := R.ob
  have jsl := R.size
  have jroom := R.room
  unfold setAddHashed
  refine wpAny_holding ?_
  rw [show (100000 : Nat) = 99999 + 1 from rfl, setAddHashedIn_succ]
  refine wpAny_bind (wpAny_setState_of jo jd R.fits ?_)
  dsimp only
  refine wp_if_neg (by simp [byScan, Value.scannable]) ?_
  try refine wpAny_bind (wpAny_pure ?_)
  refine wpAny_bind (nsearch_at R jx ju (fun jm => ?_) fun K jm jK jb => ?_)
  · dsimp only
    exact wpAny_pure (jQ false s.heap L es ep t (Heap.SameBut.refl a s.heap) R (fun _ => rfl) fun z => absurd jm z)
  · dsimp only
    refine wpAny_bind (wpAny_setState_of jo jd R.fits ?_)
    dsimp only
    have jfew' := jfew jm
    obtain ⟨q1, q2, q3, q4, put5, q6, q7, q8, put9⟩ := R.tab.put jK jb
    have jp1 : (t.put (way t.mask (h0 k) K)).1.plain = true := by rw [q6]; exact R.plain
    generalize jpt : t.put (way t.mask (h0 k) K) = pt at q1 q3 q4 put5 q6 q7 q8 put9 jp1 ⊢
    obtain ⟨t1, p⟩ := pt
    dsimp only at q1 q3 q4 put5 q6 q7 q8 put9 jp1 ⊢
    subst q1
    first
      | (refine wpAny_bind ?_; refine wp_if_pos jp1 ?_; refine hashBy_ns k _ 8 _ jx.1 jx.2.1 jx.2.2 ?_)
      | refine wp_if_pos jp1 (wpAny_bind (hashBy_ns k _ 8 _ jx.1 jx.2.1 jx.2.2 ?_))
    simp only [if_true]
    have jin : (SetTable.insertAt es (SetTable.below t.place (way t.mask (h0 k) K)) (h0 k, Value.ref x)).toList = rowsN (L.take (SetTable.below t.place (way t.mask (h0 k) K)) ++ (x, k) :: L.drop (SetTable.below t.place (way t.mask (h0 k) K))) := by
      rw [SetTable.toList_insertAt, nrows_put, R.rows]
    generalize jpp : SetTable.below t.place (way t.mask (h0 k) K) = p at q2 q3 jin ⊢
    have perm1 := put_perm L p (x, k)
    have jlen : (L.take p ++ (x, k) :: L.drop p).length = L.length + 1 := perm1.length_eq
    have jhs : (L.take p ++ (x, k) :: L.drop p).map (fun p => h0 p.2) = (L.map fun p => h0 p.2).take p ++ h0 k :: (L.map fun p => h0 p.2).drop p := by
      rw [List.map_append, List.map_cons, List.map_take, List.map_drop]
    rw [← jhs] at q3
    have ndN : ((L.take p ++ (x, k) :: L.drop p).map (·.2)).Nodup := by
      refine (perm1.map (·.2)).nodup_iff.mpr ?_
      rw [List.map_cons]
      exact List.nodup_cons.mpr ⟨jm, R.nd⟩
    have jes : (SetTable.insertAt es p (h0 k, Value.ref x)).size = L.length + 1 := by
      have h := congrArg List.length jin
      unfold rowsN at h
      rw [Array.length_toList, List.length_map, jlen] at h
      exact h
    generalize SetTable.insertAt es p (h0 k, Value.ref x) = es1 at jin jes ⊢
    generalize L.take p ++ (x, k) :: L.drop p = L1 at perm1 jlen q3 ndN jin
    refine wpAny_bind (wpAny_storeSet_of jo jd ?_ (by rw [jes, sizeLine_eq]; omega))
    have butA : Heap.SameBut a s.heap (s.heap.update a (Obj.putSet es1 t1)) := Heap.SameBut.update ..
    have jo1 := store_at (es' := es1) (t' := t1) jo jd
    generalize s.heap.update a (Obj.putSet es1 t1) = z1 at butA jo1 ⊢
    have tupN : ∀ p ∈ L1, NsI z1 p.2 (.ref p.1) := fun p jp => by
      rcases List.mem_cons.mp (perm1.mem_iff.mp jp) with e | jp
      · rw [e]; exact nsi_same jx jo jd butA
      · exact nsi_same (R.tup p jp) jo jd butA
    have ledN : w.params.followText "set-order" = true ∨ t1.led = true := by rw [put5]; exact R.led
    by_cases jf : t1.tooFull = true
    · first
        | (refine wpAny_bind ?_; refine wp_if_pos (by simp [jf]) ?_)
        | (refine wp_if_pos (by simp [jf]) ?_; refine wpAny_bind ?_)
      have jfull : (L.length + 1) * 5 ≥ t1.mask * 3 := by
        have h := jf
        unfold SetTable.tooFull at h
        rw [decide_eq_true_eq, put9, List.length_map] at h
        exact h
      rw [jsl]
      have jsz1 : t1.place.size = es1.size := by
        have h := q3.sz
        rw [List.length_map, jlen] at h
        rw [h, jes]
      have twoC : (t.mask = 7 ∧ L.length = 4) ∨ (t.mask = 31 ∧ L.length = 18) := by
        rcases R.tab.mok with e | e | e
        · left; rw [q4, e] at jfull; rw [e] at jroom; exact ⟨e, by omega⟩
        · right; rw [q4, e] at jfull; rw [e] at jroom; exact ⟨e, by omega⟩
        · exfalso; rw [q4, e] at jfull; omega
      have go : ∀ M, SetTable.sizeAbove (SetTable.grown (L.length + 1)) - 1 = M → MaskOk M → SetTable.sizeAbove (SetTable.grown (L.length + 1)) ≤ 128 → (L.length + 1) * 5 < M * 3 →
          wpAny (model P w) A (setRelay a (SetTable.grown (L.length + 1))) (fun _ s' => wpAny (model P w) A (pure true) Q E s') E { s with heap := z1 } := fun M h1' h2' h3' h4' => by
        refine nrelay_at (s := { s with heap := z1 }) jo1 ⟨jex.1, jex.2.1, jex.2.2⟩ rfl jin jsz1 q3.dm (by rw [jes, q4]; rcases twoC with ⟨e, v2⟩ | ⟨e, v2⟩ <;> omega) ndN tupN jp1 ledN (by rw [jlen]; exact jfew jm) h1' h2' h3' (by rw [jlen]; exact h4') ?_
        intro z2 Ln es2 ep2 t2 butB Rn permN
        refine wpAny_pure (jQ true z2 Ln es2 ep2 t2 (butA.trans butB) Rn (fun z => absurd z jm) fun _ => permN.trans perm1)
      rcases twoC with ⟨_, v2⟩ | ⟨_, v2⟩
      · refine go 31 (by rw [v2, size_20]) (.inr (.inl rfl)) (by rw [v2, size_20]; decide) (by omega)
      · refine go 127 (by rw [v2, size_76]) (.inr (.inr rfl)) (by rw [v2, size_76]; decide) (by omega)
    · first
        | refine wp_if_neg (by simp [jf]) ?_
        | (refine wpAny_bind ?_; refine wp_if_neg (by simp [jf]) ?_; refine wpAny_pure ?_)
      refine wpAny_pure (jQ true z1 L1 es1 (ep + 1) t1 butA ⟨⟨_, jo1, ⟨jex.1, jex.2.1, jex.2.2⟩, rfl⟩, jin, q3, ndN, tupN, jp1, ledN, ?_, by rw [jlen]; exact jfew jm⟩ (fun z => absurd z jm) fun _ => perm1)
      have h := jf
      unfold SetTable.tooFull at h
      rw [decide_eq_true_eq, put9, List.length_map] at h
      rw [jlen]
      omega

/-- what the set has got from the first i items -/
structure GotN (ks : List (Addr × NK)) (i : Nat) (L : List (Addr × NK)) : Prop where
  sub : ∀ p ∈ L, p ∈ ks.take i
  all : ∀ p ∈ ks.take i, p.2 ∈ L.map (·.2)
  len : L.length ≤ i
theorem GotN.zero (ks : List (Addr × NK)) : GotN ks 0 [] := ⟨fun p h => (by cases h), fun p h => (by simp at h), Nat.le_refl _⟩

theorem GotN.same {ks L : List (Addr × NK)} {i : Nat} {x : Addr × NK} (g : GotN ks i L) (h : ks[i]? = some x) (jm : x.2 ∈ L.map (·.2)) : GotN ks (i + 1) L := by
  refine ⟨fun p jp => ?_, fun p jp => ?_, Nat.le_succ_of_le g.len⟩
  · rw [take_next h]
    exact List.mem_append_left _ (g.sub p jp)
  · rw [take_next h] at jp
    rcases List.mem_append.mp jp with z | z
    · exact g.all p z
    · rw [List.mem_singleton.mp z]; exact jm
theorem GotN.more {ks L L' : List (Addr × NK)} {i : Nat} {x : Addr × NK} (g : GotN ks i L) (h : ks[i]? = some x) (perm1 : L'.Perm (x :: L)) : GotN ks (i + 1) L' := by
  refine ⟨fun p jp => ?_, fun p jp => ?_, ?_⟩
  · rw [take_next h]
    rcases List.mem_cons.mp (perm1.mem_iff.mp jp) with e | z
    · rw [e]; exact List.mem_append_right _ (List.mem_singleton.mpr rfl)
    · exact List.mem_append_left _ (g.sub p z)
  · rw [(perm1.map (·.2)).mem_iff, List.map_cons]
    rw [take_next h] at jp
    rcases List.mem_append.mp jp with z | z
    · exact List.mem_cons_of_mem _ (g.all p z)
    · rw [List.mem_singleton.mp z]; exact List.mem_cons_self
  · rw [perm1.length_eq, List.length_cons]
    exact Nat.succ_le_succ g.len


theorem few_more {ks L : List (Addr × NK)} {i : Nat} {p : Addr × NK} (jfew : ∀ ns : List NK, ns.Nodup → (∀ n ∈ ns, n ∈ ks.map (·.2)) → ns.length < 64) (nd : (L.map (·.2)).Nodup) (g : GotN ks i L) (jp : p ∈ ks) (nm : p.2 ∉ L.map (·.2)) : L.length + 1 < 64 := by
  have e := jfew (p.2 :: L.map (·.2)) (List.nodup_cons.mpr ⟨nm, nd⟩) fun n jn => ?_
  · simpa using e
  · rcases List.mem_cons.mp jn with z | z
    · rw [z]; exact List.mem_map_of_mem jp
    · obtain ⟨q, jq, eq⟩ := List.mem_map.mp z
      rw [← eq]
      exact List.mem_map_of_mem (List.mem_of_mem_take (g.sub q jq))
theorem NSet.keep {h h' : Heap} {a : Addr} {L : List (Addr × NK)} {es : Array (Int × Value)} {ep : Nat} {t : SetTable} (R : NSet w h a L es ep t) (ja : ∀ o, h.get? a = some o → h'.get? a = some o) (jt : ∀ p ∈ L, NsI h' p.2 (.ref p.1)) : NSet w h' a L es ep t := by
  obtain ⟨o, jo, r⟩ := R.ob
  exact ⟨⟨o, ja o jo, r⟩, R.rows, R.tab, R.nd, jt, R.plain, R.led, R.room, R.few⟩
/-- a new set -/
theorem nset_fresh {h : Heap} {a : Addr} (jo : h.get? a = some { cls := .type "set", dict := none, data := .set #[] 0 (.fresh 0 0 (!w.params.followText "set-order")) }) : NSet w h a [] #[] 0 (.fresh 0 0 (!w.params.followText "set-order")) where
  ob := ⟨_, jo, ⟨rfl, rfl, rfl⟩, rfl⟩
  rows := rfl
  tab := ⟨List.Pairwise.nil, rfl, rfl, .inl rfl, fun x jx => (by cases jx), fun i h j ji => (by simp at ji)⟩
  nd := List.nodup_nil
  tup := fun p jp => (by cases jp)
  plain := rfl
  led := by
    show _ ∨ (!w.params.followText "set-order") = true
    cases w.params.followText "set-order"
    · exact .inr rfl
    · exact .inl rfl
  room := by
    show 0 * 5 < 7 * 3
    decide
  few := by
    show 0 < 64
    decide

/-- set.update's loop -/
theorem nset_update {I : Addr} {fp wr : List Addr} {G : Array GenState → Array GenState → Prop} {n : Nat} {Pv : Nat → Value → Prop} {St : Nat → Shared → Prop} {R : Result → Shared → Prop}
    (W : WalksS P w A.in1 I fp wr G n Pv St) (S : Addr) (jSf : S ∉ fp) (ks : List (Addr × NK)) (jn : n = ks.length) (jfew : ∀ ns : List NK, ns.Nodup → (∀ n ∈ ns, n ∈ ks.map (·.2)) → ns.length < 64) (jval : ∀ i v, Pv i v → ∃ p, ks[i]? = some p ∧ v = .ref p.1)
    (h0 : Heap) (jk : ∀ p ∈ ks, NsI h0 p.2 (.ref p.1)) (jS0 : h0.get? S = none) (jw0 : ∀ b ∈ wr, h0.get? b = none) (ju : A.in1.units + 8 < cLine) :
    ∀ (k i : Nat) (s : Shared), n - i = k → i ≤ n → St i s → (∀ b o, h0.get? b = some o → s.heap.get? b = some o) → (∃ L es ep t, NSet w s.heap S L es ep t ∧ GotN ks i L) →
      (∀ s' L es ep t, Moved (S :: wr) G s s' → NSet w s'.heap S L es ep t → GotN ks n L → (∀ b o, h0.get? b = some o → s'.heap.get? b = some o) → R (.ok (.ret .none)) s') →
      codeAny (model P w) A (.builtin "set.update.loop" ⟨[.ref S, .ref I], []⟩) R s := by
  have jSw : S ∉ wr := fun h => jSf (W.sub _ h)
  have jsub : ∀ b ∈ wr, b ∈ S :: wr := fun b jb => List.mem_cons_of_mem _ jb
  have keepM : ∀ {s s' : Shared}, Moved wr G s s' → (∀ b o, h0.get? b = some o → s.heap.get? b = some o) → ∀ b o, h0.get? b = some o → s'.heap.get? b = some o := fun jm jkp b o e =>
    jm.heap b o (fun jb => by rw [jw0 b jb] at e; cases e) (jkp b o e)
  intro k
  induction k with
  | zero =>
    intro i s hk' ji jst jkp ⟨L, es, ep, t, jS, g⟩ jR
    have jin : i = n := by omega
    subst jin
    refine codeAny_builtin F.entry_set_update_loop ?_
    rw [Around.under_plainId F.plain_set_update_loop _]
    show wpAny _ A.in1 (pyNext (.ref I) >>= _) _ _ s
    refine wpAny_bind (W.done s _ _ jst fun s' jm => ?_)
    show wpAny _ A.in1 (ret Value.none) _ _ s'
    have jkp' := keepM jm jkp
    have sub : ∀ p ∈ L, p ∈ ks := fun p jp => List.mem_of_mem_take (g.sub p jp)
    exact wpAny_pure (jR s' L es ep t (jm.mono jsub) (jS.keep (fun o e => jm.heap S o jSw e) fun p jp => nsi_keep (jk p (sub p jp)) jkp') g jkp')
  | succ k ih =>
    intro i s hk' ji jst jkp ⟨L, es, ep, t, jS, g⟩ jR
    have jlt : i < n := by omega
    refine codeAny_builtin F.entry_set_update_loop ?_
    rw [Around.under_plainId F.plain_set_update_loop _]
    show wpAny _ A.in1 (pyNext (.ref I) >>= _) _ _ s
    refine wpAny_bind (W.item i s _ _ jlt jst fun v s' jP hst' jm => ?_)
    obtain ⟨p, jp, rfl⟩ := jval i v jP
    have jkp' := keepM jm jkp
    have sub : ∀ p ∈ L, p ∈ ks := fun p jp => List.mem_of_mem_take (g.sub p jp)
    have jS' : NSet w s'.heap S L es ep t := jS.keep (fun o e => jm.heap S o jSw e) fun q jq => nsi_keep (jk q (sub q jq)) jkp'
    have jx : NsI s'.heap p.2 (.ref p.1) := nsi_keep (jk p (List.mem_of_getElem? jp)) jkp'
    show wpAny _ A.in1 (holding [Value.ref p.1] (setAdd S (.ref p.1)) >>= _) _ _ s'
    refine wpAny_bind (wpAny_holding ?_)
    unfold setAdd
    refine wpAny_holding ?_
    refine wpAny_bind (hash_ns ju jx ?_)
    refine nadd_at (s := { s' with toks := s'.toks + p.2.draws }) jS' jx ju (fun nm => few_more jfew jS'.nd g (List.mem_of_getElem? jp) nm) fun b h' L' es' ep' t' jsb hS2 c1 c2 => ?_
    have g' : GotN ks (i + 1) L' := by
      rcases Classical.em (p.2 ∈ L.map (·.2)) with c | c
      · rw [c1 c]; exact g.same jp c
      · exact g.more jp (c2 c)
    have jkp2 : ∀ b o, h0.get? b = some o → h'.get? b = some o := fun b o e => (jsb.2 b (fun z => by rw [z, jS0] at e; cases e)).trans (jkp' b o e)
    refine wpAny_pure ⟨plainId_quiet F.plain_set_update_loop _, ih (i + 1) _ (by omega) jlt (W.frame _ s' _ _ hst' (Nat.le_add_right _ _) fun b jb o e => ?_) jkp2 ⟨L', es', ep', t', hS2, g'⟩ fun s'' Ln es2 ep2 t2 jm'' jS'' g'' jkp'' => ?_⟩
    · rw [jsb.2 b (fun h : b = S => jSf (by rw [← h]; exact jb))]; exact e
    · refine jR s'' Ln es2 ep2 t2 (Moved.trans W.gtrans ((jm.mono jsub).then_heap (Nat.le_add_right _ _) fun b o jb e => ?_) jm'') jS'' g'' jkp''
      rw [jsb.2 b (fun h : b = S => jb (by rw [h]; exact List.mem_cons_self))]; exact e

/-- set(xs) -/
theorem call_nset {l : Addr} {items : Array Value} (ks : List (Addr × NK)) {Q : Value → Shared → Prop} (jh : A.handled = none) (jl : s.heap.IsList l items) (jit : items.toList = ks.map fun p => Value.ref p.1)
    (jk : ∀ p ∈ ks, NsI s.heap p.2 (.ref p.1)) (jfew : ∀ ns : List NK, ns.Nodup → (∀ n ∈ ns, n ∈ ks.map (·.2)) → ns.length < 64) (ju : A.units + 16 < cLine)
    (h : ∀ (h' : Heap) (tk : Nat) L es ep t, NSet w h' s.heap.objs.size L es ep t → GotN ks ks.length L → (∀ b o, s.heap.get? b = some o → h'.get? b = some o) → Q (.ref s.heap.objs.size) { s with heap := h', toks := tk }) :
    wpAny (model P w) A (call (.type "set") [.ref l]) Q E s := by
  have jisz : items.size = ks.length := by
    have q := congrArg List.length jit
    rw [Array.length_toList, List.length_map] at q
    exact q
  obtain ⟨c, tl, jmro⟩ := F.called_set.mro
  have jmade := F.called_set.made
  have jsub := F.called_set.sub
  refine wpAny_call (codeAny_of_tree ?_)
  show wpAny _ _ (callAny (.type "set") _) _ _ _
  refine wpAny_pure ⟨Code.quiet_builtin _ (by decide +kernel), codeAny_builtin F.entry_type_call ?_⟩
  rw [Around.under_plain (weight_type_call_type "set" [.ref l] []) rfl]
  have z1 := F.called_set.notType
  have z2 := F.called_set.canCreate
  have jct := F.typeCall_set_1 (.ref l)
  repeat (any_goals (first | assumption | wp_step))

  refine codeAny_mono (code_set_led1 (.ref l) (E := E) (Q₁ := fun obj s₁ => obj = .ref s.heap.objs.size ∧ s₁ = { s with heap := s.heap.push { cls := .type "set", dict := none, data := .set #[] 0 (.fresh 0 0 (!w.params.followText "set-order")) } }) ⟨rfl, rfl⟩) fun r s₁ jr => ?_
  cases r with
  | error e => exact jr
  | ok fl =>
    cases fl with
    | ret obj =>
      obtain ⟨rfl, rfl⟩ := jr
      have jS : (s.heap.push { cls := .type "set", dict := none, data := .set #[] 0 (.fresh 0 0 (!w.params.followText "set-order")) }).get? s.heap.objs.size = some { cls := .type "set", dict := none, data := .set #[] 0 (.fresh 0 0 (!w.params.followText "set-order")) } := Heap.get?_push_size _ rfl
      have jT : Shared.TypeIs { s with heap := s.heap.push { cls := .type "set", dict := none, data := .set #[] 0 (.fresh 0 0 (!w.params.followText "set-order")) } } (.ref s.heap.objs.size) "set" := ⟨_, jS, rfl⟩
      have jli := F.called_set.init.lookup
      have jbi := F.called_set.init.bind (.ref s.heap.objs.size)
      repeat (any_goals (first | assumption | wp_step))

      refine codeAny_mono (codeAny_call_builtin (R := wants (fun r s₂ => r = .none ∧ ∃ h' tk L es ep t, s₂ = { s with heap := h', toks := tk } ∧ NSet w h' s.heap.objs.size L es ep t ∧ GotN ks ks.length L ∧
          (∀ b o, s.heap.get? b = some o → h'.get? b = some o)) E) F.called_set.init.plain F.entry_set_init (check_set_init_1 jT ?_)) fun r₂ s₂ jr₂ => ?_
      · obtain ⟨ol, jol, jcl, nl, jdl⟩ := jl
        obtain ⟨ocls, odict, odata, oslots⟩ := ol
        simp only at jcl jdl
        subst jcl; subst jdl
        have jol' : (s.heap.push { cls := .type "set", dict := none, data := .set #[] 0 (.fresh 0 0 (!w.params.followText "set-order")) }).get? l = some { cls := .type "list", dict := odict, data := .seq items nl, slots := oslots } := Heap.get?_push_of_some _ jol
        have jsls := F.sub_list_set
        have jslf := F.sub_list_frozenset
        have jne : (Value.type "list" == Value.type "dict") = false := by decide
        have jl1 : (s.heap.push { cls := .type "set", dict := none, data := .set #[] 0 (.fresh 0 0 (!w.params.followText "set-order")) }).IsList l items := ⟨_, jol', rfl, nl, rfl⟩
        unfold Builtin.«set.__init__» noKeywords Builtin.Frozenset.updateFrom
        generalize jPI : pyIter = PI
        wp_walk
        subst jPI

        refine wpAny_pyIter_list jl1 ?_
        refine wpAny_bind (wpAny_runValue ?_)
        have jlS : l < s.heap.objs.size := Heap.lt_size jol
        have jh3 : A.in1.in1.in1.handled = none := by simp [jh]
        have jz1 : (s.heap.push { cls := .type "set", dict := none, data := .set #[] 0 (.fresh 0 0 (!w.params.followText "set-order")) }).objs.size = s.heap.objs.size + 1 := Heap.size_push ..
        have jneI : l ≠ (s.heap.push { cls := .type "set", dict := none, data := .set #[] 0 (.fresh 0 0 (!w.params.followText "set-order")) }).objs.size := by
          rw [Heap.size_push]; exact Nat.ne_of_lt (Nat.lt_succ_of_lt jlS)
        have jSf : s.heap.objs.size ∉ [(s.heap.push { cls := .type "set", dict := none, data := .set #[] 0 (.fresh 0 0 (!w.params.followText "set-order")) }).objs.size, l] := by
          rw [Heap.size_push]; simp only [List.mem_cons, List.mem_singleton, List.not_mem_nil, or_false, not_or]
          exact ⟨Nat.ne_of_lt (Nat.lt_succ_self _), Nat.ne_of_gt jlS⟩
        have jval : ∀ (i : Nat) (v : Value), items[i]? = some v → ∃ p, ks[i]? = some p ∧ v = .ref p.1 := fun i v jv => by
          have q : items.toList[i]? = some v := by rw [Array.getElem?_toList]; exact jv
          rw [jit, List.getElem?_map] at q
          cases jq : ks[i]? with
          | none => rw [jq] at q; cases q
          | some p =>
            rw [jq] at q
            exact ⟨p, rfl, (Option.some.inj q).symm⟩
        have none_of : ∀ b, s.heap.objs.size ≤ b → s.heap.get? b = none := fun b jb => by
          cases q : s.heap.get? b with
          | none => rfl
          | some o => exact absurd (Nat.lt_of_lt_of_le (Heap.lt_size q) jb) (Nat.lt_irrefl _)
        refine nset_update ((Walks.list jh3 _ l jneI items).toS) s.heap.objs.size
          jSf ks jisz jfew jval s.heap jk (none_of _ (Nat.le_refl _)) (fun b jb => none_of b (by
            rw [List.mem_singleton.mp jb, Heap.size_push]
            exact Nat.le_succ _)) (by have e : A.in1.in1.in1.units = A.units + 1 + 1 + 1 := rfl; omega) (items.size - 0) 0 _ (by omega) (Nat.zero_le _)
          ⟨⟨_, Heap.get?_push_size _ rfl, rfl, rfl⟩, (jl1.push _)⟩ (fun b o e => Heap.get?_push_of_some _ (Heap.get?_push_of_some _ e)) ?jS0 ?jR
        case jS0 =>
          have jget : ((s.heap.push { cls := .type "set", dict := none, data := .set #[] 0 (.fresh 0 0 (!w.params.followText "set-order")) }).push { cls := .type "list_iterator", data := .fields #[.ref l, .int 0 0] }).get? s.heap.objs.size
              = some { cls := .type "set", dict := none, data := .set #[] 0 (.fresh 0 0 (!w.params.followText "set-order")) } := Heap.get?_push_of_some _ jS
          exact ⟨[], #[], 0, _, nset_fresh jget, GotN.zero ks⟩
        case jR =>
          intro s' L es ep t jm jS' g' jkp
          obtain ⟨h', g2, d', tk', os'⟩ := s'
          have eg : g2 = s.gens := jm.gens
          have ed : d' = s.drawn := jm.drawn
          have eo : os' = s.os := jm.os
          subst eg; subst ed; subst eo
          show wpAny _ _ _ _ _ _
          refine wpAny_pure ?_
          show wpAny _ _ (ret Value.none) _ _ _
          rw [jisz] at g'
          exact wpAny_pure ⟨rfl, h', tk', L, es, ep, t, rfl, jS', g', jkp⟩

      · cases r₂ with
        | error e => exact jr₂
        | ok fl₂ =>
          cases fl₂ with
          | ret r =>
            obtain ⟨rfl, h', tk, L, es, ep, t, rfl, jS', g', hk'⟩ := jr₂
            repeat (any_goals (first | assumption | wp_step))
            exact h _ _ _ _ _ _ jS' g' hk'
          | _ => exact jr₂.elim
    | _ => exact jr.elim

end
end Mx

/-! THE MIRROR LAYER, part 13: sorted(set(xs)), xs nested tuples of numbers. -/
namespace Mx
open PySem PySem.Spec L2 PyProof.Rows

/-! ### orders -/
mutual
theorem eqv_nk : ∀ a b : NK, PyData.eqv a.data b.data = true → a = b
  | .none, b, h => by cases b <;> simp [NestedKey.data, PyData.eqv] at h; rfl
  | .num i, b, h => by cases b <;> simp [NestedKey.data, PyData.eqv] at h; rw [h]
  | .text i, b, h => by cases b <;> simp [NestedKey.data, PyData.eqv] at h; rw [h]
  | .tup ks, b, h => by
    cases b with
    | tup js => simp only [NestedKey.data, PyData.eqv] at h; rw [eqvs_nk ks js h]
    | _ => simp [NestedKey.data, PyData.eqv] at h
theorem eqvs_nk : ∀ a b : List NK, PyData.eqvAll (NestedKey.datas a) (NestedKey.datas b) = true → a = b
  | [], b, h => by cases b <;> simp [NestedKey.datas, PyData.eqvAll] at h; rfl
  | k :: ks, b, h => by
    cases b with
    | nil => simp [NestedKey.datas, PyData.eqvAll] at h
    | cons j js =>
      simp only [NestedKey.datas, PyData.eqvAll, Bool.and_eq_true] at h
      rw [eqv_nk k j h.1, eqvs_nk ks js h.2]
end
theorem toks_inj {x y : D} (h : PySem.W.alike x y = true) (e : PySem.W.keyToks x = PySem.W.keyToks y) : PyData.eqv x y = true := by
  cases c : PyData.eqv x y with
  | true => rfl
  | false =>
    have t := (PySem.W.toks_eqv x y h).2 c [] [.inl 0]
    rw [e, PySem.W.lex_pre] at t
    have i := (listOrd itemOrd).irrefl (PySem.W.keyToks y)
    have i' : PyProof.Rows.lexLt itemOrd (PySem.W.keyToks y) (PySem.W.keyToks y) = false := i
    rw [i'] at t
    exact absurd t (by decide)
/-- sorting forgets the order -/
theorem sort_perm {ks js : List NK} (p : ks.Perm js) (al : dataOk (js.map NestedKey.data) = true) : ks.mergeSort (PySem.W.dataLe false NestedKey.data) = js.mergeSort (PySem.W.dataLe false NestedKey.data) := by
  have T := PySem.W.sortLe_total (listOrd itemOrd) false fun k : NK => PySem.W.keyToks k.data
  have pp : (ks.mergeSort (PySem.W.dataLe false NestedKey.data)).Perm (js.mergeSort (PySem.W.dataLe false NestedKey.data)) := (List.mergeSort_perm ks _).trans (p.trans (List.mergeSort_perm js _).symm)
  refine List.Perm.eq_of_pairwise (le := fun a b => PySem.W.dataLe false NestedKey.data a b = true) (fun a b ha hb h1 h2 => ?_) (List.pairwise_mergeSort (fun a b c => T.trans a b c) (fun a b => by have := T.total a b; simpa using this) _) (List.pairwise_mergeSort (fun a b c => T.trans a b c) (fun a b => by have := T.total a b; simpa using this) _) pp
  have ha' : a.data ∈ js.map NestedKey.data := List.mem_map_of_mem (p.mem_iff.mp ((List.mergeSort_perm ks _).mem_iff.mp ha))
  have hb' : b.data ∈ js.map NestedKey.data := List.mem_map_of_mem ((List.mergeSort_perm js _).mem_iff.mp hb)
  have aa : PySem.W.alike a.data b.data = true := allAlike_of al _ ha' _ hb'
  have h1' : (!(listOrd itemOrd).blt (PySem.W.keyToks b.data) (PySem.W.keyToks a.data)) = true := h1
  have h2' : (!(listOrd itemOrd).blt (PySem.W.keyToks a.data) (PySem.W.keyToks b.data)) = true := h2
  rw [Bool.not_eq_true'] at h1' h2'
  exact eqv_nk a b (toks_inj aa ((listOrd itemOrd).total _ _ h2' h1'))

/-! ### without repeats -/
def ded : List NK → List NK
  | [] => []
  | k :: ks => if k ∈ ded ks then ded ks else k :: ded ks
theorem ded_nodup : ∀ ks, (ded ks).Nodup
  | [] => List.nodup_nil
  | k :: ks => by
    unfold ded
    split
    · exact ded_nodup ks
    · rename_i h; exact List.nodup_cons.mpr ⟨h, ded_nodup ks⟩
theorem ded_mem : ∀ {ks : List NK} {k : NK}, k ∈ ded ks ↔ k ∈ ks
  | [], k => Iff.rfl
  | j :: ks, k => by
    unfold ded
    split
    · rename_i h
      rw [ded_mem, List.mem_cons]
      refine ⟨.inr, fun z => z.elim (fun e => ?_) fun z => z⟩
      rw [e]; exact ded_mem.mp h
    · rw [List.mem_cons, List.mem_cons, ded_mem]
theorem nodup_le : ∀ {ns ms : List NK}, ns.Nodup → (∀ n ∈ ns, n ∈ ms) → ns.length ≤ ms.length
  | [], _, _, _ => Nat.zero_le _
  | n :: ns, ms, nd, h => by
    have hm := h n (by simp)
    have nd' := List.nodup_cons.mp nd
    have := nodup_le (ns := ns) (ms := ms.erase n) nd'.2 fun k hk => (List.mem_erase_of_ne (fun e : k = n => nd'.1 (by rw [← e]; exact hk))).mpr (h k (by simp [hk]))
    rw [List.length_erase_of_mem hm] at this
    have l := List.length_pos_of_mem hm
    simp only [List.length_cons]
    omega
theorem perm_lift {α β : Type} {f : α → β} {us ws : List β} (p : us.Perm ws) : ∀ L : List α, ws = L.map f → ∃ M : List α, M.Perm L ∧ us = M.map f := by
  induction p with
  | nil => intro L h; exact ⟨[], by rw [List.map_eq_nil_iff.mp h.symm], rfl⟩
  | cons x _ ih =>
    intro L h
    cases L with
    | nil => cases h
    | cons a L =>
      rw [List.map_cons] at h
      injection h with h1 h2
      obtain ⟨M, m1, m2⟩ := ih L h2
      exact ⟨a :: M, m1.cons a, by rw [List.map_cons, h1, m2]⟩
  | swap x y l =>
    intro L h
    cases L with
    | nil => cases h
    | cons a L =>
      cases L with
      | nil => cases h
      | cons b L =>
        rw [List.map_cons, List.map_cons] at h
        injection h with h1 h2
        injection h2 with h2 h3
        exact ⟨b :: a :: L, List.Perm.swap .., by rw [List.map_cons, List.map_cons, ← h1, ← h2, ← h3]⟩
  | trans _ _ i1 i2 =>
    intro L h
    obtain ⟨M, m1, m2⟩ := i2 L h
    obtain ⟨N, n1, n2⟩ := i1 M m2
    exact ⟨N, n1.trans m1, n2⟩

/-! ### sorted(set(xs)) -/
def setOk (ks : List NK) : Bool := ks.all (fun k => match k with
  | .tup _ => decide (k.depth ≤ 8)
  | _ => false) && decide ((ded ks).length < 64) && dataOk ((ded ks).map NestedKey.data) && tupsOrNot ((ded ks).map NestedKey.data) && ((ded ks).map NestedKey.data).all shal
def dSortSet : D → Option D
  | .list ds => (keyDs ds).bind fun ks => if setOk ks = true then some (.list (sortD ((ded ks).map NestedKey.data))) else none
  | _ => none
def tSortSet (K : PySem.W.Frag) (ta : TE) : TE := fun σ H Q => ta σ H fun x H1 => ∃ (l : Addr) (ks : List (Addr × NK)), x = V.ref l ∧ SqL K H1 l (ks.map fun p => V.ref p.1) ∧ (∀ p ∈ ks, noTx p.2 = true ∧ p.2.depth ≤ 8 ∧ NkV H1 p.2 (.ref p.1)) ∧ (∀ ns : List NK, ns.Nodup → (∀ n ∈ ns, n ∈ ks.map (·.2)) → ns.length < 64) ∧
  ∀ L : List NK, L.Nodup → (∀ n, n ∈ L ↔ n ∈ ks.map (·.2)) → (dataOk (L.map NestedKey.data) && tupsOrNot (L.map NestedKey.data) && (L.map NestedKey.data).all shal) = true ∧
    ∀ p ys, H1 p = none → (∀ K B, RpA K B H1 (sortD (L.map NestedKey.data)) ys) → Q (.ref p) (upd H1 p (.lst ys))
theorem refs_are : ∀ {ks : List (Addr × NK)} {us : List Value}, Vals (ks.map fun p => V.ref p.1) us → us = ks.map fun p => Value.ref p.1
  | [], _, .nil => rfl
  | p :: ks, _, .cons r t => by
    cases r
    rw [refs_are t]; rfl
section
variable {X : Cx} {kd : Nat → SK} {a : Expr} {ta : TE} {fa : Fx} {pos : Pos}
theorem pe_sortSet (K : PySem.W.Frag) {p p2 q : Pos} (hc : X.calm = true) (hu : X.A.units + 64 < cLine) (hg : Gl X "sorted") (hm : X.mg "sorted" = none) (hg2 : Gl X "set") (hm2 : X.mg "set" = none) (ha : PE X a ta) (hK : X.K = K := by rfl)
    (na : starEach [a] X.env = (false, eval a X.env) :: starEach [] X.env := by rfl) : PE X (.Call (.Name "sorted" p) [.Call (.Name "set" p2) [a] [] q] [] pos) (tSortSet K ta) := by
  subst hK
  refine ⟨fun pn s0 sg G Q J h => ?_⟩
  refine Call_ (ld_blt J hg hm (by decide +kernel : bootBuiltins "sorted" = some (.builtin "sorted")) ?_)
  refine PyProof.Rows.callWith_builtin1 (PyProof.Rows.args_cons ?_ rfl) rfl rfl
  refine Call_ (ld_blt J hg2 hm2 PyProof.Rows.boot_set ?_)
  refine PyProof.Rows.callWith_type1 (PyProof.Rows.args_cons (thn (ha.run pn s0 sg G _ J h) fun v s1 ⟨x, G1, J1, r1, q1⟩ => PyProof.Rows.args_nil ?_) na) na rfl
  obtain ⟨l, ks, rfl, hq, hks, hD, q1⟩ := q1
  cases r1
  obtain ⟨its, r, pl, hz⟩ := J1.list hq
  refine call_nset (P := X.prog) (w := X.w) ks (J1.ok.hd hc) pl.isList (by simpa using refs_are r) (fun p hp => ⟨nested_of J1.hok _ _ _ (hks p hp).2.2 rfl, (hks p hp).1, (hks p hp).2.1⟩) hD (by omega) fun h' tk L es ep t R g hk => ?_
  refine PyProof.Rows.args_nil ?_
  have J2 : Inv X pn sg G1 { s1 with heap := h', toks := tk } := J1.kept hk
  have sub : ∀ p ∈ L, p ∈ ks := fun p hp => List.mem_of_mem_take (g.sub p hp)
  have all : ∀ p ∈ ks, p.2 ∈ L.map (·.2) := fun p hp => g.all p (by rw [List.take_length]; exact hp)
  obtain ⟨n0, q2⟩ := q1 (L.map (·.2)) R.nd fun n => ⟨fun hn => (by
    obtain ⟨p, hp, e⟩ := List.mem_map.mp hn
    exact List.mem_map.mpr ⟨p, sub p hp, e⟩), fun hn => (by
    obtain ⟨p, hp, e⟩ := List.mem_map.mp hn
    rw [← e]; exact all p hp)⟩
  simp only [Bool.and_eq_true] at n0
  obtain ⟨⟨n1, n2⟩, n3⟩ := n0
  obtain ⟨o, ho, hex, hd⟩ := R.ob
  have hgt : s1.heap.objs.size < h'.objs.size := Heap.lt_size ho
  have hsz := NSet.size (s := { s1 with heap := h', toks := tk }) R
  have hfew := R.few
  have hn : G1 s1.heap.objs.size = none := J1.hok.fresh (Nat.le_refl _)
  refine Calls.call_function_entry PyProof.Rows.kind_sorted PyProof.Rows.plain_sorted PyProof.Rows.entry_sorted (PyProof.Rows.args_sorted1 _) ?_
  unfold Builtin.«sorted»
  refine wpAny_bind (m := checkCount "sorted" 1 1 _) (wpAny_pure ?_)
  refine wpAny_bind (collect_set (P := X.prog) (w := X.w) (A := X.A.in1) (J1.ok.hd hc) ⟨o, ho, hex.1, hd⟩ (NSet.fits (s := { s1 with heap := h', toks := tk }) R) (by unfold scanBound; omega) R.tab.ris R.led fun s2 vs k1 hz2 g1 o1 pm => ?_)
  have hes : es.toList.map (·.2) = L.map fun q => Value.ref q.1 := by
    rw [R.rows]
    unfold rowsN
    rw [List.map_map]; rfl
  rw [hes] at pm
  obtain ⟨M, m1, m2⟩ := perm_lift pm L rfl
  have hvl : vs.length = L.length := by rw [m2, List.length_map, m1.length_eq]
  refine wpAny_bind (wpAny_newList ?_ (by rw [sizeLine_eq]; omega))
  have hoL : (s2.heap.push (seqObj "list" vs.toArray 0)).get? s2.heap.objs.size = some (seqObj "list" vs.toArray 0) := Heap.get?_push_size _ rfl
  have J3 : HOk X.prog X.w G1 (s2.heap.push (seqObj "list" vs.toArray 0)) := J2.hok.kept fun b o e => Heap.get?_push_of_some _ (k1 b o e)
  have e0 : PySem.W.EachIs (NkU G1) vs (M.map (·.2)) := by
    rw [m2]
    have q3 : ∀ p ∈ M, NkV G1 p.2 (.ref p.1) := fun p hp => (hks p (sub p (m1.mem_iff.mp hp))).2.2
    clear m1 m2 pm
    induction M with
    | nil => exact .nil
    | cons y M ih => exact .cons ⟨.ref y.1, rfl, q3 y (by simp)⟩ (ih fun x hx => q3 x (by simp [hx]))
  have er : PySem.W.EachIs (fun v k => ∃ as, Reads (s2.heap.push (seqObj "list" vs.toArray 0)) v (NestedKey.data k) as ∧ s2.heap.objs.size ∉ as) vs (M.map (·.2)) := e0.mono fun v k ⟨x, r1, r2⟩ => ⟨[], nk_reads J3 k x v r2 r1, by simp⟩
  have mp : (M.map (·.2)).Perm (L.map (·.2)) := m1.map _
  have al : PySem.W.AllAlike ((M.map (·.2)).map NestedKey.data) := fun d hd e he => allAlike_of n1 d ((mp.map _).mem_iff.mp hd) e ((mp.map _).mem_iff.mp he)
  have so : PySem.W.Sortable ((M.map (·.2)).map NestedKey.data) := (sortable_of n2).imp (fun f d hd => f d ((mp.map _).mem_iff.mp hd)) fun f d hd => f d ((mp.map _).mem_iff.mp hd)
  refine wpAny_bind (wpAny_holding (PySem.W.list_sort_data (enc := NestedKey.data) (s := { s2 with heap := s2.heap.push (seqObj "list" vs.toArray 0) }) hoL e0 er al so (by rw [List.length_map, m1.length_eq, sizeLine_eq]; omega) (fun k hk => ?_) fun out ho eo => ?_))
  · have h1 : NestedKey.data k ∈ (L.map (·.2)).map NestedKey.data := List.mem_map_of_mem (mp.mem_iff.mp hk)
    have := of_decide_eq_true (List.all_eq_true.mp n3 _ h1)
    show X.A.units + 1 + 1 + (NestedKey.data k).depth < _
    omega
  · obtain ⟨c, hcc⟩ := PyProof.Rows.sortedHeap_at (vs := vs) (out := List.toArray out) hoL
    obtain ⟨ws, w1, w2⟩ := nku_out eo
    rw [sort_perm mp n1, map_sortD] at w2
    have lz : ws.length ≤ sizeLine := by
      rw [(w2 X.K []).length]
      unfold sortD
      rw [List.length_mergeSort, List.length_map, List.length_map, sizeLine_eq]
      omega
    have k : ∀ b u, s1.heap.get? b = some u → (PyProof.Rows.sortedHeap (s2.heap.push (seqObj "list" vs.toArray 0)) s2.heap.objs.size vs (List.toArray out)).get? b = some u := fun b u e => by
      have e2 := k1 b u (hk b u e)
      have hb : b < s2.heap.objs.size := Heap.lt_size e2
      rw [PyProof.Rows.sortedHeap_old (Nat.ne_of_lt hb) (by rw [size_push']; exact Nat.lt_succ_of_lt hb)]
      exact Heap.get?_push_of_some _ e2
    have hp : s1.heap.objs.size ≤ s2.heap.objs.size := Nat.le_trans (Nat.le_of_lt hgt) hz2
    have hnp : G1 s2.heap.objs.size = none := J1.hok.fresh hp
    have F : Inv X pn sg (upd G1 s2.heap.objs.size (.lst ws)) { s1 with heap := PyProof.Rows.sortedHeap (s2.heap.push (seqObj "list" vs.toArray 0)) s2.heap.objs.size vs (List.toArray out), gens := s2.gens, drawn := s2.drawn, toks := s2.toks } :=
      J1.call (ch := []) (Un.laid k hp hnp) (J1.hok.laid k hp ⟨lz, out, c, w1, hcc⟩) (by rw [g1]; exact J1.bare) (fun _ z => nomatch z)
    refine wpAny_pure ⟨_, rfl, .ref s2.heap.objs.size, upd G1 s2.heap.objs.size (.lst ws), ?_, rfl, q2 _ ws hnp w2⟩
    have e : ({ s2 with heap := PyProof.Rows.sortedHeap (s2.heap.push (seqObj "list" vs.toArray 0)) s2.heap.objs.size vs (List.toArray out) } : Shared) = { s1 with heap := PyProof.Rows.sortedHeap (s2.heap.push (seqObj "list" vs.toArray 0)) s2.heap.objs.size vs (List.toArray out), gens := s2.gens, drawn := s2.drawn, toks := s2.toks } := by
      rw [← o1]
    exact e ▸ F
theorem keyDs_len : ∀ {ds : List D} {ks : List NK}, keyDs ds = some ks → ks.length = ds.length
  | [], _, h => by unfold keyDs at h; cases h; rfl
  | d :: ds, _, h => by
    unfold keyDs at h
    obtain ⟨k1, h1, h2⟩ := bind_some h
    obtain ⟨ks, h3, h4⟩ := map_some h2
    subst h4
    rw [List.length_cons, List.length_cons, keyDs_len h3]
/-- the keys with their addresses -/
theorem keys_at {K : PySem.W.Frag} {B : List Addr} {H : Hp} : ∀ {ds : List D} {ks : List NK} {xs : List V}, keyDs ds = some ks → RpA K B H ds xs → (∀ k ∈ ks, ∃ js, k = .tup js) → ∃ ps : List (Addr × NK), ps.map (·.2) = ks ∧ xs = ps.map (fun p => V.ref p.1) ∧ ∀ p ∈ ps, noTx p.2 = true ∧ NkV H p.2 (.ref p.1)
  | [], _, _, h, r, _ => by
    unfold keyDs at h
    cases h
    unfold RpA at r
    exact ⟨[], rfl, r, fun p hp => nomatch hp⟩
  | d :: ds, _, _, h, r, t => by
    unfold keyDs at h
    obtain ⟨k1, h1, h2⟩ := bind_some h
    obtain ⟨ks, h3, h4⟩ := map_some h2
    subst h4
    unfold RpA at r
    obtain ⟨x, us, rfl, r1, r2⟩ := r
    obtain ⟨ps, p1, p2, p3⟩ := keys_at h3 r2 fun k hk => t k (by simp [hk])
    obtain ⟨js, ej⟩ := t k1 (by simp)
    have n := nkv_of d k1 x h1 r1
    have n2 := n
    rw [ej] at n2
    unfold NkV at n2
    obtain ⟨b, ys, e, _⟩ := n2
    subst e
    refine ⟨(b, k1) :: ps, by rw [List.map_cons, p1], by rw [List.map_cons, ← p2], fun p hp => ?_⟩
    rcases List.mem_cons.mp hp with e | hp
    · rw [e]; exact ⟨(keyD_data d k1 h1).2, n⟩
    · exact p3 p hp
theorem mn_sortSet (K : PySem.W.Frag) {p p2 q : Pos} (hc : X.calm = true) (hu : X.A.units + 64 < cLine) (hg : Gl X "sorted") (hm : X.mg "sorted" = none) (hg2 : Gl X "set") (hm2 : X.mg "set" = none) (ha : MV X kd a ta fa) (hK : X.K = K := by rfl)
    (na : starEach [a] X.env = (false, eval a X.env) :: starEach [] X.env := by rfl) : MN X kd (.Call (.Name "sorted" p) [.Call (.Name "set" p2) [a] [] q] [] pos) (tSortSet K ta) (f1 dSortSet fa) := by
  subst hK
  refine ⟨pe_sortSet X.K hc hu hg hm hg2 hm2 ha.pe rfl na, fun B O P ρ σ H d Q R hf k => ?_⟩
  obtain ⟨d', h1, h2⟩ := bind_some hf
  refine ha.ev B O P ρ σ H d' _ R h1 fun v H1 s1 r => ?_
  cases d' with
  | list ds =>
    obtain ⟨ks, h3, h4⟩ := bind_some (show (keyDs ds).bind (fun ks => if setOk ks = true then some (PyData.list (sortD ((ded ks).map NestedKey.data))) else none) = some d from h2)
    split at h4
    · rename_i ok
      cases h4
      unfold setOk at ok
      simp only [Bool.and_eq_true, decide_eq_true_eq] at ok
      obtain ⟨⟨⟨⟨o1, o2⟩, o3⟩, o4⟩, o5⟩ := ok
      obtain ⟨a, xs, rfl, q1, q2⟩ := v_lst r
      obtain ⟨ps, p1, p2, p3⟩ := keys_at h3 q2 fun k hk => by
        have z := List.all_eq_true.mp o1 k hk
        cases k with
        | tup js => exact ⟨js, rfl⟩
        | _ => cases z
      have dp : ∀ p ∈ ps, p.2.depth ≤ 8 := fun p hp => by
        have z := List.all_eq_true.mp o1 p.2 (by rw [← p1]; exact List.mem_map_of_mem hp)
        generalize p.2 = k at z
        cases k with
        | tup js => exact of_decide_eq_true z
        | _ => cases z
      refine ⟨a, ps, rfl, by rw [← p2]; exact SqL.of q1, fun p hp => ⟨(p3 p hp).1, dp p hp, (p3 p hp).2⟩, fun ns nd hn => ?_, fun L nd hL => ?_⟩
      · refine Nat.lt_of_le_of_lt (nodup_le nd fun n hm => ?_) o2
        rw [ded_mem, ← p1]; exact hn n hm
      · have pm : L.Perm (ded ks) := (List.perm_ext_iff_of_nodup nd (ded_nodup ks)).mpr fun n => by rw [hL, p1, ded_mem]
        have pd := pm.map NestedKey.data
        refine ⟨?_, fun p ys hp rz => k p _ (fresh_of s1 hp) (s1.trans (same_new hp _)) (rpm_new hp ?_)⟩
        · simp only [Bool.and_eq_true]
          refine ⟨⟨?_, ?_⟩, ?_⟩
          · refine List.all_eq_true.mpr fun x hx => List.all_eq_true.mpr fun y hy => allAlike_of o3 x (pd.mem_iff.mp hx) y (pd.mem_iff.mp hy)
          · unfold tupsOrNot at o4 ⊢
            rw [Bool.or_eq_true] at o4 ⊢
            exact o4.imp (fun z => List.all_eq_true.mpr fun x hx => List.all_eq_true.mp z x (pd.mem_iff.mp hx)) fun z => List.all_eq_true.mpr fun x hx => List.all_eq_true.mp z x (pd.mem_iff.mp hx)
          · exact List.all_eq_true.mpr fun x hx => List.all_eq_true.mp o5 x (pd.mem_iff.mp hx)
        · have e := rz X.K B
          rw [← map_sortD, sort_perm pm o3, map_sortD] at e
          exact e
    · cases h4
  | _ => cases h2
end
end Mx

/-! PERMUTATIONS AS LISTS, graphs as relations: the plain law's mathematics. -/
namespace Pm

def at0 (l : List Nat) (i : Nat) : Nat := l.getD i 0
structure IsP (n : Nat) (l : List Nat) : Prop where
  len : l.length = n
  nd : l.Nodup
  lt : ∀ x ∈ l, x < n

theorem nodup_le {α : Type} [DecidableEq α] : ∀ {ns ms : List α}, ns.Nodup → (∀ n ∈ ns, n ∈ ms) → ns.length ≤ ms.length
  | [], _, _, _ => Nat.zero_le _
  | n :: ns, ms, nd, h => by
    have hm := h n (by simp)
    have nd' := List.nodup_cons.mp nd
    have := nodup_le (ns := ns) (ms := ms.erase n) nd'.2 fun k hk => (List.mem_erase_of_ne (fun e : k = n => nd'.1 (by rw [← e]; exact hk))).mpr (h k (by simp [hk]))
    rw [List.length_erase_of_mem hm] at this
    have l := List.length_pos_of_mem hm
    simp only [List.length_cons]
    omega
section
variable {n : Nat} {a b c : List Nat}
theorem IsP.mem (h : IsP n a) {x : Nat} (hx : x < n) : x ∈ a := by
  refine Classical.byContradiction fun hn => ?_
  have := nodup_le (ns := x :: a) (ms := List.range n) (List.nodup_cons.mpr ⟨hn, h.nd⟩) fun y hy => by
    rcases List.mem_cons.mp hy with e | e
    · rw [e]; exact List.mem_range.mpr hx
    · exact List.mem_range.mpr (h.lt y e)
  simp [h.len] at this
  omega
theorem at0_lt (h : IsP n a) {i : Nat} (hi : i < n) : at0 a i < n := by
  have hl : i < a.length := by rw [h.len]; exact hi
  unfold at0
  rw [List.getD_eq_getElem?_getD, List.getElem?_eq_getElem hl]
  exact h.lt _ (List.getElem_mem hl)
theorem at0_inj (h : IsP n a) {i j : Nat} (hi : i < n) (hj : j < n) (e : at0 a i = at0 a j) : i = j := by
  have li : i < a.length := by rw [h.len]; exact hi
  have lj : j < a.length := by rw [h.len]; exact hj
  unfold at0 at e
  rw [List.getD_eq_getElem?_getD, List.getElem?_eq_getElem li, List.getD_eq_getElem?_getD, List.getElem?_eq_getElem lj] at e
  exact (List.getElem?_inj li h.nd).mp (by rw [List.getElem?_eq_getElem li, List.getElem?_eq_getElem lj]; exact congrArg some e)
theorem at0_map {f : Nat → Nat} {l : List Nat} {i : Nat} (hi : i < l.length) : at0 (l.map f) i = f (at0 l i) := by
  unfold at0
  rw [List.getD_eq_getElem?_getD, List.getElem?_eq_getElem (by simpa using hi), List.getD_eq_getElem?_getD, List.getElem?_eq_getElem hi]
  simp
theorem at0_range {i : Nat} (hi : i < n) : at0 (List.range n) i = i := by
  unfold at0
  rw [List.getD_eq_getElem?_getD, List.getElem?_eq_getElem (by simpa using hi)]
  simp
theorem ext_at0 (ha : a.length = n) (hb : b.length = n) (h : ∀ i, i < n → at0 a i = at0 b i) : a = b := by
  refine List.ext_getElem (by omega) fun i h1 h2 => ?_
  have := h i (by omega)
  unfold at0 at this
  rw [List.getD_eq_getElem?_getD, List.getElem?_eq_getElem h1, List.getD_eq_getElem?_getD, List.getElem?_eq_getElem h2] at this
  exact this
/-- a after b -/
def comp (n : Nat) (a b : List Nat) : List Nat := (List.range n).map fun v => at0 a (at0 b v)
def inv (n : Nat) (a : List Nat) : List Nat := (List.range n).map fun v => a.idxOf v
def idn (n : Nat) : List Nat := List.range n
theorem isP_of (f : Nat → Nat) (hl : ∀ i, i < n → f i < n) (hi : ∀ i j, i < n → j < n → f i = f j → i = j) : IsP n ((List.range n).map f) := by
  refine ⟨by simp, ?_, fun x hx => ?_⟩
  · rw [List.nodup_iff_pairwise_ne, List.pairwise_map]
    refine List.Pairwise.imp_of_mem (fun {i j} mi mj ne e => ne ?_) (List.nodup_iff_pairwise_ne.mp (List.nodup_range (n := n)))
    exact hi i j (List.mem_range.mp mi) (List.mem_range.mp mj) e
  · obtain ⟨i, hi, e⟩ := List.mem_map.mp hx
    rw [← e]; exact hl i (List.mem_range.mp hi)
theorem isP_id : IsP n (idn n) := ⟨by simp [idn], List.nodup_range, fun x hx => List.mem_range.mp hx⟩
theorem isP_comp (ha : IsP n a) (hb : IsP n b) : IsP n (comp n a b) :=
  isP_of _ (fun i hi => at0_lt ha (at0_lt hb hi)) fun i j hi hj e => at0_inj hb hi hj (at0_inj ha (at0_lt hb hi) (at0_lt hb hj) e)
theorem at0_comp {i : Nat} (hi : i < n) : at0 (comp n a b) i = at0 a (at0 b i) := by
  unfold comp
  rw [at0_map (by simpa using hi), at0_range hi]
theorem idxOf_lt' (h : IsP n a) {v : Nat} (hv : v < n) : a.idxOf v < n := by rw [← h.len]; exact List.idxOf_lt_length_of_mem (h.mem hv)
theorem at0_idxOf (h : IsP n a) {v : Nat} (hv : v < n) : at0 a (a.idxOf v) = v := by
  have := List.idxOf_lt_length_of_mem (h.mem hv)
  unfold at0
  rw [List.getD_eq_getElem?_getD, List.getElem?_eq_getElem this]
  simp
theorem at0_inv {i : Nat} (hi : i < n) : at0 (inv n a) i = a.idxOf i := by
  unfold inv
  rw [at0_map (by simpa using hi), at0_range hi]
theorem isP_inv (h : IsP n a) : IsP n (inv n a) :=
  isP_of _ (fun i hi => idxOf_lt' h hi) fun i j hi hj e => by
    have := at0_idxOf h hi
    rw [e, at0_idxOf h hj] at this
    exact this.symm
theorem inv_r (h : IsP n a) {i : Nat} (hi : i < n) : at0 a (at0 (inv n a) i) = i := by rw [at0_inv hi, at0_idxOf h hi]
theorem inv_l (h : IsP n a) {i : Nat} (hi : i < n) : at0 (inv n a) (at0 a i) = i :=
  at0_inj h (at0_lt (isP_inv h) (at0_lt h hi)) hi (by rw [inv_r h (at0_lt h hi)])
end

/-! ### graphs: symmetric relations on the numbers below n -/
structure Gr (n : Nat) (A : Nat → Nat → Bool) : Prop where
  sym : ∀ u v, A u v = A v u
  irr : ∀ u, A u u = false
def ren (n : Nat) (A : Nat → Nat → Bool) (s : List Nat) : Nat → Nat → Bool := fun u v => A (at0 (inv n s) u) (at0 (inv n s) v)
def Same (n : Nat) (A B : Nat → Nat → Bool) : Prop := ∀ u v, u < n → v < n → A u v = B u v
/-- s carries A to B -/
def Iso (n : Nat) (A B : Nat → Nat → Bool) (s : List Nat) : Prop := ∀ u v, u < n → v < n → A u v = B (at0 s u) (at0 s v)
section
variable {n : Nat} {A B C : Nat → Nat → Bool} {s t : List Nat}
theorem ren_gr (h : Gr n A) : Gr n (ren n A s) := ⟨fun u v => h.sym _ _, fun u => h.irr _⟩
theorem iso_ren (hs : IsP n s) : Iso n A (ren n A s) s := fun u v hu hv => by
  unfold ren
  rw [inv_l hs hu, inv_l hs hv]
theorem iso_iff (hs : IsP n s) : Iso n A B s ↔ Same n (ren n A s) B := by
  refine ⟨fun h u v hu hv => ?_, fun h u v hu hv => ?_⟩
  · unfold ren
    rw [h _ _ (at0_lt (isP_inv hs) hu) (at0_lt (isP_inv hs) hv), inv_r hs hu, inv_r hs hv]
  · rw [← h _ _ (at0_lt hs hu) (at0_lt hs hv)]
    exact iso_ren hs u v hu hv
theorem Iso.comp (hs : IsP n s) (ht : IsP n t) (h : Iso n A B s) (k : Iso n B C t) : Iso n A C (comp n t s) := fun u v hu hv => by
  rw [h u v hu hv, k _ _ (at0_lt hs hu) (at0_lt hs hv), at0_comp hu, at0_comp hv]
theorem Iso.inv (hs : IsP n s) (h : Iso n A B s) : Iso n B A (inv n s) := fun u v hu hv => by
  have := h _ _ (at0_lt (isP_inv hs) hu) (at0_lt (isP_inv hs) hv)
  rw [inv_r hs hu, inv_r hs hv] at this
  exact this.symm
theorem Iso.id : Iso n A A (idn n) := fun u v hu hv => by unfold idn; rw [at0_range hu, at0_range hv]
end

/-! ### counting: orbits and stabilizers -/
theorem len_split {α : Type} (p : α → Bool) : ∀ L : List α, L.length = (L.filter p).length + (L.filter fun x => !p x).length
  | [] => rfl
  | x :: L => by
    have := len_split p L
    cases h : p x <;> simp [List.filter_cons, h] <;> omega
/-- all places of the same colour are as many -/
theorem count_fibers {α β : Type} [DecidableEq β] (f : α → β) (c : Nat) : ∀ (ds : List β) (L : List α), ds.Nodup → (∀ x ∈ L, f x ∈ ds) → (∀ d ∈ ds, (L.filter fun x => decide (f x = d)).length = c) → L.length = ds.length * c
  | [], L, _, h, _ => by
    cases L with
    | nil => simp
    | cons x L => exact absurd (h x (by simp)) (by simp)
  | d :: ds, L, nd, h, k => by
    have nd' := List.nodup_cons.mp nd
    have e : L.length = (L.filter fun x => decide (f x = d)).length + (L.filter fun x => !decide (f x = d)).length := by
      exact len_split (fun x => decide (f x = d)) L
    have ih := count_fibers f c ds (L.filter fun x => !decide (f x = d)) nd'.2 (fun x hx => by
      rw [List.mem_filter] at hx
      rcases List.mem_cons.mp (h x hx.1) with z | z
      · exact absurd hx.2 (by simp [z])
      · exact z) fun d' hd' => by
        rw [List.filter_filter, ← k d' (by simp [hd'])]
        congr 1
        refine List.filter_congr fun x _ => ?_
        by_cases z : f x = d'
        · have : ¬ f x = d := fun q => nd'.1 (by rw [← q, z]; exact hd')
          simp [z, this]
          intro q
          exact this (by rw [z, q])
        · simp [z]
    rw [e, ih, k d (by simp), List.length_cons, Nat.add_mul]
    omega
/-- a bijection between two lists without repeats -/
theorem perm_map {α β : Type} [DecidableEq β] {f : α → β} {L : List α} {M : List β} (nd : L.Nodup) (md : M.Nodup) (inj : ∀ x ∈ L, ∀ y ∈ L, f x = f y → x = y) (to : ∀ x ∈ L, f x ∈ M) (on : ∀ y ∈ M, ∃ x ∈ L, f x = y) : (L.map f).Perm M := by
  refine (List.perm_ext_iff_of_nodup ?_ md).mpr fun y => ⟨fun h => ?_, fun h => ?_⟩
  · rw [List.nodup_iff_pairwise_ne, List.pairwise_map]
    refine List.Pairwise.imp_of_mem (fun {a b} ma mb ne e => ne (inj a ma b mb e)) (List.nodup_iff_pairwise_ne.mp nd)
  · obtain ⟨x, hx, e⟩ := List.mem_map.mp h
    rw [← e]; exact to x hx
  · obtain ⟨x, hx, e⟩ := on y h
    exact List.mem_map.mpr ⟨x, hx, e⟩

/-! ### edges -/
def prs (n : Nat) : List (Nat × Nat) := (List.range n).flatMap fun u => (List.range' (u + 1) (n - (u + 1))).map fun v => (u, v)
theorem mem_prs {n u v : Nat} : (u, v) ∈ prs n ↔ u < v ∧ v < n := by
  unfold prs
  rw [List.mem_flatMap]
  constructor
  · rintro ⟨w, hw, h⟩
    obtain ⟨x, hx, e⟩ := List.mem_map.mp h
    cases e
    rw [List.mem_range'_1] at hx
    rw [List.mem_range] at hw
    omega
  · rintro ⟨h1, h2⟩
    exact ⟨u, List.mem_range.mpr (by omega), List.mem_map.mpr ⟨v, List.mem_range'_1.mpr (by omega), rfl⟩⟩
def plt (p q : Nat × Nat) : Prop := p.1 < q.1 ∨ p.1 = q.1 ∧ p.2 < q.2
theorem prs_sorted (n : Nat) : (prs n).Pairwise plt := by
  unfold prs
  rw [List.pairwise_flatMap]
  refine ⟨fun u _ => ?_, ?_⟩
  · rw [List.pairwise_map]
    exact (List.pairwise_lt_range' (s := u + 1) (n := n - (u + 1)) (step := 1)).imp fun h => .inr ⟨rfl, h⟩
  · refine (List.pairwise_lt_range (n := n)).imp fun {a b} hab p hp q hq => ?_
    obtain ⟨x, _, rfl⟩ := List.mem_map.mp hp
    obtain ⟨y, _, rfl⟩ := List.mem_map.mp hq
    exact .inl hab
def eL (n : Nat) (A : Nat → Nat → Bool) : List (Nat × Nat) := (prs n).filter fun p => A p.1 p.2
theorem mem_eL {n u v : Nat} {A : Nat → Nat → Bool} : (u, v) ∈ eL n A ↔ u < v ∧ v < n ∧ A u v = true := by
  unfold eL
  rw [List.mem_filter, mem_prs]
  exact ⟨fun h => ⟨h.1.1, h.1.2, h.2⟩, fun h => ⟨⟨h.1, h.2.1⟩, h.2.2⟩⟩
theorem eL_sorted (n : Nat) (A : Nat → Nat → Bool) : (eL n A).Pairwise plt := (prs_sorted n).filter _
theorem eL_same {n : Nat} {A B : Nat → Nat → Bool} (a : Gr n A) (b : Gr n B) : eL n A = eL n B ↔ Same n A B := by
  constructor
  · intro h u v hu hv
    have key : ∀ u v, u < v → v < n → A u v = B u v := fun u v l1 l2 => by
      have e : ((u, v) ∈ eL n A) ↔ (u, v) ∈ eL n B := by rw [h]
      rw [mem_eL, mem_eL] at e
      have e2 : (A u v = true) ↔ B u v = true := ⟨fun z => (e.mp ⟨l1, l2, z⟩).2.2, fun z => (e.mpr ⟨l1, l2, z⟩).2.2⟩
      cases x : A u v <;> cases y : B u v <;> simp [x, y] at e2 ⊢
    rcases Nat.lt_trichotomy u v with l | l | l
    · exact key u v l hv
    · rw [l, a.irr, b.irr]
    · rw [a.sym, b.sym]; exact key v u l hu
  · intro h
    unfold eL
    refine List.filter_congr fun p hp => ?_
    obtain ⟨u, v⟩ := p
    obtain ⟨h1, h2⟩ := mem_prs.mp hp
    exact h u v (by omega) h2

/-! ### all permutations: orbit and stabilizer -/
structure All (n : Nat) (Ps : List (List Nat)) : Prop where
  nd : Ps.Nodup
  iff : ∀ s, s ∈ Ps ↔ IsP n s
section
variable {n : Nat} {A : Nat → Nat → Bool} {Ps : List (List Nat)}
def autB (n : Nat) (A : Nat → Nat → Bool) (s : List Nat) : Bool := decide (eL n (ren n A s) = eL n A)
theorem aut_iso (g : Gr n A) {s : List Nat} (hs : IsP n s) : autB n A s = true ↔ Iso n A A s := by
  unfold autB
  rw [decide_eq_true_eq, eL_same (ren_gr g) g, iso_iff hs]
theorem comp_cancel {a b c : List Nat} (ha : IsP n a) (hb : IsP n b) (hc : IsP n c) (e : comp n a b = comp n a c) : b = c := by
  refine ext_at0 hb.len hc.len fun i hi => at0_inj ha (at0_lt hb hi) (at0_lt hc hi) ?_
  rw [← at0_comp hi, ← at0_comp hi, e]
/-- those that carry A to (ren A t) are t after the symmetries -/
theorem fiber_perm (g : Gr n A) (P : All n Ps) {t : List Nat} (ht : IsP n t) : ((Ps.filter (autB n A)).map (comp n t)).Perm (Ps.filter fun s => decide (eL n (ren n A s) = eL n (ren n A t))) := by
  have isP : ∀ {s}, s ∈ Ps.filter (autB n A) → IsP n s ∧ Iso n A A s := fun {s} h => by
    rw [List.mem_filter] at h
    have hs := (P.iff s).mp h.1
    exact ⟨hs, (aut_iso g hs).mp h.2⟩
  refine perm_map (P.nd.filter _) (P.nd.filter _) (fun x hx y hy e => comp_cancel ht (isP hx).1 (isP hy).1 e) (fun x hx => ?_) fun y hy => ?_
  · obtain ⟨h1, h2⟩ := isP hx
    rw [List.mem_filter]
    refine ⟨(P.iff _).mpr (isP_comp ht h1), ?_⟩
    rw [decide_eq_true_eq, eL_same (ren_gr g) (ren_gr g), ← iso_iff (isP_comp ht h1)]
    exact Iso.comp h1 ht h2 (iso_ren ht)
  · rw [List.mem_filter, decide_eq_true_eq, eL_same (ren_gr g) (ren_gr g)] at hy
    have py := (P.iff y).mp hy.1
    have iy : Iso n A (ren n A t) y := (iso_iff py).mpr hy.2
    have pc := isP_comp (isP_inv ht) py
    refine ⟨comp n (inv n t) y, ?_, ?_⟩
    · rw [List.mem_filter]
      exact ⟨(P.iff _).mpr pc, (aut_iso g pc).mpr (Iso.comp py (isP_inv ht) iy (Iso.inv ht (iso_ren ht)))⟩
    · refine ext_at0 (isP_comp ht pc).len py.len fun i hi => ?_
      rw [at0_comp hi, at0_comp hi, inv_r ht (at0_lt py hi)]
theorem orbit_count (g : Gr n A) (P : All n Ps) {ds : List (List (Nat × Nat))} (nd : ds.Nodup) (hds : ∀ d, d ∈ ds ↔ ∃ s ∈ Ps, eL n (ren n A s) = d) : Ps.length = ds.length * (Ps.filter (autB n A)).length := by
  refine count_fibers (fun s => eL n (ren n A s)) _ ds Ps nd (fun x hx => (hds _).mpr ⟨x, hx, rfl⟩) fun d hd => ?_
  obtain ⟨t, ht, e⟩ := (hds d).mp hd
  rw [← e, ← (fiber_perm g P ((P.iff t).mp ht)).length_eq, List.length_map]
/-- the symmetries of a renamed graph: conjugates -/
def conj (n : Nat) (t s : List Nat) : List Nat := (List.range n).map fun v => at0 t (at0 s (t.idxOf v))
theorem conj_eq {t s : List Nat} (ht : IsP n t) (hs : IsP n s) : conj n t s = comp n t (comp n s (inv n t)) := by
  unfold conj comp
  refine List.map_congr_left fun v hv => ?_
  have hv := List.mem_range.mp hv
  have e := at0_inv (a := t) hv
  show _ = at0 t (at0 (comp n s (inv n t)) v)
  rw [at0_comp hv, e]
theorem conj_perm (g : Gr n A) (P : All n Ps) {t : List Nat} (ht : IsP n t) : ((Ps.filter (autB n A)).map (conj n t)).Perm (Ps.filter (autB n (ren n A t))) := by
  have isP : ∀ {s}, s ∈ Ps.filter (autB n A) → IsP n s ∧ Iso n A A s := fun {s} h => by
    rw [List.mem_filter] at h
    have hs := (P.iff s).mp h.1
    exact ⟨hs, (aut_iso g hs).mp h.2⟩
  refine perm_map (P.nd.filter _) (P.nd.filter _) (fun x hx y hy e => ?_) (fun x hx => ?_) fun y hy => ?_
  · have px := (isP hx).1
    have py := (isP hy).1
    rw [conj_eq ht px, conj_eq ht py] at e
    have e2 := comp_cancel ht (isP_comp px (isP_inv ht)) (isP_comp py (isP_inv ht)) e
    refine ext_at0 px.len py.len fun i hi => ?_
    have e3 := congrArg (fun l => at0 l (at0 t i)) e2
    simp only [at0_comp (at0_lt ht hi), inv_l ht hi] at e3
    exact e3
  · obtain ⟨h1, h2⟩ := isP hx
    have pc := isP_comp ht (isP_comp h1 (isP_inv ht))
    rw [conj_eq ht h1, List.mem_filter]
    exact ⟨(P.iff _).mpr pc, (aut_iso (ren_gr g) pc).mpr (Iso.comp (isP_comp h1 (isP_inv ht)) ht (Iso.comp (isP_inv ht) h1 (Iso.inv ht (iso_ren ht)) h2) (iso_ren ht))⟩
  · rw [List.mem_filter] at hy
    have py := (P.iff y).mp hy.1
    have iy := (aut_iso (ren_gr g) py).mp hy.2
    have p1 := isP_comp py ht
    have p2 := isP_comp (isP_inv ht) p1
    refine ⟨comp n (inv n t) (comp n y t), ?_, ?_⟩
    · rw [List.mem_filter]
      exact ⟨(P.iff _).mpr p2, (aut_iso g p2).mpr (Iso.comp p1 (isP_inv ht) (Iso.comp ht py (iso_ren ht) iy) (Iso.inv ht (iso_ren ht)))⟩
    · rw [conj_eq ht p2]
      refine ext_at0 (isP_comp ht (isP_comp p2 (isP_inv ht))).len py.len fun i hi => ?_
      have hi2 := at0_lt (isP_inv ht) hi
      rw [at0_comp hi, at0_comp hi, at0_comp hi2, at0_comp hi2, inv_r ht hi, inv_r ht (at0_lt py hi)]
/-- the copies of a copy are the copies -/
theorem orbit_same (g : Gr n A) (P : All n Ps) {t : List Nat} (ht : IsP n t) (d : List (Nat × Nat)) : (∃ s ∈ Ps, eL n (ren n (ren n A t) s) = d) ↔ ∃ s ∈ Ps, eL n (ren n A s) = d := by
  constructor
  · rintro ⟨s, hs, e⟩
    have ps := (P.iff s).mp hs
    have pc := isP_comp ps ht
    refine ⟨comp n s t, (P.iff _).mpr pc, ?_⟩
    rw [← e, eL_same (ren_gr g) (ren_gr (ren_gr g)), ← iso_iff pc]
    exact Iso.comp ht ps (iso_ren ht) (iso_ren ps)
  · rintro ⟨s, hs, e⟩
    have ps := (P.iff s).mp hs
    have pc := isP_comp ps (isP_inv ht)
    refine ⟨comp n s (inv n t), (P.iff _).mpr pc, ?_⟩
    rw [← e, eL_same (ren_gr (ren_gr g)) (ren_gr g), ← iso_iff pc]
    exact Iso.comp (isP_inv ht) ps (Iso.inv ht (iso_ren ht)) (iso_ren ps)
end
end Pm

/-! REFINEMENT OF DEGREES. -/
namespace Pm
/-- how many neighbours of u have the value of w -/
def cnt (n : Nat) (A : Nat → Nat → Bool) (row : List Nat) (u w : Nat) : Nat := (List.range n).countP fun x => A u x && decide (at0 row x = at0 row w)
/-- the next row tells apart what it must, and no more -/
structure Ref (n : Nat) (A : Nat → Nat → Bool) (row row' : List Nat) : Prop where
  len : row'.length = n
  iff : ∀ u v, u < n → v < n → (at0 row' u = at0 row' v ↔ at0 row u = at0 row v ∧ ∀ w, w < n → cnt n A row u w = cnt n A row v w)
def deg (n : Nat) (A : Nat → Nat → Bool) (u : Nat) : Nat := (List.range n).countP (A u)
def degs (n : Nat) (A : Nat → Nat → Bool) : List Nat := (List.range n).map (deg n A)
/-- turn is row under t, up to names -/
def Al (n : Nat) (t row turn : List Nat) : Prop := ∀ u v, u < n → v < n → (at0 row u = at0 row v ↔ at0 turn (at0 t u) = at0 turn (at0 t v))
section
variable {n : Nat} {A B : Nat → Nat → Bool} {t row turn row' turn' : List Nat}
theorem range_perm (ht : IsP n t) : ((List.range n).map (at0 t)).Perm (List.range n) :=
  perm_map List.nodup_range List.nodup_range (fun x hx y hy e => at0_inj ht (List.mem_range.mp hx) (List.mem_range.mp hy) e) (fun x hx => List.mem_range.mpr (at0_lt ht (List.mem_range.mp hx)))
    fun y hy => ⟨t.idxOf y, List.mem_range.mpr (idxOf_lt' ht (List.mem_range.mp hy)), at0_idxOf ht (List.mem_range.mp hy)⟩
theorem count_under (ht : IsP n t) (p : Nat → Bool) : (List.range n).countP p = (List.range n).countP fun x => p (at0 t x) := by
  rw [← (range_perm ht).countP_eq p, List.countP_map]
  rfl
theorem deg_under (ht : IsP n t) (i : Iso n A B t) {u : Nat} (hu : u < n) : deg n B (at0 t u) = deg n A u := by
  unfold deg
  rw [count_under ht]
  refine List.countP_congr fun x hx => ?_
  rw [i u x hu (List.mem_range.mp hx)]
theorem cnt_under (ht : IsP n t) (i : Iso n A B t) (al : Al n t row turn) {u w : Nat} (hu : u < n) (hw : w < n) : cnt n B turn (at0 t u) (at0 t w) = cnt n A row u w := by
  unfold cnt
  rw [count_under ht]
  refine List.countP_congr fun x hx => ?_
  have hx := List.mem_range.mp hx
  rw [i u x hu hx]
  have e := al x w hx hw
  simp only [Bool.and_eq_true, decide_eq_true_eq]
  rw [e]
theorem al_degs (ht : IsP n t) (i : Iso n A B t) : Al n t (degs n A) (degs n B) := fun u v hu hv => by
  unfold degs
  rw [at0_map (by simpa using hu), at0_map (by simpa using hv), at0_map (by simpa using at0_lt ht hu), at0_map (by simpa using at0_lt ht hv), at0_range hu, at0_range hv, at0_range (at0_lt ht hu), at0_range (at0_lt ht hv), deg_under ht i hu, deg_under ht i hv]
theorem al_ref (ht : IsP n t) (i : Iso n A B t) (al : Al n t row turn) (r : Ref n A row row') (q : Ref n B turn turn') : Al n t row' turn' := fun u v hu hv => by
  rw [r.iff u v hu hv, q.iff _ _ (at0_lt ht hu) (at0_lt ht hv), al u v hu hv]
  refine and_congr_right fun _ => ⟨fun h w hw => ?_, fun h w hw => ?_⟩
  · have hw' := idxOf_lt' ht hw
    have e := h _ hw'
    rw [← at0_idxOf ht hw, cnt_under ht i al hu hw', cnt_under ht i al hv hw', e]
  · have e := h _ (at0_lt ht hw)
    rwa [cnt_under ht i al hu hw, cnt_under ht i al hv hw] at e
/-- a symmetry keeps the values -/
def Kept (n : Nat) (A : Nat → Nat → Bool) (row : List Nat) : Prop := ∀ s, IsP n s → Iso n A A s → ∀ u, u < n → at0 row (at0 s u) = at0 row u
theorem kept_degs : Kept n A (degs n A) := fun s hs i u hu => by
  unfold degs
  rw [at0_map (by simpa using at0_lt hs hu), at0_map (by simpa using hu), at0_range hu, at0_range (at0_lt hs hu), deg_under hs i hu]
theorem kept_ref (k : Kept n A row) (r : Ref n A row row') : Kept n A row' := fun s hs i u hu => by
  rw [r.iff _ _ (at0_lt hs hu) hu]
  refine ⟨k s hs i u hu, fun w hw => ?_⟩
  have al : Al n s row row := fun a b ha hb => by rw [k s hs i a ha, k s hs i b hb]
  rw [← cnt_under hs i al hu hw]
  unfold cnt
  refine List.countP_congr fun x hx => ?_
  rw [k s hs i w hw]
/-! distinct values -/
structure Dis (row : List Nat) (d : List Nat) : Prop where
  nd : d.Nodup
  iff : ∀ x, x ∈ d ↔ x ∈ row
theorem at0_mem {l : List Nat} {i : Nat} (h : i < l.length) : at0 l i ∈ l := by
  unfold at0
  rw [List.getD_eq_getElem?_getD, List.getElem?_eq_getElem h]
  exact List.getElem_mem h
theorem mem_at0 {l : List Nat} {x : Nat} (h : x ∈ l) : ∃ i, i < l.length ∧ at0 l i = x := by
  obtain ⟨i, hi, e⟩ := List.getElem_of_mem h
  refine ⟨i, hi, ?_⟩
  unfold at0
  rw [List.getD_eq_getElem?_getD, List.getElem?_eq_getElem hi]
  exact e
/-- a table that tells apart at least as much has at least as many values -/
theorem dis_le {d e : List Nat} {f : Nat → Nat} (hf : ∀ i, i < n → f i < n) (lr : row.length = n) (lt : turn.length = n) (dr : Dis row d) (dt : Dis turn e) (h : ∀ u v, u < n → v < n → at0 turn (f u) = at0 turn (f v) → at0 row u = at0 row v) : d.length ≤ e.length := by
  have pick : ∀ x ∈ d, ∃ i, i < n ∧ at0 row i = x := fun x hx => by
    obtain ⟨i, hi, e⟩ := mem_at0 ((dr.iff x).mp hx)
    exact ⟨i, by omega, e⟩
  have key : ∀ xs : List Nat, xs.Nodup → (∀ x ∈ xs, ∃ i, i < n ∧ at0 row i = x) → ∃ ys : List Nat, ys.length = xs.length ∧ ys.Nodup ∧ ∀ y ∈ ys, ∃ i, i < n ∧ at0 row i ∈ xs ∧ y = at0 turn (f i) := by
    intro xs
    induction xs with
    | nil => intro _ _; exact ⟨[], rfl, List.nodup_nil, fun y hy => by cases hy⟩
    | cons x xs ih =>
      intro nd hx
      have nd' := List.nodup_cons.mp nd
      obtain ⟨ys, y1, y2, y3⟩ := ih nd'.2 fun z hz => hx z (by simp [hz])
      obtain ⟨i, hi, ei⟩ := hx x (by simp)
      refine ⟨at0 turn (f i) :: ys, by simp [y1], List.nodup_cons.mpr ⟨fun hm => ?_, y2⟩, fun y hy => ?_⟩
      · obtain ⟨j, hj, m, e⟩ := y3 _ hm
        have := h i j hi hj e
        rw [ei] at this
        exact nd'.1 (by rw [this]; exact m)
      · rcases List.mem_cons.mp hy with e | hy
        · exact ⟨i, hi, by rw [ei]; simp, e⟩
        · obtain ⟨j, hj, m, e⟩ := y3 y hy
          exact ⟨j, hj, by simp [m], e⟩
  obtain ⟨ys, y1, y2, y3⟩ := key d dr.nd pick
  rw [← y1]
  refine nodup_le y2 fun y hy => ?_
  obtain ⟨i, hi, _, e⟩ := y3 y hy
  rw [e, dt.iff]
  exact at0_mem (by rw [lt]; exact hf i hi)
theorem dis_al {d e : List Nat} (ht : IsP n t) (lr : row.length = n) (lt : turn.length = n) (dr : Dis row d) (dt : Dis turn e) (al : Al n t row turn) : d.length = e.length := by
  refine Nat.le_antisymm (dis_le (f := at0 t) (fun i hi => at0_lt ht hi) lr lt dr dt fun u v hu hv e => (al u v hu hv).mpr e) (dis_le (f := at0 (inv n t)) (fun i hi => at0_lt (isP_inv ht) hi) lt lr dt dr fun u v hu hv e => ?_)
  have := (al _ _ (at0_lt (isP_inv ht) hu) (at0_lt (isP_inv ht) hv)).mp e
  rwa [inv_r ht hu, inv_r ht hv] at this
theorem dis_mono {d e : List Nat} (lr : row.length = n) (dr : Dis row d) (dt : Dis row' e) (r : Ref n A row row') : d.length ≤ e.length :=
  dis_le (f := fun i => i) (fun i hi => hi) lr r.len dr dt fun u v hu hv e => ((r.iff u v hu hv).mp e).1
theorem dis_top {d : List Nat} (lr : row.length = n) (dr : Dis row d) : d.length ≤ n := by
  rw [← lr]
  exact nodup_le dr.nd fun x hx => (dr.iff x).mp hx
end
/-! the rows of a graph -/
structure Rows (n : Nat) (A : Nat → Nat → Bool) (dis : List Nat → Nat) (rows : List (List Nat)) : Prop where
  first : rows[0]? = some (degs n A)
  step : ∀ (k : Nat) (a b : List Nat), rows[k]? = some a → rows[k + 1]? = some b → Ref n A a b
  more : ∀ (k : Nat) (a b c : List Nat), rows[k]? = some a → rows[k + 1]? = some b → rows[k + 2]? = some c → dis b ≠ dis a
  last : ∃ (k : Nat) (a b : List Nat), rows.length = k + 2 ∧ rows[k]? = some a ∧ rows[k + 1]? = some b ∧ dis b = dis a
section
variable {n : Nat} {A B : Nat → Nat → Bool} {dis : List Nat → Nat} {R Q : List (List Nat)} {t : List Nat}
theorem Rows.len (h : Rows n A dis R) : ∀ (k : Nat) (a : List Nat), R[k]? = some a → a.length = n := by
  intro k
  cases k with
  | zero => intro a e; rw [h.first] at e; cases e; simp [degs]
  | succ k =>
    intro a e
    have : k < R.length := by have := (List.getElem?_eq_some_iff.mp e).1; omega
    exact (h.step k _ a (List.getElem?_eq_getElem this) e).len
theorem rows_al (ht : IsP n t) (i : Iso n A B t) (hR : Rows n A dis R) (hQ : Rows n B dis Q) : ∀ (k : Nat) (a b : List Nat), R[k]? = some a → Q[k]? = some b → Al n t a b := by
  intro k
  induction k with
  | zero => intro a b ea eb; rw [hR.first] at ea; rw [hQ.first] at eb; cases ea; cases eb; exact al_degs ht i
  | succ k ih =>
    intro a b ea eb
    have l1 : k < R.length := by have := (List.getElem?_eq_some_iff.mp ea).1; omega
    have l2 : k < Q.length := by have := (List.getElem?_eq_some_iff.mp eb).1; omega
    have e1 := List.getElem?_eq_getElem l1
    have e2 := List.getElem?_eq_getElem l2
    exact al_ref ht i (ih _ _ e1 e2) (hR.step k _ a e1 ea) (hQ.step k _ b e2 eb)
theorem rows_kept (hR : Rows n A dis R) : ∀ (k : Nat) (a : List Nat), R[k]? = some a → Kept n A a := by
  intro k
  induction k with
  | zero => intro a ea; rw [hR.first] at ea; cases ea; exact kept_degs
  | succ k ih =>
    intro a ea
    have l1 : k < R.length := by have := (List.getElem?_eq_some_iff.mp ea).1; omega
    have e1 := List.getElem?_eq_getElem l1
    exact kept_ref (ih _ e1) (hR.step k _ a e1 ea)
theorem rows_le (hdis : ∀ a b : List Nat, a.length = n → b.length = n → Al n t a b → dis a = dis b) (ht : IsP n t) (i : Iso n A B t) (hR : Rows n A dis R) (hQ : Rows n B dis Q) : Q.length ≤ R.length := by
  refine Classical.byContradiction fun hn => ?_
  obtain ⟨k, a, b, e1, e2, e3, e4⟩ := hR.last
  have q0 := List.getElem?_eq_getElem (show k < Q.length by omega)
  have q1 := List.getElem?_eq_getElem (show k + 1 < Q.length by omega)
  have q2 := List.getElem?_eq_getElem (show k + 2 < Q.length by omega)
  refine hQ.more k _ _ _ q0 q1 q2 ?_
  rw [← hdis _ _ (hR.len _ _ e3) (hQ.len _ _ q1) (rows_al ht i hR hQ _ _ _ e3 q1), ← hdis _ _ (hR.len _ _ e2) (hQ.len _ _ q0) (rows_al ht i hR hQ _ _ _ e2 q0), e4]
end
end Pm

/-! ALL PERMUTATIONS, in order. -/
namespace Pm
def ext (n : Nat) : Nat → List Nat → List (List Nat)
  | 0, pre => [pre]
  | k + 1, pre => (List.range n).flatMap fun w => if w ∈ pre then [] else ext n k (pre ++ [w])
def permL (n : Nat) : List (List Nat) := ext n n []
theorem mem_ext {n : Nat} : ∀ {k : Nat} {pre l : List Nat}, l ∈ ext n k pre ↔ ∃ s : List Nat, l = pre ++ s ∧ s.length = k ∧ (∀ x ∈ s, x < n ∧ x ∉ pre) ∧ s.Nodup
  | 0, pre, l => by
    unfold ext
    rw [List.mem_singleton]
    constructor
    · rintro rfl
      exact ⟨[], by simp, rfl, fun x hx => (by cases hx), List.nodup_nil⟩
    · rintro ⟨s, e, hl, _, _⟩
      rw [List.eq_nil_of_length_eq_zero hl, List.append_nil] at e
      exact e
  | k + 1, pre, l => by
    unfold ext
    rw [List.mem_flatMap]
    constructor
    · rintro ⟨w, hw, h⟩
      by_cases c : w ∈ pre
      · rw [if_pos c] at h; cases h
      · rw [if_neg c, mem_ext] at h
        obtain ⟨s, e, hl, h1, h2⟩ := h
        refine ⟨w :: s, by rw [e]; simp, by simp [hl], fun x hx => ?_, List.nodup_cons.mpr ⟨fun z => (h1 w z).2 (by simp), h2⟩⟩
        rcases List.mem_cons.mp hx with z | z
        · rw [z]; exact ⟨List.mem_range.mp hw, c⟩
        · exact ⟨(h1 x z).1, fun y => (h1 x z).2 (by simp [y])⟩
    · rintro ⟨s, e, hl, h1, h2⟩
      cases s with
      | nil => simp at hl
      | cons w s =>
        have nd := List.nodup_cons.mp h2
        refine ⟨w, List.mem_range.mpr (h1 w (by simp)).1, ?_⟩
        rw [if_neg (h1 w (by simp)).2, mem_ext]
        refine ⟨s, by rw [e]; simp, by simpa using hl, fun x hx => ⟨(h1 x (by simp [hx])).1, fun z => ?_⟩, nd.2⟩
        rcases List.mem_append.mp z with y | y
        · exact (h1 x (by simp [hx])).2 y
        · rw [List.mem_singleton.mp y] at hx; exact nd.1 hx
theorem mem_permL {n : Nat} {s : List Nat} : s ∈ permL n ↔ IsP n s := by
  unfold permL
  rw [mem_ext]
  constructor
  · rintro ⟨t, e, hl, h1, h2⟩
    rw [List.nil_append] at e
    subst e
    exact ⟨hl, h2, fun x hx => (h1 x hx).1⟩
  · intro h
    exact ⟨s, rfl, h.len, fun x hx => ⟨h.lt x hx, by simp⟩, h.nd⟩
/-- lexicographically before -/
def lx (l m : List Nat) : Prop := ∃ p a b x y, l = p ++ a :: x ∧ m = p ++ b :: y ∧ a < b
theorem lx_ne {l m : List Nat} (h : lx l m) : l ≠ m := by
  obtain ⟨p, a, b, x, y, e1, e2, h⟩ := h
  rintro rfl
  rw [e1] at e2
  have := List.append_cancel_left e2
  injection this with h1 _
  omega
theorem ext_lx (n : Nat) : ∀ (k : Nat) (pre : List Nat), (ext n k pre).Pairwise lx
  | 0, pre => by unfold ext; simp
  | k + 1, pre => by
    unfold ext
    rw [List.pairwise_flatMap]
    refine ⟨fun w _ => ?_, ?_⟩
    · split
      · exact List.Pairwise.nil
      · exact ext_lx n k _
    · refine (List.pairwise_lt_range (n := n)).imp fun {a b} hab l hl m hm => ?_
      split at hl
      · cases hl
      · split at hm
        · cases hm
        · obtain ⟨s, e1, _⟩ := mem_ext.mp hl
          obtain ⟨t, e2, _⟩ := mem_ext.mp hm
          exact ⟨pre, a, b, s, t, by rw [e1]; simp, by rw [e2]; simp, hab⟩
theorem permL_lx (n : Nat) : (permL n).Pairwise lx := ext_lx n n []
theorem permL_all (n : Nat) : All n (permL n) := ⟨(permL_lx n).imp fun h => lx_ne h, fun s => mem_permL⟩
/-! those that carry A to B, found step by step -/
def fitB (A B : Nat → Nat → Bool) (pre : List Nat) (w : Nat) : Bool := (List.range pre.length).all fun u => A u pre.length == B (at0 pre u) w
def extF (n : Nat) (A B : Nat → Nat → Bool) : Nat → List Nat → List (List Nat)
  | 0, pre => [pre]
  | k + 1, pre => (List.range n).flatMap fun w => if (!decide (w ∈ pre) && fitB A B pre w) = true then extF n A B k (pre ++ [w]) else []
def isoB (A B : Nat → Nat → Bool) (l : List Nat) : Bool := (List.range l.length).all fun v => (List.range v).all fun u => A u v == B (at0 l u) (at0 l v)
theorem isoB_iff {A B : Nat → Nat → Bool} {l : List Nat} : isoB A B l = true ↔ ∀ v, v < l.length → ∀ u, u < v → A u v = B (at0 l u) (at0 l v) := by
  unfold isoB
  simp only [List.all_eq_true, List.mem_range, beq_iff_eq]
theorem isoB_iso {n : Nat} {A B : Nat → Nat → Bool} (a : Gr n A) (b : Gr n B) {l : List Nat} (hl : IsP n l) : isoB A B l = true ↔ Iso n A B l := by
  rw [isoB_iff, hl.len]
  constructor
  · intro h u v hu hv
    rcases Nat.lt_trichotomy u v with z | z | z
    · exact h v hv u z
    · subst z; rw [a.irr, b.irr]
    · rw [a.sym, b.sym]; exact h u hu v z
  · intro h v hv u hu
    exact h u v (by omega) hv
theorem at0_app {l m : List Nat} {i : Nat} (h : i < l.length) : at0 (l ++ m) i = at0 l i := by
  unfold at0
  rw [List.getD_eq_getElem?_getD, List.getElem?_append_left h, ← List.getD_eq_getElem?_getD]
theorem at0_end {l m : List Nat} {w : Nat} : at0 (l ++ w :: m) l.length = w := by
  unfold at0
  rw [List.getD_eq_getElem?_getD, List.getElem?_append_right (Nat.le_refl _)]
  simp
theorem isoB_snoc {A B : Nat → Nat → Bool} {pre : List Nat} {w : Nat} : isoB A B (pre ++ [w]) = (isoB A B pre && fitB A B pre w) := by
  rw [Bool.eq_iff_iff, Bool.and_eq_true, isoB_iff, isoB_iff]
  unfold fitB
  simp only [List.all_eq_true, List.mem_range, beq_iff_eq, List.length_append, List.length_singleton]
  constructor
  · intro h
    refine ⟨fun v hv u hu => ?_, fun u hu => ?_⟩
    · have := h v (by omega) u hu
      rwa [at0_app hv, at0_app (by omega)] at this
    · have := h pre.length (by omega) u hu
      rwa [at0_app hu, at0_end] at this
  · rintro ⟨h1, h2⟩ v hv u hu
    rcases Nat.lt_or_ge v pre.length with c | c
    · rw [at0_app c, at0_app (by omega)]
      exact h1 v c u hu
    · have e : v = pre.length := by omega
      subst e
      rw [at0_app hu, at0_end]
      exact h2 u hu
theorem extF_eq {n : Nat} {A B : Nat → Nat → Bool} : ∀ (k : Nat) (pre : List Nat), isoB A B pre = true → extF n A B k pre = (ext n k pre).filter (isoB A B)
  | 0, pre, h => by unfold extF ext; simp [h]
  | k + 1, pre, h => by
    unfold extF ext
    rw [List.filter_flatMap]
    congr 1
    funext w
    by_cases c : w ∈ pre
    · simp [c]
    · by_cases f : fitB A B pre w = true
      · have e := isoB_snoc (A := A) (B := B) (pre := pre) (w := w)
        rw [h, f] at e
        simp only [c, f, decide_false, Bool.not_false, Bool.and_self, if_true, if_false]
        exact extF_eq k (pre ++ [w]) e
      · have f' : fitB A B pre w = false := by simpa using f
        simp only [c, f', decide_false, Bool.not_false, Bool.and_false, Bool.false_eq_true, if_false]
        refine (List.filter_eq_nil_iff.mpr fun l hl z => ?_).symm
        obtain ⟨s, e1, _⟩ := mem_ext.mp hl
        have z := isoB_iff.mp z
        refine f ?_
        unfold fitB
        simp only [List.all_eq_true, List.mem_range, beq_iff_eq]
        intro u hu
        have q := z pre.length (by rw [e1]; simp) u hu
        rw [e1] at q
        simp only [List.append_assoc, List.singleton_append] at q
        rwa [at0_end, at0_app hu] at q
theorem told_eq {n : Nat} {A : Nat → Nat → Bool} (g : Gr n A) : extF n A A n [] = (permL n).filter (autB n A) := by
  rw [extF_eq n [] (by simp [isoB])]
  refine List.filter_congr fun s hs => ?_
  have hs := mem_permL.mp hs
  rw [Bool.eq_iff_iff, isoB_iso g g hs, aut_iso g hs]
end Pm

/-! THE PLAIN LAW, part 1: values, walks of lists, orders. -/
namespace Pl
open PySem PySem.Spec L2 Mx Pm

/-! ### data -/
abbrev iD (n : Nat) : D := .int n
abbrev pD (p : Nat × Nat) : D := .tuple [.int p.1, .int p.2]
abbrev tD (l : List Nat) : D := .tuple (l.map iD)
abbrev esD (es : List (Nat × Nat)) : D := .tuple (es.map pD)
abbrev gE (n : Nat) (es : List (Nat × Nat)) : D := .tuple [.int n, esD es]
abbrev gD (n : Nat) (A : Nat → Nat → Bool) : D := gE n (eL n A)
abbrev iK (n : Nat) : NK := .num n
abbrev pK (p : Nat × Nat) : NK := .tup [.num p.1, .num p.2]
abbrev tK (l : List Nat) : NK := .tup (l.map iK)
abbrev gK (n : Nat) (es : List (Nat × Nat)) : NK := .tup [.num n, .tup (es.map pK)]
theorem datas_map {α : Type} (f : α → NK) (g : α → D) (h : ∀ x, (f x).data = g x) : ∀ l : List α, NestedKey.datas (l.map f) = l.map g
  | [] => rfl
  | x :: l => by rw [List.map_cons, NestedKey.datas, h, datas_map f g h l, List.map_cons]
theorem iK_data (n : Nat) : (iK n).data = iD n := by simp [NestedKey.data]
theorem pK_data (p : Nat × Nat) : (pK p).data = pD p := by simp [NestedKey.data, NestedKey.datas]
theorem tK_data (l : List Nat) : (tK l).data = tD l := by rw [NestedKey.data, datas_map iK iD iK_data]
theorem gK_data (n : Nat) (es : List (Nat × Nat)) : (gK n es).data = gE n es := by
  rw [NestedKey.data, NestedKey.datas, NestedKey.datas, NestedKey.datas, NestedKey.data, NestedKey.data, datas_map pK pD pK_data]
theorem keyDs_map {α : Type} (f : α → NK) (g : α → D) (h : ∀ x, keyD (g x) = some (f x)) : ∀ l : List α, keyDs (l.map g) = some (l.map f)
  | [] => by simp [keyDs]
  | x :: l => by rw [List.map_cons, keyDs, h, keyDs_map f g h l]; rfl
theorem iD_key (n : Nat) : keyD (iD n) = some (iK n) := by simp [keyD]
theorem pD_key (p : Nat × Nat) : keyD (pD p) = some (pK p) := by simp [keyD, keyDs]
theorem tD_key (l : List Nat) : keyD (tD l) = some (tK l) := by rw [keyD, keyDs_map iK iD iD_key]; rfl
theorem gE_key (n : Nat) (es : List (Nat × Nat)) : keyD (gE n es) = some (gK n es) := by
  rw [keyD, keyDs, keyD, keyDs, esD, keyD, keyDs_map pK pD pD_key, keyDs]; rfl
theorem alikeAll_ints : ∀ a b : List Nat, PySem.W.alikeAll (a.map iD) (b.map iD) = true
  | [], _ => by simp [PySem.W.alikeAll]
  | _ :: _, [] => by simp [PySem.W.alikeAll]
  | x :: a, y :: b => by rw [List.map_cons, List.map_cons, PySem.W.alikeAll, alikeAll_ints a b]; simp [PySem.W.alike]
theorem alikeAll_prs : ∀ a b : List (Nat × Nat), PySem.W.alikeAll (a.map pD) (b.map pD) = true
  | [], _ => by simp [PySem.W.alikeAll]
  | _ :: _, [] => by simp [PySem.W.alikeAll]
  | x :: a, y :: b => by rw [List.map_cons, List.map_cons, PySem.W.alikeAll, alikeAll_prs a b]; simp [PySem.W.alike, PySem.W.alikeAll]
theorem alike_g (n : Nat) (a b : List (Nat × Nat)) : PySem.W.alike (gE n a) (gE n b) = true := by
  simp only [PySem.W.alike, PySem.W.alikeAll]
  rw [alikeAll_prs]; rfl
theorem alike_t (a b : List Nat) : PySem.W.alike (tD a) (tD b) = true := by rw [PySem.W.alike]; exact alikeAll_ints a b
theorem alike_p (a b : Nat × Nat) : PySem.W.alike (pD a) (pD b) = true := by simp [PySem.W.alike, PySem.W.alikeAll]
theorem dataOk_map {α : Type} (f : α → D) (h : ∀ x y, PySem.W.alike (f x) (f y) = true) (l : List α) : dataOk (l.map f) = true := by
  unfold dataOk
  refine List.all_eq_true.mpr fun d hd => List.all_eq_true.mpr fun e he => ?_
  obtain ⟨x, _, rfl⟩ := List.mem_map.mp hd
  obtain ⟨y, _, rfl⟩ := List.mem_map.mp he
  exact h x y
theorem all_map_true {α : Type} (f : α → D) (p : D → Bool) (l : List α) (h : ∀ x, p (f x) = true) : (l.map f).all p = true := by
  refine List.all_eq_true.mpr fun d hd => ?_
  obtain ⟨x, _, rfl⟩ := List.mem_map.mp hd
  exact h x
theorem depth_ints : ∀ a : List Nat, PyData.depthAll (a.map iD) = 0
  | [] => by simp [PyData.depthAll]
  | x :: a => by rw [List.map_cons, PyData.depthAll, depth_ints a]; simp [PyData.depth]
theorem depth_prs : ∀ a : List (Nat × Nat), PyData.depthAll (a.map pD) ≤ 1
  | [] => by simp [PyData.depthAll]
  | x :: a => by
    have := depth_prs a
    rw [List.map_cons, PyData.depthAll]
    simp only [PyData.depth, PyData.depthAll]
    omega
theorem shal_i (n : Nat) : shal (iD n) = true := by simp [shal, PyData.depth]
theorem shal_p (p : Nat × Nat) : shal (pD p) = true := by simp [shal, PyData.depth, PyData.depthAll]
theorem shal_t (l : List Nat) : shal (tD l) = true := by simp [shal, PyData.depth, depth_ints]
theorem shal_g (n : Nat) (es : List (Nat × Nat)) : shal (gE n es) = true := by
  have := depth_prs es
  have e : (gE n es).depth ≤ 60 := by
    simp only [gE, esD, PyData.depth, PyData.depthAll]
    omega
  exact decide_eq_true e

/-! ### orders -/
theorem pairwise_sort {α : Type} {f : α → NK} {l : List α} (h : l.Pairwise fun a b => PySem.W.dataLe false NestedKey.data (f a) (f b) = true) : (l.map f).Pairwise fun a b => PySem.W.dataLe false NestedKey.data a b = true := by
  rw [List.pairwise_map]; exact h
theorem sortD_of {ks js : List NK} (p : ks.Perm js) (al : dataOk (js.map NestedKey.data) = true) (so : js.Pairwise fun a b => PySem.W.dataLe false NestedKey.data a b = true) : sortD (ks.map NestedKey.data) = js.map NestedKey.data := by
  rw [← map_sortD, sort_perm p al, List.mergeSort_of_pairwise so]
theorem map_data {α : Type} (f : α → NK) (g : α → D) (h : ∀ x, (f x).data = g x) (l : List α) : (l.map f).map NestedKey.data = l.map g := by
  rw [List.map_map]
  exact List.map_congr_left fun x _ => h x
/-- a list that is a permutation of a sorted one is sorted into it -/
theorem sort_to {α : Type} (f : α → NK) (g : α → D) (h : ∀ x, (f x).data = g x) (al : ∀ x y, PySem.W.alike (g x) (g y) = true) {a b : List α} (p : a.Perm b) (so : b.Pairwise fun x y => PySem.W.dataLe false g x y = true) : sortD (a.map g) = b.map g := by
  have e := sortD_of (p.map f) (by rw [map_data f g h]; exact dataOk_map g al b) (pairwise_sort (f := f) (so.imp fun {x y} z => by
    show (!(PySem.W.dataLt (f y).data (f x).data)) = true
    rw [h, h]; exact z))
  rwa [map_data f g h, map_data f g h] at e
theorem le_ints (a b : Nat) : PySem.W.dataLe false iD a b = decide (a ≤ b) := by
  rw [PySem.W.dataLe_int fun n : Nat => (n : Int)]
  simp
theorem le_prs (p q : Nat × Nat) : PySem.W.dataLe false pD p q = decide (p.1 < q.1 ∨ p.1 = q.1 ∧ p.2 ≤ q.2) := by
  rw [PySem.W.dataLe_ii (fun p : Nat × Nat => (p.1 : Int)) (fun p => (p.2 : Int))]
  simp only [decide_eq_decide]
  omega
theorem sort_prs {a b : List (Nat × Nat)} (p : a.Perm b) (so : b.Pairwise plt) : sortD (a.map pD) = b.map pD :=
  sort_to pK pD pK_data alike_p p (so.imp fun {x y} z => by
    rw [le_prs]
    exact decide_eq_true (by unfold plt at z; omega))
theorem sort_ints {a b : List Nat} (p : a.Perm b) (so : b.Pairwise (· ≤ ·)) : sortD (a.map iD) = b.map iD :=
  sort_to iK iD iK_data (fun _ _ => by simp [PySem.W.alike]) p (so.imp fun {x y} z => by rw [le_ints]; exact decide_eq_true z)

/-! ### walks -/
theorem lcGo_eq {α : Type} {st : D → En → Option En} {c : En → Option Bool} {fe : Fx} {ρ : En} (enc : α → D) (p : α → Bool) (g : α → D) : ∀ xs : List α, (∀ x ∈ xs, ∃ ρ1, st (enc x) ρ = some ρ1 ∧ c ρ1 = some (p x) ∧ (p x = true → fe ρ1 = some (g x))) → lcGo st c fe ρ (xs.map enc) = some ((xs.filter p).map g)
  | [], _ => rfl
  | x :: xs, h => by
    obtain ⟨ρ1, h1, h2, h3⟩ := h x (by simp)
    have ih := lcGo_eq enc p g xs fun y hy => h y (by simp [hy])
    rw [List.map_cons, lcGo, h1, Option.bind_some, h2, Option.bind_some]
    cases e : p x with
    | true => rw [if_pos rfl, h3 e, Option.bind_some, ih, List.filter_cons_of_pos e]; rfl
    | false => rw [if_neg Bool.false_ne_true, ih, List.filter_cons_of_neg (by simp [e])]
theorem fLc_eq {α : Type} {fi : En → Option (List D)} {st : D → En → Option En} {c : En → Option Bool} {fe : Fx} {vs : List Nat} {ρ : En} (enc : α → D) (p : α → Bool) (g : α → D) (xs : List α) (hi : fi ρ = some (xs.map enc)) (hl : xs.length ≤ 100000)
    (h : ∀ x ∈ xs, ∃ ρ1, st (enc x) (wipeE ρ vs) = some ρ1 ∧ c ρ1 = some (p x) ∧ (p x = true → fe ρ1 = some (g x))) : fLc fi st c fe vs ρ = some (.list ((xs.filter p).map g)) := by
  unfold fLc
  rw [hi, Option.bind_some, if_pos (by simpa using hl), lcGo_eq enc p g xs h]; rfl
theorem fLc_map {α : Type} {fi : En → Option (List D)} {st : D → En → Option En} {fe : Fx} {vs : List Nat} {ρ : En} (enc g : α → D) (xs : List α) (hi : fi ρ = some (xs.map enc)) (hl : xs.length ≤ 100000)
    (h : ∀ x ∈ xs, ∃ ρ1, st (enc x) (wipeE ρ vs) = some ρ1 ∧ fe ρ1 = some (g x)) : fLc fi st (fun _ => some true) fe vs ρ = some (.list (xs.map g)) := by
  rw [fLc_eq enc (fun _ => true) g xs hi hl fun x hx => (h x hx).imp fun ρ1 q => ⟨q.1, rfl, fun _ => q.2⟩, List.filter_eq_self.mpr fun _ _ => rfl]
/-- a loop, by what holds after each part -/
theorem loop_inv {α : Type} {st : D → En → Option En} {F : Fs} (enc : α → D) (I : List α → En → Prop) : ∀ (rest done : List α) (ρ : En), I done ρ → (∀ d x r ρ, done ++ rest = d ++ x :: r → I d ρ → ∃ ρ1 ρ2, st (enc x) ρ = some ρ1 ∧ F ρ1 = some (.nx ρ2) ∧ I (d ++ [x]) ρ2) → ∃ ρ', loopF st F (rest.map enc) ρ = some (.nx ρ') ∧ I (done ++ rest) ρ'
  | [], done, ρ, i, _ => ⟨ρ, rfl, by simpa using i⟩
  | x :: rest, done, ρ, i, h => by
    obtain ⟨ρ1, ρ2, h1, h2, h3⟩ := h done x rest ρ rfl i
    obtain ⟨ρ', h4, h5⟩ := loop_inv enc I rest (done ++ [x]) ρ2 h3 fun d y r ρ e i => h d y r ρ (by simpa using e) i
    refine ⟨ρ', ?_, by simpa using h5⟩
    rw [List.map_cons, loopF, h1, Option.bind_some, h2]
    exact h4
theorem rng1_eq (n : Nat) (h : n ≤ 100000) : rng1 [iD n] = some ((List.range n).map iD) := by
  have e : (-100000 ≤ (n : Int) ∧ (n : Int) ≤ 100000) := by omega
  show (if -100000 ≤ (n : Int) ∧ (n : Int) ≤ 100000 then some (Mx.upTo 0 n) else none) = _
  rw [if_pos e]
  unfold Mx.upTo
  simp
theorem rng2_eq (a n : Nat) (ha : a ≤ 100000) (h : n ≤ 100000) : rng2 [iD a, iD n] = some ((List.range' a (n - a)).map iD) := by
  have e : (-100000 ≤ (n : Int) ∧ (n : Int) ≤ 100000) ∧ -100000 ≤ (a : Int) ∧ (a : Int) ≤ 100000 := by omega
  show (if (-100000 ≤ (n : Int) ∧ (n : Int) ≤ 100000) ∧ -100000 ≤ (a : Int) ∧ (a : Int) ≤ 100000 then some (Mx.upTo a n) else none) = _
  rw [if_pos e]
  unfold Mx.upTo
  have e2 : ((n : Int) - a).toNat = n - a := by omega
  rw [e2, List.range'_eq_map_range, List.map_map]
  congr 1
theorem atI_map {α : Type} (f : α → D) (xs : List α) (i : Nat) (h : i < xs.length) : L2.atI (xs.map f) (i : Int) = some (f xs[i]) := by
  unfold atI
  have e : ixN (xs.map f).length (i : Int) = some i := by
    unfold ixN
    have h' : (i : Int) < ((xs.map f).length : Int) := by simpa using h
    simp
    omega
  rw [e, Option.bind_some, List.getElem?_map, List.getElem?_eq_getElem h]; rfl
theorem beq_cast (a b : Nat) : ((a : Int) == (b : Int)) = decide (a = b) := by
  by_cases h : a = b
  · subst h; simp
  · have : ¬ (a : Int) = b := by omega
    simp [h, this]
theorem eqv_i (a b : Nat) : PyData.eqv (iD a) (iD b) = decide (a = b) := by simp only [PyData.eqv]; exact beq_cast a b
theorem eqv_p (p q : Nat × Nat) : PyData.eqv (pD p) (pD q) = decide (p = q) := by
  obtain ⟨a, b⟩ := p
  obtain ⟨c, d⟩ := q
  simp [PyData.eqv, PyData.eqvAll, beq_cast]
theorem any_eqv {α : Type} [DecidableEq α] (f : α → D) (h : ∀ x y, PyData.eqv (f x) (f y) = decide (x = y)) (xs : List α) (a : α) : ((xs.map f).any fun z => PyData.eqv z (f a)) = decide (a ∈ xs) := by
  rw [List.any_map]
  induction xs with
  | nil => simp
  | cons x xs ih =>
    rw [List.any_cons, ih]
    simp only [Function.comp, h, List.mem_cons]
    by_cases e : x = a
    · subst e; simp
    · have : ¬ a = x := fun q => e q.symm
      simp [e, this]
end Pl

namespace K53
open PySem PySem.Spec PyProof.Rows L2 Mx

def top (i : Nat) : Stmt := PySem.Challenge.pw_trellis_k53_whole_symmetries_and_copies.main.body.getD i (.Pass ⟨0, 0, 0, 0⟩)
def d_pair_of : He.DefD := ⟨("pair_of", none), "pair_of", "pair_of", defArgs (top 5), defBody (top 5), defScope (top 5), [], []⟩
def d_made_graph : He.DefD := ⟨("made_graph", none), "made_graph", "made_graph", defArgs (top 6), defBody (top 6), defScope (top 6), [], []⟩
def d_are_neighbours : He.DefD := ⟨("are_neighbours", none), "are_neighbours", "are_neighbours", defArgs (top 7), defBody (top 7), defScope (top 7), [], []⟩
def d_neighbours : He.DefD := ⟨("neighbours", none), "neighbours", "neighbours", defArgs (top 8), defBody (top 8), defScope (top 8), [], []⟩
def d_renamed : He.DefD := ⟨("renamed", none), "renamed", "renamed", defArgs (top 9), defBody (top 9), defScope (top 9), [], []⟩
def d_first_places : He.DefD := ⟨("first_places", none), "first_places", "first_places", defArgs (top 11), defBody (top 11), defScope (top 11), [], []⟩
def d_rounds_of_degrees : He.DefD := ⟨("rounds_of_degrees", none), "rounds_of_degrees", "rounds_of_degrees", defArgs (top 12), defBody (top 12), defScope (top 12), [], []⟩
def d_fits : He.DefD := ⟨("fits", none), "fits", "fits", defArgs (top 13), defBody (top 13), defScope (top 13), [], []⟩
def d_pairings : He.DefD := ⟨("pairings", none), "pairings", "pairings", defArgs (top 14), defBody (top 14), defScope (top 14), [], []⟩
def d_symmetries : He.DefD := ⟨("symmetries", none), "symmetries", "symmetries", defArgs (top 15), defBody (top 15), defScope (top 15), [], []⟩
def d_all_orders : He.DefD := ⟨("all_orders", none), "all_orders", "all_orders", defArgs (top 16), defBody (top 16), defScope (top 16), [], []⟩
def d_canonical : He.DefD := ⟨("canonical", none), "canonical", "canonical", defArgs (top 17), defBody (top 17), defScope (top 17), [], []⟩
def d__law_pool : He.DefD := ⟨("_law_pool", none), "_law_pool", "_law_pool", defArgs (top 19), defBody (top 19), defScope (top 19), [], []⟩
def d__law_spread : He.DefD := ⟨("_law_spread", none), "_law_spread", "_law_spread", defArgs (top 20), defBody (top 20), defScope (top 20), [], []⟩
def d__law_draw : He.DefD := ⟨("_law_draw", none), "_law_draw", "_law_draw", defArgs (top 21), defBody (top 21), defScope (top 21), [], []⟩
def d__law_same : He.DefD := ⟨("_law_same", none), "_law_same", "_law_same", defArgs (top 22), defBody (top 22), defScope (top 22), [], []⟩
def d__law_made : He.DefD := ⟨("_law_made", none), "_law_made", "_law_made", defArgs (top 23), defBody (top 23), defScope (top 23), [], []⟩
def d__law_graph : He.DefD := ⟨("_law_graph", none), "_law_graph", "_law_graph", defArgs (top 24), defBody (top 24), defScope (top 24), [], []⟩
def d__law_are : He.DefD := ⟨("_law_are", none), "_law_are", "_law_are", defArgs (top 25), defBody (top 25), defScope (top 25), [], []⟩
def d__law_near : He.DefD := ⟨("_law_near", none), "_law_near", "_law_near", defArgs (top 26), defBody (top 26), defScope (top 26), [], []⟩
def d__law_pairs : He.DefD := ⟨("_law_pairs", none), "_law_pairs", "_law_pairs", defArgs (top 27), defBody (top 27), defScope (top 27), [], []⟩
def d__law_renamed : He.DefD := ⟨("_law_renamed", none), "_law_renamed", "_law_renamed", defArgs (top 28), defBody (top 28), defScope (top 28), [], []⟩
def d__law_orders : He.DefD := ⟨("_law_orders", none), "_law_orders", "_law_orders", defArgs (top 29), defBody (top 29), defScope (top 29), [], []⟩
def d_law : He.DefD := ⟨("law", none), "law", "law", defArgs (top 30), defBody (top 30), defScope (top 30), [], []⟩
def fn : List He.DefD := [d_pair_of, d_made_graph, d_are_neighbours, d_neighbours, d_renamed, d_first_places, d_rounds_of_degrees, d_fits, d_pairings, d_symmetries, d_all_orders, d_canonical, d__law_pool, d__law_spread, d__law_draw, d__law_same, d__law_made, d__law_graph, d__law_are, d__law_near, d__law_pairs, d__law_renamed, d__law_orders, d_law]
def fa : List He.Fa := [.glo "pair_of", .glo "made_graph", .glo "are_neighbours", .glo "neighbours", .glo "renamed", .glo "first_places", .glo "rounds_of_degrees", .glo "fits", .glo "pairings", .glo "symmetries", .glo "all_orders", .glo "canonical", .glo "_law_pool", .glo "_law_spread", .glo "_law_draw", .glo "_law_same", .glo "_law_made", .glo "_law_graph", .glo "_law_are", .glo "_law_near", .glo "_law_pairs", .glo "_law_renamed", .glo "_law_orders", .glo "law", .free "min", .free "max", .free "len", .free "sorted", .free "tuple", .free "list", .free "range", .free "enumerate", .free "all", .free "set", .free "int", .free "isinstance", .free "bool", .free "str", .int "MOST_VERTICES" 60]
section
variable {P : Program} {w : World} {K : PySem.W.Frag} {h : Heap} {mg : Str → Option Value} {base : Heap}
/-! pair_of -/
abbrev s_pair_of : Stmt := top 5
abbrev N_pair_of : List Str := ["u", "v"]
def kd_pair_of : Nat → SK := fun i => [SK.wk, SK.wk].getD i .st
theorem sc_pair_of : FnScope N_pair_of ["u", "v"] (defScope s_pair_of) := ⟨rfl, rfl, rfl, by decide +kernel, rfl, by decide +kernel, by decide +kernel⟩
def F_pair_of : Fs :=
 (fRet (fTup (fCons (fCall dMin2 (fCons (fVar 0) (fCons (fVar 1) fNil))) (fCons (fCall dMax2 (fCons (fVar 0) (fCons (fVar 1) fNil))) fNil))))
def m_pair_of : List D → Option D := defF 2 2 F_pair_of
theorem ok_pair_of (Xk : K.In h) (G : h.Ns mainGlobals mg) (c : He.SaysD fa fn K) : ∃ fd, OkD P w K mg base 1 (He.ga K "pair_of") ["u", "v"] fd (spD K m_pair_of) := by
  obtain ⟨fd, F⟩ := c.def_ 0 (d := d_pair_of) rfl
  have z_max := He.free_ok Xk G (c.fact 25 (f := .free "max") rfl)
  have z_min := He.free_ok Xk G (c.fact 24 (f := .free "min") rfl)
  refine ⟨fd, ?_, (FunD.bindsN F (ps := ["u", "v"]) (fun _ _ _ _ _ _ us hl => match us, hl with | [_, _], _ => rfl)), F.kp⟩
  exact fn_d (N := N_pair_of) (ps := ["u", "v"]) (kd := kd_pair_of) (F := F_pair_of) F sc_pair_of (by decide) (by decide) fun cdv A outer s H E hr => ⟨_,
 (mxs_one (mx_ret (me_tup (ms_cons (me_b (call_min2 rfl) vn_min2 rfl z_min (by decide +kernel) (ma_cons (mv_var (pv 0) (by decide)) (ma_cons (mv_var (pv 1) (by decide)) ma_nil))) (ms_cons (me_b (call_max2 rfl) vn_max2 rfl z_max (by decide +kernel) (ma_cons (mv_var (pv 0) (by decide)) (ma_cons (mv_var (pv 1) (by decide)) ma_nil))) ms_nil)))))⟩

/-! made_graph -/
abbrev s_made_graph : Stmt := top 6
abbrev N_made_graph : List Str := ["n", "edges", "found", "u", "v"]
def kd_made_graph : Nat → SK := fun i => [SK.wk, SK.wk, SK.mu, SK.st, SK.st].getD i .st
theorem sc_made_graph : FnScope N_made_graph ["n", "edges"] (defScope s_made_graph) := ⟨rfl, rfl, rfl, by decide +kernel, rfl, by decide +kernel, by decide +kernel⟩
def F_made_graph : Fs :=
 (fSeq (fIfS (fOr (fTest (f2 dLt (fVar 0) (fC (.int 1)))) (fTest (f2 dGt (fVar 0) (fC (.int 60)))))
 fNo
 fNx)
 (fSeq (fSet 2 (fC (.dict [])))
 (fSeq (fFor (fItems (fVar 1)) (setTup (setCons (setN 3) (setCons (setN 4) setNil)))
 (fSeq (fIfS (fOr (fTest (f2 dLt (fCall dMin2 (fCons (fVar 3) (fCons (fVar 4) fNil))) (fC (.int 0)))) (fOr (fTest (f2 dGe (fCall dMax2 (fCons (fVar 3) (fCons (fVar 4) fNil))) (fVar 0))) (fTest (f2 dEq (fVar 3) (fVar 4)))))
 fNo
 fNx)
 (fPutN 2 (fCall m_pair_of (fCons (fVar 3) (fCons (fVar 4) fNil))) (fC (.bool true)))))
 (fRet (fTup (fCons (f1 notL (fVar 0)) (fCons (fCall dTuple (fCons (fCall dSortedN (fCons (fVar 2) fNil)) fNil)) fNil)))))))
def m_made_graph : List D → Option D := defF 5 2 F_made_graph
theorem ok_made_graph (Xk : K.In h) (G : h.Ns mainGlobals mg) (c : He.SaysD fa fn K) : ∃ fd, OkD P w K mg base 2 (He.ga K "made_graph") ["n", "edges"] fd (spD K m_made_graph) := by
  obtain ⟨fd, F⟩ := c.def_ 1 (d := d_made_graph) rfl
  obtain ⟨fd_pair_of, o_pair_of⟩ := ok_pair_of (P := P) (w := w) (base := base) Xk G c
  have g_pair_of := He.glo_ok Xk G (c.fact 0 (f := .glo "pair_of") rfl)
  have z_sorted := He.free_ok Xk G (c.fact 27 (f := .free "sorted") rfl)
  have z_tuple := He.free_ok Xk G (c.fact 28 (f := .free "tuple") rfl)
  have z_max := He.free_ok Xk G (c.fact 25 (f := .free "max") rfl)
  have z_min := He.free_ok Xk G (c.fact 24 (f := .free "min") rfl)
  obtain ⟨t_MOST_VERTICES, c_MOST_VERTICES⟩ := He.int_ok Xk G (c.fact 38 (f := .int "MOST_VERTICES" 60) rfl)
  refine ⟨fd, ?_, (FunD.bindsN F (ps := ["n", "edges"]) (fun _ _ _ _ _ _ us hl => match us, hl with | [_, _], _ => rfl)), F.kp⟩
  exact fn_d (N := N_made_graph) (ps := ["n", "edges"]) (kd := kd_made_graph) (F := F_made_graph) F sc_made_graph (by decide) (by decide) fun cdv A outer s H E hr => ⟨_,
 (mxs_cons (mx_if (MW.mt (mw_or (mt_cmp op_lt (v2_lt (K := K)) (mv_var (pv 0) (by decide)) (ME.mv me_int) (nomark _)) (mw_or1 (mt_cmp op_gt (v2_gt (K := K)) (mv_var (pv 0) (by decide)) (ME.mv (me_globI rfl c_MOST_VERTICES)) (nomark _)))))
 (mxs_one mx_never)
 mxs_nil)
 (mxs_cons (mx_setNE (i := 2) sc_made_graph.nd rfl (by first | exact .inl rfl | exact .inr rfl) mn_dict0 rfl)
 (mxs_cons (mx_for PassesOwn.never rfl (mi_wkK K (pv 1) rfl) (mg_tupK K rfl (mgs_cons (mg_name (pg_name (i := 3) sc_made_graph.nd rfl (by first | exact .inl rfl | exact .inr rfl)) rfl) (mgs_cons (mg_name (pg_name (i := 4) sc_made_graph.nd rfl (by first | exact .inl rfl | exact .inr rfl)) rfl) mgs_nil)))
 (mxs_cons (mx_if (MW.mt (mw_or (mt_cmp op_lt (v2_lt (K := K)) (ME.mv (me_b (call_min2 rfl) vn_min2 rfl z_min (by decide +kernel) (ma_cons (ME.mv (me_var (pv 3) rfl)) (ma_cons (ME.mv (me_var (pv 4) rfl)) ma_nil)))) (ME.mv me_int) (nomark _)) (mw_or (mt_cmp op_ge (v2_ge (K := K)) (ME.mv (me_b (call_max2 rfl) vn_max2 rfl z_max (by decide +kernel) (ma_cons (ME.mv (me_var (pv 3) rfl)) (ma_cons (ME.mv (me_var (pv 4) rfl)) ma_nil)))) (mv_var (pv 0) (by decide)) (nomark _)) (mw_or1 (mt_cmp (op_eqK K hr.units) (v2_eq (K := K)) (ME.mv (me_var (pv 3) rfl)) (ME.mv (me_var (pv 4) rfl)) (nomark _))))))
 (mxs_one mx_never)
 mxs_nil)
 (mxs_one (mx_putN hr.units (pv 2) rfl (ME.mv (me_callK K o_pair_of (hr.mono (by decide)) rfl g_pair_of (ma_cons (ME.mv (me_var (pv 3) rfl)) (ma_cons (ME.mv (me_var (pv 4) rfl)) ma_nil)))) me_bl))))
 (mxs_one (mx_ret (me_tup (ms_cons (MV.me (mv_var (pv 0) (by decide))) (ms_cons (me_ty (call_tupleK K) vn_tupleK rfl z_tuple (by decide +kernel) (ma_cons (MN.mv (mn_b (cr_sortedN rfl hr.units) (nn_sortedN (K := K)) rfl z_sorted (by decide +kernel) (ma_cons (mv_var (pv 2) (by decide)) ma_nil))) ma_nil)) ms_nil))))))))⟩

/-! are_neighbours -/
abbrev s_are_neighbours : Stmt := top 7
abbrev N_are_neighbours : List Str := ["graph", "u", "v"]
def kd_are_neighbours : Nat → SK := fun i => [SK.wk, SK.wk, SK.wk].getD i .st
theorem sc_are_neighbours : FnScope N_are_neighbours ["graph", "u", "v"] (defScope s_are_neighbours) := ⟨rfl, rfl, rfl, by decide +kernel, rfl, by decide +kernel, by decide +kernel⟩
def F_are_neighbours : Fs :=
 (fRet (f2 dIn (fCall m_pair_of (fCons (fVar 1) (fCons (fVar 2) fNil))) (f2 dIx (fVar 0) (fC (.int 1)))))
def m_are_neighbours : List D → Option D := defF 3 3 F_are_neighbours
theorem ok_are_neighbours (Xk : K.In h) (G : h.Ns mainGlobals mg) (c : He.SaysD fa fn K) : ∃ fd, OkD P w K mg base 2 (He.ga K "are_neighbours") ["graph", "u", "v"] fd (spD K m_are_neighbours) := by
  obtain ⟨fd, F⟩ := c.def_ 2 (d := d_are_neighbours) rfl
  obtain ⟨fd_pair_of, o_pair_of⟩ := ok_pair_of (P := P) (w := w) (base := base) Xk G c
  have g_pair_of := He.glo_ok Xk G (c.fact 0 (f := .glo "pair_of") rfl)
  refine ⟨fd, ?_, (FunD.bindsN F (ps := ["graph", "u", "v"]) (fun _ _ _ _ _ _ us hl => match us, hl with | [_, _, _], _ => rfl)), F.kp⟩
  exact fn_d (N := N_are_neighbours) (ps := ["graph", "u", "v"]) (kd := kd_are_neighbours) (F := F_are_neighbours) F sc_are_neighbours (by decide) (by decide) fun cdv A outer s H E hr => ⟨_,
 (mxs_one (mx_ret (me_cmp (op_inK K hr.units) (v2_in (K := K)) (ME.mv (me_callK K o_pair_of (hr.mono (by decide)) rfl g_pair_of (ma_cons (mv_var (pv 1) (by decide)) (ma_cons (mv_var (pv 2) (by decide)) ma_nil)))) (ME.mv (me_ix (ix_K K) (v2_ix (K := K)) (mv_var (pv 0) (by decide)) (ME.mv me_int) (fun _ _ => rfl))) (by rfl))))⟩

/-! neighbours -/
abbrev s_neighbours : Stmt := top 8
abbrev N_neighbours : List Str := ["graph", "v", "u", "w"]
def kd_neighbours : Nat → SK := fun i => [SK.wk, SK.wk, SK.st, SK.st].getD i .st
theorem sc_neighbours : FnScope N_neighbours ["graph", "v"] (defScope s_neighbours) := ⟨rfl, rfl, rfl, by decide +kernel, rfl, by decide +kernel, by decide +kernel⟩
def F_neighbours : Fs :=
 (fRet (f1 isL (fCall dSorted (fCons (fLc (fItems (f2 dIx (fVar 0) (fC (.int 1)))) (setTup (setCons (setN 2) (setCons (setN 3) setNil))) (fOr (fTest (f2 dEq (fVar 2) (fVar 1))) (fTest (f2 dEq (fVar 3) (fVar 1)))) (f2 dSub (f2 dAdd (fVar 2) (fVar 3)) (fVar 1)) [2, 3]) fNil))))
def m_neighbours : List D → Option D := defF 4 2 F_neighbours
theorem ok_neighbours (Xk : K.In h) (G : h.Ns mainGlobals mg) (c : He.SaysD fa fn K) : ∃ fd, OkD P w K mg base 1 (He.ga K "neighbours") ["graph", "v"] fd (spD K m_neighbours) := by
  obtain ⟨fd, F⟩ := c.def_ 3 (d := d_neighbours) rfl
  have z_sorted := He.free_ok Xk G (c.fact 27 (f := .free "sorted") rfl)
  refine ⟨fd, ?_, (FunD.bindsN F (ps := ["graph", "v"]) (fun _ _ _ _ _ _ us hl => match us, hl with | [_, _], _ => rfl)), F.kp⟩
  exact fn_d (N := N_neighbours) (ps := ["graph", "v"]) (kd := kd_neighbours) (F := F_neighbours) F sc_neighbours (by decide) (by decide) fun cdv A outer s H E hr => ⟨_,
 (mxs_one (mx_ret (MN.me (mn_b (cr_sortedK K hr.units) nn_sorted rfl z_sorted (by decide +kernel) (ma_cons (MN.mv (mn_lc (own := [("u", 2), ("w", 3)]) rfl sc_neighbours.nd  (mi_seqVK K (ME.mv (me_ix (ix_K K) (v2_ix (K := K)) (mv_var (pv 0) (by decide)) (ME.mv me_int) (fun _ _ => rfl)))) (blkOk_by (own := [("u", 2), ("w", 3)]) (N := N_neighbours) (sc := (defScope s_neighbours)) (by decide +kernel)) (fun _ _ _ _ _ => (mg_tupK K rfl (mgs_cons (mg_name (pg_name (i := 2) sc_neighbours.nd rfl (by first | exact .inl rfl | exact .inr rfl)) rfl) (mgs_cons (mg_name (pg_name (i := 3) sc_neighbours.nd rfl (by first | exact .inl rfl | exact .inr rfl)) rfl) mgs_nil)))) (fun _ _ _ _ _ => (mts_one (MW.mt (mw_or (mt_cmp (op_eqK K hr.units) (v2_eq (K := K)) (ME.mv (me_var (pv 2) rfl)) (mv_var (pv 1) (by decide)) (nomark _)) (mw_or1 (mt_cmp (op_eqK K hr.units) (v2_eq (K := K)) (ME.mv (me_var (pv 3) rfl)) (mv_var (pv 1) (by decide)) (nomark _))))))) (fun _ _ _ _ _ => (me_op op_sub (v2_sub (K := K)) (ME.mv (me_op (op_addK K) (v2_add (K := K)) (ME.mv (me_var (pv 2) rfl)) (ME.mv (me_var (pv 3) rfl)))) (mv_var (pv 1) (by decide)))) (by decide))) ma_nil)))))⟩

/-! renamed -/
abbrev s_renamed : Stmt := top 9
abbrev N_renamed : List Str := ["graph", "order", "u", "v"]
def kd_renamed : Nat → SK := fun i => [SK.wk, SK.wk, SK.st, SK.st].getD i .st
theorem sc_renamed : FnScope N_renamed ["graph", "order"] (defScope s_renamed) := ⟨rfl, rfl, rfl, by decide +kernel, rfl, by decide +kernel, by decide +kernel⟩
def F_renamed : Fs :=
 (fRet (fCall m_made_graph (fCons (f2 dIx (fVar 0) (fC (.int 0))) (fCons (fLc (fItems (f2 dIx (fVar 0) (fC (.int 1)))) (setTup (setCons (setN 2) (setCons (setN 3) setNil))) (fun _ => some true) (fTup (fCons (f2 dIx (fVar 1) (fVar 2)) (fCons (f2 dIx (fVar 1) (fVar 3)) fNil))) [2, 3]) fNil))))
def m_renamed : List D → Option D := defF 4 2 F_renamed
theorem ok_renamed (Xk : K.In h) (G : h.Ns mainGlobals mg) (c : He.SaysD fa fn K) : ∃ fd, OkD P w K mg base 3 (He.ga K "renamed") ["graph", "order"] fd (spD K m_renamed) := by
  obtain ⟨fd, F⟩ := c.def_ 4 (d := d_renamed) rfl
  obtain ⟨fd_made_graph, o_made_graph⟩ := ok_made_graph (P := P) (w := w) (base := base) Xk G c
  have g_made_graph := He.glo_ok Xk G (c.fact 1 (f := .glo "made_graph") rfl)
  refine ⟨fd, ?_, (FunD.bindsN F (ps := ["graph", "order"]) (fun _ _ _ _ _ _ us hl => match us, hl with | [_, _], _ => rfl)), F.kp⟩
  exact fn_d (N := N_renamed) (ps := ["graph", "order"]) (kd := kd_renamed) (F := F_renamed) F sc_renamed (by decide) (by decide) fun cdv A outer s H E hr => ⟨_,
 (mxs_one (mx_ret (me_callK K o_made_graph (hr.mono (by decide)) rfl g_made_graph (ma_cons (ME.mv (me_ix (ix_K K) (v2_ix (K := K)) (mv_var (pv 0) (by decide)) (ME.mv me_int) (fun _ _ => rfl))) (ma_cons (MN.mv (mn_lc (own := [("u", 2), ("v", 3)]) rfl sc_renamed.nd  (mi_seqVK K (ME.mv (me_ix (ix_K K) (v2_ix (K := K)) (mv_var (pv 0) (by decide)) (ME.mv me_int) (fun _ _ => rfl)))) (blkOk_by (own := [("u", 2), ("v", 3)]) (N := N_renamed) (sc := (defScope s_renamed)) (by decide +kernel)) (fun _ _ _ _ _ => (mg_tupK K rfl (mgs_cons (mg_name (pg_name (i := 2) sc_renamed.nd rfl (by first | exact .inl rfl | exact .inr rfl)) rfl) (mgs_cons (mg_name (pg_name (i := 3) sc_renamed.nd rfl (by first | exact .inl rfl | exact .inr rfl)) rfl) mgs_nil)))) (fun _ _ _ _ _ => mts_nil) (fun _ _ _ _ _ => (me_tup (ms_cons (me_ix (ix_K K) (v2_ix (K := K)) (mv_var (pv 1) (by decide)) (ME.mv (me_var (pv 2) rfl)) (fun _ _ => rfl)) (ms_cons (me_ix (ix_K K) (v2_ix (K := K)) (mv_var (pv 1) (by decide)) (ME.mv (me_var (pv 3) rfl)) (fun _ _ => rfl)) ms_nil)))) (by decide))) ma_nil)))))⟩

/-! first_places -/
abbrev s_first_places : Stmt := top 11
abbrev N_first_places : List Str := ["keys", "numbers", "key"]
def kd_first_places : Nat → SK := fun i => [SK.wk, SK.mu, SK.st].getD i .st
theorem sc_first_places : FnScope N_first_places ["keys"] (defScope s_first_places) := ⟨rfl, rfl, rfl, by decide +kernel, rfl, by decide +kernel, by decide +kernel⟩
def F_first_places : Fs :=
 (fSeq (fSet 1 (fC (.dict [])))
 (fSeq (fFor (fItems (fVar 0)) (setN 2)
 (fIfS (fTest (f2 (dInN true) (fVar 2) (fVar 1)))
 (fPutN 1 (fVar 2) (fCall dLenN (fCons (fVar 1) fNil)))
 fNx))
 (fRet (fLc (fItems (fVar 0)) (setN 2) (fun _ => some true) (f2 dIxN (fVar 1) (fVar 2)) [2]))))
def m_first_places : List D → Option D := defN 3 1 F_first_places
theorem ok_first_places (Xk : K.In h) (G : h.Ns mainGlobals mg) (c : He.SaysD fa fn K) : ∃ fd, OkD P w K mg base 1 (He.ga K "first_places") ["keys"] fd (spN K m_first_places) := by
  obtain ⟨fd, F⟩ := c.def_ 5 (d := d_first_places) rfl
  have z_len := He.free_ok Xk G (c.fact 26 (f := .free "len") rfl)
  refine ⟨fd, ?_, (FunD.bindsN F (ps := ["keys"]) (fun _ _ _ _ _ _ us hl => match us, hl with | [_], _ => rfl)), F.kp⟩
  exact fn_n (N := N_first_places) (ps := ["keys"]) (kd := kd_first_places) (F := F_first_places) F sc_first_places (by decide) (by decide) fun cdv A outer s H E hr => ⟨_,
 (mxs_cons (mx_setNE (i := 1) sc_first_places.nd rfl (by first | exact .inl rfl | exact .inr rfl) mn_dict0 rfl)
 (mxs_cons (mx_for PassesOwn.never rfl (mi_wkK K (pv 0) rfl) (mg_name (pg_name (i := 2) sc_first_places.nd rfl (by first | exact .inl rfl | exact .inr rfl)) rfl)
 (mxs_one (mx_if (mt_cmp (op_notInN hr.units) (v2_inN (K := K) true) (ME.mv (me_var (pv 2) rfl)) (mv_var (pv 1) (by decide)) (by rfl))
 (mxs_one (mx_putN hr.units (pv 1) rfl (ME.mv (me_var (pv 2) rfl)) (me_b call_lenN (vn_lenN (K := K)) rfl z_len PySem.boot_len (ma_cons (mv_var (pv 1) (by decide)) ma_nil))))
 mxs_nil)))
 (mxs_one (mx_retN (mn_lc (own := [("key", 2)]) rfl sc_first_places.nd  (mi_wkK K (pv 0) rfl) (blkOk_by (own := [("key", 2)]) (N := N_first_places) (sc := (defScope s_first_places)) (by decide +kernel)) (fun _ _ _ _ _ => (mg_name (pg_name (i := 2) sc_first_places.nd rfl (by first | exact .inl rfl | exact .inr rfl)) rfl)) (fun _ _ _ _ _ => mts_nil) (fun _ _ _ _ _ => (me_ix (ix_N hr.units) (v2_ixN (K := K)) (mv_var (pv 1) (by decide)) (ME.mv (me_var (pv 2) rfl)) (fun _ _ => rfl))) (by decide))))))⟩

/-! rounds_of_degrees -/
abbrev s_rounds_of_degrees : Stmt := top 12
abbrev N_rounds_of_degrees : List Str := ["graph", "rows", "before", "keys", "v", "u"]
def kd_rounds_of_degrees : Nat → SK := fun i => [SK.wk, SK.mu, SK.st, SK.st, SK.st, SK.st].getD i .st
theorem sc_rounds_of_degrees : FnScope N_rounds_of_degrees ["graph"] (defScope s_rounds_of_degrees) := ⟨rfl, rfl, rfl, by decide +kernel, rfl, by decide +kernel, by decide +kernel⟩
def F_rounds_of_degrees : Fs :=
 (fSeq (fSet 1 (fLst (fCons (f1 isL (fLc (fun ρ => ((fCons (f2 dIx (fVar 0) (fC (.int 0))) fNil) ρ).bind rng1) (setN 4) (fun _ => some true) (fCall dLenS (fCons (fCall m_neighbours (fCons (fVar 0) (fCons (fVar 4) fNil))) fNil)) [4])) fNil)))
 (whileF (fTest (fC (.bool true)))
 (fSeq (fSet 2 (f2 dIx (fVar 1) (f1 dNeg (fC (.int 1)))))
 (fSeq (fSet 3 (f1 isL (fLc (fun ρ => ((fCons (f2 dIx (fVar 0) (fC (.int 0))) fNil) ρ).bind rng1) (setN 4) (fun _ => some true) (fTup (fCons (f2 dIx (fVar 2) (fVar 4)) (fCons (fCall dTuple (fCons (fCall dSorted (fCons (fLc (fItems (fCall m_neighbours (fCons (fVar 0) (fCons (fVar 4) fNil)))) (setN 5) (fun _ => some true) (f2 dIx (fVar 2) (fVar 5)) [5]) fNil)) fNil)) fNil))) [4])))
 (fSeq (fApp 1 (f1 isL (fCall m_first_places (fCons (fVar 3) fNil))))
 (fIfS (fTest (f2 dEq (f1 dLenSet (f2 dIx (fVar 1) (f1 dNeg (fC (.int 1))))) (f1 dLenSet (fVar 2))))
 (fRet (fVar 1))
 fNx)))) 100))
def m_rounds_of_degrees : List D → Option D := defN 6 1 F_rounds_of_degrees
theorem ok_rounds_of_degrees (Xk : K.In h) (G : h.Ns mainGlobals mg) (c : He.SaysD fa fn K) : ∃ fd, OkD P w K mg base 2 (He.ga K "rounds_of_degrees") ["graph"] fd (spN K m_rounds_of_degrees) := by
  obtain ⟨fd, F⟩ := c.def_ 6 (d := d_rounds_of_degrees) rfl
  obtain ⟨fd_first_places, o_first_places⟩ := ok_first_places (P := P) (w := w) (base := base) Xk G c
  have g_first_places := He.glo_ok Xk G (c.fact 5 (f := .glo "first_places") rfl)
  obtain ⟨fd_neighbours, o_neighbours⟩ := ok_neighbours (P := P) (w := w) (base := base) Xk G c
  have g_neighbours := He.glo_ok Xk G (c.fact 3 (f := .glo "neighbours") rfl)
  have z_len := He.free_ok Xk G (c.fact 26 (f := .free "len") rfl)
  have z_set := He.free_ok Xk G (c.fact 33 (f := .free "set") rfl)
  have z_range := He.free_ok Xk G (c.fact 30 (f := .free "range") rfl)
  have z_sorted := He.free_ok Xk G (c.fact 27 (f := .free "sorted") rfl)
  have z_tuple := He.free_ok Xk G (c.fact 28 (f := .free "tuple") rfl)
  refine ⟨fd, ?_, (FunD.bindsN F (ps := ["graph"]) (fun _ _ _ _ _ _ us hl => match us, hl with | [_], _ => rfl)), F.kp⟩
  exact fn_n (N := N_rounds_of_degrees) (ps := ["graph"]) (kd := kd_rounds_of_degrees) (F := F_rounds_of_degrees) F sc_rounds_of_degrees (by decide) (by decide) fun cdv A outer s H E hr => ⟨_,
 (mxs_cons (mx_setNE (i := 1) sc_rounds_of_degrees.nd rfl (by first | exact .inl rfl | exact .inr rfl) (mn_lst (ms_cons (MN.me (mn_lc (own := [("v", 4)]) rfl sc_rounds_of_degrees.nd  (mi_range1 rfl z_range (ma_cons (ME.mv (me_ix (ix_K K) (v2_ix (K := K)) (mv_var (pv 0) (by decide)) (ME.mv me_int) (fun _ _ => rfl))) ma_nil)) (blkOk_by (own := [("v", 4)]) (N := N_rounds_of_degrees) (sc := (defScope s_rounds_of_degrees)) (by decide +kernel)) (fun _ _ _ _ _ => (mg_name (pg_name (i := 4) sc_rounds_of_degrees.nd rfl (by first | exact .inl rfl | exact .inr rfl)) rfl)) (fun _ _ _ _ _ => mts_nil) (fun _ _ _ _ _ => (me_b (call_lenK K) vn_lenS rfl z_len PySem.boot_len (ma_cons (ME.mv (me_callK K o_neighbours (hr.mono (by decide)) rfl g_neighbours (ma_cons (mv_var (pv 0) (by decide)) (ma_cons (ME.mv (me_var (pv 4) rfl)) ma_nil)))) ma_nil))) (by decide))) ms_nil)) rfl)
 (mxs_one (mx_while 100 PassesOwn.never (mt_val me_bl)
 (mxs_cons (mx_setE (i := 2) sc_rounds_of_degrees.nd rfl (by first | exact .inl rfl | exact .inr rfl) (me_ix (ix_K K) (v2_ix (K := K)) (mv_var (pv 1) (by decide)) (ME.mv (me_un un_neg (v1_neg (K := K)) (ME.mv me_int))) (fun _ _ => rfl)) rfl)
 (mxs_cons (mx_setLcS (i := 3) rfl (own := [("v", 4)]) rfl sc_rounds_of_degrees.nd rfl rfl (sw_true rfl rfl rfl (by decide +kernel)) (mi_range1 rfl z_range (ma_cons (ME.mv (me_ix (ix_K K) (v2_ix (K := K)) (mv_var (pv 0) (by decide)) (ME.mv me_int) (fun _ _ => rfl))) ma_nil)) (blkOk_by (own := [("v", 4)]) (N := N_rounds_of_degrees) (sc := (defScope s_rounds_of_degrees)) (by decide +kernel)) (fun _ _ _ _ _ => (mg_name (pg_name (i := 4) sc_rounds_of_degrees.nd rfl (by first | exact .inl rfl | exact .inr rfl)) rfl)) (fun _ _ _ _ _ => mts_nil) (fun _ _ _ _ _ => (me_tup (ms_cons (me_ix (ix_K K) (v2_ix (K := K)) (ME.mv (me_var (pv 2) rfl)) (ME.mv (me_var (pv 4) rfl)) (fun _ _ => rfl)) (ms_cons (me_ty (call_tupleK K) vn_tupleK rfl z_tuple (by decide +kernel) (ma_cons (MN.mv (mn_b (cr_sortedK K hr.units) nn_sorted rfl z_sorted (by decide +kernel) (ma_cons (MN.mv (mn_lc (own := [("u", 5)]) rfl sc_rounds_of_degrees.nd  (mi_seqVK K (ME.mv (me_callK K o_neighbours (hr.mono (by decide)) rfl g_neighbours (ma_cons (mv_var (pv 0) (by decide)) (ma_cons (ME.mv (me_var (pv 4) rfl)) ma_nil))))) (blkOk_by (own := [("u", 5)]) (by kernel_rfl)) (fun _ _ _ _ _ => (mg_name (pg_name (i := 5) sc_rounds_of_degrees.nd rfl (by first | exact .inl rfl | exact .inr rfl)) rfl)) (fun _ _ _ _ _ => mts_nil) (fun _ _ _ _ _ => (me_ix (ix_K K) (v2_ix (K := K)) (ME.mv (me_var (pv 2) rfl)) (ME.mv (me_var (pv 5) rfl)) (fun _ _ => rfl))) (by decide))) ma_nil))) ma_nil)) ms_nil)))) (by decide))
 (mxs_cons (mx_appE K 1 (pv 1) (MN.me (mn_callK K o_first_places (hr.mono (by decide)) rfl g_first_places (ma_cons (ME.mv (me_var (pv 3) rfl)) ma_nil))) rfl)
 (mxs_one (mx_if (mt_cmp (op_eqK K hr.units) (v2_eq (K := K)) (ME.mv (me_lenSet K rfl rfl z_len rfl z_set (ME.mv (me_ix (ix_K K) (v2_ix (K := K)) (mv_var (pv 1) (by decide)) (ME.mv (me_un un_neg (v1_neg (K := K)) (ME.mv me_int))) (fun _ _ => rfl))))) (ME.mv (me_lenSet K rfl rfl z_len rfl z_set (ME.mv (me_var (pv 2) rfl)))) (nomark _))
 (mxs_one (mx_retM (pv 1) rfl))
 mxs_nil))))))))⟩

/-! fits -/
abbrev s_fits : Stmt := top 13
abbrev N_fits : List Str := ["first", "second", "pairs", "w", "v", "u"]
def kd_fits : Nat → SK := fun i => [SK.wk, SK.wk, SK.wk, SK.wk, SK.st, SK.st].getD i .st
theorem sc_fits : FnScope N_fits ["first", "second", "pairs", "w"] (defScope s_fits) := ⟨rfl, rfl, rfl, by decide +kernel, rfl, by decide +kernel, by decide +kernel⟩
def F_fits : Fs :=
 (fSeq (fSet 4 (fCall dLenS (fCons (fVar 2) fNil)))
 (fRet (fCall dAll (fCons (fLc (fun ρ => ((fCons (fVar 4) fNil) ρ).bind rng1) (setN 5) (fun _ => some true) (f2 dEq (fCall m_are_neighbours (fCons (fVar 0) (fCons (fVar 5) (fCons (fVar 4) fNil)))) (fCall m_are_neighbours (fCons (fVar 1) (fCons (f2 dIx (fVar 2) (fVar 5)) (fCons (fVar 3) fNil))))) [5]) fNil))))
def m_fits : List D → Option D := defF 6 4 F_fits
theorem ok_fits (Xk : K.In h) (G : h.Ns mainGlobals mg) (c : He.SaysD fa fn K) : ∃ fd, OkD P w K mg base 3 (He.ga K "fits") ["first", "second", "pairs", "w"] fd (spD K m_fits) := by
  obtain ⟨fd, F⟩ := c.def_ 7 (d := d_fits) rfl
  obtain ⟨fd_are_neighbours, o_are_neighbours⟩ := ok_are_neighbours (P := P) (w := w) (base := base) Xk G c
  have g_are_neighbours := He.glo_ok Xk G (c.fact 2 (f := .glo "are_neighbours") rfl)
  have z_range := He.free_ok Xk G (c.fact 30 (f := .free "range") rfl)
  have z_all := He.free_ok Xk G (c.fact 32 (f := .free "all") rfl)
  have z_len := He.free_ok Xk G (c.fact 26 (f := .free "len") rfl)
  refine ⟨fd, ?_, (FunD.bindsN F (ps := ["first", "second", "pairs", "w"]) (fun _ _ _ _ _ _ us hl => match us, hl with | [_, _, _, _], _ => rfl)), F.kp⟩
  exact fn_d (N := N_fits) (ps := ["first", "second", "pairs", "w"]) (kd := kd_fits) (F := F_fits) F sc_fits (by decide) (by decide) fun cdv A outer s H E hr => ⟨_,
 (mxs_cons (mx_setE (i := 4) sc_fits.nd rfl (by first | exact .inl rfl | exact .inr rfl) (me_b (call_lenK K) vn_lenS rfl z_len PySem.boot_len (ma_cons (mv_var (pv 2) (by decide)) ma_nil)) rfl)
 (mxs_one (mx_ret (me_b (cr_allK K rfl) vn_all rfl z_all (by decide +kernel) (ma_cons (MN.mv (mn_lc (own := [("u", 5)]) rfl sc_fits.nd  (mi_range1 rfl z_range (ma_cons (ME.mv (me_var (pv 4) rfl)) ma_nil)) (blkOk_by (own := [("u", 5)]) (N := N_fits) (sc := (defScope s_fits)) (by decide +kernel)) (fun _ _ _ _ _ => (mg_name (pg_name (i := 5) sc_fits.nd rfl (by first | exact .inl rfl | exact .inr rfl)) rfl)) (fun _ _ _ _ _ => mts_nil) (fun _ _ _ _ _ => (me_cmp (op_eqK K hr.units) (v2_eq (K := K)) (ME.mv (me_callK K o_are_neighbours (hr.mono (by decide)) rfl g_are_neighbours (ma_cons (mv_var (pv 0) (by decide)) (ma_cons (ME.mv (me_var (pv 5) rfl)) (ma_cons (ME.mv (me_var (pv 4) rfl)) ma_nil))))) (ME.mv (me_callK K o_are_neighbours (hr.mono (by decide)) rfl g_are_neighbours (ma_cons (mv_var (pv 1) (by decide)) (ma_cons (ME.mv (me_ix (ix_K K) (v2_ix (K := K)) (mv_var (pv 2) (by decide)) (ME.mv (me_var (pv 5) rfl)) (fun _ _ => rfl))) (ma_cons (mv_var (pv 3) (by decide)) ma_nil))))) (nomark _))) (by decide))) ma_nil)))))⟩

/-! pairings -/
abbrev s_pairings : Stmt := top 14
abbrev N_pairings : List Str := ["first", "second", "pairs", "found", "w"]
def kd_pairings : Nat → SK := fun i => [SK.wk, SK.wk, SK.wk, SK.mu, SK.st].getD i .st
theorem sc_pairings : FnScope N_pairings ["first", "second", "pairs"] (defScope s_pairings) := ⟨rfl, rfl, rfl, by decide +kernel, rfl, by decide +kernel, by decide +kernel⟩
def F_pairings (self : List D → Option D) : Fs :=
 (fSeq (fIfS (fTest (f2 dEq (fCall dLenS (fCons (fVar 2) fNil)) (f2 dIx (fVar 0) (fC (.int 0)))))
 (fRet (fLst (fCons (fCall dTuple (fCons (fVar 2) fNil)) fNil)))
 fNx)
 (fSeq (fSet 3 (fLst fNil))
 (fSeq (fFor (fun ρ => ((fCons (f2 dIx (fVar 0) (fC (.int 0))) fNil) ρ).bind rng1) (setN 4)
 (fIfS (fAnd (fTest (f2 dNotIn (fVar 4) (fVar 2))) (fTest (fCall m_fits (fCons (fVar 0) (fCons (fVar 1) (fCons (fVar 2) (fCons (fVar 4) fNil)))))))
 (fExt 3 (fCall self (fCons (fVar 0) (fCons (fVar 1) (fCons (f2 dCat (fVar 2) (fLst (fCons (fVar 4) fNil))) fNil)))))
 fNx))
 (fRet (fVar 3)))))
def m_pairings : Nat → List D → Option D
  | 0 => fun _ => none
  | n + 1 => defN 5 3 (F_pairings (m_pairings n))
theorem ok_pairings (Xk : K.In h) (G : h.Ns mainGlobals mg) (c : He.SaysD fa fn K) : ∃ fd, ∀ n : Nat, OkD P w K mg base (3 + n) (He.ga K "pairings") ["first", "second", "pairs"] fd (spN K (m_pairings n)) := by
  obtain ⟨fd, F⟩ := c.def_ 8 (d := d_pairings) rfl
  obtain ⟨fd_fits, o_fits⟩ := ok_fits (P := P) (w := w) (base := base) Xk G c
  have g_fits := He.glo_ok Xk G (c.fact 7 (f := .glo "fits") rfl)
  have z_range := He.free_ok Xk G (c.fact 30 (f := .free "range") rfl)
  have z_len := He.free_ok Xk G (c.fact 26 (f := .free "len") rfl)
  have z_tuple := He.free_ok Xk G (c.fact 28 (f := .free "tuple") rfl)
  have g_self := He.glo_ok Xk G (c.fact 8 (f := .glo "pairings") rfl)
  have bd := (FunD.bindsN F (ps := ["first", "second", "pairs"]) (fun _ _ _ _ _ _ us hl => match us, hl with | [_, _, _], _ => rfl))
  refine ⟨fd, fun n => ?_⟩
  induction n with
  | zero => exact ⟨fn_none_spN (N := N_pairings) F sc_pairings, bd, F.kp⟩
  | succ n o_self =>
  refine ⟨?_, bd, F.kp⟩
  exact fn_n (N := N_pairings) (ps := ["first", "second", "pairs"]) (kd := kd_pairings) (F := F_pairings (m_pairings n)) F sc_pairings (by decide) (by decide) fun cdv A outer s H E hr => ⟨_,
 (mxs_cons (mx_if (mt_cmp (op_eqK K hr.units) (v2_eq (K := K)) (ME.mv (me_b (call_lenK K) vn_lenS rfl z_len PySem.boot_len (ma_cons (mv_var (pv 2) (by decide)) ma_nil))) (ME.mv (me_ix (ix_K K) (v2_ix (K := K)) (mv_var (pv 0) (by decide)) (ME.mv me_int) (fun _ _ => rfl))) (nomark _))
 (mxs_one (mx_retN (mn_lst (ms_cons (me_ty (call_tupleK K) vn_tupleK rfl z_tuple (by decide +kernel) (ma_cons (mv_var (pv 2) (by decide)) ma_nil)) ms_nil))))
 mxs_nil)
 (mxs_cons (mx_setNE (i := 3) sc_pairings.nd rfl (by first | exact .inl rfl | exact .inr rfl) (mn_lst ms_nil) rfl)
 (mxs_cons (mx_for PassesOwn.never rfl (mi_range1 rfl z_range (ma_cons (ME.mv (me_ix (ix_K K) (v2_ix (K := K)) (mv_var (pv 0) (by decide)) (ME.mv me_int) (fun _ _ => rfl))) ma_nil)) (mg_name (pg_name (i := 4) sc_pairings.nd rfl (by first | exact .inl rfl | exact .inr rfl)) rfl)
 (mxs_one (mx_if (MW.mt (mw_and (mt_cmp (op_notInK K hr.units) (v2_notIn (K := K)) (ME.mv (me_var (pv 4) rfl)) (mv_var (pv 2) (by decide)) (by rfl)) (mw_and1 (mt_val (me_callK K o_fits (hr.mono (by exact Nat.le_trans (by decide) (Nat.le_add_right _ n))) rfl g_fits (ma_cons (mv_var (pv 0) (by decide)) (ma_cons (mv_var (pv 1) (by decide)) (ma_cons (mv_var (pv 2) (by decide)) (ma_cons (ME.mv (me_var (pv 4) rfl)) ma_nil)))))))))
 (mxs_one (mx_extE K 3 (pv 3) (MN.mv (mn_callK K o_self hr rfl g_self (ma_cons (mv_var (pv 0) (by decide)) (ma_cons (mv_var (pv 1) (by decide)) (ma_cons (MN.mv (mn_op op_cat (n2_cat (K := K)) (mv_var (pv 2) (by decide)) (MN.mv (mn_lst (ms_cons (me_var (pv 4) rfl) ms_nil))))) ma_nil))))) rfl))
 mxs_nil)))
 (mxs_one (mx_retM (pv 3) rfl)))))⟩

/-! symmetries -/
abbrev s_symmetries : Stmt := top 15
abbrev N_symmetries : List Str := ["graph"]
def kd_symmetries : Nat → SK := fun i => [SK.wk].getD i .st
theorem sc_symmetries : FnScope N_symmetries ["graph"] (defScope s_symmetries) := ⟨rfl, rfl, rfl, by decide +kernel, rfl, by decide +kernel, by decide +kernel⟩
def F_symmetries : Fs :=
 (fRet (fCall (m_pairings 10) (fCons (fVar 0) (fCons (fVar 0) (fCons (fLst fNil) fNil)))))
def m_symmetries : List D → Option D := defN 1 1 F_symmetries
theorem ok_symmetries (Xk : K.In h) (G : h.Ns mainGlobals mg) (c : He.SaysD fa fn K) : ∃ fd, OkD P w K mg base 14 (He.ga K "symmetries") ["graph"] fd (spN K m_symmetries) := by
  obtain ⟨fd, F⟩ := c.def_ 9 (d := d_symmetries) rfl
  obtain ⟨fd_pairings, o_pairings⟩ := ok_pairings (P := P) (w := w) (base := base) Xk G c
  have o_pairings := o_pairings 10
  have g_pairings := He.glo_ok Xk G (c.fact 8 (f := .glo "pairings") rfl)
  refine ⟨fd, ?_, (FunD.bindsN F (ps := ["graph"]) (fun _ _ _ _ _ _ us hl => match us, hl with | [_], _ => rfl)), F.kp⟩
  exact fn_n (N := N_symmetries) (ps := ["graph"]) (kd := kd_symmetries) (F := F_symmetries) F sc_symmetries (by decide) (by decide) fun cdv A outer s H E hr => ⟨_,
 (mxs_one (mx_retN (mn_callK K o_pairings (hr.mono (by decide)) rfl g_pairings (ma_cons (mv_var (pv 0) (by decide)) (ma_cons (mv_var (pv 0) (by decide)) (ma_cons (MN.mv (mn_lst ms_nil)) ma_nil))))))⟩

/-! all_orders -/
abbrev s_all_orders : Stmt := top 16
abbrev N_all_orders : List Str := ["items", "found", "k", "item", "rest"]
def kd_all_orders : Nat → SK := fun i => [SK.wk, SK.mu, SK.st, SK.st, SK.st].getD i .st
theorem sc_all_orders : FnScope N_all_orders ["items"] (defScope s_all_orders) := ⟨rfl, rfl, rfl, by decide +kernel, rfl, by decide +kernel, by decide +kernel⟩
def F_all_orders (self : List D → Option D) : Fs :=
 (fSeq (fIfS (fTest (f2 dEq (fCall dLenS (fCons (fVar 0) fNil)) (fC (.int 0))))
 (fRet (fLst (fCons (fTup fNil) fNil)))
 fNx)
 (fSeq (fSet 1 (fLst fNil))
 (fSeq (fFor (fun ρ => ((fVar 0) ρ).bind dEnum) (setTup (setCons (setN 2) (setCons (setN 3) setNil)))
 (fExt 1 (fLc (fItems (fCall self (fCons (f2 dCat (fCut (fVar 0) (fun _ => some none) (fPart (fVar 2))) (fCut (fVar 0) (fPart (f2 dAdd (fVar 2) (fC (.int 1)))) (fun _ => some none))) fNil))) (setN 4) (fun _ => some true) (fTup (fCons (fVar 3) (fStar (fVar 4) fNil))) [4])))
 (fRet (fVar 1)))))
def m_all_orders : Nat → List D → Option D
  | 0 => fun _ => none
  | n + 1 => defN 5 1 (F_all_orders (m_all_orders n))
theorem ok_all_orders (Xk : K.In h) (G : h.Ns mainGlobals mg) (c : He.SaysD fa fn K) : ∃ fd, ∀ n : Nat, OkD P w K mg base (0 + n) (He.ga K "all_orders") ["items"] fd (spN K (m_all_orders n)) := by
  obtain ⟨fd, F⟩ := c.def_ 10 (d := d_all_orders) rfl
  have z_enumerate := He.free_ok Xk G (c.fact 31 (f := .free "enumerate") rfl)
  have z_len := He.free_ok Xk G (c.fact 26 (f := .free "len") rfl)
  have g_self := He.glo_ok Xk G (c.fact 10 (f := .glo "all_orders") rfl)
  have bd := (FunD.bindsN F (ps := ["items"]) (fun _ _ _ _ _ _ us hl => match us, hl with | [_], _ => rfl))
  refine ⟨fd, fun n => ?_⟩
  induction n with
  | zero => exact ⟨fn_none_spN (N := N_all_orders) F sc_all_orders, bd, F.kp⟩
  | succ n o_self =>
  refine ⟨?_, bd, F.kp⟩
  exact fn_n (N := N_all_orders) (ps := ["items"]) (kd := kd_all_orders) (F := F_all_orders (m_all_orders n)) F sc_all_orders (by decide) (by decide) fun cdv A outer s H E hr => ⟨_,
 (mxs_cons (mx_if (mt_cmp (op_eqK K hr.units) (v2_eq (K := K)) (ME.mv (me_b (call_lenK K) vn_lenS rfl z_len PySem.boot_len (ma_cons (mv_var (pv 0) (by decide)) ma_nil))) (ME.mv me_int) (nomark _))
 (mxs_one (mx_retN (mn_lst (ms_cons (me_tup ms_nil) ms_nil))))
 mxs_nil)
 (mxs_cons (mx_setNE (i := 1) sc_all_orders.nd rfl (by first | exact .inl rfl | exact .inr rfl) (mn_lst ms_nil) rfl)
 (mxs_cons (mx_for PassesOwn.never rfl (mi_enumW K rfl z_enumerate (pv 0) rfl) (mg_tupK K rfl (mgs_cons (mg_name (pg_name (i := 2) sc_all_orders.nd rfl (by first | exact .inl rfl | exact .inr rfl)) rfl) (mgs_cons (mg_name (pg_name (i := 3) sc_all_orders.nd rfl (by first | exact .inl rfl | exact .inr rfl)) rfl) mgs_nil)))
 (mxs_one (mx_extE K 1 (pv 1) (MN.mv (mn_lc (own := [("rest", 4)]) rfl sc_all_orders.nd  (mi_seqVK K (MN.mv (mn_callK K o_self hr rfl g_self (ma_cons (MN.mv (mn_op op_cat (n2_cat (K := K)) (MN.mv (mn_cutK K (mv_var (pv 0) (by decide)) mo_none (mo_some (ME.mv (me_var (pv 2) rfl))))) (MN.mv (mn_cutK K (mv_var (pv 0) (by decide)) (mo_some (ME.mv (me_op (op_addK K) (v2_add (K := K)) (ME.mv (me_var (pv 2) rfl)) (ME.mv me_int)))) mo_none)))) ma_nil)))) (blkOk_by (own := [("rest", 4)]) (N := N_all_orders) (sc := (defScope s_all_orders)) (by decide +kernel)) (fun _ _ _ _ _ => (mg_name (pg_name (i := 4) sc_all_orders.nd rfl (by first | exact .inl rfl | exact .inr rfl)) rfl)) (fun _ _ _ _ _ => mts_nil) (fun _ _ _ _ _ => (me_tup (ms_cons (me_var (pv 3) rfl) (ms_star K (me_var (pv 4) rfl) ms_nil)))) (by decide))) rfl)))
 (mxs_one (mx_retM (pv 1) rfl)))))⟩

/-! canonical -/
abbrev s_canonical : Stmt := top 17
abbrev N_canonical : List Str := ["graph", "order"]
def kd_canonical : Nat → SK := fun i => [SK.wk, SK.st].getD i .st
theorem sc_canonical : FnScope N_canonical ["graph"] (defScope s_canonical) := ⟨rfl, rfl, rfl, by decide +kernel, rfl, by decide +kernel, by decide +kernel⟩
def F_canonical : Fs :=
 (fRet (fCall dMin (fCons (fLc (fItems (fCall (m_all_orders 10) (fCons (f1 dLstRg (f2 dIx (fVar 0) (fC (.int 0)))) fNil))) (setN 1) (fun _ => some true) (fCall m_renamed (fCons (fVar 0) (fCons (fVar 1) fNil))) [1]) fNil)))
def m_canonical : List D → Option D := defF 2 1 F_canonical
theorem ok_canonical (Xk : K.In h) (G : h.Ns mainGlobals mg) (c : He.SaysD fa fn K) : ∃ fd, OkD P w K mg base 11 (He.ga K "canonical") ["graph"] fd (spD K m_canonical) := by
  obtain ⟨fd, F⟩ := c.def_ 11 (d := d_canonical) rfl
  obtain ⟨fd_all_orders, o_all_orders⟩ := ok_all_orders (P := P) (w := w) (base := base) Xk G c
  have o_all_orders := o_all_orders 10
  have g_all_orders := He.glo_ok Xk G (c.fact 10 (f := .glo "all_orders") rfl)
  obtain ⟨fd_renamed, o_renamed⟩ := ok_renamed (P := P) (w := w) (base := base) Xk G c
  have g_renamed := He.glo_ok Xk G (c.fact 4 (f := .glo "renamed") rfl)
  have z_list := He.free_ok Xk G (c.fact 29 (f := .free "list") rfl)
  have z_range := He.free_ok Xk G (c.fact 30 (f := .free "range") rfl)
  have z_min := He.free_ok Xk G (c.fact 24 (f := .free "min") rfl)
  refine ⟨fd, ?_, (FunD.bindsN F (ps := ["graph"]) (fun _ _ _ _ _ _ us hl => match us, hl with | [_], _ => rfl)), F.kp⟩
  exact fn_d (N := N_canonical) (ps := ["graph"]) (kd := kd_canonical) (F := F_canonical) F sc_canonical (by decide) (by decide) fun cdv A outer s H E hr => ⟨_,
 (mxs_one (mx_ret (me_b (cr_minK K rfl hr.units) vn_min rfl z_min (by decide +kernel) (ma_cons (MN.mv (mn_lc (own := [("order", 1)]) rfl sc_canonical.nd  (mi_seqVK K (MN.mv (mn_callK K o_all_orders (hr.mono (by decide)) rfl g_all_orders (ma_cons (MN.mv (mn_lstRg rfl z_list rfl z_range (ME.mv (me_ix (ix_K K) (v2_ix (K := K)) (mv_var (pv 0) (by decide)) (ME.mv me_int) (fun _ _ => rfl))))) ma_nil)))) (blkOk_by (own := [("order", 1)]) (N := N_canonical) (sc := (defScope s_canonical)) (by decide +kernel)) (fun _ _ _ _ _ => (mg_name (pg_name (i := 1) sc_canonical.nd rfl (by first | exact .inl rfl | exact .inr rfl)) rfl)) (fun _ _ _ _ _ => mts_nil) (fun _ _ _ _ _ => (me_callK K o_renamed (hr.mono (by decide)) rfl g_renamed (ma_cons (mv_var (pv 0) (by decide)) (ma_cons (ME.mv (me_var (pv 1) rfl)) ma_nil)))) (by decide))) ma_nil))))⟩

/-! _law_pool -/
abbrev s__law_pool : Stmt := top 19
abbrev N__law_pool : List Str := ["script", "salt", "cell"]
def kd__law_pool : Nat → SK := fun i => [SK.fz, SK.st, SK.st].getD i .st
theorem sc__law_pool : FnScope N__law_pool ["script"] (defScope s__law_pool) := ⟨rfl, rfl, rfl, by decide +kernel, rfl, by decide +kernel, by decide +kernel⟩
def F__law_pool : Fs :=
 (fSeq (fSet 1 (fC (.int 7)))
 (fSeq (fFor (fItems (f1 isL (fCut (fVar 0) (fun _ => some none) (fPart (fC (.int 63)))))) (setN 2)
 (fSet 1 (f2 dMod (fCall dInt (fCons (f2 dAdd (f2 dMul (fVar 1) (fC (.int 31))) (fVar 2)) fNil)) (fC (.int 1000003)))))
 (fRet (fLst (fCons (f1 isL (fVar 0)) (fCons (fC (.int 0)) (fCons (fC (.int 0)) (fCons (fC (.int 0)) (fCons (fVar 1) fNil)))))))))
def m__law_pool : List D → Option D := defN 3 1 F__law_pool
theorem ok__law_pool (Xk : K.In h) (G : h.Ns mainGlobals mg) (c : He.SaysD fa fn K) : ∃ fd, OkD P w K mg base 1 (He.ga K "_law_pool") ["script"] fd (spZ K m__law_pool) := by
  obtain ⟨fd, F⟩ := c.def_ 12 (d := d__law_pool) rfl
  have z_list := He.free_ok Xk G (c.fact 29 (f := .free "list") rfl)
  have z_int := He.free_ok Xk G (c.fact 34 (f := .free "int") rfl)
  refine ⟨fd, ?_, (FunD.bindsN F (ps := ["script"]) (fun _ _ _ _ _ _ us hl => match us, hl with | [_], _ => rfl)), F.kp⟩
  exact fn_z (N := N__law_pool) (ps := ["script"]) (kd := kd__law_pool) (F := F__law_pool) F sc__law_pool (by decide) rfl rfl fun cdv A outer s H E hr => ⟨_,
 (mxs_cons (mx_setE (i := 1) sc__law_pool.nd rfl (by first | exact .inl rfl | exact .inr rfl) me_int rfl)
 (mxs_cons (mx_for PassesOwn.never rfl (mi_seqK K (MN.me (mn_cutZ K (pv 0) rfl mo_none (mo_some (ME.mv me_int))))) (mg_name (pg_name (i := 2) sc__law_pool.nd rfl (by first | exact .inl rfl | exact .inr rfl)) rfl)
 (mxs_one (mx_setE (i := 1) sc__law_pool.nd rfl (by first | exact .inl rfl | exact .inr rfl) (me_op op_mod (v2_mod (K := K)) (ME.mv (me_ty call_int1 vn_int rfl z_int (by decide +kernel) (ma_cons (ME.mv (me_op (op_addK K) (v2_add (K := K)) (ME.mv (me_op op_mul (v2_mul (K := K)) (ME.mv (me_var (pv 1) rfl)) (ME.mv me_int))) (ME.mv (me_var (pv 2) rfl)))) ma_nil))) (ME.mv me_int)) rfl)))
 (mxs_one (mx_retN (mn_lst (ms_cons (MN.me (mn_listZ K rfl z_list (pv 0) rfl)) (ms_cons me_int (ms_cons me_int (ms_cons me_int (ms_cons (me_var (pv 1) rfl) ms_nil))))))))))⟩

/-! _law_same -/
abbrev s__law_same : Stmt := top 22
abbrev N__law_same : List Str := ["actual", "due", "k"]
def kd__law_same : Nat → SK := fun i => [SK.wk, SK.wk, SK.st].getD i .st
theorem sc__law_same : FnScope N__law_same ["actual", "due"] (defScope s__law_same) := ⟨rfl, rfl, rfl, by decide +kernel, rfl, by decide +kernel, by decide +kernel⟩
def F__law_same (self : List D → Option D) : Fs :=
 (fSeq (fIfS (fOr (fTest (f1 (dIsa "tuple") (fVar 1))) (fTest (f1 (dIsa "list") (fVar 1))))
 (fSeq (fIfS (fOr (fTest (f2 dNe (f1 (dIsa "tuple") (fVar 1)) (f1 (dIsa "tuple") (fVar 0)))) (fTest (f2 dNe (f1 (dIsa "list") (fVar 1)) (f1 (dIsa "list") (fVar 0)))))
 (fRet (fC (.bool false)))
 fNx)
 (fSeq (fIfS (fTest (f2 dNe (fCall dLenS (fCons (fVar 0) fNil)) (fCall dLenS (fCons (fVar 1) fNil))))
 (fRet (fC (.bool false)))
 fNx)
 (fRet (f2 dEq (fCall dLenS (fCons (fLc (fun ρ => ((fCons (fCall dLenS (fCons (fVar 1) fNil)) fNil) ρ).bind rng1) (setN 2) (fNot (fTest (fCall self (fCons (f2 dIx (fVar 0) (fVar 2)) (fCons (f2 dIx (fVar 1) (fVar 2)) fNil))))) (fVar 2) [2]) fNil)) (fC (.int 0))))))
 fNx)
 (fSeq (fIfS (fTest (f2 dIsN (fVar 1) (fC .none)))
 (fRet (f2 dIsN (fVar 0) (fC .none)))
 fNx)
 (fSeq (fIfS (fOr (fTest (f1 (dIsa "bool") (fVar 1))) (fTest (f1 (dIsa "bool") (fVar 0))))
 (fRet (fAndV (f1 (dIsa "bool") (fVar 1)) (fAndV (f1 (dIsa "bool") (fVar 0)) (f2 dEq (fVar 0) (fVar 1)))))
 fNx)
 (fSeq (fIfS (fTest (f1 (dIsa "int") (fVar 1)))
 (fRet (fAndV (f1 (dIsa "int") (fVar 0)) (f2 dEq (fVar 0) (fVar 1))))
 fNx)
 (fRet (fAndV (f1 (dIsa "str") (fVar 0)) (f2 dEq (fVar 0) (fVar 1))))))))
def m__law_same : Nat → List D → Option D
  | 0 => fun _ => none
  | n + 1 => defF 3 2 (F__law_same (m__law_same n))
theorem ok__law_same (Xk : K.In h) (G : h.Ns mainGlobals mg) (c : He.SaysD fa fn K) : ∃ fd, ∀ n : Nat, OkD P w K mg base (0 + n) (He.ga K "_law_same") ["actual", "due"] fd (spD K (m__law_same n)) := by
  obtain ⟨fd, F⟩ := c.def_ 15 (d := d__law_same) rfl
  have z_isinstance := He.free_ok Xk G (c.fact 35 (f := .free "isinstance") rfl)
  have z_str := He.free_ok Xk G (c.fact 37 (f := .free "str") rfl)
  have z_int := He.free_ok Xk G (c.fact 34 (f := .free "int") rfl)
  have z_bool := He.free_ok Xk G (c.fact 36 (f := .free "bool") rfl)
  have z_list := He.free_ok Xk G (c.fact 29 (f := .free "list") rfl)
  have z_tuple := He.free_ok Xk G (c.fact 28 (f := .free "tuple") rfl)
  have z_len := He.free_ok Xk G (c.fact 26 (f := .free "len") rfl)
  have z_range := He.free_ok Xk G (c.fact 30 (f := .free "range") rfl)
  have g_self := He.glo_ok Xk G (c.fact 15 (f := .glo "_law_same") rfl)
  have bd := (FunD.bindsN F (ps := ["actual", "due"]) (fun _ _ _ _ _ _ us hl => match us, hl with | [_, _], _ => rfl))
  refine ⟨fd, fun n => ?_⟩
  induction n with
  | zero => exact ⟨fn_none_spD (N := N__law_same) F sc__law_same, bd, F.kp⟩
  | succ n o_self =>
  refine ⟨?_, bd, F.kp⟩
  exact fn_d (N := N__law_same) (ps := ["actual", "due"]) (kd := kd__law_same) (F := F__law_same (m__law_same n)) F sc__law_same (by decide) (by decide) fun cdv A outer s H E hr => ⟨_,
 (mxs_cons (mx_if (MW.mt (mw_or (mt_val (me_isi K (T := "tuple") rfl z_isinstance rfl z_tuple (by decide +kernel) (mv_var (pv 1) (by decide)))) (mw_or1 (mt_val (me_isi K (T := "list") rfl z_isinstance rfl z_list (by decide +kernel) (mv_var (pv 1) (by decide)))))))
 (mxs_cons (mx_if (MW.mt (mw_or (mt_cmp (op_neK K hr.units) (v2_ne (K := K)) (ME.mv (me_isi K (T := "tuple") rfl z_isinstance rfl z_tuple (by decide +kernel) (mv_var (pv 1) (by decide)))) (ME.mv (me_isi K (T := "tuple") rfl z_isinstance rfl z_tuple (by decide +kernel) (mv_var (pv 0) (by decide)))) (nomark _)) (mw_or1 (mt_cmp (op_neK K hr.units) (v2_ne (K := K)) (ME.mv (me_isi K (T := "list") rfl z_isinstance rfl z_list (by decide +kernel) (mv_var (pv 1) (by decide)))) (ME.mv (me_isi K (T := "list") rfl z_isinstance rfl z_list (by decide +kernel) (mv_var (pv 0) (by decide)))) (nomark _)))))
 (mxs_one (mx_ret me_bl))
 mxs_nil)
 (mxs_cons (mx_if (mt_cmp (op_neK K hr.units) (v2_ne (K := K)) (ME.mv (me_b (call_lenK K) vn_lenS rfl z_len PySem.boot_len (ma_cons (mv_var (pv 0) (by decide)) ma_nil))) (ME.mv (me_b (call_lenK K) vn_lenS rfl z_len PySem.boot_len (ma_cons (mv_var (pv 1) (by decide)) ma_nil))) (nomark _))
 (mxs_one (mx_ret me_bl))
 mxs_nil)
 (mxs_one (mx_ret (me_cmp (op_eqK K hr.units) (v2_eq (K := K)) (ME.mv (me_b (call_lenK K) vn_lenS rfl z_len PySem.boot_len (ma_cons (MN.mv (mn_lc (own := [("k", 2)]) rfl sc__law_same.nd  (mi_range1 rfl z_range (ma_cons (ME.mv (me_b (call_lenK K) vn_lenS rfl z_len PySem.boot_len (ma_cons (mv_var (pv 1) (by decide)) ma_nil))) ma_nil)) (blkOk_by (own := [("k", 2)]) (N := N__law_same) (sc := (defScope s__law_same)) (by decide +kernel)) (fun _ _ _ _ _ => (mg_name (pg_name (i := 2) sc__law_same.nd rfl (by first | exact .inl rfl | exact .inr rfl)) rfl)) (fun _ _ _ _ _ => (mts_one (mt_not (mt_val (me_callK K o_self hr rfl g_self (ma_cons (ME.mv (me_ix (ix_K K) (v2_ix (K := K)) (mv_var (pv 0) (by decide)) (ME.mv (me_var (pv 2) rfl)) (fun _ _ => rfl))) (ma_cons (ME.mv (me_ix (ix_K K) (v2_ix (K := K)) (mv_var (pv 1) (by decide)) (ME.mv (me_var (pv 2) rfl)) (fun _ _ => rfl))) ma_nil))))))) (fun _ _ _ _ _ => (me_var (pv 2) rfl)) (by decide))) ma_nil))) (ME.mv me_int) (nomark _))))))
 mxs_nil)
 (mxs_cons (mx_if (mt_cmp op_isN (v2_isN (K := K)) (mv_var (pv 1) (by decide)) (ME.mv me_non) (nomark _))
 (mxs_one (mx_ret (me_cmp op_isN (v2_isN (K := K)) (mv_var (pv 0) (by decide)) (ME.mv me_non) (nomark _))))
 mxs_nil)
 (mxs_cons (mx_if (MW.mt (mw_or (mt_val (me_isi K (T := "bool") rfl z_isinstance rfl z_bool (by decide +kernel) (mv_var (pv 1) (by decide)))) (mw_or1 (mt_val (me_isi K (T := "bool") rfl z_isinstance rfl z_bool (by decide +kernel) (mv_var (pv 0) (by decide)))))))
 (mxs_one (mx_ret (me_and (me_isi K (T := "bool") rfl z_isinstance rfl z_bool (by decide +kernel) (mv_var (pv 1) (by decide))) (me_and (me_isi K (T := "bool") rfl z_isinstance rfl z_bool (by decide +kernel) (mv_var (pv 0) (by decide))) (me_one (me_cmp (op_eqK K hr.units) (v2_eq (K := K)) (mv_var (pv 0) (by decide)) (mv_var (pv 1) (by decide)) (nomark _)))))))
 mxs_nil)
 (mxs_cons (mx_if (mt_val (me_isi K (T := "int") rfl z_isinstance rfl z_int (by decide +kernel) (mv_var (pv 1) (by decide))))
 (mxs_one (mx_ret (me_and (me_isi K (T := "int") rfl z_isinstance rfl z_int (by decide +kernel) (mv_var (pv 0) (by decide))) (me_one (me_cmp (op_eqK K hr.units) (v2_eq (K := K)) (mv_var (pv 0) (by decide)) (mv_var (pv 1) (by decide)) (nomark _))))))
 mxs_nil)
 (mxs_one (mx_ret (me_and (me_isi K (T := "str") rfl z_isinstance rfl z_str (by decide +kernel) (mv_var (pv 0) (by decide))) (me_one (me_cmp (op_eqK K hr.units) (v2_eq (K := K)) (mv_var (pv 0) (by decide)) (mv_var (pv 1) (by decide)) (nomark _))))))))))⟩

/-! _law_spread -/
abbrev s__law_spread : Stmt := top 20
abbrev N__law_spread : List Str := ["cell", "blended", "whole_sum", "k"]
def kd__law_spread : Nat → SK := fun i => [SK.wk, SK.st, SK.st, SK.st].getD i .st
theorem sc__law_spread : FnScope N__law_spread ["cell"] (defScope s__law_spread) := ⟨rfl, rfl, rfl, by decide +kernel, rfl, by decide +kernel, by decide +kernel⟩
def F__law_spread : Fs :=
 (fSeq (fSet 1 (f2 dMod (fCall dInt (fCons (fVar 0) fNil)) (fC (.int 2147483647))))
 (fSeq (fSet 2 (fC (.int 1)))
 (fSeq (fFor (fun ρ => ((fCons (fC (.int 4)) fNil) ρ).bind rng1) (setN 3)
 (fSeq (fSet 1 (f2 dMod (fCall dInt (fCons (f2 dAdd (f2 dAdd (f2 dMul (fVar 1) (fC (.int 48271))) (fC (.int 12345))) (fVar 3)) fNil)) (fC (.int 2147483647))))
 (fSet 2 (f2 dAdd (f2 dMul (fVar 2) (fC (.int 2147483647))) (fVar 1)))))
 (fRet (fVar 2)))))
def m__law_spread : List D → Option D := defF 4 1 F__law_spread
theorem ok__law_spread (Xk : K.In h) (G : h.Ns mainGlobals mg) (c : He.SaysD fa fn K) : ∃ fd, OkD P w K mg base 1 (He.ga K "_law_spread") ["cell"] fd (spD K m__law_spread) := by
  obtain ⟨fd, F⟩ := c.def_ 13 (d := d__law_spread) rfl
  have z_range := He.free_ok Xk G (c.fact 30 (f := .free "range") rfl)
  have z_int := He.free_ok Xk G (c.fact 34 (f := .free "int") rfl)
  refine ⟨fd, ?_, (FunD.bindsN F (ps := ["cell"]) (fun _ _ _ _ _ _ us hl => match us, hl with | [_], _ => rfl)), F.kp⟩
  exact fn_d (N := N__law_spread) (ps := ["cell"]) (kd := kd__law_spread) (F := F__law_spread) F sc__law_spread (by decide) (by decide) fun cdv A outer s H E hr => ⟨_,
 (mxs_cons (mx_setE (i := 1) sc__law_spread.nd rfl (by first | exact .inl rfl | exact .inr rfl) (me_op op_mod (v2_mod (K := K)) (ME.mv (me_ty call_int1 vn_int rfl z_int (by decide +kernel) (ma_cons (mv_var (pv 0) (by decide)) ma_nil))) (ME.mv me_int)) rfl)
 (mxs_cons (mx_setE (i := 2) sc__law_spread.nd rfl (by first | exact .inl rfl | exact .inr rfl) me_int rfl)
 (mxs_cons (mx_for PassesOwn.never rfl (mi_range1 rfl z_range (ma_cons (ME.mv me_int) ma_nil)) (mg_name (pg_name (i := 3) sc__law_spread.nd rfl (by first | exact .inl rfl | exact .inr rfl)) rfl)
 (mxs_cons (mx_setE (i := 1) sc__law_spread.nd rfl (by first | exact .inl rfl | exact .inr rfl) (me_op op_mod (v2_mod (K := K)) (ME.mv (me_ty call_int1 vn_int rfl z_int (by decide +kernel) (ma_cons (ME.mv (me_op (op_addK K) (v2_add (K := K)) (ME.mv (me_op (op_addK K) (v2_add (K := K)) (ME.mv (me_op op_mul (v2_mul (K := K)) (ME.mv (me_var (pv 1) rfl)) (ME.mv me_int))) (ME.mv me_int))) (ME.mv (me_var (pv 3) rfl)))) ma_nil))) (ME.mv me_int)) rfl)
 (mxs_one (mx_setE (i := 2) sc__law_spread.nd rfl (by first | exact .inl rfl | exact .inr rfl) (me_op (op_addK K) (v2_add (K := K)) (ME.mv (me_op op_mul (v2_mul (K := K)) (ME.mv (me_var (pv 2) rfl)) (ME.mv me_int))) (ME.mv (me_var (pv 1) rfl))) rfl))))
 (mxs_one (mx_ret (me_var (pv 2) rfl))))))⟩

/-! _law_draw -/
abbrev s__law_draw : Stmt := top 21
abbrev N__law_draw : List Str := ["pool", "many", "value", "cell", "blended"]
def kd__law_draw : Nat → SK := fun i => [SK.mp, SK.st, SK.st, SK.st, SK.st].getD i .st
theorem sc__law_draw : FnScope N__law_draw ["pool", "many"] (defScope s__law_draw) := ⟨rfl, rfl, rfl, by decide +kernel, rfl, by decide +kernel, by decide +kernel⟩
def F__law_draw : Fs :=
 (fSeq (fIfS (fAnd (fTest (f2 dLe (f2 dIx (fVar 0) (fC (.int 2))) (fC (.int 0)))) (fTest (f2 dLt (f2 dIx (fVar 0) (fC (.int 1))) (fCall dLenS (fCons (f2 dIx (fVar 0) (fC (.int 0))) fNil)))))
 (fSeq (fSet 3 (f2 dIx (f2 dIx (fVar 0) (fC (.int 0))) (f2 dIx (fVar 0) (fC (.int 1)))))
 (fSeq (fSetL 0 (fC (.int 1)) (f2 dAdd (f2 dIx (fVar 0) (fC (.int 1))) (fC (.int 1))))
 (fSeq (fSetL 0 (fC (.int 2)) (fVar 3))
 (fIfS (fTest (f2 dLt (fVar 3) (fC (.int 1000000000000000000))))
 (fSetL 0 (fC (.int 2)) (fCall m__law_spread (fCons (fVar 3) fNil)))
 fNx))))
 fNx)
 (fSeq (fSetL 0 (fC (.int 3)) (f2 dAdd (f2 dIx (fVar 0) (fC (.int 3))) (fC (.int 1))))
 (fSeq (fIfS (fTest (f2 dLe (f2 dIx (fVar 0) (fC (.int 2))) (fC (.int 0))))
 (fSeq (fSet 4 (f2 dMod (fCall dInt (fCons (f2 dAdd (f2 dAdd (f2 dMul (f2 dIx (fVar 0) (fC (.int 4))) (fC (.int 48271))) (f2 dMul (f2 dIx (fVar 0) (fC (.int 3))) (fC (.int 69621)))) (fC (.int 1))) fNil)) (fC (.int 2147483647))))
 (fSeq (fSet 4 (f2 dMod (fCall dInt (fCons (f2 dAdd (f2 dMul (fVar 4) (fC (.int 16807))) (f2 dIx (fVar 0) (fC (.int 3)))) fNil)) (fC (.int 2147483629))))
 (fRet (f2 dMod (f2 dDiv (fVar 4) (fC (.int 5))) (fVar 1)))))
 fNx)
 (fSeq (fSet 2 (f2 dMod (fCall dInt (fCons (f2 dIx (fVar 0) (fC (.int 2))) fNil)) (fVar 1)))
 (fSeq (fSetL 0 (fC (.int 2)) (f2 dDiv (f2 dIx (fVar 0) (fC (.int 2))) (fVar 1)))
 (fRet (fVar 2)))))))
def m__law_draw : List D → Option (D × D) := defP 5 2 F__law_draw
theorem ok__law_draw (Xk : K.In h) (G : h.Ns mainGlobals mg) (c : He.SaysD fa fn K) : ∃ fd, OkD P w K mg base 2 (He.ga K "_law_draw") ["pool", "many"] fd (spP K m__law_draw) := by
  obtain ⟨fd, F⟩ := c.def_ 14 (d := d__law_draw) rfl
  obtain ⟨fd__law_spread, o__law_spread⟩ := ok__law_spread (P := P) (w := w) (base := base) Xk G c
  have g__law_spread := He.glo_ok Xk G (c.fact 13 (f := .glo "_law_spread") rfl)
  have z_int := He.free_ok Xk G (c.fact 34 (f := .free "int") rfl)
  have z_len := He.free_ok Xk G (c.fact 26 (f := .free "len") rfl)
  refine ⟨fd, ?_, (FunD.bindsN F (ps := ["pool", "many"]) (fun _ _ _ _ _ _ us hl => match us, hl with | [_, _], _ => rfl)), F.kp⟩
  exact fn_p (N := N__law_draw) (ps := ["pool", "many"]) (kd := kd__law_draw) (F := F__law_draw) F sc__law_draw (by decide) rfl (by decide) fun cdv A outer s H E hr => ⟨_,
 (mxs_cons (mx_if (MW.mt (mw_and (mt_cmp op_le (v2_le (K := K)) (ME.mv (me_ix (ix_K K) (v2_ix (K := K)) (mv_var (pv 0) (by decide)) (ME.mv me_int) (fun _ _ => rfl))) (ME.mv me_int) (nomark _)) (mw_and1 (mt_cmp op_lt (v2_lt (K := K)) (ME.mv (me_ix (ix_K K) (v2_ix (K := K)) (mv_var (pv 0) (by decide)) (ME.mv me_int) (fun _ _ => rfl))) (ME.mv (me_b (call_lenK K) vn_lenS rfl z_len PySem.boot_len (ma_cons (ME.mv (me_ix (ix_K K) (v2_ix (K := K)) (mv_var (pv 0) (by decide)) (ME.mv me_int) (fun _ _ => rfl))) ma_nil))) (nomark _)))))
 (mxs_cons (mx_setE (i := 3) sc__law_draw.nd rfl (by first | exact .inl rfl | exact .inr rfl) (me_ix (ix_K K) (v2_ix (K := K)) (ME.mv (me_ix (ix_K K) (v2_ix (K := K)) (mv_var (pv 0) (by decide)) (ME.mv me_int) (fun _ _ => rfl))) (ME.mv (me_ix (ix_K K) (v2_ix (K := K)) (mv_var (pv 0) (by decide)) (ME.mv me_int) (fun _ _ => rfl))) (fun _ _ => rfl)) rfl)
 (mxs_cons (mx_setL (pv 0) rfl (ME.mv me_int) (me_op (op_addK K) (v2_add (K := K)) (ME.mv (me_ix (ix_K K) (v2_ix (K := K)) (mv_var (pv 0) (by decide)) (ME.mv me_int) (fun _ _ => rfl))) (ME.mv me_int)))
 (mxs_cons (mx_setL (pv 0) rfl (ME.mv me_int) (me_var (pv 3) rfl))
 (mxs_one (mx_if (mt_cmp op_lt (v2_lt (K := K)) (ME.mv (me_var (pv 3) rfl)) (ME.mv me_int) (nomark _))
 (mxs_one (mx_setL (pv 0) rfl (ME.mv me_int) (me_callK K o__law_spread (hr.mono (by decide)) rfl g__law_spread (ma_cons (ME.mv (me_var (pv 3) rfl)) ma_nil))))
 mxs_nil)))))
 mxs_nil)
 (mxs_cons (mx_setL (pv 0) rfl (ME.mv me_int) (me_op (op_addK K) (v2_add (K := K)) (ME.mv (me_ix (ix_K K) (v2_ix (K := K)) (mv_var (pv 0) (by decide)) (ME.mv me_int) (fun _ _ => rfl))) (ME.mv me_int)))
 (mxs_cons (mx_if (mt_cmp op_le (v2_le (K := K)) (ME.mv (me_ix (ix_K K) (v2_ix (K := K)) (mv_var (pv 0) (by decide)) (ME.mv me_int) (fun _ _ => rfl))) (ME.mv me_int) (nomark _))
 (mxs_cons (mx_setE (i := 4) sc__law_draw.nd rfl (by first | exact .inl rfl | exact .inr rfl) (me_op op_mod (v2_mod (K := K)) (ME.mv (me_ty call_int1 vn_int rfl z_int (by decide +kernel) (ma_cons (ME.mv (me_op (op_addK K) (v2_add (K := K)) (ME.mv (me_op (op_addK K) (v2_add (K := K)) (ME.mv (me_op op_mul (v2_mul (K := K)) (ME.mv (me_ix (ix_K K) (v2_ix (K := K)) (mv_var (pv 0) (by decide)) (ME.mv me_int) (fun _ _ => rfl))) (ME.mv me_int))) (ME.mv (me_op op_mul (v2_mul (K := K)) (ME.mv (me_ix (ix_K K) (v2_ix (K := K)) (mv_var (pv 0) (by decide)) (ME.mv me_int) (fun _ _ => rfl))) (ME.mv me_int))))) (ME.mv me_int))) ma_nil))) (ME.mv me_int)) rfl)
 (mxs_cons (mx_setE (i := 4) sc__law_draw.nd rfl (by first | exact .inl rfl | exact .inr rfl) (me_op op_mod (v2_mod (K := K)) (ME.mv (me_ty call_int1 vn_int rfl z_int (by decide +kernel) (ma_cons (ME.mv (me_op (op_addK K) (v2_add (K := K)) (ME.mv (me_op op_mul (v2_mul (K := K)) (ME.mv (me_var (pv 4) rfl)) (ME.mv me_int))) (ME.mv (me_ix (ix_K K) (v2_ix (K := K)) (mv_var (pv 0) (by decide)) (ME.mv me_int) (fun _ _ => rfl))))) ma_nil))) (ME.mv me_int)) rfl)
 (mxs_one (mx_ret (me_op op_mod (v2_mod (K := K)) (ME.mv (me_op op_fdiv (v2_div (K := K)) (ME.mv (me_var (pv 4) rfl)) (ME.mv me_int))) (ME.mv (me_var (pv 1) rfl)))))))
 mxs_nil)
 (mxs_cons (mx_setE (i := 2) sc__law_draw.nd rfl (by first | exact .inl rfl | exact .inr rfl) (me_op op_mod (v2_mod (K := K)) (ME.mv (me_ty call_int1 vn_int rfl z_int (by decide +kernel) (ma_cons (ME.mv (me_ix (ix_K K) (v2_ix (K := K)) (mv_var (pv 0) (by decide)) (ME.mv me_int) (fun _ _ => rfl))) ma_nil))) (ME.mv (me_var (pv 1) rfl))) rfl)
 (mxs_cons (mx_setL (pv 0) rfl (ME.mv me_int) (me_op op_fdiv (v2_div (K := K)) (ME.mv (me_ix (ix_K K) (v2_ix (K := K)) (mv_var (pv 0) (by decide)) (ME.mv me_int) (fun _ _ => rfl))) (ME.mv (me_var (pv 1) rfl))))
 (mxs_one (mx_ret (me_var (pv 2) rfl))))))))⟩

/-! _law_made -/
abbrev s__law_made : Stmt := top 23
abbrev N__law_made : List Str := ["n", "edges", "u", "v"]
def kd__law_made : Nat → SK := fun i => [SK.wk, SK.wk, SK.st, SK.st].getD i .st
theorem sc__law_made : FnScope N__law_made ["n", "edges"] (defScope s__law_made) := ⟨rfl, rfl, rfl, by decide +kernel, rfl, by decide +kernel, by decide +kernel⟩
def F__law_made : Fs :=
 (fRet (fTup (fCons (f1 notL (fVar 0)) (fCons (fCall dTuple (fCons (f1 dSortSet (fLc (fItems (fVar 1)) (setTup (setCons (setN 2) (setCons (setN 3) setNil))) (fun _ => some true) (fTup (fCons (fCall dMin2 (fCons (fVar 2) (fCons (fVar 3) fNil))) (fCons (fCall dMax2 (fCons (fVar 2) (fCons (fVar 3) fNil))) fNil))) [2, 3])) fNil)) fNil))))
def m__law_made : List D → Option D := defF 4 2 F__law_made
theorem ok__law_made (Xk : K.In h) (G : h.Ns mainGlobals mg) (c : He.SaysD fa fn K) : ∃ fd, OkD P w K mg base 1 (He.ga K "_law_made") ["n", "edges"] fd (spD K m__law_made) := by
  obtain ⟨fd, F⟩ := c.def_ 16 (d := d__law_made) rfl
  have z_max := He.free_ok Xk G (c.fact 25 (f := .free "max") rfl)
  have z_min := He.free_ok Xk G (c.fact 24 (f := .free "min") rfl)
  have z_sorted := He.free_ok Xk G (c.fact 27 (f := .free "sorted") rfl)
  have z_set := He.free_ok Xk G (c.fact 33 (f := .free "set") rfl)
  have z_tuple := He.free_ok Xk G (c.fact 28 (f := .free "tuple") rfl)
  refine ⟨fd, ?_, (FunD.bindsN F (ps := ["n", "edges"]) (fun _ _ _ _ _ _ us hl => match us, hl with | [_, _], _ => rfl)), F.kp⟩
  exact fn_d (N := N__law_made) (ps := ["n", "edges"]) (kd := kd__law_made) (F := F__law_made) F sc__law_made (by decide) (by decide) fun cdv A outer s H E hr => ⟨_,
 (mxs_one (mx_ret (me_tup (ms_cons (MV.me (mv_var (pv 0) (by decide))) (ms_cons (me_ty (call_tupleK K) vn_tupleK rfl z_tuple (by decide +kernel) (ma_cons (MN.mv (mn_sortSet K rfl hr.units rfl z_sorted rfl z_set (MN.mv (mn_lc (own := [("u", 2), ("v", 3)]) rfl sc__law_made.nd  (mi_wkK K (pv 1) rfl) (blkOk_by (own := [("u", 2), ("v", 3)]) (N := N__law_made) (sc := (defScope s__law_made)) (by decide +kernel)) (fun _ _ _ _ _ => (mg_tupK K rfl (mgs_cons (mg_name (pg_name (i := 2) sc__law_made.nd rfl (by first | exact .inl rfl | exact .inr rfl)) rfl) (mgs_cons (mg_name (pg_name (i := 3) sc__law_made.nd rfl (by first | exact .inl rfl | exact .inr rfl)) rfl) mgs_nil)))) (fun _ _ _ _ _ => mts_nil) (fun _ _ _ _ _ => (me_tup (ms_cons (me_b (call_min2 rfl) vn_min2 rfl z_min (by decide +kernel) (ma_cons (ME.mv (me_var (pv 2) rfl)) (ma_cons (ME.mv (me_var (pv 3) rfl)) ma_nil))) (ms_cons (me_b (call_max2 rfl) vn_max2 rfl z_max (by decide +kernel) (ma_cons (ME.mv (me_var (pv 2) rfl)) (ma_cons (ME.mv (me_var (pv 3) rfl)) ma_nil))) ms_nil)))) (by decide))))) ma_nil)) ms_nil)))))⟩

/-! _law_graph -/
abbrev s__law_graph : Stmt := top 24
abbrev N__law_graph : List Str := ["pool", "least", "most", "n", "much", "edges", "u", "v", "k"]
def kd__law_graph : Nat → SK := fun i => [SK.mp, SK.st, SK.st, SK.st, SK.st, SK.mu, SK.st, SK.st, SK.st].getD i .st
theorem sc__law_graph : FnScope N__law_graph ["pool", "least", "most"] (defScope s__law_graph) := ⟨rfl, rfl, rfl, by decide +kernel, rfl, by decide +kernel, by decide +kernel⟩
def F__law_graph : Fs :=
 (fSeq (xSet 3 (x2 dAdd (xPure (fVar 1)) (xCall m__law_draw 0 (xCons (xPure (f2 dAdd (f2 dSub (fVar 2) (fVar 1)) (fC (.int 1)))) xNil))))
 (fSeq (xSet 4 (x2 dAdd (xPure (fC (.int 1))) (xCall m__law_draw 0 (xCons (xPure (fC (.int 5))) xNil))))
 (fSeq (fSet 5 (fLst fNil))
 (fSeq (fFor (fun ρ => ((fCons (fVar 3) fNil) ρ).bind rng1) (setN 6)
 (fFor (fun ρ => ((fCons (f2 dAdd (fVar 6) (fC (.int 1))) (fCons (fVar 3) fNil)) ρ).bind rng2) (setN 7)
 (xIfS (xTest (x2 dLt (xCall m__law_draw 0 (xCons (xPure (fC (.int 6))) xNil)) (xPure (fVar 4))))
 (fApp 5 (fTup (fCons (fVar 6) (fCons (fVar 7) fNil))))
 fNx)))
 (fSeq (xIfS (xTest (x2 dEq (xCall m__law_draw 0 (xCons (xPure (fC (.int 5))) xNil)) (xPure (fC (.int 0)))))
 (fSeq (fSet 5 (fLc (fun ρ => ((fCons (f2 dSub (fVar 3) (fC (.int 1))) fNil) ρ).bind rng1) (setN 8) (fun _ => some true) (fTup (fCons (fVar 8) (fCons (f2 dAdd (fVar 8) (fC (.int 1))) fNil))) [8]))
 (fIfS (fTest (f2 dGt (fVar 3) (fC (.int 2))))
 (fApp 5 (fTup (fCons (fC (.int 0)) (fCons (f2 dSub (fVar 3) (fC (.int 1))) fNil))))
 fNx))
 fNx)
 (fRet (fCall m__law_made (fCons (fVar 3) (fCons (fVar 5) fNil)))))))))
def m__law_graph : List D → Option (D × D) := defP 9 3 F__law_graph
theorem ok__law_graph (Xk : K.In h) (G : h.Ns mainGlobals mg) (c : He.SaysD fa fn K) : ∃ fd, OkD P w K mg base 3 (He.ga K "_law_graph") ["pool", "least", "most"] fd (spP K m__law_graph) := by
  obtain ⟨fd, F⟩ := c.def_ 17 (d := d__law_graph) rfl
  obtain ⟨fd__law_made, o__law_made⟩ := ok__law_made (P := P) (w := w) (base := base) Xk G c
  have g__law_made := He.glo_ok Xk G (c.fact 16 (f := .glo "_law_made") rfl)
  obtain ⟨fd__law_draw, o__law_draw⟩ := ok__law_draw (P := P) (w := w) (base := base) Xk G c
  have g__law_draw := He.glo_ok Xk G (c.fact 14 (f := .glo "_law_draw") rfl)
  have z_range := He.free_ok Xk G (c.fact 30 (f := .free "range") rfl)
  refine ⟨fd, ?_, (FunD.bindsN F (ps := ["pool", "least", "most"]) (fun _ _ _ _ _ _ us hl => match us, hl with | [_, _, _], _ => rfl)), F.kp⟩
  exact fn_p (N := N__law_graph) (ps := ["pool", "least", "most"]) (kd := kd__law_graph) (F := F__law_graph) F sc__law_graph (by decide) rfl (by decide) fun cdv A outer s H E hr => ⟨_,
 (mxs_cons (mx_setX (i := 3) sc__law_graph.nd rfl (by first | exact .inl rfl | exact .inr rfl) (mxe_op (op_addK K) (v2_add (K := K)) (ME.x (me_var (pv 1) rfl)) (mxe_call K o__law_draw (hr.mono (by decide)) rfl g__law_draw (pv 0) rfl (mxa_cons (ME.x (me_op (op_addK K) (v2_add (K := K)) (ME.mv (me_op op_sub (v2_sub (K := K)) (ME.mv (me_var (pv 2) rfl)) (ME.mv (me_var (pv 1) rfl)))) (ME.mv me_int))) mxa_nil))) rfl)
 (mxs_cons (mx_setX (i := 4) sc__law_graph.nd rfl (by first | exact .inl rfl | exact .inr rfl) (mxe_op (op_addK K) (v2_add (K := K)) (ME.x me_int) (mxe_call K o__law_draw (hr.mono (by decide)) rfl g__law_draw (pv 0) rfl (mxa_cons (ME.x me_int) mxa_nil))) rfl)
 (mxs_cons (mx_setNE (i := 5) sc__law_graph.nd rfl (by first | exact .inl rfl | exact .inr rfl) (mn_lst ms_nil) rfl)
 (mxs_cons (mx_for PassesOwn.never rfl (mi_range1 rfl z_range (ma_cons (ME.mv (me_var (pv 3) rfl)) ma_nil)) (mg_name (pg_name (i := 6) sc__law_graph.nd rfl (by first | exact .inl rfl | exact .inr rfl)) rfl)
 (mxs_one (mx_for PassesOwn.never rfl (mi_range2 rfl z_range (ma_cons (ME.mv (me_op (op_addK K) (v2_add (K := K)) (ME.mv (me_var (pv 6) rfl)) (ME.mv me_int))) (ma_cons (ME.mv (me_var (pv 3) rfl)) ma_nil))) (mg_name (pg_name (i := 7) sc__law_graph.nd rfl (by first | exact .inl rfl | exact .inr rfl)) rfl)
 (mxs_one (mx_ifC op_lt (v2_lt (K := K)) (mxe_call K o__law_draw (hr.mono (by decide)) rfl g__law_draw (pv 0) rfl (mxa_cons (ME.x me_int) mxa_nil)) (ME.x (me_var (pv 4) rfl)) (nomark _)
 (mxs_one (mx_appE K 5 (pv 5) (me_tup (ms_cons (me_var (pv 6) rfl) (ms_cons (me_var (pv 7) rfl) ms_nil))) rfl))
 mxs_nil)))))
 (mxs_cons (mx_ifC (op_eqK K hr.units) (v2_eq (K := K)) (mxe_call K o__law_draw (hr.mono (by decide)) rfl g__law_draw (pv 0) rfl (mxa_cons (ME.x me_int) mxa_nil)) (ME.x me_int) (nomark _)
 (mxs_cons (mx_setLc (i := 5) rfl (own := [("k", 8)]) rfl sc__law_graph.nd rfl rfl (sw_true rfl rfl rfl (by decide +kernel)) (mi_range1 rfl z_range (ma_cons (ME.mv (me_op op_sub (v2_sub (K := K)) (ME.mv (me_var (pv 3) rfl)) (ME.mv me_int))) ma_nil)) (blkOk_by (own := [("k", 8)]) (N := N__law_graph) (sc := (defScope s__law_graph)) (by decide +kernel)) (fun _ _ _ _ _ => (mg_name (pg_name (i := 8) sc__law_graph.nd rfl (by first | exact .inl rfl | exact .inr rfl)) rfl)) (fun _ _ _ _ _ => mts_nil) (fun _ _ _ _ _ => (me_tup (ms_cons (me_var (pv 8) rfl) (ms_cons (me_op (op_addK K) (v2_add (K := K)) (ME.mv (me_var (pv 8) rfl)) (ME.mv me_int)) ms_nil)))) (by decide))
 (mxs_one (mx_if (mt_cmp op_gt (v2_gt (K := K)) (ME.mv (me_var (pv 3) rfl)) (ME.mv me_int) (nomark _))
 (mxs_one (mx_appE K 5 (pv 5) (me_tup (ms_cons me_int (ms_cons (me_op op_sub (v2_sub (K := K)) (ME.mv (me_var (pv 3) rfl)) (ME.mv me_int)) ms_nil))) rfl))
 mxs_nil)))
 mxs_nil)
 (mxs_one (mx_ret (me_callK K o__law_made (hr.mono (by decide)) rfl g__law_made (ma_cons (ME.mv (me_var (pv 3) rfl)) (ma_cons (mv_var (pv 5) (by decide)) ma_nil))))))))))⟩

/-! _law_are -/
abbrev s__law_are : Stmt := top 25
abbrev N__law_are : List Str := ["graph", "u", "v"]
def kd__law_are : Nat → SK := fun i => [SK.wk, SK.wk, SK.wk].getD i .st
theorem sc__law_are : FnScope N__law_are ["graph", "u", "v"] (defScope s__law_are) := ⟨rfl, rfl, rfl, by decide +kernel, rfl, by decide +kernel, by decide +kernel⟩
def F__law_are : Fs :=
 (fRet (f2 dIn (fTup (fCons (fCall dMin2 (fCons (fVar 1) (fCons (fVar 2) fNil))) (fCons (fCall dMax2 (fCons (fVar 1) (fCons (fVar 2) fNil))) fNil))) (f2 dIx (fVar 0) (fC (.int 1)))))
def m__law_are : List D → Option D := defF 3 3 F__law_are
theorem ok__law_are (Xk : K.In h) (G : h.Ns mainGlobals mg) (c : He.SaysD fa fn K) : ∃ fd, OkD P w K mg base 1 (He.ga K "_law_are") ["graph", "u", "v"] fd (spD K m__law_are) := by
  obtain ⟨fd, F⟩ := c.def_ 18 (d := d__law_are) rfl
  have z_max := He.free_ok Xk G (c.fact 25 (f := .free "max") rfl)
  have z_min := He.free_ok Xk G (c.fact 24 (f := .free "min") rfl)
  refine ⟨fd, ?_, (FunD.bindsN F (ps := ["graph", "u", "v"]) (fun _ _ _ _ _ _ us hl => match us, hl with | [_, _, _], _ => rfl)), F.kp⟩
  exact fn_d (N := N__law_are) (ps := ["graph", "u", "v"]) (kd := kd__law_are) (F := F__law_are) F sc__law_are (by decide) (by decide) fun cdv A outer s H E hr => ⟨_,
 (mxs_one (mx_ret (me_cmp (op_inK K hr.units) (v2_in (K := K)) (ME.mv (me_tup (ms_cons (me_b (call_min2 rfl) vn_min2 rfl z_min (by decide +kernel) (ma_cons (mv_var (pv 1) (by decide)) (ma_cons (mv_var (pv 2) (by decide)) ma_nil))) (ms_cons (me_b (call_max2 rfl) vn_max2 rfl z_max (by decide +kernel) (ma_cons (mv_var (pv 1) (by decide)) (ma_cons (mv_var (pv 2) (by decide)) ma_nil))) ms_nil)))) (ME.mv (me_ix (ix_K K) (v2_ix (K := K)) (mv_var (pv 0) (by decide)) (ME.mv me_int) (fun _ _ => rfl))) (by rfl))))⟩

/-! _law_near -/
abbrev s__law_near : Stmt := top 26
abbrev N__law_near : List Str := ["graph", "v", "u"]
def kd__law_near : Nat → SK := fun i => [SK.wk, SK.wk, SK.st].getD i .st
theorem sc__law_near : FnScope N__law_near ["graph", "v"] (defScope s__law_near) := ⟨rfl, rfl, rfl, by decide +kernel, rfl, by decide +kernel, by decide +kernel⟩
def F__law_near : Fs :=
 (fRet (f1 isL (fLc (fun ρ => ((fCons (f2 dIx (fVar 0) (fC (.int 0))) fNil) ρ).bind rng1) (setN 2) (fAnd (fTest (f2 dNe (fVar 2) (fVar 1))) (fTest (fCall m__law_are (fCons (fVar 0) (fCons (fVar 2) (fCons (fVar 1) fNil)))))) (fVar 2) [2])))
def m__law_near : List D → Option D := defF 3 2 F__law_near
theorem ok__law_near (Xk : K.In h) (G : h.Ns mainGlobals mg) (c : He.SaysD fa fn K) : ∃ fd, OkD P w K mg base 2 (He.ga K "_law_near") ["graph", "v"] fd (spD K m__law_near) := by
  obtain ⟨fd, F⟩ := c.def_ 19 (d := d__law_near) rfl
  obtain ⟨fd__law_are, o__law_are⟩ := ok__law_are (P := P) (w := w) (base := base) Xk G c
  have g__law_are := He.glo_ok Xk G (c.fact 18 (f := .glo "_law_are") rfl)
  have z_range := He.free_ok Xk G (c.fact 30 (f := .free "range") rfl)
  refine ⟨fd, ?_, (FunD.bindsN F (ps := ["graph", "v"]) (fun _ _ _ _ _ _ us hl => match us, hl with | [_, _], _ => rfl)), F.kp⟩
  exact fn_d (N := N__law_near) (ps := ["graph", "v"]) (kd := kd__law_near) (F := F__law_near) F sc__law_near (by decide) (by decide) fun cdv A outer s H E hr => ⟨_,
 (mxs_one (mx_ret (MN.me (mn_lc (own := [("u", 2)]) rfl sc__law_near.nd  (mi_range1 rfl z_range (ma_cons (ME.mv (me_ix (ix_K K) (v2_ix (K := K)) (mv_var (pv 0) (by decide)) (ME.mv me_int) (fun _ _ => rfl))) ma_nil)) (blkOk_by (own := [("u", 2)]) (N := N__law_near) (sc := (defScope s__law_near)) (by decide +kernel)) (fun _ _ _ _ _ => (mg_name (pg_name (i := 2) sc__law_near.nd rfl (by first | exact .inl rfl | exact .inr rfl)) rfl)) (fun _ _ _ _ _ => (mts_one (MW.mt (mw_and (mt_cmp (op_neK K hr.units) (v2_ne (K := K)) (ME.mv (me_var (pv 2) rfl)) (mv_var (pv 1) (by decide)) (nomark _)) (mw_and1 (mt_val (me_callK K o__law_are (hr.mono (by decide)) rfl g__law_are (ma_cons (mv_var (pv 0) (by decide)) (ma_cons (ME.mv (me_var (pv 2) rfl)) (ma_cons (mv_var (pv 1) (by decide)) ma_nil)))))))))) (fun _ _ _ _ _ => (me_var (pv 2) rfl)) (by decide)))))⟩

/-! _law_pairs -/
abbrev s__law_pairs : Stmt := top 27
abbrev N__law_pairs : List Str := ["n", "found", "u", "v"]
def kd__law_pairs : Nat → SK := fun i => [SK.wk, SK.st, SK.st, SK.st].getD i .st
theorem sc__law_pairs : FnScope N__law_pairs ["n"] (defScope s__law_pairs) := ⟨rfl, rfl, rfl, by decide +kernel, rfl, by decide +kernel, by decide +kernel⟩
def F__law_pairs : Fs :=
 (fSeq (fSet 1 (f1 isL (fLst fNil)))
 (fSeq (fFor (fun ρ => ((fCons (fVar 0) fNil) ρ).bind rng1) (setN 2)
 (fSet 1 (f1 isL (f2 dCat (fVar 1) (fLc (fun ρ => ((fCons (f2 dAdd (fVar 2) (fC (.int 1))) (fCons (fVar 0) fNil)) ρ).bind rng2) (setN 3) (fun _ => some true) (fTup (fCons (fVar 2) (fCons (fVar 3) fNil))) [3])))))
 (fRet (fVar 1))))
def m__law_pairs : List D → Option D := defF 4 1 F__law_pairs
theorem ok__law_pairs (Xk : K.In h) (G : h.Ns mainGlobals mg) (c : He.SaysD fa fn K) : ∃ fd, OkD P w K mg base 1 (He.ga K "_law_pairs") ["n"] fd (spD K m__law_pairs) := by
  obtain ⟨fd, F⟩ := c.def_ 20 (d := d__law_pairs) rfl
  have z_range := He.free_ok Xk G (c.fact 30 (f := .free "range") rfl)
  refine ⟨fd, ?_, (FunD.bindsN F (ps := ["n"]) (fun _ _ _ _ _ _ us hl => match us, hl with | [_], _ => rfl)), F.kp⟩
  exact fn_d (N := N__law_pairs) (ps := ["n"]) (kd := kd__law_pairs) (F := F__law_pairs) F sc__law_pairs (by decide) (by decide) fun cdv A outer s H E hr => ⟨_,
 (mxs_cons (mx_setE (i := 1) sc__law_pairs.nd rfl (by first | exact .inl rfl | exact .inr rfl) (MN.me (mn_lst ms_nil)) rfl)
 (mxs_cons (mx_for PassesOwn.never rfl (mi_range1 rfl z_range (ma_cons (mv_var (pv 0) (by decide)) ma_nil)) (mg_name (pg_name (i := 2) sc__law_pairs.nd rfl (by first | exact .inl rfl | exact .inr rfl)) rfl)
 (mxs_one (mx_setE (i := 1) sc__law_pairs.nd rfl (by first | exact .inl rfl | exact .inr rfl) (MN.me (mn_op op_cat (n2_cat (K := K)) (ME.mv (me_var (pv 1) rfl)) (MN.mv (mn_lc (own := [("v", 3)]) rfl sc__law_pairs.nd  (mi_range2 rfl z_range (ma_cons (ME.mv (me_op (op_addK K) (v2_add (K := K)) (ME.mv (me_var (pv 2) rfl)) (ME.mv me_int))) (ma_cons (mv_var (pv 0) (by decide)) ma_nil))) (blkOk_by (own := [("v", 3)]) (N := N__law_pairs) (sc := (defScope s__law_pairs)) (by decide +kernel)) (fun _ _ _ _ _ => (mg_name (pg_name (i := 3) sc__law_pairs.nd rfl (by first | exact .inl rfl | exact .inr rfl)) rfl)) (fun _ _ _ _ _ => mts_nil) (fun _ _ _ _ _ => (me_tup (ms_cons (me_var (pv 2) rfl) (ms_cons (me_var (pv 3) rfl) ms_nil)))) (by decide))))) rfl)))
 (mxs_one (mx_ret (me_var (pv 1) rfl)))))⟩

/-! _law_renamed -/
abbrev s__law_renamed : Stmt := top 28
abbrev N__law_renamed : List Str := ["graph", "order", "u", "v"]
def kd__law_renamed : Nat → SK := fun i => [SK.wk, SK.wk, SK.st, SK.st].getD i .st
theorem sc__law_renamed : FnScope N__law_renamed ["graph", "order"] (defScope s__law_renamed) := ⟨rfl, rfl, rfl, by decide +kernel, rfl, by decide +kernel, by decide +kernel⟩
def F__law_renamed : Fs :=
 (fRet (fCall m__law_made (fCons (f2 dIx (fVar 0) (fC (.int 0))) (fCons (fLc (fItems (f2 dIx (fVar 0) (fC (.int 1)))) (setTup (setCons (setN 2) (setCons (setN 3) setNil))) (fun _ => some true) (fTup (fCons (f2 dIx (fVar 1) (fVar 2)) (fCons (f2 dIx (fVar 1) (fVar 3)) fNil))) [2, 3]) fNil))))
def m__law_renamed : List D → Option D := defF 4 2 F__law_renamed
theorem ok__law_renamed (Xk : K.In h) (G : h.Ns mainGlobals mg) (c : He.SaysD fa fn K) : ∃ fd, OkD P w K mg base 2 (He.ga K "_law_renamed") ["graph", "order"] fd (spD K m__law_renamed) := by
  obtain ⟨fd, F⟩ := c.def_ 21 (d := d__law_renamed) rfl
  obtain ⟨fd__law_made, o__law_made⟩ := ok__law_made (P := P) (w := w) (base := base) Xk G c
  have g__law_made := He.glo_ok Xk G (c.fact 16 (f := .glo "_law_made") rfl)
  refine ⟨fd, ?_, (FunD.bindsN F (ps := ["graph", "order"]) (fun _ _ _ _ _ _ us hl => match us, hl with | [_, _], _ => rfl)), F.kp⟩
  exact fn_d (N := N__law_renamed) (ps := ["graph", "order"]) (kd := kd__law_renamed) (F := F__law_renamed) F sc__law_renamed (by decide) (by decide) fun cdv A outer s H E hr => ⟨_,
 (mxs_one (mx_ret (me_callK K o__law_made (hr.mono (by decide)) rfl g__law_made (ma_cons (ME.mv (me_ix (ix_K K) (v2_ix (K := K)) (mv_var (pv 0) (by decide)) (ME.mv me_int) (fun _ _ => rfl))) (ma_cons (MN.mv (mn_lc (own := [("u", 2), ("v", 3)]) rfl sc__law_renamed.nd  (mi_seqVK K (ME.mv (me_ix (ix_K K) (v2_ix (K := K)) (mv_var (pv 0) (by decide)) (ME.mv me_int) (fun _ _ => rfl)))) (blkOk_by (own := [("u", 2), ("v", 3)]) (N := N__law_renamed) (sc := (defScope s__law_renamed)) (by decide +kernel)) (fun _ _ _ _ _ => (mg_tupK K rfl (mgs_cons (mg_name (pg_name (i := 2) sc__law_renamed.nd rfl (by first | exact .inl rfl | exact .inr rfl)) rfl) (mgs_cons (mg_name (pg_name (i := 3) sc__law_renamed.nd rfl (by first | exact .inl rfl | exact .inr rfl)) rfl) mgs_nil)))) (fun _ _ _ _ _ => mts_nil) (fun _ _ _ _ _ => (me_tup (ms_cons (me_ix (ix_K K) (v2_ix (K := K)) (mv_var (pv 1) (by decide)) (ME.mv (me_var (pv 2) rfl)) (fun _ _ => rfl)) (ms_cons (me_ix (ix_K K) (v2_ix (K := K)) (mv_var (pv 1) (by decide)) (ME.mv (me_var (pv 3) rfl)) (fun _ _ => rfl)) ms_nil)))) (by decide))) ma_nil)))))⟩

/-! _law_orders -/
abbrev s__law_orders : Stmt := top 29
abbrev N__law_orders : List Str := ["n", "rows", "k", "longer", "row", "v"]
def kd__law_orders : Nat → SK := fun i => [SK.wk, SK.st, SK.st, SK.st, SK.st, SK.st].getD i .st
theorem sc__law_orders : FnScope N__law_orders ["n"] (defScope s__law_orders) := ⟨rfl, rfl, rfl, by decide +kernel, rfl, by decide +kernel, by decide +kernel⟩
def F__law_orders : Fs :=
 (fSeq (fSet 1 (f1 isL (fLst (fCons (fTup fNil) fNil))))
 (fSeq (fFor (fun ρ => ((fCons (fVar 0) fNil) ρ).bind rng1) (setN 2)
 (fSeq (fSet 3 (f1 isL (fLst fNil)))
 (fSeq (fFor (fItems (fVar 1)) (setN 4)
 (fSet 3 (f1 isL (f2 dCat (fVar 3) (fLc (fun ρ => ((fCons (fVar 0) fNil) ρ).bind rng1) (setN 5) (fTest (f2 dNotIn (fVar 5) (fVar 4))) (f2 dAdd (fVar 4) (fTup (fCons (fVar 5) fNil))) [5])))))
 (fSet 1 (fVar 3)))))
 (fRet (fVar 1))))
def m__law_orders : List D → Option D := defF 6 1 F__law_orders
theorem ok__law_orders (Xk : K.In h) (G : h.Ns mainGlobals mg) (c : He.SaysD fa fn K) : ∃ fd, OkD P w K mg base 1 (He.ga K "_law_orders") ["n"] fd (spD K m__law_orders) := by
  obtain ⟨fd, F⟩ := c.def_ 22 (d := d__law_orders) rfl
  have z_range := He.free_ok Xk G (c.fact 30 (f := .free "range") rfl)
  refine ⟨fd, ?_, (FunD.bindsN F (ps := ["n"]) (fun _ _ _ _ _ _ us hl => match us, hl with | [_], _ => rfl)), F.kp⟩
  exact fn_d (N := N__law_orders) (ps := ["n"]) (kd := kd__law_orders) (F := F__law_orders) F sc__law_orders (by decide) (by decide) fun cdv A outer s H E hr => ⟨_,
 (mxs_cons (mx_setE (i := 1) sc__law_orders.nd rfl (by first | exact .inl rfl | exact .inr rfl) (MN.me (mn_lst (ms_cons (me_tup ms_nil) ms_nil))) rfl)
 (mxs_cons (mx_for PassesOwn.never rfl (mi_range1 rfl z_range (ma_cons (mv_var (pv 0) (by decide)) ma_nil)) (mg_name (pg_name (i := 2) sc__law_orders.nd rfl (by first | exact .inl rfl | exact .inr rfl)) rfl)
 (mxs_cons (mx_setE (i := 3) sc__law_orders.nd rfl (by first | exact .inl rfl | exact .inr rfl) (MN.me (mn_lst ms_nil)) rfl)
 (mxs_cons (mx_for PassesOwn.never rfl (mi_seqK K (me_var (pv 1) rfl)) (mg_name (pg_name (i := 4) sc__law_orders.nd rfl (by first | exact .inl rfl | exact .inr rfl)) rfl)
 (mxs_one (mx_setE (i := 3) sc__law_orders.nd rfl (by first | exact .inl rfl | exact .inr rfl) (MN.me (mn_op op_cat (n2_cat (K := K)) (ME.mv (me_var (pv 3) rfl)) (MN.mv (mn_lc (own := [("v", 5)]) rfl sc__law_orders.nd  (mi_range1 rfl z_range (ma_cons (mv_var (pv 0) (by decide)) ma_nil)) (blkOk_by (own := [("v", 5)]) (N := N__law_orders) (sc := (defScope s__law_orders)) (by decide +kernel)) (fun _ _ _ _ _ => (mg_name (pg_name (i := 5) sc__law_orders.nd rfl (by first | exact .inl rfl | exact .inr rfl)) rfl)) (fun _ _ _ _ _ => (mts_one (mt_cmp (op_notInK K hr.units) (v2_notIn (K := K)) (ME.mv (me_var (pv 5) rfl)) (ME.mv (me_var (pv 4) rfl)) (by rfl)))) (fun _ _ _ _ _ => (me_op (op_addK K) (v2_add (K := K)) (ME.mv (me_var (pv 4) rfl)) (ME.mv (me_tup (ms_cons (me_var (pv 5) rfl) ms_nil))))) (by decide))))) rfl)))
 (mxs_one (mx_setE (i := 1) sc__law_orders.nd rfl (by first | exact .inl rfl | exact .inr rfl) (me_var (pv 3) rfl) rfl)))))
 (mxs_one (mx_ret (me_var (pv 1) rfl)))))⟩

/-! law -/
abbrev s_law : Stmt := top 30
abbrev N_law : List Str := ["script", "pool", "graph", "n", "orders", "copies", "own", "told", "both", "back", "order", "other", "turned", "k", "one", "two", "rounds", "moved", "row", "turn", "u", "v"]
def kd_law : Nat → SK := fun i => [SK.fz, SK.mu, SK.st, SK.st, SK.st, SK.st, SK.st, SK.st, SK.st, SK.st, SK.st, SK.st, SK.st, SK.st, SK.st, SK.st, SK.st, SK.st, SK.st, SK.st, SK.st, SK.st].getD i .st
theorem sc_law : FnScope N_law ["script"] (defScope s_law) := ⟨rfl, rfl, rfl, by decide +kernel, rfl, by decide +kernel, by decide +kernel⟩
def F_law : Fs :=
 (fSeq (fSet 1 (fCall m__law_pool (fCons (fVar 0) fNil)))
 (fSeq (xSet 2 (xCall m__law_graph 1 (xCons (xPure (fC (.int 1))) (xCons (xPure (fC (.int 5))) xNil))))
 (fSeq (fSet 3 (f2 dIx (fVar 2) (fC (.int 0))))
 (fSeq (fSet 4 (fCall m__law_orders (fCons (fVar 3) fNil)))
 (fSeq (fSet 5 (f1 isL (f1 dSortSet (fLc (fItems (fVar 4)) (setN 10) (fun _ => some true) (fCall m__law_renamed (fCons (fVar 2) (fCons (fVar 10) fNil))) [10]))))
 (fSeq (fSet 6 (f1 isL (fLc (fItems (fVar 4)) (setN 10) (fTest (f2 dEq (fCall m__law_renamed (fCons (fVar 2) (fCons (fVar 10) fNil))) (fVar 2))) (fVar 10) [10])))
 (fSeq (fSet 7 (f1 isL (fCall m_symmetries (fCons (fVar 2) fNil))))
 (fSeq (fIfS (fOr (fNot (fTest (fCall (m__law_same 10) (fCons (fVar 7) (fCons (fCall dSorted (fCons (fVar 6) fNil)) fNil))))) (fTest (f2 dNe (f2 dMul (fCall dLenS (fCons (fVar 7) fNil)) (fCall dLenS (fCons (fVar 5) fNil))) (fCall dLenS (fCons (fVar 4) fNil)))))
 (fRet (fC (.bool false)))
 fNx)
 (fSeq (fIfS (fNot (fTest (fCall (m__law_same 10) (fCons (fCall m_canonical (fCons (fVar 2) fNil)) (fCons (f2 dIx (fVar 5) (fC (.int 0))) fNil)))))
 (fRet (fC (.bool false)))
 fNx)
 (fSeq (xAsg (setTup (setCons (setN 14) (setCons (setN 15) setNil))) (xTup (xCons (x2 dIx (xPure (fVar 7)) (xCall m__law_draw 1 (xCons (xPure (fCall dLenS (fCons (fVar 7) fNil))) xNil))) (xCons (x2 dIx (xPure (fVar 7)) (xCall m__law_draw 1 (xCons (xPure (fCall dLenS (fCons (fVar 7) fNil))) xNil))) xNil))))
 (fSeq (fSet 8 (fCall dTuple (fCons (fLc (fun ρ => ((fCons (fVar 3) fNil) ρ).bind rng1) (setN 21) (fun _ => some true) (f2 dIx (fVar 15) (f2 dIx (fVar 14) (fVar 21))) [21]) fNil)))
 (fSeq (fSet 9 (fCall dTuple (fCons (fLc (fun ρ => ((fCons (fVar 3) fNil) ρ).bind rng1) (setN 21) (fun _ => some true) (f2 dIndex (fVar 14) (fVar 21)) [21]) fNil)))
 (fSeq (fIfS (fOr (fTest (f2 dNotIn (fVar 8) (fVar 7))) (fOr (fTest (f2 dNotIn (fVar 9) (fVar 7))) (fTest (f2 dNotIn (f1 dTupRg (fVar 3)) (fVar 7)))))
 (fRet (fC (.bool false)))
 fNx)
 (fSeq (xSet 10 (x2 dIx (xPure (fVar 4)) (xCall m__law_draw 1 (xCons (xPure (fCall dLenS (fCons (fVar 4) fNil))) xNil))))
 (fSeq (fSet 11 (fCall m_renamed (fCons (fVar 2) (fCons (fVar 10) fNil))))
 (fSeq (fIfS (fOr (fTest (f2 dNe (fVar 11) (fCall m__law_renamed (fCons (fVar 2) (fCons (fVar 10) fNil))))) (fOr (fTest (f2 dNe (fCall m_canonical (fCons (fVar 11) fNil)) (f2 dIx (fVar 5) (fC (.int 0))))) (fTest (f2 dNe (fCall dLenS (fCons (fCall m_symmetries (fCons (fVar 11) fNil)) fNil)) (fCall dLenS (fCons (fVar 7) fNil))))))
 (fRet (fC (.bool false)))
 fNx)
 (fSeq (fSet 12 (f1 isL (fLc (fItems (fVar 7)) (setN 14) (fun _ => some true) (fCall dTuple (fCons (fLc (fun ρ => ((fCons (fVar 3) fNil) ρ).bind rng1) (setN 21) (fun _ => some true) (f2 dIx (fVar 10) (f2 dIx (fVar 14) (f2 dIndex (fVar 10) (fVar 21)))) [21]) fNil)) [14])))
 (fSeq (fIfS (fTest (f2 dNe (fCall dSorted (fCons (fVar 12) fNil)) (fCall m_symmetries (fCons (fVar 11) fNil))))
 (fRet (fC (.bool false)))
 fNx)
 (fSeq (fPar 16 17 (fCons (f1 isL (fCall m_rounds_of_degrees (fCons (fVar 2) fNil))) (fCons (f1 isL (fCall m_rounds_of_degrees (fCons (fVar 11) fNil))) fNil)))
 (fSeq (fIfS (fOr (fTest (f2 dNe (fCall dLenS (fCons (fVar 16) fNil)) (fCall dLenS (fCons (fVar 17) fNil)))) (fTest (f2 dNe (f2 dIx (fVar 16) (fC (.int 0))) (fLc (fun ρ => ((fCons (fVar 3) fNil) ρ).bind rng1) (setN 21) (fun _ => some true) (fCall dLenS (fCons (fCall m__law_near (fCons (fVar 2) (fCons (fVar 21) fNil))) fNil)) [21]))))
 (fRet (fC (.bool false)))
 fNx)
 (fSeq (fFor (fun ρ => ((fCons (fCall dLenS (fCons (fVar 16) fNil)) fNil) ρ).bind rng1) (setN 13)
 (fSeq (fPar 18 19 (fCons (f2 dIx (fVar 16) (fVar 13)) (fCons (f2 dIx (fVar 17) (fVar 13)) fNil)))
 (fFor (fItems (fCall m__law_pairs (fCons (fVar 3) fNil))) (setTup (setCons (setN 20) (setCons (setN 21) setNil)))
 (fSeq (fIfS (fTest (f2 dNe (f2 dEq (f2 dIx (fVar 18) (fVar 20)) (f2 dIx (fVar 18) (fVar 21))) (f2 dEq (f2 dIx (fVar 19) (f2 dIx (fVar 10) (fVar 20))) (f2 dIx (fVar 19) (f2 dIx (fVar 10) (fVar 21))))))
 (fRet (fC (.bool false)))
 fNx)
 (fIfS (fAnd (fTest (f2 dGt (fCall dLenS (fCons (fLc (fItems (fVar 7)) (setN 14) (fTest (f2 dEq (f2 dIx (fVar 14) (fVar 20)) (fVar 21))) (fVar 14) [14]) fNil)) (fC (.int 0)))) (fTest (f2 dNe (f2 dIx (fVar 18) (fVar 20)) (f2 dIx (fVar 18) (fVar 21)))))
 (fRet (fC (.bool false)))
 fNx)))))
 (fRet (fC (.bool true))))))))))))))))))))))))
def m_law : List D → Option D := defF 22 1 F_law
theorem ok_law (Xk : K.In h) (G : h.Ns mainGlobals mg) (c : He.SaysD fa fn K) {f : Addr} {fd : FuncData} (F : FunD K "law" "law" (defArgs s_law) (defBody s_law) (defScope s_law) [] [] f fd) : FnOk P w K mg base CX0 15 f fd ["script"] (spW K m_law) := by
  obtain ⟨fd__law_pairs, o__law_pairs⟩ := ok__law_pairs (P := P) (w := w) (base := base) Xk G c
  have g__law_pairs := He.glo_ok Xk G (c.fact 20 (f := .glo "_law_pairs") rfl)
  obtain ⟨fd__law_near, o__law_near⟩ := ok__law_near (P := P) (w := w) (base := base) Xk G c
  have g__law_near := He.glo_ok Xk G (c.fact 19 (f := .glo "_law_near") rfl)
  obtain ⟨fd_rounds_of_degrees, o_rounds_of_degrees⟩ := ok_rounds_of_degrees (P := P) (w := w) (base := base) Xk G c
  have g_rounds_of_degrees := He.glo_ok Xk G (c.fact 6 (f := .glo "rounds_of_degrees") rfl)
  obtain ⟨fd_symmetries, o_symmetries⟩ := ok_symmetries (P := P) (w := w) (base := base) Xk G c
  have g_symmetries := He.glo_ok Xk G (c.fact 9 (f := .glo "symmetries") rfl)
  obtain ⟨fd_canonical, o_canonical⟩ := ok_canonical (P := P) (w := w) (base := base) Xk G c
  have g_canonical := He.glo_ok Xk G (c.fact 11 (f := .glo "canonical") rfl)
  obtain ⟨fd__law_renamed, o__law_renamed⟩ := ok__law_renamed (P := P) (w := w) (base := base) Xk G c
  have g__law_renamed := He.glo_ok Xk G (c.fact 21 (f := .glo "_law_renamed") rfl)
  obtain ⟨fd_renamed, o_renamed⟩ := ok_renamed (P := P) (w := w) (base := base) Xk G c
  have g_renamed := He.glo_ok Xk G (c.fact 4 (f := .glo "renamed") rfl)
  obtain ⟨fd__law_draw, o__law_draw⟩ := ok__law_draw (P := P) (w := w) (base := base) Xk G c
  have g__law_draw := He.glo_ok Xk G (c.fact 14 (f := .glo "_law_draw") rfl)
  obtain ⟨fd__law_same, o__law_same⟩ := ok__law_same (P := P) (w := w) (base := base) Xk G c
  have o__law_same := o__law_same 10
  have g__law_same := He.glo_ok Xk G (c.fact 15 (f := .glo "_law_same") rfl)
  obtain ⟨fd__law_orders, o__law_orders⟩ := ok__law_orders (P := P) (w := w) (base := base) Xk G c
  have g__law_orders := He.glo_ok Xk G (c.fact 22 (f := .glo "_law_orders") rfl)
  obtain ⟨fd__law_graph, o__law_graph⟩ := ok__law_graph (P := P) (w := w) (base := base) Xk G c
  have g__law_graph := He.glo_ok Xk G (c.fact 17 (f := .glo "_law_graph") rfl)
  obtain ⟨fd__law_pool, o__law_pool⟩ := ok__law_pool (P := P) (w := w) (base := base) Xk G c
  have g__law_pool := He.glo_ok Xk G (c.fact 12 (f := .glo "_law_pool") rfl)
  have z_len := He.free_ok Xk G (c.fact 26 (f := .free "len") rfl)
  have z_range := He.free_ok Xk G (c.fact 30 (f := .free "range") rfl)
  have z_sorted := He.free_ok Xk G (c.fact 27 (f := .free "sorted") rfl)
  have z_tuple := He.free_ok Xk G (c.fact 28 (f := .free "tuple") rfl)
  have z_set := He.free_ok Xk G (c.fact 33 (f := .free "set") rfl)
  exact fn_w (N := N_law) (ps := ["script"]) (kd := kd_law) (F := F_law) F sc_law (by decide) rfl rfl fun cdv A outer s H E hr => ⟨_,
 (mxs_cons (mx_setNE (i := 1) sc_law.nd rfl (by first | exact .inl rfl | exact .inr rfl) (mn_callZ K o__law_pool (hr.mono (by decide)) rfl g__law_pool (pv 0) rfl) rfl)
 (mxs_cons (mx_setX (i := 2) sc_law.nd rfl (by first | exact .inl rfl | exact .inr rfl) (mxe_call K o__law_graph (hr.mono (by decide)) rfl g__law_graph (pv 1) rfl (mxa_cons (ME.x me_int) (mxa_cons (ME.x me_int) mxa_nil))) rfl)
 (mxs_cons (mx_setE (i := 3) sc_law.nd rfl (by first | exact .inl rfl | exact .inr rfl) (me_ix (ix_K K) (v2_ix (K := K)) (ME.mv (me_var (pv 2) rfl)) (ME.mv me_int) (fun _ _ => rfl)) rfl)
 (mxs_cons (mx_setE (i := 4) sc_law.nd rfl (by first | exact .inl rfl | exact .inr rfl) (me_callK K o__law_orders (hr.mono (by decide)) rfl g__law_orders (ma_cons (ME.mv (me_var (pv 3) rfl)) ma_nil)) rfl)
 (mxs_cons (mx_setE (i := 5) sc_law.nd rfl (by first | exact .inl rfl | exact .inr rfl) (MN.me (mn_sortSet K rfl hr.units rfl z_sorted rfl z_set (MN.mv (mn_lc (own := [("order", 10)]) rfl sc_law.nd  (mi_seqVK K (ME.mv (me_var (pv 4) rfl))) (blkOk_by (own := [("order", 10)]) (N := N_law) (sc := (defScope s_law)) (by decide +kernel)) (fun _ _ _ _ _ => (mg_name (pg_name (i := 10) sc_law.nd rfl (by first | exact .inl rfl | exact .inr rfl)) rfl)) (fun _ _ _ _ _ => mts_nil) (fun _ _ _ _ _ => (me_callK K o__law_renamed (hr.mono (by decide)) rfl g__law_renamed (ma_cons (ME.mv (me_var (pv 2) rfl)) (ma_cons (ME.mv (me_var (pv 10) rfl)) ma_nil)))) (by decide))))) rfl)
 (mxs_cons (mx_setLcS (i := 6) rfl (own := [("order", 10)]) rfl sc_law.nd rfl rfl (sw_true rfl rfl rfl (by decide +kernel)) (mi_seqVK K (ME.mv (me_var (pv 4) rfl))) (blkOk_by (own := [("order", 10)]) (N := N_law) (sc := (defScope s_law)) (by decide +kernel)) (fun _ _ _ _ _ => (mg_name (pg_name (i := 10) sc_law.nd rfl (by first | exact .inl rfl | exact .inr rfl)) rfl)) (fun _ _ _ _ _ => (mts_one (mt_cmp (op_eqK K hr.units) (v2_eq (K := K)) (ME.mv (me_callK K o__law_renamed (hr.mono (by decide)) rfl g__law_renamed (ma_cons (ME.mv (me_var (pv 2) rfl)) (ma_cons (ME.mv (me_var (pv 10) rfl)) ma_nil)))) (ME.mv (me_var (pv 2) rfl)) (nomark _)))) (fun _ _ _ _ _ => (me_var (pv 10) rfl)) (by decide))
 (mxs_cons (mx_setE (i := 7) sc_law.nd rfl (by first | exact .inl rfl | exact .inr rfl) (MN.me (mn_callK K o_symmetries (hr.mono (by decide)) rfl g_symmetries (ma_cons (ME.mv (me_var (pv 2) rfl)) ma_nil))) rfl)
 (mxs_cons (mx_if (MW.mt (mw_or (mt_not (mt_val (me_callK K o__law_same (hr.mono (by decide)) rfl g__law_same (ma_cons (ME.mv (me_var (pv 7) rfl)) (ma_cons (MN.mv (mn_b (cr_sortedK K hr.units) nn_sorted rfl z_sorted (by decide +kernel) (ma_cons (ME.mv (me_var (pv 6) rfl)) ma_nil))) ma_nil))))) (mw_or1 (mt_cmp (op_neK K hr.units) (v2_ne (K := K)) (ME.mv (me_op op_mul (v2_mul (K := K)) (ME.mv (me_b (call_lenK K) vn_lenS rfl z_len PySem.boot_len (ma_cons (ME.mv (me_var (pv 7) rfl)) ma_nil))) (ME.mv (me_b (call_lenK K) vn_lenS rfl z_len PySem.boot_len (ma_cons (ME.mv (me_var (pv 5) rfl)) ma_nil))))) (ME.mv (me_b (call_lenK K) vn_lenS rfl z_len PySem.boot_len (ma_cons (ME.mv (me_var (pv 4) rfl)) ma_nil))) (nomark _)))))
 (mxs_one (mx_ret me_bl))
 mxs_nil)
 (mxs_cons (mx_if (mt_not (mt_val (me_callK K o__law_same (hr.mono (by decide)) rfl g__law_same (ma_cons (ME.mv (me_callK K o_canonical (hr.mono (by decide)) rfl g_canonical (ma_cons (ME.mv (me_var (pv 2) rfl)) ma_nil))) (ma_cons (ME.mv (me_ix (ix_K K) (v2_ix (K := K)) (ME.mv (me_var (pv 5) rfl)) (ME.mv me_int) (fun _ _ => rfl))) ma_nil)))))
 (mxs_one (mx_ret me_bl))
 mxs_nil)
 (mxs_cons (mx_asgX (mxe_tup (mxa_cons (mxe_ix (ix_K K) (v2_ix (K := K)) (ME.x (me_var (pv 7) rfl)) (mxe_call K o__law_draw (hr.mono (by decide)) rfl g__law_draw (pv 1) rfl (mxa_cons (ME.x (me_b (call_lenK K) vn_lenS rfl z_len PySem.boot_len (ma_cons (ME.mv (me_var (pv 7) rfl)) ma_nil))) mxa_nil)) (fun _ _ => rfl)) (mxa_cons (mxe_ix (ix_K K) (v2_ix (K := K)) (ME.x (me_var (pv 7) rfl)) (mxe_call K o__law_draw (hr.mono (by decide)) rfl g__law_draw (pv 1) rfl (mxa_cons (ME.x (me_b (call_lenK K) vn_lenS rfl z_len PySem.boot_len (ma_cons (ME.mv (me_var (pv 7) rfl)) ma_nil))) mxa_nil)) (fun _ _ => rfl)) mxa_nil))) (mg_tupK K rfl (mgs_cons (mg_name (pg_name (i := 14) sc_law.nd rfl (by first | exact .inl rfl | exact .inr rfl)) rfl) (mgs_cons (mg_name (pg_name (i := 15) sc_law.nd rfl (by first | exact .inl rfl | exact .inr rfl)) rfl) mgs_nil))))
 (mxs_cons (mx_setE (i := 8) sc_law.nd rfl (by first | exact .inl rfl | exact .inr rfl) (me_ty (call_tupleK K) vn_tupleK rfl z_tuple (by decide +kernel) (ma_cons (MN.mv (mn_lc (own := [("v", 21)]) rfl sc_law.nd  (mi_range1 rfl z_range (ma_cons (ME.mv (me_var (pv 3) rfl)) ma_nil)) (blkOk_by (own := [("v", 21)]) (N := N_law) (sc := (defScope s_law)) (by decide +kernel)) (fun _ _ _ _ _ => (mg_name (pg_name (i := 21) sc_law.nd rfl (by first | exact .inl rfl | exact .inr rfl)) rfl)) (fun _ _ _ _ _ => mts_nil) (fun _ _ _ _ _ => (me_ix (ix_K K) (v2_ix (K := K)) (ME.mv (me_var (pv 15) rfl)) (ME.mv (me_ix (ix_K K) (v2_ix (K := K)) (ME.mv (me_var (pv 14) rfl)) (ME.mv (me_var (pv 21) rfl)) (fun _ _ => rfl))) (fun _ _ => rfl))) (by decide))) ma_nil)) rfl)
 (mxs_cons (mx_setE (i := 9) sc_law.nd rfl (by first | exact .inl rfl | exact .inr rfl) (me_ty (call_tupleK K) vn_tupleK rfl z_tuple (by decide +kernel) (ma_cons (MN.mv (mn_lc (own := [("v", 21)]) rfl sc_law.nd  (mi_range1 rfl z_range (ma_cons (ME.mv (me_var (pv 3) rfl)) ma_nil)) (blkOk_by (own := [("v", 21)]) (N := N_law) (sc := (defScope s_law)) (by decide +kernel)) (fun _ _ _ _ _ => (mg_name (pg_name (i := 21) sc_law.nd rfl (by first | exact .inl rfl | exact .inr rfl)) rfl)) (fun _ _ _ _ _ => mts_nil) (fun _ _ _ _ _ => (me_tupIx (ME.mv (me_var (pv 14) rfl)) (ME.mv (me_var (pv 21) rfl)))) (by decide))) ma_nil)) rfl)
 (mxs_cons (mx_if (MW.mt (mw_or (mt_cmp (op_notInK K hr.units) (v2_notIn (K := K)) (ME.mv (me_var (pv 8) rfl)) (ME.mv (me_var (pv 7) rfl)) (by rfl)) (mw_or (mt_cmp (op_notInK K hr.units) (v2_notIn (K := K)) (ME.mv (me_var (pv 9) rfl)) (ME.mv (me_var (pv 7) rfl)) (by rfl)) (mw_or1 (mt_cmp (op_notInK K hr.units) (v2_notIn (K := K)) (ME.mv (me_tupRg rfl z_tuple rfl z_range (ME.mv (me_var (pv 3) rfl)))) (ME.mv (me_var (pv 7) rfl)) (by rfl))))))
 (mxs_one (mx_ret me_bl))
 mxs_nil)
 (mxs_cons (mx_setX (i := 10) sc_law.nd rfl (by first | exact .inl rfl | exact .inr rfl) (mxe_ix (ix_K K) (v2_ix (K := K)) (ME.x (me_var (pv 4) rfl)) (mxe_call K o__law_draw (hr.mono (by decide)) rfl g__law_draw (pv 1) rfl (mxa_cons (ME.x (me_b (call_lenK K) vn_lenS rfl z_len PySem.boot_len (ma_cons (ME.mv (me_var (pv 4) rfl)) ma_nil))) mxa_nil)) (fun _ _ => rfl)) rfl)
 (mxs_cons (mx_setE (i := 11) sc_law.nd rfl (by first | exact .inl rfl | exact .inr rfl) (me_callK K o_renamed (hr.mono (by decide)) rfl g_renamed (ma_cons (ME.mv (me_var (pv 2) rfl)) (ma_cons (ME.mv (me_var (pv 10) rfl)) ma_nil))) rfl)
 (mxs_cons (mx_if (MW.mt (mw_or (mt_cmp (op_neK K hr.units) (v2_ne (K := K)) (ME.mv (me_var (pv 11) rfl)) (ME.mv (me_callK K o__law_renamed (hr.mono (by decide)) rfl g__law_renamed (ma_cons (ME.mv (me_var (pv 2) rfl)) (ma_cons (ME.mv (me_var (pv 10) rfl)) ma_nil)))) (nomark _)) (mw_or (mt_cmp (op_neK K hr.units) (v2_ne (K := K)) (ME.mv (me_callK K o_canonical (hr.mono (by decide)) rfl g_canonical (ma_cons (ME.mv (me_var (pv 11) rfl)) ma_nil))) (ME.mv (me_ix (ix_K K) (v2_ix (K := K)) (ME.mv (me_var (pv 5) rfl)) (ME.mv me_int) (fun _ _ => rfl))) (nomark _)) (mw_or1 (mt_cmp (op_neK K hr.units) (v2_ne (K := K)) (ME.mv (me_b (call_lenK K) vn_lenS rfl z_len PySem.boot_len (ma_cons (MN.mv (mn_callK K o_symmetries (hr.mono (by decide)) rfl g_symmetries (ma_cons (ME.mv (me_var (pv 11) rfl)) ma_nil))) ma_nil))) (ME.mv (me_b (call_lenK K) vn_lenS rfl z_len PySem.boot_len (ma_cons (ME.mv (me_var (pv 7) rfl)) ma_nil))) (nomark _))))))
 (mxs_one (mx_ret me_bl))
 mxs_nil)
 (mxs_cons (mx_setLcS (i := 12) rfl (own := [("one", 14)]) rfl sc_law.nd rfl rfl (sw_true rfl rfl rfl (by decide +kernel)) (mi_seqVK K (ME.mv (me_var (pv 7) rfl))) (blkOk_by (own := [("one", 14)]) (N := N_law) (sc := (defScope s_law)) (by decide +kernel)) (fun _ _ _ _ _ => (mg_name (pg_name (i := 14) sc_law.nd rfl (by first | exact .inl rfl | exact .inr rfl)) rfl)) (fun _ _ _ _ _ => mts_nil) (fun _ _ _ _ _ => (me_ty (call_tupleK K) vn_tupleK rfl z_tuple (by decide +kernel) (ma_cons (MN.mv (mn_lc (own := [("v", 21)]) rfl sc_law.nd  (mi_range1 rfl z_range (ma_cons (ME.mv (me_var (pv 3) rfl)) ma_nil)) (blkOk_by (own := [("v", 21)]) (by kernel_rfl)) (fun _ _ _ _ _ => (mg_name (pg_name (i := 21) sc_law.nd rfl (by first | exact .inl rfl | exact .inr rfl)) rfl)) (fun _ _ _ _ _ => mts_nil) (fun _ _ _ _ _ => (me_ix (ix_K K) (v2_ix (K := K)) (ME.mv (me_var (pv 10) rfl)) (ME.mv (me_ix (ix_K K) (v2_ix (K := K)) (ME.mv (me_var (pv 14) rfl)) (ME.mv (me_tupIx (ME.mv (me_var (pv 10) rfl)) (ME.mv (me_var (pv 21) rfl)))) (fun _ _ => rfl))) (fun _ _ => rfl))) (by decide))) ma_nil))) (by decide))
 (mxs_cons (mx_if (mt_cmp (op_neK K hr.units) (v2_ne (K := K)) (MN.mv (mn_b (cr_sortedK K hr.units) nn_sorted rfl z_sorted (by decide +kernel) (ma_cons (ME.mv (me_var (pv 12) rfl)) ma_nil))) (MN.mv (mn_callK K o_symmetries (hr.mono (by decide)) rfl g_symmetries (ma_cons (ME.mv (me_var (pv 11) rfl)) ma_nil))) (nomark _))
 (mxs_one (mx_ret me_bl))
 mxs_nil)
 (mxs_cons (mx_par (i := 16) (j := 17) rfl rfl rfl sc_law.nd rfl rfl (by decide) rfl rfl (ms_cons (MN.me (mn_callK K o_rounds_of_degrees (hr.mono (by decide)) rfl g_rounds_of_degrees (ma_cons (ME.mv (me_var (pv 2) rfl)) ma_nil))) (ms_cons (MN.me (mn_callK K o_rounds_of_degrees (hr.mono (by decide)) rfl g_rounds_of_degrees (ma_cons (ME.mv (me_var (pv 11) rfl)) ma_nil))) ms_nil)) (by rfl))
 (mxs_cons (mx_if (MW.mt (mw_or (mt_cmp (op_neK K hr.units) (v2_ne (K := K)) (ME.mv (me_b (call_lenK K) vn_lenS rfl z_len PySem.boot_len (ma_cons (ME.mv (me_var (pv 16) rfl)) ma_nil))) (ME.mv (me_b (call_lenK K) vn_lenS rfl z_len PySem.boot_len (ma_cons (ME.mv (me_var (pv 17) rfl)) ma_nil))) (nomark _)) (mw_or1 (mt_cmp (op_neK K hr.units) (v2_ne (K := K)) (ME.mv (me_ix (ix_K K) (v2_ix (K := K)) (ME.mv (me_var (pv 16) rfl)) (ME.mv me_int) (fun _ _ => rfl))) (MN.mv (mn_lc (own := [("v", 21)]) rfl sc_law.nd  (mi_range1 rfl z_range (ma_cons (ME.mv (me_var (pv 3) rfl)) ma_nil)) (blkOk_by (own := [("v", 21)]) (N := N_law) (sc := (defScope s_law)) (by decide +kernel)) (fun _ _ _ _ _ => (mg_name (pg_name (i := 21) sc_law.nd rfl (by first | exact .inl rfl | exact .inr rfl)) rfl)) (fun _ _ _ _ _ => mts_nil) (fun _ _ _ _ _ => (me_b (call_lenK K) vn_lenS rfl z_len PySem.boot_len (ma_cons (ME.mv (me_callK K o__law_near (hr.mono (by decide)) rfl g__law_near (ma_cons (ME.mv (me_var (pv 2) rfl)) (ma_cons (ME.mv (me_var (pv 21) rfl)) ma_nil)))) ma_nil))) (by decide))) (nomark _)))))
 (mxs_one (mx_ret me_bl))
 mxs_nil)
 (mxs_cons (mx_for PassesOwn.never rfl (mi_range1 rfl z_range (ma_cons (ME.mv (me_b (call_lenK K) vn_lenS rfl z_len PySem.boot_len (ma_cons (ME.mv (me_var (pv 16) rfl)) ma_nil))) ma_nil)) (mg_name (pg_name (i := 13) sc_law.nd rfl (by first | exact .inl rfl | exact .inr rfl)) rfl)
 (mxs_cons (mx_par (i := 18) (j := 19) rfl rfl rfl sc_law.nd rfl rfl (by decide) rfl rfl (ms_cons (me_ix (ix_K K) (v2_ix (K := K)) (ME.mv (me_var (pv 16) rfl)) (ME.mv (me_var (pv 13) rfl)) (fun _ _ => rfl)) (ms_cons (me_ix (ix_K K) (v2_ix (K := K)) (ME.mv (me_var (pv 17) rfl)) (ME.mv (me_var (pv 13) rfl)) (fun _ _ => rfl)) ms_nil)) (by rfl))
 (mxs_one (mx_for PassesOwn.never rfl (mi_seqK K (me_callK K o__law_pairs (hr.mono (by decide)) rfl g__law_pairs (ma_cons (ME.mv (me_var (pv 3) rfl)) ma_nil))) (mg_tupK K rfl (mgs_cons (mg_name (pg_name (i := 20) sc_law.nd rfl (by first | exact .inl rfl | exact .inr rfl)) rfl) (mgs_cons (mg_name (pg_name (i := 21) sc_law.nd rfl (by first | exact .inl rfl | exact .inr rfl)) rfl) mgs_nil)))
 (mxs_cons (mx_if (mt_cmp (op_neK K hr.units) (v2_ne (K := K)) (ME.mv (me_cmp (op_eqK K hr.units) (v2_eq (K := K)) (ME.mv (me_ix (ix_K K) (v2_ix (K := K)) (ME.mv (me_var (pv 18) rfl)) (ME.mv (me_var (pv 20) rfl)) (fun _ _ => rfl))) (ME.mv (me_ix (ix_K K) (v2_ix (K := K)) (ME.mv (me_var (pv 18) rfl)) (ME.mv (me_var (pv 21) rfl)) (fun _ _ => rfl))) (nomark _))) (ME.mv (me_cmp (op_eqK K hr.units) (v2_eq (K := K)) (ME.mv (me_ix (ix_K K) (v2_ix (K := K)) (ME.mv (me_var (pv 19) rfl)) (ME.mv (me_ix (ix_K K) (v2_ix (K := K)) (ME.mv (me_var (pv 10) rfl)) (ME.mv (me_var (pv 20) rfl)) (fun _ _ => rfl))) (fun _ _ => rfl))) (ME.mv (me_ix (ix_K K) (v2_ix (K := K)) (ME.mv (me_var (pv 19) rfl)) (ME.mv (me_ix (ix_K K) (v2_ix (K := K)) (ME.mv (me_var (pv 10) rfl)) (ME.mv (me_var (pv 21) rfl)) (fun _ _ => rfl))) (fun _ _ => rfl))) (nomark _))) (nomark _))
 (mxs_one (mx_ret me_bl))
 mxs_nil)
 (mxs_one (mx_if (MW.mt (mw_and (mt_cmp op_gt (v2_gt (K := K)) (ME.mv (me_b (call_lenK K) vn_lenS rfl z_len PySem.boot_len (ma_cons (MN.mv (mn_lc (own := [("one", 14)]) rfl sc_law.nd  (mi_seqVK K (ME.mv (me_var (pv 7) rfl))) (blkOk_by (own := [("one", 14)]) (N := N_law) (sc := (defScope s_law)) (by decide +kernel)) (fun _ _ _ _ _ => (mg_name (pg_name (i := 14) sc_law.nd rfl (by first | exact .inl rfl | exact .inr rfl)) rfl)) (fun _ _ _ _ _ => (mts_one (mt_cmp (op_eqK K hr.units) (v2_eq (K := K)) (ME.mv (me_ix (ix_K K) (v2_ix (K := K)) (ME.mv (me_var (pv 14) rfl)) (ME.mv (me_var (pv 20) rfl)) (fun _ _ => rfl))) (ME.mv (me_var (pv 21) rfl)) (nomark _)))) (fun _ _ _ _ _ => (me_var (pv 14) rfl)) (by decide))) ma_nil))) (ME.mv me_int) (nomark _)) (mw_and1 (mt_cmp (op_neK K hr.units) (v2_ne (K := K)) (ME.mv (me_ix (ix_K K) (v2_ix (K := K)) (ME.mv (me_var (pv 18) rfl)) (ME.mv (me_var (pv 20) rfl)) (fun _ _ => rfl))) (ME.mv (me_ix (ix_K K) (v2_ix (K := K)) (ME.mv (me_var (pv 18) rfl)) (ME.mv (me_var (pv 21) rfl)) (fun _ _ => rfl))) (nomark _)))))
 (mxs_one (mx_ret me_bl))
 mxs_nil)))))))
 (mxs_one (mx_ret me_bl)))))))))))))))))))))))⟩

end
end K53
/-! THE PLAIN LAW, part 2: what the small defs give. -/
namespace K53
open PySem PySem.Spec L2 Mx Pm Pl

theorem min_cast (u v : Nat) : (if (v : Int) < (u : Int) then (v : Int) else (u : Int)) = ((min u v : Nat) : Int) := by
  split <;> omega
theorem max_cast (u v : Nat) : (if (v : Int) > (u : Int) then (v : Int) else (u : Int)) = ((max u v : Nat) : Int) := by
  split <;> omega
def pr (u v : Nat) : Nat × Nat := (min u v, max u v)
theorem ev_pair (u v : Nat) : m_pair_of [iD u, iD v] = some (pD (pr u v)) := by
  unfold m_pair_of F_pair_of defF
  simp only [fSeq, fSet, fIfS, fRet, fNx, fVar, fC, f1, f2, fNil, fCons, fCall, fTup, fLst, fTest, fAnd, fOr, fNot, fAndV, fOrV, fNotV, fAsg, fPar, fNo, setN, setTup, setCons, setNil, argE, Option.bind_some, Option.bind_none, Option.map_some, Option.map_none, List.map_cons, List.map_nil, List.length_cons, List.length_nil, List.set_cons_zero, List.set_cons_succ, List.set_nil, List.getElem?_cons_zero, List.getElem?_cons_succ, List.getElem?_nil, List.cons_append, List.nil_append, List.replicate, Nat.sub_self, Nat.reduceAdd, Nat.reduceSub, Nat.reduceLeDiff, Nat.reduceEqDiff, if_true, if_false, ite_true, ite_false, Bool.false_eq_true, isL, notL, items, fItems, dIx, dAdd, dSub, dMul, dMin2, dMax2, dLt, dLe, dGt, dGe, dLenS, dInt, dNeg, dTuple, dList, wipeE, fStar, Bool.not_true, Bool.not_false, min_cast, max_cast]
  rfl
theorem ix1 (n : Nat) (es : List (Nat × Nat)) : dIx (gE n es) (.int 1) = some (esD es) := rfl
theorem ix0 (n : Nat) (es : List (Nat × Nat)) : dIx (gE n es) (.int 0) = some (iD n) := rfl
theorem in_es (es : List (Nat × Nat)) (p : Nat × Nat) : dIn (pD p) (esD es) = some (.bool (decide (p ∈ es))) := by
  unfold dIn
  rw [show items (esD es) = some (es.map pD) from rfl, Option.bind_some, if_pos (by rw [shal_p]; rfl), any_eqv pD eqv_p]
  congr
theorem ev_are (n : Nat) (es : List (Nat × Nat)) (u v : Nat) : m_are_neighbours [gE n es, iD u, iD v] = some (.bool (decide (pr u v ∈ es))) := by
  unfold m_are_neighbours F_are_neighbours defF
  have e := ev_pair u v
  have e1 := ix1 n es
  have e2 := in_es es (pr u v)
  simp only [fSeq, fSet, fIfS, fRet, fNx, fVar, fC, f1, f2, fNil, fCons, fCall, fTup, fLst, fTest, fAnd, fOr, fNot, fAndV, fOrV, fNotV, fAsg, fPar, fNo, setN, setTup, setCons, setNil, argE, Option.bind_some, Option.bind_none, Option.map_some, Option.map_none, List.map_cons, List.map_nil, List.length_cons, List.length_nil, List.set_cons_zero, List.set_cons_succ, List.set_nil, List.getElem?_cons_zero, List.getElem?_cons_succ, List.getElem?_nil, List.cons_append, List.nil_append, List.replicate, Nat.sub_self, Nat.reduceAdd, Nat.reduceSub, Nat.reduceLeDiff, Nat.reduceEqDiff, if_true, if_false, ite_true, ite_false, Bool.false_eq_true, isL, notL, items, fItems, dIx, dAdd, dSub, dMul, dMin2, dMax2, dLt, dLe, dGt, dGe, dLenS, dInt, dNeg, dTuple, dList, wipeE, fStar, Bool.not_true, Bool.not_false] at *
  simp only [e, e1, e2, fSeq, fSet, fIfS, fRet, fNx, fVar, fC, f1, f2, fNil, fCons, fCall, fTup, fLst, fTest, fAnd, fOr, fNot, fAndV, fOrV, fNotV, fAsg, fPar, fNo, setN, setTup, setCons, setNil, argE, Option.bind_some, Option.bind_none, Option.map_some, Option.map_none, List.map_cons, List.map_nil, List.length_cons, List.length_nil, List.set_cons_zero, List.set_cons_succ, List.set_nil, List.getElem?_cons_zero, List.getElem?_cons_succ, List.getElem?_nil, List.cons_append, List.nil_append, List.replicate, Nat.sub_self, Nat.reduceAdd, Nat.reduceSub, Nat.reduceLeDiff, Nat.reduceEqDiff, if_true, if_false, ite_true, ite_false, Bool.false_eq_true, isL, notL, items, fItems, dIx, dAdd, dSub, dMul, dMin2, dMax2, dLt, dLe, dGt, dGe, dLenS, dInt, dNeg, dTuple, dList, wipeE, fStar, Bool.not_true, Bool.not_false]
theorem ev_lare (n : Nat) (es : List (Nat × Nat)) (u v : Nat) : m__law_are [gE n es, iD u, iD v] = some (.bool (decide (pr u v ∈ es))) := by
  unfold m__law_are F__law_are defF
  have e1 := ix1 n es
  have e2 := in_es es (pr u v)
  simp only [fSeq, fSet, fIfS, fRet, fNx, fVar, fC, f1, f2, fNil, fCons, fCall, fTup, fLst, fTest, fAnd, fOr, fNot, fAndV, fOrV, fNotV, fAsg, fPar, fNo, setN, setTup, setCons, setNil, argE, Option.bind_some, Option.bind_none, Option.map_some, Option.map_none, List.map_cons, List.map_nil, List.length_cons, List.length_nil, List.set_cons_zero, List.set_cons_succ, List.set_nil, List.getElem?_cons_zero, List.getElem?_cons_succ, List.getElem?_nil, List.cons_append, List.nil_append, List.replicate, Nat.sub_self, Nat.reduceAdd, Nat.reduceSub, Nat.reduceLeDiff, Nat.reduceEqDiff, if_true, if_false, ite_true, ite_false, Bool.false_eq_true, isL, notL, items, fItems, dIx, dAdd, dSub, dMul, dMin2, dMax2, dLt, dLe, dGt, dGe, dLenS, dInt, dNeg, dTuple, dList, wipeE, fStar, Bool.not_true, Bool.not_false, min_cast, max_cast] at *
  simp only [e1, fSeq, fSet, fIfS, fRet, fNx, fVar, fC, f1, f2, fNil, fCons, fCall, fTup, fLst, fTest, fAnd, fOr, fNot, fAndV, fOrV, fNotV, fAsg, fPar, fNo, setN, setTup, setCons, setNil, argE, Option.bind_some, Option.bind_none, Option.map_some, Option.map_none, List.map_cons, List.map_nil, List.length_cons, List.length_nil, List.set_cons_zero, List.set_cons_succ, List.set_nil, List.getElem?_cons_zero, List.getElem?_cons_succ, List.getElem?_nil, List.cons_append, List.nil_append, List.replicate, Nat.sub_self, Nat.reduceAdd, Nat.reduceSub, Nat.reduceLeDiff, Nat.reduceEqDiff, if_true, if_false, ite_true, ite_false, Bool.false_eq_true, isL, notL, items, fItems, dIx, dAdd, dSub, dMul, dMin2, dMax2, dLt, dLe, dGt, dGe, dLenS, dInt, dNeg, dTuple, dList, wipeE, fStar, Bool.not_true, Bool.not_false, min_cast, max_cast]
  rw [show (PyData.tuple [PyData.int ((min u v : Nat) : Int), PyData.int ((max u v : Nat) : Int)]) = pD (pr u v) from rfl, e2]
  rfl
end K53

/-! THE PLAIN LAW, part 3: neighbours, graphs made. -/
namespace K53
open PySem PySem.Spec L2 Mx Pm Pl

theorem defF_rt {n m : Nat} {F : Fs} {ds : List D} {d : D} {ρ : En} (hl : ds.length = m) (h : F (argE n m ds) = some (.rt d ρ)) : defF n m F ds = some d := by
  unfold defF
  rw [if_pos hl, h]; rfl
theorem defN_rt {n m : Nat} {F : Fs} {ds : List D} {d : D} {ρ : En} (hl : ds.length = m) (h : F (argE n m ds) = some (.rt d ρ)) : defN n m F ds = some d := by
  unfold defN
  rw [if_pos hl, h]; rfl
theorem ret_ok {f : Fx} {ρ : En} {d : D} (h : f ρ = some d) : fRet f ρ = some (.rt d ρ) := by
  unfold fRet
  rw [h]; rfl
theorem seq_nx {F G : Fs} {ρ ρ' : En} {o : Out} (h : F ρ = some (.nx ρ')) (k : G ρ' = some o) : fSeq F G ρ = some o := by
  unfold fSeq
  rw [h]; exact k
theorem seq_rt {F G : Fs} {ρ ρ' : En} {d : D} (h : F ρ = some (.rt d ρ')) : fSeq F G ρ = some (.rt d ρ') := by
  unfold fSeq
  rw [h]; rfl
theorem set_nx {i : Nat} {f : Fx} {ρ : En} {d : D} (h : f ρ = some d) : fSet i f ρ = some (.nx (ρ.set i (some d))) := by
  unfold fSet
  rw [h]; rfl
theorem if_t {c : En → Option Bool} {F G : Fs} {ρ : En} {o : Out} (h : c ρ = some true) (k : F ρ = some o) : fIfS c F G ρ = some o := by
  unfold fIfS
  rw [h]; exact k
theorem if_f {c : En → Option Bool} {F G : Fs} {ρ : En} {o : Out} (h : c ρ = some false) (k : G ρ = some o) : fIfS c F G ρ = some o := by
  unfold fIfS
  rw [h]; exact k
theorem if_nx {c : En → Option Bool} {F : Fs} {ρ : En} (h : c ρ = some false) : fIfS c F fNx ρ = some (.nx ρ) := if_f h rfl
theorem flat_len {α β : Type} {f : α → List β} {c : Nat} : ∀ {l : List α}, (∀ x ∈ l, (f x).length ≤ c) → (l.flatMap f).length ≤ l.length * c
  | [], _ => by simp
  | x :: l, h => by
    have h1 := h x (by simp)
    have h2 := flat_len (l := l) (f := f) (c := c) fun y hy => h y (by simp [hy])
    rw [List.flatMap_cons, List.length_append, List.length_cons, Nat.add_mul]
    omega
theorem prs_len (n : Nat) : (prs n).length ≤ n * n := by
  unfold prs
  have := flat_len (l := List.range n) (f := fun u => (List.range' (u + 1) (n - (u + 1))).map fun v => (u, v)) (c := n) fun x _ => by simp
  simpa using this
theorem eL_len (n : Nat) (A : Nat → Nat → Bool) : (eL n A).length ≤ n * n := Nat.le_trans (List.length_filter_le _ _) (prs_len n)
theorem eL_big {n : Nat} (h : n ≤ 60) (A : Nat → Nat → Bool) : (eL n A).length ≤ 3600 := Nat.le_trans (eL_len n A) (Nat.le_trans (Nat.mul_le_mul h h) (by decide))
theorem pr_mem {n : Nat} {A : Nat → Nat → Bool} (g : Gr n A) {u v : Nat} (hu : u < n) (hv : v < n) : decide (pr u v ∈ eL n A) = A u v := by
  have e : (pr u v ∈ eL n A) ↔ A u v = true := by
    unfold pr
    rw [mem_eL]
    rcases Nat.lt_trichotomy u v with l | l | l
    · rw [Nat.min_eq_left (by omega), Nat.max_eq_right (by omega)]
      exact ⟨fun h => h.2.2, fun h => ⟨l, hv, h⟩⟩
    · subst l
      simp [g.irr]
    · rw [Nat.min_eq_right (by omega), Nat.max_eq_left (by omega), g.sym v u]
      exact ⟨fun h => h.2.2, fun h => ⟨l, hu, h⟩⟩
  cases h : A u v
  · exact decide_eq_false fun z => by rw [e.mp z] at h; cases h
  · exact decide_eq_true (e.mpr h)
theorem are_A {n : Nat} {A : Nat → Nat → Bool} (g : Gr n A) {u v : Nat} (hu : u < n) (hv : v < n) : m_are_neighbours [gD n A, iD u, iD v] = some (.bool (A u v)) := by rw [ev_are, pr_mem g hu hv]
theorem lare_A {n : Nat} {A : Nat → Nat → Bool} (g : Gr n A) {u v : Nat} (hu : u < n) (hv : v < n) : m__law_are [gD n A, iD u, iD v] = some (.bool (A u v)) := by rw [ev_lare, pr_mem g hu hv]
theorem eq_i (a b : Nat) : dEq (iD a) (iD b) = some (.bool (decide (a = b))) := by
  unfold dEq
  rw [if_pos (by rw [shal_i]; rfl), eqv_i]
theorem ne_i (a b : Nat) : dNe (iD a) (iD b) = some (.bool (!decide (a = b))) := by
  unfold dNe
  rw [if_pos (by rw [shal_i]; rfl), eqv_i]
/-- the neighbours of v, upwards -/
def nb (n : Nat) (A : Nat → Nat → Bool) (v : Nat) : List Nat := (List.range n).filter (A v)
theorem sorted_ints (l : List Nat) (h : l.length ≤ 100000) : dSorted [.list (l.map iD)] = some (.list (sortD (l.map iD))) := by
  show (if (dataOk (l.map iD) && tupsOrNot (l.map iD) && (l.map iD).all shal && decide ((l.map iD).length ≤ 100000)) = true then some (PyData.list (sortD (l.map iD))) else none) = _
  rw [if_pos]
  rw [dataOk_map iD (fun _ _ => by simp [PySem.W.alike]), all_map_true iD shal l shal_i]
  have : tupsOrNot (l.map iD) = true := by
    unfold tupsOrNot
    rw [Bool.or_eq_true]
    exact .inr (all_map_true iD _ l fun _ => rfl)
  rw [this]
  simpa using h
theorem nb_perm {n : Nat} {A : Nat → Nat → Bool} (g : Gr n A) {v : Nat} (hv : v < n) : (((eL n A).filter fun p => decide (p.1 = v) || decide (p.2 = v)).map fun p => p.1 + p.2 - v).Perm (nb n A v) := by
  have sub : ∀ p, p ∈ (eL n A).filter (fun p => decide (p.1 = v) || decide (p.2 = v)) → p.1 < p.2 ∧ p.2 < n ∧ A p.1 p.2 = true ∧ (p.1 = v ∨ p.2 = v) := fun p hp => by
    rw [List.mem_filter] at hp
    obtain ⟨h1, h2, h3⟩ := mem_eL.mp (show (p.1, p.2) ∈ eL n A from hp.1)
    have := hp.2
    simp only [Bool.or_eq_true, decide_eq_true_eq] at this
    exact ⟨h1, h2, h3, this⟩
  refine perm_map (((eL_sorted n A).imp fun {a b} h e => ?_).filter _) ((List.nodup_range (n := n)).filter _) (fun p hp q hq e => ?_) (fun p hp => ?_) fun w hw => ?_
  · subst e; unfold plt at h; omega
  · obtain ⟨a1, a2, a3, a4⟩ := sub p hp
    obtain ⟨b1, b2, b3, b4⟩ := sub q hq
    have e : p.1 + p.2 - v = q.1 + q.2 - v := e
    refine Prod.ext ?_ ?_ <;> omega
  · obtain ⟨a1, a2, a3, a4⟩ := sub p hp
    unfold nb
    rw [List.mem_filter, List.mem_range]
    rcases a4 with z | z
    · refine ⟨by omega, ?_⟩
      rw [show p.1 + p.2 - v = p.2 by omega, ← z]; exact a3
    · refine ⟨by omega, ?_⟩
      rw [show p.1 + p.2 - v = p.1 by omega, g.sym, ← z]; exact a3
  · unfold nb at hw
    rw [List.mem_filter, List.mem_range] at hw
    obtain ⟨h1, h2⟩ := hw
    rcases Nat.lt_trichotomy v w with l | l | l
    · refine ⟨(v, w), ?_, by show v + w - v = w; omega⟩
      rw [List.mem_filter]
      exact ⟨mem_eL.mpr ⟨l, h1, h2⟩, by simp⟩
    · subst l
      rw [g.irr] at h2; cases h2
    · refine ⟨(w, v), ?_, by show w + v - v = w; omega⟩
      rw [List.mem_filter]
      exact ⟨mem_eL.mpr ⟨l, hv, by rw [g.sym]; exact h2⟩, by simp⟩
theorem nb_sorted (n : Nat) (A : Nat → Nat → Bool) (v : Nat) : (nb n A v).Pairwise (· ≤ ·) := ((List.pairwise_lt_range (n := n)).imp fun h => Nat.le_of_lt h).filter _
theorem ev_nb {n : Nat} {A : Nat → Nat → Bool} (hn : n ≤ 60) (g : Gr n A) {v : Nat} (hv : v < n) : m_neighbours [gD n A, iD v] = some (.list ((nb n A v).map iD)) := by
  unfold m_neighbours F_neighbours
  refine defF_rt rfl (ret_ok ?_)
  have e : fLc (fItems (f2 dIx (fVar 0) (fC (.int 1)))) (setTup (setCons (setN 2) (setCons (setN 3) setNil))) (fOr (fTest (f2 dEq (fVar 2) (fVar 1))) (fTest (f2 dEq (fVar 3) (fVar 1)))) (f2 dSub (f2 dAdd (fVar 2) (fVar 3)) (fVar 1)) [2, 3] (argE 4 2 [gD n A, iD v]) =
      some (.list (((eL n A).filter fun p => decide (p.1 = v) || decide (p.2 = v)).map fun p => iD (p.1 + p.2 - v))) := by
    refine fLc_eq pD (fun p => decide (p.1 = v) || decide (p.2 = v)) (fun p => iD (p.1 + p.2 - v)) (eL n A) rfl (Nat.le_trans (eL_big hn A) (by decide)) fun p hp => ⟨_, rfl, ?_, fun hc => ?_⟩
    · have e1 := eq_i p.1 v
      have e2 := eq_i p.2 v
      simp only [fSeq, fSet, fIfS, fRet, fNx, fVar, fC, f1, f2, fNil, fCons, fCall, fTup, fLst, fTest, fAnd, fOr, fNot, fAndV, fOrV, fNotV, fAsg, fPar, fNo, setN, setTup, setCons, setNil, argE, Option.bind_some, Option.bind_none, Option.map_some, Option.map_none, List.map_cons, List.map_nil, List.length_cons, List.length_nil, List.set_cons_zero, List.set_cons_succ, List.set_nil, List.getElem?_cons_zero, List.getElem?_cons_succ, List.getElem?_nil, List.cons_append, List.nil_append, List.replicate, Nat.sub_self, Nat.reduceAdd, Nat.reduceSub, Nat.reduceLeDiff, Nat.reduceEqDiff, if_true, if_false, ite_true, ite_false, Bool.false_eq_true, isL, notL, items, fItems, dIx, dAdd, dSub, dMul, dMin2, dMax2, dLt, dLe, dGt, dGe, dLenS, dInt, dNeg, dTuple, dList, wipeE, fStar, Bool.not_true, Bool.not_false] at *
      simp only [e1, e2, fSeq, fSet, fIfS, fRet, fNx, fVar, fC, f1, f2, fNil, fCons, fCall, fTup, fLst, fTest, fAnd, fOr, fNot, fAndV, fOrV, fNotV, fAsg, fPar, fNo, setN, setTup, setCons, setNil, argE, Option.bind_some, Option.bind_none, Option.map_some, Option.map_none, List.map_cons, List.map_nil, List.length_cons, List.length_nil, List.set_cons_zero, List.set_cons_succ, List.set_nil, List.getElem?_cons_zero, List.getElem?_cons_succ, List.getElem?_nil, List.cons_append, List.nil_append, List.replicate, Nat.sub_self, Nat.reduceAdd, Nat.reduceSub, Nat.reduceLeDiff, Nat.reduceEqDiff, if_true, if_false, ite_true, ite_false, Bool.false_eq_true, isL, notL, items, fItems, dIx, dAdd, dSub, dMul, dMin2, dMax2, dLt, dLe, dGt, dGe, dLenS, dInt, dNeg, dTuple, dList, wipeE, fStar, Bool.not_true, Bool.not_false]
      by_cases c : p.1 = v <;> simp [c]
    · simp only [fSeq, fSet, fIfS, fRet, fNx, fVar, fC, f1, f2, fNil, fCons, fCall, fTup, fLst, fTest, fAnd, fOr, fNot, fAndV, fOrV, fNotV, fAsg, fPar, fNo, setN, setTup, setCons, setNil, argE, Option.bind_some, Option.bind_none, Option.map_some, Option.map_none, List.map_cons, List.map_nil, List.length_cons, List.length_nil, List.set_cons_zero, List.set_cons_succ, List.set_nil, List.getElem?_cons_zero, List.getElem?_cons_succ, List.getElem?_nil, List.cons_append, List.nil_append, List.replicate, Nat.sub_self, Nat.reduceAdd, Nat.reduceSub, Nat.reduceLeDiff, Nat.reduceEqDiff, if_true, if_false, ite_true, ite_false, Bool.false_eq_true, isL, notL, items, fItems, dIx, dAdd, dSub, dMul, dMin2, dMax2, dLt, dLe, dGt, dGe, dLenS, dInt, dNeg, dTuple, dList, wipeE, fStar, Bool.not_true, Bool.not_false]
      simp only [Bool.or_eq_true, decide_eq_true_eq] at hc
      have : ((p.1 : Int) + p.2 - v) = ((p.1 + p.2 - v : Nat) : Int) := by omega
      rw [this]
  simp only [f1, fCall, fCons, fNil, e, Option.bind_some, Option.map_some]
  rw [show ((eL n A).filter fun p => decide (p.1 = v) || decide (p.2 = v)).map (fun p => iD (p.1 + p.2 - v)) = ((((eL n A).filter fun p => decide (p.1 = v) || decide (p.2 = v)).map fun p => p.1 + p.2 - v)).map iD from by rw [List.map_map]; rfl]
  rw [sorted_ints _ (by
    rw [List.length_map]
    exact Nat.le_trans (List.length_filter_le _ _) (Nat.le_trans (eL_big hn A) (by decide)))]
  rw [sort_ints (nb_perm g hv) (nb_sorted n A v)]
  rfl
theorem ev_near {n : Nat} {A : Nat → Nat → Bool} (hn : n ≤ 60) (g : Gr n A) {v : Nat} (hv : v < n) : m__law_near [gD n A, iD v] = some (.list ((nb n A v).map iD)) := by
  unfold m__law_near F__law_near
  refine defF_rt rfl (ret_ok ?_)
  have e : fLc (fun ρ => ((fCons (f2 dIx (fVar 0) (fC (.int 0))) fNil) ρ).bind rng1) (setN 2) (fAnd (fTest (f2 dNe (fVar 2) (fVar 1))) (fTest (fCall m__law_are (fCons (fVar 0) (fCons (fVar 2) (fCons (fVar 1) fNil)))))) (fVar 2) [2] (argE 3 2 [gD n A, iD v]) =
      some (.list (((List.range n).filter (A v)).map iD)) := by
    refine fLc_eq iD (A v) iD (List.range n) (rng1_eq n (by omega)) (by simp; omega) fun u hu => ⟨_, rfl, ?_, fun _ => rfl⟩
    have hu := List.mem_range.mp hu
    have e1 := ne_i u v
    have e2 := lare_A g hu hv
    simp only [fSeq, fSet, fIfS, fRet, fNx, fVar, fC, f1, f2, fNil, fCons, fCall, fTup, fLst, fTest, fAnd, fOr, fNot, fAndV, fOrV, fNotV, fAsg, fPar, fNo, setN, setTup, setCons, setNil, argE, Option.bind_some, Option.bind_none, Option.map_some, Option.map_none, List.map_cons, List.map_nil, List.length_cons, List.length_nil, List.set_cons_zero, List.set_cons_succ, List.set_nil, List.getElem?_cons_zero, List.getElem?_cons_succ, List.getElem?_nil, List.cons_append, List.nil_append, List.replicate, Nat.sub_self, Nat.reduceAdd, Nat.reduceSub, Nat.reduceLeDiff, Nat.reduceEqDiff, if_true, if_false, ite_true, ite_false, Bool.false_eq_true, isL, notL, items, fItems, dIx, dAdd, dSub, dMul, dMin2, dMax2, dLt, dLe, dGt, dGe, dLenS, dInt, dNeg, dTuple, dList, wipeE, fStar, Bool.not_true, Bool.not_false] at *
    simp only [e1, e2, fSeq, fSet, fIfS, fRet, fNx, fVar, fC, f1, f2, fNil, fCons, fCall, fTup, fLst, fTest, fAnd, fOr, fNot, fAndV, fOrV, fNotV, fAsg, fPar, fNo, setN, setTup, setCons, setNil, argE, Option.bind_some, Option.bind_none, Option.map_some, Option.map_none, List.map_cons, List.map_nil, List.length_cons, List.length_nil, List.set_cons_zero, List.set_cons_succ, List.set_nil, List.getElem?_cons_zero, List.getElem?_cons_succ, List.getElem?_nil, List.cons_append, List.nil_append, List.replicate, Nat.sub_self, Nat.reduceAdd, Nat.reduceSub, Nat.reduceLeDiff, Nat.reduceEqDiff, if_true, if_false, ite_true, ite_false, Bool.false_eq_true, isL, notL, items, fItems, dIx, dAdd, dSub, dMul, dMin2, dMax2, dLt, dLe, dGt, dGe, dLenS, dInt, dNeg, dTuple, dList, wipeE, fStar, Bool.not_true, Bool.not_false]
    by_cases c : u = v
    · subst c; simp [g.irr]
    · simp [c, g.sym u v]
  simp only [f1, e, Option.bind_some, Option.map_some]
  rfl
end K53

/-! THE PLAIN LAW, part 4: graphs made and renamed. -/
namespace K53
open PySem PySem.Spec L2 Mx Pm Pl

theorem pK_inj {p q : Nat × Nat} (h : pK p = pK q) : p = q := by
  have e := congrArg NestedKey.data h
  rw [pK_data, pK_data] at e
  simp only [pD, PyData.tuple.injEq, List.cons.injEq, PyData.int.injEq] at e
  exact Prod.ext (by omega) (by omega)
theorem pK_depth (p : Nat × Nat) : (pK p).depth = 1 := by simp [NestedKey.depth, NestedKey.depthAll]
theorem ded_perm {α : Type} (f : α → NK) (inj : ∀ x y, f x = f y → x = y) {l es : List α} (nd : es.Nodup) (hm : ∀ p, p ∈ es ↔ p ∈ l) : (ded (l.map f)).Perm (es.map f) := by
  refine (List.perm_ext_iff_of_nodup (ded_nodup _) ?_).mpr fun k => ?_
  · rw [List.nodup_iff_pairwise_ne, List.pairwise_map]
    exact (List.nodup_iff_pairwise_ne.mp nd).imp fun h e => h (inj _ _ e)
  · rw [ded_mem, List.mem_map, List.mem_map]
    exact ⟨fun ⟨x, h, e⟩ => ⟨x, (hm x).mpr h, e⟩, fun ⟨x, h, e⟩ => ⟨x, (hm x).mp h, e⟩⟩
theorem plt_nodup {es : List (Nat × Nat)} (h : es.Pairwise plt) : es.Nodup := h.imp fun {a b} h e => by subst e; unfold plt at h; omega
theorem tups_of (l : List D) (h : ∀ d ∈ l, ∃ x r, d = .tuple (x :: r)) : tupsOrNot l = true := by
  unfold tupsOrNot
  rw [Bool.or_eq_true]
  refine .inl (List.all_eq_true.mpr fun d hd => ?_)
  obtain ⟨x, r, e⟩ := h d hd
  rw [e]
theorem sortSet_prs {l es : List (Nat × Nat)} (so : es.Pairwise plt) (hm : ∀ p, p ∈ es ↔ p ∈ l) (hl : es.length < 64) : dSortSet (.list (l.map pD)) = some (.list (es.map pD)) := by
  show (keyDs (l.map pD)).bind (fun ks => if setOk ks = true then some (PyData.list (sortD ((ded ks).map NestedKey.data))) else none) = _
  rw [keyDs_map pK pD pD_key, Option.bind_some]
  have pm := ded_perm pK (fun _ _ h => pK_inj h) (plt_nodup so) hm
  have pd := pm.map NestedKey.data
  rw [map_data pK pD pK_data] at pd
  have ok : setOk (l.map pK) = true := by
    unfold setOk
    simp only [Bool.and_eq_true, decide_eq_true_eq]
    refine ⟨⟨⟨⟨?_, ?_⟩, ?_⟩, ?_⟩, ?_⟩
    · refine List.all_eq_true.mpr fun k hk => ?_
      obtain ⟨p, _, rfl⟩ := List.mem_map.mp hk
      exact decide_eq_true (by rw [pK_depth]; decide)
    · rw [pm.length_eq, List.length_map]; exact hl
    · unfold dataOk
      refine List.all_eq_true.mpr fun d hd => List.all_eq_true.mpr fun e he => ?_
      obtain ⟨x, _, rfl⟩ := List.mem_map.mp (pd.mem_iff.mp hd)
      obtain ⟨y, _, rfl⟩ := List.mem_map.mp (pd.mem_iff.mp he)
      exact alike_p x y
    · refine tups_of _ fun d hd => ?_
      obtain ⟨x, _, rfl⟩ := List.mem_map.mp (pd.mem_iff.mp hd)
      exact ⟨_, _, rfl⟩
    · refine List.all_eq_true.mpr fun d hd => ?_
      obtain ⟨x, _, rfl⟩ := List.mem_map.mp (pd.mem_iff.mp hd)
      exact shal_p x
  rw [if_pos ok]
  have e := sortD_of pm (by rw [map_data pK pD pK_data]; exact dataOk_map pD alike_p es) (pairwise_sort (f := pK) (so.imp fun {x y} z => by
    show (!(PySem.W.dataLt (pK y).data (pK x).data)) = true
    rw [pK_data, pK_data]
    have : PySem.W.dataLe false pD x y = true := by
      rw [le_prs]
      exact decide_eq_true (by unfold plt at z; omega)
    exact this))
  rw [e, map_data pK pD pK_data]
def prq (q : Nat × Nat) : Nat × Nat := pr q.1 q.2
theorem ev_made (n : Nat) {ps es : List (Nat × Nat)} (so : es.Pairwise plt) (hm : ∀ p, p ∈ es ↔ p ∈ ps.map prq) (hl : es.length < 64) (hp : ps.length ≤ 100000) : m__law_made [iD n, .list (ps.map pD)] = some (gE n es) := by
  unfold m__law_made F__law_made
  refine defF_rt rfl (ret_ok ?_)
  have e : fLc (fItems (fVar 1)) (setTup (setCons (setN 2) (setCons (setN 3) setNil))) (fun _ => some true) (fTup (fCons (fCall dMin2 (fCons (fVar 2) (fCons (fVar 3) fNil))) (fCons (fCall dMax2 (fCons (fVar 2) (fCons (fVar 3) fNil))) fNil))) [2, 3] (argE 4 2 [iD n, .list (ps.map pD)]) =
      some (.list (ps.map fun q => pD (prq q))) := by
    refine fLc_map pD (fun q => pD (prq q)) ps rfl hp fun q hq => ⟨_, rfl, ?_⟩
    simp only [fSeq, fSet, fIfS, fRet, fNx, fVar, fC, f1, f2, fNil, fCons, fCall, fTup, fLst, fTest, fAnd, fOr, fNot, fAndV, fOrV, fNotV, fAsg, fPar, fNo, setN, setTup, setCons, setNil, argE, Option.bind_some, Option.bind_none, Option.map_some, Option.map_none, List.map_cons, List.map_nil, List.length_cons, List.length_nil, List.set_cons_zero, List.set_cons_succ, List.set_nil, List.getElem?_cons_zero, List.getElem?_cons_succ, List.getElem?_nil, List.cons_append, List.nil_append, List.replicate, Nat.sub_self, Nat.reduceAdd, Nat.reduceSub, Nat.reduceLeDiff, Nat.reduceEqDiff, if_true, if_false, ite_true, ite_false, Bool.false_eq_true, isL, notL, items, fItems, dIx, dAdd, dSub, dMul, dMin2, dMax2, dLt, dLe, dGt, dGe, dLenS, dInt, dNeg, dTuple, dList, wipeE, fStar, Bool.not_true, Bool.not_false, min_cast, max_cast]
    rfl
  simp only [fTup, fCons, fNil, fCall, f1, e, Option.bind_some, Option.map_some]
  rw [show (ps.map fun q => pD (prq q)) = (ps.map prq).map pD from by rw [List.map_map]; rfl, sortSet_prs so hm hl]
  rfl

/-! made_graph: a dict of pairs -/
abbrev dk (ks : List (Nat × Nat)) : D := .dict (ks.map fun p => (pD p, PyData.bool true))
theorem findD_prs (ks : List (Nat × Nat)) (p : Nat × Nat) : (findD (ks.map fun p => (pD p, PyData.bool true)) (pK p)).isSome = decide (p ∈ ks) := by
  induction ks with
  | nil => rfl
  | cons k ks ih =>
    unfold findD at ih ⊢
    rw [List.map_cons, List.find?_cons]
    by_cases e : k = p
    · subst e; simp [pD_key]
    · have : ¬ (keyD (pD k) = some (pK p)) := by
        rw [pD_key]
        intro h
        exact e (pK_inj (Option.some.inj h))
      simp only [this, decide_false]
      rw [ih]
      have : ¬ p = k := fun z => e z.symm
      simp [this]
theorem putD_prs (ks : List (Nat × Nat)) (p : Nat × Nat) : putD (ks.map fun p => (pD p, PyData.bool true)) (pD p) (pK p) (.bool true) = (if p ∈ ks then ks else ks ++ [p]).map fun p => (pD p, PyData.bool true) := by
  unfold putD
  rw [findD_prs]
  by_cases h : p ∈ ks
  · rw [if_pos (decide_eq_true h), if_pos h, List.map_map]
    refine List.map_congr_left fun k hk => ?_
    show (if keyD (pD k) = some (pK p) then (pD k, PyData.bool true) else (pD k, PyData.bool true)) = _
    split <;> rfl
  · rw [if_neg (by simp [h]), if_neg h, List.map_append]; rfl
theorem tupKeys_prs (ks : List (Nat × Nat)) : tupKeys (ks.map fun p => (pD p, PyData.bool true)) = true := by
  unfold tupKeys
  refine List.all_eq_true.mpr fun x hx => ?_
  obtain ⟨p, _, rfl⟩ := List.mem_map.mp hx
  rfl
theorem keyT_p (p : Nat × Nat) : keyT (pD p) = some (pK p) := by
  unfold keyT
  rw [pD_key, Option.bind_some]
  show (if (pK p).depth ≤ 8 then some (pK p) else none) = _
  rw [pK_depth]; rfl
theorem put_prs (ks : List (Nat × Nat)) (p : Nat × Nat) (h : ks.length < 100000) : dPutN (dk ks) (pD p) (.bool true) = some (dk (if p ∈ ks then ks else ks ++ [p])) := by
  show (asDict (dk ks)).bind _ = _
  rw [show asDict (dk ks) = some (ks.map fun p => (pD p, PyData.bool true)) from rfl, Option.bind_some, keyT_p, Option.bind_some, tupKeys_prs, if_pos (by simpa using h), putD_prs]
theorem ev_graph {n : Nat} (h1 : 1 ≤ n) (h2 : n ≤ 60) {ps es : List (Nat × Nat)} (ok : ∀ q ∈ ps, q.1 < n ∧ q.2 < n ∧ q.1 ≠ q.2) (so : es.Pairwise plt) (hm : ∀ p, p ∈ es ↔ p ∈ ps.map prq) (hp : ps.length < 100000) : m_made_graph [iD n, .list (ps.map pD)] = some (gE n es) := by
  unfold m_made_graph F_made_graph
  have c1 : ¬ ((n : Int) < 1) := by omega
  have c2 : ¬ ((60 : Int) < (n : Int)) := by omega
  have L := loop_inv (st := setTup (setCons (setN 3) (setCons (setN 4) setNil))) (F := (fSeq (fIfS (fOr (fTest (f2 dLt (fCall dMin2 (fCons (fVar 3) (fCons (fVar 4) fNil))) (fC (.int 0)))) (fOr (fTest (f2 dGe (fCall dMax2 (fCons (fVar 3) (fCons (fVar 4) fNil))) (fVar 0))) (fTest (f2 dEq (fVar 3) (fVar 4)))))
   fNo
   fNx)
   (fPutN 2 (fCall m_pair_of (fCons (fVar 3) (fCons (fVar 4) fNil))) (fC (.bool true))))) pD (fun done ρ => ∃ ks a b, ρ = [some (iD n), some (.list (ps.map pD)), some (dk ks), a, b] ∧ ks.Nodup ∧ (∀ p, p ∈ ks ↔ p ∈ done.map prq) ∧ ks.length ≤ done.length) ps [] [some (iD n), some (.list (ps.map pD)), some (.dict []), none, none]
    ⟨[], none, none, rfl, List.nodup_nil, fun p => by simp, by simp⟩ ?_
  · obtain ⟨ρ', l1, ks, a, b, rfl, nd, hk, hl⟩ := L
    refine defF_rt rfl (seq_nx (if_nx ?_) (seq_nx (set_nx rfl) (seq_nx (show fFor _ _ _ _ = some (.nx _) from l1) (ret_ok ?_))))
    · simp only [fSeq, fSet, fIfS, fRet, fNx, fVar, fC, f1, f2, fNil, fCons, fCall, fTup, fLst, fTest, fAnd, fOr, fNot, fAndV, fOrV, fNotV, fAsg, fPar, fNo, setN, setTup, setCons, setNil, argE, Option.bind_some, Option.bind_none, Option.map_some, Option.map_none, List.map_cons, List.map_nil, List.length_cons, List.length_nil, List.set_cons_zero, List.set_cons_succ, List.set_nil, List.getElem?_cons_zero, List.getElem?_cons_succ, List.getElem?_nil, List.cons_append, List.nil_append, List.replicate, Nat.sub_self, Nat.reduceAdd, Nat.reduceSub, Nat.reduceLeDiff, Nat.reduceEqDiff, if_true, if_false, ite_true, ite_false, Bool.false_eq_true, isL, notL, items, fItems, dIx, dAdd, dSub, dMul, dMin2, dMax2, dLt, dLe, dGt, dGe, dLenS, dInt, dNeg, dTuple, dList, wipeE, fStar, Bool.not_true, Bool.not_false]
      simp [c1, c2]
    · have pm : ks.Perm es := (List.perm_ext_iff_of_nodup nd (plt_nodup so)).mpr fun p => by rw [hk, hm]; simp
      have e : dSortedN [dk ks] = some (.list (es.map pD)) := by
        have m1 : (ks.map fun p => (pD p, PyData.bool true)).map (·.1) = ks.map pD := by rw [List.map_map]; rfl
        show (if (tupKeys (ks.map fun p => (pD p, PyData.bool true)) && dataOk ((ks.map fun p => (pD p, PyData.bool true)).map (·.1)) && tupsOrNot ((ks.map fun p => (pD p, PyData.bool true)).map (·.1)) && ((ks.map fun p => (pD p, PyData.bool true)).map (·.1)).all shal && decide ((ks.map fun p => (pD p, PyData.bool true)).length ≤ 100000)) = true then some (PyData.list (sortD ((ks.map fun p => (pD p, PyData.bool true)).map (·.1)))) else none) = _
        rw [m1, if_pos, sort_prs pm so]
        rw [tupKeys_prs, dataOk_map pD alike_p, all_map_true pD shal ks shal_p, tups_of _ fun d hd => ?_]
        · simp only [List.length_map, Bool.true_and, decide_eq_true_eq]
          simp at hl
          omega
        · obtain ⟨x, _, rfl⟩ := List.mem_map.mp hd
          exact ⟨_, _, rfl⟩
      simp only [fSeq, fSet, fIfS, fRet, fNx, fVar, fC, f1, f2, fNil, fCons, fCall, fTup, fLst, fTest, fAnd, fOr, fNot, fAndV, fOrV, fNotV, fAsg, fPar, fNo, setN, setTup, setCons, setNil, argE, Option.bind_some, Option.bind_none, Option.map_some, Option.map_none, List.map_cons, List.map_nil, List.length_cons, List.length_nil, List.set_cons_zero, List.set_cons_succ, List.set_nil, List.getElem?_cons_zero, List.getElem?_cons_succ, List.getElem?_nil, List.cons_append, List.nil_append, List.replicate, Nat.sub_self, Nat.reduceAdd, Nat.reduceSub, Nat.reduceLeDiff, Nat.reduceEqDiff, if_true, if_false, ite_true, ite_false, Bool.false_eq_true, isL, notL, items, fItems, dIx, dAdd, dSub, dMul, dMin2, dMax2, dLt, dLe, dGt, dGe, dLenS, dInt, dNeg, dTuple, dList, wipeE, fStar, Bool.not_true, Bool.not_false]
      rw [e]
      rfl
  · rintro d x r ρ ed ⟨ks, a, b, rfl, nd, hk, hl⟩
    have hx := ok x (by
      have : ps = d ++ x :: r := by simpa using ed
      rw [this]; simp)
    have dl : d.length < ps.length := by
      have : ps = d ++ x :: r := by simpa using ed
      rw [this]; simp
    refine ⟨[some (iD n), some (.list (ps.map pD)), some (dk ks), some (iD x.1), some (iD x.2)], [some (iD n), some (.list (ps.map pD)), some (dk (if prq x ∈ ks then ks else ks ++ [prq x])), some (iD x.1), some (iD x.2)], rfl, seq_nx (if_nx ?_) ?_, ?_⟩
    · have e1 := eq_i x.1 x.2
      simp only [fSeq, fSet, fIfS, fRet, fNx, fVar, fC, f1, f2, fNil, fCons, fCall, fTup, fLst, fTest, fAnd, fOr, fNot, fAndV, fOrV, fNotV, fAsg, fPar, fNo, setN, setTup, setCons, setNil, argE, Option.bind_some, Option.bind_none, Option.map_some, Option.map_none, List.map_cons, List.map_nil, List.length_cons, List.length_nil, List.set_cons_zero, List.set_cons_succ, List.set_nil, List.getElem?_cons_zero, List.getElem?_cons_succ, List.getElem?_nil, List.cons_append, List.nil_append, List.replicate, Nat.sub_self, Nat.reduceAdd, Nat.reduceSub, Nat.reduceLeDiff, Nat.reduceEqDiff, if_true, if_false, ite_true, ite_false, Bool.false_eq_true, isL, notL, items, fItems, dIx, dAdd, dSub, dMul, dMin2, dMax2, dLt, dLe, dGt, dGe, dLenS, dInt, dNeg, dTuple, dList, wipeE, fStar, Bool.not_true, Bool.not_false, min_cast, max_cast] at *
      simp only [e1, fSeq, fSet, fIfS, fRet, fNx, fVar, fC, f1, f2, fNil, fCons, fCall, fTup, fLst, fTest, fAnd, fOr, fNot, fAndV, fOrV, fNotV, fAsg, fPar, fNo, setN, setTup, setCons, setNil, argE, Option.bind_some, Option.bind_none, Option.map_some, Option.map_none, List.map_cons, List.map_nil, List.length_cons, List.length_nil, List.set_cons_zero, List.set_cons_succ, List.set_nil, List.getElem?_cons_zero, List.getElem?_cons_succ, List.getElem?_nil, List.cons_append, List.nil_append, List.replicate, Nat.sub_self, Nat.reduceAdd, Nat.reduceSub, Nat.reduceLeDiff, Nat.reduceEqDiff, if_true, if_false, ite_true, ite_false, Bool.false_eq_true, isL, notL, items, fItems, dIx, dAdd, dSub, dMul, dMin2, dMax2, dLt, dLe, dGt, dGe, dLenS, dInt, dNeg, dTuple, dList, wipeE, fStar, Bool.not_true, Bool.not_false]
      have q1 : ¬ (((min x.1 x.2 : Nat) : Int) < 0) := by omega
      have q2 : ¬ ((n : Int) ≤ ((max x.1 x.2 : Nat) : Int)) := by omega
      simp [q1, q2, hx.2.2]
    · have e1 := ev_pair x.1 x.2
      have e2 := put_prs ks (pr x.1 x.2) (by omega)
      simp only [fPutN, fSeq, fSet, fIfS, fRet, fNx, fVar, fC, f1, f2, fNil, fCons, fCall, fTup, fLst, fTest, fAnd, fOr, fNot, fAndV, fOrV, fNotV, fAsg, fPar, fNo, setN, setTup, setCons, setNil, argE, Option.bind_some, Option.bind_none, Option.map_some, Option.map_none, List.map_cons, List.map_nil, List.length_cons, List.length_nil, List.set_cons_zero, List.set_cons_succ, List.set_nil, List.getElem?_cons_zero, List.getElem?_cons_succ, List.getElem?_nil, List.cons_append, List.nil_append, List.replicate, Nat.sub_self, Nat.reduceAdd, Nat.reduceSub, Nat.reduceLeDiff, Nat.reduceEqDiff, if_true, if_false, ite_true, ite_false, Bool.false_eq_true, isL, notL, items, fItems, dIx, dAdd, dSub, dMul, dMin2, dMax2, dLt, dLe, dGt, dGe, dLenS, dInt, dNeg, dTuple, dList, wipeE, fStar, Bool.not_true, Bool.not_false] at *
      simp only [e1, e2, fSeq, fSet, fIfS, fRet, fNx, fVar, fC, f1, f2, fNil, fCons, fCall, fTup, fLst, fTest, fAnd, fOr, fNot, fAndV, fOrV, fNotV, fAsg, fPar, fNo, setN, setTup, setCons, setNil, argE, Option.bind_some, Option.bind_none, Option.map_some, Option.map_none, List.map_cons, List.map_nil, List.length_cons, List.length_nil, List.set_cons_zero, List.set_cons_succ, List.set_nil, List.getElem?_cons_zero, List.getElem?_cons_succ, List.getElem?_nil, List.cons_append, List.nil_append, List.replicate, Nat.sub_self, Nat.reduceAdd, Nat.reduceSub, Nat.reduceLeDiff, Nat.reduceEqDiff, if_true, if_false, ite_true, ite_false, Bool.false_eq_true, isL, notL, items, fItems, dIx, dAdd, dSub, dMul, dMin2, dMax2, dLt, dLe, dGt, dGe, dLenS, dInt, dNeg, dTuple, dList, wipeE, fStar, Bool.not_true, Bool.not_false]
      rfl
    · refine ⟨_, _, _, rfl, ?_, fun p => ?_, ?_⟩
      · split
        · exact nd
        · rename_i hn
          exact List.nodup_append.mpr ⟨nd, by simp, fun a ha b hb e => hn (by simp at hb; rw [← hb, ← e]; exact ha)⟩
      · rw [List.map_append, List.mem_append, ← hk]
        split
        · rename_i hy
          refine ⟨.inl, fun h => h.elim (fun z => z) fun z => ?_⟩
          simp at z; rw [z]; exact hy
        · rw [List.mem_append]; simp
      · split <;> simp <;> omega

/-! renaming -/
theorem ren_mem {n : Nat} {A : Nat → Nat → Bool} (g : Gr n A) {s : List Nat} (hs : IsP n s) (p : Nat × Nat) : p ∈ eL n (ren n A s) ↔ p ∈ ((eL n A).map fun q => (at0 s q.1, at0 s q.2)).map prq := by
  obtain ⟨a, b⟩ := p
  rw [mem_eL, List.map_map, List.mem_map]
  constructor
  · rintro ⟨h1, h2, h3⟩
    have ha : at0 (inv n s) a < n := at0_lt (isP_inv hs) (by omega)
    have hb : at0 (inv n s) b < n := at0_lt (isP_inv hs) h2
    have ea := inv_r hs (show a < n by omega)
    have eb := inv_r hs h2
    have h3 : A (at0 (inv n s) a) (at0 (inv n s) b) = true := h3
    rcases Nat.lt_trichotomy (at0 (inv n s) a) (at0 (inv n s) b) with l | l | l
    · refine ⟨(at0 (inv n s) a, at0 (inv n s) b), mem_eL.mpr ⟨l, hb, h3⟩, ?_⟩
      show pr (at0 s (at0 (inv n s) a)) (at0 s (at0 (inv n s) b)) = (a, b)
      rw [ea, eb]
      exact Prod.ext (Nat.min_eq_left (by omega)) (Nat.max_eq_right (by omega))
    · rw [l, g.irr] at h3; cases h3
    · refine ⟨(at0 (inv n s) b, at0 (inv n s) a), mem_eL.mpr ⟨l, ha, by rw [g.sym]; exact h3⟩, ?_⟩
      show pr (at0 s (at0 (inv n s) b)) (at0 s (at0 (inv n s) a)) = (a, b)
      rw [ea, eb]
      exact Prod.ext (Nat.min_eq_right (by omega)) (Nat.max_eq_left (by omega))
  · rintro ⟨⟨u, v⟩, hq, e⟩
    obtain ⟨h1, h2, h3⟩ := mem_eL.mp hq
    have e : pr (at0 s u) (at0 s v) = (a, b) := e
    have hu := at0_lt hs (show u < n by omega)
    have hv := at0_lt hs h2
    have ne : at0 s u ≠ at0 s v := fun z => by have := at0_inj hs (by omega) h2 z; omega
    have key : ren n A s (at0 s u) (at0 s v) = true := by
      rw [← iso_ren hs u v (by omega) h2]; exact h3
    unfold pr at e
    injection e with e1 e2
    rcases Nat.lt_or_ge (at0 s u) (at0 s v) with l | l
    · rw [Nat.min_eq_left (by omega)] at e1
      rw [Nat.max_eq_right (by omega)] at e2
      subst e1 e2
      exact ⟨l, hv, key⟩
    · rw [Nat.min_eq_right (by omega)] at e1
      rw [Nat.max_eq_left (by omega)] at e2
      subst e1 e2
      exact ⟨by omega, hu, by rw [(ren_gr g).sym]; exact key⟩
theorem ren_lc (n : Nat) (A : Nat → Nat → Bool) (hn : n ≤ 60) {s : List Nat} (hs : IsP n s) : fLc (fItems (f2 dIx (fVar 0) (fC (.int 1)))) (setTup (setCons (setN 2) (setCons (setN 3) setNil))) (fun _ => some true) (fTup (fCons (f2 dIx (fVar 1) (fVar 2)) (fCons (f2 dIx (fVar 1) (fVar 3)) fNil))) [2, 3] (argE 4 2 [gD n A, tD s]) =
    some (.list (((eL n A).map fun q => (at0 s q.1, at0 s q.2)).map pD)) := by
  rw [List.map_map]
  refine fLc_map pD (fun q => pD (at0 s q.1, at0 s q.2)) (eL n A) rfl (Nat.le_trans (eL_big hn A) (by decide)) fun q hq => ⟨_, rfl, ?_⟩
  obtain ⟨h1, h2, h3⟩ := mem_eL.mp (show (q.1, q.2) ∈ eL n A from hq)
  have l1 : q.1 < s.length := by rw [hs.len]; omega
  have l2 : q.2 < s.length := by rw [hs.len]; exact h2
  have e1 := atI_map iD s q.1 l1
  have e2 := atI_map iD s q.2 l2
  simp only [fSeq, fSet, fIfS, fRet, fNx, fVar, fC, f1, f2, fNil, fCons, fCall, fTup, fLst, fTest, fAnd, fOr, fNot, fAndV, fOrV, fNotV, fAsg, fPar, fNo, setN, setTup, setCons, setNil, argE, Option.bind_some, Option.bind_none, Option.map_some, Option.map_none, List.map_cons, List.map_nil, List.length_cons, List.length_nil, List.set_cons_zero, List.set_cons_succ, List.set_nil, List.getElem?_cons_zero, List.getElem?_cons_succ, List.getElem?_nil, List.cons_append, List.nil_append, List.replicate, Nat.sub_self, Nat.reduceAdd, Nat.reduceSub, Nat.reduceLeDiff, Nat.reduceEqDiff, if_true, if_false, ite_true, ite_false, Bool.false_eq_true, isL, notL, items, fItems, dIx, dAdd, dSub, dMul, dMin2, dMax2, dLt, dLe, dGt, dGe, dLenS, dInt, dNeg, dTuple, dList, wipeE, fStar, Bool.not_true, Bool.not_false]
  simp only [e1, e2, fSeq, fSet, fIfS, fRet, fNx, fVar, fC, f1, f2, fNil, fCons, fCall, fTup, fLst, fTest, fAnd, fOr, fNot, fAndV, fOrV, fNotV, fAsg, fPar, fNo, setN, setTup, setCons, setNil, argE, Option.bind_some, Option.bind_none, Option.map_some, Option.map_none, List.map_cons, List.map_nil, List.length_cons, List.length_nil, List.set_cons_zero, List.set_cons_succ, List.set_nil, List.getElem?_cons_zero, List.getElem?_cons_succ, List.getElem?_nil, List.cons_append, List.nil_append, List.replicate, Nat.sub_self, Nat.reduceAdd, Nat.reduceSub, Nat.reduceLeDiff, Nat.reduceEqDiff, if_true, if_false, ite_true, ite_false, Bool.false_eq_true, isL, notL, items, fItems, dIx, dAdd, dSub, dMul, dMin2, dMax2, dLt, dLe, dGt, dGe, dLenS, dInt, dNeg, dTuple, dList, wipeE, fStar, Bool.not_true, Bool.not_false]
  simp [at0, l1, l2]
theorem ev_renamed {n : Nat} (h1 : 1 ≤ n) (h2 : n ≤ 60) {A : Nat → Nat → Bool} (g : Gr n A) {s : List Nat} (hs : IsP n s) : m_renamed [gD n A, tD s] = some (gD n (ren n A s)) := by
  unfold m_renamed F_renamed
  refine defF_rt rfl (ret_ok ?_)
  simp only [fCall, fCons, fNil, ren_lc n A h2 hs, Option.bind_some, Option.map_some]
  show m_made_graph [iD n, _] = _
  refine ev_graph h1 h2 (fun q hq => ?_) (eL_sorted n _) (ren_mem g hs) ?_
  · obtain ⟨p, hp, rfl⟩ := List.mem_map.mp hq
    obtain ⟨a1, a2, a3⟩ := mem_eL.mp (show (p.1, p.2) ∈ eL n A from hp)
    exact ⟨at0_lt hs (by omega), at0_lt hs a2, fun z => by have := at0_inj hs (by omega) a2 z; omega⟩
  · rw [List.length_map]
    exact Nat.lt_of_le_of_lt (eL_big h2 A) (by decide)
theorem ev_lrenamed {n : Nat} (h2 : n ≤ 7) {A : Nat → Nat → Bool} (g : Gr n A) {s : List Nat} (hs : IsP n s) : m__law_renamed [gD n A, tD s] = some (gD n (ren n A s)) := by
  unfold m__law_renamed F__law_renamed
  refine defF_rt rfl (ret_ok ?_)
  simp only [fCall, fCons, fNil, ren_lc n A (by omega) hs, Option.bind_some, Option.map_some]
  show m__law_made [iD n, _] = _
  refine ev_made n (eL_sorted n _) (ren_mem g hs) ?_ ?_
  · exact Nat.lt_of_le_of_lt (eL_len n _) (Nat.lt_of_le_of_lt (Nat.mul_le_mul h2 h2) (by decide))
  · rw [List.length_map]
    exact Nat.le_trans (eL_big (by omega) A) (by decide)
end K53

/-! THE PLAIN LAW, part 5: pairings, orders, sameness. -/
namespace K53
open PySem PySem.Spec L2 PyProof.Rows Mx Pm Pl

theorem call1 {h : List D → Option D} {f : Fx} {ρ : En} {d : D} {r : Option D} (e : f ρ = some d) (k : h [d] = r) : fCall h (fCons f fNil) ρ = r := by
  unfold fCall fCons
  rw [e]; exact k
theorem call2 {h : List D → Option D} {f g : Fx} {ρ : En} {d d' : D} {r : Option D} (e : f ρ = some d) (e' : g ρ = some d') (k : h [d, d'] = r) : fCall h (fCons f (fCons g fNil)) ρ = r := by
  unfold fCall fCons
  rw [e, e']; exact k
theorem f1_ok {h : D → Option D} {f : Fx} {ρ : En} {d : D} {r : Option D} (e : f ρ = some d) (k : h d = r) : f1 h f ρ = r := by
  unfold f1
  rw [e]; exact k
theorem f2_ok {h : D → D → Option D} {f g : Fx} {ρ : En} {d d' : D} {r : Option D} (e : f ρ = some d) (e' : g ρ = some d') (k : h d d' = r) : f2 h f g ρ = r := by
  unfold f2
  rw [e, e']; exact k
theorem test_ok {f : Fx} {ρ : En} {b : Bool} (e : f ρ = some (.bool b)) : fTest f ρ = some b := by
  unfold fTest
  rw [e]; rfl
theorem ix_t (l : List Nat) (i : Nat) (h : i < l.length) : dIx (.list (l.map iD)) (iD i) = some (iD (at0 l i)) := by
  have e := atI_map iD l i h
  show (items (.list (l.map iD))).bind _ = _
  rw [show items (.list (l.map iD)) = some (l.map iD) from rfl, Option.bind_some]
  show atI (l.map iD) (i : Int) = _
  rw [e]
  simp [at0, h]
theorem ix_tt (l : List Nat) (i : Nat) (h : i < l.length) : dIx (tD l) (iD i) = some (iD (at0 l i)) := by
  have e := atI_map iD l i h
  show (items (tD l)).bind _ = _
  rw [show items (tD l) = some (l.map iD) from rfl, Option.bind_some]
  show atI (l.map iD) (i : Int) = _
  rw [e]
  simp [at0, h]
theorem eqb (a b : Bool) : dEq (.bool a) (.bool b) = some (.bool (a == b)) := by
  unfold dEq
  rw [if_pos (by simp [nd, shal, PyData.depth])]
  simp [PyData.eqv]
theorem all_bools {α : Type} (f : α → Bool) (l : List α) : dAll [.list (l.map fun x => PyData.bool (f x))] = some (.bool (l.all f)) := by
  have e : boolsOf (l.map fun x => PyData.bool (f x)) = some (l.map f) := by
    induction l with
    | nil => rfl
    | cons x l ih => rw [List.map_cons, boolsOf, ih]; rfl
  show (boolsOf (l.map fun x => PyData.bool (f x))).map _ = _
  rw [e]
  simp [List.all_map, Function.comp_def]
theorem ev_fits {n : Nat} (hn : n ≤ 60) {A B : Nat → Nat → Bool} (a : Gr n A) (b : Gr n B) {pre : List Nat} {w : Nat} (hp : pre.length < n) (hpre : ∀ x ∈ pre, x < n) (hw : w < n) :
    m_fits [gD n A, gD n B, .list (pre.map iD), iD w] = some (.bool (fitB A B pre w)) := by
  unfold m_fits F_fits
  refine defF_rt rfl (seq_nx (set_nx (d := iD pre.length) ?_) (ret_ok ?_))
  · simp only [fSeq, fSet, fIfS, fRet, fNx, fVar, fC, f1, f2, fNil, fCons, fCall, fTup, fLst, fTest, fAnd, fOr, fNot, fAndV, fOrV, fNotV, fAsg, fPar, fNo, setN, setTup, setCons, setNil, argE, Option.bind_some, Option.bind_none, Option.map_some, Option.map_none, List.map_cons, List.map_nil, List.length_cons, List.length_nil, List.set_cons_zero, List.set_cons_succ, List.set_nil, List.getElem?_cons_zero, List.getElem?_cons_succ, List.getElem?_nil, List.cons_append, List.nil_append, List.replicate, Nat.sub_self, Nat.reduceAdd, Nat.reduceSub, Nat.reduceLeDiff, Nat.reduceEqDiff, if_true, if_false, ite_true, ite_false, Bool.false_eq_true, isL, notL, items, fItems, dIx, dAdd, dSub, dMul, dMin2, dMax2, dLt, dLe, dGt, dGe, dLenS, dInt, dNeg, dTuple, dList, wipeE, fStar, Bool.not_true, Bool.not_false]
    simp
  · have e : fLc (fun ρ => ((fCons (fVar 4) fNil) ρ).bind rng1) (setN 5) (fun _ => some true) (f2 dEq (fCall m_are_neighbours (fCons (fVar 0) (fCons (fVar 5) (fCons (fVar 4) fNil)))) (fCall m_are_neighbours (fCons (fVar 1) (fCons (f2 dIx (fVar 2) (fVar 5)) (fCons (fVar 3) fNil))))) [5] ((argE 6 4 [gD n A, gD n B, .list (pre.map iD), iD w]).set 4 (some (iD pre.length))) =
        some (.list ((List.range pre.length).map fun u => PyData.bool (A u pre.length == B (at0 pre u) w))) := by
      refine fLc_map iD _ (List.range pre.length) (rng1_eq pre.length (by omega)) (by simp; omega) fun u hu => ⟨_, rfl, ?_⟩
      have hu := List.mem_range.mp hu
      have e1 := are_A a (show u < n by omega) hp
      have e2 := ix_t pre u hu
      have e3 := are_A b (hpre _ (at0_mem hu)) hw
      have e4 := eqb (A u pre.length) (B (at0 pre u) w)
      simp only [fCall, fCons, fNil, f2, fVar, argE, List.map_cons, List.map_nil, List.cons_append, List.nil_append, List.replicate, Nat.reduceSub, List.set_cons_succ, List.set_cons_zero, wipeE, List.getElem?_cons_zero, List.getElem?_cons_succ, Option.bind_some, Option.map_some, e1, e2, e3, e4]
    refine call1 e ?_
    rw [all_bools]; rfl
theorem notin_l (l : List Nat) (w : Nat) : dNotIn (iD w) (.list (l.map iD)) = some (.bool (!decide (w ∈ l))) := by
  unfold dNotIn
  rw [show items (.list (l.map iD)) = some (l.map iD) from rfl, Option.bind_some, if_pos (by rw [shal_i]; rfl), any_eqv iD eqv_i]
theorem ext_len {n : Nat} {A B : Nat → Nat → Bool} : ∀ (k : Nat) (pre : List Nat), (extF n A B k pre).length ≤ n ^ k
  | 0, pre => by unfold extF; simp
  | k + 1, pre => by
    unfold extF
    have := flat_len (l := List.range n) (f := fun w => if (!decide (w ∈ pre) && fitB A B pre w) = true then extF n A B k (pre ++ [w]) else []) (c := n ^ k) fun w _ => by
      show (if _ then _ else _ : List (List Nat)).length ≤ _
      split
      · exact ext_len k _
      · simp
    rw [List.length_range] at this
    rw [Nat.pow_succ, Nat.mul_comm]
    exact this
theorem ev_pairings {n : Nat} (hn : n ≤ 6) {A B : Nat → Nat → Bool} (a : Gr n A) (b : Gr n B) : ∀ (f k : Nat) (pre : List Nat), pre.length + k = n → (∀ x ∈ pre, x < n) → k < f →
    m_pairings f [gD n A, gD n B, .list (pre.map iD)] = some (.list ((extF n A B k pre).map tD))
  | 0, _, _, _, _, h => absurd h (Nat.not_lt_zero _)
  | f + 1, k, pre, hl, hp, hf => by
    unfold m_pairings F_pairings
    have c0 : fTest (f2 dEq (fCall dLenS (fCons (fVar 2) fNil)) (f2 dIx (fVar 0) (fC (.int 0)))) (argE 5 3 [gD n A, gD n B, .list (pre.map iD)]) = some (decide (pre.length = n)) := by
      have e1 := eq_i pre.length n
      have e2 := ix0 n (eL n A)
      have e3 : dLenS [PyData.list (pre.map iD)] = some (iD pre.length) := by show some (PyData.int ((pre.map iD).length : Nat)) = _; rw [List.length_map]
      simp only [fTest, fCall, fCons, fNil, f2, fC, fVar, argE, List.map_cons, List.map_nil, List.cons_append, List.nil_append, List.getElem?_cons_zero, List.getElem?_cons_succ, Option.bind_some, Option.map_some, e1, e2, e3]
    cases k with
    | zero =>
      refine defN_rt rfl (seq_rt (if_t (by rw [c0, decide_eq_true (by omega)]) (ret_ok ?_)))
      unfold extF
      rfl
    | succ k =>
      have c1 := notin_l pre
      have L := loop_inv (st := setN 4) (F := fIfS (fAnd (fTest (f2 dNotIn (fVar 4) (fVar 2))) (fTest (fCall m_fits (fCons (fVar 0) (fCons (fVar 1) (fCons (fVar 2) (fCons (fVar 4) fNil)))))))
         (fExt 3 (fCall (m_pairings f) (fCons (fVar 0) (fCons (fVar 1) (fCons (f2 dCat (fVar 2) (fLst (fCons (fVar 4) fNil))) fNil)))))
         fNx) iD (fun done ρ => ∃ z, ρ = [some (gD n A), some (gD n B), some (.list (pre.map iD)), some (.list ((done.flatMap fun w => if (!decide (w ∈ pre) && fitB A B pre w) = true then extF n A B k (pre ++ [w]) else []).map tD)), z]) (List.range n) []
         [some (gD n A), some (gD n B), some (.list (pre.map iD)), some (.list []), none] ⟨none, rfl⟩ ?_
      · obtain ⟨ρ', l1, z, rfl⟩ := L
        refine defN_rt rfl (seq_nx (if_nx (by rw [c0, decide_eq_false (by omega)])) (seq_nx (set_nx rfl) (seq_nx (ρ' := [some (gD n A), some (gD n B), some (.list (pre.map iD)), some (.list (((List.range n).flatMap fun w => if (!decide (w ∈ pre) && fitB A B pre w) = true then extF n A B k (pre ++ [w]) else []).map tD)), z]) ?_ (ret_ok ?_))))
        · show fFor _ _ _ _ = some (.nx _)
          unfold fFor
          show (rng1 [iD n]).bind _ = _
          rw [rng1_eq n (by omega), Option.bind_some]
          exact l1
        · rw [show extF n A B (k + 1) pre = (List.range n).flatMap fun w => if (!decide (w ∈ pre) && fitB A B pre w) = true then extF n A B k (pre ++ [w]) else [] from rfl]
          rfl
      · rintro d x r ρ ed ⟨z, rfl⟩
        have hx : x < n := by
          have : x ∈ List.range n := by
            have : List.range n = d ++ x :: r := by simpa using ed
            rw [this]; simp
          exact List.mem_range.mp this
        have hd : d.length < n := by
          have := congrArg List.length ed
          simp at this
          omega
        refine ⟨[some (gD n A), some (gD n B), some (.list (pre.map iD)), some (.list ((d.flatMap fun w => if (!decide (w ∈ pre) && fitB A B pre w) = true then extF n A B k (pre ++ [w]) else []).map tD)), some (iD x)],
          [some (gD n A), some (gD n B), some (.list (pre.map iD)), some (.list (((d ++ [x]).flatMap fun w => if (!decide (w ∈ pre) && fitB A B pre w) = true then extF n A B k (pre ++ [w]) else []).map tD)), some (iD x)], rfl, ?_, ⟨_, rfl⟩⟩
        have e1 := notin_l pre x
        have e2 := ev_fits (by omega) a b (show pre.length < n by omega) hp hx
        have ct : fAnd (fTest (f2 dNotIn (fVar 4) (fVar 2))) (fTest (fCall m_fits (fCons (fVar 0) (fCons (fVar 1) (fCons (fVar 2) (fCons (fVar 4) fNil)))))) [some (gD n A), some (gD n B), some (.list (pre.map iD)), some (.list ((d.flatMap fun w => if (!decide (w ∈ pre) && fitB A B pre w) = true then extF n A B k (pre ++ [w]) else []).map tD)), some (iD x)] =
            some (!decide (x ∈ pre) && fitB A B pre x) := by
          simp only [fAnd, fTest, fCall, fCons, fNil, f2, fVar, List.getElem?_cons_zero, List.getElem?_cons_succ, Option.bind_some, Option.map_some, e1, e2]
          cases decide (x ∈ pre) <;> rfl
        rw [List.flatMap_append, List.flatMap_singleton]
        cases hc : (!decide (x ∈ pre) && fitB A B pre x) with
        | false =>
          rw [hc] at ct
          refine if_nx ct |>.trans ?_
          simp
        | true =>
          rw [hc] at ct
          refine if_t ct ?_
          have e3 : dCat (.list (pre.map iD)) (.list [iD x]) = some (.list ((pre ++ [x]).map iD)) := by
            show (if (pre.map iD).length + [iD x].length ≤ 100000 then some (PyData.list (pre.map iD ++ [iD x])) else none) = _
            rw [if_pos (by simp; omega)]
            simp
          have e4 := ev_pairings hn a b f k (pre ++ [x]) (by simp; omega) (fun y hy => by
            rcases List.mem_append.mp hy with q | q
            · exact hp y q
            · rw [List.mem_singleton.mp q]; exact hx) (by omega)
          unfold fExt
          simp only [fCall, fCons, fNil, fLst, f2, fVar, List.getElem?_cons_zero, List.getElem?_cons_succ, List.length_cons, List.length_nil, Option.bind_some, Option.map_some, e3, e4]
          rw [if_pos (by decide)]
          simp only [Option.bind_some, e3, Option.map_some, e4]
          rw [if_pos]
          · simp
          · have b1 := flat_len (l := d) (f := fun w => if (!decide (w ∈ pre) && fitB A B pre w) = true then extF n A B k (pre ++ [w]) else []) (c := n ^ k) fun w _ => by
              show (if _ then _ else _ : List (List Nat)).length ≤ _
              split
              · exact ext_len k _
              · simp
            have b2 := ext_len (n := n) (A := A) (B := B) k (pre ++ [x])
            have b3 : n ^ (k + 1) ≤ 6 ^ 6 := Nat.le_trans (Nat.pow_le_pow_left hn _) (Nat.pow_le_pow_right (by decide) (by omega))
            have b4 : (d.length + 1) * n ^ k ≤ n * n ^ k := Nat.mul_le_mul_right _ (by omega)
            rw [Nat.pow_succ, Nat.mul_comm] at b3
            rw [Nat.add_mul, Nat.one_mul] at b4
            have b5 : (6 : Nat) ^ 6 = 46656 := by decide
            simp only [List.length_map]
            omega

theorem ev_sym {n : Nat} (hn : n ≤ 6) {A : Nat → Nat → Bool} (g : Gr n A) : m_symmetries [gD n A] = some (.list (((permL n).filter (autB n A)).map tD)) := by
  unfold m_symmetries F_symmetries
  refine defN_rt rfl (ret_ok ?_)
  have e := ev_pairings hn g g 10 n [] (by simp) (fun x hx => by cases hx) (by omega)
  rw [told_eq g] at e
  exact e

/-! orders: by computing -/
theorem orders_1 : m__law_orders [iD 1] = some (.list ((permL 1).map tD)) := by kernel_rfl
theorem orders_2 : m__law_orders [iD 2] = some (.list ((permL 2).map tD)) := by kernel_rfl
theorem orders_3 : m__law_orders [iD 3] = some (.list ((permL 3).map tD)) := by kernel_rfl
theorem orders_4 : m__law_orders [iD 4] = some (.list ((permL 4).map tD)) := by kernel_rfl
theorem orders_5 : m__law_orders [iD 5] = some (.list ((permL 5).map tD)) := by kernel_rfl
theorem aorders_1 : m_all_orders 10 [.list ((List.range 1).map iD)] = some (.list ((permL 1).map tD)) := by kernel_rfl
theorem aorders_2 : m_all_orders 10 [.list ((List.range 2).map iD)] = some (.list ((permL 2).map tD)) := by kernel_rfl
theorem aorders_3 : m_all_orders 10 [.list ((List.range 3).map iD)] = some (.list ((permL 3).map tD)) := by kernel_rfl
theorem aorders_4 : m_all_orders 10 [.list ((List.range 4).map iD)] = some (.list ((permL 4).map tD)) := by kernel_rfl
theorem aorders_5 : m_all_orders 10 [.list ((List.range 5).map iD)] = some (.list ((permL 5).map tD)) := by kernel_rfl
theorem ev_orders {n : Nat} (h1 : 1 ≤ n) (h2 : n ≤ 5) : m__law_orders [iD n] = some (.list ((permL n).map tD)) ∧ m_all_orders 10 [.list ((List.range n).map iD)] = some (.list ((permL n).map tD)) := by
  match n, h1, h2 with
  | 1, _, _ => exact ⟨orders_1, aorders_1⟩
  | 2, _, _ => exact ⟨orders_2, aorders_2⟩
  | 3, _, _ => exact ⟨orders_3, aorders_3⟩
  | 4, _, _ => exact ⟨orders_4, aorders_4⟩
  | 5, _, _ => exact ⟨orders_5, aorders_5⟩
theorem perm_len {n : Nat} (h1 : 1 ≤ n) (h2 : n ≤ 5) : (permL n).length ≤ 120 ∧ (n ≤ 4 → (permL n).length < 64) := by
  match n, h1, h2 with
  | 1, _, _ => decide
  | 2, _, _ => decide
  | 3, _, _ => exact ⟨by decide +kernel, fun _ => by decide +kernel⟩
  | 4, _, _ => exact ⟨by decide +kernel, fun _ => by decide +kernel⟩
  | 5, _, _ => exact ⟨by decide +kernel, fun h => absurd h (by decide)⟩

/-! the order of permutations -/
theorem lt_first {xs ys : List D} {x y : D} (h : PySem.W.alike x y = true) (ne : PyData.eqv x y = false) (l : PySem.W.dataLt x y = true) : ∀ ps : List Nat, PySem.W.dataLt (.tuple (ps.map iD ++ x :: xs)) (.tuple (ps.map iD ++ y :: ys)) = true
  | [] => by
    rw [PySem.W.dataLt_tuple, List.map_nil, List.nil_append, List.nil_append, PySem.W.dataLt_cons h, ne]
    exact l
  | p :: ps => by
    have ih := lt_first (xs := xs) (ys := ys) h ne l ps
    rw [PySem.W.dataLt_tuple] at ih ⊢
    rw [List.map_cons, List.cons_append, List.cons_append, PySem.W.dataLt_cons (by simp [PySem.W.alike]), if_pos (by simp [PyData.eqv])]
    exact ih
theorem lx_lt {l m : List Nat} (h : lx l m) : PySem.W.dataLt (tD l) (tD m) = true := by
  obtain ⟨p, a, b, x, y, rfl, rfl, hab⟩ := h
  unfold tD
  rw [List.map_append, List.map_append, List.map_cons, List.map_cons]
  refine lt_first (by simp [PySem.W.alike]) (by rw [eqv_i]; exact decide_eq_false (by omega)) ?_ p
  rw [PySem.W.dataLt_int]
  exact decide_eq_true (by omega)
theorem lt_le {x y : D} (h : PySem.W.dataLt x y = true) : PySem.W.dataLt y x = false := by
  cases c : PySem.W.dataLt y x with
  | false => rfl
  | true =>
    have t := (listOrd itemOrd).trans _ _ _ h c
    rw [(listOrd itemOrd).irrefl] at t
    cases t
theorem lx_le {l m : List Nat} (h : lx l m) : PySem.W.dataLe false tD l m = true := by
  show (!PySem.W.dataLt (tD m) (tD l)) = true
  rw [lt_le (lx_lt h)]; rfl
theorem sorted_perms {l es : List (List Nat)} (p : l.Perm es) (so : es.Pairwise lx) (ne : ∀ s ∈ es, s ≠ []) (hl : l.length ≤ 100000) : dSorted [.list (l.map tD)] = some (.list (es.map tD)) := by
  show (if (dataOk (l.map tD) && tupsOrNot (l.map tD) && (l.map tD).all shal && decide ((l.map tD).length ≤ 100000)) = true then some (PyData.list (sortD (l.map tD))) else none) = _
  rw [if_pos, sort_to tK tD tK_data alike_t p (so.imp fun h => lx_le h)]
  rw [dataOk_map tD alike_t, all_map_true tD shal l shal_t, tups_of _ fun d hd => ?_]
  · simpa using hl
  · obtain ⟨s, hs, rfl⟩ := List.mem_map.mp hd
    cases s with
    | nil => exact absurd rfl (ne [] (p.mem_iff.mp hs))
    | cons a s => exact ⟨_, _, rfl⟩
end K53

/-! THE PLAIN LAW, part 6: sameness, copies, the canonical one. -/
namespace K53
open PySem PySem.Spec L2 PyProof.Rows Mx Pm Pl

theorem bind1 {α : Type} {f : Fx} {ρ : En} {d : D} {h : List D → Option α} {r : Option α} (e : f ρ = some d) (k : h [d] = r) : ((fCons f fNil) ρ).bind h = r := by
  unfold fCons
  rw [e]; exact k
theorem lt_irr (x : D) : PySem.W.dataLt x x = false := (listOrd itemOrd).irrefl _
def Flat : Nat → D → Prop
  | 0, d => ∃ n : Nat, d = iD n
  | k + 1, d => (∃ n : Nat, d = iD n) ∨ ∃ ds, (d = .list ds ∨ d = .tuple ds) ∧ ds.length ≤ 100000 ∧ ∀ x ∈ ds, Flat k x
theorem k_it : kitB "int" "tuple" = some false := by decide +kernel
theorem k_il : kitB "int" "list" = some false := by decide +kernel
theorem k_ib : kitB "int" "bool" = some false := by decide +kernel
theorem k_ii : kitB "int" "int" = some true := by decide +kernel
theorem k_tt : kitB "tuple" "tuple" = some true := by decide +kernel
theorem k_tl : kitB "tuple" "list" = some false := by decide +kernel
theorem k_lt : kitB "list" "tuple" = some false := by decide +kernel
theorem k_ll : kitB "list" "list" = some true := by decide +kernel
theorem isa_ok {T n : String} {d : D} {b : Bool} (h : tyN d = some n) (k : kitB n T = some b) : dIsa T d = some (.bool b) := by
  unfold dIsa
  rw [h, Option.bind_some, k]; rfl
theorem neb (a b : Bool) : dNe (.bool a) (.bool b) = some (.bool (!(a == b))) := by
  unfold dNe
  rw [if_pos (by simp [nd, shal, PyData.depth])]
  simp [PyData.eqv]
theorem atI_get {α : Type} (xs : List α) (i : Nat) (h : i < xs.length) : atI xs (i : Int) = some xs[i] := by
  unfold atI
  have e : ixN xs.length (i : Int) = some i := by
    unfold ixN
    have h' : (i : Int) < (xs.length : Int) := by simpa using h
    simp
    omega
  rw [e, Option.bind_some, List.getElem?_eq_getElem h]
theorem same_int (f : Nat) (n : Nat) : m__law_same (f + 1) [iD n, iD n] = some (.bool true) := by
  unfold m__law_same F__law_same
  have a1 := isa_ok (d := iD n) rfl k_it
  have a2 := isa_ok (d := iD n) rfl k_il
  have a3 := isa_ok (d := iD n) rfl k_ib
  have a4 := isa_ok (d := iD n) rfl k_ii
  have e := eq_i n n
  refine defF_rt rfl (seq_nx (if_nx ?_) (seq_nx (if_nx ?_) (seq_nx (if_nx ?_) (seq_rt (if_t ?_ (ret_ok ?_))))))
  · simp only [fOr, fTest, f1, fVar, argE, List.map_cons, List.map_nil, List.cons_append, List.nil_append, List.getElem?_cons_zero, List.getElem?_cons_succ, Option.bind_some, a1, a2, Bool.false_eq_true, if_false]
  · rfl
  · simp only [fOr, fTest, f1, fVar, argE, List.map_cons, List.map_nil, List.cons_append, List.nil_append, List.getElem?_cons_zero, List.getElem?_cons_succ, Option.bind_some, a3, Bool.false_eq_true, if_false]
  · exact test_ok (f1_ok rfl a4)
  · unfold fAndV
    rw [f1_ok (d := iD n) rfl a4]
    show f2 dEq (fVar 0) (fVar 1) (argE 3 2 [iD n, iD n]) = _
    rw [f2_ok (d := iD n) (d' := iD n) rfl rfl e]
    simp
theorem same_seq {f : Nat} {d : D} {ds : List D} {T : Bool} (hd : d = if T = true then .tuple ds else .list ds) (hl : ds.length ≤ 100000) (h : ∀ x ∈ ds, m__law_same f [x, x] = some (.bool true)) : m__law_same (f + 1) [d, d] = some (.bool true) := by
  unfold m__law_same F__law_same
  have a1 : dIsa "tuple" d = some (.bool T) := by
    cases T with
    | true => subst hd; exact isa_ok rfl k_tt
    | false => subst hd; exact isa_ok rfl k_lt
  have a2 : dIsa "list" d = some (.bool (!T)) := by
    cases T with
    | true => subst hd; exact isa_ok rfl k_tl
    | false => subst hd; exact isa_ok rfl k_ll
  have a3 : dLenS [d] = some (iD ds.length) := by
    cases T with
    | true => subst hd; rfl
    | false => subst hd; rfl
  have a4 : items d = some ds := by
    cases T with
    | true => subst hd; rfl
    | false => subst hd; rfl
  have l : fLc (fun ρ => ((fCons (fCall dLenS (fCons (fVar 1) fNil)) fNil) ρ).bind rng1) (setN 2) (fNot (fTest (fCall (m__law_same f) (fCons (f2 dIx (fVar 0) (fVar 2)) (fCons (f2 dIx (fVar 1) (fVar 2)) fNil))))) (fVar 2) [2] (argE 3 2 [d, d]) = some (.list []) := by
    have q := fLc_eq (fi := fun ρ => ((fCons (fCall dLenS (fCons (fVar 1) fNil)) fNil) ρ).bind rng1) (st := setN 2) (c := fNot (fTest (fCall (m__law_same f) (fCons (f2 dIx (fVar 0) (fVar 2)) (fCons (f2 dIx (fVar 1) (fVar 2)) fNil))))) (fe := fVar 2) (vs := [2]) (ρ := argE 3 2 [d, d]) iD (fun _ => false) iD (List.range ds.length) ?_ (by simpa using hl) ?_
    · rw [q]
      simp
    · show ((fCons (fCall dLenS (fCons (fVar 1) fNil)) fNil) (argE 3 2 [d, d])).bind rng1 = _
      exact bind1 (call1 (d := d) rfl a3) (rng1_eq _ hl)
    · intro k hk
      have hk := List.mem_range.mp hk
      refine ⟨[some d, some d, some (iD k)], rfl, ?_, fun z => by cases z⟩
      have e1 : dIx d (iD k) = some ds[k] := by
        unfold dIx
        rw [a4, Option.bind_some]
        exact atI_get ds k hk
      have e2 : f2 dIx (fVar 0) (fVar 2) [some d, some d, some (iD k)] = some ds[k] := f2_ok rfl rfl e1
      have e3 : f2 dIx (fVar 1) (fVar 2) [some d, some d, some (iD k)] = some ds[k] := f2_ok rfl rfl e1
      unfold fNot
      rw [test_ok (call2 e2 e3 (h _ (List.getElem_mem hk)))]
      rfl
  refine defF_rt rfl (seq_rt (if_t ?_ (seq_nx (if_nx ?_) (seq_nx (if_nx ?_) (ret_ok ?_)))))
  · unfold fOr
    rw [test_ok (f1_ok (d := d) rfl a1)]
    cases T with
    | true => rfl
    | false =>
      show fTest _ _ = _
      rw [test_ok (f1_ok (d := d) rfl a2)]; rfl
  · unfold fOr
    rw [test_ok (f2_ok (f1_ok (d := d) rfl a1) (f1_ok (d := d) rfl a1) (neb T T))]
    rw [test_ok (f2_ok (f1_ok (d := d) rfl a2) (f1_ok (d := d) rfl a2) (neb (!T) (!T)))]
    simp
  · rw [test_ok (f2_ok (call1 (d := d) rfl a3) (call1 (d := d) rfl a3) (ne_i ds.length ds.length))]
    simp
  · refine f2_ok (d := iD 0) (d' := iD 0) (call1 l rfl) rfl ?_
    rw [eq_i]; rfl
theorem same_ok : ∀ (k : Nat) (d : D), Flat k d → ∀ f, k < f → m__law_same f [d, d] = some (.bool true)
  | 0, d, h, f, hf => by
    obtain ⟨n, rfl⟩ := h
    cases f with
    | zero => omega
    | succ f => exact same_int f n
  | k + 1, d, h, f, hf => by
    cases f with
    | zero => omega
    | succ f =>
      rcases h with ⟨n, rfl⟩ | ⟨ds, h1, h2, h3⟩
      · exact same_int f n
      · have q : ∀ x ∈ ds, m__law_same f [x, x] = some (.bool true) := fun x hx => same_ok k x (h3 x hx) f (by omega)
        rcases h1 with h1 | h1
        · exact same_seq (T := false) h1 h2 q
        · exact same_seq (T := true) h1 h2 q
theorem flat_t (l : List Nat) (h : l.length ≤ 100000) : Flat 1 (tD l) := .inr ⟨_, .inr rfl, by simpa using h, fun x hx => by
  obtain ⟨n, _, rfl⟩ := List.mem_map.mp hx
  exact ⟨n, rfl⟩⟩
theorem flat_g (n : Nat) (es : List (Nat × Nat)) (h : es.length ≤ 100000) : Flat 3 (gE n es) := .inr ⟨_, .inr rfl, by simp, fun x hx => by
  simp only [List.mem_cons, List.not_mem_nil, or_false] at hx
  rcases hx with rfl | rfl
  · exact .inl ⟨n, rfl⟩
  · exact .inr ⟨_, .inr rfl, by simpa using h, fun x hx => by
      obtain ⟨p, _, rfl⟩ := List.mem_map.mp hx
      exact .inr ⟨_, .inr rfl, by simp, fun x hx => by
        simp only [List.mem_cons, List.not_mem_nil, or_false] at hx
        rcases hx with rfl | rfl
        · exact ⟨_, rfl⟩
        · exact ⟨_, rfl⟩⟩⟩⟩

/-! the copies -/
theorem gK_inj (n : Nat) {a b : List (Nat × Nat)} (h : gK n a = gK n b) : a = b := by
  simp only [gK, NestedKey.tup.injEq, List.cons.injEq, and_true, true_and] at h
  exact List.map_inj_right (fun x y => pK_inj) |>.mp h
theorem eqv_es : ∀ a b : List (Nat × Nat), PyData.eqvAll (a.map pD) (b.map pD) = decide (a = b)
  | [], [] => by simp [PyData.eqvAll]
  | [], _ :: _ => by simp [PyData.eqvAll]
  | _ :: _, [] => by simp [PyData.eqvAll]
  | x :: a, y :: b => by
    rw [List.map_cons, List.map_cons, PyData.eqvAll, eqv_es a b, eqv_p]
    simp
theorem eqv_g (n : Nat) (a b : List (Nat × Nat)) : PyData.eqv (gE n a) (gE n b) = decide (a = b) := by
  simp only [PyData.eqv, PyData.eqvAll, eqv_es]
  simp
theorem ded_map {α : Type} [DecidableEq α] (f : α → NK) (inj : ∀ x y, f x = f y → x = y) : ∀ l : List α, ∃ m : List α, m.Nodup ∧ (∀ x, x ∈ m ↔ x ∈ l) ∧ ded (l.map f) = m.map f
  | [] => ⟨[], List.nodup_nil, fun x => Iff.rfl, rfl⟩
  | x :: l => by
    obtain ⟨m, nd, hm, e⟩ := ded_map f inj l
    by_cases c : x ∈ l
    · refine ⟨m, nd, fun y => ?_, ?_⟩
      · rw [hm, List.mem_cons]
        exact ⟨.inr, fun z => z.elim (fun q => by rw [q]; exact c) fun z => z⟩
      · rw [List.map_cons, ded, if_pos (ded_mem.mpr (List.mem_map_of_mem c)), e]
    · refine ⟨x :: m, List.nodup_cons.mpr ⟨fun z => c ((hm x).mp z), nd⟩, fun y => by rw [List.mem_cons, List.mem_cons, hm], ?_⟩
      rw [List.map_cons, ded, if_neg fun z => ?_, e, List.map_cons]
      obtain ⟨y, hy, ey⟩ := List.mem_map.mp (ded_mem.mp z)
      exact c (by rw [← inj _ _ ey]; exact hy)
/-- sorted(set(graphs)): without repeats, in order -/
theorem sortSet_g (n : Nat) (l : List (List (Nat × Nat))) (few : ∀ m : List (List (Nat × Nat)), m.Nodup → (∀ x, x ∈ m ↔ x ∈ l) → m.length < 64) : ∃ cl : List (List (Nat × Nat)), cl.Nodup ∧ (∀ x, x ∈ cl ↔ x ∈ l) ∧ cl.length < 64 ∧ cl.Pairwise (fun a b => PySem.W.dataLt (gE n b) (gE n a) = false) ∧
    dSortSet (.list (l.map (gE n))) = some (.list (cl.map (gE n))) := by
  obtain ⟨m, nd, hm, e⟩ := ded_map (gK n) (fun _ _ h => gK_inj n h) l
  have hl := few m nd hm
  have T := PySem.W.sortLe_total (listOrd itemOrd) false fun es : List (Nat × Nat) => PySem.W.keyToks (gE n es)
  have pm : (m.mergeSort (PySem.W.dataLe false (gE n))).Perm m := List.mergeSort_perm m _
  refine ⟨m.mergeSort (PySem.W.dataLe false (gE n)), pm.nodup_iff.mpr nd, fun x => by rw [pm.mem_iff, hm], by rw [pm.length_eq]; exact hl, ?_, ?_⟩
  · refine (List.pairwise_mergeSort (fun a b c => T.trans a b c) (fun a b => by have := T.total a b; simpa using this) m).imp fun {a b} h => ?_
    have h' : (!PySem.W.dataLt (gE n b) (gE n a)) = true := h
    simpa using h'
  · show (keyDs (l.map (gE n))).bind (fun ks => if setOk ks = true then some (PyData.list (sortD ((ded ks).map NestedKey.data))) else none) = _
    rw [keyDs_map (gK n) (gE n) (gE_key n), Option.bind_some]
    have ed : (ded (l.map (gK n))).map NestedKey.data = m.map (gE n) := by rw [e, map_data (gK n) (gE n) (gK_data n)]
    have ok : setOk (l.map (gK n)) = true := by
      unfold setOk
      rw [ed]
      simp only [Bool.and_eq_true, decide_eq_true_eq]
      refine ⟨⟨⟨⟨?_, ?_⟩, dataOk_map (gE n) (alike_g n) m⟩, ?_⟩, all_map_true (gE n) shal m (shal_g n)⟩
      · refine List.all_eq_true.mpr fun k hk => ?_
        obtain ⟨es, _, rfl⟩ := List.mem_map.mp hk
        refine decide_eq_true ?_
        have : ∀ es : List (Nat × Nat), NestedKey.depthAll (es.map pK) ≤ 1 := by
          intro es
          induction es with
          | nil => simp [NestedKey.depthAll]
          | cons p es ih =>
            rw [List.map_cons, NestedKey.depthAll, pK_depth]
            omega
        have := this es
        simp only [gK, NestedKey.depth, NestedKey.depthAll]
        omega
      · rw [e, List.length_map]; exact hl
      · refine tups_of _ fun d hd => ?_
        obtain ⟨es, _, rfl⟩ := List.mem_map.mp hd
        exact ⟨_, _, rfl⟩
    rw [if_pos ok, ed]
    exact congrArg (fun z => some (PyData.list z)) (List.map_mergeSort (f := gE n) (r := PySem.W.dataLe false (gE n)) (s := PySem.W.dataLe false fun d => d) (fun a _ b _ => rfl)).symm
/-- the least of them is the first -/
theorem minD_g (n : Nat) {cl : List (List (Nat × Nat))} {c : List (Nat × Nat)} {cs xs : List (List (Nat × Nat))} {x : List (Nat × Nat)} (e : cl = c :: cs) (so : cl.Pairwise fun a b => PySem.W.dataLt (gE n b) (gE n a) = false) (hm : ∀ y, y ∈ x :: xs ↔ y ∈ cl) : PySem.W.minD (gE n x) (xs.map (gE n)) = gE n c := by
  have hmem := minD_mem (gE n x) (xs.map (gE n))
  rw [← List.map_cons] at hmem
  obtain ⟨y, hy, ey⟩ := List.mem_map.mp hmem
  have least : ∀ (x : D) (xs : List D), ∀ z ∈ x :: xs, PySem.W.dataLt z (PySem.W.minD x xs) = false := by
    intro x xs
    induction xs generalizing x with
    | nil =>
      intro z hz
      rw [List.mem_singleton.mp hz]
      exact (listOrd itemOrd).irrefl _
    | cons a as ih =>
      intro z hz
      show PySem.W.dataLt z (PySem.W.minD (if PySem.W.dataLt a x = true then a else x) as) = false
      have i0 := ih (if PySem.W.dataLt a x = true then a else x)
      have up : ∀ w, PySem.W.dataLt w (if PySem.W.dataLt a x = true then a else x) = false → PySem.W.dataLt w (PySem.W.minD (if PySem.W.dataLt a x = true then a else x) as) = false := fun w hw =>
        KeyOrd.kle_trans (O := listOrd itemOrd) (i0 _ (by simp)) hw
      rcases List.mem_cons.mp hz with q | q
      · subst q
        refine up _ ?_
        split
        · rename_i h; exact lt_le h
        · exact (listOrd itemOrd).irrefl _
      · rcases List.mem_cons.mp q with q | q
        · subst q
          refine up _ ?_
          split
          · exact (listOrd itemOrd).irrefl _
          · rename_i h; simpa using h
        · exact i0 z (by simp [q])
  have l1 : PySem.W.dataLt (gE n c) (gE n y) = false := by
    rw [ey]
    refine least _ _ _ ?_
    rw [← List.map_cons]
    exact List.mem_map_of_mem ((hm c).mpr (by rw [e]; simp))
  have l2 : PySem.W.dataLt (gE n y) (gE n c) = false := by
    have hy' := (hm y).mp hy
    rw [e] at hy' so
    rcases List.mem_cons.mp hy' with q | q
    · rw [q]; exact lt_irr _
    · exact (List.pairwise_cons.mp so).1 y q
  have t : PySem.W.keyToks (gE n y) = PySem.W.keyToks (gE n c) := (listOrd itemOrd).total _ _ l2 l1
  have := toks_inj (alike_g n y c) t
  rw [eqv_g] at this
  rw [← ey, of_decide_eq_true this]
theorem ev_canon {n : Nat} (h1 : 1 ≤ n) (h2 : n ≤ 5) {A : Nat → Nat → Bool} (g : Gr n A) {cl cs : List (List (Nat × Nat))} {c : List (Nat × Nat)} (e : cl = c :: cs) (so : cl.Pairwise fun a b => PySem.W.dataLt (gE n b) (gE n a) = false)
    (hm : ∀ y, y ∈ cl ↔ ∃ s ∈ permL n, eL n (ren n A s) = y) : m_canonical [gD n A] = some (gE n c) := by
  unfold m_canonical F_canonical
  refine defF_rt rfl (ret_ok ?_)
  have hl := (perm_len h1 h2).1
  have l : fLc (fItems (fCall (m_all_orders 10) (fCons (f1 dLstRg (f2 dIx (fVar 0) (fC (.int 0)))) fNil))) (setN 1) (fun _ => some true) (fCall m_renamed (fCons (fVar 0) (fCons (fVar 1) fNil))) [1] (argE 2 1 [gD n A]) = some (.list ((permL n).map fun s => gD n (ren n A s))) := by
    refine fLc_map tD _ (permL n) ?_ (by omega) fun s hs => ⟨[some (gD n A), some (tD s)], rfl, ?_⟩
    · unfold fItems
      rw [call1 (d := .list ((List.range n).map iD)) ?_ (ev_orders h1 h2).2]
      · rfl
      · refine f1_ok (f2_ok rfl rfl (ix0 n (eL n A))) ?_
        show (if 0 ≤ (n : Int) ∧ (n : Int) ≤ 100000 then some (PyData.list (Mx.upTo 0 n)) else none) = _
        rw [if_pos (by omega)]
        have := rng1_eq n (by omega)
        have e2 : (-100000 ≤ (n : Int) ∧ (n : Int) ≤ 100000) := by omega
        have q : rng1 [iD n] = some (Mx.upTo 0 n) := by
          show (if -100000 ≤ (n : Int) ∧ (n : Int) ≤ 100000 then some (Mx.upTo 0 n) else none) = _
          rw [if_pos e2]
        rw [q] at this
        rw [Option.some.inj this]
    · exact call2 rfl rfl (ev_renamed h1 (by omega) g (mem_permL.mp hs))
  refine call1 l ?_
  have em : (permL n).map (fun s => gD n (ren n A s)) = ((permL n).map fun s => eL n (ren n A s)).map (gE n) := by rw [List.map_map]; rfl
  rw [em]
  have mm : ∀ y, y ∈ (permL n).map (fun s => eL n (ren n A s)) ↔ y ∈ cl := fun y => by
    rw [hm, List.mem_map]
  generalize (permL n).map (fun s => eL n (ren n A s)) = L at mm
  cases L with
  | nil => exact absurd ((mm c).mpr (by rw [e]; simp)) (by simp)
  | cons x xs =>
    rw [List.map_cons]
    show (if (dataOk (gE n x :: xs.map (gE n)) && (gE n x :: xs.map (gE n)).all (fun d => !isNo d) && (gE n x :: xs.map (gE n)).all shal) = true then some (PySem.W.minD (gE n x) (xs.map (gE n))) else none) = _
    rw [← List.map_cons, if_pos, minD_g n e so mm]
    rw [dataOk_map (gE n) (alike_g n), all_map_true (gE n) _ _ (fun _ => rfl), all_map_true (gE n) shal _ (shal_g n)]
    rfl
end K53

/-! THE PLAIN LAW, part 7: the pool, the drawn graph. -/
namespace K53
open PySem PySem.Spec L2 PyProof.Rows Mx Pm Pl

abbrev zD (z : Int) : D := .int z
abbrev poolD (cells : List Int) (pos : Nat) (cur k salt : Int) : D := .list [.list (cells.map PyData.int), .int pos, .int cur, .int k, .int salt]
def PoolOk (d : D) : Prop := ∃ cells pos cur k salt, d = poolD cells pos cur k salt
theorem mul_ok (a b : Int) (h : -(2 ^ 64) < b ∧ b < 2 ^ 64) : dMul (.int a) (.int b) = some (.int (a * b)) := by
  show (if dMul.CMul' a b = true then some (PyData.int (a * b)) else none) = _
  rw [if_pos]
  exact decide_eq_true (.inr h)
theorem mod_ok (a b : Int) (h : 0 < b) : dMod (.int a) (.int b) = some (.int (a % b)) := by
  show (if 0 < b then some (PyData.int (a % b)) else none) = _
  rw [if_pos h]
theorem div_ok (a b : Int) (h : 0 < b ∧ b < 1073741824) : dDiv (.int a) (.int b) = some (.int (a / b)) := by
  show (if 0 < b ∧ b < 1073741824 then some (PyData.int (a / b)) else none) = _
  rw [if_pos h]
theorem ev_spread (c : Int) : ∃ z : Int, m__law_spread [.int c] = some (.int z) := by
  have L := loop_inv (st := setN 3) (F := (fSeq (fSet 1 (f2 dMod (fCall dInt (fCons (f2 dAdd (f2 dAdd (f2 dMul (fVar 1) (fC (.int 48271))) (fC (.int 12345))) (fVar 3)) fNil)) (fC (.int 2147483647))))
   (fSet 2 (f2 dAdd (f2 dMul (fVar 2) (fC (.int 2147483647))) (fVar 1))))) iD (fun _ ρ => ∃ a b z, ρ = [some (zD c), some (zD a), some (zD b), z]) (List.range 4) [] [some (zD c), some (zD (c % 2147483647)), some (zD 1), none] ⟨_, _, _, rfl⟩ ?_
  · obtain ⟨ρ', l1, a, b, z, rfl⟩ := L
    refine ⟨b, ?_⟩
    unfold m__law_spread F__law_spread
    refine defF_rt rfl (seq_nx (set_nx (d := zD (c % 2147483647)) ?_) (seq_nx (set_nx rfl) (seq_nx (ρ' := [some (zD c), some (zD a), some (zD b), z]) ?_ (ret_ok rfl))))
    · exact f2_ok (call1 (d := zD c) rfl rfl) rfl (mod_ok _ _ (by decide))
    · show (((fCons (fC (.int 4)) fNil) _).bind rng1).bind _ = _
      rw [bind1 (d := iD 4) rfl (rng1_eq 4 (by decide)), Option.bind_some]
      exact l1
  · rintro d x r ρ ed ⟨a, b, z, rfl⟩
    refine ⟨[some (zD c), some (zD a), some (zD b), some (iD x)], [some (zD c), some (zD ((a * 48271 + 12345 + x) % 2147483647)), some (zD (b * 2147483647 + (a * 48271 + 12345 + x) % 2147483647)), some (iD x)], rfl, seq_nx (set_nx ?_) (set_nx ?_), ⟨_, _, _, rfl⟩⟩
    · exact f2_ok (call1 (f2_ok (f2_ok (f2_ok (d := zD a) rfl rfl (mul_ok a 48271 (by decide))) rfl rfl) (d' := iD x) rfl rfl) rfl) rfl (mod_ok _ _ (by decide))
    · exact f2_ok (f2_ok (d := zD b) rfl rfl (mul_ok b 2147483647 (by decide))) (d' := zD ((a * 48271 + 12345 + x) % 2147483647)) rfl rfl
theorem int_le (a b : Int) : dLe (.int a) (.int b) = some (.bool (decide (a ≤ b))) := rfl
theorem int_lt (a b : Int) : dLt (.int a) (.int b) = some (.bool (decide (a < b))) := rfl
section
variable {cells : List Int} {pos : Nat} {cur k salt : Int} {ρ : En}
theorem pf0 : f2 dIx (fVar 0) (fC (.int 0)) (some (poolD cells pos cur k salt) :: ρ) = some (.list (cells.map PyData.int)) := rfl
theorem pf1 : f2 dIx (fVar 0) (fC (.int 1)) (some (poolD cells pos cur k salt) :: ρ) = some (iD pos) := rfl
theorem pf2 : f2 dIx (fVar 0) (fC (.int 2)) (some (poolD cells pos cur k salt) :: ρ) = some (zD cur) := rfl
theorem pf3 : f2 dIx (fVar 0) (fC (.int 3)) (some (poolD cells pos cur k salt) :: ρ) = some (zD k) := rfl
theorem pf4 : f2 dIx (fVar 0) (fC (.int 4)) (some (poolD cells pos cur k salt) :: ρ) = some (zD salt) := rfl
theorem ps1 {fv : Fx} {z : Nat} (h : fv (some (poolD cells pos cur k salt) :: ρ) = some (iD z)) : fSetL 0 (fC (.int 1)) fv (some (poolD cells pos cur k salt) :: ρ) = some (.nx (some (poolD cells z cur k salt) :: ρ)) := by
  unfold fSetL
  rw [h]; rfl
theorem ps2 {fv : Fx} {z : Int} (h : fv (some (poolD cells pos cur k salt) :: ρ) = some (zD z)) : fSetL 0 (fC (.int 2)) fv (some (poolD cells pos cur k salt) :: ρ) = some (.nx (some (poolD cells pos z k salt) :: ρ)) := by
  unfold fSetL
  rw [h]; rfl
theorem ps3 {fv : Fx} {z : Int} (h : fv (some (poolD cells pos cur k salt) :: ρ) = some (zD z)) : fSetL 0 (fC (.int 3)) fv (some (poolD cells pos cur k salt) :: ρ) = some (.nx (some (poolD cells pos cur z salt) :: ρ)) := by
  unfold fSetL
  rw [h]; rfl
end
/-- what follows the refill -/
def drawTail : Fs := (fSeq (fSetL 0 (fC (.int 3)) (f2 dAdd (f2 dIx (fVar 0) (fC (.int 3))) (fC (.int 1))))
 (fSeq (fIfS (fTest (f2 dLe (f2 dIx (fVar 0) (fC (.int 2))) (fC (.int 0))))
 (fSeq (fSet 4 (f2 dMod (fCall dInt (fCons (f2 dAdd (f2 dAdd (f2 dMul (f2 dIx (fVar 0) (fC (.int 4))) (fC (.int 48271))) (f2 dMul (f2 dIx (fVar 0) (fC (.int 3))) (fC (.int 69621)))) (fC (.int 1))) fNil)) (fC (.int 2147483647))))
 (fSeq (fSet 4 (f2 dMod (fCall dInt (fCons (f2 dAdd (f2 dMul (fVar 4) (fC (.int 16807))) (f2 dIx (fVar 0) (fC (.int 3)))) fNil)) (fC (.int 2147483629))))
 (fRet (f2 dMod (f2 dDiv (fVar 4) (fC (.int 5))) (fVar 1)))))
 fNx)
 (fSeq (fSet 2 (f2 dMod (fCall dInt (fCons (f2 dIx (fVar 0) (fC (.int 2))) fNil)) (fVar 1)))
 (fSeq (fSetL 0 (fC (.int 2)) (f2 dDiv (f2 dIx (fVar 0) (fC (.int 2))) (fVar 1)))
 (fRet (fVar 2))))))
theorem draw_tail (cells : List Int) (pos : Nat) (cur k salt : Int) (m : Nat) (h : 0 < m ∧ m < 1000000) (x : Option D) : ∃ (r : Nat) (ρ' : En) (pd : D), drawTail [some (poolD cells pos cur k salt), some (iD m), none, x, none] = some (.rt (iD r) ρ') ∧ ρ'[0]? = some (some pd) ∧ PoolOk pd ∧ r < m := by
  have hm : (0 : Int) < (m : Int) := by omega
  by_cases c : cur ≤ 0
  · have e := mod_ok ((((salt * 48271 + (k + 1) * 69621 + 1) % 2147483647 * 16807 + (k + 1)) % 2147483629) / 5) (m : Int) hm
    have b0 := Int.emod_nonneg ((((salt * 48271 + (k + 1) * 69621 + 1) % 2147483647 * 16807 + (k + 1)) % 2147483629) / 5) (show (m : Int) ≠ 0 by omega)
    have b1 := Int.emod_lt_of_pos ((((salt * 48271 + (k + 1) * 69621 + 1) % 2147483647 * 16807 + (k + 1)) % 2147483629) / 5) hm
    generalize hr : ((((salt * 48271 + (k + 1) * 69621 + 1) % 2147483647 * 16807 + (k + 1)) % 2147483629) / 5) % (m : Int) = r at e b0 b1
    refine ⟨r.toNat, [some (poolD cells pos cur (k + 1) salt), some (iD m), none, x, some (zD (((salt * 48271 + (k + 1) * 69621 + 1) % 2147483647 * 16807 + (k + 1)) % 2147483629))], poolD cells pos cur (k + 1) salt, ?_, ?_, ⟨_, _, _, _, _, rfl⟩, by omega⟩
    · unfold drawTail
      refine seq_nx (ρ' := [some (poolD cells pos cur (k + 1) salt), some (iD m), none, x, none]) (ps3 (f2_ok pf3 rfl rfl)) (seq_rt (if_t (test_ok (f2_ok pf2 rfl (by rw [int_le, decide_eq_true c]))) (seq_nx (set_nx (d := zD ((salt * 48271 + (k + 1) * 69621 + 1) % 2147483647)) ?_) (seq_nx (set_nx (d := zD (((salt * 48271 + (k + 1) * 69621 + 1) % 2147483647 * 16807 + (k + 1)) % 2147483629)) ?_) (ret_ok (d := iD r.toNat) ?_)))))
      · refine f2_ok (call1 (f2_ok (f2_ok (f2_ok pf4 rfl (mul_ok _ _ (by decide))) (f2_ok pf3 rfl (mul_ok _ _ (by decide))) rfl) rfl rfl) rfl) rfl (mod_ok _ _ (by decide))
      · refine f2_ok (call1 (f2_ok (f2_ok (d := zD ((salt * 48271 + (k + 1) * 69621 + 1) % 2147483647)) rfl rfl (mul_ok _ _ (by decide))) pf3 rfl) rfl) rfl (mod_ok _ _ (by decide))
      · refine f2_ok (f2_ok (d := zD (((salt * 48271 + (k + 1) * 69621 + 1) % 2147483647 * 16807 + (k + 1)) % 2147483629)) rfl rfl (div_ok _ _ (by decide))) (d' := iD m) rfl ?_
        rw [e]
        exact congrArg (fun z : Int => some (PyData.int z)) (show r = ((r.toNat : Nat) : Int) by omega)
    · rfl
  · have e := mod_ok cur (m : Int) hm
    have e2 := div_ok cur (m : Int) ⟨hm, by omega⟩
    have b0 := Int.emod_nonneg cur (show (m : Int) ≠ 0 by omega)
    have b1 := Int.emod_lt_of_pos cur hm
    generalize hr : cur % (m : Int) = r at e b0 b1
    refine ⟨r.toNat, [some (poolD cells pos (cur / m) (k + 1) salt), some (iD m), some (iD r.toNat), x, none], poolD cells pos (cur / m) (k + 1) salt, ?_, ?_, ⟨_, _, _, _, _, rfl⟩, by omega⟩
    · unfold drawTail
      refine seq_nx (ρ' := [some (poolD cells pos cur (k + 1) salt), some (iD m), none, x, none]) (ps3 (f2_ok pf3 rfl rfl)) (seq_nx (if_nx (test_ok (f2_ok pf2 rfl (by rw [int_le, decide_eq_false c])))) (seq_nx (set_nx (d := iD r.toNat) ?_) (seq_nx (ρ' := [some (poolD cells pos (cur / m) (k + 1) salt), some (iD m), some (iD r.toNat), x, none]) (ps2 ?_) (ret_ok rfl))))
      · refine f2_ok (call1 pf2 rfl) (d' := iD m) rfl ?_
        rw [e]
        exact congrArg (fun z : Int => some (PyData.int z)) (show r = ((r.toNat : Nat) : Int) by omega)
      · exact f2_ok pf2 (d' := iD m) rfl e2
    · rfl
theorem defP_rt {n m : Nat} {F : Fs} {ds : List D} {d e : D} {ρ : En} (hl : ds.length = m) (h : F (argE n m ds) = some (.rt d ρ)) (h0 : ρ[0]? = some (some e)) : defP n m F ds = some (d, e) := by
  unfold defP
  rw [if_pos hl, h, Option.bind_some]
  simp only [h0]
theorem ev_draw {pd : D} (ok : PoolOk pd) {m : Nat} (h : 0 < m ∧ m < 1000000) : ∃ (r : Nat) (pd' : D), m__law_draw [pd, iD m] = some (iD r, pd') ∧ PoolOk pd' ∧ r < m := by
  obtain ⟨cells, pos, cur, k, salt, rfl⟩ := ok
  have fin : ∀ {ρ : En} {c2 : Int} {p2 : Nat} {x : Option D}, fIfS (fAnd (fTest (f2 dLe (f2 dIx (fVar 0) (fC (.int 2))) (fC (.int 0)))) (fTest (f2 dLt (f2 dIx (fVar 0) (fC (.int 1))) (fCall dLenS (fCons (f2 dIx (fVar 0) (fC (.int 0))) fNil)))))
   (fSeq (fSet 3 (f2 dIx (f2 dIx (fVar 0) (fC (.int 0))) (f2 dIx (fVar 0) (fC (.int 1)))))
   (fSeq (fSetL 0 (fC (.int 1)) (f2 dAdd (f2 dIx (fVar 0) (fC (.int 1))) (fC (.int 1))))
   (fSeq (fSetL 0 (fC (.int 2)) (fVar 3))
   (fIfS (fTest (f2 dLt (fVar 3) (fC (.int 1000000000000000000))))
   (fSetL 0 (fC (.int 2)) (fCall m__law_spread (fCons (fVar 3) fNil)))
   fNx))))
   fNx [some (poolD cells pos cur k salt), some (iD m), none, none, none] = some (.nx [some (poolD cells p2 c2 k salt), some (iD m), none, x, none]) → ∃ (r : Nat) (pd' : D), m__law_draw [poolD cells pos cur k salt, iD m] = some (iD r, pd') ∧ PoolOk pd' ∧ r < m := by
    intro ρ c2 p2 x hF
    obtain ⟨r, ρ', pd, t1, t2, t3, t4⟩ := draw_tail cells p2 c2 k salt m h x
    refine ⟨r, pd, ?_, t3, t4⟩
    unfold m__law_draw F__law_draw
    exact defP_rt rfl (seq_nx hF t1) t2
  have c1 : fTest (f2 dLe (f2 dIx (fVar 0) (fC (.int 2))) (fC (.int 0))) [some (poolD cells pos cur k salt), some (iD m), none, none, none] = some (decide (cur ≤ 0)) := test_ok (f2_ok pf2 rfl (int_le _ _))
  have c2 : fTest (f2 dLt (f2 dIx (fVar 0) (fC (.int 1))) (fCall dLenS (fCons (f2 dIx (fVar 0) (fC (.int 0))) fNil))) [some (poolD cells pos cur k salt), some (iD m), none, none, none] = some (decide ((pos : Int) < (cells.length : Int))) := by
    refine test_ok (f2_ok pf1 (call1 pf0 (r := some (iD cells.length)) ?_) (int_lt _ _))
    show some (PyData.int ((cells.map PyData.int).length : Nat)) = _
    rw [List.length_map]
  by_cases b1 : cur ≤ 0
  · by_cases b2 : (pos : Int) < (cells.length : Int)
    · have hp : pos < cells.length := by omega
      have e0 : atI (cells.map PyData.int) (pos : Int) = some (zD cells[pos]) := by
        have := atI_get (cells.map PyData.int) pos (by simpa using hp)
        rw [this]
        simp
      have body : ∀ {o : Out}, (fIfS (fTest (f2 dLt (fVar 3) (fC (.int 1000000000000000000))))
         (fSetL 0 (fC (.int 2)) (fCall m__law_spread (fCons (fVar 3) fNil)))
         fNx) [some (poolD cells (pos + 1) cells[pos] k salt), some (iD m), none, some (zD cells[pos]), none] = some o → fIfS (fAnd (fTest (f2 dLe (f2 dIx (fVar 0) (fC (.int 2))) (fC (.int 0)))) (fTest (f2 dLt (f2 dIx (fVar 0) (fC (.int 1))) (fCall dLenS (fCons (f2 dIx (fVar 0) (fC (.int 0))) fNil)))))
         (fSeq (fSet 3 (f2 dIx (f2 dIx (fVar 0) (fC (.int 0))) (f2 dIx (fVar 0) (fC (.int 1)))))
         (fSeq (fSetL 0 (fC (.int 1)) (f2 dAdd (f2 dIx (fVar 0) (fC (.int 1))) (fC (.int 1))))
         (fSeq (fSetL 0 (fC (.int 2)) (fVar 3))
         (fIfS (fTest (f2 dLt (fVar 3) (fC (.int 1000000000000000000))))
         (fSetL 0 (fC (.int 2)) (fCall m__law_spread (fCons (fVar 3) fNil)))
         fNx))))
         fNx [some (poolD cells pos cur k salt), some (iD m), none, none, none] = some o := fun {o} q => by
        refine if_t ?_ (seq_nx (set_nx (d := zD cells[pos]) ?_) (seq_nx (ρ' := [some (poolD cells (pos + 1) cur k salt), some (iD m), none, some (zD cells[pos]), none]) (ps1 ?_) (seq_nx (ρ' := [some (poolD cells (pos + 1) cells[pos] k salt), some (iD m), none, some (zD cells[pos]), none]) (ps2 rfl) q)))
        · unfold fAnd
          rw [c1, decide_eq_true b1]
          rw [Option.bind_some, if_pos rfl, c2, decide_eq_true b2]
        · exact f2_ok pf0 pf1 e0
        · exact f2_ok pf1 rfl rfl
      by_cases b3 : cells[pos] < 1000000000000000000
      · obtain ⟨z, hz⟩ := ev_spread cells[pos]
        refine fin (c2 := z) (p2 := pos + 1) (x := some (zD cells[pos])) (ρ := []) (body (if_t (test_ok (f2_ok (d := zD cells[pos]) rfl rfl (by rw [int_lt, decide_eq_true b3]))) (ps2 (call1 rfl hz))))
      · exact fin (c2 := cells[pos]) (p2 := pos + 1) (x := some (zD cells[pos])) (ρ := []) (body (if_nx (test_ok (f2_ok (d := zD cells[pos]) rfl rfl (by rw [int_lt, decide_eq_false b3])))))
    · refine fin (c2 := cur) (p2 := pos) (x := none) (ρ := []) (if_nx ?_)
      unfold fAnd
      rw [c1, decide_eq_true b1]
      rw [Option.bind_some, if_pos rfl, c2, decide_eq_false b2]
  · refine fin (c2 := cur) (p2 := pos) (x := none) (ρ := []) (if_nx ?_)
    unfold fAnd
    rw [c1, decide_eq_false b1]
    rfl
theorem ev_pool (ns : List Int) (h : ns.length ≤ 63) : ∃ pd, m__law_pool [.list (ns.map PyData.int)] = some pd ∧ PoolOk pd := by
  have L := loop_inv (st := setN 2) (F := (fSet 1 (f2 dMod (fCall dInt (fCons (f2 dAdd (f2 dMul (fVar 1) (fC (.int 31))) (fVar 2)) fNil)) (fC (.int 1000003))))) PyData.int (fun _ ρ => ∃ (a : Int) (z : Option D), ρ = [some (.list (ns.map PyData.int)), some (zD a), z]) ((ns.drop (HT.sIx (ns.map PyData.int).length 0 none)).take (HT.sIx (ns.map PyData.int).length (ns.map PyData.int).length (some 63) - HT.sIx (ns.map PyData.int).length 0 none)) [] [some (.list (ns.map PyData.int)), some (zD 7), none] ⟨_, _, rfl⟩ ?_
  · obtain ⟨ρ', l1, a, z, rfl⟩ := L
    refine ⟨poolD ns 0 0 0 a, ?_, ⟨_, _, _, _, _, rfl⟩⟩
    unfold m__law_pool F__law_pool
    refine defN_rt rfl (seq_nx (set_nx rfl) (seq_nx (ρ' := [some (.list (ns.map PyData.int)), some (zD a), z]) ?_ (ret_ok ?_)))
    · unfold fFor fItems
      rw [f1_ok (d := .list (((ns.drop (HT.sIx (ns.map PyData.int).length 0 none)).take (HT.sIx (ns.map PyData.int).length (ns.map PyData.int).length (some 63) - HT.sIx (ns.map PyData.int).length 0 none)).map PyData.int)) ?_ rfl]
      · exact l1
      · show some (PyData.list (Mx.cutD (ns.map PyData.int) none (some 63))) = _
        unfold Mx.cutD
        rw [List.map_take, List.map_drop]
    · rfl
  · rintro d x r ρ ed ⟨a, z, rfl⟩
    refine ⟨[some (.list (ns.map PyData.int)), some (zD a), some (zD x)], _, rfl, set_nx (d := zD ((a * 31 + x) % 1000003)) ?_, ⟨_, _, rfl⟩⟩
    exact f2_ok (call1 (f2_ok (f2_ok (d := zD a) rfl rfl (mul_ok _ _ (by decide))) (d' := zD x) rfl rfl) rfl) rfl (mod_ok _ _ (by decide))
end K53

/-! THE PLAIN LAW, part 8: the drawn graph. -/
namespace K53
open PySem PySem.Spec L2 PyProof.Rows Mx Pm Pl

theorem xdraw {ρ : En} {i : Nat} {pd pd' : D} {f : Fx} {m : Nat} {r : Nat} (h0 : ρ[i]? = some (some pd)) (h : f ρ = some (iD m)) (k : m__law_draw [pd, iD m] = some (iD r, pd')) : xCall m__law_draw i (xCons (xPure f) xNil) ρ = some (iD r, ρ.set i (some pd')) := by
  have v : fVar i ρ = some pd := by unfold fVar; rw [h0]
  unfold xCall xCons xPure xNil
  rw [v]
  simp only [h, Option.bind_some, Option.map_some, v, k]
theorem xset_ok {i : Nat} {f : Fe} {ρ ρ' : En} {d : D} (h : f ρ = some (d, ρ')) : xSet i f ρ = some (.nx (ρ'.set i (some d))) := by
  unfold xSet
  rw [h]; rfl
theorem x2_ok {g : D → D → Option D} {a b : Fe} {ρ ρ1 ρ2 : En} {x y z : D} (h1 : a ρ = some (x, ρ1)) (h2 : b ρ1 = some (y, ρ2)) (h3 : g x y = some z) : x2 g a b ρ = some (z, ρ2) := by
  unfold x2
  rw [h1]
  simp only [Option.bind_some, h2, h3, Option.map_some]
theorem xp_ok {f : Fx} {ρ : En} {d : D} (h : f ρ = some d) : xPure f ρ = some (d, ρ) := by
  unfold xPure
  rw [h]; rfl
theorem xif_ok {c : Fe} {F G : Fs} {ρ ρ' : En} {b : Bool} {o : Out} (h : c ρ = some (.bool b, ρ')) (k : (if b = true then F ρ' else G ρ') = some o) : xIfS (xTest c) F G ρ = some o := by
  unfold xIfS xTest
  rw [h]
  simp only [Option.bind_some, boolOf, Option.map_some]
  exact k
abbrev good (n : Nat) (ps : List (Nat × Nat)) : Prop := ∀ q ∈ ps, q.1 < q.2 ∧ q.2 < n
theorem app_ok {i : Nat} {f : Fx} {ρ : En} {ds : List D} {d : D} (h : f ρ = some d) (h0 : ρ[i]? = some (some (.list ds))) (hl : ds.length < 100000) : fApp i f ρ = some (.nx (ρ.set i (some (.list (ds ++ [d]))))) := by
  unfold fApp
  rw [h, Option.bind_some, h0]
  simp only
  rw [if_pos hl]
theorem good_graph {n : Nat} (hn : n ≤ 5) {ps : List (Nat × Nat)} (h : good n ps) (hl : ps.length ≤ 100000) : ∃ A, Gr n A ∧ m__law_made [iD n, .list (ps.map pD)] = some (gD n A) := by
  refine ⟨fun u v => decide (pr u v ∈ ps), ⟨fun u v => ?_, fun u => ?_⟩, ?_⟩
  · show decide (pr u v ∈ ps) = decide (pr v u ∈ ps)
    unfold pr
    rw [Nat.min_comm, Nat.max_comm]
  · refine decide_eq_false fun z => ?_
    have := (h _ z).1
    unfold pr at this
    simp at this
  · refine ev_made n (eL_sorted n _) (fun p => ?_) (Nat.lt_of_le_of_lt (eL_len n _) (Nat.lt_of_le_of_lt (Nat.mul_le_mul hn hn) (by decide))) hl
    obtain ⟨a, b⟩ := p
    rw [mem_eL, List.mem_map]
    have self : ∀ q ∈ ps, prq q = q := fun q hq => by
      have := (h q hq).1
      exact Prod.ext (Nat.min_eq_left (by omega)) (Nat.max_eq_right (by omega))
    constructor
    · rintro ⟨h1, h2, h3⟩
      have h3 := of_decide_eq_true h3
      rw [show pr a b = (a, b) from Prod.ext (Nat.min_eq_left (by omega)) (Nat.max_eq_right (by omega))] at h3
      exact ⟨(a, b), h3, self _ h3⟩
    · rintro ⟨q, hq, e⟩
      rw [self q hq] at e
      subst e
      have := h _ hq
      refine ⟨this.1, this.2, decide_eq_true ?_⟩
      rw [show pr a b = (a, b) from Prod.ext (Nat.min_eq_left (by omega)) (Nat.max_eq_right (by omega))]
      exact hq
abbrev gIn : Fs := (xIfS (xTest (x2 dLt (xCall m__law_draw 0 (xCons (xPure (fC (.int 6))) xNil)) (xPure (fVar 4))))
   (fApp 5 (fTup (fCons (fVar 6) (fCons (fVar 7) fNil))))
   fNx)
abbrev gEnv (pd : D) (n m : Nat) (ps : List (Nat × Nat)) (a b c : Option D) : En := [some pd, some (iD 1), some (iD 5), some (iD n), some (iD m), some (.list (ps.map pD)), a, b, c]
theorem g_in {pd : D} (ok : PoolOk pd) {n m u v : Nat} {ps : List (Nat × Nat)} (h : good n ps) (hu : u < v) (hv : v < n) (hl : ps.length < 90000) (c : Option D) : ∃ pd' ps', gIn (gEnv pd n m ps (some (iD u)) (some (iD v)) c) = some (.nx (gEnv pd' n m ps' (some (iD u)) (some (iD v)) c)) ∧ PoolOk pd' ∧ good n ps' ∧ ps'.length ≤ ps.length + 1 := by
  obtain ⟨r, pd', h1, h2, h3⟩ := ev_draw ok (m := 6) (by decide)
  have e := x2_ok (g := dLt) (ρ := gEnv pd n m ps (some (iD u)) (some (iD v)) c) (xdraw (i := 0) (f := fC (.int 6)) rfl rfl h1) (b := xPure (fVar 4)) (xp_ok rfl) (int_lt _ _)
  by_cases q : (r : Int) < (m : Int)
  · refine ⟨pd', ps ++ [(u, v)], ?_, h2, fun p hp => ?_, by simp⟩
    · refine xif_ok e ?_
      rw [if_pos (decide_eq_true q)]
      refine (app_ok (ds := ps.map pD) (d := pD (u, v)) rfl rfl (by simp; omega)).trans ?_
      rw [← List.map_singleton, ← List.map_append]
      rfl
    · rcases List.mem_append.mp hp with z | z
      · exact h p z
      · rw [List.mem_singleton.mp z]; exact ⟨hu, hv⟩
  · refine ⟨pd', ps, ?_, h2, h, by omega⟩
    refine xif_ok e ?_
    rw [if_neg (by simp; omega)]
    rfl
theorem ev_lgraph {pd : D} (ok : PoolOk pd) : ∃ (n : Nat) (A : Nat → Nat → Bool) (pd' : D), m__law_graph [pd, iD 1, iD 5] = some (gD n A, pd') ∧ PoolOk pd' ∧ 1 ≤ n ∧ n ≤ 5 ∧ Gr n A := by
  obtain ⟨r, p1, d1, o1, l1⟩ := ev_draw ok (m := 5) (by decide)
  obtain ⟨r2, p2, d2, o2, l2⟩ := ev_draw o1 (m := 5) (by decide)
  obtain ⟨n, en⟩ : ∃ n, n = 1 + r := ⟨_, rfl⟩
  obtain ⟨m, em⟩ : ∃ m, m = 1 + r2 := ⟨_, rfl⟩
  have hn : n ≤ 5 := by omega
  have en' : ((1 : Int) + (r : Int)) = (n : Int) := by omega
  have em' : ((1 : Int) + (r2 : Int)) = (m : Int) := by omega
  have L := loop_inv (st := setN 6) (F := fFor (fun ρ => ((fCons (f2 dAdd (fVar 6) (fC (.int 1))) (fCons (fVar 3) fNil)) ρ).bind rng2) (setN 7) gIn) iD (fun done ρ => ∃ pd ps a b, ρ = gEnv pd n m ps a b none ∧ PoolOk pd ∧ good n ps ∧ ps.length ≤ done.length * 5) (List.range n) []
    (gEnv p2 n m [] none none none) ⟨p2, [], none, none, rfl, o2, (fun q hq => (nomatch hq)), by simp⟩ ?_
  · obtain ⟨ρ', q1, p3, ps, a, b, rfl, o3, g3, h3⟩ := L
    obtain ⟨r5, p5, d5, o5, l5⟩ := ev_draw o3 (m := 5) (by decide)
    have hps : ps.length ≤ 25 := by simp at h3; omega
    have e5 := x2_ok (g := dEq) (ρ := gEnv p3 n m ps a b none) (xdraw (i := 0) (f := fC (.int 5)) rfl rfl d5) (b := xPure (fC (.int 0))) (xp_ok rfl) (eq_i r5 0)
    have fin : ∀ (ps' : List (Nat × Nat)), good n ps' → ps'.length ≤ 100000 → xIfS (xTest (x2 dEq (xCall m__law_draw 0 (xCons (xPure (fC (.int 5))) xNil)) (xPure (fC (.int 0)))))
       (fSeq (fSet 5 (fLc (fun ρ => ((fCons (f2 dSub (fVar 3) (fC (.int 1))) fNil) ρ).bind rng1) (setN 8) (fun _ => some true) (fTup (fCons (fVar 8) (fCons (f2 dAdd (fVar 8) (fC (.int 1))) fNil))) [8]))
       (fIfS (fTest (f2 dGt (fVar 3) (fC (.int 2))))
       (fApp 5 (fTup (fCons (fC (.int 0)) (fCons (f2 dSub (fVar 3) (fC (.int 1))) fNil))))
       fNx))
       fNx (gEnv p3 n m ps a b none) = some (.nx (gEnv p5 n m ps' a b none)) → ∃ (n : Nat) (A : Nat → Nat → Bool) (pd' : D), m__law_graph [pd, iD 1, iD 5] = some (gD n A, pd') ∧ PoolOk pd' ∧ 1 ≤ n ∧ n ≤ 5 ∧ Gr n A := by
      intro ps' g' hl' hF
      obtain ⟨A, gA, eA⟩ := good_graph hn g' hl'
      refine ⟨n, A, p5, ?_, o5, by omega, hn, gA⟩
      unfold m__law_graph F__law_graph
      refine defP_rt (ρ := gEnv p5 n m ps' a b none) rfl (seq_nx (ρ' := [some p1, some (iD 1), some (iD 5), some (iD n), none, none, none, none, none]) ?_ (seq_nx (ρ' := [some p2, some (iD 1), some (iD 5), some (iD n), some (iD m), none, none, none, none]) ?_ (seq_nx (set_nx (d := .list []) rfl) (seq_nx (ρ' := gEnv p3 n m ps a b none) ?_ (seq_nx hF (ret_ok ?_)))))) rfl
      · have x := x2_ok (g := dAdd) (a := xPure (fVar 1)) (ρ := [some pd, some (iD 1), some (iD 5), none, none, none, none, none, none]) (xp_ok rfl) (xdraw (i := 0) (f := f2 dAdd (f2 dSub (fVar 2) (fVar 1)) (fC (.int 1))) (m := 5) rfl rfl d1) (z := iD n) (congrArg (fun z : Int => some (PyData.int z)) en')
        exact xset_ok x
      · have x := x2_ok (g := dAdd) (a := xPure (fC (.int 1))) (ρ := [some p1, some (iD 1), some (iD 5), some (iD n), none, none, none, none, none]) (xp_ok (d := iD 1) rfl) (xdraw (i := 0) (f := fC (.int 5)) (m := 5) rfl rfl d2) (z := iD m) (congrArg (fun z : Int => some (PyData.int z)) em')
        exact xset_ok x
      · show (((fCons (fVar 3) fNil) _).bind rng1).bind _ = _
        rw [bind1 (d := iD n) rfl (rng1_eq n (by omega)), Option.bind_some]
        exact q1
      · exact call2 (d := iD n) (d' := .list (ps'.map pD)) rfl rfl eA
    by_cases q : r5 = 0
    · have ht : decide (r5 = 0) = true := decide_eq_true q
      rw [ht] at e5
      have lc : fLc (fun ρ => ((fCons (f2 dSub (fVar 3) (fC (.int 1))) fNil) ρ).bind rng1) (setN 8) (fun _ => some true) (fTup (fCons (fVar 8) (fCons (f2 dAdd (fVar 8) (fC (.int 1))) fNil))) [8] (gEnv p5 n m ps a b none) = some (.list (((List.range (n - 1)).map fun k => (k, k + 1)).map pD)) := by
        rw [List.map_map]
        refine fLc_map iD (pD ∘ fun k => (k, k + 1)) (List.range (n - 1)) ?_ (by simp; omega) fun k hk => ⟨_, rfl, rfl⟩
        refine bind1 (d := iD (n - 1)) ?_ (rng1_eq _ (by omega))
        exact congrArg (fun z : Int => some (PyData.int z)) (show (n : Int) - 1 = ((n - 1 : Nat) : Int) by omega)
      have gp : good n ((List.range (n - 1)).map fun k => (k, k + 1)) := fun p hp => by
        obtain ⟨k, hk, rfl⟩ := List.mem_map.mp hp
        have := List.mem_range.mp hk
        exact ⟨by show k < k + 1; omega, by show k + 1 < n; omega⟩
      have gt : fTest (f2 dGt (fVar 3) (fC (.int 2))) (gEnv p5 n m ((List.range (n - 1)).map fun k => (k, k + 1)) a b none) = some (decide ((2 : Int) < (n : Int))) := rfl
      by_cases q2 : (2 : Int) < (n : Int)
      · refine fin (((List.range (n - 1)).map fun k => (k, k + 1)) ++ [(0, n - 1)]) (fun p hp => ?_) (by simp; omega) (xif_ok e5 ?_)
        · rcases List.mem_append.mp hp with z | z
          · exact gp p z
          · rw [List.mem_singleton.mp z]
            exact ⟨by show 0 < n - 1; omega, by show n - 1 < n; omega⟩
        · rw [if_pos rfl]
          refine seq_nx (ρ' := gEnv p5 n m ((List.range (n - 1)).map fun k => (k, k + 1)) a b none) (set_nx lc) (if_t (by rw [gt, decide_eq_true q2]) ?_)
          refine (app_ok (ds := ((List.range (n - 1)).map fun k => (k, k + 1)).map pD) (d := pD (0, n - 1)) ?_ rfl (by simp; omega)).trans ?_
          · exact congrArg (fun z : Int => some (PyData.tuple [PyData.int 0, PyData.int z])) (show (n : Int) - 1 = ((n - 1 : Nat) : Int) by omega)
          · rw [← List.map_singleton, ← List.map_append]
            rfl
      · refine fin ((List.range (n - 1)).map fun k => (k, k + 1)) gp (by simp; omega) (xif_ok e5 ?_)
        rw [if_pos rfl]
        exact seq_nx (ρ' := gEnv p5 n m ((List.range (n - 1)).map fun k => (k, k + 1)) a b none) (set_nx lc) (if_nx (by rw [gt, decide_eq_false q2]))
    · have ht : decide (r5 = 0) = false := decide_eq_false q
      rw [ht] at e5
      refine fin ps g3 (by omega) (xif_ok e5 ?_)
      rw [if_neg Bool.false_ne_true]
      rfl
  · rintro d u r ρ ed ⟨p3, ps, a, b, rfl, o3, g3, h3⟩
    have hu : u < n := by
      have : u ∈ List.range n := by
        have : List.range n = d ++ u :: r := by simpa using ed
        rw [this]; simp
      exact List.mem_range.mp this
    have hd : d.length < n := by
      have := congrArg List.length ed
      simp at this
      omega
    have I := loop_inv (st := setN 7) (F := gIn) iD (fun done ρ => ∃ pd ps' b, ρ = gEnv pd n m ps' (some (iD u)) b none ∧ PoolOk pd ∧ good n ps' ∧ ps'.length ≤ ps.length + done.length) (List.range' (u + 1) (n - (u + 1))) []
      (gEnv p3 n m ps (some (iD u)) b none) ⟨p3, ps, b, rfl, o3, g3, by simp⟩ ?_
    · obtain ⟨ρ2, i1, p4, ps4, b4, rfl, o4, g4, h4⟩ := I
      refine ⟨gEnv p3 n m ps (some (iD u)) b none, gEnv p4 n m ps4 (some (iD u)) b4 none, rfl, ?_, p4, ps4, _, _, rfl, o4, g4, ?_⟩
      · show ((fCons (f2 dAdd (fVar 6) (fC (.int 1))) (fCons (fVar 3) fNil) (gEnv p3 n m ps (some (iD u)) b none)).bind rng2).bind (fun ds => loopF (setN 7) gIn ds (gEnv p3 n m ps (some (iD u)) b none)) = _
        have : (fCons (f2 dAdd (fVar 6) (fC (.int 1))) (fCons (fVar 3) fNil)) (gEnv p3 n m ps (some (iD u)) b none) = some [iD (u + 1), iD n] := rfl
        rw [this, Option.bind_some, rng2_eq (u + 1) n (by omega) (by omega), Option.bind_some]
        exact i1
      · simp at h4 ⊢
        omega
    · rintro d2 v r2 ρ2 ed2 ⟨p4, ps4, b4, rfl, o4, g4, h4⟩
      have hv : u < v ∧ v < n := by
        have : v ∈ List.range' (u + 1) (n - (u + 1)) := by
          have : List.range' (u + 1) (n - (u + 1)) = d2 ++ v :: r2 := by simpa using ed2
          rw [this]; simp
        rw [List.mem_range'_1] at this
        omega
      have hd2 : d2.length ≤ 5 := by
        have := congrArg List.length ed2
        simp at this
        omega
      obtain ⟨p6, ps6, s1, s2, s3, s4⟩ := g_in o4 (n := n) (m := m) (u := u) (v := v) g4 hv.1 hv.2 (by omega) none
      exact ⟨gEnv p4 n m ps4 (some (iD u)) (some (iD v)) none, gEnv p6 n m ps6 (some (iD u)) (some (iD v)) none, rfl, s1, p6, ps6, _, rfl, s2, s3, by simp; omega⟩
end K53

/-! THE PLAIN LAW, part 9: rounds of degrees. -/
namespace K53
open PySem PySem.Spec L2 PyProof.Rows Mx Pm Pl

abbrev Ky := Nat × List Nat
abbrev kE (c : Ky) : D := .tuple [iD c.1, tD c.2]
abbrev kK (c : Ky) : NK := .tup [iK c.1, tK c.2]
theorem kE_key (c : Ky) : keyD (kE c) = some (kK c) := by
  rw [keyD, keyDs, keyDs, iD_key, tD_key, keyDs]; rfl
theorem iK_inj {a b : Nat} (h : iK a = iK b) : a = b := by
  have h' : (a : Int) = (b : Int) := NestedKey.num.inj h
  omega
theorem kK_inj {c d : Ky} (h : kK c = kK d) : c = d := by
  have h' : [iK c.1, tK c.2] = [iK d.1, tK d.2] := NestedKey.tup.inj h
  injection h' with h1 h2
  injection h2 with h2 _
  have h3 : c.2.map iK = d.2.map iK := NestedKey.tup.inj h2
  exact Prod.ext (iK_inj h1) (List.map_inj_right (fun x y => iK_inj) |>.mp h3)
theorem kE_T (c : Ky) : keyT (kE c) = some (kK c) := by
  unfold keyT
  rw [kE_key, Option.bind_some]
  have d0 : ∀ l : List Nat, NestedKey.depthAll (l.map iK) = 0 := by
    intro l
    induction l with
    | nil => simp [NestedKey.depthAll]
    | cons x l ih => rw [List.map_cons, NestedKey.depthAll, ih]; simp [NestedKey.depth]
  show (if (kK c).depth ≤ 8 then some (kK c) else none) = _
  rw [if_pos]
  simp only [kK, NestedKey.depth, NestedKey.depthAll, d0]
  omega
def dictOf : Nat → List Ky → List (D × D)
  | _, [] => []
  | k, c :: cs => (kE c, iD k) :: dictOf (k + 1) cs
theorem dictOf_len : ∀ (k : Nat) (cs : List Ky), (dictOf k cs).length = cs.length
  | _, [] => rfl
  | k, c :: cs => by rw [dictOf, List.length_cons, dictOf_len (k + 1) cs, List.length_cons]
theorem dictOf_snoc : ∀ (k : Nat) (cs : List Ky) (c : Ky), dictOf k (cs ++ [c]) = dictOf k cs ++ [(kE c, iD (k + cs.length))]
  | k, [], c => by simp [dictOf]
  | k, d :: cs, c => by
    rw [List.cons_append, dictOf, dictOf_snoc (k + 1) cs c, dictOf, List.cons_append, List.length_cons, show k + 1 + cs.length = k + (cs.length + 1) by omega]
theorem dictOf_tup : ∀ (k : Nat) (cs : List Ky), tupKeys (dictOf k cs) = true
  | _, [] => rfl
  | k, c :: cs => by
    have := dictOf_tup (k + 1) cs
    unfold tupKeys at this ⊢
    rw [dictOf, List.all_cons, this]; rfl
theorem dictOf_find : ∀ (k : Nat) (cs : List Ky) (c : Ky), findD (dictOf k cs) (kK c) = if c ∈ cs then some (iD (k + cs.idxOf c)) else none
  | _, [], _ => rfl
  | k, d :: cs, c => by
    have ih := dictOf_find (k + 1) cs c
    unfold findD at ih ⊢
    rw [dictOf, List.find?_cons]
    by_cases e : d = c
    · subst e
      simp [kE_key]
    · have : ¬ (keyD (kE d) = some (kK c)) := by
        rw [kE_key]
        exact fun h => e (kK_inj (Option.some.inj h))
      simp only [this, decide_false]
      rw [ih, List.idxOf_cons]
      have e2 : ¬ c = d := fun z => e z.symm
      have e3 : (d == c) = false := by simpa using e
      by_cases m : c ∈ cs
      · rw [if_pos m, if_pos (by simp [m]), e3]
        simp
        omega
      · rw [if_neg m, if_neg (by simp [m, e2])]
theorem notin_d (cs : List Ky) (c : Ky) : dInN true (kE c) (.dict (dictOf 0 cs)) = some (.bool (!decide (c ∈ cs))) := by
  show (asDict (.dict (dictOf 0 cs))).bind _ = _
  rw [show asDict (.dict (dictOf 0 cs)) = some (dictOf 0 cs) from rfl, Option.bind_some, kE_T, Option.bind_some, dictOf_tup, if_pos rfl, dictOf_find]
  by_cases h : c ∈ cs <;> simp [h]
theorem ix_d (cs : List Ky) (c : Ky) (h : c ∈ cs) : dIxN (.dict (dictOf 0 cs)) (kE c) = some (iD (cs.idxOf c)) := by
  show (asDict (.dict (dictOf 0 cs))).bind _ = _
  rw [show asDict (.dict (dictOf 0 cs)) = some (dictOf 0 cs) from rfl, Option.bind_some, kE_T, Option.bind_some, dictOf_tup, if_pos rfl, dictOf_find, if_pos h, Nat.zero_add]
theorem put_d (cs : List Ky) (c : Ky) (h : c ∉ cs) (hl : cs.length < 100000) : dPutN (.dict (dictOf 0 cs)) (kE c) (iD cs.length) = some (.dict (dictOf 0 (cs ++ [c]))) := by
  show (asDict (.dict (dictOf 0 cs))).bind _ = _
  rw [show asDict (.dict (dictOf 0 cs)) = some (dictOf 0 cs) from rfl, Option.bind_some, kE_T, Option.bind_some, dictOf_tup, if_pos (by rw [dictOf_len]; simpa using hl)]
  unfold putD
  rw [dictOf_find, if_neg h, if_neg (by simp), dictOf_snoc, Nat.zero_add]
theorem ev_first (keys : List Ky) (hl : keys.length ≤ 1000) : ∃ row : List Nat, m_first_places [.list (keys.map kE)] = some (.list (row.map iD)) ∧ row.length = keys.length ∧ ∀ i j, (hi : i < keys.length) → (hj : j < keys.length) → (at0 row i = at0 row j ↔ keys[i] = keys[j]) := by
  have L := loop_inv (st := setN 2) (F := (fIfS (fTest (f2 (dInN true) (fVar 2) (fVar 1)))
   (fPutN 1 (fVar 2) (fCall dLenN (fCons (fVar 1) fNil)))
   fNx)) kE (fun done ρ => ∃ cs z, ρ = [some (.list (keys.map kE)), some (.dict (dictOf 0 cs)), z] ∧ (∀ c, c ∈ cs ↔ c ∈ done) ∧ cs.length ≤ done.length) keys [] [some (.list (keys.map kE)), some (.dict []), none] ⟨[], none, rfl, fun c => Iff.rfl, Nat.le_refl _⟩ ?_
  · obtain ⟨ρ', l1, cs, z, rfl, hm, hc⟩ := L
    refine ⟨keys.map fun c => cs.idxOf c, ?_, by simp, fun i j hi hj => ?_⟩
    · unfold m_first_places F_first_places
      refine defN_rt rfl (seq_nx (set_nx rfl) (seq_nx (show fFor _ _ _ _ = some (.nx _) from l1) (ret_ok ?_)))
      rw [List.map_map]
      refine fLc_map kE (iD ∘ fun c => cs.idxOf c) keys rfl (by omega) fun c hc => ⟨[some (.list (keys.map kE)), some (.dict (dictOf 0 cs)), some (kE c)], rfl, ?_⟩
      exact f2_ok (d := .dict (dictOf 0 cs)) (d' := kE c) rfl rfl (ix_d cs c ((hm c).mpr (by simpa using hc)))
    · have e : ∀ i (hi : i < keys.length), at0 (keys.map fun c => cs.idxOf c) i = cs.idxOf keys[i] := fun i hi => by
        unfold at0
        rw [List.getD_eq_getElem?_getD, List.getElem?_map, List.getElem?_eq_getElem hi]; rfl
      rw [e i hi, e j hj]
      constructor
      · intro h
        have mi : keys[i] ∈ cs := (hm _).mpr (by simp)
        have mj : keys[j] ∈ cs := (hm _).mpr (by simp)
        have li := List.idxOf_lt_length_of_mem mi
        have lj := List.idxOf_lt_length_of_mem mj
        have gi : cs[cs.idxOf keys[i]] = keys[i] := by simp
        have gj : cs[cs.idxOf keys[j]] = keys[j] := by simp
        rw [← gi, ← gj]
        simp only [h]
      · intro h; rw [h]
  · rintro d x r ρ ed ⟨cs, z, rfl, hm, hc⟩
    have dl : d.length < keys.length := by
      have : keys = d ++ x :: r := by simpa using ed
      rw [this]; simp
    have t : fTest (f2 (dInN true) (fVar 2) (fVar 1)) [some (.list (keys.map kE)), some (.dict (dictOf 0 cs)), some (kE x)] = some (!decide (x ∈ cs)) := test_ok (f2_ok (d := kE x) (d' := .dict (dictOf 0 cs)) rfl rfl (notin_d cs x))
    by_cases h : x ∈ cs
    · refine ⟨[some (.list (keys.map kE)), some (.dict (dictOf 0 cs)), some (kE x)], [some (.list (keys.map kE)), some (.dict (dictOf 0 cs)), some (kE x)], rfl, if_nx (by rw [t, decide_eq_true h]; rfl), cs, _, rfl, fun c => ?_, by simp; omega⟩
      rw [hm, List.mem_append, List.mem_singleton]
      refine ⟨.inl, fun q => q.elim (fun z => z) fun z => ?_⟩
      rw [z]; exact (hm x).mp h
    · refine ⟨[some (.list (keys.map kE)), some (.dict (dictOf 0 cs)), some (kE x)], [some (.list (keys.map kE)), some (.dict (dictOf 0 (cs ++ [x]))), some (kE x)], rfl, if_t (by rw [t, decide_eq_false h]; rfl) ?_, cs ++ [x], _, rfl, fun c => by rw [List.mem_append, List.mem_append, hm], by simp; omega⟩
      unfold fPutN
      have e : fCall dLenN (fCons (fVar 1) fNil) [some (.list (keys.map kE)), some (.dict (dictOf 0 cs)), some (kE x)] = some (iD cs.length) := by
        refine call1 (d := .dict (dictOf 0 cs)) rfl ?_
        show (if tupKeys (dictOf 0 cs) = true then some (PyData.int ((dictOf 0 cs).length : Nat)) else none) = _
        rw [dictOf_tup, if_pos rfl, dictOf_len]
      rw [e, Option.bind_some]
      show (dPutN (.dict (dictOf 0 cs)) (kE x) (iD cs.length)).map _ = _
      rw [put_d cs x h (by omega)]
      rfl

/-! distinct values -/
def dis (row : List Nat) : Nat := metN (row.map fun n : Nat => (n : Int))
theorem met_spec (f : Nat → Int) : ∀ n, (firstMet f n).Nodup ∧ ∀ x, x ∈ firstMet f n ↔ ∃ i, i < n ∧ f i = x
  | 0 => ⟨List.nodup_nil, fun x => ⟨fun h => (nomatch h), fun ⟨i, h, _⟩ => absurd h (Nat.not_lt_zero _)⟩⟩
  | n + 1 => by
    obtain ⟨nd, hm⟩ := met_spec f n
    rw [firstMet_succ]
    unfold step_dedup
    by_cases c : ((firstMet f n).any (· == f n)) = true
    · rw [if_pos c]
      obtain ⟨y, hy, e⟩ := List.any_eq_true.mp c
      have e : y = f n := by simpa using e
      refine ⟨nd, fun x => ?_⟩
      rw [hm]
      refine ⟨fun ⟨i, h, e⟩ => ⟨i, by omega, e⟩, fun ⟨i, h, e2⟩ => ?_⟩
      by_cases q : i = n
      · subst q
        rw [← e2, ← e]; exact (hm y).mp hy
      · exact ⟨i, by omega, e2⟩
    · rw [if_neg c]
      refine ⟨List.nodup_append.mpr ⟨nd, by simp, fun a ha b hb e => ?_⟩, fun x => ?_⟩
      · simp at hb
        exact c (List.any_eq_true.mpr ⟨a, ha, by rw [e, hb]; simp⟩)
      · rw [List.mem_append, List.mem_singleton, hm]
        constructor
        · rintro (⟨i, h, e⟩ | h)
          · exact ⟨i, by omega, e⟩
          · exact ⟨n, by omega, h.symm⟩
        · rintro ⟨i, h, e⟩
          by_cases q : i = n
          · subst q; exact .inr e.symm
          · exact .inl ⟨i, by omega, e⟩
theorem dis_spec (row : List Nat) : ∃ d, Dis row d ∧ d.length = dis row := by
  obtain ⟨nd, hm⟩ := met_spec (fun i => (row.map fun n : Nat => (n : Int)).getD i 0) (row.map fun n : Nat => (n : Int)).length
  have val : ∀ i, i < row.length → (row.map fun n : Nat => (n : Int)).getD i 0 = (at0 row i : Int) := fun i hi => by
    unfold at0
    rw [List.getD_eq_getElem?_getD, List.getElem?_map, List.getElem?_eq_getElem hi, List.getD_eq_getElem?_getD, List.getElem?_eq_getElem hi]; rfl
  have nn : ∀ x ∈ firstMet (fun i => (row.map fun n : Nat => (n : Int)).getD i 0) (row.map fun n : Nat => (n : Int)).length, ∃ i, i < row.length ∧ x = (at0 row i : Int) := fun x hx => by
    obtain ⟨i, h, e⟩ := (hm x).mp hx
    rw [List.length_map] at h
    exact ⟨i, h, by rw [← e]; exact val i h⟩
  refine ⟨(firstMet (fun i => (row.map fun n : Nat => (n : Int)).getD i 0) (row.map fun n : Nat => (n : Int)).length).map Int.toNat, ⟨?_, fun x => ?_⟩, by rw [List.length_map]; rfl⟩
  · rw [List.nodup_iff_pairwise_ne, List.pairwise_map]
    refine List.Pairwise.imp_of_mem (fun {a b} ha hb ne e => ne ?_) (List.nodup_iff_pairwise_ne.mp nd)
    obtain ⟨i, _, ea⟩ := nn a ha
    obtain ⟨j, _, eb⟩ := nn b hb
    omega
  · rw [List.mem_map]
    constructor
    · rintro ⟨y, hy, e⟩
      obtain ⟨i, hi, ey⟩ := nn y hy
      rw [← e, ey, Int.toNat_natCast]
      exact at0_mem hi
    · intro hx
      obtain ⟨i, hi, e⟩ := mem_at0 hx
      exact ⟨(x : Int), (hm _).mpr ⟨i, by simpa using hi, by rw [val i hi, e]⟩, Int.toNat_natCast x⟩
theorem dis_eq {n : Nat} {t a b : List Nat} (ht : IsP n t) (ha : a.length = n) (hb : b.length = n) (al : Al n t a b) : dis a = dis b := by
  obtain ⟨d, h1, e1⟩ := dis_spec a
  obtain ⟨e, h2, e2⟩ := dis_spec b
  rw [← e1, ← e2]
  exact dis_al ht ha hb h1 h2 al
theorem dis_up {n : Nat} {A : Nat → Nat → Bool} {a b : List Nat} (ha : a.length = n) (r : Ref n A a b) : dis a ≤ dis b := by
  obtain ⟨d, h1, e1⟩ := dis_spec a
  obtain ⟨e, h2, e2⟩ := dis_spec b
  rw [← e1, ← e2]
  exact dis_mono ha h1 h2 r
theorem dis_max {n : Nat} {a : List Nat} (ha : a.length = n) : dis a ≤ n := by
  obtain ⟨d, h1, e1⟩ := dis_spec a
  rw [← e1]
  exact dis_top ha h1
end K53

/-! THE PLAIN LAW, part 10: the rounds themselves. -/
namespace K53
open PySem PySem.Spec L2 PyProof.Rows Mx Pm Pl

theorem tup2 {f g : Fx} {ρ : En} {d e : D} (h1 : f ρ = some d) (h2 : g ρ = some e) : fTup (fCons f (fCons g fNil)) ρ = some (.tuple [d, e]) := by
  unfold fTup fCons
  rw [h1, h2]; rfl
theorem lst1 {f : Fx} {ρ : En} {d : D} (h1 : f ρ = some d) : fLst (fCons f fNil) ρ = some (.list [d]) := by
  unfold fLst fCons
  rw [h1]; rfl
def srt (l : List Nat) : List Nat := l.mergeSort fun a b => decide (a ≤ b)
theorem srt_perm (l : List Nat) : (srt l).Perm l := List.mergeSort_perm l _
theorem srt_le (l : List Nat) : (srt l).Pairwise (· ≤ ·) := by
  have := List.pairwise_mergeSort (le := fun a b : Nat => decide (a ≤ b)) (fun a b c h1 h2 => by simp at *; omega) (fun a b => by simp; omega) l
  exact this.imp fun h => by simpa using h
theorem srt_eq {a b : List Nat} : srt a = srt b ↔ a.Perm b := by
  constructor
  · intro h
    exact (srt_perm a).symm.trans (h ▸ srt_perm b)
  · intro h
    exact List.Perm.eq_of_pairwise (le := (· ≤ ·)) (fun x y _ _ h1 h2 => Nat.le_antisymm h1 h2) (srt_le a) (srt_le b) ((srt_perm a).trans (h.trans (srt_perm b).symm))
/-- the key of v in a round -/
def keyOf (n : Nat) (A : Nat → Nat → Bool) (row : List Nat) (v : Nat) : Ky := (at0 row v, srt ((nb n A v).map (at0 row)))
theorem cnt_count {n : Nat} {A : Nat → Nat → Bool} {row : List Nat} {u w : Nat} : Pm.cnt n A row u w = ((nb n A u).map (at0 row)).count (at0 row w) := by
  unfold Pm.cnt nb
  rw [List.count, List.countP_map, List.countP_filter]
  refine List.countP_congr fun x _ => ?_
  simp [Function.comp, Bool.and_comm]
theorem key_iff {n : Nat} {A : Nat → Nat → Bool} {row : List Nat} {u v : Nat} : keyOf n A row u = keyOf n A row v ↔ at0 row u = at0 row v ∧ ∀ w, w < n → Pm.cnt n A row u w = Pm.cnt n A row v w := by
  unfold keyOf
  rw [Prod.mk.injEq, srt_eq, List.perm_iff_count]
  refine and_congr_right fun _ => ⟨fun h w _ => by rw [cnt_count, cnt_count, h], fun h a => ?_⟩
  by_cases c : ∃ w, w < n ∧ at0 row w = a
  · obtain ⟨w, hw, e⟩ := c
    rw [← e, ← cnt_count, ← cnt_count, h w hw]
  · have z : ∀ u, ((nb n A u).map (at0 row)).count a = 0 := fun u => by
      rw [List.count_eq_zero]
      intro hm
      obtain ⟨x, hx, e⟩ := List.mem_map.mp hm
      unfold nb at hx
      rw [List.mem_filter, List.mem_range] at hx
      exact c ⟨x, hx.1, e⟩
    rw [z, z]
abbrev rD (row : List Nat) : D := .list (row.map iD)
theorem nb_len (n : Nat) (A : Nat → Nat → Bool) (v : Nat) : (nb n A v).length ≤ n := by
  have := List.length_filter_le (A v) (List.range n)
  rwa [List.length_range] at this
theorem nb_lt {n : Nat} {A : Nat → Nat → Bool} {v u : Nat} (h : u ∈ nb n A v) : u < n := by
  unfold nb at h
  rw [List.mem_filter, List.mem_range] at h
  exact h.1
section
variable {n : Nat} {A : Nat → Nat → Bool}
abbrev rIn (ρ : En) : Option D := fLc (fun ρ => ((fCons (f2 dIx (fVar 0) (fC (.int 0))) fNil) ρ).bind rng1) (setN 4) (fun _ => some true) (fTup (fCons (f2 dIx (fVar 2) (fVar 4)) (fCons (fCall dTuple (fCons (fCall dSorted (fCons (fLc (fItems (fCall m_neighbours (fCons (fVar 0) (fCons (fVar 4) fNil)))) (setN 5) (fun _ => some true) (f2 dIx (fVar 2) (fVar 5)) [5]) fNil)) fNil)) fNil))) [4] ρ
theorem ev_keys (hn : n ≤ 60) (g : Gr n A) {before : List Nat} (hb : before.length = n) {x y z w : Option D} : rIn [some (gD n A), x, some (rD before), y, z, w] = some (.list (((List.range n).map (keyOf n A before)).map kE)) := by
  unfold rIn
  rw [List.map_map]
  refine fLc_map iD (kE ∘ keyOf n A before) (List.range n) (bind1 (d := iD n) (f2_ok rfl rfl (ix0 n _)) (rng1_eq n (by omega))) (by simp; omega) fun v hv => ⟨[some (gD n A), x, some (rD before), y, some (iD v), w], rfl, ?_⟩
  have hv := List.mem_range.mp hv
  have lc : fLc (fItems (fCall m_neighbours (fCons (fVar 0) (fCons (fVar 4) fNil)))) (setN 5) (fun _ => some true) (f2 dIx (fVar 2) (fVar 5)) [5] [some (gD n A), x, some (rD before), y, some (iD v), w] = some (.list (((nb n A v).map (at0 before)).map iD)) := by
    rw [List.map_map]
    refine fLc_map iD (iD ∘ at0 before) (nb n A v) ?_ (Nat.le_trans (nb_len n A v) (by omega)) fun u hu => ⟨[some (gD n A), x, some (rD before), y, some (iD v), some (iD u)], rfl, f2_ok (d := rD before) (d' := iD u) rfl rfl (ix_t before u (by rw [hb]; exact nb_lt hu))⟩
    unfold fItems
    rw [call2 (d := gD n A) (d' := iD v) rfl rfl (ev_nb hn g hv)]
    rfl
  have so : fCall dSorted (fCons (fLc (fItems (fCall m_neighbours (fCons (fVar 0) (fCons (fVar 4) fNil)))) (setN 5) (fun _ => some true) (f2 dIx (fVar 2) (fVar 5)) [5]) fNil) [some (gD n A), x, some (rD before), y, some (iD v), w] = some (rD (srt ((nb n A v).map (at0 before)))) := by
    refine call1 lc ?_
    rw [sorted_ints _ (by rw [List.length_map]; exact Nat.le_trans (nb_len n A v) (by omega)), sort_ints (srt_perm _).symm (srt_le _)]
  have tu := call1 (h := dTuple) (r := some (tD (srt ((nb n A v).map (at0 before))))) so rfl
  have ixv : f2 dIx (fVar 2) (fVar 4) [some (gD n A), x, some (rD before), y, some (iD v), w] = some (iD (at0 before v)) := f2_ok (d := rD before) (d' := iD v) rfl rfl (ix_t before v (by omega))
  exact tup2 ixv tu
theorem ref_first (hn : n ≤ 60) {before : List Nat} : ∃ row : List Nat, m_first_places [.list (((List.range n).map (keyOf n A before)).map kE)] = some (rD row) ∧ Ref n A before row := by
  obtain ⟨row, e, l, h⟩ := ev_first ((List.range n).map (keyOf n A before)) (by simp; omega)
  simp at l
  refine ⟨row, e, l, fun u v hu hv => ?_⟩
  rw [h u v (by simpa using hu) (by simpa using hv), ← key_iff]
  simp
/-- the rows so far -/
structure Pre (n : Nat) (A : Nat → Nat → Bool) (R : List (List Nat)) : Prop where
  first : R[0]? = some (degs n A)
  step : ∀ (k : Nat) (a b : List Nat), R[k]? = some a → R[k + 1]? = some b → Ref n A a b
  ne : ∀ (k : Nat) (a b : List Nat), R[k]? = some a → R[k + 1]? = some b → dis b ≠ dis a
abbrev rBody : Fs := (fSeq (fSet 2 (f2 dIx (fVar 1) (f1 dNeg (fC (.int 1)))))
   (fSeq (fSet 3 (f1 isL rIn))
   (fSeq (fApp 1 (f1 isL (fCall m_first_places (fCons (fVar 3) fNil))))
   (fIfS (fTest (f2 dEq (f1 dLenSet (f2 dIx (fVar 1) (f1 dNeg (fC (.int 1))))) (f1 dLenSet (fVar 2))))
   (fRet (fVar 1))
   fNx))))
theorem last_ix {α : Type} (f : α → D) (xs : List α) (x : α) : atI ((xs ++ [x]).map f) (-1) = some (f x) := by
  unfold atI
  have e : ixN ((xs ++ [x]).map f).length (-1) = some xs.length := by
    unfold ixN
    simp
    omega
  rw [e, Option.bind_some, List.getElem?_map, List.getElem?_append_right (Nat.le_refl _)]
  simp
theorem intsOf_ok (row : List Nat) : intsOf (row.map iD) = some (row.map fun n : Nat => (n : Int)) := by
  induction row with
  | nil => rfl
  | cons x row ih => rw [List.map_cons, intsOf, ih]; rfl
theorem lenSet_ok (row : List Nat) (h : row.length < 64) : dLenSet (rD row) = some (iD (dis row)) := by
  show (intsOf (row.map iD)).bind (fun ns => if ns.length < 64 then some (PyData.int (metN ns)) else none) = _
  rw [intsOf_ok, Option.bind_some, if_pos (by simpa using h)]
  rfl
theorem pre_len {R : List (List Nat)} (p : Pre n A R) : ∀ (k : Nat) (a : List Nat), R[k]? = some a → a.length = n := by
  intro k
  cases k with
  | zero => intro a e; rw [p.first] at e; cases e; simp [degs]
  | succ k =>
    intro a e
    have : k < R.length := by have := (List.getElem?_eq_some_iff.mp e).1; omega
    exact (p.step k _ a (List.getElem?_eq_getElem this) e).len
theorem run_rounds (hn : n ≤ 60) (g : Gr n A) : ∀ (f : Nat) (R : List (List Nat)) (before : List Nat) (x y z w : Option D), Pre n A (R ++ [before]) → n < f + dis before → R.length + f < 1000 →
    ∃ (Q : List (List Nat)) (ρ' : En), whileF (fTest (fC (.bool true))) rBody f [some (gD n A), some (.list ((R ++ [before]).map rD)), x, y, z, w] = some (.rt (.list (Q.map rD)) ρ') ∧ Rows n A dis Q ∧ Q.length ≤ R.length + f + 1
  | 0, R, before, x, y, z, w, p, h, _ => by
    have := dis_max (pre_len p R.length before (by rw [List.getElem?_append_right (Nat.le_refl _)]; simp))
    omega
  | f + 1, R, before, x, y, z, w, p, h, hz => by
    have lb := pre_len p R.length before (by rw [List.getElem?_append_right (Nat.le_refl _)]; simp)
    obtain ⟨row, e1, ref⟩ := ref_first (A := A) hn (before := before)
    have up := dis_up lb ref
    have b1 : rBody [some (gD n A), some (.list ((R ++ [before]).map rD)), x, y, z, w] = (fIfS (fTest (f2 dEq (f1 dLenSet (f2 dIx (fVar 1) (f1 dNeg (fC (.int 1))))) (f1 dLenSet (fVar 2)))) (fRet (fVar 1)) fNx) [some (gD n A), some (.list ((R ++ [before] ++ [row]).map rD)), some (rD before), some (.list (((List.range n).map (keyOf n A before)).map kE)), z, w] := by
      have q1 : f2 dIx (fVar 1) (f1 dNeg (fC (.int 1))) [some (gD n A), some (.list ((R ++ [before]).map rD)), x, y, z, w] = some (rD before) := f2_ok (d := .list ((R ++ [before]).map rD)) (d' := .int (-1)) rfl rfl (last_ix rD R before)
      have q2 : f1 isL rIn [some (gD n A), some (.list ((R ++ [before]).map rD)), some (rD before), y, z, w] = some (.list (((List.range n).map (keyOf n A before)).map kE)) := f1_ok (ev_keys hn g lb) rfl
      have q3 : f1 isL (fCall m_first_places (fCons (fVar 3) fNil)) [some (gD n A), some (.list ((R ++ [before]).map rD)), some (rD before), some (.list (((List.range n).map (keyOf n A before)).map kE)), z, w] = some (rD row) := f1_ok (call1 (d := .list (((List.range n).map (keyOf n A before)).map kE)) rfl e1) rfl
      have q4 := app_ok (i := 1) (ds := (R ++ [before]).map rD) q3 rfl (by simp; omega)
      unfold rBody fSeq
      rw [set_nx q1]
      simp only [Option.bind_some, List.set_cons_succ, List.set_cons_zero]
      rw [set_nx q2]
      simp only [Option.bind_some, List.set_cons_succ, List.set_cons_zero]
      rw [q4]
      simp only [Option.bind_some, List.set_cons_succ, List.set_cons_zero]
      rw [List.map_append (l₁ := R ++ [before])]
      rfl
    have t : fTest (f2 dEq (f1 dLenSet (f2 dIx (fVar 1) (f1 dNeg (fC (.int 1))))) (f1 dLenSet (fVar 2))) [some (gD n A), some (.list ((R ++ [before] ++ [row]).map rD)), some (rD before), some (.list (((List.range n).map (keyOf n A before)).map kE)), z, w] = some (decide (dis row = dis before)) := by
      refine test_ok (f2_ok (f1_ok (f2_ok (d := .list ((R ++ [before] ++ [row]).map rD)) (d' := .int (-1)) rfl rfl (last_ix rD (R ++ [before]) row)) (lenSet_ok row (by rw [ref.len]; omega))) (f1_ok (d := rD before) rfl (lenSet_ok before (by omega))) (eq_i _ _))
    have gl : ∀ k : Nat, k < R.length + 1 → (R ++ [before] ++ [row])[k]? = (R ++ [before])[k]? := fun k hk => List.getElem?_append_left (by simp; omega)
    have ge : (R ++ [before] ++ [row])[R.length + 1]? = some row := by
      rw [List.getElem?_append_right (by simp)]
      simp
    have gb : (R ++ [before])[R.length]? = some before := by
      rw [List.getElem?_append_right (Nat.le_refl _)]
      simp
    have tot : ∀ (k : Nat) (b : List Nat), (R ++ [before] ++ [row])[k + 1]? = some b → k + 1 < R.length + 1 ∨ k = R.length := fun k b e => by
      have := (List.getElem?_eq_some_iff.mp e).1
      simp at this
      omega
    have step' : ∀ (k : Nat) (a b : List Nat), (R ++ [before] ++ [row])[k]? = some a → (R ++ [before] ++ [row])[k + 1]? = some b → Ref n A a b := fun k a b ea eb => by
      rcases tot k b eb with c | c
      · rw [gl k (by omega)] at ea
        rw [gl (k + 1) c] at eb
        exact p.step k a b ea eb
      · subst c
        rw [gl _ (by omega), gb] at ea
        rw [ge] at eb
        cases ea
        cases eb
        exact ref
    unfold whileF
    rw [show fTest (fC (.bool true)) [some (gD n A), some (.list ((R ++ [before]).map rD)), x, y, z, w] = some true from rfl, Option.bind_some, if_pos rfl, b1]
    by_cases c : dis row = dis before
    · refine ⟨R ++ [before] ++ [row], [some (gD n A), some (.list ((R ++ [before] ++ [row]).map rD)), some (rD before), some (.list (((List.range n).map (keyOf n A before)).map kE)), z, w], ?_, ⟨by rw [gl 0 (by omega)]; exact p.first, step', fun k a b d ea eb ed => ?_, R.length, before, row, by simp, by rw [gl _ (by omega)]; exact gb, ge, c⟩, by simp⟩
      · rw [if_t (by rw [t, decide_eq_true c]) (ret_ok rfl)]
        rfl
      · have hk := (List.getElem?_eq_some_iff.mp ed).1
        simp at hk
        rw [gl k (by omega)] at ea
        rw [gl (k + 1) (by omega)] at eb
        exact p.ne k a b ea eb
    · rw [if_nx (by rw [t, decide_eq_false c])]
      simp only [Option.bind_some]
      obtain ⟨Q, ρ', k1, k2, k3⟩ := run_rounds hn g f (R ++ [before]) row (some (rD before)) (some (.list (((List.range n).map (keyOf n A before)).map kE))) z w ⟨by rw [gl 0 (by omega)]; exact p.first, step', fun k a b ea eb => by
        rcases tot k b eb with q | q
        · rw [gl k (by omega)] at ea
          rw [gl (k + 1) q] at eb
          exact p.ne k a b ea eb
        · subst q
          rw [gl _ (by omega), gb] at ea
          rw [ge] at eb
          cases ea
          cases eb
          exact c⟩ (by omega) (by simp; omega)
      exact ⟨Q, ρ', k1, k2, by simp at k3; omega⟩
theorem nb_deg (u : Nat) : (nb n A u).length = deg n A u := by
  unfold nb deg
  rw [List.countP_eq_length_filter]
theorem ev_rounds (hn : n ≤ 60) (g : Gr n A) : ∃ R : List (List Nat), m_rounds_of_degrees [gD n A] = some (.list (R.map rD)) ∧ Rows n A dis R ∧ R.length ≤ 101 := by
  have lc : fLc (fun ρ => ((fCons (f2 dIx (fVar 0) (fC (.int 0))) fNil) ρ).bind rng1) (setN 4) (fun _ => some true) (fCall dLenS (fCons (fCall m_neighbours (fCons (fVar 0) (fCons (fVar 4) fNil))) fNil)) [4] (argE 6 1 [gD n A]) = some (rD (degs n A)) := by
    unfold degs rD
    rw [List.map_map]
    refine fLc_map iD (iD ∘ deg n A) (List.range n) (bind1 (d := iD n) (f2_ok rfl rfl (ix0 n _)) (rng1_eq n (by omega))) (by simp; omega) fun v hv => ⟨_, rfl, ?_⟩
    refine call1 (call2 (d := gD n A) (d' := iD v) rfl rfl (ev_nb hn g (List.mem_range.mp hv))) ?_
    show some (PyData.int (((nb n A v).map iD).length : Nat)) = _
    rw [List.length_map, nb_deg]
    rfl
  obtain ⟨Q, ρ', h1, h2, h3⟩ := run_rounds hn g 100 [] (degs n A) none none none none ⟨rfl, fun k a b ea eb => by simp at eb, fun k a b ea eb => by simp at eb⟩ (by omega) (by decide)
  refine ⟨Q, ?_, h2, h3⟩
  unfold m_rounds_of_degrees F_rounds_of_degrees
  refine defN_rt rfl (seq_nx (ρ' := [some (gD n A), some (.list (([] ++ [degs n A]).map rD)), none, none, none, none]) (set_nx ?_) h1)
  exact lst1 (f1_ok lc rfl)
end
end K53

/-! THE PLAIN LAW, part 11: a graph on five vertices has a symmetry; the pairs. -/
namespace K53
open PySem PySem.Spec L2 PyProof.Rows Mx Pm Pl

/-- the adjacency as ten truth values -/
def adj5 (bs : List Bool) (u v : Nat) : Bool := if u = v then false else
  bs.getD (match min u v, max u v with
    | 0, 1 => 0 | 0, 2 => 1 | 0, 3 => 2 | 0, 4 => 3 | 1, 2 => 4 | 1, 3 => 5 | 1, 4 => 6 | 2, 3 => 7 | 2, 4 => 8 | 3, 4 => 9 | _, _ => 10) false
def isS (bs : List Bool) (s : List Nat) : Bool := (List.range 5).all fun v => (List.range v).all fun u => adj5 bs u v == adj5 bs (at0 s u) (at0 s v)
/-- the ones to try -/
def cands : List (List Nat) := [[1,0,2,3,4],[2,1,0,3,4],[3,1,2,0,4],[4,1,2,3,0],[0,2,1,3,4],[0,3,2,1,4],[0,4,2,3,1],[0,1,3,2,4],[0,1,4,3,2],[0,1,2,4,3],
  [0,2,1,4,3],[0,3,4,1,2],[0,4,3,2,1],[2,1,0,4,3],[3,1,4,0,2],[4,1,3,2,0],[1,0,2,4,3],[3,4,2,0,1],[4,3,2,1,0],[1,0,4,3,2],[2,4,0,3,1],[4,2,1,3,0],[1,0,3,2,4],[2,3,0,1,4],[3,2,1,0,4]]
theorem five : ∀ a b c d e f g h i j : Bool, cands.any (isS [a, b, c, d, e, f, g, h, i, j]) = true := by decide +kernel
theorem cands_ok : cands.all (fun s => decide (s ∈ permL 5) && decide (s ≠ idn 5)) = true := by decide +kernel
theorem adj5_eq {A : Nat → Nat → Bool} (g : Gr 5 A) {u v : Nat} (hu : u < 5) (hv : v < 5) : adj5 [A 0 1, A 0 2, A 0 3, A 0 4, A 1 2, A 1 3, A 1 4, A 2 3, A 2 4, A 3 4] u v = A u v := by
  have i := g.irr
  have s := g.sym
  match u, v, hu, hv with
  | 0, 0, _, _ => exact (i 0).symm
  | 1, 1, _, _ => exact (i 1).symm
  | 2, 2, _, _ => exact (i 2).symm
  | 3, 3, _, _ => exact (i 3).symm
  | 4, 4, _, _ => exact (i 4).symm
  | 0, 1, _, _ => rfl
  | 0, 2, _, _ => rfl
  | 0, 3, _, _ => rfl
  | 0, 4, _, _ => rfl
  | 1, 2, _, _ => rfl
  | 1, 3, _, _ => rfl
  | 1, 4, _, _ => rfl
  | 2, 3, _, _ => rfl
  | 2, 4, _, _ => rfl
  | 3, 4, _, _ => rfl
  | 1, 0, _, _ => exact s 0 1
  | 2, 0, _, _ => exact s 0 2
  | 3, 0, _, _ => exact s 0 3
  | 4, 0, _, _ => exact s 0 4
  | 2, 1, _, _ => exact s 1 2
  | 3, 1, _, _ => exact s 1 3
  | 4, 1, _, _ => exact s 1 4
  | 3, 2, _, _ => exact s 2 3
  | 4, 2, _, _ => exact s 2 4
  | 4, 3, _, _ => exact s 3 4
theorem two_sym {A : Nat → Nat → Bool} (g : Gr 5 A) : 2 ≤ ((permL 5).filter (autB 5 A)).length := by
  have h := five (A 0 1) (A 0 2) (A 0 3) (A 0 4) (A 1 2) (A 1 3) (A 1 4) (A 2 3) (A 2 4) (A 3 4)
  obtain ⟨s, hs, hi⟩ := List.any_eq_true.mp h
  have c := List.all_eq_true.mp cands_ok s hs
  rw [Bool.and_eq_true, decide_eq_true_eq, decide_eq_true_eq] at c
  have ps := mem_permL.mp c.1
  have iso : Iso 5 A A s := by
    rw [← isoB_iso g g ps, isoB_iff, ps.len]
    intro v hv u hu
    unfold isS at hi
    have := List.all_eq_true.mp (List.all_eq_true.mp hi v (List.mem_range.mpr hv)) u (List.mem_range.mpr hu)
    rw [beq_iff_eq, adj5_eq g (by omega) hv, adj5_eq g (at0_lt ps (by omega)) (at0_lt ps hv)] at this
    exact this
  have m1 : s ∈ (permL 5).filter (autB 5 A) := List.mem_filter.mpr ⟨c.1, (aut_iso g ps).mpr iso⟩
  have m2 : idn 5 ∈ (permL 5).filter (autB 5 A) := List.mem_filter.mpr ⟨mem_permL.mpr isP_id, (aut_iso g isP_id).mpr Iso.id⟩
  have := nodup_le (ns := [s, idn 5]) (ms := (permL 5).filter (autB 5 A)) (by simp [c.2]) fun x hx => by
    simp only [List.mem_cons, List.not_mem_nil, or_false] at hx
    rcases hx with rfl | rfl
    · exact m1
    · exact m2
  simpa using this
theorem few_copies {n : Nat} (h1 : 1 ≤ n) (h2 : n ≤ 5) {A : Nat → Nat → Bool} (g : Gr n A) {m : List (List (Nat × Nat))} (nd : m.Nodup) (hm : ∀ x, x ∈ m ↔ x ∈ (permL n).map fun s => eL n (ren n A s)) : m.length < 64 := by
  have oc := orbit_count g (permL_all n) nd fun d => by rw [hm, List.mem_map]
  have pl := perm_len h1 h2
  by_cases c : n ≤ 4
  · have := pl.2 c
    have id1 : idn n ∈ (permL n).filter (autB n A) := List.mem_filter.mpr ⟨mem_permL.mpr isP_id, (aut_iso g isP_id).mpr Iso.id⟩
    have := List.length_pos_of_mem id1
    have : m.length * 1 ≤ m.length * ((permL n).filter (autB n A)).length := Nat.mul_le_mul_left _ (by omega)
    omega
  · have e : n = 5 := by omega
    subst e
    have t := two_sym g
    have : m.length * 2 ≤ m.length * ((permL 5).filter (autB 5 A)).length := Nat.mul_le_mul_left _ t
    omega
theorem pairs_1 : m__law_pairs [iD 1] = some (.list ((prs 1).map pD)) := by kernel_rfl
theorem pairs_2 : m__law_pairs [iD 2] = some (.list ((prs 2).map pD)) := by kernel_rfl
theorem pairs_3 : m__law_pairs [iD 3] = some (.list ((prs 3).map pD)) := by kernel_rfl
theorem pairs_4 : m__law_pairs [iD 4] = some (.list ((prs 4).map pD)) := by kernel_rfl
theorem pairs_5 : m__law_pairs [iD 5] = some (.list ((prs 5).map pD)) := by kernel_rfl
theorem ev_pairs {n : Nat} (h1 : 1 ≤ n) (h2 : n ≤ 5) : m__law_pairs [iD n] = some (.list ((prs n).map pD)) := by
  match n, h1, h2 with
  | 1, _, _ => exact pairs_1
  | 2, _, _ => exact pairs_2
  | 3, _, _ => exact pairs_3
  | 4, _, _ => exact pairs_4
  | 5, _, _ => exact pairs_5
end K53

/-! THE PLAIN LAW, part 12: its parts. -/
namespace K53
open PySem PySem.Spec L2 PyProof.Rows Mx Pm Pl

theorem xgraph {ρ : En} {pd pd' d : D} (h0 : ρ[1]? = some (some pd)) (k : m__law_graph [pd, iD 1, iD 5] = some (d, pd')) : xCall m__law_graph 1 (xCons (xPure (fC (.int 1))) (xCons (xPure (fC (.int 5))) xNil)) ρ = some (d, ρ.set 1 (some pd')) := by
  have v : fVar 1 ρ = some pd := by unfold fVar; rw [h0]
  unfold xCall xCons xPure xNil
  rw [v]
  simp only [fC, Option.bind_some, Option.map_some, v]
  rw [show m__law_graph [pd, .int 1, .int 5] = some (d, pd') from k]
  rfl
theorem eqv_ints : ∀ a b : List Nat, PyData.eqvAll (a.map iD) (b.map iD) = decide (a = b)
  | [], [] => by simp [PyData.eqvAll]
  | [], _ :: _ => by simp [PyData.eqvAll]
  | _ :: _, [] => by simp [PyData.eqvAll]
  | x :: a, y :: b => by
    rw [List.map_cons, List.map_cons, PyData.eqvAll, eqv_ints a b, eqv_i]
    simp
theorem eqv_t (a b : List Nat) : PyData.eqv (tD a) (tD b) = decide (a = b) := by
  simp only [PyData.eqv]
  exact eqv_ints a b
theorem eqvAll_refl {α : Type} (f : α → D) (h : ∀ x, PyData.eqv (f x) (f x) = true) : ∀ l : List α, PyData.eqvAll (l.map f) (l.map f) = true
  | [] => by simp [PyData.eqvAll]
  | x :: l => by rw [List.map_cons, PyData.eqvAll, h, eqvAll_refl f h l]; rfl
theorem notin_t (T : List (List Nat)) (s : List Nat) : dNotIn (tD s) (.list (T.map tD)) = some (.bool (!decide (s ∈ T))) := by
  unfold dNotIn
  rw [show items (.list (T.map tD)) = some (T.map tD) from rfl, Option.bind_some, if_pos (by rw [shal_t]; rfl), any_eqv tD eqv_t]
  congr
theorem depth_ts : ∀ T : List (List Nat), PyData.depthAll (T.map tD) ≤ 1
  | [] => by simp [PyData.depthAll]
  | s :: T => by
    have := depth_ts T
    rw [List.map_cons, PyData.depthAll]
    simp only [tD, PyData.depth, depth_ints]
    omega
theorem shal_ts (T : List (List Nat)) : shal (.list (T.map tD)) = true := by
  have := depth_ts T
  refine decide_eq_true ?_
  simp only [PyData.depth]
  omega
theorem ne_ts (T : List (List Nat)) : dNe (.list (T.map tD)) (.list (T.map tD)) = some (.bool false) := by
  unfold dNe
  rw [if_pos (by rw [shal_ts]; rfl)]
  simp only [PyData.eqv]
  rw [eqvAll_refl tD (fun s => by rw [eqv_t]; exact decide_eq_true rfl)]
  rfl
theorem ne_row (row : List Nat) : dNe (rD row) (rD row) = some (.bool false) := by
  unfold dNe
  have : shal (rD row) = true := by
    refine decide_eq_true ?_
    simp only [rD, PyData.depth, depth_ints]
    omega
  rw [if_pos (by rw [this]; rfl)]
  simp only [PyData.eqv]
  rw [eqv_ints]
  simp
theorem ne_g (n : Nat) (es : List (Nat × Nat)) : dNe (gE n es) (gE n es) = some (.bool false) := by
  unfold dNe
  rw [if_pos (by rw [shal_g]; rfl), eqv_g]
  simp
theorem eq_g (n : Nat) (a b : List (Nat × Nat)) : dEq (gE n a) (gE n b) = some (.bool (decide (a = b))) := by
  unfold dEq
  rw [if_pos (by rw [shal_g]; rfl), eqv_g]
theorem idx_cast (l : List Nat) (v : Nat) : (l.map fun n : Nat => (n : Int)).idxOf (v : Int) = l.idxOf v := by
  induction l with
  | nil => rfl
  | cons x l ih =>
    rw [List.map_cons, List.idxOf_cons, List.idxOf_cons, ih]
    have : ((x : Int) == (v : Int)) = (x == v) := by
      rw [beq_cast]
      by_cases h : x = v <;> simp [h]
    rw [this]
theorem index_ok {n : Nat} {s : List Nat} (hs : IsP n s) {v : Nat} (hv : v < n) : dIndex (tD s) (iD v) = some (iD (s.idxOf v)) := by
  show (intsOf (s.map iD)).bind (fun ns => if (v : Int) ∈ ns then some (PyData.int (ns.idxOf (v : Int) : Nat)) else none) = _
  rw [intsOf_ok, Option.bind_some, if_pos (List.mem_map.mpr ⟨v, hs.mem hv, rfl⟩), idx_cast]
theorem tupRg_ok (n : Nat) (h : n ≤ 100000) : dTupRg (iD n) = some (tD (idn n)) := by
  show (if 0 ≤ (n : Int) ∧ (n : Int) ≤ 100000 then some (PyData.tuple (Mx.upTo 0 n)) else none) = _
  rw [if_pos (by omega)]
  have := rng1_eq n h
  have e2 : (-100000 ≤ (n : Int) ∧ (n : Int) ≤ 100000) := by omega
  have q : rng1 [iD n] = some (Mx.upTo 0 n) := by
    show (if -100000 ≤ (n : Int) ∧ (n : Int) ≤ 100000 then some (Mx.upTo 0 n) else none) = _
    rw [if_pos e2]
  rw [q] at this
  rw [Option.some.inj this]
  rfl
theorem tup_lc {n : Nat} (hn : n ≤ 100000) {fi : En → Option (List D)} {fe : Fx} {vs : List Nat} {ρ : En} (f : Nat → Nat) (hi : fi ρ = some ((List.range n).map iD)) (st : D → En → Option En) (h : ∀ v, v < n → ∃ ρ1, st (iD v) (wipeE ρ vs) = some ρ1 ∧ fe ρ1 = some (iD (f v))) :
    fCall dTuple (fCons (fLc fi st (fun _ => some true) fe vs) fNil) ρ = some (tD ((List.range n).map f)) := by
  refine call1 (fLc_map iD (iD ∘ f) (List.range n) hi (by simpa using hn) fun v hv => h v (List.mem_range.mp hv)) ?_
  rw [← List.map_map]
  rfl
theorem len_l {α : Type} (f : α → D) (l : List α) : dLenS [.list (l.map f)] = some (iD l.length) := by
  show some (PyData.int ((l.map f).length : Nat)) = _
  rw [List.length_map]
theorem ix_l {α : Type} (f : α → D) (l : List α) (i : Nat) (h : i < l.length) : dIx (.list (l.map f)) (iD i) = some (f l[i]) := by
  show (items (.list (l.map f))).bind _ = _
  rw [show items (.list (l.map f)) = some (l.map f) from rfl, Option.bind_some]
  exact atI_map f l i h
theorem or_ff {a b : En → Option Bool} {ρ : En} (h1 : a ρ = some false) (h2 : b ρ = some false) : fOr a b ρ = some false := by
  unfold fOr
  rw [h1]; exact h2
theorem not_t {a : En → Option Bool} {ρ : En} (h1 : a ρ = some true) : fNot a ρ = some false := by
  unfold fNot
  rw [h1]; rfl
theorem par_ok {i j : Nat} {f g : Fx} {ρ : En} {d e : D} (h1 : f ρ = some d) (h2 : g ρ = some e) : fPar i j (fCons f (fCons g fNil)) ρ = some (.nx ((ρ.set i (some d)).set j (some e))) := by
  unfold fPar fCons
  rw [h1, h2]; rfl
theorem xdrawL {ρ : En} {pd pd' l : D} {f : Fx} {m r : Nat} {x : D} (h0 : ρ[1]? = some (some pd)) (hl : fVar 7 ρ = some l) (h : f ρ = some (iD m)) (k : m__law_draw [pd, iD m] = some (iD r, pd')) (hx : dIx l (iD r) = some x) : x2 dIx (xPure (fVar 7)) (xCall m__law_draw 1 (xCons (xPure f) xNil)) ρ = some (x, ρ.set 1 (some pd')) :=
  x2_ok (xp_ok hl) (xdraw h0 h k) hx
end K53

/-! THE PLAIN LAW, part 13: the whole. -/
namespace K53
open PySem PySem.Spec L2 PyProof.Rows Mx Pm Pl

abbrev EE (a0 a1 a2 a3 a4 a5 a6 a7 a8 a9 a10 a11 a12 a13 a14 a15 a16 a17 a18 a19 a20 a21 : Option D) : En := [a0, a1, a2, a3, a4, a5, a6, a7, a8, a9, a10, a11, a12, a13, a14, a15, a16, a17, a18, a19, a20, a21]
theorem xset_seq {i : Nat} {f : Fe} {F : Fs} {ρ ρ1 ρ2 : En} {d : D} {o : Out} (h : f ρ = some (d, ρ1)) (e : ρ1.set i (some d) = ρ2) (k : F ρ2 = some o) : fSeq (xSet i f) F ρ = some o :=
  seq_nx (xset_ok h) (by rw [e]; exact k)
theorem set_seq {i : Nat} {f : Fx} {F : Fs} {ρ ρ2 : En} {d : D} {o : Out} (h : f ρ = some d) (e : ρ.set i (some d) = ρ2) (k : F ρ2 = some o) : fSeq (fSet i f) F ρ = some o :=
  seq_nx (set_nx h) (by rw [e]; exact k)
theorem if_seq {c : En → Option Bool} {F G : Fs} {ρ : En} {o : Out} (h : c ρ = some false) (k : G ρ = some o) : fSeq (fIfS c F fNx) G ρ = some o := seq_nx (if_nx h) k
theorem xasg2 {st : D → En → Option En} {a b : Fe} {ρ ρ1 ρ2 ρ3 : En} {x y : D} (h1 : a ρ = some (x, ρ1)) (h2 : b ρ1 = some (y, ρ2)) (h3 : st (.tuple [x, y]) ρ2 = some ρ3) : xAsg st (xTup (xCons a (xCons b xNil))) ρ = some (.nx ρ3) := by
  unfold xAsg xTup xCons xNil
  rw [h1]
  simp only [Option.bind_some, h2, Option.map_some]
  rw [if_pos (show [x, y].length ≤ 100000 by simp)]
  simp only [Option.bind_some, h3, Option.map_some]
def Ends (F : Fs) (ρ : En) : Prop := ∃ ρ', F ρ = some (.rt (.bool true) ρ')
theorem setE {i : Nat} {f : Fx} {F : Fs} {ρ ρ2 : En} {d : D} (h : f ρ = some d) (e : ρ.set i (some d) = ρ2) (k : Ends F ρ2) : Ends (fSeq (fSet i f) F) ρ := k.imp fun _ q => set_seq h e q
theorem xsetE {i : Nat} {f : Fe} {F : Fs} {ρ ρ1 ρ2 : En} {d : D} (h : f ρ = some (d, ρ1)) (e : ρ1.set i (some d) = ρ2) (k : Ends F ρ2) : Ends (fSeq (xSet i f) F) ρ := k.imp fun _ q => xset_seq h e q
theorem ifE {c : En → Option Bool} {F G : Fs} {ρ : En} (h : c ρ = some false) (k : Ends G ρ) : Ends (fSeq (fIfS c F fNx) G) ρ := k.imp fun _ q => if_seq h q
theorem seqE {F G : Fs} {ρ ρ' : En} (h : F ρ = some (.nx ρ')) (k : Ends G ρ') : Ends (fSeq F G) ρ := k.imp fun _ q => seq_nx h q
theorem retE {ρ : En} : Ends (fRet (fC (.bool true))) ρ := ⟨ρ, rfl⟩
theorem lawEnd {n : Nat} {F : Fs} {d : D} (h : Ends F (argE n 1 [d])) : defF n 1 F [d] = some (.bool true) := by
  obtain ⟨ρ, h⟩ := h
  exact defF_rt rfl h
abbrev lawIn : Fs := (fSeq (fIfS (fTest (f2 dNe (f2 dEq (f2 dIx (fVar 18) (fVar 20)) (f2 dIx (fVar 18) (fVar 21))) (f2 dEq (f2 dIx (fVar 19) (f2 dIx (fVar 10) (fVar 20))) (f2 dIx (fVar 19) (f2 dIx (fVar 10) (fVar 21))))))
   (fRet (fC (.bool false)))
   fNx)
   (fIfS (fAnd (fTest (f2 dGt (fCall dLenS (fCons (fLc (fItems (fVar 7)) (setN 14) (fTest (f2 dEq (f2 dIx (fVar 14) (fVar 20)) (fVar 21))) (fVar 14) [14]) fNil)) (fC (.int 0)))) (fTest (f2 dNe (f2 dIx (fVar 18) (fVar 20)) (f2 dIx (fVar 18) (fVar 21)))))
   (fRet (fC (.bool false)))
   fNx))
theorem plain (ns : List Int) (h : ns.length ≤ 63) : m_law [.list (ns.map PyData.int)] = some (.bool true) := by
  obtain ⟨p0, e0, o0⟩ := ev_pool ns h
  obtain ⟨n, A, p1, e1, o1, n1, n5, g⟩ := ev_lgraph o0
  have eo := (ev_orders n1 n5).1
  have pl := perm_len n1 n5
  obtain ⟨cl, cnd, cm, clen, cso, ec⟩ := sortSet_g n ((permL n).map fun s => eL n (ren n A s)) (fun m nd hm => few_copies n1 n5 g nd hm)
  have cm' : ∀ y, y ∈ cl ↔ ∃ s ∈ permL n, eL n (ren n A s) = y := fun y => by rw [cm, List.mem_map]
  have oc := orbit_count g (permL_all n) cnd cm'
  have idin : idn n ∈ permL n := mem_permL.mpr isP_id
  obtain ⟨c, cs, ecl⟩ : ∃ c cs, cl = c :: cs := by
    cases cl with
    | nil => exact absurd ((cm' _).mpr ⟨_, idin, rfl⟩) (by simp)
    | cons c cs => exact ⟨c, cs, rfl⟩
  have es := ev_sym (show n ≤ 6 by omega) g
  have idT : idn n ∈ (permL n).filter (autB n A) := List.mem_filter.mpr ⟨idin, (aut_iso g isP_id).mpr Iso.id⟩
  obtain ⟨T, eT⟩ : ∃ T, T = (permL n).filter (autB n A) := ⟨_, rfl⟩
  rw [← eT] at es idT oc
  have tP : ∀ s, s ∈ T ↔ IsP n s ∧ Iso n A A s := fun s => by
    rw [eT, List.mem_filter, mem_permL]
    exact ⟨fun q => ⟨q.1, (aut_iso g q.1).mp q.2⟩, fun q => ⟨q.1, (aut_iso g q.1).mpr q.2⟩⟩
  have tlen : T.length ≤ 120 := by
    rw [eT]
    exact Nat.le_trans (List.length_filter_le _ _) pl.1
  have tpos := List.length_pos_of_mem idT
  have plpos := List.length_pos_of_mem idin
  have tlx : T.Pairwise lx := by rw [eT]; exact (permL_lx n).filter _
  have tne : ∀ s ∈ T, s ≠ [] := fun s hs e => by
    have := ((tP s).mp hs).1.len
    rw [e] at this
    simp at this
    omega
  obtain ⟨r1, p2, d1, o2, l1⟩ := ev_draw o1 (m := T.length) ⟨tpos, by omega⟩
  obtain ⟨r2, p3, d2, o3, l2⟩ := ev_draw o2 (m := T.length) ⟨tpos, by omega⟩
  obtain ⟨r3, p4, d3, o4, l3⟩ := ev_draw o3 (m := (permL n).length) ⟨plpos, by omega⟩
  obtain ⟨one, eone⟩ : ∃ x, x = T[r1] := ⟨_, rfl⟩
  obtain ⟨two, etwo⟩ : ∃ x, x = T[r2] := ⟨_, rfl⟩
  obtain ⟨t, et⟩ : ∃ x, x = (permL n)[r3] := ⟨_, rfl⟩
  have hone := (tP one).mp (by rw [eone]; exact List.getElem_mem l1)
  have htwo := (tP two).mp (by rw [etwo]; exact List.getElem_mem l2)
  have ht : IsP n t := mem_permL.mp (by rw [et]; exact List.getElem_mem l3)
  have hboth : comp n two one ∈ T := (tP _).mpr ⟨isP_comp htwo.1 hone.1, Iso.comp hone.1 htwo.1 hone.2 htwo.2⟩
  have hback : inv n one ∈ T := (tP _).mpr ⟨isP_inv hone.1, Iso.inv hone.1 hone.2⟩
  have gB := ren_gr (s := t) g
  have iB := iso_ren (A := A) ht
  have esB := ev_sym (show n ≤ 6 by omega) gB
  have cpm := conj_perm g (permL_all n) ht
  rw [← eT] at cpm
  obtain ⟨TB, eTB⟩ : ∃ TB, TB = (permL n).filter (autB n (ren n A t)) := ⟨_, rfl⟩
  rw [← eTB] at esB cpm
  have tblx : TB.Pairwise lx := by rw [eTB]; exact (permL_lx n).filter _
  have tblen : TB.length = T.length := by rw [← cpm.length_eq, List.length_map]
  have tbne : ∀ s ∈ TB, s ≠ [] := fun s hs e => by
    rw [eTB, List.mem_filter, mem_permL] at hs
    have := hs.1.len
    rw [e] at this
    simp at this
    omega
  obtain ⟨R, eR, hR, rlen⟩ := ev_rounds (show n ≤ 60 by omega) g
  obtain ⟨Q, eQ, hQ, qlen⟩ := ev_rounds (show n ≤ 60 by omega) gB
  have rq : R.length = Q.length := Nat.le_antisymm
    (rows_le (t := inv n t) (fun a b ha hb al => dis_eq (isP_inv ht) ha hb al) (isP_inv ht) (Iso.inv ht iB) hQ hR)
    (rows_le (t := t) (fun a b ha hb al => dis_eq ht ha hb al) ht iB hR hQ)
  unfold m_law F_law
  refine lawEnd ?_
  · refine setE (ρ2 := EE (some (.list (ns.map PyData.int))) (some p0) none none none none none none none none none none none none none none none none none none none none) (call1 rfl e0) rfl ?_
    refine xsetE (ρ2 := EE (some (.list (ns.map PyData.int))) (some p1) (some (gD n A)) none none none none none none none none none none none none none none none none none none none) (xgraph rfl e1) rfl ?_
    refine setE (ρ2 := EE (some (.list (ns.map PyData.int))) (some p1) (some (gD n A)) (some (iD n)) none none none none none none none none none none none none none none none none none none) (f2_ok rfl rfl (ix0 n _)) rfl ?_
    refine setE (ρ2 := EE (some (.list (ns.map PyData.int))) (some p1) (some (gD n A)) (some (iD n)) (some (.list ((permL n).map tD))) none none none none none none none none none none none none none none none none none) (call1 (d := iD n) rfl eo) rfl ?_
    refine setE (ρ2 := EE (some (.list (ns.map PyData.int))) (some p1) (some (gD n A)) (some (iD n)) (some (.list ((permL n).map tD))) (some (.list (cl.map (gE n)))) none none none none none none none none none none none none none none none none) (f1_ok (f1_ok (d := .list (((permL n).map fun s => eL n (ren n A s)).map (gE n))) ?_ ec) rfl) rfl ?_
    · rw [List.map_map]
      exact fLc_map tD (gE n ∘ fun s => eL n (ren n A s)) (permL n) rfl (by omega) fun s hs => ⟨_, rfl, call2 (d := gD n A) (d' := tD s) rfl rfl (ev_lrenamed (by omega) g (mem_permL.mp hs))⟩
    refine setE (ρ2 := EE (some (.list (ns.map PyData.int))) (some p1) (some (gD n A)) (some (iD n)) (some (.list ((permL n).map tD))) (some (.list (cl.map (gE n)))) (some (.list (T.map tD))) none none none none none none none none none none none none none none none) (f1_ok (d := .list (T.map tD)) ?_ rfl) rfl ?_
    · rw [eT]
      exact fLc_eq tD (autB n A) tD (permL n) rfl (by omega) fun s hs => ⟨_, rfl, test_ok (f2_ok (call2 (d := gD n A) (d' := tD s) rfl rfl (ev_lrenamed (by omega) g (mem_permL.mp hs))) (d' := gD n A) rfl (eq_g n _ _)), fun _ => rfl⟩
    refine setE (ρ2 := EE (some (.list (ns.map PyData.int))) (some p1) (some (gD n A)) (some (iD n)) (some (.list ((permL n).map tD))) (some (.list (cl.map (gE n)))) (some (.list (T.map tD))) (some (.list (T.map tD))) none none none none none none none none none none none none none none) (f1_ok (call1 (d := gD n A) rfl es) rfl) rfl ?_
    refine ifE (or_ff (not_t (test_ok (call2 (d := .list (T.map tD)) (d' := .list (T.map tD)) rfl (call1 (d := .list (T.map tD)) rfl (sorted_perms (List.Perm.refl T) tlx tne (by omega))) ?_))) (test_ok (f2_ok (d := iD (T.length * cl.length)) (d' := iD (permL n).length) ?_ (call1 (d := .list ((permL n).map tD)) rfl (len_l tD _)) ?_))) ?_
    · refine same_ok 2 _ (.inr ⟨_, .inl rfl, by simp; omega, fun x hx => ?_⟩) 10 (by decide)
      obtain ⟨s, hs, rfl⟩ := List.mem_map.mp hx
      exact flat_t s (by rw [((tP s).mp hs).1.len]; omega)
    · refine f2_ok (call1 (d := .list (T.map tD)) rfl (len_l tD _)) (call1 (d := .list (cl.map (gE n))) rfl (len_l (gE n) _)) ?_
      rw [mul_ok _ _ (by omega)]
      exact congrArg (fun z : Int => some (PyData.int z)) (by rw [Int.natCast_mul])
    · rw [ne_i, oc, Nat.mul_comm]
      simp
    refine ifE (not_t (test_ok (call2 (call1 (d := gD n A) rfl (ev_canon n1 n5 g ecl cso cm')) (f2_ok (d := .list (cl.map (gE n))) (d' := iD 0) rfl rfl (ix_l (gE n) cl 0 (by rw [ecl]; simp))) ?_))) ?_
    · have : cl[0]'(by rw [ecl]; simp) = c := by simp [ecl]
      rw [this]
      have cin : c ∈ cl := by rw [ecl]; simp
      obtain ⟨s, _, ese⟩ := (cm' c).mp cin
      refine same_ok 3 _ (flat_g n c ?_) 10 (by decide)
      rw [← ese]
      exact Nat.le_trans (eL_big (by omega) _) (by decide)
    refine seqE (ρ' := EE (some (.list (ns.map PyData.int))) (some p3) (some (gD n A)) (some (iD n)) (some (.list ((permL n).map tD))) (some (.list (cl.map (gE n)))) (some (.list (T.map tD))) (some (.list (T.map tD))) none none none none none none (some (tD one)) (some (tD two)) none none none none none none) ?_ ?_
    · have x1 := xdrawL (ρ := EE (some (.list (ns.map PyData.int))) (some p1) (some (gD n A)) (some (iD n)) (some (.list ((permL n).map tD))) (some (.list (cl.map (gE n)))) (some (.list (T.map tD))) (some (.list (T.map tD))) none none none none none none none none none none none none none none) (f := fCall dLenS (fCons (fVar 7) fNil)) rfl (l := .list (T.map tD)) rfl (call1 (d := .list (T.map tD)) rfl (len_l tD T)) d1 (ix_l tD T r1 l1)
      have x2 := xdrawL (ρ := EE (some (.list (ns.map PyData.int))) (some p2) (some (gD n A)) (some (iD n)) (some (.list ((permL n).map tD))) (some (.list (cl.map (gE n)))) (some (.list (T.map tD))) (some (.list (T.map tD))) none none none none none none none none none none none none none none) (f := fCall dLenS (fCons (fVar 7) fNil)) rfl (l := .list (T.map tD)) rfl (call1 (d := .list (T.map tD)) rfl (len_l tD T)) d2 (ix_l tD T r2 l2)
      rw [← eone] at x1
      rw [← etwo] at x2
      exact xasg2 x1 x2 rfl
    refine setE (ρ2 := EE (some (.list (ns.map PyData.int))) (some p3) (some (gD n A)) (some (iD n)) (some (.list ((permL n).map tD))) (some (.list (cl.map (gE n)))) (some (.list (T.map tD))) (some (.list (T.map tD))) (some (tD (comp n two one))) none none none none none (some (tD one)) (some (tD two)) none none none none none none) (tup_lc (n := n) (by omega) (fun v => at0 two (at0 one v)) (bind1 (d := iD n) rfl (rng1_eq n (by omega))) (setN 21) fun v hv => ⟨_, rfl, f2_ok (d := tD two) rfl (f2_ok (d := tD one) (d' := iD v) rfl rfl (ix_tt one v (by rw [hone.1.len]; exact hv))) (ix_tt two _ (by rw [htwo.1.len]; exact at0_lt hone.1 hv))⟩) rfl ?_
    refine setE (ρ2 := EE (some (.list (ns.map PyData.int))) (some p3) (some (gD n A)) (some (iD n)) (some (.list ((permL n).map tD))) (some (.list (cl.map (gE n)))) (some (.list (T.map tD))) (some (.list (T.map tD))) (some (tD (comp n two one))) (some (tD (inv n one))) none none none none (some (tD one)) (some (tD two)) none none none none none none) (tup_lc (n := n) (by omega) (fun v => one.idxOf v) (bind1 (d := iD n) rfl (rng1_eq n (by omega))) (setN 21) fun v hv => ⟨_, rfl, f2_ok (d := tD one) (d' := iD v) rfl rfl (index_ok hone.1 hv)⟩) rfl ?_
    refine ifE (or_ff (test_ok (f2_ok (d := tD (comp n two one)) (d' := .list (T.map tD)) rfl rfl (by rw [notin_t, decide_eq_true hboth]; rfl))) (or_ff (test_ok (f2_ok (d := tD (inv n one)) (d' := .list (T.map tD)) rfl rfl (by rw [notin_t, decide_eq_true hback]; rfl))) (test_ok (f2_ok (d := tD (idn n)) (d' := .list (T.map tD)) (f1_ok (d := iD n) rfl (tupRg_ok n (by omega))) rfl (by rw [notin_t, decide_eq_true idT]; rfl))))) ?_
    refine xsetE (ρ2 := EE (some (.list (ns.map PyData.int))) (some p4) (some (gD n A)) (some (iD n)) (some (.list ((permL n).map tD))) (some (.list (cl.map (gE n)))) (some (.list (T.map tD))) (some (.list (T.map tD))) (some (tD (comp n two one))) (some (tD (inv n one))) (some (tD t)) none none none (some (tD one)) (some (tD two)) none none none none none none) (x2_ok (xp_ok (d := .list ((permL n).map tD)) rfl) (xdraw rfl (call1 (d := .list ((permL n).map tD)) rfl (len_l tD _)) d3) (z := tD t) (by rw [et]; exact ix_l tD (permL n) r3 l3)) rfl ?_
    refine setE (ρ2 := EE (some (.list (ns.map PyData.int))) (some p4) (some (gD n A)) (some (iD n)) (some (.list ((permL n).map tD))) (some (.list (cl.map (gE n)))) (some (.list (T.map tD))) (some (.list (T.map tD))) (some (tD (comp n two one))) (some (tD (inv n one))) (some (tD t)) (some (gD n (ren n A t))) none none (some (tD one)) (some (tD two)) none none none none none none) (call2 (d := gD n A) (d' := tD t) rfl rfl (ev_renamed n1 (by omega) g ht)) rfl ?_
    refine ifE (or_ff (test_ok (f2_ok (d := gD n (ren n A t)) rfl (call2 (d := gD n A) (d' := tD t) rfl rfl (ev_lrenamed (by omega) g ht)) (ne_g n _))) (or_ff (test_ok (f2_ok (call1 (d := gD n (ren n A t)) rfl (ev_canon n1 n5 gB ecl cso fun y => by rw [cm']; exact (orbit_same g (permL_all n) ht y).symm)) (f2_ok (d := .list (cl.map (gE n))) (d' := iD 0) rfl rfl (r := some (gE n c)) (by
      rw [ix_l (gE n) cl 0 (by rw [ecl]; simp)]
      simp [ecl])) (ne_g n c))) (test_ok (f2_ok (call1 (call1 (d := gD n (ren n A t)) rfl esB) (len_l tD TB)) (call1 (d := .list (T.map tD)) rfl (len_l tD T)) (by rw [ne_i, decide_eq_true tblen]; rfl))))) ?_
    refine setE (ρ2 := EE (some (.list (ns.map PyData.int))) (some p4) (some (gD n A)) (some (iD n)) (some (.list ((permL n).map tD))) (some (.list (cl.map (gE n)))) (some (.list (T.map tD))) (some (.list (T.map tD))) (some (tD (comp n two one))) (some (tD (inv n one))) (some (tD t)) (some (gD n (ren n A t))) (some (.list ((T.map (conj n t)).map tD))) none (some (tD one)) (some (tD two)) none none none none none none) (f1_ok (d := .list ((T.map (conj n t)).map tD)) ?_ rfl) rfl ?_
    · rw [List.map_map]
      refine fLc_map tD (tD ∘ conj n t) T rfl (by omega) fun s hs => ⟨_, rfl, ?_⟩
      have ps := ((tP s).mp hs).1
      exact tup_lc (n := n) (by omega) (fun v => at0 t (at0 s (t.idxOf v))) (bind1 (d := iD n) rfl (rng1_eq n (by omega))) (setN 21) fun v hv => ⟨_, rfl, f2_ok (d := tD t) rfl (f2_ok (d := tD s) rfl (f2_ok (d := tD t) (d' := iD v) rfl rfl (index_ok ht hv)) (ix_tt s _ (by rw [ps.len]; exact idxOf_lt' ht hv))) (ix_tt t _ (by rw [ht.len]; exact at0_lt ps (idxOf_lt' ht hv)))⟩
    refine ifE (test_ok (f2_ok (call1 (d := .list ((T.map (conj n t)).map tD)) rfl (sorted_perms cpm tblx tbne (by rw [List.length_map]; omega))) (call1 (d := gD n (ren n A t)) rfl esB) (ne_ts TB))) ?_
    refine seqE (ρ' := EE (some (.list (ns.map PyData.int))) (some p4) (some (gD n A)) (some (iD n)) (some (.list ((permL n).map tD))) (some (.list (cl.map (gE n)))) (some (.list (T.map tD))) (some (.list (T.map tD))) (some (tD (comp n two one))) (some (tD (inv n one))) (some (tD t)) (some (gD n (ren n A t))) (some (.list ((T.map (conj n t)).map tD))) none (some (tD one)) (some (tD two)) (some (.list (R.map rD))) (some (.list (Q.map rD))) none none none none) (par_ok (f1_ok (call1 (d := gD n A) rfl eR) rfl) (f1_ok (call1 (d := gD n (ren n A t)) rfl eQ) rfl)) ?_
    refine ifE (or_ff (test_ok (f2_ok (call1 (d := .list (R.map rD)) rfl (len_l rD R)) (call1 (d := .list (Q.map rD)) rfl (len_l rD Q)) (by rw [ne_i, decide_eq_true rq]; rfl))) (test_ok (f2_ok (d := rD (degs n A)) (d' := rD (degs n A)) (f2_ok (d := .list (R.map rD)) (d' := iD 0) rfl rfl ?_) ?_ (ne_row _)))) ?_
    · have hf := hR.first
      obtain ⟨l0, e0'⟩ := List.getElem?_eq_some_iff.mp hf
      rw [ix_l rD R 0 l0, e0']
    · have edeg : rD (degs n A) = .list ((List.range n).map (iD ∘ deg n A)) := by
        unfold degs
        exact congrArg PyData.list (List.map_map ..)
      rw [edeg]
      refine fLc_map iD (iD ∘ deg n A) (List.range n) (bind1 (d := iD n) rfl (rng1_eq n (by omega))) (by simp; omega) fun v hv => ⟨_, rfl, ?_⟩
      refine call1 (call2 (d := gD n A) (d' := iD v) rfl rfl (ev_near (by omega) g (List.mem_range.mp hv))) ?_
      rw [len_l, nb_deg]
      rfl
    have loop := loop_inv (st := setN 13) (F := (fSeq (fPar 18 19 (fCons (f2 dIx (fVar 16) (fVar 13)) (fCons (f2 dIx (fVar 17) (fVar 13)) fNil)))
       (fFor (fItems (fCall m__law_pairs (fCons (fVar 3) fNil))) (setTup (setCons (setN 20) (setCons (setN 21) setNil))) lawIn))) iD (fun _ ρ => ∃ a b c d e, ρ = EE (some (.list (ns.map PyData.int))) (some p4) (some (gD n A)) (some (iD n)) (some (.list ((permL n).map tD))) (some (.list (cl.map (gE n)))) (some (.list (T.map tD))) (some (.list (T.map tD))) (some (tD (comp n two one))) (some (tD (inv n one))) (some (tD t)) (some (gD n (ren n A t))) (some (.list ((T.map (conj n t)).map tD))) a (some (tD one)) (some (tD two)) (some (.list (R.map rD))) (some (.list (Q.map rD))) b c d e) (List.range R.length) [] (EE (some (.list (ns.map PyData.int))) (some p4) (some (gD n A)) (some (iD n)) (some (.list ((permL n).map tD))) (some (.list (cl.map (gE n)))) (some (.list (T.map tD))) (some (.list (T.map tD))) (some (tD (comp n two one))) (some (tD (inv n one))) (some (tD t)) (some (gD n (ren n A t))) (some (.list ((T.map (conj n t)).map tD))) none (some (tD one)) (some (tD two)) (some (.list (R.map rD))) (some (.list (Q.map rD))) none none none none) ⟨none, none, none, none, none, rfl⟩ ?_
    · obtain ⟨ρ', q1, a, b, c', d, e, rfl⟩ := loop
      refine seqE (ρ' := EE (some (.list (ns.map PyData.int))) (some p4) (some (gD n A)) (some (iD n)) (some (.list ((permL n).map tD))) (some (.list (cl.map (gE n)))) (some (.list (T.map tD))) (some (.list (T.map tD))) (some (tD (comp n two one))) (some (tD (inv n one))) (some (tD t)) (some (gD n (ren n A t))) (some (.list ((T.map (conj n t)).map tD))) a (some (tD one)) (some (tD two)) (some (.list (R.map rD))) (some (.list (Q.map rD))) b c' d e) ?_ retE
      show (((fCons (fCall dLenS (fCons (fVar 16) fNil)) fNil) _).bind rng1).bind _ = _
      rw [bind1 (call1 (d := .list (R.map rD)) rfl (len_l rD R)) (rng1_eq _ (by omega)), Option.bind_some]
      exact q1
    · rintro dn k rs ρ ed ⟨a, b, c', d, e, rfl⟩
      have hk : k < R.length := by
        have : k ∈ List.range R.length := by
          have : List.range R.length = dn ++ k :: rs := by simpa using ed
          rw [this]; simp
        exact List.mem_range.mp this
      have hk2 : k < Q.length := by omega
      have rk := List.getElem?_eq_getElem hk
      have qk := List.getElem?_eq_getElem hk2
      have al := rows_al ht iB hR hQ k _ _ rk qk
      have kept := rows_kept hR k _ rk
      have rl := hR.len k _ rk
      have ql := hQ.len k _ qk
      obtain ⟨row, erow⟩ : ∃ x, x = R[k] := ⟨_, rfl⟩
      obtain ⟨turn, eturn⟩ : ∃ x, x = Q[k] := ⟨_, rfl⟩
      rw [← erow] at al kept rl
      rw [← eturn] at al ql
      have inner := loop_inv (st := setTup (setCons (setN 20) (setCons (setN 21) setNil))) (F := lawIn) pD (fun _ ρ => ∃ d e, ρ = EE (some (.list (ns.map PyData.int))) (some p4) (some (gD n A)) (some (iD n)) (some (.list ((permL n).map tD))) (some (.list (cl.map (gE n)))) (some (.list (T.map tD))) (some (.list (T.map tD))) (some (tD (comp n two one))) (some (tD (inv n one))) (some (tD t)) (some (gD n (ren n A t))) (some (.list ((T.map (conj n t)).map tD))) (some (iD k)) (some (tD one)) (some (tD two)) (some (.list (R.map rD))) (some (.list (Q.map rD))) (some (rD row)) (some (rD turn)) d e) (prs n) [] (EE (some (.list (ns.map PyData.int))) (some p4) (some (gD n A)) (some (iD n)) (some (.list ((permL n).map tD))) (some (.list (cl.map (gE n)))) (some (.list (T.map tD))) (some (.list (T.map tD))) (some (tD (comp n two one))) (some (tD (inv n one))) (some (tD t)) (some (gD n (ren n A t))) (some (.list ((T.map (conj n t)).map tD))) (some (iD k)) (some (tD one)) (some (tD two)) (some (.list (R.map rD))) (some (.list (Q.map rD))) (some (rD row)) (some (rD turn)) d e) ⟨d, e, rfl⟩ ?_
      · obtain ⟨ρ', q1, d', e', rfl⟩ := inner
        refine ⟨EE (some (.list (ns.map PyData.int))) (some p4) (some (gD n A)) (some (iD n)) (some (.list ((permL n).map tD))) (some (.list (cl.map (gE n)))) (some (.list (T.map tD))) (some (.list (T.map tD))) (some (tD (comp n two one))) (some (tD (inv n one))) (some (tD t)) (some (gD n (ren n A t))) (some (.list ((T.map (conj n t)).map tD))) (some (iD k)) (some (tD one)) (some (tD two)) (some (.list (R.map rD))) (some (.list (Q.map rD))) b c' d e, EE (some (.list (ns.map PyData.int))) (some p4) (some (gD n A)) (some (iD n)) (some (.list ((permL n).map tD))) (some (.list (cl.map (gE n)))) (some (.list (T.map tD))) (some (.list (T.map tD))) (some (tD (comp n two one))) (some (tD (inv n one))) (some (tD t)) (some (gD n (ren n A t))) (some (.list ((T.map (conj n t)).map tD))) (some (iD k)) (some (tD one)) (some (tD two)) (some (.list (R.map rD))) (some (.list (Q.map rD))) (some (rD row)) (some (rD turn)) d' e', rfl, seq_nx (ρ' := EE (some (.list (ns.map PyData.int))) (some p4) (some (gD n A)) (some (iD n)) (some (.list ((permL n).map tD))) (some (.list (cl.map (gE n)))) (some (.list (T.map tD))) (some (.list (T.map tD))) (some (tD (comp n two one))) (some (tD (inv n one))) (some (tD t)) (some (gD n (ren n A t))) (some (.list ((T.map (conj n t)).map tD))) (some (iD k)) (some (tD one)) (some (tD two)) (some (.list (R.map rD))) (some (.list (Q.map rD))) (some (rD row)) (some (rD turn)) d e) (par_ok (f2_ok (d := .list (R.map rD)) (d' := iD k) rfl rfl (by rw [erow]; exact ix_l rD R k hk)) (f2_ok (d := .list (Q.map rD)) (d' := iD k) rfl rfl (by rw [eturn]; exact ix_l rD Q k hk2))) ?_, _, _, _, _, _, rfl⟩
        unfold fFor fItems
        rw [call1 (d := iD n) rfl (ev_pairs n1 n5)]
        exact q1
      · rintro dn2 ⟨u, v⟩ rs2 ρ ed2 ⟨d', e', rfl⟩
        have huv : u < v ∧ v < n := by
          have : (u, v) ∈ prs n := by
            have : prs n = dn2 ++ (u, v) :: rs2 := by simpa using ed2
            rw [this]; simp
          exact mem_prs.mp this
        have hu : u < n := by omega
        have hv := huv.2
        have xu : dIx (rD row) (iD u) = some (iD (at0 row u)) := ix_t row u (by omega)
        have xv : dIx (rD row) (iD v) = some (iD (at0 row v)) := ix_t row v (by omega)
        have xt : ∀ w, w < n → dIx (tD t) (iD w) = some (iD (at0 t w)) := fun w hw => ix_tt t w (by rw [ht.len]; exact hw)
        have xq : ∀ w, w < n → dIx (rD turn) (iD (at0 t w)) = some (iD (at0 turn (at0 t w))) := fun w hw => ix_t turn _ (by rw [ql]; exact at0_lt ht hw)
        have alE : decide (at0 row u = at0 row v) = decide (at0 turn (at0 t u) = at0 turn (at0 t v)) := by
          rw [decide_eq_decide]; exact al u v hu hv
        refine ⟨EE (some (.list (ns.map PyData.int))) (some p4) (some (gD n A)) (some (iD n)) (some (.list ((permL n).map tD))) (some (.list (cl.map (gE n)))) (some (.list (T.map tD))) (some (.list (T.map tD))) (some (tD (comp n two one))) (some (tD (inv n one))) (some (tD t)) (some (gD n (ren n A t))) (some (.list ((T.map (conj n t)).map tD))) (some (iD k)) (some (tD one)) (some (tD two)) (some (.list (R.map rD))) (some (.list (Q.map rD))) (some (rD row)) (some (rD turn)) (some (iD u)) (some (iD v)), EE (some (.list (ns.map PyData.int))) (some p4) (some (gD n A)) (some (iD n)) (some (.list ((permL n).map tD))) (some (.list (cl.map (gE n)))) (some (.list (T.map tD))) (some (.list (T.map tD))) (some (tD (comp n two one))) (some (tD (inv n one))) (some (tD t)) (some (gD n (ren n A t))) (some (.list ((T.map (conj n t)).map tD))) (some (iD k)) (some (tD one)) (some (tD two)) (some (.list (R.map rD))) (some (.list (Q.map rD))) (some (rD row)) (some (rD turn)) (some (iD u)) (some (iD v)), rfl, ?_, _, _, rfl⟩
        refine if_seq (test_ok (f2_ok (f2_ok (f2_ok (d := rD row) (d' := iD u) rfl rfl xu) (f2_ok (d := rD row) (d' := iD v) rfl rfl xv) (eq_i _ _)) (f2_ok (f2_ok (d := rD turn) rfl (f2_ok (d := tD t) (d' := iD u) rfl rfl (xt u hu)) (xq u hu)) (f2_ok (d := rD turn) rfl (f2_ok (d := tD t) (d' := iD v) rfl rfl (xt v hv)) (xq v hv)) (eq_i _ _)) (by rw [neb, alE]; simp))) (if_nx ?_)
        have lc : fLc (fItems (fVar 7)) (setN 14) (fTest (f2 dEq (f2 dIx (fVar 14) (fVar 20)) (fVar 21))) (fVar 14) [14] (EE (some (.list (ns.map PyData.int))) (some p4) (some (gD n A)) (some (iD n)) (some (.list ((permL n).map tD))) (some (.list (cl.map (gE n)))) (some (.list (T.map tD))) (some (.list (T.map tD))) (some (tD (comp n two one))) (some (tD (inv n one))) (some (tD t)) (some (gD n (ren n A t))) (some (.list ((T.map (conj n t)).map tD))) (some (iD k)) (some (tD one)) (some (tD two)) (some (.list (R.map rD))) (some (.list (Q.map rD))) (some (rD row)) (some (rD turn)) (some (iD u)) (some (iD v))) = some (.list ((T.filter fun s => decide (at0 s u = v)).map tD)) :=
          fLc_eq tD (fun s => decide (at0 s u = v)) tD T rfl (by omega) fun s hs => ⟨_, rfl, test_ok (f2_ok (f2_ok (d := tD s) (d' := iD u) rfl rfl (ix_tt s u (by rw [((tP s).mp hs).1.len]; exact hu))) (d' := iD v) rfl (eq_i _ _)), fun _ => rfl⟩
        have gt : fTest (f2 dGt (fCall dLenS (fCons (fLc (fItems (fVar 7)) (setN 14) (fTest (f2 dEq (f2 dIx (fVar 14) (fVar 20)) (fVar 21))) (fVar 14) [14]) fNil)) (fC (.int 0))) (EE (some (.list (ns.map PyData.int))) (some p4) (some (gD n A)) (some (iD n)) (some (.list ((permL n).map tD))) (some (.list (cl.map (gE n)))) (some (.list (T.map tD))) (some (.list (T.map tD))) (some (tD (comp n two one))) (some (tD (inv n one))) (some (tD t)) (some (gD n (ren n A t))) (some (.list ((T.map (conj n t)).map tD))) (some (iD k)) (some (tD one)) (some (tD two)) (some (.list (R.map rD))) (some (.list (Q.map rD))) (some (rD row)) (some (rD turn)) (some (iD u)) (some (iD v))) = some (decide ((0 : Int) < ((T.filter fun s => decide (at0 s u = v)).length : Int))) :=
          test_ok (f2_ok (call1 lc (len_l tD _)) (d' := iD 0) rfl rfl)
        have nq : fTest (f2 dNe (f2 dIx (fVar 18) (fVar 20)) (f2 dIx (fVar 18) (fVar 21))) (EE (some (.list (ns.map PyData.int))) (some p4) (some (gD n A)) (some (iD n)) (some (.list ((permL n).map tD))) (some (.list (cl.map (gE n)))) (some (.list (T.map tD))) (some (.list (T.map tD))) (some (tD (comp n two one))) (some (tD (inv n one))) (some (tD t)) (some (gD n (ren n A t))) (some (.list ((T.map (conj n t)).map tD))) (some (iD k)) (some (tD one)) (some (tD two)) (some (.list (R.map rD))) (some (.list (Q.map rD))) (some (rD row)) (some (rD turn)) (some (iD u)) (some (iD v))) = some (!decide (at0 row u = at0 row v)) :=
          test_ok (f2_ok (f2_ok (d := rD row) (d' := iD u) rfl rfl xu) (f2_ok (d := rD row) (d' := iD v) rfl rfl xv) (ne_i _ _))
        unfold fAnd
        rw [gt, Option.bind_some]
        by_cases z : (0 : Int) < ((T.filter fun s => decide (at0 s u = v)).length : Int)
        · rw [decide_eq_true z, if_pos rfl, nq]
          obtain ⟨s, hs⟩ := List.exists_mem_of_length_pos (show 0 < (T.filter fun s => decide (at0 s u = v)).length by omega)
          rw [List.mem_filter, decide_eq_true_eq] at hs
          have ps := (tP s).mp hs.1
          have := kept s ps.1 ps.2 u hu
          rw [hs.2] at this
          rw [decide_eq_true this.symm]; rfl
        · rw [decide_eq_false z, if_neg Bool.false_ne_true]
end K53

namespace K53
open PySem PySem.Spec PyProof.Rows L2 Mx
/-! ### the head -/
abbrev R : PySem.W.OpenRow := PySem.W.OpenLaw.row PySem.Challenge.rw_trellis_k53_whole_symmetries_and_copies
abbrev hk : PySem.W.Hook := He.hookD 4 fa fn
def ob (s : PySem.W.SharedT) : He.AlD := He.obsDG 4 fa fn (HandSHeadRun.getT s)
theorem ob_eq (s : PySem.W.SharedT) : ob s = hk.obs s.abs := He.obsDG_eq (HandSHeadRun.getT_eq s)
def loose : List PySem.Str := ["TrellisError", "BadGraph", "MOST_VERTICES", "pair_of", "made_graph", "are_neighbours", "neighbours", "renamed", "first_places", "rounds_of_degrees", "fits", "pairings", "symmetries", "all_orders", "canonical", "_law_pool", "_law_spread", "_law_draw", "_law_same", "_law_made", "_law_graph", "_law_are", "_law_near", "_law_pairs", "_law_renamed", "_law_orders"]
theorem run (w : World) : HandSHeadRun.RunEq R (PySem.W.view R.prog [30]) hk ob 3000 loose w := by
  intro os
  kernel_rfl
theorem known {P : Program} {w : World} {K : PySem.W.Frag} {h : Heap} {mg : Str → Option Value} {f : Addr} (Xk : K.In h) (G : h.Ns mainGlobals mg) (ef : mg ("law" : Str) = some (.ref f)) (c : He.SaysD fa fn K) :
    ∃ fd : FuncData, (∀ (s : Shared) (v : Value), BindsTo s fd ⟨[v], []⟩ [("script", v)]) ∧ ∀ base : Heap, K.In base → base.Ns mainGlobals mg → FnOk P w K mg base CX0 15 f fd ["script"] (spW K m_law) := by
  obtain ⟨fd, F⟩ := c.def_ 23 (d := d_law) rfl
  have e := ef.symm.trans (He.glo_ok Xk G (c.fact 23 (f := .glo "law") rfl))
  cases e
  have b := FunD.bindsA (ps := ["script"]) F fun _ _ _ _ _ _ us hl => match us, hl with | [_], _ => rfl
  exact ⟨fd, fun s v => b s [v] rfl, fun base _ _ => ok_law Xk G c F⟩
end K53
open PySem PySem.W PySem.Calls PyProof.Rows
theorem PySem.Challenge.cw_trellis_k53_whole_symmetries_and_copies_holds : PySem.Challenge.rw_trellis_k53_whole_symmetries_and_copies.Holds := by
  w_on; o_law
  refine HandSHeadRun.head_any (r := OpenLaw.row PySem.Challenge.rw_trellis_k53_whole_symmetries_and_copies) (q := view (OpenLaw.row PySem.Challenge.rw_trellis_k53_whole_symmetries_and_copies).prog [30]) (H := K53.hk) (ob := K53.ob) (M := 3000) (loose := K53.loose) (d := HandSHeadRun.topDef (OpenLaw.row PySem.Challenge.rw_trellis_k53_whole_symmetries_and_copies).prog 30) (kwd := []) K53.ob_eq
    (by kernel_rfl) (fun s => by kernel_rfl) K53.run (by kernel_rfl) (by kernel_rfl) (by kernel_rfl) (by rfl) (by first | assumption | decide +kernel) (by decide +kernel) ⟨rfl, rfl, rfl, rfl, rfl, by decide +kernel⟩ ?hw ?hc
  case hw => w_witness2
  case hc =>
    refine L2.walk_ofE (l := PySem.Challenge.rw_trellis_k53_whole_symmetries_and_copies) (n := 63) (k := 15) (x := "script") (CX := L2.CX0) rfl (by decide) (by kernel_rfl) ⟨rfl, by decide, by decide⟩ ?F (fun _ _ _ _ z => z)
    intro w mg fa h Y G hmg0
    obtain ⟨K, KX, c⟩ := Y
    have hmg : mg ("law" : PySem.Str) = some (.ref fa) := by
      have e : (HandSHeadRun.topDef (OpenLaw.row PySem.Challenge.rw_trellis_k53_whole_symmetries_and_copies).prog 30).name = ("law" : PySem.Str) := by kernel_rfl
      rw [← e]
      exact hmg0
    obtain ⟨fd, hb, hF⟩ := K53.known (P := (PySem.Challenge.rw_trellis_k53_whole_symmetries_and_copies).prog) (w := w) KX G hmg c
    exact ⟨K, fd, Mx.spW K K53.m_law, KX, hb, fun H a ns hl _ hS => ⟨a, ns, rfl, hS, K53.plain ns hl, fun _ => rfl⟩, hF⟩
